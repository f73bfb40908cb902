import Derived.Test.YtbanblghepekdaaI10
import Derived.Test.YtbanblghepekdaaL0
namespace Go.Proofs.Ytbanblghepekdaa
open Go Go.Ah
set_option linter.unusedSimpArgs false
set_option linter.unusedVariables false
set_option maxRecDepth 10000
set_option maxHeartbeats 4000000
/-! 4 loop.example/g00066/laws.FnExactRelink: parameters 4, live [0, 1, 2, 3], slots [0:aTrack, 1:aOld, 2:aNew, 3:aBy, 4:aTrack, 5:aOld, 6:aNew, 7:aBy, 9:left, 10:w0, 11:w1, 12:x0, 13:g0, 14:g1, 15:k, 16:m, 17:q, 18:h0, 19:h1] -/
def c4_0 : List SOper := [⟨some 8, .q (.mv (.c (.bool false))), none⟩]
def c4_1 : List SOper := [⟨some 9, .q (.mv (.c (.int .i64 1048576))), none⟩]
def c4_2 : List SOper := [⟨some 20, .q (.mv (.t 0)), none⟩, ⟨some 21, .q (.mv (.t 9)), none⟩, ⟨some 22, .e (.call 14 [(.t 20), (.t 21)]), none⟩, ⟨some 9, .q (.mv (.t 22)), none⟩]
def c4_3 : List SOper := [⟨some 23, .q (.mv (.t 9)), none⟩, ⟨some 24, .q (.bin .lss (.t 23) (.c (.int .i64 0))), none⟩]
def c4_4 : List SOper := [⟨some 8, .q (.mv (.c (.bool true))), none⟩]
def c4_5 : SCode := .seq (.region c4_4 [8]) .ret
def c4_6 : SCode := .cond (.t 24) c4_5 .skip
def c4_7 : SCode := .seq (.region c4_3 [0, 1, 2, 3, 24]) c4_6
def c4_8 : List SOper := [⟨some 26, .q (.mv (.t 0)), none⟩, ⟨some 27, .e (.call 16 [(.t 26)]), none⟩, ⟨some 28, .q (.mv (.t 1)), none⟩, ⟨some 29, .q (.mv (.t 2)), none⟩, ⟨some 30, .q (.mv (.t 3)), none⟩, ⟨some 31, .e (.call 21 [(.t 27), (.t 28), (.t 29), (.t 30)]), none⟩, ⟨some 25, .q (.mv (.t 31)), none⟩, ⟨some 32, .q (.ext (.t 25) 0), none⟩, ⟨some 33, .q (.ext (.t 25) 1), none⟩, ⟨some 10, .q (.mv (.t 32)), none⟩, ⟨some 11, .q (.mv (.t 33)), none⟩]
def c4_9 : List SOper := [⟨some 34, .q (.mv (.t 0)), none⟩, ⟨some 35, .e (.call 16 [(.t 34)]), none⟩, ⟨some 12, .q (.mv (.t 35)), none⟩]
def c4_10 : List SOper := [⟨some 37, .q (.mv (.t 12)), none⟩, ⟨some 38, .q (.mv (.t 1)), none⟩, ⟨some 39, .q (.mv (.t 2)), none⟩, ⟨some 40, .q (.mv (.t 3)), none⟩, ⟨some 41, .e (.call 22 [(.t 37), (.t 38), (.t 39), (.t 40)]), none⟩, ⟨some 36, .q (.mv (.t 41)), none⟩, ⟨some 42, .q (.ext (.t 36) 0), none⟩, ⟨some 43, .q (.ext (.t 36) 1), none⟩, ⟨some 13, .q (.mv (.t 42)), none⟩, ⟨some 14, .q (.mv (.t 43)), none⟩]
def c4_11 : List SOper := [⟨some 44, .q (.mv (.t 13)), none⟩, ⟨some 45, .q (.mv (.t 10)), none⟩, ⟨some 46, .e (.call 18 [(.t 44), (.t 45)]), none⟩, ⟨some 47, .q (.not (.t 46)), none⟩, ⟨some 48, .q (.mv (.t 47)), none⟩, ⟨some 49, .q (.mv (.t 14)), some (48, false)⟩, ⟨some 50, .q (.mv (.t 11)), some (48, false)⟩, ⟨some 51, .q (.eqb true (.t 49) (.t 50)), some (48, false)⟩, ⟨some 52, .q (.pick (.t 48) (.c (.bool true)) (.t 51)), none⟩]
def c4_12 : List SOper := [⟨some 8, .q (.mv (.c (.bool false))), none⟩]
def c4_13 : SCode := .seq (.region c4_12 [8]) .ret
def c4_14 : SCode := .cond (.t 52) c4_13 .skip
def c4_15 : SCode := .seq (.region c4_11 [0, 1, 2, 3, 10, 11, 12, 13, 14, 52]) c4_14
def c4_16 : List SOper := [⟨some 53, .q (.mv (.t 12)), none⟩, ⟨some 54, .q (.mv (.t 0)), none⟩, ⟨some 55, .e (.call 16 [(.t 54)]), none⟩, ⟨some 56, .e (.call 18 [(.t 53), (.t 55)]), none⟩, ⟨some 57, .q (.not (.t 56)), none⟩]
def c4_17 : List SOper := [⟨some 8, .q (.mv (.c (.bool false))), none⟩]
def c4_18 : SCode := .seq (.region c4_17 [8]) .ret
def c4_19 : SCode := .cond (.t 57) c4_18 .skip
def c4_20 : SCode := .seq (.region c4_16 [0, 1, 2, 3, 10, 11, 12, 13, 14, 57]) c4_19
def c4_21 : List SOper := [⟨some 15, .q (.mv (.c (.int .i64 1))), none⟩]
def c4_22 : List SOper := [⟨some 58, .q (.mv (.t 12)), none⟩, ⟨some 59, .q (.mv (.t 15)), none⟩, ⟨some 60, .e (.call 19 [(.t 58), (.t 59)]), none⟩, ⟨some 15, .q (.mv (.t 60)), none⟩]
def c4_23 : List SOper := [⟨some 61, .q (.mv (.t 15)), none⟩, ⟨some 62, .q (.bin .lss (.t 61) (.c (.int .i64 0))), none⟩, ⟨some 63, .q (.mv (.t 62)), none⟩, ⟨some 64, .q (.mv (.t 13)), some (63, false)⟩, ⟨some 65, .q (.mv (.t 10)), some (63, false)⟩, ⟨some 66, .e (.call 18 [(.t 64), (.t 65)]), some (63, false)⟩, ⟨some 67, .q (.not (.t 66)), some (63, false)⟩, ⟨some 68, .q (.pick (.t 63) (.c (.bool true)) (.t 67)), none⟩, ⟨some 69, .q (.mv (.t 68)), none⟩, ⟨some 70, .q (.mv (.t 14)), some (69, false)⟩, ⟨some 71, .q (.mv (.t 11)), some (69, false)⟩, ⟨some 72, .q (.eqb true (.t 70) (.t 71)), some (69, false)⟩, ⟨some 73, .q (.pick (.t 69) (.c (.bool true)) (.t 72)), none⟩]
def c4_24 : List SOper := [⟨some 8, .q (.mv (.c (.bool false))), none⟩]
def c4_25 : SCode := .seq (.region c4_24 [8]) .ret
def c4_26 : SCode := .cond (.t 73) c4_25 .skip
def c4_27 : SCode := .seq (.region c4_23 [0, 1, 2, 3, 10, 11, 13, 73]) c4_26
def c4_28 : List SOper := [⟨some 16, .q (.mv (.c (.int .i64 1))), none⟩]
def c4_29 : List SOper := [⟨some 74, .q (.mv (.t 13)), none⟩, ⟨some 75, .q (.mv (.t 16)), none⟩, ⟨some 76, .e (.call 19 [(.t 74), (.t 75)]), none⟩, ⟨some 16, .q (.mv (.t 76)), none⟩]
def c4_30 : List SOper := [⟨some 17, .q (.mv (.c (.int .i64 1))), none⟩]
def c4_31 : List SOper := [⟨some 77, .q (.mv (.t 13)), none⟩, ⟨some 78, .q (.mv (.t 17)), none⟩, ⟨some 79, .e (.call 20 [(.t 77), (.t 78)]), none⟩, ⟨some 17, .q (.mv (.t 79)), none⟩]
def c4_32 : List SOper := [⟨some 80, .q (.mv (.t 17)), none⟩, ⟨some 81, .q (.bin .lss (.t 80) (.c (.int .i64 0))), none⟩]
def c4_33 : List SOper := [⟨some 8, .q (.mv (.c (.bool false))), none⟩]
def c4_34 : SCode := .seq (.region c4_33 [8]) .ret
def c4_35 : SCode := .cond (.t 81) c4_34 .skip
def c4_36 : SCode := .seq (.region c4_32 [0, 1, 2, 3, 10, 11, 13, 16, 17, 81]) c4_35
def c4_37 : List SOper := [⟨some 82, .q (.mv (.t 17)), none⟩, ⟨some 83, .q (.mv (.t 16)), none⟩, ⟨some 84, .q (.bin .neq (.t 82) (.t 83)), none⟩]
def c4_38 : List SOper := [⟨some 8, .q (.mv (.c (.bool false))), none⟩]
def c4_39 : SCode := .seq (.region c4_38 [8]) .ret
def c4_40 : SCode := .cond (.t 84) c4_39 .skip
def c4_41 : SCode := .seq (.region c4_37 [0, 1, 2, 3, 10, 11, 13, 16, 84]) c4_40
def c4_42 : List SOper := [⟨some 86, .q (.mv (.t 0)), none⟩, ⟨some 87, .e (.call 16 [(.t 86)]), none⟩, ⟨some 88, .q (.mv (.t 1)), none⟩, ⟨some 89, .q (.mv (.t 2)), none⟩, ⟨some 90, .q (.mv (.t 3)), none⟩, ⟨some 91, .e (.call 22 [(.t 87), (.t 88), (.t 89), (.t 90)]), none⟩, ⟨some 85, .q (.mv (.t 91)), none⟩, ⟨some 92, .q (.ext (.t 85) 0), none⟩, ⟨some 93, .q (.ext (.t 85) 1), none⟩, ⟨some 18, .q (.mv (.t 92)), none⟩, ⟨some 19, .q (.mv (.t 93)), none⟩]
def c4_43 : List SOper := [⟨some 94, .q (.mv (.t 18)), none⟩, ⟨some 95, .q (.mv (.t 10)), none⟩, ⟨some 96, .e (.call 18 [(.t 94), (.t 95)]), none⟩, ⟨some 97, .q (.not (.t 96)), none⟩, ⟨some 98, .q (.mv (.t 97)), none⟩, ⟨some 99, .q (.mv (.t 19)), some (98, false)⟩, ⟨some 100, .q (.mv (.t 11)), some (98, false)⟩, ⟨some 101, .q (.eqb true (.t 99) (.t 100)), some (98, false)⟩, ⟨some 102, .q (.pick (.t 98) (.c (.bool true)) (.t 101)), none⟩]
def c4_44 : List SOper := [⟨some 8, .q (.mv (.c (.bool false))), none⟩]
def c4_45 : SCode := .seq (.region c4_44 [8]) .ret
def c4_46 : SCode := .cond (.t 102) c4_45 .skip
def c4_47 : SCode := .seq (.region c4_43 [13, 16, 102]) c4_46
def c4_48 : List SOper := [⟨some 17, .q (.mv (.c (.int .i64 1))), none⟩]
def c4_49 : List SOper := [⟨some 103, .q (.mv (.t 13)), none⟩, ⟨some 104, .q (.mv (.t 17)), none⟩, ⟨some 105, .e (.call 20 [(.t 103), (.t 104)]), none⟩, ⟨some 17, .q (.mv (.t 105)), none⟩]
def c4_50 : List SOper := [⟨some 106, .q (.mv (.t 17)), none⟩, ⟨some 107, .q (.bin .lss (.t 106) (.c (.int .i64 0))), none⟩]
def c4_51 : List SOper := [⟨some 8, .q (.mv (.c (.bool false))), none⟩]
def c4_52 : SCode := .seq (.region c4_51 [8]) .ret
def c4_53 : SCode := .cond (.t 107) c4_52 .skip
def c4_54 : SCode := .seq (.region c4_50 [16, 17, 107]) c4_53
def c4_55 : List SOper := [⟨some 108, .q (.mv (.t 17)), none⟩, ⟨some 109, .q (.mv (.t 16)), none⟩, ⟨some 110, .q (.bin .neq (.t 108) (.t 109)), none⟩]
def c4_56 : List SOper := [⟨some 8, .q (.mv (.c (.bool false))), none⟩]
def c4_57 : SCode := .seq (.region c4_56 [8]) .ret
def c4_58 : SCode := .cond (.t 110) c4_57 .skip
def c4_59 : SCode := .seq (.region c4_55 [110]) c4_58
def c4_60 : List SOper := [⟨some 8, .q (.mv (.c (.bool true))), none⟩]
def c4_61 : SCode := .seq (.region c4_60 [8]) .ret
def c4_62 : SCode := .seq c4_59 c4_61
def c4_63 : SCode := .seq c4_54 c4_62
def c4_64 : SCode := .seq (.region c4_49 [16, 17]) c4_63
def c4_65 : SCode := .seq (.region c4_48 [13, 16, 17]) c4_64
def c4_66 : SCode := .seq c4_47 c4_65
def c4_67 : SCode := .seq (.region c4_42 [10, 11, 13, 16, 18, 19]) c4_66
def c4_68 : SCode := .seq c4_41 c4_67
def c4_69 : SCode := .seq c4_36 c4_68
def c4_70 : SCode := .seq (.region c4_31 [0, 1, 2, 3, 10, 11, 13, 16, 17]) c4_69
def c4_71 : SCode := .seq (.region c4_30 [0, 1, 2, 3, 10, 11, 13, 16, 17]) c4_70
def c4_72 : SCode := .seq (.region c4_29 [0, 1, 2, 3, 10, 11, 13, 16]) c4_71
def c4_73 : SCode := .seq (.region c4_28 [0, 1, 2, 3, 10, 11, 13, 16]) c4_72
def c4_74 : SCode := .seq c4_27 c4_73
def c4_75 : SCode := .seq (.region c4_22 [0, 1, 2, 3, 10, 11, 13, 14, 15]) c4_74
def c4_76 : SCode := .seq (.region c4_21 [0, 1, 2, 3, 10, 11, 12, 13, 14, 15]) c4_75
def c4_77 : SCode := .seq c4_20 c4_76
def c4_78 : SCode := .seq c4_15 c4_77
def c4_79 : SCode := .seq (.region c4_10 [0, 1, 2, 3, 10, 11, 12, 13, 14]) c4_78
def c4_80 : SCode := .seq (.region c4_9 [0, 1, 2, 3, 10, 11, 12]) c4_79
def c4_81 : SCode := .seq (.region c4_8 [0, 1, 2, 3, 10, 11]) c4_80
def c4_82 : SCode := .seq c4_7 c4_81
def c4_83 : SCode := .seq (.region c4_2 [0, 1, 2, 3, 9]) c4_82
def c4_84 : SCode := .seq (.region c4_1 [0, 1, 2, 3, 9]) c4_83
def c4_85 : SCode := .seq (.region c4_0 [0, 1, 2, 3]) c4_84
def c4 : SCode := c4_85
theorem w4 : type_of% (And.intro (uR Try.prog c4_0.eq_1) (And.intro (uR Try.prog c4_1.eq_1) (And.intro (uR Try.prog c4_2.eq_1) (And.intro (uR Try.prog c4_3.eq_1) (And.intro (uR Try.prog c4_4.eq_1) (And.intro (uC Try.prog c4_5.eq_1) (And.intro (uC Try.prog c4_6.eq_1) (And.intro (uC Try.prog c4_7.eq_1) (And.intro (uR Try.prog c4_8.eq_1) (And.intro (uR Try.prog c4_9.eq_1) (And.intro (uR Try.prog c4_10.eq_1) (And.intro (uR Try.prog c4_11.eq_1) (And.intro (uR Try.prog c4_12.eq_1) (And.intro (uC Try.prog c4_13.eq_1) (And.intro (uC Try.prog c4_14.eq_1) (And.intro (uC Try.prog c4_15.eq_1) (And.intro (uR Try.prog c4_16.eq_1) (And.intro (uR Try.prog c4_17.eq_1) (And.intro (uC Try.prog c4_18.eq_1) (And.intro (uC Try.prog c4_19.eq_1) (And.intro (uC Try.prog c4_20.eq_1) (And.intro (uR Try.prog c4_21.eq_1) (And.intro (uR Try.prog c4_22.eq_1) (And.intro (uR Try.prog c4_23.eq_1) (And.intro (uR Try.prog c4_24.eq_1) (And.intro (uC Try.prog c4_25.eq_1) (And.intro (uC Try.prog c4_26.eq_1) (And.intro (uC Try.prog c4_27.eq_1) (And.intro (uR Try.prog c4_28.eq_1) (And.intro (uR Try.prog c4_29.eq_1) (And.intro (uR Try.prog c4_30.eq_1) (And.intro (uR Try.prog c4_31.eq_1) (And.intro (uR Try.prog c4_32.eq_1) (And.intro (uR Try.prog c4_33.eq_1) (And.intro (uC Try.prog c4_34.eq_1) (And.intro (uC Try.prog c4_35.eq_1) (And.intro (uC Try.prog c4_36.eq_1) (And.intro (uR Try.prog c4_37.eq_1) (And.intro (uR Try.prog c4_38.eq_1) (And.intro (uC Try.prog c4_39.eq_1) (And.intro (uC Try.prog c4_40.eq_1) (And.intro (uC Try.prog c4_41.eq_1) (And.intro (uR Try.prog c4_42.eq_1) (And.intro (uR Try.prog c4_43.eq_1) (And.intro (uR Try.prog c4_44.eq_1) (And.intro (uC Try.prog c4_45.eq_1) (And.intro (uC Try.prog c4_46.eq_1) (And.intro (uC Try.prog c4_47.eq_1) (And.intro (uR Try.prog c4_48.eq_1) (And.intro (uR Try.prog c4_49.eq_1) (And.intro (uR Try.prog c4_50.eq_1) (And.intro (uR Try.prog c4_51.eq_1) (And.intro (uC Try.prog c4_52.eq_1) (And.intro (uC Try.prog c4_53.eq_1) (And.intro (uC Try.prog c4_54.eq_1) (And.intro (uR Try.prog c4_55.eq_1) (And.intro (uR Try.prog c4_56.eq_1) (And.intro (uC Try.prog c4_57.eq_1) (And.intro (uC Try.prog c4_58.eq_1) (And.intro (uC Try.prog c4_59.eq_1) (And.intro (uR Try.prog c4_60.eq_1) (And.intro (uC Try.prog c4_61.eq_1) (And.intro (uC Try.prog c4_62.eq_1) (And.intro (uC Try.prog c4_63.eq_1) (And.intro (uC Try.prog c4_64.eq_1) (And.intro (uC Try.prog c4_65.eq_1) (And.intro (uC Try.prog c4_66.eq_1) (And.intro (uC Try.prog c4_67.eq_1) (And.intro (uC Try.prog c4_68.eq_1) (And.intro (uC Try.prog c4_69.eq_1) (And.intro (uC Try.prog c4_70.eq_1) (And.intro (uC Try.prog c4_71.eq_1) (And.intro (uC Try.prog c4_72.eq_1) (And.intro (uC Try.prog c4_73.eq_1) (And.intro (uC Try.prog c4_74.eq_1) (And.intro (uC Try.prog c4_75.eq_1) (And.intro (uC Try.prog c4_76.eq_1) (And.intro (uC Try.prog c4_77.eq_1) (And.intro (uC Try.prog c4_78.eq_1) (And.intro (uC Try.prog c4_79.eq_1) (And.intro (uC Try.prog c4_80.eq_1) (And.intro (uC Try.prog c4_81.eq_1) (And.intro (uC Try.prog c4_82.eq_1) (And.intro (uC Try.prog c4_83.eq_1) (And.intro (uC Try.prog c4_84.eq_1) (And.intro (uC Try.prog c4_85.eq_1) (uC Try.prog c4.eq_1))))))))))))))))))))))))))))))))))))))))))))))))))))))))))))))))))))))))))))))))))))))) := (And.intro (uR Try.prog c4_0.eq_1) (And.intro (uR Try.prog c4_1.eq_1) (And.intro (uR Try.prog c4_2.eq_1) (And.intro (uR Try.prog c4_3.eq_1) (And.intro (uR Try.prog c4_4.eq_1) (And.intro (uC Try.prog c4_5.eq_1) (And.intro (uC Try.prog c4_6.eq_1) (And.intro (uC Try.prog c4_7.eq_1) (And.intro (uR Try.prog c4_8.eq_1) (And.intro (uR Try.prog c4_9.eq_1) (And.intro (uR Try.prog c4_10.eq_1) (And.intro (uR Try.prog c4_11.eq_1) (And.intro (uR Try.prog c4_12.eq_1) (And.intro (uC Try.prog c4_13.eq_1) (And.intro (uC Try.prog c4_14.eq_1) (And.intro (uC Try.prog c4_15.eq_1) (And.intro (uR Try.prog c4_16.eq_1) (And.intro (uR Try.prog c4_17.eq_1) (And.intro (uC Try.prog c4_18.eq_1) (And.intro (uC Try.prog c4_19.eq_1) (And.intro (uC Try.prog c4_20.eq_1) (And.intro (uR Try.prog c4_21.eq_1) (And.intro (uR Try.prog c4_22.eq_1) (And.intro (uR Try.prog c4_23.eq_1) (And.intro (uR Try.prog c4_24.eq_1) (And.intro (uC Try.prog c4_25.eq_1) (And.intro (uC Try.prog c4_26.eq_1) (And.intro (uC Try.prog c4_27.eq_1) (And.intro (uR Try.prog c4_28.eq_1) (And.intro (uR Try.prog c4_29.eq_1) (And.intro (uR Try.prog c4_30.eq_1) (And.intro (uR Try.prog c4_31.eq_1) (And.intro (uR Try.prog c4_32.eq_1) (And.intro (uR Try.prog c4_33.eq_1) (And.intro (uC Try.prog c4_34.eq_1) (And.intro (uC Try.prog c4_35.eq_1) (And.intro (uC Try.prog c4_36.eq_1) (And.intro (uR Try.prog c4_37.eq_1) (And.intro (uR Try.prog c4_38.eq_1) (And.intro (uC Try.prog c4_39.eq_1) (And.intro (uC Try.prog c4_40.eq_1) (And.intro (uC Try.prog c4_41.eq_1) (And.intro (uR Try.prog c4_42.eq_1) (And.intro (uR Try.prog c4_43.eq_1) (And.intro (uR Try.prog c4_44.eq_1) (And.intro (uC Try.prog c4_45.eq_1) (And.intro (uC Try.prog c4_46.eq_1) (And.intro (uC Try.prog c4_47.eq_1) (And.intro (uR Try.prog c4_48.eq_1) (And.intro (uR Try.prog c4_49.eq_1) (And.intro (uR Try.prog c4_50.eq_1) (And.intro (uR Try.prog c4_51.eq_1) (And.intro (uC Try.prog c4_52.eq_1) (And.intro (uC Try.prog c4_53.eq_1) (And.intro (uC Try.prog c4_54.eq_1) (And.intro (uR Try.prog c4_55.eq_1) (And.intro (uR Try.prog c4_56.eq_1) (And.intro (uC Try.prog c4_57.eq_1) (And.intro (uC Try.prog c4_58.eq_1) (And.intro (uC Try.prog c4_59.eq_1) (And.intro (uR Try.prog c4_60.eq_1) (And.intro (uC Try.prog c4_61.eq_1) (And.intro (uC Try.prog c4_62.eq_1) (And.intro (uC Try.prog c4_63.eq_1) (And.intro (uC Try.prog c4_64.eq_1) (And.intro (uC Try.prog c4_65.eq_1) (And.intro (uC Try.prog c4_66.eq_1) (And.intro (uC Try.prog c4_67.eq_1) (And.intro (uC Try.prog c4_68.eq_1) (And.intro (uC Try.prog c4_69.eq_1) (And.intro (uC Try.prog c4_70.eq_1) (And.intro (uC Try.prog c4_71.eq_1) (And.intro (uC Try.prog c4_72.eq_1) (And.intro (uC Try.prog c4_73.eq_1) (And.intro (uC Try.prog c4_74.eq_1) (And.intro (uC Try.prog c4_75.eq_1) (And.intro (uC Try.prog c4_76.eq_1) (And.intro (uC Try.prog c4_77.eq_1) (And.intro (uC Try.prog c4_78.eq_1) (And.intro (uC Try.prog c4_79.eq_1) (And.intro (uC Try.prog c4_80.eq_1) (And.intro (uC Try.prog c4_81.eq_1) (And.intro (uC Try.prog c4_82.eq_1) (And.intro (uC Try.prog c4_83.eq_1) (And.intro (uC Try.prog c4_84.eq_1) (And.intro (uC Try.prog c4_85.eq_1) (uC Try.prog c4.eq_1)))))))))))))))))))))))))))))))))))))))))))))))))))))))))))))))))))))))))))))))))))))))
def v4 : List RV := [.t 8]
theorem s4 : slimF Try.prog Try.f4 = some (c4.bare, v4) := by kernel_rfl

theorem relF_length (l : List Clip) (a b n : Int) : (relF l a b n).1.length ≤ 300 := by
  unfold relF; split
  · exact editF_length _
  · simp
theorem FnExactRelink_ok (h : Heap) (v : Value) (l : List Clip) (a : Int) (b : Int) (n : Int) (s : SlT h encClip 3 v l) (hl : l.length ≤ 9223372036854775807) :
    ACall Try.prog 4 [v, .int .i64 a, .int .i64 b, .int .i64 n] h fun r h' => r = .bool true := by
  refine ACall.of Try.func4 s4 (of_decide_eq_true rfl) ?_
  simp (maxSteps := 4000000) (disch := omega) only [ah, am, Nat.reduceEqDiff, reduceCtorEq, Nat.reduceAdd, Nat.reduceLeDiff, Nat.reduceMul, Nat.reduceLT, if_true, if_false, true_and, and_true, and_self, Nat.reduceBEq, QOp.loads, boxO, bslO, buildO, cutL, fillV, putL, w4, v4]
  refine stepC.of (szClipS_ok _ v l 1048576 s (by omega) (by omega) hl) ?_
  rintro _ Hx ⟨hx, rfl⟩; rw [hx]; clear hx Hx
  simp (maxSteps := 4000000) (disch := omega) only [ah, am, Nat.reduceEqDiff, reduceCtorEq, Nat.reduceAdd, Nat.reduceLeDiff, Nat.reduceMul, Nat.reduceLT, if_true, if_false, true_and, and_true, and_self, Nat.reduceBEq, QOp.loads, boxO, bslO, buildO, cutL, fillV, putL, w4, v4]
  by_cases hsz : (1048576 : Int) - l.length < 0
  · simp (maxSteps := 4000000) (disch := omega) only [ah, am, Nat.reduceEqDiff, reduceCtorEq, Nat.reduceAdd, Nat.reduceLeDiff, Nat.reduceMul, Nat.reduceLT, if_true, if_false, true_and, and_true, and_self, Nat.reduceBEq, QOp.loads, boxO, bslO, buildO, cutL, fillV, putL, w4, v4, hsz, if_pos, stepI_dec]
  have hz : decide ((if (1048576 : Int) - l.length < 0 then -1 else 1048576 - (l.length : Int)) < 0) = false := by rw [if_neg hsz]; exact decide_eq_false hsz
  simp (maxSteps := 4000000) (disch := omega) only [ah, am, Nat.reduceEqDiff, reduceCtorEq, Nat.reduceAdd, Nat.reduceLeDiff, Nat.reduceMul, Nat.reduceLT, if_true, if_false, true_and, and_true, and_self, Nat.reduceBEq, QOp.loads, boxO, bslO, buildO, cutL, fillV, putL, w4, v4, hz]
  clear hz
  have hll : l.length ≤ 1048576 := by omega
  have hF := relF_length l a b n
  refine stepC.of (toClipS_ok _ _ _ s hll) ?_
  intro t1 H1 F1
  simp (maxSteps := 4000000) (disch := omega) only [ah, am, Nat.reduceEqDiff, reduceCtorEq, Nat.reduceAdd, Nat.reduceLeDiff, Nat.reduceMul, Nat.reduceLT, if_true, if_false, true_and, and_true, and_self, Nat.reduceBEq, QOp.loads, boxO, bslO, buildO, cutL, fillV, putL, w4, v4]
  refine stepC.of (specRelink_ok _ _ _ _ _ _ F1.slt (by omega)) ?_
  rintro _ H2 ⟨w0, rfl, Fw⟩
  have E2 := F1.1.trans Fw.1
  have Mw := Fw.mine
  simp (maxSteps := 4000000) (disch := omega) only [ah, am, Nat.reduceEqDiff, reduceCtorEq, Nat.reduceAdd, Nat.reduceLeDiff, Nat.reduceMul, Nat.reduceLT, if_true, if_false, true_and, and_true, and_self, Nat.reduceBEq, QOp.loads, boxO, bslO, buildO, cutL, fillV, putL, w4, v4]
  refine stepC.of (toClipS_ok _ _ _ (s.ext E2) hll) ?_
  intro x0 H3 Fx
  have Mx := Fx.mine
  have E3 := E2.trans Fx.1
  have Mw := Mw.ext Fx.1
  simp (maxSteps := 4000000) (disch := omega) only [ah, am, Nat.reduceEqDiff, reduceCtorEq, Nat.reduceAdd, Nat.reduceLeDiff, Nat.reduceMul, Nat.reduceLT, if_true, if_false, true_and, and_true, and_self, Nat.reduceBEq, QOp.loads, boxO, bslO, buildO, cutL, fillV, putL, w4, v4]
  refine stepC.of (Relink_ok _ _ _ _ _ _ Fx.slt (by omega)) ?_
  rintro _ H4 ⟨g0, rfl, Fg⟩
  have Mg := Fg.mine
  have E4 := E3.trans Fg.1
  have Mw := Mw.ext Fg.1
  have Mx := Mx.ext Fg.1
  have sz1 := F1.1.1; have sz2 := Fw.1.1; have sz3 := Fx.1.1; have sz4 := Fg.1.1
  obtain ⟨rl, rb, hR⟩ : ∃ rl rb, relF l a b n = (rl, rb) := ⟨_, _, rfl⟩
  rw [hR] at Mw Mg hF ⊢
  simp only at Mw Mg hF ⊢
  simp (maxSteps := 4000000) (disch := omega) only [ah, am, Nat.reduceEqDiff, reduceCtorEq, Nat.reduceAdd, Nat.reduceLeDiff, Nat.reduceMul, Nat.reduceLT, if_true, if_false, true_and, and_true, and_self, Nat.reduceBEq, QOp.loads, boxO, bslO, buildO, cutL, fillV, putL, w4, v4]
  refine stepC.of (eqClipS_ok _ _ _ _ _ Mg.slt Mw.slt (by omega) (by omega)) ?_
  rintro _ H5 ⟨e5, rfl⟩
  have Mg := Mg.ext e5; have Mw := Mw.ext e5; have Mx := Mx.ext e5; have E5 := E4.trans e5
  simp (maxSteps := 4000000) (disch := omega) only [ah, am, Nat.reduceEqDiff, reduceCtorEq, Nat.reduceAdd, Nat.reduceLeDiff, Nat.reduceMul, Nat.reduceLT, if_true, if_false, true_and, and_true, and_self, Nat.reduceBEq, QOp.loads, boxO, bslO, buildO, cutL, fillV, putL, w4, v4, eqbV_bool', beq_self_eq_true]
  refine stepC.of (toClipS_ok _ _ _ (s.ext E5) hll) ?_
  intro t6 H6 F6
  have Mg := Mg.ext F6.1; have Mw := Mw.ext F6.1; have Mx := Mx.ext F6.1; have E6 := E5.trans F6.1
  simp (maxSteps := 4000000) (disch := omega) only [ah, am, Nat.reduceEqDiff, reduceCtorEq, Nat.reduceAdd, Nat.reduceLeDiff, Nat.reduceMul, Nat.reduceLT, if_true, if_false, true_and, and_true, and_self, Nat.reduceBEq, QOp.loads, boxO, bslO, buildO, cutL, fillV, putL, w4, v4]
  refine stepC.of (eqClipS_ok _ _ _ _ _ Mx.slt F6.slt (by omega) (by omega)) ?_
  rintro _ H7 ⟨e7, rfl⟩
  have Mg := Mg.ext e7; have Mw := Mw.ext e7; have Mx := Mx.ext e7; have E7 := E6.trans e7
  simp (maxSteps := 4000000) (disch := omega) only [ah, am, Nat.reduceEqDiff, reduceCtorEq, Nat.reduceAdd, Nat.reduceLeDiff, Nat.reduceMul, Nat.reduceLT, if_true, if_false, true_and, and_true, and_self, Nat.reduceBEq, QOp.loads, boxO, bslO, buildO, cutL, fillV, putL, w4, v4]
  refine stepC.of (markClipS_mine 1 Mx (by omega) (by omega)) ?_
  rintro _ H8 ⟨c8, Mx', rfl⟩
  have Mg := Mg.chg c8 (by omega); have Mw := Mw.chg c8 (by omega); have E8 := c8.ext E7 (by have := E2.1; omega)
  have hk : decide ((1 : Int) + 3 * l.length < 0) = false := decide_eq_false (by omega)
  simp (maxSteps := 4000000) (disch := omega) only [ah, am, Nat.reduceEqDiff, reduceCtorEq, Nat.reduceAdd, Nat.reduceLeDiff, Nat.reduceMul, Nat.reduceLT, if_true, if_false, true_and, and_true, and_self, Nat.reduceBEq, QOp.loads, boxO, bslO, buildO, cutL, fillV, putL, w4, v4, hk]
  refine stepC.of (eqClipS_ok _ _ _ _ _ Mg.slt Mw.slt (by omega) (by omega)) ?_
  rintro _ H9 ⟨e9, rfl⟩
  have Mg := Mg.ext e9; have Mw := Mw.ext e9; have E9 := E8.trans e9
  simp (maxSteps := 4000000) (disch := omega) only [ah, am, Nat.reduceEqDiff, reduceCtorEq, Nat.reduceAdd, Nat.reduceLeDiff, Nat.reduceMul, Nat.reduceLT, if_true, if_false, true_and, and_true, and_self, Nat.reduceBEq, QOp.loads, boxO, bslO, buildO, cutL, fillV, putL, w4, v4, eqbV_bool', beq_self_eq_true]
  refine stepC.of (markClipS_mine 1 Mg (by omega) (by omega)) ?_
  rintro _ H10 ⟨c10, Mg, rfl⟩
  have Mw := Mw.chg c10 (by omega); have E10 := c10.ext E9 (by have := E3.1; omega)
  have hm : decide ((1 : Int) + 3 * rl.length < 0) = false := decide_eq_false (by omega)
  simp (maxSteps := 4000000) (disch := omega) only [ah, am, Nat.reduceEqDiff, reduceCtorEq, Nat.reduceAdd, Nat.reduceLeDiff, Nat.reduceMul, Nat.reduceLT, if_true, if_false, true_and, and_true, and_self, Nat.reduceBEq, QOp.loads, boxO, bslO, buildO, cutL, fillV, putL, w4, v4]
  refine stepC.of (heldClipS_ok _ _ _ 1 Mg.slt (by omega) (by omega)) ?_
  rintro _ Hx ⟨hx, rfl⟩; rw [hx]; clear hx Hx
  simp (maxSteps := 4000000) (disch := omega) only [ah, am, Nat.reduceEqDiff, reduceCtorEq, Nat.reduceAdd, Nat.reduceLeDiff, Nat.reduceMul, Nat.reduceLT, if_true, if_false, true_and, and_true, and_self, Nat.reduceBEq, QOp.loads, boxO, bslO, buildO, cutL, fillV, putL, w4, v4, hm]
  refine stepC.of (toClipS_ok _ _ _ (s.ext E10) hll) ?_
  intro t11 H11 F11
  have Mg := Mg.ext F11.1; have Mw := Mw.ext F11.1
  simp (maxSteps := 4000000) (disch := omega) only [ah, am, Nat.reduceEqDiff, reduceCtorEq, Nat.reduceAdd, Nat.reduceLeDiff, Nat.reduceMul, Nat.reduceLT, if_true, if_false, true_and, and_true, and_self, Nat.reduceBEq, QOp.loads, boxO, bslO, buildO, cutL, fillV, putL, w4, v4]
  refine stepC.of (Relink_ok _ _ _ _ _ _ F11.slt (by omega)) ?_
  rintro _ H12 ⟨h0, rfl, Fh⟩
  have Mg := Mg.ext Fh.1; have Mw := Mw.ext Fh.1
  rw [hR] at Fh ⊢
  simp only at Fh ⊢
  simp (maxSteps := 4000000) (disch := omega) only [ah, am, Nat.reduceEqDiff, reduceCtorEq, Nat.reduceAdd, Nat.reduceLeDiff, Nat.reduceMul, Nat.reduceLT, if_true, if_false, true_and, and_true, and_self, Nat.reduceBEq, QOp.loads, boxO, bslO, buildO, cutL, fillV, putL, w4, v4]
  refine stepC.of (eqClipS_ok _ _ _ _ _ Fh.slt Mw.slt (by omega) (by omega)) ?_
  rintro _ H13 ⟨e13, rfl⟩
  have Mg := Mg.ext e13
  simp (maxSteps := 4000000) (disch := omega) only [ah, am, Nat.reduceEqDiff, reduceCtorEq, Nat.reduceAdd, Nat.reduceLeDiff, Nat.reduceMul, Nat.reduceLT, if_true, if_false, true_and, and_true, and_self, Nat.reduceBEq, QOp.loads, boxO, bslO, buildO, cutL, fillV, putL, w4, v4, eqbV_bool', beq_self_eq_true]
  refine stepC.of (heldClipS_ok _ _ _ 1 Mg.slt (by omega) (by omega)) ?_
  rintro _ Hx ⟨hx, rfl⟩; rw [hx]; clear hx Hx
  simp (maxSteps := 4000000) (disch := omega) only [ah, am, Nat.reduceEqDiff, reduceCtorEq, Nat.reduceAdd, Nat.reduceLeDiff, Nat.reduceMul, Nat.reduceLT, if_true, if_false, true_and, and_true, and_self, Nat.reduceBEq, QOp.loads, boxO, bslO, buildO, cutL, fillV, putL, w4, v4, hm]
end Go.Proofs.Ytbanblghepekdaa
