import Derived.Test.YtbanblghepekdaaI14
namespace Go.Proofs.Ytbanblghepekdaa
open Go Go.Ah
set_option linter.unusedSimpArgs false
set_option linter.unusedVariables false
set_option maxRecDepth 10000
set_option maxHeartbeats 4000000
/-! 13 loop.example/g00066/laws.FnExactRetime: parameters 3, live [0, 1, 2], slots [0:aKeys, 1:aSrc, 2:aN, 3:aKeys, 4:aSrc, 5:aN, 7:left, 8:w0, 9:w1, 10:x0, 11:g0, 12:g1, 13:k, 14:m, 15:q, 16:h0, 17:h1] -/
def c13_0 : List SOper := [⟨some 6, .q (.mv (.c (.bool false))), none⟩]
def c13_1 : List SOper := [⟨some 7, .q (.mv (.c (.int .i64 1048576))), none⟩]
def c13_2 : List SOper := [⟨some 18, .q (.mv (.t 0)), none⟩, ⟨some 19, .q (.mv (.t 7)), none⟩, ⟨some 20, .e (.call 40 [(.t 18), (.t 19)]), none⟩, ⟨some 7, .q (.mv (.t 20)), none⟩]
def c13_3 : List SOper := [⟨some 21, .q (.mv (.t 7)), none⟩, ⟨some 22, .q (.bin .lss (.t 21) (.c (.int .i64 0))), none⟩]
def c13_4 : List SOper := [⟨some 6, .q (.mv (.c (.bool true))), none⟩]
def c13_5 : SCode := .seq (.region c13_4 [6]) .ret
def c13_6 : SCode := .cond (.t 22) c13_5 .skip
def c13_7 : SCode := .seq (.region c13_3 [0, 1, 2, 22]) c13_6
def c13_8 : List SOper := [⟨some 24, .q (.mv (.t 0)), none⟩, ⟨some 25, .e (.call 42 [(.t 24)]), none⟩, ⟨some 26, .q (.mv (.t 1)), none⟩, ⟨some 27, .q (.mv (.t 2)), none⟩, ⟨some 28, .e (.call 41 [(.t 25), (.t 26), (.t 27)]), none⟩, ⟨some 23, .q (.mv (.t 28)), none⟩, ⟨some 29, .q (.ext (.t 23) 0), none⟩, ⟨some 30, .q (.ext (.t 23) 1), none⟩, ⟨some 8, .q (.mv (.t 29)), none⟩, ⟨some 9, .q (.mv (.t 30)), none⟩]
def c13_9 : List SOper := [⟨some 31, .q (.mv (.t 0)), none⟩, ⟨some 32, .e (.call 42 [(.t 31)]), none⟩, ⟨some 10, .q (.mv (.t 32)), none⟩]
def c13_10 : List SOper := [⟨some 34, .q (.mv (.t 10)), none⟩, ⟨some 35, .q (.mv (.t 1)), none⟩, ⟨some 36, .q (.mv (.t 2)), none⟩, ⟨some 37, .e (.call 43 [(.t 34), (.t 35), (.t 36)]), none⟩, ⟨some 33, .q (.mv (.t 37)), none⟩, ⟨some 38, .q (.ext (.t 33) 0), none⟩, ⟨some 39, .q (.ext (.t 33) 1), none⟩, ⟨some 11, .q (.mv (.t 38)), none⟩, ⟨some 12, .q (.mv (.t 39)), none⟩]
def c13_11 : List SOper := [⟨some 40, .q (.mv (.t 11)), none⟩, ⟨some 41, .q (.mv (.t 8)), none⟩, ⟨some 42, .e (.call 18 [(.t 40), (.t 41)]), none⟩, ⟨some 43, .q (.not (.t 42)), none⟩, ⟨some 44, .q (.mv (.t 43)), none⟩, ⟨some 45, .q (.mv (.t 12)), some (44, false)⟩, ⟨some 46, .q (.mv (.t 9)), some (44, false)⟩, ⟨some 47, .q (.eqb true (.t 45) (.t 46)), some (44, false)⟩, ⟨some 48, .q (.pick (.t 44) (.c (.bool true)) (.t 47)), none⟩]
def c13_12 : List SOper := [⟨some 6, .q (.mv (.c (.bool false))), none⟩]
def c13_13 : SCode := .seq (.region c13_12 [6]) .ret
def c13_14 : SCode := .cond (.t 48) c13_13 .skip
def c13_15 : SCode := .seq (.region c13_11 [0, 1, 2, 8, 9, 10, 11, 12, 48]) c13_14
def c13_16 : List SOper := [⟨some 49, .q (.mv (.t 10)), none⟩, ⟨some 50, .q (.mv (.t 0)), none⟩, ⟨some 51, .e (.call 42 [(.t 50)]), none⟩, ⟨some 52, .e (.call 44 [(.t 49), (.t 51)]), none⟩, ⟨some 53, .q (.not (.t 52)), none⟩]
def c13_17 : List SOper := [⟨some 6, .q (.mv (.c (.bool false))), none⟩]
def c13_18 : SCode := .seq (.region c13_17 [6]) .ret
def c13_19 : SCode := .cond (.t 53) c13_18 .skip
def c13_20 : SCode := .seq (.region c13_16 [0, 1, 2, 8, 9, 10, 11, 12, 53]) c13_19
def c13_21 : List SOper := [⟨some 13, .q (.mv (.c (.int .i64 1))), none⟩]
def c13_22 : List SOper := [⟨some 54, .q (.mv (.t 10)), none⟩, ⟨some 55, .q (.mv (.t 13)), none⟩, ⟨some 56, .e (.call 45 [(.t 54), (.t 55)]), none⟩, ⟨some 13, .q (.mv (.t 56)), none⟩]
def c13_23 : List SOper := [⟨some 57, .q (.mv (.t 13)), none⟩, ⟨some 58, .q (.bin .lss (.t 57) (.c (.int .i64 0))), none⟩, ⟨some 59, .q (.mv (.t 58)), none⟩, ⟨some 60, .q (.mv (.t 11)), some (59, false)⟩, ⟨some 61, .q (.mv (.t 8)), some (59, false)⟩, ⟨some 62, .e (.call 18 [(.t 60), (.t 61)]), some (59, false)⟩, ⟨some 63, .q (.not (.t 62)), some (59, false)⟩, ⟨some 64, .q (.pick (.t 59) (.c (.bool true)) (.t 63)), none⟩, ⟨some 65, .q (.mv (.t 64)), none⟩, ⟨some 66, .q (.mv (.t 12)), some (65, false)⟩, ⟨some 67, .q (.mv (.t 9)), some (65, false)⟩, ⟨some 68, .q (.eqb true (.t 66) (.t 67)), some (65, false)⟩, ⟨some 69, .q (.pick (.t 65) (.c (.bool true)) (.t 68)), none⟩]
def c13_24 : List SOper := [⟨some 6, .q (.mv (.c (.bool false))), none⟩]
def c13_25 : SCode := .seq (.region c13_24 [6]) .ret
def c13_26 : SCode := .cond (.t 69) c13_25 .skip
def c13_27 : SCode := .seq (.region c13_23 [0, 1, 2, 8, 9, 11, 69]) c13_26
def c13_28 : List SOper := [⟨some 14, .q (.mv (.c (.int .i64 1))), none⟩]
def c13_29 : List SOper := [⟨some 70, .q (.mv (.t 11)), none⟩, ⟨some 71, .q (.mv (.t 14)), none⟩, ⟨some 72, .e (.call 19 [(.t 70), (.t 71)]), none⟩, ⟨some 14, .q (.mv (.t 72)), none⟩]
def c13_30 : List SOper := [⟨some 15, .q (.mv (.c (.int .i64 1))), none⟩]
def c13_31 : List SOper := [⟨some 73, .q (.mv (.t 11)), none⟩, ⟨some 74, .q (.mv (.t 15)), none⟩, ⟨some 75, .e (.call 20 [(.t 73), (.t 74)]), none⟩, ⟨some 15, .q (.mv (.t 75)), none⟩]
def c13_32 : List SOper := [⟨some 76, .q (.mv (.t 15)), none⟩, ⟨some 77, .q (.bin .lss (.t 76) (.c (.int .i64 0))), none⟩]
def c13_33 : List SOper := [⟨some 6, .q (.mv (.c (.bool false))), none⟩]
def c13_34 : SCode := .seq (.region c13_33 [6]) .ret
def c13_35 : SCode := .cond (.t 77) c13_34 .skip
def c13_36 : SCode := .seq (.region c13_32 [0, 1, 2, 8, 9, 11, 14, 15, 77]) c13_35
def c13_37 : List SOper := [⟨some 78, .q (.mv (.t 15)), none⟩, ⟨some 79, .q (.mv (.t 14)), none⟩, ⟨some 80, .q (.bin .neq (.t 78) (.t 79)), none⟩]
def c13_38 : List SOper := [⟨some 6, .q (.mv (.c (.bool false))), none⟩]
def c13_39 : SCode := .seq (.region c13_38 [6]) .ret
def c13_40 : SCode := .cond (.t 80) c13_39 .skip
def c13_41 : SCode := .seq (.region c13_37 [0, 1, 2, 8, 9, 11, 14, 80]) c13_40
def c13_42 : List SOper := [⟨some 82, .q (.mv (.t 0)), none⟩, ⟨some 83, .e (.call 42 [(.t 82)]), none⟩, ⟨some 84, .q (.mv (.t 1)), none⟩, ⟨some 85, .q (.mv (.t 2)), none⟩, ⟨some 86, .e (.call 43 [(.t 83), (.t 84), (.t 85)]), none⟩, ⟨some 81, .q (.mv (.t 86)), none⟩, ⟨some 87, .q (.ext (.t 81) 0), none⟩, ⟨some 88, .q (.ext (.t 81) 1), none⟩, ⟨some 16, .q (.mv (.t 87)), none⟩, ⟨some 17, .q (.mv (.t 88)), none⟩]
def c13_43 : List SOper := [⟨some 89, .q (.mv (.t 16)), none⟩, ⟨some 90, .q (.mv (.t 8)), none⟩, ⟨some 91, .e (.call 18 [(.t 89), (.t 90)]), none⟩, ⟨some 92, .q (.not (.t 91)), none⟩, ⟨some 93, .q (.mv (.t 92)), none⟩, ⟨some 94, .q (.mv (.t 17)), some (93, false)⟩, ⟨some 95, .q (.mv (.t 9)), some (93, false)⟩, ⟨some 96, .q (.eqb true (.t 94) (.t 95)), some (93, false)⟩, ⟨some 97, .q (.pick (.t 93) (.c (.bool true)) (.t 96)), none⟩]
def c13_44 : List SOper := [⟨some 6, .q (.mv (.c (.bool false))), none⟩]
def c13_45 : SCode := .seq (.region c13_44 [6]) .ret
def c13_46 : SCode := .cond (.t 97) c13_45 .skip
def c13_47 : SCode := .seq (.region c13_43 [11, 14, 97]) c13_46
def c13_48 : List SOper := [⟨some 15, .q (.mv (.c (.int .i64 1))), none⟩]
def c13_49 : List SOper := [⟨some 98, .q (.mv (.t 11)), none⟩, ⟨some 99, .q (.mv (.t 15)), none⟩, ⟨some 100, .e (.call 20 [(.t 98), (.t 99)]), none⟩, ⟨some 15, .q (.mv (.t 100)), none⟩]
def c13_50 : List SOper := [⟨some 101, .q (.mv (.t 15)), none⟩, ⟨some 102, .q (.bin .lss (.t 101) (.c (.int .i64 0))), none⟩]
def c13_51 : List SOper := [⟨some 6, .q (.mv (.c (.bool false))), none⟩]
def c13_52 : SCode := .seq (.region c13_51 [6]) .ret
def c13_53 : SCode := .cond (.t 102) c13_52 .skip
def c13_54 : SCode := .seq (.region c13_50 [14, 15, 102]) c13_53
def c13_55 : List SOper := [⟨some 103, .q (.mv (.t 15)), none⟩, ⟨some 104, .q (.mv (.t 14)), none⟩, ⟨some 105, .q (.bin .neq (.t 103) (.t 104)), none⟩]
def c13_56 : List SOper := [⟨some 6, .q (.mv (.c (.bool false))), none⟩]
def c13_57 : SCode := .seq (.region c13_56 [6]) .ret
def c13_58 : SCode := .cond (.t 105) c13_57 .skip
def c13_59 : SCode := .seq (.region c13_55 [105]) c13_58
def c13_60 : List SOper := [⟨some 6, .q (.mv (.c (.bool true))), none⟩]
def c13_61 : SCode := .seq (.region c13_60 [6]) .ret
def c13_62 : SCode := .seq c13_59 c13_61
def c13_63 : SCode := .seq c13_54 c13_62
def c13_64 : SCode := .seq (.region c13_49 [14, 15]) c13_63
def c13_65 : SCode := .seq (.region c13_48 [11, 14, 15]) c13_64
def c13_66 : SCode := .seq c13_47 c13_65
def c13_67 : SCode := .seq (.region c13_42 [8, 9, 11, 14, 16, 17]) c13_66
def c13_68 : SCode := .seq c13_41 c13_67
def c13_69 : SCode := .seq c13_36 c13_68
def c13_70 : SCode := .seq (.region c13_31 [0, 1, 2, 8, 9, 11, 14, 15]) c13_69
def c13_71 : SCode := .seq (.region c13_30 [0, 1, 2, 8, 9, 11, 14, 15]) c13_70
def c13_72 : SCode := .seq (.region c13_29 [0, 1, 2, 8, 9, 11, 14]) c13_71
def c13_73 : SCode := .seq (.region c13_28 [0, 1, 2, 8, 9, 11, 14]) c13_72
def c13_74 : SCode := .seq c13_27 c13_73
def c13_75 : SCode := .seq (.region c13_22 [0, 1, 2, 8, 9, 11, 12, 13]) c13_74
def c13_76 : SCode := .seq (.region c13_21 [0, 1, 2, 8, 9, 10, 11, 12, 13]) c13_75
def c13_77 : SCode := .seq c13_20 c13_76
def c13_78 : SCode := .seq c13_15 c13_77
def c13_79 : SCode := .seq (.region c13_10 [0, 1, 2, 8, 9, 10, 11, 12]) c13_78
def c13_80 : SCode := .seq (.region c13_9 [0, 1, 2, 8, 9, 10]) c13_79
def c13_81 : SCode := .seq (.region c13_8 [0, 1, 2, 8, 9]) c13_80
def c13_82 : SCode := .seq c13_7 c13_81
def c13_83 : SCode := .seq (.region c13_2 [0, 1, 2, 7]) c13_82
def c13_84 : SCode := .seq (.region c13_1 [0, 1, 2, 7]) c13_83
def c13_85 : SCode := .seq (.region c13_0 [0, 1, 2]) c13_84
def c13 : SCode := c13_85
theorem w13 : type_of% (And.intro (uR Try.prog c13_0.eq_1) (And.intro (uR Try.prog c13_1.eq_1) (And.intro (uR Try.prog c13_2.eq_1) (And.intro (uR Try.prog c13_3.eq_1) (And.intro (uR Try.prog c13_4.eq_1) (And.intro (uC Try.prog c13_5.eq_1) (And.intro (uC Try.prog c13_6.eq_1) (And.intro (uC Try.prog c13_7.eq_1) (And.intro (uR Try.prog c13_8.eq_1) (And.intro (uR Try.prog c13_9.eq_1) (And.intro (uR Try.prog c13_10.eq_1) (And.intro (uR Try.prog c13_11.eq_1) (And.intro (uR Try.prog c13_12.eq_1) (And.intro (uC Try.prog c13_13.eq_1) (And.intro (uC Try.prog c13_14.eq_1) (And.intro (uC Try.prog c13_15.eq_1) (And.intro (uR Try.prog c13_16.eq_1) (And.intro (uR Try.prog c13_17.eq_1) (And.intro (uC Try.prog c13_18.eq_1) (And.intro (uC Try.prog c13_19.eq_1) (And.intro (uC Try.prog c13_20.eq_1) (And.intro (uR Try.prog c13_21.eq_1) (And.intro (uR Try.prog c13_22.eq_1) (And.intro (uR Try.prog c13_23.eq_1) (And.intro (uR Try.prog c13_24.eq_1) (And.intro (uC Try.prog c13_25.eq_1) (And.intro (uC Try.prog c13_26.eq_1) (And.intro (uC Try.prog c13_27.eq_1) (And.intro (uR Try.prog c13_28.eq_1) (And.intro (uR Try.prog c13_29.eq_1) (And.intro (uR Try.prog c13_30.eq_1) (And.intro (uR Try.prog c13_31.eq_1) (And.intro (uR Try.prog c13_32.eq_1) (And.intro (uR Try.prog c13_33.eq_1) (And.intro (uC Try.prog c13_34.eq_1) (And.intro (uC Try.prog c13_35.eq_1) (And.intro (uC Try.prog c13_36.eq_1) (And.intro (uR Try.prog c13_37.eq_1) (And.intro (uR Try.prog c13_38.eq_1) (And.intro (uC Try.prog c13_39.eq_1) (And.intro (uC Try.prog c13_40.eq_1) (And.intro (uC Try.prog c13_41.eq_1) (And.intro (uR Try.prog c13_42.eq_1) (And.intro (uR Try.prog c13_43.eq_1) (And.intro (uR Try.prog c13_44.eq_1) (And.intro (uC Try.prog c13_45.eq_1) (And.intro (uC Try.prog c13_46.eq_1) (And.intro (uC Try.prog c13_47.eq_1) (And.intro (uR Try.prog c13_48.eq_1) (And.intro (uR Try.prog c13_49.eq_1) (And.intro (uR Try.prog c13_50.eq_1) (And.intro (uR Try.prog c13_51.eq_1) (And.intro (uC Try.prog c13_52.eq_1) (And.intro (uC Try.prog c13_53.eq_1) (And.intro (uC Try.prog c13_54.eq_1) (And.intro (uR Try.prog c13_55.eq_1) (And.intro (uR Try.prog c13_56.eq_1) (And.intro (uC Try.prog c13_57.eq_1) (And.intro (uC Try.prog c13_58.eq_1) (And.intro (uC Try.prog c13_59.eq_1) (And.intro (uR Try.prog c13_60.eq_1) (And.intro (uC Try.prog c13_61.eq_1) (And.intro (uC Try.prog c13_62.eq_1) (And.intro (uC Try.prog c13_63.eq_1) (And.intro (uC Try.prog c13_64.eq_1) (And.intro (uC Try.prog c13_65.eq_1) (And.intro (uC Try.prog c13_66.eq_1) (And.intro (uC Try.prog c13_67.eq_1) (And.intro (uC Try.prog c13_68.eq_1) (And.intro (uC Try.prog c13_69.eq_1) (And.intro (uC Try.prog c13_70.eq_1) (And.intro (uC Try.prog c13_71.eq_1) (And.intro (uC Try.prog c13_72.eq_1) (And.intro (uC Try.prog c13_73.eq_1) (And.intro (uC Try.prog c13_74.eq_1) (And.intro (uC Try.prog c13_75.eq_1) (And.intro (uC Try.prog c13_76.eq_1) (And.intro (uC Try.prog c13_77.eq_1) (And.intro (uC Try.prog c13_78.eq_1) (And.intro (uC Try.prog c13_79.eq_1) (And.intro (uC Try.prog c13_80.eq_1) (And.intro (uC Try.prog c13_81.eq_1) (And.intro (uC Try.prog c13_82.eq_1) (And.intro (uC Try.prog c13_83.eq_1) (And.intro (uC Try.prog c13_84.eq_1) (And.intro (uC Try.prog c13_85.eq_1) (uC Try.prog c13.eq_1))))))))))))))))))))))))))))))))))))))))))))))))))))))))))))))))))))))))))))))))))))))) := (And.intro (uR Try.prog c13_0.eq_1) (And.intro (uR Try.prog c13_1.eq_1) (And.intro (uR Try.prog c13_2.eq_1) (And.intro (uR Try.prog c13_3.eq_1) (And.intro (uR Try.prog c13_4.eq_1) (And.intro (uC Try.prog c13_5.eq_1) (And.intro (uC Try.prog c13_6.eq_1) (And.intro (uC Try.prog c13_7.eq_1) (And.intro (uR Try.prog c13_8.eq_1) (And.intro (uR Try.prog c13_9.eq_1) (And.intro (uR Try.prog c13_10.eq_1) (And.intro (uR Try.prog c13_11.eq_1) (And.intro (uR Try.prog c13_12.eq_1) (And.intro (uC Try.prog c13_13.eq_1) (And.intro (uC Try.prog c13_14.eq_1) (And.intro (uC Try.prog c13_15.eq_1) (And.intro (uR Try.prog c13_16.eq_1) (And.intro (uR Try.prog c13_17.eq_1) (And.intro (uC Try.prog c13_18.eq_1) (And.intro (uC Try.prog c13_19.eq_1) (And.intro (uC Try.prog c13_20.eq_1) (And.intro (uR Try.prog c13_21.eq_1) (And.intro (uR Try.prog c13_22.eq_1) (And.intro (uR Try.prog c13_23.eq_1) (And.intro (uR Try.prog c13_24.eq_1) (And.intro (uC Try.prog c13_25.eq_1) (And.intro (uC Try.prog c13_26.eq_1) (And.intro (uC Try.prog c13_27.eq_1) (And.intro (uR Try.prog c13_28.eq_1) (And.intro (uR Try.prog c13_29.eq_1) (And.intro (uR Try.prog c13_30.eq_1) (And.intro (uR Try.prog c13_31.eq_1) (And.intro (uR Try.prog c13_32.eq_1) (And.intro (uR Try.prog c13_33.eq_1) (And.intro (uC Try.prog c13_34.eq_1) (And.intro (uC Try.prog c13_35.eq_1) (And.intro (uC Try.prog c13_36.eq_1) (And.intro (uR Try.prog c13_37.eq_1) (And.intro (uR Try.prog c13_38.eq_1) (And.intro (uC Try.prog c13_39.eq_1) (And.intro (uC Try.prog c13_40.eq_1) (And.intro (uC Try.prog c13_41.eq_1) (And.intro (uR Try.prog c13_42.eq_1) (And.intro (uR Try.prog c13_43.eq_1) (And.intro (uR Try.prog c13_44.eq_1) (And.intro (uC Try.prog c13_45.eq_1) (And.intro (uC Try.prog c13_46.eq_1) (And.intro (uC Try.prog c13_47.eq_1) (And.intro (uR Try.prog c13_48.eq_1) (And.intro (uR Try.prog c13_49.eq_1) (And.intro (uR Try.prog c13_50.eq_1) (And.intro (uR Try.prog c13_51.eq_1) (And.intro (uC Try.prog c13_52.eq_1) (And.intro (uC Try.prog c13_53.eq_1) (And.intro (uC Try.prog c13_54.eq_1) (And.intro (uR Try.prog c13_55.eq_1) (And.intro (uR Try.prog c13_56.eq_1) (And.intro (uC Try.prog c13_57.eq_1) (And.intro (uC Try.prog c13_58.eq_1) (And.intro (uC Try.prog c13_59.eq_1) (And.intro (uR Try.prog c13_60.eq_1) (And.intro (uC Try.prog c13_61.eq_1) (And.intro (uC Try.prog c13_62.eq_1) (And.intro (uC Try.prog c13_63.eq_1) (And.intro (uC Try.prog c13_64.eq_1) (And.intro (uC Try.prog c13_65.eq_1) (And.intro (uC Try.prog c13_66.eq_1) (And.intro (uC Try.prog c13_67.eq_1) (And.intro (uC Try.prog c13_68.eq_1) (And.intro (uC Try.prog c13_69.eq_1) (And.intro (uC Try.prog c13_70.eq_1) (And.intro (uC Try.prog c13_71.eq_1) (And.intro (uC Try.prog c13_72.eq_1) (And.intro (uC Try.prog c13_73.eq_1) (And.intro (uC Try.prog c13_74.eq_1) (And.intro (uC Try.prog c13_75.eq_1) (And.intro (uC Try.prog c13_76.eq_1) (And.intro (uC Try.prog c13_77.eq_1) (And.intro (uC Try.prog c13_78.eq_1) (And.intro (uC Try.prog c13_79.eq_1) (And.intro (uC Try.prog c13_80.eq_1) (And.intro (uC Try.prog c13_81.eq_1) (And.intro (uC Try.prog c13_82.eq_1) (And.intro (uC Try.prog c13_83.eq_1) (And.intro (uC Try.prog c13_84.eq_1) (And.intro (uC Try.prog c13_85.eq_1) (uC Try.prog c13.eq_1)))))))))))))))))))))))))))))))))))))))))))))))))))))))))))))))))))))))))))))))))))))))
def v13 : List RV := [.t 6]
theorem s13 : slimF Try.prog Try.f13 = some (c13.bare, v13) := by kernel_rfl

theorem retF_length (l : List Key) (src n : Int) : (retF l src n).1.length ≤ 300 := by
  unfold retF; split
  · exact editF_length _
  · simp
theorem FnExactRetime_ok (h : Heap) (v : Value) (l : List Key) (src : Int) (n : Int) (s : SlT h encKey 2 v l) (hl : l.length ≤ 9223372036854775807) :
    ACall Try.prog 13 [v, .int .i64 src, .int .i64 n] h fun r h' => r = .bool true := by
  refine ACall.of Try.func13 s13 (of_decide_eq_true rfl) ?_
  simp (maxSteps := 4000000) (disch := omega) only [ah, am, Nat.reduceEqDiff, reduceCtorEq, Nat.reduceAdd, Nat.reduceLeDiff, Nat.reduceMul, Nat.reduceLT, if_true, if_false, true_and, and_true, and_self, Nat.reduceBEq, QOp.loads, boxO, bslO, buildO, cutL, fillV, putL, w13, v13]
  refine stepC.of (szKeyS_ok _ v l 1048576 s (by omega) (by omega) hl) ?_
  rintro _ Hx ⟨hx, rfl⟩; rw [hx]; clear hx Hx
  simp (maxSteps := 4000000) (disch := omega) only [ah, am, Nat.reduceEqDiff, reduceCtorEq, Nat.reduceAdd, Nat.reduceLeDiff, Nat.reduceMul, Nat.reduceLT, if_true, if_false, true_and, and_true, and_self, Nat.reduceBEq, QOp.loads, boxO, bslO, buildO, cutL, fillV, putL, w13, v13]
  by_cases hsz : (1048576 : Int) - l.length < 0
  · simp (maxSteps := 4000000) (disch := omega) only [ah, am, Nat.reduceEqDiff, reduceCtorEq, Nat.reduceAdd, Nat.reduceLeDiff, Nat.reduceMul, Nat.reduceLT, if_true, if_false, true_and, and_true, and_self, Nat.reduceBEq, QOp.loads, boxO, bslO, buildO, cutL, fillV, putL, w13, v13, hsz, if_pos, stepI_dec]
  have hz : decide ((if (1048576 : Int) - l.length < 0 then -1 else 1048576 - (l.length : Int)) < 0) = false := by rw [if_neg hsz]; exact decide_eq_false hsz
  simp (maxSteps := 4000000) (disch := omega) only [ah, am, Nat.reduceEqDiff, reduceCtorEq, Nat.reduceAdd, Nat.reduceLeDiff, Nat.reduceMul, Nat.reduceLT, if_true, if_false, true_and, and_true, and_self, Nat.reduceBEq, QOp.loads, boxO, bslO, buildO, cutL, fillV, putL, w13, v13, hz]
  clear hz
  have hll : l.length ≤ 1048576 := by omega
  have hF := retF_length l src n
  refine stepC.of (toKeyS_ok _ _ _ s hll) ?_
  intro t1 H1 F1
  simp (maxSteps := 4000000) (disch := omega) only [ah, am, Nat.reduceEqDiff, reduceCtorEq, Nat.reduceAdd, Nat.reduceLeDiff, Nat.reduceMul, Nat.reduceLT, if_true, if_false, true_and, and_true, and_self, Nat.reduceBEq, QOp.loads, boxO, bslO, buildO, cutL, fillV, putL, w13, v13]
  refine stepC.of (specRetime_ok _ _ _ _ _ F1.slt (by omega)) ?_
  rintro _ H2 ⟨w0, rfl, Fw⟩
  have E2 := F1.1.trans Fw.1
  have Mw := Fw.mine
  simp (maxSteps := 4000000) (disch := omega) only [ah, am, Nat.reduceEqDiff, reduceCtorEq, Nat.reduceAdd, Nat.reduceLeDiff, Nat.reduceMul, Nat.reduceLT, if_true, if_false, true_and, and_true, and_self, Nat.reduceBEq, QOp.loads, boxO, bslO, buildO, cutL, fillV, putL, w13, v13]
  refine stepC.of (toKeyS_ok _ _ _ (s.ext E2) hll) ?_
  intro x0 H3 Fx
  have Mx := Fx.mine
  have E3 := E2.trans Fx.1
  have Mw := Mw.ext Fx.1
  simp (maxSteps := 4000000) (disch := omega) only [ah, am, Nat.reduceEqDiff, reduceCtorEq, Nat.reduceAdd, Nat.reduceLeDiff, Nat.reduceMul, Nat.reduceLT, if_true, if_false, true_and, and_true, and_self, Nat.reduceBEq, QOp.loads, boxO, bslO, buildO, cutL, fillV, putL, w13, v13]
  refine stepC.of (Retime_ok _ _ _ _ _ Fx.slt (by omega)) ?_
  rintro _ H4 ⟨g0, rfl, Fg⟩
  have Mg := Fg.mine
  have E4 := E3.trans Fg.1
  have Mw := Mw.ext Fg.1
  have Mx := Mx.ext Fg.1
  have sz1 := F1.1.1; have sz2 := Fw.1.1; have sz3 := Fx.1.1; have sz4 := Fg.1.1
  obtain ⟨rl, rb, hR⟩ : ∃ rl rb, retF l src n = (rl, rb) := ⟨_, _, rfl⟩
  rw [hR] at Mw Mg hF ⊢
  simp only at Mw Mg hF ⊢
  simp (maxSteps := 4000000) (disch := omega) only [ah, am, Nat.reduceEqDiff, reduceCtorEq, Nat.reduceAdd, Nat.reduceLeDiff, Nat.reduceMul, Nat.reduceLT, if_true, if_false, true_and, and_true, and_self, Nat.reduceBEq, QOp.loads, boxO, bslO, buildO, cutL, fillV, putL, w13, v13]
  refine stepC.of (eqClipS_ok _ _ _ _ _ Mg.slt Mw.slt (by omega) (by omega)) ?_
  rintro _ H5 ⟨e5, rfl⟩
  have Mg := Mg.ext e5; have Mw := Mw.ext e5; have Mx := Mx.ext e5; have E5 := E4.trans e5
  simp (maxSteps := 4000000) (disch := omega) only [ah, am, Nat.reduceEqDiff, reduceCtorEq, Nat.reduceAdd, Nat.reduceLeDiff, Nat.reduceMul, Nat.reduceLT, if_true, if_false, true_and, and_true, and_self, Nat.reduceBEq, QOp.loads, boxO, bslO, buildO, cutL, fillV, putL, w13, v13, eqbV_bool', beq_self_eq_true]
  refine stepC.of (toKeyS_ok _ _ _ (s.ext E5) hll) ?_
  intro t6 H6 F6
  have Mg := Mg.ext F6.1; have Mw := Mw.ext F6.1; have Mx := Mx.ext F6.1; have E6 := E5.trans F6.1
  simp (maxSteps := 4000000) (disch := omega) only [ah, am, Nat.reduceEqDiff, reduceCtorEq, Nat.reduceAdd, Nat.reduceLeDiff, Nat.reduceMul, Nat.reduceLT, if_true, if_false, true_and, and_true, and_self, Nat.reduceBEq, QOp.loads, boxO, bslO, buildO, cutL, fillV, putL, w13, v13]
  refine stepC.of (eqKeyS_ok _ _ _ _ _ Mx.slt F6.slt (by omega) (by omega)) ?_
  rintro _ H7 ⟨e7, rfl⟩
  have Mg := Mg.ext e7; have Mw := Mw.ext e7; have Mx := Mx.ext e7; have E7 := E6.trans e7
  simp (maxSteps := 4000000) (disch := omega) only [ah, am, Nat.reduceEqDiff, reduceCtorEq, Nat.reduceAdd, Nat.reduceLeDiff, Nat.reduceMul, Nat.reduceLT, if_true, if_false, true_and, and_true, and_self, Nat.reduceBEq, QOp.loads, boxO, bslO, buildO, cutL, fillV, putL, w13, v13]
  refine stepC.of (markKeyS_mine 1 Mx (by omega) (by omega)) ?_
  rintro _ H8 ⟨c8, Mx', rfl⟩
  have Mg := Mg.chg c8 (by omega); have Mw := Mw.chg c8 (by omega); have E8 := c8.ext E7 (by have := E2.1; omega)
  have hk : decide ((1 : Int) + 2 * l.length < 0) = false := decide_eq_false (by omega)
  simp (maxSteps := 4000000) (disch := omega) only [ah, am, Nat.reduceEqDiff, reduceCtorEq, Nat.reduceAdd, Nat.reduceLeDiff, Nat.reduceMul, Nat.reduceLT, if_true, if_false, true_and, and_true, and_self, Nat.reduceBEq, QOp.loads, boxO, bslO, buildO, cutL, fillV, putL, w13, v13, hk]
  refine stepC.of (eqClipS_ok _ _ _ _ _ Mg.slt Mw.slt (by omega) (by omega)) ?_
  rintro _ H9 ⟨e9, rfl⟩
  have Mg := Mg.ext e9; have Mw := Mw.ext e9; have E9 := E8.trans e9
  simp (maxSteps := 4000000) (disch := omega) only [ah, am, Nat.reduceEqDiff, reduceCtorEq, Nat.reduceAdd, Nat.reduceLeDiff, Nat.reduceMul, Nat.reduceLT, if_true, if_false, true_and, and_true, and_self, Nat.reduceBEq, QOp.loads, boxO, bslO, buildO, cutL, fillV, putL, w13, v13, eqbV_bool', beq_self_eq_true]
  refine stepC.of (markClipS_mine 1 Mg (by omega) (by omega)) ?_
  rintro _ H10 ⟨c10, Mg, rfl⟩
  have Mw := Mw.chg c10 (by omega); have E10 := c10.ext E9 (by have := E3.1; omega)
  have hm : decide ((1 : Int) + 3 * rl.length < 0) = false := decide_eq_false (by omega)
  simp (maxSteps := 4000000) (disch := omega) only [ah, am, Nat.reduceEqDiff, reduceCtorEq, Nat.reduceAdd, Nat.reduceLeDiff, Nat.reduceMul, Nat.reduceLT, if_true, if_false, true_and, and_true, and_self, Nat.reduceBEq, QOp.loads, boxO, bslO, buildO, cutL, fillV, putL, w13, v13]
  refine stepC.of (heldClipS_ok _ _ _ 1 Mg.slt (by omega) (by omega)) ?_
  rintro _ Hx ⟨hx, rfl⟩; rw [hx]; clear hx Hx
  simp (maxSteps := 4000000) (disch := omega) only [ah, am, Nat.reduceEqDiff, reduceCtorEq, Nat.reduceAdd, Nat.reduceLeDiff, Nat.reduceMul, Nat.reduceLT, if_true, if_false, true_and, and_true, and_self, Nat.reduceBEq, QOp.loads, boxO, bslO, buildO, cutL, fillV, putL, w13, v13, hm]
  refine stepC.of (toKeyS_ok _ _ _ (s.ext E10) hll) ?_
  intro t11 H11 F11
  have Mg := Mg.ext F11.1; have Mw := Mw.ext F11.1
  simp (maxSteps := 4000000) (disch := omega) only [ah, am, Nat.reduceEqDiff, reduceCtorEq, Nat.reduceAdd, Nat.reduceLeDiff, Nat.reduceMul, Nat.reduceLT, if_true, if_false, true_and, and_true, and_self, Nat.reduceBEq, QOp.loads, boxO, bslO, buildO, cutL, fillV, putL, w13, v13]
  refine stepC.of (Retime_ok _ _ _ _ _ F11.slt (by omega)) ?_
  rintro _ H12 ⟨h0, rfl, Fh⟩
  have Mg := Mg.ext Fh.1; have Mw := Mw.ext Fh.1
  rw [hR] at Fh ⊢
  simp only at Fh ⊢
  simp (maxSteps := 4000000) (disch := omega) only [ah, am, Nat.reduceEqDiff, reduceCtorEq, Nat.reduceAdd, Nat.reduceLeDiff, Nat.reduceMul, Nat.reduceLT, if_true, if_false, true_and, and_true, and_self, Nat.reduceBEq, QOp.loads, boxO, bslO, buildO, cutL, fillV, putL, w13, v13]
  refine stepC.of (eqClipS_ok _ _ _ _ _ Fh.slt Mw.slt (by omega) (by omega)) ?_
  rintro _ H13 ⟨e13, rfl⟩
  have Mg := Mg.ext e13
  simp (maxSteps := 4000000) (disch := omega) only [ah, am, Nat.reduceEqDiff, reduceCtorEq, Nat.reduceAdd, Nat.reduceLeDiff, Nat.reduceMul, Nat.reduceLT, if_true, if_false, true_and, and_true, and_self, Nat.reduceBEq, QOp.loads, boxO, bslO, buildO, cutL, fillV, putL, w13, v13, eqbV_bool', beq_self_eq_true]
  refine stepC.of (heldClipS_ok _ _ _ 1 Mg.slt (by omega) (by omega)) ?_
  rintro _ Hx ⟨hx, rfl⟩; rw [hx]; clear hx Hx
  simp (maxSteps := 4000000) (disch := omega) only [ah, am, Nat.reduceEqDiff, reduceCtorEq, Nat.reduceAdd, Nat.reduceLeDiff, Nat.reduceMul, Nat.reduceLT, if_true, if_false, true_and, and_true, and_self, Nat.reduceBEq, QOp.loads, boxO, bslO, buildO, cutL, fillV, putL, w13, v13, hm]
end Go.Proofs.Ytbanblghepekdaa
