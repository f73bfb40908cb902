import Derived.Test.YtbanblghepekdaaI12
import Derived.Test.YtbanblghepekdaaL0
namespace Go.Proofs.Ytbanblghepekdaa
open Go Go.Ah
set_option linter.unusedSimpArgs false
set_option linter.unusedVariables false
set_option maxRecDepth 10000
set_option maxHeartbeats 4000000
/-! 6 loop.example/g00066/laws.FnExactReverse: parameters 1, live [0], slots [0:aTrack, 1:aTrack, 3:left, 4:w0, 5:w1, 6:x0, 7:g0, 8:g1, 9:k, 10:m, 11:q, 12:h0, 13:h1] -/
def c6_0 : List SOper := [⟨some 2, .q (.mv (.c (.bool false))), none⟩]
def c6_1 : List SOper := [⟨some 3, .q (.mv (.c (.int .i64 1048576))), none⟩]
def c6_2 : List SOper := [⟨some 14, .q (.mv (.t 0)), none⟩, ⟨some 15, .q (.mv (.t 3)), none⟩, ⟨some 16, .e (.call 14 [(.t 14), (.t 15)]), none⟩, ⟨some 3, .q (.mv (.t 16)), none⟩]
def c6_3 : List SOper := [⟨some 17, .q (.mv (.t 3)), none⟩, ⟨some 18, .q (.bin .lss (.t 17) (.c (.int .i64 0))), none⟩]
def c6_4 : List SOper := [⟨some 2, .q (.mv (.c (.bool true))), none⟩]
def c6_5 : SCode := .seq (.region c6_4 [2]) .ret
def c6_6 : SCode := .cond (.t 18) c6_5 .skip
def c6_7 : SCode := .seq (.region c6_3 [0, 18]) c6_6
def c6_8 : List SOper := [⟨some 20, .q (.mv (.t 0)), none⟩, ⟨some 21, .e (.call 16 [(.t 20)]), none⟩, ⟨some 22, .e (.call 25 [(.t 21)]), none⟩, ⟨some 19, .q (.mv (.t 22)), none⟩, ⟨some 23, .q (.ext (.t 19) 0), none⟩, ⟨some 24, .q (.ext (.t 19) 1), none⟩, ⟨some 4, .q (.mv (.t 23)), none⟩, ⟨some 5, .q (.mv (.t 24)), none⟩]
def c6_9 : List SOper := [⟨some 25, .q (.mv (.t 0)), none⟩, ⟨some 26, .e (.call 16 [(.t 25)]), none⟩, ⟨some 6, .q (.mv (.t 26)), none⟩]
def c6_10 : List SOper := [⟨some 28, .q (.mv (.t 6)), none⟩, ⟨some 29, .e (.call 26 [(.t 28)]), none⟩, ⟨some 27, .q (.mv (.t 29)), none⟩, ⟨some 30, .q (.ext (.t 27) 0), none⟩, ⟨some 31, .q (.ext (.t 27) 1), none⟩, ⟨some 7, .q (.mv (.t 30)), none⟩, ⟨some 8, .q (.mv (.t 31)), none⟩]
def c6_11 : List SOper := [⟨some 32, .q (.mv (.t 7)), none⟩, ⟨some 33, .q (.mv (.t 4)), none⟩, ⟨some 34, .e (.call 18 [(.t 32), (.t 33)]), none⟩, ⟨some 35, .q (.not (.t 34)), none⟩, ⟨some 36, .q (.mv (.t 35)), none⟩, ⟨some 37, .q (.mv (.t 8)), some (36, false)⟩, ⟨some 38, .q (.mv (.t 5)), some (36, false)⟩, ⟨some 39, .q (.eqb true (.t 37) (.t 38)), some (36, false)⟩, ⟨some 40, .q (.pick (.t 36) (.c (.bool true)) (.t 39)), none⟩]
def c6_12 : List SOper := [⟨some 2, .q (.mv (.c (.bool false))), none⟩]
def c6_13 : SCode := .seq (.region c6_12 [2]) .ret
def c6_14 : SCode := .cond (.t 40) c6_13 .skip
def c6_15 : SCode := .seq (.region c6_11 [0, 4, 5, 6, 7, 8, 40]) c6_14
def c6_16 : List SOper := [⟨some 41, .q (.mv (.t 6)), none⟩, ⟨some 42, .q (.mv (.t 0)), none⟩, ⟨some 43, .e (.call 16 [(.t 42)]), none⟩, ⟨some 44, .e (.call 18 [(.t 41), (.t 43)]), none⟩, ⟨some 45, .q (.not (.t 44)), none⟩]
def c6_17 : List SOper := [⟨some 2, .q (.mv (.c (.bool false))), none⟩]
def c6_18 : SCode := .seq (.region c6_17 [2]) .ret
def c6_19 : SCode := .cond (.t 45) c6_18 .skip
def c6_20 : SCode := .seq (.region c6_16 [0, 4, 5, 6, 7, 8, 45]) c6_19
def c6_21 : List SOper := [⟨some 9, .q (.mv (.c (.int .i64 1))), none⟩]
def c6_22 : List SOper := [⟨some 46, .q (.mv (.t 6)), none⟩, ⟨some 47, .q (.mv (.t 9)), none⟩, ⟨some 48, .e (.call 19 [(.t 46), (.t 47)]), none⟩, ⟨some 9, .q (.mv (.t 48)), none⟩]
def c6_23 : List SOper := [⟨some 49, .q (.mv (.t 9)), none⟩, ⟨some 50, .q (.bin .lss (.t 49) (.c (.int .i64 0))), none⟩, ⟨some 51, .q (.mv (.t 50)), none⟩, ⟨some 52, .q (.mv (.t 7)), some (51, false)⟩, ⟨some 53, .q (.mv (.t 4)), some (51, false)⟩, ⟨some 54, .e (.call 18 [(.t 52), (.t 53)]), some (51, false)⟩, ⟨some 55, .q (.not (.t 54)), some (51, false)⟩, ⟨some 56, .q (.pick (.t 51) (.c (.bool true)) (.t 55)), none⟩, ⟨some 57, .q (.mv (.t 56)), none⟩, ⟨some 58, .q (.mv (.t 8)), some (57, false)⟩, ⟨some 59, .q (.mv (.t 5)), some (57, false)⟩, ⟨some 60, .q (.eqb true (.t 58) (.t 59)), some (57, false)⟩, ⟨some 61, .q (.pick (.t 57) (.c (.bool true)) (.t 60)), none⟩]
def c6_24 : List SOper := [⟨some 2, .q (.mv (.c (.bool false))), none⟩]
def c6_25 : SCode := .seq (.region c6_24 [2]) .ret
def c6_26 : SCode := .cond (.t 61) c6_25 .skip
def c6_27 : SCode := .seq (.region c6_23 [0, 4, 5, 7, 61]) c6_26
def c6_28 : List SOper := [⟨some 10, .q (.mv (.c (.int .i64 1))), none⟩]
def c6_29 : List SOper := [⟨some 62, .q (.mv (.t 7)), none⟩, ⟨some 63, .q (.mv (.t 10)), none⟩, ⟨some 64, .e (.call 19 [(.t 62), (.t 63)]), none⟩, ⟨some 10, .q (.mv (.t 64)), none⟩]
def c6_30 : List SOper := [⟨some 11, .q (.mv (.c (.int .i64 1))), none⟩]
def c6_31 : List SOper := [⟨some 65, .q (.mv (.t 7)), none⟩, ⟨some 66, .q (.mv (.t 11)), none⟩, ⟨some 67, .e (.call 20 [(.t 65), (.t 66)]), none⟩, ⟨some 11, .q (.mv (.t 67)), none⟩]
def c6_32 : List SOper := [⟨some 68, .q (.mv (.t 11)), none⟩, ⟨some 69, .q (.bin .lss (.t 68) (.c (.int .i64 0))), none⟩]
def c6_33 : List SOper := [⟨some 2, .q (.mv (.c (.bool false))), none⟩]
def c6_34 : SCode := .seq (.region c6_33 [2]) .ret
def c6_35 : SCode := .cond (.t 69) c6_34 .skip
def c6_36 : SCode := .seq (.region c6_32 [0, 4, 5, 7, 10, 11, 69]) c6_35
def c6_37 : List SOper := [⟨some 70, .q (.mv (.t 11)), none⟩, ⟨some 71, .q (.mv (.t 10)), none⟩, ⟨some 72, .q (.bin .neq (.t 70) (.t 71)), none⟩]
def c6_38 : List SOper := [⟨some 2, .q (.mv (.c (.bool false))), none⟩]
def c6_39 : SCode := .seq (.region c6_38 [2]) .ret
def c6_40 : SCode := .cond (.t 72) c6_39 .skip
def c6_41 : SCode := .seq (.region c6_37 [0, 4, 5, 7, 10, 72]) c6_40
def c6_42 : List SOper := [⟨some 74, .q (.mv (.t 0)), none⟩, ⟨some 75, .e (.call 16 [(.t 74)]), none⟩, ⟨some 76, .e (.call 26 [(.t 75)]), none⟩, ⟨some 73, .q (.mv (.t 76)), none⟩, ⟨some 77, .q (.ext (.t 73) 0), none⟩, ⟨some 78, .q (.ext (.t 73) 1), none⟩, ⟨some 12, .q (.mv (.t 77)), none⟩, ⟨some 13, .q (.mv (.t 78)), none⟩]
def c6_43 : List SOper := [⟨some 79, .q (.mv (.t 12)), none⟩, ⟨some 80, .q (.mv (.t 4)), none⟩, ⟨some 81, .e (.call 18 [(.t 79), (.t 80)]), none⟩, ⟨some 82, .q (.not (.t 81)), none⟩, ⟨some 83, .q (.mv (.t 82)), none⟩, ⟨some 84, .q (.mv (.t 13)), some (83, false)⟩, ⟨some 85, .q (.mv (.t 5)), some (83, false)⟩, ⟨some 86, .q (.eqb true (.t 84) (.t 85)), some (83, false)⟩, ⟨some 87, .q (.pick (.t 83) (.c (.bool true)) (.t 86)), none⟩]
def c6_44 : List SOper := [⟨some 2, .q (.mv (.c (.bool false))), none⟩]
def c6_45 : SCode := .seq (.region c6_44 [2]) .ret
def c6_46 : SCode := .cond (.t 87) c6_45 .skip
def c6_47 : SCode := .seq (.region c6_43 [7, 10, 87]) c6_46
def c6_48 : List SOper := [⟨some 11, .q (.mv (.c (.int .i64 1))), none⟩]
def c6_49 : List SOper := [⟨some 88, .q (.mv (.t 7)), none⟩, ⟨some 89, .q (.mv (.t 11)), none⟩, ⟨some 90, .e (.call 20 [(.t 88), (.t 89)]), none⟩, ⟨some 11, .q (.mv (.t 90)), none⟩]
def c6_50 : List SOper := [⟨some 91, .q (.mv (.t 11)), none⟩, ⟨some 92, .q (.bin .lss (.t 91) (.c (.int .i64 0))), none⟩]
def c6_51 : List SOper := [⟨some 2, .q (.mv (.c (.bool false))), none⟩]
def c6_52 : SCode := .seq (.region c6_51 [2]) .ret
def c6_53 : SCode := .cond (.t 92) c6_52 .skip
def c6_54 : SCode := .seq (.region c6_50 [10, 11, 92]) c6_53
def c6_55 : List SOper := [⟨some 93, .q (.mv (.t 11)), none⟩, ⟨some 94, .q (.mv (.t 10)), none⟩, ⟨some 95, .q (.bin .neq (.t 93) (.t 94)), none⟩]
def c6_56 : List SOper := [⟨some 2, .q (.mv (.c (.bool false))), none⟩]
def c6_57 : SCode := .seq (.region c6_56 [2]) .ret
def c6_58 : SCode := .cond (.t 95) c6_57 .skip
def c6_59 : SCode := .seq (.region c6_55 [95]) c6_58
def c6_60 : List SOper := [⟨some 2, .q (.mv (.c (.bool true))), none⟩]
def c6_61 : SCode := .seq (.region c6_60 [2]) .ret
def c6_62 : SCode := .seq c6_59 c6_61
def c6_63 : SCode := .seq c6_54 c6_62
def c6_64 : SCode := .seq (.region c6_49 [10, 11]) c6_63
def c6_65 : SCode := .seq (.region c6_48 [7, 10, 11]) c6_64
def c6_66 : SCode := .seq c6_47 c6_65
def c6_67 : SCode := .seq (.region c6_42 [4, 5, 7, 10, 12, 13]) c6_66
def c6_68 : SCode := .seq c6_41 c6_67
def c6_69 : SCode := .seq c6_36 c6_68
def c6_70 : SCode := .seq (.region c6_31 [0, 4, 5, 7, 10, 11]) c6_69
def c6_71 : SCode := .seq (.region c6_30 [0, 4, 5, 7, 10, 11]) c6_70
def c6_72 : SCode := .seq (.region c6_29 [0, 4, 5, 7, 10]) c6_71
def c6_73 : SCode := .seq (.region c6_28 [0, 4, 5, 7, 10]) c6_72
def c6_74 : SCode := .seq c6_27 c6_73
def c6_75 : SCode := .seq (.region c6_22 [0, 4, 5, 7, 8, 9]) c6_74
def c6_76 : SCode := .seq (.region c6_21 [0, 4, 5, 6, 7, 8, 9]) c6_75
def c6_77 : SCode := .seq c6_20 c6_76
def c6_78 : SCode := .seq c6_15 c6_77
def c6_79 : SCode := .seq (.region c6_10 [0, 4, 5, 6, 7, 8]) c6_78
def c6_80 : SCode := .seq (.region c6_9 [0, 4, 5, 6]) c6_79
def c6_81 : SCode := .seq (.region c6_8 [0, 4, 5]) c6_80
def c6_82 : SCode := .seq c6_7 c6_81
def c6_83 : SCode := .seq (.region c6_2 [0, 3]) c6_82
def c6_84 : SCode := .seq (.region c6_1 [0, 3]) c6_83
def c6_85 : SCode := .seq (.region c6_0 [0]) c6_84
def c6 : SCode := c6_85
theorem w6 : type_of% (And.intro (uR Try.prog c6_0.eq_1) (And.intro (uR Try.prog c6_1.eq_1) (And.intro (uR Try.prog c6_2.eq_1) (And.intro (uR Try.prog c6_3.eq_1) (And.intro (uR Try.prog c6_4.eq_1) (And.intro (uC Try.prog c6_5.eq_1) (And.intro (uC Try.prog c6_6.eq_1) (And.intro (uC Try.prog c6_7.eq_1) (And.intro (uR Try.prog c6_8.eq_1) (And.intro (uR Try.prog c6_9.eq_1) (And.intro (uR Try.prog c6_10.eq_1) (And.intro (uR Try.prog c6_11.eq_1) (And.intro (uR Try.prog c6_12.eq_1) (And.intro (uC Try.prog c6_13.eq_1) (And.intro (uC Try.prog c6_14.eq_1) (And.intro (uC Try.prog c6_15.eq_1) (And.intro (uR Try.prog c6_16.eq_1) (And.intro (uR Try.prog c6_17.eq_1) (And.intro (uC Try.prog c6_18.eq_1) (And.intro (uC Try.prog c6_19.eq_1) (And.intro (uC Try.prog c6_20.eq_1) (And.intro (uR Try.prog c6_21.eq_1) (And.intro (uR Try.prog c6_22.eq_1) (And.intro (uR Try.prog c6_23.eq_1) (And.intro (uR Try.prog c6_24.eq_1) (And.intro (uC Try.prog c6_25.eq_1) (And.intro (uC Try.prog c6_26.eq_1) (And.intro (uC Try.prog c6_27.eq_1) (And.intro (uR Try.prog c6_28.eq_1) (And.intro (uR Try.prog c6_29.eq_1) (And.intro (uR Try.prog c6_30.eq_1) (And.intro (uR Try.prog c6_31.eq_1) (And.intro (uR Try.prog c6_32.eq_1) (And.intro (uR Try.prog c6_33.eq_1) (And.intro (uC Try.prog c6_34.eq_1) (And.intro (uC Try.prog c6_35.eq_1) (And.intro (uC Try.prog c6_36.eq_1) (And.intro (uR Try.prog c6_37.eq_1) (And.intro (uR Try.prog c6_38.eq_1) (And.intro (uC Try.prog c6_39.eq_1) (And.intro (uC Try.prog c6_40.eq_1) (And.intro (uC Try.prog c6_41.eq_1) (And.intro (uR Try.prog c6_42.eq_1) (And.intro (uR Try.prog c6_43.eq_1) (And.intro (uR Try.prog c6_44.eq_1) (And.intro (uC Try.prog c6_45.eq_1) (And.intro (uC Try.prog c6_46.eq_1) (And.intro (uC Try.prog c6_47.eq_1) (And.intro (uR Try.prog c6_48.eq_1) (And.intro (uR Try.prog c6_49.eq_1) (And.intro (uR Try.prog c6_50.eq_1) (And.intro (uR Try.prog c6_51.eq_1) (And.intro (uC Try.prog c6_52.eq_1) (And.intro (uC Try.prog c6_53.eq_1) (And.intro (uC Try.prog c6_54.eq_1) (And.intro (uR Try.prog c6_55.eq_1) (And.intro (uR Try.prog c6_56.eq_1) (And.intro (uC Try.prog c6_57.eq_1) (And.intro (uC Try.prog c6_58.eq_1) (And.intro (uC Try.prog c6_59.eq_1) (And.intro (uR Try.prog c6_60.eq_1) (And.intro (uC Try.prog c6_61.eq_1) (And.intro (uC Try.prog c6_62.eq_1) (And.intro (uC Try.prog c6_63.eq_1) (And.intro (uC Try.prog c6_64.eq_1) (And.intro (uC Try.prog c6_65.eq_1) (And.intro (uC Try.prog c6_66.eq_1) (And.intro (uC Try.prog c6_67.eq_1) (And.intro (uC Try.prog c6_68.eq_1) (And.intro (uC Try.prog c6_69.eq_1) (And.intro (uC Try.prog c6_70.eq_1) (And.intro (uC Try.prog c6_71.eq_1) (And.intro (uC Try.prog c6_72.eq_1) (And.intro (uC Try.prog c6_73.eq_1) (And.intro (uC Try.prog c6_74.eq_1) (And.intro (uC Try.prog c6_75.eq_1) (And.intro (uC Try.prog c6_76.eq_1) (And.intro (uC Try.prog c6_77.eq_1) (And.intro (uC Try.prog c6_78.eq_1) (And.intro (uC Try.prog c6_79.eq_1) (And.intro (uC Try.prog c6_80.eq_1) (And.intro (uC Try.prog c6_81.eq_1) (And.intro (uC Try.prog c6_82.eq_1) (And.intro (uC Try.prog c6_83.eq_1) (And.intro (uC Try.prog c6_84.eq_1) (And.intro (uC Try.prog c6_85.eq_1) (uC Try.prog c6.eq_1))))))))))))))))))))))))))))))))))))))))))))))))))))))))))))))))))))))))))))))))))))))) := (And.intro (uR Try.prog c6_0.eq_1) (And.intro (uR Try.prog c6_1.eq_1) (And.intro (uR Try.prog c6_2.eq_1) (And.intro (uR Try.prog c6_3.eq_1) (And.intro (uR Try.prog c6_4.eq_1) (And.intro (uC Try.prog c6_5.eq_1) (And.intro (uC Try.prog c6_6.eq_1) (And.intro (uC Try.prog c6_7.eq_1) (And.intro (uR Try.prog c6_8.eq_1) (And.intro (uR Try.prog c6_9.eq_1) (And.intro (uR Try.prog c6_10.eq_1) (And.intro (uR Try.prog c6_11.eq_1) (And.intro (uR Try.prog c6_12.eq_1) (And.intro (uC Try.prog c6_13.eq_1) (And.intro (uC Try.prog c6_14.eq_1) (And.intro (uC Try.prog c6_15.eq_1) (And.intro (uR Try.prog c6_16.eq_1) (And.intro (uR Try.prog c6_17.eq_1) (And.intro (uC Try.prog c6_18.eq_1) (And.intro (uC Try.prog c6_19.eq_1) (And.intro (uC Try.prog c6_20.eq_1) (And.intro (uR Try.prog c6_21.eq_1) (And.intro (uR Try.prog c6_22.eq_1) (And.intro (uR Try.prog c6_23.eq_1) (And.intro (uR Try.prog c6_24.eq_1) (And.intro (uC Try.prog c6_25.eq_1) (And.intro (uC Try.prog c6_26.eq_1) (And.intro (uC Try.prog c6_27.eq_1) (And.intro (uR Try.prog c6_28.eq_1) (And.intro (uR Try.prog c6_29.eq_1) (And.intro (uR Try.prog c6_30.eq_1) (And.intro (uR Try.prog c6_31.eq_1) (And.intro (uR Try.prog c6_32.eq_1) (And.intro (uR Try.prog c6_33.eq_1) (And.intro (uC Try.prog c6_34.eq_1) (And.intro (uC Try.prog c6_35.eq_1) (And.intro (uC Try.prog c6_36.eq_1) (And.intro (uR Try.prog c6_37.eq_1) (And.intro (uR Try.prog c6_38.eq_1) (And.intro (uC Try.prog c6_39.eq_1) (And.intro (uC Try.prog c6_40.eq_1) (And.intro (uC Try.prog c6_41.eq_1) (And.intro (uR Try.prog c6_42.eq_1) (And.intro (uR Try.prog c6_43.eq_1) (And.intro (uR Try.prog c6_44.eq_1) (And.intro (uC Try.prog c6_45.eq_1) (And.intro (uC Try.prog c6_46.eq_1) (And.intro (uC Try.prog c6_47.eq_1) (And.intro (uR Try.prog c6_48.eq_1) (And.intro (uR Try.prog c6_49.eq_1) (And.intro (uR Try.prog c6_50.eq_1) (And.intro (uR Try.prog c6_51.eq_1) (And.intro (uC Try.prog c6_52.eq_1) (And.intro (uC Try.prog c6_53.eq_1) (And.intro (uC Try.prog c6_54.eq_1) (And.intro (uR Try.prog c6_55.eq_1) (And.intro (uR Try.prog c6_56.eq_1) (And.intro (uC Try.prog c6_57.eq_1) (And.intro (uC Try.prog c6_58.eq_1) (And.intro (uC Try.prog c6_59.eq_1) (And.intro (uR Try.prog c6_60.eq_1) (And.intro (uC Try.prog c6_61.eq_1) (And.intro (uC Try.prog c6_62.eq_1) (And.intro (uC Try.prog c6_63.eq_1) (And.intro (uC Try.prog c6_64.eq_1) (And.intro (uC Try.prog c6_65.eq_1) (And.intro (uC Try.prog c6_66.eq_1) (And.intro (uC Try.prog c6_67.eq_1) (And.intro (uC Try.prog c6_68.eq_1) (And.intro (uC Try.prog c6_69.eq_1) (And.intro (uC Try.prog c6_70.eq_1) (And.intro (uC Try.prog c6_71.eq_1) (And.intro (uC Try.prog c6_72.eq_1) (And.intro (uC Try.prog c6_73.eq_1) (And.intro (uC Try.prog c6_74.eq_1) (And.intro (uC Try.prog c6_75.eq_1) (And.intro (uC Try.prog c6_76.eq_1) (And.intro (uC Try.prog c6_77.eq_1) (And.intro (uC Try.prog c6_78.eq_1) (And.intro (uC Try.prog c6_79.eq_1) (And.intro (uC Try.prog c6_80.eq_1) (And.intro (uC Try.prog c6_81.eq_1) (And.intro (uC Try.prog c6_82.eq_1) (And.intro (uC Try.prog c6_83.eq_1) (And.intro (uC Try.prog c6_84.eq_1) (And.intro (uC Try.prog c6_85.eq_1) (uC Try.prog c6.eq_1)))))))))))))))))))))))))))))))))))))))))))))))))))))))))))))))))))))))))))))))))))))))
def v6 : List RV := [.t 2]
theorem s6 : slimF Try.prog Try.f6 = some (c6.bare, v6) := by kernel_rfl

theorem revF_length (l : List Clip) : (revF l).1.length ≤ 300 := by
  unfold revF; split
  · exact editF_length _
  · simp
theorem FnExactReverse_ok (h : Heap) (v : Value) (l : List Clip)  (s : SlT h encClip 3 v l) (hl : l.length ≤ 9223372036854775807) :
    ACall Try.prog 6 [v] h fun r h' => r = .bool true := by
  refine ACall.of Try.func6 s6 (of_decide_eq_true rfl) ?_
  simp (maxSteps := 4000000) (disch := omega) only [ah, am, Nat.reduceEqDiff, reduceCtorEq, Nat.reduceAdd, Nat.reduceLeDiff, Nat.reduceMul, Nat.reduceLT, if_true, if_false, true_and, and_true, and_self, Nat.reduceBEq, QOp.loads, boxO, bslO, buildO, cutL, fillV, putL, w6, v6]
  refine stepC.of (szClipS_ok _ v l 1048576 s (by omega) (by omega) hl) ?_
  rintro _ Hx ⟨hx, rfl⟩; rw [hx]; clear hx Hx
  simp (maxSteps := 4000000) (disch := omega) only [ah, am, Nat.reduceEqDiff, reduceCtorEq, Nat.reduceAdd, Nat.reduceLeDiff, Nat.reduceMul, Nat.reduceLT, if_true, if_false, true_and, and_true, and_self, Nat.reduceBEq, QOp.loads, boxO, bslO, buildO, cutL, fillV, putL, w6, v6]
  by_cases hsz : (1048576 : Int) - l.length < 0
  · simp (maxSteps := 4000000) (disch := omega) only [ah, am, Nat.reduceEqDiff, reduceCtorEq, Nat.reduceAdd, Nat.reduceLeDiff, Nat.reduceMul, Nat.reduceLT, if_true, if_false, true_and, and_true, and_self, Nat.reduceBEq, QOp.loads, boxO, bslO, buildO, cutL, fillV, putL, w6, v6, hsz, if_pos, stepI_dec]
  have hz : decide ((if (1048576 : Int) - l.length < 0 then -1 else 1048576 - (l.length : Int)) < 0) = false := by rw [if_neg hsz]; exact decide_eq_false hsz
  simp (maxSteps := 4000000) (disch := omega) only [ah, am, Nat.reduceEqDiff, reduceCtorEq, Nat.reduceAdd, Nat.reduceLeDiff, Nat.reduceMul, Nat.reduceLT, if_true, if_false, true_and, and_true, and_self, Nat.reduceBEq, QOp.loads, boxO, bslO, buildO, cutL, fillV, putL, w6, v6, hz]
  clear hz
  have hll : l.length ≤ 1048576 := by omega
  have hF := revF_length l
  refine stepC.of (toClipS_ok _ _ _ s hll) ?_
  intro t1 H1 F1
  simp (maxSteps := 4000000) (disch := omega) only [ah, am, Nat.reduceEqDiff, reduceCtorEq, Nat.reduceAdd, Nat.reduceLeDiff, Nat.reduceMul, Nat.reduceLT, if_true, if_false, true_and, and_true, and_self, Nat.reduceBEq, QOp.loads, boxO, bslO, buildO, cutL, fillV, putL, w6, v6]
  refine stepC.of (specReverse_ok _ _ _ F1.slt (by omega)) ?_
  rintro _ H2 ⟨w0, rfl, Fw⟩
  have E2 := F1.1.trans Fw.1
  have Mw := Fw.mine
  simp (maxSteps := 4000000) (disch := omega) only [ah, am, Nat.reduceEqDiff, reduceCtorEq, Nat.reduceAdd, Nat.reduceLeDiff, Nat.reduceMul, Nat.reduceLT, if_true, if_false, true_and, and_true, and_self, Nat.reduceBEq, QOp.loads, boxO, bslO, buildO, cutL, fillV, putL, w6, v6]
  refine stepC.of (toClipS_ok _ _ _ (s.ext E2) hll) ?_
  intro x0 H3 Fx
  have Mx := Fx.mine
  have E3 := E2.trans Fx.1
  have Mw := Mw.ext Fx.1
  simp (maxSteps := 4000000) (disch := omega) only [ah, am, Nat.reduceEqDiff, reduceCtorEq, Nat.reduceAdd, Nat.reduceLeDiff, Nat.reduceMul, Nat.reduceLT, if_true, if_false, true_and, and_true, and_self, Nat.reduceBEq, QOp.loads, boxO, bslO, buildO, cutL, fillV, putL, w6, v6]
  refine stepC.of (Reverse_ok _ _ _ Fx.slt (by omega)) ?_
  rintro _ H4 ⟨g0, rfl, Fg⟩
  have Mg := Fg.mine
  have E4 := E3.trans Fg.1
  have Mw := Mw.ext Fg.1
  have Mx := Mx.ext Fg.1
  have sz1 := F1.1.1; have sz2 := Fw.1.1; have sz3 := Fx.1.1; have sz4 := Fg.1.1
  obtain ⟨rl, rb, hR⟩ : ∃ rl rb, revF l = (rl, rb) := ⟨_, _, rfl⟩
  rw [hR] at Mw Mg hF ⊢
  simp only at Mw Mg hF ⊢
  simp (maxSteps := 4000000) (disch := omega) only [ah, am, Nat.reduceEqDiff, reduceCtorEq, Nat.reduceAdd, Nat.reduceLeDiff, Nat.reduceMul, Nat.reduceLT, if_true, if_false, true_and, and_true, and_self, Nat.reduceBEq, QOp.loads, boxO, bslO, buildO, cutL, fillV, putL, w6, v6]
  refine stepC.of (eqClipS_ok _ _ _ _ _ Mg.slt Mw.slt (by omega) (by omega)) ?_
  rintro _ H5 ⟨e5, rfl⟩
  have Mg := Mg.ext e5; have Mw := Mw.ext e5; have Mx := Mx.ext e5; have E5 := E4.trans e5
  simp (maxSteps := 4000000) (disch := omega) only [ah, am, Nat.reduceEqDiff, reduceCtorEq, Nat.reduceAdd, Nat.reduceLeDiff, Nat.reduceMul, Nat.reduceLT, if_true, if_false, true_and, and_true, and_self, Nat.reduceBEq, QOp.loads, boxO, bslO, buildO, cutL, fillV, putL, w6, v6, eqbV_bool', beq_self_eq_true]
  refine stepC.of (toClipS_ok _ _ _ (s.ext E5) hll) ?_
  intro t6 H6 F6
  have Mg := Mg.ext F6.1; have Mw := Mw.ext F6.1; have Mx := Mx.ext F6.1; have E6 := E5.trans F6.1
  simp (maxSteps := 4000000) (disch := omega) only [ah, am, Nat.reduceEqDiff, reduceCtorEq, Nat.reduceAdd, Nat.reduceLeDiff, Nat.reduceMul, Nat.reduceLT, if_true, if_false, true_and, and_true, and_self, Nat.reduceBEq, QOp.loads, boxO, bslO, buildO, cutL, fillV, putL, w6, v6]
  refine stepC.of (eqClipS_ok _ _ _ _ _ Mx.slt F6.slt (by omega) (by omega)) ?_
  rintro _ H7 ⟨e7, rfl⟩
  have Mg := Mg.ext e7; have Mw := Mw.ext e7; have Mx := Mx.ext e7; have E7 := E6.trans e7
  simp (maxSteps := 4000000) (disch := omega) only [ah, am, Nat.reduceEqDiff, reduceCtorEq, Nat.reduceAdd, Nat.reduceLeDiff, Nat.reduceMul, Nat.reduceLT, if_true, if_false, true_and, and_true, and_self, Nat.reduceBEq, QOp.loads, boxO, bslO, buildO, cutL, fillV, putL, w6, v6]
  refine stepC.of (markClipS_mine 1 Mx (by omega) (by omega)) ?_
  rintro _ H8 ⟨c8, Mx', rfl⟩
  have Mg := Mg.chg c8 (by omega); have Mw := Mw.chg c8 (by omega); have E8 := c8.ext E7 (by have := E2.1; omega)
  have hk : decide ((1 : Int) + 3 * l.length < 0) = false := decide_eq_false (by omega)
  simp (maxSteps := 4000000) (disch := omega) only [ah, am, Nat.reduceEqDiff, reduceCtorEq, Nat.reduceAdd, Nat.reduceLeDiff, Nat.reduceMul, Nat.reduceLT, if_true, if_false, true_and, and_true, and_self, Nat.reduceBEq, QOp.loads, boxO, bslO, buildO, cutL, fillV, putL, w6, v6, hk]
  refine stepC.of (eqClipS_ok _ _ _ _ _ Mg.slt Mw.slt (by omega) (by omega)) ?_
  rintro _ H9 ⟨e9, rfl⟩
  have Mg := Mg.ext e9; have Mw := Mw.ext e9; have E9 := E8.trans e9
  simp (maxSteps := 4000000) (disch := omega) only [ah, am, Nat.reduceEqDiff, reduceCtorEq, Nat.reduceAdd, Nat.reduceLeDiff, Nat.reduceMul, Nat.reduceLT, if_true, if_false, true_and, and_true, and_self, Nat.reduceBEq, QOp.loads, boxO, bslO, buildO, cutL, fillV, putL, w6, v6, eqbV_bool', beq_self_eq_true]
  refine stepC.of (markClipS_mine 1 Mg (by omega) (by omega)) ?_
  rintro _ H10 ⟨c10, Mg, rfl⟩
  have Mw := Mw.chg c10 (by omega); have E10 := c10.ext E9 (by have := E3.1; omega)
  have hm : decide ((1 : Int) + 3 * rl.length < 0) = false := decide_eq_false (by omega)
  simp (maxSteps := 4000000) (disch := omega) only [ah, am, Nat.reduceEqDiff, reduceCtorEq, Nat.reduceAdd, Nat.reduceLeDiff, Nat.reduceMul, Nat.reduceLT, if_true, if_false, true_and, and_true, and_self, Nat.reduceBEq, QOp.loads, boxO, bslO, buildO, cutL, fillV, putL, w6, v6]
  refine stepC.of (heldClipS_ok _ _ _ 1 Mg.slt (by omega) (by omega)) ?_
  rintro _ Hx ⟨hx, rfl⟩; rw [hx]; clear hx Hx
  simp (maxSteps := 4000000) (disch := omega) only [ah, am, Nat.reduceEqDiff, reduceCtorEq, Nat.reduceAdd, Nat.reduceLeDiff, Nat.reduceMul, Nat.reduceLT, if_true, if_false, true_and, and_true, and_self, Nat.reduceBEq, QOp.loads, boxO, bslO, buildO, cutL, fillV, putL, w6, v6, hm]
  refine stepC.of (toClipS_ok _ _ _ (s.ext E10) hll) ?_
  intro t11 H11 F11
  have Mg := Mg.ext F11.1; have Mw := Mw.ext F11.1
  simp (maxSteps := 4000000) (disch := omega) only [ah, am, Nat.reduceEqDiff, reduceCtorEq, Nat.reduceAdd, Nat.reduceLeDiff, Nat.reduceMul, Nat.reduceLT, if_true, if_false, true_and, and_true, and_self, Nat.reduceBEq, QOp.loads, boxO, bslO, buildO, cutL, fillV, putL, w6, v6]
  refine stepC.of (Reverse_ok _ _ _ F11.slt (by omega)) ?_
  rintro _ H12 ⟨h0, rfl, Fh⟩
  have Mg := Mg.ext Fh.1; have Mw := Mw.ext Fh.1
  rw [hR] at Fh ⊢
  simp only at Fh ⊢
  simp (maxSteps := 4000000) (disch := omega) only [ah, am, Nat.reduceEqDiff, reduceCtorEq, Nat.reduceAdd, Nat.reduceLeDiff, Nat.reduceMul, Nat.reduceLT, if_true, if_false, true_and, and_true, and_self, Nat.reduceBEq, QOp.loads, boxO, bslO, buildO, cutL, fillV, putL, w6, v6]
  refine stepC.of (eqClipS_ok _ _ _ _ _ Fh.slt Mw.slt (by omega) (by omega)) ?_
  rintro _ H13 ⟨e13, rfl⟩
  have Mg := Mg.ext e13
  simp (maxSteps := 4000000) (disch := omega) only [ah, am, Nat.reduceEqDiff, reduceCtorEq, Nat.reduceAdd, Nat.reduceLeDiff, Nat.reduceMul, Nat.reduceLT, if_true, if_false, true_and, and_true, and_self, Nat.reduceBEq, QOp.loads, boxO, bslO, buildO, cutL, fillV, putL, w6, v6, eqbV_bool', beq_self_eq_true]
  refine stepC.of (heldClipS_ok _ _ _ 1 Mg.slt (by omega) (by omega)) ?_
  rintro _ Hx ⟨hx, rfl⟩; rw [hx]; clear hx Hx
  simp (maxSteps := 4000000) (disch := omega) only [ah, am, Nat.reduceEqDiff, reduceCtorEq, Nat.reduceAdd, Nat.reduceLeDiff, Nat.reduceMul, Nat.reduceLT, if_true, if_false, true_and, and_true, and_self, Nat.reduceBEq, QOp.loads, boxO, bslO, buildO, cutL, fillV, putL, w6, v6, hm]
end Go.Proofs.Ytbanblghepekdaa
