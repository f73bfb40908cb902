import Derived.Test.YtbanblghepekdaaI9
import Derived.Test.YtbanblghepekdaaL0
namespace Go.Proofs.Ytbanblghepekdaa
open Go Go.Ah
set_option linter.unusedSimpArgs false
set_option linter.unusedVariables false
set_option maxRecDepth 10000
set_option maxHeartbeats 4000000
/-! 9 loop.example/g00066/laws.FnExactInsert: parameters 3, live [0, 1, 2], slots [0:aTrack, 1:aAt, 2:aClip, 3:aTrack, 4:aAt, 5:aClip, 7:left, 8:w0, 9:w1, 10:x0, 11:g0, 12:g1, 13:k, 14:m, 15:q, 16:h0, 17:h1] -/
def c9_0 : List SOper := [⟨some 5, .a (.box (.t 2)), none⟩, ⟨some 6, .q (.mv (.c (.bool false))), none⟩]
def c9_1 : List SOper := [⟨some 7, .q (.mv (.c (.int .i64 1048576))), none⟩]
def c9_2 : List SOper := [⟨some 18, .q (.mv (.t 0)), none⟩, ⟨some 19, .q (.mv (.t 7)), none⟩, ⟨some 20, .e (.call 14 [(.t 18), (.t 19)]), none⟩, ⟨some 7, .q (.mv (.t 20)), none⟩]
def c9_3 : List SOper := [⟨some 21, .q (.mv (.t 7)), none⟩, ⟨some 22, .q (.bin .lss (.t 21) (.c (.int .i64 0))), none⟩]
def c9_4 : List SOper := [⟨some 6, .q (.mv (.c (.bool true))), none⟩]
def c9_5 : SCode := .seq (.region c9_4 [6]) .ret
def c9_6 : SCode := .cond (.t 22) c9_5 .skip
def c9_7 : SCode := .seq (.region c9_3 [0, 1, 5, 22]) c9_6
def c9_8 : List DOper := [⟨0, ⟨some 24, .q (.mv (.t 0)), none⟩, [], []⟩, ⟨2, ⟨some 26, .q (.mv (.t 1)), none⟩, [], []⟩, ⟨3, ⟨some 27, .q (.ldn 3 (.t 5)), none⟩, [], []⟩, ⟨1, ⟨some 25, .e (.call 16 [(.t 24)]), none⟩, [], [3]⟩, ⟨4, ⟨some 28, .e (.call 32 [(.t 27)]), none⟩, [], []⟩, ⟨5, ⟨some 29, .e (.call 31 [(.t 25), (.t 26), (.t 28)]), none⟩, [], []⟩, ⟨6, ⟨some 23, .q (.mv (.t 29)), none⟩, [], []⟩, ⟨7, ⟨some 30, .q (.ext (.t 23) 0), none⟩, [], []⟩, ⟨8, ⟨some 31, .q (.ext (.t 23) 1), none⟩, [], []⟩, ⟨9, ⟨some 8, .q (.mv (.t 30)), none⟩, [], []⟩, ⟨10, ⟨some 9, .q (.mv (.t 31)), none⟩, [], []⟩]
def c9_9 : List SOper := [⟨some 32, .q (.mv (.t 0)), none⟩, ⟨some 33, .e (.call 16 [(.t 32)]), none⟩, ⟨some 10, .q (.mv (.t 33)), none⟩]
def c9_10 : List SOper := [⟨some 35, .q (.mv (.t 10)), none⟩, ⟨some 36, .q (.mv (.t 1)), none⟩, ⟨some 37, .q (.ldn 3 (.t 5)), none⟩, ⟨some 38, .e (.call 32 [(.t 37)]), none⟩, ⟨some 39, .e (.call 33 [(.t 35), (.t 36), (.t 38)]), none⟩, ⟨some 34, .q (.mv (.t 39)), none⟩, ⟨some 40, .q (.ext (.t 34) 0), none⟩, ⟨some 41, .q (.ext (.t 34) 1), none⟩, ⟨some 11, .q (.mv (.t 40)), none⟩, ⟨some 12, .q (.mv (.t 41)), none⟩]
def c9_11 : List SOper := [⟨some 42, .q (.mv (.t 11)), none⟩, ⟨some 43, .q (.mv (.t 8)), none⟩, ⟨some 44, .e (.call 18 [(.t 42), (.t 43)]), none⟩, ⟨some 45, .q (.not (.t 44)), none⟩, ⟨some 46, .q (.mv (.t 45)), none⟩, ⟨some 47, .q (.mv (.t 12)), some (46, false)⟩, ⟨some 48, .q (.mv (.t 9)), some (46, false)⟩, ⟨some 49, .q (.eqb true (.t 47) (.t 48)), some (46, false)⟩, ⟨some 50, .q (.pick (.t 46) (.c (.bool true)) (.t 49)), none⟩]
def c9_12 : List SOper := [⟨some 6, .q (.mv (.c (.bool false))), none⟩]
def c9_13 : SCode := .seq (.region c9_12 [6]) .ret
def c9_14 : SCode := .cond (.t 50) c9_13 .skip
def c9_15 : SCode := .seq (.region c9_11 [0, 1, 5, 8, 9, 10, 11, 12, 50]) c9_14
def c9_16 : List SOper := [⟨some 51, .q (.mv (.t 10)), none⟩, ⟨some 52, .q (.mv (.t 0)), none⟩, ⟨some 53, .e (.call 16 [(.t 52)]), none⟩, ⟨some 54, .e (.call 18 [(.t 51), (.t 53)]), none⟩, ⟨some 55, .q (.not (.t 54)), none⟩]
def c9_17 : List SOper := [⟨some 6, .q (.mv (.c (.bool false))), none⟩]
def c9_18 : SCode := .seq (.region c9_17 [6]) .ret
def c9_19 : SCode := .cond (.t 55) c9_18 .skip
def c9_20 : SCode := .seq (.region c9_16 [0, 1, 5, 8, 9, 10, 11, 12, 55]) c9_19
def c9_21 : List SOper := [⟨some 13, .q (.mv (.c (.int .i64 1))), none⟩]
def c9_22 : List SOper := [⟨some 56, .q (.mv (.t 10)), none⟩, ⟨some 57, .q (.mv (.t 13)), none⟩, ⟨some 58, .e (.call 19 [(.t 56), (.t 57)]), none⟩, ⟨some 13, .q (.mv (.t 58)), none⟩]
def c9_23 : List SOper := [⟨some 59, .q (.mv (.t 13)), none⟩, ⟨some 60, .q (.bin .lss (.t 59) (.c (.int .i64 0))), none⟩, ⟨some 61, .q (.mv (.t 60)), none⟩, ⟨some 62, .q (.mv (.t 11)), some (61, false)⟩, ⟨some 63, .q (.mv (.t 8)), some (61, false)⟩, ⟨some 64, .e (.call 18 [(.t 62), (.t 63)]), some (61, false)⟩, ⟨some 65, .q (.not (.t 64)), some (61, false)⟩, ⟨some 66, .q (.pick (.t 61) (.c (.bool true)) (.t 65)), none⟩, ⟨some 67, .q (.mv (.t 66)), none⟩, ⟨some 68, .q (.mv (.t 12)), some (67, false)⟩, ⟨some 69, .q (.mv (.t 9)), some (67, false)⟩, ⟨some 70, .q (.eqb true (.t 68) (.t 69)), some (67, false)⟩, ⟨some 71, .q (.pick (.t 67) (.c (.bool true)) (.t 70)), none⟩]
def c9_24 : List SOper := [⟨some 6, .q (.mv (.c (.bool false))), none⟩]
def c9_25 : SCode := .seq (.region c9_24 [6]) .ret
def c9_26 : SCode := .cond (.t 71) c9_25 .skip
def c9_27 : SCode := .seq (.region c9_23 [0, 1, 5, 8, 9, 11, 71]) c9_26
def c9_28 : List SOper := [⟨some 14, .q (.mv (.c (.int .i64 1))), none⟩]
def c9_29 : List SOper := [⟨some 72, .q (.mv (.t 11)), none⟩, ⟨some 73, .q (.mv (.t 14)), none⟩, ⟨some 74, .e (.call 19 [(.t 72), (.t 73)]), none⟩, ⟨some 14, .q (.mv (.t 74)), none⟩]
def c9_30 : List SOper := [⟨some 15, .q (.mv (.c (.int .i64 1))), none⟩]
def c9_31 : List SOper := [⟨some 75, .q (.mv (.t 11)), none⟩, ⟨some 76, .q (.mv (.t 15)), none⟩, ⟨some 77, .e (.call 20 [(.t 75), (.t 76)]), none⟩, ⟨some 15, .q (.mv (.t 77)), none⟩]
def c9_32 : List SOper := [⟨some 78, .q (.mv (.t 15)), none⟩, ⟨some 79, .q (.bin .lss (.t 78) (.c (.int .i64 0))), none⟩]
def c9_33 : List SOper := [⟨some 6, .q (.mv (.c (.bool false))), none⟩]
def c9_34 : SCode := .seq (.region c9_33 [6]) .ret
def c9_35 : SCode := .cond (.t 79) c9_34 .skip
def c9_36 : SCode := .seq (.region c9_32 [0, 1, 5, 8, 9, 11, 14, 15, 79]) c9_35
def c9_37 : List SOper := [⟨some 80, .q (.mv (.t 15)), none⟩, ⟨some 81, .q (.mv (.t 14)), none⟩, ⟨some 82, .q (.bin .neq (.t 80) (.t 81)), none⟩]
def c9_38 : List SOper := [⟨some 6, .q (.mv (.c (.bool false))), none⟩]
def c9_39 : SCode := .seq (.region c9_38 [6]) .ret
def c9_40 : SCode := .cond (.t 82) c9_39 .skip
def c9_41 : SCode := .seq (.region c9_37 [0, 1, 5, 8, 9, 11, 14, 82]) c9_40
def c9_42 : List DOper := [⟨0, ⟨some 84, .q (.mv (.t 0)), none⟩, [], []⟩, ⟨2, ⟨some 86, .q (.mv (.t 1)), none⟩, [], []⟩, ⟨3, ⟨some 87, .q (.ldn 3 (.t 5)), none⟩, [], []⟩, ⟨1, ⟨some 85, .e (.call 16 [(.t 84)]), none⟩, [], [3]⟩, ⟨4, ⟨some 88, .e (.call 32 [(.t 87)]), none⟩, [], []⟩, ⟨5, ⟨some 89, .e (.call 33 [(.t 85), (.t 86), (.t 88)]), none⟩, [], []⟩, ⟨6, ⟨some 83, .q (.mv (.t 89)), none⟩, [], []⟩, ⟨7, ⟨some 90, .q (.ext (.t 83) 0), none⟩, [], []⟩, ⟨8, ⟨some 91, .q (.ext (.t 83) 1), none⟩, [], []⟩, ⟨9, ⟨some 16, .q (.mv (.t 90)), none⟩, [], []⟩, ⟨10, ⟨some 17, .q (.mv (.t 91)), none⟩, [], []⟩]
def c9_43 : List SOper := [⟨some 92, .q (.mv (.t 16)), none⟩, ⟨some 93, .q (.mv (.t 8)), none⟩, ⟨some 94, .e (.call 18 [(.t 92), (.t 93)]), none⟩, ⟨some 95, .q (.not (.t 94)), none⟩, ⟨some 96, .q (.mv (.t 95)), none⟩, ⟨some 97, .q (.mv (.t 17)), some (96, false)⟩, ⟨some 98, .q (.mv (.t 9)), some (96, false)⟩, ⟨some 99, .q (.eqb true (.t 97) (.t 98)), some (96, false)⟩, ⟨some 100, .q (.pick (.t 96) (.c (.bool true)) (.t 99)), none⟩]
def c9_44 : List SOper := [⟨some 6, .q (.mv (.c (.bool false))), none⟩]
def c9_45 : SCode := .seq (.region c9_44 [6]) .ret
def c9_46 : SCode := .cond (.t 100) c9_45 .skip
def c9_47 : SCode := .seq (.region c9_43 [11, 14, 100]) c9_46
def c9_48 : List SOper := [⟨some 15, .q (.mv (.c (.int .i64 1))), none⟩]
def c9_49 : List SOper := [⟨some 101, .q (.mv (.t 11)), none⟩, ⟨some 102, .q (.mv (.t 15)), none⟩, ⟨some 103, .e (.call 20 [(.t 101), (.t 102)]), none⟩, ⟨some 15, .q (.mv (.t 103)), none⟩]
def c9_50 : List SOper := [⟨some 104, .q (.mv (.t 15)), none⟩, ⟨some 105, .q (.bin .lss (.t 104) (.c (.int .i64 0))), none⟩]
def c9_51 : List SOper := [⟨some 6, .q (.mv (.c (.bool false))), none⟩]
def c9_52 : SCode := .seq (.region c9_51 [6]) .ret
def c9_53 : SCode := .cond (.t 105) c9_52 .skip
def c9_54 : SCode := .seq (.region c9_50 [14, 15, 105]) c9_53
def c9_55 : List SOper := [⟨some 106, .q (.mv (.t 15)), none⟩, ⟨some 107, .q (.mv (.t 14)), none⟩, ⟨some 108, .q (.bin .neq (.t 106) (.t 107)), none⟩]
def c9_56 : List SOper := [⟨some 6, .q (.mv (.c (.bool false))), none⟩]
def c9_57 : SCode := .seq (.region c9_56 [6]) .ret
def c9_58 : SCode := .cond (.t 108) c9_57 .skip
def c9_59 : SCode := .seq (.region c9_55 [108]) c9_58
def c9_60 : List SOper := [⟨some 6, .q (.mv (.c (.bool true))), none⟩]
def c9_61 : SCode := .seq (.region c9_60 [6]) .ret
def c9_62 : SCode := .seq c9_59 c9_61
def c9_63 : SCode := .seq c9_54 c9_62
def c9_64 : SCode := .seq (.region c9_49 [14, 15]) c9_63
def c9_65 : SCode := .seq (.region c9_48 [11, 14, 15]) c9_64
def c9_66 : SCode := .seq c9_47 c9_65
def c9_67 : SCode := .seq (.dregion c9_42 [8, 9, 11, 14, 16, 17]) c9_66
def c9_68 : SCode := .seq c9_41 c9_67
def c9_69 : SCode := .seq c9_36 c9_68
def c9_70 : SCode := .seq (.region c9_31 [0, 1, 5, 8, 9, 11, 14, 15]) c9_69
def c9_71 : SCode := .seq (.region c9_30 [0, 1, 5, 8, 9, 11, 14, 15]) c9_70
def c9_72 : SCode := .seq (.region c9_29 [0, 1, 5, 8, 9, 11, 14]) c9_71
def c9_73 : SCode := .seq (.region c9_28 [0, 1, 5, 8, 9, 11, 14]) c9_72
def c9_74 : SCode := .seq c9_27 c9_73
def c9_75 : SCode := .seq (.region c9_22 [0, 1, 5, 8, 9, 11, 12, 13]) c9_74
def c9_76 : SCode := .seq (.region c9_21 [0, 1, 5, 8, 9, 10, 11, 12, 13]) c9_75
def c9_77 : SCode := .seq c9_20 c9_76
def c9_78 : SCode := .seq c9_15 c9_77
def c9_79 : SCode := .seq (.region c9_10 [0, 1, 5, 8, 9, 10, 11, 12]) c9_78
def c9_80 : SCode := .seq (.region c9_9 [0, 1, 5, 8, 9, 10]) c9_79
def c9_81 : SCode := .seq (.dregion c9_8 [0, 1, 5, 8, 9]) c9_80
def c9_82 : SCode := .seq c9_7 c9_81
def c9_83 : SCode := .seq (.region c9_2 [0, 1, 5, 7]) c9_82
def c9_84 : SCode := .seq (.region c9_1 [0, 1, 5, 7]) c9_83
def c9_85 : SCode := .seq (.region c9_0 [0, 1, 5]) c9_84
def c9 : SCode := c9_85
theorem w9 : type_of% (And.intro (uR Try.prog c9_0.eq_1) (And.intro (uR Try.prog c9_1.eq_1) (And.intro (uR Try.prog c9_2.eq_1) (And.intro (uR Try.prog c9_3.eq_1) (And.intro (uR Try.prog c9_4.eq_1) (And.intro (uC Try.prog c9_5.eq_1) (And.intro (uC Try.prog c9_6.eq_1) (And.intro (uC Try.prog c9_7.eq_1) (And.intro (uD Try.prog c9_8.eq_1) (And.intro (uR Try.prog c9_9.eq_1) (And.intro (uR Try.prog c9_10.eq_1) (And.intro (uR Try.prog c9_11.eq_1) (And.intro (uR Try.prog c9_12.eq_1) (And.intro (uC Try.prog c9_13.eq_1) (And.intro (uC Try.prog c9_14.eq_1) (And.intro (uC Try.prog c9_15.eq_1) (And.intro (uR Try.prog c9_16.eq_1) (And.intro (uR Try.prog c9_17.eq_1) (And.intro (uC Try.prog c9_18.eq_1) (And.intro (uC Try.prog c9_19.eq_1) (And.intro (uC Try.prog c9_20.eq_1) (And.intro (uR Try.prog c9_21.eq_1) (And.intro (uR Try.prog c9_22.eq_1) (And.intro (uR Try.prog c9_23.eq_1) (And.intro (uR Try.prog c9_24.eq_1) (And.intro (uC Try.prog c9_25.eq_1) (And.intro (uC Try.prog c9_26.eq_1) (And.intro (uC Try.prog c9_27.eq_1) (And.intro (uR Try.prog c9_28.eq_1) (And.intro (uR Try.prog c9_29.eq_1) (And.intro (uR Try.prog c9_30.eq_1) (And.intro (uR Try.prog c9_31.eq_1) (And.intro (uR Try.prog c9_32.eq_1) (And.intro (uR Try.prog c9_33.eq_1) (And.intro (uC Try.prog c9_34.eq_1) (And.intro (uC Try.prog c9_35.eq_1) (And.intro (uC Try.prog c9_36.eq_1) (And.intro (uR Try.prog c9_37.eq_1) (And.intro (uR Try.prog c9_38.eq_1) (And.intro (uC Try.prog c9_39.eq_1) (And.intro (uC Try.prog c9_40.eq_1) (And.intro (uC Try.prog c9_41.eq_1) (And.intro (uD Try.prog c9_42.eq_1) (And.intro (uR Try.prog c9_43.eq_1) (And.intro (uR Try.prog c9_44.eq_1) (And.intro (uC Try.prog c9_45.eq_1) (And.intro (uC Try.prog c9_46.eq_1) (And.intro (uC Try.prog c9_47.eq_1) (And.intro (uR Try.prog c9_48.eq_1) (And.intro (uR Try.prog c9_49.eq_1) (And.intro (uR Try.prog c9_50.eq_1) (And.intro (uR Try.prog c9_51.eq_1) (And.intro (uC Try.prog c9_52.eq_1) (And.intro (uC Try.prog c9_53.eq_1) (And.intro (uC Try.prog c9_54.eq_1) (And.intro (uR Try.prog c9_55.eq_1) (And.intro (uR Try.prog c9_56.eq_1) (And.intro (uC Try.prog c9_57.eq_1) (And.intro (uC Try.prog c9_58.eq_1) (And.intro (uC Try.prog c9_59.eq_1) (And.intro (uR Try.prog c9_60.eq_1) (And.intro (uC Try.prog c9_61.eq_1) (And.intro (uC Try.prog c9_62.eq_1) (And.intro (uC Try.prog c9_63.eq_1) (And.intro (uC Try.prog c9_64.eq_1) (And.intro (uC Try.prog c9_65.eq_1) (And.intro (uC Try.prog c9_66.eq_1) (And.intro (uC Try.prog c9_67.eq_1) (And.intro (uC Try.prog c9_68.eq_1) (And.intro (uC Try.prog c9_69.eq_1) (And.intro (uC Try.prog c9_70.eq_1) (And.intro (uC Try.prog c9_71.eq_1) (And.intro (uC Try.prog c9_72.eq_1) (And.intro (uC Try.prog c9_73.eq_1) (And.intro (uC Try.prog c9_74.eq_1) (And.intro (uC Try.prog c9_75.eq_1) (And.intro (uC Try.prog c9_76.eq_1) (And.intro (uC Try.prog c9_77.eq_1) (And.intro (uC Try.prog c9_78.eq_1) (And.intro (uC Try.prog c9_79.eq_1) (And.intro (uC Try.prog c9_80.eq_1) (And.intro (uC Try.prog c9_81.eq_1) (And.intro (uC Try.prog c9_82.eq_1) (And.intro (uC Try.prog c9_83.eq_1) (And.intro (uC Try.prog c9_84.eq_1) (And.intro (uC Try.prog c9_85.eq_1) (uC Try.prog c9.eq_1))))))))))))))))))))))))))))))))))))))))))))))))))))))))))))))))))))))))))))))))))))))) := (And.intro (uR Try.prog c9_0.eq_1) (And.intro (uR Try.prog c9_1.eq_1) (And.intro (uR Try.prog c9_2.eq_1) (And.intro (uR Try.prog c9_3.eq_1) (And.intro (uR Try.prog c9_4.eq_1) (And.intro (uC Try.prog c9_5.eq_1) (And.intro (uC Try.prog c9_6.eq_1) (And.intro (uC Try.prog c9_7.eq_1) (And.intro (uD Try.prog c9_8.eq_1) (And.intro (uR Try.prog c9_9.eq_1) (And.intro (uR Try.prog c9_10.eq_1) (And.intro (uR Try.prog c9_11.eq_1) (And.intro (uR Try.prog c9_12.eq_1) (And.intro (uC Try.prog c9_13.eq_1) (And.intro (uC Try.prog c9_14.eq_1) (And.intro (uC Try.prog c9_15.eq_1) (And.intro (uR Try.prog c9_16.eq_1) (And.intro (uR Try.prog c9_17.eq_1) (And.intro (uC Try.prog c9_18.eq_1) (And.intro (uC Try.prog c9_19.eq_1) (And.intro (uC Try.prog c9_20.eq_1) (And.intro (uR Try.prog c9_21.eq_1) (And.intro (uR Try.prog c9_22.eq_1) (And.intro (uR Try.prog c9_23.eq_1) (And.intro (uR Try.prog c9_24.eq_1) (And.intro (uC Try.prog c9_25.eq_1) (And.intro (uC Try.prog c9_26.eq_1) (And.intro (uC Try.prog c9_27.eq_1) (And.intro (uR Try.prog c9_28.eq_1) (And.intro (uR Try.prog c9_29.eq_1) (And.intro (uR Try.prog c9_30.eq_1) (And.intro (uR Try.prog c9_31.eq_1) (And.intro (uR Try.prog c9_32.eq_1) (And.intro (uR Try.prog c9_33.eq_1) (And.intro (uC Try.prog c9_34.eq_1) (And.intro (uC Try.prog c9_35.eq_1) (And.intro (uC Try.prog c9_36.eq_1) (And.intro (uR Try.prog c9_37.eq_1) (And.intro (uR Try.prog c9_38.eq_1) (And.intro (uC Try.prog c9_39.eq_1) (And.intro (uC Try.prog c9_40.eq_1) (And.intro (uC Try.prog c9_41.eq_1) (And.intro (uD Try.prog c9_42.eq_1) (And.intro (uR Try.prog c9_43.eq_1) (And.intro (uR Try.prog c9_44.eq_1) (And.intro (uC Try.prog c9_45.eq_1) (And.intro (uC Try.prog c9_46.eq_1) (And.intro (uC Try.prog c9_47.eq_1) (And.intro (uR Try.prog c9_48.eq_1) (And.intro (uR Try.prog c9_49.eq_1) (And.intro (uR Try.prog c9_50.eq_1) (And.intro (uR Try.prog c9_51.eq_1) (And.intro (uC Try.prog c9_52.eq_1) (And.intro (uC Try.prog c9_53.eq_1) (And.intro (uC Try.prog c9_54.eq_1) (And.intro (uR Try.prog c9_55.eq_1) (And.intro (uR Try.prog c9_56.eq_1) (And.intro (uC Try.prog c9_57.eq_1) (And.intro (uC Try.prog c9_58.eq_1) (And.intro (uC Try.prog c9_59.eq_1) (And.intro (uR Try.prog c9_60.eq_1) (And.intro (uC Try.prog c9_61.eq_1) (And.intro (uC Try.prog c9_62.eq_1) (And.intro (uC Try.prog c9_63.eq_1) (And.intro (uC Try.prog c9_64.eq_1) (And.intro (uC Try.prog c9_65.eq_1) (And.intro (uC Try.prog c9_66.eq_1) (And.intro (uC Try.prog c9_67.eq_1) (And.intro (uC Try.prog c9_68.eq_1) (And.intro (uC Try.prog c9_69.eq_1) (And.intro (uC Try.prog c9_70.eq_1) (And.intro (uC Try.prog c9_71.eq_1) (And.intro (uC Try.prog c9_72.eq_1) (And.intro (uC Try.prog c9_73.eq_1) (And.intro (uC Try.prog c9_74.eq_1) (And.intro (uC Try.prog c9_75.eq_1) (And.intro (uC Try.prog c9_76.eq_1) (And.intro (uC Try.prog c9_77.eq_1) (And.intro (uC Try.prog c9_78.eq_1) (And.intro (uC Try.prog c9_79.eq_1) (And.intro (uC Try.prog c9_80.eq_1) (And.intro (uC Try.prog c9_81.eq_1) (And.intro (uC Try.prog c9_82.eq_1) (And.intro (uC Try.prog c9_83.eq_1) (And.intro (uC Try.prog c9_84.eq_1) (And.intro (uC Try.prog c9_85.eq_1) (uC Try.prog c9.eq_1)))))))))))))))))))))))))))))))))))))))))))))))))))))))))))))))))))))))))))))))))))))))
def v9 : List RV := [.t 6]
theorem s9 : slimF Try.prog Try.f9 = some (c9.bare, v9) := by kernel_rfl

theorem putS_length (l : List Clip) (a : Int) (m : List Clip) (b : Int) : (putS l a m b).1.length ≤ 300 := editF_length _
theorem insertS_length (l : List Clip) (a : Int) (n : Clip) : (insertS l a n).1.length ≤ 300 := by
  unfold insertS; split
  · exact putS_length _ _ _ _
  · simp
theorem FnExactInsert_ok (h : Heap) (v : Value) (l : List Clip) (i : Int) (k : Clip) (s : SlT h encClip 3 v l) (hl : l.length ≤ 9223372036854775807) :
    ACall Try.prog 9 [v, .int .i64 i, .agg (encClip k).toArray] h fun r h' => r = .bool true := by
  refine ACall.of Try.func9 s9 (of_decide_eq_true rfl) ?_
  obtain ⟨k1, k2, k3⟩ := k
  simp (maxSteps := 4000000) (disch := omega) only [ah, am, Nat.reduceEqDiff, reduceCtorEq, Nat.reduceAdd, Nat.reduceLeDiff, Nat.reduceMul, Nat.reduceLT, if_true, if_false, true_and, and_true, and_self, Nat.reduceBEq, QOp.loads, boxO, bslO, buildO, cutL, fillV, putL, w9, v9, encClip]
  have s := s.ext (Ext.more h [[.int .i64 k1, .int .i64 k2, .int .i64 k3]])
  refine stepC.of (szClipS_ok _ v l 1048576 s (by omega) (by omega) hl) ?_
  rintro _ Hx ⟨hx, rfl⟩; rw [hx]; clear hx Hx
  simp (maxSteps := 4000000) (disch := omega) only [ah, am, Nat.reduceEqDiff, reduceCtorEq, Nat.reduceAdd, Nat.reduceLeDiff, Nat.reduceMul, Nat.reduceLT, if_true, if_false, true_and, and_true, and_self, Nat.reduceBEq, QOp.loads, boxO, bslO, buildO, cutL, fillV, putL, w9, v9, encClip]
  by_cases hsz : (1048576 : Int) - l.length < 0
  · simp (maxSteps := 4000000) (disch := omega) only [ah, am, Nat.reduceEqDiff, reduceCtorEq, Nat.reduceAdd, Nat.reduceLeDiff, Nat.reduceMul, Nat.reduceLT, if_true, if_false, true_and, and_true, and_self, Nat.reduceBEq, QOp.loads, boxO, bslO, buildO, cutL, fillV, putL, w9, v9, hsz, if_pos, stepI_dec]
  have hz : decide ((if (1048576 : Int) - l.length < 0 then -1 else 1048576 - (l.length : Int)) < 0) = false := by rw [if_neg hsz]; exact decide_eq_false hsz
  simp (maxSteps := 4000000) (disch := omega) only [ah, am, Nat.reduceEqDiff, reduceCtorEq, Nat.reduceAdd, Nat.reduceLeDiff, Nat.reduceMul, Nat.reduceLT, if_true, if_false, true_and, and_true, and_self, Nat.reduceBEq, QOp.loads, boxO, bslO, buildO, cutL, fillV, putL, w9, v9, encClip, hz]
  clear hz
  have hll : l.length ≤ 1048576 := by omega
  have hF := insertS_length l i ⟨k1, k2, k3⟩
  refine stepC.of (toClipS_ok _ _ _ s hll) ?_
  intro t1 H1 F1
  have X := (F1.1).ld0
  simp (maxSteps := 4000000) (disch := omega) only [ah, am, Nat.reduceEqDiff, reduceCtorEq, Nat.reduceAdd, Nat.reduceLeDiff, Nat.reduceMul, Nat.reduceLT, if_true, if_false, true_and, and_true, and_self, Nat.reduceBEq, QOp.loads, boxO, bslO, buildO, cutL, fillV, putL, w9, v9, encClip, X]
  refine stepC.of (toClip_ok' _ _ _ _) ?_
  rintro _ Hc ⟨ec, rfl⟩
  have sc2 := ec.1
  have F1 := F1.ext ec
  have X := (F1.1).ld0
  simp (maxSteps := 4000000) (disch := omega) only [ah, am, Nat.reduceEqDiff, reduceCtorEq, Nat.reduceAdd, Nat.reduceLeDiff, Nat.reduceMul, Nat.reduceLT, if_true, if_false, true_and, and_true, and_self, Nat.reduceBEq, QOp.loads, boxO, bslO, buildO, cutL, fillV, putL, w9, v9, encClip, X]
  refine stepC.of (specInsert_ok _ _ _ _ ⟨k1, k2, k3⟩ F1.slt (by omega)) ?_
  rintro _ H2 ⟨w0, rfl, Fw⟩
  have E2 := F1.1.trans Fw.1
  have Mw := Fw.mine
  have X := (E2).ld0
  simp (maxSteps := 4000000) (disch := omega) only [ah, am, Nat.reduceEqDiff, reduceCtorEq, Nat.reduceAdd, Nat.reduceLeDiff, Nat.reduceMul, Nat.reduceLT, if_true, if_false, true_and, and_true, and_self, Nat.reduceBEq, QOp.loads, boxO, bslO, buildO, cutL, fillV, putL, w9, v9, encClip, X]
  refine stepC.of (toClipS_ok _ _ _ (s.ext E2) hll) ?_
  intro x0 H3 Fx
  have Mx := Fx.mine
  have E3 := E2.trans Fx.1
  have Mw := Mw.ext Fx.1
  have X := (E3).ld0
  simp (maxSteps := 4000000) (disch := omega) only [ah, am, Nat.reduceEqDiff, reduceCtorEq, Nat.reduceAdd, Nat.reduceLeDiff, Nat.reduceMul, Nat.reduceLT, if_true, if_false, true_and, and_true, and_self, Nat.reduceBEq, QOp.loads, boxO, bslO, buildO, cutL, fillV, putL, w9, v9, encClip, X]
  refine stepC.of (toClip_ok' _ _ _ _) ?_
  rintro _ Hc ⟨ec, rfl⟩
  have sc3 := ec.1
  have Fx := Fx.ext ec
  have Mx := Mx.ext ec
  have E3 := E3.trans ec
  have Mw := Mw.ext ec
  have X := (E3).ld0
  simp (maxSteps := 4000000) (disch := omega) only [ah, am, Nat.reduceEqDiff, reduceCtorEq, Nat.reduceAdd, Nat.reduceLeDiff, Nat.reduceMul, Nat.reduceLT, if_true, if_false, true_and, and_true, and_self, Nat.reduceBEq, QOp.loads, boxO, bslO, buildO, cutL, fillV, putL, w9, v9, encClip, X]
  refine stepC.of (Insert_ok _ _ _ _ ⟨k1, k2, k3⟩ Fx.slt (by omega)) ?_
  rintro _ H4 ⟨g0, rfl, Fg⟩
  have Mg := Fg.mine
  have E4 := E3.trans Fg.1
  have Mw := Mw.ext Fg.1
  have Mx := Mx.ext Fg.1
  have sz1 := F1.1.1; have sz2 := Fw.1.1; have sz3 := Fx.1.1; have sz4 := Fg.1.1
  obtain ⟨rl, rb, hR⟩ : ∃ rl rb, insertS l i ⟨k1, k2, k3⟩ = (rl, rb) := ⟨_, _, rfl⟩
  rw [hR] at Mw Mg hF ⊢
  simp only at Mw Mg hF ⊢
  have X := (E4).ld0
  simp (maxSteps := 4000000) (disch := omega) only [ah, am, Nat.reduceEqDiff, reduceCtorEq, Nat.reduceAdd, Nat.reduceLeDiff, Nat.reduceMul, Nat.reduceLT, if_true, if_false, true_and, and_true, and_self, Nat.reduceBEq, QOp.loads, boxO, bslO, buildO, cutL, fillV, putL, w9, v9, encClip, X]
  refine stepC.of (eqClipS_ok _ _ _ _ _ Mg.slt Mw.slt (by omega) (by omega)) ?_
  rintro _ H5 ⟨e5, rfl⟩
  have Mg := Mg.ext e5; have Mw := Mw.ext e5; have Mx := Mx.ext e5; have E5 := E4.trans e5
  have X := (E5).ld0
  simp (maxSteps := 4000000) (disch := omega) only [ah, am, Nat.reduceEqDiff, reduceCtorEq, Nat.reduceAdd, Nat.reduceLeDiff, Nat.reduceMul, Nat.reduceLT, if_true, if_false, true_and, and_true, and_self, Nat.reduceBEq, QOp.loads, boxO, bslO, buildO, cutL, fillV, putL, w9, v9, encClip, X, eqbV_bool', beq_self_eq_true]
  refine stepC.of (toClipS_ok _ _ _ (s.ext E5) hll) ?_
  intro t6 H6 F6
  have Mg := Mg.ext F6.1; have Mw := Mw.ext F6.1; have Mx := Mx.ext F6.1; have E6 := E5.trans F6.1
  have X := (E6).ld0
  simp (maxSteps := 4000000) (disch := omega) only [ah, am, Nat.reduceEqDiff, reduceCtorEq, Nat.reduceAdd, Nat.reduceLeDiff, Nat.reduceMul, Nat.reduceLT, if_true, if_false, true_and, and_true, and_self, Nat.reduceBEq, QOp.loads, boxO, bslO, buildO, cutL, fillV, putL, w9, v9, encClip, X]
  refine stepC.of (eqClipS_ok _ _ _ _ _ Mx.slt F6.slt (by omega) (by omega)) ?_
  rintro _ H7 ⟨e7, rfl⟩
  have Mg := Mg.ext e7; have Mw := Mw.ext e7; have Mx := Mx.ext e7; have E7 := E6.trans e7
  have X := (E7).ld0
  simp (maxSteps := 4000000) (disch := omega) only [ah, am, Nat.reduceEqDiff, reduceCtorEq, Nat.reduceAdd, Nat.reduceLeDiff, Nat.reduceMul, Nat.reduceLT, if_true, if_false, true_and, and_true, and_self, Nat.reduceBEq, QOp.loads, boxO, bslO, buildO, cutL, fillV, putL, w9, v9, encClip, X]
  refine stepC.of (markClipS_mine 1 Mx (by omega) (by omega)) ?_
  rintro _ H8 ⟨c8, Mx', rfl⟩
  have Mg := Mg.chg c8 (by omega); have Mw := Mw.chg c8 (by omega); have E8 := c8.ext E7 (by have := E2.1; omega)
  have hk : decide ((1 : Int) + 3 * l.length < 0) = false := decide_eq_false (by omega)
  have X := (E8).ld0
  simp (maxSteps := 4000000) (disch := omega) only [ah, am, Nat.reduceEqDiff, reduceCtorEq, Nat.reduceAdd, Nat.reduceLeDiff, Nat.reduceMul, Nat.reduceLT, if_true, if_false, true_and, and_true, and_self, Nat.reduceBEq, QOp.loads, boxO, bslO, buildO, cutL, fillV, putL, w9, v9, encClip, X, hk]
  refine stepC.of (eqClipS_ok _ _ _ _ _ Mg.slt Mw.slt (by omega) (by omega)) ?_
  rintro _ H9 ⟨e9, rfl⟩
  have Mg := Mg.ext e9; have Mw := Mw.ext e9; have E9 := E8.trans e9
  have X := (E9).ld0
  simp (maxSteps := 4000000) (disch := omega) only [ah, am, Nat.reduceEqDiff, reduceCtorEq, Nat.reduceAdd, Nat.reduceLeDiff, Nat.reduceMul, Nat.reduceLT, if_true, if_false, true_and, and_true, and_self, Nat.reduceBEq, QOp.loads, boxO, bslO, buildO, cutL, fillV, putL, w9, v9, encClip, X, eqbV_bool', beq_self_eq_true]
  refine stepC.of (markClipS_mine 1 Mg (by omega) (by omega)) ?_
  rintro _ H10 ⟨c10, Mg, rfl⟩
  have Mw := Mw.chg c10 (by omega); have E10 := c10.ext E9 (by have := E3.1; omega)
  have hm : decide ((1 : Int) + 3 * rl.length < 0) = false := decide_eq_false (by omega)
  have X := (E10).ld0
  simp (maxSteps := 4000000) (disch := omega) only [ah, am, Nat.reduceEqDiff, reduceCtorEq, Nat.reduceAdd, Nat.reduceLeDiff, Nat.reduceMul, Nat.reduceLT, if_true, if_false, true_and, and_true, and_self, Nat.reduceBEq, QOp.loads, boxO, bslO, buildO, cutL, fillV, putL, w9, v9, encClip, X]
  refine stepC.of (heldClipS_ok _ _ _ 1 Mg.slt (by omega) (by omega)) ?_
  rintro _ Hx ⟨hx, rfl⟩; rw [hx]; clear hx Hx
  simp (maxSteps := 4000000) (disch := omega) only [ah, am, Nat.reduceEqDiff, reduceCtorEq, Nat.reduceAdd, Nat.reduceLeDiff, Nat.reduceMul, Nat.reduceLT, if_true, if_false, true_and, and_true, and_self, Nat.reduceBEq, QOp.loads, boxO, bslO, buildO, cutL, fillV, putL, w9, v9, encClip, X, hm]
  refine stepC.of (toClipS_ok _ _ _ (s.ext E10) hll) ?_
  intro t11 H11 F11
  have Mg := Mg.ext F11.1; have Mw := Mw.ext F11.1
  have X := (E10.trans F11.1).ld0
  simp (maxSteps := 4000000) (disch := omega) only [ah, am, Nat.reduceEqDiff, reduceCtorEq, Nat.reduceAdd, Nat.reduceLeDiff, Nat.reduceMul, Nat.reduceLT, if_true, if_false, true_and, and_true, and_self, Nat.reduceBEq, QOp.loads, boxO, bslO, buildO, cutL, fillV, putL, w9, v9, encClip, X]
  refine stepC.of (toClip_ok' _ _ _ _) ?_
  rintro _ Hc ⟨ec, rfl⟩
  have sc4 := ec.1
  have F11 := F11.ext ec
  have Mg := Mg.ext ec
  have Mw := Mw.ext ec
  have X := (E10.trans F11.1).ld0
  simp (maxSteps := 4000000) (disch := omega) only [ah, am, Nat.reduceEqDiff, reduceCtorEq, Nat.reduceAdd, Nat.reduceLeDiff, Nat.reduceMul, Nat.reduceLT, if_true, if_false, true_and, and_true, and_self, Nat.reduceBEq, QOp.loads, boxO, bslO, buildO, cutL, fillV, putL, w9, v9, encClip, X]
  refine stepC.of (Insert_ok _ _ _ _ ⟨k1, k2, k3⟩ F11.slt (by omega)) ?_
  rintro _ H12 ⟨h0, rfl, Fh⟩
  have Mg := Mg.ext Fh.1; have Mw := Mw.ext Fh.1
  rw [hR] at Fh ⊢
  simp only at Fh ⊢
  have X := (E10.trans (F11.1.trans Fh.1)).ld0
  simp (maxSteps := 4000000) (disch := omega) only [ah, am, Nat.reduceEqDiff, reduceCtorEq, Nat.reduceAdd, Nat.reduceLeDiff, Nat.reduceMul, Nat.reduceLT, if_true, if_false, true_and, and_true, and_self, Nat.reduceBEq, QOp.loads, boxO, bslO, buildO, cutL, fillV, putL, w9, v9, encClip, X]
  refine stepC.of (eqClipS_ok _ _ _ _ _ Fh.slt Mw.slt (by omega) (by omega)) ?_
  rintro _ H13 ⟨e13, rfl⟩
  have Mg := Mg.ext e13
  simp (maxSteps := 4000000) (disch := omega) only [ah, am, Nat.reduceEqDiff, reduceCtorEq, Nat.reduceAdd, Nat.reduceLeDiff, Nat.reduceMul, Nat.reduceLT, if_true, if_false, true_and, and_true, and_self, Nat.reduceBEq, QOp.loads, boxO, bslO, buildO, cutL, fillV, putL, w9, v9, encClip, X, eqbV_bool', beq_self_eq_true]
  refine stepC.of (heldClipS_ok _ _ _ 1 Mg.slt (by omega) (by omega)) ?_
  rintro _ Hx ⟨hx, rfl⟩; rw [hx]; clear hx Hx
  simp (maxSteps := 4000000) (disch := omega) only [ah, am, Nat.reduceEqDiff, reduceCtorEq, Nat.reduceAdd, Nat.reduceLeDiff, Nat.reduceMul, Nat.reduceLT, if_true, if_false, true_and, and_true, and_self, Nat.reduceBEq, QOp.loads, boxO, bslO, buildO, cutL, fillV, putL, w9, v9, encClip, X, hm]
end Go.Proofs.Ytbanblghepekdaa
