import Derived.Test.YtbanblghepekdaaI9
import Derived.Test.YtbanblghepekdaaL0
namespace Go.Proofs.Ytbanblghepekdaa
open Go Go.Ah
set_option linter.unusedSimpArgs false
set_option linter.unusedVariables false
set_option maxRecDepth 10000
set_option maxHeartbeats 4000000
/-! 10 loop.example/g00066/laws.FnExactOverwrite: parameters 3, live [0, 1, 2], slots [0:aTrack, 1:aAt, 2:aClip, 3:aTrack, 4:aAt, 5:aClip, 7:left, 8:w0, 9:w1, 10:x0, 11:g0, 12:g1, 13:k, 14:m, 15:q, 16:h0, 17:h1] -/
def c10_0 : List SOper := [⟨some 5, .a (.box (.t 2)), none⟩, ⟨some 6, .q (.mv (.c (.bool false))), none⟩]
def c10_1 : List SOper := [⟨some 7, .q (.mv (.c (.int .i64 1048576))), none⟩]
def c10_2 : List SOper := [⟨some 18, .q (.mv (.t 0)), none⟩, ⟨some 19, .q (.mv (.t 7)), none⟩, ⟨some 20, .e (.call 14 [(.t 18), (.t 19)]), none⟩, ⟨some 7, .q (.mv (.t 20)), none⟩]
def c10_3 : List SOper := [⟨some 21, .q (.mv (.t 7)), none⟩, ⟨some 22, .q (.bin .lss (.t 21) (.c (.int .i64 0))), none⟩]
def c10_4 : List SOper := [⟨some 6, .q (.mv (.c (.bool true))), none⟩]
def c10_5 : SCode := .seq (.region c10_4 [6]) .ret
def c10_6 : SCode := .cond (.t 22) c10_5 .skip
def c10_7 : SCode := .seq (.region c10_3 [0, 1, 5, 22]) c10_6
def c10_8 : List DOper := [⟨0, ⟨some 24, .q (.mv (.t 0)), none⟩, [], []⟩, ⟨2, ⟨some 26, .q (.mv (.t 1)), none⟩, [], []⟩, ⟨3, ⟨some 27, .q (.ldn 3 (.t 5)), none⟩, [], []⟩, ⟨1, ⟨some 25, .e (.call 16 [(.t 24)]), none⟩, [], [3]⟩, ⟨4, ⟨some 28, .e (.call 32 [(.t 27)]), none⟩, [], []⟩, ⟨5, ⟨some 29, .e (.call 34 [(.t 25), (.t 26), (.t 28)]), none⟩, [], []⟩, ⟨6, ⟨some 23, .q (.mv (.t 29)), none⟩, [], []⟩, ⟨7, ⟨some 30, .q (.ext (.t 23) 0), none⟩, [], []⟩, ⟨8, ⟨some 31, .q (.ext (.t 23) 1), none⟩, [], []⟩, ⟨9, ⟨some 8, .q (.mv (.t 30)), none⟩, [], []⟩, ⟨10, ⟨some 9, .q (.mv (.t 31)), none⟩, [], []⟩]
def c10_9 : List SOper := [⟨some 32, .q (.mv (.t 0)), none⟩, ⟨some 33, .e (.call 16 [(.t 32)]), none⟩, ⟨some 10, .q (.mv (.t 33)), none⟩]
def c10_10 : List SOper := [⟨some 35, .q (.mv (.t 10)), none⟩, ⟨some 36, .q (.mv (.t 1)), none⟩, ⟨some 37, .q (.ldn 3 (.t 5)), none⟩, ⟨some 38, .e (.call 32 [(.t 37)]), none⟩, ⟨some 39, .e (.call 35 [(.t 35), (.t 36), (.t 38)]), none⟩, ⟨some 34, .q (.mv (.t 39)), none⟩, ⟨some 40, .q (.ext (.t 34) 0), none⟩, ⟨some 41, .q (.ext (.t 34) 1), none⟩, ⟨some 11, .q (.mv (.t 40)), none⟩, ⟨some 12, .q (.mv (.t 41)), none⟩]
def c10_11 : List SOper := [⟨some 42, .q (.mv (.t 11)), none⟩, ⟨some 43, .q (.mv (.t 8)), none⟩, ⟨some 44, .e (.call 18 [(.t 42), (.t 43)]), none⟩, ⟨some 45, .q (.not (.t 44)), none⟩, ⟨some 46, .q (.mv (.t 45)), none⟩, ⟨some 47, .q (.mv (.t 12)), some (46, false)⟩, ⟨some 48, .q (.mv (.t 9)), some (46, false)⟩, ⟨some 49, .q (.eqb true (.t 47) (.t 48)), some (46, false)⟩, ⟨some 50, .q (.pick (.t 46) (.c (.bool true)) (.t 49)), none⟩]
def c10_12 : List SOper := [⟨some 6, .q (.mv (.c (.bool false))), none⟩]
def c10_13 : SCode := .seq (.region c10_12 [6]) .ret
def c10_14 : SCode := .cond (.t 50) c10_13 .skip
def c10_15 : SCode := .seq (.region c10_11 [0, 1, 5, 8, 9, 10, 11, 12, 50]) c10_14
def c10_16 : List SOper := [⟨some 51, .q (.mv (.t 10)), none⟩, ⟨some 52, .q (.mv (.t 0)), none⟩, ⟨some 53, .e (.call 16 [(.t 52)]), none⟩, ⟨some 54, .e (.call 18 [(.t 51), (.t 53)]), none⟩, ⟨some 55, .q (.not (.t 54)), none⟩]
def c10_17 : List SOper := [⟨some 6, .q (.mv (.c (.bool false))), none⟩]
def c10_18 : SCode := .seq (.region c10_17 [6]) .ret
def c10_19 : SCode := .cond (.t 55) c10_18 .skip
def c10_20 : SCode := .seq (.region c10_16 [0, 1, 5, 8, 9, 10, 11, 12, 55]) c10_19
def c10_21 : List SOper := [⟨some 13, .q (.mv (.c (.int .i64 1))), none⟩]
def c10_22 : List SOper := [⟨some 56, .q (.mv (.t 10)), none⟩, ⟨some 57, .q (.mv (.t 13)), none⟩, ⟨some 58, .e (.call 19 [(.t 56), (.t 57)]), none⟩, ⟨some 13, .q (.mv (.t 58)), none⟩]
def c10_23 : List SOper := [⟨some 59, .q (.mv (.t 13)), none⟩, ⟨some 60, .q (.bin .lss (.t 59) (.c (.int .i64 0))), none⟩, ⟨some 61, .q (.mv (.t 60)), none⟩, ⟨some 62, .q (.mv (.t 11)), some (61, false)⟩, ⟨some 63, .q (.mv (.t 8)), some (61, false)⟩, ⟨some 64, .e (.call 18 [(.t 62), (.t 63)]), some (61, false)⟩, ⟨some 65, .q (.not (.t 64)), some (61, false)⟩, ⟨some 66, .q (.pick (.t 61) (.c (.bool true)) (.t 65)), none⟩, ⟨some 67, .q (.mv (.t 66)), none⟩, ⟨some 68, .q (.mv (.t 12)), some (67, false)⟩, ⟨some 69, .q (.mv (.t 9)), some (67, false)⟩, ⟨some 70, .q (.eqb true (.t 68) (.t 69)), some (67, false)⟩, ⟨some 71, .q (.pick (.t 67) (.c (.bool true)) (.t 70)), none⟩]
def c10_24 : List SOper := [⟨some 6, .q (.mv (.c (.bool false))), none⟩]
def c10_25 : SCode := .seq (.region c10_24 [6]) .ret
def c10_26 : SCode := .cond (.t 71) c10_25 .skip
def c10_27 : SCode := .seq (.region c10_23 [0, 1, 5, 8, 9, 11, 71]) c10_26
def c10_28 : List SOper := [⟨some 14, .q (.mv (.c (.int .i64 1))), none⟩]
def c10_29 : List SOper := [⟨some 72, .q (.mv (.t 11)), none⟩, ⟨some 73, .q (.mv (.t 14)), none⟩, ⟨some 74, .e (.call 19 [(.t 72), (.t 73)]), none⟩, ⟨some 14, .q (.mv (.t 74)), none⟩]
def c10_30 : List SOper := [⟨some 15, .q (.mv (.c (.int .i64 1))), none⟩]
def c10_31 : List SOper := [⟨some 75, .q (.mv (.t 11)), none⟩, ⟨some 76, .q (.mv (.t 15)), none⟩, ⟨some 77, .e (.call 20 [(.t 75), (.t 76)]), none⟩, ⟨some 15, .q (.mv (.t 77)), none⟩]
def c10_32 : List SOper := [⟨some 78, .q (.mv (.t 15)), none⟩, ⟨some 79, .q (.bin .lss (.t 78) (.c (.int .i64 0))), none⟩]
def c10_33 : List SOper := [⟨some 6, .q (.mv (.c (.bool false))), none⟩]
def c10_34 : SCode := .seq (.region c10_33 [6]) .ret
def c10_35 : SCode := .cond (.t 79) c10_34 .skip
def c10_36 : SCode := .seq (.region c10_32 [0, 1, 5, 8, 9, 11, 14, 15, 79]) c10_35
def c10_37 : List SOper := [⟨some 80, .q (.mv (.t 15)), none⟩, ⟨some 81, .q (.mv (.t 14)), none⟩, ⟨some 82, .q (.bin .neq (.t 80) (.t 81)), none⟩]
def c10_38 : List SOper := [⟨some 6, .q (.mv (.c (.bool false))), none⟩]
def c10_39 : SCode := .seq (.region c10_38 [6]) .ret
def c10_40 : SCode := .cond (.t 82) c10_39 .skip
def c10_41 : SCode := .seq (.region c10_37 [0, 1, 5, 8, 9, 11, 14, 82]) c10_40
def c10_42 : List DOper := [⟨0, ⟨some 84, .q (.mv (.t 0)), none⟩, [], []⟩, ⟨2, ⟨some 86, .q (.mv (.t 1)), none⟩, [], []⟩, ⟨3, ⟨some 87, .q (.ldn 3 (.t 5)), none⟩, [], []⟩, ⟨1, ⟨some 85, .e (.call 16 [(.t 84)]), none⟩, [], [3]⟩, ⟨4, ⟨some 88, .e (.call 32 [(.t 87)]), none⟩, [], []⟩, ⟨5, ⟨some 89, .e (.call 35 [(.t 85), (.t 86), (.t 88)]), none⟩, [], []⟩, ⟨6, ⟨some 83, .q (.mv (.t 89)), none⟩, [], []⟩, ⟨7, ⟨some 90, .q (.ext (.t 83) 0), none⟩, [], []⟩, ⟨8, ⟨some 91, .q (.ext (.t 83) 1), none⟩, [], []⟩, ⟨9, ⟨some 16, .q (.mv (.t 90)), none⟩, [], []⟩, ⟨10, ⟨some 17, .q (.mv (.t 91)), none⟩, [], []⟩]
def c10_43 : List SOper := [⟨some 92, .q (.mv (.t 16)), none⟩, ⟨some 93, .q (.mv (.t 8)), none⟩, ⟨some 94, .e (.call 18 [(.t 92), (.t 93)]), none⟩, ⟨some 95, .q (.not (.t 94)), none⟩, ⟨some 96, .q (.mv (.t 95)), none⟩, ⟨some 97, .q (.mv (.t 17)), some (96, false)⟩, ⟨some 98, .q (.mv (.t 9)), some (96, false)⟩, ⟨some 99, .q (.eqb true (.t 97) (.t 98)), some (96, false)⟩, ⟨some 100, .q (.pick (.t 96) (.c (.bool true)) (.t 99)), none⟩]
def c10_44 : List SOper := [⟨some 6, .q (.mv (.c (.bool false))), none⟩]
def c10_45 : SCode := .seq (.region c10_44 [6]) .ret
def c10_46 : SCode := .cond (.t 100) c10_45 .skip
def c10_47 : SCode := .seq (.region c10_43 [11, 14, 100]) c10_46
def c10_48 : List SOper := [⟨some 15, .q (.mv (.c (.int .i64 1))), none⟩]
def c10_49 : List SOper := [⟨some 101, .q (.mv (.t 11)), none⟩, ⟨some 102, .q (.mv (.t 15)), none⟩, ⟨some 103, .e (.call 20 [(.t 101), (.t 102)]), none⟩, ⟨some 15, .q (.mv (.t 103)), none⟩]
def c10_50 : List SOper := [⟨some 104, .q (.mv (.t 15)), none⟩, ⟨some 105, .q (.bin .lss (.t 104) (.c (.int .i64 0))), none⟩]
def c10_51 : List SOper := [⟨some 6, .q (.mv (.c (.bool false))), none⟩]
def c10_52 : SCode := .seq (.region c10_51 [6]) .ret
def c10_53 : SCode := .cond (.t 105) c10_52 .skip
def c10_54 : SCode := .seq (.region c10_50 [14, 15, 105]) c10_53
def c10_55 : List SOper := [⟨some 106, .q (.mv (.t 15)), none⟩, ⟨some 107, .q (.mv (.t 14)), none⟩, ⟨some 108, .q (.bin .neq (.t 106) (.t 107)), none⟩]
def c10_56 : List SOper := [⟨some 6, .q (.mv (.c (.bool false))), none⟩]
def c10_57 : SCode := .seq (.region c10_56 [6]) .ret
def c10_58 : SCode := .cond (.t 108) c10_57 .skip
def c10_59 : SCode := .seq (.region c10_55 [108]) c10_58
def c10_60 : List SOper := [⟨some 6, .q (.mv (.c (.bool true))), none⟩]
def c10_61 : SCode := .seq (.region c10_60 [6]) .ret
def c10_62 : SCode := .seq c10_59 c10_61
def c10_63 : SCode := .seq c10_54 c10_62
def c10_64 : SCode := .seq (.region c10_49 [14, 15]) c10_63
def c10_65 : SCode := .seq (.region c10_48 [11, 14, 15]) c10_64
def c10_66 : SCode := .seq c10_47 c10_65
def c10_67 : SCode := .seq (.dregion c10_42 [8, 9, 11, 14, 16, 17]) c10_66
def c10_68 : SCode := .seq c10_41 c10_67
def c10_69 : SCode := .seq c10_36 c10_68
def c10_70 : SCode := .seq (.region c10_31 [0, 1, 5, 8, 9, 11, 14, 15]) c10_69
def c10_71 : SCode := .seq (.region c10_30 [0, 1, 5, 8, 9, 11, 14, 15]) c10_70
def c10_72 : SCode := .seq (.region c10_29 [0, 1, 5, 8, 9, 11, 14]) c10_71
def c10_73 : SCode := .seq (.region c10_28 [0, 1, 5, 8, 9, 11, 14]) c10_72
def c10_74 : SCode := .seq c10_27 c10_73
def c10_75 : SCode := .seq (.region c10_22 [0, 1, 5, 8, 9, 11, 12, 13]) c10_74
def c10_76 : SCode := .seq (.region c10_21 [0, 1, 5, 8, 9, 10, 11, 12, 13]) c10_75
def c10_77 : SCode := .seq c10_20 c10_76
def c10_78 : SCode := .seq c10_15 c10_77
def c10_79 : SCode := .seq (.region c10_10 [0, 1, 5, 8, 9, 10, 11, 12]) c10_78
def c10_80 : SCode := .seq (.region c10_9 [0, 1, 5, 8, 9, 10]) c10_79
def c10_81 : SCode := .seq (.dregion c10_8 [0, 1, 5, 8, 9]) c10_80
def c10_82 : SCode := .seq c10_7 c10_81
def c10_83 : SCode := .seq (.region c10_2 [0, 1, 5, 7]) c10_82
def c10_84 : SCode := .seq (.region c10_1 [0, 1, 5, 7]) c10_83
def c10_85 : SCode := .seq (.region c10_0 [0, 1, 5]) c10_84
def c10 : SCode := c10_85
theorem w10 : type_of% (And.intro (uR Try.prog c10_0.eq_1) (And.intro (uR Try.prog c10_1.eq_1) (And.intro (uR Try.prog c10_2.eq_1) (And.intro (uR Try.prog c10_3.eq_1) (And.intro (uR Try.prog c10_4.eq_1) (And.intro (uC Try.prog c10_5.eq_1) (And.intro (uC Try.prog c10_6.eq_1) (And.intro (uC Try.prog c10_7.eq_1) (And.intro (uD Try.prog c10_8.eq_1) (And.intro (uR Try.prog c10_9.eq_1) (And.intro (uR Try.prog c10_10.eq_1) (And.intro (uR Try.prog c10_11.eq_1) (And.intro (uR Try.prog c10_12.eq_1) (And.intro (uC Try.prog c10_13.eq_1) (And.intro (uC Try.prog c10_14.eq_1) (And.intro (uC Try.prog c10_15.eq_1) (And.intro (uR Try.prog c10_16.eq_1) (And.intro (uR Try.prog c10_17.eq_1) (And.intro (uC Try.prog c10_18.eq_1) (And.intro (uC Try.prog c10_19.eq_1) (And.intro (uC Try.prog c10_20.eq_1) (And.intro (uR Try.prog c10_21.eq_1) (And.intro (uR Try.prog c10_22.eq_1) (And.intro (uR Try.prog c10_23.eq_1) (And.intro (uR Try.prog c10_24.eq_1) (And.intro (uC Try.prog c10_25.eq_1) (And.intro (uC Try.prog c10_26.eq_1) (And.intro (uC Try.prog c10_27.eq_1) (And.intro (uR Try.prog c10_28.eq_1) (And.intro (uR Try.prog c10_29.eq_1) (And.intro (uR Try.prog c10_30.eq_1) (And.intro (uR Try.prog c10_31.eq_1) (And.intro (uR Try.prog c10_32.eq_1) (And.intro (uR Try.prog c10_33.eq_1) (And.intro (uC Try.prog c10_34.eq_1) (And.intro (uC Try.prog c10_35.eq_1) (And.intro (uC Try.prog c10_36.eq_1) (And.intro (uR Try.prog c10_37.eq_1) (And.intro (uR Try.prog c10_38.eq_1) (And.intro (uC Try.prog c10_39.eq_1) (And.intro (uC Try.prog c10_40.eq_1) (And.intro (uC Try.prog c10_41.eq_1) (And.intro (uD Try.prog c10_42.eq_1) (And.intro (uR Try.prog c10_43.eq_1) (And.intro (uR Try.prog c10_44.eq_1) (And.intro (uC Try.prog c10_45.eq_1) (And.intro (uC Try.prog c10_46.eq_1) (And.intro (uC Try.prog c10_47.eq_1) (And.intro (uR Try.prog c10_48.eq_1) (And.intro (uR Try.prog c10_49.eq_1) (And.intro (uR Try.prog c10_50.eq_1) (And.intro (uR Try.prog c10_51.eq_1) (And.intro (uC Try.prog c10_52.eq_1) (And.intro (uC Try.prog c10_53.eq_1) (And.intro (uC Try.prog c10_54.eq_1) (And.intro (uR Try.prog c10_55.eq_1) (And.intro (uR Try.prog c10_56.eq_1) (And.intro (uC Try.prog c10_57.eq_1) (And.intro (uC Try.prog c10_58.eq_1) (And.intro (uC Try.prog c10_59.eq_1) (And.intro (uR Try.prog c10_60.eq_1) (And.intro (uC Try.prog c10_61.eq_1) (And.intro (uC Try.prog c10_62.eq_1) (And.intro (uC Try.prog c10_63.eq_1) (And.intro (uC Try.prog c10_64.eq_1) (And.intro (uC Try.prog c10_65.eq_1) (And.intro (uC Try.prog c10_66.eq_1) (And.intro (uC Try.prog c10_67.eq_1) (And.intro (uC Try.prog c10_68.eq_1) (And.intro (uC Try.prog c10_69.eq_1) (And.intro (uC Try.prog c10_70.eq_1) (And.intro (uC Try.prog c10_71.eq_1) (And.intro (uC Try.prog c10_72.eq_1) (And.intro (uC Try.prog c10_73.eq_1) (And.intro (uC Try.prog c10_74.eq_1) (And.intro (uC Try.prog c10_75.eq_1) (And.intro (uC Try.prog c10_76.eq_1) (And.intro (uC Try.prog c10_77.eq_1) (And.intro (uC Try.prog c10_78.eq_1) (And.intro (uC Try.prog c10_79.eq_1) (And.intro (uC Try.prog c10_80.eq_1) (And.intro (uC Try.prog c10_81.eq_1) (And.intro (uC Try.prog c10_82.eq_1) (And.intro (uC Try.prog c10_83.eq_1) (And.intro (uC Try.prog c10_84.eq_1) (And.intro (uC Try.prog c10_85.eq_1) (uC Try.prog c10.eq_1))))))))))))))))))))))))))))))))))))))))))))))))))))))))))))))))))))))))))))))))))))))) := (And.intro (uR Try.prog c10_0.eq_1) (And.intro (uR Try.prog c10_1.eq_1) (And.intro (uR Try.prog c10_2.eq_1) (And.intro (uR Try.prog c10_3.eq_1) (And.intro (uR Try.prog c10_4.eq_1) (And.intro (uC Try.prog c10_5.eq_1) (And.intro (uC Try.prog c10_6.eq_1) (And.intro (uC Try.prog c10_7.eq_1) (And.intro (uD Try.prog c10_8.eq_1) (And.intro (uR Try.prog c10_9.eq_1) (And.intro (uR Try.prog c10_10.eq_1) (And.intro (uR Try.prog c10_11.eq_1) (And.intro (uR Try.prog c10_12.eq_1) (And.intro (uC Try.prog c10_13.eq_1) (And.intro (uC Try.prog c10_14.eq_1) (And.intro (uC Try.prog c10_15.eq_1) (And.intro (uR Try.prog c10_16.eq_1) (And.intro (uR Try.prog c10_17.eq_1) (And.intro (uC Try.prog c10_18.eq_1) (And.intro (uC Try.prog c10_19.eq_1) (And.intro (uC Try.prog c10_20.eq_1) (And.intro (uR Try.prog c10_21.eq_1) (And.intro (uR Try.prog c10_22.eq_1) (And.intro (uR Try.prog c10_23.eq_1) (And.intro (uR Try.prog c10_24.eq_1) (And.intro (uC Try.prog c10_25.eq_1) (And.intro (uC Try.prog c10_26.eq_1) (And.intro (uC Try.prog c10_27.eq_1) (And.intro (uR Try.prog c10_28.eq_1) (And.intro (uR Try.prog c10_29.eq_1) (And.intro (uR Try.prog c10_30.eq_1) (And.intro (uR Try.prog c10_31.eq_1) (And.intro (uR Try.prog c10_32.eq_1) (And.intro (uR Try.prog c10_33.eq_1) (And.intro (uC Try.prog c10_34.eq_1) (And.intro (uC Try.prog c10_35.eq_1) (And.intro (uC Try.prog c10_36.eq_1) (And.intro (uR Try.prog c10_37.eq_1) (And.intro (uR Try.prog c10_38.eq_1) (And.intro (uC Try.prog c10_39.eq_1) (And.intro (uC Try.prog c10_40.eq_1) (And.intro (uC Try.prog c10_41.eq_1) (And.intro (uD Try.prog c10_42.eq_1) (And.intro (uR Try.prog c10_43.eq_1) (And.intro (uR Try.prog c10_44.eq_1) (And.intro (uC Try.prog c10_45.eq_1) (And.intro (uC Try.prog c10_46.eq_1) (And.intro (uC Try.prog c10_47.eq_1) (And.intro (uR Try.prog c10_48.eq_1) (And.intro (uR Try.prog c10_49.eq_1) (And.intro (uR Try.prog c10_50.eq_1) (And.intro (uR Try.prog c10_51.eq_1) (And.intro (uC Try.prog c10_52.eq_1) (And.intro (uC Try.prog c10_53.eq_1) (And.intro (uC Try.prog c10_54.eq_1) (And.intro (uR Try.prog c10_55.eq_1) (And.intro (uR Try.prog c10_56.eq_1) (And.intro (uC Try.prog c10_57.eq_1) (And.intro (uC Try.prog c10_58.eq_1) (And.intro (uC Try.prog c10_59.eq_1) (And.intro (uR Try.prog c10_60.eq_1) (And.intro (uC Try.prog c10_61.eq_1) (And.intro (uC Try.prog c10_62.eq_1) (And.intro (uC Try.prog c10_63.eq_1) (And.intro (uC Try.prog c10_64.eq_1) (And.intro (uC Try.prog c10_65.eq_1) (And.intro (uC Try.prog c10_66.eq_1) (And.intro (uC Try.prog c10_67.eq_1) (And.intro (uC Try.prog c10_68.eq_1) (And.intro (uC Try.prog c10_69.eq_1) (And.intro (uC Try.prog c10_70.eq_1) (And.intro (uC Try.prog c10_71.eq_1) (And.intro (uC Try.prog c10_72.eq_1) (And.intro (uC Try.prog c10_73.eq_1) (And.intro (uC Try.prog c10_74.eq_1) (And.intro (uC Try.prog c10_75.eq_1) (And.intro (uC Try.prog c10_76.eq_1) (And.intro (uC Try.prog c10_77.eq_1) (And.intro (uC Try.prog c10_78.eq_1) (And.intro (uC Try.prog c10_79.eq_1) (And.intro (uC Try.prog c10_80.eq_1) (And.intro (uC Try.prog c10_81.eq_1) (And.intro (uC Try.prog c10_82.eq_1) (And.intro (uC Try.prog c10_83.eq_1) (And.intro (uC Try.prog c10_84.eq_1) (And.intro (uC Try.prog c10_85.eq_1) (uC Try.prog c10.eq_1)))))))))))))))))))))))))))))))))))))))))))))))))))))))))))))))))))))))))))))))))))))))
def v10 : List RV := [.t 6]
theorem s10 : slimF Try.prog Try.f10 = some (c10.bare, v10) := by kernel_rfl

theorem putS_length (l : List Clip) (a : Int) (m : List Clip) (b : Int) : (putS l a m b).1.length ≤ 300 := editF_length _
theorem overS_length (l : List Clip) (a : Int) (n : Clip) : (overS l a n).1.length ≤ 300 := by
  unfold overS; split
  · exact putS_length _ _ _ _
  · simp
theorem FnExactOverwrite_ok (h : Heap) (v : Value) (l : List Clip) (i : Int) (k : Clip) (s : SlT h encClip 3 v l) (hl : l.length ≤ 9223372036854775807) :
    ACall Try.prog 10 [v, .int .i64 i, .agg (encClip k).toArray] h fun r h' => r = .bool true := by
  refine ACall.of Try.func10 s10 (of_decide_eq_true rfl) ?_
  obtain ⟨k1, k2, k3⟩ := k
  simp (maxSteps := 4000000) (disch := omega) only [ah, am, Nat.reduceEqDiff, reduceCtorEq, Nat.reduceAdd, Nat.reduceLeDiff, Nat.reduceMul, Nat.reduceLT, if_true, if_false, true_and, and_true, and_self, Nat.reduceBEq, QOp.loads, boxO, bslO, buildO, cutL, fillV, putL, w10, v10, encClip]
  have s := s.ext (Ext.more h [[.int .i64 k1, .int .i64 k2, .int .i64 k3]])
  refine stepC.of (szClipS_ok _ v l 1048576 s (by omega) (by omega) hl) ?_
  rintro _ Hx ⟨hx, rfl⟩; rw [hx]; clear hx Hx
  simp (maxSteps := 4000000) (disch := omega) only [ah, am, Nat.reduceEqDiff, reduceCtorEq, Nat.reduceAdd, Nat.reduceLeDiff, Nat.reduceMul, Nat.reduceLT, if_true, if_false, true_and, and_true, and_self, Nat.reduceBEq, QOp.loads, boxO, bslO, buildO, cutL, fillV, putL, w10, v10, encClip]
  by_cases hsz : (1048576 : Int) - l.length < 0
  · simp (maxSteps := 4000000) (disch := omega) only [ah, am, Nat.reduceEqDiff, reduceCtorEq, Nat.reduceAdd, Nat.reduceLeDiff, Nat.reduceMul, Nat.reduceLT, if_true, if_false, true_and, and_true, and_self, Nat.reduceBEq, QOp.loads, boxO, bslO, buildO, cutL, fillV, putL, w10, v10, hsz, if_pos, stepI_dec]
  have hz : decide ((if (1048576 : Int) - l.length < 0 then -1 else 1048576 - (l.length : Int)) < 0) = false := by rw [if_neg hsz]; exact decide_eq_false hsz
  simp (maxSteps := 4000000) (disch := omega) only [ah, am, Nat.reduceEqDiff, reduceCtorEq, Nat.reduceAdd, Nat.reduceLeDiff, Nat.reduceMul, Nat.reduceLT, if_true, if_false, true_and, and_true, and_self, Nat.reduceBEq, QOp.loads, boxO, bslO, buildO, cutL, fillV, putL, w10, v10, encClip, hz]
  clear hz
  have hll : l.length ≤ 1048576 := by omega
  have hF := overS_length l i ⟨k1, k2, k3⟩
  refine stepC.of (toClipS_ok _ _ _ s hll) ?_
  intro t1 H1 F1
  have X := (F1.1).ld0
  simp (maxSteps := 4000000) (disch := omega) only [ah, am, Nat.reduceEqDiff, reduceCtorEq, Nat.reduceAdd, Nat.reduceLeDiff, Nat.reduceMul, Nat.reduceLT, if_true, if_false, true_and, and_true, and_self, Nat.reduceBEq, QOp.loads, boxO, bslO, buildO, cutL, fillV, putL, w10, v10, encClip, X]
  refine stepC.of (toClip_ok' _ _ _ _) ?_
  rintro _ Hc ⟨ec, rfl⟩
  have sc2 := ec.1
  have F1 := F1.ext ec
  have X := (F1.1).ld0
  simp (maxSteps := 4000000) (disch := omega) only [ah, am, Nat.reduceEqDiff, reduceCtorEq, Nat.reduceAdd, Nat.reduceLeDiff, Nat.reduceMul, Nat.reduceLT, if_true, if_false, true_and, and_true, and_self, Nat.reduceBEq, QOp.loads, boxO, bslO, buildO, cutL, fillV, putL, w10, v10, encClip, X]
  refine stepC.of (specOverwrite_ok _ _ _ _ ⟨k1, k2, k3⟩ F1.slt (by omega)) ?_
  rintro _ H2 ⟨w0, rfl, Fw⟩
  have E2 := F1.1.trans Fw.1
  have Mw := Fw.mine
  have X := (E2).ld0
  simp (maxSteps := 4000000) (disch := omega) only [ah, am, Nat.reduceEqDiff, reduceCtorEq, Nat.reduceAdd, Nat.reduceLeDiff, Nat.reduceMul, Nat.reduceLT, if_true, if_false, true_and, and_true, and_self, Nat.reduceBEq, QOp.loads, boxO, bslO, buildO, cutL, fillV, putL, w10, v10, encClip, X]
  refine stepC.of (toClipS_ok _ _ _ (s.ext E2) hll) ?_
  intro x0 H3 Fx
  have Mx := Fx.mine
  have E3 := E2.trans Fx.1
  have Mw := Mw.ext Fx.1
  have X := (E3).ld0
  simp (maxSteps := 4000000) (disch := omega) only [ah, am, Nat.reduceEqDiff, reduceCtorEq, Nat.reduceAdd, Nat.reduceLeDiff, Nat.reduceMul, Nat.reduceLT, if_true, if_false, true_and, and_true, and_self, Nat.reduceBEq, QOp.loads, boxO, bslO, buildO, cutL, fillV, putL, w10, v10, encClip, X]
  refine stepC.of (toClip_ok' _ _ _ _) ?_
  rintro _ Hc ⟨ec, rfl⟩
  have sc3 := ec.1
  have Fx := Fx.ext ec
  have Mx := Mx.ext ec
  have E3 := E3.trans ec
  have Mw := Mw.ext ec
  have X := (E3).ld0
  simp (maxSteps := 4000000) (disch := omega) only [ah, am, Nat.reduceEqDiff, reduceCtorEq, Nat.reduceAdd, Nat.reduceLeDiff, Nat.reduceMul, Nat.reduceLT, if_true, if_false, true_and, and_true, and_self, Nat.reduceBEq, QOp.loads, boxO, bslO, buildO, cutL, fillV, putL, w10, v10, encClip, X]
  refine stepC.of (Overwrite_ok _ _ _ _ ⟨k1, k2, k3⟩ Fx.slt (by omega)) ?_
  rintro _ H4 ⟨g0, rfl, Fg⟩
  have Mg := Fg.mine
  have E4 := E3.trans Fg.1
  have Mw := Mw.ext Fg.1
  have Mx := Mx.ext Fg.1
  have sz1 := F1.1.1; have sz2 := Fw.1.1; have sz3 := Fx.1.1; have sz4 := Fg.1.1
  obtain ⟨rl, rb, hR⟩ : ∃ rl rb, overS l i ⟨k1, k2, k3⟩ = (rl, rb) := ⟨_, _, rfl⟩
  rw [hR] at Mw Mg hF ⊢
  simp only at Mw Mg hF ⊢
  have X := (E4).ld0
  simp (maxSteps := 4000000) (disch := omega) only [ah, am, Nat.reduceEqDiff, reduceCtorEq, Nat.reduceAdd, Nat.reduceLeDiff, Nat.reduceMul, Nat.reduceLT, if_true, if_false, true_and, and_true, and_self, Nat.reduceBEq, QOp.loads, boxO, bslO, buildO, cutL, fillV, putL, w10, v10, encClip, X]
  refine stepC.of (eqClipS_ok _ _ _ _ _ Mg.slt Mw.slt (by omega) (by omega)) ?_
  rintro _ H5 ⟨e5, rfl⟩
  have Mg := Mg.ext e5; have Mw := Mw.ext e5; have Mx := Mx.ext e5; have E5 := E4.trans e5
  have X := (E5).ld0
  simp (maxSteps := 4000000) (disch := omega) only [ah, am, Nat.reduceEqDiff, reduceCtorEq, Nat.reduceAdd, Nat.reduceLeDiff, Nat.reduceMul, Nat.reduceLT, if_true, if_false, true_and, and_true, and_self, Nat.reduceBEq, QOp.loads, boxO, bslO, buildO, cutL, fillV, putL, w10, v10, encClip, X, eqbV_bool', beq_self_eq_true]
  refine stepC.of (toClipS_ok _ _ _ (s.ext E5) hll) ?_
  intro t6 H6 F6
  have Mg := Mg.ext F6.1; have Mw := Mw.ext F6.1; have Mx := Mx.ext F6.1; have E6 := E5.trans F6.1
  have X := (E6).ld0
  simp (maxSteps := 4000000) (disch := omega) only [ah, am, Nat.reduceEqDiff, reduceCtorEq, Nat.reduceAdd, Nat.reduceLeDiff, Nat.reduceMul, Nat.reduceLT, if_true, if_false, true_and, and_true, and_self, Nat.reduceBEq, QOp.loads, boxO, bslO, buildO, cutL, fillV, putL, w10, v10, encClip, X]
  refine stepC.of (eqClipS_ok _ _ _ _ _ Mx.slt F6.slt (by omega) (by omega)) ?_
  rintro _ H7 ⟨e7, rfl⟩
  have Mg := Mg.ext e7; have Mw := Mw.ext e7; have Mx := Mx.ext e7; have E7 := E6.trans e7
  have X := (E7).ld0
  simp (maxSteps := 4000000) (disch := omega) only [ah, am, Nat.reduceEqDiff, reduceCtorEq, Nat.reduceAdd, Nat.reduceLeDiff, Nat.reduceMul, Nat.reduceLT, if_true, if_false, true_and, and_true, and_self, Nat.reduceBEq, QOp.loads, boxO, bslO, buildO, cutL, fillV, putL, w10, v10, encClip, X]
  refine stepC.of (markClipS_mine 1 Mx (by omega) (by omega)) ?_
  rintro _ H8 ⟨c8, Mx', rfl⟩
  have Mg := Mg.chg c8 (by omega); have Mw := Mw.chg c8 (by omega); have E8 := c8.ext E7 (by have := E2.1; omega)
  have hk : decide ((1 : Int) + 3 * l.length < 0) = false := decide_eq_false (by omega)
  have X := (E8).ld0
  simp (maxSteps := 4000000) (disch := omega) only [ah, am, Nat.reduceEqDiff, reduceCtorEq, Nat.reduceAdd, Nat.reduceLeDiff, Nat.reduceMul, Nat.reduceLT, if_true, if_false, true_and, and_true, and_self, Nat.reduceBEq, QOp.loads, boxO, bslO, buildO, cutL, fillV, putL, w10, v10, encClip, X, hk]
  refine stepC.of (eqClipS_ok _ _ _ _ _ Mg.slt Mw.slt (by omega) (by omega)) ?_
  rintro _ H9 ⟨e9, rfl⟩
  have Mg := Mg.ext e9; have Mw := Mw.ext e9; have E9 := E8.trans e9
  have X := (E9).ld0
  simp (maxSteps := 4000000) (disch := omega) only [ah, am, Nat.reduceEqDiff, reduceCtorEq, Nat.reduceAdd, Nat.reduceLeDiff, Nat.reduceMul, Nat.reduceLT, if_true, if_false, true_and, and_true, and_self, Nat.reduceBEq, QOp.loads, boxO, bslO, buildO, cutL, fillV, putL, w10, v10, encClip, X, eqbV_bool', beq_self_eq_true]
  refine stepC.of (markClipS_mine 1 Mg (by omega) (by omega)) ?_
  rintro _ H10 ⟨c10, Mg, rfl⟩
  have Mw := Mw.chg c10 (by omega); have E10 := c10.ext E9 (by have := E3.1; omega)
  have hm : decide ((1 : Int) + 3 * rl.length < 0) = false := decide_eq_false (by omega)
  have X := (E10).ld0
  simp (maxSteps := 4000000) (disch := omega) only [ah, am, Nat.reduceEqDiff, reduceCtorEq, Nat.reduceAdd, Nat.reduceLeDiff, Nat.reduceMul, Nat.reduceLT, if_true, if_false, true_and, and_true, and_self, Nat.reduceBEq, QOp.loads, boxO, bslO, buildO, cutL, fillV, putL, w10, v10, encClip, X]
  refine stepC.of (heldClipS_ok _ _ _ 1 Mg.slt (by omega) (by omega)) ?_
  rintro _ Hx ⟨hx, rfl⟩; rw [hx]; clear hx Hx
  simp (maxSteps := 4000000) (disch := omega) only [ah, am, Nat.reduceEqDiff, reduceCtorEq, Nat.reduceAdd, Nat.reduceLeDiff, Nat.reduceMul, Nat.reduceLT, if_true, if_false, true_and, and_true, and_self, Nat.reduceBEq, QOp.loads, boxO, bslO, buildO, cutL, fillV, putL, w10, v10, encClip, X, hm]
  refine stepC.of (toClipS_ok _ _ _ (s.ext E10) hll) ?_
  intro t11 H11 F11
  have Mg := Mg.ext F11.1; have Mw := Mw.ext F11.1
  have X := (E10.trans F11.1).ld0
  simp (maxSteps := 4000000) (disch := omega) only [ah, am, Nat.reduceEqDiff, reduceCtorEq, Nat.reduceAdd, Nat.reduceLeDiff, Nat.reduceMul, Nat.reduceLT, if_true, if_false, true_and, and_true, and_self, Nat.reduceBEq, QOp.loads, boxO, bslO, buildO, cutL, fillV, putL, w10, v10, encClip, X]
  refine stepC.of (toClip_ok' _ _ _ _) ?_
  rintro _ Hc ⟨ec, rfl⟩
  have sc4 := ec.1
  have F11 := F11.ext ec
  have Mg := Mg.ext ec
  have Mw := Mw.ext ec
  have X := (E10.trans F11.1).ld0
  simp (maxSteps := 4000000) (disch := omega) only [ah, am, Nat.reduceEqDiff, reduceCtorEq, Nat.reduceAdd, Nat.reduceLeDiff, Nat.reduceMul, Nat.reduceLT, if_true, if_false, true_and, and_true, and_self, Nat.reduceBEq, QOp.loads, boxO, bslO, buildO, cutL, fillV, putL, w10, v10, encClip, X]
  refine stepC.of (Overwrite_ok _ _ _ _ ⟨k1, k2, k3⟩ F11.slt (by omega)) ?_
  rintro _ H12 ⟨h0, rfl, Fh⟩
  have Mg := Mg.ext Fh.1; have Mw := Mw.ext Fh.1
  rw [hR] at Fh ⊢
  simp only at Fh ⊢
  have X := (E10.trans (F11.1.trans Fh.1)).ld0
  simp (maxSteps := 4000000) (disch := omega) only [ah, am, Nat.reduceEqDiff, reduceCtorEq, Nat.reduceAdd, Nat.reduceLeDiff, Nat.reduceMul, Nat.reduceLT, if_true, if_false, true_and, and_true, and_self, Nat.reduceBEq, QOp.loads, boxO, bslO, buildO, cutL, fillV, putL, w10, v10, encClip, X]
  refine stepC.of (eqClipS_ok _ _ _ _ _ Fh.slt Mw.slt (by omega) (by omega)) ?_
  rintro _ H13 ⟨e13, rfl⟩
  have Mg := Mg.ext e13
  simp (maxSteps := 4000000) (disch := omega) only [ah, am, Nat.reduceEqDiff, reduceCtorEq, Nat.reduceAdd, Nat.reduceLeDiff, Nat.reduceMul, Nat.reduceLT, if_true, if_false, true_and, and_true, and_self, Nat.reduceBEq, QOp.loads, boxO, bslO, buildO, cutL, fillV, putL, w10, v10, encClip, X, eqbV_bool', beq_self_eq_true]
  refine stepC.of (heldClipS_ok _ _ _ 1 Mg.slt (by omega) (by omega)) ?_
  rintro _ Hx ⟨hx, rfl⟩; rw [hx]; clear hx Hx
  simp (maxSteps := 4000000) (disch := omega) only [ah, am, Nat.reduceEqDiff, reduceCtorEq, Nat.reduceAdd, Nat.reduceLeDiff, Nat.reduceMul, Nat.reduceLT, if_true, if_false, true_and, and_true, and_self, Nat.reduceBEq, QOp.loads, boxO, bslO, buildO, cutL, fillV, putL, w10, v10, encClip, X, hm]
end Go.Proofs.Ytbanblghepekdaa
