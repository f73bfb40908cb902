import Derived.Test.YtbnppofkpgfhnaaDB
import Derived.Test.YtbnppofkpgfhnaaDC
namespace Go.Proofs.Ytbnppofkpgfhnaa
open Go Go.Ah
set_option linter.unusedSimpArgs false
set_option linter.unusedVariables false
set_option maxRecDepth 10000
set_option maxHeartbeats 4000000
/-! 3 loop.example/g00066/laws.FnChanged: parameters 1, live [0], slots [0:code, 1:code, 3:a, 4:b, 5:l, 6:c, 7:is, 8:back, 9:fine, 10:d, 11:ok, 12:i, 13:k, 14:s, 15:f, 16:x, 17:y] -/
def c3_0 : List SOper := [⟨some 2, .q (.mv (.c (.bool false))), none⟩]
def c3_1 : List SOper := [⟨some 18, .q (.mv (.t 0)), none⟩, ⟨some 19, .e (.call 8 [(.t 18)]), none⟩]
def c3_2 : List SOper := [⟨some 2, .q (.mv (.c (.bool true))), none⟩]
def c3_3 : SCode := .seq (.region c3_2 [2]) .ret
def c3_4 : SCode := .cond (.t 19) c3_3 .skip
def c3_5 : SCode := .seq (.region c3_1 [0, 19]) c3_4
def c3_6 : List SOper := [⟨some 21, .q (.mv (.t 0)), none⟩, ⟨some 22, .e (.call 9 [(.t 21)]), none⟩, ⟨some 20, .q (.mv (.t 22)), none⟩, ⟨some 23, .q (.ext (.t 20) 0), none⟩, ⟨some 24, .q (.ext (.t 20) 1), none⟩, ⟨some 3, .q (.mv (.t 23)), none⟩, ⟨some 4, .q (.mv (.t 24)), none⟩]
def c3_7 : List SOper := [⟨some 25, .q (.mv (.t 3)), none⟩, ⟨some 26, .q (.mv (.t 4)), none⟩, ⟨some 27, .e (.call 10 [(.t 25), (.t 26)]), none⟩, ⟨some 5, .q (.mv (.t 27)), none⟩]
def c3_8 : List SOper := [⟨some 28, .q (.mv (.t 5)), none⟩, ⟨some 29, .q (.len (.t 28)), none⟩, ⟨some 30, .q (.mv (.t 3)), none⟩, ⟨some 31, .q (.mv (.t 4)), none⟩, ⟨some 32, .e (.call 11 [(.t 30), (.t 31)]), none⟩, ⟨some 33, .q (.len (.t 32)), none⟩, ⟨some 34, .q (.bin .neq (.t 29) (.t 33)), none⟩]
def c3_9 : List SOper := [⟨some 2, .q (.mv (.c (.bool false))), none⟩]
def c3_10 : SCode := .seq (.region c3_9 [2]) .ret
def c3_11 : SCode := .cond (.t 34) c3_10 .skip
def c3_12 : SCode := .seq (.region c3_8 [3, 4, 5, 34]) c3_11
def c3_13 : List SOper := [⟨some 35, .q (.mv (.t 3)), none⟩, ⟨some 36, .e (.call 12 [(.t 35)]), none⟩, ⟨some 37, .q (.not (.t 36)), none⟩, ⟨some 38, .q (.mv (.t 37)), none⟩, ⟨some 39, .q (.mv (.t 4)), some (38, false)⟩, ⟨some 40, .e (.call 12 [(.t 39)]), some (38, false)⟩, ⟨some 41, .q (.not (.t 40)), some (38, false)⟩, ⟨some 42, .q (.pick (.t 38) (.c (.bool true)) (.t 41)), none⟩, ⟨some 43, .q (.mv (.t 42)), none⟩, ⟨some 44, .q (.mv (.t 5)), some (43, false)⟩, ⟨some 45, .q (.len (.t 44)), some (43, false)⟩, ⟨some 46, .q (.bin .gtr (.t 45) (.c (.int .i64 300))), some (43, false)⟩, ⟨some 47, .q (.pick (.t 43) (.c (.bool true)) (.t 46)), none⟩]
def c3_14 : List SOper := [⟨some 2, .q (.mv (.c (.bool true))), none⟩]
def c3_15 : SCode := .seq (.region c3_14 [2]) .ret
def c3_16 : SCode := .cond (.t 47) c3_15 .skip
def c3_17 : SCode := .seq (.region c3_13 [3, 4, 5, 47]) c3_16
def c3_18 : List SOper := [⟨some 49, .q (.mv (.t 3)), none⟩, ⟨some 50, .q (.mv (.t 5)), none⟩, ⟨some 51, .e (.call 13 [(.t 49), (.t 50)]), none⟩, ⟨some 48, .q (.mv (.t 51)), none⟩, ⟨some 52, .q (.ext (.t 48) 0), none⟩, ⟨some 53, .q (.ext (.t 48) 1), none⟩, ⟨some 6, .q (.mv (.t 52)), none⟩, ⟨some 7, .q (.mv (.t 53)), none⟩]
def c3_19 : List SOper := [⟨some 54, .q (.mv (.t 7)), none⟩, ⟨some 55, .q (.not (.t 54)), none⟩, ⟨some 56, .q (.mv (.t 55)), none⟩, ⟨some 57, .q (.mv (.t 6)), some (56, false)⟩, ⟨some 58, .q (.mv (.t 4)), some (56, false)⟩, ⟨some 59, .e (.call 15 [(.t 58)]), some (56, false)⟩, ⟨some 60, .e (.call 14 [(.t 57), (.t 59)]), some (56, false)⟩, ⟨some 61, .q (.not (.t 60)), some (56, false)⟩, ⟨some 62, .q (.pick (.t 56) (.c (.bool true)) (.t 61)), none⟩]
def c3_20 : List SOper := [⟨some 2, .q (.mv (.c (.bool false))), none⟩]
def c3_21 : SCode := .seq (.region c3_20 [2]) .ret
def c3_22 : SCode := .cond (.t 62) c3_21 .skip
def c3_23 : SCode := .seq (.region c3_19 [3, 4, 5, 62]) c3_22
def c3_24 : List SOper := [⟨some 64, .q (.mv (.t 3)), none⟩, ⟨some 65, .q (.mv (.t 5)), none⟩, ⟨some 66, .e (.call 16 [(.t 64), (.t 65)]), none⟩, ⟨some 63, .q (.mv (.t 66)), none⟩, ⟨some 67, .q (.ext (.t 63) 0), none⟩, ⟨some 68, .q (.ext (.t 63) 1), none⟩, ⟨some 8, .q (.mv (.t 67)), none⟩, ⟨some 9, .q (.mv (.t 68)), none⟩]
def c3_25 : List SOper := [⟨some 69, .q (.mv (.t 9)), none⟩, ⟨some 70, .q (.not (.t 69)), none⟩]
def c3_26 : List SOper := [⟨some 2, .q (.mv (.c (.bool false))), none⟩]
def c3_27 : SCode := .seq (.region c3_26 [2]) .ret
def c3_28 : SCode := .cond (.t 70) c3_27 .skip
def c3_29 : SCode := .seq (.region c3_25 [3, 4, 5, 8, 70]) c3_28
def c3_30 : List SOper := [⟨some 71, .q (.mv (.t 8)), none⟩, ⟨some 72, .q (.len (.t 71)), none⟩, ⟨some 73, .q (.bin .leq (.t 72) (.c (.int .i64 300))), none⟩]
def c3_31 : List SOper := [⟨some 75, .q (.mv (.t 4)), none⟩, ⟨some 76, .q (.mv (.t 8)), none⟩, ⟨some 77, .e (.call 13 [(.t 75), (.t 76)]), none⟩, ⟨some 74, .q (.mv (.t 77)), none⟩, ⟨some 78, .q (.ext (.t 74) 0), none⟩, ⟨some 79, .q (.ext (.t 74) 1), none⟩, ⟨some 10, .q (.mv (.t 78)), none⟩, ⟨some 11, .q (.mv (.t 79)), none⟩]
def c3_32 : List SOper := [⟨some 80, .q (.mv (.t 11)), none⟩, ⟨some 81, .q (.not (.t 80)), none⟩, ⟨some 82, .q (.mv (.t 81)), none⟩, ⟨some 83, .q (.mv (.t 10)), some (82, false)⟩, ⟨some 84, .q (.mv (.t 3)), some (82, false)⟩, ⟨some 85, .e (.call 15 [(.t 84)]), some (82, false)⟩, ⟨some 86, .e (.call 14 [(.t 83), (.t 85)]), some (82, false)⟩, ⟨some 87, .q (.not (.t 86)), some (82, false)⟩, ⟨some 88, .q (.pick (.t 82) (.c (.bool true)) (.t 87)), none⟩]
def c3_33 : List SOper := [⟨some 2, .q (.mv (.c (.bool false))), none⟩]
def c3_34 : SCode := .seq (.region c3_33 [2]) .ret
def c3_35 : SCode := .cond (.t 88) c3_34 .skip
def c3_36 : SCode := .seq (.region c3_32 [3, 4, 5, 88]) c3_35
def c3_37 : SCode := .seq (.region c3_31 [3, 4, 5, 10, 11]) c3_36
def c3_38 : SCode := .cond (.t 73) c3_37 .skip
def c3_39 : SCode := .seq (.region c3_30 [3, 4, 5, 8, 73]) c3_38
def c3_40 : List SOper := [⟨some 12, .q (.mv (.c (.int .i64 0))), none⟩]
def c3_41 : List SOper := [⟨some 89, .q (.mv (.t 12)), none⟩, ⟨some 90, .q (.mv (.t 3)), none⟩, ⟨some 91, .e (.call 17 [(.t 90)]), none⟩, ⟨some 92, .q (.bin .lss (.t 89) (.t 91)), none⟩, ⟨some 93, .q (.mv (.t 92)), none⟩, ⟨some 94, .q (.mv (.t 12)), some (93, true)⟩, ⟨some 95, .q (.bin .lss (.t 94) (.c (.int .i64 40))), some (93, true)⟩, ⟨some 96, .q (.pick (.t 93) (.t 95) (.c (.bool false))), none⟩]
def c3_42 : SCode := .cond (.t 96) .skip (.exit 0)
def c3_43 : SCode := .seq (.region c3_41 [3, 4, 5, 12, 96]) c3_42
def c3_44 : List SOper := [⟨some 99, .q (.mv (.t 5)), none⟩, ⟨some 100, .q (.mv (.t 12)), none⟩, ⟨some 101, .e (.call 18 [(.t 99), (.t 100)]), none⟩, ⟨some 13, .q (.mv (.t 101)), none⟩]
def c3_45 : List SOper := [⟨some 102, .q (.mv (.t 13)), none⟩, ⟨some 103, .q (.bin .lss (.t 102) (.c (.int .i64 0))), none⟩]
def c3_46 : SCode := .cond (.t 103) (.exit 1) .skip
def c3_47 : SCode := .seq (.region c3_45 [3, 4, 5, 12, 13, 103]) c3_46
def c3_48 : List SOper := [⟨some 105, .q (.mv (.t 3)), none⟩, ⟨some 106, .q (.mv (.t 12)), none⟩, ⟨some 107, .e (.call 19 [(.t 105), (.t 106)]), none⟩, ⟨some 104, .q (.mv (.t 107)), none⟩, ⟨some 108, .q (.ext (.t 104) 0), none⟩, ⟨some 109, .q (.ext (.t 104) 1), none⟩, ⟨some 14, .q (.mv (.t 108)), none⟩, ⟨some 15, .q (.mv (.t 109)), none⟩]
def c3_49 : List SOper := [⟨some 111, .q (.mv (.t 4)), none⟩, ⟨some 112, .q (.mv (.t 13)), none⟩, ⟨some 113, .e (.call 19 [(.t 111), (.t 112)]), none⟩, ⟨some 110, .q (.mv (.t 113)), none⟩, ⟨some 114, .q (.ext (.t 110) 0), none⟩, ⟨some 115, .q (.ext (.t 110) 1), none⟩, ⟨some 16, .q (.mv (.t 114)), none⟩, ⟨some 17, .q (.mv (.t 115)), none⟩]
def c3_50 : List SOper := [⟨some 116, .q (.mv (.t 14)), none⟩, ⟨some 117, .q (.mv (.t 16)), none⟩, ⟨some 118, .q (.bin .neq (.t 116) (.t 117)), none⟩, ⟨some 119, .q (.mv (.t 118)), none⟩, ⟨some 120, .q (.mv (.t 15)), some (119, false)⟩, ⟨some 121, .q (.mv (.t 17)), some (119, false)⟩, ⟨some 122, .q (.bin .neq (.t 120) (.t 121)), some (119, false)⟩, ⟨some 123, .q (.pick (.t 119) (.c (.bool true)) (.t 122)), none⟩]
def c3_51 : List SOper := [⟨some 2, .q (.mv (.c (.bool false))), none⟩]
def c3_52 : SCode := .seq (.region c3_51 [2]) .ret
def c3_53 : SCode := .cond (.t 123) c3_52 .skip
def c3_54 : SCode := .seq (.region c3_50 [3, 4, 5, 12, 123]) c3_53
def c3_55 : SCode := .seq (.region c3_49 [3, 4, 5, 12, 14, 15, 16, 17]) c3_54
def c3_56 : SCode := .seq (.region c3_48 [3, 4, 5, 12, 13, 14, 15]) c3_55
def c3_57 : SCode := .seq c3_47 c3_56
def c3_58 : SCode := .seq (.region c3_44 [3, 4, 5, 12, 13]) c3_57
def c3_59 : SCode := .block 1 c3_58
def c3_60 : List SOper := [⟨some 97, .q (.mv (.t 12)), none⟩, ⟨some 98, .q (.bin .add (.t 97) (.c (.int .i64 1))), none⟩, ⟨some 12, .q (.mv (.t 98)), none⟩]
def c3_61 : SCode := .seq c3_59 (.region c3_60 [3, 4, 5, 12])
def c3_62 : SCode := .seq c3_43 c3_61
def c3_63 : SCode := .loop c3_62
def c3_64 : SCode := .block 0 c3_63
def c3_65 : SCode := .seq (.region c3_40 [3, 4, 5, 12]) c3_64
def c3_66 : List SOper := [⟨some 2, .q (.mv (.c (.bool true))), none⟩]
def c3_67 : SCode := .seq (.region c3_66 [2]) .ret
def c3_68 : SCode := .seq c3_65 c3_67
def c3_69 : SCode := .seq c3_39 c3_68
def c3_70 : SCode := .seq c3_29 c3_69
def c3_71 : SCode := .seq (.region c3_24 [3, 4, 5, 8, 9]) c3_70
def c3_72 : SCode := .seq c3_23 c3_71
def c3_73 : SCode := .seq (.region c3_18 [3, 4, 5, 6, 7]) c3_72
def c3_74 : SCode := .seq c3_17 c3_73
def c3_75 : SCode := .seq c3_12 c3_74
def c3_76 : SCode := .seq (.region c3_7 [3, 4, 5]) c3_75
def c3_77 : SCode := .seq (.region c3_6 [3, 4]) c3_76
def c3_78 : SCode := .seq c3_5 c3_77
def c3_79 : SCode := .seq (.region c3_0 [0]) c3_78
def c3 : SCode := c3_79
theorem w3 : type_of% (And.intro (uR Try.prog c3_0.eq_1) (And.intro (uR Try.prog c3_1.eq_1) (And.intro (uR Try.prog c3_2.eq_1) (And.intro (uC Try.prog c3_3.eq_1) (And.intro (uC Try.prog c3_4.eq_1) (And.intro (uC Try.prog c3_5.eq_1) (And.intro (uR Try.prog c3_6.eq_1) (And.intro (uR Try.prog c3_7.eq_1) (And.intro (uR Try.prog c3_8.eq_1) (And.intro (uR Try.prog c3_9.eq_1) (And.intro (uC Try.prog c3_10.eq_1) (And.intro (uC Try.prog c3_11.eq_1) (And.intro (uC Try.prog c3_12.eq_1) (And.intro (uR Try.prog c3_13.eq_1) (And.intro (uR Try.prog c3_14.eq_1) (And.intro (uC Try.prog c3_15.eq_1) (And.intro (uC Try.prog c3_16.eq_1) (And.intro (uC Try.prog c3_17.eq_1) (And.intro (uR Try.prog c3_18.eq_1) (And.intro (uR Try.prog c3_19.eq_1) (And.intro (uR Try.prog c3_20.eq_1) (And.intro (uC Try.prog c3_21.eq_1) (And.intro (uC Try.prog c3_22.eq_1) (And.intro (uC Try.prog c3_23.eq_1) (And.intro (uR Try.prog c3_24.eq_1) (And.intro (uR Try.prog c3_25.eq_1) (And.intro (uR Try.prog c3_26.eq_1) (And.intro (uC Try.prog c3_27.eq_1) (And.intro (uC Try.prog c3_28.eq_1) (And.intro (uC Try.prog c3_29.eq_1) (And.intro (uR Try.prog c3_30.eq_1) (And.intro (uR Try.prog c3_31.eq_1) (And.intro (uR Try.prog c3_32.eq_1) (And.intro (uR Try.prog c3_33.eq_1) (And.intro (uC Try.prog c3_34.eq_1) (And.intro (uC Try.prog c3_35.eq_1) (And.intro (uC Try.prog c3_36.eq_1) (And.intro (uC Try.prog c3_37.eq_1) (And.intro (uC Try.prog c3_38.eq_1) (And.intro (uC Try.prog c3_39.eq_1) (And.intro (uR Try.prog c3_40.eq_1) (And.intro (uR Try.prog c3_41.eq_1) (And.intro (uC Try.prog c3_42.eq_1) (And.intro (uC Try.prog c3_43.eq_1) (And.intro (uR Try.prog c3_44.eq_1) (And.intro (uR Try.prog c3_45.eq_1) (And.intro (uC Try.prog c3_46.eq_1) (And.intro (uC Try.prog c3_47.eq_1) (And.intro (uR Try.prog c3_48.eq_1) (And.intro (uR Try.prog c3_49.eq_1) (And.intro (uR Try.prog c3_50.eq_1) (And.intro (uR Try.prog c3_51.eq_1) (And.intro (uC Try.prog c3_52.eq_1) (And.intro (uC Try.prog c3_53.eq_1) (And.intro (uC Try.prog c3_54.eq_1) (And.intro (uC Try.prog c3_55.eq_1) (And.intro (uC Try.prog c3_56.eq_1) (And.intro (uC Try.prog c3_57.eq_1) (And.intro (uC Try.prog c3_58.eq_1) (And.intro (uC Try.prog c3_59.eq_1) (And.intro (uR Try.prog c3_60.eq_1) (And.intro (uC Try.prog c3_61.eq_1) (And.intro (uC Try.prog c3_62.eq_1) (And.intro (uC Try.prog c3_63.eq_1) (And.intro (uC Try.prog c3_64.eq_1) (And.intro (uC Try.prog c3_65.eq_1) (And.intro (uR Try.prog c3_66.eq_1) (And.intro (uC Try.prog c3_67.eq_1) (And.intro (uC Try.prog c3_68.eq_1) (And.intro (uC Try.prog c3_69.eq_1) (And.intro (uC Try.prog c3_70.eq_1) (And.intro (uC Try.prog c3_71.eq_1) (And.intro (uC Try.prog c3_72.eq_1) (And.intro (uC Try.prog c3_73.eq_1) (And.intro (uC Try.prog c3_74.eq_1) (And.intro (uC Try.prog c3_75.eq_1) (And.intro (uC Try.prog c3_76.eq_1) (And.intro (uC Try.prog c3_77.eq_1) (And.intro (uC Try.prog c3_78.eq_1) (And.intro (uC Try.prog c3_79.eq_1) (uC Try.prog c3.eq_1))))))))))))))))))))))))))))))))))))))))))))))))))))))))))))))))))))))))))))))))) := (And.intro (uR Try.prog c3_0.eq_1) (And.intro (uR Try.prog c3_1.eq_1) (And.intro (uR Try.prog c3_2.eq_1) (And.intro (uC Try.prog c3_3.eq_1) (And.intro (uC Try.prog c3_4.eq_1) (And.intro (uC Try.prog c3_5.eq_1) (And.intro (uR Try.prog c3_6.eq_1) (And.intro (uR Try.prog c3_7.eq_1) (And.intro (uR Try.prog c3_8.eq_1) (And.intro (uR Try.prog c3_9.eq_1) (And.intro (uC Try.prog c3_10.eq_1) (And.intro (uC Try.prog c3_11.eq_1) (And.intro (uC Try.prog c3_12.eq_1) (And.intro (uR Try.prog c3_13.eq_1) (And.intro (uR Try.prog c3_14.eq_1) (And.intro (uC Try.prog c3_15.eq_1) (And.intro (uC Try.prog c3_16.eq_1) (And.intro (uC Try.prog c3_17.eq_1) (And.intro (uR Try.prog c3_18.eq_1) (And.intro (uR Try.prog c3_19.eq_1) (And.intro (uR Try.prog c3_20.eq_1) (And.intro (uC Try.prog c3_21.eq_1) (And.intro (uC Try.prog c3_22.eq_1) (And.intro (uC Try.prog c3_23.eq_1) (And.intro (uR Try.prog c3_24.eq_1) (And.intro (uR Try.prog c3_25.eq_1) (And.intro (uR Try.prog c3_26.eq_1) (And.intro (uC Try.prog c3_27.eq_1) (And.intro (uC Try.prog c3_28.eq_1) (And.intro (uC Try.prog c3_29.eq_1) (And.intro (uR Try.prog c3_30.eq_1) (And.intro (uR Try.prog c3_31.eq_1) (And.intro (uR Try.prog c3_32.eq_1) (And.intro (uR Try.prog c3_33.eq_1) (And.intro (uC Try.prog c3_34.eq_1) (And.intro (uC Try.prog c3_35.eq_1) (And.intro (uC Try.prog c3_36.eq_1) (And.intro (uC Try.prog c3_37.eq_1) (And.intro (uC Try.prog c3_38.eq_1) (And.intro (uC Try.prog c3_39.eq_1) (And.intro (uR Try.prog c3_40.eq_1) (And.intro (uR Try.prog c3_41.eq_1) (And.intro (uC Try.prog c3_42.eq_1) (And.intro (uC Try.prog c3_43.eq_1) (And.intro (uR Try.prog c3_44.eq_1) (And.intro (uR Try.prog c3_45.eq_1) (And.intro (uC Try.prog c3_46.eq_1) (And.intro (uC Try.prog c3_47.eq_1) (And.intro (uR Try.prog c3_48.eq_1) (And.intro (uR Try.prog c3_49.eq_1) (And.intro (uR Try.prog c3_50.eq_1) (And.intro (uR Try.prog c3_51.eq_1) (And.intro (uC Try.prog c3_52.eq_1) (And.intro (uC Try.prog c3_53.eq_1) (And.intro (uC Try.prog c3_54.eq_1) (And.intro (uC Try.prog c3_55.eq_1) (And.intro (uC Try.prog c3_56.eq_1) (And.intro (uC Try.prog c3_57.eq_1) (And.intro (uC Try.prog c3_58.eq_1) (And.intro (uC Try.prog c3_59.eq_1) (And.intro (uR Try.prog c3_60.eq_1) (And.intro (uC Try.prog c3_61.eq_1) (And.intro (uC Try.prog c3_62.eq_1) (And.intro (uC Try.prog c3_63.eq_1) (And.intro (uC Try.prog c3_64.eq_1) (And.intro (uC Try.prog c3_65.eq_1) (And.intro (uR Try.prog c3_66.eq_1) (And.intro (uC Try.prog c3_67.eq_1) (And.intro (uC Try.prog c3_68.eq_1) (And.intro (uC Try.prog c3_69.eq_1) (And.intro (uC Try.prog c3_70.eq_1) (And.intro (uC Try.prog c3_71.eq_1) (And.intro (uC Try.prog c3_72.eq_1) (And.intro (uC Try.prog c3_73.eq_1) (And.intro (uC Try.prog c3_74.eq_1) (And.intro (uC Try.prog c3_75.eq_1) (And.intro (uC Try.prog c3_76.eq_1) (And.intro (uC Try.prog c3_77.eq_1) (And.intro (uC Try.prog c3_78.eq_1) (And.intro (uC Try.prog c3_79.eq_1) (uC Try.prog c3.eq_1)))))))))))))))))))))))))))))))))))))))))))))))))))))))))))))))))))))))))))))))))
def v3 : List RV := [.t 2]
theorem s3 : slimF Try.prog Try.f3 = some (c3.bare, v3) := by kernel_rfl

theorem changesF_len (a b : List Clip) : (changesF a b).length ≤ 400 := by
  unfold changesF; split
  · rename_i h
    have l1 := keepF_length 1 (chP a b); have l2 := keepF_length 2 (sumLen a - chP a b - chQ a b); have l4 := keepF_length 1 (chQ a b)
    have := partS_length (chP a b) (sumLen b - chQ a b) b 0
    have := join_length (partS (chP a b) (sumLen b - chQ a b) 0 b)
    have := h.2.1
    simp only [changesL, List.length_append, List.length_map]; omega
  · simp
theorem FnChanged_ok (h : Heap) (v : Value) (code : List Int) (s : SlT h encByte 1 v code) (hl : code.length ≤ 9223372036854775807) :
    ACall Try.prog 3 [v] h fun r h' => r = .bool true := by
  refine ACall.of Try.func3 s3 (of_decide_eq_true rfl) ?_
  simp (maxSteps := 4000000) (disch := omega) only [ah, am, Nat.reduceEqDiff, reduceCtorEq, Nat.reduceAdd, Nat.reduceLeDiff, Nat.reduceMul, Nat.reduceLT, if_true, if_false, true_and, and_true, and_self, Nat.reduceBEq, QOp.loads, boxO, bslO, buildO, cutL, fillV, putL, w3, v3]
  refine stepC.of (big_ok _ _ _ s) ?_
  rintro _ Hx ⟨hx, rfl⟩; rw [hx]; clear hx Hx
  by_cases hb : 4096 < code.length
  · have hb' : decide (4096 < (code.length : Int)) = true := decide_eq_true (by omega)
    simp (maxSteps := 4000000) (disch := omega) only [ah, am, Nat.reduceEqDiff, reduceCtorEq, Nat.reduceAdd, Nat.reduceLeDiff, Nat.reduceMul, Nat.reduceLT, if_true, if_false, true_and, and_true, and_self, Nat.reduceBEq, QOp.loads, boxO, bslO, buildO, cutL, fillV, putL, w3, v3, hb']
  have hb' : decide (4096 < (code.length : Int)) = false := decide_eq_false (by omega)
  simp (maxSteps := 4000000) (disch := omega) only [ah, am, Nat.reduceEqDiff, reduceCtorEq, Nat.reduceAdd, Nat.reduceLeDiff, Nat.reduceMul, Nat.reduceLT, if_true, if_false, true_and, and_true, and_self, Nat.reduceBEq, QOp.loads, boxO, bslO, buildO, cutL, fillV, putL, w3, v3, hb']
  refine stepC.of (DrawChanges_ok _ _ _ s (by omega)) ?_
  rintro _ H1 ⟨av, bv, a, b, rfl, FA, FB, la, lb⟩
  have SA := FA.slt
  have SB := FB.slt
  clear FA FB s hb' hb
  simp (maxSteps := 4000000) (disch := omega) only [ah, am, Nat.reduceEqDiff, reduceCtorEq, Nat.reduceAdd, Nat.reduceLeDiff, Nat.reduceMul, Nat.reduceLT, if_true, if_false, true_and, and_true, and_self, Nat.reduceBEq, QOp.loads, boxO, bslO, buildO, cutL, fillV, putL, w3, v3]
  refine stepC.of (Changes_ok _ _ _ _ _ SA SB (by omega) (by omega)) ?_
  intro lv H2 FL
  have SL := FL.slt
  have SA := SA.ext FL.1
  have SB := SB.ext FL.1
  have hcl := changesF_len a b
  simp (maxSteps := 4000000) (disch := omega) only [ah, am, Nat.reduceEqDiff, reduceCtorEq, Nat.reduceAdd, Nat.reduceLeDiff, Nat.reduceMul, Nat.reduceLT, if_true, if_false, true_and, and_true, and_self, Nat.reduceBEq, QOp.loads, boxO, bslO, buildO, cutL, fillV, putL, w3, v3, SL.rulesN]
  refine stepC.of (specChanges_ok _ _ _ _ _ SA SB (by omega) (by omega)) ?_
  intro wv H3 FW
  have SL := SL.ext FW.1
  have SA := SA.ext FW.1
  have SB := SB.ext FW.1
  have SW' := FW.slt
  have R := SL.rulesN
  have RW := SW'.rulesN
  simp (maxSteps := 4000000) (disch := omega) only [ah, am, Nat.reduceEqDiff, reduceCtorEq, Nat.reduceAdd, Nat.reduceLeDiff, Nat.reduceMul, Nat.reduceLT, if_true, if_false, true_and, and_true, and_self, Nat.reduceBEq, QOp.loads, boxO, bslO, buildO, cutL, fillV, putL, w3, v3, R, RW, eq_self, decide_true]
  refine stepC.of (TrackOk_ok _ _ _ SA (by omega)) ?_
  rintro _ H4 ⟨e4, rfl⟩
  have SL := SL.ext e4
  have SA := SA.ext e4
  have SB := SB.ext e4
  by_cases ha : trackOk a
  rotate_left
  · have ha' : decide (trackOk a) = false := decide_eq_false ha
    simp (maxSteps := 4000000) (disch := omega) only [ah, am, Nat.reduceEqDiff, reduceCtorEq, Nat.reduceAdd, Nat.reduceLeDiff, Nat.reduceMul, Nat.reduceLT, if_true, if_false, true_and, and_true, and_self, Nat.reduceBEq, QOp.loads, boxO, bslO, buildO, cutL, fillV, putL, w3, v3, ha']
  have ha' : decide (trackOk a) = true := decide_eq_true ha
  simp (maxSteps := 4000000) (disch := omega) only [ah, am, Nat.reduceEqDiff, reduceCtorEq, Nat.reduceAdd, Nat.reduceLeDiff, Nat.reduceMul, Nat.reduceLT, if_true, if_false, true_and, and_true, and_self, Nat.reduceBEq, QOp.loads, boxO, bslO, buildO, cutL, fillV, putL, w3, v3, ha']
  refine stepC.of (TrackOk_ok _ _ _ SB (by omega)) ?_
  rintro _ H5 ⟨e5, rfl⟩
  have SL := SL.ext e5
  have SA := SA.ext e5
  have SB := SB.ext e5
  have R := SL.rulesN
  by_cases htb : trackOk b
  rotate_left
  · have hb' : decide (trackOk b) = false := decide_eq_false htb
    simp (maxSteps := 4000000) (disch := omega) only [ah, am, Nat.reduceEqDiff, reduceCtorEq, Nat.reduceAdd, Nat.reduceLeDiff, Nat.reduceMul, Nat.reduceLT, if_true, if_false, true_and, and_true, and_self, Nat.reduceBEq, QOp.loads, boxO, bslO, buildO, cutL, fillV, putL, w3, v3, hb']
  have hb' : decide (trackOk b) = true := decide_eq_true htb
  rw [show changesF a b = changesL a b from if_pos ⟨ha, htb⟩] at R SL hcl
  by_cases h300 : 300 < (changesL a b).length
  · have h3' : decide (300 < ((changesL a b).length : Int)) = true := decide_eq_true (by omega)
    simp (maxSteps := 4000000) (disch := omega) only [ah, am, Nat.reduceEqDiff, reduceCtorEq, Nat.reduceAdd, Nat.reduceLeDiff, Nat.reduceMul, Nat.reduceLT, if_true, if_false, true_and, and_true, and_self, Nat.reduceBEq, QOp.loads, boxO, bslO, buildO, cutL, fillV, putL, w3, v3, hb', R, h3']
  have h3' : decide (300 < ((changesL a b).length : Int)) = false := decide_eq_false (by omega)
  have hto := changed_to ha htb (by omega)
  obtain ⟨-, -, ja, xa, -⟩ := editF_facts (editF_of ha.2.1 ha rfl)
  obtain ⟨-, -, jb, xb, -⟩ := editF_facts (editF_of htb.2.1 htb rfl)
  have hja : joinedI a = join a := if_pos ha
  have hjb : joinedI b = join b := if_pos htb
  have lja := ja.1; have ljb := jb.1
  simp (maxSteps := 4000000) (disch := omega) only [ah, am, Nat.reduceEqDiff, reduceCtorEq, Nat.reduceAdd, Nat.reduceLeDiff, Nat.reduceMul, Nat.reduceLT, if_true, if_false, true_and, and_true, and_self, Nat.reduceBEq, QOp.loads, boxO, bslO, buildO, cutL, fillV, putL, w3, v3, hb', R, h3']
  refine stepC.of (Apply_ok _ _ _ _ _ SA SL (by omega) (by omega)) ?_
  rintro _ H6 ⟨cv, rfl, FC⟩
  rw [hto] at FC ⊢
  simp only at FC ⊢
  have SL := SL.ext FC.1
  have SA := SA.ext FC.1
  have SB := SB.ext FC.1
  have SC := FC.slt
  simp (maxSteps := 4000000) (disch := omega) only [ah, am, Nat.reduceEqDiff, reduceCtorEq, Nat.reduceAdd, Nat.reduceLeDiff, Nat.reduceMul, Nat.reduceLT, if_true, if_false, true_and, and_true, and_self, Nat.reduceBEq, QOp.loads, boxO, bslO, buildO, cutL, fillV, putL, w3, v3]
  refine stepC.of (Joined_ok _ _ _ SB (by omega)) ?_
  intro jv H7 FJ
  rw [hjb] at FJ
  have SL := SL.ext FJ.1
  have SA := SA.ext FJ.1
  have SB := SB.ext FJ.1
  have SC := SC.ext FJ.1
  simp (maxSteps := 4000000) (disch := omega) only [ah, am, Nat.reduceEqDiff, reduceCtorEq, Nat.reduceAdd, Nat.reduceLeDiff, Nat.reduceMul, Nat.reduceLT, if_true, if_false, true_and, and_true, and_self, Nat.reduceBEq, QOp.loads, boxO, bslO, buildO, cutL, fillV, putL, w3, v3]
  refine stepC.of (sameClips_ok _ _ _ _ _ SC FJ.slt (by omega) (by omega)) ?_
  rintro _ Hx ⟨hx, rfl⟩; rw [hx]; clear hx Hx
  simp (maxSteps := 4000000) (disch := omega) only [ah, am, Nat.reduceEqDiff, reduceCtorEq, Nat.reduceAdd, Nat.reduceLeDiff, Nat.reduceMul, Nat.reduceLT, if_true, if_false, true_and, and_true, and_self, Nat.reduceBEq, QOp.loads, boxO, bslO, buildO, cutL, fillV, putL, w3, v3, eq_self, decide_true]
  refine stepC.of (Turned_ok _ _ _ _ _ SA SL (by omega) (by omega)) ?_
  rintro _ H8 ⟨tv, rfl, FT⟩
  have hT : turnedF a (changesL a b) = ((turnedL a (changesL a b)).1, true) := if_pos (by rw [hto])
  rw [hT] at FT ⊢
  simp only at FT ⊢
  have SL := SL.ext FT.1
  have SA := SA.ext FT.1
  have SB := SB.ext FT.1
  have ST := FT.slt
  have RT := ST.rulesN
  clear FL FW FC FJ SC R RW SW'
  have rest : ∀ (H : Heap) (E : Env), Ext H8 H → E.get 3 = some av → E.get 4 = some bv → E.get 5 = some lv → SW Try.prog c3_68 (retQ [RV.t 2] fun r h' => r = .bool true) E H := by
    intro H E e g3 g4 g5
    have hco : changesOk (changesL a b) := ⟨by omega, changesL_ok ha htb⟩
    simp (maxSteps := 4000000) (disch := omega) only [ah, am, Nat.reduceEqDiff, reduceCtorEq, Nat.reduceAdd, Nat.reduceLeDiff, Nat.reduceMul, Nat.reduceLT, if_true, if_false, true_and, and_true, and_self, Nat.reduceBEq, QOp.loads, boxO, bslO, buildO, cutL, fillV, putL, w3, v3, g3, g4, g5]
    refine SW_loop_up (fun j E K => E = [(3, av), (4, bv), (5, lv), (12, .int .i64 j)] ∧ Ext H8 K) 40 0 (by omega) ⟨rfl, e⟩ ?_
    clear e g3 g4 g5
    rintro j E K hj ⟨rfl, e⟩
    have W1 : IntKind.i64.wrap ((j : Int) + 1) = ((j + 1 : Nat) : Int) := i64e (by omega) (by omega)
    simp (maxSteps := 4000000) (disch := omega) only [ah, am, Nat.reduceEqDiff, reduceCtorEq, Nat.reduceAdd, Nat.reduceLeDiff, Nat.reduceMul, Nat.reduceLT, if_true, if_false, true_and, and_true, and_self, Nat.reduceBEq, QOp.loads, boxO, bslO, buildO, cutL, fillV, putL, w3, v3]
    refine stepC.of (Length_ok _ _ _ (SA.ext e) (by omega)) ?_
    rintro _ K2 ⟨e2, rfl⟩
    have e := e.trans e2
    rw [show lengthI a = sumLen a from if_pos ha]
    by_cases c1 : (j : Int) < sumLen a
    rotate_left
    · have d1 : decide ((j : Int) < sumLen a) = false := decide_eq_false c1
      simp (maxSteps := 4000000) (disch := omega) only [ah, am, Nat.reduceEqDiff, reduceCtorEq, Nat.reduceAdd, Nat.reduceLeDiff, Nat.reduceMul, Nat.reduceLT, if_true, if_false, true_and, and_true, and_self, Nat.reduceBEq, QOp.loads, boxO, bslO, buildO, cutL, fillV, putL, w3, v3, d1]
    have d1 : decide ((j : Int) < sumLen a) = true := decide_eq_true c1
    by_cases c2 : j < 40
    rotate_left
    · have d2 : decide ((j : Int) < 40) = false := decide_eq_false (by omega)
      simp (maxSteps := 4000000) (disch := omega) only [ah, am, Nat.reduceEqDiff, reduceCtorEq, Nat.reduceAdd, Nat.reduceLeDiff, Nat.reduceMul, Nat.reduceLT, if_true, if_false, true_and, and_true, and_self, Nat.reduceBEq, QOp.loads, boxO, bslO, buildO, cutL, fillV, putL, w3, v3, d1, d2]
    have d2 : decide ((j : Int) < 40) = true := decide_eq_true (by omega)
    simp (maxSteps := 4000000) (disch := omega) only [ah, am, Nat.reduceEqDiff, reduceCtorEq, Nat.reduceAdd, Nat.reduceLeDiff, Nat.reduceMul, Nat.reduceLT, if_true, if_false, true_and, and_true, and_self, Nat.reduceBEq, QOp.loads, boxO, bslO, buildO, cutL, fillV, putL, w3, v3, d1, d2]
    refine stepC.of (Shift_ok _ _ _ _ (SL.ext e) (by omega) (by omega)) ?_
    rintro _ K3 ⟨e3, rfl⟩
    have e := e.trans e3
    rw [show shiftF (changesL a b) j = shiftL (changesL a b) j 0 from if_pos ⟨hco, by omega⟩]
    have SF := shift_frame ha htb (i := j) (by omega)
    generalize shiftL (changesL a b) j 0 = k at SF ⊢
    by_cases hk : k < 0
    · have hk' : decide (k < 0) = true := decide_eq_true hk
      simp (maxSteps := 4000000) (disch := omega) only [ah, am, Nat.reduceEqDiff, reduceCtorEq, Nat.reduceAdd, Nat.reduceLeDiff, Nat.reduceMul, Nat.reduceLT, if_true, if_false, true_and, and_true, and_self, Nat.reduceBEq, QOp.loads, boxO, bslO, buildO, cutL, fillV, putL, w3, v3, hk', W1]
      exact ⟨c2, e⟩
    have hk' : decide (k < 0) = false := decide_eq_false hk
    have FQ := frameAt_eq (i := k) (j := j) ha htb (by omega) (by omega) (SF (by omega))
    simp (maxSteps := 4000000) (disch := omega) only [ah, am, Nat.reduceEqDiff, reduceCtorEq, Nat.reduceAdd, Nat.reduceLeDiff, Nat.reduceMul, Nat.reduceLT, if_true, if_false, true_and, and_true, and_self, Nat.reduceBEq, QOp.loads, boxO, bslO, buildO, cutL, fillV, putL, w3, v3, hk']
    refine stepC.of (FrameAt_ok _ _ _ _ (SA.ext e) (by omega)) ?_
    rintro _ K4 ⟨e4, rfl⟩
    have e := e.trans e4
    simp (maxSteps := 4000000) (disch := omega) only [ah, am, Nat.reduceEqDiff, reduceCtorEq, Nat.reduceAdd, Nat.reduceLeDiff, Nat.reduceMul, Nat.reduceLT, if_true, if_false, true_and, and_true, and_self, Nat.reduceBEq, QOp.loads, boxO, bslO, buildO, cutL, fillV, putL, w3, v3]
    refine stepC.of (FrameAt_ok _ _ _ _ (SB.ext e) (by omega)) ?_
    rintro _ K5 ⟨e5, rfl⟩
    have e := e.trans e5
    rw [FQ]
    simp (maxSteps := 4000000) (disch := omega) only [ah, am, Nat.reduceEqDiff, reduceCtorEq, Nat.reduceAdd, Nat.reduceLeDiff, Nat.reduceMul, Nat.reduceLT, if_true, if_false, true_and, and_true, and_self, Nat.reduceBEq, QOp.loads, boxO, bslO, buildO, cutL, fillV, putL, w3, v3, eq_self, decide_true, W1]
    exact ⟨c2, e⟩
  rw [c3_70.eq_1, c3_69.eq_1]
  generalize c3_68 = fc at rest ⊢
  by_cases hb3 : (turnedL a (changesL a b)).1.length ≤ 300
  rotate_left
  · have hb3' : decide (((turnedL a (changesL a b)).1.length : Int) ≤ 300) = false := decide_eq_false (by omega)
    simp (maxSteps := 4000000) (disch := omega) only [ah, am, Nat.reduceEqDiff, reduceCtorEq, Nat.reduceAdd, Nat.reduceLeDiff, Nat.reduceMul, Nat.reduceLT, if_true, if_false, true_and, and_true, and_self, Nat.reduceBEq, QOp.loads, boxO, bslO, buildO, cutL, fillV, putL, w3, v3, RT, hb3']
    exact rest _ _ (Ext.refl _) rfl rfl rfl
  have hb3' : decide (((turnedL a (changesL a b)).1.length : Int) ≤ 300) = true := decide_eq_true (by omega)
  have hback := back_of hto htb xb.symm hb3
  simp (maxSteps := 4000000) (disch := omega) only [ah, am, Nat.reduceEqDiff, reduceCtorEq, Nat.reduceAdd, Nat.reduceLeDiff, Nat.reduceMul, Nat.reduceLT, if_true, if_false, true_and, and_true, and_self, Nat.reduceBEq, QOp.loads, boxO, bslO, buildO, cutL, fillV, putL, w3, v3, RT, hb3']
  refine stepC.of (Apply_ok _ _ _ _ _ SB ST (by omega) (by omega)) ?_
  rintro _ H9 ⟨dv, rfl, FD⟩
  rw [hback] at FD ⊢
  simp only at FD ⊢
  simp (maxSteps := 4000000) (disch := omega) only [ah, am, Nat.reduceEqDiff, reduceCtorEq, Nat.reduceAdd, Nat.reduceLeDiff, Nat.reduceMul, Nat.reduceLT, if_true, if_false, true_and, and_true, and_self, Nat.reduceBEq, QOp.loads, boxO, bslO, buildO, cutL, fillV, putL, w3, v3]
  refine stepC.of (Joined_ok _ _ _ (SA.ext FD.1) (by omega)) ?_
  intro jv2 H10 FJ2
  rw [hja] at FJ2
  simp (maxSteps := 4000000) (disch := omega) only [ah, am, Nat.reduceEqDiff, reduceCtorEq, Nat.reduceAdd, Nat.reduceLeDiff, Nat.reduceMul, Nat.reduceLT, if_true, if_false, true_and, and_true, and_self, Nat.reduceBEq, QOp.loads, boxO, bslO, buildO, cutL, fillV, putL, w3, v3]
  refine stepC.of (sameClips_ok _ _ _ _ _ (FD.slt.ext FJ2.1) FJ2.slt (by omega) (by omega)) ?_
  rintro _ Hx ⟨hx, rfl⟩; rw [hx]; clear hx Hx
  simp (maxSteps := 4000000) (disch := omega) only [ah, am, Nat.reduceEqDiff, reduceCtorEq, Nat.reduceAdd, Nat.reduceLeDiff, Nat.reduceMul, Nat.reduceLT, if_true, if_false, true_and, and_true, and_self, Nat.reduceBEq, QOp.loads, boxO, bslO, buildO, cutL, fillV, putL, w3, v3, eq_self, decide_true]
  exact rest _ _ (FD.1.trans FJ2.1) rfl rfl rfl
end Go.Proofs.Ytbnppofkpgfhnaa
