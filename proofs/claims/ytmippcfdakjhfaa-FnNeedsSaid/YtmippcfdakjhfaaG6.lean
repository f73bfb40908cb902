import Derived.Test.YtmippcfdakjhfaaG5
namespace Go.Proofs.Ytmippcfdakjhfaa
open Go Go.Ah
open Go.Sort (swp)
set_option linter.unusedSimpArgs false
set_option linter.unusedVariables false
set_option maxRecDepth 10000
set_option maxHeartbeats 4000000
/-! 70 slices.pdqsortCmpFunc[loop.example/g00066/impl.Reel]: parameters 5, live [0, 1, 2, 3, 4], slots [0:data, 1:a, 2:b, 3:limit, 4:cmp, 5:data, 6:a, 7:b, 8:limit, 9:cmp, 10:wasBalanced, 11:wasPartitioned, 12:length, 13:pivot, 14:hint, 15:mid, 16:mid, 17:alreadyPartitioned, 18:leftLen, 19:rightLen, 20:balanceThreshold] -/
def c70_0 : List SOper := [⟨some 10, .q (.mv (.c (.bool true))), none⟩]
def c70_1 : List SOper := [⟨some 11, .q (.mv (.c (.bool true))), none⟩]
def c70_2 : List SOper := [⟨some 21, .q (.mv (.t 2)), none⟩, ⟨some 22, .q (.mv (.t 1)), none⟩, ⟨some 23, .q (.bin .sub (.t 21) (.t 22)), none⟩, ⟨some 12, .q (.mv (.t 23)), none⟩]
def c70_3 : List SOper := [⟨some 24, .q (.mv (.t 12)), none⟩, ⟨some 25, .q (.bin .leq (.t 24) (.c (.int .i64 12))), none⟩]
def c70_4 : List SOper := [⟨some 26, .q (.mv (.t 0)), none⟩, ⟨some 27, .q (.mv (.t 1)), none⟩, ⟨some 28, .q (.mv (.t 2)), none⟩, ⟨some 29, .q (.mv (.t 4)), none⟩, ⟨some 30, .e (.call 74 [(.t 26), (.t 27), (.t 28), (.t 29)]), none⟩]
def c70_5 : SCode := .seq (.region c70_4 []) .ret
def c70_6 : SCode := .cond (.t 25) c70_5 .skip
def c70_7 : SCode := .seq (.region c70_3 [0, 1, 2, 3, 4, 10, 11, 12, 25]) c70_6
def c70_8 : List SOper := [⟨some 31, .q (.mv (.t 3)), none⟩, ⟨some 32, .q (.bin .eql (.t 31) (.c (.int .i64 0))), none⟩]
def c70_9 : List SOper := [⟨some 33, .q (.mv (.t 0)), none⟩, ⟨some 34, .q (.mv (.t 1)), none⟩, ⟨some 35, .q (.mv (.t 2)), none⟩, ⟨some 36, .q (.mv (.t 4)), none⟩, ⟨some 37, .e (.call 75 [(.t 33), (.t 34), (.t 35), (.t 36)]), none⟩]
def c70_10 : SCode := .seq (.region c70_9 []) .ret
def c70_11 : SCode := .cond (.t 32) c70_10 .skip
def c70_12 : SCode := .seq (.region c70_8 [0, 1, 2, 3, 4, 10, 11, 12, 32]) c70_11
def c70_13 : List SOper := [⟨some 38, .q (.mv (.t 10)), none⟩, ⟨some 39, .q (.not (.t 38)), none⟩]
def c70_14 : List SOper := [⟨some 40, .q (.mv (.t 0)), none⟩, ⟨some 41, .q (.mv (.t 1)), none⟩, ⟨some 42, .q (.mv (.t 2)), none⟩, ⟨some 43, .q (.mv (.t 4)), none⟩, ⟨some 44, .e (.call 76 [(.t 40), (.t 41), (.t 42), (.t 43)]), none⟩]
def c70_15 : List SOper := [⟨some 45, .q (.mv (.t 3)), none⟩, ⟨some 46, .q (.bin .sub (.t 45) (.c (.int .i64 1))), none⟩, ⟨some 3, .q (.mv (.t 46)), none⟩]
def c70_16 : SCode := .seq (.region c70_14 [0, 1, 2, 3, 4, 10, 11, 12]) (.region c70_15 [0, 1, 2, 3, 4, 10, 11, 12])
def c70_17 : SCode := .cond (.t 39) c70_16 .skip
def c70_18 : SCode := .seq (.region c70_13 [0, 1, 2, 3, 4, 10, 11, 12, 39]) c70_17
def c70_19 : List SOper := [⟨some 48, .q (.mv (.t 0)), none⟩, ⟨some 49, .q (.mv (.t 1)), none⟩, ⟨some 50, .q (.mv (.t 2)), none⟩, ⟨some 51, .q (.mv (.t 4)), none⟩, ⟨some 52, .e (.call 77 [(.t 48), (.t 49), (.t 50), (.t 51)]), none⟩, ⟨some 47, .q (.mv (.t 52)), none⟩, ⟨some 53, .q (.ext (.t 47) 0), none⟩, ⟨some 54, .q (.ext (.t 47) 1), none⟩, ⟨some 13, .q (.mv (.t 53)), none⟩, ⟨some 14, .q (.mv (.t 54)), none⟩]
def c70_20 : List SOper := [⟨some 55, .q (.mv (.t 14)), none⟩, ⟨some 56, .q (.bin .eql (.t 55) (.c (.int .i64 2))), none⟩]
def c70_21 : List SOper := [⟨some 57, .q (.mv (.t 0)), none⟩, ⟨some 58, .q (.mv (.t 1)), none⟩, ⟨some 59, .q (.mv (.t 2)), none⟩, ⟨some 60, .q (.mv (.t 4)), none⟩, ⟨some 61, .e (.call 78 [(.t 57), (.t 58), (.t 59), (.t 60)]), none⟩]
def c70_22 : List SOper := [⟨some 62, .q (.mv (.t 2)), none⟩, ⟨some 63, .q (.bin .sub (.t 62) (.c (.int .i64 1))), none⟩, ⟨some 64, .q (.mv (.t 13)), none⟩, ⟨some 65, .q (.mv (.t 1)), none⟩, ⟨some 66, .q (.bin .sub (.t 64) (.t 65)), none⟩, ⟨some 67, .q (.bin .sub (.t 63) (.t 66)), none⟩, ⟨some 13, .q (.mv (.t 67)), none⟩]
def c70_23 : List SOper := [⟨some 14, .q (.mv (.c (.int .i64 1))), none⟩]
def c70_24 : SCode := .seq (.region c70_22 [0, 1, 2, 3, 4, 10, 11, 12, 13]) (.region c70_23 [0, 1, 2, 3, 4, 10, 11, 12, 13, 14])
def c70_25 : SCode := .seq (.region c70_21 [0, 1, 2, 3, 4, 10, 11, 12, 13]) c70_24
def c70_26 : SCode := .cond (.t 56) c70_25 .skip
def c70_27 : SCode := .seq (.region c70_20 [0, 1, 2, 3, 4, 10, 11, 12, 13, 14, 56]) c70_26
def c70_28 : List SOper := [⟨some 68, .q (.mv (.t 10)), none⟩, ⟨some 69, .q (.mv (.t 68)), none⟩, ⟨some 70, .q (.mv (.t 11)), some (69, true)⟩, ⟨some 71, .q (.pick (.t 69) (.t 70) (.c (.bool false))), none⟩, ⟨some 72, .q (.mv (.t 71)), none⟩, ⟨some 73, .q (.mv (.t 14)), some (72, true)⟩, ⟨some 74, .q (.bin .eql (.t 73) (.c (.int .i64 1))), some (72, true)⟩, ⟨some 75, .q (.pick (.t 72) (.t 74) (.c (.bool false))), none⟩]
def c70_29 : List SOper := [⟨some 76, .q (.mv (.t 0)), none⟩, ⟨some 77, .q (.mv (.t 1)), none⟩, ⟨some 78, .q (.mv (.t 2)), none⟩, ⟨some 79, .q (.mv (.t 4)), none⟩, ⟨some 80, .e (.call 79 [(.t 76), (.t 77), (.t 78), (.t 79)]), none⟩]
def c70_30 : SCode := .cond (.t 80) .ret .skip
def c70_31 : SCode := .seq (.region c70_29 [0, 1, 2, 3, 4, 10, 11, 12, 13, 80]) c70_30
def c70_32 : SCode := .cond (.t 75) c70_31 .skip
def c70_33 : SCode := .seq (.region c70_28 [0, 1, 2, 3, 4, 10, 11, 12, 13, 75]) c70_32
def c70_34 : List SOper := [⟨some 81, .q (.mv (.t 1)), none⟩, ⟨some 82, .q (.bin .gtr (.t 81) (.c (.int .i64 0))), none⟩, ⟨some 83, .q (.mv (.t 82)), none⟩, ⟨some 84, .q (.mv (.t 4)), some (83, true)⟩, ⟨some 85, .q (.mv (.t 0)), some (83, true)⟩, ⟨some 86, .q (.mv (.t 1)), some (83, true)⟩, ⟨some 87, .q (.bin .sub (.t 86) (.c (.int .i64 1))), some (83, true)⟩, ⟨some 88, .q (.ia 3 (.t 85) (.t 87)), some (83, true)⟩, ⟨some 89, .q (.ldn 3 (.t 88)), some (83, true)⟩, ⟨some 90, .q (.mv (.t 0)), some (83, true)⟩, ⟨some 91, .q (.mv (.t 13)), some (83, true)⟩, ⟨some 92, .q (.ia 3 (.t 90) (.t 91)), some (83, true)⟩, ⟨some 93, .q (.ldn 3 (.t 92)), some (83, true)⟩, ⟨some 94, .e (.callv (.t 84) [(.t 89), (.t 93)]), some (83, true)⟩, ⟨some 95, .q (.bin .lss (.t 94) (.c (.int .i64 0))), some (83, true)⟩, ⟨some 96, .q (.not (.t 95)), some (83, true)⟩, ⟨some 97, .q (.pick (.t 83) (.t 96) (.c (.bool false))), none⟩]
def c70_35 : List SOper := [⟨some 98, .q (.mv (.t 0)), none⟩, ⟨some 99, .q (.mv (.t 1)), none⟩, ⟨some 100, .q (.mv (.t 2)), none⟩, ⟨some 101, .q (.mv (.t 13)), none⟩, ⟨some 102, .q (.mv (.t 4)), none⟩, ⟨some 103, .e (.call 80 [(.t 98), (.t 99), (.t 100), (.t 101), (.t 102)]), none⟩, ⟨some 15, .q (.mv (.t 103)), none⟩]
def c70_36 : List SOper := [⟨some 104, .q (.mv (.t 15)), none⟩, ⟨some 1, .q (.mv (.t 104)), none⟩]
def c70_37 : SCode := .seq (.region c70_36 [0, 1, 2, 3, 4, 10, 11]) (.exit 1)
def c70_38 : SCode := .seq (.region c70_35 [0, 2, 3, 4, 10, 11, 15]) c70_37
def c70_39 : SCode := .cond (.t 97) c70_38 .skip
def c70_40 : SCode := .seq (.region c70_34 [0, 1, 2, 3, 4, 10, 11, 12, 13, 97]) c70_39
def c70_41 : List SOper := [⟨some 106, .q (.mv (.t 0)), none⟩, ⟨some 107, .q (.mv (.t 1)), none⟩, ⟨some 108, .q (.mv (.t 2)), none⟩, ⟨some 109, .q (.mv (.t 13)), none⟩, ⟨some 110, .q (.mv (.t 4)), none⟩, ⟨some 111, .e (.call 81 [(.t 106), (.t 107), (.t 108), (.t 109), (.t 110)]), none⟩, ⟨some 105, .q (.mv (.t 111)), none⟩, ⟨some 112, .q (.ext (.t 105) 0), none⟩, ⟨some 113, .q (.ext (.t 105) 1), none⟩, ⟨some 16, .q (.mv (.t 112)), none⟩, ⟨some 17, .q (.mv (.t 113)), none⟩]
def c70_42 : List SOper := [⟨some 114, .q (.mv (.t 17)), none⟩, ⟨some 11, .q (.mv (.t 114)), none⟩]
def c70_43 : List SOper := [⟨some 115, .q (.mv (.t 16)), none⟩, ⟨some 116, .q (.mv (.t 1)), none⟩, ⟨some 117, .q (.bin .sub (.t 115) (.t 116)), none⟩, ⟨some 118, .q (.mv (.t 2)), none⟩, ⟨some 119, .q (.mv (.t 16)), none⟩, ⟨some 120, .q (.bin .sub (.t 118) (.t 119)), none⟩, ⟨some 18, .q (.mv (.t 117)), none⟩, ⟨some 19, .q (.mv (.t 120)), none⟩]
def c70_44 : List SOper := [⟨some 121, .q (.mv (.t 12)), none⟩, ⟨some 122, .q (.bin .quo (.t 121) (.c (.int .i64 8))), none⟩, ⟨some 20, .q (.mv (.t 122)), none⟩]
def c70_45 : List SOper := [⟨some 123, .q (.mv (.t 18)), none⟩, ⟨some 124, .q (.mv (.t 19)), none⟩, ⟨some 125, .q (.bin .lss (.t 123) (.t 124)), none⟩]
def c70_46 : List SOper := [⟨some 126, .q (.mv (.t 18)), none⟩, ⟨some 127, .q (.mv (.t 20)), none⟩, ⟨some 128, .q (.bin .geq (.t 126) (.t 127)), none⟩, ⟨some 10, .q (.mv (.t 128)), none⟩]
def c70_47 : List SOper := [⟨some 129, .q (.mv (.t 0)), none⟩, ⟨some 130, .q (.mv (.t 1)), none⟩, ⟨some 131, .q (.mv (.t 16)), none⟩, ⟨some 132, .q (.mv (.t 3)), none⟩, ⟨some 133, .q (.mv (.t 4)), none⟩, ⟨some 134, .e (.call 70 [(.t 129), (.t 130), (.t 131), (.t 132), (.t 133)]), none⟩]
def c70_48 : List SOper := [⟨some 135, .q (.mv (.t 16)), none⟩, ⟨some 136, .q (.bin .add (.t 135) (.c (.int .i64 1))), none⟩, ⟨some 1, .q (.mv (.t 136)), none⟩]
def c70_49 : SCode := .seq (.region c70_47 [0, 2, 3, 4, 10, 11, 16]) (.region c70_48 [0, 1, 2, 3, 4, 10, 11])
def c70_50 : SCode := .seq (.region c70_46 [0, 1, 2, 3, 4, 10, 11, 16]) c70_49
def c70_51 : List SOper := [⟨some 137, .q (.mv (.t 19)), none⟩, ⟨some 138, .q (.mv (.t 20)), none⟩, ⟨some 139, .q (.bin .geq (.t 137) (.t 138)), none⟩, ⟨some 10, .q (.mv (.t 139)), none⟩]
def c70_52 : List SOper := [⟨some 140, .q (.mv (.t 0)), none⟩, ⟨some 141, .q (.mv (.t 16)), none⟩, ⟨some 142, .q (.bin .add (.t 141) (.c (.int .i64 1))), none⟩, ⟨some 143, .q (.mv (.t 2)), none⟩, ⟨some 144, .q (.mv (.t 3)), none⟩, ⟨some 145, .q (.mv (.t 4)), none⟩, ⟨some 146, .e (.call 70 [(.t 140), (.t 142), (.t 143), (.t 144), (.t 145)]), none⟩]
def c70_53 : List SOper := [⟨some 147, .q (.mv (.t 16)), none⟩, ⟨some 2, .q (.mv (.t 147)), none⟩]
def c70_54 : SCode := .seq (.region c70_52 [0, 1, 3, 4, 10, 11, 16]) (.region c70_53 [0, 1, 2, 3, 4, 10, 11])
def c70_55 : SCode := .seq (.region c70_51 [0, 1, 2, 3, 4, 10, 11, 16]) c70_54
def c70_56 : SCode := .cond (.t 125) c70_50 c70_55
def c70_57 : SCode := .seq (.region c70_45 [0, 1, 2, 3, 4, 11, 16, 18, 19, 20, 125]) c70_56
def c70_58 : SCode := .seq (.region c70_44 [0, 1, 2, 3, 4, 11, 16, 18, 19, 20]) c70_57
def c70_59 : SCode := .seq (.region c70_43 [0, 1, 2, 3, 4, 11, 12, 16, 18, 19]) c70_58
def c70_60 : SCode := .seq (.region c70_42 [0, 1, 2, 3, 4, 11, 12, 16]) c70_59
def c70_61 : SCode := .seq (.region c70_41 [0, 1, 2, 3, 4, 12, 16, 17]) c70_60
def c70_62 : SCode := .seq c70_40 c70_61
def c70_63 : SCode := .seq c70_33 c70_62
def c70_64 : SCode := .seq c70_27 c70_63
def c70_65 : SCode := .seq (.region c70_19 [0, 1, 2, 3, 4, 10, 11, 12, 13, 14]) c70_64
def c70_66 : SCode := .seq c70_18 c70_65
def c70_67 : SCode := .seq c70_12 c70_66
def c70_68 : SCode := .seq c70_7 c70_67
def c70_69 : SCode := .seq (.region c70_2 [0, 1, 2, 3, 4, 10, 11, 12]) c70_68
def c70_70 : SCode := .block 1 c70_69
def c70_71 : SCode := .loop c70_70
def c70_72 : SCode := .block 0 c70_71
def c70_73 : SCode := .seq (.region c70_1 [0, 1, 2, 3, 4, 10, 11]) c70_72
def c70_74 : SCode := .seq (.region c70_0 [0, 1, 2, 3, 4, 10]) c70_73
def c70 : SCode := c70_74
theorem w70 : type_of% (And.intro (uR Try.prog c70_0.eq_1) (And.intro (uR Try.prog c70_1.eq_1) (And.intro (uR Try.prog c70_2.eq_1) (And.intro (uR Try.prog c70_3.eq_1) (And.intro (uR Try.prog c70_4.eq_1) (And.intro (uC Try.prog c70_5.eq_1) (And.intro (uC Try.prog c70_6.eq_1) (And.intro (uC Try.prog c70_7.eq_1) (And.intro (uR Try.prog c70_8.eq_1) (And.intro (uR Try.prog c70_9.eq_1) (And.intro (uC Try.prog c70_10.eq_1) (And.intro (uC Try.prog c70_11.eq_1) (And.intro (uC Try.prog c70_12.eq_1) (And.intro (uR Try.prog c70_13.eq_1) (And.intro (uR Try.prog c70_14.eq_1) (And.intro (uR Try.prog c70_15.eq_1) (And.intro (uC Try.prog c70_16.eq_1) (And.intro (uC Try.prog c70_17.eq_1) (And.intro (uC Try.prog c70_18.eq_1) (And.intro (uR Try.prog c70_19.eq_1) (And.intro (uR Try.prog c70_20.eq_1) (And.intro (uR Try.prog c70_21.eq_1) (And.intro (uR Try.prog c70_22.eq_1) (And.intro (uR Try.prog c70_23.eq_1) (And.intro (uC Try.prog c70_24.eq_1) (And.intro (uC Try.prog c70_25.eq_1) (And.intro (uC Try.prog c70_26.eq_1) (And.intro (uC Try.prog c70_27.eq_1) (And.intro (uR Try.prog c70_28.eq_1) (And.intro (uR Try.prog c70_29.eq_1) (And.intro (uC Try.prog c70_30.eq_1) (And.intro (uC Try.prog c70_31.eq_1) (And.intro (uC Try.prog c70_32.eq_1) (And.intro (uC Try.prog c70_33.eq_1) (And.intro (uR Try.prog c70_34.eq_1) (And.intro (uR Try.prog c70_35.eq_1) (And.intro (uR Try.prog c70_36.eq_1) (And.intro (uC Try.prog c70_37.eq_1) (And.intro (uC Try.prog c70_38.eq_1) (And.intro (uC Try.prog c70_39.eq_1) (And.intro (uC Try.prog c70_40.eq_1) (And.intro (uR Try.prog c70_41.eq_1) (And.intro (uR Try.prog c70_42.eq_1) (And.intro (uR Try.prog c70_43.eq_1) (And.intro (uR Try.prog c70_44.eq_1) (And.intro (uR Try.prog c70_45.eq_1) (And.intro (uR Try.prog c70_46.eq_1) (And.intro (uR Try.prog c70_47.eq_1) (And.intro (uR Try.prog c70_48.eq_1) (And.intro (uC Try.prog c70_49.eq_1) (And.intro (uC Try.prog c70_50.eq_1) (And.intro (uR Try.prog c70_51.eq_1) (And.intro (uR Try.prog c70_52.eq_1) (And.intro (uR Try.prog c70_53.eq_1) (And.intro (uC Try.prog c70_54.eq_1) (And.intro (uC Try.prog c70_55.eq_1) (And.intro (uC Try.prog c70_56.eq_1) (And.intro (uC Try.prog c70_57.eq_1) (And.intro (uC Try.prog c70_58.eq_1) (And.intro (uC Try.prog c70_59.eq_1) (And.intro (uC Try.prog c70_60.eq_1) (And.intro (uC Try.prog c70_61.eq_1) (And.intro (uC Try.prog c70_62.eq_1) (And.intro (uC Try.prog c70_63.eq_1) (And.intro (uC Try.prog c70_64.eq_1) (And.intro (uC Try.prog c70_65.eq_1) (And.intro (uC Try.prog c70_66.eq_1) (And.intro (uC Try.prog c70_67.eq_1) (And.intro (uC Try.prog c70_68.eq_1) (And.intro (uC Try.prog c70_69.eq_1) (And.intro (uC Try.prog c70_70.eq_1) (And.intro (uC Try.prog c70_71.eq_1) (And.intro (uC Try.prog c70_72.eq_1) (And.intro (uC Try.prog c70_73.eq_1) (And.intro (uC Try.prog c70_74.eq_1) (uC Try.prog c70.eq_1)))))))))))))))))))))))))))))))))))))))))))))))))))))))))))))))))))))))))))) := (And.intro (uR Try.prog c70_0.eq_1) (And.intro (uR Try.prog c70_1.eq_1) (And.intro (uR Try.prog c70_2.eq_1) (And.intro (uR Try.prog c70_3.eq_1) (And.intro (uR Try.prog c70_4.eq_1) (And.intro (uC Try.prog c70_5.eq_1) (And.intro (uC Try.prog c70_6.eq_1) (And.intro (uC Try.prog c70_7.eq_1) (And.intro (uR Try.prog c70_8.eq_1) (And.intro (uR Try.prog c70_9.eq_1) (And.intro (uC Try.prog c70_10.eq_1) (And.intro (uC Try.prog c70_11.eq_1) (And.intro (uC Try.prog c70_12.eq_1) (And.intro (uR Try.prog c70_13.eq_1) (And.intro (uR Try.prog c70_14.eq_1) (And.intro (uR Try.prog c70_15.eq_1) (And.intro (uC Try.prog c70_16.eq_1) (And.intro (uC Try.prog c70_17.eq_1) (And.intro (uC Try.prog c70_18.eq_1) (And.intro (uR Try.prog c70_19.eq_1) (And.intro (uR Try.prog c70_20.eq_1) (And.intro (uR Try.prog c70_21.eq_1) (And.intro (uR Try.prog c70_22.eq_1) (And.intro (uR Try.prog c70_23.eq_1) (And.intro (uC Try.prog c70_24.eq_1) (And.intro (uC Try.prog c70_25.eq_1) (And.intro (uC Try.prog c70_26.eq_1) (And.intro (uC Try.prog c70_27.eq_1) (And.intro (uR Try.prog c70_28.eq_1) (And.intro (uR Try.prog c70_29.eq_1) (And.intro (uC Try.prog c70_30.eq_1) (And.intro (uC Try.prog c70_31.eq_1) (And.intro (uC Try.prog c70_32.eq_1) (And.intro (uC Try.prog c70_33.eq_1) (And.intro (uR Try.prog c70_34.eq_1) (And.intro (uR Try.prog c70_35.eq_1) (And.intro (uR Try.prog c70_36.eq_1) (And.intro (uC Try.prog c70_37.eq_1) (And.intro (uC Try.prog c70_38.eq_1) (And.intro (uC Try.prog c70_39.eq_1) (And.intro (uC Try.prog c70_40.eq_1) (And.intro (uR Try.prog c70_41.eq_1) (And.intro (uR Try.prog c70_42.eq_1) (And.intro (uR Try.prog c70_43.eq_1) (And.intro (uR Try.prog c70_44.eq_1) (And.intro (uR Try.prog c70_45.eq_1) (And.intro (uR Try.prog c70_46.eq_1) (And.intro (uR Try.prog c70_47.eq_1) (And.intro (uR Try.prog c70_48.eq_1) (And.intro (uC Try.prog c70_49.eq_1) (And.intro (uC Try.prog c70_50.eq_1) (And.intro (uR Try.prog c70_51.eq_1) (And.intro (uR Try.prog c70_52.eq_1) (And.intro (uR Try.prog c70_53.eq_1) (And.intro (uC Try.prog c70_54.eq_1) (And.intro (uC Try.prog c70_55.eq_1) (And.intro (uC Try.prog c70_56.eq_1) (And.intro (uC Try.prog c70_57.eq_1) (And.intro (uC Try.prog c70_58.eq_1) (And.intro (uC Try.prog c70_59.eq_1) (And.intro (uC Try.prog c70_60.eq_1) (And.intro (uC Try.prog c70_61.eq_1) (And.intro (uC Try.prog c70_62.eq_1) (And.intro (uC Try.prog c70_63.eq_1) (And.intro (uC Try.prog c70_64.eq_1) (And.intro (uC Try.prog c70_65.eq_1) (And.intro (uC Try.prog c70_66.eq_1) (And.intro (uC Try.prog c70_67.eq_1) (And.intro (uC Try.prog c70_68.eq_1) (And.intro (uC Try.prog c70_69.eq_1) (And.intro (uC Try.prog c70_70.eq_1) (And.intro (uC Try.prog c70_71.eq_1) (And.intro (uC Try.prog c70_72.eq_1) (And.intro (uC Try.prog c70_73.eq_1) (And.intro (uC Try.prog c70_74.eq_1) (uC Try.prog c70.eq_1))))))))))))))))))))))))))))))))))))))))))))))))))))))))))))))))))))))))))))
def v70 : List RV := []
theorem s70 : slimF Try.prog Try.f70 = some (c70.bare, v70) := by kernel_rfl
/-! 55 slices.SortFunc[[]loop.example/g00066/impl.Reel,loop.example/g00066/impl.Reel]: parameters 2, live [0, 1], slots [0:x, 1:cmp, 2:x, 3:cmp, 4:n] -/
def c55_0 : List SOper := [⟨some 5, .q (.mv (.t 0)), none⟩, ⟨some 6, .q (.len (.t 5)), none⟩, ⟨some 4, .q (.mv (.t 6)), none⟩]
def c55_1 : List SOper := [⟨some 7, .q (.mv (.t 0)), none⟩, ⟨some 8, .q (.mv (.t 4)), none⟩, ⟨some 9, .q (.mv (.t 4)), none⟩, ⟨some 10, .q (.cvi .u64 (.t 9)), none⟩, ⟨some 11, .e (.call 71 [(.t 10)]), none⟩, ⟨some 12, .q (.mv (.t 1)), none⟩, ⟨some 13, .e (.call 70 [(.t 7), (.c (.int .i64 0)), (.t 8), (.t 11), (.t 12)]), none⟩]
def c55_2 : SCode := .seq (.region c55_0 [0, 1, 4]) (.region c55_1 [])
def c55 : SCode := c55_2
theorem w55 : type_of% (And.intro (uR Try.prog c55_0.eq_1) (And.intro (uR Try.prog c55_1.eq_1) (And.intro (uC Try.prog c55_2.eq_1) (uC Try.prog c55.eq_1)))) := (And.intro (uR Try.prog c55_0.eq_1) (And.intro (uR Try.prog c55_1.eq_1) (And.intro (uC Try.prog c55_2.eq_1) (uC Try.prog c55.eq_1))))
def v55 : List RV := []
theorem s55 : slimF Try.prog Try.f55 = some (c55.bare, v55) := by kernel_rfl

theorem partialIns_ok (h : Heap) (g : Nat) (v : Value) (d : Array Reel) (a b : Nat) (o : OwnT g h encReel 3 v d.toList) (hab : a + 12 < b) (hb : b ≤ d.size) (hl : d.size ≤ 1000000000000) :
    ACall Try.prog 79 [v, .int .i64 (a : Int), .int .i64 (b : Int), .func (.func 56) #[] #[]] h
      fun r h' => r = .bool (Go.Sort.partialInsertionSort ltR d a b).2 ∧ ExtG g h h' ∧ OwnT g h' encReel 3 v (Go.Sort.partialInsertionSort ltR d a b).1.toList := by
  obtain ⟨fn, hf1, hf2, hf3⟩ := fv_ok
  refine ACall.of Try.func79 s79 (of_decide_eq_true rfl) ?_
  have W : ∀ i : Nat, i ≤ 1000000000001 → IntKind.i64.wrap ((i : Int) + 1) = ((i + 1 : Nat) : Int) := fun i hi => i64e (by omega) (by omega)
  have Wd : ∀ i : Nat, i ≤ 1000000000001 → IntKind.i64.wrap (((i + 1 : Nat) : Int) - 1) = (i : Int) := fun i hi => i64e (by omega) (by omega)
  have Ws : ∀ i j : Nat, i ≤ 1000000000001 → j ≤ i → IntKind.i64.wrap ((i : Int) - (j : Int)) = ((i - j : Nat) : Int) := fun i j hi hj => i64e (by omega) (by omega)
  simp (maxSteps := 4000000) (disch := omega) only [ah, am, Nat.reduceEqDiff, reduceCtorEq, Nat.reduceAdd, Nat.reduceLeDiff, Nat.reduceMul, Nat.reduceLT, if_true, if_false, true_and, and_true, and_self, Nat.reduceBEq, QOp.loads, boxO, bslO, buildO, cutL, fillV, putL, w79, v79, W a (by omega)]
  obtain ⟨D, hD⟩ : ∃ D, D = Go.Sort.partialInsertionSort ltR d a b := ⟨_, rfl⟩
  rw [← hD]
  rw [Go.Sort.partialInsertionSort] at hD
  refine ⟨fun s E K => ∃ (jj i : Nat) (d' : Array Reel), s + jj = 5 ∧ Go.Sort.partialIns ltR a b s i d' = D ∧ d'.size = d.size ∧ a + 1 ≤ i ∧ i ≤ b ∧ ExtG g h K ∧ OwnT g K encReel 3 v d'.toList ∧
    E = [(0, v), (1, .int .i64 (a : Int)), (2, .int .i64 (b : Int)), (3, .func (.func 56) #[] #[]), (9, .int .i64 (i : Int)), (10, .int .i64 (jj : Int))], ⟨5, 0, a + 1, d, rfl, hD.symm, rfl, by omega, by omega, ExtG.refl _ _, o, rfl⟩, ?_⟩
  rintro s E K ⟨jj, i, d', hsj, hD, hs, hi1, hi2, G, O, rfl⟩
  cases s with
  | zero =>
    have h1 : (d', false) = D := hD
    subst h1
    simp (maxSteps := 4000000) (disch := omega) only [ah, am, Nat.reduceEqDiff, reduceCtorEq, Nat.reduceAdd, Nat.reduceLeDiff, Nat.reduceMul, Nat.reduceLT, if_true, if_false, true_and, and_true, and_self, Nat.reduceBEq, QOp.loads, boxO, bslO, buildO, cutL, fillV, putL, w79, v79, decide_eq_false (show ¬ (jj : Int) < 5 by omega)]
    exact ⟨G, O⟩
  | succ s =>
  rw [Go.Sort.partialIns] at hD
  simp only at hD
  simp (maxSteps := 4000000) (disch := omega) only [ah, am, Nat.reduceEqDiff, reduceCtorEq, Nat.reduceAdd, Nat.reduceLeDiff, Nat.reduceMul, Nat.reduceLT, if_true, if_false, true_and, and_true, and_self, Nat.reduceBEq, QOp.loads, boxO, bslO, buildO, cutL, fillV, putL, w79, v79, decide_eq_true (show (jj : Int) < 5 by omega)]
  obtain ⟨i0, hi0⟩ : ∃ i0, i0 = i := ⟨_, rfl⟩
  rw [← hi0] at hD hi1 hi2 ⊢
  clear hi0
  refine SW_loop_to 2 (fun E K => ∃ i : Nat, Go.Sort.scanSorted ltR d' b i0 = i ∧ i0 ≤ i ∧ i ≤ b ∧ ExtG g h K ∧ OwnT g K encReel 3 v d'.toList ∧ ∃ t, E = (0, v) :: (1, .int .i64 (a : Int)) :: (2, .int .i64 (b : Int)) :: (3, .func (.func 56) #[] #[]) :: (9, .int .i64 (i : Int)) :: (10, .int .i64 (jj : Int)) :: t) ?_ ?_
  · obtain ⟨I0, hI0⟩ : ∃ I0, I0 = Go.Sort.scanSorted ltR d' b i0 := ⟨_, rfl⟩
    rw [← hI0]
    refine ⟨fun m E K => ∃ i : Nat, m = b - i ∧ Go.Sort.scanSorted ltR d' b i = I0 ∧ i0 ≤ i ∧ i ≤ b ∧ ExtG g h K ∧ OwnT g K encReel 3 v d'.toList ∧ ∃ t, E = (0, v) :: (1, .int .i64 (a : Int)) :: (2, .int .i64 (b : Int)) :: (3, .func (.func 56) #[] #[]) :: (9, .int .i64 (i : Int)) :: (10, .int .i64 (jj : Int)) :: t, ⟨_, i0, rfl, hI0.symm, by omega, by omega, G, O, _, rfl⟩, ?_⟩
    rintro m E K ⟨i, rfl, hI, hi3, hi4, G, O, t, rfl⟩
    rw [Go.Sort.scanSorted] at hI
    by_cases hib : i < b
    · obtain ⟨i, rfl⟩ : ∃ k, i = k + 1 := ⟨i - 1, by omega⟩
      rw [Nat.add_sub_cancel] at hI
      have R1 := rdA O (i := i + 1) (by omega)
      have R2 := rdA O (i := i) (by omega)
      simp (maxSteps := 4000000) (disch := omega) only [ah, am, Nat.reduceEqDiff, reduceCtorEq, Nat.reduceAdd, Nat.reduceLeDiff, Nat.reduceMul, Nat.reduceLT, if_true, if_false, true_and, and_true, and_self, Nat.reduceBEq, QOp.loads, boxO, bslO, buildO, cutL, fillV, putL, w79, v79, decide_eq_true (show ((i + 1 : Nat) : Int) < (b : Int) by omega), R1, R2, Wd i (by omega)]
      refine stepV.of hf1 hf2 hf3 (told1_ok _ _ _) ?_
      rintro _ K2 ⟨e, rfl⟩
      have O := O.ext e
      have G := G.trans e.toG
      cases hb : ltR d'[i + 1]! d'[i]! with
      | false =>
        rw [if_pos (by simp [hib, hb])] at hI
        simp (maxSteps := 4000000) (disch := omega) only [ah, am, Nat.reduceEqDiff, reduceCtorEq, Nat.reduceAdd, Nat.reduceLeDiff, Nat.reduceMul, Nat.reduceLT, if_true, if_false, true_and, and_true, and_self, Nat.reduceBEq, QOp.loads, boxO, bslO, buildO, cutL, fillV, putL, w79, v79, ltd, hb, Bool.not_false, W (i + 1) (by omega)]
        exact ⟨b - (i + 1 + 1), by omega, i + 1 + 1, rfl, hI, by omega, by omega, G, O, _, rfl⟩
      | true =>
        rw [if_neg (by simp [hb])] at hI
        simp (maxSteps := 4000000) (disch := omega) only [ah, am, Nat.reduceEqDiff, reduceCtorEq, Nat.reduceAdd, Nat.reduceLeDiff, Nat.reduceMul, Nat.reduceLT, if_true, if_false, true_and, and_true, and_self, Nat.reduceBEq, QOp.loads, boxO, bslO, buildO, cutL, fillV, putL, w79, v79, ltd, hb, Bool.not_true]
        exact ⟨_, hI.symm, hi3, hi4, G, O, _, rfl⟩
    · rw [if_neg (by simp [hib])] at hI
      simp (maxSteps := 4000000) (disch := omega) only [ah, am, Nat.reduceEqDiff, reduceCtorEq, Nat.reduceAdd, Nat.reduceLeDiff, Nat.reduceMul, Nat.reduceLT, if_true, if_false, true_and, and_true, and_self, Nat.reduceBEq, QOp.loads, boxO, bslO, buildO, cutL, fillV, putL, w79, v79, decide_eq_false (show ¬ (i : Int) < (b : Int) by omega)]
      exact ⟨_, hI.symm, hi3, hi4, G, O, _, rfl⟩
  rintro E K ⟨i, hI, hi3, hi4, G, O, t, rfl⟩
  rw [hI] at hD
  by_cases hib : i = b
  · rw [if_pos hib] at hD
    subst hD
    simp (maxSteps := 4000000) (disch := omega) only [ah, am, Nat.reduceEqDiff, reduceCtorEq, Nat.reduceAdd, Nat.reduceLeDiff, Nat.reduceMul, Nat.reduceLT, if_true, if_false, true_and, and_true, and_self, Nat.reduceBEq, QOp.loads, boxO, bslO, buildO, cutL, fillV, putL, w79, v79, decide_eq_true (show (i : Int) = (b : Int) by omega)]
    exact ⟨G, O⟩
  rw [if_neg hib] at hD
  by_cases h50 : b - a < 50
  · rw [if_pos h50] at hD
    subst hD
    simp (maxSteps := 4000000) (disch := omega) only [ah, am, Nat.reduceEqDiff, reduceCtorEq, Nat.reduceAdd, Nat.reduceLeDiff, Nat.reduceMul, Nat.reduceLT, if_true, if_false, true_and, and_true, and_self, Nat.reduceBEq, QOp.loads, boxO, bslO, buildO, cutL, fillV, putL, w79, v79, decide_eq_false (show ¬ (i : Int) = (b : Int) by omega), Ws b a (by omega) (by omega), decide_eq_true (show ((b - a : Nat) : Int) < 50 by omega)]
    exact ⟨G, O⟩
  rw [if_neg h50] at hD
  have R1 := rdA O (i := i) (by omega)
  have R2 := rdA O (i := i - 1) (by omega)
  obtain ⟨K2, K3, s1, s2, O, g2⟩ := swA O (i := i) (j := i - 1) (by omega) (by omega)
  have G := G.trans g2
  have w1 : IntKind.i64.wrap ((i : Int) - 1) = ((i - 1 : Nat) : Int) := i64e (by omega) (by omega)
  have hs1 : (swp d' i (i - 1)).size = d.size := by rw [swp_size, hs]
  generalize swp d' i (i - 1) = d1 at hD O hs1
  simp (maxSteps := 4000000) (disch := omega) only [ah, am, Nat.reduceEqDiff, reduceCtorEq, Nat.reduceAdd, Nat.reduceLeDiff, Nat.reduceMul, Nat.reduceLT, if_true, if_false, true_and, and_true, and_self, Nat.reduceBEq, QOp.loads, boxO, bslO, buildO, cutL, fillV, putL, w79, v79, decide_eq_false (show ¬ (i : Int) = (b : Int) by omega), Ws b a (by omega) (by omega), decide_eq_false (show ¬ ((b - a : Nat) : Int) < 50 by omega), w1, R1, R2, s1, s2, Ws i a (by omega) (by omega)]
  refine SW_if (fun E K => ∃ d2 : Array Reel, d2 = (if i - a ≥ 2 then Go.Sort.shiftDown ltR (i - 1) d1 else d1) ∧ d2.size = d.size ∧ ExtG g h K ∧ OwnT g K encReel 3 v d2.toList ∧ ∃ t, E = (0, v) :: (1, .int .i64 (a : Int)) :: (2, .int .i64 (b : Int)) :: (3, .func (.func 56) #[] #[]) :: (9, .int .i64 (i : Int)) :: (10, .int .i64 (jj : Int)) :: t) (fun hc => ?_) (fun hc => ?_) ?_
  · have hc := of_decide_eq_true hc
    rw [if_pos (by omega)]
    simp (maxSteps := 4000000) (disch := omega) only [ah, am, Nat.reduceEqDiff, reduceCtorEq, Nat.reduceAdd, Nat.reduceLeDiff, Nat.reduceMul, Nat.reduceLT, if_true, if_false, true_and, and_true, and_self, Nat.reduceBEq, QOp.loads, boxO, bslO, buildO, cutL, fillV, putL, w79, v79, w1]
    obtain ⟨D2, hD2⟩ : ∃ D2, D2 = Go.Sort.shiftDown ltR (i - 1) d1 := ⟨_, rfl⟩
    rw [← hD2]
    refine ⟨fun j E K => ∃ d3 : Array Reel, Go.Sort.shiftDown ltR j d3 = D2 ∧ d3.size = d.size ∧ j < i ∧ ExtG g h K ∧ OwnT g K encReel 3 v d3.toList ∧ E = [(0, v), (1, .int .i64 (a : Int)), (2, .int .i64 (b : Int)), (3, .func (.func 56) #[] #[]), (9, .int .i64 (i : Int)), (10, .int .i64 (jj : Int)), (11, .int .i64 (j : Int))], ⟨i - 1, d1, hD2.symm, hs1, by omega, G, O, rfl⟩, ?_⟩
    rintro j E K ⟨d3, hR, hs3, hj, G, O, rfl⟩
    cases j with
    | zero =>
      have hR : d3 = D2 := hR
      subst hR
      simp (maxSteps := 4000000) (disch := omega) only [ah, am, Nat.reduceEqDiff, reduceCtorEq, Nat.reduceAdd, Nat.reduceLeDiff, Nat.reduceMul, Nat.reduceLT, if_true, if_false, true_and, and_true, and_self, Nat.reduceBEq, QOp.loads, boxO, bslO, buildO, cutL, fillV, putL, w79, v79, decide_eq_false (show ¬ (1 : Int) ≤ ((0 : Nat) : Int) by omega)]
      exact ⟨d3, rfl, hs3, G, O, _, rfl⟩
    | succ j =>
      rw [Go.Sort.shiftDown] at hR
      have R1 := rdA O (i := j + 1) (by omega)
      have R2 := rdA O (i := j) (by omega)
      simp (maxSteps := 4000000) (disch := omega) only [ah, am, Nat.reduceEqDiff, reduceCtorEq, Nat.reduceAdd, Nat.reduceLeDiff, Nat.reduceMul, Nat.reduceLT, if_true, if_false, true_and, and_true, and_self, Nat.reduceBEq, QOp.loads, boxO, bslO, buildO, cutL, fillV, putL, w79, v79, decide_eq_true (show (1 : Int) ≤ ((j + 1 : Nat) : Int) by omega), R1, R2, Wd j (by omega)]
      refine stepV.of hf1 hf2 hf3 (told1_ok _ _ _) ?_
      rintro _ K2 ⟨e, rfl⟩
      have O := O.ext e
      have G := G.trans e.toG
      cases hb : ltR d3[j + 1]! d3[j]! with
      | false =>
        rw [if_pos (by simp [hb])] at hR
        subst hR
        simp (maxSteps := 4000000) (disch := omega) only [ah, am, Nat.reduceEqDiff, reduceCtorEq, Nat.reduceAdd, Nat.reduceLeDiff, Nat.reduceMul, Nat.reduceLT, if_true, if_false, true_and, and_true, and_self, Nat.reduceBEq, QOp.loads, boxO, bslO, buildO, cutL, fillV, putL, w79, v79, ltd, hb, Bool.not_false]
        exact ⟨d3, rfl, hs3, G, O, _, rfl⟩
      | true =>
        rw [if_neg (by simp [hb])] at hR
        have R1 := rdA O (i := j + 1) (by omega)
        have R2 := rdA O (i := j) (by omega)
        obtain ⟨K4, K5, s1, s2, O, g2⟩ := swA O (i := j + 1) (j := j) (by omega) (by omega)
        simp (maxSteps := 4000000) (disch := omega) only [ah, am, Nat.reduceEqDiff, reduceCtorEq, Nat.reduceAdd, Nat.reduceLeDiff, Nat.reduceMul, Nat.reduceLT, if_true, if_false, true_and, and_true, and_self, Nat.reduceBEq, QOp.loads, boxO, bslO, buildO, cutL, fillV, putL, w79, v79, ltd, hb, Bool.not_true, R1, R2, s1, s2, Wd j (by omega)]
        exact ⟨j, by omega, _, hR, by rw [swp_size, hs3], by omega, G.trans g2, O, rfl⟩
  · have hc := of_decide_eq_false hc
    exact ⟨d1, by rw [if_neg (by omega)], hs1, G, O, _, rfl⟩
  rintro E K ⟨d2, hd2, hs2, G, O, t, rfl⟩
  rw [← hd2] at hD
  simp (maxSteps := 4000000) (disch := omega) only [ah, am, Nat.reduceEqDiff, reduceCtorEq, Nat.reduceAdd, Nat.reduceLeDiff, Nat.reduceMul, Nat.reduceLT, if_true, if_false, true_and, and_true, and_self, Nat.reduceBEq, QOp.loads, boxO, bslO, buildO, cutL, fillV, putL, w79, v79, Ws b i (by omega) (by omega)]
  refine SW_if (fun E K => ∃ d3 : Array Reel, d3 = (if b - i ≥ 2 then Go.Sort.shiftUp ltR b (i + 1) d2 else d2) ∧ d3.size = d.size ∧ ExtG g h K ∧ OwnT g K encReel 3 v d3.toList ∧ ∃ t, E = (0, v) :: (1, .int .i64 (a : Int)) :: (2, .int .i64 (b : Int)) :: (3, .func (.func 56) #[] #[]) :: (9, .int .i64 (i : Int)) :: (10, .int .i64 (jj : Int)) :: t) (fun hc => ?_) (fun hc => ?_) ?_
  · have hc := of_decide_eq_true hc
    rw [if_pos (by omega)]
    simp (maxSteps := 4000000) (disch := omega) only [ah, am, Nat.reduceEqDiff, reduceCtorEq, Nat.reduceAdd, Nat.reduceLeDiff, Nat.reduceMul, Nat.reduceLT, if_true, if_false, true_and, and_true, and_self, Nat.reduceBEq, QOp.loads, boxO, bslO, buildO, cutL, fillV, putL, w79, v79, W i (by omega)]
    obtain ⟨D2, hD2⟩ : ∃ D2, D2 = Go.Sort.shiftUp ltR b (i + 1) d2 := ⟨_, rfl⟩
    rw [← hD2]
    refine ⟨fun m E K => ∃ (j : Nat) (d3 : Array Reel), m = b - j ∧ Go.Sort.shiftUp ltR b j d3 = D2 ∧ d3.size = d.size ∧ i + 1 ≤ j ∧ j ≤ b ∧ ExtG g h K ∧ OwnT g K encReel 3 v d3.toList ∧ E = [(0, v), (1, .int .i64 (a : Int)), (2, .int .i64 (b : Int)), (3, .func (.func 56) #[] #[]), (9, .int .i64 (i : Int)), (10, .int .i64 (jj : Int)), (12, .int .i64 (j : Int))], ⟨_, i + 1, d2, rfl, hD2.symm, hs2, by omega, by omega, G, O, rfl⟩, ?_⟩
    rintro m E K ⟨j, d3, rfl, hR, hs3, hj1, hj2, G, O, rfl⟩
    rw [Go.Sort.shiftUp] at hR
    by_cases hjb : j < b
    · rw [if_pos hjb] at hR
      obtain ⟨j, rfl⟩ : ∃ k, j = k + 1 := ⟨j - 1, by omega⟩
      rw [Nat.add_sub_cancel] at hR
      have R1 := rdA O (i := j + 1) (by omega)
      have R2 := rdA O (i := j) (by omega)
      simp (maxSteps := 4000000) (disch := omega) only [ah, am, Nat.reduceEqDiff, reduceCtorEq, Nat.reduceAdd, Nat.reduceLeDiff, Nat.reduceMul, Nat.reduceLT, if_true, if_false, true_and, and_true, and_self, Nat.reduceBEq, QOp.loads, boxO, bslO, buildO, cutL, fillV, putL, w79, v79, decide_eq_true (show ((j + 1 : Nat) : Int) < (b : Int) by omega), R1, R2, Wd j (by omega)]
      refine stepV.of hf1 hf2 hf3 (told1_ok _ _ _) ?_
      rintro _ K2 ⟨e, rfl⟩
      have O := O.ext e
      have G := G.trans e.toG
      cases hb : ltR d3[j + 1]! d3[j]! with
      | false =>
        rw [if_pos (by simp [hb])] at hR
        subst hR
        simp (maxSteps := 4000000) (disch := omega) only [ah, am, Nat.reduceEqDiff, reduceCtorEq, Nat.reduceAdd, Nat.reduceLeDiff, Nat.reduceMul, Nat.reduceLT, if_true, if_false, true_and, and_true, and_self, Nat.reduceBEq, QOp.loads, boxO, bslO, buildO, cutL, fillV, putL, w79, v79, ltd, hb, Bool.not_false]
        exact ⟨d3, rfl, hs3, G, O, _, rfl⟩
      | true =>
        rw [if_neg (by simp [hb])] at hR
        have R1 := rdA O (i := j + 1) (by omega)
        have R2 := rdA O (i := j) (by omega)
        obtain ⟨K4, K5, s1, s2, O, g2⟩ := swA O (i := j + 1) (j := j) (by omega) (by omega)
        simp (maxSteps := 4000000) (disch := omega) only [ah, am, Nat.reduceEqDiff, reduceCtorEq, Nat.reduceAdd, Nat.reduceLeDiff, Nat.reduceMul, Nat.reduceLT, if_true, if_false, true_and, and_true, and_self, Nat.reduceBEq, QOp.loads, boxO, bslO, buildO, cutL, fillV, putL, w79, v79, ltd, hb, Bool.not_true, R1, R2, s1, s2, Wd j (by omega), W (j + 1) (by omega)]
        exact ⟨b - (j + 1 + 1), by omega, j + 1 + 1, _, rfl, hR, by rw [swp_size, hs3], by omega, by omega, G.trans g2, O, rfl⟩
    · rw [if_neg hjb] at hR
      subst hR
      simp (maxSteps := 4000000) (disch := omega) only [ah, am, Nat.reduceEqDiff, reduceCtorEq, Nat.reduceAdd, Nat.reduceLeDiff, Nat.reduceMul, Nat.reduceLT, if_true, if_false, true_and, and_true, and_self, Nat.reduceBEq, QOp.loads, boxO, bslO, buildO, cutL, fillV, putL, w79, v79, decide_eq_false (show ¬ (j : Int) < (b : Int) by omega)]
      exact ⟨d3, rfl, hs3, G, O, _, rfl⟩
  · have hc := of_decide_eq_false hc
    exact ⟨d2, by rw [if_neg (by omega)], hs2, G, O, _, rfl⟩
  rintro E K ⟨d3, hd3, hs3, G, O, t, rfl⟩
  rw [← hd3] at hD
  simp (maxSteps := 4000000) (disch := omega) only [ah, am, Nat.reduceEqDiff, reduceCtorEq, Nat.reduceAdd, Nat.reduceLeDiff, Nat.reduceMul, Nat.reduceLT, if_true, if_false, true_and, and_true, and_self, Nat.reduceBEq, QOp.loads, boxO, bslO, buildO, cutL, fillV, putL, w79, v79, W jj (by omega)]
  exact ⟨s, by omega, jj + 1, i, d3, by omega, hD, hs3, by omega, hi4, G, O, rfl⟩
end Go.Proofs.Ytmippcfdakjhfaa
