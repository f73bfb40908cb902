import Derived.Test.YtknpombiomnkbaaJ3
import Derived.Test.YtknpombiomnkbaaD7
namespace Go.Proofs.Ytknpombiomnkbaa
open Go Go.Ah
set_option linter.unusedSimpArgs false
set_option linter.unusedVariables false
set_option maxRecDepth 10000
set_option maxHeartbeats 4000000
/-! 5 loop.example/g00066/laws.FnOver: parameters 1, live [0], slots [0:code, 1:code, 3:t, 4:at, 5:k, 6:u, 7:is, 8:_, 9:told, 10:n, 11:i, 12:s, 13:f, 14:x, 15:y] -/
def c5_0 : List SOper := [⟨some 2, .q (.mv (.c (.bool false))), none⟩]
def c5_1 : List SOper := [⟨some 16, .q (.mv (.t 0)), none⟩, ⟨some 17, .e (.call 10 [(.t 16)]), none⟩]
def c5_2 : List SOper := [⟨some 2, .q (.mv (.c (.bool true))), none⟩]
def c5_3 : SCode := .seq (.region c5_2 [2]) .ret
def c5_4 : SCode := .cond (.t 17) c5_3 .skip
def c5_5 : SCode := .seq (.region c5_1 [0, 17]) c5_4
def c5_6 : List SOper := [⟨some 19, .q (.mv (.t 0)), none⟩, ⟨some 20, .e (.call 21 [(.t 19)]), none⟩, ⟨some 18, .q (.mv (.t 20)), none⟩, ⟨some 21, .q (.ext (.t 18) 0), none⟩, ⟨some 22, .q (.ext (.t 18) 1), none⟩, ⟨some 23, .q (.ext (.t 18) 2), none⟩, ⟨some 5, .a (.new [(.int .i64 0), (.int .i64 0), (.int .i64 0)]), none⟩, ⟨some 3, .q (.mv (.t 21)), none⟩, ⟨some 4, .q (.mv (.t 22)), none⟩, ⟨none, .e (.st 3 (.t 5) (.t 23)), none⟩]
def c5_7 : List SOper := [⟨some 25, .q (.mv (.t 3)), none⟩, ⟨some 26, .q (.mv (.t 4)), none⟩, ⟨some 27, .q (.ldn 3 (.t 5)), none⟩, ⟨some 28, .e (.call 22 [(.t 25), (.t 26), (.t 27)]), none⟩, ⟨some 24, .q (.mv (.t 28)), none⟩, ⟨some 29, .q (.ext (.t 24) 0), none⟩, ⟨some 30, .q (.ext (.t 24) 1), none⟩, ⟨some 6, .q (.mv (.t 29)), none⟩, ⟨some 7, .q (.mv (.t 30)), none⟩]
def c5_8 : List SOper := [⟨some 32, .q (.mv (.t 3)), none⟩, ⟨some 33, .q (.mv (.t 4)), none⟩, ⟨some 34, .q (.ldn 3 (.t 5)), none⟩, ⟨some 35, .e (.call 23 [(.t 32), (.t 33), (.t 34)]), none⟩, ⟨some 31, .q (.mv (.t 35)), none⟩, ⟨some 36, .q (.ext (.t 31) 0), none⟩, ⟨some 37, .q (.ext (.t 31) 1), none⟩, ⟨some 8, .q (.mv (.t 36)), none⟩, ⟨some 9, .q (.mv (.t 37)), none⟩]
def c5_9 : List SOper := [⟨some 38, .q (.mv (.t 7)), none⟩, ⟨some 39, .q (.mv (.t 9)), none⟩, ⟨some 40, .q (.eqb true (.t 38) (.t 39)), none⟩]
def c5_10 : List SOper := [⟨some 2, .q (.mv (.c (.bool false))), none⟩]
def c5_11 : SCode := .seq (.region c5_10 [2]) .ret
def c5_12 : SCode := .cond (.t 40) c5_11 .skip
def c5_13 : SCode := .seq (.region c5_9 [3, 4, 5, 6, 7, 40]) c5_12
def c5_14 : SCode := .seq (.region c5_8 [3, 4, 5, 6, 7, 9]) c5_13
def c5_15 : List SOper := [⟨some 41, .q (.mv (.t 7)), none⟩, ⟨some 42, .q (.not (.t 41)), none⟩]
def c5_16 : List SOper := [⟨some 43, .q (.mv (.t 6)), none⟩, ⟨some 44, .q (.len (.t 43)), none⟩, ⟨some 45, .q (.bin .eql (.t 44) (.c (.int .i64 0))), none⟩, ⟨some 2, .q (.mv (.t 45)), none⟩]
def c5_17 : SCode := .seq (.region c5_16 [2]) .ret
def c5_18 : SCode := .cond (.t 42) c5_17 .skip
def c5_19 : SCode := .seq (.region c5_15 [3, 4, 5, 6, 42]) c5_18
def c5_20 : List SOper := [⟨some 46, .q (.mv (.t 3)), none⟩, ⟨some 47, .e (.call 16 [(.t 46)]), none⟩, ⟨some 10, .q (.mv (.t 47)), none⟩]
def c5_21 : List SOper := [⟨some 48, .q (.mv (.t 4)), none⟩, ⟨some 49, .q (.fa 2 (.t 5)), none⟩, ⟨some 50, .q (.ld (.t 49)), none⟩, ⟨some 51, .q (.bin .add (.t 48) (.t 50)), none⟩, ⟨some 52, .q (.mv (.t 10)), none⟩, ⟨some 53, .q (.bin .gtr (.t 51) (.t 52)), none⟩]
def c5_22 : List SOper := [⟨some 54, .q (.mv (.t 4)), none⟩, ⟨some 55, .q (.fa 2 (.t 5)), none⟩, ⟨some 56, .q (.ld (.t 55)), none⟩, ⟨some 57, .q (.bin .add (.t 54) (.t 56)), none⟩, ⟨some 10, .q (.mv (.t 57)), none⟩]
def c5_23 : SCode := .cond (.t 53) (.region c5_22 [3, 4, 5, 6, 10]) .skip
def c5_24 : SCode := .seq (.region c5_21 [3, 4, 5, 6, 10, 53]) c5_23
def c5_25 : List SOper := [⟨some 58, .q (.mv (.t 6)), none⟩, ⟨some 59, .e (.call 16 [(.t 58)]), none⟩, ⟨some 60, .q (.mv (.t 10)), none⟩, ⟨some 61, .q (.bin .neq (.t 59) (.t 60)), none⟩]
def c5_26 : List SOper := [⟨some 2, .q (.mv (.c (.bool false))), none⟩]
def c5_27 : SCode := .seq (.region c5_26 [2]) .ret
def c5_28 : SCode := .cond (.t 61) c5_27 .skip
def c5_29 : SCode := .seq (.region c5_25 [3, 4, 5, 6, 61]) c5_28
def c5_30 : List SOper := [⟨some 62, .q (.mv (.t 4)), none⟩, ⟨some 63, .q (.bin .sub (.t 62) (.c (.int .i64 3))), none⟩, ⟨some 11, .q (.mv (.t 63)), none⟩]
def c5_31 : List SOper := [⟨some 64, .q (.mv (.t 11)), none⟩, ⟨some 65, .q (.mv (.t 4)), none⟩, ⟨some 66, .q (.fa 2 (.t 5)), none⟩, ⟨some 67, .q (.ld (.t 66)), none⟩, ⟨some 68, .q (.bin .add (.t 65) (.t 67)), none⟩, ⟨some 69, .q (.bin .add (.t 68) (.c (.int .i64 3))), none⟩, ⟨some 70, .q (.bin .lss (.t 64) (.t 69)), none⟩, ⟨some 71, .q (.mv (.t 70)), none⟩, ⟨some 72, .q (.mv (.t 11)), some (71, true)⟩, ⟨some 73, .q (.mv (.t 4)), some (71, true)⟩, ⟨some 74, .q (.bin .add (.t 73) (.c (.int .i64 40))), some (71, true)⟩, ⟨some 75, .q (.bin .lss (.t 72) (.t 74)), some (71, true)⟩, ⟨some 76, .q (.pick (.t 71) (.t 75) (.c (.bool false))), none⟩]
def c5_32 : SCode := .cond (.t 76) .skip (.exit 0)
def c5_33 : SCode := .seq (.region c5_31 [3, 4, 5, 6, 11, 76]) c5_32
def c5_34 : List SOper := [⟨some 80, .q (.mv (.t 6)), none⟩, ⟨some 81, .q (.mv (.t 11)), none⟩, ⟨some 82, .e (.call 20 [(.t 80), (.t 81)]), none⟩, ⟨some 79, .q (.mv (.t 82)), none⟩, ⟨some 83, .q (.ext (.t 79) 0), none⟩, ⟨some 84, .q (.ext (.t 79) 1), none⟩, ⟨some 12, .q (.mv (.t 83)), none⟩, ⟨some 13, .q (.mv (.t 84)), none⟩]
def c5_35 : List SOper := [⟨some 86, .q (.mv (.t 3)), none⟩, ⟨some 87, .q (.mv (.t 11)), none⟩, ⟨some 88, .e (.call 20 [(.t 86), (.t 87)]), none⟩, ⟨some 85, .q (.mv (.t 88)), none⟩, ⟨some 89, .q (.ext (.t 85) 0), none⟩, ⟨some 90, .q (.ext (.t 85) 1), none⟩, ⟨some 14, .q (.mv (.t 89)), none⟩, ⟨some 15, .q (.mv (.t 90)), none⟩]
def c5_36 : List SOper := [⟨some 91, .q (.mv (.t 11)), none⟩, ⟨some 92, .q (.mv (.t 4)), none⟩, ⟨some 93, .q (.bin .geq (.t 91) (.t 92)), none⟩, ⟨some 94, .q (.mv (.t 93)), none⟩, ⟨some 95, .q (.mv (.t 11)), some (94, true)⟩, ⟨some 96, .q (.mv (.t 4)), some (94, true)⟩, ⟨some 97, .q (.fa 2 (.t 5)), some (94, true)⟩, ⟨some 98, .q (.ld (.t 97)), some (94, true)⟩, ⟨some 99, .q (.bin .add (.t 96) (.t 98)), some (94, true)⟩, ⟨some 100, .q (.bin .lss (.t 95) (.t 99)), some (94, true)⟩, ⟨some 101, .q (.pick (.t 94) (.t 100) (.c (.bool false))), none⟩]
def c5_37 : List SOper := [⟨some 102, .q (.fa 0 (.t 5)), none⟩, ⟨some 103, .q (.ld (.t 102)), none⟩, ⟨some 14, .q (.mv (.t 103)), none⟩]
def c5_38 : List SOper := [⟨some 15, .q (.mv (.c (.int .i64 0))), none⟩]
def c5_39 : List SOper := [⟨some 104, .q (.mv (.t 14)), none⟩, ⟨some 105, .q (.bin .gtr (.t 104) (.c (.int .i64 0))), none⟩]
def c5_40 : List SOper := [⟨some 106, .q (.fa 1 (.t 5)), none⟩, ⟨some 107, .q (.ld (.t 106)), none⟩, ⟨some 108, .q (.mv (.t 11)), none⟩, ⟨some 109, .q (.bin .add (.t 107) (.t 108)), none⟩, ⟨some 110, .q (.mv (.t 4)), none⟩, ⟨some 111, .q (.bin .sub (.t 109) (.t 110)), none⟩, ⟨some 15, .q (.mv (.t 111)), none⟩]
def c5_41 : SCode := .cond (.t 105) (.region c5_40 [3, 4, 5, 6, 11, 12, 13, 14, 15]) .skip
def c5_42 : SCode := .seq (.region c5_39 [3, 4, 5, 6, 11, 12, 13, 14, 15, 105]) c5_41
def c5_43 : SCode := .seq (.region c5_38 [3, 4, 5, 6, 11, 12, 13, 14, 15]) c5_42
def c5_44 : SCode := .seq (.region c5_37 [3, 4, 5, 6, 11, 12, 13, 14]) c5_43
def c5_45 : SCode := .cond (.t 101) c5_44 .skip
def c5_46 : SCode := .seq (.region c5_36 [3, 4, 5, 6, 11, 12, 13, 14, 15, 101]) c5_45
def c5_47 : List SOper := [⟨some 112, .q (.mv (.t 12)), none⟩, ⟨some 113, .q (.mv (.t 14)), none⟩, ⟨some 114, .q (.bin .neq (.t 112) (.t 113)), none⟩, ⟨some 115, .q (.mv (.t 114)), none⟩, ⟨some 116, .q (.mv (.t 13)), some (115, false)⟩, ⟨some 117, .q (.mv (.t 15)), some (115, false)⟩, ⟨some 118, .q (.bin .neq (.t 116) (.t 117)), some (115, false)⟩, ⟨some 119, .q (.pick (.t 115) (.c (.bool true)) (.t 118)), none⟩]
def c5_48 : List SOper := [⟨some 2, .q (.mv (.c (.bool false))), none⟩]
def c5_49 : SCode := .seq (.region c5_48 [2]) .ret
def c5_50 : SCode := .cond (.t 119) c5_49 .skip
def c5_51 : SCode := .seq (.region c5_47 [3, 4, 5, 6, 11, 119]) c5_50
def c5_52 : SCode := .seq c5_46 c5_51
def c5_53 : SCode := .seq (.region c5_35 [3, 4, 5, 6, 11, 12, 13, 14, 15]) c5_52
def c5_54 : SCode := .seq (.region c5_34 [3, 4, 5, 6, 11, 12, 13]) c5_53
def c5_55 : SCode := .block 1 c5_54
def c5_56 : List SOper := [⟨some 77, .q (.mv (.t 11)), none⟩, ⟨some 78, .q (.bin .add (.t 77) (.c (.int .i64 1))), none⟩, ⟨some 11, .q (.mv (.t 78)), none⟩]
def c5_57 : SCode := .seq c5_55 (.region c5_56 [3, 4, 5, 6, 11])
def c5_58 : SCode := .seq c5_33 c5_57
def c5_59 : SCode := .loop c5_58
def c5_60 : SCode := .block 0 c5_59
def c5_61 : SCode := .seq (.region c5_30 [3, 4, 5, 6, 11]) c5_60
def c5_62 : List SOper := [⟨some 2, .q (.mv (.c (.bool true))), none⟩]
def c5_63 : SCode := .seq (.region c5_62 [2]) .ret
def c5_64 : SCode := .seq c5_61 c5_63
def c5_65 : SCode := .seq c5_29 c5_64
def c5_66 : SCode := .seq c5_24 c5_65
def c5_67 : SCode := .seq (.region c5_20 [3, 4, 5, 6, 10]) c5_66
def c5_68 : SCode := .seq c5_19 c5_67
def c5_69 : SCode := .seq c5_14 c5_68
def c5_70 : SCode := .seq (.region c5_7 [3, 4, 5, 6, 7]) c5_69
def c5_71 : SCode := .seq (.region c5_6 [3, 4, 5]) c5_70
def c5_72 : SCode := .seq c5_5 c5_71
def c5_73 : SCode := .seq (.region c5_0 [0]) c5_72
def c5 : SCode := c5_73
theorem w5 : type_of% (And.intro (uR Try.prog c5_0.eq_1) (And.intro (uR Try.prog c5_1.eq_1) (And.intro (uR Try.prog c5_2.eq_1) (And.intro (uC Try.prog c5_3.eq_1) (And.intro (uC Try.prog c5_4.eq_1) (And.intro (uC Try.prog c5_5.eq_1) (And.intro (uR Try.prog c5_6.eq_1) (And.intro (uR Try.prog c5_7.eq_1) (And.intro (uR Try.prog c5_8.eq_1) (And.intro (uR Try.prog c5_9.eq_1) (And.intro (uR Try.prog c5_10.eq_1) (And.intro (uC Try.prog c5_11.eq_1) (And.intro (uC Try.prog c5_12.eq_1) (And.intro (uC Try.prog c5_13.eq_1) (And.intro (uC Try.prog c5_14.eq_1) (And.intro (uR Try.prog c5_15.eq_1) (And.intro (uR Try.prog c5_16.eq_1) (And.intro (uC Try.prog c5_17.eq_1) (And.intro (uC Try.prog c5_18.eq_1) (And.intro (uC Try.prog c5_19.eq_1) (And.intro (uR Try.prog c5_20.eq_1) (And.intro (uR Try.prog c5_21.eq_1) (And.intro (uR Try.prog c5_22.eq_1) (And.intro (uC Try.prog c5_23.eq_1) (And.intro (uC Try.prog c5_24.eq_1) (And.intro (uR Try.prog c5_25.eq_1) (And.intro (uR Try.prog c5_26.eq_1) (And.intro (uC Try.prog c5_27.eq_1) (And.intro (uC Try.prog c5_28.eq_1) (And.intro (uC Try.prog c5_29.eq_1) (And.intro (uR Try.prog c5_30.eq_1) (And.intro (uR Try.prog c5_31.eq_1) (And.intro (uC Try.prog c5_32.eq_1) (And.intro (uC Try.prog c5_33.eq_1) (And.intro (uR Try.prog c5_34.eq_1) (And.intro (uR Try.prog c5_35.eq_1) (And.intro (uR Try.prog c5_36.eq_1) (And.intro (uR Try.prog c5_37.eq_1) (And.intro (uR Try.prog c5_38.eq_1) (And.intro (uR Try.prog c5_39.eq_1) (And.intro (uR Try.prog c5_40.eq_1) (And.intro (uC Try.prog c5_41.eq_1) (And.intro (uC Try.prog c5_42.eq_1) (And.intro (uC Try.prog c5_43.eq_1) (And.intro (uC Try.prog c5_44.eq_1) (And.intro (uC Try.prog c5_45.eq_1) (And.intro (uC Try.prog c5_46.eq_1) (And.intro (uR Try.prog c5_47.eq_1) (And.intro (uR Try.prog c5_48.eq_1) (And.intro (uC Try.prog c5_49.eq_1) (And.intro (uC Try.prog c5_50.eq_1) (And.intro (uC Try.prog c5_51.eq_1) (And.intro (uC Try.prog c5_52.eq_1) (And.intro (uC Try.prog c5_53.eq_1) (And.intro (uC Try.prog c5_54.eq_1) (And.intro (uC Try.prog c5_55.eq_1) (And.intro (uR Try.prog c5_56.eq_1) (And.intro (uC Try.prog c5_57.eq_1) (And.intro (uC Try.prog c5_58.eq_1) (And.intro (uC Try.prog c5_59.eq_1) (And.intro (uC Try.prog c5_60.eq_1) (And.intro (uC Try.prog c5_61.eq_1) (And.intro (uR Try.prog c5_62.eq_1) (And.intro (uC Try.prog c5_63.eq_1) (And.intro (uC Try.prog c5_64.eq_1) (And.intro (uC Try.prog c5_65.eq_1) (And.intro (uC Try.prog c5_66.eq_1) (And.intro (uC Try.prog c5_67.eq_1) (And.intro (uC Try.prog c5_68.eq_1) (And.intro (uC Try.prog c5_69.eq_1) (And.intro (uC Try.prog c5_70.eq_1) (And.intro (uC Try.prog c5_71.eq_1) (And.intro (uC Try.prog c5_72.eq_1) (And.intro (uC Try.prog c5_73.eq_1) (uC Try.prog c5.eq_1))))))))))))))))))))))))))))))))))))))))))))))))))))))))))))))))))))))))))) := (And.intro (uR Try.prog c5_0.eq_1) (And.intro (uR Try.prog c5_1.eq_1) (And.intro (uR Try.prog c5_2.eq_1) (And.intro (uC Try.prog c5_3.eq_1) (And.intro (uC Try.prog c5_4.eq_1) (And.intro (uC Try.prog c5_5.eq_1) (And.intro (uR Try.prog c5_6.eq_1) (And.intro (uR Try.prog c5_7.eq_1) (And.intro (uR Try.prog c5_8.eq_1) (And.intro (uR Try.prog c5_9.eq_1) (And.intro (uR Try.prog c5_10.eq_1) (And.intro (uC Try.prog c5_11.eq_1) (And.intro (uC Try.prog c5_12.eq_1) (And.intro (uC Try.prog c5_13.eq_1) (And.intro (uC Try.prog c5_14.eq_1) (And.intro (uR Try.prog c5_15.eq_1) (And.intro (uR Try.prog c5_16.eq_1) (And.intro (uC Try.prog c5_17.eq_1) (And.intro (uC Try.prog c5_18.eq_1) (And.intro (uC Try.prog c5_19.eq_1) (And.intro (uR Try.prog c5_20.eq_1) (And.intro (uR Try.prog c5_21.eq_1) (And.intro (uR Try.prog c5_22.eq_1) (And.intro (uC Try.prog c5_23.eq_1) (And.intro (uC Try.prog c5_24.eq_1) (And.intro (uR Try.prog c5_25.eq_1) (And.intro (uR Try.prog c5_26.eq_1) (And.intro (uC Try.prog c5_27.eq_1) (And.intro (uC Try.prog c5_28.eq_1) (And.intro (uC Try.prog c5_29.eq_1) (And.intro (uR Try.prog c5_30.eq_1) (And.intro (uR Try.prog c5_31.eq_1) (And.intro (uC Try.prog c5_32.eq_1) (And.intro (uC Try.prog c5_33.eq_1) (And.intro (uR Try.prog c5_34.eq_1) (And.intro (uR Try.prog c5_35.eq_1) (And.intro (uR Try.prog c5_36.eq_1) (And.intro (uR Try.prog c5_37.eq_1) (And.intro (uR Try.prog c5_38.eq_1) (And.intro (uR Try.prog c5_39.eq_1) (And.intro (uR Try.prog c5_40.eq_1) (And.intro (uC Try.prog c5_41.eq_1) (And.intro (uC Try.prog c5_42.eq_1) (And.intro (uC Try.prog c5_43.eq_1) (And.intro (uC Try.prog c5_44.eq_1) (And.intro (uC Try.prog c5_45.eq_1) (And.intro (uC Try.prog c5_46.eq_1) (And.intro (uR Try.prog c5_47.eq_1) (And.intro (uR Try.prog c5_48.eq_1) (And.intro (uC Try.prog c5_49.eq_1) (And.intro (uC Try.prog c5_50.eq_1) (And.intro (uC Try.prog c5_51.eq_1) (And.intro (uC Try.prog c5_52.eq_1) (And.intro (uC Try.prog c5_53.eq_1) (And.intro (uC Try.prog c5_54.eq_1) (And.intro (uC Try.prog c5_55.eq_1) (And.intro (uR Try.prog c5_56.eq_1) (And.intro (uC Try.prog c5_57.eq_1) (And.intro (uC Try.prog c5_58.eq_1) (And.intro (uC Try.prog c5_59.eq_1) (And.intro (uC Try.prog c5_60.eq_1) (And.intro (uC Try.prog c5_61.eq_1) (And.intro (uR Try.prog c5_62.eq_1) (And.intro (uC Try.prog c5_63.eq_1) (And.intro (uC Try.prog c5_64.eq_1) (And.intro (uC Try.prog c5_65.eq_1) (And.intro (uC Try.prog c5_66.eq_1) (And.intro (uC Try.prog c5_67.eq_1) (And.intro (uC Try.prog c5_68.eq_1) (And.intro (uC Try.prog c5_69.eq_1) (And.intro (uC Try.prog c5_70.eq_1) (And.intro (uC Try.prog c5_71.eq_1) (And.intro (uC Try.prog c5_72.eq_1) (And.intro (uC Try.prog c5_73.eq_1) (uC Try.prog c5.eq_1)))))))))))))))))))))))))))))))))))))))))))))))))))))))))))))))))))))))))))
def v5 : List RV := [.t 2]
theorem s5 : slimF Try.prog Try.f5 = some (c5.bare, v5) := by kernel_rfl

theorem overS_facts {l u : List Clip} {i : Int} {k : Clip} (h : overS l i k = (u, true)) : insOk l i k ∧ trackOk u ∧ ex u = (ex l).take i.toNat ++ ex [k] ++ (ex l).drop (i + k.len).toNat := by
  unfold overS at h
  split at h
  · rename_i hc
    have h1 := hc.2.1
    simp only [clipOk] at h1
    have := putS_facts hc.1.2.1 hc.1.2.2 (by have := hc.2.2; omega) h
    exact ⟨hc, this.1, this.2.1⟩
  · cases h
theorem overS_false {l u : List Clip} {i : Int} {k : Clip} (h : overS l i k = (u, false)) : u = [] := by
  unfold overS at h
  split at h
  · exact putS_false h
  · cases h; rfl
theorem overS_length (l : List Clip) (i : Int) (k : Clip) : (overS l i k).1.length ≤ 300 := by
  unfold overS putS editF; split
  · split
    · rename_i h; exact h.2.1
    · simp
  · simp
theorem FnOver_ok (h : Heap) (v : Value) (code : List Int) (s : SlT h encByte 1 v code) (hl : code.length ≤ 9223372036854775807) :
    ACall Try.prog 5 [v] h fun r h' => r = .bool true := by
  refine ACall.of Try.func5 s5 (of_decide_eq_true rfl) ?_
  simp (maxSteps := 4000000) (disch := omega) only [ah, am, Nat.reduceEqDiff, reduceCtorEq, Nat.reduceAdd, Nat.reduceLeDiff, Nat.reduceMul, Nat.reduceLT, if_true, if_false, true_and, and_true, and_self, Nat.reduceBEq, QOp.loads, boxO, bslO, buildO, cutL, fillV, putL, w5, v5]
  refine stepC.of (big_ok _ _ _ s) ?_
  rintro _ Hx ⟨hx, rfl⟩; rw [hx]; clear hx Hx
  by_cases hb : 4096 < code.length
  · have hb' : decide (4096 < (code.length : Int)) = true := decide_eq_true (by omega)
    simp (maxSteps := 4000000) (disch := omega) only [ah, am, Nat.reduceEqDiff, reduceCtorEq, Nat.reduceAdd, Nat.reduceLeDiff, Nat.reduceMul, Nat.reduceLT, if_true, if_false, true_and, and_true, and_self, Nat.reduceBEq, QOp.loads, boxO, bslO, buildO, cutL, fillV, putL, w5, v5, hb']
  have hb' : decide (4096 < (code.length : Int)) = false := decide_eq_false (by omega)
  simp (maxSteps := 4000000) (disch := omega) only [ah, am, Nat.reduceEqDiff, reduceCtorEq, Nat.reduceAdd, Nat.reduceLeDiff, Nat.reduceMul, Nat.reduceLT, if_true, if_false, true_and, and_true, and_self, Nat.reduceBEq, QOp.loads, boxO, bslO, buildO, cutL, fillV, putL, w5, v5, hb']
  refine stepC.of (DrawOverwrite_ok _ _ _ s (by omega)) ?_
  rintro _ H1 ⟨tv, l, a, k, rfl, F, D⟩
  have S1 := F.slt
  have e0 := Ext.more H1 [encClip k]
  have S0 := S1.ext e0
  have ov := Overwrite_ok (H1.more [encClip k]) tv l a k S0 (by omega)
  simp only [encClip] at ov
  simp (maxSteps := 4000000) (disch := omega) only [ah, am, Nat.reduceEqDiff, reduceCtorEq, Nat.reduceAdd, Nat.reduceLeDiff, Nat.reduceMul, Nat.reduceLT, if_true, if_false, true_and, and_true, and_self, Nat.reduceBEq, QOp.loads, boxO, bslO, buildO, cutL, fillV, putL, w5, v5, encClip]
  refine stepC.of ov ?_
  rintro _ H2 ⟨uv, rfl, F2⟩
  have S2 := S0.ext F2.1
  have hlen := overS_length l a k
  obtain ⟨u, is, hR⟩ : ∃ u is, overS l a k = (u, is) := ⟨_, _, rfl⟩
  have X2 := F2.1.ld0
  have sv := specOverwrite_ok H2 tv l a k S2 (by omega)
  simp only [encClip] at sv
  simp (maxSteps := 4000000) (disch := omega) only [ah, am, Nat.reduceEqDiff, reduceCtorEq, Nat.reduceAdd, Nat.reduceLeDiff, Nat.reduceMul, Nat.reduceLT, if_true, if_false, true_and, and_true, and_self, Nat.reduceBEq, QOp.loads, boxO, bslO, buildO, cutL, fillV, putL, w5, v5, X2]
  refine stepC.of sv ?_
  rintro _ H3 ⟨wv, rfl, F3⟩
  rw [hR] at F2 F3 hlen ⊢
  simp only at F2 F3 hlen ⊢
  have S3 := S2.ext F3.1
  have U3 := F2.slt.ext F3.1
  have RU := U3.rulesN
  cases is with
  | false =>
    obtain rfl := overS_false hR
    have z : decide (((0 : Nat) : Int) = 0) = true := rfl
    simp (maxSteps := 4000000) (disch := omega) only [ah, am, Nat.reduceEqDiff, reduceCtorEq, Nat.reduceAdd, Nat.reduceLeDiff, Nat.reduceMul, Nat.reduceLT, if_true, if_false, true_and, and_true, and_self, Nat.reduceBEq, QOp.loads, boxO, bslO, buildO, cutL, fillV, putL, w5, v5, eqbV_bool', beq_self_eq_true, RU, z]
  | true =>
    obtain ⟨⟨ht, hk, ha⟩, hu, he⟩ := overS_facts hR
    have hk2 := hk
    simp only [clipOk] at hk2
    have hlen2 := ht.1; have hsum := ht.2.2
    have SM := sum_mid hk.wf ht hu ha.1 ha.2 he
    have FM := frameAt_mid hk.wf ht hu ha.1 ha.2 he
    have E3 : Ext (H1.more [encClip k]) H3 := F2.1.trans F3.1
    have X3 := E3.ld0
    simp only [encClip] at X3
    simp (maxSteps := 4000000) (disch := omega) only [ah, am, Nat.reduceEqDiff, reduceCtorEq, Nat.reduceAdd, Nat.reduceLeDiff, Nat.reduceMul, Nat.reduceLT, if_true, if_false, true_and, and_true, and_self, Nat.reduceBEq, QOp.loads, boxO, bslO, buildO, cutL, fillV, putL, w5, v5, eqbV_bool', beq_self_eq_true, RU, X3]
    refine stepC.of (Length_ok _ _ _ S3 (by omega)) ?_
    rintro _ H4 ⟨e4, rfl⟩
    rw [show lengthI l = sumLen l from if_pos ht]
    have S4 := S3.ext e4
    have U4 := U3.ext e4
    have E4 := E3.trans e4
    have X4 := E4.ld0
    simp only [encClip] at X4
    have rest : ∀ (E : Env), E.get 3 = some tv → E.get 4 = some (.int .i64 a) → E.get 5 = some (.pointer (some ⟨H1.size, 0, none⟩)) → E.get 6 = some uv → E.get 10 = some (.int .i64 (sumLen u)) →
        SW Try.prog c5_65 (retQ [RV.t 2] fun r h' => r = .bool true) E H4 := by
      intro E E3' E4' E5' E6' E10'
      simp (maxSteps := 4000000) (disch := omega) only [ah, am, Nat.reduceEqDiff, reduceCtorEq, Nat.reduceAdd, Nat.reduceLeDiff, Nat.reduceMul, Nat.reduceLT, if_true, if_false, true_and, and_true, and_self, Nat.reduceBEq, QOp.loads, boxO, bslO, buildO, cutL, fillV, putL, w5, v5, E3', E4', E5', E6', E10']
      refine stepC.of (Length_ok _ _ _ U4 (by omega)) ?_
      rintro _ H5 ⟨e5, rfl⟩
      rw [show lengthI u = sumLen u from if_pos hu]
      have W0 : IntKind.i64.wrap (a - 3) = a - 3 + ((0 : Nat) : Int) := i64e (by omega) (by omega)
      simp (maxSteps := 4000000) (disch := omega) only [ah, am, Nat.reduceEqDiff, reduceCtorEq, Nat.reduceAdd, Nat.reduceLeDiff, Nat.reduceMul, Nat.reduceLT, if_true, if_false, true_and, and_true, and_self, Nat.reduceBEq, QOp.loads, boxO, bslO, buildO, cutL, fillV, putL, w5, v5, E3', E4', E5', E6', E10', eq_self, decide_true, W0]
      refine SW_loop_up (fun j E H => E = [(3, tv), (4, .int .i64 a), (5, .pointer (some ⟨H1.size, 0, none⟩)), (6, uv), (11, .int .i64 (a - 3 + (j : Int)))] ∧ Ext H5 H) 43 0 (by omega) ⟨rfl, Ext.refl _⟩ ?_
      rintro j E H hj ⟨rfl, e⟩
      have X := ((E4.trans e5).trans e).ld0
      simp only [encClip] at X
      have W1 : IntKind.i64.wrap (a - 3 + (j : Int) + 1) = a - 3 + ((j + 1 : Nat) : Int) := i64e (by omega) (by omega)
      simp (maxSteps := 4000000) (disch := omega) only [ah, am, Nat.reduceEqDiff, reduceCtorEq, Nat.reduceAdd, Nat.reduceLeDiff, Nat.reduceMul, Nat.reduceLT, if_true, if_false, true_and, and_true, and_self, Nat.reduceBEq, QOp.loads, boxO, bslO, buildO, cutL, fillV, putL, w5, v5, X, i64w]
      by_cases hc : a - 3 + (j : Int) < a + k.len + 3 ∧ a - 3 + (j : Int) < a + 40
      · have hc1 : decide (a - 3 + (j : Int) < a + k.len + 3) = true := decide_eq_true hc.1
        have hc2 : decide (a - 3 + (j : Int) < a + 40) = true := decide_eq_true hc.2
        simp (maxSteps := 4000000) (disch := omega) only [ah, am, Nat.reduceEqDiff, reduceCtorEq, Nat.reduceAdd, Nat.reduceLeDiff, Nat.reduceMul, Nat.reduceLT, if_true, if_false, true_and, and_true, and_self, Nat.reduceBEq, QOp.loads, boxO, bslO, buildO, cutL, fillV, putL, w5, v5, hc1, hc2, i64w]
        refine stepC.of (FrameAt_ok _ _ _ _ ((U4.ext e5).ext e) (by omega)) ?_
        rintro _ H6 ⟨e6, rfl⟩
        simp (maxSteps := 4000000) (disch := omega) only [ah, am, Nat.reduceEqDiff, reduceCtorEq, Nat.reduceAdd, Nat.reduceLeDiff, Nat.reduceMul, Nat.reduceLT, if_true, if_false, true_and, and_true, and_self, Nat.reduceBEq, QOp.loads, boxO, bslO, buildO, cutL, fillV, putL, w5, v5]
        refine stepC.of (FrameAt_ok _ _ _ _ (((S4.ext e5).ext e).ext e6) (by omega)) ?_
        rintro _ H7 ⟨e7, rfl⟩
        have X7 := ((((E4.trans e5).trans e).trans e6).trans e7).ld0
        simp only [encClip] at X7
        have Q := FM (a - 3 + (j : Int))
        generalize hii : a - 3 + (j : Int) = i at *
        have fin : ∀ p q : Int, p = q → decide (p = q) = true := fun p q h => decide_eq_true h
        by_cases h1 : a ≤ i ∧ i < a + k.len
        · have d1 : decide (a ≤ i) = true := decide_eq_true h1.1
          have d2 : decide (i < a + k.len) = true := decide_eq_true h1.2
          rw [if_pos h1] at Q
          rw [Q]
          by_cases hg : k.src = 0
          · have d3 : decide (0 < k.src) = false := decide_eq_false (by omega)
            have hi0 : k.inn = 0 := by omega
            simp only [if_pos hg, hi0]
            simp (maxSteps := 4000000) (disch := omega) only [ah, am, Nat.reduceEqDiff, reduceCtorEq, Nat.reduceAdd, Nat.reduceLeDiff, Nat.reduceMul, Nat.reduceLT, if_true, if_false, true_and, and_true, and_self, Nat.reduceBEq, QOp.loads, boxO, bslO, buildO, cutL, fillV, putL, w5, v5, X7, d1, d2, d3, i64w, eq_self, decide_true, W1]
            exact ⟨by omega, (e.trans e6).trans e7⟩
          · have d3 : decide (0 < k.src) = true := decide_eq_true (by omega)
            have W2 : decide (k.inn + (i - a) = k.inn + i - a) = true := decide_eq_true (by omega)
            simp only [if_neg hg]
            simp (maxSteps := 4000000) (disch := omega) only [ah, am, Nat.reduceEqDiff, reduceCtorEq, Nat.reduceAdd, Nat.reduceLeDiff, Nat.reduceMul, Nat.reduceLT, if_true, if_false, true_and, and_true, and_self, Nat.reduceBEq, QOp.loads, boxO, bslO, buildO, cutL, fillV, putL, w5, v5, X7, d1, d2, d3, W2, i64w, eq_self, decide_true, W1]
            exact ⟨by omega, (e.trans e6).trans e7⟩
        · rw [if_neg h1] at Q
          rw [Q]
          by_cases h2 : a ≤ i
          · have d1 : decide (a ≤ i) = true := decide_eq_true h2
            have d2 : decide (i < a + k.len) = false := decide_eq_false (by omega)
            simp (maxSteps := 4000000) (disch := omega) only [ah, am, Nat.reduceEqDiff, reduceCtorEq, Nat.reduceAdd, Nat.reduceLeDiff, Nat.reduceMul, Nat.reduceLT, if_true, if_false, true_and, and_true, and_self, Nat.reduceBEq, QOp.loads, boxO, bslO, buildO, cutL, fillV, putL, w5, v5, X7, d1, d2, i64w, eq_self, decide_true, W1]
            exact ⟨by omega, (e.trans e6).trans e7⟩
          · have d1 : decide (a ≤ i) = false := decide_eq_false h2
            simp (maxSteps := 4000000) (disch := omega) only [ah, am, Nat.reduceEqDiff, reduceCtorEq, Nat.reduceAdd, Nat.reduceLeDiff, Nat.reduceMul, Nat.reduceLT, if_true, if_false, true_and, and_true, and_self, Nat.reduceBEq, QOp.loads, boxO, bslO, buildO, cutL, fillV, putL, w5, v5, X7, d1, i64w, eq_self, decide_true, W1]
            exact ⟨by omega, (e.trans e6).trans e7⟩
      · by_cases h1 : a - 3 + (j : Int) < a + k.len + 3
        · have hc1 : decide (a - 3 + (j : Int) < a + k.len + 3) = true := decide_eq_true h1
          have hc2 : decide (a - 3 + (j : Int) < a + 40) = false := decide_eq_false (by omega)
          simp (maxSteps := 4000000) (disch := omega) only [ah, am, Nat.reduceEqDiff, reduceCtorEq, Nat.reduceAdd, Nat.reduceLeDiff, Nat.reduceMul, Nat.reduceLT, if_true, if_false, true_and, and_true, and_self, Nat.reduceBEq, QOp.loads, boxO, bslO, buildO, cutL, fillV, putL, w5, v5, hc1, hc2, i64w]
        · have hc1 : decide (a - 3 + (j : Int) < a + k.len + 3) = false := decide_eq_false h1
          simp (maxSteps := 4000000) (disch := omega) only [ah, am, Nat.reduceEqDiff, reduceCtorEq, Nat.reduceAdd, Nat.reduceLeDiff, Nat.reduceMul, Nat.reduceLT, if_true, if_false, true_and, and_true, and_self, Nat.reduceBEq, QOp.loads, boxO, bslO, buildO, cutL, fillV, putL, w5, v5, hc1, i64w]
    rw [c5_66.eq_1]
    generalize c5_65 = fc at rest ⊢
    by_cases hx : sumLen l < a + k.len
    · have hx' : decide (sumLen l < a + k.len) = true := decide_eq_true hx
      rw [if_pos hx] at SM
      simp (maxSteps := 4000000) (disch := omega) only [ah, am, Nat.reduceEqDiff, reduceCtorEq, Nat.reduceAdd, Nat.reduceLeDiff, Nat.reduceMul, Nat.reduceLT, if_true, if_false, true_and, and_true, and_self, Nat.reduceBEq, QOp.loads, boxO, bslO, buildO, cutL, fillV, putL, w5, v5, X4, i64w, hx']
      rw [SM] at rest
      exact rest _ rfl rfl rfl rfl rfl
    · have hx' : decide (sumLen l < a + k.len) = false := decide_eq_false hx
      rw [if_neg hx] at SM
      simp (maxSteps := 4000000) (disch := omega) only [ah, am, Nat.reduceEqDiff, reduceCtorEq, Nat.reduceAdd, Nat.reduceLeDiff, Nat.reduceMul, Nat.reduceLT, if_true, if_false, true_and, and_true, and_self, Nat.reduceBEq, QOp.loads, boxO, bslO, buildO, cutL, fillV, putL, w5, v5, X4, i64w, hx']
      rw [SM] at rest
      exact rest _ rfl rfl rfl rfl rfl
end Go.Proofs.Ytknpombiomnkbaa
