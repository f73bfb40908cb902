import Derived.Test.YtgjppbmbpjomgaaDoorQ6
import Derived.Test.YtgjppbmbpjomgaaDoorM0
namespace Go.Proofs.YtgjppbmbpjomgaaDoor
open Go Go.Ah
set_option linter.unusedSimpArgs false
set_option linter.unusedVariables false
set_option maxRecDepth 10000
set_option maxHeartbeats 4000000
/-! 8 loop.example/g00066/spec.Unread: parameters 2, live [0, 1], slots [0:list, 1:s, 2:list, 3:s, 5:out, 6:i, 7:t, 8:at, 9:long, 10:signs, 11:rows, 12:row, 13:wide, 14:k, 15:x] -/
def c8_0 : List SOper := [⟨some 3, .a (.box (.t 1)), none⟩, ⟨some 4, .q (.mv (.c (.slice none 0 0))), none⟩]
def c8_1 : List SOper := [⟨some 16, .a (.bsl 0 2 [] []), none⟩, ⟨some 5, .q (.mv (.t 16)), none⟩]
def c8_2 : List SOper := [⟨some 17, .q (.mv (.t 0)), none⟩, ⟨some 18, .e (.call 26 [(.t 17)]), none⟩, ⟨some 19, .q (.not (.t 18)), none⟩, ⟨some 20, .q (.mv (.t 19)), none⟩, ⟨some 21, .q (.ldn 5 (.t 3)), some (20, false)⟩, ⟨some 22, .e (.call 27 [(.t 21)]), some (20, false)⟩, ⟨some 23, .q (.not (.t 22)), some (20, false)⟩, ⟨some 24, .q (.pick (.t 20) (.c (.bool true)) (.t 23)), none⟩]
def c8_3 : List SOper := [⟨some 25, .q (.mv (.t 5)), none⟩, ⟨some 4, .q (.mv (.t 25)), none⟩]
def c8_4 : SCode := .seq (.region c8_3 [4]) .ret
def c8_5 : SCode := .cond (.t 24) c8_4 .skip
def c8_6 : SCode := .seq (.region c8_2 [0, 3, 5, 24]) c8_5
def c8_7 : List SOper := [⟨some 6, .q (.mv (.c (.int .i64 0))), none⟩]
def c8_8 : List SOper := [⟨some 26, .q (.mv (.t 6)), none⟩, ⟨some 27, .q (.mv (.t 0)), none⟩, ⟨some 28, .q (.len (.t 27)), none⟩, ⟨some 29, .q (.bin .lss (.t 26) (.t 28)), none⟩]
def c8_9 : SCode := .cond (.t 29) .skip (.exit 0)
def c8_10 : SCode := .seq (.region c8_8 [0, 3, 5, 6, 29]) c8_9
def c8_11 : List SOper := [⟨some 32, .q (.mv (.t 0)), none⟩, ⟨some 33, .q (.mv (.t 6)), none⟩, ⟨some 34, .q (.ia 3 (.t 32) (.t 33)), none⟩, ⟨some 35, .q (.ldn 3 (.t 34)), none⟩, ⟨some 7, .a (.new [(.int .i64 0), (.int .i64 0), (.string ⟨#[]⟩)]), none⟩, ⟨none, .e (.st 3 (.t 7) (.t 35)), none⟩]
def c8_12 : List SOper := [⟨some 36, .q (.mv (.t 6)), none⟩, ⟨some 8, .q (.mv (.t 36)), none⟩]
def c8_13 : List SOper := [⟨some 37, .q (.fa 1 (.t 7)), none⟩, ⟨some 38, .q (.ld (.t 37)), none⟩, ⟨some 39, .q (.fa 0 (.t 7)), none⟩, ⟨some 40, .q (.ld (.t 39)), none⟩, ⟨some 41, .q (.bin .sub (.t 38) (.t 40)), none⟩, ⟨some 9, .q (.mv (.t 41)), none⟩]
def c8_14 : List SOper := [⟨some 10, .q (.mv (.c (.int .i64 0))), none⟩]
def c8_15 : List SOper := [⟨some 11, .q (.mv (.c (.int .i64 1))), none⟩]
def c8_16 : List SOper := [⟨some 12, .q (.mv (.c (.int .i64 0))), none⟩]
def c8_17 : List SOper := [⟨some 13, .q (.mv (.c (.int .i64 0))), none⟩]
def c8_18 : List SOper := [⟨some 14, .q (.mv (.c (.int .i64 0))), none⟩]
def c8_19 : List SOper := [⟨some 42, .q (.mv (.t 14)), none⟩, ⟨some 43, .q (.fa 2 (.t 7)), none⟩, ⟨some 44, .q (.ld (.t 43)), none⟩, ⟨some 45, .q (.lens (.t 44)), none⟩, ⟨some 46, .q (.bin .lss (.t 42) (.t 45)), none⟩]
def c8_20 : SCode := .cond (.t 46) .skip (.exit 2)
def c8_21 : SCode := .seq (.region c8_19 [0, 3, 5, 6, 7, 8, 9, 10, 11, 12, 13, 14, 46]) c8_20
def c8_22 : List SOper := [⟨some 49, .q (.fa 2 (.t 7)), none⟩, ⟨some 50, .q (.ld (.t 49)), none⟩, ⟨some 51, .q (.mv (.t 14)), none⟩, ⟨some 52, .q (.ivs (.t 50) (.t 51)), none⟩, ⟨some 15, .q (.mv (.t 52)), none⟩]
def c8_23 : List SOper := [⟨some 53, .q (.mv (.t 15)), none⟩, ⟨some 54, .q (.bin .eql (.t 53) (.c (.int .u8 10))), none⟩]
def c8_24 : List SOper := [⟨some 55, .q (.mv (.t 11)), none⟩, ⟨some 56, .q (.bin .add (.t 55) (.c (.int .i64 1))), none⟩, ⟨some 11, .q (.mv (.t 56)), none⟩]
def c8_25 : List SOper := [⟨some 12, .q (.mv (.c (.int .i64 0))), none⟩]
def c8_26 : SCode := .seq (.region c8_25 [0, 3, 5, 6, 7, 8, 9, 10, 11, 12, 13, 14]) (.exit 3)
def c8_27 : SCode := .seq (.region c8_24 [0, 3, 5, 6, 7, 8, 9, 10, 11, 13, 14]) c8_26
def c8_28 : SCode := .cond (.t 54) c8_27 .skip
def c8_29 : SCode := .seq (.region c8_23 [0, 3, 5, 6, 7, 8, 9, 10, 11, 12, 13, 14, 15, 54]) c8_28
def c8_30 : List SOper := [⟨some 57, .q (.mv (.t 15)), none⟩, ⟨some 58, .q (.bin .lss (.t 57) (.c (.int .u8 128))), none⟩, ⟨some 59, .q (.mv (.t 58)), none⟩, ⟨some 60, .q (.mv (.t 15)), some (59, false)⟩, ⟨some 61, .q (.bin .gtr (.t 60) (.c (.int .u8 191))), some (59, false)⟩, ⟨some 62, .q (.pick (.t 59) (.c (.bool true)) (.t 61)), none⟩]
def c8_31 : List SOper := [⟨some 63, .q (.mv (.t 10)), none⟩, ⟨some 64, .q (.bin .add (.t 63) (.c (.int .i64 1))), none⟩, ⟨some 10, .q (.mv (.t 64)), none⟩]
def c8_32 : List SOper := [⟨some 65, .q (.mv (.t 12)), none⟩, ⟨some 66, .q (.bin .add (.t 65) (.c (.int .i64 1))), none⟩, ⟨some 12, .q (.mv (.t 66)), none⟩]
def c8_33 : List SOper := [⟨some 67, .q (.mv (.t 13)), none⟩, ⟨some 68, .q (.mv (.t 12)), none⟩, ⟨some 69, .e (.call 28 [(.t 67), (.t 68)]), none⟩, ⟨some 13, .q (.mv (.t 69)), none⟩]
def c8_34 : SCode := .seq (.region c8_32 [0, 3, 5, 6, 7, 8, 9, 10, 11, 12, 13, 14]) (.region c8_33 [0, 3, 5, 6, 7, 8, 9, 10, 11, 12, 13, 14])
def c8_35 : SCode := .seq (.region c8_31 [0, 3, 5, 6, 7, 8, 9, 10, 11, 12, 13, 14]) c8_34
def c8_36 : SCode := .cond (.t 62) c8_35 .skip
def c8_37 : SCode := .seq (.region c8_30 [0, 3, 5, 6, 7, 8, 9, 10, 11, 12, 13, 14, 62]) c8_36
def c8_38 : SCode := .seq c8_29 c8_37
def c8_39 : SCode := .seq (.region c8_22 [0, 3, 5, 6, 7, 8, 9, 10, 11, 12, 13, 14, 15]) c8_38
def c8_40 : SCode := .block 3 c8_39
def c8_41 : List SOper := [⟨some 47, .q (.mv (.t 14)), none⟩, ⟨some 48, .q (.bin .add (.t 47) (.c (.int .i64 1))), none⟩, ⟨some 14, .q (.mv (.t 48)), none⟩]
def c8_42 : SCode := .seq c8_40 (.region c8_41 [0, 3, 5, 6, 7, 8, 9, 10, 11, 12, 13, 14])
def c8_43 : SCode := .seq c8_21 c8_42
def c8_44 : SCode := .loop c8_43
def c8_45 : SCode := .block 2 c8_44
def c8_46 : SCode := .seq (.region c8_18 [0, 3, 5, 6, 7, 8, 9, 10, 11, 12, 13, 14]) c8_45
def c8_47 : List SOper := [⟨some 70, .q (.mv (.t 9)), none⟩, ⟨some 71, .q (.fa 0 (.t 3)), none⟩, ⟨some 72, .q (.ld (.t 71)), none⟩, ⟨some 73, .q (.bin .lss (.t 70) (.t 72)), none⟩]
def c8_48 : List SOper := [⟨some 74, .q (.mv (.t 5)), none⟩, ⟨some 75, .q (.mv (.t 8)), none⟩, ⟨some 76, .q (.build [(.int .i64 0), (.int .i64 0)] [(0, 1, (.t 75)), (1, 1, (.c (.int .i64 1)))]), none⟩, ⟨some 77, .a (.bsl 1 2 [(.int .i64 0), (.int .i64 0)] [(0, 2, (.t 76))]), none⟩, ⟨some 78, .e (.app 16 2 (.t 74) (.t 77)), none⟩, ⟨some 5, .q (.mv (.t 78)), none⟩]
def c8_49 : SCode := .cond (.t 73) (.region c8_48 [0, 3, 5, 6, 7, 8, 9, 10, 11, 13]) .skip
def c8_50 : SCode := .seq (.region c8_47 [0, 3, 5, 6, 7, 8, 9, 10, 11, 13, 73]) c8_49
def c8_51 : List SOper := [⟨some 79, .q (.mv (.t 6)), none⟩, ⟨some 80, .q (.bin .gtr (.t 79) (.c (.int .i64 0))), none⟩, ⟨some 81, .q (.mv (.t 80)), none⟩, ⟨some 82, .q (.fa 0 (.t 7)), some (81, true)⟩, ⟨some 83, .q (.ld (.t 82)), some (81, true)⟩, ⟨some 84, .q (.mv (.t 0)), some (81, true)⟩, ⟨some 85, .q (.mv (.t 6)), some (81, true)⟩, ⟨some 86, .q (.bin .sub (.t 85) (.c (.int .i64 1))), some (81, true)⟩, ⟨some 87, .q (.ia 3 (.t 84) (.t 86)), some (81, true)⟩, ⟨some 88, .q (.fa 1 (.t 87)), some (81, true)⟩, ⟨some 89, .q (.ld (.t 88)), some (81, true)⟩, ⟨some 90, .q (.bin .sub (.t 83) (.t 89)), some (81, true)⟩, ⟨some 91, .q (.fa 1 (.t 3)), some (81, true)⟩, ⟨some 92, .q (.ld (.t 91)), some (81, true)⟩, ⟨some 93, .q (.bin .lss (.t 90) (.t 92)), some (81, true)⟩, ⟨some 94, .q (.pick (.t 81) (.t 93) (.c (.bool false))), none⟩]
def c8_52 : List SOper := [⟨some 95, .q (.mv (.t 5)), none⟩, ⟨some 96, .q (.mv (.t 8)), none⟩, ⟨some 97, .q (.build [(.int .i64 0), (.int .i64 0)] [(0, 1, (.t 96)), (1, 1, (.c (.int .i64 2)))]), none⟩, ⟨some 98, .a (.bsl 1 2 [(.int .i64 0), (.int .i64 0)] [(0, 2, (.t 97))]), none⟩, ⟨some 99, .e (.app 16 2 (.t 95) (.t 98)), none⟩, ⟨some 5, .q (.mv (.t 99)), none⟩]
def c8_53 : SCode := .cond (.t 94) (.region c8_52 [0, 3, 5, 6, 8, 9, 10, 11, 13]) .skip
def c8_54 : SCode := .seq (.region c8_51 [0, 3, 5, 6, 8, 9, 10, 11, 13, 94]) c8_53
def c8_55 : List SOper := [⟨some 100, .q (.mv (.t 10)), none⟩, ⟨some 101, .q (.bin .mul (.t 100) (.c (.int .i64 1000))), none⟩, ⟨some 102, .q (.fa 2 (.t 3)), none⟩, ⟨some 103, .q (.ld (.t 102)), none⟩, ⟨some 104, .q (.mv (.t 9)), none⟩, ⟨some 105, .q (.bin .mul (.t 103) (.t 104)), none⟩, ⟨some 106, .q (.bin .gtr (.t 101) (.t 105)), none⟩]
def c8_56 : List SOper := [⟨some 107, .q (.mv (.t 5)), none⟩, ⟨some 108, .q (.mv (.t 8)), none⟩, ⟨some 109, .q (.build [(.int .i64 0), (.int .i64 0)] [(0, 1, (.t 108)), (1, 1, (.c (.int .i64 3)))]), none⟩, ⟨some 110, .a (.bsl 1 2 [(.int .i64 0), (.int .i64 0)] [(0, 2, (.t 109))]), none⟩, ⟨some 111, .e (.app 16 2 (.t 107) (.t 110)), none⟩, ⟨some 5, .q (.mv (.t 111)), none⟩]
def c8_57 : SCode := .cond (.t 106) (.region c8_56 [0, 3, 5, 6, 8, 11, 13]) .skip
def c8_58 : SCode := .seq (.region c8_55 [0, 3, 5, 6, 8, 11, 13, 106]) c8_57
def c8_59 : List SOper := [⟨some 112, .q (.mv (.t 11)), none⟩, ⟨some 113, .q (.fa 3 (.t 3)), none⟩, ⟨some 114, .q (.ld (.t 113)), none⟩, ⟨some 115, .q (.bin .gtr (.t 112) (.t 114)), none⟩]
def c8_60 : List SOper := [⟨some 116, .q (.mv (.t 5)), none⟩, ⟨some 117, .q (.mv (.t 8)), none⟩, ⟨some 118, .q (.build [(.int .i64 0), (.int .i64 0)] [(0, 1, (.t 117)), (1, 1, (.c (.int .i64 4)))]), none⟩, ⟨some 119, .a (.bsl 1 2 [(.int .i64 0), (.int .i64 0)] [(0, 2, (.t 118))]), none⟩, ⟨some 120, .e (.app 16 2 (.t 116) (.t 119)), none⟩, ⟨some 5, .q (.mv (.t 120)), none⟩]
def c8_61 : SCode := .cond (.t 115) (.region c8_60 [0, 3, 5, 6, 8, 13]) .skip
def c8_62 : SCode := .seq (.region c8_59 [0, 3, 5, 6, 8, 13, 115]) c8_61
def c8_63 : List SOper := [⟨some 121, .q (.mv (.t 13)), none⟩, ⟨some 122, .q (.fa 4 (.t 3)), none⟩, ⟨some 123, .q (.ld (.t 122)), none⟩, ⟨some 124, .q (.bin .gtr (.t 121) (.t 123)), none⟩]
def c8_64 : List SOper := [⟨some 125, .q (.mv (.t 5)), none⟩, ⟨some 126, .q (.mv (.t 8)), none⟩, ⟨some 127, .q (.build [(.int .i64 0), (.int .i64 0)] [(0, 1, (.t 126)), (1, 1, (.c (.int .i64 5)))]), none⟩, ⟨some 128, .a (.bsl 1 2 [(.int .i64 0), (.int .i64 0)] [(0, 2, (.t 127))]), none⟩, ⟨some 129, .e (.app 16 2 (.t 125) (.t 128)), none⟩, ⟨some 5, .q (.mv (.t 129)), none⟩]
def c8_65 : SCode := .cond (.t 124) (.region c8_64 [0, 3, 5, 6]) .skip
def c8_66 : SCode := .seq (.region c8_63 [0, 3, 5, 6, 8, 124]) c8_65
def c8_67 : SCode := .seq c8_62 c8_66
def c8_68 : SCode := .seq c8_58 c8_67
def c8_69 : SCode := .seq c8_54 c8_68
def c8_70 : SCode := .seq c8_50 c8_69
def c8_71 : SCode := .seq c8_46 c8_70
def c8_72 : SCode := .seq (.region c8_17 [0, 3, 5, 6, 7, 8, 9, 10, 11, 12, 13]) c8_71
def c8_73 : SCode := .seq (.region c8_16 [0, 3, 5, 6, 7, 8, 9, 10, 11, 12]) c8_72
def c8_74 : SCode := .seq (.region c8_15 [0, 3, 5, 6, 7, 8, 9, 10, 11]) c8_73
def c8_75 : SCode := .seq (.region c8_14 [0, 3, 5, 6, 7, 8, 9, 10]) c8_74
def c8_76 : SCode := .seq (.region c8_13 [0, 3, 5, 6, 7, 8, 9]) c8_75
def c8_77 : SCode := .seq (.region c8_12 [0, 3, 5, 6, 7, 8]) c8_76
def c8_78 : SCode := .seq (.region c8_11 [0, 3, 5, 6, 7]) c8_77
def c8_79 : SCode := .block 1 c8_78
def c8_80 : List SOper := [⟨some 30, .q (.mv (.t 6)), none⟩, ⟨some 31, .q (.bin .add (.t 30) (.c (.int .i64 1))), none⟩, ⟨some 6, .q (.mv (.t 31)), none⟩]
def c8_81 : SCode := .seq c8_79 (.region c8_80 [0, 3, 5, 6])
def c8_82 : SCode := .seq c8_10 c8_81
def c8_83 : SCode := .loop c8_82
def c8_84 : SCode := .block 0 c8_83
def c8_85 : SCode := .seq (.region c8_7 [0, 3, 5, 6]) c8_84
def c8_86 : List SOper := [⟨some 130, .q (.mv (.t 5)), none⟩, ⟨some 4, .q (.mv (.t 130)), none⟩]
def c8_87 : SCode := .seq (.region c8_86 [4]) .ret
def c8_88 : SCode := .seq c8_85 c8_87
def c8_89 : SCode := .seq c8_6 c8_88
def c8_90 : SCode := .seq (.region c8_1 [0, 3, 5]) c8_89
def c8_91 : SCode := .seq (.region c8_0 [0, 3]) c8_90
def c8 : SCode := c8_91
theorem w8 : type_of% (And.intro (uR Tryd.prog c8_0.eq_1) (And.intro (uR Tryd.prog c8_1.eq_1) (And.intro (uR Tryd.prog c8_2.eq_1) (And.intro (uR Tryd.prog c8_3.eq_1) (And.intro (uC Tryd.prog c8_4.eq_1) (And.intro (uC Tryd.prog c8_5.eq_1) (And.intro (uC Tryd.prog c8_6.eq_1) (And.intro (uR Tryd.prog c8_7.eq_1) (And.intro (uR Tryd.prog c8_8.eq_1) (And.intro (uC Tryd.prog c8_9.eq_1) (And.intro (uC Tryd.prog c8_10.eq_1) (And.intro (uR Tryd.prog c8_11.eq_1) (And.intro (uR Tryd.prog c8_12.eq_1) (And.intro (uR Tryd.prog c8_13.eq_1) (And.intro (uR Tryd.prog c8_14.eq_1) (And.intro (uR Tryd.prog c8_15.eq_1) (And.intro (uR Tryd.prog c8_16.eq_1) (And.intro (uR Tryd.prog c8_17.eq_1) (And.intro (uR Tryd.prog c8_18.eq_1) (And.intro (uR Tryd.prog c8_19.eq_1) (And.intro (uC Tryd.prog c8_20.eq_1) (And.intro (uC Tryd.prog c8_21.eq_1) (And.intro (uR Tryd.prog c8_22.eq_1) (And.intro (uR Tryd.prog c8_23.eq_1) (And.intro (uR Tryd.prog c8_24.eq_1) (And.intro (uR Tryd.prog c8_25.eq_1) (And.intro (uC Tryd.prog c8_26.eq_1) (And.intro (uC Tryd.prog c8_27.eq_1) (And.intro (uC Tryd.prog c8_28.eq_1) (And.intro (uC Tryd.prog c8_29.eq_1) (And.intro (uR Tryd.prog c8_30.eq_1) (And.intro (uR Tryd.prog c8_31.eq_1) (And.intro (uR Tryd.prog c8_32.eq_1) (And.intro (uR Tryd.prog c8_33.eq_1) (And.intro (uC Tryd.prog c8_34.eq_1) (And.intro (uC Tryd.prog c8_35.eq_1) (And.intro (uC Tryd.prog c8_36.eq_1) (And.intro (uC Tryd.prog c8_37.eq_1) (And.intro (uC Tryd.prog c8_38.eq_1) (And.intro (uC Tryd.prog c8_39.eq_1) (And.intro (uC Tryd.prog c8_40.eq_1) (And.intro (uR Tryd.prog c8_41.eq_1) (And.intro (uC Tryd.prog c8_42.eq_1) (And.intro (uC Tryd.prog c8_43.eq_1) (And.intro (uC Tryd.prog c8_44.eq_1) (And.intro (uC Tryd.prog c8_45.eq_1) (And.intro (uC Tryd.prog c8_46.eq_1) (And.intro (uR Tryd.prog c8_47.eq_1) (And.intro (uR Tryd.prog c8_48.eq_1) (And.intro (uC Tryd.prog c8_49.eq_1) (And.intro (uC Tryd.prog c8_50.eq_1) (And.intro (uR Tryd.prog c8_51.eq_1) (And.intro (uR Tryd.prog c8_52.eq_1) (And.intro (uC Tryd.prog c8_53.eq_1) (And.intro (uC Tryd.prog c8_54.eq_1) (And.intro (uR Tryd.prog c8_55.eq_1) (And.intro (uR Tryd.prog c8_56.eq_1) (And.intro (uC Tryd.prog c8_57.eq_1) (And.intro (uC Tryd.prog c8_58.eq_1) (And.intro (uR Tryd.prog c8_59.eq_1) (And.intro (uR Tryd.prog c8_60.eq_1) (And.intro (uC Tryd.prog c8_61.eq_1) (And.intro (uC Tryd.prog c8_62.eq_1) (And.intro (uR Tryd.prog c8_63.eq_1) (And.intro (uR Tryd.prog c8_64.eq_1) (And.intro (uC Tryd.prog c8_65.eq_1) (And.intro (uC Tryd.prog c8_66.eq_1) (And.intro (uC Tryd.prog c8_67.eq_1) (And.intro (uC Tryd.prog c8_68.eq_1) (And.intro (uC Tryd.prog c8_69.eq_1) (And.intro (uC Tryd.prog c8_70.eq_1) (And.intro (uC Tryd.prog c8_71.eq_1) (And.intro (uC Tryd.prog c8_72.eq_1) (And.intro (uC Tryd.prog c8_73.eq_1) (And.intro (uC Tryd.prog c8_74.eq_1) (And.intro (uC Tryd.prog c8_75.eq_1) (And.intro (uC Tryd.prog c8_76.eq_1) (And.intro (uC Tryd.prog c8_77.eq_1) (And.intro (uC Tryd.prog c8_78.eq_1) (And.intro (uC Tryd.prog c8_79.eq_1) (And.intro (uR Tryd.prog c8_80.eq_1) (And.intro (uC Tryd.prog c8_81.eq_1) (And.intro (uC Tryd.prog c8_82.eq_1) (And.intro (uC Tryd.prog c8_83.eq_1) (And.intro (uC Tryd.prog c8_84.eq_1) (And.intro (uC Tryd.prog c8_85.eq_1) (And.intro (uR Tryd.prog c8_86.eq_1) (And.intro (uC Tryd.prog c8_87.eq_1) (And.intro (uC Tryd.prog c8_88.eq_1) (And.intro (uC Tryd.prog c8_89.eq_1) (And.intro (uC Tryd.prog c8_90.eq_1) (And.intro (uC Tryd.prog c8_91.eq_1) (uC Tryd.prog c8.eq_1))))))))))))))))))))))))))))))))))))))))))))))))))))))))))))))))))))))))))))))))))))))))))))) := (And.intro (uR Tryd.prog c8_0.eq_1) (And.intro (uR Tryd.prog c8_1.eq_1) (And.intro (uR Tryd.prog c8_2.eq_1) (And.intro (uR Tryd.prog c8_3.eq_1) (And.intro (uC Tryd.prog c8_4.eq_1) (And.intro (uC Tryd.prog c8_5.eq_1) (And.intro (uC Tryd.prog c8_6.eq_1) (And.intro (uR Tryd.prog c8_7.eq_1) (And.intro (uR Tryd.prog c8_8.eq_1) (And.intro (uC Tryd.prog c8_9.eq_1) (And.intro (uC Tryd.prog c8_10.eq_1) (And.intro (uR Tryd.prog c8_11.eq_1) (And.intro (uR Tryd.prog c8_12.eq_1) (And.intro (uR Tryd.prog c8_13.eq_1) (And.intro (uR Tryd.prog c8_14.eq_1) (And.intro (uR Tryd.prog c8_15.eq_1) (And.intro (uR Tryd.prog c8_16.eq_1) (And.intro (uR Tryd.prog c8_17.eq_1) (And.intro (uR Tryd.prog c8_18.eq_1) (And.intro (uR Tryd.prog c8_19.eq_1) (And.intro (uC Tryd.prog c8_20.eq_1) (And.intro (uC Tryd.prog c8_21.eq_1) (And.intro (uR Tryd.prog c8_22.eq_1) (And.intro (uR Tryd.prog c8_23.eq_1) (And.intro (uR Tryd.prog c8_24.eq_1) (And.intro (uR Tryd.prog c8_25.eq_1) (And.intro (uC Tryd.prog c8_26.eq_1) (And.intro (uC Tryd.prog c8_27.eq_1) (And.intro (uC Tryd.prog c8_28.eq_1) (And.intro (uC Tryd.prog c8_29.eq_1) (And.intro (uR Tryd.prog c8_30.eq_1) (And.intro (uR Tryd.prog c8_31.eq_1) (And.intro (uR Tryd.prog c8_32.eq_1) (And.intro (uR Tryd.prog c8_33.eq_1) (And.intro (uC Tryd.prog c8_34.eq_1) (And.intro (uC Tryd.prog c8_35.eq_1) (And.intro (uC Tryd.prog c8_36.eq_1) (And.intro (uC Tryd.prog c8_37.eq_1) (And.intro (uC Tryd.prog c8_38.eq_1) (And.intro (uC Tryd.prog c8_39.eq_1) (And.intro (uC Tryd.prog c8_40.eq_1) (And.intro (uR Tryd.prog c8_41.eq_1) (And.intro (uC Tryd.prog c8_42.eq_1) (And.intro (uC Tryd.prog c8_43.eq_1) (And.intro (uC Tryd.prog c8_44.eq_1) (And.intro (uC Tryd.prog c8_45.eq_1) (And.intro (uC Tryd.prog c8_46.eq_1) (And.intro (uR Tryd.prog c8_47.eq_1) (And.intro (uR Tryd.prog c8_48.eq_1) (And.intro (uC Tryd.prog c8_49.eq_1) (And.intro (uC Tryd.prog c8_50.eq_1) (And.intro (uR Tryd.prog c8_51.eq_1) (And.intro (uR Tryd.prog c8_52.eq_1) (And.intro (uC Tryd.prog c8_53.eq_1) (And.intro (uC Tryd.prog c8_54.eq_1) (And.intro (uR Tryd.prog c8_55.eq_1) (And.intro (uR Tryd.prog c8_56.eq_1) (And.intro (uC Tryd.prog c8_57.eq_1) (And.intro (uC Tryd.prog c8_58.eq_1) (And.intro (uR Tryd.prog c8_59.eq_1) (And.intro (uR Tryd.prog c8_60.eq_1) (And.intro (uC Tryd.prog c8_61.eq_1) (And.intro (uC Tryd.prog c8_62.eq_1) (And.intro (uR Tryd.prog c8_63.eq_1) (And.intro (uR Tryd.prog c8_64.eq_1) (And.intro (uC Tryd.prog c8_65.eq_1) (And.intro (uC Tryd.prog c8_66.eq_1) (And.intro (uC Tryd.prog c8_67.eq_1) (And.intro (uC Tryd.prog c8_68.eq_1) (And.intro (uC Tryd.prog c8_69.eq_1) (And.intro (uC Tryd.prog c8_70.eq_1) (And.intro (uC Tryd.prog c8_71.eq_1) (And.intro (uC Tryd.prog c8_72.eq_1) (And.intro (uC Tryd.prog c8_73.eq_1) (And.intro (uC Tryd.prog c8_74.eq_1) (And.intro (uC Tryd.prog c8_75.eq_1) (And.intro (uC Tryd.prog c8_76.eq_1) (And.intro (uC Tryd.prog c8_77.eq_1) (And.intro (uC Tryd.prog c8_78.eq_1) (And.intro (uC Tryd.prog c8_79.eq_1) (And.intro (uR Tryd.prog c8_80.eq_1) (And.intro (uC Tryd.prog c8_81.eq_1) (And.intro (uC Tryd.prog c8_82.eq_1) (And.intro (uC Tryd.prog c8_83.eq_1) (And.intro (uC Tryd.prog c8_84.eq_1) (And.intro (uC Tryd.prog c8_85.eq_1) (And.intro (uR Tryd.prog c8_86.eq_1) (And.intro (uC Tryd.prog c8_87.eq_1) (And.intro (uC Tryd.prog c8_88.eq_1) (And.intro (uC Tryd.prog c8_89.eq_1) (And.intro (uC Tryd.prog c8_90.eq_1) (And.intro (uC Tryd.prog c8_91.eq_1) (uC Tryd.prog c8.eq_1)))))))))))))))))))))))))))))))))))))))))))))))))))))))))))))))))))))))))))))))))))))))))))))
def v8 : List RV := [.t 4]
theorem s8 : slimF Tryd.prog Tryd.f8 = some (c8.bare, v8) := by kernel_rfl
/-! 28 loop.example/g00066/spec.l1Max: parameters 2, live [0, 1], slots [0:a, 1:b, 2:a, 3:b] -/
def c28_0 : List SOper := [⟨some 4, .q (.mv (.c (.int .i64 0))), none⟩]
def c28_1 : List SOper := [⟨some 5, .q (.mv (.t 0)), none⟩, ⟨some 6, .q (.mv (.t 1)), none⟩, ⟨some 7, .q (.bin .gtr (.t 5) (.t 6)), none⟩]
def c28_2 : List SOper := [⟨some 8, .q (.mv (.t 0)), none⟩, ⟨some 4, .q (.mv (.t 8)), none⟩]
def c28_3 : SCode := .seq (.region c28_2 [4]) .ret
def c28_4 : SCode := .cond (.t 7) c28_3 .skip
def c28_5 : SCode := .seq (.region c28_1 [0, 1, 7]) c28_4
def c28_6 : List SOper := [⟨some 9, .q (.mv (.t 1)), none⟩, ⟨some 4, .q (.mv (.t 9)), none⟩]
def c28_7 : SCode := .seq (.region c28_6 [4]) .ret
def c28_8 : SCode := .seq c28_5 c28_7
def c28_9 : SCode := .seq (.region c28_0 [0, 1]) c28_8
def c28 : SCode := c28_9
theorem w28 : type_of% (And.intro (uR Tryd.prog c28_0.eq_1) (And.intro (uR Tryd.prog c28_1.eq_1) (And.intro (uR Tryd.prog c28_2.eq_1) (And.intro (uC Tryd.prog c28_3.eq_1) (And.intro (uC Tryd.prog c28_4.eq_1) (And.intro (uC Tryd.prog c28_5.eq_1) (And.intro (uR Tryd.prog c28_6.eq_1) (And.intro (uC Tryd.prog c28_7.eq_1) (And.intro (uC Tryd.prog c28_8.eq_1) (And.intro (uC Tryd.prog c28_9.eq_1) (uC Tryd.prog c28.eq_1))))))))))) := (And.intro (uR Tryd.prog c28_0.eq_1) (And.intro (uR Tryd.prog c28_1.eq_1) (And.intro (uR Tryd.prog c28_2.eq_1) (And.intro (uC Tryd.prog c28_3.eq_1) (And.intro (uC Tryd.prog c28_4.eq_1) (And.intro (uC Tryd.prog c28_5.eq_1) (And.intro (uR Tryd.prog c28_6.eq_1) (And.intro (uC Tryd.prog c28_7.eq_1) (And.intro (uC Tryd.prog c28_8.eq_1) (And.intro (uC Tryd.prog c28_9.eq_1) (uC Tryd.prog c28.eq_1)))))))))))
def v28 : List RV := [.t 4]
theorem s28 : slimF Tryd.prog Tryd.f28 = some (c28.bare, v28) := by kernel_rfl

theorem l1Max_ok (h : Heap) (a b : Int) : ACall Tryd.prog 28 [.int .i64 a, .int .i64 b] h fun r h' => h' = h ∧ r = .int .i64 (max a b) := by
  refine ACall.of Tryd.func28 s28 (of_decide_eq_true rfl) ?_
  simp (maxSteps := 4000000) (disch := omega) only [ah, am, Nat.reduceEqDiff, reduceCtorEq, Nat.reduceAdd, Nat.reduceLeDiff, Nat.reduceMul, Nat.reduceLT, if_true, if_false, true_and, and_true, and_self, Nat.reduceBEq, QOp.loads, boxO, bslO, buildO, cutL, fillV, putL, w28, v28]
  refine stepI.split (fun hp => ?_) (fun hp => ?_)
  · simp (maxSteps := 4000000) (disch := omega) only [ah, am, Nat.reduceEqDiff, reduceCtorEq, Nat.reduceAdd, Nat.reduceLeDiff, Nat.reduceMul, Nat.reduceLT, if_true, if_false, true_and, and_true, and_self, Nat.reduceBEq, QOp.loads, boxO, bslO, buildO, cutL, fillV, putL, w28, v28]
    rw [Int.max_def]; split <;> first | rfl | (congr 1; omega)
  · simp (maxSteps := 4000000) (disch := omega) only [ah, am, Nat.reduceEqDiff, reduceCtorEq, Nat.reduceAdd, Nat.reduceLeDiff, Nat.reduceMul, Nat.reduceLT, if_true, if_false, true_and, and_true, and_self, Nat.reduceBEq, QOp.loads, boxO, bslO, buildO, cutL, fillV, putL, w28, v28]
    rw [Int.max_def]; split <;> first | rfl | (congr 1; omega)
theorem scan_bd (L : List UInt8) : (L.foldl scan ⟨0, 1, 0, 0⟩).sg ≤ L.length ∧ (L.foldl scan ⟨0, 1, 0, 0⟩).rw ≤ L.length + 1 ∧ (L.foldl scan ⟨0, 1, 0, 0⟩).ro ≤ L.length := by
  have key : ∀ (L : List UInt8) (st : Scan), (L.foldl scan st).sg ≤ st.sg + L.length ∧ (L.foldl scan st).rw ≤ st.rw + L.length ∧ (L.foldl scan st).ro ≤ st.ro + L.length := by
    intro L
    induction L with
    | nil => intro st; simp
    | cons b t ih =>
      intro st
      rw [List.foldl_cons, List.length_cons]
      have := ih (scan st b)
      have : (scan st b).sg ≤ st.sg + 1 ∧ (scan st b).rw ≤ st.rw + 1 ∧ (scan st b).ro ≤ st.ro + 1 := by
        unfold scan; split
        · simp
        · split <;> simp
      omega
  have := key L ⟨0, 1, 0, 0⟩
  simp only at this
  omega
/-- One more thing found, or not. -/
theorem found {H2 K : Heap} {w : Value} {l : List Title} {s : Style} {i : Nat} {B : List (Nat × List Value)} (j : Nat) (hj : j < 5) (hi : i < l.length) (hl : l.length ≤ 200)
    (F : Fk [] H2 K encWorry 2 w (unreadL l s i ++ worL i ((worriesF s l i).take j)) B) :
    ((worriesF s l i)[j]'hj = true → ∃ w' K', appV (K.more [[.int .i64 (i : Int), .int .i64 ((j : Int) + 1)]]) 16 2 w (.slice (some ⟨K.size, 0, none⟩) 1 2) = some (w', K') ∧
      Fk [] H2 K' encWorry 2 w' (unreadL l s i ++ worL i ((worriesF s l i).take (j + 1))) B) ∧
    ((worriesF s l i)[j]'hj = false → Fk [] H2 K encWorry 2 w (unreadL l s i ++ worL i ((worriesF s l i).take (j + 1))) B) := by
  have et := worL_take i (worriesF s l i) (k := j) hj
  constructor
  · intro cb
    rw [if_pos cb] at et
    have hlen : (unreadL l s i ++ worL i ((worriesF s l i).take j)).length ≤ 1005 := by
      rw [List.length_append]
      have q1 := unread_len l s i
      have q2 := worL_len i ((worriesF s l i).take j)
      rw [List.length_take] at q2
      omega
    obtain ⟨w2, H3, ap, F2⟩ := F.app1 [] (⟨i, (j : Int) + 1⟩ : Worry) (bytes := 16) (by omega)
    simp only [List.nil_append, List.length_nil, Nat.add_zero, encWorry, boxesAt, List.append_nil] at ap F2
    exact ⟨w2, H3, ap, by rw [et, ← List.append_assoc]; exact F2⟩
  · intro cb
    rw [if_neg (by rw [cb]; decide), List.append_nil] at et
    rw [et]; exact F
theorem specUnread_ok (h : Heap) (v : Value) (l : List Title) (s : Style) (hs : SlT h encTitle 3 v l) (hl : l.length ≤ 281474976710656) (hn : ∀ t ∈ l, t.tx.size ≤ 9223372036854775807) :
    ACall Tryd.prog 8 [v, .agg (encStyle s).toArray] h fun r h' => Fresh h h' encWorry 2 r (unreadF l s) := by
  have eS := Ext.more h [[.int .i64 s.least, .int .i64 s.gap, .int .i64 s.rate, .int .i64 s.rows, .int .i64 s.wide]]
  have B0 := Bx.new h [.int .i64 s.least, .int .i64 s.gap, .int .i64 s.rate, .int .i64 s.rows, .int .i64 s.wide] [[]]
  have F0 : Fresh (h.more [[.int .i64 s.least, .int .i64 s.gap, .int .i64 s.rate, .int .i64 s.rows, .int .i64 s.wide]]) (h.more [[.int .i64 s.least, .int .i64 s.gap, .int .i64 s.rate, .int .i64 s.rows, .int .i64 s.wide], []]) encWorry 2 (.slice (some ⟨h.size + 1, 0, none⟩) 0 2) [] := by
    have := Fresh.new0 (h.more [[.int .i64 s.least, .int .i64 s.gap, .int .i64 s.rate, .int .i64 s.rows, .int .i64 s.wide]]) encWorry_len (by omega)
    rw [more_more, size_more] at this; exact this
  have eM := eS.trans F0.1
  refine ACall.of Tryd.func8 s8 (of_decide_eq_true rfl) ?_
  simp (maxSteps := 4000000) (disch := omega) only [ah, am, Nat.reduceEqDiff, reduceCtorEq, Nat.reduceAdd, Nat.reduceLeDiff, Nat.reduceMul, Nat.reduceLT, if_true, if_false, true_and, and_true, and_self, Nat.reduceBEq, QOp.loads, boxO, bslO, buildO, cutL, fillV, putL, w8, v8, encStyle]
  refine stepC.of (specTitlesOk_ok _ v l (hs.ext eM) hl hn) ?_
  rintro _ H1 ⟨e1, rfl⟩
  have D1 := (B0.ext e1).ld
  by_cases c1 : titlesOk l
  rotate_left
  · simp (maxSteps := 4000000) (disch := omega) only [ah, am, Nat.reduceEqDiff, reduceCtorEq, Nat.reduceAdd, Nat.reduceLeDiff, Nat.reduceMul, Nat.reduceLT, if_true, if_false, true_and, and_true, and_self, Nat.reduceBEq, QOp.loads, boxO, bslO, buildO, cutL, fillV, putL, w8, v8, decide_eq_false c1]
    rw [show unreadF l s = [] from if_neg fun q => c1 q.1]
    exact (F0.ext e1).mono eS
  have sk := l12Style_ok H1 s
  simp only [encStyle] at sk
  simp (maxSteps := 4000000) (disch := omega) only [ah, am, Nat.reduceEqDiff, reduceCtorEq, Nat.reduceAdd, Nat.reduceLeDiff, Nat.reduceMul, Nat.reduceLT, if_true, if_false, true_and, and_true, and_self, Nat.reduceBEq, QOp.loads, boxO, bslO, buildO, cutL, fillV, putL, w8, v8, decide_eq_true c1, D1]
  refine stepC.of sk ?_
  rintro _ H2 ⟨e2, rfl⟩
  have B2 := (B0.ext e1).ext e2
  by_cases c2 : styleOk s
  rotate_left
  · simp (maxSteps := 4000000) (disch := omega) only [ah, am, Nat.reduceEqDiff, reduceCtorEq, Nat.reduceAdd, Nat.reduceLeDiff, Nat.reduceMul, Nat.reduceLT, if_true, if_false, true_and, and_true, and_self, Nat.reduceBEq, QOp.loads, boxO, bslO, buildO, cutL, fillV, putL, w8, v8, decide_eq_false c2]
    rw [show unreadF l s = [] from if_neg fun q => c2 q.2]
    exact ((F0.ext e1).ext e2).mono eS
  have hu : unreadF l s = unreadL l s l.length := if_pos ⟨c1, c2⟩
  have F2 := (F0.ext e1).ext e2
  simp (maxSteps := 4000000) (disch := omega) only [ah, am, Nat.reduceEqDiff, reduceCtorEq, Nat.reduceAdd, Nat.reduceLeDiff, Nat.reduceMul, Nat.reduceLT, if_true, if_false, true_and, and_true, and_self, Nat.reduceBEq, QOp.loads, boxO, bslO, buildO, cutL, fillV, putL, w8, v8, decide_eq_true c2]
  have Bb := Bx.new h [.int .i64 s.least, .int .i64 s.gap, .int .i64 s.rate, .int .i64 s.rows, .int .i64 s.wide] []
  refine SW_loop_up (fun i E K => ∃ w, Fk [] (h.more [[.int .i64 s.least, .int .i64 s.gap, .int .i64 s.rate, .int .i64 s.rows, .int .i64 s.wide]]) K encWorry 2 w (unreadL l s i) [] ∧ E = [(0, v), (3, .pointer (some ⟨h.size, 0, none⟩)), (5, w), (6, .int .i64 (i : Int))]) l.length 0 (by omega) ⟨_, Fk.of F2, rfl⟩ ?_
  rintro i E K hi ⟨w, F, rfl⟩
  obtain ⟨hl200, hT⟩ := c1
  have W : IntKind.i64.wrap ((i : Int) + 1) = ((i + 1 : Nat) : Int) := i64e (by omega) (by omega)
  have R := (hs.ext (eS.trans F.ext.ext)).rulesN
  simp (maxSteps := 4000000) (disch := omega) only [ah, am, Nat.reduceEqDiff, reduceCtorEq, Nat.reduceAdd, Nat.reduceLeDiff, Nat.reduceMul, Nat.reduceLT, if_true, if_false, true_and, and_true, and_self, Nat.reduceBEq, QOp.loads, boxO, bslO, buildO, cutL, fillV, putL, w8, v8, R.1]
  refine stepI.split (fun hp => ?_) (fun hp => ?_)
  rotate_left
  · simp (maxSteps := 4000000) (disch := omega) only [ah, am, Nat.reduceEqDiff, reduceCtorEq, Nat.reduceAdd, Nat.reduceLeDiff, Nat.reduceMul, Nat.reduceLT, if_true, if_false, true_and, and_true, and_self, Nat.reduceBEq, QOp.loads, boxO, bslO, buildO, cutL, fillV, putL, w8, v8]
    rw [hu, show l.length = i from by omega]
    exact F.fresh.mono eS
  have hi2 : i < l.length := by omega
  obtain ⟨x, hx⟩ : ∃ x, x = l[i]'hi2 := ⟨_, rfl⟩
  have X : tAt l i = l[i] := tAt_eq hi2
  obtain ⟨t1, t2, t3⟩ := hT i hi2
  obtain ⟨s1, s2, s3, s4, s5⟩ := c2
  rw [X, ← hx] at t1 t2 t3
  unfold timeOk at t1
  have hsz : x.tx.size ≤ 200 := t2.1.2
  have LN : ldnV K 3 (ptrAt v (i * 3)) = some (.agg (encTitle x).toArray) := by rw [hx]; exact R.2.2.2.2.2 i hi2
  have wl : IntKind.i64.wrap (x.to - x.fr) = x.to - x.fr := i64e (by omega) (by omega)
  have FM := F.more [[.int .i64 x.fr, .int .i64 x.to, .string x.tx]]
  simp only [boxesAt, List.nil_append] at FM
  simp (maxSteps := 4000000) (disch := omega) only [ah, am, Nat.reduceEqDiff, reduceCtorEq, Nat.reduceAdd, Nat.reduceLeDiff, Nat.reduceMul, Nat.reduceLT, if_true, if_false, true_and, and_true, and_self, Nat.reduceBEq, QOp.loads, boxO, bslO, buildO, cutL, fillV, putL, w8, v8, R.2.1, LN, encTitle, wl]
  obtain ⟨K1, hK1⟩ : ∃ K1, K1 = K.more [[.int .i64 x.fr, .int .i64 x.to, .string x.tx]] := ⟨_, rfl⟩
  rw [← hK1] at FM ⊢
  have DT := FM.ld (i := K.size) (cs := [.int .i64 x.fr, .int .i64 x.to, .string x.tx]) (by simp)
  obtain ⟨L, hL⟩ : ∃ L, L = x.tx.data.toList := ⟨_, rfl⟩
  have hLl : L.length = x.tx.size := by rw [hL, size_list]
  refine SW_loop_up (fun k E K' => K' = K1 ∧ E = [(0, v), (3, .pointer (some ⟨h.size, 0, none⟩)), (5, w), (6, .int .i64 (i : Int)), (7, .pointer (some ⟨K.size, 0, none⟩)), (8, .int .i64 (i : Int)), (9, .int .i64 (x.to - x.fr)),
      (10, .int .i64 ((((L.take k).foldl scan ⟨0, 1, 0, 0⟩).sg : Nat) : Int)), (11, .int .i64 ((((L.take k).foldl scan ⟨0, 1, 0, 0⟩).rw : Nat) : Int)), (12, .int .i64 ((((L.take k).foldl scan ⟨0, 1, 0, 0⟩).ro : Nat) : Int)), (13, .int .i64 ((((L.take k).foldl scan ⟨0, 1, 0, 0⟩).wd : Nat) : Int)),
      (14, .int .i64 (k : Int))]) x.tx.size 0 (by omega) ⟨rfl, rfl⟩ ?_
  rintro k E K' hk ⟨rfl, rfl⟩
  have Wk : IntKind.i64.wrap ((k : Int) + 1) = ((k + 1 : Nat) : Int) := i64e (by omega) (by omega)
  simp (maxSteps := 4000000) (disch := omega) only [ah, am, Nat.reduceEqDiff, reduceCtorEq, Nat.reduceAdd, Nat.reduceLeDiff, Nat.reduceMul, Nat.reduceLT, if_true, if_false, true_and, and_true, and_self, Nat.reduceBEq, QOp.loads, boxO, bslO, buildO, cutL, fillV, putL, w8, v8, DT]
  refine stepI.split (fun hp => ?_) (fun hp => ?_)
  · have hk2 : k < L.length := by omega
    have IV := ivs_at x.tx .i64 k (by omega)
    have BT : bt x.tx k = (L[k].toNat : Int) := by subst hL; exact bt_at x.tx hk2
    rw [BT] at IV
    obtain ⟨b1, b2, b3⟩ := scan_bd (L.take k)
    have hlt : (L.take k).length = k := by rw [List.length_take]; omega
    rw [hlt] at b1 b2 b3
    have ef : (L.take (k + 1)).foldl scan ⟨0, 1, 0, 0⟩ = scan ((L.take k).foldl scan ⟨0, 1, 0, 0⟩) L[k] := by
      rw [List.take_succ_eq_append_getElem hk2, List.foldl_append]; rfl
    rw [ef]
    generalize (L.take k).foldl scan ⟨0, 1, 0, 0⟩ = st at *
    have w1 : IntKind.i64.wrap ((st.sg : Int) + 1) = ((st.sg + 1 : Nat) : Int) := i64e (by omega) (by omega)
    have w2 : IntKind.i64.wrap ((st.rw : Int) + 1) = ((st.rw + 1 : Nat) : Int) := i64e (by omega) (by omega)
    have w3 : IntKind.i64.wrap ((st.ro : Int) + 1) = ((st.ro + 1 : Nat) : Int) := i64e (by omega) (by omega)
    by_cases g1 : (L[k].toNat : Int) = 10
    · simp (maxSteps := 4000000) (disch := omega) only [ah, am, Nat.reduceEqDiff, reduceCtorEq, Nat.reduceAdd, Nat.reduceLeDiff, Nat.reduceMul, Nat.reduceLT, if_true, if_false, true_and, and_true, and_self, Nat.reduceBEq, QOp.loads, boxO, bslO, buildO, cutL, fillV, putL, w8, v8, DT, IV, decide_eq_true g1, w2, Wk]
      refine ⟨by omega, ?_⟩
      rw [show scan st L[k] = ⟨st.sg, st.rw + 1, 0, st.wd⟩ from if_pos g1]; rfl
    have es : ∀ b, sgb L[k] = b → (if b = true then scan st L[k] = ⟨st.sg + 1, st.rw, st.ro + 1, max st.wd (st.ro + 1)⟩ else scan st L[k] = st) := by
      rintro b rfl
      unfold scan; rw [if_neg g1]; split <;> rfl
    have sg : sgb L[k] = (decide ((L[k].toNat : Int) < 128) || decide ((191 : Int) < (L[k].toNat : Int))) := by unfold sgb; rw [decide_eq_false g1]; rfl
    have HM : ((max st.wd (st.ro + 1) : Nat) : Int) = max (st.wd : Int) ((st.ro + 1 : Nat) : Int) := by omega
    by_cases g2 : (L[k].toNat : Int) < 128
    · rw [es true (by rw [sg, decide_eq_true g2]; rfl)]
      simp (maxSteps := 4000000) (disch := omega) only [ah, am, Nat.reduceEqDiff, reduceCtorEq, Nat.reduceAdd, Nat.reduceLeDiff, Nat.reduceMul, Nat.reduceLT, if_true, if_false, true_and, and_true, and_self, Nat.reduceBEq, QOp.loads, boxO, bslO, buildO, cutL, fillV, putL, w8, v8, DT, IV, decide_eq_false g1, decide_eq_true g2, w1, w3]
      refine stepC.of (l1Max_ok _ _ _) ?_
      rintro _ _ ⟨rfl, rfl⟩
      simp (maxSteps := 4000000) (disch := omega) only [ah, am, Nat.reduceEqDiff, reduceCtorEq, Nat.reduceAdd, Nat.reduceLeDiff, Nat.reduceMul, Nat.reduceLT, if_true, if_false, true_and, and_true, and_self, Nat.reduceBEq, QOp.loads, boxO, bslO, buildO, cutL, fillV, putL, w8, v8, Wk]
      exact ⟨by omega, by rw [HM]⟩
    by_cases g3 : (191 : Int) < (L[k].toNat : Int)
    · rw [es true (by rw [sg, decide_eq_true g3, Bool.or_true])]
      simp (maxSteps := 4000000) (disch := omega) only [ah, am, Nat.reduceEqDiff, reduceCtorEq, Nat.reduceAdd, Nat.reduceLeDiff, Nat.reduceMul, Nat.reduceLT, if_true, if_false, true_and, and_true, and_self, Nat.reduceBEq, QOp.loads, boxO, bslO, buildO, cutL, fillV, putL, w8, v8, DT, IV, decide_eq_false g1, decide_eq_false g2, decide_eq_true g3, w1, w3]
      refine stepC.of (l1Max_ok _ _ _) ?_
      rintro _ _ ⟨rfl, rfl⟩
      simp (maxSteps := 4000000) (disch := omega) only [ah, am, Nat.reduceEqDiff, reduceCtorEq, Nat.reduceAdd, Nat.reduceLeDiff, Nat.reduceMul, Nat.reduceLT, if_true, if_false, true_and, and_true, and_self, Nat.reduceBEq, QOp.loads, boxO, bslO, buildO, cutL, fillV, putL, w8, v8, Wk]
      exact ⟨by omega, by rw [HM]⟩
    · rw [es false (by rw [sg, decide_eq_false g2, decide_eq_false g3]; rfl)]
      simp (maxSteps := 4000000) (disch := omega) only [ah, am, Nat.reduceEqDiff, reduceCtorEq, Nat.reduceAdd, Nat.reduceLeDiff, Nat.reduceMul, Nat.reduceLT, if_true, if_false, true_and, and_true, and_self, Nat.reduceBEq, QOp.loads, boxO, bslO, buildO, cutL, fillV, putL, w8, v8, DT, IV, decide_eq_false g1, decide_eq_false g2, decide_eq_false g3, Wk]
      omega
  have hkk : k = x.tx.size := by omega
  subst hkk
  rw [← hLl, List.take_length]
  have SC := scan_all L s.wide (by omega)
  generalize L.foldl scan ⟨0, 1, 0, 0⟩ = st at *
  obtain ⟨q1, q2, q3⟩ := SC
  have DS := (Bb.ext FM.ext.ext).ld
  have hbs : worriesF s l i = [decide (x.to - x.fr < s.least), decide ((0 : Int) < (i : Int)) && decide (x.fr - (tAt l (i - 1)).to < s.gap), decide (s.rate * (x.to - x.fr) < ((st.sg : Nat) : Int) * 1000), decide (s.rows < ((st.rw : Nat) : Int)), decide (s.wide < ((st.wd : Nat) : Int))] := by
    unfold worriesF; rw [q1, q2, q3, X, ← hx, hL]
  have wm : IntKind.i64.wrap (s.rate * (x.to - x.fr)) = s.rate * (x.to - x.fr) := by
    have p1 : 0 ≤ s.rate * (x.to - x.fr) := Int.mul_nonneg (by omega) (by omega)
    have p2 : s.rate * (x.to - x.fr) ≤ 359999999 * 359999999 := Int.mul_le_mul (by omega) (by omega) (by omega) (by omega)
    exact i64e (by omega) (by omega)
  have hsg := sgL_le L
  have ws : IntKind.i64.wrap (((st.sg : Nat) : Int) * 1000) = ((st.sg : Nat) : Int) * 1000 := i64e (by omega) (by omega)
  have g0 : (worriesF s l i)[0]'(show _ < 5 by decide) = decide (x.to - x.fr < s.least) := by simp only [hbs]; rfl
  have g1 : (worriesF s l i)[1]'(show _ < 5 by decide) = (decide ((0 : Int) < (i : Int)) && decide (x.fr - (tAt l (i - 1)).to < s.gap)) := by simp only [hbs]; rfl
  have g2 : (worriesF s l i)[2]'(show _ < 5 by decide) = decide (s.rate * (x.to - x.fr) < ((st.sg : Nat) : Int) * 1000) := by simp only [hbs]; rfl
  have g3 : (worriesF s l i)[3]'(show _ < 5 by decide) = decide (s.rows < ((st.rw : Nat) : Int)) := by simp only [hbs]; rfl
  have g4 : (worriesF s l i)[4]'(show _ < 5 by decide) = decide (s.wide < ((st.wd : Nat) : Int)) := by simp only [hbs]; rfl
  have FM : Fk [] (h.more [[.int .i64 s.least, .int .i64 s.gap, .int .i64 s.rate, .int .i64 s.rows, .int .i64 s.wide]]) K' encWorry 2 w (unreadL l s i ++ worL i ((worriesF s l i).take 0)) [(K.size, [.int .i64 x.fr, .int .i64 x.to, .string x.tx])] := by
    rw [show unreadL l s i ++ worL i ((worriesF s l i).take 0) = unreadL l s i from List.append_nil _]; exact FM
  simp (maxSteps := 4000000) (disch := omega) only [ah, am, Nat.reduceEqDiff, reduceCtorEq, Nat.reduceAdd, Nat.reduceLeDiff, Nat.reduceMul, Nat.reduceLT, if_true, if_false, true_and, and_true, and_self, Nat.reduceBEq, QOp.loads, boxO, bslO, buildO, cutL, fillV, putL, w8, v8, DS]
  refine SW_if (fun E K' => ∃ w, Fk [] (h.more [[.int .i64 s.least, .int .i64 s.gap, .int .i64 s.rate, .int .i64 s.rows, .int .i64 s.wide]]) K' encWorry 2 w (unreadL l s i ++ worL i ((worriesF s l i).take 1)) [(K.size, [.int .i64 x.fr, .int .i64 x.to, .string x.tx])] ∧ ∃ t, E = (0, v) :: (3, .pointer (some ⟨h.size, 0, none⟩)) :: (5, w) :: (6, .int .i64 (i : Int)) :: (7, .pointer (some ⟨K.size, 0, none⟩)) :: (8, .int .i64 (i : Int)) :: (9, .int .i64 (x.to - x.fr)) :: (10, .int .i64 ((st.sg : Nat) : Int)) :: (11, .int .i64 ((st.rw : Nat) : Int)) :: (13, .int .i64 ((st.wd : Nat) : Int)) :: t) (fun hb => ?_) (fun hb => ?_) ?_
  · obtain ⟨w2, K2, ap, F2⟩ := (found 0 (by omega) hi2 hl200 FM).1 (by rw [g0]; exact hb)
    simp only [show ((0 : Nat) : Int) + 1 = 1 from rfl] at ap
    simp (maxSteps := 4000000) (disch := omega) only [ah, am, Nat.reduceEqDiff, reduceCtorEq, Nat.reduceAdd, Nat.reduceLeDiff, Nat.reduceMul, Nat.reduceLT, if_true, if_false, true_and, and_true, and_self, Nat.reduceBEq, QOp.loads, boxO, bslO, buildO, cutL, fillV, putL, w8, v8, ap]
    exact ⟨w2, F2, _, rfl⟩
  · exact ⟨_, (found 0 (by omega) hi2 hl200 FM).2 (by rw [g0]; exact hb), _, rfl⟩
  clear FM DS DT
  rintro E K' ⟨w, FM, t, rfl⟩
  have DS := (Bb.ext FM.ext.ext).ld
  have DT := FM.ld (i := K.size) (cs := [.int .i64 x.fr, .int .i64 x.to, .string x.tx]) (by simp)
  have R1 := (hs.ext (eS.trans FM.ext.ext)).rulesN
  rw [thenQ_normal, c8_69.eq_1]
  refine SW_seq_to (fun E K' => ∃ w, Fk [] (h.more [[.int .i64 s.least, .int .i64 s.gap, .int .i64 s.rate, .int .i64 s.rows, .int .i64 s.wide]]) K' encWorry 2 w (unreadL l s i ++ worL i ((worriesF s l i).take 2)) [(K.size, [.int .i64 x.fr, .int .i64 x.to, .string x.tx])] ∧ ∃ t, E = (0, v) :: (3, .pointer (some ⟨h.size, 0, none⟩)) :: (5, w) :: (6, .int .i64 (i : Int)) :: (8, .int .i64 (i : Int)) :: (9, .int .i64 (x.to - x.fr)) :: (10, .int .i64 ((st.sg : Nat) : Int)) :: (11, .int .i64 ((st.rw : Nat) : Int)) :: (13, .int .i64 ((st.wd : Nat) : Int)) :: t) ?_ ?_
  · by_cases c3 : (0 : Int) < i
    · have hi3 : i - 1 < l.length := by omega
      have wi : IntKind.i64.wrap ((i : Int) - 1) = ((i - 1 : Nat) : Int) := i64e (by omega) (by omega)
      have LT : ldV K' (ptrAt v ((i - 1) * 3 + 1)) = some (.int .i64 (tAt l (i - 1)).to) := by rw [tAt_eq hi3]; exact R1.2.2.2.1 (i - 1) 1 hi3 (by omega)
      have AV := R1.2.1 .i64 (i - 1) hi3
      have FV := R1.2.2.1 1 ((i - 1) * 3) (by omega)
      have wg : IntKind.i64.wrap (x.fr - (tAt l (i - 1)).to) = x.fr - (tAt l (i - 1)).to := i64e (by have := t3 (by omega); omega) (by have := (hT (i - 1) hi3).1; unfold timeOk at this; omega)
      simp (maxSteps := 4000000) (disch := omega) only [ah, am, Nat.reduceEqDiff, reduceCtorEq, Nat.reduceAdd, Nat.reduceLeDiff, Nat.reduceMul, Nat.reduceLT, if_true, if_false, true_and, and_true, and_self, Nat.reduceBEq, QOp.loads, boxO, bslO, buildO, cutL, fillV, putL, w8, v8, DS, DT, decide_eq_true c3, wi, LT, AV, FV, wg]
      refine stepI.splitB (fun hb => ?_) (fun hb => ?_)
      · obtain ⟨w2, K2, ap, F2⟩ := (found 1 (by omega) hi2 hl200 FM).1 (by rw [g1, hb, decide_eq_true c3]; rfl)
        simp only [show ((1 : Nat) : Int) + 1 = 2 from rfl] at ap
        simp (maxSteps := 4000000) (disch := omega) only [ah, am, Nat.reduceEqDiff, reduceCtorEq, Nat.reduceAdd, Nat.reduceLeDiff, Nat.reduceMul, Nat.reduceLT, if_true, if_false, true_and, and_true, and_self, Nat.reduceBEq, QOp.loads, boxO, bslO, buildO, cutL, fillV, putL, w8, v8, ap]
        exact .inl ⟨w2, F2, _, rfl⟩
      · have F2 := (found 1 (by omega) hi2 hl200 FM).2 (by rw [g1, hb, Bool.and_false])
        simp (maxSteps := 4000000) (disch := omega) only [ah, am, Nat.reduceEqDiff, reduceCtorEq, Nat.reduceAdd, Nat.reduceLeDiff, Nat.reduceMul, Nat.reduceLT, if_true, if_false, true_and, and_true, and_self, Nat.reduceBEq, QOp.loads, boxO, bslO, buildO, cutL, fillV, putL, w8, v8]
        exact .inl ⟨_, F2, _, rfl⟩
    · have F2 := (found 1 (by omega) hi2 hl200 FM).2 (by rw [g1, decide_eq_false c3]; rfl)
      simp (maxSteps := 4000000) (disch := omega) only [ah, am, Nat.reduceEqDiff, reduceCtorEq, Nat.reduceAdd, Nat.reduceLeDiff, Nat.reduceMul, Nat.reduceLT, if_true, if_false, true_and, and_true, and_self, Nat.reduceBEq, QOp.loads, boxO, bslO, buildO, cutL, fillV, putL, w8, v8, decide_eq_false c3]
      exact .inl ⟨_, F2, _, rfl⟩
  clear FM DS DT
  rintro E K' ⟨w, FM, t, rfl⟩
  have DS := (Bb.ext FM.ext.ext).ld
  simp (maxSteps := 4000000) (disch := omega) only [ah, am, Nat.reduceEqDiff, reduceCtorEq, Nat.reduceAdd, Nat.reduceLeDiff, Nat.reduceMul, Nat.reduceLT, if_true, if_false, true_and, and_true, and_self, Nat.reduceBEq, QOp.loads, boxO, bslO, buildO, cutL, fillV, putL, w8, v8, DS, wm, ws]
  refine SW_if (fun E K' => ∃ w, Fk [] (h.more [[.int .i64 s.least, .int .i64 s.gap, .int .i64 s.rate, .int .i64 s.rows, .int .i64 s.wide]]) K' encWorry 2 w (unreadL l s i ++ worL i ((worriesF s l i).take 3)) [(K.size, [.int .i64 x.fr, .int .i64 x.to, .string x.tx])] ∧ ∃ t, E = (0, v) :: (3, .pointer (some ⟨h.size, 0, none⟩)) :: (5, w) :: (6, .int .i64 (i : Int)) :: (8, .int .i64 (i : Int)) :: (11, .int .i64 ((st.rw : Nat) : Int)) :: (13, .int .i64 ((st.wd : Nat) : Int)) :: t) (fun hb => ?_) (fun hb => ?_) ?_
  · obtain ⟨w2, K2, ap, F2⟩ := (found 2 (by omega) hi2 hl200 FM).1 (by rw [g2]; exact hb)
    simp only [show ((2 : Nat) : Int) + 1 = 3 from rfl] at ap
    simp (maxSteps := 4000000) (disch := omega) only [ah, am, Nat.reduceEqDiff, reduceCtorEq, Nat.reduceAdd, Nat.reduceLeDiff, Nat.reduceMul, Nat.reduceLT, if_true, if_false, true_and, and_true, and_self, Nat.reduceBEq, QOp.loads, boxO, bslO, buildO, cutL, fillV, putL, w8, v8, ap]
    exact ⟨w2, F2, _, rfl⟩
  · exact ⟨_, (found 2 (by omega) hi2 hl200 FM).2 (by rw [g2]; exact hb), _, rfl⟩
  clear FM DS
  rintro E K' ⟨w, FM, t, rfl⟩
  have DS := (Bb.ext FM.ext.ext).ld
  simp (maxSteps := 4000000) (disch := omega) only [ah, am, Nat.reduceEqDiff, reduceCtorEq, Nat.reduceAdd, Nat.reduceLeDiff, Nat.reduceMul, Nat.reduceLT, if_true, if_false, true_and, and_true, and_self, Nat.reduceBEq, QOp.loads, boxO, bslO, buildO, cutL, fillV, putL, w8, v8, DS]
  refine SW_if (fun E K' => ∃ w, Fk [] (h.more [[.int .i64 s.least, .int .i64 s.gap, .int .i64 s.rate, .int .i64 s.rows, .int .i64 s.wide]]) K' encWorry 2 w (unreadL l s i ++ worL i ((worriesF s l i).take 4)) [(K.size, [.int .i64 x.fr, .int .i64 x.to, .string x.tx])] ∧ ∃ t, E = (0, v) :: (3, .pointer (some ⟨h.size, 0, none⟩)) :: (5, w) :: (6, .int .i64 (i : Int)) :: (8, .int .i64 (i : Int)) :: (13, .int .i64 ((st.wd : Nat) : Int)) :: t) (fun hb => ?_) (fun hb => ?_) ?_
  · obtain ⟨w2, K2, ap, F2⟩ := (found 3 (by omega) hi2 hl200 FM).1 (by rw [g3]; exact hb)
    simp only [show ((3 : Nat) : Int) + 1 = 4 from rfl] at ap
    simp (maxSteps := 4000000) (disch := omega) only [ah, am, Nat.reduceEqDiff, reduceCtorEq, Nat.reduceAdd, Nat.reduceLeDiff, Nat.reduceMul, Nat.reduceLT, if_true, if_false, true_and, and_true, and_self, Nat.reduceBEq, QOp.loads, boxO, bslO, buildO, cutL, fillV, putL, w8, v8, ap]
    exact ⟨w2, F2, _, rfl⟩
  · exact ⟨_, (found 3 (by omega) hi2 hl200 FM).2 (by rw [g3]; exact hb), _, rfl⟩
  clear FM DS
  rintro E K' ⟨w, FM, t, rfl⟩
  have DS := (Bb.ext FM.ext.ext).ld
  simp (maxSteps := 4000000) (disch := omega) only [ah, am, Nat.reduceEqDiff, reduceCtorEq, Nat.reduceAdd, Nat.reduceLeDiff, Nat.reduceMul, Nat.reduceLT, if_true, if_false, true_and, and_true, and_self, Nat.reduceBEq, QOp.loads, boxO, bslO, buildO, cutL, fillV, putL, w8, v8, DS]
  refine SW_if (fun E K' => ∃ w, Fk [] (h.more [[.int .i64 s.least, .int .i64 s.gap, .int .i64 s.rate, .int .i64 s.rows, .int .i64 s.wide]]) K' encWorry 2 w (unreadL l s i ++ worL i ((worriesF s l i).take 5)) [(K.size, [.int .i64 x.fr, .int .i64 x.to, .string x.tx])] ∧ ∃ t, E = (0, v) :: (3, .pointer (some ⟨h.size, 0, none⟩)) :: (5, w) :: (6, .int .i64 (i : Int)) :: t) (fun hb => ?_) (fun hb => ?_) ?_
  · obtain ⟨w2, K2, ap, F2⟩ := (found 4 (by omega) hi2 hl200 FM).1 (by rw [g4]; exact hb)
    simp only [show ((4 : Nat) : Int) + 1 = 5 from rfl] at ap
    simp (maxSteps := 4000000) (disch := omega) only [ah, am, Nat.reduceEqDiff, reduceCtorEq, Nat.reduceAdd, Nat.reduceLeDiff, Nat.reduceMul, Nat.reduceLT, if_true, if_false, true_and, and_true, and_self, Nat.reduceBEq, QOp.loads, boxO, bslO, buildO, cutL, fillV, putL, w8, v8, ap]
    exact ⟨w2, F2, _, rfl⟩
  · exact ⟨_, (found 4 (by omega) hi2 hl200 FM).2 (by rw [g4]; exact hb), _, rfl⟩
  clear FM DS
  rintro E K' ⟨w, FM, t, rfl⟩
  have DS := (Bb.ext FM.ext.ext).ld
  simp (maxSteps := 4000000) (disch := omega) only [ah, am, Nat.reduceEqDiff, reduceCtorEq, Nat.reduceAdd, Nat.reduceLeDiff, Nat.reduceMul, Nat.reduceLT, if_true, if_false, true_and, and_true, and_self, Nat.reduceBEq, QOp.loads, boxO, bslO, buildO, cutL, fillV, putL, w8, v8, W]
  refine ⟨hi2, w, ?_, rfl⟩
  rw [unread_succ]
  have := FM.bare
  rw [show (worriesF s l i).take (4 + 1) = worriesF s l i from rfl] at this
  exact this
end Go.Proofs.YtgjppbmbpjomgaaDoor
