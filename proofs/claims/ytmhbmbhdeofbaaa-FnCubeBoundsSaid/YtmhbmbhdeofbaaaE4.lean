import Derived.Test.YtmhbmbhdeofbaaaE3
namespace Go.Proofs.Ytmhbmbhdeofbaaa
open Go Go.Ah
set_option linter.unusedSimpArgs false
set_option linter.unusedVariables false
set_option maxRecDepth 10000
set_option maxHeartbeats 4000000
/-! 10 loop.example/g00066/impl.Cube: parameters 3, live [0, 1, 2], slots [0:n, 1:table, 2:c, 3:n, 4:table, 5:c, 7:at, 8:rests, 9:order, 10:steps, 11:k, 12:v, 13:i, 14:rest, 15:sums, 16:left, 17:k, 18:next, 19:i, 20:x, 21:i] -/
def c10_0 : List SOper := [⟨some 5, .a (.box (.t 2)), none⟩, ⟨some 6, .a (.new [(.int .i64 0), (.int .i64 0), (.int .i64 0)]), none⟩]
def c10_1 : List SOper := [⟨some 22, .q (.mv (.t 0)), none⟩, ⟨some 23, .e (.call 25 [(.t 22), (.c (.int .i64 2)), (.c (.int .i64 9))]), none⟩, ⟨some 24, .q (.not (.t 23)), none⟩, ⟨some 25, .q (.mv (.t 24)), none⟩, ⟨some 26, .q (.mv (.t 1)), some (25, false)⟩, ⟨some 27, .q (.len (.t 26)), some (25, false)⟩, ⟨some 28, .q (.mv (.t 0)), some (25, false)⟩, ⟨some 29, .q (.mv (.t 0)), some (25, false)⟩, ⟨some 30, .q (.bin .mul (.t 28) (.t 29)), some (25, false)⟩, ⟨some 31, .q (.mv (.t 0)), some (25, false)⟩, ⟨some 32, .q (.bin .mul (.t 30) (.t 31)), some (25, false)⟩, ⟨some 33, .q (.bin .neq (.t 27) (.t 32)), some (25, false)⟩, ⟨some 34, .q (.pick (.t 25) (.c (.bool true)) (.t 33)), none⟩, ⟨some 35, .q (.mv (.t 34)), none⟩, ⟨some 36, .q (.ldn 3 (.t 5)), some (35, false)⟩, ⟨some 37, .e (.call 26 [(.t 36)]), some (35, false)⟩, ⟨some 38, .q (.not (.t 37)), some (35, false)⟩, ⟨some 39, .q (.pick (.t 35) (.c (.bool true)) (.t 38)), none⟩, ⟨some 40, .q (.mv (.t 39)), none⟩, ⟨some 41, .q (.mv (.t 1)), some (40, false)⟩, ⟨some 42, .e (.call 27 [(.t 41), (.f 28)]), some (40, false)⟩, ⟨some 43, .q (.pick (.t 40) (.c (.bool true)) (.t 42)), none⟩]
def c10_2 : List SOper := [⟨some 44, .q (.build [(.int .i64 0), (.int .i64 0), (.int .i64 0)] []), none⟩, ⟨none, .e (.st 3 (.t 6) (.t 44)), none⟩]
def c10_3 : SCode := .seq (.region c10_2 [6]) .ret
def c10_4 : SCode := .cond (.t 43) c10_3 .skip
def c10_5 : SCode := .seq (.region c10_1 [0, 1, 5, 6, 43]) c10_4
def c10_6 : List SOper := [⟨some 45, .q (.build [(.int .i64 0), (.int .i64 0), (.int .i64 0)] []), none⟩, ⟨some 46, .a (.bsl 3 1 [(.int .i64 0), (.int .i64 0), (.int .i64 0)] [(0, 1, (.c (.int .i64 0))), (1, 1, (.c (.int .i64 1))), (2, 1, (.c (.int .i64 2)))]), none⟩, ⟨some 8, .a (.new [(.int .i64 0), (.int .i64 0), (.int .i64 0)]), none⟩, ⟨some 7, .q (.mv (.c (.int .i64 0))), none⟩, ⟨none, .e (.st 3 (.t 8) (.t 45)), none⟩, ⟨some 9, .q (.mv (.t 46)), none⟩]
def c10_7 : List SOper := [⟨some 47, .q (.mv (.t 0)), none⟩, ⟨some 48, .q (.mv (.t 0)), none⟩, ⟨some 49, .q (.bin .mul (.t 47) (.t 48)), none⟩, ⟨some 50, .q (.mv (.t 0)), none⟩, ⟨some 51, .q (.build [(.int .i64 0), (.int .i64 0), (.int .i64 0)] [(0, 1, (.t 49)), (1, 1, (.t 50)), (2, 1, (.c (.int .i64 1)))]), none⟩, ⟨some 10, .a (.new [(.int .i64 0), (.int .i64 0), (.int .i64 0)]), none⟩, ⟨none, .e (.st 3 (.t 10) (.t 51)), none⟩]
def c10_8 : List SOper := [⟨some 52, .q (.ldn 3 (.t 5)), none⟩, ⟨some 53, .e (.call 29 [(.t 52)]), none⟩, ⟨some 54, .q (.mv (.c (.int .i64 0))), none⟩]
def c10_9 : List SOper := [⟨some 55, .q (.bin .lss (.t 54) (.c (.int .i64 3))), none⟩]
def c10_10 : SCode := .cond (.t 55) .skip (.exit 0)
def c10_11 : List SOper := [⟨some 56, .q (.mv (.t 54)), none⟩, ⟨some 57, .q (.iva 3 (.t 53) (.t 54)), none⟩, ⟨some 11, .q (.mv (.t 56)), none⟩, ⟨some 12, .q (.mv (.t 57)), none⟩]
def c10_12 : List SOper := [⟨some 59, .q (.mv (.t 12)), none⟩, ⟨some 60, .q (.mv (.t 0)), none⟩, ⟨some 61, .q (.bin .sub (.t 60) (.c (.int .i64 1))), none⟩, ⟨some 62, .e (.call 30 [(.t 59), (.t 61)]), none⟩, ⟨some 58, .q (.mv (.t 62)), none⟩, ⟨some 63, .q (.ext (.t 58) 0), none⟩, ⟨some 64, .q (.ext (.t 58) 1), none⟩, ⟨some 13, .q (.mv (.t 63)), none⟩, ⟨some 14, .q (.mv (.t 64)), none⟩]
def c10_13 : List SOper := [⟨some 65, .q (.mv (.t 11)), none⟩, ⟨some 66, .q (.mv (.t 7)), none⟩, ⟨some 67, .q (.mv (.t 13)), none⟩, ⟨some 68, .q (.mv (.t 11)), none⟩, ⟨some 69, .q (.iaa 3 1 (.t 10) (.t 68)), none⟩, ⟨some 70, .q (.ld (.t 69)), none⟩, ⟨some 71, .q (.bin .mul (.t 67) (.t 70)), none⟩, ⟨some 72, .q (.bin .add (.t 66) (.t 71)), none⟩, ⟨some 73, .q (.mv (.t 14)), none⟩, ⟨some 7, .q (.mv (.t 72)), none⟩, ⟨some 74, .q (.iaa 3 1 (.t 8) (.t 65)), none⟩, ⟨none, .e (.st 1 (.t 74) (.t 73)), none⟩]
def c10_14 : SCode := .seq (.region c10_12 [0, 1, 6, 7, 8, 9, 10, 11, 13, 14, 53, 54]) (.region c10_13 [0, 1, 6, 7, 8, 9, 10, 53, 54])
def c10_15 : SCode := .seq (.region c10_11 [0, 1, 6, 7, 8, 9, 10, 11, 12, 53, 54]) c10_14
def c10_16 : SCode := .block 1 c10_15
def c10_17 : List SOper := [⟨some 75, .q (.bin .add (.t 54) (.c (.int .i64 1))), none⟩, ⟨some 54, .q (.mv (.t 75)), none⟩]
def c10_18 : SCode := .seq c10_16 (.region c10_17 [0, 1, 6, 7, 8, 9, 10, 53, 54])
def c10_19 : SCode := .seq c10_10 c10_18
def c10_20 : SCode := .seq (.region c10_9 [0, 1, 6, 7, 8, 9, 10, 53, 54, 55]) c10_19
def c10_21 : SCode := .loop c10_20
def c10_22 : SCode := .block 0 c10_21
def c10_23 : SCode := .seq (.region c10_8 [0, 1, 6, 7, 8, 9, 10, 53, 54]) c10_22
def c10_24 : List SOper := [⟨some 76, .q (.mv (.t 9)), none⟩, ⟨some 77, .q (.mkf 32 [(.t 8)]), none⟩, ⟨some 78, .e (.call 31 [(.t 76), (.t 77)]), none⟩]
def c10_25 : List SOper := [⟨some 79, .q (.build [(.int .i64 0), (.int .i64 0), (.int .i64 0)] []), none⟩, ⟨some 15, .a (.new [(.int .i64 0), (.int .i64 0), (.int .i64 0)]), none⟩, ⟨none, .e (.st 3 (.t 15) (.t 79)), none⟩, ⟨some 16, .q (.mv (.c (.int .i64 65535))), none⟩]
def c10_26 : List SOper := [⟨some 80, .q (.mv (.t 9)), none⟩, ⟨some 81, .q (.len (.t 80)), none⟩, ⟨some 82, .q (.bin .add (.t 81) (.c (.int .i64 1))), none⟩, ⟨some 83, .q (.mv (.c (.int .i64 0))), none⟩]
def c10_27 : List SOper := [⟨some 84, .q (.bin .lss (.t 83) (.t 82)), none⟩]
def c10_28 : SCode := .cond (.t 84) .skip (.exit 2)
def c10_29 : List SOper := [⟨some 85, .q (.mv (.t 83)), none⟩, ⟨some 17, .q (.mv (.t 85)), none⟩]
def c10_30 : List SOper := [⟨some 18, .q (.mv (.c (.int .i64 0))), none⟩]
def c10_31 : List SOper := [⟨some 86, .q (.mv (.t 17)), none⟩, ⟨some 87, .q (.mv (.t 9)), none⟩, ⟨some 88, .q (.len (.t 87)), none⟩, ⟨some 89, .q (.bin .lss (.t 86) (.t 88)), none⟩]
def c10_32 : List SOper := [⟨some 90, .q (.mv (.t 9)), none⟩, ⟨some 91, .q (.mv (.t 17)), none⟩, ⟨some 92, .q (.ia 1 (.t 90) (.t 91)), none⟩, ⟨some 93, .q (.ld (.t 92)), none⟩, ⟨some 94, .q (.iaa 3 1 (.t 8) (.t 93)), none⟩, ⟨some 95, .q (.ld (.t 94)), none⟩, ⟨some 18, .q (.mv (.t 95)), none⟩]
def c10_33 : SCode := .cond (.t 89) (.region c10_32 [1, 6, 7, 8, 9, 10, 15, 16, 17, 18, 82, 83]) .skip
def c10_34 : SCode := .seq (.region c10_31 [1, 6, 7, 8, 9, 10, 15, 16, 17, 18, 82, 83, 89]) c10_33
def c10_35 : List SOper := [⟨some 96, .q (.mv (.t 1)), none⟩, ⟨some 97, .q (.mv (.t 7)), none⟩, ⟨some 98, .q (.ia 3 (.t 96) (.t 97)), none⟩, ⟨some 99, .q (.ldn 3 (.t 98)), none⟩, ⟨some 100, .e (.call 29 [(.t 99)]), none⟩, ⟨some 101, .q (.mv (.c (.int .i64 0))), none⟩]
def c10_36 : List SOper := [⟨some 102, .q (.bin .lss (.t 101) (.c (.int .i64 3))), none⟩]
def c10_37 : SCode := .cond (.t 102) .skip (.exit 4)
def c10_38 : List SOper := [⟨some 103, .q (.mv (.t 101)), none⟩, ⟨some 104, .q (.iva 3 (.t 100) (.t 101)), none⟩, ⟨some 19, .q (.mv (.t 103)), none⟩, ⟨some 20, .q (.mv (.t 104)), none⟩]
def c10_39 : List SOper := [⟨some 105, .q (.mv (.t 19)), none⟩, ⟨some 106, .q (.iaa 3 1 (.t 15) (.t 105)), none⟩, ⟨some 107, .q (.ld (.t 106)), none⟩, ⟨some 108, .q (.mv (.t 20)), none⟩, ⟨some 109, .q (.mv (.t 16)), none⟩, ⟨some 110, .q (.mv (.t 18)), none⟩, ⟨some 111, .q (.bin .sub (.t 109) (.t 110)), none⟩, ⟨some 112, .q (.bin .mul (.t 108) (.t 111)), none⟩, ⟨some 113, .q (.bin .add (.t 107) (.t 112)), none⟩, ⟨some 114, .q (.iaa 3 1 (.t 15) (.t 105)), none⟩, ⟨none, .e (.st 1 (.t 114) (.t 113)), none⟩]
def c10_40 : SCode := .seq (.region c10_38 [1, 6, 7, 8, 9, 10, 15, 16, 17, 18, 19, 20, 82, 83, 100, 101]) (.region c10_39 [1, 6, 7, 8, 9, 10, 15, 16, 17, 18, 82, 83, 100, 101])
def c10_41 : SCode := .block 5 c10_40
def c10_42 : List SOper := [⟨some 115, .q (.bin .add (.t 101) (.c (.int .i64 1))), none⟩, ⟨some 101, .q (.mv (.t 115)), none⟩]
def c10_43 : SCode := .seq c10_41 (.region c10_42 [1, 6, 7, 8, 9, 10, 15, 16, 17, 18, 82, 83, 100, 101])
def c10_44 : SCode := .seq c10_37 c10_43
def c10_45 : SCode := .seq (.region c10_36 [1, 6, 7, 8, 9, 10, 15, 16, 17, 18, 82, 83, 100, 101, 102]) c10_44
def c10_46 : SCode := .loop c10_45
def c10_47 : SCode := .block 4 c10_46
def c10_48 : SCode := .seq (.region c10_35 [1, 6, 7, 8, 9, 10, 15, 16, 17, 18, 82, 83, 100, 101]) c10_47
def c10_49 : List SOper := [⟨some 116, .q (.mv (.t 17)), none⟩, ⟨some 117, .q (.mv (.t 9)), none⟩, ⟨some 118, .q (.len (.t 117)), none⟩, ⟨some 119, .q (.bin .lss (.t 116) (.t 118)), none⟩]
def c10_50 : List SOper := [⟨some 120, .q (.mv (.t 7)), none⟩, ⟨some 121, .q (.mv (.t 9)), none⟩, ⟨some 122, .q (.mv (.t 17)), none⟩, ⟨some 123, .q (.ia 1 (.t 121) (.t 122)), none⟩, ⟨some 124, .q (.ld (.t 123)), none⟩, ⟨some 125, .q (.iaa 3 1 (.t 10) (.t 124)), none⟩, ⟨some 126, .q (.ld (.t 125)), none⟩, ⟨some 127, .q (.bin .add (.t 120) (.t 126)), none⟩, ⟨some 128, .q (.mv (.t 18)), none⟩, ⟨some 7, .q (.mv (.t 127)), none⟩, ⟨some 16, .q (.mv (.t 128)), none⟩]
def c10_51 : SCode := .cond (.t 119) (.region c10_50 [1, 6, 7, 8, 9, 10, 15, 16, 82, 83]) .skip
def c10_52 : SCode := .seq (.region c10_49 [1, 6, 7, 8, 9, 10, 15, 16, 17, 18, 82, 83, 119]) c10_51
def c10_53 : SCode := .seq c10_48 c10_52
def c10_54 : SCode := .seq c10_34 c10_53
def c10_55 : SCode := .seq (.region c10_30 [1, 6, 7, 8, 9, 10, 15, 16, 17, 18, 82, 83]) c10_54
def c10_56 : SCode := .seq (.region c10_29 [1, 6, 7, 8, 9, 10, 15, 16, 17, 82, 83]) c10_55
def c10_57 : SCode := .block 3 c10_56
def c10_58 : List SOper := [⟨some 129, .q (.bin .add (.t 83) (.c (.int .i64 1))), none⟩, ⟨some 83, .q (.mv (.t 129)), none⟩]
def c10_59 : SCode := .seq c10_57 (.region c10_58 [1, 6, 7, 8, 9, 10, 15, 16, 82, 83])
def c10_60 : SCode := .seq c10_28 c10_59
def c10_61 : SCode := .seq (.region c10_27 [1, 6, 7, 8, 9, 10, 15, 16, 82, 83, 84]) c10_60
def c10_62 : SCode := .loop c10_61
def c10_63 : SCode := .block 2 c10_62
def c10_64 : SCode := .seq (.region c10_26 [1, 6, 7, 8, 9, 10, 15, 16, 82, 83]) c10_63
def c10_65 : List SOper := [⟨some 130, .q (.mv (.c (.int .i64 0))), none⟩]
def c10_66 : List SOper := [⟨some 131, .q (.bin .lss (.t 130) (.c (.int .i64 3))), none⟩]
def c10_67 : SCode := .cond (.t 131) .skip (.exit 6)
def c10_68 : List SOper := [⟨some 132, .q (.mv (.t 130)), none⟩, ⟨some 21, .q (.mv (.t 132)), none⟩]
def c10_69 : List SOper := [⟨some 133, .q (.mv (.t 21)), none⟩, ⟨some 134, .q (.mv (.t 21)), none⟩, ⟨some 135, .q (.iaa 3 1 (.t 15) (.t 134)), none⟩, ⟨some 136, .q (.ld (.t 135)), none⟩, ⟨some 137, .e (.call 33 [(.t 136), (.c (.int .i64 65535))]), none⟩, ⟨some 138, .q (.iaa 3 1 (.t 15) (.t 133)), none⟩, ⟨none, .e (.st 1 (.t 138) (.t 137)), none⟩]
def c10_70 : SCode := .seq (.region c10_68 [6, 15, 21, 130]) (.region c10_69 [6, 15, 130])
def c10_71 : SCode := .block 7 c10_70
def c10_72 : List SOper := [⟨some 139, .q (.bin .add (.t 130) (.c (.int .i64 1))), none⟩, ⟨some 130, .q (.mv (.t 139)), none⟩]
def c10_73 : SCode := .seq c10_71 (.region c10_72 [6, 15, 130])
def c10_74 : SCode := .seq c10_67 c10_73
def c10_75 : SCode := .seq (.region c10_66 [6, 15, 130, 131]) c10_74
def c10_76 : SCode := .loop c10_75
def c10_77 : SCode := .block 6 c10_76
def c10_78 : SCode := .seq (.region c10_65 [6, 15, 130]) c10_77
def c10_79 : List SOper := [⟨some 140, .q (.ldn 3 (.t 15)), none⟩, ⟨some 141, .e (.call 34 [(.t 140)]), none⟩, ⟨none, .e (.st 3 (.t 6) (.t 141)), none⟩]
def c10_80 : SCode := .seq (.region c10_79 [6]) .ret
def c10_81 : SCode := .seq c10_78 c10_80
def c10_82 : SCode := .seq c10_64 c10_81
def c10_83 : SCode := .seq (.region c10_25 [1, 6, 7, 8, 9, 10, 15, 16]) c10_82
def c10_84 : SCode := .seq (.region c10_24 [1, 6, 7, 8, 9, 10]) c10_83
def c10_85 : SCode := .seq c10_23 c10_84
def c10_86 : SCode := .seq (.region c10_7 [0, 1, 5, 6, 7, 8, 9, 10]) c10_85
def c10_87 : SCode := .seq (.region c10_6 [0, 1, 5, 6, 7, 8, 9]) c10_86
def c10_88 : SCode := .seq c10_5 c10_87
def c10_89 : SCode := .seq (.region c10_0 [0, 1, 5, 6]) c10_88
def c10 : SCode := c10_89
theorem w10 : type_of% (And.intro (uR Try.prog c10_0.eq_1) (And.intro (uR Try.prog c10_1.eq_1) (And.intro (uR Try.prog c10_2.eq_1) (And.intro (uC Try.prog c10_3.eq_1) (And.intro (uC Try.prog c10_4.eq_1) (And.intro (uC Try.prog c10_5.eq_1) (And.intro (uR Try.prog c10_6.eq_1) (And.intro (uR Try.prog c10_7.eq_1) (And.intro (uR Try.prog c10_8.eq_1) (And.intro (uR Try.prog c10_9.eq_1) (And.intro (uC Try.prog c10_10.eq_1) (And.intro (uR Try.prog c10_11.eq_1) (And.intro (uR Try.prog c10_12.eq_1) (And.intro (uR Try.prog c10_13.eq_1) (And.intro (uC Try.prog c10_14.eq_1) (And.intro (uC Try.prog c10_15.eq_1) (And.intro (uC Try.prog c10_16.eq_1) (And.intro (uR Try.prog c10_17.eq_1) (And.intro (uC Try.prog c10_18.eq_1) (And.intro (uC Try.prog c10_19.eq_1) (And.intro (uC Try.prog c10_20.eq_1) (And.intro (uC Try.prog c10_21.eq_1) (And.intro (uC Try.prog c10_22.eq_1) (And.intro (uC Try.prog c10_23.eq_1) (And.intro (uR Try.prog c10_24.eq_1) (And.intro (uR Try.prog c10_25.eq_1) (And.intro (uR Try.prog c10_26.eq_1) (And.intro (uR Try.prog c10_27.eq_1) (And.intro (uC Try.prog c10_28.eq_1) (And.intro (uR Try.prog c10_29.eq_1) (And.intro (uR Try.prog c10_30.eq_1) (And.intro (uR Try.prog c10_31.eq_1) (And.intro (uR Try.prog c10_32.eq_1) (And.intro (uC Try.prog c10_33.eq_1) (And.intro (uC Try.prog c10_34.eq_1) (And.intro (uR Try.prog c10_35.eq_1) (And.intro (uR Try.prog c10_36.eq_1) (And.intro (uC Try.prog c10_37.eq_1) (And.intro (uR Try.prog c10_38.eq_1) (And.intro (uR Try.prog c10_39.eq_1) (And.intro (uC Try.prog c10_40.eq_1) (And.intro (uC Try.prog c10_41.eq_1) (And.intro (uR Try.prog c10_42.eq_1) (And.intro (uC Try.prog c10_43.eq_1) (And.intro (uC Try.prog c10_44.eq_1) (And.intro (uC Try.prog c10_45.eq_1) (And.intro (uC Try.prog c10_46.eq_1) (And.intro (uC Try.prog c10_47.eq_1) (And.intro (uC Try.prog c10_48.eq_1) (And.intro (uR Try.prog c10_49.eq_1) (And.intro (uR Try.prog c10_50.eq_1) (And.intro (uC Try.prog c10_51.eq_1) (And.intro (uC Try.prog c10_52.eq_1) (And.intro (uC Try.prog c10_53.eq_1) (And.intro (uC Try.prog c10_54.eq_1) (And.intro (uC Try.prog c10_55.eq_1) (And.intro (uC Try.prog c10_56.eq_1) (And.intro (uC Try.prog c10_57.eq_1) (And.intro (uR Try.prog c10_58.eq_1) (And.intro (uC Try.prog c10_59.eq_1) (And.intro (uC Try.prog c10_60.eq_1) (And.intro (uC Try.prog c10_61.eq_1) (And.intro (uC Try.prog c10_62.eq_1) (And.intro (uC Try.prog c10_63.eq_1) (And.intro (uC Try.prog c10_64.eq_1) (And.intro (uR Try.prog c10_65.eq_1) (And.intro (uR Try.prog c10_66.eq_1) (And.intro (uC Try.prog c10_67.eq_1) (And.intro (uR Try.prog c10_68.eq_1) (And.intro (uR Try.prog c10_69.eq_1) (And.intro (uC Try.prog c10_70.eq_1) (And.intro (uC Try.prog c10_71.eq_1) (And.intro (uR Try.prog c10_72.eq_1) (And.intro (uC Try.prog c10_73.eq_1) (And.intro (uC Try.prog c10_74.eq_1) (And.intro (uC Try.prog c10_75.eq_1) (And.intro (uC Try.prog c10_76.eq_1) (And.intro (uC Try.prog c10_77.eq_1) (And.intro (uC Try.prog c10_78.eq_1) (And.intro (uR Try.prog c10_79.eq_1) (And.intro (uC Try.prog c10_80.eq_1) (And.intro (uC Try.prog c10_81.eq_1) (And.intro (uC Try.prog c10_82.eq_1) (And.intro (uC Try.prog c10_83.eq_1) (And.intro (uC Try.prog c10_84.eq_1) (And.intro (uC Try.prog c10_85.eq_1) (And.intro (uC Try.prog c10_86.eq_1) (And.intro (uC Try.prog c10_87.eq_1) (And.intro (uC Try.prog c10_88.eq_1) (And.intro (uC Try.prog c10_89.eq_1) (uC Try.prog c10.eq_1))))))))))))))))))))))))))))))))))))))))))))))))))))))))))))))))))))))))))))))))))))))))))) := (And.intro (uR Try.prog c10_0.eq_1) (And.intro (uR Try.prog c10_1.eq_1) (And.intro (uR Try.prog c10_2.eq_1) (And.intro (uC Try.prog c10_3.eq_1) (And.intro (uC Try.prog c10_4.eq_1) (And.intro (uC Try.prog c10_5.eq_1) (And.intro (uR Try.prog c10_6.eq_1) (And.intro (uR Try.prog c10_7.eq_1) (And.intro (uR Try.prog c10_8.eq_1) (And.intro (uR Try.prog c10_9.eq_1) (And.intro (uC Try.prog c10_10.eq_1) (And.intro (uR Try.prog c10_11.eq_1) (And.intro (uR Try.prog c10_12.eq_1) (And.intro (uR Try.prog c10_13.eq_1) (And.intro (uC Try.prog c10_14.eq_1) (And.intro (uC Try.prog c10_15.eq_1) (And.intro (uC Try.prog c10_16.eq_1) (And.intro (uR Try.prog c10_17.eq_1) (And.intro (uC Try.prog c10_18.eq_1) (And.intro (uC Try.prog c10_19.eq_1) (And.intro (uC Try.prog c10_20.eq_1) (And.intro (uC Try.prog c10_21.eq_1) (And.intro (uC Try.prog c10_22.eq_1) (And.intro (uC Try.prog c10_23.eq_1) (And.intro (uR Try.prog c10_24.eq_1) (And.intro (uR Try.prog c10_25.eq_1) (And.intro (uR Try.prog c10_26.eq_1) (And.intro (uR Try.prog c10_27.eq_1) (And.intro (uC Try.prog c10_28.eq_1) (And.intro (uR Try.prog c10_29.eq_1) (And.intro (uR Try.prog c10_30.eq_1) (And.intro (uR Try.prog c10_31.eq_1) (And.intro (uR Try.prog c10_32.eq_1) (And.intro (uC Try.prog c10_33.eq_1) (And.intro (uC Try.prog c10_34.eq_1) (And.intro (uR Try.prog c10_35.eq_1) (And.intro (uR Try.prog c10_36.eq_1) (And.intro (uC Try.prog c10_37.eq_1) (And.intro (uR Try.prog c10_38.eq_1) (And.intro (uR Try.prog c10_39.eq_1) (And.intro (uC Try.prog c10_40.eq_1) (And.intro (uC Try.prog c10_41.eq_1) (And.intro (uR Try.prog c10_42.eq_1) (And.intro (uC Try.prog c10_43.eq_1) (And.intro (uC Try.prog c10_44.eq_1) (And.intro (uC Try.prog c10_45.eq_1) (And.intro (uC Try.prog c10_46.eq_1) (And.intro (uC Try.prog c10_47.eq_1) (And.intro (uC Try.prog c10_48.eq_1) (And.intro (uR Try.prog c10_49.eq_1) (And.intro (uR Try.prog c10_50.eq_1) (And.intro (uC Try.prog c10_51.eq_1) (And.intro (uC Try.prog c10_52.eq_1) (And.intro (uC Try.prog c10_53.eq_1) (And.intro (uC Try.prog c10_54.eq_1) (And.intro (uC Try.prog c10_55.eq_1) (And.intro (uC Try.prog c10_56.eq_1) (And.intro (uC Try.prog c10_57.eq_1) (And.intro (uR Try.prog c10_58.eq_1) (And.intro (uC Try.prog c10_59.eq_1) (And.intro (uC Try.prog c10_60.eq_1) (And.intro (uC Try.prog c10_61.eq_1) (And.intro (uC Try.prog c10_62.eq_1) (And.intro (uC Try.prog c10_63.eq_1) (And.intro (uC Try.prog c10_64.eq_1) (And.intro (uR Try.prog c10_65.eq_1) (And.intro (uR Try.prog c10_66.eq_1) (And.intro (uC Try.prog c10_67.eq_1) (And.intro (uR Try.prog c10_68.eq_1) (And.intro (uR Try.prog c10_69.eq_1) (And.intro (uC Try.prog c10_70.eq_1) (And.intro (uC Try.prog c10_71.eq_1) (And.intro (uR Try.prog c10_72.eq_1) (And.intro (uC Try.prog c10_73.eq_1) (And.intro (uC Try.prog c10_74.eq_1) (And.intro (uC Try.prog c10_75.eq_1) (And.intro (uC Try.prog c10_76.eq_1) (And.intro (uC Try.prog c10_77.eq_1) (And.intro (uC Try.prog c10_78.eq_1) (And.intro (uR Try.prog c10_79.eq_1) (And.intro (uC Try.prog c10_80.eq_1) (And.intro (uC Try.prog c10_81.eq_1) (And.intro (uC Try.prog c10_82.eq_1) (And.intro (uC Try.prog c10_83.eq_1) (And.intro (uC Try.prog c10_84.eq_1) (And.intro (uC Try.prog c10_85.eq_1) (And.intro (uC Try.prog c10_86.eq_1) (And.intro (uC Try.prog c10_87.eq_1) (And.intro (uC Try.prog c10_88.eq_1) (And.intro (uC Try.prog c10_89.eq_1) (uC Try.prog c10.eq_1)))))))))))))))))))))))))))))))))))))))))))))))))))))))))))))))))))))))))))))))))))))))))))
def v10 : List RV := [.c 6 (some 3)]
theorem s10 : slimF Try.prog Try.f10 = some (c10.bare, v10) := by kernel_rfl

theorem Fk_putM {α : Type} {X : List Nat} {h0 h : Heap} {enc : α → List Value} {sz : Nat} {v : Value} {l : List α} {B : List (Nat × List Value)} (F : Fk X h0 h enc sz v l B) {i : Nat} {cs : List Value} (hp : (i, cs) ∈ B) {o n : Nat} {y : Value} (hy : y.cells.size = n) (ho : o + n ≤ cs.length) (h1 : oneB y.cells.toList = true) :
    ∃ h2, stV h n (.pointer (some ⟨i, o, none⟩)) y = some h2 ∧ Fk X h0 h2 enc sz v l (B.map fun p => if p.1 = i then (i, splice cs o y.cells.toList) else p) ∧ ExtG i h h2 := by
  obtain ⟨h2, e, F2, G⟩ := F.put hp hy ho h1
  refine ⟨h2, e, F2.sub fun p hp => ?_, G⟩
  obtain ⟨q, hq, rfl⟩ := List.mem_map.mp hp
  split
  · exact List.mem_cons_self
  · rename_i hne
    exact List.mem_cons_of_mem _ (List.mem_filter.mpr ⟨hq, by simpa using hne⟩)
theorem Cube2_ok (h : Heap) (q : Nat) (r : List Int) (x y : Int) (hr : ∀ z : Int, 0 ≤ z ∧ z < 3 → ldV h (.pointer (some ⟨q, z.toNat, none⟩)) = some (.int .i64 (r.getD z.toNat 0))) (hb : ∀ z : Nat, 0 ≤ r.getD z 0 ∧ r.getD z 0 ≤ 65535) (hx : 0 ≤ x ∧ x < 3) (hy : 0 ≤ y ∧ y < 3) :
    ACall Try.prog 32 [.int .i64 x, .int .i64 y, .pointer (some ⟨q, 0, none⟩)] h fun r' h' => h' = h ∧ r' = .int .i64 (r.getD y.toNat 0 - r.getD x.toNat 0) := by
  refine ACall.of Try.func32 s32 (of_decide_eq_true rfl) ?_
  have a := hb x.toNat; have b := hb y.toNat
  have h1 := hr x hx; have h2 := hr y hy
  simp (maxSteps := 4000000) (disch := omega) only [ah, am, Nat.reduceEqDiff, reduceCtorEq, Nat.reduceAdd, Nat.reduceLeDiff, Nat.reduceMul, Nat.reduceLT, if_true, if_false, true_and, and_true, and_self, Nat.reduceBEq, QOp.loads, boxO, bslO, buildO, cutL, fillV, putL, w32, v32, Nat.mul_one, Nat.zero_add, h1, h2, i64w]
theorem Bx_own {α : Type} {K : Heap} {c : Nat} {cs : List Value} (b : Bx K c cs) {enc : α → List Value} {sz : Nat} (l : List α) (hs : ∀ x, (enc x).length = sz) (pos : 0 < sz) (hl : cs = l.flatMap enc) :
    OwnT c K enc sz (.slice (some ⟨c, 0, none⟩) l.length sz) l := by
  refine ⟨.inr ⟨c, 0, l.length, _, rfl, b, rfl, ?_, ?_, rfl, rfl⟩, hs, pos⟩
  · simp only; rw [hl, flat_len hs]; omega
  · simp only [List.drop_zero]; rw [hl, List.take_of_length_le]; rw [flat_len hs]; omega
def pV (c : Rgb) (i : Nat) : Int := ([c.r, c.g, c.b] : List Int).getD i 0
def atP (n : Int) (c : Rgb) : Nat → Int
  | 0 => 0
  | i + 1 => atP n c i + placeI (pV c i) (n - 1) * (stF n).getD i 0
def rsP (r : List Int) (i : Nat) : List Value := (r.take i).map (.int .i64) ++ List.replicate (3 - i) (.int .i64 0)
def smP (n : Int) (a r : List Int) (t : List Rgb) (k : Nat) : List Value := [.int .i64 (sumF n a r t (·.r) k), .int .i64 (sumF n a r t (·.g) k), .int .i64 (sumF n a r t (·.b) k)]
def svP (n : Int) (a r : List Int) (t : List Rgb) (k i : Nat) : Int := ([sumF n a r t (·.r) k, sumF n a r t (·.g) k, sumF n a r t (·.b) k] : List Int).getD i 0
def mxP (n : Int) (a r : List Int) (t : List Rgb) (k i : Nat) : List Value := (smP n a r t (k + 1)).take i ++ (smP n a r t k).drop i
def nrP (n : Int) (a r : List Int) (t : List Rgb) (i : Nat) : List Value := ([.int .i64 (near (sumF n a r t (·.r) 4) 65535), .int .i64 (near (sumF n a r t (·.g) 4) 65535), .int .i64 (near (sumF n a r t (·.b) 4) 65535)] : List Value).take i ++ (smP n a r t 4).drop i
theorem Cube_ok (h : Heap) (v : Value) (t : List Rgb) (n : Int) (c : Rgb) (s : SlT h encRgb 3 v t) (hl : t.length ≤ 1048576) (hn : -9223372036854775808 ≤ n ∧ n ≤ 9223372036854775807) :
    ACall Try.prog 10 [.int .i64 n, v, .agg (encRgb c).toArray] h fun r h' => Ext h h' ∧ r = .agg (encRgb (cubeF n t c)).toArray := by
  refine ACall.of Try.func10 s10 (of_decide_eq_true rfl) ?_
  have R := s.rulesN
  simp (maxSteps := 4000000) (disch := omega) only [ah, am, Nat.reduceEqDiff, reduceCtorEq, Nat.reduceAdd, Nat.reduceLeDiff, Nat.reduceMul, Nat.reduceLT, if_true, if_false, true_and, and_true, and_self, Nat.reduceBEq, QOp.loads, boxO, bslO, buildO, cutL, fillV, putL, w10, v10, encRgb]
  refine stepC.of (in_ok _ _ _ _) ?_
  rintro _ Hx ⟨hx, rfl⟩; rw [hx]; clear hx Hx
  have B6 : Bx (h.more [[.int .i64 c.r, .int .i64 c.g, .int .i64 c.b], [.int .i64 0, .int .i64 0, .int .i64 0]]) (h.size + 1) [.int .i64 0, .int .i64 0, .int .i64 0] := by unfold Bx; rw [get_more]; rfl
  have B5 : Bx (h.more [[.int .i64 c.r, .int .i64 c.g, .int .i64 c.b], [.int .i64 0, .int .i64 0, .int .i64 0]]) h.size [.int .i64 c.r, .int .i64 c.g, .int .i64 c.b] := Bx.new h _ _
  have E0 := Ext.more h [[.int .i64 c.r, .int .i64 c.g, .int .i64 c.b], [.int .i64 0, .int .i64 0, .int .i64 0]]
  generalize h.more [[.int .i64 c.r, .int .i64 c.g, .int .i64 c.b], [.int .i64 0, .int .i64 0, .int .i64 0]] = H0 at B6 B5 E0 ⊢
  -- nothing is told
  have none0 : ∀ {K : Heap}, Ext H0 K → ∃ K2, stV K 3 (.pointer (some ⟨h.size + 1, 0, none⟩)) (.agg #[.int .i64 0, .int .i64 0, .int .i64 0]) = some K2 ∧ Ext h K2 ∧ ldnV K2 3 (.pointer (some ⟨h.size + 1, 0, none⟩)) = some (.agg #[.int .i64 0, .int .i64 0, .int .i64 0]) := by
    intro K e
    obtain ⟨K2, es, b2, g⟩ := (B6.ext e).put (o := 0) (n := 3) (y := .agg #[.int .i64 0, .int .i64 0, .int .i64 0]) rfl (by simp) rfl
    refine ⟨K2, es, g.ext (E0.trans e) (by omega), ?_⟩
    have := b2.ld.2 0 3
    simpa [splice, cells_agg, cutL] using this
  have zz : ¬ cubeOk n t c → cubeF n t c = zRgb := fun q => if_neg q
  by_cases c1 : 2 ≤ n ∧ n ≤ 9
  rotate_left
  · obtain ⟨K2, es, e2, l2⟩ := none0 (Ext.refl H0)
    simp (maxSteps := 4000000) (disch := omega) only [ah, am, Nat.reduceEqDiff, reduceCtorEq, Nat.reduceAdd, Nat.reduceLeDiff, Nat.reduceMul, Nat.reduceLT, if_true, if_false, true_and, and_true, and_self, Nat.reduceBEq, QOp.loads, boxO, bslO, buildO, cutL, fillV, putL, w10, v10, decide_eq_false c1, Bool.not_false, es, l2]
    rw [zz fun q => c1 q.1]; exact ⟨e2, rfl⟩
  have hnn : 4 ≤ n * n ∧ n * n ≤ 81 := by
    have hn8 : n = 2 ∨ n = 3 ∨ n = 4 ∨ n = 5 ∨ n = 6 ∨ n = 7 ∨ n = 8 ∨ n = 9 := by omega
    rcases hn8 with rfl | rfl | rfl | rfl | rfl | rfl | rfl | rfl <;> decide
  have hnnn : 8 ≤ n * n * n ∧ n * n * n ≤ 729 := by
    have hn8 : n = 2 ∨ n = 3 ∨ n = 4 ∨ n = 5 ∨ n = 6 ∨ n = 7 ∨ n = 8 ∨ n = 9 := by omega
    rcases hn8 with rfl | rfl | rfl | rfl | rfl | rfl | rfl | rfl <;> decide
  have Wnn : IntKind.i64.wrap (n * n) = n * n := i64w (by omega)
  have Wnnn : IntKind.i64.wrap (n * n * n) = n * n * n := i64w (by omega)
  have R := (s.ext E0).rulesN
  by_cases c2 : (t.length : Int) = n * n * n
  rotate_left
  · obtain ⟨K2, es, e2, l2⟩ := none0 (Ext.refl H0)
    simp (maxSteps := 4000000) (disch := omega) only [ah, am, Nat.reduceEqDiff, reduceCtorEq, Nat.reduceAdd, Nat.reduceLeDiff, Nat.reduceMul, Nat.reduceLT, if_true, if_false, true_and, and_true, and_self, Nat.reduceBEq, QOp.loads, boxO, bslO, buildO, cutL, fillV, putL, w10, v10, decide_eq_true c1, Bool.not_true, R, Wnn, Wnnn, decide_eq_false c2, Bool.not_false, es, l2]
    rw [zz fun q => c2 q.2.1]; exact ⟨e2, rfl⟩
  have X5 := B5.ld
  simp (maxSteps := 4000000) (disch := omega) only [ah, am, Nat.reduceEqDiff, reduceCtorEq, Nat.reduceAdd, Nat.reduceLeDiff, Nat.reduceMul, Nat.reduceLT, if_true, if_false, true_and, and_true, and_self, Nat.reduceBEq, QOp.loads, boxO, bslO, buildO, cutL, fillV, putL, w10, v10, decide_eq_true c1, Bool.not_true, R, Wnn, Wnnn, decide_eq_true c2, X5]
  refine stepC.of (Rgbok_ok _ c) ?_
  rintro _ H1 ⟨e1, rfl⟩
  by_cases c3 : rgbOk c
  rotate_left
  · obtain ⟨K2, es, e2, l2⟩ := none0 e1
    simp (maxSteps := 4000000) (disch := omega) only [ah, am, Nat.reduceEqDiff, reduceCtorEq, Nat.reduceAdd, Nat.reduceLeDiff, Nat.reduceMul, Nat.reduceLT, if_true, if_false, true_and, and_true, and_self, Nat.reduceBEq, QOp.loads, boxO, bslO, buildO, cutL, fillV, putL, w10, v10, decide_eq_false c3, Bool.not_false, es, l2]
    rw [zz fun q => c3 q.2.2.1]; exact ⟨e2, rfl⟩
  simp (maxSteps := 4000000) (disch := omega) only [ah, am, Nat.reduceEqDiff, reduceCtorEq, Nat.reduceAdd, Nat.reduceLeDiff, Nat.reduceMul, Nat.reduceLT, if_true, if_false, true_and, and_true, and_self, Nat.reduceBEq, QOp.loads, boxO, bslO, buildO, cutL, fillV, putL, w10, v10, decide_eq_true c3, Bool.not_true]
  refine stepC.of (ContainsFuncR_ok _ v t 28 #[] (fun k => !decide (rgbOk k)) (s.ext (E0.trans e1)) (by omega) ⟨_, Try.func28, rfl, by decide⟩ (fun h' k _ _ => Cube1_ok h' k)) ?_
  rintro _ H2 ⟨e2, rfl⟩
  have E2 := e1.trans e2
  cases hany : t.any (fun k => !decide (rgbOk k)) with
  | true =>
    obtain ⟨K2, es, e2, l2⟩ := none0 E2
    simp (maxSteps := 4000000) (disch := omega) only [ah, am, Nat.reduceEqDiff, reduceCtorEq, Nat.reduceAdd, Nat.reduceLeDiff, Nat.reduceMul, Nat.reduceLT, if_true, if_false, true_and, and_true, and_self, Nat.reduceBEq, QOp.loads, boxO, bslO, buildO, cutL, fillV, putL, w10, v10, es, l2]
    rw [zz fun q => ?_]
    · exact ⟨e2, rfl⟩
    · rw [List.any_eq_true] at hany
      obtain ⟨x, hx, hb⟩ := hany
      rw [decide_eq_true (q.2.2.2 x hx)] at hb; cases hb
  | false =>
  have c4 : ∀ x ∈ t, rgbOk x := fun x hx => by
    rw [List.any_eq_false] at hany
    simpa using hany x hx
  rw [show cubeF n t c = cubeL n t c from if_pos ⟨c1, c2, c3, c4⟩]
  clear none0 zz
  obtain ⟨⟨u1, u2⟩, ⟨u3, u4⟩, ⟨u5, u6⟩⟩ := id c3
  have P0 := place_b (v := c.r) (n := n - 1) ⟨u1, u2⟩ (by omega)
  have P1 := place_b (v := c.g) (n := n - 1) ⟨u3, u4⟩ (by omega)
  have P2 := place_b (v := c.b) (n := n - 1) ⟨u5, u6⟩ (by omega)
  obtain ⟨a, ha⟩ : ∃ a, a = atF n c := ⟨_, rfl⟩
  obtain ⟨r, hr⟩ : ∃ r, r = restF n c := ⟨_, rfl⟩
  have hway : Way n a r := by
    rw [ha, hr]; exact way c1 (by omega) (by omega) (by omega) P0.2 P1.2 P2.2
  simp (maxSteps := 4000000) (disch := omega) only [ah, am, Nat.reduceEqDiff, reduceCtorEq, Nat.reduceAdd, Nat.reduceLeDiff, Nat.reduceMul, Nat.reduceLT, if_true, if_false, true_and, and_true, and_self, Nat.reduceBEq, QOp.loads, boxO, bslO, buildO, cutL, fillV, putL, w10, v10, Wnn]
  obtain ⟨q, hq⟩ : ∃ q, q = H2.size := ⟨_, rfl⟩
  have hq2 : h.size + 1 < q := by have := Heap.get_lt (B6.ext E2); omega
  have Bo : Bx (H2.more [[.int .i64 0, .int .i64 1, .int .i64 2], [.int .i64 0, .int .i64 0, .int .i64 0], [.int .i64 (n * n), .int .i64 n, .int .i64 1]]) q [.int .i64 0, .int .i64 1, .int .i64 2] := by rw [hq]; exact Bx.new _ _ _
  have Br : Bx (H2.more [[.int .i64 0, .int .i64 1, .int .i64 2], [.int .i64 0, .int .i64 0, .int .i64 0], [.int .i64 (n * n), .int .i64 n, .int .i64 1]]) (q + 1) [.int .i64 0, .int .i64 0, .int .i64 0] := by rw [hq]; unfold Bx; rw [get_more]; rfl
  have Bs : Bx (H2.more [[.int .i64 0, .int .i64 1, .int .i64 2], [.int .i64 0, .int .i64 0, .int .i64 0], [.int .i64 (n * n), .int .i64 n, .int .i64 1]]) (q + 2) [.int .i64 (n * n), .int .i64 n, .int .i64 1] := by rw [hq]; unfold Bx; rw [get_more]; rfl
  have E3 := E2.trans (Ext.more H2 [[.int .i64 0, .int .i64 1, .int .i64 2], [.int .i64 0, .int .i64 0, .int .i64 0], [.int .i64 (n * n), .int .i64 n, .int .i64 1]])
  rw [← hq]
  generalize H2.more [[.int .i64 0, .int .i64 1, .int .i64 2], [.int .i64 0, .int .i64 0, .int .i64 0], [.int .i64 (n * n), .int .i64 n, .int .i64 1]] = H3 at Bo Br Bs E3 ⊢
  have X5 := (B5.ext E3).ld
  simp (maxSteps := 4000000) (disch := omega) only [ah, am, Nat.reduceEqDiff, reduceCtorEq, Nat.reduceAdd, Nat.reduceLeDiff, Nat.reduceMul, Nat.reduceLT, if_true, if_false, true_and, and_true, and_self, Nat.reduceBEq, QOp.loads, boxO, bslO, buildO, cutL, fillV, putL, w10, v10, X5]
  refine stepC.of (parts_ok _ c) ?_
  rintro _ H4 ⟨e4, rfl⟩
  simp (maxSteps := 4000000) (disch := omega) only [ah, am, Nat.reduceEqDiff, reduceCtorEq, Nat.reduceAdd, Nat.reduceLeDiff, Nat.reduceMul, Nat.reduceLT, if_true, if_false, true_and, and_true, and_self, Nat.reduceBEq, QOp.loads, boxO, bslO, buildO, cutL, fillV, putL, w10, v10]
  have A0 : 0 ≤ placeI c.r (n - 1) * (n * n) ∧ placeI c.r (n - 1) * (n * n) ≤ 729 := by
    have hn8 : n = 2 ∨ n = 3 ∨ n = 4 ∨ n = 5 ∨ n = 6 ∨ n = 7 ∨ n = 8 ∨ n = 9 := by omega
    generalize placeI c.r (n - 1) = z at P0
    rcases hn8 with rfl | rfl | rfl | rfl | rfl | rfl | rfl | rfl <;> omega
  have A1 : 0 ≤ placeI c.g (n - 1) * n ∧ placeI c.g (n - 1) * n ≤ 81 := by
    have hn8 : n = 2 ∨ n = 3 ∨ n = 4 ∨ n = 5 ∨ n = 6 ∨ n = 7 ∨ n = 8 ∨ n = 9 := by omega
    generalize placeI c.g (n - 1) = z at P1
    rcases hn8 with rfl | rfl | rfl | rfl | rfl | rfl | rfl | rfl <;> omega
  have fact : ∀ i, i < 3 → (0 ≤ pV c i ∧ pV c i ≤ 65535) ∧ (0 ≤ atP n c i ∧ atP n c i ≤ 5000) ∧ (0 ≤ placeI (pV c i) (n - 1) * (stF n).getD i 0 ∧ placeI (pV c i) (n - 1) * (stF n).getD i 0 ≤ 5000) ∧
      (encRgb c)[i]? = some (.int .i64 (pV c i)) ∧ ([.int .i64 (n * n), .int .i64 n, .int .i64 1] : List Value)[i]? = some (.int .i64 ((stF n).getD i 0)) ∧
      splice (rsP r i) i [.int .i64 (placeR (pV c i) (n - 1))] = rsP r (i + 1) := by
    have h3 : ∀ i, i < 3 → i = 0 ∨ i = 1 ∨ i = 2 := by omega
    intro i hi
    rw [hr]
    rcases h3 i hi with rfl | rfl | rfl
    · exact ⟨⟨u1, u2⟩, ⟨by simp [atP], by simp [atP]⟩, by simp only [pV, stF, List.getD, List.getElem?_cons_zero, Option.getD_some]; omega, rfl, rfl, rfl⟩
    · exact ⟨⟨u3, u4⟩, by simp only [atP, pV, stF, List.getD, List.getElem?_cons_zero, List.getElem?_cons_succ, Option.getD_some]; omega, by simp only [pV, stF, List.getD, List.getElem?_cons_zero, List.getElem?_cons_succ, Option.getD_some]; omega, rfl, rfl, rfl⟩
    · exact ⟨⟨u5, u6⟩, by simp only [atP, pV, stF, List.getD, List.getElem?_cons_zero, List.getElem?_cons_succ, Option.getD_some]; omega, by simp only [pV, stF, List.getD, List.getElem?_cons_zero, List.getElem?_cons_succ, Option.getD_some]; omega, rfl, rfl, rfl⟩
  have rlen : ∀ i, i ≤ 3 → (rsP r i).length = 3 := by
    intro i hi
    have : r.length = 3 := by rw [hr]; rfl
    simp [rsP]; omega
  refine SW_loop_up (fun i E K => Ext h K ∧ Bx K (h.size + 1) [.int .i64 0, .int .i64 0, .int .i64 0] ∧ Bx K q [.int .i64 0, .int .i64 1, .int .i64 2] ∧ Bx K (q + 1) (rsP r i) ∧ Bx K (q + 2) [.int .i64 (n * n), .int .i64 n, .int .i64 1] ∧
    E = [(0, .int .i64 n), (1, v), (6, .pointer (some ⟨h.size + 1, 0, none⟩)), (7, .int .i64 (atP n c i)), (8, .pointer (some ⟨q + 1, 0, none⟩)), (9, .slice (some ⟨q, 0, none⟩) 3 1), (10, .pointer (some ⟨q + 2, 0, none⟩)), (53, .agg (encRgb c).toArray), (54, .int .i64 i)]) 3 0 (by omega) ?_ ?_
  · exact ⟨E0.trans (E3.trans e4), B6.ext (E3.trans e4), Bo.ext e4, Br.ext e4, Bs.ext e4, rfl⟩
  rintro i E K hi ⟨eK, b6, bo, br, bs, rfl⟩
  simp (maxSteps := 4000000) (disch := omega) only [ah, am, Nat.reduceEqDiff, reduceCtorEq, Nat.reduceAdd, Nat.reduceLeDiff, Nat.reduceMul, Nat.reduceLT, if_true, if_false, true_and, and_true, and_self, Nat.reduceBEq, QOp.loads, boxO, bslO, buildO, cutL, fillV, putL, w10, v10]
  refine stepI.split (fun hp => ?_) (fun hp => ?_)
  · obtain ⟨f1, f2, f3, f4, f5, f6⟩ := fact i (by omega)
    have V4 : ivaV 3 (.agg (encRgb c).toArray) (.int .i64 (i : Int)) = some (.int .i64 (pV c i)) := by rw [ivaV_agg 3 _ _ _ (by omega), f4]
    have V5 : ldV K (.pointer (some ⟨q + 2, i, none⟩)) = some (.int .i64 ((stF n).getD i 0)) := by rw [bs.ld.1, f5]
    have W1 : IntKind.i64.wrap (n - 1) = n - 1 := i64w (by omega)
    have W2 : IntKind.i64.wrap (placeI (pV c i) (n - 1) * (stF n).getD i 0) = placeI (pV c i) (n - 1) * (stF n).getD i 0 := i64w (by omega)
    have W3 : IntKind.i64.wrap (atP n c i + placeI (pV c i) (n - 1) * (stF n).getD i 0) = atP n c (i + 1) := i64w (by omega)
    have W : IntKind.i64.wrap ((i : Int) + 1) = ((i + 1 : Nat) : Int) := i64e (by omega) (by omega)
    obtain ⟨K2, es, br2, g⟩ := br.put (o := i) (n := 1) (y := .int .i64 (placeR (pV c i) (n - 1))) rfl (by rw [rlen i (by omega)]; omega) rfl
    rw [show (Value.int .i64 (placeR (pV c i) (n - 1))).cells.toList = [.int .i64 (placeR (pV c i) (n - 1))] from rfl, f6] at br2
    simp (maxSteps := 4000000) (disch := omega) only [ah, am, Nat.reduceEqDiff, reduceCtorEq, Nat.reduceAdd, Nat.reduceLeDiff, Nat.reduceMul, Nat.reduceLT, if_true, if_false, true_and, and_true, and_self, Nat.reduceBEq, QOp.loads, boxO, bslO, buildO, cutL, fillV, putL, w10, v10, ev_iva, V4, W1]
    refine stepC.of (cut_ok _ _ _ f1 (by omega)) ?_
    rintro _ Hx ⟨hx, rfl⟩; rw [hx]; clear hx Hx
    simp (maxSteps := 4000000) (disch := omega) only [ah, am, Nat.reduceEqDiff, reduceCtorEq, Nat.reduceAdd, Nat.reduceLeDiff, Nat.reduceMul, Nat.reduceLT, if_true, if_false, true_and, and_true, and_self, Nat.reduceBEq, QOp.loads, boxO, bslO, buildO, cutL, fillV, putL, w10, v10, Nat.mul_one, V5, W, W1, W2, W3, es]
    exact ⟨by omega, g.ext eK (by omega), b6.step g (by omega), bo.step g (by omega), br2, bs.step g (by omega)⟩
  clear fact
  have : i = 3 := by omega
  subst this
  have hlr : r.length = 3 := by rw [hr]; rfl
  have er : rsP r 3 = r.map (.int .i64) := by simp only [rsP]; rw [List.take_of_length_le (by omega)]; simp
  rw [er] at br
  have hA : atP n c 3 = idxF n a r 0 := by rw [ha]; simp [atP, idxF, atF, stF, pV, List.getD]
  rw [hA]
  simp (maxSteps := 4000000) (disch := omega) only [ah, am, Nat.reduceEqDiff, reduceCtorEq, Nat.reduceAdd, Nat.reduceLeDiff, Nat.reduceMul, Nat.reduceLT, if_true, if_false, true_and, and_true, and_self, Nat.reduceBEq, QOp.loads, boxO, bslO, buildO, cutL, fillV, putL, w10, v10]
  have rb : ∀ z : Nat, 0 ≤ r.getD z 0 ∧ r.getD z 0 ≤ 65535 := by
    have h3 : ∀ i, i < 3 → i = 0 ∨ i = 1 ∨ i = 2 := by omega
    intro z
    by_cases hz : z < 3
    · rw [hr]; rcases h3 z hz with rfl | rfl | rfl
      · exact P0.2
      · exact P1.2
      · exact P2.2
    · rw [show r.getD z 0 = 0 by simp [List.getD]; rw [List.getElem?_eq_none (by omega)]; rfl]; omega
  refine stepC.of (sortStable_ok K q _ [0, 1, 2] _ _ (fun x y => r.getD y.toNat 0 - r.getD x.toNat 0) (fun x y => decide (r.getD y.toNat 0 - r.getD x.toNat 0 < 0)) (Bx_own bo [0, 1, 2] encI_len (by omega) rfl) (fun x => 0 ≤ x ∧ x < 3) (by decide) (by decide) (fun _ _ => rfl) ⟨_, Try.func32, rfl, by decide⟩ ?_) ?_
  · intro h' x y g hx hy
    refine Cube2_ok h' (q + 1) r x y (fun z hz => ?_) rb hx hy
    rw [(br.step g (by omega)).ld.1, List.getElem?_map, List.getElem?_eq_getElem (show z.toNat < r.length by omega)]
    simp [List.getD, List.getElem?_eq_getElem (show z.toNat < r.length by omega)]
  rintro _ K5 ⟨g5, O5⟩
  have O5 : OwnT q K5 encI 1 (.slice (some ⟨q, 0, none⟩) 3 1) (ordF r) := O5
  have eK5 : Ext h K5 := g5.ext eK (by omega)
  have b6 := b6.step g5 (by omega)
  have br := br.step g5 (by omega)
  have bs := bs.step g5 (by omega)
  have W4 : IntKind.i64.wrap (((3 : Nat) : Int) + 1) = 4 := rfl
  have hqs : q + 2 < K5.size := Heap.get_lt bs
  simp (maxSteps := 4000000) (disch := omega) only [ah, am, Nat.reduceEqDiff, reduceCtorEq, Nat.reduceAdd, Nat.reduceLeDiff, Nat.reduceMul, Nat.reduceLT, if_true, if_false, true_and, and_true, and_self, Nat.reduceBEq, QOp.loads, boxO, bslO, buildO, cutL, fillV, putL, w10, v10, W4]
  have Bm : Bx (K5.more [[.int .i64 0, .int .i64 0, .int .i64 0]]) K5.size [.int .i64 0, .int .i64 0, .int .i64 0] := Bx.new _ _ _
  have eM := Ext.more K5 [[.int .i64 0, .int .i64 0, .int .i64 0]]
  obtain ⟨m, hm⟩ : ∃ m, m = K5.size := ⟨_, rfl⟩
  rw [← hm] at Bm hqs ⊢
  generalize K5.more [[.int .i64 0, .int .i64 0, .int .i64 0]] = M0 at Bm eM ⊢
  have b6 := b6.ext eM
  have br := br.ext eM
  have bs := bs.ext eM
  have O := O5.ext eM
  have eK5 := eK5.trans eM
  clear eM O5 g5 Bo Br Bs e4 E3 X5 E2 e1 e2 B5 B6 E0 hany bo R P0 P1 P2 A0 A1 rlen hq
  have bd : ∀ k : Nat, k ≤ 4 → ∀ f : Rgb → Int, (∀ x ∈ t, 0 ≤ f x ∧ f x ≤ 65535) → -((k : Int) * 4294836225) ≤ sumF n a r t f k ∧ sumF n a r t f k ≤ (k : Int) * 4294836225 := by
    intro k
    induction k with
    | zero => intro _ f hf; simp [sumF]
    | succ k ih =>
      intro hk f hf
      obtain ⟨i1, i2⟩ := ih (by omega) f hf
      obtain ⟨j1, j2⟩ := hway.ix k (by omega)
      have := hf (t.getD (idxF n a r k).toNat zRgb) (by rw [getD_atE (by omega)]; exact List.getElem_mem _)
      have mb := mul_bound this.1 this.2 (N := 65535) (by have := (hway.wt k (by omega)).2; omega) (hway.wt k (by omega)).2.2
      simp only [sumF]; omega
  have bp : ∀ k : Nat, k ≤ 3 → ∀ f : Rgb → Int, (∀ x ∈ t, 0 ≤ f x ∧ f x ≤ 65535) → -4294836225 ≤ f (t.getD (idxF n a r k).toNat zRgb) * (lftF r k - nxtF r k) ∧ f (t.getD (idxF n a r k).toNat zRgb) * (lftF r k - nxtF r k) ≤ 4294836225 := by
    intro k hk f hf
    obtain ⟨j1, j2⟩ := hway.ix k (by omega)
    have := hf (t.getD (idxF n a r k).toNat zRgb) (by rw [getD_atE (by omega)]; exact List.getElem_mem _)
    have mb := mul_bound this.1 this.2 (N := 65535) (by have := (hway.wt k (by omega)).2; omega) (hway.wt k (by omega)).2.2
    omega
  have fr : ∀ x ∈ t, 0 ≤ x.r ∧ x.r ≤ 65535 := fun x hx => (c4 x hx).1
  have fg : ∀ x ∈ t, 0 ≤ x.g ∧ x.g ≤ 65535 := fun x hx => (c4 x hx).2.1
  have fb : ∀ x ∈ t, 0 ≤ x.b ∧ x.b ≤ 65535 := fun x hx => (c4 x hx).2.2
  have ol := hway.ol
  refine SW_loop_up (fun k E K => Ext h K ∧ Bx K (h.size + 1) [.int .i64 0, .int .i64 0, .int .i64 0] ∧ OwnT q K encI 1 (.slice (some ⟨q, 0, none⟩) 3 1) (ordF r) ∧ Bx K (q + 1) (r.map (.int .i64)) ∧ Bx K (q + 2) [.int .i64 (n * n), .int .i64 n, .int .i64 1] ∧
    Bx K m (smP n a r t k) ∧
    E = [(1, v), (6, .pointer (some ⟨h.size + 1, 0, none⟩)), (7, .int .i64 (((idxF n a r (min k 3)).toNat : Nat) : Int)), (8, .pointer (some ⟨q + 1, 0, none⟩)), (9, .slice (some ⟨q, 0, none⟩) 3 1), (10, .pointer (some ⟨q + 2, 0, none⟩)), (15, .pointer (some ⟨m, 0, none⟩)), (16, .int .i64 (lftF r (min k 3))), (82, .int .i64 4), (83, .int .i64 k)]) 4 0 (by omega) ?_ ?_
  · refine ⟨eK5, b6, O, br, bs, Bm, ?_⟩
    have := (hway.ix 0 (by omega)).1
    rw [show min 0 3 = 0 from rfl, Int.toNat_of_nonneg this]; rfl
  rintro k E K hk ⟨eK, b6, O, br, bs, Bm, rfl⟩
  simp (maxSteps := 4000000) (disch := omega) only [ah, am, Nat.reduceEqDiff, reduceCtorEq, Nat.reduceAdd, Nat.reduceLeDiff, Nat.reduceMul, Nat.reduceLT, if_true, if_false, true_and, and_true, and_self, Nat.reduceBEq, QOp.loads, boxO, bslO, buildO, cutL, fillV, putL, w10, v10]
  refine stepI.split (fun hp => ?_) (fun hp => ?_)
  · have hk3 : k ≤ 3 := by omega
    rw [show min k 3 = k by omega]
    obtain ⟨x1, x2⟩ := hway.ix k hk3
    obtain ⟨y1, y2⟩ := hway.wt k hk3
    simp (maxSteps := 4000000) (disch := omega) only [ah, am, Nat.reduceEqDiff, reduceCtorEq, Nat.reduceAdd, Nat.reduceLeDiff, Nat.reduceMul, Nat.reduceLT, if_true, if_false, true_and, and_true, and_self, Nat.reduceBEq, QOp.loads, boxO, bslO, buildO, cutL, fillV, putL, w10, v10]
    obtain ⟨o, ho⟩ : ∃ o, o = ((ordF r).getD k 0).toNat := ⟨_, rfl⟩
    obtain ⟨x, hx⟩ : ∃ x, x = t.getD (idxF n a r k).toNat zRgb := ⟨_, rfl⟩
    have hxt : x ∈ t := by rw [hx, getD_atE (by omega)]; exact List.getElem_mem _
    have ok := c4 x hxt
    have T := (s.ext eK).rulesN
    have T1 : t[(idxF n a r k).toNat]'(by omega) = x := by rw [hx, getD_atE (by omega)]
    have Q := O.slt.rulesN
    have W1 : IntKind.i64.wrap (lftF r k - nxtF r k) = lftF r k - nxtF r k := i64w (by omega)
    have dd : (decide ((k : Int) < ((3 : Nat) : Int)) = true ∧ k < 3 ∧ o < 3 ∧ iaV 1 (.slice (some ⟨q, 0, none⟩) 3 1) (.int .i64 (k : Int)) = some (ptrAt (.slice (some ⟨q, 0, none⟩) 3 1) k) ∧ (∀ K, OwnT q K encI 1 (.slice (some ⟨q, 0, none⟩) 3 1) (ordF r) → ldV K (ptrAt (.slice (some ⟨q, 0, none⟩) 3 1) k) = some (.int .i64 (o : Int))) ∧ (∀ K, Bx K (q + 1) (r.map (.int .i64)) → ldV K (.pointer (some ⟨q + 1, o, none⟩)) = some (.int .i64 (nxtF r k))) ∧
        ([.int .i64 (n * n), .int .i64 n, .int .i64 1] : List Value)[o]? = some (.int .i64 ((stF n).getD o 0)) ∧ IntKind.i64.wrap (((idxF n a r k).toNat : Int) + (stF n).getD o 0) = (((idxF n a r (k + 1)).toNat : Nat) : Int) ∧ min (k + 1) 3 = k + 1) ∨ (decide ((k : Int) < ((3 : Nat) : Int)) = false ∧ k = 3 ∧ nxtF r k = 0) := by
      by_cases h3 : k < 3
      · left
        have om := hway.om ((ordF r)[k]'(by omega)) (List.getElem_mem _)
        have oe : (ordF r).getD k 0 = (ordF r)[k]'(by omega) := getD_atE (by omega) 0
        rw [oe] at ho
        have ho3 : o < 3 := by omega
        have hne : nxtF r k = r.getD o 0 := by unfold nxtF; rw [if_pos h3, oe, ← ho]
        have hix : idxF n a r (k + 1) = idxF n a r k + (stF n).getD o 0 := by simp only [idxF]; rw [oe, ← ho]
        have x3 := hway.ix (k + 1) (by omega)
        refine ⟨decide_eq_true (by omega), h3, ho3, ?_, fun K O => ?_, fun K b => ?_, ?_, ?_, by omega⟩
        · rw [Q.2.1 .i64 k (by omega), Nat.mul_one]
        · have := O.slt.rulesN.2.2.2.2.1 k (by omega)
          rw [Nat.mul_one] at this
          rw [this, show (ordF r)[k]'(by omega) = (o : Int) by omega]; rfl
        · rw [b.ld.1, List.getElem?_map, List.getElem?_eq_getElem (show o < r.length by omega), hne, getD_atE (show o < r.length by omega)]; rfl
        · have h3 : ∀ i, i < 3 → i = 0 ∨ i = 1 ∨ i = 2 := by omega
          rcases h3 o ho3 with q | q | q <;> rw [q] <;> rfl
        · have := i64w (n := ((idxF n a r k).toNat : Int) + (stF n).getD o 0) (by omega)
          omega
      · right; exact ⟨decide_eq_false (by omega), by omega, by unfold nxtF; rw [if_neg h3]⟩
    have fact : ∀ i, i < 3 → IntKind.i64.wrap (pV x i * (lftF r k - nxtF r k)) = pV x i * (lftF r k - nxtF r k) ∧ IntKind.i64.wrap (svP n a r t k i + pV x i * (lftF r k - nxtF r k)) = svP n a r t (k + 1) i ∧
        (encRgb x)[i]? = some (.int .i64 (pV x i)) ∧ (mxP n a r t k i)[i]? = some (.int .i64 (svP n a r t k i)) ∧ splice (mxP n a r t k i) i [.int .i64 (svP n a r t (k + 1) i)] = mxP n a r t k (i + 1) := by
      have h3 : ∀ i, i < 3 → i = 0 ∨ i = 1 ∨ i = 2 := by omega
      intro i hi
      have d1 := bd k (by omega)
      have d2 := bp k (by omega)
      rw [← hx] at d2
      have es : ∀ f, sumF n a r t f (k + 1) = sumF n a r t f k + f x * (lftF r k - nxtF r k) := fun f => by rw [hx]; rfl
      rcases h3 i hi with rfl | rfl | rfl
      · have a1 : -((k : Int) * 4294836225) ≤ sumF n a r t (·.r) k ∧ sumF n a r t (·.r) k ≤ (k : Int) * 4294836225 := d1 _ fr
        have a2 : -4294836225 ≤ x.r * (lftF r k - nxtF r k) ∧ x.r * (lftF r k - nxtF r k) ≤ 4294836225 := d2 _ fr
        refine ⟨i64w ?_, ?_, rfl, rfl, rfl⟩
        · change _ ≤ x.r * (lftF r k - nxtF r k) ∧ x.r * (lftF r k - nxtF r k) ≤ _; omega
        · change IntKind.i64.wrap (sumF n a r t (·.r) k + x.r * (lftF r k - nxtF r k)) = sumF n a r t (·.r) (k + 1)
          rw [es]; exact i64w (by omega)
      · have a1 : -((k : Int) * 4294836225) ≤ sumF n a r t (·.g) k ∧ sumF n a r t (·.g) k ≤ (k : Int) * 4294836225 := d1 _ fg
        have a2 : -4294836225 ≤ x.g * (lftF r k - nxtF r k) ∧ x.g * (lftF r k - nxtF r k) ≤ 4294836225 := d2 _ fg
        refine ⟨i64w ?_, ?_, rfl, rfl, rfl⟩
        · change _ ≤ x.g * (lftF r k - nxtF r k) ∧ x.g * (lftF r k - nxtF r k) ≤ _; omega
        · change IntKind.i64.wrap (sumF n a r t (·.g) k + x.g * (lftF r k - nxtF r k)) = sumF n a r t (·.g) (k + 1)
          rw [es]; exact i64w (by omega)
      · have a1 : -((k : Int) * 4294836225) ≤ sumF n a r t (·.b) k ∧ sumF n a r t (·.b) k ≤ (k : Int) * 4294836225 := d1 _ fb
        have a2 : -4294836225 ≤ x.b * (lftF r k - nxtF r k) ∧ x.b * (lftF r k - nxtF r k) ≤ 4294836225 := d2 _ fb
        refine ⟨i64w ?_, ?_, rfl, rfl, rfl⟩
        · change _ ≤ x.b * (lftF r k - nxtF r k) ∧ x.b * (lftF r k - nxtF r k) ≤ _; omega
        · change IntKind.i64.wrap (sumF n a r t (·.b) k + x.b * (lftF r k - nxtF r k)) = sumF n a r t (·.b) (k + 1)
          rw [es]; exact i64w (by omega)
    obtain ⟨nx, hnx⟩ : ∃ nx, nx = nxtF r k := ⟨_, rfl⟩
    rw [← hnx] at W1 dd y1 y2 fact
    have W0 : IntKind.i64.wrap ((k : Int) + 1) = ((k + 1 : Nat) : Int) := i64e (by omega) (by omega)
    rcases dd with ⟨D, k3, ho3, I0, I1, I2, I3, I4, I5⟩ | ⟨D, k3, N0⟩
    · have I1' := I1 K O
      have I2' := I2 K br
      simp (maxSteps := 4000000) (disch := omega) only [ah, am, Nat.reduceEqDiff, reduceCtorEq, Nat.reduceAdd, Nat.reduceLeDiff, Nat.reduceMul, Nat.reduceLT, if_true, if_false, true_and, and_true, and_self, Nat.reduceBEq, QOp.loads, boxO, bslO, buildO, cutL, fillV, putL, w10, v10, I0, I1', D, I2', Nat.mul_one, T, T1, Q.1, ol]
      refine stepC.of (parts_ok _ _) ?_
      rintro _ Kp ⟨ep, rfl⟩
      have eK := eK.trans ep
      have b6 := b6.ext ep
      have br := br.ext ep
      have bs := bs.ext ep
      have Bm := Bm.ext ep
      have O := O.ext ep
      simp (maxSteps := 4000000) (disch := omega) only [ah, am, Nat.reduceEqDiff, reduceCtorEq, Nat.reduceAdd, Nat.reduceLeDiff, Nat.reduceMul, Nat.reduceLT, if_true, if_false, true_and, and_true, and_self, Nat.reduceBEq, QOp.loads, boxO, bslO, buildO, cutL, fillV, putL, w10, v10]
      refine SW_loop_up (fun i E K => Ext h K ∧ Bx K (h.size + 1) [.int .i64 0, .int .i64 0, .int .i64 0] ∧ OwnT q K encI 1 (.slice (some ⟨q, 0, none⟩) 3 1) (ordF r) ∧ Bx K (q + 1) (r.map (.int .i64)) ∧ Bx K (q + 2) [.int .i64 (n * n), .int .i64 n, .int .i64 1] ∧
        Bx K m (mxP n a r t k i) ∧
        E = [(1, v), (6, .pointer (some ⟨h.size + 1, 0, none⟩)), (7, .int .i64 (((idxF n a r k).toNat : Nat) : Int)), (8, .pointer (some ⟨q + 1, 0, none⟩)), (9, .slice (some ⟨q, 0, none⟩) 3 1), (10, .pointer (some ⟨q + 2, 0, none⟩)), (15, .pointer (some ⟨m, 0, none⟩)), (16, .int .i64 (lftF r k)), (17, .int .i64 k), (18, .int .i64 nx), (82, .int .i64 4), (83, .int .i64 k), (100, .agg (encRgb x).toArray), (101, .int .i64 i)]) 3 0 (by omega) ?_ ?_
      · exact ⟨eK, b6, O, br, bs, Bm, rfl⟩
      rintro i E K hi ⟨eK, b6, O, br, bs, Bm, rfl⟩
      simp (maxSteps := 4000000) (disch := omega) only [ah, am, Nat.reduceEqDiff, reduceCtorEq, Nat.reduceAdd, Nat.reduceLeDiff, Nat.reduceMul, Nat.reduceLT, if_true, if_false, true_and, and_true, and_self, Nat.reduceBEq, QOp.loads, boxO, bslO, buildO, cutL, fillV, putL, w10, v10]
      refine stepI.split (fun hp => ?_) (fun hp => ?_)
      · obtain ⟨f1, f2, f3, f4, f5⟩ := fact i (by omega)
        have V4 : ivaV 3 (.agg (encRgb x).toArray) (.int .i64 (i : Int)) = some (.int .i64 (pV x i)) := by rw [ivaV_agg 3 _ _ _ (by omega), f3]
        have V5 : ldV K (.pointer (some ⟨m, i, none⟩)) = some (.int .i64 (svP n a r t k i)) := by rw [Bm.ld.1, f4]
        have W : IntKind.i64.wrap ((i : Int) + 1) = ((i + 1 : Nat) : Int) := i64e (by omega) (by omega)
        obtain ⟨K2, es, Bm2, g⟩ := Bm.put (o := i) (n := 1) (y := .int .i64 (svP n a r t (k + 1) i)) rfl (by simp [mxP, smP]; omega) rfl
        rw [show (Value.int .i64 (svP n a r t (k + 1) i)).cells.toList = [.int .i64 (svP n a r t (k + 1) i)] from rfl, f5] at Bm2
        simp (maxSteps := 4000000) (disch := omega) only [ah, am, Nat.reduceEqDiff, reduceCtorEq, Nat.reduceAdd, Nat.reduceLeDiff, Nat.reduceMul, Nat.reduceLT, if_true, if_false, true_and, and_true, and_self, Nat.reduceBEq, QOp.loads, boxO, bslO, buildO, cutL, fillV, putL, w10, v10, ev_iva, V4, V5, W, W1, f1, f2, es, Nat.mul_one]
        exact ⟨by omega, g.ext eK (by omega), b6.step g (by omega), O.extG g (by omega), br.step g (by omega), bs.step g (by omega), Bm2⟩
      · have : i = 3 := by omega
        subst this
        have Bm : Bx K m (smP n a r t (k + 1)) := Bm
        have W : IntKind.i64.wrap ((k : Int) + 1) = ((k + 1 : Nat) : Int) := i64e (by omega) (by omega)
        have I1' := I1 K O
        have I6 : ldV K (.pointer (some ⟨q + 2, o, none⟩)) = some (.int .i64 ((stF n).getD o 0)) := by rw [bs.ld.1, I3]
        simp (maxSteps := 4000000) (disch := omega) only [ah, am, Nat.reduceEqDiff, reduceCtorEq, Nat.reduceAdd, Nat.reduceLeDiff, Nat.reduceMul, Nat.reduceLT, if_true, if_false, true_and, and_true, and_self, Nat.reduceBEq, QOp.loads, boxO, bslO, buildO, cutL, fillV, putL, w10, v10, I0, I1', D, I6, I4, W0, Nat.mul_one, Q.1, ol]
        have I7 : lftF r (k + 1) = nx := by rw [hnx]; rfl
        rw [I5, I7]
        exact ⟨by omega, eK, b6, O, br, bs, Bm, rfl⟩
    · subst N0
      simp (maxSteps := 4000000) (disch := omega) only [ah, am, Nat.reduceEqDiff, reduceCtorEq, Nat.reduceAdd, Nat.reduceLeDiff, Nat.reduceMul, Nat.reduceLT, if_true, if_false, true_and, and_true, and_self, Nat.reduceBEq, QOp.loads, boxO, bslO, buildO, cutL, fillV, putL, w10, v10, D, T, T1, Q.1, ol]
      refine stepC.of (parts_ok _ _) ?_
      rintro _ Kp ⟨ep, rfl⟩
      have eK := eK.trans ep
      have b6 := b6.ext ep
      have br := br.ext ep
      have bs := bs.ext ep
      have Bm := Bm.ext ep
      have O := O.ext ep
      simp (maxSteps := 4000000) (disch := omega) only [ah, am, Nat.reduceEqDiff, reduceCtorEq, Nat.reduceAdd, Nat.reduceLeDiff, Nat.reduceMul, Nat.reduceLT, if_true, if_false, true_and, and_true, and_self, Nat.reduceBEq, QOp.loads, boxO, bslO, buildO, cutL, fillV, putL, w10, v10]
      refine SW_loop_up (fun i E K => Ext h K ∧ Bx K (h.size + 1) [.int .i64 0, .int .i64 0, .int .i64 0] ∧ OwnT q K encI 1 (.slice (some ⟨q, 0, none⟩) 3 1) (ordF r) ∧ Bx K (q + 1) (r.map (.int .i64)) ∧ Bx K (q + 2) [.int .i64 (n * n), .int .i64 n, .int .i64 1] ∧
        Bx K m (mxP n a r t k i) ∧
        E = [(1, v), (6, .pointer (some ⟨h.size + 1, 0, none⟩)), (7, .int .i64 (((idxF n a r k).toNat : Nat) : Int)), (8, .pointer (some ⟨q + 1, 0, none⟩)), (9, .slice (some ⟨q, 0, none⟩) 3 1), (10, .pointer (some ⟨q + 2, 0, none⟩)), (15, .pointer (some ⟨m, 0, none⟩)), (16, .int .i64 (lftF r k)), (17, .int .i64 k), (18, .int .i64 0), (82, .int .i64 4), (83, .int .i64 k), (100, .agg (encRgb x).toArray), (101, .int .i64 i)]) 3 0 (by omega) ?_ ?_
      · exact ⟨eK, b6, O, br, bs, Bm, rfl⟩
      rintro i E K hi ⟨eK, b6, O, br, bs, Bm, rfl⟩
      simp (maxSteps := 4000000) (disch := omega) only [ah, am, Nat.reduceEqDiff, reduceCtorEq, Nat.reduceAdd, Nat.reduceLeDiff, Nat.reduceMul, Nat.reduceLT, if_true, if_false, true_and, and_true, and_self, Nat.reduceBEq, QOp.loads, boxO, bslO, buildO, cutL, fillV, putL, w10, v10]
      refine stepI.split (fun hp => ?_) (fun hp => ?_)
      · obtain ⟨f1, f2, f3, f4, f5⟩ := fact i (by omega)
        have V4 : ivaV 3 (.agg (encRgb x).toArray) (.int .i64 (i : Int)) = some (.int .i64 (pV x i)) := by rw [ivaV_agg 3 _ _ _ (by omega), f3]
        have V5 : ldV K (.pointer (some ⟨m, i, none⟩)) = some (.int .i64 (svP n a r t k i)) := by rw [Bm.ld.1, f4]
        have W : IntKind.i64.wrap ((i : Int) + 1) = ((i + 1 : Nat) : Int) := i64e (by omega) (by omega)
        obtain ⟨K2, es, Bm2, g⟩ := Bm.put (o := i) (n := 1) (y := .int .i64 (svP n a r t (k + 1) i)) rfl (by simp [mxP, smP]; omega) rfl
        rw [show (Value.int .i64 (svP n a r t (k + 1) i)).cells.toList = [.int .i64 (svP n a r t (k + 1) i)] from rfl, f5] at Bm2
        simp (maxSteps := 4000000) (disch := omega) only [ah, am, Nat.reduceEqDiff, reduceCtorEq, Nat.reduceAdd, Nat.reduceLeDiff, Nat.reduceMul, Nat.reduceLT, if_true, if_false, true_and, and_true, and_self, Nat.reduceBEq, QOp.loads, boxO, bslO, buildO, cutL, fillV, putL, w10, v10, ev_iva, V4, V5, W, W1, f1, f2, es, Nat.mul_one]
        exact ⟨by omega, g.ext eK (by omega), b6.step g (by omega), O.extG g (by omega), br.step g (by omega), bs.step g (by omega), Bm2⟩
      · have : i = 3 := by omega
        subst this
        have Bm : Bx K m (smP n a r t (k + 1)) := Bm
        have W : IntKind.i64.wrap ((k : Int) + 1) = ((k + 1 : Nat) : Int) := i64e (by omega) (by omega)
        simp (maxSteps := 4000000) (disch := omega) only [ah, am, Nat.reduceEqDiff, reduceCtorEq, Nat.reduceAdd, Nat.reduceLeDiff, Nat.reduceMul, Nat.reduceLT, if_true, if_false, true_and, and_true, and_self, Nat.reduceBEq, QOp.loads, boxO, bslO, buildO, cutL, fillV, putL, w10, v10, D, W0, Nat.mul_one, Q.1, ol]
        rw [show min (k + 1) 3 = k by omega]
        exact ⟨by omega, eK, b6, O, br, bs, Bm, rfl⟩
  · have : k = 4 := by omega
    subst this
    rw [show min 4 3 = 3 from rfl]
    simp (maxSteps := 4000000) (disch := omega) only [ah, am, Nat.reduceEqDiff, reduceCtorEq, Nat.reduceAdd, Nat.reduceLeDiff, Nat.reduceMul, Nat.reduceLT, if_true, if_false, true_and, and_true, and_self, Nat.reduceBEq, QOp.loads, boxO, bslO, buildO, cutL, fillV, putL, w10, v10]
    refine SW_loop_up (fun i E K => Ext h K ∧ Bx K (h.size + 1) [.int .i64 0, .int .i64 0, .int .i64 0] ∧ Bx K m (nrP n a r t i) ∧
      E = [(6, .pointer (some ⟨h.size + 1, 0, none⟩)), (15, .pointer (some ⟨m, 0, none⟩)), (130, .int .i64 i)]) 3 0 (by omega) ?_ ?_
    · exact ⟨eK, b6, Bm, rfl⟩
    rintro i E K hi ⟨eK, b6, Bm, rfl⟩
    simp (maxSteps := 4000000) (disch := omega) only [ah, am, Nat.reduceEqDiff, reduceCtorEq, Nat.reduceAdd, Nat.reduceLeDiff, Nat.reduceMul, Nat.reduceLT, if_true, if_false, true_and, and_true, and_self, Nat.reduceBEq, QOp.loads, boxO, bslO, buildO, cutL, fillV, putL, w10, v10]
    refine stepI.split (fun hp => ?_) (fun hp => ?_)
    · have fact : ∀ i, i < 3 → (-100000000000000 ≤ svP n a r t 4 i ∧ svP n a r t 4 i ≤ 100000000000000) ∧ (nrP n a r t i)[i]? = some (.int .i64 (svP n a r t 4 i)) ∧ splice (nrP n a r t i) i [.int .i64 (near (svP n a r t 4 i) 65535)] = nrP n a r t (i + 1) := by
        have h3 : ∀ i, i < 3 → i = 0 ∨ i = 1 ∨ i = 2 := by omega
        intro i hi
        rcases h3 i hi with rfl | rfl | rfl
        · have a1 : -(((4 : Nat) : Int) * 4294836225) ≤ sumF n a r t (fun x => x.r) 4 ∧ sumF n a r t (fun x => x.r) 4 ≤ ((4 : Nat) : Int) * 4294836225 := bd 4 (by omega) _ fr
          exact ⟨by change _ ≤ sumF n a r t (fun x => x.r) 4 ∧ sumF n a r t (fun x => x.r) 4 ≤ _; omega, rfl, rfl⟩
        · have a1 : -(((4 : Nat) : Int) * 4294836225) ≤ sumF n a r t (fun x => x.g) 4 ∧ sumF n a r t (fun x => x.g) 4 ≤ ((4 : Nat) : Int) * 4294836225 := bd 4 (by omega) _ fg
          exact ⟨by change _ ≤ sumF n a r t (fun x => x.g) 4 ∧ sumF n a r t (fun x => x.g) 4 ≤ _; omega, rfl, rfl⟩
        · have a1 : -(((4 : Nat) : Int) * 4294836225) ≤ sumF n a r t (fun x => x.b) 4 ∧ sumF n a r t (fun x => x.b) 4 ≤ ((4 : Nat) : Int) * 4294836225 := bd 4 (by omega) _ fb
          exact ⟨by change _ ≤ sumF n a r t (fun x => x.b) 4 ∧ sumF n a r t (fun x => x.b) 4 ≤ _; omega, rfl, rfl⟩
      obtain ⟨f1, f2, f3⟩ := fact i (by omega)
      have V5 : ldV K (.pointer (some ⟨m, i, none⟩)) = some (.int .i64 (svP n a r t 4 i)) := by rw [Bm.ld.1, f2]
      have W : IntKind.i64.wrap ((i : Int) + 1) = ((i + 1 : Nat) : Int) := i64e (by omega) (by omega)
      obtain ⟨K2, es, Bm2, g⟩ := Bm.put (o := i) (n := 1) (y := .int .i64 (near (svP n a r t 4 i) 65535)) rfl (by simp [nrP, smP]; omega) rfl
      rw [show (Value.int .i64 (near (svP n a r t 4 i) 65535)).cells.toList = [.int .i64 (near (svP n a r t 4 i) 65535)] from rfl, f3] at Bm2
      simp (maxSteps := 4000000) (disch := omega) only [ah, am, Nat.reduceEqDiff, reduceCtorEq, Nat.reduceAdd, Nat.reduceLeDiff, Nat.reduceMul, Nat.reduceLT, if_true, if_false, true_and, and_true, and_self, Nat.reduceBEq, QOp.loads, boxO, bslO, buildO, cutL, fillV, putL, w10, v10, V5, Nat.mul_one]
      refine stepC.of (near_ok _ _ _ (by omega) f1) ?_
      rintro _ Hx ⟨hx, rfl⟩; rw [hx]; clear hx Hx
      simp (maxSteps := 4000000) (disch := omega) only [ah, am, Nat.reduceEqDiff, reduceCtorEq, Nat.reduceAdd, Nat.reduceLeDiff, Nat.reduceMul, Nat.reduceLT, if_true, if_false, true_and, and_true, and_self, Nat.reduceBEq, QOp.loads, boxO, bslO, buildO, cutL, fillV, putL, w10, v10, es, W, Nat.mul_one]
      exact ⟨by omega, g.ext eK (by omega), b6.step g (by omega), Bm2⟩
    · have : i = 3 := by omega
      subst this
      have Bm : Bx K m (encRgb (cubeL n t c)) := by rw [ha, hr] at Bm; exact Bm
      have V5 : ldnV K 3 (.pointer (some ⟨m, 0, none⟩)) = some (.agg (encRgb (cubeL n t c)).toArray) := by rw [Bm.ld.2]; rfl
      simp (maxSteps := 4000000) (disch := omega) only [ah, am, Nat.reduceEqDiff, reduceCtorEq, Nat.reduceAdd, Nat.reduceLeDiff, Nat.reduceMul, Nat.reduceLT, if_true, if_false, true_and, and_true, and_self, Nat.reduceBEq, QOp.loads, boxO, bslO, buildO, cutL, fillV, putL, w10, v10, V5]
      refine stepC.of (rgbOf_ok _ _) ?_
      rintro _ Kp ⟨ep, rfl⟩
      obtain ⟨K2, es, b2, g⟩ := (b6.ext ep).put (o := 0) (n := 3) (y := .agg (encRgb (cubeL n t c)).toArray) rfl (by simp) rfl
      have V6 : ldnV K2 3 (.pointer (some ⟨h.size + 1, 0, none⟩)) = some (.agg (encRgb (cubeL n t c)).toArray) := by rw [b2.ld.2]; rfl
      simp (maxSteps := 4000000) (disch := omega) only [ah, am, Nat.reduceEqDiff, reduceCtorEq, Nat.reduceAdd, Nat.reduceLeDiff, Nat.reduceMul, Nat.reduceLT, if_true, if_false, true_and, and_true, and_self, Nat.reduceBEq, QOp.loads, boxO, bslO, buildO, cutL, fillV, putL, w10, v10, es, V6]
      exact ⟨g.ext (eK.trans ep) (by omega), rfl⟩
end Go.Proofs.Ytmhbmbhdeofbaaa
