import Derived.Test.YtbnkpligdcponaaE0
import Derived.Test.YtbnkpligdcponaaN2
namespace Go.Proofs.Ytbnkpligdcponaa
open Go Go.Ah
set_option linter.unusedSimpArgs false
set_option linter.unusedVariables false
set_option maxRecDepth 10000
set_option maxHeartbeats 4000000
/-! 48 loop.example/g00066/spec.l16DrawJob: parameters 1, live [0], slots [0:c, 1:c, 3:out, 4:n, 5:t, 6:at, 7:k, 8:t, 9:i] -/
def c48_0 : List SOper := [⟨some 2, .q (.mv (.c (.slice none 0 0))), none⟩]
def c48_1 : List SOper := [⟨some 10, .a (.bsl 0 4 [] []), none⟩, ⟨some 3, .q (.mv (.t 10)), none⟩]
def c48_2 : List SOper := [⟨some 11, .q (.mv (.t 0)), none⟩, ⟨some 12, .e (.call 46 [(.t 11), (.c (.int .i64 12))]), none⟩, ⟨some 4, .q (.mv (.t 12)), none⟩]
def c48_3 : List SOper := [⟨some 13, .q (.mv (.t 4)), none⟩, ⟨some 14, .q (.bin .gtr (.t 13) (.c (.int .i64 0))), none⟩]
def c48_4 : SCode := .cond (.t 14) .skip (.exit 0)
def c48_5 : SCode := .seq (.region c48_3 [0, 3, 4, 14]) c48_4
def c48_6 : List SOper := [⟨some 17, .q (.mv (.t 0)), none⟩, ⟨some 18, .e (.call 46 [(.t 17), (.c (.int .i64 4))]), none⟩, ⟨some 19, .q (.mv (.t 0)), none⟩, ⟨some 20, .e (.call 46 [(.t 19), (.c (.int .i64 5))]), none⟩, ⟨some 21, .q (.mv (.t 0)), none⟩, ⟨some 22, .e (.call 46 [(.t 21), (.c (.int .i64 9))]), none⟩, ⟨some 23, .q (.bin .add (.c (.int .i64 1)) (.t 22)), none⟩, ⟨some 24, .q (.build [(.int .i64 0), (.int .i64 0), (.slice none 0 0), (.int .i64 0)] [(0, 1, (.t 18)), (1, 1, (.t 20)), (3, 1, (.t 23))]), none⟩, ⟨some 5, .a (.new [(.int .i64 0), (.int .i64 0), (.slice none 0 0), (.int .i64 0)]), none⟩, ⟨none, .e (.st 4 (.t 5) (.t 24)), none⟩]
def c48_7 : List SOper := [⟨some 6, .q (.mv (.c (.int .i64 (-1)))), none⟩]
def c48_8 : List SOper := [⟨some 25, .q (.mv (.t 0)), none⟩, ⟨some 26, .e (.call 46 [(.t 25), (.c (.int .i64 3))]), none⟩, ⟨some 7, .q (.mv (.t 26)), none⟩]
def c48_9 : List SOper := [⟨some 27, .q (.mv (.t 7)), none⟩, ⟨some 28, .q (.bin .gtr (.t 27) (.c (.int .i64 0))), none⟩]
def c48_10 : SCode := .cond (.t 28) .skip (.exit 2)
def c48_11 : SCode := .seq (.region c48_9 [0, 3, 4, 5, 6, 7, 28]) c48_10
def c48_12 : List SOper := [⟨some 31, .q (.mv (.t 6)), none⟩, ⟨some 32, .q (.bin .add (.t 31) (.c (.int .i64 1))), none⟩, ⟨some 33, .q (.mv (.t 0)), none⟩, ⟨some 34, .e (.call 46 [(.t 33), (.c (.int .i64 3))]), none⟩, ⟨some 35, .q (.bin .add (.t 32) (.t 34)), none⟩, ⟨some 6, .q (.mv (.t 35)), none⟩]
def c48_13 : List SOper := [⟨some 36, .q (.mv (.t 6)), none⟩, ⟨some 37, .q (.mv (.t 3)), none⟩, ⟨some 38, .q (.len (.t 37)), none⟩, ⟨some 39, .q (.bin .lss (.t 36) (.t 38)), none⟩]
def c48_14 : List SOper := [⟨some 40, .q (.fa 2 (.t 5)), none⟩, ⟨some 41, .q (.ld (.t 40)), none⟩, ⟨some 42, .q (.mv (.t 6)), none⟩, ⟨some 43, .a (.bsl 1 1 [(.int .i64 0)] [(0, 1, (.t 42))]), none⟩, ⟨some 44, .e (.app 8 1 (.t 41) (.t 43)), none⟩, ⟨some 45, .q (.fa 2 (.t 5)), none⟩, ⟨none, .e (.st 1 (.t 45) (.t 44)), none⟩]
def c48_15 : SCode := .cond (.t 39) (.region c48_14 [0, 3, 4, 5, 6, 7]) .skip
def c48_16 : SCode := .seq (.region c48_13 [0, 3, 4, 5, 6, 7, 39]) c48_15
def c48_17 : SCode := .seq (.region c48_12 [0, 3, 4, 5, 6, 7]) c48_16
def c48_18 : SCode := .block 3 c48_17
def c48_19 : List SOper := [⟨some 29, .q (.mv (.t 7)), none⟩, ⟨some 30, .q (.bin .sub (.t 29) (.c (.int .i64 1))), none⟩, ⟨some 7, .q (.mv (.t 30)), none⟩]
def c48_20 : SCode := .seq c48_18 (.region c48_19 [0, 3, 4, 5, 6, 7])
def c48_21 : SCode := .seq c48_11 c48_20
def c48_22 : SCode := .loop c48_21
def c48_23 : SCode := .block 2 c48_22
def c48_24 : SCode := .seq (.region c48_8 [0, 3, 4, 5, 6, 7]) c48_23
def c48_25 : List SOper := [⟨some 46, .q (.mv (.t 3)), none⟩, ⟨some 47, .q (.ldn 4 (.t 5)), none⟩, ⟨some 48, .a (.bsl 1 4 [(.int .i64 0), (.int .i64 0), (.slice none 0 0), (.int .i64 0)] [(0, 4, (.t 47))]), none⟩, ⟨some 49, .e (.app 48 4 (.t 46) (.t 48)), none⟩, ⟨some 3, .q (.mv (.t 49)), none⟩]
def c48_26 : SCode := .seq c48_24 (.region c48_25 [0, 3, 4])
def c48_27 : SCode := .seq (.region c48_7 [0, 3, 4, 5, 6]) c48_26
def c48_28 : SCode := .seq (.region c48_6 [0, 3, 4, 5]) c48_27
def c48_29 : SCode := .block 1 c48_28
def c48_30 : List SOper := [⟨some 15, .q (.mv (.t 4)), none⟩, ⟨some 16, .q (.bin .sub (.t 15) (.c (.int .i64 1))), none⟩, ⟨some 4, .q (.mv (.t 16)), none⟩]
def c48_31 : SCode := .seq c48_29 (.region c48_30 [0, 3, 4])
def c48_32 : SCode := .seq c48_5 c48_31
def c48_33 : SCode := .loop c48_32
def c48_34 : SCode := .block 0 c48_33
def c48_35 : SCode := .seq (.region c48_2 [0, 3, 4]) c48_34
def c48_36 : List SOper := [⟨some 50, .q (.mv (.t 0)), none⟩, ⟨some 51, .e (.call 47 [(.t 50), (.c (.int .i64 16))]), none⟩, ⟨some 52, .q (.mv (.t 51)), none⟩, ⟨some 53, .q (.mv (.t 3)), some (52, true)⟩, ⟨some 54, .q (.len (.t 53)), some (52, true)⟩, ⟨some 55, .q (.bin .gtr (.t 54) (.c (.int .i64 0))), some (52, true)⟩, ⟨some 56, .q (.pick (.t 52) (.t 55) (.c (.bool false))), none⟩]
def c48_37 : List SOper := [⟨some 57, .q (.mv (.t 3)), none⟩, ⟨some 58, .q (.mv (.t 0)), none⟩, ⟨some 59, .q (.mv (.t 3)), none⟩, ⟨some 60, .q (.len (.t 59)), none⟩, ⟨some 61, .e (.call 46 [(.t 58), (.t 60)]), none⟩, ⟨some 62, .q (.ia 4 (.t 57) (.t 61)), none⟩, ⟨some 8, .q (.mv (.t 62)), none⟩]
def c48_38 : List SOper := [⟨some 63, .q (.mv (.t 0)), none⟩, ⟨some 64, .e (.call 46 [(.t 63), (.c (.int .i64 4))]), none⟩]
def c48_39 : List SOper := [⟨some 66, .q (.bin .eql (.t 64) (.c (.int .i64 0))), none⟩, ⟨some 65, .q (.mv (.t 66)), none⟩]
def c48_40 : List SOper := [⟨some 67, .q (.mv (.t 8)), none⟩, ⟨some 68, .a (.bsl 3 1 [(.int .i64 0), (.int .i64 0), (.int .i64 0)] [(0, 1, (.c (.int .i64 (-1)))), (1, 1, (.c (.int .i64 9))), (2, 1, (.c (.int .i64 10)))]), none⟩, ⟨some 69, .q (.mv (.t 0)), none⟩, ⟨some 70, .e (.call 46 [(.t 69), (.c (.int .i64 3))]), none⟩, ⟨some 71, .q (.ia 1 (.t 68) (.t 70)), none⟩, ⟨some 72, .q (.ld (.t 71)), none⟩, ⟨some 73, .q (.nil (.t 67)), none⟩, ⟨some 74, .q (.fa 0 (.t 73)), none⟩, ⟨none, .e (.st 1 (.t 74) (.t 72)), none⟩]
def c48_41 : List SOper := [⟨some 76, .q (.bin .eql (.t 64) (.c (.int .i64 1))), none⟩, ⟨some 75, .q (.mv (.t 76)), none⟩]
def c48_42 : List SOper := [⟨some 77, .q (.mv (.t 8)), none⟩, ⟨some 78, .a (.bsl 3 1 [(.int .i64 0), (.int .i64 0), (.int .i64 0)] [(0, 1, (.c (.int .i64 (-1)))), (1, 1, (.c (.int .i64 10000000))), (2, 1, (.c (.int .i64 10000001)))]), none⟩, ⟨some 79, .q (.mv (.t 0)), none⟩, ⟨some 80, .e (.call 46 [(.t 79), (.c (.int .i64 3))]), none⟩, ⟨some 81, .q (.ia 1 (.t 78) (.t 80)), none⟩, ⟨some 82, .q (.ld (.t 81)), none⟩, ⟨some 83, .q (.nil (.t 77)), none⟩, ⟨some 84, .q (.fa 1 (.t 83)), none⟩, ⟨none, .e (.st 1 (.t 84) (.t 82)), none⟩]
def c48_43 : List SOper := [⟨some 86, .q (.bin .eql (.t 64) (.c (.int .i64 2))), none⟩, ⟨some 85, .q (.mv (.t 86)), none⟩]
def c48_44 : List DOper := [⟨0, ⟨some 87, .q (.mv (.t 8)), none⟩, [], []⟩, ⟨1, ⟨some 88, .q (.mv (.t 8)), none⟩, [], []⟩, ⟨2, ⟨some 89, .q (.nil (.t 88)), none⟩, [], []⟩, ⟨3, ⟨some 90, .q (.fa 2 (.t 89)), none⟩, [], []⟩, ⟨4, ⟨some 91, .q (.ld (.t 90)), none⟩, [], []⟩, ⟨5, ⟨some 92, .q (.mv (.t 3)), none⟩, [], []⟩, ⟨6, ⟨some 93, .q (.len (.t 92)), none⟩, [], []⟩, ⟨7, ⟨some 94, .a (.bsl 3 1 [(.int .i64 0), (.int .i64 0), (.int .i64 0)] [(0, 1, (.c (.int .i64 (-1)))), (1, 1, (.c (.int .i64 0))), (2, 1, (.t 93))]), none⟩, [], []⟩, ⟨8, ⟨some 95, .q (.mv (.t 0)), none⟩, [], []⟩, ⟨9, ⟨some 96, .e (.call 46 [(.t 95), (.c (.int .i64 3))]), none⟩, [], [4]⟩, ⟨10, ⟨some 97, .q (.ia 1 (.t 94) (.t 96)), none⟩, [], []⟩, ⟨11, ⟨some 98, .q (.ld (.t 97)), none⟩, [], []⟩, ⟨12, ⟨some 99, .a (.bsl 1 1 [(.int .i64 0)] [(0, 1, (.t 98))]), none⟩, [], []⟩, ⟨13, ⟨some 100, .e (.app 8 1 (.t 91) (.t 99)), none⟩, [], []⟩, ⟨14, ⟨some 101, .q (.nil (.t 87)), none⟩, [], []⟩, ⟨15, ⟨some 102, .q (.fa 2 (.t 101)), none⟩, [], []⟩, ⟨16, ⟨none, .e (.st 1 (.t 102) (.t 100)), none⟩, [], []⟩]
def c48_45 : List SOper := [⟨some 104, .q (.bin .eql (.t 64) (.c (.int .i64 3))), none⟩, ⟨some 103, .q (.mv (.t 104)), none⟩]
def c48_46 : List SOper := [⟨some 105, .q (.mv (.t 8)), none⟩, ⟨some 106, .a (.bsl 3 1 [(.int .i64 0), (.int .i64 0), (.int .i64 0)] [(0, 1, (.c (.int .i64 0))), (1, 1, (.c (.int .i64 1000))), (2, 1, (.c (.int .i64 1001)))]), none⟩, ⟨some 107, .q (.mv (.t 0)), none⟩, ⟨some 108, .e (.call 46 [(.t 107), (.c (.int .i64 3))]), none⟩, ⟨some 109, .q (.ia 1 (.t 106) (.t 108)), none⟩, ⟨some 110, .q (.ld (.t 109)), none⟩, ⟨some 111, .q (.nil (.t 105)), none⟩, ⟨some 112, .q (.fa 3 (.t 111)), none⟩, ⟨none, .e (.st 1 (.t 112) (.t 110)), none⟩]
def c48_47 : SCode := .cond (.t 103) (.region c48_46 [0, 3]) .skip
def c48_48 : SCode := .seq (.region c48_45 [0, 3, 8, 103]) c48_47
def c48_49 : SCode := .cond (.t 85) (.dregion c48_44 [0, 3]) c48_48
def c48_50 : SCode := .seq (.region c48_43 [0, 3, 8, 64, 85]) c48_49
def c48_51 : SCode := .cond (.t 75) (.region c48_42 [0, 3]) c48_50
def c48_52 : SCode := .seq (.region c48_41 [0, 3, 8, 64, 75]) c48_51
def c48_53 : SCode := .cond (.t 65) (.region c48_40 [0, 3]) c48_52
def c48_54 : SCode := .seq (.region c48_39 [0, 3, 8, 64, 65]) c48_53
def c48_55 : SCode := .block 4 c48_54
def c48_56 : SCode := .seq (.region c48_38 [0, 3, 8, 64]) c48_55
def c48_57 : SCode := .seq (.region c48_37 [0, 3, 8]) c48_56
def c48_58 : SCode := .cond (.t 56) c48_57 .skip
def c48_59 : SCode := .seq (.region c48_36 [0, 3, 56]) c48_58
def c48_60 : List SOper := [⟨some 113, .q (.mv (.t 0)), none⟩, ⟨some 114, .e (.call 47 [(.t 113), (.c (.int .i64 60))]), none⟩]
def c48_61 : List SOper := [⟨some 115, .a (.bsl 0 4 [] []), none⟩, ⟨some 3, .q (.mv (.t 115)), none⟩]
def c48_62 : List SOper := [⟨some 9, .q (.mv (.c (.int .i64 0))), none⟩]
def c48_63 : List SOper := [⟨some 116, .q (.mv (.t 9)), none⟩, ⟨some 117, .q (.mv (.t 0)), none⟩, ⟨some 118, .e (.call 46 [(.t 117), (.c (.int .i64 2))]), none⟩, ⟨some 119, .q (.bin .add (.c (.int .i64 200)) (.t 118)), none⟩, ⟨some 120, .q (.bin .lss (.t 116) (.t 119)), none⟩]
def c48_64 : SCode := .cond (.t 120) .skip (.exit 5)
def c48_65 : SCode := .seq (.region c48_63 [0, 3, 9, 120]) c48_64
def c48_66 : List SOper := [⟨some 123, .q (.mv (.t 3)), none⟩, ⟨some 124, .q (.mv (.t 9)), none⟩, ⟨some 125, .q (.mv (.t 9)), none⟩, ⟨some 126, .q (.bin .rem (.t 125) (.c (.int .i64 7))), none⟩, ⟨some 127, .q (.bin .add (.c (.int .i64 1)) (.t 126)), none⟩, ⟨some 128, .q (.build [(.int .i64 0), (.int .i64 0), (.slice none 0 0), (.int .i64 0)] [(1, 1, (.t 124)), (3, 1, (.t 127))]), none⟩, ⟨some 129, .a (.bsl 1 4 [(.int .i64 0), (.int .i64 0), (.slice none 0 0), (.int .i64 0)] [(0, 4, (.t 128))]), none⟩, ⟨some 130, .e (.app 48 4 (.t 123) (.t 129)), none⟩, ⟨some 3, .q (.mv (.t 130)), none⟩]
def c48_67 : SCode := .block 6 (.region c48_66 [0, 3, 9])
def c48_68 : List SOper := [⟨some 121, .q (.mv (.t 9)), none⟩, ⟨some 122, .q (.bin .add (.t 121) (.c (.int .i64 1))), none⟩, ⟨some 9, .q (.mv (.t 122)), none⟩]
def c48_69 : SCode := .seq c48_67 (.region c48_68 [0, 3, 9])
def c48_70 : SCode := .seq c48_65 c48_69
def c48_71 : SCode := .loop c48_70
def c48_72 : SCode := .block 5 c48_71
def c48_73 : SCode := .seq (.region c48_62 [0, 3, 9]) c48_72
def c48_74 : SCode := .seq (.region c48_61 [0, 3]) c48_73
def c48_75 : SCode := .cond (.t 114) c48_74 .skip
def c48_76 : SCode := .seq (.region c48_60 [0, 3, 114]) c48_75
def c48_77 : List SOper := [⟨some 131, .q (.mv (.t 3)), none⟩, ⟨some 2, .q (.mv (.t 131)), none⟩]
def c48_78 : SCode := .seq (.region c48_77 [2]) .ret
def c48_79 : SCode := .seq c48_76 c48_78
def c48_80 : SCode := .seq c48_59 c48_79
def c48_81 : SCode := .seq c48_35 c48_80
def c48_82 : SCode := .seq (.region c48_1 [0, 3]) c48_81
def c48_83 : SCode := .seq (.region c48_0 [0]) c48_82
def c48 : SCode := c48_83
theorem w48 : type_of% (And.intro (uR Try.prog c48_0.eq_1) (And.intro (uR Try.prog c48_1.eq_1) (And.intro (uR Try.prog c48_2.eq_1) (And.intro (uR Try.prog c48_3.eq_1) (And.intro (uC Try.prog c48_4.eq_1) (And.intro (uC Try.prog c48_5.eq_1) (And.intro (uR Try.prog c48_6.eq_1) (And.intro (uR Try.prog c48_7.eq_1) (And.intro (uR Try.prog c48_8.eq_1) (And.intro (uR Try.prog c48_9.eq_1) (And.intro (uC Try.prog c48_10.eq_1) (And.intro (uC Try.prog c48_11.eq_1) (And.intro (uR Try.prog c48_12.eq_1) (And.intro (uR Try.prog c48_13.eq_1) (And.intro (uR Try.prog c48_14.eq_1) (And.intro (uC Try.prog c48_15.eq_1) (And.intro (uC Try.prog c48_16.eq_1) (And.intro (uC Try.prog c48_17.eq_1) (And.intro (uC Try.prog c48_18.eq_1) (And.intro (uR Try.prog c48_19.eq_1) (And.intro (uC Try.prog c48_20.eq_1) (And.intro (uC Try.prog c48_21.eq_1) (And.intro (uC Try.prog c48_22.eq_1) (And.intro (uC Try.prog c48_23.eq_1) (And.intro (uC Try.prog c48_24.eq_1) (And.intro (uR Try.prog c48_25.eq_1) (And.intro (uC Try.prog c48_26.eq_1) (And.intro (uC Try.prog c48_27.eq_1) (And.intro (uC Try.prog c48_28.eq_1) (And.intro (uC Try.prog c48_29.eq_1) (And.intro (uR Try.prog c48_30.eq_1) (And.intro (uC Try.prog c48_31.eq_1) (And.intro (uC Try.prog c48_32.eq_1) (And.intro (uC Try.prog c48_33.eq_1) (And.intro (uC Try.prog c48_34.eq_1) (And.intro (uC Try.prog c48_35.eq_1) (And.intro (uR Try.prog c48_36.eq_1) (And.intro (uR Try.prog c48_37.eq_1) (And.intro (uR Try.prog c48_38.eq_1) (And.intro (uR Try.prog c48_39.eq_1) (And.intro (uR Try.prog c48_40.eq_1) (And.intro (uR Try.prog c48_41.eq_1) (And.intro (uR Try.prog c48_42.eq_1) (And.intro (uR Try.prog c48_43.eq_1) (And.intro (uD Try.prog c48_44.eq_1) (And.intro (uR Try.prog c48_45.eq_1) (And.intro (uR Try.prog c48_46.eq_1) (And.intro (uC Try.prog c48_47.eq_1) (And.intro (uC Try.prog c48_48.eq_1) (And.intro (uC Try.prog c48_49.eq_1) (And.intro (uC Try.prog c48_50.eq_1) (And.intro (uC Try.prog c48_51.eq_1) (And.intro (uC Try.prog c48_52.eq_1) (And.intro (uC Try.prog c48_53.eq_1) (And.intro (uC Try.prog c48_54.eq_1) (And.intro (uC Try.prog c48_55.eq_1) (And.intro (uC Try.prog c48_56.eq_1) (And.intro (uC Try.prog c48_57.eq_1) (And.intro (uC Try.prog c48_58.eq_1) (And.intro (uC Try.prog c48_59.eq_1) (And.intro (uR Try.prog c48_60.eq_1) (And.intro (uR Try.prog c48_61.eq_1) (And.intro (uR Try.prog c48_62.eq_1) (And.intro (uR Try.prog c48_63.eq_1) (And.intro (uC Try.prog c48_64.eq_1) (And.intro (uC Try.prog c48_65.eq_1) (And.intro (uR Try.prog c48_66.eq_1) (And.intro (uC Try.prog c48_67.eq_1) (And.intro (uR Try.prog c48_68.eq_1) (And.intro (uC Try.prog c48_69.eq_1) (And.intro (uC Try.prog c48_70.eq_1) (And.intro (uC Try.prog c48_71.eq_1) (And.intro (uC Try.prog c48_72.eq_1) (And.intro (uC Try.prog c48_73.eq_1) (And.intro (uC Try.prog c48_74.eq_1) (And.intro (uC Try.prog c48_75.eq_1) (And.intro (uC Try.prog c48_76.eq_1) (And.intro (uR Try.prog c48_77.eq_1) (And.intro (uC Try.prog c48_78.eq_1) (And.intro (uC Try.prog c48_79.eq_1) (And.intro (uC Try.prog c48_80.eq_1) (And.intro (uC Try.prog c48_81.eq_1) (And.intro (uC Try.prog c48_82.eq_1) (And.intro (uC Try.prog c48_83.eq_1) (uC Try.prog c48.eq_1))))))))))))))))))))))))))))))))))))))))))))))))))))))))))))))))))))))))))))))))))))) := (And.intro (uR Try.prog c48_0.eq_1) (And.intro (uR Try.prog c48_1.eq_1) (And.intro (uR Try.prog c48_2.eq_1) (And.intro (uR Try.prog c48_3.eq_1) (And.intro (uC Try.prog c48_4.eq_1) (And.intro (uC Try.prog c48_5.eq_1) (And.intro (uR Try.prog c48_6.eq_1) (And.intro (uR Try.prog c48_7.eq_1) (And.intro (uR Try.prog c48_8.eq_1) (And.intro (uR Try.prog c48_9.eq_1) (And.intro (uC Try.prog c48_10.eq_1) (And.intro (uC Try.prog c48_11.eq_1) (And.intro (uR Try.prog c48_12.eq_1) (And.intro (uR Try.prog c48_13.eq_1) (And.intro (uR Try.prog c48_14.eq_1) (And.intro (uC Try.prog c48_15.eq_1) (And.intro (uC Try.prog c48_16.eq_1) (And.intro (uC Try.prog c48_17.eq_1) (And.intro (uC Try.prog c48_18.eq_1) (And.intro (uR Try.prog c48_19.eq_1) (And.intro (uC Try.prog c48_20.eq_1) (And.intro (uC Try.prog c48_21.eq_1) (And.intro (uC Try.prog c48_22.eq_1) (And.intro (uC Try.prog c48_23.eq_1) (And.intro (uC Try.prog c48_24.eq_1) (And.intro (uR Try.prog c48_25.eq_1) (And.intro (uC Try.prog c48_26.eq_1) (And.intro (uC Try.prog c48_27.eq_1) (And.intro (uC Try.prog c48_28.eq_1) (And.intro (uC Try.prog c48_29.eq_1) (And.intro (uR Try.prog c48_30.eq_1) (And.intro (uC Try.prog c48_31.eq_1) (And.intro (uC Try.prog c48_32.eq_1) (And.intro (uC Try.prog c48_33.eq_1) (And.intro (uC Try.prog c48_34.eq_1) (And.intro (uC Try.prog c48_35.eq_1) (And.intro (uR Try.prog c48_36.eq_1) (And.intro (uR Try.prog c48_37.eq_1) (And.intro (uR Try.prog c48_38.eq_1) (And.intro (uR Try.prog c48_39.eq_1) (And.intro (uR Try.prog c48_40.eq_1) (And.intro (uR Try.prog c48_41.eq_1) (And.intro (uR Try.prog c48_42.eq_1) (And.intro (uR Try.prog c48_43.eq_1) (And.intro (uD Try.prog c48_44.eq_1) (And.intro (uR Try.prog c48_45.eq_1) (And.intro (uR Try.prog c48_46.eq_1) (And.intro (uC Try.prog c48_47.eq_1) (And.intro (uC Try.prog c48_48.eq_1) (And.intro (uC Try.prog c48_49.eq_1) (And.intro (uC Try.prog c48_50.eq_1) (And.intro (uC Try.prog c48_51.eq_1) (And.intro (uC Try.prog c48_52.eq_1) (And.intro (uC Try.prog c48_53.eq_1) (And.intro (uC Try.prog c48_54.eq_1) (And.intro (uC Try.prog c48_55.eq_1) (And.intro (uC Try.prog c48_56.eq_1) (And.intro (uC Try.prog c48_57.eq_1) (And.intro (uC Try.prog c48_58.eq_1) (And.intro (uC Try.prog c48_59.eq_1) (And.intro (uR Try.prog c48_60.eq_1) (And.intro (uR Try.prog c48_61.eq_1) (And.intro (uR Try.prog c48_62.eq_1) (And.intro (uR Try.prog c48_63.eq_1) (And.intro (uC Try.prog c48_64.eq_1) (And.intro (uC Try.prog c48_65.eq_1) (And.intro (uR Try.prog c48_66.eq_1) (And.intro (uC Try.prog c48_67.eq_1) (And.intro (uR Try.prog c48_68.eq_1) (And.intro (uC Try.prog c48_69.eq_1) (And.intro (uC Try.prog c48_70.eq_1) (And.intro (uC Try.prog c48_71.eq_1) (And.intro (uC Try.prog c48_72.eq_1) (And.intro (uC Try.prog c48_73.eq_1) (And.intro (uC Try.prog c48_74.eq_1) (And.intro (uC Try.prog c48_75.eq_1) (And.intro (uC Try.prog c48_76.eq_1) (And.intro (uR Try.prog c48_77.eq_1) (And.intro (uC Try.prog c48_78.eq_1) (And.intro (uC Try.prog c48_79.eq_1) (And.intro (uC Try.prog c48_80.eq_1) (And.intro (uC Try.prog c48_81.eq_1) (And.intro (uC Try.prog c48_82.eq_1) (And.intro (uC Try.prog c48_83.eq_1) (uC Try.prog c48.eq_1)))))))))))))))))))))))))))))))))))))))))))))))))))))))))))))))))))))))))))))))))))))
def v48 : List RV := [.t 2]
theorem s48 : slimF Try.prog Try.f48 = some (c48.bare, v48) := by kernel_rfl

/-! ### A job that is drawn -/
theorem Cur.stepG {h h' : Heap} {c g : Nat} (k : Cur h c) (e : ExtG g h h') (hg : c < g) : Cur h' c := by
  obtain ⟨h0, bv, code, pos, hh, k1, k2, k3, k4, k5, k6⟩ := k
  exact ⟨h0, bv, code, pos, hh, k1, e.ext k2 (by omega), k3, k4, k5, k6.step e (by omega)⟩
structure TG where
  r : TaskR
  ns : List Int
  g : Nat
def TG.task (x : TG) : Task := ⟨x.r.kind, x.r.value, x.ns, x.r.cost⟩
def JB (a : Nat) (h : Heap) (v : Value) (l : List Task) : Prop := ∃ (xs : List TG) (g : Nat), l = xs.map TG.task ∧ a ≤ g ∧ g < h.size ∧ OwnT g h encT 4 v (xs.map TG.r) ∧
  (∀ x ∈ xs, OwnT x.g h encI 1 x.r.nv x.ns ∧ a ≤ x.g ∧ x.g ≠ g ∧ x.g < h.size) ∧ (xs.map TG.g).Nodup
theorem ownT_extX {α : Type} {g c : Nat} {h h' : Heap} {enc : α → List Value} {sz : Nat} {v : Value} {l : List α} (o : OwnT g h enc sz v l) (e : ExtX [c] h h') (hg : g ≠ c) : OwnT g h' enc sz v l := by
  exact o.extG (ExtX.toG e) hg
theorem own_lt {α : Type} {g : Nat} {h : Heap} {enc : α → List Value} {sz : Nat} {v : Value} {l : List α} (o : OwnT g h enc sz v l) (hv : v ≠ .slice none 0 0) : g < h.size := by
  rcases o.own with ⟨rfl, _⟩ | ⟨i, off, n, ob, rfl, h2, h3⟩
  · exact absurd rfl hv
  · have := Heap.get_lt h2; have := Heap.grp_le h2
    have : ob.grp = g := h3.2.2.2.2
    omega
theorem own_lt' {α : Type} {g : Nat} {h : Heap} {enc : α → List Value} {sz : Nat} {v : Value} {l : List α} (o : OwnT g h enc sz v l) (hl : 0 < l.length) : g < h.size := by
  refine own_lt o ?_
  rintro rfl
  have := o.slt.slLen
  simp [slLen] at this
  omega
section
variable {a c : Nat} {h h' : Heap} {v : Value} {l : List Task}
theorem JB.at (j : JB a h v l) : JobAt h v l := by
  obtain ⟨xs, g, rfl, _, _, o, hx, _⟩ := j
  refine ⟨_, o.slt, by simp, fun i h1 h2 => ?_⟩
  simp at h1
  simp only [List.getElem_map]
  exact ⟨rfl, rfl, rfl, (hx _ (List.getElem_mem h1)).1.slt⟩
theorem JB.extX (j : JB a h v l) (e : ExtX [c] h h') (hc : c < a) : JB a h' v l := by
  obtain ⟨xs, g, rfl, g1, g2, o, hx, hn⟩ := j
  have := e.1
  exact ⟨xs, g, rfl, g1, by omega, ownT_extX o e (by omega), fun x hm => by have q := hx x hm; exact ⟨ownT_extX q.1 e (by omega), q.2.1, q.2.2.1, by omega⟩, hn⟩
theorem JB.ext (j : JB a h v l) (e : Ext h h') : JB a h' v l := by
  obtain ⟨xs, g, rfl, g1, g2, o, hx, hn⟩ := j
  have := e.1
  exact ⟨xs, g, rfl, g1, by omega, o.ext e, fun x hm => by have q := hx x hm; exact ⟨q.1.ext e, q.2.1, q.2.2.1, by omega⟩, hn⟩
theorem JB.lo {a' : Nat} (j : JB a h v l) (ha : a' ≤ a) : JB a' h v l := by
  obtain ⟨xs, g, rfl, g1, g2, o, hx, hn⟩ := j
  exact ⟨xs, g, rfl, by omega, g2, o, fun x hm => by have q := hx x hm; exact ⟨q.1, by omega, q.2.2.1, q.2.2.2⟩, hn⟩
theorem JB.new0 (h : Heap) : JB h.size (h.more [[]]) (.slice (some ⟨h.size, 0, none⟩) 0 4) [] :=
  ⟨[], h.size, rfl, Nat.le_refl _, by rw [size_more]; simp, OwnT.new0 h encT_len (by omega), fun x hx => (by cases hx), List.nodup_nil⟩
theorem JB.push {h1 K : Heap} (j : JB a h1 v l) (e : ExtX [c] h1 K) (hc : c < a) {nv : Value} {ns : List Int} {gi : Nat} (o : OwnT gi K encI 1 nv ns) (b1 : h1.size ≤ gi) (b2 : gi ≤ K.size) (kind value cost : Int) (hl : l.length ≤ 1000000) :
    ∃ v2 K2, appV (K.more [encT ⟨kind, value, nv, cost⟩]) 48 4 v (.slice (some ⟨K.size, 0, none⟩) 1 4) = some (v2, K2) ∧ JB a K2 v2 (l ++ [⟨kind, value, ns, cost⟩]) ∧ ∃ g, a ≤ g ∧ ExtG g (K.more [encT ⟨kind, value, nv, cost⟩]) K2 := by
  obtain ⟨xs, g, rfl, g1, g2, og, hx, hn⟩ := id j
  have e1 := Ext.more K [encT ⟨kind, value, nv, cost⟩]
  have og2 := (ownT_extX og e (by omega)).ext e1
  have s : SlT (K.more [encT ⟨kind, value, nv, cost⟩]) encT 4 (.slice (some ⟨K.size, 0, none⟩) 1 4) [⟨kind, value, nv, cost⟩] := by
    have := (OwnT.new K [⟨kind, value, nv, cost⟩] encT_len (by omega)).slt
    simpa using this
  simp only [List.length_map] at hl
  obtain ⟨v2, K2, g', ea, O, G, hg'⟩ := og2.app s (bytes := 48) (by simp; omega)
  have hK := e.1
  have hsz := G.1
  rw [size_more] at hsz hg'
  simp only [List.length_singleton] at hsz hg'
  have hlt := own_lt' O (by simp)
  refine ⟨v2, K2, ea, ⟨xs ++ [⟨⟨kind, value, nv, cost⟩, ns, gi⟩], g', by simp [TG.task], by omega, hlt, by simpa using O, fun x hm => ?_, ?_⟩, g, g1, G⟩
  · rw [List.mem_append, List.mem_singleton] at hm
    rcases hm with hm | rfl
    · have q := hx x hm
      exact ⟨((ownT_extX q.1 e (by omega)).ext e1).extG G q.2.2.1, q.2.1, by omega, by omega⟩
    · have : gi ≠ g := by omega
      simp only
      exact ⟨(o.ext e1).extG G this, by omega, by omega, by omega⟩
  · rw [List.map_append, List.nodup_append]
    refine ⟨hn, by simp, ?_⟩
    intro x hx1 y hy
    simp only [List.map_cons, List.map_nil, List.mem_singleton] at hy
    subst hy
    obtain ⟨z, hz, rfl⟩ := List.mem_map.mp hx1
    have := (hx z hz).2.2.2
    omega
/-- A store into one of the tasks. -/
theorem JB.setF (j : JB a h v l) {k f n : Nat} (hk : k < l.length) {y : Value} (x' : TaskR → TaskR) (hx : ∀ r : TaskR, splice (encT r) f y.cells.toList = encT (x' r) ∧ (x' r).nv = r.nv) (hn : 0 < n) (hy : y.cells.size = n) (hf : f + n ≤ 4) (h1 : oneB y.cells.toList = true) :
    ∃ h2, stV h n (ptrAt v (k * 4 + f)) y = some h2 ∧ (∃ l', l'.length = l.length ∧ JB a h2 v l') ∧ ∃ g, a ≤ g ∧ ExtG g h h2 := by
  obtain ⟨xs, g, rfl, g1, g2, o, hxs, hnd⟩ := id j
  simp only [List.length_map] at hk
  obtain ⟨h2, e, O, G, S⟩ := o.setF (j := k) (f := f) (n := n) (by simpa using hk) (x := x' xs[k].r) (y := y) (by simpa using (hx xs[k].r).1) hn hy hf h1
  refine ⟨h2, e, ⟨_, ?_, xs.set k ⟨x' xs[k].r, xs[k].ns, xs[k].g⟩, g, rfl, g1, by omega, ?_, fun x hm => ?_, ?_⟩, g, g1, G⟩
  · simp
  · rw [List.map_set]; exact O
  · rcases List.mem_or_eq_of_mem_set hm with hm | rfl
    · have q := hxs x hm
      exact ⟨q.1.extG G q.2.2.1, q.2.1, q.2.2.1, by omega⟩
    · have q := hxs _ (List.getElem_mem hk)
      simp only
      rw [(hx xs[k].r).2]
      exact ⟨q.1.extG G q.2.2.1, q.2.1, q.2.2.1, by omega⟩
  · rw [List.map_set]
    have : (xs.map TG.g).set k xs[k].g = xs.map TG.g := by
      refine List.ext_getElem (by simp) fun i h1 h2 => ?_
      rw [List.getElem_set]
      split
      · rename_i q; subst q; simp
      · rfl
    show ((xs.map TG.g).set k xs[k].g).Nodup
    rw [this]; exact hnd
theorem JB.raw (j : JB a h v l) {k : Nat} (hk : k < l.length) : ∃ nv, ldV h (ptrAt v (k * 4 + 2)) = some nv ∧ SlT h encI 1 nv l[k].needs := by
  obtain ⟨rs, s, hl, H⟩ := j.at
  have hk2 : k < rs.length := by omega
  exact ⟨rs[k].nv, by have := s.rulesN.2.2.2.1 k 2 hk2 (by omega); simpa [encT] using this, (H k hk2 hk).2.2.2⟩
/-- A number appended to one task's row. -/
theorem JB.app1 (j : JB a h v l) {k : Nat} (hk : k < l.length) {nv : Value} (hv : ldV h (ptrAt v (k * 4 + 2)) = some nv) (x : Int) (hb : ∀ t ∈ l, t.needs.length ≤ 1000) :
    ∃ v2 K2 K3, appV (h.more [encI x]) 8 1 nv (.slice (some ⟨h.size, 0, none⟩) 1 1) = some (v2, K2) ∧ stV K2 1 (ptrAt v (k * 4 + 2)) v2 = some K3 ∧ (∃ l', l'.length = l.length ∧ JB a K3 v l') ∧
      (∃ g, a ≤ g ∧ ExtG g (h.more [encI x]) K2) ∧ ∃ g, a ≤ g ∧ ExtG g K2 K3 := by
  obtain ⟨xs, g, rfl, g1, g2, o, hxs, hnd⟩ := id j
  simp only [List.length_map] at hk
  have hk2 : k < (xs.map TG.r).length := by simpa using hk
  have hnv : nv = xs[k].r.nv := by
    have := o.slt.rulesN.2.2.2.1 k 2 hk2 (by omega)
    rw [hv] at this
    simpa [encT] using this
  subst hnv
  obtain ⟨q1, q2, q3, q4⟩ := hxs _ (List.getElem_mem hk)
  have e1 := Ext.more h [encI x]
  have s : SlT (h.more [encI x]) encI 1 (.slice (some ⟨h.size, 0, none⟩) 1 1) [x] := by
    have := (OwnT.new h [x] encI_len (by omega)).slt
    simpa using this
  have hb2 : xs[k].ns.length ≤ 1000 := hb xs[k].task (List.mem_map.mpr ⟨xs[k], List.getElem_mem hk, rfl⟩)
  obtain ⟨v2, K2, g', ea, O, G, hg'⟩ := (q1.ext e1).app s (bytes := 8) (by simp; omega)
  have cv := cells_slT O.slt; have ov := oneB_slT O.slt
  have o2 := (o.ext e1).extG G (Ne.symm q3)
  have hlt := own_lt' O (by simp)
  have hsz := G.1
  rw [size_more] at hsz hg'
  simp only [List.length_singleton] at hsz hg'
  obtain ⟨K3, es, O3, G3, S3⟩ := o2.setF (j := k) (f := 2) (n := 1) hk2 (x := ⟨xs[k].r.kind, xs[k].r.value, v2, xs[k].r.cost⟩) (y := v2) (by simp [encT, splice, cv]) (by omega) (by rw [cv]; rfl) (by omega) (by rw [cv]; simp [ov, oneB_nil])
  have hgg : g' ≠ g := by rcases hg' with rfl | rfl <;> omega
  refine ⟨v2, K2, K3, ea, es, ⟨_, ?_, xs.set k ⟨⟨xs[k].r.kind, xs[k].r.value, v2, xs[k].r.cost⟩, xs[k].ns ++ [x], g'⟩, g, rfl, g1, by omega, ?_, fun y hm => ?_, ?_⟩, ⟨xs[k].g, q2, G⟩, g, g1, G3⟩
  · simp
  · rw [List.map_set]; exact O3
  · obtain ⟨i, hi, rfl⟩ := List.mem_iff_getElem.mp hm
    rw [List.getElem_set]
    split
    · simp only
      refine ⟨O.extG G3 hgg, ?_, hgg, by omega⟩
      rcases hg' with rfl | rfl <;> omega
    · rename_i hik
      simp only [List.length_set] at hi
      have q := hxs _ (List.getElem_mem hi)
      have hne : xs[i].g ≠ xs[k].g := by
        intro hh
        have := (List.getElem_inj (i := i) (j := k) (h₀ := by simpa using hi) (h₁ := by simpa using hk) hnd).mp (by simpa using hh)
        omega
      exact ⟨((q.1.ext e1).extG G hne).extG G3 q.2.2.1, q.2.1, q.2.2.1, by omega⟩
  · rw [List.map_set]
    show ((xs.map TG.g).set k g').Nodup
    rcases hg' with rfl | rfl
    · have : (xs.map TG.g).set k xs[k].g = xs.map TG.g := by
        refine List.ext_getElem (by simp) fun i h1 h2 => ?_
        rw [List.getElem_set]
        split
        · rename_i q; subst q; simp
        · rfl
      rw [this]; exact hnd
    · rw [List.nodup_iff_pairwise_ne, List.pairwise_iff_getElem] at hnd ⊢
      intro i i' hi hi' hii
      simp only [List.length_set, List.length_map] at hi hi'
      have hq := hnd i i' (by simpa using hi) (by simpa using hi') hii
      have b1 := (hxs _ (List.getElem_mem hi)).2.2.2
      have b2 := (hxs _ (List.getElem_mem hi')).2.2.2
      rw [List.getElem_set, List.getElem_set]
      simp only [List.getElem_map] at hq ⊢
      split <;> split <;> omega
end
theorem Fk_inner {c p : Nat} {h1 K : Heap} {nv : Value} {ns : List Int} {cs : List Value} (F : Fk [c] h1 K encI 1 nv ns [(p, cs)]) : ∃ gi, OwnT gi K encI 1 nv ns ∧ h1.size ≤ gi ∧ gi < K.size := by
  obtain ⟨g, q1, q2, q3⟩ := F.own
  have hb := F.box (p, cs) (by simp)
  by_cases hv : nv = .slice none 0 0
  · refine ⟨p, ⟨?_, q2.hs, q2.pos⟩, hb.1, Heap.get_lt hb.2⟩
    rcases q2.own with ⟨_, h2⟩ | ⟨i, off, n, ob, h, _⟩
    · exact .inl ⟨hv, h2⟩
    · rw [hv] at h; cases h
  · exact ⟨g, q2, q1, own_lt q2 hv⟩
theorem toX1 {c : Nat} {h h' : Heap} (e : ExtG c h h') : ExtX [c] h h' := e.toX (by simp)
theorem l16DrawJob_ok (h : Heap) (c : Nat) (k : Cur h c) : ACall Try.prog 48 [.pointer (some ⟨c, 0, none⟩)] h
    fun r h' => ∃ l, ExtX [c] h h' ∧ Cur h' c ∧ JB h.size h' r l ∧ l.length ≤ 300 := by
  have hc := k.lt
  refine ACall.of Try.func48 s48 (of_decide_eq_true rfl) ?_
  simp (maxSteps := 4000000) (disch := omega) only [ah, am, Nat.reduceEqDiff, reduceCtorEq, Nat.reduceAdd, Nat.reduceLeDiff, Nat.reduceMul, Nat.reduceLT, if_true, if_false, true_and, and_true, and_self, Nat.reduceBEq, QOp.loads, boxO, bslO, buildO, cutL, fillV, putL, w48, v48]
  refine stepC.of (l1Below_ok _ _ _ (k.ext (Ext.more h _))) ?_
  rintro _ H1 ⟨n, rfl, n1, n2, _, g1, k1⟩
  obtain ⟨n, rfl⟩ : ∃ m : Nat, n = (m : Int) := ⟨n.toNat, by omega⟩
  have n3 := n2 (by omega)
  have X1 : ExtX [c] h H1 := (Ext.more h [[]]).toX.trans (toX1 g1)
  have J1 : JB h.size H1 (.slice (some ⟨h.size, 0, none⟩) 0 4) [] := (JB.new0 h).extX (toX1 g1) hc
  simp (maxSteps := 4000000) (disch := omega) only [ah, am, Nat.reduceEqDiff, reduceCtorEq, Nat.reduceAdd, Nat.reduceLeDiff, Nat.reduceMul, Nat.reduceLT, if_true, if_false, true_and, and_true, and_self, Nat.reduceBEq, QOp.loads, boxO, bslO, buildO, cutL, fillV, putL, w48, v48]
  refine ⟨fun m E K => ∃ ov l, E = [(0, .pointer (some ⟨c, 0, none⟩)), (3, ov), (4, .int .i64 m)] ∧ Cur K c ∧ ExtX [c] h K ∧ JB h.size K ov l ∧ l.length + m ≤ 12 ∧ ∀ t ∈ l, t.needs.length ≤ 10,
    ⟨n, _, [], rfl, k1, X1, J1, by simp; omega, fun t ht => by cases ht⟩, ?_⟩
  rintro m E K ⟨ov, l, rfl, kc, X, J, hlm, hnb⟩
  simp (maxSteps := 4000000) (disch := omega) only [ah, am, Nat.reduceEqDiff, reduceCtorEq, Nat.reduceAdd, Nat.reduceLeDiff, Nat.reduceMul, Nat.reduceLT, if_true, if_false, true_and, and_true, and_self, Nat.reduceBEq, QOp.loads, boxO, bslO, buildO, cutL, fillV, putL, w48, v48]
  refine stepI.split (fun hp => ?_) (fun hp => ?_)
  · obtain ⟨m, rfl⟩ : ∃ m', m = m' + 1 := ⟨m - 1, by omega⟩
    have Wm : IntKind.i64.wrap (((m + 1 : Nat) : Int) - 1) = (m : Int) := i64e (by omega) (by omega)
    simp (maxSteps := 4000000) (disch := omega) only [ah, am, Nat.reduceEqDiff, reduceCtorEq, Nat.reduceAdd, Nat.reduceLeDiff, Nat.reduceMul, Nat.reduceLT, if_true, if_false, true_and, and_true, and_self, Nat.reduceBEq, QOp.loads, boxO, bslO, buildO, cutL, fillV, putL, w48, v48]
    refine stepC.of (l1Below_ok _ _ _ kc) ?_
    rintro _ K1 ⟨x1, rfl, a1, a2, _, g1, kc⟩
    simp (maxSteps := 4000000) (disch := omega) only [ah, am, Nat.reduceEqDiff, reduceCtorEq, Nat.reduceAdd, Nat.reduceLeDiff, Nat.reduceMul, Nat.reduceLT, if_true, if_false, true_and, and_true, and_self, Nat.reduceBEq, QOp.loads, boxO, bslO, buildO, cutL, fillV, putL, w48, v48]
    refine stepC.of (l1Below_ok _ _ _ kc) ?_
    rintro _ K2 ⟨x2, rfl, b1, b2, _, g2, kc⟩
    simp (maxSteps := 4000000) (disch := omega) only [ah, am, Nat.reduceEqDiff, reduceCtorEq, Nat.reduceAdd, Nat.reduceLeDiff, Nat.reduceMul, Nat.reduceLT, if_true, if_false, true_and, and_true, and_self, Nat.reduceBEq, QOp.loads, boxO, bslO, buildO, cutL, fillV, putL, w48, v48]
    refine stepC.of (l1Below_ok _ _ _ kc) ?_
    rintro _ K3 ⟨x3, rfl, d1, d2, _, g3, kc⟩
    have x3b := d2 (by omega)
    have X3 : ExtX [c] K K3 := ((toX1 g1).trans (toX1 g2)).trans (toX1 g3)
    have J3 := J.extX X3 hc
    have hcK := kc.lt
    simp (maxSteps := 4000000) (disch := omega) only [ah, am, Nat.reduceEqDiff, reduceCtorEq, Nat.reduceAdd, Nat.reduceLeDiff, Nat.reduceMul, Nat.reduceLT, if_true, if_false, true_and, and_true, and_self, Nat.reduceBEq, QOp.loads, boxO, bslO, buildO, cutL, fillV, putL, w48, v48, i64w]
    refine stepC.of (l1Below_ok _ _ _ (kc.ext (Ext.more K3 _))) ?_
    rintro _ K4 ⟨y, rfl, y1, y2, _, g4, kc⟩
    obtain ⟨y, rfl⟩ : ∃ m : Nat, y = (m : Int) := ⟨y.toNat, by omega⟩
    have y3 := y2 (by omega)
    have F4 : Fk [c] K3 K4 encI 1 (.slice none 0 0) [] [(K3.size, [.int .i64 x1, .int .i64 x2, .slice none 0 0, .int .i64 (1 + x3)])] :=
      ((Fk.of (X := [c]) (Fresh.nil K3 encI_len (by omega))).more [[.int .i64 x1, .int .i64 x2, .slice none 0 0, .int .i64 (1 + x3)]]).stepG g4 (by simp) hcK
    simp (maxSteps := 4000000) (disch := omega) only [ah, am, Nat.reduceEqDiff, reduceCtorEq, Nat.reduceAdd, Nat.reduceLeDiff, Nat.reduceMul, Nat.reduceLT, if_true, if_false, true_and, and_true, and_self, Nat.reduceBEq, QOp.loads, boxO, bslO, buildO, cutL, fillV, putL, w48, v48]
    refine ⟨fun q E K5 => ∃ (at_ : Int) (nv : Value) (ns : List Int), E = [(0, .pointer (some ⟨c, 0, none⟩)), (3, ov), (4, .int .i64 ((m + 1 : Nat) : Int)), (5, .pointer (some ⟨K3.size, 0, none⟩)), (6, .int .i64 at_), (7, .int .i64 q)] ∧ Cur K5 c ∧
        Fk [c] K3 K5 encI 1 nv ns [(K3.size, [.int .i64 x1, .int .i64 x2, nv, .int .i64 (1 + x3)])] ∧ ns.length + q ≤ 3 ∧ -1 ≤ at_ ∧ at_ + 3 * q ≤ 100,
      ⟨y, -1, _, [], rfl, kc, F4, by simp; omega, by omega, by omega⟩, ?_⟩
    rintro q E K5 ⟨at_, nv, ns, rfl, kc, F5, hq1, hq2, hq3⟩
    simp (maxSteps := 4000000) (disch := omega) only [ah, am, Nat.reduceEqDiff, reduceCtorEq, Nat.reduceAdd, Nat.reduceLeDiff, Nat.reduceMul, Nat.reduceLT, if_true, if_false, true_and, and_true, and_self, Nat.reduceBEq, QOp.loads, boxO, bslO, buildO, cutL, fillV, putL, w48, v48]
    refine stepI.split (fun hp => ?_) (fun hp => ?_)
    · obtain ⟨q, rfl⟩ : ∃ q', q = q' + 1 := ⟨q - 1, by omega⟩
      have Wq : IntKind.i64.wrap (((q + 1 : Nat) : Int) - 1) = (q : Int) := i64e (by omega) (by omega)
      simp (maxSteps := 4000000) (disch := omega) only [ah, am, Nat.reduceEqDiff, reduceCtorEq, Nat.reduceAdd, Nat.reduceLeDiff, Nat.reduceMul, Nat.reduceLT, if_true, if_false, true_and, and_true, and_self, Nat.reduceBEq, QOp.loads, boxO, bslO, buildO, cutL, fillV, putL, w48, v48]
      refine stepC.of (l1Below_ok _ _ _ kc) ?_
      rintro _ K6 ⟨z, rfl, z1, z2, _, g6, kc⟩
      have z3 := z2 (by omega)
      have F6 := F5.stepG g6 (by simp) hcK
      have J6 := J3.extX F6.ext hc
      obtain ⟨rs, sr, hlr, _⟩ := J6.at
      have Rj := sr.rulesN
      simp only [hlr] at Rj
      have Wa : IntKind.i64.wrap (IntKind.i64.wrap (at_ + 1) + z) = at_ + 1 + z := by rw [show IntKind.i64.wrap (at_ + 1) = at_ + 1 from i64w (by omega)]; exact i64w (by omega)
      simp (maxSteps := 4000000) (disch := omega) only [ah, am, Nat.reduceEqDiff, reduceCtorEq, Nat.reduceAdd, Nat.reduceLeDiff, Nat.reduceMul, Nat.reduceLT, if_true, if_false, true_and, and_true, and_self, Nat.reduceBEq, QOp.loads, boxO, bslO, buildO, cutL, fillV, putL, w48, v48, Rj, Wa]
      refine stepI.split (fun hq => ?_) (fun hq => ?_)
      · obtain ⟨v2, K7, ea, F7, g, gg, eg⟩ := F6.app1g [] (at_ + 1 + z) (bytes := 8) (by omega)
        simp only [List.nil_append, List.length_nil, Nat.add_zero, boxesAt, List.append_nil, encI] at ea F7 eg
        have cv := cells_slT F7.slt; have ob := oneB_slT F7.slt
        obtain ⟨K8, es, F8, gs, _⟩ := F7.put1 (o := 2) (n := 1) (y := v2) (by rw [cv]; rfl) (by simp) (by rw [cv]; simp [ob, oneB_nil])
        have X6 := (F6.ld (List.mem_singleton.mpr rfl)).1
        simp only [cv, splice, List.take_succ_cons, List.take_zero, List.length_cons, List.length_nil, List.drop_succ_cons, List.drop_zero, List.cons_append, List.nil_append] at F8
        simp (maxSteps := 4000000) (disch := omega) only [ah, am, Nat.reduceEqDiff, reduceCtorEq, Nat.reduceAdd, Nat.reduceLeDiff, Nat.reduceMul, Nat.reduceLT, if_true, if_false, true_and, and_true, and_self, Nat.reduceBEq, QOp.loads, boxO, bslO, buildO, cutL, fillV, putL, w48, v48, X6, ea, es, Wq]
        exact ⟨q, by omega, _, _, _, rfl, ((kc.ext (Ext.more _ _)).stepG eg (by omega)).stepG gs (by omega), F8, by simp; omega, by omega, by omega⟩
      · simp (maxSteps := 4000000) (disch := omega) only [ah, am, Nat.reduceEqDiff, reduceCtorEq, Nat.reduceAdd, Nat.reduceLeDiff, Nat.reduceMul, Nat.reduceLT, if_true, if_false, true_and, and_true, and_self, Nat.reduceBEq, QOp.loads, boxO, bslO, buildO, cutL, fillV, putL, w48, v48, Wq]
        exact ⟨q, by omega, _, _, _, rfl, kc, F6, by omega, by omega, by omega⟩
    · simp (maxSteps := 4000000) (disch := omega) only [ah, am, Nat.reduceEqDiff, reduceCtorEq, Nat.reduceAdd, Nat.reduceLeDiff, Nat.reduceMul, Nat.reduceLT, if_true, if_false, true_and, and_true, and_self, Nat.reduceBEq, QOp.loads, boxO, bslO, buildO, cutL, fillV, putL, w48, v48]
      have X5 := (F5.ld (List.mem_singleton.mpr rfl)).2
      have cv := cells_slT F5.slt; have ob := oneB_slT F5.slt
      obtain ⟨gi, oi, i1, i2⟩ := Fk_inner F5
      obtain ⟨v2, K6, ea, J6, g, gg, eg⟩ := J3.push F5.ext hc oi i1 (by omega) x1 x2 (1 + x3) (by omega)
      simp only [encT] at ea eg
      simp (maxSteps := 4000000) (disch := omega) only [ah, am, Nat.reduceEqDiff, reduceCtorEq, Nat.reduceAdd, Nat.reduceLeDiff, Nat.reduceMul, Nat.reduceLT, if_true, if_false, true_and, and_true, and_self, Nat.reduceBEq, QOp.loads, boxO, bslO, buildO, cutL, fillV, putL, w48, v48, X5, cv, ob, ea, Wm]
      refine ⟨m, by omega, v2, _, rfl, (kc.ext (Ext.more _ _)).stepG eg (by omega), ((X.trans X3).trans (F5.ext.trans (Ext.more _ _).toX)).top eg gg, J6, by simp; omega, fun t ht => ?_⟩
      rw [List.mem_append, List.mem_singleton] at ht
      rcases ht with ht | rfl
      · exact hnb t ht
      · simp only; omega
  · simp (maxSteps := 4000000) (disch := omega) only [ah, am, Nat.reduceEqDiff, reduceCtorEq, Nat.reduceAdd, Nat.reduceLeDiff, Nat.reduceMul, Nat.reduceLT, if_true, if_false, true_and, and_true, and_self, Nat.reduceBEq, QOp.loads, boxO, bslO, buildO, cutL, fillV, putL, w48, v48]
    have rest : ∀ {K : Heap} {ov : Value} {l : List Task} {T : Env}, Cur K c → ExtX [c] h K → JB h.size K ov l → l.length ≤ 300 → (T = [] ∨ T = [(56, .bool false)]) →
        SW Try.prog c48_79 (retQ [RV.t 2] fun r h' => ∃ l, ExtX [c] h h' ∧ Cur h' c ∧ JB h.size h' r l ∧ l.length ≤ 300) ([(0, .pointer (some ⟨c, 0, none⟩)), (3, ov)] ++ T) K := by
      intro K ov l T kc X J hl hT
      rcases hT with rfl | rfl
      all_goals
        simp only [List.append_nil, List.cons_append, List.nil_append]
        simp (maxSteps := 4000000) (disch := omega) only [ah, am, Nat.reduceEqDiff, reduceCtorEq, Nat.reduceAdd, Nat.reduceLeDiff, Nat.reduceMul, Nat.reduceLT, if_true, if_false, true_and, and_true, and_self, Nat.reduceBEq, QOp.loads, boxO, bslO, buildO, cutL, fillV, putL, w48, v48]
        refine stepC.of (l1Once_ok _ _ _ kc) ?_
        rintro _ K1 ⟨b, rfl, g1, kc⟩
        have X1 := X.trans (toX1 g1)
        have J1 := J.extX (toX1 g1) hc
        cases b with
        | false =>
          simp (maxSteps := 4000000) (disch := omega) only [ah, am, Nat.reduceEqDiff, reduceCtorEq, Nat.reduceAdd, Nat.reduceLeDiff, Nat.reduceMul, Nat.reduceLT, if_true, if_false, true_and, and_true, and_self, Nat.reduceBEq, QOp.loads, boxO, bslO, buildO, cutL, fillV, putL, w48, v48]
          exact ⟨l, X1, kc, J1, hl⟩
        | true =>
          simp (maxSteps := 4000000) (disch := omega) only [ah, am, Nat.reduceEqDiff, reduceCtorEq, Nat.reduceAdd, Nat.reduceLeDiff, Nat.reduceMul, Nat.reduceLT, if_true, if_false, true_and, and_true, and_self, Nat.reduceBEq, QOp.loads, boxO, bslO, buildO, cutL, fillV, putL, w48, v48]
          have hs := X1.1
          refine SW_loop_up (fun i E K => ∃ ov l, E = [(0, .pointer (some ⟨c, 0, none⟩)), (3, ov), (9, .int .i64 i)] ∧ Cur K c ∧ ExtX [c] h K ∧ JB h.size K ov l ∧ l.length = i) 202 0 (by omega)
            ⟨_, [], rfl, kc.ext (Ext.more _ _), X1.trans (Ext.more _ _).toX, (JB.new0 K1).lo hs, rfl⟩ ?_
          rintro i E K hi ⟨ov, l, rfl, kc, X, J, hl⟩
          have W : IntKind.i64.wrap ((i : Int) + 1) = ((i + 1 : Nat) : Int) := i64e (by omega) (by omega)
          simp (maxSteps := 4000000) (disch := omega) only [ah, am, Nat.reduceEqDiff, reduceCtorEq, Nat.reduceAdd, Nat.reduceLeDiff, Nat.reduceMul, Nat.reduceLT, if_true, if_false, true_and, and_true, and_self, Nat.reduceBEq, QOp.loads, boxO, bslO, buildO, cutL, fillV, putL, w48, v48]
          refine stepC.of (l1Below_ok _ _ _ kc) ?_
          rintro _ K2 ⟨y, rfl, y1, y2, _, g2, kc⟩
          have y3 := y2 (by omega)
          have X2 := X.trans (toX1 g2)
          have J2 := J.extX (toX1 g2) hc
          simp (maxSteps := 4000000) (disch := omega) only [ah, am, Nat.reduceEqDiff, reduceCtorEq, Nat.reduceAdd, Nat.reduceLeDiff, Nat.reduceMul, Nat.reduceLT, if_true, if_false, true_and, and_true, and_self, Nat.reduceBEq, QOp.loads, boxO, bslO, buildO, cutL, fillV, putL, w48, v48, i64w]
          refine stepI.split (fun hp => ?_) (fun hp => ?_)
          · obtain ⟨v2, K3, ea, J3, g, gg, eg⟩ := J2.push (c := c) (ExtX.refl _ _) hc (OwnT.nil K2.size K2 encI_len (by omega)) (Nat.le_refl _) (Nat.le_refl _) 0 i (1 + (i : Int).tmod 7) (by omega)
            simp only [encT] at ea eg
            have t1 : 0 ≤ (i : Int).tmod 7 := Int.tmod_nonneg _ (by omega)
            have t2 : (i : Int).tmod 7 < 7 := Int.tmod_lt_of_pos _ (by omega)
            simp (maxSteps := 4000000) (disch := omega) only [ah, am, Nat.reduceEqDiff, reduceCtorEq, Nat.reduceAdd, Nat.reduceLeDiff, Nat.reduceMul, Nat.reduceLT, if_true, if_false, true_and, and_true, and_self, Nat.reduceBEq, QOp.loads, boxO, bslO, buildO, cutL, fillV, putL, w48, v48, i64w, ea, W]
            exact ⟨by omega, v2, _, rfl, (kc.ext (Ext.more _ _)).stepG eg (by omega), (X2.trans (Ext.more _ _).toX).top eg gg, J3, by simp; omega⟩
          · simp (maxSteps := 4000000) (disch := omega) only [ah, am, Nat.reduceEqDiff, reduceCtorEq, Nat.reduceAdd, Nat.reduceLeDiff, Nat.reduceMul, Nat.reduceLT, if_true, if_false, true_and, and_true, and_self, Nat.reduceBEq, QOp.loads, boxO, bslO, buildO, cutL, fillV, putL, w48, v48]
            exact ⟨l, X2, kc, J2, by omega⟩
    generalize c48_79 = fc at rest ⊢
    refine stepC.of (l1Once_ok _ _ _ kc) ?_
    rintro _ K1 ⟨b, rfl, g1, kc⟩
    have X := X.trans (toX1 g1)
    have J := J.extX (toX1 g1) hc
    obtain ⟨rs, sr, hlr, _⟩ := J.at
    have Rj := sr.rulesN
    simp only [hlr] at Rj
    cases b with
    | false =>
      simp (maxSteps := 4000000) (disch := omega) only [ah, am, Nat.reduceEqDiff, reduceCtorEq, Nat.reduceAdd, Nat.reduceLeDiff, Nat.reduceMul, Nat.reduceLT, if_true, if_false, true_and, and_true, and_self, Nat.reduceBEq, QOp.loads, boxO, bslO, buildO, cutL, fillV, putL, w48, v48]
      exact rest kc X J (by omega) (.inr rfl)
    | true =>
    simp (maxSteps := 4000000) (disch := omega) only [ah, am, Nat.reduceEqDiff, reduceCtorEq, Nat.reduceAdd, Nat.reduceLeDiff, Nat.reduceMul, Nat.reduceLT, if_true, if_false, true_and, and_true, and_self, Nat.reduceBEq, QOp.loads, boxO, bslO, buildO, cutL, fillV, putL, w48, v48, Rj]
    by_cases hpos : (0 : Int) < l.length
    rotate_left
    · simp (maxSteps := 4000000) (disch := omega) only [ah, am, Nat.reduceEqDiff, reduceCtorEq, Nat.reduceAdd, Nat.reduceLeDiff, Nat.reduceMul, Nat.reduceLT, if_true, if_false, true_and, and_true, and_self, Nat.reduceBEq, QOp.loads, boxO, bslO, buildO, cutL, fillV, putL, w48, v48, decide_eq_false hpos]
      exact rest kc X J (by omega) (.inr rfl)
    have hpos2 : 0 < l.length := by omega
    simp (maxSteps := 4000000) (disch := omega) only [ah, am, Nat.reduceEqDiff, reduceCtorEq, Nat.reduceAdd, Nat.reduceLeDiff, Nat.reduceMul, Nat.reduceLT, if_true, if_false, true_and, and_true, and_self, Nat.reduceBEq, QOp.loads, boxO, bslO, buildO, cutL, fillV, putL, w48, v48, decide_eq_true hpos, Rj]
    refine stepC.of (l1Below_ok _ _ _ kc) ?_
    rintro _ K2 ⟨kk, rfl, kk1, kk2, _, g2, kc⟩
    obtain ⟨kk, rfl⟩ : ∃ m : Nat, kk = (m : Int) := ⟨kk.toNat, by omega⟩
    have hkl : kk < l.length := by have := kk2 (by omega); omega
    have X := X.trans (toX1 g2)
    have J := J.extX (toX1 g2) hc
    simp (maxSteps := 4000000) (disch := omega) only [ah, am, Nat.reduceEqDiff, reduceCtorEq, Nat.reduceAdd, Nat.reduceLeDiff, Nat.reduceMul, Nat.reduceLT, if_true, if_false, true_and, and_true, and_self, Nat.reduceBEq, QOp.loads, boxO, bslO, buildO, cutL, fillV, putL, w48, v48, Rj]
    refine stepC.of (l1Below_ok _ _ _ kc) ?_
    rintro _ K3 ⟨z, rfl, z1, z2, _, g3, kc⟩
    have z3 := z2 (by omega)
    have X := X.trans (toX1 g3)
    have J := J.extX (toX1 g3) hc
    clear Rj sr
    have c10 : decide ((1 : Int) = 0) = false := rfl
    have c20 : decide ((2 : Int) = 0) = false := rfl
    have c30 : decide ((3 : Int) = 0) = false := rfl
    have c21 : decide ((2 : Int) = 1) = false := rfl
    have c31 : decide ((3 : Int) = 1) = false := rfl
    have c32 : decide ((3 : Int) = 2) = false := rfl
    have c00 : decide ((0 : Int) = 0) = true := rfl
    have c11 : decide ((1 : Int) = 1) = true := rfl
    have c22 : decide ((2 : Int) = 2) = true := rfl
    have c33 : decide ((3 : Int) = 3) = true := rfl
    have hcK := kc.lt
    -- one number picked and stored into a field
    have one : ∀ (f : Nat) (vs : List Value) (x' : Int → TaskR → TaskR), f < 4 → vs.length = 3 → allInt vs = true → (∀ (w : Int) (r : TaskR), splice (encT r) f [.int .i64 w] = encT (x' w r) ∧ (x' w r).nv = r.nv) →
        ∀ (K4 : Heap) (y : Int), ExtG c (K3.more [vs]) K4 → Cur K4 c → 0 ≤ y → y < 3 →
        ∃ w K5, ldV K4 (.pointer (some ⟨K3.size, y.toNat, none⟩)) = some (.int .i64 w) ∧ stV K4 1 (ptrAt ov (kk * 4 + f)) (.int .i64 w) = some K5 ∧ Cur K5 c ∧ ExtX [c] h K5 ∧ (∃ l', l'.length = l.length ∧ JB h.size K5 ov l') ∧
          nilV (ptrAt ov (kk * 4)) = some (ptrAt ov (kk * 4)) ∧ ∀ o, faV f (ptrAt ov o) = some (ptrAt ov (o + f)) := by
      intro f vs x' hf hvs hall hx K4 y g4 kc4 y1 y2
      obtain ⟨w, hw⟩ := pick_lits g4 hcK y1 (by rw [hvs]; exact y2) hall
      have J4 := (J.ext (Ext.more K3 [vs])).extX (toX1 g4) hc
      obtain ⟨K5, es, J5, g, gg, eg⟩ := J4.setF hkl (x' w) (y := .int .i64 w) (n := 1) (f := f) (hx w) (by omega) rfl (by omega) rfl
      obtain ⟨rs, sr, hlr, _⟩ := J4.at
      have Rj := sr.rulesN
      exact ⟨w, K5, hw, es, kc4.stepG eg (by omega), ((X.trans (Ext.more _ _).toX).trans (toX1 g4)).top eg gg, J5, nil_ptr sr (by omega) _, fun o => Rj.2.2.1 f o (by omega)⟩
    have z4 : z = 0 ∨ z = 1 ∨ z = 2 ∨ z = 3 := by omega
    rcases z4 with rfl | rfl | rfl | rfl
    · simp (maxSteps := 4000000) (disch := omega) only [ah, am, Nat.reduceEqDiff, reduceCtorEq, Nat.reduceAdd, Nat.reduceLeDiff, Nat.reduceMul, Nat.reduceLT, if_true, if_false, true_and, and_true, and_self, Nat.reduceBEq, QOp.loads, boxO, bslO, buildO, cutL, fillV, putL, w48, v48, c00]
      refine stepC.of (l1Below_ok _ _ _ (kc.ext (Ext.more _ _))) ?_
      rintro _ K4 ⟨y, rfl, y1, y2, _, g4, kc4⟩
      have y3 := y2 (by omega)
      obtain ⟨w, K5, hw, es, kc5, X5, ⟨l', hl', J5⟩, np, fp⟩ := one 0 _ (fun w r => ⟨w, r.value, r.nv, r.cost⟩) (by omega) rfl rfl (fun w r => ⟨rfl, rfl⟩) K4 y g4 kc4 y1 y3
      simp only [Nat.add_zero] at es fp
      simp (maxSteps := 4000000) (disch := omega) only [ah, am, Nat.reduceEqDiff, reduceCtorEq, Nat.reduceAdd, Nat.reduceLeDiff, Nat.reduceMul, Nat.reduceLT, if_true, if_false, true_and, and_true, and_self, Nat.reduceBEq, QOp.loads, boxO, bslO, buildO, cutL, fillV, putL, w48, v48, Nat.mul_one, hw, np, fp, es]
      exact rest kc5 X5 J5 (by omega) (.inl rfl)
    · simp (maxSteps := 4000000) (disch := omega) only [ah, am, Nat.reduceEqDiff, reduceCtorEq, Nat.reduceAdd, Nat.reduceLeDiff, Nat.reduceMul, Nat.reduceLT, if_true, if_false, true_and, and_true, and_self, Nat.reduceBEq, QOp.loads, boxO, bslO, buildO, cutL, fillV, putL, w48, v48, c10, c11]
      refine stepC.of (l1Below_ok _ _ _ (kc.ext (Ext.more _ _))) ?_
      rintro _ K4 ⟨y, rfl, y1, y2, _, g4, kc4⟩
      have y3 := y2 (by omega)
      obtain ⟨w, K5, hw, es, kc5, X5, ⟨l', hl', J5⟩, np, fp⟩ := one 1 _ (fun w r => ⟨r.kind, w, r.nv, r.cost⟩) (by omega) rfl rfl (fun w r => ⟨rfl, rfl⟩) K4 y g4 kc4 y1 y3
      simp (maxSteps := 4000000) (disch := omega) only [ah, am, Nat.reduceEqDiff, reduceCtorEq, Nat.reduceAdd, Nat.reduceLeDiff, Nat.reduceMul, Nat.reduceLT, if_true, if_false, true_and, and_true, and_self, Nat.reduceBEq, QOp.loads, boxO, bslO, buildO, cutL, fillV, putL, w48, v48, Nat.mul_one, hw, np, fp, es]
      exact rest kc5 X5 J5 (by omega) (.inl rfl)
    · obtain ⟨xs, g, hxl, gg1, gg2, o, hx, hnd⟩ := id J
      have hkx : kk < (xs.map TG.r).length := by rw [hxl] at hkl; simpa using hkl
      have hlx : (xs.map TG.r).length = l.length := by rw [hxl]; simp
      have Rj := o.slt.rulesN
      simp only [hlx] at Rj
      obtain ⟨q1, q2, q3, q4, _⟩ := Rj
      have np := nil_ptr o.slt (by omega) (kk * 4)
      have hnv : ldV K3 (ptrAt ov (kk * 4 + 2)) = some (xs.map TG.r)[kk].nv := by have := q4 kk 2 hkl (by omega); simpa [encT] using this
      generalize hnvq : (xs.map TG.r)[kk].nv = nv at hnv
      simp (maxSteps := 4000000) (disch := omega) only [ah, am, Nat.reduceEqDiff, reduceCtorEq, Nat.reduceAdd, Nat.reduceLeDiff, Nat.reduceMul, Nat.reduceLT, if_true, if_false, true_and, and_true, and_self, Nat.reduceBEq, QOp.loads, boxO, bslO, buildO, cutL, fillV, putL, w48, v48, c20, c21, c22, np, q1, q2, q3, hnv]
      refine stepC.of (l1Below_ok _ _ _ (kc.ext (Ext.more _ _))) ?_
      rintro _ K4 ⟨y, rfl, y1, y2, _, g4, kc4⟩
      have y3 := y2 (by omega)
      have o4 := ownT_extX (o.ext (Ext.more K3 _)) (toX1 g4) (by omega)
      have J4 := (J.ext (Ext.more K3 _)).extX (toX1 g4) hc
      have hnv4 : ldV K4 (ptrAt ov (kk * 4 + 2)) = some nv := by
        have := o4.slt.rulesN.2.2.2.1 kk 2 hkx (by omega)
        rw [← hnvq]; simpa [encT] using this
      obtain ⟨w, hw⟩ := pick_lits g4 hcK y1 y3 rfl
      obtain ⟨v2, K5, K6, ea, es, ⟨l', hl', J6⟩, ⟨ga, ga1, ga2⟩, gb, gb1, gb2⟩ := J4.app1 hkl hnv4 w (fun t ht => by have := hnb t ht; omega)
      simp only [encI] at ea ga2
      simp (maxSteps := 4000000) (disch := omega) only [ah, am, Nat.reduceEqDiff, reduceCtorEq, Nat.reduceAdd, Nat.reduceLeDiff, Nat.reduceMul, Nat.reduceLT, if_true, if_false, true_and, and_true, and_self, Nat.reduceBEq, QOp.loads, boxO, bslO, buildO, cutL, fillV, putL, w48, v48, Nat.mul_one, hnv4, hw, np, q3, ea, es]
      exact rest (((kc4.ext (Ext.more _ _)).stepG ga2 (by omega)).stepG gb2 (by omega)) ((((X.trans (Ext.more _ _).toX).trans (toX1 g4)).trans (Ext.more _ _).toX |>.top ga2 ga1).top gb2 gb1) J6 (by omega) (.inl rfl)
    · simp (maxSteps := 4000000) (disch := omega) only [ah, am, Nat.reduceEqDiff, reduceCtorEq, Nat.reduceAdd, Nat.reduceLeDiff, Nat.reduceMul, Nat.reduceLT, if_true, if_false, true_and, and_true, and_self, Nat.reduceBEq, QOp.loads, boxO, bslO, buildO, cutL, fillV, putL, w48, v48, c30, c31, c32, c33]
      refine stepC.of (l1Below_ok _ _ _ (kc.ext (Ext.more _ _))) ?_
      rintro _ K4 ⟨y, rfl, y1, y2, _, g4, kc4⟩
      have y3 := y2 (by omega)
      obtain ⟨w, K5, hw, es, kc5, X5, ⟨l', hl', J5⟩, np, fp⟩ := one 3 _ (fun w r => ⟨r.kind, r.value, r.nv, w⟩) (by omega) rfl rfl (fun w r => ⟨rfl, rfl⟩) K4 y g4 kc4 y1 y3
      simp (maxSteps := 4000000) (disch := omega) only [ah, am, Nat.reduceEqDiff, reduceCtorEq, Nat.reduceAdd, Nat.reduceLeDiff, Nat.reduceMul, Nat.reduceLT, if_true, if_false, true_and, and_true, and_self, Nat.reduceBEq, QOp.loads, boxO, bslO, buildO, cutL, fillV, putL, w48, v48, Nat.mul_one, hw, np, fp, es]
      exact rest kc5 X5 J5 (by omega) (.inl rfl)
end Go.Proofs.Ytbnkpligdcponaa
