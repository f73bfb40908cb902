import Derived.Test.YtbnppofkpgfhnaaDB
import Derived.Test.YtbnppofkpgfhnaaAhAA
namespace Go.Proofs.Ytbnppofkpgfhnaa
open Go Go.Ah
set_option linter.unusedSimpArgs false
set_option linter.unusedVariables false
set_option maxRecDepth 10000
set_option maxHeartbeats 4000000
/-! 32 loop.example/g00066/spec.DrawApply: parameters 1, live [0], slots [0:code, 1:code, 4:c, 5:a, 6:l, 7:left, 8:n, 9:k, 10:x] -/
def c32_0 : List SOper := [⟨some 2, .q (.mv (.c (.slice none 0 0))), none⟩, ⟨some 3, .q (.mv (.c (.slice none 0 0))), none⟩]
def c32_1 : List SOper := [⟨some 11, .q (.mv (.t 0)), none⟩, ⟨some 12, .e (.call 33 [(.t 11)]), none⟩, ⟨some 4, .q (.mv (.t 12)), none⟩]
def c32_2 : List SOper := [⟨some 13, .q (.mv (.t 4)), none⟩, ⟨some 14, .e (.call 34 [(.t 13)]), none⟩, ⟨some 5, .q (.mv (.t 14)), none⟩]
def c32_3 : List SOper := [⟨some 15, .q (.mv (.t 5)), none⟩, ⟨some 16, .q (.mv (.t 4)), none⟩, ⟨some 17, .q (.mv (.t 5)), none⟩, ⟨some 18, .e (.call 36 [(.t 16), (.t 17)]), none⟩, ⟨some 19, .e (.call 11 [(.t 15), (.t 18)]), none⟩, ⟨some 6, .q (.mv (.t 19)), none⟩]
def c32_4 : List SOper := [⟨some 20, .q (.mv (.t 4)), none⟩, ⟨some 21, .e (.call 35 [(.t 20), (.c (.int .i64 3))]), none⟩]
def c32_5 : List SOper := [⟨some 22, .a (.bsl 0 4 [] []), none⟩, ⟨some 6, .q (.mv (.t 22)), none⟩]
def c32_6 : List SOper := [⟨some 7, .q (.mv (.c (.int .i64 5))), none⟩]
def c32_7 : List SOper := [⟨some 23, .q (.mv (.t 5)), none⟩, ⟨some 24, .e (.call 12 [(.t 23)]), none⟩]
def c32_8 : List SOper := [⟨some 25, .q (.mv (.t 5)), none⟩, ⟨some 26, .e (.call 48 [(.t 25)]), none⟩, ⟨some 7, .q (.mv (.t 26)), none⟩]
def c32_9 : SCode := .cond (.t 24) (.region c32_8 [4, 5, 6, 7]) .skip
def c32_10 : SCode := .seq (.region c32_7 [4, 5, 6, 7, 24]) c32_9
def c32_11 : List SOper := [⟨some 27, .q (.mv (.t 7)), none⟩, ⟨some 28, .q (.bin .gtr (.t 27) (.c (.int .i64 0))), none⟩, ⟨some 29, .q (.mv (.t 28)), none⟩, ⟨some 30, .q (.mv (.t 6)), some (29, true)⟩, ⟨some 31, .q (.len (.t 30)), some (29, true)⟩, ⟨some 32, .q (.bin .lss (.t 31) (.c (.int .i64 20))), some (29, true)⟩, ⟨some 33, .q (.pick (.t 29) (.t 32) (.c (.bool false))), none⟩]
def c32_12 : SCode := .cond (.t 33) .skip (.exit 0)
def c32_13 : SCode := .seq (.region c32_11 [4, 5, 6, 7, 33]) c32_12
def c32_14 : List SOper := [⟨some 34, .q (.mv (.t 4)), none⟩, ⟨some 35, .q (.mv (.t 7)), none⟩, ⟨some 36, .e (.call 67 [(.t 34), (.t 35)]), none⟩, ⟨some 37, .q (.bin .add (.c (.int .i64 1)) (.t 36)), none⟩, ⟨some 8, .q (.mv (.t 37)), none⟩]
def c32_15 : List SOper := [⟨some 38, .q (.mv (.t 4)), none⟩, ⟨some 39, .e (.call 67 [(.t 38), (.c (.int .i64 3))]), none⟩]
def c32_16 : List SOper := [⟨some 41, .q (.bin .eql (.t 39) (.c (.int .i64 0))), none⟩, ⟨some 40, .q (.mv (.t 41)), none⟩]
def c32_17 : List SOper := [⟨some 42, .q (.mv (.t 6)), none⟩, ⟨some 43, .q (.mv (.t 8)), none⟩, ⟨some 44, .q (.build [(.int .i64 0), (.int .i64 0), (.int .i64 0), (.int .i64 0)] [(0, 1, (.c (.int .i64 1))), (3, 1, (.t 43))]), none⟩, ⟨some 45, .a (.bsl 1 4 [(.int .i64 0), (.int .i64 0), (.int .i64 0), (.int .i64 0)] [(0, 4, (.t 44))]), none⟩, ⟨some 46, .e (.app 32 4 (.t 42) (.t 45)), none⟩, ⟨some 6, .q (.mv (.t 46)), none⟩]
def c32_18 : List SOper := [⟨some 47, .q (.mv (.t 7)), none⟩, ⟨some 48, .q (.mv (.t 8)), none⟩, ⟨some 49, .q (.bin .sub (.t 47) (.t 48)), none⟩, ⟨some 7, .q (.mv (.t 49)), none⟩]
def c32_19 : SCode := .seq (.region c32_17 [4, 5, 6, 7, 8]) (.region c32_18 [4, 5, 6, 7])
def c32_20 : List SOper := [⟨some 51, .q (.bin .eql (.t 39) (.c (.int .i64 1))), none⟩, ⟨some 50, .q (.mv (.t 51)), none⟩]
def c32_21 : List SOper := [⟨some 52, .q (.mv (.t 6)), none⟩, ⟨some 53, .q (.mv (.t 8)), none⟩, ⟨some 54, .q (.build [(.int .i64 0), (.int .i64 0), (.int .i64 0), (.int .i64 0)] [(0, 1, (.c (.int .i64 2))), (3, 1, (.t 53))]), none⟩, ⟨some 55, .a (.bsl 1 4 [(.int .i64 0), (.int .i64 0), (.int .i64 0), (.int .i64 0)] [(0, 4, (.t 54))]), none⟩, ⟨some 56, .e (.app 32 4 (.t 52) (.t 55)), none⟩, ⟨some 6, .q (.mv (.t 56)), none⟩]
def c32_22 : List SOper := [⟨some 57, .q (.mv (.t 7)), none⟩, ⟨some 58, .q (.mv (.t 8)), none⟩, ⟨some 59, .q (.bin .sub (.t 57) (.t 58)), none⟩, ⟨some 7, .q (.mv (.t 59)), none⟩]
def c32_23 : SCode := .seq (.region c32_21 [4, 5, 6, 7, 8]) (.region c32_22 [4, 5, 6, 7])
def c32_24 : List SOper := [⟨some 61, .q (.bin .eql (.t 39) (.c (.int .i64 2))), none⟩, ⟨some 60, .q (.mv (.t 61)), none⟩]
def c32_25 : List SOper := [⟨some 62, .q (.mv (.t 4)), none⟩, ⟨some 63, .e (.call 68 [(.t 62)]), none⟩, ⟨some 9, .a (.new [(.int .i64 0), (.int .i64 0), (.int .i64 0)]), none⟩, ⟨none, .e (.st 3 (.t 9) (.t 63)), none⟩]
def c32_26 : List SOper := [⟨some 64, .q (.mv (.t 6)), none⟩, ⟨some 65, .q (.fa 0 (.t 9)), none⟩, ⟨some 66, .q (.ld (.t 65)), none⟩, ⟨some 67, .q (.fa 1 (.t 9)), none⟩, ⟨some 68, .q (.ld (.t 67)), none⟩, ⟨some 69, .q (.fa 2 (.t 9)), none⟩, ⟨some 70, .q (.ld (.t 69)), none⟩, ⟨some 71, .q (.build [(.int .i64 0), (.int .i64 0), (.int .i64 0), (.int .i64 0)] [(0, 1, (.c (.int .i64 3))), (1, 1, (.t 66)), (2, 1, (.t 68)), (3, 1, (.t 70))]), none⟩, ⟨some 72, .a (.bsl 1 4 [(.int .i64 0), (.int .i64 0), (.int .i64 0), (.int .i64 0)] [(0, 4, (.t 71))]), none⟩, ⟨some 73, .e (.app 32 4 (.t 64) (.t 72)), none⟩, ⟨some 6, .q (.mv (.t 73)), none⟩]
def c32_27 : SCode := .seq (.region c32_25 [4, 5, 6, 7, 9]) (.region c32_26 [4, 5, 6, 7])
def c32_28 : SCode := .cond (.t 60) c32_27 .skip
def c32_29 : SCode := .seq (.region c32_24 [4, 5, 6, 7, 60]) c32_28
def c32_30 : SCode := .cond (.t 50) c32_23 c32_29
def c32_31 : SCode := .seq (.region c32_20 [4, 5, 6, 7, 8, 39, 50]) c32_30
def c32_32 : SCode := .cond (.t 40) c32_19 c32_31
def c32_33 : SCode := .seq (.region c32_16 [4, 5, 6, 7, 8, 39, 40]) c32_32
def c32_34 : SCode := .block 2 c32_33
def c32_35 : SCode := .seq (.region c32_15 [4, 5, 6, 7, 8, 39]) c32_34
def c32_36 : SCode := .seq (.region c32_14 [4, 5, 6, 7, 8]) c32_35
def c32_37 : SCode := .block 1 c32_36
def c32_38 : SCode := .seq c32_13 c32_37
def c32_39 : SCode := .loop c32_38
def c32_40 : SCode := .block 0 c32_39
def c32_41 : SCode := .seq c32_10 c32_40
def c32_42 : SCode := .seq (.region c32_6 [4, 5, 6, 7]) c32_41
def c32_43 : SCode := .seq (.region c32_5 [4, 5, 6]) c32_42
def c32_44 : SCode := .cond (.t 21) c32_43 .skip
def c32_45 : SCode := .seq (.region c32_4 [4, 5, 6, 21]) c32_44
def c32_46 : List SOper := [⟨some 74, .q (.mv (.t 4)), none⟩, ⟨some 75, .e (.call 35 [(.t 74), (.c (.int .i64 12))]), none⟩, ⟨some 76, .q (.mv (.t 75)), none⟩, ⟨some 77, .q (.mv (.t 6)), some (76, true)⟩, ⟨some 78, .q (.len (.t 77)), some (76, true)⟩, ⟨some 79, .q (.bin .gtr (.t 78) (.c (.int .i64 0))), some (76, true)⟩, ⟨some 80, .q (.pick (.t 76) (.t 79) (.c (.bool false))), none⟩]
def c32_47 : List SOper := [⟨some 81, .q (.mv (.t 6)), none⟩, ⟨some 82, .q (.mv (.t 4)), none⟩, ⟨some 83, .q (.mv (.t 6)), none⟩, ⟨some 84, .q (.len (.t 83)), none⟩, ⟨some 85, .e (.call 67 [(.t 82), (.t 84)]), none⟩, ⟨some 86, .q (.ia 4 (.t 81) (.t 85)), none⟩, ⟨some 10, .q (.mv (.t 86)), none⟩]
def c32_48 : List SOper := [⟨some 87, .q (.mv (.t 4)), none⟩, ⟨some 88, .e (.call 67 [(.t 87), (.c (.int .i64 4))]), none⟩]
def c32_49 : List SOper := [⟨some 90, .q (.bin .eql (.t 88) (.c (.int .i64 0))), none⟩, ⟨some 89, .q (.mv (.t 90)), none⟩]
def c32_50 : List SOper := [⟨some 91, .q (.mv (.t 10)), none⟩, ⟨some 92, .q (.mv (.t 4)), none⟩, ⟨some 93, .e (.call 69 [(.t 92), (.c (.int .i64 0)), (.c (.int .i64 4))]), none⟩, ⟨some 94, .q (.nil (.t 91)), none⟩, ⟨some 95, .q (.fa 0 (.t 94)), none⟩, ⟨none, .e (.st 1 (.t 95) (.t 93)), none⟩]
def c32_51 : List SOper := [⟨some 97, .q (.bin .eql (.t 88) (.c (.int .i64 1))), none⟩, ⟨some 96, .q (.mv (.t 97)), none⟩]
def c32_52 : List DOper := [⟨0, ⟨some 98, .q (.mv (.t 10)), none⟩, [], []⟩, ⟨1, ⟨some 99, .q (.mv (.t 10)), none⟩, [], []⟩, ⟨2, ⟨some 100, .q (.nil (.t 99)), none⟩, [], []⟩, ⟨3, ⟨some 101, .q (.fa 3 (.t 100)), none⟩, [], []⟩, ⟨4, ⟨some 102, .q (.ld (.t 101)), none⟩, [], []⟩, ⟨5, ⟨some 103, .q (.bin .add (.t 102) (.c (.int .i64 1))), none⟩, [], []⟩, ⟨6, ⟨some 104, .a (.bsl 6 1 [(.int .i64 0), (.int .i64 0), (.int .i64 0), (.int .i64 0), (.int .i64 0), (.int .i64 0)] [(0, 1, (.c (.int .i64 0))), (1, 1, (.c (.int .i64 (-1)))), (2, 1, (.t 103)), (3, 1, (.c (.int .i64 10000000))), (4, 1, (.c (.int .i64 10000001))), (5, 1, (.c (.int .i64 4611686018427387904)))]), none⟩, [], []⟩, ⟨7, ⟨some 105, .q (.mv (.t 4)), none⟩, [], []⟩, ⟨8, ⟨some 106, .e (.call 67 [(.t 105), (.c (.int .i64 6))]), none⟩, [], [4]⟩, ⟨9, ⟨some 107, .q (.ia 1 (.t 104) (.t 106)), none⟩, [], []⟩, ⟨10, ⟨some 108, .q (.ld (.t 107)), none⟩, [], []⟩, ⟨11, ⟨some 109, .q (.nil (.t 98)), none⟩, [], []⟩, ⟨12, ⟨some 110, .q (.fa 3 (.t 109)), none⟩, [], []⟩, ⟨13, ⟨none, .e (.st 1 (.t 110) (.t 108)), none⟩, [], []⟩]
def c32_53 : List SOper := [⟨some 112, .q (.bin .eql (.t 88) (.c (.int .i64 2))), none⟩, ⟨some 111, .q (.mv (.t 112)), none⟩]
def c32_54 : List SOper := [⟨some 113, .q (.mv (.t 10)), none⟩, ⟨some 114, .q (.mv (.t 4)), none⟩, ⟨some 115, .e (.call 69 [(.t 114), (.c (.int .i64 (-1))), (.c (.int .i64 3))]), none⟩, ⟨some 116, .q (.nil (.t 113)), none⟩, ⟨some 117, .q (.fa 1 (.t 116)), none⟩, ⟨none, .e (.st 1 (.t 117) (.t 115)), none⟩]
def c32_55 : List SOper := [⟨some 119, .q (.bin .eql (.t 88) (.c (.int .i64 3))), none⟩, ⟨some 118, .q (.mv (.t 119)), none⟩]
def c32_56 : List SOper := [⟨some 120, .q (.mv (.t 6)), none⟩, ⟨some 121, .q (.mv (.t 10)), none⟩, ⟨some 122, .q (.nil (.t 121)), none⟩, ⟨some 123, .q (.ldn 4 (.t 122)), none⟩, ⟨some 124, .a (.bsl 1 4 [(.int .i64 0), (.int .i64 0), (.int .i64 0), (.int .i64 0)] [(0, 4, (.t 123))]), none⟩, ⟨some 125, .e (.app 32 4 (.t 120) (.t 124)), none⟩, ⟨some 6, .q (.mv (.t 125)), none⟩]
def c32_57 : SCode := .cond (.t 118) (.region c32_56 [5, 6]) .skip
def c32_58 : SCode := .seq (.region c32_55 [5, 6, 10, 118]) c32_57
def c32_59 : SCode := .cond (.t 111) (.region c32_54 [5, 6]) c32_58
def c32_60 : SCode := .seq (.region c32_53 [4, 5, 6, 10, 88, 111]) c32_59
def c32_61 : SCode := .cond (.t 96) (.dregion c32_52 [5, 6]) c32_60
def c32_62 : SCode := .seq (.region c32_51 [4, 5, 6, 10, 88, 96]) c32_61
def c32_63 : SCode := .cond (.t 89) (.region c32_50 [5, 6]) c32_62
def c32_64 : SCode := .seq (.region c32_49 [4, 5, 6, 10, 88, 89]) c32_63
def c32_65 : SCode := .block 3 c32_64
def c32_66 : SCode := .seq (.region c32_48 [4, 5, 6, 10, 88]) c32_65
def c32_67 : SCode := .seq (.region c32_47 [4, 5, 6, 10]) c32_66
def c32_68 : SCode := .cond (.t 80) c32_67 .skip
def c32_69 : SCode := .seq (.region c32_46 [4, 5, 6, 80]) c32_68
def c32_70 : List SOper := [⟨some 126, .q (.mv (.t 5)), none⟩, ⟨some 127, .q (.mv (.t 6)), none⟩, ⟨some 2, .q (.mv (.t 126)), none⟩, ⟨some 3, .q (.mv (.t 127)), none⟩]
def c32_71 : SCode := .seq (.region c32_70 [2, 3]) .ret
def c32_72 : SCode := .seq c32_69 c32_71
def c32_73 : SCode := .seq c32_45 c32_72
def c32_74 : SCode := .seq (.region c32_3 [4, 5, 6]) c32_73
def c32_75 : SCode := .seq (.region c32_2 [4, 5]) c32_74
def c32_76 : SCode := .seq (.region c32_1 [4]) c32_75
def c32_77 : SCode := .seq (.region c32_0 [0]) c32_76
def c32 : SCode := c32_77
theorem w32 : type_of% (And.intro (uR Try.prog c32_0.eq_1) (And.intro (uR Try.prog c32_1.eq_1) (And.intro (uR Try.prog c32_2.eq_1) (And.intro (uR Try.prog c32_3.eq_1) (And.intro (uR Try.prog c32_4.eq_1) (And.intro (uR Try.prog c32_5.eq_1) (And.intro (uR Try.prog c32_6.eq_1) (And.intro (uR Try.prog c32_7.eq_1) (And.intro (uR Try.prog c32_8.eq_1) (And.intro (uC Try.prog c32_9.eq_1) (And.intro (uC Try.prog c32_10.eq_1) (And.intro (uR Try.prog c32_11.eq_1) (And.intro (uC Try.prog c32_12.eq_1) (And.intro (uC Try.prog c32_13.eq_1) (And.intro (uR Try.prog c32_14.eq_1) (And.intro (uR Try.prog c32_15.eq_1) (And.intro (uR Try.prog c32_16.eq_1) (And.intro (uR Try.prog c32_17.eq_1) (And.intro (uR Try.prog c32_18.eq_1) (And.intro (uC Try.prog c32_19.eq_1) (And.intro (uR Try.prog c32_20.eq_1) (And.intro (uR Try.prog c32_21.eq_1) (And.intro (uR Try.prog c32_22.eq_1) (And.intro (uC Try.prog c32_23.eq_1) (And.intro (uR Try.prog c32_24.eq_1) (And.intro (uR Try.prog c32_25.eq_1) (And.intro (uR Try.prog c32_26.eq_1) (And.intro (uC Try.prog c32_27.eq_1) (And.intro (uC Try.prog c32_28.eq_1) (And.intro (uC Try.prog c32_29.eq_1) (And.intro (uC Try.prog c32_30.eq_1) (And.intro (uC Try.prog c32_31.eq_1) (And.intro (uC Try.prog c32_32.eq_1) (And.intro (uC Try.prog c32_33.eq_1) (And.intro (uC Try.prog c32_34.eq_1) (And.intro (uC Try.prog c32_35.eq_1) (And.intro (uC Try.prog c32_36.eq_1) (And.intro (uC Try.prog c32_37.eq_1) (And.intro (uC Try.prog c32_38.eq_1) (And.intro (uC Try.prog c32_39.eq_1) (And.intro (uC Try.prog c32_40.eq_1) (And.intro (uC Try.prog c32_41.eq_1) (And.intro (uC Try.prog c32_42.eq_1) (And.intro (uC Try.prog c32_43.eq_1) (And.intro (uC Try.prog c32_44.eq_1) (And.intro (uC Try.prog c32_45.eq_1) (And.intro (uR Try.prog c32_46.eq_1) (And.intro (uR Try.prog c32_47.eq_1) (And.intro (uR Try.prog c32_48.eq_1) (And.intro (uR Try.prog c32_49.eq_1) (And.intro (uR Try.prog c32_50.eq_1) (And.intro (uR Try.prog c32_51.eq_1) (And.intro (uD Try.prog c32_52.eq_1) (And.intro (uR Try.prog c32_53.eq_1) (And.intro (uR Try.prog c32_54.eq_1) (And.intro (uR Try.prog c32_55.eq_1) (And.intro (uR Try.prog c32_56.eq_1) (And.intro (uC Try.prog c32_57.eq_1) (And.intro (uC Try.prog c32_58.eq_1) (And.intro (uC Try.prog c32_59.eq_1) (And.intro (uC Try.prog c32_60.eq_1) (And.intro (uC Try.prog c32_61.eq_1) (And.intro (uC Try.prog c32_62.eq_1) (And.intro (uC Try.prog c32_63.eq_1) (And.intro (uC Try.prog c32_64.eq_1) (And.intro (uC Try.prog c32_65.eq_1) (And.intro (uC Try.prog c32_66.eq_1) (And.intro (uC Try.prog c32_67.eq_1) (And.intro (uC Try.prog c32_68.eq_1) (And.intro (uC Try.prog c32_69.eq_1) (And.intro (uR Try.prog c32_70.eq_1) (And.intro (uC Try.prog c32_71.eq_1) (And.intro (uC Try.prog c32_72.eq_1) (And.intro (uC Try.prog c32_73.eq_1) (And.intro (uC Try.prog c32_74.eq_1) (And.intro (uC Try.prog c32_75.eq_1) (And.intro (uC Try.prog c32_76.eq_1) (And.intro (uC Try.prog c32_77.eq_1) (uC Try.prog c32.eq_1))))))))))))))))))))))))))))))))))))))))))))))))))))))))))))))))))))))))))))))) := (And.intro (uR Try.prog c32_0.eq_1) (And.intro (uR Try.prog c32_1.eq_1) (And.intro (uR Try.prog c32_2.eq_1) (And.intro (uR Try.prog c32_3.eq_1) (And.intro (uR Try.prog c32_4.eq_1) (And.intro (uR Try.prog c32_5.eq_1) (And.intro (uR Try.prog c32_6.eq_1) (And.intro (uR Try.prog c32_7.eq_1) (And.intro (uR Try.prog c32_8.eq_1) (And.intro (uC Try.prog c32_9.eq_1) (And.intro (uC Try.prog c32_10.eq_1) (And.intro (uR Try.prog c32_11.eq_1) (And.intro (uC Try.prog c32_12.eq_1) (And.intro (uC Try.prog c32_13.eq_1) (And.intro (uR Try.prog c32_14.eq_1) (And.intro (uR Try.prog c32_15.eq_1) (And.intro (uR Try.prog c32_16.eq_1) (And.intro (uR Try.prog c32_17.eq_1) (And.intro (uR Try.prog c32_18.eq_1) (And.intro (uC Try.prog c32_19.eq_1) (And.intro (uR Try.prog c32_20.eq_1) (And.intro (uR Try.prog c32_21.eq_1) (And.intro (uR Try.prog c32_22.eq_1) (And.intro (uC Try.prog c32_23.eq_1) (And.intro (uR Try.prog c32_24.eq_1) (And.intro (uR Try.prog c32_25.eq_1) (And.intro (uR Try.prog c32_26.eq_1) (And.intro (uC Try.prog c32_27.eq_1) (And.intro (uC Try.prog c32_28.eq_1) (And.intro (uC Try.prog c32_29.eq_1) (And.intro (uC Try.prog c32_30.eq_1) (And.intro (uC Try.prog c32_31.eq_1) (And.intro (uC Try.prog c32_32.eq_1) (And.intro (uC Try.prog c32_33.eq_1) (And.intro (uC Try.prog c32_34.eq_1) (And.intro (uC Try.prog c32_35.eq_1) (And.intro (uC Try.prog c32_36.eq_1) (And.intro (uC Try.prog c32_37.eq_1) (And.intro (uC Try.prog c32_38.eq_1) (And.intro (uC Try.prog c32_39.eq_1) (And.intro (uC Try.prog c32_40.eq_1) (And.intro (uC Try.prog c32_41.eq_1) (And.intro (uC Try.prog c32_42.eq_1) (And.intro (uC Try.prog c32_43.eq_1) (And.intro (uC Try.prog c32_44.eq_1) (And.intro (uC Try.prog c32_45.eq_1) (And.intro (uR Try.prog c32_46.eq_1) (And.intro (uR Try.prog c32_47.eq_1) (And.intro (uR Try.prog c32_48.eq_1) (And.intro (uR Try.prog c32_49.eq_1) (And.intro (uR Try.prog c32_50.eq_1) (And.intro (uR Try.prog c32_51.eq_1) (And.intro (uD Try.prog c32_52.eq_1) (And.intro (uR Try.prog c32_53.eq_1) (And.intro (uR Try.prog c32_54.eq_1) (And.intro (uR Try.prog c32_55.eq_1) (And.intro (uR Try.prog c32_56.eq_1) (And.intro (uC Try.prog c32_57.eq_1) (And.intro (uC Try.prog c32_58.eq_1) (And.intro (uC Try.prog c32_59.eq_1) (And.intro (uC Try.prog c32_60.eq_1) (And.intro (uC Try.prog c32_61.eq_1) (And.intro (uC Try.prog c32_62.eq_1) (And.intro (uC Try.prog c32_63.eq_1) (And.intro (uC Try.prog c32_64.eq_1) (And.intro (uC Try.prog c32_65.eq_1) (And.intro (uC Try.prog c32_66.eq_1) (And.intro (uC Try.prog c32_67.eq_1) (And.intro (uC Try.prog c32_68.eq_1) (And.intro (uC Try.prog c32_69.eq_1) (And.intro (uR Try.prog c32_70.eq_1) (And.intro (uC Try.prog c32_71.eq_1) (And.intro (uC Try.prog c32_72.eq_1) (And.intro (uC Try.prog c32_73.eq_1) (And.intro (uC Try.prog c32_74.eq_1) (And.intro (uC Try.prog c32_75.eq_1) (And.intro (uC Try.prog c32_76.eq_1) (And.intro (uC Try.prog c32_77.eq_1) (uC Try.prog c32.eq_1)))))))))))))))))))))))))))))))))))))))))))))))))))))))))))))))))))))))))))))))
def v32 : List RV := [.t 2, .t 3]
theorem s32 : slimF Try.prog Try.f32 = some (c32.bare, v32) := by kernel_rfl

theorem Dw.swap {α β γ : Type} {c b : Nat} {h0 h h' : Heap} {enc : α → List Value} {sz : Nat} {v : Value} {l : List α} {enc' : β → List Value} {sz' : Nat} {u : Value} {m : List β} {enc2 : γ → List Value} {sz2 : Nat} {v2 : Value} {l2 : List γ}
    (t : Dw c b h0 h enc sz v l enc' sz' u m) (F : Fresh h h' enc2 sz2 v2 l2) : Dw c b h0 h' enc2 sz2 v2 l2 enc' sz' u m := by
  have hle := t.le
  obtain ⟨e, g, hg, o⟩ := F
  exact ⟨t.ext.trans e, t.c0, t.cb, Nat.le_trans t.le e.1, ⟨g, by omega, o⟩, t.mine.ext e⟩
theorem DrawApply_ok (h : Heap) (v : Value) (code : List Int) (s : SlT h encByte 1 v code) (hl : code.length ≤ 4096) :
    ACall Try.prog 32 [v] h fun r h' => ∃ av lv l m, r = .tuple #[av, lv] ∧ Ext h h' ∧ SlT h' encClip 3 av l ∧ SlT h' encChange 4 lv m ∧ l.length ≤ 1000 ∧ m.length ≤ 1000 := by
  refine ACall.of Try.func32 s32 (of_decide_eq_true rfl) ?_
  simp (maxSteps := 4000000) (disch := omega) only [ah, am, Nat.reduceEqDiff, reduceCtorEq, Nat.reduceAdd, Nat.reduceLeDiff, Nat.reduceMul, Nat.reduceLT, if_true, if_false, true_and, and_true, and_self, Nat.reduceBEq, QOp.loads, boxO, bslO, buildO, cutL, fillV, putL, w32, v32]
  refine stepC.of (l1New_ok _ _ _ s hl) ?_
  rintro _ H1 ⟨e1, rfl, k⟩
  have hc := k.lt
  have hm : h.size ∈ [h.size] := by simp
  simp (maxSteps := 4000000) (disch := omega) only [ah, am, Nat.reduceEqDiff, reduceCtorEq, Nat.reduceAdd, Nat.reduceLeDiff, Nat.reduceMul, Nat.reduceLT, if_true, if_false, true_and, and_true, and_self, Nat.reduceBEq, QOp.loads, boxO, bslO, buildO, cutL, fillV, putL, w32, v32]
  refine stepC.of (l4DrawTrack_ok _ _ k) ?_
  rintro av H2 ⟨l, F, k, D⟩
  have D2 := D.2
  have M2 := F.mine.lo (a' := h.size + 1) (by omega)
  have hc2 := k.lt
  simp (maxSteps := 4000000) (disch := omega) only [ah, am, Nat.reduceEqDiff, reduceCtorEq, Nat.reduceAdd, Nat.reduceLeDiff, Nat.reduceMul, Nat.reduceLT, if_true, if_false, true_and, and_true, and_self, Nat.reduceBEq, QOp.loads, boxO, bslO, buildO, cutL, fillV, putL, w32, v32]
  refine stepC.of (l5DrawNext_ok _ _ _ _ F.slt k (by omega)) ?_
  rintro bv H3 ⟨m2, F2, k, B2⟩
  have G := F2.ext.toG
  have F := F.stepG G hm hc
  have M3 := M2.chg (G.chg (Nat.le_refl _) (Nat.lt_succ_self _)) (by omega)
  simp (maxSteps := 4000000) (disch := omega) only [ah, am, Nat.reduceEqDiff, reduceCtorEq, Nat.reduceAdd, Nat.reduceLeDiff, Nat.reduceMul, Nat.reduceLT, if_true, if_false, true_and, and_true, and_self, Nat.reduceBEq, QOp.loads, boxO, bslO, buildO, cutL, fillV, putL, w32, v32]
  refine stepC.of (specChanges_ok _ _ _ _ _ F.slt F2.slt (by omega) (by omega)) ?_
  intro chv H4 FW
  have T : Dw h.size H2.size h H4 encChange 4 chv (changesF l m2) encClip 3 av l := by
    have x2 := G.1
    have fo := (F.step FW.1).out' e1 (Nat.le_refl _)
    obtain ⟨ew, g, hg, o⟩ := FW
    exact ⟨fo.1, Nat.le_refl _, hc2, by have := ew.1; omega, ⟨g, by omega, o⟩, M3.ext ew⟩
  have k := k.ext FW.1
  have lch : (changesF l m2).length ≤ 400 := by
    unfold changesF; split
    · rename_i h
      have l1 := keepF_length 1 (chP l m2); have l2 := keepF_length 2 (sumLen l - chP l m2 - chQ l m2); have l4 := keepF_length 1 (chQ l m2)
      have := partS_length (chP l m2) (sumLen m2 - chQ l m2) m2 0
      have := join_length (partS (chP l m2) (sumLen m2 - chQ l m2) 0 m2)
      have := h.2.1
      simp only [changesL, List.length_append, List.length_map]; omega
    · simp
  generalize changesF l m2 = ml at T lch
  clear F F2 FW G M2 M3 s
  have rest : ∀ (H : Heap) (E : Env) (lv : Value) (ml : List Change), Dw h.size H2.size h H encChange 4 lv ml encClip 3 av l → Cur H h.size → ml.length ≤ 500 →
      E.get 4 = some (.pointer (some ⟨h.size, 0, none⟩)) → E.get 5 = some av → E.get 6 = some lv →
      SW Try.prog c32_72 (retQ [RV.t 2, RV.t 3] fun r h' => ∃ av lv l m, r = .tuple #[av, lv] ∧ Ext h h' ∧ SlT h' encClip 3 av l ∧ SlT h' encChange 4 lv m ∧ l.length ≤ 1000 ∧ m.length ≤ 1000) E H := by
    intro H E lv ml T k hml g4 g5 g6
    simp (maxSteps := 4000000) (disch := omega) only [ah, am, Nat.reduceEqDiff, reduceCtorEq, Nat.reduceAdd, Nat.reduceLeDiff, Nat.reduceMul, Nat.reduceLT, if_true, if_false, true_and, and_true, and_self, Nat.reduceBEq, QOp.loads, boxO, bslO, buildO, cutL, fillV, putL, w32, v32, g4, g5, g6]
    refine stepC.of (l1Once_ok _ _ _ k) ?_
    rintro _ H2 ⟨b, rfl, g, k⟩
    have T := T.stepG g
    have R := T.slt.rulesN
    cases b with
    | false =>
      simp (maxSteps := 4000000) (disch := omega) only [ah, am, Nat.reduceEqDiff, reduceCtorEq, Nat.reduceAdd, Nat.reduceLeDiff, Nat.reduceMul, Nat.reduceLT, if_true, if_false, true_and, and_true, and_self, Nat.reduceBEq, QOp.loads, boxO, bslO, buildO, cutL, fillV, putL, w32, v32, g4, g5, g6, R]
      exact ⟨av, lv, l, ml, rfl, T.ext, T.mine.slt, T.slt, by omega, by omega⟩
    | true =>
      by_cases h0 : 0 < ml.length
      rotate_left
      · have h0' : decide (0 < (ml.length : Int)) = false := decide_eq_false (by omega)
        simp (maxSteps := 4000000) (disch := omega) only [ah, am, Nat.reduceEqDiff, reduceCtorEq, Nat.reduceAdd, Nat.reduceLeDiff, Nat.reduceMul, Nat.reduceLT, if_true, if_false, true_and, and_true, and_self, Nat.reduceBEq, QOp.loads, boxO, bslO, buildO, cutL, fillV, putL, w32, v32, g4, g5, g6, R, h0']
        exact ⟨av, lv, l, ml, rfl, T.ext, T.mine.slt, T.slt, by omega, by omega⟩
      have h0' : decide (0 < (ml.length : Int)) = true := decide_eq_true (by omega)
      simp (maxSteps := 4000000) (disch := omega) only [ah, am, Nat.reduceEqDiff, reduceCtorEq, Nat.reduceAdd, Nat.reduceLeDiff, Nat.reduceMul, Nat.reduceLT, if_true, if_false, true_and, and_true, and_self, Nat.reduceBEq, QOp.loads, boxO, bslO, buildO, cutL, fillV, putL, w32, v32, g4, g5, g6, R, h0']
      refine stepC.of (l1Below_ok _ _ _ k) ?_
      rintro _ H3 ⟨j, rfl, j1, j2, _, g, k⟩
      have T := T.stepG g
      have R := T.slt.rulesN
      have hj : j < ml.length := j2 (by omega)
      obtain ⟨jn, rfl⟩ : ∃ jn : Nat, j = jn := ⟨j.toNat, by omega⟩
      have hjn : jn < ml.length := by omega
      have NP := nil_ptr T.slt h0
      simp (maxSteps := 4000000) (disch := omega) only [ah, am, Nat.reduceEqDiff, reduceCtorEq, Nat.reduceAdd, Nat.reduceLeDiff, Nat.reduceMul, Nat.reduceLT, if_true, if_false, true_and, and_true, and_self, Nat.reduceBEq, QOp.loads, boxO, bslO, buildO, cutL, fillV, putL, w32, v32, g4, g5, g6, R]
      refine stepC.of (l1Below_ok _ _ _ k) ?_
      rintro _ H4 ⟨z, rfl, z1, z2, _, g, k⟩
      have T := T.stepG g
      have R := T.slt.rulesN
      have z3 : z < 4 := z2 (by omega)
      by_cases hz0 : z = 0
      · have hz0' : decide (z = 0) = true := decide_eq_true hz0
        simp (maxSteps := 4000000) (disch := omega) only [ah, am, Nat.reduceEqDiff, reduceCtorEq, Nat.reduceAdd, Nat.reduceLeDiff, Nat.reduceMul, Nat.reduceLT, if_true, if_false, true_and, and_true, and_self, Nat.reduceBEq, QOp.loads, boxO, bslO, buildO, cutL, fillV, putL, w32, v32, g4, g5, g6, R, hz0']
        refine stepC.of (l1From_ok _ _ _ _ k (by omega) (by omega) (by omega)) ?_
        rintro _ H5 ⟨x, rfl, _, g, k⟩
        have T := T.stepG g
        have R := T.slt.rulesN
        obtain ⟨H6, es, T, _⟩ := T.setF (j := jn) (f := 0) (n := 1) hjn (x := ⟨x, ml[jn].src, ml[jn].inn, ml[jn].len⟩) (y := .int .i64 x) (by simp [encChange, splice, cells_int]) (by omega) rfl (by omega) rfl
        simp only [Nat.add_zero] at es
        simp (maxSteps := 4000000) (disch := omega) only [ah, am, Nat.reduceEqDiff, reduceCtorEq, Nat.reduceAdd, Nat.reduceLeDiff, Nat.reduceMul, Nat.reduceLT, if_true, if_false, true_and, and_true, and_self, Nat.reduceBEq, QOp.loads, boxO, bslO, buildO, cutL, fillV, putL, w32, v32, R, NP, es]
        exact ⟨av, lv, l, _, rfl, T.ext, T.mine.slt, T.slt, by omega, by simp; omega⟩
      have hz0' : decide (z = 0) = false := decide_eq_false hz0
      by_cases hz1 : z = 1
      · have hz1' : decide (z = 1) = true := decide_eq_true hz1
        simp (maxSteps := 4000000) (disch := omega) only [ah, am, Nat.reduceEqDiff, reduceCtorEq, Nat.reduceAdd, Nat.reduceLeDiff, Nat.reduceMul, Nat.reduceLT, if_true, if_false, true_and, and_true, and_self, Nat.reduceBEq, QOp.loads, boxO, bslO, buildO, cutL, fillV, putL, w32, v32, g4, g5, g6, R, NP, encChange, hz0', hz1']
        have hcl := k.lt
        refine stepC.of (l1Below_ok _ _ _ (k.ext (Ext.more H4 _))) ?_
        rintro _ H5 ⟨y, rfl, y1, y2, _, g, k⟩
        have y3 : y < 6 := y2 (by omega)
        obtain ⟨w, hw⟩ := pick_lits g hcl y1 (by simpa using y3) rfl
        have T := (T.step (Ext.more H4 _)).stepG g
        have R := T.slt.rulesN
        obtain ⟨H6, es, T, _⟩ := T.setF (j := jn) (f := 3) (n := 1) hjn (x := ⟨ml[jn].kind, ml[jn].src, ml[jn].inn, w⟩) (y := .int .i64 w) (by simp [encChange, splice, cells_int]) (by omega) rfl (by omega) rfl
        simp (maxSteps := 4000000) (disch := omega) only [ah, am, Nat.reduceEqDiff, reduceCtorEq, Nat.reduceAdd, Nat.reduceLeDiff, Nat.reduceMul, Nat.reduceLT, if_true, if_false, true_and, and_true, and_self, Nat.reduceBEq, QOp.loads, boxO, bslO, buildO, cutL, fillV, putL, w32, v32, Nat.mul_one, hw, R, NP, encChange, es]
        exact ⟨av, lv, l, _, rfl, T.ext, T.mine.slt, T.slt, by omega, by simp; omega⟩
      have hz1' : decide (z = 1) = false := decide_eq_false hz1
      by_cases hz2 : z = 2
      · have hz2' : decide (z = 2) = true := decide_eq_true hz2
        simp (maxSteps := 4000000) (disch := omega) only [ah, am, Nat.reduceEqDiff, reduceCtorEq, Nat.reduceAdd, Nat.reduceLeDiff, Nat.reduceMul, Nat.reduceLT, if_true, if_false, true_and, and_true, and_self, Nat.reduceBEq, QOp.loads, boxO, bslO, buildO, cutL, fillV, putL, w32, v32, g4, g5, g6, R, hz0', hz1', hz2']
        refine stepC.of (l1From_ok _ _ _ _ k (by omega) (by omega) (by omega)) ?_
        rintro _ H5 ⟨x, rfl, _, g, k⟩
        have T := T.stepG g
        have R := T.slt.rulesN
        obtain ⟨H6, es, T, _⟩ := T.setF (j := jn) (f := 1) (n := 1) hjn (x := ⟨ml[jn].kind, x, ml[jn].inn, ml[jn].len⟩) (y := .int .i64 x) (by simp [encChange, splice, cells_int]) (by omega) rfl (by omega) rfl
        simp (maxSteps := 4000000) (disch := omega) only [ah, am, Nat.reduceEqDiff, reduceCtorEq, Nat.reduceAdd, Nat.reduceLeDiff, Nat.reduceMul, Nat.reduceLT, if_true, if_false, true_and, and_true, and_self, Nat.reduceBEq, QOp.loads, boxO, bslO, buildO, cutL, fillV, putL, w32, v32, R, NP, es]
        exact ⟨av, lv, l, _, rfl, T.ext, T.mine.slt, T.slt, by omega, by simp; omega⟩
      have hz2' : decide (z = 2) = false := decide_eq_false hz2
      have hz3' : decide (z = 3) = true := decide_eq_true (by omega)
      obtain ⟨v2, H6, ea, T2, _⟩ := T.app1 [] ml[jn] (bytes := 32) (by omega)
      simp only [List.nil_append, List.length_nil, Nat.add_zero, encChange] at ea
      simp (maxSteps := 4000000) (disch := omega) only [ah, am, Nat.reduceEqDiff, reduceCtorEq, Nat.reduceAdd, Nat.reduceLeDiff, Nat.reduceMul, Nat.reduceLT, if_true, if_false, true_and, and_true, and_self, Nat.reduceBEq, QOp.loads, boxO, bslO, buildO, cutL, fillV, putL, w32, v32, g4, g5, g6, R, NP, encChange, hz0', hz1', hz2', hz3', ea]
      exact ⟨av, v2, l, _, rfl, T2.ext, T2.mine.slt, T2.slt, by omega, by simp; omega⟩
  have key : ∀ (Q : Go.Exit → Env → Heap → Prop), (∀ (E : Env) (H : Heap) (lv : Value) (ml : List Change), Dw h.size H2.size h H encChange 4 lv ml encClip 3 av l → Cur H h.size → ml.length ≤ 500 →
      E.get 4 = some (.pointer (some ⟨h.size, 0, none⟩)) → E.get 5 = some av → E.get 6 = some lv → Q (.exit 0) E H) →
      ∀ (H : Heap) (tl : Env) (left : Int) (lv : Value), Dw h.size H2.size h H encChange 4 lv [] encClip 3 av l → Cur H h.size → 0 ≤ left ∧ left ≤ 10000000 →
      SW Try.prog (.loop c32_38) Q ((4, .pointer (some ⟨h.size, 0, none⟩)) :: (5, av) :: (6, lv) :: (7, .int .i64 left) :: tl) H := by
    intro Q hQ H tl left lv T k hleft
    refine SW_loop_up (fun i E H => ∃ lv ml left tl, E = (4, .pointer (some ⟨h.size, 0, none⟩)) :: (5, av) :: (6, lv) :: (7, .int .i64 left) :: tl ∧ Dw h.size H2.size h H encChange 4 lv ml encClip 3 av l ∧ Cur H h.size ∧ ml.length = i ∧ 0 ≤ left ∧ left ≤ 10000000) 20 0 (by omega)
      ⟨lv, [], left, tl, rfl, T, k, rfl, hleft⟩ ?_
    clear T k hleft
    rintro i E H hi ⟨lv, ml, left, tl, rfl, T, k, rfl, l0, l1⟩
    have R := T.slt.rulesN
    by_cases hp : 0 < left
    rotate_left
    · have hp' : decide (0 < left) = false := decide_eq_false hp
      simp (maxSteps := 4000000) (disch := omega) only [ah, am, Nat.reduceEqDiff, reduceCtorEq, Nat.reduceAdd, Nat.reduceLeDiff, Nat.reduceMul, Nat.reduceLT, if_true, if_false, true_and, and_true, and_self, Nat.reduceBEq, QOp.loads, boxO, bslO, buildO, cutL, fillV, putL, w32, v32, R, hp']
      exact hQ _ _ lv ml T k (by omega) rfl rfl rfl
    have hp' : decide (0 < left) = true := decide_eq_true hp
    by_cases hn : ml.length < 20
    rotate_left
    · have hn' : decide ((ml.length : Int) < 20) = false := decide_eq_false (by omega)
      simp (maxSteps := 4000000) (disch := omega) only [ah, am, Nat.reduceEqDiff, reduceCtorEq, Nat.reduceAdd, Nat.reduceLeDiff, Nat.reduceMul, Nat.reduceLT, if_true, if_false, true_and, and_true, and_self, Nat.reduceBEq, QOp.loads, boxO, bslO, buildO, cutL, fillV, putL, w32, v32, R, hp', hn']
      exact hQ _ _ lv ml T k (by omega) rfl rfl rfl
    have hn' : decide ((ml.length : Int) < 20) = true := decide_eq_true (by omega)
    simp (maxSteps := 4000000) (disch := omega) only [ah, am, Nat.reduceEqDiff, reduceCtorEq, Nat.reduceAdd, Nat.reduceLeDiff, Nat.reduceMul, Nat.reduceLT, if_true, if_false, true_and, and_true, and_self, Nat.reduceBEq, QOp.loads, boxO, bslO, buildO, cutL, fillV, putL, w32, v32, R, hp', hn']
    refine stepC.of (l1Below_ok _ _ _ k) ?_
    rintro _ H3 ⟨y, rfl, y1, y2, _, g, k⟩
    have T := T.stepG g
    have y3 : y < left := y2 hp
    have W : IntKind.i64.wrap (1 + y) = 1 + y := i64w (by omega)
    have W2 : IntKind.i64.wrap (left - (1 + y)) = left - (1 + y) := i64w (by omega)
    simp (maxSteps := 4000000) (disch := omega) only [ah, am, Nat.reduceEqDiff, reduceCtorEq, Nat.reduceAdd, Nat.reduceLeDiff, Nat.reduceMul, Nat.reduceLT, if_true, if_false, true_and, and_true, and_self, Nat.reduceBEq, QOp.loads, boxO, bslO, buildO, cutL, fillV, putL, w32, v32, W]
    refine stepC.of (l1Below_ok _ _ _ k) ?_
    rintro _ H4 ⟨z, rfl, z1, z2, _, g, k⟩
    have T := T.stepG g
    have z3 : z < 3 := z2 (by omega)
    by_cases hz0 : z = 0
    · have hz0' : decide (z = 0) = true := decide_eq_true hz0
      obtain ⟨v2, H6, ea, T2, gg, hg, G⟩ := T.app1 [] ⟨1, 0, 0, 1 + y⟩ (bytes := 32) (by omega)
      have k2 := (k.ext (Ext.more _ _)).step G hg
      simp only [List.nil_append, List.length_nil, Nat.add_zero, encChange] at ea
      simp (maxSteps := 4000000) (disch := omega) only [ah, am, Nat.reduceEqDiff, reduceCtorEq, Nat.reduceAdd, Nat.reduceLeDiff, Nat.reduceMul, Nat.reduceLT, if_true, if_false, true_and, and_true, and_self, Nat.reduceBEq, QOp.loads, boxO, bslO, buildO, cutL, fillV, putL, w32, v32, hz0', ea, W2]
      exact ⟨hn, v2, _, _, _, rfl, T2, k2, by simp, by omega, by omega⟩
    have hz0' : decide (z = 0) = false := decide_eq_false hz0
    by_cases hz1 : z = 1
    · have hz1' : decide (z = 1) = true := decide_eq_true hz1
      obtain ⟨v2, H6, ea, T2, gg, hg, G⟩ := T.app1 [] ⟨2, 0, 0, 1 + y⟩ (bytes := 32) (by omega)
      have k2 := (k.ext (Ext.more _ _)).step G hg
      simp only [List.nil_append, List.length_nil, Nat.add_zero, encChange] at ea
      simp (maxSteps := 4000000) (disch := omega) only [ah, am, Nat.reduceEqDiff, reduceCtorEq, Nat.reduceAdd, Nat.reduceLeDiff, Nat.reduceMul, Nat.reduceLT, if_true, if_false, true_and, and_true, and_self, Nat.reduceBEq, QOp.loads, boxO, bslO, buildO, cutL, fillV, putL, w32, v32, hz0', hz1', ea, W2]
      exact ⟨hn, v2, _, _, _, rfl, T2, k2, by simp, by omega, by omega⟩
    have hz1' : decide (z = 1) = false := decide_eq_false hz1
    have hz2' : decide (z = 2) = true := decide_eq_true (by omega)
    simp (maxSteps := 4000000) (disch := omega) only [ah, am, Nat.reduceEqDiff, reduceCtorEq, Nat.reduceAdd, Nat.reduceLeDiff, Nat.reduceMul, Nat.reduceLT, if_true, if_false, true_and, and_true, and_self, Nat.reduceBEq, QOp.loads, boxO, bslO, buildO, cutL, fillV, putL, w32, v32, hz0', hz1', hz2']
    refine stepC.of (l4DrawClip_ok _ _ k) ?_
    rintro _ H5 ⟨a, rfl, da, g, k⟩
    have T := T.stepG g
    obtain ⟨v2, H6, ea, T2, gg, hg, G⟩ := T.app1 [encClip a] ⟨3, a.src, a.inn, a.len⟩ (bytes := 32) (by omega)
    have k2 := (k.ext (Ext.more _ _)).step G hg
    simp only [List.cons_append, List.nil_append, List.length_cons, List.length_nil, Nat.zero_add, encChange, encClip] at ea
    simp (maxSteps := 4000000) (disch := omega) only [ah, am, Nat.reduceEqDiff, reduceCtorEq, Nat.reduceAdd, Nat.reduceLeDiff, Nat.reduceMul, Nat.reduceLT, if_true, if_false, true_and, and_true, and_self, Nat.reduceBEq, QOp.loads, boxO, bslO, buildO, cutL, fillV, putL, w32, v32, hz0', hz1', hz2', encClip, ea]
    exact ⟨hn, v2, _, _, _, rfl, T2, k2, by simp, by omega, by omega⟩
  simp (maxSteps := 4000000) (disch := omega) only [ah, am, Nat.reduceEqDiff, reduceCtorEq, Nat.reduceAdd, Nat.reduceLeDiff, Nat.reduceMul, Nat.reduceLT, if_true, if_false, true_and, and_true, and_self, Nat.reduceBEq, QOp.loads, boxO, bslO, buildO, cutL, fillV, putL, w32, v32]
  refine stepC.of (l1Once_ok _ _ _ k) ?_
  rintro _ H5 ⟨b, rfl, g, k⟩
  have T := T.stepG g
  generalize c32_72 = fc at rest ⊢
  cases b with
  | false =>
    simp (maxSteps := 4000000) (disch := omega) only [ah, am, Nat.reduceEqDiff, reduceCtorEq, Nat.reduceAdd, Nat.reduceLeDiff, Nat.reduceMul, Nat.reduceLT, if_true, if_false, true_and, and_true, and_self, Nat.reduceBEq, QOp.loads, boxO, bslO, buildO, cutL, fillV, putL, w32, v32]
    exact rest _ _ _ _ T k (by omega) rfl rfl rfl
  | true =>
    have T0 := Dw.swap T (Fresh.new0 H5 encChange_len (by omega))
    have k := k.ext (Ext.more H5 [[]])
    simp (maxSteps := 4000000) (disch := omega) only [ah, am, Nat.reduceEqDiff, reduceCtorEq, Nat.reduceAdd, Nat.reduceLeDiff, Nat.reduceMul, Nat.reduceLT, if_true, if_false, true_and, and_true, and_self, Nat.reduceBEq, QOp.loads, boxO, bslO, buildO, cutL, fillV, putL, w32, v32]
    refine stepC.of (TrackOk_ok _ _ _ T0.mine.slt (by omega)) ?_
    rintro _ H6 ⟨e6, rfl⟩
    have T0 := T0.step e6
    have k := k.ext e6
    by_cases ht : trackOk l
    · have ht' : decide (trackOk l) = true := decide_eq_true ht
      simp (maxSteps := 4000000) (disch := omega) only [ah, am, Nat.reduceEqDiff, reduceCtorEq, Nat.reduceAdd, Nat.reduceLeDiff, Nat.reduceMul, Nat.reduceLT, if_true, if_false, true_and, and_true, and_self, Nat.reduceBEq, QOp.loads, boxO, bslO, buildO, cutL, fillV, putL, w32, v32, ht']
      refine stepC.of (l4Length_ok _ _ _ T0.mine.slt ht.1 ht.2.1) ?_
      rintro _ Hx ⟨hx, rfl⟩; rw [hx]; clear hx Hx
      have hsum := sumLen_bound ht.2.1
      have hs2 := ht.2.2
      simp (maxSteps := 4000000) (disch := omega) only [ah, am, Nat.reduceEqDiff, reduceCtorEq, Nat.reduceAdd, Nat.reduceLeDiff, Nat.reduceMul, Nat.reduceLT, if_true, if_false, true_and, and_true, and_self, Nat.reduceBEq, QOp.loads, boxO, bslO, buildO, cutL, fillV, putL, w32, v32]
      refine key _ (fun E H lv ml T k hml g4 g5 g6 => ?_) _ _ _ _ T0 k (by omega)
      simp (maxSteps := 4000000) (disch := omega) only [ah, am, Nat.reduceEqDiff, reduceCtorEq, Nat.reduceAdd, Nat.reduceLeDiff, Nat.reduceMul, Nat.reduceLT, if_true, if_false, true_and, and_true, and_self, Nat.reduceBEq, QOp.loads, boxO, bslO, buildO, cutL, fillV, putL, w32, v32, g4, g5, g6]
      exact rest _ _ _ _ T k hml (by first | rfl | exact g4) (by first | rfl | exact g5) (by first | rfl | exact g6)
    · have ht' : decide (trackOk l) = false := decide_eq_false ht
      simp (maxSteps := 4000000) (disch := omega) only [ah, am, Nat.reduceEqDiff, reduceCtorEq, Nat.reduceAdd, Nat.reduceLeDiff, Nat.reduceMul, Nat.reduceLT, if_true, if_false, true_and, and_true, and_self, Nat.reduceBEq, QOp.loads, boxO, bslO, buildO, cutL, fillV, putL, w32, v32, ht']
      refine key _ (fun E H lv ml T k hml g4 g5 g6 => ?_) _ _ _ _ T0 k (by omega)
      simp (maxSteps := 4000000) (disch := omega) only [ah, am, Nat.reduceEqDiff, reduceCtorEq, Nat.reduceAdd, Nat.reduceLeDiff, Nat.reduceMul, Nat.reduceLT, if_true, if_false, true_and, and_true, and_self, Nat.reduceBEq, QOp.loads, boxO, bslO, buildO, cutL, fillV, putL, w32, v32, g4, g5, g6]
      exact rest _ _ _ _ T k hml (by first | rfl | exact g4) (by first | rfl | exact g5) (by first | rfl | exact g6)
end Go.Proofs.Ytbnppofkpgfhnaa
