import Derived.Test.YtknpombiomnkbaaD4
import Derived.Test.YtknpombiomnkbaaS13
namespace Go.Proofs.Ytknpombiomnkbaa
open Go Go.Ah
set_option linter.unusedSimpArgs false
set_option linter.unusedVariables false
set_option maxRecDepth 10000
set_option maxHeartbeats 4000000
/-! 70 loop.example/g00066/spec.l8DrawKeys: parameters 1, live [0], slots [0:c, 1:c, 3:out, 4:at, 5:n, 6:x, 7:i] -/
def c70_0 : List SOper := [⟨some 2, .q (.mv (.c (.slice none 0 0))), none⟩]
def c70_1 : List SOper := [⟨some 8, .a (.bsl 0 2 [] []), none⟩, ⟨some 3, .q (.mv (.t 8)), none⟩]
def c70_2 : List SOper := [⟨some 9, .q (.mv (.t 0)), none⟩, ⟨some 10, .e (.call 47 [(.t 9), (.c (.int .i64 5))]), none⟩, ⟨some 4, .q (.mv (.t 10)), none⟩]
def c70_3 : List SOper := [⟨some 11, .q (.mv (.t 0)), none⟩, ⟨some 12, .e (.call 47 [(.t 11), (.c (.int .i64 5))]), none⟩, ⟨some 13, .q (.bin .add (.c (.int .i64 1)) (.t 12)), none⟩, ⟨some 5, .q (.mv (.t 13)), none⟩]
def c70_4 : List SOper := [⟨some 14, .q (.mv (.t 5)), none⟩, ⟨some 15, .q (.bin .gtr (.t 14) (.c (.int .i64 0))), none⟩]
def c70_5 : SCode := .cond (.t 15) .skip (.exit 0)
def c70_6 : SCode := .seq (.region c70_4 [0, 3, 4, 5, 15]) c70_5
def c70_7 : List SOper := [⟨some 18, .q (.mv (.t 3)), none⟩, ⟨some 19, .q (.mv (.t 4)), none⟩, ⟨some 20, .q (.mv (.t 0)), none⟩, ⟨some 21, .e (.call 47 [(.t 20), (.c (.int .i64 80))]), none⟩, ⟨some 22, .q (.build [(.int .i64 0), (.int .i64 0)] [(0, 1, (.t 19)), (1, 1, (.t 21))]), none⟩, ⟨some 23, .a (.bsl 1 2 [(.int .i64 0), (.int .i64 0)] [(0, 2, (.t 22))]), none⟩, ⟨some 24, .e (.app 16 2 (.t 18) (.t 23)), none⟩, ⟨some 3, .q (.mv (.t 24)), none⟩]
def c70_8 : List SOper := [⟨some 25, .q (.mv (.t 4)), none⟩, ⟨some 26, .q (.bin .add (.t 25) (.c (.int .i64 1))), none⟩, ⟨some 27, .q (.mv (.t 0)), none⟩, ⟨some 28, .e (.call 47 [(.t 27), (.c (.int .i64 20))]), none⟩, ⟨some 29, .q (.bin .add (.t 26) (.t 28)), none⟩, ⟨some 4, .q (.mv (.t 29)), none⟩]
def c70_9 : SCode := .seq (.region c70_7 [0, 3, 4, 5]) (.region c70_8 [0, 3, 4, 5])
def c70_10 : SCode := .block 1 c70_9
def c70_11 : List SOper := [⟨some 16, .q (.mv (.t 5)), none⟩, ⟨some 17, .q (.bin .sub (.t 16) (.c (.int .i64 1))), none⟩, ⟨some 5, .q (.mv (.t 17)), none⟩]
def c70_12 : SCode := .seq c70_10 (.region c70_11 [0, 3, 4, 5])
def c70_13 : SCode := .seq c70_6 c70_12
def c70_14 : SCode := .loop c70_13
def c70_15 : SCode := .block 0 c70_14
def c70_16 : SCode := .seq (.region c70_3 [0, 3, 4, 5]) c70_15
def c70_17 : List SOper := [⟨some 30, .q (.mv (.t 0)), none⟩, ⟨some 31, .e (.call 49 [(.t 30), (.c (.int .i64 14))]), none⟩]
def c70_18 : List SOper := [⟨some 32, .q (.mv (.t 3)), none⟩, ⟨some 33, .q (.mv (.t 0)), none⟩, ⟨some 34, .q (.mv (.t 3)), none⟩, ⟨some 35, .q (.len (.t 34)), none⟩, ⟨some 36, .e (.call 47 [(.t 33), (.t 35)]), none⟩, ⟨some 37, .q (.ia 2 (.t 32) (.t 36)), none⟩, ⟨some 6, .q (.mv (.t 37)), none⟩]
def c70_19 : List SOper := [⟨some 38, .q (.mv (.t 0)), none⟩, ⟨some 39, .e (.call 47 [(.t 38), (.c (.int .i64 3))]), none⟩]
def c70_20 : List SOper := [⟨some 41, .q (.bin .eql (.t 39) (.c (.int .i64 0))), none⟩, ⟨some 40, .q (.mv (.t 41)), none⟩]
def c70_21 : List SOper := [⟨some 42, .q (.mv (.t 6)), none⟩, ⟨some 43, .a (.bsl 4 1 [(.int .i64 0), (.int .i64 0), (.int .i64 0), (.int .i64 0)] [(0, 1, (.c (.int .i64 (-1)))), (1, 1, (.c (.int .i64 10000000))), (2, 1, (.c (.int .i64 10000001))), (3, 1, (.c (.int .i64 3)))]), none⟩, ⟨some 44, .q (.mv (.t 0)), none⟩, ⟨some 45, .e (.call 47 [(.t 44), (.c (.int .i64 4))]), none⟩, ⟨some 46, .q (.ia 1 (.t 43) (.t 45)), none⟩, ⟨some 47, .q (.ld (.t 46)), none⟩, ⟨some 48, .q (.nil (.t 42)), none⟩, ⟨some 49, .q (.fa 0 (.t 48)), none⟩, ⟨none, .e (.st 1 (.t 49) (.t 47)), none⟩]
def c70_22 : List SOper := [⟨some 51, .q (.bin .eql (.t 39) (.c (.int .i64 1))), none⟩, ⟨some 50, .q (.mv (.t 51)), none⟩]
def c70_23 : List SOper := [⟨some 52, .q (.mv (.t 6)), none⟩, ⟨some 53, .a (.bsl 3 1 [(.int .i64 0), (.int .i64 0), (.int .i64 0)] [(0, 1, (.c (.int .i64 (-1)))), (1, 1, (.c (.int .i64 10000000))), (2, 1, (.c (.int .i64 10000001)))]), none⟩, ⟨some 54, .q (.mv (.t 0)), none⟩, ⟨some 55, .e (.call 47 [(.t 54), (.c (.int .i64 3))]), none⟩, ⟨some 56, .q (.ia 1 (.t 53) (.t 55)), none⟩, ⟨some 57, .q (.ld (.t 56)), none⟩, ⟨some 58, .q (.nil (.t 52)), none⟩, ⟨some 59, .q (.fa 1 (.t 58)), none⟩, ⟨none, .e (.st 1 (.t 59) (.t 57)), none⟩]
def c70_24 : List SOper := [⟨some 61, .q (.bin .eql (.t 39) (.c (.int .i64 2))), none⟩, ⟨some 60, .q (.mv (.t 61)), none⟩]
def c70_25 : List SOper := [⟨some 62, .a (.bsl 0 2 [] []), none⟩, ⟨some 3, .q (.mv (.t 62)), none⟩]
def c70_26 : SCode := .cond (.t 60) (.region c70_25 [0, 3]) .skip
def c70_27 : SCode := .seq (.region c70_24 [0, 3, 60]) c70_26
def c70_28 : SCode := .cond (.t 50) (.region c70_23 [0, 3]) c70_27
def c70_29 : SCode := .seq (.region c70_22 [0, 3, 6, 39, 50]) c70_28
def c70_30 : SCode := .cond (.t 40) (.region c70_21 [0, 3]) c70_29
def c70_31 : SCode := .seq (.region c70_20 [0, 3, 6, 39, 40]) c70_30
def c70_32 : SCode := .block 2 c70_31
def c70_33 : SCode := .seq (.region c70_19 [0, 3, 6, 39]) c70_32
def c70_34 : SCode := .seq (.region c70_18 [0, 3, 6]) c70_33
def c70_35 : SCode := .cond (.t 31) c70_34 .skip
def c70_36 : SCode := .seq (.region c70_17 [0, 3, 31]) c70_35
def c70_37 : List SOper := [⟨some 63, .q (.mv (.t 0)), none⟩, ⟨some 64, .e (.call 49 [(.t 63), (.c (.int .i64 60))]), none⟩]
def c70_38 : List SOper := [⟨some 65, .a (.bsl 0 2 [] []), none⟩, ⟨some 3, .q (.mv (.t 65)), none⟩]
def c70_39 : List SOper := [⟨some 7, .q (.mv (.c (.int .i64 0))), none⟩]
def c70_40 : List SOper := [⟨some 66, .q (.mv (.t 7)), none⟩, ⟨some 67, .q (.mv (.t 0)), none⟩, ⟨some 68, .e (.call 47 [(.t 67), (.c (.int .i64 2))]), none⟩, ⟨some 69, .q (.bin .add (.c (.int .i64 100)) (.t 68)), none⟩, ⟨some 70, .q (.bin .lss (.t 66) (.t 69)), none⟩]
def c70_41 : SCode := .cond (.t 70) .skip (.exit 3)
def c70_42 : SCode := .seq (.region c70_40 [0, 3, 7, 70]) c70_41
def c70_43 : List SOper := [⟨some 73, .q (.mv (.t 3)), none⟩, ⟨some 74, .q (.mv (.t 7)), none⟩, ⟨some 75, .q (.bin .mul (.t 74) (.c (.int .i64 2))), none⟩, ⟨some 76, .q (.mv (.t 7)), none⟩, ⟨some 77, .q (.mv (.t 7)), none⟩, ⟨some 78, .q (.bin .mul (.t 76) (.t 77)), none⟩, ⟨some 79, .q (.bin .rem (.t 78) (.c (.int .i64 90))), none⟩, ⟨some 80, .q (.build [(.int .i64 0), (.int .i64 0)] [(0, 1, (.t 75)), (1, 1, (.t 79))]), none⟩, ⟨some 81, .a (.bsl 1 2 [(.int .i64 0), (.int .i64 0)] [(0, 2, (.t 80))]), none⟩, ⟨some 82, .e (.app 16 2 (.t 73) (.t 81)), none⟩, ⟨some 3, .q (.mv (.t 82)), none⟩]
def c70_44 : SCode := .block 4 (.region c70_43 [0, 3, 7])
def c70_45 : List SOper := [⟨some 71, .q (.mv (.t 7)), none⟩, ⟨some 72, .q (.bin .add (.t 71) (.c (.int .i64 1))), none⟩, ⟨some 7, .q (.mv (.t 72)), none⟩]
def c70_46 : SCode := .seq c70_44 (.region c70_45 [0, 3, 7])
def c70_47 : SCode := .seq c70_42 c70_46
def c70_48 : SCode := .loop c70_47
def c70_49 : SCode := .block 3 c70_48
def c70_50 : SCode := .seq (.region c70_39 [0, 3, 7]) c70_49
def c70_51 : SCode := .seq (.region c70_38 [0, 3]) c70_50
def c70_52 : SCode := .cond (.t 64) c70_51 .skip
def c70_53 : SCode := .seq (.region c70_37 [0, 3, 64]) c70_52
def c70_54 : List SOper := [⟨some 83, .q (.mv (.t 3)), none⟩, ⟨some 2, .q (.mv (.t 83)), none⟩]
def c70_55 : SCode := .seq (.region c70_54 [2]) .ret
def c70_56 : SCode := .seq c70_53 c70_55
def c70_57 : SCode := .seq c70_36 c70_56
def c70_58 : SCode := .seq c70_16 c70_57
def c70_59 : SCode := .seq (.region c70_2 [0, 3, 4]) c70_58
def c70_60 : SCode := .seq (.region c70_1 [0, 3]) c70_59
def c70_61 : SCode := .seq (.region c70_0 [0]) c70_60
def c70 : SCode := c70_61
theorem w70 : type_of% (And.intro (uR Try.prog c70_0.eq_1) (And.intro (uR Try.prog c70_1.eq_1) (And.intro (uR Try.prog c70_2.eq_1) (And.intro (uR Try.prog c70_3.eq_1) (And.intro (uR Try.prog c70_4.eq_1) (And.intro (uC Try.prog c70_5.eq_1) (And.intro (uC Try.prog c70_6.eq_1) (And.intro (uR Try.prog c70_7.eq_1) (And.intro (uR Try.prog c70_8.eq_1) (And.intro (uC Try.prog c70_9.eq_1) (And.intro (uC Try.prog c70_10.eq_1) (And.intro (uR Try.prog c70_11.eq_1) (And.intro (uC Try.prog c70_12.eq_1) (And.intro (uC Try.prog c70_13.eq_1) (And.intro (uC Try.prog c70_14.eq_1) (And.intro (uC Try.prog c70_15.eq_1) (And.intro (uC Try.prog c70_16.eq_1) (And.intro (uR Try.prog c70_17.eq_1) (And.intro (uR Try.prog c70_18.eq_1) (And.intro (uR Try.prog c70_19.eq_1) (And.intro (uR Try.prog c70_20.eq_1) (And.intro (uR Try.prog c70_21.eq_1) (And.intro (uR Try.prog c70_22.eq_1) (And.intro (uR Try.prog c70_23.eq_1) (And.intro (uR Try.prog c70_24.eq_1) (And.intro (uR Try.prog c70_25.eq_1) (And.intro (uC Try.prog c70_26.eq_1) (And.intro (uC Try.prog c70_27.eq_1) (And.intro (uC Try.prog c70_28.eq_1) (And.intro (uC Try.prog c70_29.eq_1) (And.intro (uC Try.prog c70_30.eq_1) (And.intro (uC Try.prog c70_31.eq_1) (And.intro (uC Try.prog c70_32.eq_1) (And.intro (uC Try.prog c70_33.eq_1) (And.intro (uC Try.prog c70_34.eq_1) (And.intro (uC Try.prog c70_35.eq_1) (And.intro (uC Try.prog c70_36.eq_1) (And.intro (uR Try.prog c70_37.eq_1) (And.intro (uR Try.prog c70_38.eq_1) (And.intro (uR Try.prog c70_39.eq_1) (And.intro (uR Try.prog c70_40.eq_1) (And.intro (uC Try.prog c70_41.eq_1) (And.intro (uC Try.prog c70_42.eq_1) (And.intro (uR Try.prog c70_43.eq_1) (And.intro (uC Try.prog c70_44.eq_1) (And.intro (uR Try.prog c70_45.eq_1) (And.intro (uC Try.prog c70_46.eq_1) (And.intro (uC Try.prog c70_47.eq_1) (And.intro (uC Try.prog c70_48.eq_1) (And.intro (uC Try.prog c70_49.eq_1) (And.intro (uC Try.prog c70_50.eq_1) (And.intro (uC Try.prog c70_51.eq_1) (And.intro (uC Try.prog c70_52.eq_1) (And.intro (uC Try.prog c70_53.eq_1) (And.intro (uR Try.prog c70_54.eq_1) (And.intro (uC Try.prog c70_55.eq_1) (And.intro (uC Try.prog c70_56.eq_1) (And.intro (uC Try.prog c70_57.eq_1) (And.intro (uC Try.prog c70_58.eq_1) (And.intro (uC Try.prog c70_59.eq_1) (And.intro (uC Try.prog c70_60.eq_1) (And.intro (uC Try.prog c70_61.eq_1) (uC Try.prog c70.eq_1))))))))))))))))))))))))))))))))))))))))))))))))))))))))))))))) := (And.intro (uR Try.prog c70_0.eq_1) (And.intro (uR Try.prog c70_1.eq_1) (And.intro (uR Try.prog c70_2.eq_1) (And.intro (uR Try.prog c70_3.eq_1) (And.intro (uR Try.prog c70_4.eq_1) (And.intro (uC Try.prog c70_5.eq_1) (And.intro (uC Try.prog c70_6.eq_1) (And.intro (uR Try.prog c70_7.eq_1) (And.intro (uR Try.prog c70_8.eq_1) (And.intro (uC Try.prog c70_9.eq_1) (And.intro (uC Try.prog c70_10.eq_1) (And.intro (uR Try.prog c70_11.eq_1) (And.intro (uC Try.prog c70_12.eq_1) (And.intro (uC Try.prog c70_13.eq_1) (And.intro (uC Try.prog c70_14.eq_1) (And.intro (uC Try.prog c70_15.eq_1) (And.intro (uC Try.prog c70_16.eq_1) (And.intro (uR Try.prog c70_17.eq_1) (And.intro (uR Try.prog c70_18.eq_1) (And.intro (uR Try.prog c70_19.eq_1) (And.intro (uR Try.prog c70_20.eq_1) (And.intro (uR Try.prog c70_21.eq_1) (And.intro (uR Try.prog c70_22.eq_1) (And.intro (uR Try.prog c70_23.eq_1) (And.intro (uR Try.prog c70_24.eq_1) (And.intro (uR Try.prog c70_25.eq_1) (And.intro (uC Try.prog c70_26.eq_1) (And.intro (uC Try.prog c70_27.eq_1) (And.intro (uC Try.prog c70_28.eq_1) (And.intro (uC Try.prog c70_29.eq_1) (And.intro (uC Try.prog c70_30.eq_1) (And.intro (uC Try.prog c70_31.eq_1) (And.intro (uC Try.prog c70_32.eq_1) (And.intro (uC Try.prog c70_33.eq_1) (And.intro (uC Try.prog c70_34.eq_1) (And.intro (uC Try.prog c70_35.eq_1) (And.intro (uC Try.prog c70_36.eq_1) (And.intro (uR Try.prog c70_37.eq_1) (And.intro (uR Try.prog c70_38.eq_1) (And.intro (uR Try.prog c70_39.eq_1) (And.intro (uR Try.prog c70_40.eq_1) (And.intro (uC Try.prog c70_41.eq_1) (And.intro (uC Try.prog c70_42.eq_1) (And.intro (uR Try.prog c70_43.eq_1) (And.intro (uC Try.prog c70_44.eq_1) (And.intro (uR Try.prog c70_45.eq_1) (And.intro (uC Try.prog c70_46.eq_1) (And.intro (uC Try.prog c70_47.eq_1) (And.intro (uC Try.prog c70_48.eq_1) (And.intro (uC Try.prog c70_49.eq_1) (And.intro (uC Try.prog c70_50.eq_1) (And.intro (uC Try.prog c70_51.eq_1) (And.intro (uC Try.prog c70_52.eq_1) (And.intro (uC Try.prog c70_53.eq_1) (And.intro (uR Try.prog c70_54.eq_1) (And.intro (uC Try.prog c70_55.eq_1) (And.intro (uC Try.prog c70_56.eq_1) (And.intro (uC Try.prog c70_57.eq_1) (And.intro (uC Try.prog c70_58.eq_1) (And.intro (uC Try.prog c70_59.eq_1) (And.intro (uC Try.prog c70_60.eq_1) (And.intro (uC Try.prog c70_61.eq_1) (uC Try.prog c70.eq_1)))))))))))))))))))))))))))))))))))))))))))))))))))))))))))))))
def v70 : List RV := [.t 2]
theorem s70 : slimF Try.prog Try.f70 = some (c70.bare, v70) := by kernel_rfl
/-! 24 loop.example/g00066/spec.DrawRetime: parameters 1, live [0], slots [0:code, 1:code, 5:c, 6:k, 7:s, 8:n] -/
def c24_0 : List SOper := [⟨some 2, .q (.mv (.c (.slice none 0 0))), none⟩, ⟨some 3, .q (.mv (.c (.int .i64 0))), none⟩, ⟨some 4, .q (.mv (.c (.int .i64 0))), none⟩]
def c24_1 : List SOper := [⟨some 9, .q (.mv (.t 0)), none⟩, ⟨some 10, .e (.call 45 [(.t 9)]), none⟩, ⟨some 5, .q (.mv (.t 10)), none⟩]
def c24_2 : List SOper := [⟨some 11, .q (.mv (.t 5)), none⟩, ⟨some 12, .e (.call 70 [(.t 11)]), none⟩, ⟨some 6, .q (.mv (.t 12)), none⟩]
def c24_3 : List SOper := [⟨some 13, .q (.mv (.t 5)), none⟩, ⟨some 14, .e (.call 47 [(.t 13), (.c (.int .i64 3))]), none⟩, ⟨some 15, .q (.bin .add (.c (.int .i64 1)) (.t 14)), none⟩, ⟨some 7, .q (.mv (.t 15)), none⟩]
def c24_4 : List SOper := [⟨some 16, .q (.mv (.t 5)), none⟩, ⟨some 17, .e (.call 47 [(.t 16), (.c (.int .i64 90))]), none⟩, ⟨some 18, .q (.bin .add (.c (.int .i64 1)) (.t 17)), none⟩, ⟨some 8, .q (.mv (.t 18)), none⟩]
def c24_5 : List SOper := [⟨some 19, .q (.mv (.t 5)), none⟩, ⟨some 20, .e (.call 49 [(.t 19), (.c (.int .i64 16))]), none⟩]
def c24_6 : List SOper := [⟨some 21, .a (.bsl 3 1 [(.int .i64 0), (.int .i64 0), (.int .i64 0)] [(0, 1, (.c (.int .i64 0))), (1, 1, (.c (.int .i64 500))), (2, 1, (.c (.int .i64 501)))]), none⟩, ⟨some 22, .q (.mv (.t 5)), none⟩, ⟨some 23, .e (.call 47 [(.t 22), (.c (.int .i64 3))]), none⟩, ⟨some 24, .q (.ia 1 (.t 21) (.t 23)), none⟩, ⟨some 25, .q (.ld (.t 24)), none⟩, ⟨some 7, .q (.mv (.t 25)), none⟩]
def c24_7 : List SOper := [⟨some 26, .a (.bsl 4 1 [(.int .i64 0), (.int .i64 0), (.int .i64 0), (.int .i64 0)] [(0, 1, (.c (.int .i64 0))), (1, 1, (.c (.int .i64 1))), (2, 1, (.c (.int .i64 2000))), (3, 1, (.c (.int .i64 2001)))]), none⟩, ⟨some 27, .q (.mv (.t 5)), none⟩, ⟨some 28, .e (.call 47 [(.t 27), (.c (.int .i64 4))]), none⟩, ⟨some 29, .q (.ia 1 (.t 26) (.t 28)), none⟩, ⟨some 30, .q (.ld (.t 29)), none⟩, ⟨some 8, .q (.mv (.t 30)), none⟩]
def c24_8 : SCode := .seq (.region c24_6 [5, 6, 7]) (.region c24_7 [6, 7, 8])
def c24_9 : SCode := .cond (.t 20) c24_8 .skip
def c24_10 : SCode := .seq (.region c24_5 [5, 6, 7, 8, 20]) c24_9
def c24_11 : List SOper := [⟨some 31, .q (.mv (.t 6)), none⟩, ⟨some 32, .q (.mv (.t 7)), none⟩, ⟨some 33, .q (.mv (.t 8)), none⟩, ⟨some 2, .q (.mv (.t 31)), none⟩, ⟨some 3, .q (.mv (.t 32)), none⟩, ⟨some 4, .q (.mv (.t 33)), none⟩]
def c24_12 : SCode := .seq (.region c24_11 [2, 3, 4]) .ret
def c24_13 : SCode := .seq c24_10 c24_12
def c24_14 : SCode := .seq (.region c24_4 [5, 6, 7, 8]) c24_13
def c24_15 : SCode := .seq (.region c24_3 [5, 6, 7]) c24_14
def c24_16 : SCode := .seq (.region c24_2 [5, 6]) c24_15
def c24_17 : SCode := .seq (.region c24_1 [5]) c24_16
def c24_18 : SCode := .seq (.region c24_0 [0]) c24_17
def c24 : SCode := c24_18
theorem w24 : type_of% (And.intro (uR Try.prog c24_0.eq_1) (And.intro (uR Try.prog c24_1.eq_1) (And.intro (uR Try.prog c24_2.eq_1) (And.intro (uR Try.prog c24_3.eq_1) (And.intro (uR Try.prog c24_4.eq_1) (And.intro (uR Try.prog c24_5.eq_1) (And.intro (uR Try.prog c24_6.eq_1) (And.intro (uR Try.prog c24_7.eq_1) (And.intro (uC Try.prog c24_8.eq_1) (And.intro (uC Try.prog c24_9.eq_1) (And.intro (uC Try.prog c24_10.eq_1) (And.intro (uR Try.prog c24_11.eq_1) (And.intro (uC Try.prog c24_12.eq_1) (And.intro (uC Try.prog c24_13.eq_1) (And.intro (uC Try.prog c24_14.eq_1) (And.intro (uC Try.prog c24_15.eq_1) (And.intro (uC Try.prog c24_16.eq_1) (And.intro (uC Try.prog c24_17.eq_1) (And.intro (uC Try.prog c24_18.eq_1) (uC Try.prog c24.eq_1)))))))))))))))))))) := (And.intro (uR Try.prog c24_0.eq_1) (And.intro (uR Try.prog c24_1.eq_1) (And.intro (uR Try.prog c24_2.eq_1) (And.intro (uR Try.prog c24_3.eq_1) (And.intro (uR Try.prog c24_4.eq_1) (And.intro (uR Try.prog c24_5.eq_1) (And.intro (uR Try.prog c24_6.eq_1) (And.intro (uR Try.prog c24_7.eq_1) (And.intro (uC Try.prog c24_8.eq_1) (And.intro (uC Try.prog c24_9.eq_1) (And.intro (uC Try.prog c24_10.eq_1) (And.intro (uR Try.prog c24_11.eq_1) (And.intro (uC Try.prog c24_12.eq_1) (And.intro (uC Try.prog c24_13.eq_1) (And.intro (uC Try.prog c24_14.eq_1) (And.intro (uC Try.prog c24_15.eq_1) (And.intro (uC Try.prog c24_16.eq_1) (And.intro (uC Try.prog c24_17.eq_1) (And.intro (uC Try.prog c24_18.eq_1) (uC Try.prog c24.eq_1))))))))))))))))))))
def v24 : List RV := [.t 2, .t 3, .t 4]
theorem s24 : slimF Try.prog Try.f24 = some (c24.bare, v24) := by kernel_rfl

theorem slt_nilp {α : Type} {enc : α → List Value} {sz : Nat} {h : Heap} {v : Value} {l : List α} (s : SlT h enc sz v l) (hl : 0 < l.length) (o : Nat) : nilV (ptrAt v o) = some (ptrAt v o) := by
  have h1 := flat_len s.hs l
  have h2 : 0 < l.length * sz := Nat.mul_pos hl s.pos
  rcases s.sl with ⟨rfl, h3⟩ | ⟨rfl, h3⟩ | ⟨i, o', n, ob, rfl, _⟩
  · rw [h3] at h1; simp at h1; omega
  · rw [h3] at h1; simp at h1; omega
  · rfl
theorem l8DrawKeys_ok (h : Heap) (c : Nat) (k : Cur h c) : ACall Try.prog 70 [.pointer (some ⟨c, 0, none⟩)] h fun r h' => ∃ l : List Key, Fk [c] h h' encKey 2 r l [] ∧ Cur h' c ∧ l.length ≤ 101 := by
  refine ACall.of Try.func70 s70 (of_decide_eq_true rfl) ?_
  have hc := k.lt
  have hm : c ∈ [c] := by simp
  simp (maxSteps := 4000000) (disch := omega) only [ah, am, Nat.reduceEqDiff, reduceCtorEq, Nat.reduceAdd, Nat.reduceLeDiff, Nat.reduceMul, Nat.reduceLT, if_true, if_false, true_and, and_true, and_self, Nat.reduceBEq, QOp.loads, boxO, bslO, buildO, cutL, fillV, putL, w70, v70]
  refine stepC.of (l1Below_ok _ _ _ (k.ext (Ext.more h [[]]))) ?_
  rintro _ H1 ⟨a0, rfl, _, _, _, g, k⟩
  have F : Fk [c] h H1 encKey 2 (.slice (some ⟨h.size, 0, none⟩) 0 2) ([] : List Key) [] := (Fk.of (Fresh.new0 h encKey_len (by omega))).stepG g hm hc
  simp (maxSteps := 4000000) (disch := omega) only [ah, am, Nat.reduceEqDiff, reduceCtorEq, Nat.reduceAdd, Nat.reduceLeDiff, Nat.reduceMul, Nat.reduceLT, if_true, if_false, true_and, and_true, and_self, Nat.reduceBEq, QOp.loads, boxO, bslO, buildO, cutL, fillV, putL, w70, v70]
  refine stepC.of (l1Below_ok _ _ _ k) ?_
  rintro _ H2 ⟨n0, rfl, n1, n2, _, g, k⟩
  have n3 : n0 < 5 := n2 (by omega)
  have F := F.stepG g hm hc
  have Wn : IntKind.i64.wrap (1 + n0) = 1 + n0 - ((0 : Nat) : Int) := i64e (by omega) (by omega)
  simp (maxSteps := 4000000) (disch := omega) only [ah, am, Nat.reduceEqDiff, reduceCtorEq, Nat.reduceAdd, Nat.reduceLeDiff, Nat.reduceMul, Nat.reduceLT, if_true, if_false, true_and, and_true, and_self, Nat.reduceBEq, QOp.loads, boxO, bslO, buildO, cutL, fillV, putL, w70, v70, Wn]
  refine SW_loop_up (fun i E H => ∃ ov l, ∃ a : Int, E = [(0, .pointer (some ⟨c, 0, none⟩)), (3, ov), (4, .int .i64 a), (5, .int .i64 (1 + n0 - (i : Int)))] ∧ Fk [c] h H encKey 2 ov l [] ∧ Cur H c ∧ l.length = i) (1 + n0).toNat 0 (by omega)
    ⟨_, [], _, rfl, F, k, rfl⟩ ?_
  rintro i E H hi ⟨ov, l, a, rfl, F, k, hl⟩
  simp (maxSteps := 4000000) (disch := omega) only [ah, am, Nat.reduceEqDiff, reduceCtorEq, Nat.reduceAdd, Nat.reduceLeDiff, Nat.reduceMul, Nat.reduceLT, if_true, if_false, true_and, and_true, and_self, Nat.reduceBEq, QOp.loads, boxO, bslO, buildO, cutL, fillV, putL, w70, v70]
  refine stepI.split (fun hp => ?_) (fun hp => ?_)
  · have W : IntKind.i64.wrap (1 + n0 - (i : Int) - 1) = 1 + n0 - ((i + 1 : Nat) : Int) := i64e (by omega) (by omega)
    simp (maxSteps := 4000000) (disch := omega) only [ah, am, Nat.reduceEqDiff, reduceCtorEq, Nat.reduceAdd, Nat.reduceLeDiff, Nat.reduceMul, Nat.reduceLT, if_true, if_false, true_and, and_true, and_self, Nat.reduceBEq, QOp.loads, boxO, bslO, buildO, cutL, fillV, putL, w70, v70]
    refine stepC.of (l1Below_ok _ _ _ k) ?_
    rintro _ H3 ⟨x, rfl, _, _, _, g, k⟩
    have F := F.stepG g hm hc
    obtain ⟨v2, H4, ea, F4, gg, hg, G⟩ := F.app1g [] ⟨a, x⟩ (bytes := 16) (by omega)
    simp only [boxesAt, List.append_nil, List.nil_append, List.length_nil, Nat.add_zero, encKey] at ea G
    have k4 := (k.ext (Ext.more H3 [[.int .i64 a, .int .i64 x]])).step G (by omega)
    simp (maxSteps := 4000000) (disch := omega) only [ah, am, Nat.reduceEqDiff, reduceCtorEq, Nat.reduceAdd, Nat.reduceLeDiff, Nat.reduceMul, Nat.reduceLT, if_true, if_false, true_and, and_true, and_self, Nat.reduceBEq, QOp.loads, boxO, bslO, buildO, cutL, fillV, putL, w70, v70, ea]
    refine stepC.of (l1Below_ok _ _ _ k4) ?_
    rintro _ H5 ⟨y, rfl, _, _, _, g, k⟩
    simp (maxSteps := 4000000) (disch := omega) only [ah, am, Nat.reduceEqDiff, reduceCtorEq, Nat.reduceAdd, Nat.reduceLeDiff, Nat.reduceMul, Nat.reduceLT, if_true, if_false, true_and, and_true, and_self, Nat.reduceBEq, QOp.loads, boxO, bslO, buildO, cutL, fillV, putL, w70, v70, W]
    exact ⟨by omega, _, l ++ [⟨a, x⟩], _, rfl, (F4.bare).stepG g hm hc, k, by simp; omega⟩
  · simp (maxSteps := 4000000) (disch := omega) only [ah, am, Nat.reduceEqDiff, reduceCtorEq, Nat.reduceAdd, Nat.reduceLeDiff, Nat.reduceMul, Nat.reduceLT, if_true, if_false, true_and, and_true, and_self, Nat.reduceBEq, QOp.loads, boxO, bslO, buildO, cutL, fillV, putL, w70, v70]
    refine stepC.of (l1Once_ok _ _ _ k) ?_
    rintro _ H3 ⟨b, rfl, g, k⟩
    have F := F.stepG g hm hc
    have tail : ∀ (E : Env) (H : Heap) (ov : Value) (l : List Key), Cur H c → Fk [c] h H encKey 2 ov l [] → l.length ≤ 101 → E.get 0 = some (.pointer (some ⟨c, 0, none⟩)) → E.get 3 = some ov →
        SW Try.prog c70_56 (retQ [RV.t 2] fun r h' => ∃ l : List Key, Fk [c] h h' encKey 2 r l [] ∧ Cur h' c ∧ l.length ≤ 101) E H := by
      intro E H ov l k F hl E0 E3
      simp (maxSteps := 4000000) (disch := omega) only [ah, am, Nat.reduceEqDiff, reduceCtorEq, Nat.reduceAdd, Nat.reduceLeDiff, Nat.reduceMul, Nat.reduceLT, if_true, if_false, true_and, and_true, and_self, Nat.reduceBEq, QOp.loads, boxO, bslO, buildO, cutL, fillV, putL, w70, v70, E0, E3]
      refine stepC.of (l1Once_ok _ _ _ k) ?_
      rintro _ H4 ⟨b, rfl, g, k⟩
      have F := F.stepG g hm hc
      cases b with
      | false =>
        simp (maxSteps := 4000000) (disch := omega) only [ah, am, Nat.reduceEqDiff, reduceCtorEq, Nat.reduceAdd, Nat.reduceLeDiff, Nat.reduceMul, Nat.reduceLT, if_true, if_false, true_and, and_true, and_self, Nat.reduceBEq, QOp.loads, boxO, bslO, buildO, cutL, fillV, putL, w70, v70, E0, E3]
        exact ⟨l, F, k, hl⟩
      | true =>
        simp (maxSteps := 4000000) (disch := omega) only [ah, am, Nat.reduceEqDiff, reduceCtorEq, Nat.reduceAdd, Nat.reduceLeDiff, Nat.reduceMul, Nat.reduceLT, if_true, if_false, true_and, and_true, and_self, Nat.reduceBEq, QOp.loads, boxO, bslO, buildO, cutL, fillV, putL, w70, v70, E0, E3]
        have F5 : Fk [c] h (H4.more [[]]) encKey 2 (.slice (some ⟨H4.size, 0, none⟩) 0 2) ([] : List Key) [] := (Fk.of (Fresh.new0 H4 encKey_len (by omega))).mono F.ext
        refine SW_loop_up (fun i E H => ∃ ov l, E = [(0, .pointer (some ⟨c, 0, none⟩)), (3, ov), (7, .int .i64 i)] ∧ Fk [c] h H encKey 2 ov l [] ∧ Cur H c ∧ l.length = i) 101 0 (by omega)
          ⟨_, [], rfl, F5, k.ext (Ext.more _ _), rfl⟩ ?_
        rintro i E H hi ⟨ov, l, rfl, F, k, hl⟩
        simp (maxSteps := 4000000) (disch := omega) only [ah, am, Nat.reduceEqDiff, reduceCtorEq, Nat.reduceAdd, Nat.reduceLeDiff, Nat.reduceMul, Nat.reduceLT, if_true, if_false, true_and, and_true, and_self, Nat.reduceBEq, QOp.loads, boxO, bslO, buildO, cutL, fillV, putL, w70, v70]
        refine stepC.of (l1Below_ok _ _ _ k) ?_
        rintro _ H3 ⟨x, rfl, x1, x2, _, g, k⟩
        have x3 : x < 2 := x2 (by omega)
        have F := F.stepG g hm hc
        simp (maxSteps := 4000000) (disch := omega) only [ah, am, Nat.reduceEqDiff, reduceCtorEq, Nat.reduceAdd, Nat.reduceLeDiff, Nat.reduceMul, Nat.reduceLT, if_true, if_false, true_and, and_true, and_self, Nat.reduceBEq, QOp.loads, boxO, bslO, buildO, cutL, fillV, putL, w70, v70, i64w]
        refine stepI.split (fun hq => ?_) (fun hq => ?_)
        · have W : IntKind.i64.wrap ((i : Int) + 1) = ((i + 1 : Nat) : Int) := i64e (by omega) (by omega)
          have n90 : (90 : Int) ≠ 0 := by omega
          have M := mul_bound (x := (i : Int)) (y := (i : Int)) (M := 101) (N := 101) (by omega) (by omega) (by omega) (by omega)
          obtain ⟨v2, H4, ea, F4, gg, hg, G⟩ := F.app1g [] ⟨(i : Int) * 2, ((i : Int) * i).tmod 90⟩ (bytes := 16) (by omega)
          simp only [boxesAt, List.append_nil, List.nil_append, List.length_nil, Nat.add_zero, encKey] at ea G
          simp (maxSteps := 4000000) (disch := omega) only [ah, am, Nat.reduceEqDiff, reduceCtorEq, Nat.reduceAdd, Nat.reduceLeDiff, Nat.reduceMul, Nat.reduceLT, if_true, if_false, true_and, and_true, and_self, Nat.reduceBEq, QOp.loads, boxO, bslO, buildO, cutL, fillV, putL, w70, v70, n90, ne_eq, i64w, ea, W]
          exact ⟨by omega, _, l ++ [⟨(i : Int) * 2, ((i : Int) * i).tmod 90⟩], rfl, F4.bare, (k.ext (Ext.more _ _)).step G (by omega), by simp; omega⟩
        · simp (maxSteps := 4000000) (disch := omega) only [ah, am, Nat.reduceEqDiff, reduceCtorEq, Nat.reduceAdd, Nat.reduceLeDiff, Nat.reduceMul, Nat.reduceLT, if_true, if_false, true_and, and_true, and_self, Nat.reduceBEq, QOp.loads, boxO, bslO, buildO, cutL, fillV, putL, w70, v70]
          exact ⟨l, F, k, by omega⟩
    cases b with
    | false =>
      generalize c70_56 = fc at tail ⊢
      simp (maxSteps := 4000000) (disch := omega) only [ah, am, Nat.reduceEqDiff, reduceCtorEq, Nat.reduceAdd, Nat.reduceLeDiff, Nat.reduceMul, Nat.reduceLT, if_true, if_false, true_and, and_true, and_self, Nat.reduceBEq, QOp.loads, boxO, bslO, buildO, cutL, fillV, putL, w70, v70]
      exact tail _ _ _ _ k F (by omega) rfl rfl
    | true =>
      have R := F.slt.rules
      have hlen : 0 < l.length := by omega
      generalize c70_56 = fc at tail ⊢
      simp (maxSteps := 4000000) (disch := omega) only [ah, am, Nat.reduceEqDiff, reduceCtorEq, Nat.reduceAdd, Nat.reduceLeDiff, Nat.reduceMul, Nat.reduceLT, if_true, if_false, true_and, and_true, and_self, Nat.reduceBEq, QOp.loads, boxO, bslO, buildO, cutL, fillV, putL, w70, v70, R]
      refine stepC.of (l1Below_ok _ _ _ k) ?_
      rintro _ H4 ⟨j, rfl, j1, j2, _, g, k⟩
      have j3 : j < l.length := j2 (by omega)
      have F := F.stepG g hm hc
      have R := F.slt.rules
      simp (maxSteps := 4000000) (disch := omega) only [ah, am, Nat.reduceEqDiff, reduceCtorEq, Nat.reduceAdd, Nat.reduceLeDiff, Nat.reduceMul, Nat.reduceLT, if_true, if_false, true_and, and_true, and_self, Nat.reduceBEq, QOp.loads, boxO, bslO, buildO, cutL, fillV, putL, w70, v70, R]
      refine stepC.of (l1Below_ok _ _ _ k) ?_
      rintro _ H5 ⟨y, rfl, y1, y2, _, g, k⟩
      have y3 : y < 3 := y2 (by omega)
      have F := F.stepG g hm hc
      by_cases hb0 : y = 0
      · have hb0' : decide (y = 0) = true := decide_eq_true hb0
        have hc2 := k.lt
        have F := F.step (Ext.more H5 [[.int .i64 (-1), .int .i64 10000000, .int .i64 10000001, .int .i64 3]])
        simp (maxSteps := 4000000) (disch := omega) only [ah, am, Nat.reduceEqDiff, reduceCtorEq, Nat.reduceAdd, Nat.reduceLeDiff, Nat.reduceMul, Nat.reduceLT, if_true, if_false, true_and, and_true, and_self, Nat.reduceBEq, QOp.loads, boxO, bslO, buildO, cutL, fillV, putL, w70, v70, hb0']
        refine stepC.of (l1Below_ok _ _ _ (k.ext (Ext.more H5 _))) ?_
        rintro _ H6 ⟨z, rfl, z1, z2, _, g, k⟩
        have z3 : z < 4 := z2 (by omega)
        have F := F.stepG g hm hc
        obtain ⟨w, hw⟩ := pick_lits g hc2 z1 (by simpa using z3) rfl
        have R := F.slt.rules
        have N := slt_nilp F.slt hlen
        obtain ⟨H7, es, F7, gg, hg, G⟩ := F.setF (j := j.toNat) (f := 0) (n := 1) (by omega) (x := ⟨w, (l[j.toNat]'(by omega)).to⟩) (y := .int .i64 w) (by simp [encKey, splice, cells_int]) (by omega) rfl (by omega) rfl
        simp only [Nat.add_zero] at es
        simp (maxSteps := 4000000) (disch := omega) only [ah, am, Nat.reduceEqDiff, reduceCtorEq, Nat.reduceAdd, Nat.reduceLeDiff, Nat.reduceMul, Nat.reduceLT, if_true, if_false, true_and, and_true, and_self, Nat.reduceBEq, QOp.loads, boxO, bslO, buildO, cutL, fillV, putL, w70, v70, Nat.mul_one, hw, N, R, es]
        exact tail _ _ _ _ (k.step G (by omega)) F7 (by simp; omega) rfl rfl
      have hb0' : decide (y = 0) = false := decide_eq_false hb0
      by_cases hb1 : y = 1
      · have hb1' : decide (y = 1) = true := decide_eq_true hb1
        have hc2 := k.lt
        have F := F.step (Ext.more H5 [[.int .i64 (-1), .int .i64 10000000, .int .i64 10000001]])
        simp (maxSteps := 4000000) (disch := omega) only [ah, am, Nat.reduceEqDiff, reduceCtorEq, Nat.reduceAdd, Nat.reduceLeDiff, Nat.reduceMul, Nat.reduceLT, if_true, if_false, true_and, and_true, and_self, Nat.reduceBEq, QOp.loads, boxO, bslO, buildO, cutL, fillV, putL, w70, v70, hb0', hb1']
        refine stepC.of (l1Below_ok _ _ _ (k.ext (Ext.more H5 _))) ?_
        rintro _ H6 ⟨z, rfl, z1, z2, _, g, k⟩
        have z3 : z < 3 := z2 (by omega)
        have F := F.stepG g hm hc
        obtain ⟨w, hw⟩ := pick_lits g hc2 z1 (by simpa using z3) rfl
        have R := F.slt.rules
        have N := slt_nilp F.slt hlen
        obtain ⟨H7, es, F7, gg, hg, G⟩ := F.setF (j := j.toNat) (f := 1) (n := 1) (by omega) (x := ⟨(l[j.toNat]'(by omega)).pos, w⟩) (y := .int .i64 w) (by simp [encKey, splice, cells_int]) (by omega) rfl (by omega) rfl
        simp (maxSteps := 4000000) (disch := omega) only [ah, am, Nat.reduceEqDiff, reduceCtorEq, Nat.reduceAdd, Nat.reduceLeDiff, Nat.reduceMul, Nat.reduceLT, if_true, if_false, true_and, and_true, and_self, Nat.reduceBEq, QOp.loads, boxO, bslO, buildO, cutL, fillV, putL, w70, v70, Nat.mul_one, hw, N, R, es]
        exact tail _ _ _ _ (k.step G (by omega)) F7 (by simp; omega) rfl rfl
      have hb1' : decide (y = 1) = false := decide_eq_false hb1
      have hb2' : decide (y = 2) = true := decide_eq_true (by omega)
      simp (maxSteps := 4000000) (disch := omega) only [ah, am, Nat.reduceEqDiff, reduceCtorEq, Nat.reduceAdd, Nat.reduceLeDiff, Nat.reduceMul, Nat.reduceLT, if_true, if_false, true_and, and_true, and_self, Nat.reduceBEq, QOp.loads, boxO, bslO, buildO, cutL, fillV, putL, w70, v70, hb0', hb1', hb2']
      exact tail _ _ _ _ (k.ext (Ext.more _ _)) ((Fk.of (Fresh.new0 H5 encKey_len (by omega))).mono F.ext) (by simp) rfl rfl
theorem DrawRetime_ok (h : Heap) (v : Value) (code : List Int) (s : SlT h encByte 1 v code) (hl : code.length ≤ 4096) :
    ACall Try.prog 24 [v] h fun r h' => ∃ tv, ∃ l : List Key, ∃ a n : Int, r = .tuple #[tv, .int .i64 a, .int .i64 n] ∧ Fresh h h' encKey 2 tv l ∧ l.length ≤ 101 := by
  refine ACall.of Try.func24 s24 (of_decide_eq_true rfl) ?_
  simp (maxSteps := 4000000) (disch := omega) only [ah, am, Nat.reduceEqDiff, reduceCtorEq, Nat.reduceAdd, Nat.reduceLeDiff, Nat.reduceMul, Nat.reduceLT, if_true, if_false, true_and, and_true, and_self, Nat.reduceBEq, QOp.loads, boxO, bslO, buildO, cutL, fillV, putL, w24, v24]
  refine stepC.of (l1New_ok _ _ _ s hl) ?_
  rintro _ H1 ⟨e1, rfl, k1⟩
  have hc := k1.lt
  have hm : h.size ∈ [h.size] := by simp
  simp (maxSteps := 4000000) (disch := omega) only [ah, am, Nat.reduceEqDiff, reduceCtorEq, Nat.reduceAdd, Nat.reduceLeDiff, Nat.reduceMul, Nat.reduceLT, if_true, if_false, true_and, and_true, and_self, Nat.reduceBEq, QOp.loads, boxO, bslO, buildO, cutL, fillV, putL, w24, v24]
  refine stepC.of (l8DrawKeys_ok _ _ k1) ?_
  rintro tv H2 ⟨l, F, k, D⟩
  simp (maxSteps := 4000000) (disch := omega) only [ah, am, Nat.reduceEqDiff, reduceCtorEq, Nat.reduceAdd, Nat.reduceLeDiff, Nat.reduceMul, Nat.reduceLT, if_true, if_false, true_and, and_true, and_self, Nat.reduceBEq, QOp.loads, boxO, bslO, buildO, cutL, fillV, putL, w24, v24]
  refine stepC.of (l1Below_ok _ _ _ k) ?_
  rintro _ H3 ⟨x, rfl, _, _, _, g, k⟩
  have F := F.stepG g hm hc
  simp (maxSteps := 4000000) (disch := omega) only [ah, am, Nat.reduceEqDiff, reduceCtorEq, Nat.reduceAdd, Nat.reduceLeDiff, Nat.reduceMul, Nat.reduceLT, if_true, if_false, true_and, and_true, and_self, Nat.reduceBEq, QOp.loads, boxO, bslO, buildO, cutL, fillV, putL, w24, v24]
  refine stepC.of (l1Below_ok _ _ _ k) ?_
  rintro _ H4 ⟨y, rfl, _, _, _, g, k⟩
  have F := F.stepG g hm hc
  simp (maxSteps := 4000000) (disch := omega) only [ah, am, Nat.reduceEqDiff, reduceCtorEq, Nat.reduceAdd, Nat.reduceLeDiff, Nat.reduceMul, Nat.reduceLT, if_true, if_false, true_and, and_true, and_self, Nat.reduceBEq, QOp.loads, boxO, bslO, buildO, cutL, fillV, putL, w24, v24]
  refine stepC.of (l1Once_ok _ _ _ k) ?_
  rintro _ H5 ⟨b, rfl, g, k⟩
  have F := F.stepG g hm hc
  cases b with
  | false =>
    simp (maxSteps := 4000000) (disch := omega) only [ah, am, Nat.reduceEqDiff, reduceCtorEq, Nat.reduceAdd, Nat.reduceLeDiff, Nat.reduceMul, Nat.reduceLT, if_true, if_false, true_and, and_true, and_self, Nat.reduceBEq, QOp.loads, boxO, bslO, buildO, cutL, fillV, putL, w24, v24]
    exact ⟨_, l, _, _, rfl, F.out' e1 (Nat.le_refl _), D⟩
  | true =>
    have hc2 := k.lt
    have F := F.step (Ext.more H5 [[.int .i64 0, .int .i64 500, .int .i64 501]])
    simp (maxSteps := 4000000) (disch := omega) only [ah, am, Nat.reduceEqDiff, reduceCtorEq, Nat.reduceAdd, Nat.reduceLeDiff, Nat.reduceMul, Nat.reduceLT, if_true, if_false, true_and, and_true, and_self, Nat.reduceBEq, QOp.loads, boxO, bslO, buildO, cutL, fillV, putL, w24, v24]
    refine stepC.of (l1Below_ok _ _ _ (k.ext (Ext.more H5 _))) ?_
    rintro _ H6 ⟨z, rfl, z1, z2, _, g, k⟩
    have z3 : z < 3 := z2 (by omega)
    have F := F.stepG g hm hc
    obtain ⟨w, hw⟩ := pick_lits g hc2 z1 (by simpa using z3) rfl
    have hc3 := k.lt
    have F := F.step (Ext.more H6 [[.int .i64 0, .int .i64 1, .int .i64 2000, .int .i64 2001]])
    simp (maxSteps := 4000000) (disch := omega) only [ah, am, Nat.reduceEqDiff, reduceCtorEq, Nat.reduceAdd, Nat.reduceLeDiff, Nat.reduceMul, Nat.reduceLT, if_true, if_false, true_and, and_true, and_self, Nat.reduceBEq, QOp.loads, boxO, bslO, buildO, cutL, fillV, putL, w24, v24, Nat.mul_one, hw]
    refine stepC.of (l1Below_ok _ _ _ (k.ext (Ext.more H6 _))) ?_
    rintro _ H7 ⟨q, rfl, q1, q2, _, g, k⟩
    have q3 : q < 4 := q2 (by omega)
    have F := F.stepG g hm hc
    obtain ⟨w2, hw2⟩ := pick_lits g hc3 q1 (by simpa using q3) rfl
    simp (maxSteps := 4000000) (disch := omega) only [ah, am, Nat.reduceEqDiff, reduceCtorEq, Nat.reduceAdd, Nat.reduceLeDiff, Nat.reduceMul, Nat.reduceLT, if_true, if_false, true_and, and_true, and_self, Nat.reduceBEq, QOp.loads, boxO, bslO, buildO, cutL, fillV, putL, w24, v24, Nat.mul_one, hw2]
    exact ⟨_, l, _, _, rfl, F.out' e1 (Nat.le_refl _), D⟩
end Go.Proofs.Ytknpombiomnkbaa
