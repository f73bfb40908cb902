import Derived.Test.YtmippcfdakjhfaaG13
import Derived.Test.YtmippcfdakjhfaaE0
import Derived.Test.YtmippcfdakjhfaaAhAA
namespace Go.Proofs.Ytmippcfdakjhfaa
open Go Go.Ah
set_option linter.unusedSimpArgs false
set_option linter.unusedVariables false
set_option maxRecDepth 10000
set_option maxHeartbeats 4000000
/-! 19 loop.example/g00066/laws.sameReels: parameters 2, live [0, 1], slots [0:a, 1:b, 2:a, 3:b, 5:i] -/
def c19_0 : List SOper := [⟨some 4, .q (.mv (.c (.bool false))), none⟩]
def c19_1 : List SOper := [⟨some 6, .q (.mv (.t 0)), none⟩, ⟨some 7, .q (.len (.t 6)), none⟩, ⟨some 8, .q (.mv (.t 1)), none⟩, ⟨some 9, .q (.len (.t 8)), none⟩, ⟨some 10, .q (.bin .neq (.t 7) (.t 9)), none⟩]
def c19_2 : List SOper := [⟨some 4, .q (.mv (.c (.bool false))), none⟩]
def c19_3 : SCode := .seq (.region c19_2 [4]) .ret
def c19_4 : SCode := .cond (.t 10) c19_3 .skip
def c19_5 : SCode := .seq (.region c19_1 [0, 1, 10]) c19_4
def c19_6 : List SOper := [⟨some 5, .q (.mv (.c (.int .i64 0))), none⟩]
def c19_7 : List SOper := [⟨some 11, .q (.mv (.t 5)), none⟩, ⟨some 12, .q (.mv (.t 0)), none⟩, ⟨some 13, .q (.len (.t 12)), none⟩, ⟨some 14, .q (.bin .lss (.t 11) (.t 13)), none⟩]
def c19_8 : SCode := .cond (.t 14) .skip (.exit 0)
def c19_9 : SCode := .seq (.region c19_7 [0, 1, 5, 14]) c19_8
def c19_10 : List SOper := [⟨some 17, .q (.mv (.t 0)), none⟩, ⟨some 18, .q (.mv (.t 5)), none⟩, ⟨some 19, .q (.ia 3 (.t 17) (.t 18)), none⟩, ⟨some 20, .q (.ldn 3 (.t 19)), none⟩, ⟨some 21, .q (.mv (.t 1)), none⟩, ⟨some 22, .q (.mv (.t 5)), none⟩, ⟨some 23, .q (.ia 3 (.t 21) (.t 22)), none⟩, ⟨some 24, .q (.ldn 3 (.t 23)), none⟩, ⟨some 25, .q (.eqi true 3 (.t 20) (.t 24)), none⟩]
def c19_11 : List SOper := [⟨some 4, .q (.mv (.c (.bool false))), none⟩]
def c19_12 : SCode := .seq (.region c19_11 [4]) .ret
def c19_13 : SCode := .cond (.t 25) c19_12 .skip
def c19_14 : SCode := .seq (.region c19_10 [0, 1, 5, 25]) c19_13
def c19_15 : SCode := .block 1 c19_14
def c19_16 : List SOper := [⟨some 15, .q (.mv (.t 5)), none⟩, ⟨some 16, .q (.bin .add (.t 15) (.c (.int .i64 1))), none⟩, ⟨some 5, .q (.mv (.t 16)), none⟩]
def c19_17 : SCode := .seq c19_15 (.region c19_16 [0, 1, 5])
def c19_18 : SCode := .seq c19_9 c19_17
def c19_19 : SCode := .loop c19_18
def c19_20 : SCode := .block 0 c19_19
def c19_21 : SCode := .seq (.region c19_6 [0, 1, 5]) c19_20
def c19_22 : List SOper := [⟨some 4, .q (.mv (.c (.bool true))), none⟩]
def c19_23 : SCode := .seq (.region c19_22 [4]) .ret
def c19_24 : SCode := .seq c19_21 c19_23
def c19_25 : SCode := .seq c19_5 c19_24
def c19_26 : SCode := .seq (.region c19_0 [0, 1]) c19_25
def c19 : SCode := c19_26
theorem w19 : type_of% (And.intro (uR Try.prog c19_0.eq_1) (And.intro (uR Try.prog c19_1.eq_1) (And.intro (uR Try.prog c19_2.eq_1) (And.intro (uC Try.prog c19_3.eq_1) (And.intro (uC Try.prog c19_4.eq_1) (And.intro (uC Try.prog c19_5.eq_1) (And.intro (uR Try.prog c19_6.eq_1) (And.intro (uR Try.prog c19_7.eq_1) (And.intro (uC Try.prog c19_8.eq_1) (And.intro (uC Try.prog c19_9.eq_1) (And.intro (uR Try.prog c19_10.eq_1) (And.intro (uR Try.prog c19_11.eq_1) (And.intro (uC Try.prog c19_12.eq_1) (And.intro (uC Try.prog c19_13.eq_1) (And.intro (uC Try.prog c19_14.eq_1) (And.intro (uC Try.prog c19_15.eq_1) (And.intro (uR Try.prog c19_16.eq_1) (And.intro (uC Try.prog c19_17.eq_1) (And.intro (uC Try.prog c19_18.eq_1) (And.intro (uC Try.prog c19_19.eq_1) (And.intro (uC Try.prog c19_20.eq_1) (And.intro (uC Try.prog c19_21.eq_1) (And.intro (uR Try.prog c19_22.eq_1) (And.intro (uC Try.prog c19_23.eq_1) (And.intro (uC Try.prog c19_24.eq_1) (And.intro (uC Try.prog c19_25.eq_1) (And.intro (uC Try.prog c19_26.eq_1) (uC Try.prog c19.eq_1)))))))))))))))))))))))))))) := (And.intro (uR Try.prog c19_0.eq_1) (And.intro (uR Try.prog c19_1.eq_1) (And.intro (uR Try.prog c19_2.eq_1) (And.intro (uC Try.prog c19_3.eq_1) (And.intro (uC Try.prog c19_4.eq_1) (And.intro (uC Try.prog c19_5.eq_1) (And.intro (uR Try.prog c19_6.eq_1) (And.intro (uR Try.prog c19_7.eq_1) (And.intro (uC Try.prog c19_8.eq_1) (And.intro (uC Try.prog c19_9.eq_1) (And.intro (uR Try.prog c19_10.eq_1) (And.intro (uR Try.prog c19_11.eq_1) (And.intro (uC Try.prog c19_12.eq_1) (And.intro (uC Try.prog c19_13.eq_1) (And.intro (uC Try.prog c19_14.eq_1) (And.intro (uC Try.prog c19_15.eq_1) (And.intro (uR Try.prog c19_16.eq_1) (And.intro (uC Try.prog c19_17.eq_1) (And.intro (uC Try.prog c19_18.eq_1) (And.intro (uC Try.prog c19_19.eq_1) (And.intro (uC Try.prog c19_20.eq_1) (And.intro (uC Try.prog c19_21.eq_1) (And.intro (uR Try.prog c19_22.eq_1) (And.intro (uC Try.prog c19_23.eq_1) (And.intro (uC Try.prog c19_24.eq_1) (And.intro (uC Try.prog c19_25.eq_1) (And.intro (uC Try.prog c19_26.eq_1) (uC Try.prog c19.eq_1))))))))))))))))))))))))))))
def v19 : List RV := [.t 4]
theorem s19 : slimF Try.prog Try.f19 = some (c19.bare, v19) := by kernel_rfl
/-! 35 loop.example/g00066/spec.l7DrawReels: parameters 1, live [0], slots [0:c, 1:c, 3:out, 4:n, 5:f, 6:x] -/
def c35_0 : List SOper := [⟨some 2, .q (.mv (.c (.slice none 0 0))), none⟩]
def c35_1 : List SOper := [⟨some 7, .a (.bsl 0 3 [] []), none⟩, ⟨some 3, .q (.mv (.t 7)), none⟩]
def c35_2 : List SOper := [⟨some 8, .q (.mv (.t 0)), none⟩, ⟨some 9, .e (.call 37 [(.t 8), (.c (.int .i64 7))]), none⟩, ⟨some 4, .q (.mv (.t 9)), none⟩]
def c35_3 : List SOper := [⟨some 10, .q (.mv (.t 4)), none⟩, ⟨some 11, .q (.bin .gtr (.t 10) (.c (.int .i64 0))), none⟩]
def c35_4 : SCode := .cond (.t 11) .skip (.exit 0)
def c35_5 : SCode := .seq (.region c35_3 [0, 3, 4, 11]) c35_4
def c35_6 : List SOper := [⟨some 14, .q (.mv (.t 0)), none⟩, ⟨some 15, .e (.call 37 [(.t 14), (.c (.int .i64 50))]), none⟩, ⟨some 5, .q (.mv (.t 15)), none⟩]
def c35_7 : List SOper := [⟨some 16, .q (.mv (.t 3)), none⟩, ⟨some 17, .q (.mv (.t 0)), none⟩, ⟨some 18, .e (.call 37 [(.t 17), (.c (.int .i64 3))]), none⟩, ⟨some 19, .q (.bin .add (.c (.int .i64 1)) (.t 18)), none⟩, ⟨some 20, .q (.mv (.t 5)), none⟩, ⟨some 21, .q (.mv (.t 5)), none⟩, ⟨some 22, .q (.bin .add (.t 21) (.c (.int .i64 1))), none⟩, ⟨some 23, .q (.mv (.t 0)), none⟩, ⟨some 24, .e (.call 37 [(.t 23), (.c (.int .i64 20))]), none⟩, ⟨some 25, .q (.bin .add (.t 22) (.t 24)), none⟩, ⟨some 26, .q (.build [(.int .i64 0), (.int .i64 0), (.int .i64 0)] [(0, 1, (.t 19)), (1, 1, (.t 20)), (2, 1, (.t 25))]), none⟩, ⟨some 27, .a (.bsl 1 3 [(.int .i64 0), (.int .i64 0), (.int .i64 0)] [(0, 3, (.t 26))]), none⟩, ⟨some 28, .e (.app 24 3 (.t 16) (.t 27)), none⟩, ⟨some 3, .q (.mv (.t 28)), none⟩]
def c35_8 : SCode := .seq (.region c35_6 [0, 3, 4, 5]) (.region c35_7 [0, 3, 4])
def c35_9 : SCode := .block 1 c35_8
def c35_10 : List SOper := [⟨some 12, .q (.mv (.t 4)), none⟩, ⟨some 13, .q (.bin .sub (.t 12) (.c (.int .i64 1))), none⟩, ⟨some 4, .q (.mv (.t 13)), none⟩]
def c35_11 : SCode := .seq c35_9 (.region c35_10 [0, 3, 4])
def c35_12 : SCode := .seq c35_5 c35_11
def c35_13 : SCode := .loop c35_12
def c35_14 : SCode := .block 0 c35_13
def c35_15 : SCode := .seq (.region c35_2 [0, 3, 4]) c35_14
def c35_16 : List SOper := [⟨some 29, .q (.mv (.t 0)), none⟩, ⟨some 30, .e (.call 36 [(.t 29), (.c (.int .i64 24))]), none⟩, ⟨some 31, .q (.mv (.t 30)), none⟩, ⟨some 32, .q (.mv (.t 3)), some (31, true)⟩, ⟨some 33, .q (.len (.t 32)), some (31, true)⟩, ⟨some 34, .q (.bin .gtr (.t 33) (.c (.int .i64 0))), some (31, true)⟩, ⟨some 35, .q (.pick (.t 31) (.t 34) (.c (.bool false))), none⟩]
def c35_17 : List SOper := [⟨some 36, .q (.mv (.t 3)), none⟩, ⟨some 37, .q (.ia 3 (.t 36) (.c (.int .i64 0))), none⟩, ⟨some 6, .q (.mv (.t 37)), none⟩]
def c35_18 : List SOper := [⟨some 38, .q (.mv (.t 0)), none⟩, ⟨some 39, .e (.call 37 [(.t 38), (.c (.int .i64 3))]), none⟩]
def c35_19 : List SOper := [⟨some 41, .q (.bin .eql (.t 39) (.c (.int .i64 0))), none⟩, ⟨some 40, .q (.mv (.t 41)), none⟩]
def c35_20 : List SOper := [⟨some 42, .q (.mv (.t 6)), none⟩, ⟨some 43, .a (.bsl 3 1 [(.int .i64 0), (.int .i64 0), (.int .i64 0)] [(0, 1, (.c (.int .i64 0))), (1, 1, (.c (.int .i64 500))), (2, 1, (.c (.int .i64 501)))]), none⟩, ⟨some 44, .q (.mv (.t 0)), none⟩, ⟨some 45, .e (.call 37 [(.t 44), (.c (.int .i64 3))]), none⟩, ⟨some 46, .q (.ia 1 (.t 43) (.t 45)), none⟩, ⟨some 47, .q (.ld (.t 46)), none⟩, ⟨some 48, .q (.nil (.t 42)), none⟩, ⟨some 49, .q (.fa 0 (.t 48)), none⟩, ⟨none, .e (.st 1 (.t 49) (.t 47)), none⟩]
def c35_21 : List SOper := [⟨some 51, .q (.bin .eql (.t 39) (.c (.int .i64 1))), none⟩, ⟨some 50, .q (.mv (.t 51)), none⟩]
def c35_22 : List DOper := [⟨0, ⟨some 52, .q (.mv (.t 6)), none⟩, [], []⟩, ⟨1, ⟨some 53, .q (.mv (.t 6)), none⟩, [], []⟩, ⟨2, ⟨some 54, .q (.nil (.t 53)), none⟩, [], []⟩, ⟨3, ⟨some 55, .q (.fa 2 (.t 54)), none⟩, [], []⟩, ⟨4, ⟨some 56, .q (.ld (.t 55)), none⟩, [], []⟩, ⟨5, ⟨some 57, .a (.bsl 3 1 [(.int .i64 0), (.int .i64 0), (.int .i64 0)] [(0, 1, (.c (.int .i64 (-1)))), (1, 1, (.t 56)), (2, 1, (.c (.int .i64 0)))]), none⟩, [], []⟩, ⟨6, ⟨some 58, .q (.mv (.t 0)), none⟩, [], []⟩, ⟨7, ⟨some 59, .e (.call 37 [(.t 58), (.c (.int .i64 3))]), none⟩, [], [4]⟩, ⟨8, ⟨some 60, .q (.ia 1 (.t 57) (.t 59)), none⟩, [], []⟩, ⟨9, ⟨some 61, .q (.ld (.t 60)), none⟩, [], []⟩, ⟨10, ⟨some 62, .q (.nil (.t 52)), none⟩, [], []⟩, ⟨11, ⟨some 63, .q (.fa 1 (.t 62)), none⟩, [], []⟩, ⟨12, ⟨none, .e (.st 1 (.t 63) (.t 61)), none⟩, [], []⟩]
def c35_23 : List SOper := [⟨some 65, .q (.bin .eql (.t 39) (.c (.int .i64 2))), none⟩, ⟨some 64, .q (.mv (.t 65)), none⟩]
def c35_24 : List SOper := [⟨some 66, .q (.mv (.t 6)), none⟩, ⟨some 67, .a (.bsl 2 1 [(.int .i64 0), (.int .i64 0)] [(0, 1, (.c (.int .i64 10000000))), (1, 1, (.c (.int .i64 10000001)))]), none⟩, ⟨some 68, .q (.mv (.t 0)), none⟩, ⟨some 69, .e (.call 37 [(.t 68), (.c (.int .i64 2))]), none⟩, ⟨some 70, .q (.ia 1 (.t 67) (.t 69)), none⟩, ⟨some 71, .q (.ld (.t 70)), none⟩, ⟨some 72, .q (.nil (.t 66)), none⟩, ⟨some 73, .q (.fa 2 (.t 72)), none⟩, ⟨none, .e (.st 1 (.t 73) (.t 71)), none⟩]
def c35_25 : SCode := .cond (.t 64) (.region c35_24 [0, 3]) .skip
def c35_26 : SCode := .seq (.region c35_23 [0, 3, 6, 64]) c35_25
def c35_27 : SCode := .cond (.t 50) (.dregion c35_22 [0, 3]) c35_26
def c35_28 : SCode := .seq (.region c35_21 [0, 3, 6, 39, 50]) c35_27
def c35_29 : SCode := .cond (.t 40) (.region c35_20 [0, 3]) c35_28
def c35_30 : SCode := .seq (.region c35_19 [0, 3, 6, 39, 40]) c35_29
def c35_31 : SCode := .block 2 c35_30
def c35_32 : SCode := .seq (.region c35_18 [0, 3, 6, 39]) c35_31
def c35_33 : SCode := .seq (.region c35_17 [0, 3, 6]) c35_32
def c35_34 : SCode := .cond (.t 35) c35_33 .skip
def c35_35 : SCode := .seq (.region c35_16 [0, 3, 35]) c35_34
def c35_36 : List SOper := [⟨some 74, .q (.mv (.t 0)), none⟩, ⟨some 75, .e (.call 36 [(.t 74), (.c (.int .i64 60))]), none⟩]
def c35_37 : List SOper := [⟨some 76, .q (.mv (.t 3)), none⟩, ⟨some 77, .q (.len (.t 76)), none⟩, ⟨some 78, .q (.mv (.t 0)), none⟩, ⟨some 79, .e (.call 37 [(.t 78), (.c (.int .i64 2))]), none⟩, ⟨some 80, .q (.bin .add (.c (.int .i64 300)) (.t 79)), none⟩, ⟨some 81, .q (.bin .lss (.t 77) (.t 80)), none⟩]
def c35_38 : SCode := .cond (.t 81) .skip (.exit 3)
def c35_39 : SCode := .seq (.region c35_37 [0, 3, 81]) c35_38
def c35_40 : List SOper := [⟨some 82, .q (.mv (.t 3)), none⟩, ⟨some 83, .q (.build [(.int .i64 0), (.int .i64 0), (.int .i64 0)] [(0, 1, (.c (.int .i64 9))), (1, 1, (.c (.int .i64 1))), (2, 1, (.c (.int .i64 3)))]), none⟩, ⟨some 84, .a (.bsl 1 3 [(.int .i64 0), (.int .i64 0), (.int .i64 0)] [(0, 3, (.t 83))]), none⟩, ⟨some 85, .e (.app 24 3 (.t 82) (.t 84)), none⟩, ⟨some 3, .q (.mv (.t 85)), none⟩]
def c35_41 : SCode := .block 4 (.region c35_40 [0, 3])
def c35_42 : SCode := .seq c35_39 c35_41
def c35_43 : SCode := .loop c35_42
def c35_44 : SCode := .block 3 c35_43
def c35_45 : SCode := .cond (.t 75) c35_44 .skip
def c35_46 : SCode := .seq (.region c35_36 [0, 3, 75]) c35_45
def c35_47 : List SOper := [⟨some 86, .q (.mv (.t 3)), none⟩, ⟨some 2, .q (.mv (.t 86)), none⟩]
def c35_48 : SCode := .seq (.region c35_47 [2]) .ret
def c35_49 : SCode := .seq c35_46 c35_48
def c35_50 : SCode := .seq c35_35 c35_49
def c35_51 : SCode := .seq c35_15 c35_50
def c35_52 : SCode := .seq (.region c35_1 [0, 3]) c35_51
def c35_53 : SCode := .seq (.region c35_0 [0]) c35_52
def c35 : SCode := c35_53
theorem w35 : type_of% (And.intro (uR Try.prog c35_0.eq_1) (And.intro (uR Try.prog c35_1.eq_1) (And.intro (uR Try.prog c35_2.eq_1) (And.intro (uR Try.prog c35_3.eq_1) (And.intro (uC Try.prog c35_4.eq_1) (And.intro (uC Try.prog c35_5.eq_1) (And.intro (uR Try.prog c35_6.eq_1) (And.intro (uR Try.prog c35_7.eq_1) (And.intro (uC Try.prog c35_8.eq_1) (And.intro (uC Try.prog c35_9.eq_1) (And.intro (uR Try.prog c35_10.eq_1) (And.intro (uC Try.prog c35_11.eq_1) (And.intro (uC Try.prog c35_12.eq_1) (And.intro (uC Try.prog c35_13.eq_1) (And.intro (uC Try.prog c35_14.eq_1) (And.intro (uC Try.prog c35_15.eq_1) (And.intro (uR Try.prog c35_16.eq_1) (And.intro (uR Try.prog c35_17.eq_1) (And.intro (uR Try.prog c35_18.eq_1) (And.intro (uR Try.prog c35_19.eq_1) (And.intro (uR Try.prog c35_20.eq_1) (And.intro (uR Try.prog c35_21.eq_1) (And.intro (uD Try.prog c35_22.eq_1) (And.intro (uR Try.prog c35_23.eq_1) (And.intro (uR Try.prog c35_24.eq_1) (And.intro (uC Try.prog c35_25.eq_1) (And.intro (uC Try.prog c35_26.eq_1) (And.intro (uC Try.prog c35_27.eq_1) (And.intro (uC Try.prog c35_28.eq_1) (And.intro (uC Try.prog c35_29.eq_1) (And.intro (uC Try.prog c35_30.eq_1) (And.intro (uC Try.prog c35_31.eq_1) (And.intro (uC Try.prog c35_32.eq_1) (And.intro (uC Try.prog c35_33.eq_1) (And.intro (uC Try.prog c35_34.eq_1) (And.intro (uC Try.prog c35_35.eq_1) (And.intro (uR Try.prog c35_36.eq_1) (And.intro (uR Try.prog c35_37.eq_1) (And.intro (uC Try.prog c35_38.eq_1) (And.intro (uC Try.prog c35_39.eq_1) (And.intro (uR Try.prog c35_40.eq_1) (And.intro (uC Try.prog c35_41.eq_1) (And.intro (uC Try.prog c35_42.eq_1) (And.intro (uC Try.prog c35_43.eq_1) (And.intro (uC Try.prog c35_44.eq_1) (And.intro (uC Try.prog c35_45.eq_1) (And.intro (uC Try.prog c35_46.eq_1) (And.intro (uR Try.prog c35_47.eq_1) (And.intro (uC Try.prog c35_48.eq_1) (And.intro (uC Try.prog c35_49.eq_1) (And.intro (uC Try.prog c35_50.eq_1) (And.intro (uC Try.prog c35_51.eq_1) (And.intro (uC Try.prog c35_52.eq_1) (And.intro (uC Try.prog c35_53.eq_1) (uC Try.prog c35.eq_1))))))))))))))))))))))))))))))))))))))))))))))))))))))) := (And.intro (uR Try.prog c35_0.eq_1) (And.intro (uR Try.prog c35_1.eq_1) (And.intro (uR Try.prog c35_2.eq_1) (And.intro (uR Try.prog c35_3.eq_1) (And.intro (uC Try.prog c35_4.eq_1) (And.intro (uC Try.prog c35_5.eq_1) (And.intro (uR Try.prog c35_6.eq_1) (And.intro (uR Try.prog c35_7.eq_1) (And.intro (uC Try.prog c35_8.eq_1) (And.intro (uC Try.prog c35_9.eq_1) (And.intro (uR Try.prog c35_10.eq_1) (And.intro (uC Try.prog c35_11.eq_1) (And.intro (uC Try.prog c35_12.eq_1) (And.intro (uC Try.prog c35_13.eq_1) (And.intro (uC Try.prog c35_14.eq_1) (And.intro (uC Try.prog c35_15.eq_1) (And.intro (uR Try.prog c35_16.eq_1) (And.intro (uR Try.prog c35_17.eq_1) (And.intro (uR Try.prog c35_18.eq_1) (And.intro (uR Try.prog c35_19.eq_1) (And.intro (uR Try.prog c35_20.eq_1) (And.intro (uR Try.prog c35_21.eq_1) (And.intro (uD Try.prog c35_22.eq_1) (And.intro (uR Try.prog c35_23.eq_1) (And.intro (uR Try.prog c35_24.eq_1) (And.intro (uC Try.prog c35_25.eq_1) (And.intro (uC Try.prog c35_26.eq_1) (And.intro (uC Try.prog c35_27.eq_1) (And.intro (uC Try.prog c35_28.eq_1) (And.intro (uC Try.prog c35_29.eq_1) (And.intro (uC Try.prog c35_30.eq_1) (And.intro (uC Try.prog c35_31.eq_1) (And.intro (uC Try.prog c35_32.eq_1) (And.intro (uC Try.prog c35_33.eq_1) (And.intro (uC Try.prog c35_34.eq_1) (And.intro (uC Try.prog c35_35.eq_1) (And.intro (uR Try.prog c35_36.eq_1) (And.intro (uR Try.prog c35_37.eq_1) (And.intro (uC Try.prog c35_38.eq_1) (And.intro (uC Try.prog c35_39.eq_1) (And.intro (uR Try.prog c35_40.eq_1) (And.intro (uC Try.prog c35_41.eq_1) (And.intro (uC Try.prog c35_42.eq_1) (And.intro (uC Try.prog c35_43.eq_1) (And.intro (uC Try.prog c35_44.eq_1) (And.intro (uC Try.prog c35_45.eq_1) (And.intro (uC Try.prog c35_46.eq_1) (And.intro (uR Try.prog c35_47.eq_1) (And.intro (uC Try.prog c35_48.eq_1) (And.intro (uC Try.prog c35_49.eq_1) (And.intro (uC Try.prog c35_50.eq_1) (And.intro (uC Try.prog c35_51.eq_1) (And.intro (uC Try.prog c35_52.eq_1) (And.intro (uC Try.prog c35_53.eq_1) (uC Try.prog c35.eq_1)))))))))))))))))))))))))))))))))))))))))))))))))))))))
def v35 : List RV := [.t 2]
theorem s35 : slimF Try.prog Try.f35 = some (c35.bare, v35) := by kernel_rfl
/-! 18 loop.example/g00066/spec.DrawMissing: parameters 1, live [0], slots [0:code, 1:code, 4:c, 5:a, 6:b] -/
def c18_0 : List SOper := [⟨some 2, .q (.mv (.c (.slice none 0 0))), none⟩, ⟨some 3, .q (.mv (.c (.slice none 0 0))), none⟩]
def c18_1 : List SOper := [⟨some 7, .q (.mv (.t 0)), none⟩, ⟨some 8, .e (.call 34 [(.t 7)]), none⟩, ⟨some 4, .q (.mv (.t 8)), none⟩]
def c18_2 : List SOper := [⟨some 9, .q (.mv (.t 4)), none⟩, ⟨some 10, .e (.call 35 [(.t 9)]), none⟩, ⟨some 5, .q (.mv (.t 10)), none⟩]
def c18_3 : List SOper := [⟨some 11, .q (.mv (.t 4)), none⟩, ⟨some 12, .e (.call 35 [(.t 11)]), none⟩, ⟨some 6, .q (.mv (.t 12)), none⟩]
def c18_4 : List SOper := [⟨some 13, .q (.mv (.t 4)), none⟩, ⟨some 14, .e (.call 36 [(.t 13), (.c (.int .i64 4))]), none⟩]
def c18_5 : List SOper := [⟨some 15, .q (.mv (.t 6)), none⟩, ⟨some 16, .q (.mv (.t 5)), none⟩, ⟨some 17, .e (.app 24 3 (.t 15) (.t 16)), none⟩, ⟨some 6, .q (.mv (.t 17)), none⟩]
def c18_6 : SCode := .cond (.t 14) (.region c18_5 [5, 6]) .skip
def c18_7 : SCode := .seq (.region c18_4 [5, 6, 14]) c18_6
def c18_8 : List SOper := [⟨some 18, .q (.mv (.t 5)), none⟩, ⟨some 19, .q (.mv (.t 6)), none⟩, ⟨some 2, .q (.mv (.t 18)), none⟩, ⟨some 3, .q (.mv (.t 19)), none⟩]
def c18_9 : SCode := .seq (.region c18_8 [2, 3]) .ret
def c18_10 : SCode := .seq c18_7 c18_9
def c18_11 : SCode := .seq (.region c18_3 [4, 5, 6]) c18_10
def c18_12 : SCode := .seq (.region c18_2 [4, 5]) c18_11
def c18_13 : SCode := .seq (.region c18_1 [4]) c18_12
def c18_14 : SCode := .seq (.region c18_0 [0]) c18_13
def c18 : SCode := c18_14
theorem w18 : type_of% (And.intro (uR Try.prog c18_0.eq_1) (And.intro (uR Try.prog c18_1.eq_1) (And.intro (uR Try.prog c18_2.eq_1) (And.intro (uR Try.prog c18_3.eq_1) (And.intro (uR Try.prog c18_4.eq_1) (And.intro (uR Try.prog c18_5.eq_1) (And.intro (uC Try.prog c18_6.eq_1) (And.intro (uC Try.prog c18_7.eq_1) (And.intro (uR Try.prog c18_8.eq_1) (And.intro (uC Try.prog c18_9.eq_1) (And.intro (uC Try.prog c18_10.eq_1) (And.intro (uC Try.prog c18_11.eq_1) (And.intro (uC Try.prog c18_12.eq_1) (And.intro (uC Try.prog c18_13.eq_1) (And.intro (uC Try.prog c18_14.eq_1) (uC Try.prog c18.eq_1)))))))))))))))) := (And.intro (uR Try.prog c18_0.eq_1) (And.intro (uR Try.prog c18_1.eq_1) (And.intro (uR Try.prog c18_2.eq_1) (And.intro (uR Try.prog c18_3.eq_1) (And.intro (uR Try.prog c18_4.eq_1) (And.intro (uR Try.prog c18_5.eq_1) (And.intro (uC Try.prog c18_6.eq_1) (And.intro (uC Try.prog c18_7.eq_1) (And.intro (uR Try.prog c18_8.eq_1) (And.intro (uC Try.prog c18_9.eq_1) (And.intro (uC Try.prog c18_10.eq_1) (And.intro (uC Try.prog c18_11.eq_1) (And.intro (uC Try.prog c18_12.eq_1) (And.intro (uC Try.prog c18_13.eq_1) (And.intro (uC Try.prog c18_14.eq_1) (uC Try.prog c18.eq_1))))))))))))))))
def v18 : List RV := [.t 2, .t 3]
theorem s18 : slimF Try.prog Try.f18 = some (c18.bare, v18) := by kernel_rfl

theorem curStepG {h h' : Heap} {c g : Nat} (k : Cur h c) (e : ExtG g h h') (hg : c < g) : Cur h' c := by
  obtain ⟨h0, bv, code, pos, hh, k1, k2, k3, k4, k5, k6⟩ := k
  exact ⟨h0, bv, code, pos, hh, k1, e.ext k2 (by omega), k3, k4, k5, k6.step e (by omega)⟩
theorem reel_eqi (a b : Reel) : intsEq (encReel a) (encReel b) = some (decide (a = b)) := by
  obtain ⟨a1, a2, a3⟩ := a
  obtain ⟨b1, b2, b3⟩ := b
  simp [encReel, intsEq_cons, intsEq_nil, Bool.decide_and, Bool.and_assoc]
theorem sameReels_ok (h : Heap) (v v' : Value) (l l' : List Reel) (hs : SlT h encReel 3 v l) (hs' : SlT h encReel 3 v' l') (hl : l.length ≤ 281474976710656) (hl' : l'.length ≤ 281474976710656) :
    ACall Try.prog 19 [v, v'] h fun r h' => h' = h ∧ r = .bool (decide (l = l')) := by
  refine ACall.of Try.func19 s19 (of_decide_eq_true rfl) ?_
  have R := hs.rulesN
  have R' := hs'.rulesN
  simp (maxSteps := 4000000) (disch := omega) only [ah, am, Nat.reduceEqDiff, reduceCtorEq, Nat.reduceAdd, Nat.reduceLeDiff, Nat.reduceMul, Nat.reduceLT, if_true, if_false, true_and, and_true, and_self, Nat.reduceBEq, QOp.loads, boxO, bslO, buildO, cutL, fillV, putL, w19, v19, R, R']
  refine stepI.split (fun hp => ?_) (fun hp => ?_)
  rotate_left
  · simp (maxSteps := 4000000) (disch := omega) only [ah, am, Nat.reduceEqDiff, reduceCtorEq, Nat.reduceAdd, Nat.reduceLeDiff, Nat.reduceMul, Nat.reduceLT, if_true, if_false, true_and, and_true, and_self, Nat.reduceBEq, QOp.loads, boxO, bslO, buildO, cutL, fillV, putL, w19, v19]
    rw [decide_eq_false]; rintro rfl; exact hp rfl
  have hll : l.length = l'.length := by omega
  simp (maxSteps := 4000000) (disch := omega) only [ah, am, Nat.reduceEqDiff, reduceCtorEq, Nat.reduceAdd, Nat.reduceLeDiff, Nat.reduceMul, Nat.reduceLT, if_true, if_false, true_and, and_true, and_self, Nat.reduceBEq, QOp.loads, boxO, bslO, buildO, cutL, fillV, putL, w19, v19]
  refine SW_loop_up (fun i E H => E = [(0, v), (1, v'), (5, .int .i64 i)] ∧ H = h ∧ ∀ j (h1 : j < i) (h2 : j < l.length), l[j] = l'[j]) l.length 0 (by omega)
    ⟨rfl, rfl, fun j h1 h2 => absurd h1 (by omega)⟩ ?_
  rintro i E H hi ⟨rfl, rfl, F⟩
  have W : IntKind.i64.wrap ((i : Int) + 1) = ((i + 1 : Nat) : Int) := i64e (by omega) (by omega)
  simp (maxSteps := 4000000) (disch := omega) only [ah, am, Nat.reduceEqDiff, reduceCtorEq, Nat.reduceAdd, Nat.reduceLeDiff, Nat.reduceMul, Nat.reduceLT, if_true, if_false, true_and, and_true, and_self, Nat.reduceBEq, QOp.loads, boxO, bslO, buildO, cutL, fillV, putL, w19, v19, R, R', W]
  refine stepI.split (fun hp => ?_) (fun hp => ?_)
  · simp (maxSteps := 4000000) (disch := omega) only [ah, am, Nat.reduceEqDiff, reduceCtorEq, Nat.reduceAdd, Nat.reduceLeDiff, Nat.reduceMul, Nat.reduceLT, if_true, if_false, true_and, and_true, and_self, Nat.reduceBEq, QOp.loads, boxO, bslO, buildO, cutL, fillV, putL, w19, v19, R, R', reel_eqi, encReel_len, Option.map_some, eq_self]
    refine stepI.split (fun hq => ?_) (fun hq => ?_)
    · simp (maxSteps := 4000000) (disch := omega) only [ah, am, Nat.reduceEqDiff, reduceCtorEq, Nat.reduceAdd, Nat.reduceLeDiff, Nat.reduceMul, Nat.reduceLT, if_true, if_false, true_and, and_true, and_self, Nat.reduceBEq, QOp.loads, boxO, bslO, buildO, cutL, fillV, putL, w19, v19, W]
      refine ⟨by omega, fun j h1 h2 => ?_⟩
      by_cases hj : j = i
      · subst hj; exact hq
      · exact F j (by omega) h2
    · simp (maxSteps := 4000000) (disch := omega) only [ah, am, Nat.reduceEqDiff, reduceCtorEq, Nat.reduceAdd, Nat.reduceLeDiff, Nat.reduceMul, Nat.reduceLT, if_true, if_false, true_and, and_true, and_self, Nat.reduceBEq, QOp.loads, boxO, bslO, buildO, cutL, fillV, putL, w19, v19]
      rw [decide_eq_false (by rintro rfl; exact hq rfl)]
  · simp (maxSteps := 4000000) (disch := omega) only [ah, am, Nat.reduceEqDiff, reduceCtorEq, Nat.reduceAdd, Nat.reduceLeDiff, Nat.reduceMul, Nat.reduceLT, if_true, if_false, true_and, and_true, and_self, Nat.reduceBEq, QOp.loads, boxO, bslO, buildO, cutL, fillV, putL, w19, v19, R, W]
    rw [decide_eq_true]
    exact List.ext_getElem hll fun j h1 h2 => F j (by omega) h1
theorem l7DrawReels_ok (h : Heap) (c : Nat) (k : Cur h c) : ACall Try.prog 35 [.pointer (some ⟨c, 0, none⟩)] h fun r h' => ∃ l, Fk [c] h h' encReel 3 r l [] ∧ Cur h' c ∧ l.length ≤ 301 := by
  refine ACall.of Try.func35 s35 (of_decide_eq_true rfl) ?_
  have hc := k.lt
  have hm : c ∈ [c] := by simp
  simp (maxSteps := 4000000) (disch := omega) only [ah, am, Nat.reduceEqDiff, reduceCtorEq, Nat.reduceAdd, Nat.reduceLeDiff, Nat.reduceMul, Nat.reduceLT, if_true, if_false, true_and, and_true, and_self, Nat.reduceBEq, QOp.loads, boxO, bslO, buildO, cutL, fillV, putL, w35, v35]
  refine stepC.of (l1Below_ok _ _ _ (k.ext (Ext.more h [[]]))) ?_
  rintro _ H1 ⟨n0, rfl, n1, n2, _, g1, k1⟩
  have n3 : n0 < 7 := n2 (by omega)
  have F0 : Fk [c] h H1 encReel 3 (.slice (some ⟨h.size, 0, none⟩) 0 3) ([] : List Reel) [] := (Fk.of (Fresh.new0 h encReel_len (by omega))).stepG g1 hm hc
  simp (maxSteps := 4000000) (disch := omega) only [ah, am, Nat.reduceEqDiff, reduceCtorEq, Nat.reduceAdd, Nat.reduceLeDiff, Nat.reduceMul, Nat.reduceLT, if_true, if_false, true_and, and_true, and_self, Nat.reduceBEq, QOp.loads, boxO, bslO, buildO, cutL, fillV, putL, w35, v35]
  -- the end
  have last : ∀ {H : Heap} {ov : Value} {l : List Reel} (t : Env), Fk [c] h H encReel 3 ov l [] → Cur H c → l.length ≤ 7 → SW Try.prog c35_49 (retQ v35 fun r h' => ∃ l, Fk [c] h h' encReel 3 r l [] ∧ Cur h' c ∧ l.length ≤ 301) ((0, .pointer (some ⟨c, 0, none⟩)) :: (3, ov) :: t) H := by
    intro H ov l t F k hl
    simp (maxSteps := 4000000) (disch := omega) only [ah, am, Nat.reduceEqDiff, reduceCtorEq, Nat.reduceAdd, Nat.reduceLeDiff, Nat.reduceMul, Nat.reduceLT, if_true, if_false, true_and, and_true, and_self, Nat.reduceBEq, QOp.loads, boxO, bslO, buildO, cutL, fillV, putL, w35, v35]
    refine stepC.of (l1Once_ok _ _ _ k) ?_
    rintro _ H2 ⟨b, rfl, g2, k2⟩
    have F2 := F.stepG g2 hm hc
    cases b with
    | false =>
      simp (maxSteps := 4000000) (disch := omega) only [ah, am, Nat.reduceEqDiff, reduceCtorEq, Nat.reduceAdd, Nat.reduceLeDiff, Nat.reduceMul, Nat.reduceLT, if_true, if_false, true_and, and_true, and_self, Nat.reduceBEq, QOp.loads, boxO, bslO, buildO, cutL, fillV, putL, w35, v35]
      exact ⟨l, F2, k2, by omega⟩
    | true =>
      simp (maxSteps := 4000000) (disch := omega) only [ah, am, Nat.reduceEqDiff, reduceCtorEq, Nat.reduceAdd, Nat.reduceLeDiff, Nat.reduceMul, Nat.reduceLT, if_true, if_false, true_and, and_true, and_self, Nat.reduceBEq, QOp.loads, boxO, bslO, buildO, cutL, fillV, putL, w35, v35]
      refine SW_loop_up (fun i E H => ∃ ov l, (∃ t, E = (0, .pointer (some ⟨c, 0, none⟩)) :: (3, ov) :: t) ∧ Fk [c] h H encReel 3 ov l [] ∧ Cur H c ∧ l.length = i) 301 l.length (by omega) ⟨ov, l, ⟨_, rfl⟩, F2, k2, rfl⟩ ?_
      rintro i E H hi ⟨ov, l, ⟨t, rfl⟩, F, kH, hl⟩
      have R := F.slt.rulesN
      simp (maxSteps := 4000000) (disch := omega) only [ah, am, Nat.reduceEqDiff, reduceCtorEq, Nat.reduceAdd, Nat.reduceLeDiff, Nat.reduceMul, Nat.reduceLT, if_true, if_false, true_and, and_true, and_self, Nat.reduceBEq, QOp.loads, boxO, bslO, buildO, cutL, fillV, putL, w35, v35, R.1]
      refine stepC.of (l1Below_ok _ _ _ kH) ?_
      rintro _ H3 ⟨x, rfl, x1, x2, _, g3, k3⟩
      have x3 : x < 2 := x2 (by omega)
      have F3 := F.stepG g3 hm hc
      simp (maxSteps := 4000000) (disch := omega) only [ah, am, Nat.reduceEqDiff, reduceCtorEq, Nat.reduceAdd, Nat.reduceLeDiff, Nat.reduceMul, Nat.reduceLT, if_true, if_false, true_and, and_true, and_self, Nat.reduceBEq, QOp.loads, boxO, bslO, buildO, cutL, fillV, putL, w35, v35, i64w]
      refine stepI.split (fun hq => ?_) (fun hq => ?_)
      · obtain ⟨v2, H4, ea, F4, g, hg, G⟩ := F3.app1g [] ⟨9, 1, 3⟩ (bytes := 24) (by omega)
        simp only [boxesAt, List.cons_append, List.append_nil, List.nil_append, List.length_nil, List.length_cons, Nat.zero_add, Nat.add_zero, encReel] at ea G
        simp (maxSteps := 4000000) (disch := omega) only [ah, am, Nat.reduceEqDiff, reduceCtorEq, Nat.reduceAdd, Nat.reduceLeDiff, Nat.reduceMul, Nat.reduceLT, if_true, if_false, true_and, and_true, and_self, Nat.reduceBEq, QOp.loads, boxO, bslO, buildO, cutL, fillV, putL, w35, v35, ea]
        exact ⟨by omega, _, l ++ [⟨9, 1, 3⟩], ⟨_, rfl⟩, F4.bare, curStepG (k3.ext (Ext.more _ _)) G (by omega), by simp; omega⟩
      · simp (maxSteps := 4000000) (disch := omega) only [ah, am, Nat.reduceEqDiff, reduceCtorEq, Nat.reduceAdd, Nat.reduceLeDiff, Nat.reduceMul, Nat.reduceLT, if_true, if_false, true_and, and_true, and_self, Nat.reduceBEq, QOp.loads, boxO, bslO, buildO, cutL, fillV, putL, w35, v35]
        exact ⟨l, F3, k3, by omega⟩
  rw [c35_50.eq_1]
  generalize c35_49 = fc at last ⊢
  refine SW_loop_up (fun i E H => ∃ ov l, E = [(0, .pointer (some ⟨c, 0, none⟩)), (3, ov), (4, .int .i64 (n0 - i))] ∧ Fk [c] h H encReel 3 ov l [] ∧ Cur H c ∧ l.length ≤ i) n0.toNat 0 (by omega)
    ⟨.slice (some ⟨h.size, 0, none⟩) 0 3, [], by simp, F0, k1, by simp⟩ ?_
  rintro i E H hi ⟨ov, l, rfl, F, kH, hl⟩
  simp (maxSteps := 4000000) (disch := omega) only [ah, am, Nat.reduceEqDiff, reduceCtorEq, Nat.reduceAdd, Nat.reduceLeDiff, Nat.reduceMul, Nat.reduceLT, if_true, if_false, true_and, and_true, and_self, Nat.reduceBEq, QOp.loads, boxO, bslO, buildO, cutL, fillV, putL, w35, v35]
  refine stepI.split (fun hp => ?_) (fun hp => ?_)
  · have W : IntKind.i64.wrap (n0 - (i : Int) - 1) = n0 - ((i + 1 : Nat) : Int) := i64e (by omega) (by omega)
    simp (maxSteps := 4000000) (disch := omega) only [ah, am, Nat.reduceEqDiff, reduceCtorEq, Nat.reduceAdd, Nat.reduceLeDiff, Nat.reduceMul, Nat.reduceLT, if_true, if_false, true_and, and_true, and_self, Nat.reduceBEq, QOp.loads, boxO, bslO, buildO, cutL, fillV, putL, w35, v35]
    refine stepC.of (l1Below_ok _ _ _ kH) ?_
    rintro _ H2 ⟨f, rfl, f1, f2, _, g2, k2⟩
    have F2 := F.stepG g2 hm hc
    simp (maxSteps := 4000000) (disch := omega) only [ah, am, Nat.reduceEqDiff, reduceCtorEq, Nat.reduceAdd, Nat.reduceLeDiff, Nat.reduceMul, Nat.reduceLT, if_true, if_false, true_and, and_true, and_self, Nat.reduceBEq, QOp.loads, boxO, bslO, buildO, cutL, fillV, putL, w35, v35]
    refine stepC.of (l1Below_ok _ _ _ k2) ?_
    rintro _ H3 ⟨s, rfl, s1, s2, _, g3, k3⟩
    have F3 := F2.stepG g3 hm hc
    simp (maxSteps := 4000000) (disch := omega) only [ah, am, Nat.reduceEqDiff, reduceCtorEq, Nat.reduceAdd, Nat.reduceLeDiff, Nat.reduceMul, Nat.reduceLT, if_true, if_false, true_and, and_true, and_self, Nat.reduceBEq, QOp.loads, boxO, bslO, buildO, cutL, fillV, putL, w35, v35]
    refine stepC.of (l1Below_ok _ _ _ k3) ?_
    rintro _ H4 ⟨t, rfl, t1, t2, _, g4, k4⟩
    have F4 := F3.stepG g4 hm hc
    have s3 := s2 (by omega)
    have t3 := t2 (by omega)
    have f3 := f2 (by omega)
    obtain ⟨v2, H5, ea, F5, g, hg, G⟩ := F4.app1g [] ⟨1 + s, f, f + 1 + t⟩ (bytes := 24) (by omega)
    simp only [boxesAt, List.cons_append, List.append_nil, List.nil_append, List.length_nil, List.length_cons, Nat.zero_add, Nat.add_zero, encReel] at ea G
    simp (maxSteps := 4000000) (disch := omega) only [ah, am, Nat.reduceEqDiff, reduceCtorEq, Nat.reduceAdd, Nat.reduceLeDiff, Nat.reduceMul, Nat.reduceLT, if_true, if_false, true_and, and_true, and_self, Nat.reduceBEq, QOp.loads, boxO, bslO, buildO, cutL, fillV, putL, w35, v35, i64w, ea, W]
    exact ⟨by omega, _, l ++ [⟨1 + s, f, f + 1 + t⟩], rfl, F5.bare, curStepG (k4.ext (Ext.more _ _)) G (by omega), by simp; omega⟩
  · simp (maxSteps := 4000000) (disch := omega) only [ah, am, Nat.reduceEqDiff, reduceCtorEq, Nat.reduceAdd, Nat.reduceLeDiff, Nat.reduceMul, Nat.reduceLT, if_true, if_false, true_and, and_true, and_self, Nat.reduceBEq, QOp.loads, boxO, bslO, buildO, cutL, fillV, putL, w35, v35]
    refine stepC.of (l1Once_ok _ _ _ kH) ?_
    rintro _ H2 ⟨b, rfl, g2, k2⟩
    have F2 := F.stepG g2 hm hc
    cases b with
    | false =>
      simp (maxSteps := 4000000) (disch := omega) only [ah, am, Nat.reduceEqDiff, reduceCtorEq, Nat.reduceAdd, Nat.reduceLeDiff, Nat.reduceMul, Nat.reduceLT, if_true, if_false, true_and, and_true, and_self, Nat.reduceBEq, QOp.loads, boxO, bslO, buildO, cutL, fillV, putL, w35, v35]
      exact last _ F2 k2 (by omega)
    | true =>
      have R := F2.slt.rulesN
      by_cases h0 : (0 : Int) < l.length
      rotate_left
      · simp (maxSteps := 4000000) (disch := omega) only [ah, am, Nat.reduceEqDiff, reduceCtorEq, Nat.reduceAdd, Nat.reduceLeDiff, Nat.reduceMul, Nat.reduceLT, if_true, if_false, true_and, and_true, and_self, Nat.reduceBEq, QOp.loads, boxO, bslO, buildO, cutL, fillV, putL, w35, v35, R.1, decide_eq_false h0]
        exact last _ F2 k2 (by omega)
      have h0' : 0 < l.length := by omega
      have A0 : iaV 3 ov (.int .i64 0) = some (ptrAt ov 0) := R.2.1 .i64 0 h0'
      have N0 := nil_ptr F2.slt h0' 0
      simp (maxSteps := 4000000) (disch := omega) only [ah, am, Nat.reduceEqDiff, reduceCtorEq, Nat.reduceAdd, Nat.reduceLeDiff, Nat.reduceMul, Nat.reduceLT, if_true, if_false, true_and, and_true, and_self, Nat.reduceBEq, QOp.loads, boxO, bslO, buildO, cutL, fillV, putL, w35, v35, R.1, decide_eq_true h0, A0]
      refine stepC.of (l1Below_ok _ _ _ k2) ?_
      rintro _ H3 ⟨w, rfl, w1, w2, _, g3, k3⟩
      have F3 := F2.stepG g3 hm hc
      by_cases q0 : w = 0
      · simp (maxSteps := 4000000) (disch := omega) only [ah, am, Nat.reduceEqDiff, reduceCtorEq, Nat.reduceAdd, Nat.reduceLeDiff, Nat.reduceMul, Nat.reduceLT, if_true, if_false, true_and, and_true, and_self, Nat.reduceBEq, QOp.loads, boxO, bslO, buildO, cutL, fillV, putL, w35, v35, decide_eq_true q0]
        have F4 := F3.step (Ext.more H3 [[.int .i64 0, .int .i64 500, .int .i64 501]])
        refine stepC.of (l1Below_ok _ _ _ (k3.ext (Ext.more _ _))) ?_
        rintro _ H5 ⟨z, rfl, z1, z2, _, g5, k5⟩
        have z3 := z2 (by omega)
        have F5 := F4.stepG g5 hm hc
        obtain ⟨u, hu⟩ := pick_lits g5 k3.lt z1 (by simpa using z3) rfl
        have R5 := F5.slt.rulesN
        have N5 := nil_ptr F5.slt h0' 0
        have FA := R5.2.2.1 0 0 h0'
        obtain ⟨K, es, F6, g, hg, G⟩ := F5.setF (j := 0) (f := 0) (n := 1) (x := ⟨u, l[0].fr, l[0].to⟩) (y := .int .i64 u) h0' rfl (by omega) rfl (by omega) rfl
        simp only [Nat.reduceMul, Nat.reduceAdd] at es FA
        simp (maxSteps := 4000000) (disch := omega) only [ah, am, Nat.reduceEqDiff, reduceCtorEq, Nat.reduceAdd, Nat.reduceLeDiff, Nat.reduceMul, Nat.reduceLT, if_true, if_false, true_and, and_true, and_self, Nat.reduceBEq, QOp.loads, boxO, bslO, buildO, cutL, fillV, putL, w35, v35, Nat.mul_one, hu, N5, FA, es]
        exact last _ F6 (curStepG k5 G (by omega)) (by simp; omega)
      by_cases q1 : w = 1
      · have R3 := F3.slt.rulesN
        have N3 := nil_ptr F3.slt h0' 0
        have FA := R3.2.2.1 2 0 h0'
        have LD : ldV H3 (ptrAt ov 2) = some (.int .i64 (l[0]'h0').to) := R3.2.2.2.1 0 2 h0' (by omega)
        simp only [Nat.reduceMul, Nat.reduceAdd] at FA
        simp (maxSteps := 4000000) (disch := omega) only [ah, am, Nat.reduceEqDiff, reduceCtorEq, Nat.reduceAdd, Nat.reduceLeDiff, Nat.reduceMul, Nat.reduceLT, if_true, if_false, true_and, and_true, and_self, Nat.reduceBEq, QOp.loads, boxO, bslO, buildO, cutL, fillV, putL, w35, v35, decide_eq_false q0, decide_eq_true q1, N3, FA, LD]
        have F4 := F3.step (Ext.more H3 [[.int .i64 (-1), .int .i64 (l[0]'h0').to, .int .i64 0]])
        refine stepC.of (l1Below_ok _ _ _ (k3.ext (Ext.more _ _))) ?_
        rintro _ H5 ⟨z, rfl, z1, z2, _, g5, k5⟩
        have z3 := z2 (by omega)
        have F5 := F4.stepG g5 hm hc
        obtain ⟨u, hu⟩ := pick_lits g5 k3.lt z1 (by simpa using z3) rfl
        have R5 := F5.slt.rulesN
        have N5 := nil_ptr F5.slt h0' 0
        have FA1 := R5.2.2.1 1 0 h0'
        have FA2 := R5.2.2.1 2 0 h0'
        have LD5 : ldV H5 (ptrAt ov 2) = some (.int .i64 (l[0]'h0').to) := R5.2.2.2.1 0 2 h0' (by omega)
        obtain ⟨K, es, F6, g, hg, G⟩ := F5.setF (j := 0) (f := 1) (n := 1) (x := ⟨l[0].src, u, l[0].to⟩) (y := .int .i64 u) h0' rfl (by omega) rfl (by omega) rfl
        simp only [Nat.reduceMul, Nat.reduceAdd] at es FA1 FA2
        simp (maxSteps := 4000000) (disch := omega) only [ah, am, Nat.reduceEqDiff, reduceCtorEq, Nat.reduceAdd, Nat.reduceLeDiff, Nat.reduceMul, Nat.reduceLT, if_true, if_false, true_and, and_true, and_self, Nat.reduceBEq, QOp.loads, boxO, bslO, buildO, cutL, fillV, putL, w35, v35, Nat.mul_one, hu, N5, FA1, FA2, LD5, es]
        exact last _ F6 (curStepG k5 G (by omega)) (by simp; omega)
      by_cases q2 : w = 2
      · simp (maxSteps := 4000000) (disch := omega) only [ah, am, Nat.reduceEqDiff, reduceCtorEq, Nat.reduceAdd, Nat.reduceLeDiff, Nat.reduceMul, Nat.reduceLT, if_true, if_false, true_and, and_true, and_self, Nat.reduceBEq, QOp.loads, boxO, bslO, buildO, cutL, fillV, putL, w35, v35, decide_eq_false q0, decide_eq_false q1, decide_eq_true q2]
        have F4 := F3.step (Ext.more H3 [[.int .i64 10000000, .int .i64 10000001]])
        refine stepC.of (l1Below_ok _ _ _ (k3.ext (Ext.more _ _))) ?_
        rintro _ H5 ⟨z, rfl, z1, z2, _, g5, k5⟩
        have z3 := z2 (by omega)
        have F5 := F4.stepG g5 hm hc
        obtain ⟨u, hu⟩ := pick_lits g5 k3.lt z1 (by simpa using z3) rfl
        have R5 := F5.slt.rulesN
        have N5 := nil_ptr F5.slt h0' 0
        have FA := R5.2.2.1 2 0 h0'
        obtain ⟨K, es, F6, g, hg, G⟩ := F5.setF (j := 0) (f := 2) (n := 1) (x := ⟨l[0].src, l[0].fr, u⟩) (y := .int .i64 u) h0' rfl (by omega) rfl (by omega) rfl
        simp only [Nat.reduceMul, Nat.reduceAdd] at es FA
        simp (maxSteps := 4000000) (disch := omega) only [ah, am, Nat.reduceEqDiff, reduceCtorEq, Nat.reduceAdd, Nat.reduceLeDiff, Nat.reduceMul, Nat.reduceLT, if_true, if_false, true_and, and_true, and_self, Nat.reduceBEq, QOp.loads, boxO, bslO, buildO, cutL, fillV, putL, w35, v35, Nat.mul_one, hu, N5, FA, es]
        exact last _ F6 (curStepG k5 G (by omega)) (by simp; omega)
      · simp (maxSteps := 4000000) (disch := omega) only [ah, am, Nat.reduceEqDiff, reduceCtorEq, Nat.reduceAdd, Nat.reduceLeDiff, Nat.reduceMul, Nat.reduceLT, if_true, if_false, true_and, and_true, and_self, Nat.reduceBEq, QOp.loads, boxO, bslO, buildO, cutL, fillV, putL, w35, v35, decide_eq_false q0, decide_eq_false q1, decide_eq_false q2]
        exact last _ F3 k3 (by omega)
theorem mineG {α : Type} {a b g : Nat} {h h' : Heap} {enc : α → List Value} {sz : Nat} {v : Value} {l : List α} (m : Mine a b h enc sz v l) (e : ExtG g h h') (hd : g < a ∨ b ≤ g) : Mine a b h' enc sz v l :=
  m.chg (e.chg (Nat.le_refl g) (Nat.lt_succ_self g)) (by omega)
theorem extOfX {h H1 h' : Heap} {c : Nat} (e : Ext h H1) (x : ExtX [c] H1 h') (hc : h.size ≤ c) : Ext h h' := x.toG.ext e hc
theorem DrawMissing_ok (h : Heap) (v : Value) (code : List Int) (s : SlT h encByte 1 v code) (hl : code.length ≤ 4096) :
    ACall Try.prog 18 [v] h fun r h' => ∃ av bv a b, r = .tuple #[av, bv] ∧ Ext h h' ∧ SlT h' encReel 3 av a ∧ SlT h' encReel 3 bv b ∧ a.length ≤ 301 ∧ b.length ≤ 602 := by
  refine ACall.of Try.func18 s18 (of_decide_eq_true rfl) ?_
  simp (maxSteps := 4000000) (disch := omega) only [ah, am, Nat.reduceEqDiff, reduceCtorEq, Nat.reduceAdd, Nat.reduceLeDiff, Nat.reduceMul, Nat.reduceLT, if_true, if_false, true_and, and_true, and_self, Nat.reduceBEq, QOp.loads, boxO, bslO, buildO, cutL, fillV, putL, w18, v18]
  refine stepC.of (l1New_ok _ _ _ s hl) ?_
  rintro _ H1 ⟨e1, rfl, kc⟩
  have hc := kc.lt
  obtain ⟨c, hcc⟩ : ∃ c, c = h.size := ⟨_, rfl⟩
  rw [← hcc] at kc hc ⊢
  simp (maxSteps := 4000000) (disch := omega) only [ah, am, Nat.reduceEqDiff, reduceCtorEq, Nat.reduceAdd, Nat.reduceLeDiff, Nat.reduceMul, Nat.reduceLT, if_true, if_false, true_and, and_true, and_self, Nat.reduceBEq, QOp.loads, boxO, bslO, buildO, cutL, fillV, putL, w18, v18]
  refine stepC.of (l7DrawReels_ok _ _ kc) ?_
  rintro av H2 ⟨a, F2, k2, la⟩
  have E2 := extOfX e1 F2.ext (by omega)
  have Ma := F2.mine
  have hs1 := F2.ext.1
  simp (maxSteps := 4000000) (disch := omega) only [ah, am, Nat.reduceEqDiff, reduceCtorEq, Nat.reduceAdd, Nat.reduceLeDiff, Nat.reduceMul, Nat.reduceLT, if_true, if_false, true_and, and_true, and_self, Nat.reduceBEq, QOp.loads, boxO, bslO, buildO, cutL, fillV, putL, w18, v18]
  refine stepC.of (l7DrawReels_ok _ _ k2) ?_
  rintro bv H3 ⟨b, F3, k3, lb⟩
  have Ma := mineG Ma F3.ext.toG (by omega)
  have E3 := extOfX E2 F3.ext (by omega)
  simp (maxSteps := 4000000) (disch := omega) only [ah, am, Nat.reduceEqDiff, reduceCtorEq, Nat.reduceAdd, Nat.reduceLeDiff, Nat.reduceMul, Nat.reduceLT, if_true, if_false, true_and, and_true, and_self, Nat.reduceBEq, QOp.loads, boxO, bslO, buildO, cutL, fillV, putL, w18, v18]
  refine stepC.of (l1Once_ok _ _ _ k3) ?_
  rintro _ H4 ⟨q, rfl, g4, k4⟩
  have Ma := mineG Ma g4 (by omega)
  have F4 := F3.stepG g4 (by simp) k2.lt
  have E4 := g4.ext E3 (by omega)
  cases q with
  | false =>
    simp (maxSteps := 4000000) (disch := omega) only [ah, am, Nat.reduceEqDiff, reduceCtorEq, Nat.reduceAdd, Nat.reduceLeDiff, Nat.reduceMul, Nat.reduceLT, if_true, if_false, true_and, and_true, and_self, Nat.reduceBEq, QOp.loads, boxO, bslO, buildO, cutL, fillV, putL, w18, v18]
    exact ⟨av, bv, a, b, rfl, E4, Ma.slt, F4.slt, la, by omega⟩
  | true =>
    obtain ⟨v2, H5, ea, F5, g, hg, G⟩ := F4.appg Ma.slt (bytes := 24) (by omega)
    simp (maxSteps := 4000000) (disch := omega) only [ah, am, Nat.reduceEqDiff, reduceCtorEq, Nat.reduceAdd, Nat.reduceLeDiff, Nat.reduceMul, Nat.reduceLT, if_true, if_false, true_and, and_true, and_self, Nat.reduceBEq, QOp.loads, boxO, bslO, buildO, cutL, fillV, putL, w18, v18, ea]
    have hs := E2.1
    exact ⟨av, v2, a, b ++ a, rfl, G.ext E4 (by omega), (mineG Ma G (by omega)).slt, F5.slt, la, by simp; omega⟩
end Go.Proofs.Ytmippcfdakjhfaa
