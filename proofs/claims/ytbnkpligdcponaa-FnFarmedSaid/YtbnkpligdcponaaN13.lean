import Derived.Test.YtbnkpligdcponaaN9
import Derived.Test.YtbnkpligdcponaaN11
import Derived.Test.YtbnkpligdcponaaN12
namespace Go.Proofs.Ytbnkpligdcponaa
open Go Go.Ah
set_option linter.unusedSimpArgs false
set_option linter.unusedVariables false
set_option maxRecDepth 10000
set_option maxHeartbeats 4000000
/-! 24 loop.example/g00066/impl.Span: parameters 1, live [0], slots [0:runs, 1:runs, 3:out, 4:_, 5:r] -/
def c24_0 : List SOper := [⟨some 2, .q (.mv (.c (.int .i64 0))), none⟩]
def c24_1 : List SOper := [⟨some 6, .q (.mv (.t 0)), none⟩, ⟨some 7, .q (.len (.t 6)), none⟩, ⟨some 8, .q (.bin .eql (.t 7) (.c (.int .i64 0))), none⟩, ⟨some 9, .q (.mv (.t 8)), none⟩, ⟨some 10, .q (.mv (.t 0)), some (9, false)⟩, ⟨some 11, .q (.len (.t 10)), some (9, false)⟩, ⟨some 12, .q (.bin .gtr (.t 11) (.c (.int .i64 200))), some (9, false)⟩, ⟨some 13, .q (.pick (.t 9) (.c (.bool true)) (.t 12)), none⟩]
def c24_2 : List SOper := [⟨some 2, .q (.mv (.c (.int .i64 0))), none⟩]
def c24_3 : SCode := .seq (.region c24_2 [2]) .ret
def c24_4 : SCode := .cond (.t 13) c24_3 .skip
def c24_5 : SCode := .seq (.region c24_1 [0, 13]) c24_4
def c24_6 : List SOper := [⟨some 14, .q (.mv (.t 0)), none⟩, ⟨some 15, .q (.ia 4 (.t 14) (.c (.int .i64 0))), none⟩, ⟨some 16, .q (.fa 3 (.t 15)), none⟩, ⟨some 17, .q (.ld (.t 16)), none⟩, ⟨some 3, .q (.mv (.t 17)), none⟩]
def c24_7 : List SOper := [⟨some 18, .q (.mv (.t 0)), none⟩, ⟨some 19, .q (.len (.t 18)), none⟩, ⟨some 20, .q (.mv (.c (.int .i64 0))), none⟩]
def c24_8 : List SOper := [⟨some 21, .q (.bin .lss (.t 20) (.t 19)), none⟩]
def c24_9 : SCode := .cond (.t 21) .skip (.exit 0)
def c24_10 : List SOper := [⟨some 22, .q (.ia 4 (.t 18) (.t 20)), none⟩, ⟨some 23, .q (.ldn 4 (.t 22)), none⟩, ⟨some 5, .a (.new [(.int .i64 0), (.int .i64 0), (.int .i64 0), (.int .i64 0)]), none⟩, ⟨none, .e (.st 4 (.t 5) (.t 23)), none⟩]
def c24_11 : List SOper := [⟨some 24, .q (.mv (.t 3)), none⟩, ⟨some 25, .q (.fa 3 (.t 5)), none⟩, ⟨some 26, .q (.ld (.t 25)), none⟩, ⟨some 27, .q (.mx (.t 24) (.t 26)), none⟩, ⟨some 3, .q (.mv (.t 27)), none⟩]
def c24_12 : SCode := .seq (.region c24_10 [3, 5, 18, 19, 20]) (.region c24_11 [3, 18, 19, 20])
def c24_13 : SCode := .block 1 c24_12
def c24_14 : List SOper := [⟨some 28, .q (.bin .add (.t 20) (.c (.int .i64 1))), none⟩, ⟨some 20, .q (.mv (.t 28)), none⟩]
def c24_15 : SCode := .seq c24_13 (.region c24_14 [3, 18, 19, 20])
def c24_16 : SCode := .seq c24_9 c24_15
def c24_17 : SCode := .seq (.region c24_8 [3, 18, 19, 20, 21]) c24_16
def c24_18 : SCode := .loop c24_17
def c24_19 : SCode := .block 0 c24_18
def c24_20 : SCode := .seq (.region c24_7 [3, 18, 19, 20]) c24_19
def c24_21 : List SOper := [⟨some 29, .q (.mv (.t 3)), none⟩, ⟨some 2, .q (.mv (.t 29)), none⟩]
def c24_22 : SCode := .seq (.region c24_21 [2]) .ret
def c24_23 : SCode := .seq c24_20 c24_22
def c24_24 : SCode := .seq (.region c24_6 [0, 3]) c24_23
def c24_25 : SCode := .seq c24_5 c24_24
def c24_26 : SCode := .seq (.region c24_0 [0]) c24_25
def c24 : SCode := c24_26
theorem w24 : type_of% (And.intro (uR Try.prog c24_0.eq_1) (And.intro (uR Try.prog c24_1.eq_1) (And.intro (uR Try.prog c24_2.eq_1) (And.intro (uC Try.prog c24_3.eq_1) (And.intro (uC Try.prog c24_4.eq_1) (And.intro (uC Try.prog c24_5.eq_1) (And.intro (uR Try.prog c24_6.eq_1) (And.intro (uR Try.prog c24_7.eq_1) (And.intro (uR Try.prog c24_8.eq_1) (And.intro (uC Try.prog c24_9.eq_1) (And.intro (uR Try.prog c24_10.eq_1) (And.intro (uR Try.prog c24_11.eq_1) (And.intro (uC Try.prog c24_12.eq_1) (And.intro (uC Try.prog c24_13.eq_1) (And.intro (uR Try.prog c24_14.eq_1) (And.intro (uC Try.prog c24_15.eq_1) (And.intro (uC Try.prog c24_16.eq_1) (And.intro (uC Try.prog c24_17.eq_1) (And.intro (uC Try.prog c24_18.eq_1) (And.intro (uC Try.prog c24_19.eq_1) (And.intro (uC Try.prog c24_20.eq_1) (And.intro (uR Try.prog c24_21.eq_1) (And.intro (uC Try.prog c24_22.eq_1) (And.intro (uC Try.prog c24_23.eq_1) (And.intro (uC Try.prog c24_24.eq_1) (And.intro (uC Try.prog c24_25.eq_1) (And.intro (uC Try.prog c24_26.eq_1) (uC Try.prog c24.eq_1)))))))))))))))))))))))))))) := (And.intro (uR Try.prog c24_0.eq_1) (And.intro (uR Try.prog c24_1.eq_1) (And.intro (uR Try.prog c24_2.eq_1) (And.intro (uC Try.prog c24_3.eq_1) (And.intro (uC Try.prog c24_4.eq_1) (And.intro (uC Try.prog c24_5.eq_1) (And.intro (uR Try.prog c24_6.eq_1) (And.intro (uR Try.prog c24_7.eq_1) (And.intro (uR Try.prog c24_8.eq_1) (And.intro (uC Try.prog c24_9.eq_1) (And.intro (uR Try.prog c24_10.eq_1) (And.intro (uR Try.prog c24_11.eq_1) (And.intro (uC Try.prog c24_12.eq_1) (And.intro (uC Try.prog c24_13.eq_1) (And.intro (uR Try.prog c24_14.eq_1) (And.intro (uC Try.prog c24_15.eq_1) (And.intro (uC Try.prog c24_16.eq_1) (And.intro (uC Try.prog c24_17.eq_1) (And.intro (uC Try.prog c24_18.eq_1) (And.intro (uC Try.prog c24_19.eq_1) (And.intro (uC Try.prog c24_20.eq_1) (And.intro (uR Try.prog c24_21.eq_1) (And.intro (uC Try.prog c24_22.eq_1) (And.intro (uC Try.prog c24_23.eq_1) (And.intro (uC Try.prog c24_24.eq_1) (And.intro (uC Try.prog c24_25.eq_1) (And.intro (uC Try.prog c24_26.eq_1) (uC Try.prog c24.eq_1))))))))))))))))))))))))))))
def v24 : List RV := [.t 2]
theorem s24 : slimF Try.prog Try.f24 = some (c24.bare, v24) := by kernel_rfl
/-! 25 loop.example/g00066/impl.Critical: parameters 1, live [0], slots [0:job, 1:job, 3:ways, 4:most, 5:_, 6:t, 7:ahead, 8:_, 9:n] -/
def c25_0 : List SOper := [⟨some 2, .q (.mv (.c (.int .i64 0))), none⟩]
def c25_1 : List SOper := [⟨some 10, .q (.mv (.t 0)), none⟩, ⟨some 11, .e (.call 36 [(.t 10)]), none⟩, ⟨some 12, .q (.not (.t 11)), none⟩]
def c25_2 : List SOper := [⟨some 2, .q (.mv (.c (.int .i64 (-1)))), none⟩]
def c25_3 : SCode := .seq (.region c25_2 [2]) .ret
def c25_4 : SCode := .cond (.t 12) c25_3 .skip
def c25_5 : SCode := .seq (.region c25_1 [0, 12]) c25_4
def c25_6 : List SOper := [⟨some 13, .a (.bsl 0 1 [] []), none⟩, ⟨some 3, .q (.mv (.t 13)), none⟩, ⟨some 4, .q (.mv (.c (.int .i64 0))), none⟩]
def c25_7 : List SOper := [⟨some 14, .q (.mv (.t 0)), none⟩, ⟨some 15, .q (.len (.t 14)), none⟩, ⟨some 16, .q (.mv (.c (.int .i64 0))), none⟩]
def c25_8 : List SOper := [⟨some 17, .q (.bin .lss (.t 16) (.t 15)), none⟩]
def c25_9 : SCode := .cond (.t 17) .skip (.exit 0)
def c25_10 : List SOper := [⟨some 18, .q (.ia 4 (.t 14) (.t 16)), none⟩, ⟨some 19, .q (.ldn 4 (.t 18)), none⟩, ⟨some 6, .a (.new [(.int .i64 0), (.int .i64 0), (.slice none 0 0), (.int .i64 0)]), none⟩, ⟨none, .e (.st 4 (.t 6) (.t 19)), none⟩]
def c25_11 : List SOper := [⟨some 7, .q (.mv (.c (.int .i64 0))), none⟩]
def c25_12 : List SOper := [⟨some 20, .q (.fa 2 (.t 6)), none⟩, ⟨some 21, .q (.ld (.t 20)), none⟩, ⟨some 22, .q (.len (.t 21)), none⟩, ⟨some 23, .q (.mv (.c (.int .i64 0))), none⟩]
def c25_13 : List SOper := [⟨some 24, .q (.bin .lss (.t 23) (.t 22)), none⟩]
def c25_14 : SCode := .cond (.t 24) .skip (.exit 2)
def c25_15 : List SOper := [⟨some 25, .q (.ia 1 (.t 21) (.t 23)), none⟩, ⟨some 26, .q (.ld (.t 25)), none⟩, ⟨some 9, .q (.mv (.t 26)), none⟩]
def c25_16 : List SOper := [⟨some 27, .q (.mv (.t 7)), none⟩, ⟨some 28, .q (.mv (.t 3)), none⟩, ⟨some 29, .q (.mv (.t 9)), none⟩, ⟨some 30, .q (.ia 1 (.t 28) (.t 29)), none⟩, ⟨some 31, .q (.ld (.t 30)), none⟩, ⟨some 32, .q (.mx (.t 27) (.t 31)), none⟩, ⟨some 7, .q (.mv (.t 32)), none⟩]
def c25_17 : SCode := .seq (.region c25_15 [3, 4, 6, 7, 9, 14, 15, 16, 21, 22, 23]) (.region c25_16 [3, 4, 6, 7, 14, 15, 16, 21, 22, 23])
def c25_18 : SCode := .block 3 c25_17
def c25_19 : List SOper := [⟨some 33, .q (.bin .add (.t 23) (.c (.int .i64 1))), none⟩, ⟨some 23, .q (.mv (.t 33)), none⟩]
def c25_20 : SCode := .seq c25_18 (.region c25_19 [3, 4, 6, 7, 14, 15, 16, 21, 22, 23])
def c25_21 : SCode := .seq c25_14 c25_20
def c25_22 : SCode := .seq (.region c25_13 [3, 4, 6, 7, 14, 15, 16, 21, 22, 23, 24]) c25_21
def c25_23 : SCode := .loop c25_22
def c25_24 : SCode := .block 2 c25_23
def c25_25 : SCode := .seq (.region c25_12 [3, 4, 6, 7, 14, 15, 16, 21, 22, 23]) c25_24
def c25_26 : List SOper := [⟨some 34, .q (.mv (.t 3)), none⟩, ⟨some 35, .q (.mv (.t 7)), none⟩, ⟨some 36, .q (.fa 3 (.t 6)), none⟩, ⟨some 37, .q (.ld (.t 36)), none⟩, ⟨some 38, .q (.bin .add (.t 35) (.t 37)), none⟩, ⟨some 39, .a (.bsl 1 1 [(.int .i64 0)] [(0, 1, (.t 38))]), none⟩, ⟨some 40, .e (.app 8 1 (.t 34) (.t 39)), none⟩, ⟨some 3, .q (.mv (.t 40)), none⟩]
def c25_27 : List SOper := [⟨some 41, .q (.mv (.t 4)), none⟩, ⟨some 42, .q (.mv (.t 7)), none⟩, ⟨some 43, .q (.fa 3 (.t 6)), none⟩, ⟨some 44, .q (.ld (.t 43)), none⟩, ⟨some 45, .q (.bin .add (.t 42) (.t 44)), none⟩, ⟨some 46, .q (.mx (.t 41) (.t 45)), none⟩, ⟨some 4, .q (.mv (.t 46)), none⟩]
def c25_28 : SCode := .seq (.region c25_26 [3, 4, 6, 7, 14, 15, 16]) (.region c25_27 [3, 4, 14, 15, 16])
def c25_29 : SCode := .seq c25_25 c25_28
def c25_30 : SCode := .seq (.region c25_11 [3, 4, 6, 7, 14, 15, 16]) c25_29
def c25_31 : SCode := .seq (.region c25_10 [3, 4, 6, 14, 15, 16]) c25_30
def c25_32 : SCode := .block 1 c25_31
def c25_33 : List SOper := [⟨some 47, .q (.bin .add (.t 16) (.c (.int .i64 1))), none⟩, ⟨some 16, .q (.mv (.t 47)), none⟩]
def c25_34 : SCode := .seq c25_32 (.region c25_33 [3, 4, 14, 15, 16])
def c25_35 : SCode := .seq c25_9 c25_34
def c25_36 : SCode := .seq (.region c25_8 [3, 4, 14, 15, 16, 17]) c25_35
def c25_37 : SCode := .loop c25_36
def c25_38 : SCode := .block 0 c25_37
def c25_39 : SCode := .seq (.region c25_7 [3, 4, 14, 15, 16]) c25_38
def c25_40 : List SOper := [⟨some 48, .q (.mv (.t 4)), none⟩, ⟨some 2, .q (.mv (.t 48)), none⟩]
def c25_41 : SCode := .seq (.region c25_40 [2]) .ret
def c25_42 : SCode := .seq c25_39 c25_41
def c25_43 : SCode := .seq (.region c25_6 [0, 3, 4]) c25_42
def c25_44 : SCode := .seq c25_5 c25_43
def c25_45 : SCode := .seq (.region c25_0 [0]) c25_44
def c25 : SCode := c25_45
theorem w25 : type_of% (And.intro (uR Try.prog c25_0.eq_1) (And.intro (uR Try.prog c25_1.eq_1) (And.intro (uR Try.prog c25_2.eq_1) (And.intro (uC Try.prog c25_3.eq_1) (And.intro (uC Try.prog c25_4.eq_1) (And.intro (uC Try.prog c25_5.eq_1) (And.intro (uR Try.prog c25_6.eq_1) (And.intro (uR Try.prog c25_7.eq_1) (And.intro (uR Try.prog c25_8.eq_1) (And.intro (uC Try.prog c25_9.eq_1) (And.intro (uR Try.prog c25_10.eq_1) (And.intro (uR Try.prog c25_11.eq_1) (And.intro (uR Try.prog c25_12.eq_1) (And.intro (uR Try.prog c25_13.eq_1) (And.intro (uC Try.prog c25_14.eq_1) (And.intro (uR Try.prog c25_15.eq_1) (And.intro (uR Try.prog c25_16.eq_1) (And.intro (uC Try.prog c25_17.eq_1) (And.intro (uC Try.prog c25_18.eq_1) (And.intro (uR Try.prog c25_19.eq_1) (And.intro (uC Try.prog c25_20.eq_1) (And.intro (uC Try.prog c25_21.eq_1) (And.intro (uC Try.prog c25_22.eq_1) (And.intro (uC Try.prog c25_23.eq_1) (And.intro (uC Try.prog c25_24.eq_1) (And.intro (uC Try.prog c25_25.eq_1) (And.intro (uR Try.prog c25_26.eq_1) (And.intro (uR Try.prog c25_27.eq_1) (And.intro (uC Try.prog c25_28.eq_1) (And.intro (uC Try.prog c25_29.eq_1) (And.intro (uC Try.prog c25_30.eq_1) (And.intro (uC Try.prog c25_31.eq_1) (And.intro (uC Try.prog c25_32.eq_1) (And.intro (uR Try.prog c25_33.eq_1) (And.intro (uC Try.prog c25_34.eq_1) (And.intro (uC Try.prog c25_35.eq_1) (And.intro (uC Try.prog c25_36.eq_1) (And.intro (uC Try.prog c25_37.eq_1) (And.intro (uC Try.prog c25_38.eq_1) (And.intro (uC Try.prog c25_39.eq_1) (And.intro (uR Try.prog c25_40.eq_1) (And.intro (uC Try.prog c25_41.eq_1) (And.intro (uC Try.prog c25_42.eq_1) (And.intro (uC Try.prog c25_43.eq_1) (And.intro (uC Try.prog c25_44.eq_1) (And.intro (uC Try.prog c25_45.eq_1) (uC Try.prog c25.eq_1))))))))))))))))))))))))))))))))))))))))))))))) := (And.intro (uR Try.prog c25_0.eq_1) (And.intro (uR Try.prog c25_1.eq_1) (And.intro (uR Try.prog c25_2.eq_1) (And.intro (uC Try.prog c25_3.eq_1) (And.intro (uC Try.prog c25_4.eq_1) (And.intro (uC Try.prog c25_5.eq_1) (And.intro (uR Try.prog c25_6.eq_1) (And.intro (uR Try.prog c25_7.eq_1) (And.intro (uR Try.prog c25_8.eq_1) (And.intro (uC Try.prog c25_9.eq_1) (And.intro (uR Try.prog c25_10.eq_1) (And.intro (uR Try.prog c25_11.eq_1) (And.intro (uR Try.prog c25_12.eq_1) (And.intro (uR Try.prog c25_13.eq_1) (And.intro (uC Try.prog c25_14.eq_1) (And.intro (uR Try.prog c25_15.eq_1) (And.intro (uR Try.prog c25_16.eq_1) (And.intro (uC Try.prog c25_17.eq_1) (And.intro (uC Try.prog c25_18.eq_1) (And.intro (uR Try.prog c25_19.eq_1) (And.intro (uC Try.prog c25_20.eq_1) (And.intro (uC Try.prog c25_21.eq_1) (And.intro (uC Try.prog c25_22.eq_1) (And.intro (uC Try.prog c25_23.eq_1) (And.intro (uC Try.prog c25_24.eq_1) (And.intro (uC Try.prog c25_25.eq_1) (And.intro (uR Try.prog c25_26.eq_1) (And.intro (uR Try.prog c25_27.eq_1) (And.intro (uC Try.prog c25_28.eq_1) (And.intro (uC Try.prog c25_29.eq_1) (And.intro (uC Try.prog c25_30.eq_1) (And.intro (uC Try.prog c25_31.eq_1) (And.intro (uC Try.prog c25_32.eq_1) (And.intro (uR Try.prog c25_33.eq_1) (And.intro (uC Try.prog c25_34.eq_1) (And.intro (uC Try.prog c25_35.eq_1) (And.intro (uC Try.prog c25_36.eq_1) (And.intro (uC Try.prog c25_37.eq_1) (And.intro (uC Try.prog c25_38.eq_1) (And.intro (uC Try.prog c25_39.eq_1) (And.intro (uR Try.prog c25_40.eq_1) (And.intro (uC Try.prog c25_41.eq_1) (And.intro (uC Try.prog c25_42.eq_1) (And.intro (uC Try.prog c25_43.eq_1) (And.intro (uC Try.prog c25_44.eq_1) (And.intro (uC Try.prog c25_45.eq_1) (uC Try.prog c25.eq_1)))))))))))))))))))))))))))))))))))))))))))))))
def v25 : List RV := [.t 2]
theorem s25 : slimF Try.prog Try.f25 = some (c25.bare, v25) := by kernel_rfl
/-! 21 loop.example/g00066/spec.DrawFarm: parameters 1, live [0], slots [0:code, 1:code, 4:c, 5:n] -/
def c21_0 : List SOper := [⟨some 2, .q (.mv (.c (.slice none 0 0))), none⟩, ⟨some 3, .q (.mv (.c (.int .i64 0))), none⟩]
def c21_1 : List SOper := [⟨some 6, .q (.mv (.t 0)), none⟩, ⟨some 7, .e (.call 45 [(.t 6)]), none⟩, ⟨some 4, .q (.mv (.t 7)), none⟩]
def c21_2 : List SOper := [⟨some 8, .q (.mv (.t 4)), none⟩, ⟨some 9, .e (.call 46 [(.t 8), (.c (.int .i64 4))]), none⟩, ⟨some 10, .q (.bin .add (.c (.int .i64 1)) (.t 9)), none⟩, ⟨some 5, .q (.mv (.t 10)), none⟩]
def c21_3 : List SOper := [⟨some 11, .q (.mv (.t 4)), none⟩, ⟨some 12, .e (.call 47 [(.t 11), (.c (.int .i64 14))]), none⟩]
def c21_4 : List SOper := [⟨some 13, .a (.bsl 4 1 [(.int .i64 0), (.int .i64 0), (.int .i64 0), (.int .i64 0)] [(0, 1, (.c (.int .i64 0))), (1, 1, (.c (.int .i64 50))), (2, 1, (.c (.int .i64 51))), (3, 1, (.c (.int .i64 (-1))))]), none⟩, ⟨some 14, .q (.mv (.t 4)), none⟩, ⟨some 15, .e (.call 46 [(.t 14), (.c (.int .i64 4))]), none⟩, ⟨some 16, .q (.ia 1 (.t 13) (.t 15)), none⟩, ⟨some 17, .q (.ld (.t 16)), none⟩, ⟨some 5, .q (.mv (.t 17)), none⟩]
def c21_5 : SCode := .cond (.t 12) (.region c21_4 [4, 5]) .skip
def c21_6 : SCode := .seq (.region c21_3 [4, 5, 12]) c21_5
def c21_7 : List SOper := [⟨some 18, .q (.mv (.t 4)), none⟩, ⟨some 19, .e (.call 48 [(.t 18)]), none⟩, ⟨some 20, .q (.mv (.t 5)), none⟩, ⟨some 2, .q (.mv (.t 19)), none⟩, ⟨some 3, .q (.mv (.t 20)), none⟩]
def c21_8 : SCode := .seq (.region c21_7 [2, 3]) .ret
def c21_9 : SCode := .seq c21_6 c21_8
def c21_10 : SCode := .seq (.region c21_2 [4, 5]) c21_9
def c21_11 : SCode := .seq (.region c21_1 [4]) c21_10
def c21_12 : SCode := .seq (.region c21_0 [0]) c21_11
def c21 : SCode := c21_12
theorem w21 : type_of% (And.intro (uR Try.prog c21_0.eq_1) (And.intro (uR Try.prog c21_1.eq_1) (And.intro (uR Try.prog c21_2.eq_1) (And.intro (uR Try.prog c21_3.eq_1) (And.intro (uR Try.prog c21_4.eq_1) (And.intro (uC Try.prog c21_5.eq_1) (And.intro (uC Try.prog c21_6.eq_1) (And.intro (uR Try.prog c21_7.eq_1) (And.intro (uC Try.prog c21_8.eq_1) (And.intro (uC Try.prog c21_9.eq_1) (And.intro (uC Try.prog c21_10.eq_1) (And.intro (uC Try.prog c21_11.eq_1) (And.intro (uC Try.prog c21_12.eq_1) (uC Try.prog c21.eq_1)))))))))))))) := (And.intro (uR Try.prog c21_0.eq_1) (And.intro (uR Try.prog c21_1.eq_1) (And.intro (uR Try.prog c21_2.eq_1) (And.intro (uR Try.prog c21_3.eq_1) (And.intro (uR Try.prog c21_4.eq_1) (And.intro (uC Try.prog c21_5.eq_1) (And.intro (uC Try.prog c21_6.eq_1) (And.intro (uR Try.prog c21_7.eq_1) (And.intro (uC Try.prog c21_8.eq_1) (And.intro (uC Try.prog c21_9.eq_1) (And.intro (uC Try.prog c21_10.eq_1) (And.intro (uC Try.prog c21_11.eq_1) (And.intro (uC Try.prog c21_12.eq_1) (uC Try.prog c21.eq_1))))))))))))))
def v21 : List RV := [.t 2, .t 3]
theorem s21 : slimF Try.prog Try.f21 = some (c21.bare, v21) := by kernel_rfl

theorem Span_ok (h : Heap) (v : Value) (L : List Run) (s : SlT h encRun 4 v L) (hl : L.length ≤ 1000000) : ACall Try.prog 24 [v] h fun r h' => Ext h h' ∧ r = .int .i64 (spanF L) := by
  refine ACall.of Try.func24 s24 (of_decide_eq_true rfl) ?_
  have R := s.rulesN
  unfold spanF
  by_cases c0 : L.length = 0
  · have e0 : decide ((L.length : Int) = 0) = true := decide_eq_true (by omega)
    simp (maxSteps := 4000000) (disch := omega) only [ah, am, Nat.reduceEqDiff, reduceCtorEq, Nat.reduceAdd, Nat.reduceLeDiff, Nat.reduceMul, Nat.reduceLT, if_true, if_false, true_and, and_true, and_self, Nat.reduceBEq, QOp.loads, boxO, bslO, buildO, cutL, fillV, putL, w24, v24, R.1, e0]
    rw [if_pos (.inl c0)]; exact ⟨Ext.refl h, rfl⟩
  have e0 : decide ((L.length : Int) = 0) = false := decide_eq_false (by omega)
  by_cases c1 : (200 : Int) < L.length
  · simp (maxSteps := 4000000) (disch := omega) only [ah, am, Nat.reduceEqDiff, reduceCtorEq, Nat.reduceAdd, Nat.reduceLeDiff, Nat.reduceMul, Nat.reduceLT, if_true, if_false, true_and, and_true, and_self, Nat.reduceBEq, QOp.loads, boxO, bslO, buildO, cutL, fillV, putL, w24, v24, R.1, e0, decide_eq_true c1]
    rw [if_pos (.inr (by omega))]; exact ⟨Ext.refl h, rfl⟩
  rw [if_neg (by omega)]
  have h0 : 0 < L.length := by omega
  have A0 : iaV 4 v (.int .i64 0) = some (ptrAt v 0) := R.2.1 .i64 0 h0
  have FA := R.2.2.1 3 0 h0
  have L3 : ldV h (ptrAt v 3) = some (.int .i64 (L[0]'h0).to) := R.2.2.2.1 0 3 h0 (by omega)
  rw [show (L[0]?.map (·.to)).getD 0 = (L[0]'h0).to by simp [List.getElem?_eq_getElem h0]]
  simp only [Nat.zero_add] at FA
  simp (maxSteps := 4000000) (disch := omega) only [ah, am, Nat.reduceEqDiff, reduceCtorEq, Nat.reduceAdd, Nat.reduceLeDiff, Nat.reduceMul, Nat.reduceLT, if_true, if_false, true_and, and_true, and_self, Nat.reduceBEq, QOp.loads, boxO, bslO, buildO, cutL, fillV, putL, w24, v24, R.1, e0, decide_eq_false c1, A0, FA, L3]
  generalize (L[0]'h0).to = a0
  refine SW_loop_up (fun i E K => Ext h K ∧ E = [(3, .int .i64 ((L.take i).foldl (fun a r => max a r.to) a0)), (18, v), (19, .int .i64 (L.length : Int)), (20, .int .i64 (i : Int))]) L.length 0 (by omega) ⟨Ext.refl h, rfl⟩ ?_
  rintro i E K hi ⟨e, rfl⟩
  have R := (s.ext e).rulesN
  have W : IntKind.i64.wrap ((i : Int) + 1) = ((i + 1 : Nat) : Int) := i64e (by omega) (by omega)
  simp (maxSteps := 4000000) (disch := omega) only [ah, am, Nat.reduceEqDiff, reduceCtorEq, Nat.reduceAdd, Nat.reduceLeDiff, Nat.reduceMul, Nat.reduceLT, if_true, if_false, true_and, and_true, and_self, Nat.reduceBEq, QOp.loads, boxO, bslO, buildO, cutL, fillV, putL, w24, v24]
  refine stepI.split (fun hp => ?_) (fun hp => ?_)
  · have hi2 : i < L.length := by omega
    obtain ⟨x, hx⟩ : ∃ x, x = L[i]'hi2 := ⟨_, rfl⟩
    have LN : ldnV K 4 (ptrAt v (i * 4)) = some (.agg (encRun x).toArray) := by rw [hx]; exact R.2.2.2.2.2 i hi2
    rw [List.take_add_one, List.getElem?_eq_getElem hi2, Option.toList_some, List.foldl_append, ← hx]
    generalize (L.take i).foldl (fun a r => max a r.to) a0 = a
    have hm : (if a < x.to then x.to else a) = max a x.to := by split <;> omega
    simp (maxSteps := 4000000) (disch := omega) only [ah, am, Nat.reduceEqDiff, reduceCtorEq, Nat.reduceAdd, Nat.reduceLeDiff, Nat.reduceMul, Nat.reduceLT, if_true, if_false, true_and, and_true, and_self, Nat.reduceBEq, QOp.loads, boxO, bslO, buildO, cutL, fillV, putL, w24, v24, R.2.1, LN, encRun, hm, W]
    exact ⟨hi2, e.trans (Ext.more _ _), rfl⟩
  · simp (maxSteps := 4000000) (disch := omega) only [ah, am, Nat.reduceEqDiff, reduceCtorEq, Nat.reduceAdd, Nat.reduceLeDiff, Nat.reduceMul, Nat.reduceLT, if_true, if_false, true_and, and_true, and_self, Nat.reduceBEq, QOp.loads, boxO, bslO, buildO, cutL, fillV, putL, w24, v24]
    have : i = L.length := by omega
    subst this
    rw [List.take_length]; exact ⟨e, rfl⟩
theorem ways_bd {job : List Task} (hj : jobIn job) : ∀ i, i ≤ job.length → ∀ x ∈ waysF (job.take i), 0 ≤ x ∧ x ≤ 1000 * (i : Int) := by
  intro i
  induction i with
  | zero => intro _ x hx; simp [waysF] at hx
  | succ i ih =>
    intro hi x hx
    rw [ways_take job (by omega)] at hx
    have h := ih (by omega)
    rcases List.mem_append.mp hx with hx | hx
    · have := h x hx; omega
    · rw [List.mem_singleton] at hx
      have hc := cost_in hj (show i < job.length by omega)
      obtain ⟨a1, _, a3⟩ := ahead_spec (waysF (job.take i)) (needsAt job i) 0
      have := a3 (1000 * (i : Int)) (by omega) (fun n hn => by
        have hb := need_in hj (show i < job.length by omega) n hn
        have hl := (ways_pre job i (by omega)).1
        exact (h _ (getD_mem0 (by omega))).2)
      unfold aheadF at hx
      omega
theorem most_take (l : List Int) {i : Nat} (hi : i < l.length) : mostF (l.take (i + 1)) = max (mostF (l.take i)) l[i] := by
  unfold mostF
  rw [List.take_add_one, List.getElem?_eq_getElem hi, Option.toList_some, List.foldl_append]; rfl
theorem most_snoc (l : List Int) (x : Int) : mostF (l ++ [x]) = max (mostF l) x := by
  unfold mostF; rw [List.foldl_append]; rfl
theorem Critical_ok (h : Heap) (v : Value) (l : List Task) (hj : JobAt h v l) (hl : l.length ≤ 1048576) : ACall Try.prog 25 [v] h fun r h' => Ext h h' ∧ r = .int .i64 (critF l) := by
  refine ACall.of Try.func25 s25 (of_decide_eq_true rfl) ?_
  simp (maxSteps := 4000000) (disch := omega) only [ah, am, Nat.reduceEqDiff, reduceCtorEq, Nat.reduceAdd, Nat.reduceLeDiff, Nat.reduceMul, Nat.reduceLT, if_true, if_false, true_and, and_true, and_self, Nat.reduceBEq, QOp.loads, boxO, bslO, buildO, cutL, fillV, putL, w25, v25]
  refine stepC.of (implJobOk_ok _ v l hj (by omega)) ?_
  rintro _ H1 ⟨e1, rfl⟩
  unfold critF
  by_cases cj : jobOk l
  rotate_left
  · rw [if_neg cj]
    simp (maxSteps := 4000000) (disch := omega) only [ah, am, Nat.reduceEqDiff, reduceCtorEq, Nat.reduceAdd, Nat.reduceLeDiff, Nat.reduceMul, Nat.reduceLT, if_true, if_false, true_and, and_true, and_self, Nat.reduceBEq, QOp.loads, boxO, bslO, buildO, cutL, fillV, putL, w25, v25, decide_eq_false cj, Bool.not_false]
    exact e1
  rw [if_pos cj]
  have hk := cj.in
  have hlen := cj.1
  obtain ⟨rs, s, hln, Hr⟩ := hj.ext e1
  have R := (s.ext (Ext.more H1 [[]])).rulesN
  simp only [hln] at R
  simp (maxSteps := 4000000) (disch := omega) only [ah, am, Nat.reduceEqDiff, reduceCtorEq, Nat.reduceAdd, Nat.reduceLeDiff, Nat.reduceMul, Nat.reduceLT, if_true, if_false, true_and, and_true, and_self, Nat.reduceBEq, QOp.loads, boxO, bslO, buildO, cutL, fillV, putL, w25, v25, decide_eq_true cj, Bool.not_true, R.1]
  refine SW_loop_up (fun i E K => ∃ ov, E = [(3, ov), (4, .int .i64 (mostF (waysF (l.take i)))), (14, v), (15, .int .i64 l.length), (16, .int .i64 i)] ∧ Fresh H1 K encI 1 ov (waysF (l.take i))) l.length 0 (by omega)
    ⟨_, rfl, Fresh.new0 H1 encI_len (by omega)⟩ ?_
  rintro i E K hi ⟨ov, rfl, F⟩
  have R := (s.ext F.1).rulesN
  simp only [hln] at R
  have W : IntKind.i64.wrap ((i : Int) + 1) = ((i + 1 : Nat) : Int) := i64e (by omega) (by omega)
  simp (maxSteps := 4000000) (disch := omega) only [ah, am, Nat.reduceEqDiff, reduceCtorEq, Nat.reduceAdd, Nat.reduceLeDiff, Nat.reduceMul, Nat.reduceLT, if_true, if_false, true_and, and_true, and_self, Nat.reduceBEq, QOp.loads, boxO, bslO, buildO, cutL, fillV, putL, w25, v25, R, W]
  refine stepI.split (fun hp => ?_) (fun hp => ?_)
  rotate_left
  · simp (maxSteps := 4000000) (disch := omega) only [ah, am, Nat.reduceEqDiff, reduceCtorEq, Nat.reduceAdd, Nat.reduceLeDiff, Nat.reduceMul, Nat.reduceLT, if_true, if_false, true_and, and_true, and_self, Nat.reduceBEq, QOp.loads, boxO, bslO, buildO, cutL, fillV, putL, w25, v25]
    obtain rfl : i = l.length := by omega
    rw [List.take_length]; exact ⟨e1.trans F.1, rfl⟩
  have hi2 : i < l.length := by omega
  have hwt := ways_take l hi2
  rw [hwt, most_snoc]
  obtain ⟨k1, k2, k3, sn⟩ := Hr i (by omega) hi2
  have sn := sn.ext F.1
  have p1 := cells_slT sn; have p2 := oneB_slT sn
  have hacc := (ways_pre l i (by omega)).1
  have hbd := ways_bd hk i (by omega)
  have hcost := cost_in hk hi2
  have hneed := need_in hk hi2
  have hnl := (hk i hi2).2.2.1
  rw [needsAt_eq hi2] at hneed ⊢
  rw [costAt_eq hi2] at hcost ⊢
  obtain ⟨acc, hacc'⟩ : ∃ acc, acc = waysF (l.take i) := ⟨_, rfl⟩
  rw [← hacc'] at F hacc hbd ⊢
  obtain ⟨t, ht⟩ : ∃ t, t = l[i] := ⟨_, rfl⟩
  rw [← ht] at k1 k2 k3 sn hcost hneed hnl ⊢
  have G := F.ext (Ext.more K [encT rs[i]])
  have Rn := (sn.ext (Ext.more K [encT rs[i]])).rulesN
  have Ro := G.slt.rulesN
  simp only [hacc] at Ro
  simp only [encT, k1, k2, k3] at Rn Ro G
  have hfold : ∀ k, 0 ≤ (t.needs.take k).foldl (fun a n => max a (acc.getD n.toNat 0)) 0 ∧ (t.needs.take k).foldl (fun a n => max a (acc.getD n.toNat 0)) 0 ≤ 1000000 := by
    intro k
    obtain ⟨a1, _, a3⟩ := ahead_spec acc (t.needs.take k) 0
    refine ⟨a1, a3 1000000 (by omega) fun n hn => ?_⟩
    have hb := hneed n (List.mem_of_mem_take hn)
    have := hbd _ (getD_mem0 (l := acc) (i := n.toNat) (by omega))
    omega
  simp (maxSteps := 4000000) (disch := omega) only [ah, am, Nat.reduceEqDiff, reduceCtorEq, Nat.reduceAdd, Nat.reduceLeDiff, Nat.reduceMul, Nat.reduceLT, if_true, if_false, true_and, and_true, and_self, Nat.reduceBEq, QOp.loads, boxO, bslO, buildO, cutL, fillV, putL, w25, v25, R, encT, p1, p2, k1, k2, k3, Rn]
  refine SW_loop_up (fun k E K' => E = [(3, ov), (4, .int .i64 (mostF acc)), (6, .pointer (some ⟨K.size, 0, none⟩)), (7, .int .i64 ((t.needs.take k).foldl (fun a n => max a (acc.getD n.toNat 0)) 0)), (14, v), (15, .int .i64 l.length), (16, .int .i64 i), (21, rs[i].nv), (22, .int .i64 t.needs.length), (23, .int .i64 k)] ∧
      K' = K.more [[.int .i64 t.kind, .int .i64 t.value, rs[i].nv, .int .i64 t.cost]]) t.needs.length 0 (by omega)
    ⟨rfl, rfl⟩ ?_
  rintro k E K' hk2 ⟨rfl, rfl⟩
  have Wk : IntKind.i64.wrap ((k : Int) + 1) = ((k + 1 : Nat) : Int) := i64e (by omega) (by omega)
  simp (maxSteps := 4000000) (disch := omega) only [ah, am, Nat.reduceEqDiff, reduceCtorEq, Nat.reduceAdd, Nat.reduceLeDiff, Nat.reduceMul, Nat.reduceLT, if_true, if_false, true_and, and_true, and_self, Nat.reduceBEq, QOp.loads, boxO, bslO, buildO, cutL, fillV, putL, w25, v25]
  refine stepI.split (fun hp => ?_) (fun hp => ?_)
  · have hk3 : k < t.needs.length := by omega
    rw [List.take_succ_eq_append_getElem hk3, List.foldl_append, List.foldl_cons, List.foldl_nil]
    generalize (t.needs.take k).foldl (fun a n => max a (acc.getD n.toNat 0)) 0 = hh
    obtain ⟨n, hn⟩ : ∃ n : Nat, t.needs[k] = (n : Int) := ⟨t.needs[k].toNat, by have := hneed _ (List.getElem_mem hk3); omega⟩
    have hni : n < i := by have := hneed _ (List.getElem_mem hk3); omega
    have hg : acc[n] = acc.getD n 0 := by simp [List.getD, List.getElem?_eq_getElem (show n < acc.length by omega)]
    have hmx : (if hh < acc.getD n 0 then acc.getD n 0 else hh) = max hh (acc.getD n 0) := by split <;> omega
    simp (maxSteps := 4000000) (disch := omega) only [ah, am, Nat.reduceEqDiff, reduceCtorEq, Nat.reduceAdd, Nat.reduceLeDiff, Nat.reduceMul, Nat.reduceLT, if_true, if_false, true_and, and_true, and_self, Nat.reduceBEq, QOp.loads, boxO, bslO, buildO, cutL, fillV, putL, w25, v25, R, Rn, Ro, encT, encI, hn, hg, hmx, Int.toNat_natCast, Wk]
    exact hk3
  · simp (maxSteps := 4000000) (disch := omega) only [ah, am, Nat.reduceEqDiff, reduceCtorEq, Nat.reduceAdd, Nat.reduceLeDiff, Nat.reduceMul, Nat.reduceLT, if_true, if_false, true_and, and_true, and_self, Nat.reduceBEq, QOp.loads, boxO, bslO, buildO, cutL, fillV, putL, w25, v25]
    obtain rfl : k = t.needs.length := by omega
    have hf := hfold t.needs.length
    rw [List.take_length] at hf ⊢
    rw [show aheadF acc t.needs = t.needs.foldl (fun a n => max a (acc.getD n.toNat 0)) 0 from rfl]
    generalize t.needs.foldl (fun a n => max a (acc.getD n.toNat 0)) 0 = hh at hf ⊢
    obtain ⟨v2, K3, ea, F3, X⟩ := F.app1k [[.int .i64 t.kind, .int .i64 t.value, rs[i].nv, .int .i64 t.cost]] (hh + t.cost) (bytes := 8) (by omega)
    have X := (X 0 _ rfl)
    simp only [encI, List.cons_append, List.nil_append, List.length_cons, List.length_nil, Nat.zero_add, Nat.add_zero] at ea X
    have Wc : IntKind.i64.wrap (hh + t.cost) = hh + t.cost := i64w (by omega)
    have hmx : (if mostF acc < hh + t.cost then hh + t.cost else mostF acc) = max (mostF acc) (hh + t.cost) := by split <;> omega
    simp (maxSteps := 4000000) (disch := omega) only [ah, am, Nat.reduceEqDiff, reduceCtorEq, Nat.reduceAdd, Nat.reduceLeDiff, Nat.reduceMul, Nat.reduceLT, if_true, if_false, true_and, and_true, and_self, Nat.reduceBEq, QOp.loads, boxO, bslO, buildO, cutL, fillV, putL, w25, v25, Wc, ea, X, hmx, W]
    exact ⟨hi2, v2, rfl, F3⟩
theorem DrawFarm_ok (h : Heap) (v : Value) (code : List Int) (s : SlT h encByte 1 v code) (hl : code.length ≤ 4096) :
    ACall Try.prog 21 [v] h fun r h' => ∃ jv w l, r = .tuple #[jv, .int .i64 w] ∧ Ext h h' ∧ JobAt h' jv l ∧ l.length ≤ 300 := by
  refine ACall.of Try.func21 s21 (of_decide_eq_true rfl) ?_
  simp (maxSteps := 4000000) (disch := omega) only [ah, am, Nat.reduceEqDiff, reduceCtorEq, Nat.reduceAdd, Nat.reduceLeDiff, Nat.reduceMul, Nat.reduceLT, if_true, if_false, true_and, and_true, and_self, Nat.reduceBEq, QOp.loads, boxO, bslO, buildO, cutL, fillV, putL, w21, v21]
  refine stepC.of (l1New_ok _ _ _ s hl) ?_
  rintro _ H1 ⟨e1, rfl, kc⟩
  have hc := kc.lt
  obtain ⟨c, hcc⟩ : ∃ c, c = h.size := ⟨_, rfl⟩
  rw [← hcc] at kc hc ⊢
  simp (maxSteps := 4000000) (disch := omega) only [ah, am, Nat.reduceEqDiff, reduceCtorEq, Nat.reduceAdd, Nat.reduceLeDiff, Nat.reduceMul, Nat.reduceLT, if_true, if_false, true_and, and_true, and_self, Nat.reduceBEq, QOp.loads, boxO, bslO, buildO, cutL, fillV, putL, w21, v21]
  refine stepC.of (l1Below_ok _ _ _ kc) ?_
  rintro _ H2 ⟨n, rfl, n1, n2, _, g2, k2⟩
  have n3 := n2 (by omega)
  have E2 : Ext h H2 := g2.ext e1 (by omega)
  simp (maxSteps := 4000000) (disch := omega) only [ah, am, Nat.reduceEqDiff, reduceCtorEq, Nat.reduceAdd, Nat.reduceLeDiff, Nat.reduceMul, Nat.reduceLT, if_true, if_false, true_and, and_true, and_self, Nat.reduceBEq, QOp.loads, boxO, bslO, buildO, cutL, fillV, putL, w21, v21, i64w]
  refine stepC.of (l1Once_ok _ _ _ k2) ?_
  rintro _ H3 ⟨b, rfl, g3, k3⟩
  have E3 : Ext h H3 := g3.ext E2 (by omega)
  cases b with
  | false =>
    simp (maxSteps := 4000000) (disch := omega) only [ah, am, Nat.reduceEqDiff, reduceCtorEq, Nat.reduceAdd, Nat.reduceLeDiff, Nat.reduceMul, Nat.reduceLT, if_true, if_false, true_and, and_true, and_self, Nat.reduceBEq, QOp.loads, boxO, bslO, buildO, cutL, fillV, putL, w21, v21]
    refine stepC.of (l16DrawJob_ok _ _ k3) ?_
    rintro jv H4 ⟨l, X4, k4, J, hll⟩
    simp (maxSteps := 4000000) (disch := omega) only [ah, am, Nat.reduceEqDiff, reduceCtorEq, Nat.reduceAdd, Nat.reduceLeDiff, Nat.reduceMul, Nat.reduceLT, if_true, if_false, true_and, and_true, and_self, Nat.reduceBEq, QOp.loads, boxO, bslO, buildO, cutL, fillV, putL, w21, v21]
    exact ⟨jv, _, l, rfl, ext_ofX E3 X4 (by omega), J.at, hll⟩
  | true =>
    simp (maxSteps := 4000000) (disch := omega) only [ah, am, Nat.reduceEqDiff, reduceCtorEq, Nat.reduceAdd, Nat.reduceLeDiff, Nat.reduceMul, Nat.reduceLT, if_true, if_false, true_and, and_true, and_self, Nat.reduceBEq, QOp.loads, boxO, bslO, buildO, cutL, fillV, putL, w21, v21]
    refine stepC.of (l1Below_ok _ _ _ (k3.ext (Ext.more _ _))) ?_
    rintro _ H4 ⟨z, rfl, z1, z2, _, g4, k4⟩
    have z3 := z2 (by omega)
    have E4 : Ext h H4 := g4.ext (E3.trans (Ext.more _ _)) (by omega)
    obtain ⟨u, hu⟩ := pick_lits g4 k3.lt z1 (by simpa using z3) rfl
    simp (maxSteps := 4000000) (disch := omega) only [ah, am, Nat.reduceEqDiff, reduceCtorEq, Nat.reduceAdd, Nat.reduceLeDiff, Nat.reduceMul, Nat.reduceLT, if_true, if_false, true_and, and_true, and_self, Nat.reduceBEq, QOp.loads, boxO, bslO, buildO, cutL, fillV, putL, w21, v21, Nat.mul_one, hu]
    refine stepC.of (l16DrawJob_ok _ _ k4) ?_
    rintro jv H5 ⟨l, X5, k5, J, hll⟩
    simp (maxSteps := 4000000) (disch := omega) only [ah, am, Nat.reduceEqDiff, reduceCtorEq, Nat.reduceAdd, Nat.reduceLeDiff, Nat.reduceMul, Nat.reduceLT, if_true, if_false, true_and, and_true, and_self, Nat.reduceBEq, QOp.loads, boxO, bslO, buildO, cutL, fillV, putL, w21, v21]
    exact ⟨jv, _, l, rfl, ext_ofX E4 X5 (by omega), J.at, hll⟩
end Go.Proofs.Ytbnkpligdcponaa
