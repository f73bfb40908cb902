import Derived.Test.YtmippcfdakjhfaaN0
import Derived.Test.YtmippcfdakjhfaaH1
namespace Go.Proofs.Ytmippcfdakjhfaa
open Go Go.Ah
set_option linter.unusedSimpArgs false
set_option linter.unusedVariables false
set_option maxRecDepth 10000
set_option maxHeartbeats 4000000
/-! 23 loop.example/g00066/laws.szClipSS: parameters 2, live [0, 1], slots [0:a, 1:left, 2:a, 3:left, 5:i] -/
def c23_0 : List SOper := [⟨some 4, .q (.mv (.c (.int .i64 0))), none⟩]
def c23_1 : List SOper := [⟨some 6, .q (.mv (.t 1)), none⟩, ⟨some 7, .q (.mv (.t 0)), none⟩, ⟨some 8, .q (.len (.t 7)), none⟩, ⟨some 9, .q (.bin .sub (.t 6) (.t 8)), none⟩, ⟨some 1, .q (.mv (.t 9)), none⟩]
def c23_2 : List SOper := [⟨some 10, .q (.mv (.t 1)), none⟩, ⟨some 11, .q (.bin .lss (.t 10) (.c (.int .i64 0))), none⟩]
def c23_3 : List SOper := [⟨some 4, .q (.mv (.c (.int .i64 (-1)))), none⟩]
def c23_4 : SCode := .seq (.region c23_3 [4]) .ret
def c23_5 : SCode := .cond (.t 11) c23_4 .skip
def c23_6 : SCode := .seq (.region c23_2 [0, 1, 11]) c23_5
def c23_7 : List SOper := [⟨some 5, .q (.mv (.c (.int .i64 0))), none⟩]
def c23_8 : List SOper := [⟨some 12, .q (.mv (.t 5)), none⟩, ⟨some 13, .q (.mv (.t 0)), none⟩, ⟨some 14, .q (.len (.t 13)), none⟩, ⟨some 15, .q (.bin .lss (.t 12) (.t 14)), none⟩]
def c23_9 : SCode := .cond (.t 15) .skip (.exit 0)
def c23_10 : SCode := .seq (.region c23_8 [0, 1, 5, 15]) c23_9
def c23_11 : List SOper := [⟨some 18, .q (.mv (.t 0)), none⟩, ⟨some 19, .q (.mv (.t 5)), none⟩, ⟨some 20, .q (.ia 1 (.t 18) (.t 19)), none⟩, ⟨some 21, .q (.ld (.t 20)), none⟩, ⟨some 22, .q (.mv (.t 1)), none⟩, ⟨some 23, .e (.call 46 [(.t 21), (.t 22)]), none⟩, ⟨some 1, .q (.mv (.t 23)), none⟩]
def c23_12 : List SOper := [⟨some 24, .q (.mv (.t 1)), none⟩, ⟨some 25, .q (.bin .lss (.t 24) (.c (.int .i64 0))), none⟩]
def c23_13 : List SOper := [⟨some 4, .q (.mv (.c (.int .i64 (-1)))), none⟩]
def c23_14 : SCode := .seq (.region c23_13 [4]) .ret
def c23_15 : SCode := .cond (.t 25) c23_14 .skip
def c23_16 : SCode := .seq (.region c23_12 [0, 1, 5, 25]) c23_15
def c23_17 : SCode := .seq (.region c23_11 [0, 1, 5]) c23_16
def c23_18 : SCode := .block 1 c23_17
def c23_19 : List SOper := [⟨some 16, .q (.mv (.t 5)), none⟩, ⟨some 17, .q (.bin .add (.t 16) (.c (.int .i64 1))), none⟩, ⟨some 5, .q (.mv (.t 17)), none⟩]
def c23_20 : SCode := .seq c23_18 (.region c23_19 [0, 1, 5])
def c23_21 : SCode := .seq c23_10 c23_20
def c23_22 : SCode := .loop c23_21
def c23_23 : SCode := .block 0 c23_22
def c23_24 : SCode := .seq (.region c23_7 [0, 1, 5]) c23_23
def c23_25 : List SOper := [⟨some 26, .q (.mv (.t 1)), none⟩, ⟨some 4, .q (.mv (.t 26)), none⟩]
def c23_26 : SCode := .seq (.region c23_25 [4]) .ret
def c23_27 : SCode := .seq c23_24 c23_26
def c23_28 : SCode := .seq c23_6 c23_27
def c23_29 : SCode := .seq (.region c23_1 [0, 1]) c23_28
def c23_30 : SCode := .seq (.region c23_0 [0, 1]) c23_29
def c23 : SCode := c23_30
theorem w23 : type_of% (And.intro (uR Try.prog c23_0.eq_1) (And.intro (uR Try.prog c23_1.eq_1) (And.intro (uR Try.prog c23_2.eq_1) (And.intro (uR Try.prog c23_3.eq_1) (And.intro (uC Try.prog c23_4.eq_1) (And.intro (uC Try.prog c23_5.eq_1) (And.intro (uC Try.prog c23_6.eq_1) (And.intro (uR Try.prog c23_7.eq_1) (And.intro (uR Try.prog c23_8.eq_1) (And.intro (uC Try.prog c23_9.eq_1) (And.intro (uC Try.prog c23_10.eq_1) (And.intro (uR Try.prog c23_11.eq_1) (And.intro (uR Try.prog c23_12.eq_1) (And.intro (uR Try.prog c23_13.eq_1) (And.intro (uC Try.prog c23_14.eq_1) (And.intro (uC Try.prog c23_15.eq_1) (And.intro (uC Try.prog c23_16.eq_1) (And.intro (uC Try.prog c23_17.eq_1) (And.intro (uC Try.prog c23_18.eq_1) (And.intro (uR Try.prog c23_19.eq_1) (And.intro (uC Try.prog c23_20.eq_1) (And.intro (uC Try.prog c23_21.eq_1) (And.intro (uC Try.prog c23_22.eq_1) (And.intro (uC Try.prog c23_23.eq_1) (And.intro (uC Try.prog c23_24.eq_1) (And.intro (uR Try.prog c23_25.eq_1) (And.intro (uC Try.prog c23_26.eq_1) (And.intro (uC Try.prog c23_27.eq_1) (And.intro (uC Try.prog c23_28.eq_1) (And.intro (uC Try.prog c23_29.eq_1) (And.intro (uC Try.prog c23_30.eq_1) (uC Try.prog c23.eq_1)))))))))))))))))))))))))))))))) := (And.intro (uR Try.prog c23_0.eq_1) (And.intro (uR Try.prog c23_1.eq_1) (And.intro (uR Try.prog c23_2.eq_1) (And.intro (uR Try.prog c23_3.eq_1) (And.intro (uC Try.prog c23_4.eq_1) (And.intro (uC Try.prog c23_5.eq_1) (And.intro (uC Try.prog c23_6.eq_1) (And.intro (uR Try.prog c23_7.eq_1) (And.intro (uR Try.prog c23_8.eq_1) (And.intro (uC Try.prog c23_9.eq_1) (And.intro (uC Try.prog c23_10.eq_1) (And.intro (uR Try.prog c23_11.eq_1) (And.intro (uR Try.prog c23_12.eq_1) (And.intro (uR Try.prog c23_13.eq_1) (And.intro (uC Try.prog c23_14.eq_1) (And.intro (uC Try.prog c23_15.eq_1) (And.intro (uC Try.prog c23_16.eq_1) (And.intro (uC Try.prog c23_17.eq_1) (And.intro (uC Try.prog c23_18.eq_1) (And.intro (uR Try.prog c23_19.eq_1) (And.intro (uC Try.prog c23_20.eq_1) (And.intro (uC Try.prog c23_21.eq_1) (And.intro (uC Try.prog c23_22.eq_1) (And.intro (uC Try.prog c23_23.eq_1) (And.intro (uC Try.prog c23_24.eq_1) (And.intro (uR Try.prog c23_25.eq_1) (And.intro (uC Try.prog c23_26.eq_1) (And.intro (uC Try.prog c23_27.eq_1) (And.intro (uC Try.prog c23_28.eq_1) (And.intro (uC Try.prog c23_29.eq_1) (And.intro (uC Try.prog c23_30.eq_1) (uC Try.prog c23.eq_1))))))))))))))))))))))))))))))))
def v23 : List RV := [.t 4]
theorem s23 : slimF Try.prog Try.f23 = some (c23.bare, v23) := by kernel_rfl
/-! 24 loop.example/g00066/laws.toClipSS: parameters 1, live [0], slots [0:a, 1:a, 3:out, 4:i] -/
def c24_0 : List SOper := [⟨some 2, .q (.mv (.c (.slice none 0 0))), none⟩]
def c24_1 : List SOper := [⟨some 5, .q (.mv (.t 0)), none⟩, ⟨some 6, .q (.len (.t 5)), none⟩, ⟨some 7, .a (.mks 24 1 [(.slice none 0 0)] (.t 6) (.t 6)), none⟩, ⟨some 3, .q (.mv (.t 7)), none⟩]
def c24_2 : List SOper := [⟨some 4, .q (.mv (.c (.int .i64 0))), none⟩]
def c24_3 : List SOper := [⟨some 8, .q (.mv (.t 4)), none⟩, ⟨some 9, .q (.mv (.t 0)), none⟩, ⟨some 10, .q (.len (.t 9)), none⟩, ⟨some 11, .q (.bin .lss (.t 8) (.t 10)), none⟩]
def c24_4 : SCode := .cond (.t 11) .skip (.exit 0)
def c24_5 : SCode := .seq (.region c24_3 [0, 3, 4, 11]) c24_4
def c24_6 : List SOper := [⟨some 14, .q (.mv (.t 3)), none⟩, ⟨some 15, .q (.mv (.t 4)), none⟩, ⟨some 16, .q (.mv (.t 0)), none⟩, ⟨some 17, .q (.mv (.t 4)), none⟩, ⟨some 18, .q (.ia 1 (.t 16) (.t 17)), none⟩, ⟨some 19, .q (.ld (.t 18)), none⟩, ⟨some 20, .e (.call 47 [(.t 19)]), none⟩, ⟨some 21, .q (.ia 1 (.t 14) (.t 15)), none⟩, ⟨none, .e (.st 1 (.t 21) (.t 20)), none⟩]
def c24_7 : SCode := .block 1 (.region c24_6 [0, 3, 4])
def c24_8 : List SOper := [⟨some 12, .q (.mv (.t 4)), none⟩, ⟨some 13, .q (.bin .add (.t 12) (.c (.int .i64 1))), none⟩, ⟨some 4, .q (.mv (.t 13)), none⟩]
def c24_9 : SCode := .seq c24_7 (.region c24_8 [0, 3, 4])
def c24_10 : SCode := .seq c24_5 c24_9
def c24_11 : SCode := .loop c24_10
def c24_12 : SCode := .block 0 c24_11
def c24_13 : SCode := .seq (.region c24_2 [0, 3, 4]) c24_12
def c24_14 : List SOper := [⟨some 22, .q (.mv (.t 3)), none⟩, ⟨some 2, .q (.mv (.t 22)), none⟩]
def c24_15 : SCode := .seq (.region c24_14 [2]) .ret
def c24_16 : SCode := .seq c24_13 c24_15
def c24_17 : SCode := .seq (.region c24_1 [0, 3]) c24_16
def c24_18 : SCode := .seq (.region c24_0 [0]) c24_17
def c24 : SCode := c24_18
theorem w24 : type_of% (And.intro (uR Try.prog c24_0.eq_1) (And.intro (uR Try.prog c24_1.eq_1) (And.intro (uR Try.prog c24_2.eq_1) (And.intro (uR Try.prog c24_3.eq_1) (And.intro (uC Try.prog c24_4.eq_1) (And.intro (uC Try.prog c24_5.eq_1) (And.intro (uR Try.prog c24_6.eq_1) (And.intro (uC Try.prog c24_7.eq_1) (And.intro (uR Try.prog c24_8.eq_1) (And.intro (uC Try.prog c24_9.eq_1) (And.intro (uC Try.prog c24_10.eq_1) (And.intro (uC Try.prog c24_11.eq_1) (And.intro (uC Try.prog c24_12.eq_1) (And.intro (uC Try.prog c24_13.eq_1) (And.intro (uR Try.prog c24_14.eq_1) (And.intro (uC Try.prog c24_15.eq_1) (And.intro (uC Try.prog c24_16.eq_1) (And.intro (uC Try.prog c24_17.eq_1) (And.intro (uC Try.prog c24_18.eq_1) (uC Try.prog c24.eq_1)))))))))))))))))))) := (And.intro (uR Try.prog c24_0.eq_1) (And.intro (uR Try.prog c24_1.eq_1) (And.intro (uR Try.prog c24_2.eq_1) (And.intro (uR Try.prog c24_3.eq_1) (And.intro (uC Try.prog c24_4.eq_1) (And.intro (uC Try.prog c24_5.eq_1) (And.intro (uR Try.prog c24_6.eq_1) (And.intro (uC Try.prog c24_7.eq_1) (And.intro (uR Try.prog c24_8.eq_1) (And.intro (uC Try.prog c24_9.eq_1) (And.intro (uC Try.prog c24_10.eq_1) (And.intro (uC Try.prog c24_11.eq_1) (And.intro (uC Try.prog c24_12.eq_1) (And.intro (uC Try.prog c24_13.eq_1) (And.intro (uR Try.prog c24_14.eq_1) (And.intro (uC Try.prog c24_15.eq_1) (And.intro (uC Try.prog c24_16.eq_1) (And.intro (uC Try.prog c24_17.eq_1) (And.intro (uC Try.prog c24_18.eq_1) (uC Try.prog c24.eq_1))))))))))))))))))))
def v24 : List RV := [.t 2]
theorem s24 : slimF Try.prog Try.f24 = some (c24.bare, v24) := by kernel_rfl
/-! 25 loop.example/g00066/laws.eqClipSS: parameters 2, live [0, 1], slots [0:a, 1:b, 2:a, 3:b, 5:i] -/
def c25_0 : List SOper := [⟨some 4, .q (.mv (.c (.bool false))), none⟩]
def c25_1 : List SOper := [⟨some 6, .q (.mv (.t 0)), none⟩, ⟨some 7, .q (.len (.t 6)), none⟩, ⟨some 8, .q (.mv (.t 1)), none⟩, ⟨some 9, .q (.len (.t 8)), none⟩, ⟨some 10, .q (.bin .neq (.t 7) (.t 9)), none⟩]
def c25_2 : List SOper := [⟨some 4, .q (.mv (.c (.bool false))), none⟩]
def c25_3 : SCode := .seq (.region c25_2 [4]) .ret
def c25_4 : SCode := .cond (.t 10) c25_3 .skip
def c25_5 : SCode := .seq (.region c25_1 [0, 1, 10]) c25_4
def c25_6 : List SOper := [⟨some 5, .q (.mv (.c (.int .i64 0))), none⟩]
def c25_7 : List SOper := [⟨some 11, .q (.mv (.t 5)), none⟩, ⟨some 12, .q (.mv (.t 0)), none⟩, ⟨some 13, .q (.len (.t 12)), none⟩, ⟨some 14, .q (.bin .lss (.t 11) (.t 13)), none⟩]
def c25_8 : SCode := .cond (.t 14) .skip (.exit 0)
def c25_9 : SCode := .seq (.region c25_7 [0, 1, 5, 14]) c25_8
def c25_10 : List SOper := [⟨some 17, .q (.mv (.t 0)), none⟩, ⟨some 18, .q (.mv (.t 5)), none⟩, ⟨some 19, .q (.ia 1 (.t 17) (.t 18)), none⟩, ⟨some 20, .q (.ld (.t 19)), none⟩, ⟨some 21, .q (.mv (.t 1)), none⟩, ⟨some 22, .q (.mv (.t 5)), none⟩, ⟨some 23, .q (.ia 1 (.t 21) (.t 22)), none⟩, ⟨some 24, .q (.ld (.t 23)), none⟩, ⟨some 25, .e (.call 48 [(.t 20), (.t 24)]), none⟩, ⟨some 26, .q (.not (.t 25)), none⟩]
def c25_11 : List SOper := [⟨some 4, .q (.mv (.c (.bool false))), none⟩]
def c25_12 : SCode := .seq (.region c25_11 [4]) .ret
def c25_13 : SCode := .cond (.t 26) c25_12 .skip
def c25_14 : SCode := .seq (.region c25_10 [0, 1, 5, 26]) c25_13
def c25_15 : SCode := .block 1 c25_14
def c25_16 : List SOper := [⟨some 15, .q (.mv (.t 5)), none⟩, ⟨some 16, .q (.bin .add (.t 15) (.c (.int .i64 1))), none⟩, ⟨some 5, .q (.mv (.t 16)), none⟩]
def c25_17 : SCode := .seq c25_15 (.region c25_16 [0, 1, 5])
def c25_18 : SCode := .seq c25_9 c25_17
def c25_19 : SCode := .loop c25_18
def c25_20 : SCode := .block 0 c25_19
def c25_21 : SCode := .seq (.region c25_6 [0, 1, 5]) c25_20
def c25_22 : List SOper := [⟨some 4, .q (.mv (.c (.bool true))), none⟩]
def c25_23 : SCode := .seq (.region c25_22 [4]) .ret
def c25_24 : SCode := .seq c25_21 c25_23
def c25_25 : SCode := .seq c25_5 c25_24
def c25_26 : SCode := .seq (.region c25_0 [0, 1]) c25_25
def c25 : SCode := c25_26
theorem w25 : type_of% (And.intro (uR Try.prog c25_0.eq_1) (And.intro (uR Try.prog c25_1.eq_1) (And.intro (uR Try.prog c25_2.eq_1) (And.intro (uC Try.prog c25_3.eq_1) (And.intro (uC Try.prog c25_4.eq_1) (And.intro (uC Try.prog c25_5.eq_1) (And.intro (uR Try.prog c25_6.eq_1) (And.intro (uR Try.prog c25_7.eq_1) (And.intro (uC Try.prog c25_8.eq_1) (And.intro (uC Try.prog c25_9.eq_1) (And.intro (uR Try.prog c25_10.eq_1) (And.intro (uR Try.prog c25_11.eq_1) (And.intro (uC Try.prog c25_12.eq_1) (And.intro (uC Try.prog c25_13.eq_1) (And.intro (uC Try.prog c25_14.eq_1) (And.intro (uC Try.prog c25_15.eq_1) (And.intro (uR Try.prog c25_16.eq_1) (And.intro (uC Try.prog c25_17.eq_1) (And.intro (uC Try.prog c25_18.eq_1) (And.intro (uC Try.prog c25_19.eq_1) (And.intro (uC Try.prog c25_20.eq_1) (And.intro (uC Try.prog c25_21.eq_1) (And.intro (uR Try.prog c25_22.eq_1) (And.intro (uC Try.prog c25_23.eq_1) (And.intro (uC Try.prog c25_24.eq_1) (And.intro (uC Try.prog c25_25.eq_1) (And.intro (uC Try.prog c25_26.eq_1) (uC Try.prog c25.eq_1)))))))))))))))))))))))))))) := (And.intro (uR Try.prog c25_0.eq_1) (And.intro (uR Try.prog c25_1.eq_1) (And.intro (uR Try.prog c25_2.eq_1) (And.intro (uC Try.prog c25_3.eq_1) (And.intro (uC Try.prog c25_4.eq_1) (And.intro (uC Try.prog c25_5.eq_1) (And.intro (uR Try.prog c25_6.eq_1) (And.intro (uR Try.prog c25_7.eq_1) (And.intro (uC Try.prog c25_8.eq_1) (And.intro (uC Try.prog c25_9.eq_1) (And.intro (uR Try.prog c25_10.eq_1) (And.intro (uR Try.prog c25_11.eq_1) (And.intro (uC Try.prog c25_12.eq_1) (And.intro (uC Try.prog c25_13.eq_1) (And.intro (uC Try.prog c25_14.eq_1) (And.intro (uC Try.prog c25_15.eq_1) (And.intro (uR Try.prog c25_16.eq_1) (And.intro (uC Try.prog c25_17.eq_1) (And.intro (uC Try.prog c25_18.eq_1) (And.intro (uC Try.prog c25_19.eq_1) (And.intro (uC Try.prog c25_20.eq_1) (And.intro (uC Try.prog c25_21.eq_1) (And.intro (uR Try.prog c25_22.eq_1) (And.intro (uC Try.prog c25_23.eq_1) (And.intro (uC Try.prog c25_24.eq_1) (And.intro (uC Try.prog c25_25.eq_1) (And.intro (uC Try.prog c25_26.eq_1) (uC Try.prog c25.eq_1))))))))))))))))))))))))))))
def v25 : List RV := [.t 4]
theorem s25 : slimF Try.prog Try.f25 = some (c25.bare, v25) := by kernel_rfl
/-! 26 loop.example/g00066/laws.markClipSS: parameters 2, live [0, 1], slots [0:a, 1:k, 2:a, 3:k, 5:i] -/
def c26_0 : List SOper := [⟨some 4, .q (.mv (.c (.int .i64 0))), none⟩]
def c26_1 : List SOper := [⟨some 5, .q (.mv (.c (.int .i64 0))), none⟩]
def c26_2 : List SOper := [⟨some 6, .q (.mv (.t 5)), none⟩, ⟨some 7, .q (.mv (.t 0)), none⟩, ⟨some 8, .q (.len (.t 7)), none⟩, ⟨some 9, .q (.bin .lss (.t 6) (.t 8)), none⟩]
def c26_3 : SCode := .cond (.t 9) .skip (.exit 0)
def c26_4 : SCode := .seq (.region c26_2 [0, 1, 5, 9]) c26_3
def c26_5 : List SOper := [⟨some 12, .q (.mv (.t 0)), none⟩, ⟨some 13, .q (.mv (.t 5)), none⟩, ⟨some 14, .q (.ia 1 (.t 12) (.t 13)), none⟩, ⟨some 15, .q (.ld (.t 14)), none⟩, ⟨some 16, .q (.mv (.t 1)), none⟩, ⟨some 17, .e (.call 49 [(.t 15), (.t 16)]), none⟩, ⟨some 1, .q (.mv (.t 17)), none⟩]
def c26_6 : SCode := .block 1 (.region c26_5 [0, 1, 5])
def c26_7 : List SOper := [⟨some 10, .q (.mv (.t 5)), none⟩, ⟨some 11, .q (.bin .add (.t 10) (.c (.int .i64 1))), none⟩, ⟨some 5, .q (.mv (.t 11)), none⟩]
def c26_8 : SCode := .seq c26_6 (.region c26_7 [0, 1, 5])
def c26_9 : SCode := .seq c26_4 c26_8
def c26_10 : SCode := .loop c26_9
def c26_11 : SCode := .block 0 c26_10
def c26_12 : SCode := .seq (.region c26_1 [0, 1, 5]) c26_11
def c26_13 : List SOper := [⟨some 18, .q (.mv (.t 1)), none⟩, ⟨some 4, .q (.mv (.t 18)), none⟩]
def c26_14 : SCode := .seq (.region c26_13 [4]) .ret
def c26_15 : SCode := .seq c26_12 c26_14
def c26_16 : SCode := .seq (.region c26_0 [0, 1]) c26_15
def c26 : SCode := c26_16
theorem w26 : type_of% (And.intro (uR Try.prog c26_0.eq_1) (And.intro (uR Try.prog c26_1.eq_1) (And.intro (uR Try.prog c26_2.eq_1) (And.intro (uC Try.prog c26_3.eq_1) (And.intro (uC Try.prog c26_4.eq_1) (And.intro (uR Try.prog c26_5.eq_1) (And.intro (uC Try.prog c26_6.eq_1) (And.intro (uR Try.prog c26_7.eq_1) (And.intro (uC Try.prog c26_8.eq_1) (And.intro (uC Try.prog c26_9.eq_1) (And.intro (uC Try.prog c26_10.eq_1) (And.intro (uC Try.prog c26_11.eq_1) (And.intro (uC Try.prog c26_12.eq_1) (And.intro (uR Try.prog c26_13.eq_1) (And.intro (uC Try.prog c26_14.eq_1) (And.intro (uC Try.prog c26_15.eq_1) (And.intro (uC Try.prog c26_16.eq_1) (uC Try.prog c26.eq_1)))))))))))))))))) := (And.intro (uR Try.prog c26_0.eq_1) (And.intro (uR Try.prog c26_1.eq_1) (And.intro (uR Try.prog c26_2.eq_1) (And.intro (uC Try.prog c26_3.eq_1) (And.intro (uC Try.prog c26_4.eq_1) (And.intro (uR Try.prog c26_5.eq_1) (And.intro (uC Try.prog c26_6.eq_1) (And.intro (uR Try.prog c26_7.eq_1) (And.intro (uC Try.prog c26_8.eq_1) (And.intro (uC Try.prog c26_9.eq_1) (And.intro (uC Try.prog c26_10.eq_1) (And.intro (uC Try.prog c26_11.eq_1) (And.intro (uC Try.prog c26_12.eq_1) (And.intro (uR Try.prog c26_13.eq_1) (And.intro (uC Try.prog c26_14.eq_1) (And.intro (uC Try.prog c26_15.eq_1) (And.intro (uC Try.prog c26_16.eq_1) (uC Try.prog c26.eq_1))))))))))))))))))
def v26 : List RV := [.t 4]
theorem s26 : slimF Try.prog Try.f26 = some (c26.bare, v26) := by kernel_rfl

/-! ### Rows of clips -/
theorem markClipS_mine {a b : Nat} {h : Heap} {v : Value} {l : List Clip} (k : Int) (m : Mine a b h encClip 3 v l) (hl : l.length ≤ 1000000000) (hk : 0 ≤ k ∧ k ≤ 1000000000000) :
    ACall Try.prog 49 [v, .int .i64 k] h fun r h' => Chg a b h h' ∧ Mine a b h' encClip 3 v (markClip k l.length) ∧ r = .int .i64 (k + 3 * l.length) :=
  ACall.mine m (fun g o => markClipS_ok h g v l k o hl hk) (fun e => by rw [e]; rfl)
def TracksAt (h : Heap) (v : Value) (l : List (List Clip)) : Prop := ∃ rs : List Value, SlT h encV 1 v rs ∧ rs.length = l.length ∧ ∀ i (h1 : i < rs.length) (h2 : i < l.length), SlT h encClip 3 rs[i] l[i]
theorem TracksAt.ext {h h' : Heap} {v : Value} {l : List (List Clip)} (a : TracksAt h v l) (e : Ext h h') : TracksAt h' v l := by
  obtain ⟨rs, s, hl, H⟩ := a
  exact ⟨rs, s.ext e, hl, fun i h1 h2 => (H i h1 h2).ext e⟩
inductive InnC (h : Heap) : Nat → Nat → List Value → List (List Clip) → Prop
  | nil (a b : Nat) : a ≤ b → InnC h a b [] []
  | cons (a m b : Nat) (r : Value) (t : List Clip) (rs : List Value) (ts : List (List Clip)) : a ≤ m → Mine a m h encClip 3 r t → InnC h m b rs ts → InnC h a b (r :: rs) (t :: ts)
theorem InnC.le {h : Heap} {a b : Nat} {rs : List Value} {ts : List (List Clip)} (i : InnC h a b rs ts) : a ≤ b := by
  induction i with
  | nil a b e => exact e
  | cons a m b r t rs ts e _ _ ih => omega
theorem InnC.hi {h : Heap} {a b c : Nat} {rs : List Value} {ts : List (List Clip)} (i : InnC h a b rs ts) (hc : b ≤ c) : InnC h a c rs ts := by
  induction i with
  | nil a b e => exact .nil _ _ (by omega)
  | cons a m b r t rs ts e1 e5 _ ih => exact .cons a m c r t rs ts e1 e5 (ih hc)
theorem InnC.chg {h h' : Heap} {a b a' b' : Nat} {rs : List Value} {ts : List (List Clip)} (i : InnC h a b rs ts) (c : Chg a' b' h h') (hd : b ≤ a' ∨ b' ≤ a) : InnC h' a b rs ts := by
  induction i with
  | nil a b e => exact .nil _ _ e
  | cons a m b r t rs ts e1 e5 k ih => have := k.le; exact .cons a m b r t rs ts e1 (e5.chg c (by omega)) (ih (by omega))
theorem InnC.ext {h h' : Heap} {a b : Nat} {rs : List Value} {ts : List (List Clip)} (i : InnC h a b rs ts) (e : Ext h h') : InnC h' a b rs ts := by
  induction i with
  | nil a b e => exact .nil _ _ e
  | cons a m b r t rs ts e1 e5 k ih => exact .cons a m b r t rs ts e1 (e5.ext e) ih
theorem mineLo {α : Type} {a a' b : Nat} {h : Heap} {enc : α → List Value} {sz : Nat} {v : Value} {l : List α} (m : Mine a b h enc sz v l) (ha : a' ≤ a) : Mine a' b h enc sz v l := by
  obtain ⟨s, m | ⟨g, h1, h2, o⟩⟩ := m
  · exact ⟨s, .inl m⟩
  · exact ⟨s, .inr ⟨g, by omega, h2, o⟩⟩
theorem InnC.snoc {h : Heap} {a m b : Nat} {rs : List Value} {ts : List (List Clip)} (i : InnC h a m rs ts) (r : Value) (t : List Clip) (hb : m ≤ b)
    (hm : Mine m b h encClip 3 r t) : InnC h a b (rs ++ [r]) (ts ++ [t]) := by
  induction i with
  | nil a m e => exact .cons a b b r t [] [] (by omega) (mineLo hm e) (.nil _ _ (Nat.le_refl _))
  | cons a m' b' r' t' rs ts e1 e5 k ih => exact .cons a m' b r' t' _ _ e1 e5 (ih hb hm)
theorem InnC.at {h : Heap} {a b : Nat} {rs : List Value} {ts : List (List Clip)} (i : InnC h a b rs ts) : rs.length = ts.length ∧ ∀ i (h1 : i < rs.length) (h2 : i < ts.length), SlT h encClip 3 rs[i] ts[i] := by
  induction i with
  | nil a b e => exact ⟨rfl, fun i h1 => by simp at h1⟩
  | cons a m b r t rs ts e1 e5 k ih =>
    refine ⟨by simp [ih.1], fun i h1 h2 => ?_⟩
    cases i with
    | zero => exact e5.slt
    | succ i => exact ih.2 i (by simpa using h1) (by simpa using h2)
def TracksOwn (a b : Nat) (h : Heap) (v : Value) (l : List (List Clip)) : Prop := ∃ rs g m, a ≤ g ∧ g < m ∧ OwnT g h encV 1 v rs ∧ InnC h m b rs l
section
variable {a b a' b' : Nat} {h h' : Heap} {v : Value} {l : List (List Clip)}
theorem TracksOwn.at (o : TracksOwn a b h v l) : TracksAt h v l := by
  obtain ⟨rs, g, m, _, _, o, i⟩ := o
  exact ⟨rs, o.slt, i.at.1, i.at.2⟩
theorem TracksOwn.ext (o : TracksOwn a b h v l) (e : Ext h h') : TracksOwn a b h' v l := by
  obtain ⟨rs, g, m, g1, g2, o, i⟩ := o
  exact ⟨rs, g, m, g1, g2, o.ext e, i.ext e⟩
theorem ownT_chg {g : Nat} {α : Type} {enc : α → List Value} {sz : Nat} {w : Value} {k : List α} (c : Chg a' b' h h') (o : OwnT g h enc sz w k) (hd : g < a' ∨ b' ≤ g) : OwnT g h' enc sz w k := by
  refine ⟨?_, o.hs, o.pos⟩
  rcases o.own with s | ⟨i, off, n, ob, q1, q2, q3, q4, q5, q6, q7⟩
  · exact .inl s
  · exact .inr ⟨i, off, n, ob, q1, c.2 i ob q2 (by omega), q3, q4, q5, q6, q7⟩
theorem TracksOwn.chg (o : TracksOwn a b h v l) (c : Chg a' b' h h') (hd : b ≤ a' ∨ b' ≤ a) : TracksOwn a b h' v l := by
  obtain ⟨rs, g, m, g1, g2, o, i⟩ := o
  have := i.le
  exact ⟨rs, g, m, g1, g2, ownT_chg c o (by omega), i.chg c (by omega)⟩
end
def totK (l : List (List Clip)) : Nat := (l.map fun t => t.length).sum
theorem totK_take (l : List (List Clip)) (i : Nat) (hi : i < l.length) : totK (l.take (i + 1)) = totK (l.take i) + l[i].length := by
  unfold totK; rw [List.take_succ_eq_append_getElem hi, List.map_append, List.sum_append]; simp
theorem totK_le (l : List (List Clip)) (i : Nat) : totK (l.take i) ≤ totK l := by
  have : totK l = totK (l.take i) + totK (l.drop i) := by unfold totK; rw [← List.sum_append, ← List.map_append, List.take_append_drop]
  omega
theorem totK_get (l : List (List Clip)) (i : Nat) (hi : i < l.length) : l[i].length ≤ totK l := by
  have := totK_take l i hi; have := totK_le l (i + 1); omega
theorem szClipSS_ok (h : Heap) (v : Value) (l : List (List Clip)) (left : Int) (hj : TracksAt h v l) (h0 : 0 ≤ left) (h1 : left ≤ 1048576) (hl : l.length ≤ 9223372036854775807)
    (hn : ∀ t ∈ l, t.length ≤ 9223372036854775807) :
    ACall Try.prog 23 [v, .int .i64 left] h fun r h' => Ext h h' ∧ ∃ z : Int, r = .int .i64 z ∧ (z = -1 ∨ (0 ≤ z ∧ z = left - l.length - totK l)) := by
  obtain ⟨rs, s, hlen, H⟩ := hj
  refine ACall.of Try.func23 s23 (of_decide_eq_true rfl) ?_
  have R := s.rulesN
  simp only [hlen] at R
  have W : IntKind.i64.wrap (left - l.length) = left - l.length := i64e (by omega) (by omega)
  simp (maxSteps := 4000000) (disch := omega) only [ah, am, Nat.reduceEqDiff, reduceCtorEq, Nat.reduceAdd, Nat.reduceLeDiff, Nat.reduceMul, Nat.reduceLT, if_true, if_false, true_and, and_true, and_self, Nat.reduceBEq, QOp.loads, boxO, bslO, buildO, cutL, fillV, putL, w23, v23, R, W]
  refine stepI.split (fun hp => ?_) (fun hp => ?_)
  · simp (maxSteps := 4000000) (disch := omega) only [ah, am, Nat.reduceEqDiff, reduceCtorEq, Nat.reduceAdd, Nat.reduceLeDiff, Nat.reduceMul, Nat.reduceLT, if_true, if_false, true_and, and_true, and_self, Nat.reduceBEq, QOp.loads, boxO, bslO, buildO, cutL, fillV, putL, w23, v23]
    exact ⟨Ext.refl h, _, rfl, .inl rfl⟩
  simp (maxSteps := 4000000) (disch := omega) only [ah, am, Nat.reduceEqDiff, reduceCtorEq, Nat.reduceAdd, Nat.reduceLeDiff, Nat.reduceMul, Nat.reduceLT, if_true, if_false, true_and, and_true, and_self, Nat.reduceBEq, QOp.loads, boxO, bslO, buildO, cutL, fillV, putL, w23, v23]
  refine SW_loop_up (fun i E H => E = [(0, v), (1, .int .i64 (left - l.length - totK (l.take i))), (5, .int .i64 i)] ∧ Ext h H ∧ 0 ≤ left - l.length - totK (l.take i)) l.length 0 (by omega)
    ⟨by simp [totK], .refl h, by simp [totK]; omega⟩ ?_
  rintro i E K hi ⟨rfl, e, hq⟩
  have R := (s.ext e).rulesN
  simp only [hlen] at R
  have W : IntKind.i64.wrap ((i : Int) + 1) = ((i + 1 : Nat) : Int) := i64e (by omega) (by omega)
  simp (maxSteps := 4000000) (disch := omega) only [ah, am, Nat.reduceEqDiff, reduceCtorEq, Nat.reduceAdd, Nat.reduceLeDiff, Nat.reduceMul, Nat.reduceLT, if_true, if_false, true_and, and_true, and_self, Nat.reduceBEq, QOp.loads, boxO, bslO, buildO, cutL, fillV, putL, w23, v23, R, W]
  refine stepI.split (fun hp => ?_) (fun hp => ?_)
  · have hi2 : i < l.length := by omega
    have A := (H i (by omega) hi2).ext e
    simp (maxSteps := 4000000) (disch := omega) only [ah, am, Nat.reduceEqDiff, reduceCtorEq, Nat.reduceAdd, Nat.reduceLeDiff, Nat.reduceMul, Nat.reduceLT, if_true, if_false, true_and, and_true, and_self, Nat.reduceBEq, QOp.loads, boxO, bslO, buildO, cutL, fillV, putL, w23, v23, R, encV, W]
    refine stepC.of (szClipS_ok _ rs[i] _ _ A hq (by omega) (hn _ (List.getElem_mem hi2))) ?_
    rintro _ Hx ⟨hx, rfl⟩; rw [hx]; clear hx Hx
    have ht := totK_take l i hi2
    by_cases hz : left - ↑l.length - ↑(totK (List.take i l)) - ↑l[i].length < 0
    · simp (maxSteps := 4000000) (disch := omega) only [ah, am, Nat.reduceEqDiff, reduceCtorEq, Nat.reduceAdd, Nat.reduceLeDiff, Nat.reduceMul, Nat.reduceLT, if_true, if_false, true_and, and_true, and_self, Nat.reduceBEq, QOp.loads, boxO, bslO, buildO, cutL, fillV, putL, w23, v23, if_pos hz, show decide ((-1 : Int) < 0) = true from rfl]
      exact ⟨e, _, rfl, .inl rfl⟩
    · have hz' : decide (left - ↑l.length - ↑(totK (List.take i l)) - ↑l[i].length < 0) = false := decide_eq_false hz
      simp (maxSteps := 4000000) (disch := omega) only [ah, am, Nat.reduceEqDiff, reduceCtorEq, Nat.reduceAdd, Nat.reduceLeDiff, Nat.reduceMul, Nat.reduceLT, if_true, if_false, true_and, and_true, and_self, Nat.reduceBEq, QOp.loads, boxO, bslO, buildO, cutL, fillV, putL, w23, v23, if_neg hz, hz', W]
      refine ⟨hi2, ?_, e, by omega⟩
      rw [ht]
      simp only [List.cons.injEq, Prod.mk.injEq, Value.int.injEq, true_and, and_true]
      omega
  · simp (maxSteps := 4000000) (disch := omega) only [ah, am, Nat.reduceEqDiff, reduceCtorEq, Nat.reduceAdd, Nat.reduceLeDiff, Nat.reduceMul, Nat.reduceLT, if_true, if_false, true_and, and_true, and_self, Nat.reduceBEq, QOp.loads, boxO, bslO, buildO, cutL, fillV, putL, w23, v23]
    obtain rfl : i = l.length := by omega
    refine ⟨e, _, rfl, .inr ⟨hq, ?_⟩⟩
    rw [List.take_length]
theorem toClipSS_ok (h : Heap) (v : Value) (l : List (List Clip)) (hj : TracksAt h v l) (hl : l.length ≤ 1048576) (hn : totK l ≤ 1048576) :
    ACall Try.prog 24 [v] h fun r h' => Ext h h' ∧ TracksOwn h.size h'.size h' r l := by
  obtain ⟨rs, s, hlen, Hr⟩ := hj
  refine ACall.of Try.func24 s24 (of_decide_eq_true rfl) ?_
  have R := s.rulesN
  simp only [hlen] at R
  simp (maxSteps := 4000000) (disch := omega) only [ah, am, Nat.reduceEqDiff, reduceCtorEq, Nat.reduceAdd, Nat.reduceLeDiff, Nat.reduceMul, Nat.reduceLT, if_true, if_false, true_and, and_true, and_self, Nat.reduceBEq, QOp.loads, boxO, bslO, buildO, cutL, fillV, putL, w24, v24, R, mksV_nat]
  refine SW_loop_up (fun i E H => ∃ os : List Value, E = [(0, v), (3, .slice (some ⟨h.size, 0, none⟩) l.length 1), (4, .int .i64 i)] ∧ Ext h H ∧ os.length = i ∧ OwnT h.size H encV 1 (.slice (some ⟨h.size, 0, none⟩) l.length 1) (os ++ List.replicate (l.length - i) (.slice none 0 0)) ∧
    InnC H (h.size + 1) H.size os (l.take i)) l.length 0 (by omega) ⟨[], rfl, Ext.more _ _, rfl, ?_, .nil _ _ (by rw [size_more]; simp)⟩ ?_
  · have := OwnT.new h (List.replicate l.length (Value.slice none 0 0)) encV_len (by omega)
    rw [List.length_replicate, ← flat_rep] at this
    simpa [encV] using this
  rintro i E H hi ⟨os, rfl, e, ho, O, I⟩
  have R := (s.ext e).rulesN
  simp only [hlen] at R
  have W : IntKind.i64.wrap ((i : Int) + 1) = ((i + 1 : Nat) : Int) := i64e (by omega) (by omega)
  simp (maxSteps := 4000000) (disch := omega) only [ah, am, Nat.reduceEqDiff, reduceCtorEq, Nat.reduceAdd, Nat.reduceLeDiff, Nat.reduceMul, Nat.reduceLT, if_true, if_false, true_and, and_true, and_self, Nat.reduceBEq, QOp.loads, boxO, bslO, buildO, cutL, fillV, putL, w24, v24, R, W]
  refine stepI.split (fun hp => ?_) (fun hp => ?_)
  · have hi2 : i < l.length := by omega
    have A := (Hr i (by omega) hi2).ext e
    have B := totK_get l i hi2
    simp (maxSteps := 4000000) (disch := omega) only [ah, am, Nat.reduceEqDiff, reduceCtorEq, Nat.reduceAdd, Nat.reduceLeDiff, Nat.reduceMul, Nat.reduceLT, if_true, if_false, true_and, and_true, and_self, Nat.reduceBEq, QOp.loads, boxO, bslO, buildO, cutL, fillV, putL, w24, v24, R, encV, W]
    refine stepC.of (toClipS_ok _ rs[i] _ A (by omega)) ?_
    intro u H1 F
    have O1 := O.ext F.1
    have M := F.mine
    have I1 := (I.ext F.1).snoc u l[i] F.1.1 M
    have o2 := oneB_slT F.slt
    have c2 := cells_slT F.slt
    obtain ⟨H2, es, O2, G2, hsz⟩ := O1.setF (j := i) (f := 0) (n := 1) (y := u) (x := u) (by simp [ho]; omega) (by rw [c2]; rfl) (by omega) (by rw [c2]; rfl) (by omega) (by rw [c2]; simp [o2, oneB_nil])
    simp only [Nat.add_zero] at es
    have R2 := O1.slt.rulesN
    simp only [List.length_append, ho, List.length_replicate, show i + (l.length - i) = l.length by omega] at R2
    simp (maxSteps := 4000000) (disch := omega) only [ah, am, Nat.reduceEqDiff, reduceCtorEq, Nat.reduceAdd, Nat.reduceLeDiff, Nat.reduceMul, Nat.reduceLT, if_true, if_false, true_and, and_true, and_self, Nat.reduceBEq, QOp.loads, boxO, bslO, buildO, cutL, fillV, putL, w24, v24, R2, es, W]
    refine ⟨hi2, os ++ [u], G2.ext (e.trans F.1) (Nat.le_refl _), by simp [ho], ?_, ?_⟩
    · have : (os ++ List.replicate (l.length - i) (Value.slice none 0 0)).set i u = os ++ [u] ++ List.replicate (l.length - (i + 1)) (Value.slice none 0 0) := by
        rw [show l.length - i = (l.length - (i + 1)) + 1 by omega, List.replicate_succ, List.set_append_right _ _ (by omega), ho, Nat.sub_self, List.set_cons_zero, List.append_assoc]; rfl
      rw [this] at O2; exact O2
    · rw [List.take_succ_eq_append_getElem hi2]
      exact (I1.chg (G2.chg (Nat.le_refl _) (Nat.lt_succ_self _)) (by omega)).hi (by omega)
  · simp (maxSteps := 4000000) (disch := omega) only [ah, am, Nat.reduceEqDiff, reduceCtorEq, Nat.reduceAdd, Nat.reduceLeDiff, Nat.reduceMul, Nat.reduceLT, if_true, if_false, true_and, and_true, and_self, Nat.reduceBEq, QOp.loads, boxO, bslO, buildO, cutL, fillV, putL, w24, v24, R, W]
    obtain rfl : i = l.length := by omega
    rw [Nat.sub_self, List.replicate_zero, List.append_nil] at O
    rw [List.take_length] at I
    exact ⟨e, os, h.size, h.size + 1, Nat.le_refl _, by omega, O, I⟩
theorem eqClipSS_ok (h : Heap) (v v' : Value) (l l' : List (List Clip)) (hj : TracksAt h v l) (hj' : TracksAt h v' l') (hl : l.length ≤ 281474976710656) (hl' : l'.length ≤ 281474976710656)
    (hn : totK l ≤ 281474976710656) (hn' : totK l' ≤ 281474976710656) :
    ACall Try.prog 25 [v, v'] h fun r h' => Ext h h' ∧ r = .bool (decide (l = l')) := by
  obtain ⟨rs, s, hlen, Hr⟩ := hj
  obtain ⟨rs', s', hlen', Hr'⟩ := hj'
  refine ACall.of Try.func25 s25 (of_decide_eq_true rfl) ?_
  have R := s.rulesN
  have R' := s'.rulesN
  simp only [hlen] at R
  simp only [hlen'] at R'
  simp (maxSteps := 4000000) (disch := omega) only [ah, am, Nat.reduceEqDiff, reduceCtorEq, Nat.reduceAdd, Nat.reduceLeDiff, Nat.reduceMul, Nat.reduceLT, if_true, if_false, true_and, and_true, and_self, Nat.reduceBEq, QOp.loads, boxO, bslO, buildO, cutL, fillV, putL, w25, v25, R, R']
  refine stepI.split (fun hp => ?_) (fun hp => ?_)
  rotate_left
  · simp (maxSteps := 4000000) (disch := omega) only [ah, am, Nat.reduceEqDiff, reduceCtorEq, Nat.reduceAdd, Nat.reduceLeDiff, Nat.reduceMul, Nat.reduceLT, if_true, if_false, true_and, and_true, and_self, Nat.reduceBEq, QOp.loads, boxO, bslO, buildO, cutL, fillV, putL, w25, v25]
    exact ⟨Ext.refl h, by rw [decide_eq_false]; rintro rfl; exact hp rfl⟩
  have hll : l.length = l'.length := by omega
  simp (maxSteps := 4000000) (disch := omega) only [ah, am, Nat.reduceEqDiff, reduceCtorEq, Nat.reduceAdd, Nat.reduceLeDiff, Nat.reduceMul, Nat.reduceLT, if_true, if_false, true_and, and_true, and_self, Nat.reduceBEq, QOp.loads, boxO, bslO, buildO, cutL, fillV, putL, w25, v25]
  refine SW_loop_up (fun i E H => E = [(0, v), (1, v'), (5, .int .i64 i)] ∧ Ext h H ∧ ∀ j (h1 : j < i) (h2 : j < l.length), l[j] = l'[j]) l.length 0 (by omega)
    ⟨rfl, .refl h, fun j h1 h2 => absurd h1 (by omega)⟩ ?_
  rintro i E H hi ⟨rfl, e, F⟩
  have R := (s.ext e).rulesN
  have R' := (s'.ext e).rulesN
  simp only [hlen] at R
  simp only [hlen'] at R'
  have W : IntKind.i64.wrap ((i : Int) + 1) = ((i + 1 : Nat) : Int) := i64e (by omega) (by omega)
  simp (maxSteps := 4000000) (disch := omega) only [ah, am, Nat.reduceEqDiff, reduceCtorEq, Nat.reduceAdd, Nat.reduceLeDiff, Nat.reduceMul, Nat.reduceLT, if_true, if_false, true_and, and_true, and_self, Nat.reduceBEq, QOp.loads, boxO, bslO, buildO, cutL, fillV, putL, w25, v25, R, R', W]
  refine stepI.split (fun hp => ?_) (fun hp => ?_)
  · have hi2 : i < l.length := by omega
    have A := (Hr i (by omega) hi2).ext e
    have A' := (Hr' i (by omega) (by omega)).ext e
    have B := totK_get l i hi2
    have B' := totK_get l' i (by omega)
    simp (maxSteps := 4000000) (disch := omega) only [ah, am, Nat.reduceEqDiff, reduceCtorEq, Nat.reduceAdd, Nat.reduceLeDiff, Nat.reduceMul, Nat.reduceLT, if_true, if_false, true_and, and_true, and_self, Nat.reduceBEq, QOp.loads, boxO, bslO, buildO, cutL, fillV, putL, w25, v25, R, R', encV, W]
    refine stepC.of (eqClipS_ok _ _ _ _ _ A A' (by omega) (by omega)) ?_
    rintro r H1 ⟨e1, rfl⟩
    simp (maxSteps := 4000000) (disch := omega) only [ah, am, Nat.reduceEqDiff, reduceCtorEq, Nat.reduceAdd, Nat.reduceLeDiff, Nat.reduceMul, Nat.reduceLT, if_true, if_false, true_and, and_true, and_self, Nat.reduceBEq, QOp.loads, boxO, bslO, buildO, cutL, fillV, putL, w25, v25, R, R', W]
    refine stepI.split (fun hq => ?_) (fun hq => ?_)
    · simp (maxSteps := 4000000) (disch := omega) only [ah, am, Nat.reduceEqDiff, reduceCtorEq, Nat.reduceAdd, Nat.reduceLeDiff, Nat.reduceMul, Nat.reduceLT, if_true, if_false, true_and, and_true, and_self, Nat.reduceBEq, QOp.loads, boxO, bslO, buildO, cutL, fillV, putL, w25, v25, W]
      exact ⟨hi2, e.trans e1, fun j h1 h2 => by
        by_cases hj : j = i
        · subst hj; exact hq
        · exact F j (by omega) h2⟩
    · simp (maxSteps := 4000000) (disch := omega) only [ah, am, Nat.reduceEqDiff, reduceCtorEq, Nat.reduceAdd, Nat.reduceLeDiff, Nat.reduceMul, Nat.reduceLT, if_true, if_false, true_and, and_true, and_self, Nat.reduceBEq, QOp.loads, boxO, bslO, buildO, cutL, fillV, putL, w25, v25, W]
      exact ⟨e.trans e1, by rw [decide_eq_false]; rintro rfl; exact hq rfl⟩
  · simp (maxSteps := 4000000) (disch := omega) only [ah, am, Nat.reduceEqDiff, reduceCtorEq, Nat.reduceAdd, Nat.reduceLeDiff, Nat.reduceMul, Nat.reduceLT, if_true, if_false, true_and, and_true, and_self, Nat.reduceBEq, QOp.loads, boxO, bslO, buildO, cutL, fillV, putL, w25, v25, R, W]
    refine ⟨e, ?_⟩
    rw [decide_eq_true]
    exact List.ext_getElem hll fun j h1 h2 => F j (by omega) h1
theorem markClipSS_mine {a b : Nat} {h : Heap} {v : Value} {l : List (List Clip)} (k : Int) (o : TracksOwn a b h v l) (hl : l.length ≤ 1048576) (hn : totK l ≤ 1048576) (hk : 0 ≤ k ∧ k ≤ 1000000000) :
    ACall Try.prog 26 [v, .int .i64 k] h fun r h' => Chg a b h h' ∧ r = .int .i64 (k + 3 * totK l) := by
  obtain ⟨rs, g, m0, hg, hgm, O, I⟩ := o
  have hlen := I.at.1
  have hb := I.le
  refine ACall.of Try.func26 s26 (of_decide_eq_true rfl) ?_
  have R := O.slt.rulesN
  simp only [hlen] at R
  simp (maxSteps := 4000000) (disch := omega) only [ah, am, Nat.reduceEqDiff, reduceCtorEq, Nat.reduceAdd, Nat.reduceLeDiff, Nat.reduceMul, Nat.reduceLT, if_true, if_false, true_and, and_true, and_self, Nat.reduceBEq, QOp.loads, boxO, bslO, buildO, cutL, fillV, putL, w26, v26, R]
  refine SW_loop_up (fun i E H => ∃ m, E = [(0, v), (1, .int .i64 (k + 3 * totK (l.take i))), (5, .int .i64 i)] ∧ Chg a b h H ∧ g < m ∧ OwnT g H encV 1 v rs ∧ InnC H m b (rs.drop i) (l.drop i)) l.length 0 (by omega)
    ⟨m0, by simp [totK], ⟨Nat.le_refl _, fun i ob hi _ => hi⟩, hgm, O, by simpa using I⟩ ?_
  rintro i E H hi ⟨m, rfl, C, hm, O, I⟩
  have R := O.slt.rulesN
  simp only [hlen] at R
  have hT := totK_le l i
  have W : IntKind.i64.wrap ((i : Int) + 1) = ((i + 1 : Nat) : Int) := i64e (by omega) (by omega)
  simp (maxSteps := 4000000) (disch := omega) only [ah, am, Nat.reduceEqDiff, reduceCtorEq, Nat.reduceAdd, Nat.reduceLeDiff, Nat.reduceMul, Nat.reduceLT, if_true, if_false, true_and, and_true, and_self, Nat.reduceBEq, QOp.loads, boxO, bslO, buildO, cutL, fillV, putL, w26, v26, R, W]
  refine stepI.split (fun hp => ?_) (fun hp => ?_)
  · have hi2 : i < l.length := by omega
    have hiq : i < rs.length := by omega
    have hT1 := totK_take l i hi2
    have hT2 := totK_le l (i + 1)
    rw [List.drop_eq_getElem_cons hiq, List.drop_eq_getElem_cons hi2] at I
    cases I with
    | cons _ m1 _ _ _ _ _ e1 M I =>
    have g1 := (I.le)
    simp (maxSteps := 4000000) (disch := omega) only [ah, am, Nat.reduceEqDiff, reduceCtorEq, Nat.reduceAdd, Nat.reduceLeDiff, Nat.reduceMul, Nat.reduceLT, if_true, if_false, true_and, and_true, and_self, Nat.reduceBEq, QOp.loads, boxO, bslO, buildO, cutL, fillV, putL, w26, v26, R, encV, W]
    refine stepC.of (markClipS_mine (k + 3 * totK (l.take i)) M (by omega) (by omega)) ?_
    rintro _ H3 ⟨C3, M3, rfl⟩
    have I3 := I.chg C3 (by omega)
    have O3 := ownT_chg C3 O (by omega)
    have ct : ∀ {x y z : Heap}, Chg a b x y → Chg a b y z → Chg a b x z := fun c d => ⟨Nat.le_trans c.1 d.1, fun i ob hi hg => d.2 i ob (c.2 i ob hi hg) hg⟩
    have C3' : Chg a b H H3 := ⟨C3.1, fun i ob hi hx => C3.2 i ob hi (by omega)⟩
    simp (maxSteps := 4000000) (disch := omega) only [ah, am, Nat.reduceEqDiff, reduceCtorEq, Nat.reduceAdd, Nat.reduceLeDiff, Nat.reduceMul, Nat.reduceLT, if_true, if_false, true_and, and_true, and_self, Nat.reduceBEq, QOp.loads, boxO, bslO, buildO, cutL, fillV, putL, w26, v26, W]
    refine ⟨hi2, m1, ?_, ct C C3', by omega, O3, I3⟩
    rw [hT1]
    simp only [List.cons.injEq, Prod.mk.injEq, Value.int.injEq, true_and, and_true]
    omega
  · simp (maxSteps := 4000000) (disch := omega) only [ah, am, Nat.reduceEqDiff, reduceCtorEq, Nat.reduceAdd, Nat.reduceLeDiff, Nat.reduceMul, Nat.reduceLT, if_true, if_false, true_and, and_true, and_self, Nat.reduceBEq, QOp.loads, boxO, bslO, buildO, cutL, fillV, putL, w26, v26]
    obtain rfl : i = l.length := by omega
    refine ⟨C, ?_⟩
    rw [List.take_length]
end Go.Proofs.Ytmippcfdakjhfaa
