import Derived.Test.YtbnkpligdcponaaN5
namespace Go.Proofs.Ytbnkpligdcponaa
open Go Go.Ah
set_option linter.unusedSimpArgs false
set_option linter.unusedVariables false
set_option maxRecDepth 10000
set_option maxHeartbeats 4000000
/-! 31 loop.example/g00066/laws.eqRunS: parameters 2, live [0, 1], slots [0:a, 1:b, 2:a, 3:b, 5:i] -/
def c31_0 : List SOper := [⟨some 4, .q (.mv (.c (.bool false))), none⟩]
def c31_1 : List SOper := [⟨some 6, .q (.mv (.t 0)), none⟩, ⟨some 7, .q (.len (.t 6)), none⟩, ⟨some 8, .q (.mv (.t 1)), none⟩, ⟨some 9, .q (.len (.t 8)), none⟩, ⟨some 10, .q (.bin .neq (.t 7) (.t 9)), none⟩]
def c31_2 : List SOper := [⟨some 4, .q (.mv (.c (.bool false))), none⟩]
def c31_3 : SCode := .seq (.region c31_2 [4]) .ret
def c31_4 : SCode := .cond (.t 10) c31_3 .skip
def c31_5 : SCode := .seq (.region c31_1 [0, 1, 10]) c31_4
def c31_6 : List SOper := [⟨some 5, .q (.mv (.c (.int .i64 0))), none⟩]
def c31_7 : List SOper := [⟨some 11, .q (.mv (.t 5)), none⟩, ⟨some 12, .q (.mv (.t 0)), none⟩, ⟨some 13, .q (.len (.t 12)), none⟩, ⟨some 14, .q (.bin .lss (.t 11) (.t 13)), none⟩]
def c31_8 : SCode := .cond (.t 14) .skip (.exit 0)
def c31_9 : SCode := .seq (.region c31_7 [0, 1, 5, 14]) c31_8
def c31_10 : List SOper := [⟨some 17, .q (.mv (.t 0)), none⟩, ⟨some 18, .q (.mv (.t 5)), none⟩, ⟨some 19, .q (.ia 4 (.t 17) (.t 18)), none⟩, ⟨some 20, .q (.ldn 4 (.t 19)), none⟩, ⟨some 21, .q (.mv (.t 1)), none⟩, ⟨some 22, .q (.mv (.t 5)), none⟩, ⟨some 23, .q (.ia 4 (.t 21) (.t 22)), none⟩, ⟨some 24, .q (.ldn 4 (.t 23)), none⟩, ⟨some 25, .e (.call 53 [(.t 20), (.t 24)]), none⟩, ⟨some 26, .q (.not (.t 25)), none⟩]
def c31_11 : List SOper := [⟨some 4, .q (.mv (.c (.bool false))), none⟩]
def c31_12 : SCode := .seq (.region c31_11 [4]) .ret
def c31_13 : SCode := .cond (.t 26) c31_12 .skip
def c31_14 : SCode := .seq (.region c31_10 [0, 1, 5, 26]) c31_13
def c31_15 : SCode := .block 1 c31_14
def c31_16 : List SOper := [⟨some 15, .q (.mv (.t 5)), none⟩, ⟨some 16, .q (.bin .add (.t 15) (.c (.int .i64 1))), none⟩, ⟨some 5, .q (.mv (.t 16)), none⟩]
def c31_17 : SCode := .seq c31_15 (.region c31_16 [0, 1, 5])
def c31_18 : SCode := .seq c31_9 c31_17
def c31_19 : SCode := .loop c31_18
def c31_20 : SCode := .block 0 c31_19
def c31_21 : SCode := .seq (.region c31_6 [0, 1, 5]) c31_20
def c31_22 : List SOper := [⟨some 4, .q (.mv (.c (.bool true))), none⟩]
def c31_23 : SCode := .seq (.region c31_22 [4]) .ret
def c31_24 : SCode := .seq c31_21 c31_23
def c31_25 : SCode := .seq c31_5 c31_24
def c31_26 : SCode := .seq (.region c31_0 [0, 1]) c31_25
def c31 : SCode := c31_26
theorem w31 : type_of% (And.intro (uR Try.prog c31_0.eq_1) (And.intro (uR Try.prog c31_1.eq_1) (And.intro (uR Try.prog c31_2.eq_1) (And.intro (uC Try.prog c31_3.eq_1) (And.intro (uC Try.prog c31_4.eq_1) (And.intro (uC Try.prog c31_5.eq_1) (And.intro (uR Try.prog c31_6.eq_1) (And.intro (uR Try.prog c31_7.eq_1) (And.intro (uC Try.prog c31_8.eq_1) (And.intro (uC Try.prog c31_9.eq_1) (And.intro (uR Try.prog c31_10.eq_1) (And.intro (uR Try.prog c31_11.eq_1) (And.intro (uC Try.prog c31_12.eq_1) (And.intro (uC Try.prog c31_13.eq_1) (And.intro (uC Try.prog c31_14.eq_1) (And.intro (uC Try.prog c31_15.eq_1) (And.intro (uR Try.prog c31_16.eq_1) (And.intro (uC Try.prog c31_17.eq_1) (And.intro (uC Try.prog c31_18.eq_1) (And.intro (uC Try.prog c31_19.eq_1) (And.intro (uC Try.prog c31_20.eq_1) (And.intro (uC Try.prog c31_21.eq_1) (And.intro (uR Try.prog c31_22.eq_1) (And.intro (uC Try.prog c31_23.eq_1) (And.intro (uC Try.prog c31_24.eq_1) (And.intro (uC Try.prog c31_25.eq_1) (And.intro (uC Try.prog c31_26.eq_1) (uC Try.prog c31.eq_1)))))))))))))))))))))))))))) := (And.intro (uR Try.prog c31_0.eq_1) (And.intro (uR Try.prog c31_1.eq_1) (And.intro (uR Try.prog c31_2.eq_1) (And.intro (uC Try.prog c31_3.eq_1) (And.intro (uC Try.prog c31_4.eq_1) (And.intro (uC Try.prog c31_5.eq_1) (And.intro (uR Try.prog c31_6.eq_1) (And.intro (uR Try.prog c31_7.eq_1) (And.intro (uC Try.prog c31_8.eq_1) (And.intro (uC Try.prog c31_9.eq_1) (And.intro (uR Try.prog c31_10.eq_1) (And.intro (uR Try.prog c31_11.eq_1) (And.intro (uC Try.prog c31_12.eq_1) (And.intro (uC Try.prog c31_13.eq_1) (And.intro (uC Try.prog c31_14.eq_1) (And.intro (uC Try.prog c31_15.eq_1) (And.intro (uR Try.prog c31_16.eq_1) (And.intro (uC Try.prog c31_17.eq_1) (And.intro (uC Try.prog c31_18.eq_1) (And.intro (uC Try.prog c31_19.eq_1) (And.intro (uC Try.prog c31_20.eq_1) (And.intro (uC Try.prog c31_21.eq_1) (And.intro (uR Try.prog c31_22.eq_1) (And.intro (uC Try.prog c31_23.eq_1) (And.intro (uC Try.prog c31_24.eq_1) (And.intro (uC Try.prog c31_25.eq_1) (And.intro (uC Try.prog c31_26.eq_1) (uC Try.prog c31.eq_1))))))))))))))))))))))))))))
def v31 : List RV := [.t 4]
theorem s31 : slimF Try.prog Try.f31 = some (c31.bare, v31) := by kernel_rfl

/-! 53 loop.example/g00066/laws.eqRun: parameters 2, live [0, 1], slots [0:a, 1:b, 2:a, 3:b] -/
def c53_0 : List SOper := [⟨some 2, .a (.box (.t 0)), none⟩, ⟨some 3, .a (.box (.t 1)), none⟩, ⟨some 4, .q (.mv (.c (.bool false))), none⟩]
def c53_1 : List SOper := [⟨some 5, .q (.fa 0 (.t 2)), none⟩, ⟨some 6, .q (.ld (.t 5)), none⟩, ⟨some 7, .q (.fa 0 (.t 3)), none⟩, ⟨some 8, .q (.ld (.t 7)), none⟩, ⟨some 9, .q (.bin .neq (.t 6) (.t 8)), none⟩]
def c53_2 : List SOper := [⟨some 4, .q (.mv (.c (.bool false))), none⟩]
def c53_3 : SCode := .seq (.region c53_2 [4]) .ret
def c53_4 : SCode := .cond (.t 9) c53_3 .skip
def c53_5 : SCode := .seq (.region c53_1 [2, 3, 9]) c53_4
def c53_6 : List SOper := [⟨some 10, .q (.fa 1 (.t 2)), none⟩, ⟨some 11, .q (.ld (.t 10)), none⟩, ⟨some 12, .q (.fa 1 (.t 3)), none⟩, ⟨some 13, .q (.ld (.t 12)), none⟩, ⟨some 14, .q (.bin .neq (.t 11) (.t 13)), none⟩]
def c53_7 : List SOper := [⟨some 4, .q (.mv (.c (.bool false))), none⟩]
def c53_8 : SCode := .seq (.region c53_7 [4]) .ret
def c53_9 : SCode := .cond (.t 14) c53_8 .skip
def c53_10 : SCode := .seq (.region c53_6 [2, 3, 14]) c53_9
def c53_11 : List SOper := [⟨some 15, .q (.fa 2 (.t 2)), none⟩, ⟨some 16, .q (.ld (.t 15)), none⟩, ⟨some 17, .q (.fa 2 (.t 3)), none⟩, ⟨some 18, .q (.ld (.t 17)), none⟩, ⟨some 19, .q (.bin .neq (.t 16) (.t 18)), none⟩]
def c53_12 : List SOper := [⟨some 4, .q (.mv (.c (.bool false))), none⟩]
def c53_13 : SCode := .seq (.region c53_12 [4]) .ret
def c53_14 : SCode := .cond (.t 19) c53_13 .skip
def c53_15 : SCode := .seq (.region c53_11 [2, 3, 19]) c53_14
def c53_16 : List SOper := [⟨some 20, .q (.fa 3 (.t 2)), none⟩, ⟨some 21, .q (.ld (.t 20)), none⟩, ⟨some 22, .q (.fa 3 (.t 3)), none⟩, ⟨some 23, .q (.ld (.t 22)), none⟩, ⟨some 24, .q (.bin .neq (.t 21) (.t 23)), none⟩]
def c53_17 : List SOper := [⟨some 4, .q (.mv (.c (.bool false))), none⟩]
def c53_18 : SCode := .seq (.region c53_17 [4]) .ret
def c53_19 : SCode := .cond (.t 24) c53_18 .skip
def c53_20 : SCode := .seq (.region c53_16 [24]) c53_19
def c53_21 : List SOper := [⟨some 4, .q (.mv (.c (.bool true))), none⟩]
def c53_22 : SCode := .seq (.region c53_21 [4]) .ret
def c53_23 : SCode := .seq c53_20 c53_22
def c53_24 : SCode := .seq c53_15 c53_23
def c53_25 : SCode := .seq c53_10 c53_24
def c53_26 : SCode := .seq c53_5 c53_25
def c53_27 : SCode := .seq (.region c53_0 [2, 3]) c53_26
def c53 : SCode := c53_27
theorem w53 : type_of% (And.intro (uR Try.prog c53_0.eq_1) (And.intro (uR Try.prog c53_1.eq_1) (And.intro (uR Try.prog c53_2.eq_1) (And.intro (uC Try.prog c53_3.eq_1) (And.intro (uC Try.prog c53_4.eq_1) (And.intro (uC Try.prog c53_5.eq_1) (And.intro (uR Try.prog c53_6.eq_1) (And.intro (uR Try.prog c53_7.eq_1) (And.intro (uC Try.prog c53_8.eq_1) (And.intro (uC Try.prog c53_9.eq_1) (And.intro (uC Try.prog c53_10.eq_1) (And.intro (uR Try.prog c53_11.eq_1) (And.intro (uR Try.prog c53_12.eq_1) (And.intro (uC Try.prog c53_13.eq_1) (And.intro (uC Try.prog c53_14.eq_1) (And.intro (uC Try.prog c53_15.eq_1) (And.intro (uR Try.prog c53_16.eq_1) (And.intro (uR Try.prog c53_17.eq_1) (And.intro (uC Try.prog c53_18.eq_1) (And.intro (uC Try.prog c53_19.eq_1) (And.intro (uC Try.prog c53_20.eq_1) (And.intro (uR Try.prog c53_21.eq_1) (And.intro (uC Try.prog c53_22.eq_1) (And.intro (uC Try.prog c53_23.eq_1) (And.intro (uC Try.prog c53_24.eq_1) (And.intro (uC Try.prog c53_25.eq_1) (And.intro (uC Try.prog c53_26.eq_1) (And.intro (uC Try.prog c53_27.eq_1) (uC Try.prog c53.eq_1))))))))))))))))))))))))))))) := (And.intro (uR Try.prog c53_0.eq_1) (And.intro (uR Try.prog c53_1.eq_1) (And.intro (uR Try.prog c53_2.eq_1) (And.intro (uC Try.prog c53_3.eq_1) (And.intro (uC Try.prog c53_4.eq_1) (And.intro (uC Try.prog c53_5.eq_1) (And.intro (uR Try.prog c53_6.eq_1) (And.intro (uR Try.prog c53_7.eq_1) (And.intro (uC Try.prog c53_8.eq_1) (And.intro (uC Try.prog c53_9.eq_1) (And.intro (uC Try.prog c53_10.eq_1) (And.intro (uR Try.prog c53_11.eq_1) (And.intro (uR Try.prog c53_12.eq_1) (And.intro (uC Try.prog c53_13.eq_1) (And.intro (uC Try.prog c53_14.eq_1) (And.intro (uC Try.prog c53_15.eq_1) (And.intro (uR Try.prog c53_16.eq_1) (And.intro (uR Try.prog c53_17.eq_1) (And.intro (uC Try.prog c53_18.eq_1) (And.intro (uC Try.prog c53_19.eq_1) (And.intro (uC Try.prog c53_20.eq_1) (And.intro (uR Try.prog c53_21.eq_1) (And.intro (uC Try.prog c53_22.eq_1) (And.intro (uC Try.prog c53_23.eq_1) (And.intro (uC Try.prog c53_24.eq_1) (And.intro (uC Try.prog c53_25.eq_1) (And.intro (uC Try.prog c53_26.eq_1) (And.intro (uC Try.prog c53_27.eq_1) (uC Try.prog c53.eq_1)))))))))))))))))))))))))))))
def v53 : List RV := [.t 4]
theorem s53 : slimF Try.prog Try.f53 = some (c53.bare, v53) := by kernel_rfl

/-! 32 loop.example/g00066/laws.markRunS: parameters 2, live [0, 1], slots [0:a, 1:k, 2:a, 3:k, 5:i] -/
def c32_0 : List SOper := [⟨some 4, .q (.mv (.c (.int .i64 0))), none⟩]
def c32_1 : List SOper := [⟨some 5, .q (.mv (.c (.int .i64 0))), none⟩]
def c32_2 : List SOper := [⟨some 6, .q (.mv (.t 5)), none⟩, ⟨some 7, .q (.mv (.t 0)), none⟩, ⟨some 8, .q (.len (.t 7)), none⟩, ⟨some 9, .q (.bin .lss (.t 6) (.t 8)), none⟩]
def c32_3 : SCode := .cond (.t 9) .skip (.exit 0)
def c32_4 : SCode := .seq (.region c32_2 [0, 1, 5, 9]) c32_3
def c32_5 : List SOper := [⟨some 12, .q (.mv (.t 0)), none⟩, ⟨some 13, .q (.mv (.t 5)), none⟩, ⟨some 14, .q (.mv (.t 1)), none⟩, ⟨some 15, .q (.ia 4 (.t 12) (.t 13)), none⟩, ⟨some 16, .q (.fa 0 (.t 15)), none⟩, ⟨none, .e (.st 1 (.t 16) (.t 14)), none⟩]
def c32_6 : List SOper := [⟨some 17, .q (.mv (.t 1)), none⟩, ⟨some 18, .q (.bin .add (.t 17) (.c (.int .i64 1))), none⟩, ⟨some 1, .q (.mv (.t 18)), none⟩]
def c32_7 : List SOper := [⟨some 19, .q (.mv (.t 0)), none⟩, ⟨some 20, .q (.mv (.t 5)), none⟩, ⟨some 21, .q (.mv (.t 1)), none⟩, ⟨some 22, .q (.ia 4 (.t 19) (.t 20)), none⟩, ⟨some 23, .q (.fa 1 (.t 22)), none⟩, ⟨none, .e (.st 1 (.t 23) (.t 21)), none⟩]
def c32_8 : List SOper := [⟨some 24, .q (.mv (.t 1)), none⟩, ⟨some 25, .q (.bin .add (.t 24) (.c (.int .i64 1))), none⟩, ⟨some 1, .q (.mv (.t 25)), none⟩]
def c32_9 : List SOper := [⟨some 26, .q (.mv (.t 0)), none⟩, ⟨some 27, .q (.mv (.t 5)), none⟩, ⟨some 28, .q (.mv (.t 1)), none⟩, ⟨some 29, .q (.ia 4 (.t 26) (.t 27)), none⟩, ⟨some 30, .q (.fa 2 (.t 29)), none⟩, ⟨none, .e (.st 1 (.t 30) (.t 28)), none⟩]
def c32_10 : List SOper := [⟨some 31, .q (.mv (.t 1)), none⟩, ⟨some 32, .q (.bin .add (.t 31) (.c (.int .i64 1))), none⟩, ⟨some 1, .q (.mv (.t 32)), none⟩]
def c32_11 : List SOper := [⟨some 33, .q (.mv (.t 0)), none⟩, ⟨some 34, .q (.mv (.t 5)), none⟩, ⟨some 35, .q (.mv (.t 1)), none⟩, ⟨some 36, .q (.ia 4 (.t 33) (.t 34)), none⟩, ⟨some 37, .q (.fa 3 (.t 36)), none⟩, ⟨none, .e (.st 1 (.t 37) (.t 35)), none⟩]
def c32_12 : List SOper := [⟨some 38, .q (.mv (.t 1)), none⟩, ⟨some 39, .q (.bin .add (.t 38) (.c (.int .i64 1))), none⟩, ⟨some 1, .q (.mv (.t 39)), none⟩]
def c32_13 : SCode := .seq (.region c32_11 [0, 1, 5]) (.region c32_12 [0, 1, 5])
def c32_14 : SCode := .seq (.region c32_10 [0, 1, 5]) c32_13
def c32_15 : SCode := .seq (.region c32_9 [0, 1, 5]) c32_14
def c32_16 : SCode := .seq (.region c32_8 [0, 1, 5]) c32_15
def c32_17 : SCode := .seq (.region c32_7 [0, 1, 5]) c32_16
def c32_18 : SCode := .seq (.region c32_6 [0, 1, 5]) c32_17
def c32_19 : SCode := .seq (.region c32_5 [0, 1, 5]) c32_18
def c32_20 : SCode := .block 1 c32_19
def c32_21 : List SOper := [⟨some 10, .q (.mv (.t 5)), none⟩, ⟨some 11, .q (.bin .add (.t 10) (.c (.int .i64 1))), none⟩, ⟨some 5, .q (.mv (.t 11)), none⟩]
def c32_22 : SCode := .seq c32_20 (.region c32_21 [0, 1, 5])
def c32_23 : SCode := .seq c32_4 c32_22
def c32_24 : SCode := .loop c32_23
def c32_25 : SCode := .block 0 c32_24
def c32_26 : SCode := .seq (.region c32_1 [0, 1, 5]) c32_25
def c32_27 : List SOper := [⟨some 40, .q (.mv (.t 1)), none⟩, ⟨some 4, .q (.mv (.t 40)), none⟩]
def c32_28 : SCode := .seq (.region c32_27 [4]) .ret
def c32_29 : SCode := .seq c32_26 c32_28
def c32_30 : SCode := .seq (.region c32_0 [0, 1]) c32_29
def c32 : SCode := c32_30
theorem w32 : type_of% (And.intro (uR Try.prog c32_0.eq_1) (And.intro (uR Try.prog c32_1.eq_1) (And.intro (uR Try.prog c32_2.eq_1) (And.intro (uC Try.prog c32_3.eq_1) (And.intro (uC Try.prog c32_4.eq_1) (And.intro (uR Try.prog c32_5.eq_1) (And.intro (uR Try.prog c32_6.eq_1) (And.intro (uR Try.prog c32_7.eq_1) (And.intro (uR Try.prog c32_8.eq_1) (And.intro (uR Try.prog c32_9.eq_1) (And.intro (uR Try.prog c32_10.eq_1) (And.intro (uR Try.prog c32_11.eq_1) (And.intro (uR Try.prog c32_12.eq_1) (And.intro (uC Try.prog c32_13.eq_1) (And.intro (uC Try.prog c32_14.eq_1) (And.intro (uC Try.prog c32_15.eq_1) (And.intro (uC Try.prog c32_16.eq_1) (And.intro (uC Try.prog c32_17.eq_1) (And.intro (uC Try.prog c32_18.eq_1) (And.intro (uC Try.prog c32_19.eq_1) (And.intro (uC Try.prog c32_20.eq_1) (And.intro (uR Try.prog c32_21.eq_1) (And.intro (uC Try.prog c32_22.eq_1) (And.intro (uC Try.prog c32_23.eq_1) (And.intro (uC Try.prog c32_24.eq_1) (And.intro (uC Try.prog c32_25.eq_1) (And.intro (uC Try.prog c32_26.eq_1) (And.intro (uR Try.prog c32_27.eq_1) (And.intro (uC Try.prog c32_28.eq_1) (And.intro (uC Try.prog c32_29.eq_1) (And.intro (uC Try.prog c32_30.eq_1) (uC Try.prog c32.eq_1)))))))))))))))))))))))))))))))) := (And.intro (uR Try.prog c32_0.eq_1) (And.intro (uR Try.prog c32_1.eq_1) (And.intro (uR Try.prog c32_2.eq_1) (And.intro (uC Try.prog c32_3.eq_1) (And.intro (uC Try.prog c32_4.eq_1) (And.intro (uR Try.prog c32_5.eq_1) (And.intro (uR Try.prog c32_6.eq_1) (And.intro (uR Try.prog c32_7.eq_1) (And.intro (uR Try.prog c32_8.eq_1) (And.intro (uR Try.prog c32_9.eq_1) (And.intro (uR Try.prog c32_10.eq_1) (And.intro (uR Try.prog c32_11.eq_1) (And.intro (uR Try.prog c32_12.eq_1) (And.intro (uC Try.prog c32_13.eq_1) (And.intro (uC Try.prog c32_14.eq_1) (And.intro (uC Try.prog c32_15.eq_1) (And.intro (uC Try.prog c32_16.eq_1) (And.intro (uC Try.prog c32_17.eq_1) (And.intro (uC Try.prog c32_18.eq_1) (And.intro (uC Try.prog c32_19.eq_1) (And.intro (uC Try.prog c32_20.eq_1) (And.intro (uR Try.prog c32_21.eq_1) (And.intro (uC Try.prog c32_22.eq_1) (And.intro (uC Try.prog c32_23.eq_1) (And.intro (uC Try.prog c32_24.eq_1) (And.intro (uC Try.prog c32_25.eq_1) (And.intro (uC Try.prog c32_26.eq_1) (And.intro (uR Try.prog c32_27.eq_1) (And.intro (uC Try.prog c32_28.eq_1) (And.intro (uC Try.prog c32_29.eq_1) (And.intro (uC Try.prog c32_30.eq_1) (uC Try.prog c32.eq_1))))))))))))))))))))))))))))))))
def v32 : List RV := [.t 4]
theorem s32 : slimF Try.prog Try.f32 = some (c32.bare, v32) := by kernel_rfl

/-! 33 loop.example/g00066/laws.heldRunS: parameters 2, live [0, 1], slots [0:a, 1:k, 2:a, 3:k, 5:i] -/
def c33_0 : List SOper := [⟨some 4, .q (.mv (.c (.int .i64 0))), none⟩]
def c33_1 : List SOper := [⟨some 5, .q (.mv (.c (.int .i64 0))), none⟩]
def c33_2 : List SOper := [⟨some 6, .q (.mv (.t 5)), none⟩, ⟨some 7, .q (.mv (.t 0)), none⟩, ⟨some 8, .q (.len (.t 7)), none⟩, ⟨some 9, .q (.bin .lss (.t 6) (.t 8)), none⟩]
def c33_3 : SCode := .cond (.t 9) .skip (.exit 0)
def c33_4 : SCode := .seq (.region c33_2 [0, 1, 5, 9]) c33_3
def c33_5 : List SOper := [⟨some 12, .q (.mv (.t 0)), none⟩, ⟨some 13, .q (.mv (.t 5)), none⟩, ⟨some 14, .q (.ia 4 (.t 12) (.t 13)), none⟩, ⟨some 15, .q (.fa 0 (.t 14)), none⟩, ⟨some 16, .q (.ld (.t 15)), none⟩, ⟨some 17, .q (.mv (.t 1)), none⟩, ⟨some 18, .q (.bin .neq (.t 16) (.t 17)), none⟩]
def c33_6 : List SOper := [⟨some 4, .q (.mv (.c (.int .i64 (-1)))), none⟩]
def c33_7 : SCode := .seq (.region c33_6 [4]) .ret
def c33_8 : SCode := .cond (.t 18) c33_7 .skip
def c33_9 : SCode := .seq (.region c33_5 [0, 1, 5, 18]) c33_8
def c33_10 : List SOper := [⟨some 19, .q (.mv (.t 1)), none⟩, ⟨some 20, .q (.bin .add (.t 19) (.c (.int .i64 1))), none⟩, ⟨some 1, .q (.mv (.t 20)), none⟩]
def c33_11 : List SOper := [⟨some 21, .q (.mv (.t 0)), none⟩, ⟨some 22, .q (.mv (.t 5)), none⟩, ⟨some 23, .q (.ia 4 (.t 21) (.t 22)), none⟩, ⟨some 24, .q (.fa 1 (.t 23)), none⟩, ⟨some 25, .q (.ld (.t 24)), none⟩, ⟨some 26, .q (.mv (.t 1)), none⟩, ⟨some 27, .q (.bin .neq (.t 25) (.t 26)), none⟩]
def c33_12 : List SOper := [⟨some 4, .q (.mv (.c (.int .i64 (-1)))), none⟩]
def c33_13 : SCode := .seq (.region c33_12 [4]) .ret
def c33_14 : SCode := .cond (.t 27) c33_13 .skip
def c33_15 : SCode := .seq (.region c33_11 [0, 1, 5, 27]) c33_14
def c33_16 : List SOper := [⟨some 28, .q (.mv (.t 1)), none⟩, ⟨some 29, .q (.bin .add (.t 28) (.c (.int .i64 1))), none⟩, ⟨some 1, .q (.mv (.t 29)), none⟩]
def c33_17 : List SOper := [⟨some 30, .q (.mv (.t 0)), none⟩, ⟨some 31, .q (.mv (.t 5)), none⟩, ⟨some 32, .q (.ia 4 (.t 30) (.t 31)), none⟩, ⟨some 33, .q (.fa 2 (.t 32)), none⟩, ⟨some 34, .q (.ld (.t 33)), none⟩, ⟨some 35, .q (.mv (.t 1)), none⟩, ⟨some 36, .q (.bin .neq (.t 34) (.t 35)), none⟩]
def c33_18 : List SOper := [⟨some 4, .q (.mv (.c (.int .i64 (-1)))), none⟩]
def c33_19 : SCode := .seq (.region c33_18 [4]) .ret
def c33_20 : SCode := .cond (.t 36) c33_19 .skip
def c33_21 : SCode := .seq (.region c33_17 [0, 1, 5, 36]) c33_20
def c33_22 : List SOper := [⟨some 37, .q (.mv (.t 1)), none⟩, ⟨some 38, .q (.bin .add (.t 37) (.c (.int .i64 1))), none⟩, ⟨some 1, .q (.mv (.t 38)), none⟩]
def c33_23 : List SOper := [⟨some 39, .q (.mv (.t 0)), none⟩, ⟨some 40, .q (.mv (.t 5)), none⟩, ⟨some 41, .q (.ia 4 (.t 39) (.t 40)), none⟩, ⟨some 42, .q (.fa 3 (.t 41)), none⟩, ⟨some 43, .q (.ld (.t 42)), none⟩, ⟨some 44, .q (.mv (.t 1)), none⟩, ⟨some 45, .q (.bin .neq (.t 43) (.t 44)), none⟩]
def c33_24 : List SOper := [⟨some 4, .q (.mv (.c (.int .i64 (-1)))), none⟩]
def c33_25 : SCode := .seq (.region c33_24 [4]) .ret
def c33_26 : SCode := .cond (.t 45) c33_25 .skip
def c33_27 : SCode := .seq (.region c33_23 [0, 1, 5, 45]) c33_26
def c33_28 : List SOper := [⟨some 46, .q (.mv (.t 1)), none⟩, ⟨some 47, .q (.bin .add (.t 46) (.c (.int .i64 1))), none⟩, ⟨some 1, .q (.mv (.t 47)), none⟩]
def c33_29 : SCode := .seq c33_27 (.region c33_28 [0, 1, 5])
def c33_30 : SCode := .seq (.region c33_22 [0, 1, 5]) c33_29
def c33_31 : SCode := .seq c33_21 c33_30
def c33_32 : SCode := .seq (.region c33_16 [0, 1, 5]) c33_31
def c33_33 : SCode := .seq c33_15 c33_32
def c33_34 : SCode := .seq (.region c33_10 [0, 1, 5]) c33_33
def c33_35 : SCode := .seq c33_9 c33_34
def c33_36 : SCode := .block 1 c33_35
def c33_37 : List SOper := [⟨some 10, .q (.mv (.t 5)), none⟩, ⟨some 11, .q (.bin .add (.t 10) (.c (.int .i64 1))), none⟩, ⟨some 5, .q (.mv (.t 11)), none⟩]
def c33_38 : SCode := .seq c33_36 (.region c33_37 [0, 1, 5])
def c33_39 : SCode := .seq c33_4 c33_38
def c33_40 : SCode := .loop c33_39
def c33_41 : SCode := .block 0 c33_40
def c33_42 : SCode := .seq (.region c33_1 [0, 1, 5]) c33_41
def c33_43 : List SOper := [⟨some 48, .q (.mv (.t 1)), none⟩, ⟨some 4, .q (.mv (.t 48)), none⟩]
def c33_44 : SCode := .seq (.region c33_43 [4]) .ret
def c33_45 : SCode := .seq c33_42 c33_44
def c33_46 : SCode := .seq (.region c33_0 [0, 1]) c33_45
def c33 : SCode := c33_46
theorem w33 : type_of% (And.intro (uR Try.prog c33_0.eq_1) (And.intro (uR Try.prog c33_1.eq_1) (And.intro (uR Try.prog c33_2.eq_1) (And.intro (uC Try.prog c33_3.eq_1) (And.intro (uC Try.prog c33_4.eq_1) (And.intro (uR Try.prog c33_5.eq_1) (And.intro (uR Try.prog c33_6.eq_1) (And.intro (uC Try.prog c33_7.eq_1) (And.intro (uC Try.prog c33_8.eq_1) (And.intro (uC Try.prog c33_9.eq_1) (And.intro (uR Try.prog c33_10.eq_1) (And.intro (uR Try.prog c33_11.eq_1) (And.intro (uR Try.prog c33_12.eq_1) (And.intro (uC Try.prog c33_13.eq_1) (And.intro (uC Try.prog c33_14.eq_1) (And.intro (uC Try.prog c33_15.eq_1) (And.intro (uR Try.prog c33_16.eq_1) (And.intro (uR Try.prog c33_17.eq_1) (And.intro (uR Try.prog c33_18.eq_1) (And.intro (uC Try.prog c33_19.eq_1) (And.intro (uC Try.prog c33_20.eq_1) (And.intro (uC Try.prog c33_21.eq_1) (And.intro (uR Try.prog c33_22.eq_1) (And.intro (uR Try.prog c33_23.eq_1) (And.intro (uR Try.prog c33_24.eq_1) (And.intro (uC Try.prog c33_25.eq_1) (And.intro (uC Try.prog c33_26.eq_1) (And.intro (uC Try.prog c33_27.eq_1) (And.intro (uR Try.prog c33_28.eq_1) (And.intro (uC Try.prog c33_29.eq_1) (And.intro (uC Try.prog c33_30.eq_1) (And.intro (uC Try.prog c33_31.eq_1) (And.intro (uC Try.prog c33_32.eq_1) (And.intro (uC Try.prog c33_33.eq_1) (And.intro (uC Try.prog c33_34.eq_1) (And.intro (uC Try.prog c33_35.eq_1) (And.intro (uC Try.prog c33_36.eq_1) (And.intro (uR Try.prog c33_37.eq_1) (And.intro (uC Try.prog c33_38.eq_1) (And.intro (uC Try.prog c33_39.eq_1) (And.intro (uC Try.prog c33_40.eq_1) (And.intro (uC Try.prog c33_41.eq_1) (And.intro (uC Try.prog c33_42.eq_1) (And.intro (uR Try.prog c33_43.eq_1) (And.intro (uC Try.prog c33_44.eq_1) (And.intro (uC Try.prog c33_45.eq_1) (And.intro (uC Try.prog c33_46.eq_1) (uC Try.prog c33.eq_1)))))))))))))))))))))))))))))))))))))))))))))))) := (And.intro (uR Try.prog c33_0.eq_1) (And.intro (uR Try.prog c33_1.eq_1) (And.intro (uR Try.prog c33_2.eq_1) (And.intro (uC Try.prog c33_3.eq_1) (And.intro (uC Try.prog c33_4.eq_1) (And.intro (uR Try.prog c33_5.eq_1) (And.intro (uR Try.prog c33_6.eq_1) (And.intro (uC Try.prog c33_7.eq_1) (And.intro (uC Try.prog c33_8.eq_1) (And.intro (uC Try.prog c33_9.eq_1) (And.intro (uR Try.prog c33_10.eq_1) (And.intro (uR Try.prog c33_11.eq_1) (And.intro (uR Try.prog c33_12.eq_1) (And.intro (uC Try.prog c33_13.eq_1) (And.intro (uC Try.prog c33_14.eq_1) (And.intro (uC Try.prog c33_15.eq_1) (And.intro (uR Try.prog c33_16.eq_1) (And.intro (uR Try.prog c33_17.eq_1) (And.intro (uR Try.prog c33_18.eq_1) (And.intro (uC Try.prog c33_19.eq_1) (And.intro (uC Try.prog c33_20.eq_1) (And.intro (uC Try.prog c33_21.eq_1) (And.intro (uR Try.prog c33_22.eq_1) (And.intro (uR Try.prog c33_23.eq_1) (And.intro (uR Try.prog c33_24.eq_1) (And.intro (uC Try.prog c33_25.eq_1) (And.intro (uC Try.prog c33_26.eq_1) (And.intro (uC Try.prog c33_27.eq_1) (And.intro (uR Try.prog c33_28.eq_1) (And.intro (uC Try.prog c33_29.eq_1) (And.intro (uC Try.prog c33_30.eq_1) (And.intro (uC Try.prog c33_31.eq_1) (And.intro (uC Try.prog c33_32.eq_1) (And.intro (uC Try.prog c33_33.eq_1) (And.intro (uC Try.prog c33_34.eq_1) (And.intro (uC Try.prog c33_35.eq_1) (And.intro (uC Try.prog c33_36.eq_1) (And.intro (uR Try.prog c33_37.eq_1) (And.intro (uC Try.prog c33_38.eq_1) (And.intro (uC Try.prog c33_39.eq_1) (And.intro (uC Try.prog c33_40.eq_1) (And.intro (uC Try.prog c33_41.eq_1) (And.intro (uC Try.prog c33_42.eq_1) (And.intro (uR Try.prog c33_43.eq_1) (And.intro (uC Try.prog c33_44.eq_1) (And.intro (uC Try.prog c33_45.eq_1) (And.intro (uC Try.prog c33_46.eq_1) (uC Try.prog c33.eq_1))))))))))))))))))))))))))))))))))))))))))))))))
def v33 : List RV := [.t 4]
theorem s33 : slimF Try.prog Try.f33 = some (c33.bare, v33) := by kernel_rfl

structure Run where
  task : Int
  worker : Int
  fr : Int
  to : Int
  deriving DecidableEq
def zRun : Run := ⟨0, 0, 0, 0⟩
def encRun (k : Run) : List Value := [.int .i64 k.task, .int .i64 k.worker, .int .i64 k.fr, .int .i64 k.to]
theorem encRun_len (k : Run) : (encRun k).length = 4 := rfl
theorem eqRun_ok (h : Heap) (k k' : Run) : ACall Try.prog 53 [.agg (encRun k).toArray, .agg (encRun k').toArray] h
    fun r h' => Ext h h' ∧ r = .bool (decide (k = k')) := by
  obtain ⟨a, b, c, d⟩ := k; obtain ⟨a', b', c', d'⟩ := k'
  refine ACall.of Try.func53 s53 (of_decide_eq_true rfl) ?_
  simp (maxSteps := 4000000) (disch := omega) only [ah, am, Nat.reduceEqDiff, reduceCtorEq, Nat.reduceAdd, Nat.reduceLeDiff, Nat.reduceMul, Nat.reduceLT, if_true, if_false, true_and, and_true, and_self, Nat.reduceBEq, QOp.loads, boxO, bslO, buildO, cutL, fillV, putL, w53, v53, encRun, stepI_dec]
  repeat' split
  all_goals exact ⟨Ext.more _ _, by simp [*]⟩
theorem eqRunS_ok (h : Heap) (v v' : Value) (l l' : List Run) (hs : SlT h encRun 4 v l) (hs' : SlT h encRun 4 v' l') (hl : l.length ≤ 281474976710656) (hl' : l'.length ≤ 281474976710656) :
    ACall Try.prog 31 [v, v'] h fun r h' => Ext h h' ∧ r = .bool (decide (l = l')) := by
  refine ACall.of Try.func31 s31 (of_decide_eq_true rfl) ?_
  have R := hs.rulesN
  have R' := hs'.rulesN
  simp (maxSteps := 4000000) (disch := omega) only [ah, am, Nat.reduceEqDiff, reduceCtorEq, Nat.reduceAdd, Nat.reduceLeDiff, Nat.reduceMul, Nat.reduceLT, if_true, if_false, true_and, and_true, and_self, Nat.reduceBEq, QOp.loads, boxO, bslO, buildO, cutL, fillV, putL, w31, v31, R, R']
  refine stepI.split (fun hp => ?_) (fun hp => ?_)
  rotate_left
  · simp (maxSteps := 4000000) (disch := omega) only [ah, am, Nat.reduceEqDiff, reduceCtorEq, Nat.reduceAdd, Nat.reduceLeDiff, Nat.reduceMul, Nat.reduceLT, if_true, if_false, true_and, and_true, and_self, Nat.reduceBEq, QOp.loads, boxO, bslO, buildO, cutL, fillV, putL, w31, v31]
    exact ⟨Ext.refl h, by rw [decide_eq_false]; rintro rfl; exact hp rfl⟩
  have hll : l.length = l'.length := by omega
  simp (maxSteps := 4000000) (disch := omega) only [ah, am, Nat.reduceEqDiff, reduceCtorEq, Nat.reduceAdd, Nat.reduceLeDiff, Nat.reduceMul, Nat.reduceLT, if_true, if_false, true_and, and_true, and_self, Nat.reduceBEq, QOp.loads, boxO, bslO, buildO, cutL, fillV, putL, w31, v31]
  refine SW_loop_up (fun i E' H => E' = [(0, v), (1, v'), (5, .int .i64 i)] ∧ Ext h H ∧ ∀ j (h1 : j < i) (h2 : j < l.length), l[j] = l'[j]) l.length 0 (by omega)
    ⟨rfl, .refl h, fun j h1 h2 => absurd h1 (by omega)⟩ ?_
  rintro i E' H hi ⟨rfl, e, F⟩
  have R := (hs.ext e).rulesN
  have R' := (hs'.ext e).rulesN
  have W : IntKind.i64.wrap ((i : Int) + 1) = ((i + 1 : Nat) : Int) := i64e (by omega) (by omega)
  simp (maxSteps := 4000000) (disch := omega) only [ah, am, Nat.reduceEqDiff, reduceCtorEq, Nat.reduceAdd, Nat.reduceLeDiff, Nat.reduceMul, Nat.reduceLT, if_true, if_false, true_and, and_true, and_self, Nat.reduceBEq, QOp.loads, boxO, bslO, buildO, cutL, fillV, putL, w31, v31, R, R', W]
  refine stepI.split (fun hp => ?_) (fun hp => ?_)
  · simp (maxSteps := 4000000) (disch := omega) only [ah, am, Nat.reduceEqDiff, reduceCtorEq, Nat.reduceAdd, Nat.reduceLeDiff, Nat.reduceMul, Nat.reduceLT, if_true, if_false, true_and, and_true, and_self, Nat.reduceBEq, QOp.loads, boxO, bslO, buildO, cutL, fillV, putL, w31, v31, R, R', W]
    refine stepC.of (eqRun_ok _ _ _) ?_
    rintro r H1 ⟨e1, rfl⟩
    simp (maxSteps := 4000000) (disch := omega) only [ah, am, Nat.reduceEqDiff, reduceCtorEq, Nat.reduceAdd, Nat.reduceLeDiff, Nat.reduceMul, Nat.reduceLT, if_true, if_false, true_and, and_true, and_self, Nat.reduceBEq, QOp.loads, boxO, bslO, buildO, cutL, fillV, putL, w31, v31, R, R', W]
    refine stepI.split (fun hq => ?_) (fun hq => ?_)
    · simp (maxSteps := 4000000) (disch := omega) only [ah, am, Nat.reduceEqDiff, reduceCtorEq, Nat.reduceAdd, Nat.reduceLeDiff, Nat.reduceMul, Nat.reduceLT, if_true, if_false, true_and, and_true, and_self, Nat.reduceBEq, QOp.loads, boxO, bslO, buildO, cutL, fillV, putL, w31, v31, W]
      exact ⟨by omega, e.trans e1, fun j h1 h2 => by
        by_cases hj : j = i
        · subst hj; exact hq
        · exact F j (by omega) h2⟩
    · simp (maxSteps := 4000000) (disch := omega) only [ah, am, Nat.reduceEqDiff, reduceCtorEq, Nat.reduceAdd, Nat.reduceLeDiff, Nat.reduceMul, Nat.reduceLT, if_true, if_false, true_and, and_true, and_self, Nat.reduceBEq, QOp.loads, boxO, bslO, buildO, cutL, fillV, putL, w31, v31, W]
      exact ⟨e.trans e1, by rw [decide_eq_false]; rintro rfl; exact hq rfl⟩
  · simp (maxSteps := 4000000) (disch := omega) only [ah, am, Nat.reduceEqDiff, reduceCtorEq, Nat.reduceAdd, Nat.reduceLeDiff, Nat.reduceMul, Nat.reduceLT, if_true, if_false, true_and, and_true, and_self, Nat.reduceBEq, QOp.loads, boxO, bslO, buildO, cutL, fillV, putL, w31, v31, R, W]
    refine ⟨e, ?_⟩
    rw [decide_eq_true]
    exact List.ext_getElem hll fun j h1 h2 => F j (by omega) h1
def markRun (k : Int) (n : Nat) : List Run := (List.range n).map fun i : Nat => ⟨k + 4 * (i : Int), k + 4 * (i : Int) + 1, k + 4 * (i : Int) + 2, k + 4 * (i : Int) + 3⟩
theorem markRunS_ok (h : Heap) (g : Nat) (v : Value) (l : List Run) (k : Int) (o : OwnT g h encRun 4 v l) (hl : l.length ≤ 1000000000) (hk : 0 ≤ k ∧ k ≤ 1000000000000) :
    ACall Try.prog 32 [v, .int .i64 k] h fun r h' => ExtG g h h' ∧ OwnT g h' encRun 4 v (markRun k l.length) ∧ r = .int .i64 (k + 4 * l.length) := by
  refine ACall.of Try.func32 s32 (of_decide_eq_true rfl) ?_
  have R := o.slt.rulesN
  simp (maxSteps := 4000000) (disch := omega) only [ah, am, Nat.reduceEqDiff, reduceCtorEq, Nat.reduceAdd, Nat.reduceLeDiff, Nat.reduceMul, Nat.reduceLT, if_true, if_false, true_and, and_true, and_self, Nat.reduceBEq, QOp.loads, boxO, bslO, buildO, cutL, fillV, putL, w32, v32, R]
  refine SW_loop_up (fun i E' H => E' = [(0, v), (1, .int .i64 (k + 4 * i)), (5, .int .i64 i)] ∧ ExtG g h H ∧ OwnT g H encRun 4 v (markRun k i ++ l.drop i)) l.length 0 (by omega)
    ⟨by simp, ExtG.refl g h, by simpa [markRun] using o⟩ ?_
  rintro i E' H hi ⟨rfl, e, O⟩
  have hlen : (markRun k i ++ l.drop i).length = l.length := by simp [markRun]; omega
  have R := O.slt.rulesN
  simp only [hlen] at R
  have W : IntKind.i64.wrap ((i : Int) + 1) = ((i + 1 : Nat) : Int) := i64e (by omega) (by omega)
  have W1 : IntKind.i64.wrap (k + 4 * (i : Int) + 1) = k + 4 * (i : Int) + 1 := i64e (by omega) (by omega)
  have W2 : IntKind.i64.wrap (k + 4 * (i : Int) + 1 + 1) = k + 4 * (i : Int) + 2 := i64e (by omega) (by omega)
  have W3 : IntKind.i64.wrap (k + 4 * (i : Int) + 2 + 1) = k + 4 * (i : Int) + 3 := i64e (by omega) (by omega)
  have W4 : IntKind.i64.wrap (k + 4 * (i : Int) + 3 + 1) = k + 4 * ((i + 1 : Nat) : Int) := i64e (by omega) (by omega)
  simp (maxSteps := 4000000) (disch := omega) only [ah, am, Nat.reduceEqDiff, reduceCtorEq, Nat.reduceAdd, Nat.reduceLeDiff, Nat.reduceMul, Nat.reduceLT, if_true, if_false, true_and, and_true, and_self, Nat.reduceBEq, QOp.loads, boxO, bslO, buildO, cutL, fillV, putL, w32, v32, R, W]
  refine stepI.split (fun hp => ?_) (fun hp => ?_)
  · have hj : i < (markRun k i ++ l.drop i).length := by omega
    obtain ⟨H1, es1, O1, G1, -⟩ := O.setF (j := i) (f := 0) (n := 1) (y := .int .i64 (k + 4 * (i : Int))) (x := ⟨(k + 4 * (i : Int)), ((markRun k i ++ l.drop i)[i]).worker, ((markRun k i ++ l.drop i)[i]).fr, ((markRun k i ++ l.drop i)[i]).to⟩) (by simpa using hj) (by simp [encRun, splice, cells_int]) (by omega) rfl (by omega) rfl
    obtain ⟨H2, es2, O2, G2, -⟩ := O1.setF (j := i) (f := 1) (n := 1) (y := .int .i64 (k + 4 * (i : Int) + 1)) (x := ⟨(k + 4 * (i : Int)), (k + 4 * (i : Int) + 1), ((markRun k i ++ l.drop i)[i]).fr, ((markRun k i ++ l.drop i)[i]).to⟩) (by simpa using hj) (by simp [encRun, splice, cells_int]) (by omega) rfl (by omega) rfl
    obtain ⟨H3, es3, O3, G3, -⟩ := O2.setF (j := i) (f := 2) (n := 1) (y := .int .i64 (k + 4 * (i : Int) + 2)) (x := ⟨(k + 4 * (i : Int)), (k + 4 * (i : Int) + 1), (k + 4 * (i : Int) + 2), ((markRun k i ++ l.drop i)[i]).to⟩) (by simpa using hj) (by simp [encRun, splice, cells_int]) (by omega) rfl (by omega) rfl
    obtain ⟨H4, es4, O4, G4, -⟩ := O3.setF (j := i) (f := 3) (n := 1) (y := .int .i64 (k + 4 * (i : Int) + 3)) (x := ⟨(k + 4 * (i : Int)), (k + 4 * (i : Int) + 1), (k + 4 * (i : Int) + 2), (k + 4 * (i : Int) + 3)⟩) (by simpa using hj) (by simp [encRun, splice, cells_int]) (by omega) rfl (by omega) rfl
    simp only [List.set_set] at O4
    simp only [Nat.add_zero] at es1
    simp (maxSteps := 4000000) (disch := omega) only [ah, am, Nat.reduceEqDiff, reduceCtorEq, Nat.reduceAdd, Nat.reduceLeDiff, Nat.reduceMul, Nat.reduceLT, if_true, if_false, true_and, and_true, and_self, Nat.reduceBEq, QOp.loads, boxO, bslO, buildO, cutL, fillV, putL, w32, v32, R, es1, es2, es3, es4, W, W1, W2, W3, W4]
    refine ⟨by omega, ((((e.trans G1).trans G2).trans G3).trans G4), ?_⟩
    have := mark_stepG (fun i : Nat => (⟨k + 4 * (i : Int), k + 4 * (i : Int) + 1, k + 4 * (i : Int) + 2, k + 4 * (i : Int) + 3⟩ : Run)) l i (by omega)
    unfold markRun at O4 ⊢
    rw [← this]; exact O4
  · simp (maxSteps := 4000000) (disch := omega) only [ah, am, Nat.reduceEqDiff, reduceCtorEq, Nat.reduceAdd, Nat.reduceLeDiff, Nat.reduceMul, Nat.reduceLT, if_true, if_false, true_and, and_true, and_self, Nat.reduceBEq, QOp.loads, boxO, bslO, buildO, cutL, fillV, putL, w32, v32]
    obtain rfl : i = l.length := by omega
    exact ⟨e, by simpa using O, rfl⟩
theorem markRunS_mine {a b : Nat} {h : Heap} {v : Value} {l : List Run} (k : Int) (m : Mine a b h encRun 4 v l) (hl : l.length ≤ 1000000000) (hk : 0 ≤ k ∧ k ≤ 1000000000000) :
    ACall Try.prog 32 [v, .int .i64 k] h fun r h' => Chg a b h h' ∧ Mine a b h' encRun 4 v (markRun k l.length) ∧ r = .int .i64 (k + 4 * l.length) :=
  ACall.mine m (fun g o => markRunS_ok h g v l k o hl hk) (fun e => by rw [e]; rfl)
theorem heldRunS_ok (h : Heap) (v : Value) (n : Nat) (k : Int) (s : SlT h encRun 4 v (markRun k n)) (hl : n ≤ 1000000000) (hk : 0 ≤ k ∧ k ≤ 1000000000000) :
    ACall Try.prog 33 [v, .int .i64 k] h fun r h' => h' = h ∧ r = .int .i64 (k + 4 * n) := by
  refine ACall.of Try.func33 s33 (of_decide_eq_true rfl) ?_
  have R := s.rulesN
  have hn : (markRun k n).length = n := by simp [markRun]
  simp only [hn] at R
  simp (maxSteps := 4000000) (disch := omega) only [ah, am, Nat.reduceEqDiff, reduceCtorEq, Nat.reduceAdd, Nat.reduceLeDiff, Nat.reduceMul, Nat.reduceLT, if_true, if_false, true_and, and_true, and_self, Nat.reduceBEq, QOp.loads, boxO, bslO, buildO, cutL, fillV, putL, w33, v33, R]
  refine SW_loop_up (fun i E' H => E' = [(0, v), (1, .int .i64 (k + 4 * i)), (5, .int .i64 i)] ∧ H = h) n 0 (by omega) ⟨by simp, rfl⟩ ?_
  rintro i E' H hi ⟨rfl, rfl⟩
  have W : IntKind.i64.wrap ((i : Int) + 1) = ((i + 1 : Nat) : Int) := i64e (by omega) (by omega)
  have W1 : IntKind.i64.wrap (k + 4 * (i : Int) + 1) = k + 4 * (i : Int) + 1 := i64e (by omega) (by omega)
  have W2 : IntKind.i64.wrap (k + 4 * (i : Int) + 1 + 1) = k + 4 * (i : Int) + 2 := i64e (by omega) (by omega)
  have W3 : IntKind.i64.wrap (k + 4 * (i : Int) + 2 + 1) = k + 4 * (i : Int) + 3 := i64e (by omega) (by omega)
  have W4 : IntKind.i64.wrap (k + 4 * (i : Int) + 3 + 1) = k + 4 * ((i + 1 : Nat) : Int) := i64e (by omega) (by omega)
  simp (maxSteps := 4000000) (disch := omega) only [ah, am, Nat.reduceEqDiff, reduceCtorEq, Nat.reduceAdd, Nat.reduceLeDiff, Nat.reduceMul, Nat.reduceLT, if_true, if_false, true_and, and_true, and_self, Nat.reduceBEq, QOp.loads, boxO, bslO, buildO, cutL, fillV, putL, w33, v33, R, W]
  refine stepI.split (fun hp => ?_) (fun hp => ?_)
  · have g : ∀ (hj : i < (markRun k n).length), encRun (markRun k n)[i] = [.int .i64 (k + 4 * (i : Int)), .int .i64 (k + 4 * (i : Int) + 1), .int .i64 (k + 4 * (i : Int) + 2), .int .i64 (k + 4 * (i : Int) + 3)] := by
      intro hj; simp [markRun, encRun]
    simp (maxSteps := 4000000) (disch := omega) only [ah, am, Nat.reduceEqDiff, reduceCtorEq, Nat.reduceAdd, Nat.reduceLeDiff, Nat.reduceMul, Nat.reduceLT, if_true, if_false, true_and, and_true, and_self, Nat.reduceBEq, QOp.loads, boxO, bslO, buildO, cutL, fillV, putL, w33, v33, R, g, W, W1, W2, W3, W4, decide_true, stepI_true]
    omega
  · simp (maxSteps := 4000000) (disch := omega) only [ah, am, Nat.reduceEqDiff, reduceCtorEq, Nat.reduceAdd, Nat.reduceLeDiff, Nat.reduceMul, Nat.reduceLT, if_true, if_false, true_and, and_true, and_self, Nat.reduceBEq, QOp.loads, boxO, bslO, buildO, cutL, fillV, putL, w33, v33]
    obtain rfl : i = n := by omega
    rfl
end Go.Proofs.Ytbnkpligdcponaa
