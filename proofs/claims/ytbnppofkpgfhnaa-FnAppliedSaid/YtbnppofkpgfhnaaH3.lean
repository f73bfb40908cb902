import Derived.Test.YtbnppofkpgfhnaaL0
namespace Go.Proofs.Ytbnppofkpgfhnaa
open Go Go.Ah
set_option linter.unusedSimpArgs false
set_option linter.unusedVariables false
set_option maxRecDepth 10000
set_option maxHeartbeats 4000000
/-! 21 loop.example/g00066/laws.szChangeS: parameters 2, live [0, 1], slots [0:a, 1:left, 2:a, 3:left] -/
def c21_0 : List SOper := [⟨some 4, .q (.mv (.c (.int .i64 0))), none⟩]
def c21_1 : List SOper := [⟨some 5, .q (.mv (.t 1)), none⟩, ⟨some 6, .q (.mv (.t 0)), none⟩, ⟨some 7, .q (.len (.t 6)), none⟩, ⟨some 8, .q (.bin .sub (.t 5) (.t 7)), none⟩, ⟨some 1, .q (.mv (.t 8)), none⟩]
def c21_2 : List SOper := [⟨some 9, .q (.mv (.t 1)), none⟩, ⟨some 10, .q (.bin .lss (.t 9) (.c (.int .i64 0))), none⟩]
def c21_3 : List SOper := [⟨some 4, .q (.mv (.c (.int .i64 (-1)))), none⟩]
def c21_4 : SCode := .seq (.region c21_3 [4]) .ret
def c21_5 : SCode := .cond (.t 10) c21_4 .skip
def c21_6 : SCode := .seq (.region c21_2 [1, 10]) c21_5
def c21_7 : List SOper := [⟨some 11, .q (.mv (.t 1)), none⟩, ⟨some 4, .q (.mv (.t 11)), none⟩]
def c21_8 : SCode := .seq (.region c21_7 [4]) .ret
def c21_9 : SCode := .seq c21_6 c21_8
def c21_10 : SCode := .seq (.region c21_1 [1]) c21_9
def c21_11 : SCode := .seq (.region c21_0 [0, 1]) c21_10
def c21 : SCode := c21_11
theorem w21 : type_of% (And.intro (uR Try.prog c21_0.eq_1) (And.intro (uR Try.prog c21_1.eq_1) (And.intro (uR Try.prog c21_2.eq_1) (And.intro (uR Try.prog c21_3.eq_1) (And.intro (uC Try.prog c21_4.eq_1) (And.intro (uC Try.prog c21_5.eq_1) (And.intro (uC Try.prog c21_6.eq_1) (And.intro (uR Try.prog c21_7.eq_1) (And.intro (uC Try.prog c21_8.eq_1) (And.intro (uC Try.prog c21_9.eq_1) (And.intro (uC Try.prog c21_10.eq_1) (And.intro (uC Try.prog c21_11.eq_1) (uC Try.prog c21.eq_1))))))))))))) := (And.intro (uR Try.prog c21_0.eq_1) (And.intro (uR Try.prog c21_1.eq_1) (And.intro (uR Try.prog c21_2.eq_1) (And.intro (uR Try.prog c21_3.eq_1) (And.intro (uC Try.prog c21_4.eq_1) (And.intro (uC Try.prog c21_5.eq_1) (And.intro (uC Try.prog c21_6.eq_1) (And.intro (uR Try.prog c21_7.eq_1) (And.intro (uC Try.prog c21_8.eq_1) (And.intro (uC Try.prog c21_9.eq_1) (And.intro (uC Try.prog c21_10.eq_1) (And.intro (uC Try.prog c21_11.eq_1) (uC Try.prog c21.eq_1)))))))))))))
def v21 : List RV := [.t 4]
theorem s21 : slimF Try.prog Try.f21 = some (c21.bare, v21) := by kernel_rfl

/-! 24 loop.example/g00066/laws.toChangeS: parameters 1, live [0], slots [0:a, 1:a, 3:out, 4:i] -/
def c24_0 : List SOper := [⟨some 2, .q (.mv (.c (.slice none 0 0))), none⟩]
def c24_1 : List SOper := [⟨some 5, .q (.mv (.t 0)), none⟩, ⟨some 6, .q (.len (.t 5)), none⟩, ⟨some 7, .a (.mks 32 4 [(.int .i64 0), (.int .i64 0), (.int .i64 0), (.int .i64 0)] (.t 6) (.t 6)), none⟩, ⟨some 3, .q (.mv (.t 7)), none⟩]
def c24_2 : List SOper := [⟨some 4, .q (.mv (.c (.int .i64 0))), none⟩]
def c24_3 : List SOper := [⟨some 8, .q (.mv (.t 4)), none⟩, ⟨some 9, .q (.mv (.t 0)), none⟩, ⟨some 10, .q (.len (.t 9)), none⟩, ⟨some 11, .q (.bin .lss (.t 8) (.t 10)), none⟩]
def c24_4 : SCode := .cond (.t 11) .skip (.exit 0)
def c24_5 : SCode := .seq (.region c24_3 [0, 3, 4, 11]) c24_4
def c24_6 : List SOper := [⟨some 14, .q (.mv (.t 3)), none⟩, ⟨some 15, .q (.mv (.t 4)), none⟩, ⟨some 16, .q (.mv (.t 0)), none⟩, ⟨some 17, .q (.mv (.t 4)), none⟩, ⟨some 18, .q (.ia 4 (.t 16) (.t 17)), none⟩, ⟨some 19, .q (.ldn 4 (.t 18)), none⟩, ⟨some 20, .e (.call 64 [(.t 19)]), none⟩, ⟨some 21, .q (.ia 4 (.t 14) (.t 15)), none⟩, ⟨none, .e (.st 4 (.t 21) (.t 20)), none⟩]
def c24_7 : SCode := .block 1 (.region c24_6 [0, 3, 4])
def c24_8 : List SOper := [⟨some 12, .q (.mv (.t 4)), none⟩, ⟨some 13, .q (.bin .add (.t 12) (.c (.int .i64 1))), none⟩, ⟨some 4, .q (.mv (.t 13)), none⟩]
def c24_9 : SCode := .seq c24_7 (.region c24_8 [0, 3, 4])
def c24_10 : SCode := .seq c24_5 c24_9
def c24_11 : SCode := .loop c24_10
def c24_12 : SCode := .block 0 c24_11
def c24_13 : SCode := .seq (.region c24_2 [0, 3, 4]) c24_12
def c24_14 : List SOper := [⟨some 22, .q (.mv (.t 3)), none⟩, ⟨some 2, .q (.mv (.t 22)), none⟩]
def c24_15 : SCode := .seq (.region c24_14 [2]) .ret
def c24_16 : SCode := .seq c24_13 c24_15
def c24_17 : SCode := .seq (.region c24_1 [0, 3]) c24_16
def c24_18 : SCode := .seq (.region c24_0 [0]) c24_17
def c24 : SCode := c24_18
theorem w24 : type_of% (And.intro (uR Try.prog c24_0.eq_1) (And.intro (uR Try.prog c24_1.eq_1) (And.intro (uR Try.prog c24_2.eq_1) (And.intro (uR Try.prog c24_3.eq_1) (And.intro (uC Try.prog c24_4.eq_1) (And.intro (uC Try.prog c24_5.eq_1) (And.intro (uR Try.prog c24_6.eq_1) (And.intro (uC Try.prog c24_7.eq_1) (And.intro (uR Try.prog c24_8.eq_1) (And.intro (uC Try.prog c24_9.eq_1) (And.intro (uC Try.prog c24_10.eq_1) (And.intro (uC Try.prog c24_11.eq_1) (And.intro (uC Try.prog c24_12.eq_1) (And.intro (uC Try.prog c24_13.eq_1) (And.intro (uR Try.prog c24_14.eq_1) (And.intro (uC Try.prog c24_15.eq_1) (And.intro (uC Try.prog c24_16.eq_1) (And.intro (uC Try.prog c24_17.eq_1) (And.intro (uC Try.prog c24_18.eq_1) (uC Try.prog c24.eq_1)))))))))))))))))))) := (And.intro (uR Try.prog c24_0.eq_1) (And.intro (uR Try.prog c24_1.eq_1) (And.intro (uR Try.prog c24_2.eq_1) (And.intro (uR Try.prog c24_3.eq_1) (And.intro (uC Try.prog c24_4.eq_1) (And.intro (uC Try.prog c24_5.eq_1) (And.intro (uR Try.prog c24_6.eq_1) (And.intro (uC Try.prog c24_7.eq_1) (And.intro (uR Try.prog c24_8.eq_1) (And.intro (uC Try.prog c24_9.eq_1) (And.intro (uC Try.prog c24_10.eq_1) (And.intro (uC Try.prog c24_11.eq_1) (And.intro (uC Try.prog c24_12.eq_1) (And.intro (uC Try.prog c24_13.eq_1) (And.intro (uR Try.prog c24_14.eq_1) (And.intro (uC Try.prog c24_15.eq_1) (And.intro (uC Try.prog c24_16.eq_1) (And.intro (uC Try.prog c24_17.eq_1) (And.intro (uC Try.prog c24_18.eq_1) (uC Try.prog c24.eq_1))))))))))))))))))))
def v24 : List RV := [.t 2]
theorem s24 : slimF Try.prog Try.f24 = some (c24.bare, v24) := by kernel_rfl

/-! 64 loop.example/g00066/laws.toChange: parameters 1, live [0], slots [0:a, 1:a, 3:out] -/
def c64_0 : List SOper := [⟨some 1, .a (.box (.t 0)), none⟩, ⟨some 2, .a (.new [(.int .i64 0), (.int .i64 0), (.int .i64 0), (.int .i64 0)]), none⟩]
def c64_1 : List SOper := [⟨some 3, .a (.new [(.int .i64 0), (.int .i64 0), (.int .i64 0), (.int .i64 0)]), none⟩]
def c64_2 : List SOper := [⟨some 4, .q (.fa 0 (.t 1)), none⟩, ⟨some 5, .q (.ld (.t 4)), none⟩, ⟨some 6, .q (.fa 0 (.t 3)), none⟩, ⟨none, .e (.st 1 (.t 6) (.t 5)), none⟩]
def c64_3 : List SOper := [⟨some 7, .q (.fa 1 (.t 1)), none⟩, ⟨some 8, .q (.ld (.t 7)), none⟩, ⟨some 9, .q (.fa 1 (.t 3)), none⟩, ⟨none, .e (.st 1 (.t 9) (.t 8)), none⟩]
def c64_4 : List SOper := [⟨some 10, .q (.fa 2 (.t 1)), none⟩, ⟨some 11, .q (.ld (.t 10)), none⟩, ⟨some 12, .q (.fa 2 (.t 3)), none⟩, ⟨none, .e (.st 1 (.t 12) (.t 11)), none⟩]
def c64_5 : List SOper := [⟨some 13, .q (.fa 3 (.t 1)), none⟩, ⟨some 14, .q (.ld (.t 13)), none⟩, ⟨some 15, .q (.fa 3 (.t 3)), none⟩, ⟨none, .e (.st 1 (.t 15) (.t 14)), none⟩]
def c64_6 : List SOper := [⟨some 16, .q (.ldn 4 (.t 3)), none⟩, ⟨none, .e (.st 4 (.t 2) (.t 16)), none⟩]
def c64_7 : SCode := .seq (.region c64_6 [2]) .ret
def c64_8 : SCode := .seq (.region c64_5 [2, 3]) c64_7
def c64_9 : SCode := .seq (.region c64_4 [1, 2, 3]) c64_8
def c64_10 : SCode := .seq (.region c64_3 [1, 2, 3]) c64_9
def c64_11 : SCode := .seq (.region c64_2 [1, 2, 3]) c64_10
def c64_12 : SCode := .seq (.region c64_1 [1, 2, 3]) c64_11
def c64_13 : SCode := .seq (.region c64_0 [1, 2]) c64_12
def c64 : SCode := c64_13
theorem w64 : type_of% (And.intro (uR Try.prog c64_0.eq_1) (And.intro (uR Try.prog c64_1.eq_1) (And.intro (uR Try.prog c64_2.eq_1) (And.intro (uR Try.prog c64_3.eq_1) (And.intro (uR Try.prog c64_4.eq_1) (And.intro (uR Try.prog c64_5.eq_1) (And.intro (uR Try.prog c64_6.eq_1) (And.intro (uC Try.prog c64_7.eq_1) (And.intro (uC Try.prog c64_8.eq_1) (And.intro (uC Try.prog c64_9.eq_1) (And.intro (uC Try.prog c64_10.eq_1) (And.intro (uC Try.prog c64_11.eq_1) (And.intro (uC Try.prog c64_12.eq_1) (And.intro (uC Try.prog c64_13.eq_1) (uC Try.prog c64.eq_1))))))))))))))) := (And.intro (uR Try.prog c64_0.eq_1) (And.intro (uR Try.prog c64_1.eq_1) (And.intro (uR Try.prog c64_2.eq_1) (And.intro (uR Try.prog c64_3.eq_1) (And.intro (uR Try.prog c64_4.eq_1) (And.intro (uR Try.prog c64_5.eq_1) (And.intro (uR Try.prog c64_6.eq_1) (And.intro (uC Try.prog c64_7.eq_1) (And.intro (uC Try.prog c64_8.eq_1) (And.intro (uC Try.prog c64_9.eq_1) (And.intro (uC Try.prog c64_10.eq_1) (And.intro (uC Try.prog c64_11.eq_1) (And.intro (uC Try.prog c64_12.eq_1) (And.intro (uC Try.prog c64_13.eq_1) (uC Try.prog c64.eq_1)))))))))))))))
def v64 : List RV := [.c 2 (some 4)]
theorem s64 : slimF Try.prog Try.f64 = some (c64.bare, v64) := by kernel_rfl

/-! 26 loop.example/g00066/laws.eqChangeS: parameters 2, live [0, 1], slots [0:a, 1:b, 2:a, 3:b, 5:i] -/
def c26_0 : List SOper := [⟨some 4, .q (.mv (.c (.bool false))), none⟩]
def c26_1 : List SOper := [⟨some 6, .q (.mv (.t 0)), none⟩, ⟨some 7, .q (.len (.t 6)), none⟩, ⟨some 8, .q (.mv (.t 1)), none⟩, ⟨some 9, .q (.len (.t 8)), none⟩, ⟨some 10, .q (.bin .neq (.t 7) (.t 9)), none⟩]
def c26_2 : List SOper := [⟨some 4, .q (.mv (.c (.bool false))), none⟩]
def c26_3 : SCode := .seq (.region c26_2 [4]) .ret
def c26_4 : SCode := .cond (.t 10) c26_3 .skip
def c26_5 : SCode := .seq (.region c26_1 [0, 1, 10]) c26_4
def c26_6 : List SOper := [⟨some 5, .q (.mv (.c (.int .i64 0))), none⟩]
def c26_7 : List SOper := [⟨some 11, .q (.mv (.t 5)), none⟩, ⟨some 12, .q (.mv (.t 0)), none⟩, ⟨some 13, .q (.len (.t 12)), none⟩, ⟨some 14, .q (.bin .lss (.t 11) (.t 13)), none⟩]
def c26_8 : SCode := .cond (.t 14) .skip (.exit 0)
def c26_9 : SCode := .seq (.region c26_7 [0, 1, 5, 14]) c26_8
def c26_10 : List SOper := [⟨some 17, .q (.mv (.t 0)), none⟩, ⟨some 18, .q (.mv (.t 5)), none⟩, ⟨some 19, .q (.ia 4 (.t 17) (.t 18)), none⟩, ⟨some 20, .q (.ldn 4 (.t 19)), none⟩, ⟨some 21, .q (.mv (.t 1)), none⟩, ⟨some 22, .q (.mv (.t 5)), none⟩, ⟨some 23, .q (.ia 4 (.t 21) (.t 22)), none⟩, ⟨some 24, .q (.ldn 4 (.t 23)), none⟩, ⟨some 25, .e (.call 66 [(.t 20), (.t 24)]), none⟩, ⟨some 26, .q (.not (.t 25)), none⟩]
def c26_11 : List SOper := [⟨some 4, .q (.mv (.c (.bool false))), none⟩]
def c26_12 : SCode := .seq (.region c26_11 [4]) .ret
def c26_13 : SCode := .cond (.t 26) c26_12 .skip
def c26_14 : SCode := .seq (.region c26_10 [0, 1, 5, 26]) c26_13
def c26_15 : SCode := .block 1 c26_14
def c26_16 : List SOper := [⟨some 15, .q (.mv (.t 5)), none⟩, ⟨some 16, .q (.bin .add (.t 15) (.c (.int .i64 1))), none⟩, ⟨some 5, .q (.mv (.t 16)), none⟩]
def c26_17 : SCode := .seq c26_15 (.region c26_16 [0, 1, 5])
def c26_18 : SCode := .seq c26_9 c26_17
def c26_19 : SCode := .loop c26_18
def c26_20 : SCode := .block 0 c26_19
def c26_21 : SCode := .seq (.region c26_6 [0, 1, 5]) c26_20
def c26_22 : List SOper := [⟨some 4, .q (.mv (.c (.bool true))), none⟩]
def c26_23 : SCode := .seq (.region c26_22 [4]) .ret
def c26_24 : SCode := .seq c26_21 c26_23
def c26_25 : SCode := .seq c26_5 c26_24
def c26_26 : SCode := .seq (.region c26_0 [0, 1]) c26_25
def c26 : SCode := c26_26
theorem w26 : type_of% (And.intro (uR Try.prog c26_0.eq_1) (And.intro (uR Try.prog c26_1.eq_1) (And.intro (uR Try.prog c26_2.eq_1) (And.intro (uC Try.prog c26_3.eq_1) (And.intro (uC Try.prog c26_4.eq_1) (And.intro (uC Try.prog c26_5.eq_1) (And.intro (uR Try.prog c26_6.eq_1) (And.intro (uR Try.prog c26_7.eq_1) (And.intro (uC Try.prog c26_8.eq_1) (And.intro (uC Try.prog c26_9.eq_1) (And.intro (uR Try.prog c26_10.eq_1) (And.intro (uR Try.prog c26_11.eq_1) (And.intro (uC Try.prog c26_12.eq_1) (And.intro (uC Try.prog c26_13.eq_1) (And.intro (uC Try.prog c26_14.eq_1) (And.intro (uC Try.prog c26_15.eq_1) (And.intro (uR Try.prog c26_16.eq_1) (And.intro (uC Try.prog c26_17.eq_1) (And.intro (uC Try.prog c26_18.eq_1) (And.intro (uC Try.prog c26_19.eq_1) (And.intro (uC Try.prog c26_20.eq_1) (And.intro (uC Try.prog c26_21.eq_1) (And.intro (uR Try.prog c26_22.eq_1) (And.intro (uC Try.prog c26_23.eq_1) (And.intro (uC Try.prog c26_24.eq_1) (And.intro (uC Try.prog c26_25.eq_1) (And.intro (uC Try.prog c26_26.eq_1) (uC Try.prog c26.eq_1)))))))))))))))))))))))))))) := (And.intro (uR Try.prog c26_0.eq_1) (And.intro (uR Try.prog c26_1.eq_1) (And.intro (uR Try.prog c26_2.eq_1) (And.intro (uC Try.prog c26_3.eq_1) (And.intro (uC Try.prog c26_4.eq_1) (And.intro (uC Try.prog c26_5.eq_1) (And.intro (uR Try.prog c26_6.eq_1) (And.intro (uR Try.prog c26_7.eq_1) (And.intro (uC Try.prog c26_8.eq_1) (And.intro (uC Try.prog c26_9.eq_1) (And.intro (uR Try.prog c26_10.eq_1) (And.intro (uR Try.prog c26_11.eq_1) (And.intro (uC Try.prog c26_12.eq_1) (And.intro (uC Try.prog c26_13.eq_1) (And.intro (uC Try.prog c26_14.eq_1) (And.intro (uC Try.prog c26_15.eq_1) (And.intro (uR Try.prog c26_16.eq_1) (And.intro (uC Try.prog c26_17.eq_1) (And.intro (uC Try.prog c26_18.eq_1) (And.intro (uC Try.prog c26_19.eq_1) (And.intro (uC Try.prog c26_20.eq_1) (And.intro (uC Try.prog c26_21.eq_1) (And.intro (uR Try.prog c26_22.eq_1) (And.intro (uC Try.prog c26_23.eq_1) (And.intro (uC Try.prog c26_24.eq_1) (And.intro (uC Try.prog c26_25.eq_1) (And.intro (uC Try.prog c26_26.eq_1) (uC Try.prog c26.eq_1))))))))))))))))))))))))))))
def v26 : List RV := [.t 4]
theorem s26 : slimF Try.prog Try.f26 = some (c26.bare, v26) := by kernel_rfl

/-! 66 loop.example/g00066/laws.eqChange: parameters 2, live [0, 1], slots [0:a, 1:b, 2:a, 3:b] -/
def c66_0 : List SOper := [⟨some 2, .a (.box (.t 0)), none⟩, ⟨some 3, .a (.box (.t 1)), none⟩, ⟨some 4, .q (.mv (.c (.bool false))), none⟩]
def c66_1 : List SOper := [⟨some 5, .q (.fa 0 (.t 2)), none⟩, ⟨some 6, .q (.ld (.t 5)), none⟩, ⟨some 7, .q (.fa 0 (.t 3)), none⟩, ⟨some 8, .q (.ld (.t 7)), none⟩, ⟨some 9, .q (.bin .neq (.t 6) (.t 8)), none⟩]
def c66_2 : List SOper := [⟨some 4, .q (.mv (.c (.bool false))), none⟩]
def c66_3 : SCode := .seq (.region c66_2 [4]) .ret
def c66_4 : SCode := .cond (.t 9) c66_3 .skip
def c66_5 : SCode := .seq (.region c66_1 [2, 3, 9]) c66_4
def c66_6 : List SOper := [⟨some 10, .q (.fa 1 (.t 2)), none⟩, ⟨some 11, .q (.ld (.t 10)), none⟩, ⟨some 12, .q (.fa 1 (.t 3)), none⟩, ⟨some 13, .q (.ld (.t 12)), none⟩, ⟨some 14, .q (.bin .neq (.t 11) (.t 13)), none⟩]
def c66_7 : List SOper := [⟨some 4, .q (.mv (.c (.bool false))), none⟩]
def c66_8 : SCode := .seq (.region c66_7 [4]) .ret
def c66_9 : SCode := .cond (.t 14) c66_8 .skip
def c66_10 : SCode := .seq (.region c66_6 [2, 3, 14]) c66_9
def c66_11 : List SOper := [⟨some 15, .q (.fa 2 (.t 2)), none⟩, ⟨some 16, .q (.ld (.t 15)), none⟩, ⟨some 17, .q (.fa 2 (.t 3)), none⟩, ⟨some 18, .q (.ld (.t 17)), none⟩, ⟨some 19, .q (.bin .neq (.t 16) (.t 18)), none⟩]
def c66_12 : List SOper := [⟨some 4, .q (.mv (.c (.bool false))), none⟩]
def c66_13 : SCode := .seq (.region c66_12 [4]) .ret
def c66_14 : SCode := .cond (.t 19) c66_13 .skip
def c66_15 : SCode := .seq (.region c66_11 [2, 3, 19]) c66_14
def c66_16 : List SOper := [⟨some 20, .q (.fa 3 (.t 2)), none⟩, ⟨some 21, .q (.ld (.t 20)), none⟩, ⟨some 22, .q (.fa 3 (.t 3)), none⟩, ⟨some 23, .q (.ld (.t 22)), none⟩, ⟨some 24, .q (.bin .neq (.t 21) (.t 23)), none⟩]
def c66_17 : List SOper := [⟨some 4, .q (.mv (.c (.bool false))), none⟩]
def c66_18 : SCode := .seq (.region c66_17 [4]) .ret
def c66_19 : SCode := .cond (.t 24) c66_18 .skip
def c66_20 : SCode := .seq (.region c66_16 [24]) c66_19
def c66_21 : List SOper := [⟨some 4, .q (.mv (.c (.bool true))), none⟩]
def c66_22 : SCode := .seq (.region c66_21 [4]) .ret
def c66_23 : SCode := .seq c66_20 c66_22
def c66_24 : SCode := .seq c66_15 c66_23
def c66_25 : SCode := .seq c66_10 c66_24
def c66_26 : SCode := .seq c66_5 c66_25
def c66_27 : SCode := .seq (.region c66_0 [2, 3]) c66_26
def c66 : SCode := c66_27
theorem w66 : type_of% (And.intro (uR Try.prog c66_0.eq_1) (And.intro (uR Try.prog c66_1.eq_1) (And.intro (uR Try.prog c66_2.eq_1) (And.intro (uC Try.prog c66_3.eq_1) (And.intro (uC Try.prog c66_4.eq_1) (And.intro (uC Try.prog c66_5.eq_1) (And.intro (uR Try.prog c66_6.eq_1) (And.intro (uR Try.prog c66_7.eq_1) (And.intro (uC Try.prog c66_8.eq_1) (And.intro (uC Try.prog c66_9.eq_1) (And.intro (uC Try.prog c66_10.eq_1) (And.intro (uR Try.prog c66_11.eq_1) (And.intro (uR Try.prog c66_12.eq_1) (And.intro (uC Try.prog c66_13.eq_1) (And.intro (uC Try.prog c66_14.eq_1) (And.intro (uC Try.prog c66_15.eq_1) (And.intro (uR Try.prog c66_16.eq_1) (And.intro (uR Try.prog c66_17.eq_1) (And.intro (uC Try.prog c66_18.eq_1) (And.intro (uC Try.prog c66_19.eq_1) (And.intro (uC Try.prog c66_20.eq_1) (And.intro (uR Try.prog c66_21.eq_1) (And.intro (uC Try.prog c66_22.eq_1) (And.intro (uC Try.prog c66_23.eq_1) (And.intro (uC Try.prog c66_24.eq_1) (And.intro (uC Try.prog c66_25.eq_1) (And.intro (uC Try.prog c66_26.eq_1) (And.intro (uC Try.prog c66_27.eq_1) (uC Try.prog c66.eq_1))))))))))))))))))))))))))))) := (And.intro (uR Try.prog c66_0.eq_1) (And.intro (uR Try.prog c66_1.eq_1) (And.intro (uR Try.prog c66_2.eq_1) (And.intro (uC Try.prog c66_3.eq_1) (And.intro (uC Try.prog c66_4.eq_1) (And.intro (uC Try.prog c66_5.eq_1) (And.intro (uR Try.prog c66_6.eq_1) (And.intro (uR Try.prog c66_7.eq_1) (And.intro (uC Try.prog c66_8.eq_1) (And.intro (uC Try.prog c66_9.eq_1) (And.intro (uC Try.prog c66_10.eq_1) (And.intro (uR Try.prog c66_11.eq_1) (And.intro (uR Try.prog c66_12.eq_1) (And.intro (uC Try.prog c66_13.eq_1) (And.intro (uC Try.prog c66_14.eq_1) (And.intro (uC Try.prog c66_15.eq_1) (And.intro (uR Try.prog c66_16.eq_1) (And.intro (uR Try.prog c66_17.eq_1) (And.intro (uC Try.prog c66_18.eq_1) (And.intro (uC Try.prog c66_19.eq_1) (And.intro (uC Try.prog c66_20.eq_1) (And.intro (uR Try.prog c66_21.eq_1) (And.intro (uC Try.prog c66_22.eq_1) (And.intro (uC Try.prog c66_23.eq_1) (And.intro (uC Try.prog c66_24.eq_1) (And.intro (uC Try.prog c66_25.eq_1) (And.intro (uC Try.prog c66_26.eq_1) (And.intro (uC Try.prog c66_27.eq_1) (uC Try.prog c66.eq_1)))))))))))))))))))))))))))))
def v66 : List RV := [.t 4]
theorem s66 : slimF Try.prog Try.f66 = some (c66.bare, v66) := by kernel_rfl

/-! 28 loop.example/g00066/laws.markChangeS: parameters 2, live [0, 1], slots [0:a, 1:k, 2:a, 3:k, 5:i] -/
def c28_0 : List SOper := [⟨some 4, .q (.mv (.c (.int .i64 0))), none⟩]
def c28_1 : List SOper := [⟨some 5, .q (.mv (.c (.int .i64 0))), none⟩]
def c28_2 : List SOper := [⟨some 6, .q (.mv (.t 5)), none⟩, ⟨some 7, .q (.mv (.t 0)), none⟩, ⟨some 8, .q (.len (.t 7)), none⟩, ⟨some 9, .q (.bin .lss (.t 6) (.t 8)), none⟩]
def c28_3 : SCode := .cond (.t 9) .skip (.exit 0)
def c28_4 : SCode := .seq (.region c28_2 [0, 1, 5, 9]) c28_3
def c28_5 : List SOper := [⟨some 12, .q (.mv (.t 0)), none⟩, ⟨some 13, .q (.mv (.t 5)), none⟩, ⟨some 14, .q (.mv (.t 1)), none⟩, ⟨some 15, .q (.ia 4 (.t 12) (.t 13)), none⟩, ⟨some 16, .q (.fa 0 (.t 15)), none⟩, ⟨none, .e (.st 1 (.t 16) (.t 14)), none⟩]
def c28_6 : List SOper := [⟨some 17, .q (.mv (.t 1)), none⟩, ⟨some 18, .q (.bin .add (.t 17) (.c (.int .i64 1))), none⟩, ⟨some 1, .q (.mv (.t 18)), none⟩]
def c28_7 : List SOper := [⟨some 19, .q (.mv (.t 0)), none⟩, ⟨some 20, .q (.mv (.t 5)), none⟩, ⟨some 21, .q (.mv (.t 1)), none⟩, ⟨some 22, .q (.ia 4 (.t 19) (.t 20)), none⟩, ⟨some 23, .q (.fa 1 (.t 22)), none⟩, ⟨none, .e (.st 1 (.t 23) (.t 21)), none⟩]
def c28_8 : List SOper := [⟨some 24, .q (.mv (.t 1)), none⟩, ⟨some 25, .q (.bin .add (.t 24) (.c (.int .i64 1))), none⟩, ⟨some 1, .q (.mv (.t 25)), none⟩]
def c28_9 : List SOper := [⟨some 26, .q (.mv (.t 0)), none⟩, ⟨some 27, .q (.mv (.t 5)), none⟩, ⟨some 28, .q (.mv (.t 1)), none⟩, ⟨some 29, .q (.ia 4 (.t 26) (.t 27)), none⟩, ⟨some 30, .q (.fa 2 (.t 29)), none⟩, ⟨none, .e (.st 1 (.t 30) (.t 28)), none⟩]
def c28_10 : List SOper := [⟨some 31, .q (.mv (.t 1)), none⟩, ⟨some 32, .q (.bin .add (.t 31) (.c (.int .i64 1))), none⟩, ⟨some 1, .q (.mv (.t 32)), none⟩]
def c28_11 : List SOper := [⟨some 33, .q (.mv (.t 0)), none⟩, ⟨some 34, .q (.mv (.t 5)), none⟩, ⟨some 35, .q (.mv (.t 1)), none⟩, ⟨some 36, .q (.ia 4 (.t 33) (.t 34)), none⟩, ⟨some 37, .q (.fa 3 (.t 36)), none⟩, ⟨none, .e (.st 1 (.t 37) (.t 35)), none⟩]
def c28_12 : List SOper := [⟨some 38, .q (.mv (.t 1)), none⟩, ⟨some 39, .q (.bin .add (.t 38) (.c (.int .i64 1))), none⟩, ⟨some 1, .q (.mv (.t 39)), none⟩]
def c28_13 : SCode := .seq (.region c28_11 [0, 1, 5]) (.region c28_12 [0, 1, 5])
def c28_14 : SCode := .seq (.region c28_10 [0, 1, 5]) c28_13
def c28_15 : SCode := .seq (.region c28_9 [0, 1, 5]) c28_14
def c28_16 : SCode := .seq (.region c28_8 [0, 1, 5]) c28_15
def c28_17 : SCode := .seq (.region c28_7 [0, 1, 5]) c28_16
def c28_18 : SCode := .seq (.region c28_6 [0, 1, 5]) c28_17
def c28_19 : SCode := .seq (.region c28_5 [0, 1, 5]) c28_18
def c28_20 : SCode := .block 1 c28_19
def c28_21 : List SOper := [⟨some 10, .q (.mv (.t 5)), none⟩, ⟨some 11, .q (.bin .add (.t 10) (.c (.int .i64 1))), none⟩, ⟨some 5, .q (.mv (.t 11)), none⟩]
def c28_22 : SCode := .seq c28_20 (.region c28_21 [0, 1, 5])
def c28_23 : SCode := .seq c28_4 c28_22
def c28_24 : SCode := .loop c28_23
def c28_25 : SCode := .block 0 c28_24
def c28_26 : SCode := .seq (.region c28_1 [0, 1, 5]) c28_25
def c28_27 : List SOper := [⟨some 40, .q (.mv (.t 1)), none⟩, ⟨some 4, .q (.mv (.t 40)), none⟩]
def c28_28 : SCode := .seq (.region c28_27 [4]) .ret
def c28_29 : SCode := .seq c28_26 c28_28
def c28_30 : SCode := .seq (.region c28_0 [0, 1]) c28_29
def c28 : SCode := c28_30
theorem w28 : type_of% (And.intro (uR Try.prog c28_0.eq_1) (And.intro (uR Try.prog c28_1.eq_1) (And.intro (uR Try.prog c28_2.eq_1) (And.intro (uC Try.prog c28_3.eq_1) (And.intro (uC Try.prog c28_4.eq_1) (And.intro (uR Try.prog c28_5.eq_1) (And.intro (uR Try.prog c28_6.eq_1) (And.intro (uR Try.prog c28_7.eq_1) (And.intro (uR Try.prog c28_8.eq_1) (And.intro (uR Try.prog c28_9.eq_1) (And.intro (uR Try.prog c28_10.eq_1) (And.intro (uR Try.prog c28_11.eq_1) (And.intro (uR Try.prog c28_12.eq_1) (And.intro (uC Try.prog c28_13.eq_1) (And.intro (uC Try.prog c28_14.eq_1) (And.intro (uC Try.prog c28_15.eq_1) (And.intro (uC Try.prog c28_16.eq_1) (And.intro (uC Try.prog c28_17.eq_1) (And.intro (uC Try.prog c28_18.eq_1) (And.intro (uC Try.prog c28_19.eq_1) (And.intro (uC Try.prog c28_20.eq_1) (And.intro (uR Try.prog c28_21.eq_1) (And.intro (uC Try.prog c28_22.eq_1) (And.intro (uC Try.prog c28_23.eq_1) (And.intro (uC Try.prog c28_24.eq_1) (And.intro (uC Try.prog c28_25.eq_1) (And.intro (uC Try.prog c28_26.eq_1) (And.intro (uR Try.prog c28_27.eq_1) (And.intro (uC Try.prog c28_28.eq_1) (And.intro (uC Try.prog c28_29.eq_1) (And.intro (uC Try.prog c28_30.eq_1) (uC Try.prog c28.eq_1)))))))))))))))))))))))))))))))) := (And.intro (uR Try.prog c28_0.eq_1) (And.intro (uR Try.prog c28_1.eq_1) (And.intro (uR Try.prog c28_2.eq_1) (And.intro (uC Try.prog c28_3.eq_1) (And.intro (uC Try.prog c28_4.eq_1) (And.intro (uR Try.prog c28_5.eq_1) (And.intro (uR Try.prog c28_6.eq_1) (And.intro (uR Try.prog c28_7.eq_1) (And.intro (uR Try.prog c28_8.eq_1) (And.intro (uR Try.prog c28_9.eq_1) (And.intro (uR Try.prog c28_10.eq_1) (And.intro (uR Try.prog c28_11.eq_1) (And.intro (uR Try.prog c28_12.eq_1) (And.intro (uC Try.prog c28_13.eq_1) (And.intro (uC Try.prog c28_14.eq_1) (And.intro (uC Try.prog c28_15.eq_1) (And.intro (uC Try.prog c28_16.eq_1) (And.intro (uC Try.prog c28_17.eq_1) (And.intro (uC Try.prog c28_18.eq_1) (And.intro (uC Try.prog c28_19.eq_1) (And.intro (uC Try.prog c28_20.eq_1) (And.intro (uR Try.prog c28_21.eq_1) (And.intro (uC Try.prog c28_22.eq_1) (And.intro (uC Try.prog c28_23.eq_1) (And.intro (uC Try.prog c28_24.eq_1) (And.intro (uC Try.prog c28_25.eq_1) (And.intro (uC Try.prog c28_26.eq_1) (And.intro (uR Try.prog c28_27.eq_1) (And.intro (uC Try.prog c28_28.eq_1) (And.intro (uC Try.prog c28_29.eq_1) (And.intro (uC Try.prog c28_30.eq_1) (uC Try.prog c28.eq_1))))))))))))))))))))))))))))))))
def v28 : List RV := [.t 4]
theorem s28 : slimF Try.prog Try.f28 = some (c28.bare, v28) := by kernel_rfl

/-! 30 loop.example/g00066/laws.heldChangeS: parameters 2, live [0, 1], slots [0:a, 1:k, 2:a, 3:k, 5:i] -/
def c30_0 : List SOper := [⟨some 4, .q (.mv (.c (.int .i64 0))), none⟩]
def c30_1 : List SOper := [⟨some 5, .q (.mv (.c (.int .i64 0))), none⟩]
def c30_2 : List SOper := [⟨some 6, .q (.mv (.t 5)), none⟩, ⟨some 7, .q (.mv (.t 0)), none⟩, ⟨some 8, .q (.len (.t 7)), none⟩, ⟨some 9, .q (.bin .lss (.t 6) (.t 8)), none⟩]
def c30_3 : SCode := .cond (.t 9) .skip (.exit 0)
def c30_4 : SCode := .seq (.region c30_2 [0, 1, 5, 9]) c30_3
def c30_5 : List SOper := [⟨some 12, .q (.mv (.t 0)), none⟩, ⟨some 13, .q (.mv (.t 5)), none⟩, ⟨some 14, .q (.ia 4 (.t 12) (.t 13)), none⟩, ⟨some 15, .q (.fa 0 (.t 14)), none⟩, ⟨some 16, .q (.ld (.t 15)), none⟩, ⟨some 17, .q (.mv (.t 1)), none⟩, ⟨some 18, .q (.bin .neq (.t 16) (.t 17)), none⟩]
def c30_6 : List SOper := [⟨some 4, .q (.mv (.c (.int .i64 (-1)))), none⟩]
def c30_7 : SCode := .seq (.region c30_6 [4]) .ret
def c30_8 : SCode := .cond (.t 18) c30_7 .skip
def c30_9 : SCode := .seq (.region c30_5 [0, 1, 5, 18]) c30_8
def c30_10 : List SOper := [⟨some 19, .q (.mv (.t 1)), none⟩, ⟨some 20, .q (.bin .add (.t 19) (.c (.int .i64 1))), none⟩, ⟨some 1, .q (.mv (.t 20)), none⟩]
def c30_11 : List SOper := [⟨some 21, .q (.mv (.t 0)), none⟩, ⟨some 22, .q (.mv (.t 5)), none⟩, ⟨some 23, .q (.ia 4 (.t 21) (.t 22)), none⟩, ⟨some 24, .q (.fa 1 (.t 23)), none⟩, ⟨some 25, .q (.ld (.t 24)), none⟩, ⟨some 26, .q (.mv (.t 1)), none⟩, ⟨some 27, .q (.bin .neq (.t 25) (.t 26)), none⟩]
def c30_12 : List SOper := [⟨some 4, .q (.mv (.c (.int .i64 (-1)))), none⟩]
def c30_13 : SCode := .seq (.region c30_12 [4]) .ret
def c30_14 : SCode := .cond (.t 27) c30_13 .skip
def c30_15 : SCode := .seq (.region c30_11 [0, 1, 5, 27]) c30_14
def c30_16 : List SOper := [⟨some 28, .q (.mv (.t 1)), none⟩, ⟨some 29, .q (.bin .add (.t 28) (.c (.int .i64 1))), none⟩, ⟨some 1, .q (.mv (.t 29)), none⟩]
def c30_17 : List SOper := [⟨some 30, .q (.mv (.t 0)), none⟩, ⟨some 31, .q (.mv (.t 5)), none⟩, ⟨some 32, .q (.ia 4 (.t 30) (.t 31)), none⟩, ⟨some 33, .q (.fa 2 (.t 32)), none⟩, ⟨some 34, .q (.ld (.t 33)), none⟩, ⟨some 35, .q (.mv (.t 1)), none⟩, ⟨some 36, .q (.bin .neq (.t 34) (.t 35)), none⟩]
def c30_18 : List SOper := [⟨some 4, .q (.mv (.c (.int .i64 (-1)))), none⟩]
def c30_19 : SCode := .seq (.region c30_18 [4]) .ret
def c30_20 : SCode := .cond (.t 36) c30_19 .skip
def c30_21 : SCode := .seq (.region c30_17 [0, 1, 5, 36]) c30_20
def c30_22 : List SOper := [⟨some 37, .q (.mv (.t 1)), none⟩, ⟨some 38, .q (.bin .add (.t 37) (.c (.int .i64 1))), none⟩, ⟨some 1, .q (.mv (.t 38)), none⟩]
def c30_23 : List SOper := [⟨some 39, .q (.mv (.t 0)), none⟩, ⟨some 40, .q (.mv (.t 5)), none⟩, ⟨some 41, .q (.ia 4 (.t 39) (.t 40)), none⟩, ⟨some 42, .q (.fa 3 (.t 41)), none⟩, ⟨some 43, .q (.ld (.t 42)), none⟩, ⟨some 44, .q (.mv (.t 1)), none⟩, ⟨some 45, .q (.bin .neq (.t 43) (.t 44)), none⟩]
def c30_24 : List SOper := [⟨some 4, .q (.mv (.c (.int .i64 (-1)))), none⟩]
def c30_25 : SCode := .seq (.region c30_24 [4]) .ret
def c30_26 : SCode := .cond (.t 45) c30_25 .skip
def c30_27 : SCode := .seq (.region c30_23 [0, 1, 5, 45]) c30_26
def c30_28 : List SOper := [⟨some 46, .q (.mv (.t 1)), none⟩, ⟨some 47, .q (.bin .add (.t 46) (.c (.int .i64 1))), none⟩, ⟨some 1, .q (.mv (.t 47)), none⟩]
def c30_29 : SCode := .seq c30_27 (.region c30_28 [0, 1, 5])
def c30_30 : SCode := .seq (.region c30_22 [0, 1, 5]) c30_29
def c30_31 : SCode := .seq c30_21 c30_30
def c30_32 : SCode := .seq (.region c30_16 [0, 1, 5]) c30_31
def c30_33 : SCode := .seq c30_15 c30_32
def c30_34 : SCode := .seq (.region c30_10 [0, 1, 5]) c30_33
def c30_35 : SCode := .seq c30_9 c30_34
def c30_36 : SCode := .block 1 c30_35
def c30_37 : List SOper := [⟨some 10, .q (.mv (.t 5)), none⟩, ⟨some 11, .q (.bin .add (.t 10) (.c (.int .i64 1))), none⟩, ⟨some 5, .q (.mv (.t 11)), none⟩]
def c30_38 : SCode := .seq c30_36 (.region c30_37 [0, 1, 5])
def c30_39 : SCode := .seq c30_4 c30_38
def c30_40 : SCode := .loop c30_39
def c30_41 : SCode := .block 0 c30_40
def c30_42 : SCode := .seq (.region c30_1 [0, 1, 5]) c30_41
def c30_43 : List SOper := [⟨some 48, .q (.mv (.t 1)), none⟩, ⟨some 4, .q (.mv (.t 48)), none⟩]
def c30_44 : SCode := .seq (.region c30_43 [4]) .ret
def c30_45 : SCode := .seq c30_42 c30_44
def c30_46 : SCode := .seq (.region c30_0 [0, 1]) c30_45
def c30 : SCode := c30_46
theorem w30 : type_of% (And.intro (uR Try.prog c30_0.eq_1) (And.intro (uR Try.prog c30_1.eq_1) (And.intro (uR Try.prog c30_2.eq_1) (And.intro (uC Try.prog c30_3.eq_1) (And.intro (uC Try.prog c30_4.eq_1) (And.intro (uR Try.prog c30_5.eq_1) (And.intro (uR Try.prog c30_6.eq_1) (And.intro (uC Try.prog c30_7.eq_1) (And.intro (uC Try.prog c30_8.eq_1) (And.intro (uC Try.prog c30_9.eq_1) (And.intro (uR Try.prog c30_10.eq_1) (And.intro (uR Try.prog c30_11.eq_1) (And.intro (uR Try.prog c30_12.eq_1) (And.intro (uC Try.prog c30_13.eq_1) (And.intro (uC Try.prog c30_14.eq_1) (And.intro (uC Try.prog c30_15.eq_1) (And.intro (uR Try.prog c30_16.eq_1) (And.intro (uR Try.prog c30_17.eq_1) (And.intro (uR Try.prog c30_18.eq_1) (And.intro (uC Try.prog c30_19.eq_1) (And.intro (uC Try.prog c30_20.eq_1) (And.intro (uC Try.prog c30_21.eq_1) (And.intro (uR Try.prog c30_22.eq_1) (And.intro (uR Try.prog c30_23.eq_1) (And.intro (uR Try.prog c30_24.eq_1) (And.intro (uC Try.prog c30_25.eq_1) (And.intro (uC Try.prog c30_26.eq_1) (And.intro (uC Try.prog c30_27.eq_1) (And.intro (uR Try.prog c30_28.eq_1) (And.intro (uC Try.prog c30_29.eq_1) (And.intro (uC Try.prog c30_30.eq_1) (And.intro (uC Try.prog c30_31.eq_1) (And.intro (uC Try.prog c30_32.eq_1) (And.intro (uC Try.prog c30_33.eq_1) (And.intro (uC Try.prog c30_34.eq_1) (And.intro (uC Try.prog c30_35.eq_1) (And.intro (uC Try.prog c30_36.eq_1) (And.intro (uR Try.prog c30_37.eq_1) (And.intro (uC Try.prog c30_38.eq_1) (And.intro (uC Try.prog c30_39.eq_1) (And.intro (uC Try.prog c30_40.eq_1) (And.intro (uC Try.prog c30_41.eq_1) (And.intro (uC Try.prog c30_42.eq_1) (And.intro (uR Try.prog c30_43.eq_1) (And.intro (uC Try.prog c30_44.eq_1) (And.intro (uC Try.prog c30_45.eq_1) (And.intro (uC Try.prog c30_46.eq_1) (uC Try.prog c30.eq_1)))))))))))))))))))))))))))))))))))))))))))))))) := (And.intro (uR Try.prog c30_0.eq_1) (And.intro (uR Try.prog c30_1.eq_1) (And.intro (uR Try.prog c30_2.eq_1) (And.intro (uC Try.prog c30_3.eq_1) (And.intro (uC Try.prog c30_4.eq_1) (And.intro (uR Try.prog c30_5.eq_1) (And.intro (uR Try.prog c30_6.eq_1) (And.intro (uC Try.prog c30_7.eq_1) (And.intro (uC Try.prog c30_8.eq_1) (And.intro (uC Try.prog c30_9.eq_1) (And.intro (uR Try.prog c30_10.eq_1) (And.intro (uR Try.prog c30_11.eq_1) (And.intro (uR Try.prog c30_12.eq_1) (And.intro (uC Try.prog c30_13.eq_1) (And.intro (uC Try.prog c30_14.eq_1) (And.intro (uC Try.prog c30_15.eq_1) (And.intro (uR Try.prog c30_16.eq_1) (And.intro (uR Try.prog c30_17.eq_1) (And.intro (uR Try.prog c30_18.eq_1) (And.intro (uC Try.prog c30_19.eq_1) (And.intro (uC Try.prog c30_20.eq_1) (And.intro (uC Try.prog c30_21.eq_1) (And.intro (uR Try.prog c30_22.eq_1) (And.intro (uR Try.prog c30_23.eq_1) (And.intro (uR Try.prog c30_24.eq_1) (And.intro (uC Try.prog c30_25.eq_1) (And.intro (uC Try.prog c30_26.eq_1) (And.intro (uC Try.prog c30_27.eq_1) (And.intro (uR Try.prog c30_28.eq_1) (And.intro (uC Try.prog c30_29.eq_1) (And.intro (uC Try.prog c30_30.eq_1) (And.intro (uC Try.prog c30_31.eq_1) (And.intro (uC Try.prog c30_32.eq_1) (And.intro (uC Try.prog c30_33.eq_1) (And.intro (uC Try.prog c30_34.eq_1) (And.intro (uC Try.prog c30_35.eq_1) (And.intro (uC Try.prog c30_36.eq_1) (And.intro (uR Try.prog c30_37.eq_1) (And.intro (uC Try.prog c30_38.eq_1) (And.intro (uC Try.prog c30_39.eq_1) (And.intro (uC Try.prog c30_40.eq_1) (And.intro (uC Try.prog c30_41.eq_1) (And.intro (uC Try.prog c30_42.eq_1) (And.intro (uR Try.prog c30_43.eq_1) (And.intro (uC Try.prog c30_44.eq_1) (And.intro (uC Try.prog c30_45.eq_1) (And.intro (uC Try.prog c30_46.eq_1) (uC Try.prog c30.eq_1))))))))))))))))))))))))))))))))))))))))))))))))
def v30 : List RV := [.t 4]
theorem s30 : slimF Try.prog Try.f30 = some (c30.bare, v30) := by kernel_rfl

structure Change where
  kind : Int
  src : Int
  inn : Int
  len : Int
  deriving DecidableEq
def zChange : Change := ⟨0, 0, 0, 0⟩
def encChange (k : Change) : List Value := [.int .i64 k.kind, .int .i64 k.src, .int .i64 k.inn, .int .i64 k.len]
theorem encChange_len (k : Change) : (encChange k).length = 4 := rfl
theorem toChange_ok (h : Heap) (k : Change) : ACall Try.prog 64 [.agg (encChange k).toArray] h fun r h' => Ext h h' ∧ r = .agg (encChange k).toArray := by
  refine ACall.of Try.func64 s64 (of_decide_eq_true rfl) ?_
  simp (maxSteps := 4000000) (disch := omega) only [ah, am, Nat.reduceEqDiff, reduceCtorEq, Nat.reduceAdd, Nat.reduceLeDiff, Nat.reduceMul, Nat.reduceLT, if_true, if_false, true_and, and_true, and_self, Nat.reduceBEq, QOp.loads, boxO, bslO, buildO, cutL, fillV, putL, w64, v64, encChange]
  exact Ext.more _ _
theorem toChange_ok' (h : Heap) (a b c d : Int) : ACall Try.prog 64 [.agg [.int .i64 a, .int .i64 b, .int .i64 c, .int .i64 d].toArray] h fun r h' => Ext h h' ∧ r = .agg [.int .i64 a, .int .i64 b, .int .i64 c, .int .i64 d].toArray := toChange_ok h ⟨a, b, c, d⟩
theorem eqChange_ok (h : Heap) (k k' : Change) : ACall Try.prog 66 [.agg (encChange k).toArray, .agg (encChange k').toArray] h
    fun r h' => Ext h h' ∧ r = .bool (decide (k = k')) := by
  obtain ⟨a, b, c, d⟩ := k; obtain ⟨a', b', c', d'⟩ := k'
  refine ACall.of Try.func66 s66 (of_decide_eq_true rfl) ?_
  simp (maxSteps := 4000000) (disch := omega) only [ah, am, Nat.reduceEqDiff, reduceCtorEq, Nat.reduceAdd, Nat.reduceLeDiff, Nat.reduceMul, Nat.reduceLT, if_true, if_false, true_and, and_true, and_self, Nat.reduceBEq, QOp.loads, boxO, bslO, buildO, cutL, fillV, putL, w66, v66, encChange, stepI_dec]
  repeat' split
  all_goals exact ⟨Ext.more _ _, by simp [*]⟩
theorem szChangeS_ok (h : Heap) (v : Value) (l : List Change) (left : Int) (hs : SlT h encChange 4 v l) (h0 : 0 ≤ left) (h1 : left ≤ 1048576) (hl : l.length ≤ 9223372036854775807) :
    ACall Try.prog 21 [v, .int .i64 left] h fun r h' => h' = h ∧ r = .int .i64 (if left - l.length < 0 then -1 else left - l.length) := by
  refine ACall.of Try.func21 s21 (of_decide_eq_true rfl) ?_
  have R := hs.rules
  have W : IntKind.i64.wrap (left - l.length) = left - l.length := i64e (by omega) (by omega)
  simp (maxSteps := 4000000) (disch := omega) only [ah, am, Nat.reduceEqDiff, reduceCtorEq, Nat.reduceAdd, Nat.reduceLeDiff, Nat.reduceMul, Nat.reduceLT, if_true, if_false, true_and, and_true, and_self, Nat.reduceBEq, QOp.loads, boxO, bslO, buildO, cutL, fillV, putL, w21, v21, R, W, stepI_dec]
  split <;> simp
theorem toChangeS_ok (h : Heap) (v : Value) (l : List Change) (hs : SlT h encChange 4 v l) (hl : l.length ≤ 1048576) :
    ACall Try.prog 24 [v] h fun r h' => Fresh h h' encChange 4 r l := by
  refine ACall.of Try.func24 s24 (of_decide_eq_true rfl) ?_
  have R := hs.rulesN
  simp (maxSteps := 4000000) (disch := omega) only [ah, am, Nat.reduceEqDiff, reduceCtorEq, Nat.reduceAdd, Nat.reduceLeDiff, Nat.reduceMul, Nat.reduceLT, if_true, if_false, true_and, and_true, and_self, Nat.reduceBEq, QOp.loads, boxO, bslO, buildO, cutL, fillV, putL, w24, v24, R, mksV_nat]
  refine SW_loop_up (fun i E' H => ∃ ov, E' = [(0, v), (3, ov), (4, .int .i64 i)] ∧ Fresh h H encChange 4 ov (l.take i ++ List.replicate (l.length - i) zChange)) l.length 0 (by omega)
    ⟨_, rfl, by have := Fresh.newR (sz := 4) h l.length zChange encChange_len (by omega); simpa [encChange, zChange] using this⟩ ?_
  rintro i E' H hi ⟨ov, rfl, F⟩
  have R := (hs.ext F.1).rulesN
  have W : IntKind.i64.wrap ((i : Int) + 1) = ((i + 1 : Nat) : Int) := i64e (by omega) (by omega)
  simp (maxSteps := 4000000) (disch := omega) only [ah, am, Nat.reduceEqDiff, reduceCtorEq, Nat.reduceAdd, Nat.reduceLeDiff, Nat.reduceMul, Nat.reduceLT, if_true, if_false, true_and, and_true, and_self, Nat.reduceBEq, QOp.loads, boxO, bslO, buildO, cutL, fillV, putL, w24, v24, R, W]
  refine stepI.split (fun hp => ?_) (fun hp => ?_)
  · simp (maxSteps := 4000000) (disch := omega) only [ah, am, Nat.reduceEqDiff, reduceCtorEq, Nat.reduceAdd, Nat.reduceLeDiff, Nat.reduceMul, Nat.reduceLT, if_true, if_false, true_and, and_true, and_self, Nat.reduceBEq, QOp.loads, boxO, bslO, buildO, cutL, fillV, putL, w24, v24, R, W]
    refine stepC.of (toChange_ok _ _) ?_
    rintro r H1 ⟨e1, rfl⟩
    have F1 := F.ext e1
    obtain ⟨H2, es, F2, hsz⟩ := F1.set (j := i) (by simp; omega) l[i] rfl
    have R2 := F1.slt.rulesN
    simp only [List.length_append, List.length_take, List.length_replicate] at R2
    simp (maxSteps := 4000000) (disch := omega) only [ah, am, Nat.reduceEqDiff, reduceCtorEq, Nat.reduceAdd, Nat.reduceLeDiff, Nat.reduceMul, Nat.reduceLT, if_true, if_false, true_and, and_true, and_self, Nat.reduceBEq, QOp.loads, boxO, bslO, buildO, cutL, fillV, putL, w24, v24, R2, es, W]
    refine ⟨by omega, _, rfl, ?_⟩
    rw [show List.take (i + 1) l ++ List.replicate (l.length - (i + 1)) zChange = (l.take i ++ List.replicate (l.length - i) zChange).set i l[i] from (take_set_rep l zChange i (by omega)).symm]
    exact F2
  · simp (maxSteps := 4000000) (disch := omega) only [ah, am, Nat.reduceEqDiff, reduceCtorEq, Nat.reduceAdd, Nat.reduceLeDiff, Nat.reduceMul, Nat.reduceLT, if_true, if_false, true_and, and_true, and_self, Nat.reduceBEq, QOp.loads, boxO, bslO, buildO, cutL, fillV, putL, w24, v24, R, W]
    obtain rfl : i = l.length := by omega
    simpa using F
theorem eqChangeS_ok (h : Heap) (v v' : Value) (l l' : List Change) (hs : SlT h encChange 4 v l) (hs' : SlT h encChange 4 v' l') (hl : l.length ≤ 281474976710656) (hl' : l'.length ≤ 281474976710656) :
    ACall Try.prog 26 [v, v'] h fun r h' => Ext h h' ∧ r = .bool (decide (l = l')) := by
  refine ACall.of Try.func26 s26 (of_decide_eq_true rfl) ?_
  have R := hs.rulesN
  have R' := hs'.rulesN
  simp (maxSteps := 4000000) (disch := omega) only [ah, am, Nat.reduceEqDiff, reduceCtorEq, Nat.reduceAdd, Nat.reduceLeDiff, Nat.reduceMul, Nat.reduceLT, if_true, if_false, true_and, and_true, and_self, Nat.reduceBEq, QOp.loads, boxO, bslO, buildO, cutL, fillV, putL, w26, v26, R, R']
  refine stepI.split (fun hp => ?_) (fun hp => ?_)
  rotate_left
  · simp (maxSteps := 4000000) (disch := omega) only [ah, am, Nat.reduceEqDiff, reduceCtorEq, Nat.reduceAdd, Nat.reduceLeDiff, Nat.reduceMul, Nat.reduceLT, if_true, if_false, true_and, and_true, and_self, Nat.reduceBEq, QOp.loads, boxO, bslO, buildO, cutL, fillV, putL, w26, v26]
    exact ⟨Ext.refl h, by rw [decide_eq_false]; rintro rfl; exact hp rfl⟩
  have hll : l.length = l'.length := by omega
  simp (maxSteps := 4000000) (disch := omega) only [ah, am, Nat.reduceEqDiff, reduceCtorEq, Nat.reduceAdd, Nat.reduceLeDiff, Nat.reduceMul, Nat.reduceLT, if_true, if_false, true_and, and_true, and_self, Nat.reduceBEq, QOp.loads, boxO, bslO, buildO, cutL, fillV, putL, w26, v26]
  refine SW_loop_up (fun i E' H => E' = [(0, v), (1, v'), (5, .int .i64 i)] ∧ Ext h H ∧ ∀ j (h1 : j < i) (h2 : j < l.length), l[j] = l'[j]) l.length 0 (by omega)
    ⟨rfl, .refl h, fun j h1 h2 => absurd h1 (by omega)⟩ ?_
  rintro i E' H hi ⟨rfl, e, F⟩
  have R := (hs.ext e).rulesN
  have R' := (hs'.ext e).rulesN
  have W : IntKind.i64.wrap ((i : Int) + 1) = ((i + 1 : Nat) : Int) := i64e (by omega) (by omega)
  simp (maxSteps := 4000000) (disch := omega) only [ah, am, Nat.reduceEqDiff, reduceCtorEq, Nat.reduceAdd, Nat.reduceLeDiff, Nat.reduceMul, Nat.reduceLT, if_true, if_false, true_and, and_true, and_self, Nat.reduceBEq, QOp.loads, boxO, bslO, buildO, cutL, fillV, putL, w26, v26, R, R', W]
  refine stepI.split (fun hp => ?_) (fun hp => ?_)
  · simp (maxSteps := 4000000) (disch := omega) only [ah, am, Nat.reduceEqDiff, reduceCtorEq, Nat.reduceAdd, Nat.reduceLeDiff, Nat.reduceMul, Nat.reduceLT, if_true, if_false, true_and, and_true, and_self, Nat.reduceBEq, QOp.loads, boxO, bslO, buildO, cutL, fillV, putL, w26, v26, R, R', W]
    refine stepC.of (eqChange_ok _ _ _) ?_
    rintro r H1 ⟨e1, rfl⟩
    simp (maxSteps := 4000000) (disch := omega) only [ah, am, Nat.reduceEqDiff, reduceCtorEq, Nat.reduceAdd, Nat.reduceLeDiff, Nat.reduceMul, Nat.reduceLT, if_true, if_false, true_and, and_true, and_self, Nat.reduceBEq, QOp.loads, boxO, bslO, buildO, cutL, fillV, putL, w26, v26, R, R', W]
    refine stepI.split (fun hq => ?_) (fun hq => ?_)
    · simp (maxSteps := 4000000) (disch := omega) only [ah, am, Nat.reduceEqDiff, reduceCtorEq, Nat.reduceAdd, Nat.reduceLeDiff, Nat.reduceMul, Nat.reduceLT, if_true, if_false, true_and, and_true, and_self, Nat.reduceBEq, QOp.loads, boxO, bslO, buildO, cutL, fillV, putL, w26, v26, W]
      exact ⟨by omega, e.trans e1, fun j h1 h2 => by
        by_cases hj : j = i
        · subst hj; exact hq
        · exact F j (by omega) h2⟩
    · simp (maxSteps := 4000000) (disch := omega) only [ah, am, Nat.reduceEqDiff, reduceCtorEq, Nat.reduceAdd, Nat.reduceLeDiff, Nat.reduceMul, Nat.reduceLT, if_true, if_false, true_and, and_true, and_self, Nat.reduceBEq, QOp.loads, boxO, bslO, buildO, cutL, fillV, putL, w26, v26, W]
      exact ⟨e.trans e1, by rw [decide_eq_false]; rintro rfl; exact hq rfl⟩
  · simp (maxSteps := 4000000) (disch := omega) only [ah, am, Nat.reduceEqDiff, reduceCtorEq, Nat.reduceAdd, Nat.reduceLeDiff, Nat.reduceMul, Nat.reduceLT, if_true, if_false, true_and, and_true, and_self, Nat.reduceBEq, QOp.loads, boxO, bslO, buildO, cutL, fillV, putL, w26, v26, R, W]
    refine ⟨e, ?_⟩
    rw [decide_eq_true]
    exact List.ext_getElem hll fun j h1 h2 => F j (by omega) h1
def markChange (k : Int) (n : Nat) : List Change := (List.range n).map fun i : Nat => ⟨k + 4 * (i : Int), k + 4 * (i : Int) + 1, k + 4 * (i : Int) + 2, k + 4 * (i : Int) + 3⟩
theorem markChangeS_ok (h : Heap) (g : Nat) (v : Value) (l : List Change) (k : Int) (o : OwnT g h encChange 4 v l) (hl : l.length ≤ 1000000000) (hk : 0 ≤ k ∧ k ≤ 1000000000000) :
    ACall Try.prog 28 [v, .int .i64 k] h fun r h' => ExtG g h h' ∧ OwnT g h' encChange 4 v (markChange k l.length) ∧ r = .int .i64 (k + 4 * l.length) := by
  refine ACall.of Try.func28 s28 (of_decide_eq_true rfl) ?_
  have R := o.slt.rulesN
  simp (maxSteps := 4000000) (disch := omega) only [ah, am, Nat.reduceEqDiff, reduceCtorEq, Nat.reduceAdd, Nat.reduceLeDiff, Nat.reduceMul, Nat.reduceLT, if_true, if_false, true_and, and_true, and_self, Nat.reduceBEq, QOp.loads, boxO, bslO, buildO, cutL, fillV, putL, w28, v28, R]
  refine SW_loop_up (fun i E' H => E' = [(0, v), (1, .int .i64 (k + 4 * i)), (5, .int .i64 i)] ∧ ExtG g h H ∧ OwnT g H encChange 4 v (markChange k i ++ l.drop i)) l.length 0 (by omega)
    ⟨by simp, ExtG.refl g h, by simpa [markChange] using o⟩ ?_
  rintro i E' H hi ⟨rfl, e, O⟩
  have hlen : (markChange k i ++ l.drop i).length = l.length := by simp [markChange]; omega
  have R := O.slt.rulesN
  simp only [hlen] at R
  have W : IntKind.i64.wrap ((i : Int) + 1) = ((i + 1 : Nat) : Int) := i64e (by omega) (by omega)
  have W1 : IntKind.i64.wrap (k + 4 * (i : Int) + 1) = k + 4 * (i : Int) + 1 := i64e (by omega) (by omega)
  have W2 : IntKind.i64.wrap (k + 4 * (i : Int) + 1 + 1) = k + 4 * (i : Int) + 2 := i64e (by omega) (by omega)
  have W3 : IntKind.i64.wrap (k + 4 * (i : Int) + 2 + 1) = k + 4 * (i : Int) + 3 := i64e (by omega) (by omega)
  have W4 : IntKind.i64.wrap (k + 4 * (i : Int) + 3 + 1) = k + 4 * ((i + 1 : Nat) : Int) := i64e (by omega) (by omega)
  simp (maxSteps := 4000000) (disch := omega) only [ah, am, Nat.reduceEqDiff, reduceCtorEq, Nat.reduceAdd, Nat.reduceLeDiff, Nat.reduceMul, Nat.reduceLT, if_true, if_false, true_and, and_true, and_self, Nat.reduceBEq, QOp.loads, boxO, bslO, buildO, cutL, fillV, putL, w28, v28, R, W]
  refine stepI.split (fun hp => ?_) (fun hp => ?_)
  · have hj : i < (markChange k i ++ l.drop i).length := by omega
    obtain ⟨H1, es1, O1, G1, -⟩ := O.setF (j := i) (f := 0) (n := 1) (y := .int .i64 (k + 4 * (i : Int))) (x := ⟨(k + 4 * (i : Int)), ((markChange k i ++ l.drop i)[i]).src, ((markChange k i ++ l.drop i)[i]).inn, ((markChange k i ++ l.drop i)[i]).len⟩) (by simpa using hj) (by simp [encChange, splice, cells_int]) (by omega) rfl (by omega) rfl
    obtain ⟨H2, es2, O2, G2, -⟩ := O1.setF (j := i) (f := 1) (n := 1) (y := .int .i64 (k + 4 * (i : Int) + 1)) (x := ⟨(k + 4 * (i : Int)), (k + 4 * (i : Int) + 1), ((markChange k i ++ l.drop i)[i]).inn, ((markChange k i ++ l.drop i)[i]).len⟩) (by simpa using hj) (by simp [encChange, splice, cells_int]) (by omega) rfl (by omega) rfl
    obtain ⟨H3, es3, O3, G3, -⟩ := O2.setF (j := i) (f := 2) (n := 1) (y := .int .i64 (k + 4 * (i : Int) + 2)) (x := ⟨(k + 4 * (i : Int)), (k + 4 * (i : Int) + 1), (k + 4 * (i : Int) + 2), ((markChange k i ++ l.drop i)[i]).len⟩) (by simpa using hj) (by simp [encChange, splice, cells_int]) (by omega) rfl (by omega) rfl
    obtain ⟨H4, es4, O4, G4, -⟩ := O3.setF (j := i) (f := 3) (n := 1) (y := .int .i64 (k + 4 * (i : Int) + 3)) (x := ⟨(k + 4 * (i : Int)), (k + 4 * (i : Int) + 1), (k + 4 * (i : Int) + 2), (k + 4 * (i : Int) + 3)⟩) (by simpa using hj) (by simp [encChange, splice, cells_int]) (by omega) rfl (by omega) rfl
    simp only [List.set_set] at O4
    simp only [Nat.add_zero] at es1
    simp (maxSteps := 4000000) (disch := omega) only [ah, am, Nat.reduceEqDiff, reduceCtorEq, Nat.reduceAdd, Nat.reduceLeDiff, Nat.reduceMul, Nat.reduceLT, if_true, if_false, true_and, and_true, and_self, Nat.reduceBEq, QOp.loads, boxO, bslO, buildO, cutL, fillV, putL, w28, v28, R, es1, es2, es3, es4, W, W1, W2, W3, W4]
    refine ⟨by omega, ((((e.trans G1).trans G2).trans G3).trans G4), ?_⟩
    have := mark_step (fun i : Nat => (⟨k + 4 * (i : Int), k + 4 * (i : Int) + 1, k + 4 * (i : Int) + 2, k + 4 * (i : Int) + 3⟩ : Change)) l i (by omega)
    unfold markChange at O4 ⊢
    rw [← this]; exact O4
  · simp (maxSteps := 4000000) (disch := omega) only [ah, am, Nat.reduceEqDiff, reduceCtorEq, Nat.reduceAdd, Nat.reduceLeDiff, Nat.reduceMul, Nat.reduceLT, if_true, if_false, true_and, and_true, and_self, Nat.reduceBEq, QOp.loads, boxO, bslO, buildO, cutL, fillV, putL, w28, v28]
    obtain rfl : i = l.length := by omega
    exact ⟨e, by simpa using O, rfl⟩
theorem markChangeS_mine {a b : Nat} {h : Heap} {v : Value} {l : List Change} (k : Int) (m : Mine a b h encChange 4 v l) (hl : l.length ≤ 1000000000) (hk : 0 ≤ k ∧ k ≤ 1000000000000) :
    ACall Try.prog 28 [v, .int .i64 k] h fun r h' => Chg a b h h' ∧ Mine a b h' encChange 4 v (markChange k l.length) ∧ r = .int .i64 (k + 4 * l.length) :=
  ACall.mine m (fun g o => markChangeS_ok h g v l k o hl hk) (fun e => by rw [e]; rfl)
theorem heldChangeS_ok (h : Heap) (v : Value) (n : Nat) (k : Int) (s : SlT h encChange 4 v (markChange k n)) (hl : n ≤ 1000000000) (hk : 0 ≤ k ∧ k ≤ 1000000000000) :
    ACall Try.prog 30 [v, .int .i64 k] h fun r h' => h' = h ∧ r = .int .i64 (k + 4 * n) := by
  refine ACall.of Try.func30 s30 (of_decide_eq_true rfl) ?_
  have R := s.rulesN
  have hn : (markChange k n).length = n := by simp [markChange]
  simp only [hn] at R
  simp (maxSteps := 4000000) (disch := omega) only [ah, am, Nat.reduceEqDiff, reduceCtorEq, Nat.reduceAdd, Nat.reduceLeDiff, Nat.reduceMul, Nat.reduceLT, if_true, if_false, true_and, and_true, and_self, Nat.reduceBEq, QOp.loads, boxO, bslO, buildO, cutL, fillV, putL, w30, v30, R]
  refine SW_loop_up (fun i E' H => E' = [(0, v), (1, .int .i64 (k + 4 * i)), (5, .int .i64 i)] ∧ H = h) n 0 (by omega) ⟨by simp, rfl⟩ ?_
  rintro i E' H hi ⟨rfl, rfl⟩
  have W : IntKind.i64.wrap ((i : Int) + 1) = ((i + 1 : Nat) : Int) := i64e (by omega) (by omega)
  have W1 : IntKind.i64.wrap (k + 4 * (i : Int) + 1) = k + 4 * (i : Int) + 1 := i64e (by omega) (by omega)
  have W2 : IntKind.i64.wrap (k + 4 * (i : Int) + 1 + 1) = k + 4 * (i : Int) + 2 := i64e (by omega) (by omega)
  have W3 : IntKind.i64.wrap (k + 4 * (i : Int) + 2 + 1) = k + 4 * (i : Int) + 3 := i64e (by omega) (by omega)
  have W4 : IntKind.i64.wrap (k + 4 * (i : Int) + 3 + 1) = k + 4 * ((i + 1 : Nat) : Int) := i64e (by omega) (by omega)
  simp (maxSteps := 4000000) (disch := omega) only [ah, am, Nat.reduceEqDiff, reduceCtorEq, Nat.reduceAdd, Nat.reduceLeDiff, Nat.reduceMul, Nat.reduceLT, if_true, if_false, true_and, and_true, and_self, Nat.reduceBEq, QOp.loads, boxO, bslO, buildO, cutL, fillV, putL, w30, v30, R, W]
  refine stepI.split (fun hp => ?_) (fun hp => ?_)
  · have g : ∀ (hj : i < (markChange k n).length), encChange (markChange k n)[i] = [.int .i64 (k + 4 * (i : Int)), .int .i64 (k + 4 * (i : Int) + 1), .int .i64 (k + 4 * (i : Int) + 2), .int .i64 (k + 4 * (i : Int) + 3)] := by
      intro hj; simp [markChange, encChange]
    simp (maxSteps := 4000000) (disch := omega) only [ah, am, Nat.reduceEqDiff, reduceCtorEq, Nat.reduceAdd, Nat.reduceLeDiff, Nat.reduceMul, Nat.reduceLT, if_true, if_false, true_and, and_true, and_self, Nat.reduceBEq, QOp.loads, boxO, bslO, buildO, cutL, fillV, putL, w30, v30, R, g, W, W1, W2, W3, W4, decide_true, stepI_true]
    omega
  · simp (maxSteps := 4000000) (disch := omega) only [ah, am, Nat.reduceEqDiff, reduceCtorEq, Nat.reduceAdd, Nat.reduceLeDiff, Nat.reduceMul, Nat.reduceLT, if_true, if_false, true_and, and_true, and_self, Nat.reduceBEq, QOp.loads, boxO, bslO, buildO, cutL, fillV, putL, w30, v30]
    obtain rfl : i = n := by omega
    rfl
end Go.Proofs.Ytbnppofkpgfhnaa
