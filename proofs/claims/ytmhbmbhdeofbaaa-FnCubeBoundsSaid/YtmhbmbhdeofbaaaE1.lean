import Derived.Test.YtmhbmbhdeofbaaaN0
namespace Go.Proofs.Ytmhbmbhdeofbaaa
open Go Go.Ah
set_option linter.unusedSimpArgs false
set_option linter.unusedVariables false
set_option maxRecDepth 10000
set_option maxHeartbeats 4000000
/-! 6 loop.example/g00066/laws.szRgbS: parameters 2, live [0, 1], slots [0:a, 1:left, 2:a, 3:left] -/
def c6_0 : List SOper := [⟨some 4, .q (.mv (.c (.int .i64 0))), none⟩]
def c6_1 : List SOper := [⟨some 5, .q (.mv (.t 1)), none⟩, ⟨some 6, .q (.mv (.t 0)), none⟩, ⟨some 7, .q (.len (.t 6)), none⟩, ⟨some 8, .q (.bin .sub (.t 5) (.t 7)), none⟩, ⟨some 1, .q (.mv (.t 8)), none⟩]
def c6_2 : List SOper := [⟨some 9, .q (.mv (.t 1)), none⟩, ⟨some 10, .q (.bin .lss (.t 9) (.c (.int .i64 0))), none⟩]
def c6_3 : List SOper := [⟨some 4, .q (.mv (.c (.int .i64 (-1)))), none⟩]
def c6_4 : SCode := .seq (.region c6_3 [4]) .ret
def c6_5 : SCode := .cond (.t 10) c6_4 .skip
def c6_6 : SCode := .seq (.region c6_2 [1, 10]) c6_5
def c6_7 : List SOper := [⟨some 11, .q (.mv (.t 1)), none⟩, ⟨some 4, .q (.mv (.t 11)), none⟩]
def c6_8 : SCode := .seq (.region c6_7 [4]) .ret
def c6_9 : SCode := .seq c6_6 c6_8
def c6_10 : SCode := .seq (.region c6_1 [1]) c6_9
def c6_11 : SCode := .seq (.region c6_0 [0, 1]) c6_10
def c6 : SCode := c6_11
theorem w6 : type_of% (And.intro (uR Try.prog c6_0.eq_1) (And.intro (uR Try.prog c6_1.eq_1) (And.intro (uR Try.prog c6_2.eq_1) (And.intro (uR Try.prog c6_3.eq_1) (And.intro (uC Try.prog c6_4.eq_1) (And.intro (uC Try.prog c6_5.eq_1) (And.intro (uC Try.prog c6_6.eq_1) (And.intro (uR Try.prog c6_7.eq_1) (And.intro (uC Try.prog c6_8.eq_1) (And.intro (uC Try.prog c6_9.eq_1) (And.intro (uC Try.prog c6_10.eq_1) (And.intro (uC Try.prog c6_11.eq_1) (uC Try.prog c6.eq_1))))))))))))) := (And.intro (uR Try.prog c6_0.eq_1) (And.intro (uR Try.prog c6_1.eq_1) (And.intro (uR Try.prog c6_2.eq_1) (And.intro (uR Try.prog c6_3.eq_1) (And.intro (uC Try.prog c6_4.eq_1) (And.intro (uC Try.prog c6_5.eq_1) (And.intro (uC Try.prog c6_6.eq_1) (And.intro (uR Try.prog c6_7.eq_1) (And.intro (uC Try.prog c6_8.eq_1) (And.intro (uC Try.prog c6_9.eq_1) (And.intro (uC Try.prog c6_10.eq_1) (And.intro (uC Try.prog c6_11.eq_1) (uC Try.prog c6.eq_1)))))))))))))
def v6 : List RV := [.t 4]
theorem s6 : slimF Try.prog Try.f6 = some (c6.bare, v6) := by kernel_rfl

/-! 8 loop.example/g00066/laws.toRgbS: parameters 1, live [0], slots [0:a, 1:a, 3:out, 4:i] -/
def c8_0 : List SOper := [⟨some 2, .q (.mv (.c (.slice none 0 0))), none⟩]
def c8_1 : List SOper := [⟨some 5, .q (.mv (.t 0)), none⟩, ⟨some 6, .q (.len (.t 5)), none⟩, ⟨some 7, .a (.mks 24 3 [(.int .i64 0), (.int .i64 0), (.int .i64 0)] (.t 6) (.t 6)), none⟩, ⟨some 3, .q (.mv (.t 7)), none⟩]
def c8_2 : List SOper := [⟨some 4, .q (.mv (.c (.int .i64 0))), none⟩]
def c8_3 : List SOper := [⟨some 8, .q (.mv (.t 4)), none⟩, ⟨some 9, .q (.mv (.t 0)), none⟩, ⟨some 10, .q (.len (.t 9)), none⟩, ⟨some 11, .q (.bin .lss (.t 8) (.t 10)), none⟩]
def c8_4 : SCode := .cond (.t 11) .skip (.exit 0)
def c8_5 : SCode := .seq (.region c8_3 [0, 3, 4, 11]) c8_4
def c8_6 : List SOper := [⟨some 14, .q (.mv (.t 3)), none⟩, ⟨some 15, .q (.mv (.t 4)), none⟩, ⟨some 16, .q (.mv (.t 0)), none⟩, ⟨some 17, .q (.mv (.t 4)), none⟩, ⟨some 18, .q (.ia 3 (.t 16) (.t 17)), none⟩, ⟨some 19, .q (.ldn 3 (.t 18)), none⟩, ⟨some 20, .e (.call 9 [(.t 19)]), none⟩, ⟨some 21, .q (.ia 3 (.t 14) (.t 15)), none⟩, ⟨none, .e (.st 3 (.t 21) (.t 20)), none⟩]
def c8_7 : SCode := .block 1 (.region c8_6 [0, 3, 4])
def c8_8 : List SOper := [⟨some 12, .q (.mv (.t 4)), none⟩, ⟨some 13, .q (.bin .add (.t 12) (.c (.int .i64 1))), none⟩, ⟨some 4, .q (.mv (.t 13)), none⟩]
def c8_9 : SCode := .seq c8_7 (.region c8_8 [0, 3, 4])
def c8_10 : SCode := .seq c8_5 c8_9
def c8_11 : SCode := .loop c8_10
def c8_12 : SCode := .block 0 c8_11
def c8_13 : SCode := .seq (.region c8_2 [0, 3, 4]) c8_12
def c8_14 : List SOper := [⟨some 22, .q (.mv (.t 3)), none⟩, ⟨some 2, .q (.mv (.t 22)), none⟩]
def c8_15 : SCode := .seq (.region c8_14 [2]) .ret
def c8_16 : SCode := .seq c8_13 c8_15
def c8_17 : SCode := .seq (.region c8_1 [0, 3]) c8_16
def c8_18 : SCode := .seq (.region c8_0 [0]) c8_17
def c8 : SCode := c8_18
theorem w8 : type_of% (And.intro (uR Try.prog c8_0.eq_1) (And.intro (uR Try.prog c8_1.eq_1) (And.intro (uR Try.prog c8_2.eq_1) (And.intro (uR Try.prog c8_3.eq_1) (And.intro (uC Try.prog c8_4.eq_1) (And.intro (uC Try.prog c8_5.eq_1) (And.intro (uR Try.prog c8_6.eq_1) (And.intro (uC Try.prog c8_7.eq_1) (And.intro (uR Try.prog c8_8.eq_1) (And.intro (uC Try.prog c8_9.eq_1) (And.intro (uC Try.prog c8_10.eq_1) (And.intro (uC Try.prog c8_11.eq_1) (And.intro (uC Try.prog c8_12.eq_1) (And.intro (uC Try.prog c8_13.eq_1) (And.intro (uR Try.prog c8_14.eq_1) (And.intro (uC Try.prog c8_15.eq_1) (And.intro (uC Try.prog c8_16.eq_1) (And.intro (uC Try.prog c8_17.eq_1) (And.intro (uC Try.prog c8_18.eq_1) (uC Try.prog c8.eq_1)))))))))))))))))))) := (And.intro (uR Try.prog c8_0.eq_1) (And.intro (uR Try.prog c8_1.eq_1) (And.intro (uR Try.prog c8_2.eq_1) (And.intro (uR Try.prog c8_3.eq_1) (And.intro (uC Try.prog c8_4.eq_1) (And.intro (uC Try.prog c8_5.eq_1) (And.intro (uR Try.prog c8_6.eq_1) (And.intro (uC Try.prog c8_7.eq_1) (And.intro (uR Try.prog c8_8.eq_1) (And.intro (uC Try.prog c8_9.eq_1) (And.intro (uC Try.prog c8_10.eq_1) (And.intro (uC Try.prog c8_11.eq_1) (And.intro (uC Try.prog c8_12.eq_1) (And.intro (uC Try.prog c8_13.eq_1) (And.intro (uR Try.prog c8_14.eq_1) (And.intro (uC Try.prog c8_15.eq_1) (And.intro (uC Try.prog c8_16.eq_1) (And.intro (uC Try.prog c8_17.eq_1) (And.intro (uC Try.prog c8_18.eq_1) (uC Try.prog c8.eq_1))))))))))))))))))))
def v8 : List RV := [.t 2]
theorem s8 : slimF Try.prog Try.f8 = some (c8.bare, v8) := by kernel_rfl

/-! 9 loop.example/g00066/laws.toRgb: parameters 1, live [0], slots [0:a, 1:a, 3:out] -/
def c9_0 : List SOper := [⟨some 1, .a (.box (.t 0)), none⟩, ⟨some 2, .a (.new [(.int .i64 0), (.int .i64 0), (.int .i64 0)]), none⟩]
def c9_1 : List SOper := [⟨some 3, .a (.new [(.int .i64 0), (.int .i64 0), (.int .i64 0)]), none⟩]
def c9_2 : List SOper := [⟨some 4, .q (.fa 0 (.t 1)), none⟩, ⟨some 5, .q (.ld (.t 4)), none⟩, ⟨some 6, .q (.fa 0 (.t 3)), none⟩, ⟨none, .e (.st 1 (.t 6) (.t 5)), none⟩]
def c9_3 : List SOper := [⟨some 7, .q (.fa 1 (.t 1)), none⟩, ⟨some 8, .q (.ld (.t 7)), none⟩, ⟨some 9, .q (.fa 1 (.t 3)), none⟩, ⟨none, .e (.st 1 (.t 9) (.t 8)), none⟩]
def c9_4 : List SOper := [⟨some 10, .q (.fa 2 (.t 1)), none⟩, ⟨some 11, .q (.ld (.t 10)), none⟩, ⟨some 12, .q (.fa 2 (.t 3)), none⟩, ⟨none, .e (.st 1 (.t 12) (.t 11)), none⟩]
def c9_5 : List SOper := [⟨some 13, .q (.ldn 3 (.t 3)), none⟩, ⟨none, .e (.st 3 (.t 2) (.t 13)), none⟩]
def c9_6 : SCode := .seq (.region c9_5 [2]) .ret
def c9_7 : SCode := .seq (.region c9_4 [2, 3]) c9_6
def c9_8 : SCode := .seq (.region c9_3 [1, 2, 3]) c9_7
def c9_9 : SCode := .seq (.region c9_2 [1, 2, 3]) c9_8
def c9_10 : SCode := .seq (.region c9_1 [1, 2, 3]) c9_9
def c9_11 : SCode := .seq (.region c9_0 [1, 2]) c9_10
def c9 : SCode := c9_11
theorem w9 : type_of% (And.intro (uR Try.prog c9_0.eq_1) (And.intro (uR Try.prog c9_1.eq_1) (And.intro (uR Try.prog c9_2.eq_1) (And.intro (uR Try.prog c9_3.eq_1) (And.intro (uR Try.prog c9_4.eq_1) (And.intro (uR Try.prog c9_5.eq_1) (And.intro (uC Try.prog c9_6.eq_1) (And.intro (uC Try.prog c9_7.eq_1) (And.intro (uC Try.prog c9_8.eq_1) (And.intro (uC Try.prog c9_9.eq_1) (And.intro (uC Try.prog c9_10.eq_1) (And.intro (uC Try.prog c9_11.eq_1) (uC Try.prog c9.eq_1))))))))))))) := (And.intro (uR Try.prog c9_0.eq_1) (And.intro (uR Try.prog c9_1.eq_1) (And.intro (uR Try.prog c9_2.eq_1) (And.intro (uR Try.prog c9_3.eq_1) (And.intro (uR Try.prog c9_4.eq_1) (And.intro (uR Try.prog c9_5.eq_1) (And.intro (uC Try.prog c9_6.eq_1) (And.intro (uC Try.prog c9_7.eq_1) (And.intro (uC Try.prog c9_8.eq_1) (And.intro (uC Try.prog c9_9.eq_1) (And.intro (uC Try.prog c9_10.eq_1) (And.intro (uC Try.prog c9_11.eq_1) (uC Try.prog c9.eq_1)))))))))))))
def v9 : List RV := [.c 2 (some 3)]
theorem s9 : slimF Try.prog Try.f9 = some (c9.bare, v9) := by kernel_rfl

/-! 12 loop.example/g00066/laws.eqRgbS: parameters 2, live [0, 1], slots [0:a, 1:b, 2:a, 3:b, 5:i] -/
def c12_0 : List SOper := [⟨some 4, .q (.mv (.c (.bool false))), none⟩]
def c12_1 : List SOper := [⟨some 6, .q (.mv (.t 0)), none⟩, ⟨some 7, .q (.len (.t 6)), none⟩, ⟨some 8, .q (.mv (.t 1)), none⟩, ⟨some 9, .q (.len (.t 8)), none⟩, ⟨some 10, .q (.bin .neq (.t 7) (.t 9)), none⟩]
def c12_2 : List SOper := [⟨some 4, .q (.mv (.c (.bool false))), none⟩]
def c12_3 : SCode := .seq (.region c12_2 [4]) .ret
def c12_4 : SCode := .cond (.t 10) c12_3 .skip
def c12_5 : SCode := .seq (.region c12_1 [0, 1, 10]) c12_4
def c12_6 : List SOper := [⟨some 5, .q (.mv (.c (.int .i64 0))), none⟩]
def c12_7 : List SOper := [⟨some 11, .q (.mv (.t 5)), none⟩, ⟨some 12, .q (.mv (.t 0)), none⟩, ⟨some 13, .q (.len (.t 12)), none⟩, ⟨some 14, .q (.bin .lss (.t 11) (.t 13)), none⟩]
def c12_8 : SCode := .cond (.t 14) .skip (.exit 0)
def c12_9 : SCode := .seq (.region c12_7 [0, 1, 5, 14]) c12_8
def c12_10 : List SOper := [⟨some 17, .q (.mv (.t 0)), none⟩, ⟨some 18, .q (.mv (.t 5)), none⟩, ⟨some 19, .q (.ia 3 (.t 17) (.t 18)), none⟩, ⟨some 20, .q (.ldn 3 (.t 19)), none⟩, ⟨some 21, .q (.mv (.t 1)), none⟩, ⟨some 22, .q (.mv (.t 5)), none⟩, ⟨some 23, .q (.ia 3 (.t 21) (.t 22)), none⟩, ⟨some 24, .q (.ldn 3 (.t 23)), none⟩, ⟨some 25, .e (.call 11 [(.t 20), (.t 24)]), none⟩, ⟨some 26, .q (.not (.t 25)), none⟩]
def c12_11 : List SOper := [⟨some 4, .q (.mv (.c (.bool false))), none⟩]
def c12_12 : SCode := .seq (.region c12_11 [4]) .ret
def c12_13 : SCode := .cond (.t 26) c12_12 .skip
def c12_14 : SCode := .seq (.region c12_10 [0, 1, 5, 26]) c12_13
def c12_15 : SCode := .block 1 c12_14
def c12_16 : List SOper := [⟨some 15, .q (.mv (.t 5)), none⟩, ⟨some 16, .q (.bin .add (.t 15) (.c (.int .i64 1))), none⟩, ⟨some 5, .q (.mv (.t 16)), none⟩]
def c12_17 : SCode := .seq c12_15 (.region c12_16 [0, 1, 5])
def c12_18 : SCode := .seq c12_9 c12_17
def c12_19 : SCode := .loop c12_18
def c12_20 : SCode := .block 0 c12_19
def c12_21 : SCode := .seq (.region c12_6 [0, 1, 5]) c12_20
def c12_22 : List SOper := [⟨some 4, .q (.mv (.c (.bool true))), none⟩]
def c12_23 : SCode := .seq (.region c12_22 [4]) .ret
def c12_24 : SCode := .seq c12_21 c12_23
def c12_25 : SCode := .seq c12_5 c12_24
def c12_26 : SCode := .seq (.region c12_0 [0, 1]) c12_25
def c12 : SCode := c12_26
theorem w12 : type_of% (And.intro (uR Try.prog c12_0.eq_1) (And.intro (uR Try.prog c12_1.eq_1) (And.intro (uR Try.prog c12_2.eq_1) (And.intro (uC Try.prog c12_3.eq_1) (And.intro (uC Try.prog c12_4.eq_1) (And.intro (uC Try.prog c12_5.eq_1) (And.intro (uR Try.prog c12_6.eq_1) (And.intro (uR Try.prog c12_7.eq_1) (And.intro (uC Try.prog c12_8.eq_1) (And.intro (uC Try.prog c12_9.eq_1) (And.intro (uR Try.prog c12_10.eq_1) (And.intro (uR Try.prog c12_11.eq_1) (And.intro (uC Try.prog c12_12.eq_1) (And.intro (uC Try.prog c12_13.eq_1) (And.intro (uC Try.prog c12_14.eq_1) (And.intro (uC Try.prog c12_15.eq_1) (And.intro (uR Try.prog c12_16.eq_1) (And.intro (uC Try.prog c12_17.eq_1) (And.intro (uC Try.prog c12_18.eq_1) (And.intro (uC Try.prog c12_19.eq_1) (And.intro (uC Try.prog c12_20.eq_1) (And.intro (uC Try.prog c12_21.eq_1) (And.intro (uR Try.prog c12_22.eq_1) (And.intro (uC Try.prog c12_23.eq_1) (And.intro (uC Try.prog c12_24.eq_1) (And.intro (uC Try.prog c12_25.eq_1) (And.intro (uC Try.prog c12_26.eq_1) (uC Try.prog c12.eq_1)))))))))))))))))))))))))))) := (And.intro (uR Try.prog c12_0.eq_1) (And.intro (uR Try.prog c12_1.eq_1) (And.intro (uR Try.prog c12_2.eq_1) (And.intro (uC Try.prog c12_3.eq_1) (And.intro (uC Try.prog c12_4.eq_1) (And.intro (uC Try.prog c12_5.eq_1) (And.intro (uR Try.prog c12_6.eq_1) (And.intro (uR Try.prog c12_7.eq_1) (And.intro (uC Try.prog c12_8.eq_1) (And.intro (uC Try.prog c12_9.eq_1) (And.intro (uR Try.prog c12_10.eq_1) (And.intro (uR Try.prog c12_11.eq_1) (And.intro (uC Try.prog c12_12.eq_1) (And.intro (uC Try.prog c12_13.eq_1) (And.intro (uC Try.prog c12_14.eq_1) (And.intro (uC Try.prog c12_15.eq_1) (And.intro (uR Try.prog c12_16.eq_1) (And.intro (uC Try.prog c12_17.eq_1) (And.intro (uC Try.prog c12_18.eq_1) (And.intro (uC Try.prog c12_19.eq_1) (And.intro (uC Try.prog c12_20.eq_1) (And.intro (uC Try.prog c12_21.eq_1) (And.intro (uR Try.prog c12_22.eq_1) (And.intro (uC Try.prog c12_23.eq_1) (And.intro (uC Try.prog c12_24.eq_1) (And.intro (uC Try.prog c12_25.eq_1) (And.intro (uC Try.prog c12_26.eq_1) (uC Try.prog c12.eq_1))))))))))))))))))))))))))))
def v12 : List RV := [.t 4]
theorem s12 : slimF Try.prog Try.f12 = some (c12.bare, v12) := by kernel_rfl

/-! 11 loop.example/g00066/laws.eqRgb: parameters 2, live [0, 1], slots [0:a, 1:b, 2:a, 3:b] -/
def c11_0 : List SOper := [⟨some 2, .a (.box (.t 0)), none⟩, ⟨some 3, .a (.box (.t 1)), none⟩, ⟨some 4, .q (.mv (.c (.bool false))), none⟩]
def c11_1 : List SOper := [⟨some 5, .q (.fa 0 (.t 2)), none⟩, ⟨some 6, .q (.ld (.t 5)), none⟩, ⟨some 7, .q (.fa 0 (.t 3)), none⟩, ⟨some 8, .q (.ld (.t 7)), none⟩, ⟨some 9, .q (.bin .neq (.t 6) (.t 8)), none⟩]
def c11_2 : List SOper := [⟨some 4, .q (.mv (.c (.bool false))), none⟩]
def c11_3 : SCode := .seq (.region c11_2 [4]) .ret
def c11_4 : SCode := .cond (.t 9) c11_3 .skip
def c11_5 : SCode := .seq (.region c11_1 [2, 3, 9]) c11_4
def c11_6 : List SOper := [⟨some 10, .q (.fa 1 (.t 2)), none⟩, ⟨some 11, .q (.ld (.t 10)), none⟩, ⟨some 12, .q (.fa 1 (.t 3)), none⟩, ⟨some 13, .q (.ld (.t 12)), none⟩, ⟨some 14, .q (.bin .neq (.t 11) (.t 13)), none⟩]
def c11_7 : List SOper := [⟨some 4, .q (.mv (.c (.bool false))), none⟩]
def c11_8 : SCode := .seq (.region c11_7 [4]) .ret
def c11_9 : SCode := .cond (.t 14) c11_8 .skip
def c11_10 : SCode := .seq (.region c11_6 [2, 3, 14]) c11_9
def c11_11 : List SOper := [⟨some 15, .q (.fa 2 (.t 2)), none⟩, ⟨some 16, .q (.ld (.t 15)), none⟩, ⟨some 17, .q (.fa 2 (.t 3)), none⟩, ⟨some 18, .q (.ld (.t 17)), none⟩, ⟨some 19, .q (.bin .neq (.t 16) (.t 18)), none⟩]
def c11_12 : List SOper := [⟨some 4, .q (.mv (.c (.bool false))), none⟩]
def c11_13 : SCode := .seq (.region c11_12 [4]) .ret
def c11_14 : SCode := .cond (.t 19) c11_13 .skip
def c11_15 : SCode := .seq (.region c11_11 [19]) c11_14
def c11_16 : List SOper := [⟨some 4, .q (.mv (.c (.bool true))), none⟩]
def c11_17 : SCode := .seq (.region c11_16 [4]) .ret
def c11_18 : SCode := .seq c11_15 c11_17
def c11_19 : SCode := .seq c11_10 c11_18
def c11_20 : SCode := .seq c11_5 c11_19
def c11_21 : SCode := .seq (.region c11_0 [2, 3]) c11_20
def c11 : SCode := c11_21
theorem w11 : type_of% (And.intro (uR Try.prog c11_0.eq_1) (And.intro (uR Try.prog c11_1.eq_1) (And.intro (uR Try.prog c11_2.eq_1) (And.intro (uC Try.prog c11_3.eq_1) (And.intro (uC Try.prog c11_4.eq_1) (And.intro (uC Try.prog c11_5.eq_1) (And.intro (uR Try.prog c11_6.eq_1) (And.intro (uR Try.prog c11_7.eq_1) (And.intro (uC Try.prog c11_8.eq_1) (And.intro (uC Try.prog c11_9.eq_1) (And.intro (uC Try.prog c11_10.eq_1) (And.intro (uR Try.prog c11_11.eq_1) (And.intro (uR Try.prog c11_12.eq_1) (And.intro (uC Try.prog c11_13.eq_1) (And.intro (uC Try.prog c11_14.eq_1) (And.intro (uC Try.prog c11_15.eq_1) (And.intro (uR Try.prog c11_16.eq_1) (And.intro (uC Try.prog c11_17.eq_1) (And.intro (uC Try.prog c11_18.eq_1) (And.intro (uC Try.prog c11_19.eq_1) (And.intro (uC Try.prog c11_20.eq_1) (And.intro (uC Try.prog c11_21.eq_1) (uC Try.prog c11.eq_1))))))))))))))))))))))) := (And.intro (uR Try.prog c11_0.eq_1) (And.intro (uR Try.prog c11_1.eq_1) (And.intro (uR Try.prog c11_2.eq_1) (And.intro (uC Try.prog c11_3.eq_1) (And.intro (uC Try.prog c11_4.eq_1) (And.intro (uC Try.prog c11_5.eq_1) (And.intro (uR Try.prog c11_6.eq_1) (And.intro (uR Try.prog c11_7.eq_1) (And.intro (uC Try.prog c11_8.eq_1) (And.intro (uC Try.prog c11_9.eq_1) (And.intro (uC Try.prog c11_10.eq_1) (And.intro (uR Try.prog c11_11.eq_1) (And.intro (uR Try.prog c11_12.eq_1) (And.intro (uC Try.prog c11_13.eq_1) (And.intro (uC Try.prog c11_14.eq_1) (And.intro (uC Try.prog c11_15.eq_1) (And.intro (uR Try.prog c11_16.eq_1) (And.intro (uC Try.prog c11_17.eq_1) (And.intro (uC Try.prog c11_18.eq_1) (And.intro (uC Try.prog c11_19.eq_1) (And.intro (uC Try.prog c11_20.eq_1) (And.intro (uC Try.prog c11_21.eq_1) (uC Try.prog c11.eq_1)))))))))))))))))))))))
def v11 : List RV := [.t 4]
theorem s11 : slimF Try.prog Try.f11 = some (c11.bare, v11) := by kernel_rfl

structure Rgb where
  r : Int
  g : Int
  b : Int
  deriving DecidableEq
def zRgb : Rgb := ⟨0, 0, 0⟩
def encRgb (k : Rgb) : List Value := [.int .i64 k.r, .int .i64 k.g, .int .i64 k.b]
theorem encRgb_len (k : Rgb) : (encRgb k).length = 3 := rfl
theorem toRgb_ok (h : Heap) (k : Rgb) : ACall Try.prog 9 [.agg (encRgb k).toArray] h fun r h' => Ext h h' ∧ r = .agg (encRgb k).toArray := by
  refine ACall.of Try.func9 s9 (of_decide_eq_true rfl) ?_
  simp (maxSteps := 4000000) (disch := omega) only [ah, am, Nat.reduceEqDiff, reduceCtorEq, Nat.reduceAdd, Nat.reduceLeDiff, Nat.reduceMul, Nat.reduceLT, if_true, if_false, true_and, and_true, and_self, Nat.reduceBEq, QOp.loads, boxO, bslO, buildO, cutL, fillV, putL, w9, v9, encRgb]
  exact Ext.more _ _
theorem toRgb_ok' (h : Heap) (a b c : Int) : ACall Try.prog 9 [.agg [.int .i64 a, .int .i64 b, .int .i64 c].toArray] h fun r h' => Ext h h' ∧ r = .agg [.int .i64 a, .int .i64 b, .int .i64 c].toArray := toRgb_ok h ⟨a, b, c⟩
theorem eqRgb_ok (h : Heap) (k k' : Rgb) : ACall Try.prog 11 [.agg (encRgb k).toArray, .agg (encRgb k').toArray] h
    fun r h' => Ext h h' ∧ r = .bool (decide (k = k')) := by
  obtain ⟨a, b, c⟩ := k; obtain ⟨a', b', c'⟩ := k'
  refine ACall.of Try.func11 s11 (of_decide_eq_true rfl) ?_
  simp (maxSteps := 4000000) (disch := omega) only [ah, am, Nat.reduceEqDiff, reduceCtorEq, Nat.reduceAdd, Nat.reduceLeDiff, Nat.reduceMul, Nat.reduceLT, if_true, if_false, true_and, and_true, and_self, Nat.reduceBEq, QOp.loads, boxO, bslO, buildO, cutL, fillV, putL, w11, v11, encRgb, stepI_dec]
  repeat' split
  all_goals exact ⟨Ext.more _ _, by simp [*]⟩
theorem szRgbS_ok (h : Heap) (v : Value) (l : List Rgb) (left : Int) (hs : SlT h encRgb 3 v l) (h0 : 0 ≤ left) (h1 : left ≤ 1048576) (hl : l.length ≤ 9223372036854775807) :
    ACall Try.prog 6 [v, .int .i64 left] h fun r h' => h' = h ∧ r = .int .i64 (if left - l.length < 0 then -1 else left - l.length) := by
  refine ACall.of Try.func6 s6 (of_decide_eq_true rfl) ?_
  have R := hs.rules
  have W : IntKind.i64.wrap (left - l.length) = left - l.length := i64e (by omega) (by omega)
  simp (maxSteps := 4000000) (disch := omega) only [ah, am, Nat.reduceEqDiff, reduceCtorEq, Nat.reduceAdd, Nat.reduceLeDiff, Nat.reduceMul, Nat.reduceLT, if_true, if_false, true_and, and_true, and_self, Nat.reduceBEq, QOp.loads, boxO, bslO, buildO, cutL, fillV, putL, w6, v6, R, W, stepI_dec]
  split <;> simp
theorem toRgbS_ok (h : Heap) (v : Value) (l : List Rgb) (hs : SlT h encRgb 3 v l) (hl : l.length ≤ 1048576) :
    ACall Try.prog 8 [v] h fun r h' => Fresh h h' encRgb 3 r l := by
  refine ACall.of Try.func8 s8 (of_decide_eq_true rfl) ?_
  have R := hs.rulesN
  simp (maxSteps := 4000000) (disch := omega) only [ah, am, Nat.reduceEqDiff, reduceCtorEq, Nat.reduceAdd, Nat.reduceLeDiff, Nat.reduceMul, Nat.reduceLT, if_true, if_false, true_and, and_true, and_self, Nat.reduceBEq, QOp.loads, boxO, bslO, buildO, cutL, fillV, putL, w8, v8, R, mksV_nat]
  refine SW_loop_up (fun i E' H => ∃ ov, E' = [(0, v), (3, ov), (4, .int .i64 i)] ∧ Fresh h H encRgb 3 ov (l.take i ++ List.replicate (l.length - i) zRgb)) l.length 0 (by omega)
    ⟨_, rfl, by have := Fresh.newR (sz := 3) h l.length zRgb encRgb_len (by omega); simpa [encRgb, zRgb] using this⟩ ?_
  rintro i E' H hi ⟨ov, rfl, F⟩
  have R := (hs.ext F.1).rulesN
  have W : IntKind.i64.wrap ((i : Int) + 1) = ((i + 1 : Nat) : Int) := i64e (by omega) (by omega)
  simp (maxSteps := 4000000) (disch := omega) only [ah, am, Nat.reduceEqDiff, reduceCtorEq, Nat.reduceAdd, Nat.reduceLeDiff, Nat.reduceMul, Nat.reduceLT, if_true, if_false, true_and, and_true, and_self, Nat.reduceBEq, QOp.loads, boxO, bslO, buildO, cutL, fillV, putL, w8, v8, R, W]
  refine stepI.split (fun hp => ?_) (fun hp => ?_)
  · simp (maxSteps := 4000000) (disch := omega) only [ah, am, Nat.reduceEqDiff, reduceCtorEq, Nat.reduceAdd, Nat.reduceLeDiff, Nat.reduceMul, Nat.reduceLT, if_true, if_false, true_and, and_true, and_self, Nat.reduceBEq, QOp.loads, boxO, bslO, buildO, cutL, fillV, putL, w8, v8, R, W]
    refine stepC.of (toRgb_ok _ _) ?_
    rintro r H1 ⟨e1, rfl⟩
    have F1 := F.ext e1
    obtain ⟨H2, es, F2, hsz⟩ := F1.set (j := i) (by simp; omega) l[i] rfl
    have R2 := F1.slt.rulesN
    simp only [List.length_append, List.length_take, List.length_replicate] at R2
    simp (maxSteps := 4000000) (disch := omega) only [ah, am, Nat.reduceEqDiff, reduceCtorEq, Nat.reduceAdd, Nat.reduceLeDiff, Nat.reduceMul, Nat.reduceLT, if_true, if_false, true_and, and_true, and_self, Nat.reduceBEq, QOp.loads, boxO, bslO, buildO, cutL, fillV, putL, w8, v8, R2, es, W]
    refine ⟨by omega, _, rfl, ?_⟩
    rw [show List.take (i + 1) l ++ List.replicate (l.length - (i + 1)) zRgb = (l.take i ++ List.replicate (l.length - i) zRgb).set i l[i] from (take_set_repG l zRgb i (by omega)).symm]
    exact F2
  · simp (maxSteps := 4000000) (disch := omega) only [ah, am, Nat.reduceEqDiff, reduceCtorEq, Nat.reduceAdd, Nat.reduceLeDiff, Nat.reduceMul, Nat.reduceLT, if_true, if_false, true_and, and_true, and_self, Nat.reduceBEq, QOp.loads, boxO, bslO, buildO, cutL, fillV, putL, w8, v8, R, W]
    obtain rfl : i = l.length := by omega
    simpa using F
theorem eqRgbS_ok (h : Heap) (v v' : Value) (l l' : List Rgb) (hs : SlT h encRgb 3 v l) (hs' : SlT h encRgb 3 v' l') (hl : l.length ≤ 281474976710656) (hl' : l'.length ≤ 281474976710656) :
    ACall Try.prog 12 [v, v'] h fun r h' => Ext h h' ∧ r = .bool (decide (l = l')) := by
  refine ACall.of Try.func12 s12 (of_decide_eq_true rfl) ?_
  have R := hs.rulesN
  have R' := hs'.rulesN
  simp (maxSteps := 4000000) (disch := omega) only [ah, am, Nat.reduceEqDiff, reduceCtorEq, Nat.reduceAdd, Nat.reduceLeDiff, Nat.reduceMul, Nat.reduceLT, if_true, if_false, true_and, and_true, and_self, Nat.reduceBEq, QOp.loads, boxO, bslO, buildO, cutL, fillV, putL, w12, v12, R, R']
  refine stepI.split (fun hp => ?_) (fun hp => ?_)
  rotate_left
  · simp (maxSteps := 4000000) (disch := omega) only [ah, am, Nat.reduceEqDiff, reduceCtorEq, Nat.reduceAdd, Nat.reduceLeDiff, Nat.reduceMul, Nat.reduceLT, if_true, if_false, true_and, and_true, and_self, Nat.reduceBEq, QOp.loads, boxO, bslO, buildO, cutL, fillV, putL, w12, v12]
    exact ⟨Ext.refl h, by rw [decide_eq_false]; rintro rfl; exact hp rfl⟩
  have hll : l.length = l'.length := by omega
  simp (maxSteps := 4000000) (disch := omega) only [ah, am, Nat.reduceEqDiff, reduceCtorEq, Nat.reduceAdd, Nat.reduceLeDiff, Nat.reduceMul, Nat.reduceLT, if_true, if_false, true_and, and_true, and_self, Nat.reduceBEq, QOp.loads, boxO, bslO, buildO, cutL, fillV, putL, w12, v12]
  refine SW_loop_up (fun i E' H => E' = [(0, v), (1, v'), (5, .int .i64 i)] ∧ Ext h H ∧ ∀ j (h1 : j < i) (h2 : j < l.length), l[j] = l'[j]) l.length 0 (by omega)
    ⟨rfl, .refl h, fun j h1 h2 => absurd h1 (by omega)⟩ ?_
  rintro i E' H hi ⟨rfl, e, F⟩
  have R := (hs.ext e).rulesN
  have R' := (hs'.ext e).rulesN
  have W : IntKind.i64.wrap ((i : Int) + 1) = ((i + 1 : Nat) : Int) := i64e (by omega) (by omega)
  simp (maxSteps := 4000000) (disch := omega) only [ah, am, Nat.reduceEqDiff, reduceCtorEq, Nat.reduceAdd, Nat.reduceLeDiff, Nat.reduceMul, Nat.reduceLT, if_true, if_false, true_and, and_true, and_self, Nat.reduceBEq, QOp.loads, boxO, bslO, buildO, cutL, fillV, putL, w12, v12, R, R', W]
  refine stepI.split (fun hp => ?_) (fun hp => ?_)
  · simp (maxSteps := 4000000) (disch := omega) only [ah, am, Nat.reduceEqDiff, reduceCtorEq, Nat.reduceAdd, Nat.reduceLeDiff, Nat.reduceMul, Nat.reduceLT, if_true, if_false, true_and, and_true, and_self, Nat.reduceBEq, QOp.loads, boxO, bslO, buildO, cutL, fillV, putL, w12, v12, R, R', W]
    refine stepC.of (eqRgb_ok _ _ _) ?_
    rintro r H1 ⟨e1, rfl⟩
    simp (maxSteps := 4000000) (disch := omega) only [ah, am, Nat.reduceEqDiff, reduceCtorEq, Nat.reduceAdd, Nat.reduceLeDiff, Nat.reduceMul, Nat.reduceLT, if_true, if_false, true_and, and_true, and_self, Nat.reduceBEq, QOp.loads, boxO, bslO, buildO, cutL, fillV, putL, w12, v12, R, R', W]
    refine stepI.split (fun hq => ?_) (fun hq => ?_)
    · simp (maxSteps := 4000000) (disch := omega) only [ah, am, Nat.reduceEqDiff, reduceCtorEq, Nat.reduceAdd, Nat.reduceLeDiff, Nat.reduceMul, Nat.reduceLT, if_true, if_false, true_and, and_true, and_self, Nat.reduceBEq, QOp.loads, boxO, bslO, buildO, cutL, fillV, putL, w12, v12, W]
      exact ⟨by omega, e.trans e1, fun j h1 h2 => by
        by_cases hj : j = i
        · subst hj; exact hq
        · exact F j (by omega) h2⟩
    · simp (maxSteps := 4000000) (disch := omega) only [ah, am, Nat.reduceEqDiff, reduceCtorEq, Nat.reduceAdd, Nat.reduceLeDiff, Nat.reduceMul, Nat.reduceLT, if_true, if_false, true_and, and_true, and_self, Nat.reduceBEq, QOp.loads, boxO, bslO, buildO, cutL, fillV, putL, w12, v12, W]
      exact ⟨e.trans e1, by rw [decide_eq_false]; rintro rfl; exact hq rfl⟩
  · simp (maxSteps := 4000000) (disch := omega) only [ah, am, Nat.reduceEqDiff, reduceCtorEq, Nat.reduceAdd, Nat.reduceLeDiff, Nat.reduceMul, Nat.reduceLT, if_true, if_false, true_and, and_true, and_self, Nat.reduceBEq, QOp.loads, boxO, bslO, buildO, cutL, fillV, putL, w12, v12, R, W]
    refine ⟨e, ?_⟩
    rw [decide_eq_true]
    exact List.ext_getElem hll fun j h1 h2 => F j (by omega) h1
end Go.Proofs.Ytmhbmbhdeofbaaa
