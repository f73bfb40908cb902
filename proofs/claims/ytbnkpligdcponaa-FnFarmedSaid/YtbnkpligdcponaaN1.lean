import Derived.Test.YtbnkpligdcponaaN0
namespace Go.Proofs.Ytbnkpligdcponaa
open Go Go.Ah
set_option linter.unusedSimpArgs false
set_option linter.unusedVariables false
set_option maxRecDepth 10000
set_option maxHeartbeats 4000000
/-! 8 loop.example/g00066/laws.szTaskS: parameters 2, live [0, 1], slots [0:a, 1:left, 2:a, 3:left, 5:i] -/
def c8_0 : List SOper := [⟨some 4, .q (.mv (.c (.int .i64 0))), none⟩]
def c8_1 : List SOper := [⟨some 6, .q (.mv (.t 1)), none⟩, ⟨some 7, .q (.mv (.t 0)), none⟩, ⟨some 8, .q (.len (.t 7)), none⟩, ⟨some 9, .q (.bin .sub (.t 6) (.t 8)), none⟩, ⟨some 1, .q (.mv (.t 9)), none⟩]
def c8_2 : List SOper := [⟨some 10, .q (.mv (.t 1)), none⟩, ⟨some 11, .q (.bin .lss (.t 10) (.c (.int .i64 0))), none⟩]
def c8_3 : List SOper := [⟨some 4, .q (.mv (.c (.int .i64 (-1)))), none⟩]
def c8_4 : SCode := .seq (.region c8_3 [4]) .ret
def c8_5 : SCode := .cond (.t 11) c8_4 .skip
def c8_6 : SCode := .seq (.region c8_2 [0, 1, 11]) c8_5
def c8_7 : List SOper := [⟨some 5, .q (.mv (.c (.int .i64 0))), none⟩]
def c8_8 : List SOper := [⟨some 12, .q (.mv (.t 5)), none⟩, ⟨some 13, .q (.mv (.t 0)), none⟩, ⟨some 14, .q (.len (.t 13)), none⟩, ⟨some 15, .q (.bin .lss (.t 12) (.t 14)), none⟩]
def c8_9 : SCode := .cond (.t 15) .skip (.exit 0)
def c8_10 : SCode := .seq (.region c8_8 [0, 1, 5, 15]) c8_9
def c8_11 : List SOper := [⟨some 18, .q (.mv (.t 0)), none⟩, ⟨some 19, .q (.mv (.t 5)), none⟩, ⟨some 20, .q (.ia 4 (.t 18) (.t 19)), none⟩, ⟨some 21, .q (.ldn 4 (.t 20)), none⟩, ⟨some 22, .q (.mv (.t 1)), none⟩, ⟨some 23, .e (.call 34 [(.t 21), (.t 22)]), none⟩, ⟨some 1, .q (.mv (.t 23)), none⟩]
def c8_12 : List SOper := [⟨some 24, .q (.mv (.t 1)), none⟩, ⟨some 25, .q (.bin .lss (.t 24) (.c (.int .i64 0))), none⟩]
def c8_13 : List SOper := [⟨some 4, .q (.mv (.c (.int .i64 (-1)))), none⟩]
def c8_14 : SCode := .seq (.region c8_13 [4]) .ret
def c8_15 : SCode := .cond (.t 25) c8_14 .skip
def c8_16 : SCode := .seq (.region c8_12 [0, 1, 5, 25]) c8_15
def c8_17 : SCode := .seq (.region c8_11 [0, 1, 5]) c8_16
def c8_18 : SCode := .block 1 c8_17
def c8_19 : List SOper := [⟨some 16, .q (.mv (.t 5)), none⟩, ⟨some 17, .q (.bin .add (.t 16) (.c (.int .i64 1))), none⟩, ⟨some 5, .q (.mv (.t 17)), none⟩]
def c8_20 : SCode := .seq c8_18 (.region c8_19 [0, 1, 5])
def c8_21 : SCode := .seq c8_10 c8_20
def c8_22 : SCode := .loop c8_21
def c8_23 : SCode := .block 0 c8_22
def c8_24 : SCode := .seq (.region c8_7 [0, 1, 5]) c8_23
def c8_25 : List SOper := [⟨some 26, .q (.mv (.t 1)), none⟩, ⟨some 4, .q (.mv (.t 26)), none⟩]
def c8_26 : SCode := .seq (.region c8_25 [4]) .ret
def c8_27 : SCode := .seq c8_24 c8_26
def c8_28 : SCode := .seq c8_6 c8_27
def c8_29 : SCode := .seq (.region c8_1 [0, 1]) c8_28
def c8_30 : SCode := .seq (.region c8_0 [0, 1]) c8_29
def c8 : SCode := c8_30
theorem w8 : type_of% (And.intro (uR Try.prog c8_0.eq_1) (And.intro (uR Try.prog c8_1.eq_1) (And.intro (uR Try.prog c8_2.eq_1) (And.intro (uR Try.prog c8_3.eq_1) (And.intro (uC Try.prog c8_4.eq_1) (And.intro (uC Try.prog c8_5.eq_1) (And.intro (uC Try.prog c8_6.eq_1) (And.intro (uR Try.prog c8_7.eq_1) (And.intro (uR Try.prog c8_8.eq_1) (And.intro (uC Try.prog c8_9.eq_1) (And.intro (uC Try.prog c8_10.eq_1) (And.intro (uR Try.prog c8_11.eq_1) (And.intro (uR Try.prog c8_12.eq_1) (And.intro (uR Try.prog c8_13.eq_1) (And.intro (uC Try.prog c8_14.eq_1) (And.intro (uC Try.prog c8_15.eq_1) (And.intro (uC Try.prog c8_16.eq_1) (And.intro (uC Try.prog c8_17.eq_1) (And.intro (uC Try.prog c8_18.eq_1) (And.intro (uR Try.prog c8_19.eq_1) (And.intro (uC Try.prog c8_20.eq_1) (And.intro (uC Try.prog c8_21.eq_1) (And.intro (uC Try.prog c8_22.eq_1) (And.intro (uC Try.prog c8_23.eq_1) (And.intro (uC Try.prog c8_24.eq_1) (And.intro (uR Try.prog c8_25.eq_1) (And.intro (uC Try.prog c8_26.eq_1) (And.intro (uC Try.prog c8_27.eq_1) (And.intro (uC Try.prog c8_28.eq_1) (And.intro (uC Try.prog c8_29.eq_1) (And.intro (uC Try.prog c8_30.eq_1) (uC Try.prog c8.eq_1)))))))))))))))))))))))))))))))) := (And.intro (uR Try.prog c8_0.eq_1) (And.intro (uR Try.prog c8_1.eq_1) (And.intro (uR Try.prog c8_2.eq_1) (And.intro (uR Try.prog c8_3.eq_1) (And.intro (uC Try.prog c8_4.eq_1) (And.intro (uC Try.prog c8_5.eq_1) (And.intro (uC Try.prog c8_6.eq_1) (And.intro (uR Try.prog c8_7.eq_1) (And.intro (uR Try.prog c8_8.eq_1) (And.intro (uC Try.prog c8_9.eq_1) (And.intro (uC Try.prog c8_10.eq_1) (And.intro (uR Try.prog c8_11.eq_1) (And.intro (uR Try.prog c8_12.eq_1) (And.intro (uR Try.prog c8_13.eq_1) (And.intro (uC Try.prog c8_14.eq_1) (And.intro (uC Try.prog c8_15.eq_1) (And.intro (uC Try.prog c8_16.eq_1) (And.intro (uC Try.prog c8_17.eq_1) (And.intro (uC Try.prog c8_18.eq_1) (And.intro (uR Try.prog c8_19.eq_1) (And.intro (uC Try.prog c8_20.eq_1) (And.intro (uC Try.prog c8_21.eq_1) (And.intro (uC Try.prog c8_22.eq_1) (And.intro (uC Try.prog c8_23.eq_1) (And.intro (uC Try.prog c8_24.eq_1) (And.intro (uR Try.prog c8_25.eq_1) (And.intro (uC Try.prog c8_26.eq_1) (And.intro (uC Try.prog c8_27.eq_1) (And.intro (uC Try.prog c8_28.eq_1) (And.intro (uC Try.prog c8_29.eq_1) (And.intro (uC Try.prog c8_30.eq_1) (uC Try.prog c8.eq_1))))))))))))))))))))))))))))))))
def v8 : List RV := [.t 4]
theorem s8 : slimF Try.prog Try.f8 = some (c8.bare, v8) := by kernel_rfl
/-! 34 loop.example/g00066/laws.szTask: parameters 2, live [0, 1], slots [0:a, 1:left, 2:a, 3:left] -/
def c34_0 : List SOper := [⟨some 2, .a (.box (.t 0)), none⟩, ⟨some 4, .q (.mv (.c (.int .i64 0))), none⟩]
def c34_1 : List SOper := [⟨some 5, .q (.fa 2 (.t 2)), none⟩, ⟨some 6, .q (.ld (.t 5)), none⟩, ⟨some 7, .q (.mv (.t 1)), none⟩, ⟨some 8, .e (.call 54 [(.t 6), (.t 7)]), none⟩, ⟨some 1, .q (.mv (.t 8)), none⟩]
def c34_2 : List SOper := [⟨some 9, .q (.mv (.t 1)), none⟩, ⟨some 10, .q (.bin .lss (.t 9) (.c (.int .i64 0))), none⟩]
def c34_3 : List SOper := [⟨some 4, .q (.mv (.c (.int .i64 (-1)))), none⟩]
def c34_4 : SCode := .seq (.region c34_3 [4]) .ret
def c34_5 : SCode := .cond (.t 10) c34_4 .skip
def c34_6 : SCode := .seq (.region c34_2 [1, 10]) c34_5
def c34_7 : List SOper := [⟨some 11, .q (.mv (.t 1)), none⟩, ⟨some 4, .q (.mv (.t 11)), none⟩]
def c34_8 : SCode := .seq (.region c34_7 [4]) .ret
def c34_9 : SCode := .seq c34_6 c34_8
def c34_10 : SCode := .seq (.region c34_1 [1]) c34_9
def c34_11 : SCode := .seq (.region c34_0 [1, 2]) c34_10
def c34 : SCode := c34_11
theorem w34 : type_of% (And.intro (uR Try.prog c34_0.eq_1) (And.intro (uR Try.prog c34_1.eq_1) (And.intro (uR Try.prog c34_2.eq_1) (And.intro (uR Try.prog c34_3.eq_1) (And.intro (uC Try.prog c34_4.eq_1) (And.intro (uC Try.prog c34_5.eq_1) (And.intro (uC Try.prog c34_6.eq_1) (And.intro (uR Try.prog c34_7.eq_1) (And.intro (uC Try.prog c34_8.eq_1) (And.intro (uC Try.prog c34_9.eq_1) (And.intro (uC Try.prog c34_10.eq_1) (And.intro (uC Try.prog c34_11.eq_1) (uC Try.prog c34.eq_1))))))))))))) := (And.intro (uR Try.prog c34_0.eq_1) (And.intro (uR Try.prog c34_1.eq_1) (And.intro (uR Try.prog c34_2.eq_1) (And.intro (uR Try.prog c34_3.eq_1) (And.intro (uC Try.prog c34_4.eq_1) (And.intro (uC Try.prog c34_5.eq_1) (And.intro (uC Try.prog c34_6.eq_1) (And.intro (uR Try.prog c34_7.eq_1) (And.intro (uC Try.prog c34_8.eq_1) (And.intro (uC Try.prog c34_9.eq_1) (And.intro (uC Try.prog c34_10.eq_1) (And.intro (uC Try.prog c34_11.eq_1) (uC Try.prog c34.eq_1)))))))))))))
def v34 : List RV := [.t 4]
theorem s34 : slimF Try.prog Try.f34 = some (c34.bare, v34) := by kernel_rfl
/-! 10 loop.example/g00066/laws.toTaskS: parameters 1, live [0], slots [0:a, 1:a, 3:out, 4:i] -/
def c10_0 : List SOper := [⟨some 2, .q (.mv (.c (.slice none 0 0))), none⟩]
def c10_1 : List SOper := [⟨some 5, .q (.mv (.t 0)), none⟩, ⟨some 6, .q (.len (.t 5)), none⟩, ⟨some 7, .a (.mks 48 4 [(.int .i64 0), (.int .i64 0), (.slice none 0 0), (.int .i64 0)] (.t 6) (.t 6)), none⟩, ⟨some 3, .q (.mv (.t 7)), none⟩]
def c10_2 : List SOper := [⟨some 4, .q (.mv (.c (.int .i64 0))), none⟩]
def c10_3 : List SOper := [⟨some 8, .q (.mv (.t 4)), none⟩, ⟨some 9, .q (.mv (.t 0)), none⟩, ⟨some 10, .q (.len (.t 9)), none⟩, ⟨some 11, .q (.bin .lss (.t 8) (.t 10)), none⟩]
def c10_4 : SCode := .cond (.t 11) .skip (.exit 0)
def c10_5 : SCode := .seq (.region c10_3 [0, 3, 4, 11]) c10_4
def c10_6 : List SOper := [⟨some 14, .q (.mv (.t 3)), none⟩, ⟨some 15, .q (.mv (.t 4)), none⟩, ⟨some 16, .q (.mv (.t 0)), none⟩, ⟨some 17, .q (.mv (.t 4)), none⟩, ⟨some 18, .q (.ia 4 (.t 16) (.t 17)), none⟩, ⟨some 19, .q (.ldn 4 (.t 18)), none⟩, ⟨some 20, .e (.call 35 [(.t 19)]), none⟩, ⟨some 21, .q (.ia 4 (.t 14) (.t 15)), none⟩, ⟨none, .e (.st 4 (.t 21) (.t 20)), none⟩]
def c10_7 : SCode := .block 1 (.region c10_6 [0, 3, 4])
def c10_8 : List SOper := [⟨some 12, .q (.mv (.t 4)), none⟩, ⟨some 13, .q (.bin .add (.t 12) (.c (.int .i64 1))), none⟩, ⟨some 4, .q (.mv (.t 13)), none⟩]
def c10_9 : SCode := .seq c10_7 (.region c10_8 [0, 3, 4])
def c10_10 : SCode := .seq c10_5 c10_9
def c10_11 : SCode := .loop c10_10
def c10_12 : SCode := .block 0 c10_11
def c10_13 : SCode := .seq (.region c10_2 [0, 3, 4]) c10_12
def c10_14 : List SOper := [⟨some 22, .q (.mv (.t 3)), none⟩, ⟨some 2, .q (.mv (.t 22)), none⟩]
def c10_15 : SCode := .seq (.region c10_14 [2]) .ret
def c10_16 : SCode := .seq c10_13 c10_15
def c10_17 : SCode := .seq (.region c10_1 [0, 3]) c10_16
def c10_18 : SCode := .seq (.region c10_0 [0]) c10_17
def c10 : SCode := c10_18
theorem w10 : type_of% (And.intro (uR Try.prog c10_0.eq_1) (And.intro (uR Try.prog c10_1.eq_1) (And.intro (uR Try.prog c10_2.eq_1) (And.intro (uR Try.prog c10_3.eq_1) (And.intro (uC Try.prog c10_4.eq_1) (And.intro (uC Try.prog c10_5.eq_1) (And.intro (uR Try.prog c10_6.eq_1) (And.intro (uC Try.prog c10_7.eq_1) (And.intro (uR Try.prog c10_8.eq_1) (And.intro (uC Try.prog c10_9.eq_1) (And.intro (uC Try.prog c10_10.eq_1) (And.intro (uC Try.prog c10_11.eq_1) (And.intro (uC Try.prog c10_12.eq_1) (And.intro (uC Try.prog c10_13.eq_1) (And.intro (uR Try.prog c10_14.eq_1) (And.intro (uC Try.prog c10_15.eq_1) (And.intro (uC Try.prog c10_16.eq_1) (And.intro (uC Try.prog c10_17.eq_1) (And.intro (uC Try.prog c10_18.eq_1) (uC Try.prog c10.eq_1)))))))))))))))))))) := (And.intro (uR Try.prog c10_0.eq_1) (And.intro (uR Try.prog c10_1.eq_1) (And.intro (uR Try.prog c10_2.eq_1) (And.intro (uR Try.prog c10_3.eq_1) (And.intro (uC Try.prog c10_4.eq_1) (And.intro (uC Try.prog c10_5.eq_1) (And.intro (uR Try.prog c10_6.eq_1) (And.intro (uC Try.prog c10_7.eq_1) (And.intro (uR Try.prog c10_8.eq_1) (And.intro (uC Try.prog c10_9.eq_1) (And.intro (uC Try.prog c10_10.eq_1) (And.intro (uC Try.prog c10_11.eq_1) (And.intro (uC Try.prog c10_12.eq_1) (And.intro (uC Try.prog c10_13.eq_1) (And.intro (uR Try.prog c10_14.eq_1) (And.intro (uC Try.prog c10_15.eq_1) (And.intro (uC Try.prog c10_16.eq_1) (And.intro (uC Try.prog c10_17.eq_1) (And.intro (uC Try.prog c10_18.eq_1) (uC Try.prog c10.eq_1))))))))))))))))))))
def v10 : List RV := [.t 2]
theorem s10 : slimF Try.prog Try.f10 = some (c10.bare, v10) := by kernel_rfl
/-! 35 loop.example/g00066/laws.toTask: parameters 1, live [0], slots [0:a, 1:a, 3:out] -/
def c35_0 : List SOper := [⟨some 1, .a (.box (.t 0)), none⟩, ⟨some 2, .a (.new [(.int .i64 0), (.int .i64 0), (.slice none 0 0), (.int .i64 0)]), none⟩]
def c35_1 : List SOper := [⟨some 3, .a (.new [(.int .i64 0), (.int .i64 0), (.slice none 0 0), (.int .i64 0)]), none⟩]
def c35_2 : List SOper := [⟨some 4, .q (.fa 0 (.t 1)), none⟩, ⟨some 5, .q (.ld (.t 4)), none⟩, ⟨some 6, .q (.fa 0 (.t 3)), none⟩, ⟨none, .e (.st 1 (.t 6) (.t 5)), none⟩]
def c35_3 : List SOper := [⟨some 7, .q (.fa 1 (.t 1)), none⟩, ⟨some 8, .q (.ld (.t 7)), none⟩, ⟨some 9, .q (.fa 1 (.t 3)), none⟩, ⟨none, .e (.st 1 (.t 9) (.t 8)), none⟩]
def c35_4 : List SOper := [⟨some 10, .q (.fa 2 (.t 1)), none⟩, ⟨some 11, .q (.ld (.t 10)), none⟩, ⟨some 12, .e (.call 11 [(.t 11)]), none⟩, ⟨some 13, .q (.fa 2 (.t 3)), none⟩, ⟨none, .e (.st 1 (.t 13) (.t 12)), none⟩]
def c35_5 : List SOper := [⟨some 14, .q (.fa 3 (.t 1)), none⟩, ⟨some 15, .q (.ld (.t 14)), none⟩, ⟨some 16, .q (.fa 3 (.t 3)), none⟩, ⟨none, .e (.st 1 (.t 16) (.t 15)), none⟩]
def c35_6 : List SOper := [⟨some 17, .q (.ldn 4 (.t 3)), none⟩, ⟨none, .e (.st 4 (.t 2) (.t 17)), none⟩]
def c35_7 : SCode := .seq (.region c35_6 [2]) .ret
def c35_8 : SCode := .seq (.region c35_5 [2, 3]) c35_7
def c35_9 : SCode := .seq (.region c35_4 [1, 2, 3]) c35_8
def c35_10 : SCode := .seq (.region c35_3 [1, 2, 3]) c35_9
def c35_11 : SCode := .seq (.region c35_2 [1, 2, 3]) c35_10
def c35_12 : SCode := .seq (.region c35_1 [1, 2, 3]) c35_11
def c35_13 : SCode := .seq (.region c35_0 [1, 2]) c35_12
def c35 : SCode := c35_13
theorem w35 : type_of% (And.intro (uR Try.prog c35_0.eq_1) (And.intro (uR Try.prog c35_1.eq_1) (And.intro (uR Try.prog c35_2.eq_1) (And.intro (uR Try.prog c35_3.eq_1) (And.intro (uR Try.prog c35_4.eq_1) (And.intro (uR Try.prog c35_5.eq_1) (And.intro (uR Try.prog c35_6.eq_1) (And.intro (uC Try.prog c35_7.eq_1) (And.intro (uC Try.prog c35_8.eq_1) (And.intro (uC Try.prog c35_9.eq_1) (And.intro (uC Try.prog c35_10.eq_1) (And.intro (uC Try.prog c35_11.eq_1) (And.intro (uC Try.prog c35_12.eq_1) (And.intro (uC Try.prog c35_13.eq_1) (uC Try.prog c35.eq_1))))))))))))))) := (And.intro (uR Try.prog c35_0.eq_1) (And.intro (uR Try.prog c35_1.eq_1) (And.intro (uR Try.prog c35_2.eq_1) (And.intro (uR Try.prog c35_3.eq_1) (And.intro (uR Try.prog c35_4.eq_1) (And.intro (uR Try.prog c35_5.eq_1) (And.intro (uR Try.prog c35_6.eq_1) (And.intro (uC Try.prog c35_7.eq_1) (And.intro (uC Try.prog c35_8.eq_1) (And.intro (uC Try.prog c35_9.eq_1) (And.intro (uC Try.prog c35_10.eq_1) (And.intro (uC Try.prog c35_11.eq_1) (And.intro (uC Try.prog c35_12.eq_1) (And.intro (uC Try.prog c35_13.eq_1) (uC Try.prog c35.eq_1)))))))))))))))
def v35 : List RV := [.c 2 (some 4)]
theorem s35 : slimF Try.prog Try.f35 = some (c35.bare, v35) := by kernel_rfl
/-! 14 loop.example/g00066/laws.eqTaskS: parameters 2, live [0, 1], slots [0:a, 1:b, 2:a, 3:b, 5:i] -/
def c14_0 : List SOper := [⟨some 4, .q (.mv (.c (.bool false))), none⟩]
def c14_1 : List SOper := [⟨some 6, .q (.mv (.t 0)), none⟩, ⟨some 7, .q (.len (.t 6)), none⟩, ⟨some 8, .q (.mv (.t 1)), none⟩, ⟨some 9, .q (.len (.t 8)), none⟩, ⟨some 10, .q (.bin .neq (.t 7) (.t 9)), none⟩]
def c14_2 : List SOper := [⟨some 4, .q (.mv (.c (.bool false))), none⟩]
def c14_3 : SCode := .seq (.region c14_2 [4]) .ret
def c14_4 : SCode := .cond (.t 10) c14_3 .skip
def c14_5 : SCode := .seq (.region c14_1 [0, 1, 10]) c14_4
def c14_6 : List SOper := [⟨some 5, .q (.mv (.c (.int .i64 0))), none⟩]
def c14_7 : List SOper := [⟨some 11, .q (.mv (.t 5)), none⟩, ⟨some 12, .q (.mv (.t 0)), none⟩, ⟨some 13, .q (.len (.t 12)), none⟩, ⟨some 14, .q (.bin .lss (.t 11) (.t 13)), none⟩]
def c14_8 : SCode := .cond (.t 14) .skip (.exit 0)
def c14_9 : SCode := .seq (.region c14_7 [0, 1, 5, 14]) c14_8
def c14_10 : List SOper := [⟨some 17, .q (.mv (.t 0)), none⟩, ⟨some 18, .q (.mv (.t 5)), none⟩, ⟨some 19, .q (.ia 4 (.t 17) (.t 18)), none⟩, ⟨some 20, .q (.ldn 4 (.t 19)), none⟩, ⟨some 21, .q (.mv (.t 1)), none⟩, ⟨some 22, .q (.mv (.t 5)), none⟩, ⟨some 23, .q (.ia 4 (.t 21) (.t 22)), none⟩, ⟨some 24, .q (.ldn 4 (.t 23)), none⟩, ⟨some 25, .e (.call 42 [(.t 20), (.t 24)]), none⟩, ⟨some 26, .q (.not (.t 25)), none⟩]
def c14_11 : List SOper := [⟨some 4, .q (.mv (.c (.bool false))), none⟩]
def c14_12 : SCode := .seq (.region c14_11 [4]) .ret
def c14_13 : SCode := .cond (.t 26) c14_12 .skip
def c14_14 : SCode := .seq (.region c14_10 [0, 1, 5, 26]) c14_13
def c14_15 : SCode := .block 1 c14_14
def c14_16 : List SOper := [⟨some 15, .q (.mv (.t 5)), none⟩, ⟨some 16, .q (.bin .add (.t 15) (.c (.int .i64 1))), none⟩, ⟨some 5, .q (.mv (.t 16)), none⟩]
def c14_17 : SCode := .seq c14_15 (.region c14_16 [0, 1, 5])
def c14_18 : SCode := .seq c14_9 c14_17
def c14_19 : SCode := .loop c14_18
def c14_20 : SCode := .block 0 c14_19
def c14_21 : SCode := .seq (.region c14_6 [0, 1, 5]) c14_20
def c14_22 : List SOper := [⟨some 4, .q (.mv (.c (.bool true))), none⟩]
def c14_23 : SCode := .seq (.region c14_22 [4]) .ret
def c14_24 : SCode := .seq c14_21 c14_23
def c14_25 : SCode := .seq c14_5 c14_24
def c14_26 : SCode := .seq (.region c14_0 [0, 1]) c14_25
def c14 : SCode := c14_26
theorem w14 : type_of% (And.intro (uR Try.prog c14_0.eq_1) (And.intro (uR Try.prog c14_1.eq_1) (And.intro (uR Try.prog c14_2.eq_1) (And.intro (uC Try.prog c14_3.eq_1) (And.intro (uC Try.prog c14_4.eq_1) (And.intro (uC Try.prog c14_5.eq_1) (And.intro (uR Try.prog c14_6.eq_1) (And.intro (uR Try.prog c14_7.eq_1) (And.intro (uC Try.prog c14_8.eq_1) (And.intro (uC Try.prog c14_9.eq_1) (And.intro (uR Try.prog c14_10.eq_1) (And.intro (uR Try.prog c14_11.eq_1) (And.intro (uC Try.prog c14_12.eq_1) (And.intro (uC Try.prog c14_13.eq_1) (And.intro (uC Try.prog c14_14.eq_1) (And.intro (uC Try.prog c14_15.eq_1) (And.intro (uR Try.prog c14_16.eq_1) (And.intro (uC Try.prog c14_17.eq_1) (And.intro (uC Try.prog c14_18.eq_1) (And.intro (uC Try.prog c14_19.eq_1) (And.intro (uC Try.prog c14_20.eq_1) (And.intro (uC Try.prog c14_21.eq_1) (And.intro (uR Try.prog c14_22.eq_1) (And.intro (uC Try.prog c14_23.eq_1) (And.intro (uC Try.prog c14_24.eq_1) (And.intro (uC Try.prog c14_25.eq_1) (And.intro (uC Try.prog c14_26.eq_1) (uC Try.prog c14.eq_1)))))))))))))))))))))))))))) := (And.intro (uR Try.prog c14_0.eq_1) (And.intro (uR Try.prog c14_1.eq_1) (And.intro (uR Try.prog c14_2.eq_1) (And.intro (uC Try.prog c14_3.eq_1) (And.intro (uC Try.prog c14_4.eq_1) (And.intro (uC Try.prog c14_5.eq_1) (And.intro (uR Try.prog c14_6.eq_1) (And.intro (uR Try.prog c14_7.eq_1) (And.intro (uC Try.prog c14_8.eq_1) (And.intro (uC Try.prog c14_9.eq_1) (And.intro (uR Try.prog c14_10.eq_1) (And.intro (uR Try.prog c14_11.eq_1) (And.intro (uC Try.prog c14_12.eq_1) (And.intro (uC Try.prog c14_13.eq_1) (And.intro (uC Try.prog c14_14.eq_1) (And.intro (uC Try.prog c14_15.eq_1) (And.intro (uR Try.prog c14_16.eq_1) (And.intro (uC Try.prog c14_17.eq_1) (And.intro (uC Try.prog c14_18.eq_1) (And.intro (uC Try.prog c14_19.eq_1) (And.intro (uC Try.prog c14_20.eq_1) (And.intro (uC Try.prog c14_21.eq_1) (And.intro (uR Try.prog c14_22.eq_1) (And.intro (uC Try.prog c14_23.eq_1) (And.intro (uC Try.prog c14_24.eq_1) (And.intro (uC Try.prog c14_25.eq_1) (And.intro (uC Try.prog c14_26.eq_1) (uC Try.prog c14.eq_1))))))))))))))))))))))))))))
def v14 : List RV := [.t 4]
theorem s14 : slimF Try.prog Try.f14 = some (c14.bare, v14) := by kernel_rfl
/-! 42 loop.example/g00066/laws.eqTask: parameters 2, live [0, 1], slots [0:a, 1:b, 2:a, 3:b] -/
def c42_0 : List SOper := [⟨some 2, .a (.box (.t 0)), none⟩, ⟨some 3, .a (.box (.t 1)), none⟩, ⟨some 4, .q (.mv (.c (.bool false))), none⟩]
def c42_1 : List SOper := [⟨some 5, .q (.fa 0 (.t 2)), none⟩, ⟨some 6, .q (.ld (.t 5)), none⟩, ⟨some 7, .q (.fa 0 (.t 3)), none⟩, ⟨some 8, .q (.ld (.t 7)), none⟩, ⟨some 9, .q (.bin .neq (.t 6) (.t 8)), none⟩]
def c42_2 : List SOper := [⟨some 4, .q (.mv (.c (.bool false))), none⟩]
def c42_3 : SCode := .seq (.region c42_2 [4]) .ret
def c42_4 : SCode := .cond (.t 9) c42_3 .skip
def c42_5 : SCode := .seq (.region c42_1 [2, 3, 9]) c42_4
def c42_6 : List SOper := [⟨some 10, .q (.fa 1 (.t 2)), none⟩, ⟨some 11, .q (.ld (.t 10)), none⟩, ⟨some 12, .q (.fa 1 (.t 3)), none⟩, ⟨some 13, .q (.ld (.t 12)), none⟩, ⟨some 14, .q (.bin .neq (.t 11) (.t 13)), none⟩]
def c42_7 : List SOper := [⟨some 4, .q (.mv (.c (.bool false))), none⟩]
def c42_8 : SCode := .seq (.region c42_7 [4]) .ret
def c42_9 : SCode := .cond (.t 14) c42_8 .skip
def c42_10 : SCode := .seq (.region c42_6 [2, 3, 14]) c42_9
def c42_11 : List SOper := [⟨some 15, .q (.fa 2 (.t 2)), none⟩, ⟨some 16, .q (.ld (.t 15)), none⟩, ⟨some 17, .q (.fa 2 (.t 3)), none⟩, ⟨some 18, .q (.ld (.t 17)), none⟩, ⟨some 19, .e (.call 13 [(.t 16), (.t 18)]), none⟩, ⟨some 20, .q (.not (.t 19)), none⟩]
def c42_12 : List SOper := [⟨some 4, .q (.mv (.c (.bool false))), none⟩]
def c42_13 : SCode := .seq (.region c42_12 [4]) .ret
def c42_14 : SCode := .cond (.t 20) c42_13 .skip
def c42_15 : SCode := .seq (.region c42_11 [2, 3, 20]) c42_14
def c42_16 : List SOper := [⟨some 21, .q (.fa 3 (.t 2)), none⟩, ⟨some 22, .q (.ld (.t 21)), none⟩, ⟨some 23, .q (.fa 3 (.t 3)), none⟩, ⟨some 24, .q (.ld (.t 23)), none⟩, ⟨some 25, .q (.bin .neq (.t 22) (.t 24)), none⟩]
def c42_17 : List SOper := [⟨some 4, .q (.mv (.c (.bool false))), none⟩]
def c42_18 : SCode := .seq (.region c42_17 [4]) .ret
def c42_19 : SCode := .cond (.t 25) c42_18 .skip
def c42_20 : SCode := .seq (.region c42_16 [25]) c42_19
def c42_21 : List SOper := [⟨some 4, .q (.mv (.c (.bool true))), none⟩]
def c42_22 : SCode := .seq (.region c42_21 [4]) .ret
def c42_23 : SCode := .seq c42_20 c42_22
def c42_24 : SCode := .seq c42_15 c42_23
def c42_25 : SCode := .seq c42_10 c42_24
def c42_26 : SCode := .seq c42_5 c42_25
def c42_27 : SCode := .seq (.region c42_0 [2, 3]) c42_26
def c42 : SCode := c42_27
theorem w42 : type_of% (And.intro (uR Try.prog c42_0.eq_1) (And.intro (uR Try.prog c42_1.eq_1) (And.intro (uR Try.prog c42_2.eq_1) (And.intro (uC Try.prog c42_3.eq_1) (And.intro (uC Try.prog c42_4.eq_1) (And.intro (uC Try.prog c42_5.eq_1) (And.intro (uR Try.prog c42_6.eq_1) (And.intro (uR Try.prog c42_7.eq_1) (And.intro (uC Try.prog c42_8.eq_1) (And.intro (uC Try.prog c42_9.eq_1) (And.intro (uC Try.prog c42_10.eq_1) (And.intro (uR Try.prog c42_11.eq_1) (And.intro (uR Try.prog c42_12.eq_1) (And.intro (uC Try.prog c42_13.eq_1) (And.intro (uC Try.prog c42_14.eq_1) (And.intro (uC Try.prog c42_15.eq_1) (And.intro (uR Try.prog c42_16.eq_1) (And.intro (uR Try.prog c42_17.eq_1) (And.intro (uC Try.prog c42_18.eq_1) (And.intro (uC Try.prog c42_19.eq_1) (And.intro (uC Try.prog c42_20.eq_1) (And.intro (uR Try.prog c42_21.eq_1) (And.intro (uC Try.prog c42_22.eq_1) (And.intro (uC Try.prog c42_23.eq_1) (And.intro (uC Try.prog c42_24.eq_1) (And.intro (uC Try.prog c42_25.eq_1) (And.intro (uC Try.prog c42_26.eq_1) (And.intro (uC Try.prog c42_27.eq_1) (uC Try.prog c42.eq_1))))))))))))))))))))))))))))) := (And.intro (uR Try.prog c42_0.eq_1) (And.intro (uR Try.prog c42_1.eq_1) (And.intro (uR Try.prog c42_2.eq_1) (And.intro (uC Try.prog c42_3.eq_1) (And.intro (uC Try.prog c42_4.eq_1) (And.intro (uC Try.prog c42_5.eq_1) (And.intro (uR Try.prog c42_6.eq_1) (And.intro (uR Try.prog c42_7.eq_1) (And.intro (uC Try.prog c42_8.eq_1) (And.intro (uC Try.prog c42_9.eq_1) (And.intro (uC Try.prog c42_10.eq_1) (And.intro (uR Try.prog c42_11.eq_1) (And.intro (uR Try.prog c42_12.eq_1) (And.intro (uC Try.prog c42_13.eq_1) (And.intro (uC Try.prog c42_14.eq_1) (And.intro (uC Try.prog c42_15.eq_1) (And.intro (uR Try.prog c42_16.eq_1) (And.intro (uR Try.prog c42_17.eq_1) (And.intro (uC Try.prog c42_18.eq_1) (And.intro (uC Try.prog c42_19.eq_1) (And.intro (uC Try.prog c42_20.eq_1) (And.intro (uR Try.prog c42_21.eq_1) (And.intro (uC Try.prog c42_22.eq_1) (And.intro (uC Try.prog c42_23.eq_1) (And.intro (uC Try.prog c42_24.eq_1) (And.intro (uC Try.prog c42_25.eq_1) (And.intro (uC Try.prog c42_26.eq_1) (And.intro (uC Try.prog c42_27.eq_1) (uC Try.prog c42.eq_1)))))))))))))))))))))))))))))
def v42 : List RV := [.t 4]
theorem s42 : slimF Try.prog Try.f42 = some (c42.bare, v42) := by kernel_rfl
/-! 15 loop.example/g00066/laws.markTaskS: parameters 2, live [0, 1], slots [0:a, 1:k, 2:a, 3:k, 5:i] -/
def c15_0 : List SOper := [⟨some 4, .q (.mv (.c (.int .i64 0))), none⟩]
def c15_1 : List SOper := [⟨some 5, .q (.mv (.c (.int .i64 0))), none⟩]
def c15_2 : List SOper := [⟨some 6, .q (.mv (.t 5)), none⟩, ⟨some 7, .q (.mv (.t 0)), none⟩, ⟨some 8, .q (.len (.t 7)), none⟩, ⟨some 9, .q (.bin .lss (.t 6) (.t 8)), none⟩]
def c15_3 : SCode := .cond (.t 9) .skip (.exit 0)
def c15_4 : SCode := .seq (.region c15_2 [0, 1, 5, 9]) c15_3
def c15_5 : List SOper := [⟨some 12, .q (.mv (.t 0)), none⟩, ⟨some 13, .q (.mv (.t 5)), none⟩, ⟨some 14, .q (.mv (.t 1)), none⟩, ⟨some 15, .q (.ia 4 (.t 12) (.t 13)), none⟩, ⟨some 16, .q (.fa 0 (.t 15)), none⟩, ⟨none, .e (.st 1 (.t 16) (.t 14)), none⟩]
def c15_6 : List SOper := [⟨some 17, .q (.mv (.t 1)), none⟩, ⟨some 18, .q (.bin .add (.t 17) (.c (.int .i64 1))), none⟩, ⟨some 1, .q (.mv (.t 18)), none⟩]
def c15_7 : List SOper := [⟨some 19, .q (.mv (.t 0)), none⟩, ⟨some 20, .q (.mv (.t 5)), none⟩, ⟨some 21, .q (.mv (.t 1)), none⟩, ⟨some 22, .q (.ia 4 (.t 19) (.t 20)), none⟩, ⟨some 23, .q (.fa 1 (.t 22)), none⟩, ⟨none, .e (.st 1 (.t 23) (.t 21)), none⟩]
def c15_8 : List SOper := [⟨some 24, .q (.mv (.t 1)), none⟩, ⟨some 25, .q (.bin .add (.t 24) (.c (.int .i64 1))), none⟩, ⟨some 1, .q (.mv (.t 25)), none⟩]
def c15_9 : List SOper := [⟨some 26, .q (.mv (.t 0)), none⟩, ⟨some 27, .q (.mv (.t 5)), none⟩, ⟨some 28, .q (.ia 4 (.t 26) (.t 27)), none⟩, ⟨some 29, .q (.fa 2 (.t 28)), none⟩, ⟨some 30, .q (.ld (.t 29)), none⟩, ⟨some 31, .q (.mv (.t 1)), none⟩, ⟨some 32, .e (.call 16 [(.t 30), (.t 31)]), none⟩, ⟨some 1, .q (.mv (.t 32)), none⟩]
def c15_10 : List SOper := [⟨some 33, .q (.mv (.t 0)), none⟩, ⟨some 34, .q (.mv (.t 5)), none⟩, ⟨some 35, .q (.mv (.t 1)), none⟩, ⟨some 36, .q (.ia 4 (.t 33) (.t 34)), none⟩, ⟨some 37, .q (.fa 3 (.t 36)), none⟩, ⟨none, .e (.st 1 (.t 37) (.t 35)), none⟩]
def c15_11 : List SOper := [⟨some 38, .q (.mv (.t 1)), none⟩, ⟨some 39, .q (.bin .add (.t 38) (.c (.int .i64 1))), none⟩, ⟨some 1, .q (.mv (.t 39)), none⟩]
def c15_12 : SCode := .seq (.region c15_10 [0, 1, 5]) (.region c15_11 [0, 1, 5])
def c15_13 : SCode := .seq (.region c15_9 [0, 1, 5]) c15_12
def c15_14 : SCode := .seq (.region c15_8 [0, 1, 5]) c15_13
def c15_15 : SCode := .seq (.region c15_7 [0, 1, 5]) c15_14
def c15_16 : SCode := .seq (.region c15_6 [0, 1, 5]) c15_15
def c15_17 : SCode := .seq (.region c15_5 [0, 1, 5]) c15_16
def c15_18 : SCode := .block 1 c15_17
def c15_19 : List SOper := [⟨some 10, .q (.mv (.t 5)), none⟩, ⟨some 11, .q (.bin .add (.t 10) (.c (.int .i64 1))), none⟩, ⟨some 5, .q (.mv (.t 11)), none⟩]
def c15_20 : SCode := .seq c15_18 (.region c15_19 [0, 1, 5])
def c15_21 : SCode := .seq c15_4 c15_20
def c15_22 : SCode := .loop c15_21
def c15_23 : SCode := .block 0 c15_22
def c15_24 : SCode := .seq (.region c15_1 [0, 1, 5]) c15_23
def c15_25 : List SOper := [⟨some 40, .q (.mv (.t 1)), none⟩, ⟨some 4, .q (.mv (.t 40)), none⟩]
def c15_26 : SCode := .seq (.region c15_25 [4]) .ret
def c15_27 : SCode := .seq c15_24 c15_26
def c15_28 : SCode := .seq (.region c15_0 [0, 1]) c15_27
def c15 : SCode := c15_28
theorem w15 : type_of% (And.intro (uR Try.prog c15_0.eq_1) (And.intro (uR Try.prog c15_1.eq_1) (And.intro (uR Try.prog c15_2.eq_1) (And.intro (uC Try.prog c15_3.eq_1) (And.intro (uC Try.prog c15_4.eq_1) (And.intro (uR Try.prog c15_5.eq_1) (And.intro (uR Try.prog c15_6.eq_1) (And.intro (uR Try.prog c15_7.eq_1) (And.intro (uR Try.prog c15_8.eq_1) (And.intro (uR Try.prog c15_9.eq_1) (And.intro (uR Try.prog c15_10.eq_1) (And.intro (uR Try.prog c15_11.eq_1) (And.intro (uC Try.prog c15_12.eq_1) (And.intro (uC Try.prog c15_13.eq_1) (And.intro (uC Try.prog c15_14.eq_1) (And.intro (uC Try.prog c15_15.eq_1) (And.intro (uC Try.prog c15_16.eq_1) (And.intro (uC Try.prog c15_17.eq_1) (And.intro (uC Try.prog c15_18.eq_1) (And.intro (uR Try.prog c15_19.eq_1) (And.intro (uC Try.prog c15_20.eq_1) (And.intro (uC Try.prog c15_21.eq_1) (And.intro (uC Try.prog c15_22.eq_1) (And.intro (uC Try.prog c15_23.eq_1) (And.intro (uC Try.prog c15_24.eq_1) (And.intro (uR Try.prog c15_25.eq_1) (And.intro (uC Try.prog c15_26.eq_1) (And.intro (uC Try.prog c15_27.eq_1) (And.intro (uC Try.prog c15_28.eq_1) (uC Try.prog c15.eq_1)))))))))))))))))))))))))))))) := (And.intro (uR Try.prog c15_0.eq_1) (And.intro (uR Try.prog c15_1.eq_1) (And.intro (uR Try.prog c15_2.eq_1) (And.intro (uC Try.prog c15_3.eq_1) (And.intro (uC Try.prog c15_4.eq_1) (And.intro (uR Try.prog c15_5.eq_1) (And.intro (uR Try.prog c15_6.eq_1) (And.intro (uR Try.prog c15_7.eq_1) (And.intro (uR Try.prog c15_8.eq_1) (And.intro (uR Try.prog c15_9.eq_1) (And.intro (uR Try.prog c15_10.eq_1) (And.intro (uR Try.prog c15_11.eq_1) (And.intro (uC Try.prog c15_12.eq_1) (And.intro (uC Try.prog c15_13.eq_1) (And.intro (uC Try.prog c15_14.eq_1) (And.intro (uC Try.prog c15_15.eq_1) (And.intro (uC Try.prog c15_16.eq_1) (And.intro (uC Try.prog c15_17.eq_1) (And.intro (uC Try.prog c15_18.eq_1) (And.intro (uR Try.prog c15_19.eq_1) (And.intro (uC Try.prog c15_20.eq_1) (And.intro (uC Try.prog c15_21.eq_1) (And.intro (uC Try.prog c15_22.eq_1) (And.intro (uC Try.prog c15_23.eq_1) (And.intro (uC Try.prog c15_24.eq_1) (And.intro (uR Try.prog c15_25.eq_1) (And.intro (uC Try.prog c15_26.eq_1) (And.intro (uC Try.prog c15_27.eq_1) (And.intro (uC Try.prog c15_28.eq_1) (uC Try.prog c15.eq_1))))))))))))))))))))))))))))))
def v15 : List RV := [.t 4]
theorem s15 : slimF Try.prog Try.f15 = some (c15.bare, v15) := by kernel_rfl

/-! ### Tasks, each with a row of its own -/
structure Task where
  kind : Int
  value : Int
  needs : List Int
  cost : Int
  deriving DecidableEq
structure TaskR where
  kind : Int
  value : Int
  nv : Value
  cost : Int
def encT (t : TaskR) : List Value := [.int .i64 t.kind, .int .i64 t.value, t.nv, .int .i64 t.cost]
theorem encT_len (t : TaskR) : (encT t).length = 4 := rfl
def zTask : TaskR := ⟨0, 0, .slice none 0 0, 0⟩
def TaskAt (h : Heap) (r : TaskR) (t : Task) : Prop := r.kind = t.kind ∧ r.value = t.value ∧ r.cost = t.cost ∧ SlT h encI 1 r.nv t.needs
def JobAt (h : Heap) (v : Value) (l : List Task) : Prop := ∃ rs, SlT h encT 4 v rs ∧ rs.length = l.length ∧ ∀ i (h1 : i < rs.length) (h2 : i < l.length), TaskAt h rs[i] l[i]
theorem TaskAt.ext {h h' : Heap} {r : TaskR} {t : Task} (a : TaskAt h r t) (e : Ext h h') : TaskAt h' r t := ⟨a.1, a.2.1, a.2.2.1, a.2.2.2.ext e⟩
theorem JobAt.ext {h h' : Heap} {v : Value} {l : List Task} (a : JobAt h v l) (e : Ext h h') : JobAt h' v l := by
  obtain ⟨rs, s, hl, H⟩ := a
  exact ⟨rs, s.ext e, hl, fun i h1 h2 => (H i h1 h2).ext e⟩
/-- Inner rows of our own, one behind the other. -/
inductive Inn (h : Heap) : Nat → Nat → List TaskR → List Task → Prop
  | nil (a b : Nat) : a ≤ b → Inn h a b [] []
  | cons (a m b : Nat) (r : TaskR) (t : Task) (rs : List TaskR) (ts : List Task) : a ≤ m → r.kind = t.kind → r.value = t.value → r.cost = t.cost → Mine a m h encI 1 r.nv t.needs → Inn h m b rs ts → Inn h a b (r :: rs) (t :: ts)
theorem Inn.le {h : Heap} {a b : Nat} {rs : List TaskR} {ts : List Task} (i : Inn h a b rs ts) : a ≤ b := by
  induction i with
  | nil a b e => exact e
  | cons a m b r t rs ts e _ _ _ _ _ ih => omega
theorem Inn.hi {h : Heap} {a b c : Nat} {rs : List TaskR} {ts : List Task} (i : Inn h a b rs ts) (hc : b ≤ c) : Inn h a c rs ts := by
  induction i with
  | nil a b e => exact .nil _ _ (by omega)
  | cons a m b r t rs ts e1 e2 e3 e4 e5 _ ih => exact .cons a m c r t rs ts e1 e2 e3 e4 e5 (ih hc)
theorem Inn.chg {h h' : Heap} {a b a' b' : Nat} {rs : List TaskR} {ts : List Task} (i : Inn h a b rs ts) (c : Chg a' b' h h') (hd : b ≤ a' ∨ b' ≤ a) : Inn h' a b rs ts := by
  induction i with
  | nil a b e => exact .nil _ _ e
  | cons a m b r t rs ts e1 e2 e3 e4 e5 k ih => have := k.le; exact .cons a m b r t rs ts e1 e2 e3 e4 (e5.chg c (by omega)) (ih (by omega))
theorem Inn.ext {h h' : Heap} {a b : Nat} {rs : List TaskR} {ts : List Task} (i : Inn h a b rs ts) (e : Ext h h') : Inn h' a b rs ts := by
  induction i with
  | nil a b e => exact .nil _ _ e
  | cons a m b r t rs ts e1 e2 e3 e4 e5 k ih => exact .cons a m b r t rs ts e1 e2 e3 e4 (e5.ext e) ih
theorem Inn.snoc {h : Heap} {a m b : Nat} {rs : List TaskR} {ts : List Task} (i : Inn h a m rs ts) (r : TaskR) (t : Task) (hb : m ≤ b) (h1 : r.kind = t.kind) (h2 : r.value = t.value) (h3 : r.cost = t.cost)
    (hm : Mine m b h encI 1 r.nv t.needs) : Inn h a b (rs ++ [r]) (ts ++ [t]) := by
  induction i with
  | nil a m e => exact .cons a b b r t [] [] (by omega) h1 h2 h3 (hm.lo e) (.nil _ _ (Nat.le_refl _))
  | cons a m' b' r' t' rs ts e1 e2 e3 e4 e5 k ih => exact .cons a m' b r' t' _ _ e1 e2 e3 e4 e5 (ih hb hm)
theorem Inn.at {h : Heap} {a b : Nat} {rs : List TaskR} {ts : List Task} (i : Inn h a b rs ts) : rs.length = ts.length ∧ ∀ i (h1 : i < rs.length) (h2 : i < ts.length), TaskAt h rs[i] ts[i] := by
  induction i with
  | nil a b e => exact ⟨rfl, fun i h1 => by simp at h1⟩
  | cons a m b r t rs ts e1 e2 e3 e4 e5 k ih =>
    refine ⟨by simp [ih.1], fun i h1 h2 => ?_⟩
    cases i with
    | zero => exact ⟨e2, e3, e4, e5.slt⟩
    | succ i => exact ih.2 i (by simpa using h1) (by simpa using h2)
/-- A job of our own, of the groups from a up to b. -/
def JobOwn (a b : Nat) (h : Heap) (v : Value) (l : List Task) : Prop := ∃ rs g m, a ≤ g ∧ g < m ∧ OwnT g h encT 4 v rs ∧ Inn h m b rs l
section
variable {a b a' b' : Nat} {h h' : Heap} {v : Value} {l : List Task}
theorem JobOwn.at (o : JobOwn a b h v l) : JobAt h v l := by
  obtain ⟨rs, g, m, _, _, o, i⟩ := o
  exact ⟨rs, o.slt, i.at.1, i.at.2⟩
theorem JobOwn.ext (o : JobOwn a b h v l) (e : Ext h h') : JobOwn a b h' v l := by
  obtain ⟨rs, g, m, g1, g2, o, i⟩ := o
  exact ⟨rs, g, m, g1, g2, o.ext e, i.ext e⟩
theorem ownT_chg {g : Nat} {α : Type} {enc : α → List Value} {sz : Nat} {w : Value} {k : List α} (c : Chg a' b' h h') (o : OwnT g h enc sz w k) (hd : g < a' ∨ b' ≤ g) : OwnT g h' enc sz w k := by
  refine ⟨?_, o.hs, o.pos⟩
  rcases o.own with s | ⟨i, off, n, ob, q1, q2, q3, q4, q5, q6, q7⟩
  · exact .inl s
  · exact .inr ⟨i, off, n, ob, q1, c.2 i ob q2 (by omega), q3, q4, q5, q6, q7⟩
theorem JobOwn.chg (o : JobOwn a b h v l) (c : Chg a' b' h h') (hd : b ≤ a' ∨ b' ≤ a) : JobOwn a b h' v l := by
  obtain ⟨rs, g, m, g1, g2, o, i⟩ := o
  have := i.le
  exact ⟨rs, g, m, g1, g2, ownT_chg c o (by omega), i.chg c (by omega)⟩
end
def totN (l : List Task) : Nat := (l.map fun t => t.needs.length).sum
theorem totN_take (l : List Task) (i : Nat) (hi : i < l.length) : totN (l.take (i + 1)) = totN (l.take i) + l[i].needs.length := by
  unfold totN; rw [List.take_succ_eq_append_getElem hi, List.map_append, List.sum_append]; simp
theorem totN_le (l : List Task) (i : Nat) : totN (l.take i) ≤ totN l := by
  have : totN l = totN (l.take i) + totN (l.drop i) := by unfold totN; rw [← List.sum_append, ← List.map_append, List.take_append_drop]
  omega
theorem totN_get (l : List Task) (i : Nat) (hi : i < l.length) : l[i].needs.length ≤ totN l := by
  have := totN_take l i hi; have := totN_le l (i + 1); omega
theorem szTask_ok (h : Heap) (t : TaskR) (ns : List Int) (left : Int) (hs : SlT h encI 1 t.nv ns) (h0 : 0 ≤ left) (h1 : left ≤ 1048576) (hl : ns.length ≤ 9223372036854775807) :
    ACall Try.prog 34 [.agg (encT t).toArray, .int .i64 left] h fun r h' => Ext h h' ∧ r = .int .i64 (if left - ns.length < 0 then -1 else left - ns.length) := by
  refine ACall.of Try.func34 s34 (of_decide_eq_true rfl) ?_
  have c1 := cells_slT hs
  have o1 := oneB_slT hs
  simp (maxSteps := 4000000) (disch := omega) only [ah, am, Nat.reduceEqDiff, reduceCtorEq, Nat.reduceAdd, Nat.reduceLeDiff, Nat.reduceMul, Nat.reduceLT, if_true, if_false, true_and, and_true, and_self, Nat.reduceBEq, QOp.loads, boxO, bslO, buildO, cutL, fillV, putL, w34, v34, encT, c1, o1]
  refine stepC.of (szInt64S_ok _ _ ns left (hs.ext (Ext.more _ _)) h0 h1 hl) ?_
  rintro _ Hx ⟨hx, rfl⟩; rw [hx]; clear hx Hx
  simp (maxSteps := 4000000) (disch := omega) only [ah, am, Nat.reduceEqDiff, reduceCtorEq, Nat.reduceAdd, Nat.reduceLeDiff, Nat.reduceMul, Nat.reduceLT, if_true, if_false, true_and, and_true, and_self, Nat.reduceBEq, QOp.loads, boxO, bslO, buildO, cutL, fillV, putL, w34, v34, stepI_dec]
  split
  · rw [if_pos (by omega)]; exact ⟨Ext.more _ _, rfl⟩
  · exact Ext.more _ _
theorem szTaskS_ok (h : Heap) (v : Value) (l : List Task) (left : Int) (hj : JobAt h v l) (h0 : 0 ≤ left) (h1 : left ≤ 1048576) (hl : l.length ≤ 9223372036854775807)
    (hn : ∀ t ∈ l, t.needs.length ≤ 9223372036854775807) :
    ACall Try.prog 8 [v, .int .i64 left] h fun r h' => Ext h h' ∧ ∃ z : Int, r = .int .i64 z ∧ (z = -1 ∨ (0 ≤ z ∧ z = left - l.length - totN l)) := by
  obtain ⟨rs, s, hlen, H⟩ := hj
  refine ACall.of Try.func8 s8 (of_decide_eq_true rfl) ?_
  have R := s.rulesN
  simp only [hlen] at R
  have W : IntKind.i64.wrap (left - l.length) = left - l.length := i64e (by omega) (by omega)
  simp (maxSteps := 4000000) (disch := omega) only [ah, am, Nat.reduceEqDiff, reduceCtorEq, Nat.reduceAdd, Nat.reduceLeDiff, Nat.reduceMul, Nat.reduceLT, if_true, if_false, true_and, and_true, and_self, Nat.reduceBEq, QOp.loads, boxO, bslO, buildO, cutL, fillV, putL, w8, v8, R, W]
  refine stepI.split (fun hp => ?_) (fun hp => ?_)
  · simp (maxSteps := 4000000) (disch := omega) only [ah, am, Nat.reduceEqDiff, reduceCtorEq, Nat.reduceAdd, Nat.reduceLeDiff, Nat.reduceMul, Nat.reduceLT, if_true, if_false, true_and, and_true, and_self, Nat.reduceBEq, QOp.loads, boxO, bslO, buildO, cutL, fillV, putL, w8, v8]
    exact ⟨Ext.refl h, _, rfl, .inl rfl⟩
  simp (maxSteps := 4000000) (disch := omega) only [ah, am, Nat.reduceEqDiff, reduceCtorEq, Nat.reduceAdd, Nat.reduceLeDiff, Nat.reduceMul, Nat.reduceLT, if_true, if_false, true_and, and_true, and_self, Nat.reduceBEq, QOp.loads, boxO, bslO, buildO, cutL, fillV, putL, w8, v8]
  refine SW_loop_up (fun i E H => E = [(0, v), (1, .int .i64 (left - l.length - totN (l.take i))), (5, .int .i64 i)] ∧ Ext h H ∧ 0 ≤ left - l.length - totN (l.take i)) l.length 0 (by omega)
    ⟨by simp [totN], .refl h, by simp [totN]; omega⟩ ?_
  rintro i E K hi ⟨rfl, e, hq⟩
  have R := (s.ext e).rulesN
  simp only [hlen] at R
  have W : IntKind.i64.wrap ((i : Int) + 1) = ((i + 1 : Nat) : Int) := i64e (by omega) (by omega)
  simp (maxSteps := 4000000) (disch := omega) only [ah, am, Nat.reduceEqDiff, reduceCtorEq, Nat.reduceAdd, Nat.reduceLeDiff, Nat.reduceMul, Nat.reduceLT, if_true, if_false, true_and, and_true, and_self, Nat.reduceBEq, QOp.loads, boxO, bslO, buildO, cutL, fillV, putL, w8, v8, R, W]
  refine stepI.split (fun hp => ?_) (fun hp => ?_)
  · have hi2 : i < l.length := by omega
    have A := (H i (by omega) hi2).ext e
    simp (maxSteps := 4000000) (disch := omega) only [ah, am, Nat.reduceEqDiff, reduceCtorEq, Nat.reduceAdd, Nat.reduceLeDiff, Nat.reduceMul, Nat.reduceLT, if_true, if_false, true_and, and_true, and_self, Nat.reduceBEq, QOp.loads, boxO, bslO, buildO, cutL, fillV, putL, w8, v8, R, W]
    refine stepC.of (szTask_ok _ rs[i] _ _ A.2.2.2 hq (by omega) (hn _ (List.getElem_mem hi2))) ?_
    rintro _ K2 ⟨e2, rfl⟩
    have ht := totN_take l i hi2
    by_cases hz : left - ↑l.length - ↑(totN (List.take i l)) - ↑l[i].needs.length < 0
    · simp (maxSteps := 4000000) (disch := omega) only [ah, am, Nat.reduceEqDiff, reduceCtorEq, Nat.reduceAdd, Nat.reduceLeDiff, Nat.reduceMul, Nat.reduceLT, if_true, if_false, true_and, and_true, and_self, Nat.reduceBEq, QOp.loads, boxO, bslO, buildO, cutL, fillV, putL, w8, v8, if_pos hz, show decide ((-1 : Int) < 0) = true from rfl]
      exact ⟨e.trans e2, _, rfl, .inl rfl⟩
    · have hz' : decide (left - ↑l.length - ↑(totN (List.take i l)) - ↑l[i].needs.length < 0) = false := decide_eq_false hz
      simp (maxSteps := 4000000) (disch := omega) only [ah, am, Nat.reduceEqDiff, reduceCtorEq, Nat.reduceAdd, Nat.reduceLeDiff, Nat.reduceMul, Nat.reduceLT, if_true, if_false, true_and, and_true, and_self, Nat.reduceBEq, QOp.loads, boxO, bslO, buildO, cutL, fillV, putL, w8, v8, if_neg hz, hz', W]
      refine ⟨hi2, ?_, e.trans e2, by omega⟩
      rw [ht]
      simp only [List.cons.injEq, Prod.mk.injEq, Value.int.injEq, true_and, and_true]
      omega
  · simp (maxSteps := 4000000) (disch := omega) only [ah, am, Nat.reduceEqDiff, reduceCtorEq, Nat.reduceAdd, Nat.reduceLeDiff, Nat.reduceMul, Nat.reduceLT, if_true, if_false, true_and, and_true, and_self, Nat.reduceBEq, QOp.loads, boxO, bslO, buildO, cutL, fillV, putL, w8, v8]
    obtain rfl : i = l.length := by omega
    refine ⟨e, _, rfl, .inr ⟨hq, ?_⟩⟩
    rw [List.take_length]
theorem toTask_ok (h : Heap) (t : TaskR) (ns : List Int) (hs : SlT h encI 1 t.nv ns) (hl : ns.length ≤ 1048576) :
    ACall Try.prog 35 [.agg (encT t).toArray] h fun r h' => ∃ u, Fresh h h' encI 1 u ns ∧ r = .agg (encT ⟨t.kind, t.value, u, t.cost⟩).toArray := by
  refine ACall.of Try.func35 s35 (of_decide_eq_true rfl) ?_
  have c1 := cells_slT hs
  have o1 := oneB_slT hs
  simp (maxSteps := 4000000) (disch := omega) only [ah, am, Nat.reduceEqDiff, reduceCtorEq, Nat.reduceAdd, Nat.reduceLeDiff, Nat.reduceMul, Nat.reduceLT, if_true, if_false, true_and, and_true, and_self, Nat.reduceBEq, QOp.loads, boxO, bslO, buildO, cutL, fillV, putL, w35, v35, encT, c1, o1]
  refine stepC.of (toInt64S_ok _ _ ns (hs.ext (Ext.more _ _)) hl) ?_
  intro u H F
  have G := Fk.ofMore F
  simp only [boxesAt] at G
  have c2 := cells_slT F.slt
  have o2 := oneB_slT F.slt
  obtain ⟨H1, e1, G1, -⟩ := G.put (i := h.size + 2) (o := 2) (n := 1) (y := u) (List.mem_cons_of_mem _ (List.mem_cons_of_mem _ (List.mem_singleton.mpr rfl))) (by rw [c2]; rfl) (by simp) (by rw [c2]; simp [o2, oneB_nil])
  have X1 := (G1.ld (i := h.size) (cs := [.int .i64 t.kind, .int .i64 t.value, t.nv, .int .i64 t.cost]) (by simp)).1
  simp only [c2, splice, List.take_succ_cons, List.take_zero, List.length_cons, List.length_nil, List.drop_succ_cons, List.drop_zero, List.cons_append, List.nil_append] at G1
  obtain ⟨H2, e2, G2, -⟩ := G1.put (i := h.size + 2) (o := 3) (n := 1) (y := .int .i64 t.cost) (List.mem_cons_self) rfl (by simp) rfl
  have X2 := (G2.ld (i := h.size + 2) (List.mem_cons_self)).2
  simp only [cells_int, splice, List.take_succ_cons, List.take_zero, List.length_cons, List.length_nil, List.drop_succ_cons, List.drop_zero, List.cons_append, List.nil_append, List.drop_nil] at G2 X2
  obtain ⟨H3, e3, G3, -⟩ := G2.put (i := h.size + 1) (o := 0) (n := 4) (y := .agg #[.int .i64 t.kind, .int .i64 t.value, u, .int .i64 t.cost]) (cs := [.int .i64 0, .int .i64 0, .slice none 0 0, .int .i64 0]) (by simp) rfl (by simp) (by simp [cells_agg, o2, oneB_int, oneB_nil])
  have X3 := (G3.ld (i := h.size + 1) (List.mem_cons_self)).2
  simp only [cells_agg, splice, List.take_succ_cons, List.take_zero, List.length_cons, List.length_nil, List.drop_succ_cons, List.drop_zero, List.cons_append, List.nil_append, List.drop_nil] at X3
  simp (maxSteps := 4000000) (disch := omega) only [ah, am, Nat.reduceEqDiff, reduceCtorEq, Nat.reduceAdd, Nat.reduceLeDiff, Nat.reduceMul, Nat.reduceLT, if_true, if_false, true_and, and_true, and_self, Nat.reduceBEq, QOp.loads, boxO, bslO, buildO, cutL, fillV, putL, w35, v35, X1, X2, X3, e1, e2, e3]
  exact ⟨u, G3.fresh, rfl⟩
theorem toTaskS_ok (h : Heap) (v : Value) (l : List Task) (hj : JobAt h v l) (hl : l.length ≤ 1048576) (hn : totN l ≤ 1048576) :
    ACall Try.prog 10 [v] h fun r h' => Ext h h' ∧ JobOwn h.size h'.size h' r l := by
  obtain ⟨rs, s, hlen, Hr⟩ := hj
  refine ACall.of Try.func10 s10 (of_decide_eq_true rfl) ?_
  have R := s.rulesN
  simp only [hlen] at R
  simp (maxSteps := 4000000) (disch := omega) only [ah, am, Nat.reduceEqDiff, reduceCtorEq, Nat.reduceAdd, Nat.reduceLeDiff, Nat.reduceMul, Nat.reduceLT, if_true, if_false, true_and, and_true, and_self, Nat.reduceBEq, QOp.loads, boxO, bslO, buildO, cutL, fillV, putL, w10, v10, R, mksV_nat]
  refine SW_loop_up (fun i E H => ∃ os : List TaskR, E = [(0, v), (3, .slice (some ⟨h.size, 0, none⟩) l.length 4), (4, .int .i64 i)] ∧ Ext h H ∧ os.length = i ∧ OwnT h.size H encT 4 (.slice (some ⟨h.size, 0, none⟩) l.length 4) (os ++ List.replicate (l.length - i) zTask) ∧
    Inn H (h.size + 1) H.size os (l.take i)) l.length 0 (by omega) ⟨[], rfl, Ext.more _ _, rfl, ?_, .nil _ _ (by rw [size_more]; simp)⟩ ?_
  · have := OwnT.new h (List.replicate l.length zTask) encT_len (by omega)
    rw [List.length_replicate, ← flat_rep] at this
    simpa [encT, zTask] using this
  rintro i E H hi ⟨os, rfl, e, ho, O, I⟩
  have R := (s.ext e).rulesN
  simp only [hlen] at R
  have W : IntKind.i64.wrap ((i : Int) + 1) = ((i + 1 : Nat) : Int) := i64e (by omega) (by omega)
  simp (maxSteps := 4000000) (disch := omega) only [ah, am, Nat.reduceEqDiff, reduceCtorEq, Nat.reduceAdd, Nat.reduceLeDiff, Nat.reduceMul, Nat.reduceLT, if_true, if_false, true_and, and_true, and_self, Nat.reduceBEq, QOp.loads, boxO, bslO, buildO, cutL, fillV, putL, w10, v10, R, W]
  refine stepI.split (fun hp => ?_) (fun hp => ?_)
  · have hi2 : i < l.length := by omega
    have A := (Hr i (by omega) hi2).ext e
    have B := totN_get l i hi2
    simp (maxSteps := 4000000) (disch := omega) only [ah, am, Nat.reduceEqDiff, reduceCtorEq, Nat.reduceAdd, Nat.reduceLeDiff, Nat.reduceMul, Nat.reduceLT, if_true, if_false, true_and, and_true, and_self, Nat.reduceBEq, QOp.loads, boxO, bslO, buildO, cutL, fillV, putL, w10, v10, R, W]
    refine stepC.of (toTask_ok _ rs[i] _ A.2.2.2 (by omega)) ?_
    rintro _ H1 ⟨u, F, rfl⟩
    have O1 := O.ext F.1
    have M := F.mine
    have I1 := (I.ext F.1).snoc ⟨rs[i].kind, rs[i].value, u, rs[i].cost⟩ l[i] F.1.1 A.1 A.2.1 A.2.2.1 M
    have o2 := oneB_slT F.slt
    obtain ⟨H2, es, O2, G2, hsz⟩ := O1.set (j := i) (by simp [ho]; omega) ⟨rs[i].kind, rs[i].value, u, rs[i].cost⟩ (by simp [encT, oneB_int, o2, oneB_nil])
    have R2 := O1.slt.rulesN
    simp only [List.length_append, ho, List.length_replicate, show i + (l.length - i) = l.length by omega] at R2
    simp (maxSteps := 4000000) (disch := omega) only [ah, am, Nat.reduceEqDiff, reduceCtorEq, Nat.reduceAdd, Nat.reduceLeDiff, Nat.reduceMul, Nat.reduceLT, if_true, if_false, true_and, and_true, and_self, Nat.reduceBEq, QOp.loads, boxO, bslO, buildO, cutL, fillV, putL, w10, v10, R2, es, W]
    refine ⟨hi2, os ++ [⟨rs[i].kind, rs[i].value, u, rs[i].cost⟩], G2.ext (e.trans F.1) (Nat.le_refl _), by simp [ho], ?_, ?_⟩
    · have : (os ++ List.replicate (l.length - i) zTask).set i ⟨rs[i].kind, rs[i].value, u, rs[i].cost⟩ = os ++ [⟨rs[i].kind, rs[i].value, u, rs[i].cost⟩] ++ List.replicate (l.length - (i + 1)) zTask := by
        rw [show l.length - i = (l.length - (i + 1)) + 1 by omega, List.replicate_succ, List.set_append_right _ _ (by omega), ho, Nat.sub_self, List.set_cons_zero, List.append_assoc]; rfl
      rw [this] at O2; exact O2
    · rw [List.take_succ_eq_append_getElem hi2]
      exact (I1.chg (G2.chg (Nat.le_refl _) (Nat.lt_succ_self _)) (by omega)).hi (by omega)
  · simp (maxSteps := 4000000) (disch := omega) only [ah, am, Nat.reduceEqDiff, reduceCtorEq, Nat.reduceAdd, Nat.reduceLeDiff, Nat.reduceMul, Nat.reduceLT, if_true, if_false, true_and, and_true, and_self, Nat.reduceBEq, QOp.loads, boxO, bslO, buildO, cutL, fillV, putL, w10, v10, R, W]
    obtain rfl : i = l.length := by omega
    rw [Nat.sub_self, List.replicate_zero, List.append_nil] at O
    rw [List.take_length] at I
    exact ⟨e, os, h.size, h.size + 1, Nat.le_refl _, by omega, O, I⟩
theorem eqTask_ok (h : Heap) (r r' : TaskR) (t t' : Task) (a : TaskAt h r t) (a' : TaskAt h r' t') (hl : t.needs.length ≤ 281474976710656) (hl' : t'.needs.length ≤ 281474976710656) :
    ACall Try.prog 42 [.agg (encT r).toArray, .agg (encT r').toArray] h fun r h' => Ext h h' ∧ r = .bool (decide (t = t')) := by
  obtain ⟨k1, k2, k3, s⟩ := a; obtain ⟨k1', k2', k3', s'⟩ := a'
  obtain ⟨c1, c2, c3, c4⟩ := t; obtain ⟨d1, d2, d3, d4⟩ := t'
  simp only at k1 k2 k3 s k1' k2' k3' s' hl hl'
  refine ACall.of Try.func42 s42 (of_decide_eq_true rfl) ?_
  have q1 := cells_slT s; have q2 := oneB_slT s; have q1' := cells_slT s'; have q2' := oneB_slT s'
  simp only [encT, k1, k2, k3, k1', k2', k3']
  by_cases h1 : c1 = d1
  · by_cases h2 : c2 = d2
    · simp (maxSteps := 4000000) (disch := omega) only [ah, am, Nat.reduceEqDiff, reduceCtorEq, Nat.reduceAdd, Nat.reduceLeDiff, Nat.reduceMul, Nat.reduceLT, if_true, if_false, true_and, and_true, and_self, Nat.reduceBEq, QOp.loads, boxO, bslO, buildO, cutL, fillV, putL, w42, v42, encT, q1, q2, q1', q2', h1, h2, decide_true, stepI_true, decide_not, Bool.not_true, stepI_false]
      refine stepC.of (eqInt64S_ok _ _ _ _ _ (s.ext (Ext.more _ _)) (s'.ext (Ext.more _ _)) hl hl') ?_
      rintro _ H1 ⟨e, rfl⟩
      have X0 := (e.ldk 0 rfl).1; have X1 := (e.ldk 1 rfl).1
      simp only [Nat.add_zero] at X0
      by_cases h3 : c3 = d3
      · by_cases h4 : c4 = d4
        · simp (maxSteps := 4000000) (disch := omega) only [ah, am, Nat.reduceEqDiff, reduceCtorEq, Nat.reduceAdd, Nat.reduceLeDiff, Nat.reduceMul, Nat.reduceLT, if_true, if_false, true_and, and_true, and_self, Nat.reduceBEq, QOp.loads, boxO, bslO, buildO, cutL, fillV, putL, w42, v42, X0, X1, h3, h4, decide_true, stepI_true, Bool.not_true, decide_not, stepI_false]
          exact (Ext.more _ _).trans e
        · simp (maxSteps := 4000000) (disch := omega) only [ah, am, Nat.reduceEqDiff, reduceCtorEq, Nat.reduceAdd, Nat.reduceLeDiff, Nat.reduceMul, Nat.reduceLT, if_true, if_false, true_and, and_true, and_self, Nat.reduceBEq, QOp.loads, boxO, bslO, buildO, cutL, fillV, putL, w42, v42, X0, X1, h3, h4, decide_true, stepI_true, Bool.not_true, decide_not, stepI_false, Bool.not_false, decide_false]
          exact ⟨(Ext.more _ _).trans e, by simp [h4]⟩
      · simp (maxSteps := 4000000) (disch := omega) only [ah, am, Nat.reduceEqDiff, reduceCtorEq, Nat.reduceAdd, Nat.reduceLeDiff, Nat.reduceMul, Nat.reduceLT, if_true, if_false, true_and, and_true, and_self, Nat.reduceBEq, QOp.loads, boxO, bslO, buildO, cutL, fillV, putL, w42, v42, X0, X1, h3, decide_true, stepI_true, Bool.not_true, decide_not, stepI_false, Bool.not_false, decide_false]
        exact ⟨(Ext.more _ _).trans e, by simp [h3]⟩
    · simp (maxSteps := 4000000) (disch := omega) only [ah, am, Nat.reduceEqDiff, reduceCtorEq, Nat.reduceAdd, Nat.reduceLeDiff, Nat.reduceMul, Nat.reduceLT, if_true, if_false, true_and, and_true, and_self, Nat.reduceBEq, QOp.loads, boxO, bslO, buildO, cutL, fillV, putL, w42, v42, encT, q1, q2, q1', q2', h1, h2, decide_true, stepI_true, decide_not, Bool.not_true, stepI_false, Bool.not_false, decide_false]
      exact ⟨Ext.more _ _, by simp [h2]⟩
  · simp (maxSteps := 4000000) (disch := omega) only [ah, am, Nat.reduceEqDiff, reduceCtorEq, Nat.reduceAdd, Nat.reduceLeDiff, Nat.reduceMul, Nat.reduceLT, if_true, if_false, true_and, and_true, and_self, Nat.reduceBEq, QOp.loads, boxO, bslO, buildO, cutL, fillV, putL, w42, v42, encT, q1, q2, q1', q2', h1, decide_true, stepI_true, decide_not, Bool.not_true, stepI_false, Bool.not_false, decide_false]
    exact ⟨Ext.more _ _, by simp [h1]⟩
theorem eqTaskS_ok (h : Heap) (v v' : Value) (l l' : List Task) (hj : JobAt h v l) (hj' : JobAt h v' l') (hl : l.length ≤ 281474976710656) (hl' : l'.length ≤ 281474976710656)
    (hn : totN l ≤ 281474976710656) (hn' : totN l' ≤ 281474976710656) :
    ACall Try.prog 14 [v, v'] h fun r h' => Ext h h' ∧ r = .bool (decide (l = l')) := by
  obtain ⟨rs, s, hlen, Hr⟩ := hj
  obtain ⟨rs', s', hlen', Hr'⟩ := hj'
  refine ACall.of Try.func14 s14 (of_decide_eq_true rfl) ?_
  have R := s.rulesN
  have R' := s'.rulesN
  simp only [hlen] at R
  simp only [hlen'] at R'
  simp (maxSteps := 4000000) (disch := omega) only [ah, am, Nat.reduceEqDiff, reduceCtorEq, Nat.reduceAdd, Nat.reduceLeDiff, Nat.reduceMul, Nat.reduceLT, if_true, if_false, true_and, and_true, and_self, Nat.reduceBEq, QOp.loads, boxO, bslO, buildO, cutL, fillV, putL, w14, v14, R, R']
  refine stepI.split (fun hp => ?_) (fun hp => ?_)
  rotate_left
  · simp (maxSteps := 4000000) (disch := omega) only [ah, am, Nat.reduceEqDiff, reduceCtorEq, Nat.reduceAdd, Nat.reduceLeDiff, Nat.reduceMul, Nat.reduceLT, if_true, if_false, true_and, and_true, and_self, Nat.reduceBEq, QOp.loads, boxO, bslO, buildO, cutL, fillV, putL, w14, v14]
    exact ⟨Ext.refl h, by rw [decide_eq_false]; rintro rfl; exact hp rfl⟩
  have hll : l.length = l'.length := by omega
  simp (maxSteps := 4000000) (disch := omega) only [ah, am, Nat.reduceEqDiff, reduceCtorEq, Nat.reduceAdd, Nat.reduceLeDiff, Nat.reduceMul, Nat.reduceLT, if_true, if_false, true_and, and_true, and_self, Nat.reduceBEq, QOp.loads, boxO, bslO, buildO, cutL, fillV, putL, w14, v14]
  refine SW_loop_up (fun i E H => E = [(0, v), (1, v'), (5, .int .i64 i)] ∧ Ext h H ∧ ∀ j (h1 : j < i) (h2 : j < l.length), l[j] = l'[j]) l.length 0 (by omega)
    ⟨rfl, .refl h, fun j h1 h2 => absurd h1 (by omega)⟩ ?_
  rintro i E H hi ⟨rfl, e, F⟩
  have R := (s.ext e).rulesN
  have R' := (s'.ext e).rulesN
  simp only [hlen] at R
  simp only [hlen'] at R'
  have W : IntKind.i64.wrap ((i : Int) + 1) = ((i + 1 : Nat) : Int) := i64e (by omega) (by omega)
  simp (maxSteps := 4000000) (disch := omega) only [ah, am, Nat.reduceEqDiff, reduceCtorEq, Nat.reduceAdd, Nat.reduceLeDiff, Nat.reduceMul, Nat.reduceLT, if_true, if_false, true_and, and_true, and_self, Nat.reduceBEq, QOp.loads, boxO, bslO, buildO, cutL, fillV, putL, w14, v14, R, R', W]
  refine stepI.split (fun hp => ?_) (fun hp => ?_)
  · have hi2 : i < l.length := by omega
    have A := (Hr i (by omega) hi2).ext e
    have A' := (Hr' i (by omega) (by omega)).ext e
    have B := totN_get l i hi2
    have B' := totN_get l' i (by omega)
    simp (maxSteps := 4000000) (disch := omega) only [ah, am, Nat.reduceEqDiff, reduceCtorEq, Nat.reduceAdd, Nat.reduceLeDiff, Nat.reduceMul, Nat.reduceLT, if_true, if_false, true_and, and_true, and_self, Nat.reduceBEq, QOp.loads, boxO, bslO, buildO, cutL, fillV, putL, w14, v14, R, R', W]
    refine stepC.of (eqTask_ok _ _ _ _ _ A A' (by omega) (by omega)) ?_
    rintro r H1 ⟨e1, rfl⟩
    simp (maxSteps := 4000000) (disch := omega) only [ah, am, Nat.reduceEqDiff, reduceCtorEq, Nat.reduceAdd, Nat.reduceLeDiff, Nat.reduceMul, Nat.reduceLT, if_true, if_false, true_and, and_true, and_self, Nat.reduceBEq, QOp.loads, boxO, bslO, buildO, cutL, fillV, putL, w14, v14, R, R', W]
    refine stepI.split (fun hq => ?_) (fun hq => ?_)
    · simp (maxSteps := 4000000) (disch := omega) only [ah, am, Nat.reduceEqDiff, reduceCtorEq, Nat.reduceAdd, Nat.reduceLeDiff, Nat.reduceMul, Nat.reduceLT, if_true, if_false, true_and, and_true, and_self, Nat.reduceBEq, QOp.loads, boxO, bslO, buildO, cutL, fillV, putL, w14, v14, W]
      exact ⟨hi2, e.trans e1, fun j h1 h2 => by
        by_cases hj : j = i
        · subst hj; exact hq
        · exact F j (by omega) h2⟩
    · simp (maxSteps := 4000000) (disch := omega) only [ah, am, Nat.reduceEqDiff, reduceCtorEq, Nat.reduceAdd, Nat.reduceLeDiff, Nat.reduceMul, Nat.reduceLT, if_true, if_false, true_and, and_true, and_self, Nat.reduceBEq, QOp.loads, boxO, bslO, buildO, cutL, fillV, putL, w14, v14, W]
      exact ⟨e.trans e1, by rw [decide_eq_false]; rintro rfl; exact hq rfl⟩
  · simp (maxSteps := 4000000) (disch := omega) only [ah, am, Nat.reduceEqDiff, reduceCtorEq, Nat.reduceAdd, Nat.reduceLeDiff, Nat.reduceMul, Nat.reduceLT, if_true, if_false, true_and, and_true, and_self, Nat.reduceBEq, QOp.loads, boxO, bslO, buildO, cutL, fillV, putL, w14, v14, R, W]
    refine ⟨e, ?_⟩
    rw [decide_eq_true]
    exact List.ext_getElem hll fun j h1 h2 => F j (by omega) h1
theorem markTaskS_mine {a b : Nat} {h : Heap} {v : Value} {l : List Task} (k : Int) (o : JobOwn a b h v l) (hl : l.length ≤ 1048576) (hn : totN l ≤ 1048576) (hk : 0 ≤ k ∧ k ≤ 1000000000) :
    ACall Try.prog 15 [v, .int .i64 k] h fun r h' => Chg a b h h' ∧ r = .int .i64 (k + 3 * l.length + totN l) := by
  obtain ⟨rs, g, m0, hg, hgm, O, I⟩ := o
  have hlen := I.at.1
  have hb := I.le
  refine ACall.of Try.func15 s15 (of_decide_eq_true rfl) ?_
  have R := O.slt.rulesN
  simp only [hlen] at R
  simp (maxSteps := 4000000) (disch := omega) only [ah, am, Nat.reduceEqDiff, reduceCtorEq, Nat.reduceAdd, Nat.reduceLeDiff, Nat.reduceMul, Nat.reduceLT, if_true, if_false, true_and, and_true, and_self, Nat.reduceBEq, QOp.loads, boxO, bslO, buildO, cutL, fillV, putL, w15, v15, R]
  refine SW_loop_up (fun i E H => ∃ qs : List TaskR, ∃ m, E = [(0, v), (1, .int .i64 (k + 3 * i + totN (l.take i))), (5, .int .i64 i)] ∧ Chg a b h H ∧ g < m ∧ qs.length = l.length ∧ OwnT g H encT 4 v qs ∧ Inn H m b (qs.drop i) (l.drop i)) l.length 0 (by omega)
    ⟨rs, m0, by simp [totN], ⟨Nat.le_refl _, fun i ob hi _ => hi⟩, hgm, hlen, O, by simpa using I⟩ ?_
  rintro i E H hi ⟨qs, m, rfl, C, hm, hq, O, I⟩
  have R := O.slt.rulesN
  simp only [hq] at R
  have hT := totN_le l i
  have W : IntKind.i64.wrap ((i : Int) + 1) = ((i + 1 : Nat) : Int) := i64e (by omega) (by omega)
  have W1 : IntKind.i64.wrap (k + 3 * (i : Int) + totN (l.take i) + 1) = k + 3 * (i : Int) + totN (l.take i) + 1 := i64e (by omega) (by omega)
  have W2 : IntKind.i64.wrap (k + 3 * (i : Int) + totN (l.take i) + 1 + 1) = k + 3 * (i : Int) + totN (l.take i) + 2 := i64e (by omega) (by omega)
  simp (maxSteps := 4000000) (disch := omega) only [ah, am, Nat.reduceEqDiff, reduceCtorEq, Nat.reduceAdd, Nat.reduceLeDiff, Nat.reduceMul, Nat.reduceLT, if_true, if_false, true_and, and_true, and_self, Nat.reduceBEq, QOp.loads, boxO, bslO, buildO, cutL, fillV, putL, w15, v15, R, W]
  refine stepI.split (fun hp => ?_) (fun hp => ?_)
  · have hi2 : i < l.length := by omega
    have hiq : i < qs.length := by omega
    have hT1 := totN_take l i hi2
    have hT2 := totN_le l (i + 1)
    rw [List.drop_eq_getElem_cons hiq, List.drop_eq_getElem_cons hi2] at I
    cases I with
    | cons _ m1 _ _ _ _ _ e1 e2 e3 e4 M I =>
    obtain ⟨H1, s1, O1, G1, -⟩ := O.setF (j := i) (f := 0) (n := 1) (y := .int .i64 (k + 3 * i + totN (l.take i))) (x := ⟨k + 3 * i + totN (l.take i), qs[i].value, qs[i].nv, qs[i].cost⟩) hiq rfl (by omega) rfl (by omega) rfl
    obtain ⟨H2, s2, O2, G2, -⟩ := O1.setF (j := i) (f := 1) (n := 1) (y := .int .i64 (k + 3 * i + totN (l.take i) + 1)) (x := ⟨k + 3 * i + totN (l.take i), k + 3 * i + totN (l.take i) + 1, qs[i].nv, qs[i].cost⟩) (by simpa using hiq) (by simp [encT, splice, cells_int]) (by omega) rfl (by omega) rfl
    simp only [Nat.add_zero] at s1
    have R2 := O2.slt.rulesN
    simp only [List.length_set, hq] at R2
    have g1 := (I.le)
    have cG : ∀ {x y : Heap}, ExtG g x y → Chg g (g + 1) x y := fun G => G.chg (Nat.le_refl _) (Nat.lt_succ_self _)
    have M2 := (M.chg (cG G1) (by omega)).chg (cG G2) (by omega)
    simp (maxSteps := 4000000) (disch := omega) only [ah, am, Nat.reduceEqDiff, reduceCtorEq, Nat.reduceAdd, Nat.reduceLeDiff, Nat.reduceMul, Nat.reduceLT, if_true, if_false, true_and, and_true, and_self, Nat.reduceBEq, QOp.loads, boxO, bslO, buildO, cutL, fillV, putL, w15, v15, R, R2, List.getElem_set_self, encT, s1, s2, W, W1, W2]
    refine stepC.of (markInt64S_mine (k + 3 * (i : Int) + totN (l.take i) + 2) M2 (by omega) (by omega)) ?_
    rintro _ H3 ⟨C3, M3, rfl⟩
    have I3 := ((I.chg (cG G1) (by omega)).chg (cG G2) (by omega)).chg C3 (by omega)
    have O3 := ownT_chg C3 O2 (by omega)
    have W3 : IntKind.i64.wrap (k + 3 * (i : Int) + totN (l.take i) + 2 + l[i].needs.length + 1) = k + 3 * ((i + 1 : Nat) : Int) + totN (l.take (i + 1)) := i64e (by omega) (by omega)
    have R3 := O3.slt.rulesN
    simp only [List.length_set, hq] at R3
    obtain ⟨H4, s4, O4, G4, -⟩ := O3.setF (j := i) (f := 3) (n := 1) (y := .int .i64 (k + 3 * i + totN (l.take i) + 2 + l[i].needs.length)) (x := ⟨k + 3 * i + totN (l.take i), k + 3 * i + totN (l.take i) + 1, qs[i].nv, k + 3 * i + totN (l.take i) + 2 + l[i].needs.length⟩) (by simpa using hiq) (by simp [encT, splice, cells_int]) (by omega) rfl (by omega) rfl
    simp (maxSteps := 4000000) (disch := omega) only [ah, am, Nat.reduceEqDiff, reduceCtorEq, Nat.reduceAdd, Nat.reduceLeDiff, Nat.reduceMul, Nat.reduceLT, if_true, if_false, true_and, and_true, and_self, Nat.reduceBEq, QOp.loads, boxO, bslO, buildO, cutL, fillV, putL, w15, v15, R3, s4, W, W3]
    have cg : ∀ {x y : Heap}, ExtG g x y → Chg a b x y := fun G => G.chg hg (by omega)
    have ct : ∀ {x y z : Heap}, Chg a b x y → Chg a b y z → Chg a b x z := fun c d => ⟨Nat.le_trans c.1 d.1, fun i ob hi hg => d.2 i ob (c.2 i ob hi hg) hg⟩
    have C3' : Chg a b H2 H3 := ⟨C3.1, fun i ob hi hx => C3.2 i ob hi (by omega)⟩
    refine ⟨hi2, _, m1, ct (ct (ct (ct C (cg G1)) (cg G2)) C3') (cg G4), by omega, ?_, O4, ?_⟩
    · simp [hq]
    · rw [show ((((qs.set i ⟨k + 3 * i + totN (l.take i), qs[i].value, qs[i].nv, qs[i].cost⟩).set i ⟨k + 3 * i + totN (l.take i), k + 3 * i + totN (l.take i) + 1, qs[i].nv, qs[i].cost⟩).set i ⟨k + 3 * i + totN (l.take i), k + 3 * i + totN (l.take i) + 1, qs[i].nv, k + 3 * i + totN (l.take i) + 2 + l[i].needs.length⟩).drop (i + 1)) = qs.drop (i + 1) by simp [List.drop_set]]
      exact I3.chg (cG G4) (by omega)
  · simp (maxSteps := 4000000) (disch := omega) only [ah, am, Nat.reduceEqDiff, reduceCtorEq, Nat.reduceAdd, Nat.reduceLeDiff, Nat.reduceMul, Nat.reduceLT, if_true, if_false, true_and, and_true, and_self, Nat.reduceBEq, QOp.loads, boxO, bslO, buildO, cutL, fillV, putL, w15, v15]
    obtain rfl : i = l.length := by omega
    refine ⟨C, ?_⟩
    rw [List.take_length]
end Go.Proofs.Ytbnkpligdcponaa
