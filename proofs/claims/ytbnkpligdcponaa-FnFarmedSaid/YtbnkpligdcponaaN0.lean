import Derived.Test.YtbnkpligdcponaaProg
import Derived.Test.YtbnkpligdcponaaAhAA
namespace Go.Proofs.Ytbnkpligdcponaa
open Go Go.Ah
set_option linter.unusedSimpArgs false
set_option linter.unusedVariables false
set_option maxRecDepth 10000
set_option maxHeartbeats 4000000
/-! 54 loop.example/g00066/laws.szInt64S: parameters 2, live [0, 1], slots [0:a, 1:left, 2:a, 3:left] -/
def c54_0 : List SOper := [⟨some 4, .q (.mv (.c (.int .i64 0))), none⟩]
def c54_1 : List SOper := [⟨some 5, .q (.mv (.t 1)), none⟩, ⟨some 6, .q (.mv (.t 0)), none⟩, ⟨some 7, .q (.len (.t 6)), none⟩, ⟨some 8, .q (.bin .sub (.t 5) (.t 7)), none⟩, ⟨some 1, .q (.mv (.t 8)), none⟩]
def c54_2 : List SOper := [⟨some 9, .q (.mv (.t 1)), none⟩, ⟨some 10, .q (.bin .lss (.t 9) (.c (.int .i64 0))), none⟩]
def c54_3 : List SOper := [⟨some 4, .q (.mv (.c (.int .i64 (-1)))), none⟩]
def c54_4 : SCode := .seq (.region c54_3 [4]) .ret
def c54_5 : SCode := .cond (.t 10) c54_4 .skip
def c54_6 : SCode := .seq (.region c54_2 [1, 10]) c54_5
def c54_7 : List SOper := [⟨some 11, .q (.mv (.t 1)), none⟩, ⟨some 4, .q (.mv (.t 11)), none⟩]
def c54_8 : SCode := .seq (.region c54_7 [4]) .ret
def c54_9 : SCode := .seq c54_6 c54_8
def c54_10 : SCode := .seq (.region c54_1 [1]) c54_9
def c54_11 : SCode := .seq (.region c54_0 [0, 1]) c54_10
def c54 : SCode := c54_11
theorem w54 : type_of% (And.intro (uR Try.prog c54_0.eq_1) (And.intro (uR Try.prog c54_1.eq_1) (And.intro (uR Try.prog c54_2.eq_1) (And.intro (uR Try.prog c54_3.eq_1) (And.intro (uC Try.prog c54_4.eq_1) (And.intro (uC Try.prog c54_5.eq_1) (And.intro (uC Try.prog c54_6.eq_1) (And.intro (uR Try.prog c54_7.eq_1) (And.intro (uC Try.prog c54_8.eq_1) (And.intro (uC Try.prog c54_9.eq_1) (And.intro (uC Try.prog c54_10.eq_1) (And.intro (uC Try.prog c54_11.eq_1) (uC Try.prog c54.eq_1))))))))))))) := (And.intro (uR Try.prog c54_0.eq_1) (And.intro (uR Try.prog c54_1.eq_1) (And.intro (uR Try.prog c54_2.eq_1) (And.intro (uR Try.prog c54_3.eq_1) (And.intro (uC Try.prog c54_4.eq_1) (And.intro (uC Try.prog c54_5.eq_1) (And.intro (uC Try.prog c54_6.eq_1) (And.intro (uR Try.prog c54_7.eq_1) (And.intro (uC Try.prog c54_8.eq_1) (And.intro (uC Try.prog c54_9.eq_1) (And.intro (uC Try.prog c54_10.eq_1) (And.intro (uC Try.prog c54_11.eq_1) (uC Try.prog c54.eq_1)))))))))))))
def v54 : List RV := [.t 4]
theorem s54 : slimF Try.prog Try.f54 = some (c54.bare, v54) := by kernel_rfl

/-! 11 loop.example/g00066/laws.toInt64S: parameters 1, live [0], slots [0:a, 1:a, 3:out, 4:i] -/
def c11_0 : List SOper := [⟨some 2, .q (.mv (.c (.slice none 0 0))), none⟩]
def c11_1 : List SOper := [⟨some 5, .q (.mv (.t 0)), none⟩, ⟨some 6, .q (.len (.t 5)), none⟩, ⟨some 7, .a (.mks 8 1 [(.int .i64 0)] (.t 6) (.t 6)), none⟩, ⟨some 3, .q (.mv (.t 7)), none⟩]
def c11_2 : List SOper := [⟨some 4, .q (.mv (.c (.int .i64 0))), none⟩]
def c11_3 : List SOper := [⟨some 8, .q (.mv (.t 4)), none⟩, ⟨some 9, .q (.mv (.t 0)), none⟩, ⟨some 10, .q (.len (.t 9)), none⟩, ⟨some 11, .q (.bin .lss (.t 8) (.t 10)), none⟩]
def c11_4 : SCode := .cond (.t 11) .skip (.exit 0)
def c11_5 : SCode := .seq (.region c11_3 [0, 3, 4, 11]) c11_4
def c11_6 : List SOper := [⟨some 14, .q (.mv (.t 3)), none⟩, ⟨some 15, .q (.mv (.t 4)), none⟩, ⟨some 16, .q (.mv (.t 0)), none⟩, ⟨some 17, .q (.mv (.t 4)), none⟩, ⟨some 18, .q (.ia 1 (.t 16) (.t 17)), none⟩, ⟨some 19, .q (.ld (.t 18)), none⟩, ⟨some 20, .q (.ia 1 (.t 14) (.t 15)), none⟩, ⟨none, .e (.st 1 (.t 20) (.t 19)), none⟩]
def c11_7 : SCode := .block 1 (.region c11_6 [0, 3, 4])
def c11_8 : List SOper := [⟨some 12, .q (.mv (.t 4)), none⟩, ⟨some 13, .q (.bin .add (.t 12) (.c (.int .i64 1))), none⟩, ⟨some 4, .q (.mv (.t 13)), none⟩]
def c11_9 : SCode := .seq c11_7 (.region c11_8 [0, 3, 4])
def c11_10 : SCode := .seq c11_5 c11_9
def c11_11 : SCode := .loop c11_10
def c11_12 : SCode := .block 0 c11_11
def c11_13 : SCode := .seq (.region c11_2 [0, 3, 4]) c11_12
def c11_14 : List SOper := [⟨some 21, .q (.mv (.t 3)), none⟩, ⟨some 2, .q (.mv (.t 21)), none⟩]
def c11_15 : SCode := .seq (.region c11_14 [2]) .ret
def c11_16 : SCode := .seq c11_13 c11_15
def c11_17 : SCode := .seq (.region c11_1 [0, 3]) c11_16
def c11_18 : SCode := .seq (.region c11_0 [0]) c11_17
def c11 : SCode := c11_18
theorem w11 : type_of% (And.intro (uR Try.prog c11_0.eq_1) (And.intro (uR Try.prog c11_1.eq_1) (And.intro (uR Try.prog c11_2.eq_1) (And.intro (uR Try.prog c11_3.eq_1) (And.intro (uC Try.prog c11_4.eq_1) (And.intro (uC Try.prog c11_5.eq_1) (And.intro (uR Try.prog c11_6.eq_1) (And.intro (uC Try.prog c11_7.eq_1) (And.intro (uR Try.prog c11_8.eq_1) (And.intro (uC Try.prog c11_9.eq_1) (And.intro (uC Try.prog c11_10.eq_1) (And.intro (uC Try.prog c11_11.eq_1) (And.intro (uC Try.prog c11_12.eq_1) (And.intro (uC Try.prog c11_13.eq_1) (And.intro (uR Try.prog c11_14.eq_1) (And.intro (uC Try.prog c11_15.eq_1) (And.intro (uC Try.prog c11_16.eq_1) (And.intro (uC Try.prog c11_17.eq_1) (And.intro (uC Try.prog c11_18.eq_1) (uC Try.prog c11.eq_1)))))))))))))))))))) := (And.intro (uR Try.prog c11_0.eq_1) (And.intro (uR Try.prog c11_1.eq_1) (And.intro (uR Try.prog c11_2.eq_1) (And.intro (uR Try.prog c11_3.eq_1) (And.intro (uC Try.prog c11_4.eq_1) (And.intro (uC Try.prog c11_5.eq_1) (And.intro (uR Try.prog c11_6.eq_1) (And.intro (uC Try.prog c11_7.eq_1) (And.intro (uR Try.prog c11_8.eq_1) (And.intro (uC Try.prog c11_9.eq_1) (And.intro (uC Try.prog c11_10.eq_1) (And.intro (uC Try.prog c11_11.eq_1) (And.intro (uC Try.prog c11_12.eq_1) (And.intro (uC Try.prog c11_13.eq_1) (And.intro (uR Try.prog c11_14.eq_1) (And.intro (uC Try.prog c11_15.eq_1) (And.intro (uC Try.prog c11_16.eq_1) (And.intro (uC Try.prog c11_17.eq_1) (And.intro (uC Try.prog c11_18.eq_1) (uC Try.prog c11.eq_1))))))))))))))))))))
def v11 : List RV := [.t 2]
theorem s11 : slimF Try.prog Try.f11 = some (c11.bare, v11) := by kernel_rfl

/-! 13 loop.example/g00066/laws.eqInt64S: parameters 2, live [0, 1], slots [0:a, 1:b, 2:a, 3:b, 5:i] -/
def c13_0 : List SOper := [⟨some 4, .q (.mv (.c (.bool false))), none⟩]
def c13_1 : List SOper := [⟨some 6, .q (.mv (.t 0)), none⟩, ⟨some 7, .q (.len (.t 6)), none⟩, ⟨some 8, .q (.mv (.t 1)), none⟩, ⟨some 9, .q (.len (.t 8)), none⟩, ⟨some 10, .q (.bin .neq (.t 7) (.t 9)), none⟩]
def c13_2 : List SOper := [⟨some 4, .q (.mv (.c (.bool false))), none⟩]
def c13_3 : SCode := .seq (.region c13_2 [4]) .ret
def c13_4 : SCode := .cond (.t 10) c13_3 .skip
def c13_5 : SCode := .seq (.region c13_1 [0, 1, 10]) c13_4
def c13_6 : List SOper := [⟨some 5, .q (.mv (.c (.int .i64 0))), none⟩]
def c13_7 : List SOper := [⟨some 11, .q (.mv (.t 5)), none⟩, ⟨some 12, .q (.mv (.t 0)), none⟩, ⟨some 13, .q (.len (.t 12)), none⟩, ⟨some 14, .q (.bin .lss (.t 11) (.t 13)), none⟩]
def c13_8 : SCode := .cond (.t 14) .skip (.exit 0)
def c13_9 : SCode := .seq (.region c13_7 [0, 1, 5, 14]) c13_8
def c13_10 : List SOper := [⟨some 17, .q (.mv (.t 0)), none⟩, ⟨some 18, .q (.mv (.t 5)), none⟩, ⟨some 19, .q (.ia 1 (.t 17) (.t 18)), none⟩, ⟨some 20, .q (.ld (.t 19)), none⟩, ⟨some 21, .q (.mv (.t 1)), none⟩, ⟨some 22, .q (.mv (.t 5)), none⟩, ⟨some 23, .q (.ia 1 (.t 21) (.t 22)), none⟩, ⟨some 24, .q (.ld (.t 23)), none⟩, ⟨some 25, .q (.bin .neq (.t 20) (.t 24)), none⟩]
def c13_11 : List SOper := [⟨some 4, .q (.mv (.c (.bool false))), none⟩]
def c13_12 : SCode := .seq (.region c13_11 [4]) .ret
def c13_13 : SCode := .cond (.t 25) c13_12 .skip
def c13_14 : SCode := .seq (.region c13_10 [0, 1, 5, 25]) c13_13
def c13_15 : SCode := .block 1 c13_14
def c13_16 : List SOper := [⟨some 15, .q (.mv (.t 5)), none⟩, ⟨some 16, .q (.bin .add (.t 15) (.c (.int .i64 1))), none⟩, ⟨some 5, .q (.mv (.t 16)), none⟩]
def c13_17 : SCode := .seq c13_15 (.region c13_16 [0, 1, 5])
def c13_18 : SCode := .seq c13_9 c13_17
def c13_19 : SCode := .loop c13_18
def c13_20 : SCode := .block 0 c13_19
def c13_21 : SCode := .seq (.region c13_6 [0, 1, 5]) c13_20
def c13_22 : List SOper := [⟨some 4, .q (.mv (.c (.bool true))), none⟩]
def c13_23 : SCode := .seq (.region c13_22 [4]) .ret
def c13_24 : SCode := .seq c13_21 c13_23
def c13_25 : SCode := .seq c13_5 c13_24
def c13_26 : SCode := .seq (.region c13_0 [0, 1]) c13_25
def c13 : SCode := c13_26
theorem w13 : type_of% (And.intro (uR Try.prog c13_0.eq_1) (And.intro (uR Try.prog c13_1.eq_1) (And.intro (uR Try.prog c13_2.eq_1) (And.intro (uC Try.prog c13_3.eq_1) (And.intro (uC Try.prog c13_4.eq_1) (And.intro (uC Try.prog c13_5.eq_1) (And.intro (uR Try.prog c13_6.eq_1) (And.intro (uR Try.prog c13_7.eq_1) (And.intro (uC Try.prog c13_8.eq_1) (And.intro (uC Try.prog c13_9.eq_1) (And.intro (uR Try.prog c13_10.eq_1) (And.intro (uR Try.prog c13_11.eq_1) (And.intro (uC Try.prog c13_12.eq_1) (And.intro (uC Try.prog c13_13.eq_1) (And.intro (uC Try.prog c13_14.eq_1) (And.intro (uC Try.prog c13_15.eq_1) (And.intro (uR Try.prog c13_16.eq_1) (And.intro (uC Try.prog c13_17.eq_1) (And.intro (uC Try.prog c13_18.eq_1) (And.intro (uC Try.prog c13_19.eq_1) (And.intro (uC Try.prog c13_20.eq_1) (And.intro (uC Try.prog c13_21.eq_1) (And.intro (uR Try.prog c13_22.eq_1) (And.intro (uC Try.prog c13_23.eq_1) (And.intro (uC Try.prog c13_24.eq_1) (And.intro (uC Try.prog c13_25.eq_1) (And.intro (uC Try.prog c13_26.eq_1) (uC Try.prog c13.eq_1)))))))))))))))))))))))))))) := (And.intro (uR Try.prog c13_0.eq_1) (And.intro (uR Try.prog c13_1.eq_1) (And.intro (uR Try.prog c13_2.eq_1) (And.intro (uC Try.prog c13_3.eq_1) (And.intro (uC Try.prog c13_4.eq_1) (And.intro (uC Try.prog c13_5.eq_1) (And.intro (uR Try.prog c13_6.eq_1) (And.intro (uR Try.prog c13_7.eq_1) (And.intro (uC Try.prog c13_8.eq_1) (And.intro (uC Try.prog c13_9.eq_1) (And.intro (uR Try.prog c13_10.eq_1) (And.intro (uR Try.prog c13_11.eq_1) (And.intro (uC Try.prog c13_12.eq_1) (And.intro (uC Try.prog c13_13.eq_1) (And.intro (uC Try.prog c13_14.eq_1) (And.intro (uC Try.prog c13_15.eq_1) (And.intro (uR Try.prog c13_16.eq_1) (And.intro (uC Try.prog c13_17.eq_1) (And.intro (uC Try.prog c13_18.eq_1) (And.intro (uC Try.prog c13_19.eq_1) (And.intro (uC Try.prog c13_20.eq_1) (And.intro (uC Try.prog c13_21.eq_1) (And.intro (uR Try.prog c13_22.eq_1) (And.intro (uC Try.prog c13_23.eq_1) (And.intro (uC Try.prog c13_24.eq_1) (And.intro (uC Try.prog c13_25.eq_1) (And.intro (uC Try.prog c13_26.eq_1) (uC Try.prog c13.eq_1))))))))))))))))))))))))))))
def v13 : List RV := [.t 4]
theorem s13 : slimF Try.prog Try.f13 = some (c13.bare, v13) := by kernel_rfl

/-! 16 loop.example/g00066/laws.markInt64S: parameters 2, live [0, 1], slots [0:a, 1:k, 2:a, 3:k, 5:i] -/
def c16_0 : List SOper := [⟨some 4, .q (.mv (.c (.int .i64 0))), none⟩]
def c16_1 : List SOper := [⟨some 5, .q (.mv (.c (.int .i64 0))), none⟩]
def c16_2 : List SOper := [⟨some 6, .q (.mv (.t 5)), none⟩, ⟨some 7, .q (.mv (.t 0)), none⟩, ⟨some 8, .q (.len (.t 7)), none⟩, ⟨some 9, .q (.bin .lss (.t 6) (.t 8)), none⟩]
def c16_3 : SCode := .cond (.t 9) .skip (.exit 0)
def c16_4 : SCode := .seq (.region c16_2 [0, 1, 5, 9]) c16_3
def c16_5 : List SOper := [⟨some 12, .q (.mv (.t 0)), none⟩, ⟨some 13, .q (.mv (.t 5)), none⟩, ⟨some 14, .q (.mv (.t 1)), none⟩, ⟨some 15, .q (.ia 1 (.t 12) (.t 13)), none⟩, ⟨none, .e (.st 1 (.t 15) (.t 14)), none⟩]
def c16_6 : List SOper := [⟨some 16, .q (.mv (.t 1)), none⟩, ⟨some 17, .q (.bin .add (.t 16) (.c (.int .i64 1))), none⟩, ⟨some 1, .q (.mv (.t 17)), none⟩]
def c16_7 : SCode := .seq (.region c16_5 [0, 1, 5]) (.region c16_6 [0, 1, 5])
def c16_8 : SCode := .block 1 c16_7
def c16_9 : List SOper := [⟨some 10, .q (.mv (.t 5)), none⟩, ⟨some 11, .q (.bin .add (.t 10) (.c (.int .i64 1))), none⟩, ⟨some 5, .q (.mv (.t 11)), none⟩]
def c16_10 : SCode := .seq c16_8 (.region c16_9 [0, 1, 5])
def c16_11 : SCode := .seq c16_4 c16_10
def c16_12 : SCode := .loop c16_11
def c16_13 : SCode := .block 0 c16_12
def c16_14 : SCode := .seq (.region c16_1 [0, 1, 5]) c16_13
def c16_15 : List SOper := [⟨some 18, .q (.mv (.t 1)), none⟩, ⟨some 4, .q (.mv (.t 18)), none⟩]
def c16_16 : SCode := .seq (.region c16_15 [4]) .ret
def c16_17 : SCode := .seq c16_14 c16_16
def c16_18 : SCode := .seq (.region c16_0 [0, 1]) c16_17
def c16 : SCode := c16_18
theorem w16 : type_of% (And.intro (uR Try.prog c16_0.eq_1) (And.intro (uR Try.prog c16_1.eq_1) (And.intro (uR Try.prog c16_2.eq_1) (And.intro (uC Try.prog c16_3.eq_1) (And.intro (uC Try.prog c16_4.eq_1) (And.intro (uR Try.prog c16_5.eq_1) (And.intro (uR Try.prog c16_6.eq_1) (And.intro (uC Try.prog c16_7.eq_1) (And.intro (uC Try.prog c16_8.eq_1) (And.intro (uR Try.prog c16_9.eq_1) (And.intro (uC Try.prog c16_10.eq_1) (And.intro (uC Try.prog c16_11.eq_1) (And.intro (uC Try.prog c16_12.eq_1) (And.intro (uC Try.prog c16_13.eq_1) (And.intro (uC Try.prog c16_14.eq_1) (And.intro (uR Try.prog c16_15.eq_1) (And.intro (uC Try.prog c16_16.eq_1) (And.intro (uC Try.prog c16_17.eq_1) (And.intro (uC Try.prog c16_18.eq_1) (uC Try.prog c16.eq_1)))))))))))))))))))) := (And.intro (uR Try.prog c16_0.eq_1) (And.intro (uR Try.prog c16_1.eq_1) (And.intro (uR Try.prog c16_2.eq_1) (And.intro (uC Try.prog c16_3.eq_1) (And.intro (uC Try.prog c16_4.eq_1) (And.intro (uR Try.prog c16_5.eq_1) (And.intro (uR Try.prog c16_6.eq_1) (And.intro (uC Try.prog c16_7.eq_1) (And.intro (uC Try.prog c16_8.eq_1) (And.intro (uR Try.prog c16_9.eq_1) (And.intro (uC Try.prog c16_10.eq_1) (And.intro (uC Try.prog c16_11.eq_1) (And.intro (uC Try.prog c16_12.eq_1) (And.intro (uC Try.prog c16_13.eq_1) (And.intro (uC Try.prog c16_14.eq_1) (And.intro (uR Try.prog c16_15.eq_1) (And.intro (uC Try.prog c16_16.eq_1) (And.intro (uC Try.prog c16_17.eq_1) (And.intro (uC Try.prog c16_18.eq_1) (uC Try.prog c16.eq_1))))))))))))))))))))
def v16 : List RV := [.t 4]
theorem s16 : slimF Try.prog Try.f16 = some (c16.bare, v16) := by kernel_rfl

/-! 17 loop.example/g00066/laws.heldInt64S: parameters 2, live [0, 1], slots [0:a, 1:k, 2:a, 3:k, 5:i] -/
def c17_0 : List SOper := [⟨some 4, .q (.mv (.c (.int .i64 0))), none⟩]
def c17_1 : List SOper := [⟨some 5, .q (.mv (.c (.int .i64 0))), none⟩]
def c17_2 : List SOper := [⟨some 6, .q (.mv (.t 5)), none⟩, ⟨some 7, .q (.mv (.t 0)), none⟩, ⟨some 8, .q (.len (.t 7)), none⟩, ⟨some 9, .q (.bin .lss (.t 6) (.t 8)), none⟩]
def c17_3 : SCode := .cond (.t 9) .skip (.exit 0)
def c17_4 : SCode := .seq (.region c17_2 [0, 1, 5, 9]) c17_3
def c17_5 : List SOper := [⟨some 12, .q (.mv (.t 0)), none⟩, ⟨some 13, .q (.mv (.t 5)), none⟩, ⟨some 14, .q (.ia 1 (.t 12) (.t 13)), none⟩, ⟨some 15, .q (.ld (.t 14)), none⟩, ⟨some 16, .q (.mv (.t 1)), none⟩, ⟨some 17, .q (.bin .neq (.t 15) (.t 16)), none⟩]
def c17_6 : List SOper := [⟨some 4, .q (.mv (.c (.int .i64 (-1)))), none⟩]
def c17_7 : SCode := .seq (.region c17_6 [4]) .ret
def c17_8 : SCode := .cond (.t 17) c17_7 .skip
def c17_9 : SCode := .seq (.region c17_5 [0, 1, 5, 17]) c17_8
def c17_10 : List SOper := [⟨some 18, .q (.mv (.t 1)), none⟩, ⟨some 19, .q (.bin .add (.t 18) (.c (.int .i64 1))), none⟩, ⟨some 1, .q (.mv (.t 19)), none⟩]
def c17_11 : SCode := .seq c17_9 (.region c17_10 [0, 1, 5])
def c17_12 : SCode := .block 1 c17_11
def c17_13 : List SOper := [⟨some 10, .q (.mv (.t 5)), none⟩, ⟨some 11, .q (.bin .add (.t 10) (.c (.int .i64 1))), none⟩, ⟨some 5, .q (.mv (.t 11)), none⟩]
def c17_14 : SCode := .seq c17_12 (.region c17_13 [0, 1, 5])
def c17_15 : SCode := .seq c17_4 c17_14
def c17_16 : SCode := .loop c17_15
def c17_17 : SCode := .block 0 c17_16
def c17_18 : SCode := .seq (.region c17_1 [0, 1, 5]) c17_17
def c17_19 : List SOper := [⟨some 20, .q (.mv (.t 1)), none⟩, ⟨some 4, .q (.mv (.t 20)), none⟩]
def c17_20 : SCode := .seq (.region c17_19 [4]) .ret
def c17_21 : SCode := .seq c17_18 c17_20
def c17_22 : SCode := .seq (.region c17_0 [0, 1]) c17_21
def c17 : SCode := c17_22
theorem w17 : type_of% (And.intro (uR Try.prog c17_0.eq_1) (And.intro (uR Try.prog c17_1.eq_1) (And.intro (uR Try.prog c17_2.eq_1) (And.intro (uC Try.prog c17_3.eq_1) (And.intro (uC Try.prog c17_4.eq_1) (And.intro (uR Try.prog c17_5.eq_1) (And.intro (uR Try.prog c17_6.eq_1) (And.intro (uC Try.prog c17_7.eq_1) (And.intro (uC Try.prog c17_8.eq_1) (And.intro (uC Try.prog c17_9.eq_1) (And.intro (uR Try.prog c17_10.eq_1) (And.intro (uC Try.prog c17_11.eq_1) (And.intro (uC Try.prog c17_12.eq_1) (And.intro (uR Try.prog c17_13.eq_1) (And.intro (uC Try.prog c17_14.eq_1) (And.intro (uC Try.prog c17_15.eq_1) (And.intro (uC Try.prog c17_16.eq_1) (And.intro (uC Try.prog c17_17.eq_1) (And.intro (uC Try.prog c17_18.eq_1) (And.intro (uR Try.prog c17_19.eq_1) (And.intro (uC Try.prog c17_20.eq_1) (And.intro (uC Try.prog c17_21.eq_1) (And.intro (uC Try.prog c17_22.eq_1) (uC Try.prog c17.eq_1)))))))))))))))))))))))) := (And.intro (uR Try.prog c17_0.eq_1) (And.intro (uR Try.prog c17_1.eq_1) (And.intro (uR Try.prog c17_2.eq_1) (And.intro (uC Try.prog c17_3.eq_1) (And.intro (uC Try.prog c17_4.eq_1) (And.intro (uR Try.prog c17_5.eq_1) (And.intro (uR Try.prog c17_6.eq_1) (And.intro (uC Try.prog c17_7.eq_1) (And.intro (uC Try.prog c17_8.eq_1) (And.intro (uC Try.prog c17_9.eq_1) (And.intro (uR Try.prog c17_10.eq_1) (And.intro (uC Try.prog c17_11.eq_1) (And.intro (uC Try.prog c17_12.eq_1) (And.intro (uR Try.prog c17_13.eq_1) (And.intro (uC Try.prog c17_14.eq_1) (And.intro (uC Try.prog c17_15.eq_1) (And.intro (uC Try.prog c17_16.eq_1) (And.intro (uC Try.prog c17_17.eq_1) (And.intro (uC Try.prog c17_18.eq_1) (And.intro (uR Try.prog c17_19.eq_1) (And.intro (uC Try.prog c17_20.eq_1) (And.intro (uC Try.prog c17_21.eq_1) (And.intro (uC Try.prog c17_22.eq_1) (uC Try.prog c17.eq_1))))))))))))))))))))))))
def v17 : List RV := [.t 4]
theorem s17 : slimF Try.prog Try.f17 = some (c17.bare, v17) := by kernel_rfl

/-! ### Rows of whole numbers, and what lies in other rows -/
def encI (n : Int) : List Value := [.int .i64 n]
theorem encI_len (n : Int) : (encI n).length = 1 := rfl
def encB (b : Bool) : List Value := [.bool b]
theorem encB_len (b : Bool) : (encB b).length = 1 := rfl
section
variable {α : Type} {enc : α → List Value} {sz : Nat} {h h' H : Heap} {v : Value} {l : List α}
theorem oneB_slT (s : SlT h enc sz v l) (L : List Value) : oneB (v :: L) = oneB L := by
  rcases s.sl with ⟨rfl, _⟩ | ⟨rfl, _⟩ | ⟨i, o, n, ob, rfl, _⟩ <;> rfl
theorem cells_slT (s : SlT h enc sz v l) : v.cells = #[v] := by
  rcases s.sl with ⟨rfl, _⟩ | ⟨rfl, _⟩ | ⟨i, o, n, ob, rfl, _⟩ <;> rfl
/-- A new slice made behind new boxes. -/
theorem Fk.ofMore {L : List (List Value)} (F : Fresh (h.more L) H enc sz v l) : Fk [] h H enc sz v l (boxesAt h.size L) := by
  obtain ⟨e, g, g1, o⟩ := F
  have e0 := Ext.more h L
  refine ⟨(e0.trans e).toX, ⟨g, Nat.le_trans e0.1 g1, o, fun p hp => ?_⟩, fun p hp => ?_⟩
  · obtain ⟨k, k1, k2, _⟩ := mem_boxesAt hp; rw [size_more] at g1; omega
  · obtain ⟨k, k1, k2, k3⟩ := mem_boxesAt hp
    refine ⟨by omega, ?_⟩
    rw [e.2 _ (by rw [size_more]; omega), k2, get_more, k3]; rfl
end
theorem take_set_repG {α : Type} (l : List α) (z : α) (i : Nat) (hi : i < l.length) : (l.take i ++ List.replicate (l.length - i) z).set i l[i] = l.take (i + 1) ++ List.replicate (l.length - (i + 1)) z := by
  have hlen : (l.take i).length = i := by simp; omega
  rw [show l.length - i = (l.length - (i + 1)) + 1 by omega, List.replicate_succ, List.set_append_right _ _ (by omega), hlen, Nat.sub_self, List.set_cons_zero,
    List.take_succ_eq_append_getElem hi, List.append_assoc]
  rfl
theorem mark_stepG {α : Type} (f : Nat → α) (l : List α) (i : Nat) (hi : i < l.length) : ((List.range i).map f ++ l.drop i).set i (f i) = (List.range (i + 1)).map f ++ l.drop (i + 1) := by
  rw [List.set_append_right _ _ (by simp), List.length_map, List.length_range, Nat.sub_self, List.drop_eq_getElem_cons hi, List.set_cons_zero, List.range_succ, List.map_append, List.append_assoc]
  rfl
theorem szInt64S_ok (h : Heap) (v : Value) (l : List Int) (left : Int) (hs : SlT h encI 1 v l) (h0 : 0 ≤ left) (h1 : left ≤ 1048576) (hl : l.length ≤ 9223372036854775807) :
    ACall Try.prog 54 [v, .int .i64 left] h fun r h' => h' = h ∧ r = .int .i64 (if left - l.length < 0 then -1 else left - l.length) := by
  refine ACall.of Try.func54 s54 (of_decide_eq_true rfl) ?_
  have R := hs.rules
  have W : IntKind.i64.wrap (left - l.length) = left - l.length := i64e (by omega) (by omega)
  simp (maxSteps := 4000000) (disch := omega) only [ah, am, Nat.reduceEqDiff, reduceCtorEq, Nat.reduceAdd, Nat.reduceLeDiff, Nat.reduceMul, Nat.reduceLT, if_true, if_false, true_and, and_true, and_self, Nat.reduceBEq, QOp.loads, boxO, bslO, buildO, cutL, fillV, putL, w54, v54, R, W, stepI_dec]
  split <;> simp
theorem toInt64S_ok (h : Heap) (v : Value) (l : List Int) (hs : SlT h encI 1 v l) (hl : l.length ≤ 1048576) :
    ACall Try.prog 11 [v] h fun r h' => Fresh h h' encI 1 r l := by
  refine ACall.of Try.func11 s11 (of_decide_eq_true rfl) ?_
  have R := hs.rulesN
  simp (maxSteps := 4000000) (disch := omega) only [ah, am, Nat.reduceEqDiff, reduceCtorEq, Nat.reduceAdd, Nat.reduceLeDiff, Nat.reduceMul, Nat.reduceLT, if_true, if_false, true_and, and_true, and_self, Nat.reduceBEq, QOp.loads, boxO, bslO, buildO, cutL, fillV, putL, w11, v11, R, mksV_nat]
  refine SW_loop_up (fun i E H => ∃ ov, E = [(0, v), (3, ov), (4, .int .i64 i)] ∧ Fresh h H encI 1 ov (l.take i ++ List.replicate (l.length - i) 0)) l.length 0 (by omega)
    ⟨_, rfl, by have := Fresh.newR (sz := 1) h l.length 0 encI_len (by omega); simpa [encI] using this⟩ ?_
  rintro i E H hi ⟨ov, rfl, F⟩
  have R := (hs.ext F.1).rulesN
  have W : IntKind.i64.wrap ((i : Int) + 1) = ((i + 1 : Nat) : Int) := i64e (by omega) (by omega)
  simp (maxSteps := 4000000) (disch := omega) only [ah, am, Nat.reduceEqDiff, reduceCtorEq, Nat.reduceAdd, Nat.reduceLeDiff, Nat.reduceMul, Nat.reduceLT, if_true, if_false, true_and, and_true, and_self, Nat.reduceBEq, QOp.loads, boxO, bslO, buildO, cutL, fillV, putL, w11, v11, R, W]
  refine stepI.split (fun hp => ?_) (fun hp => ?_)
  · obtain ⟨H2, es, F2, hsz⟩ := F.setF (j := i) (f := 0) (n := 1) (x := l[i]) (y := .int .i64 l[i]) (by simp; omega) rfl (by omega) rfl (by omega) rfl
    have R2 := F.slt.rulesN
    simp only [List.length_append, List.length_take, List.length_replicate] at R2
    simp only [Nat.mul_one, Nat.add_zero] at es R R2
    simp (maxSteps := 4000000) (disch := omega) only [ah, am, Nat.reduceEqDiff, reduceCtorEq, Nat.reduceAdd, Nat.reduceLeDiff, Nat.reduceMul, Nat.reduceLT, if_true, if_false, true_and, and_true, and_self, Nat.reduceBEq, QOp.loads, boxO, bslO, buildO, cutL, fillV, putL, w11, v11, R2, R, encI, es, W]
    refine ⟨by omega, _, rfl, ?_⟩
    rw [show List.take (i + 1) l ++ List.replicate (l.length - (i + 1)) 0 = (l.take i ++ List.replicate (l.length - i) 0).set i l[i] from (take_set_repG l 0 i (by omega)).symm]
    exact F2
  · simp (maxSteps := 4000000) (disch := omega) only [ah, am, Nat.reduceEqDiff, reduceCtorEq, Nat.reduceAdd, Nat.reduceLeDiff, Nat.reduceMul, Nat.reduceLT, if_true, if_false, true_and, and_true, and_self, Nat.reduceBEq, QOp.loads, boxO, bslO, buildO, cutL, fillV, putL, w11, v11, R, W]
    obtain rfl : i = l.length := by omega
    simpa using F
theorem eqInt64S_ok (h : Heap) (v v' : Value) (l l' : List Int) (hs : SlT h encI 1 v l) (hs' : SlT h encI 1 v' l') (hl : l.length ≤ 281474976710656) (hl' : l'.length ≤ 281474976710656) :
    ACall Try.prog 13 [v, v'] h fun r h' => Ext h h' ∧ r = .bool (decide (l = l')) := by
  refine ACall.of Try.func13 s13 (of_decide_eq_true rfl) ?_
  have R := hs.rulesN
  have R' := hs'.rulesN
  simp (maxSteps := 4000000) (disch := omega) only [ah, am, Nat.reduceEqDiff, reduceCtorEq, Nat.reduceAdd, Nat.reduceLeDiff, Nat.reduceMul, Nat.reduceLT, if_true, if_false, true_and, and_true, and_self, Nat.reduceBEq, QOp.loads, boxO, bslO, buildO, cutL, fillV, putL, w13, v13, R, R']
  refine stepI.split (fun hp => ?_) (fun hp => ?_)
  rotate_left
  · simp (maxSteps := 4000000) (disch := omega) only [ah, am, Nat.reduceEqDiff, reduceCtorEq, Nat.reduceAdd, Nat.reduceLeDiff, Nat.reduceMul, Nat.reduceLT, if_true, if_false, true_and, and_true, and_self, Nat.reduceBEq, QOp.loads, boxO, bslO, buildO, cutL, fillV, putL, w13, v13]
    exact ⟨Ext.refl h, by rw [decide_eq_false]; rintro rfl; exact hp rfl⟩
  have hll : l.length = l'.length := by omega
  simp (maxSteps := 4000000) (disch := omega) only [ah, am, Nat.reduceEqDiff, reduceCtorEq, Nat.reduceAdd, Nat.reduceLeDiff, Nat.reduceMul, Nat.reduceLT, if_true, if_false, true_and, and_true, and_self, Nat.reduceBEq, QOp.loads, boxO, bslO, buildO, cutL, fillV, putL, w13, v13]
  refine SW_loop_up (fun i E H => E = [(0, v), (1, v'), (5, .int .i64 i)] ∧ H = h ∧ ∀ j (h1 : j < i) (h2 : j < l.length), l[j] = l'[j]) l.length 0 (by omega)
    ⟨rfl, rfl, fun j h1 h2 => absurd h1 (by omega)⟩ ?_
  rintro i E H hi ⟨rfl, rfl, F⟩
  have W : IntKind.i64.wrap ((i : Int) + 1) = ((i + 1 : Nat) : Int) := i64e (by omega) (by omega)
  simp (maxSteps := 4000000) (disch := omega) only [ah, am, Nat.reduceEqDiff, reduceCtorEq, Nat.reduceAdd, Nat.reduceLeDiff, Nat.reduceMul, Nat.reduceLT, if_true, if_false, true_and, and_true, and_self, Nat.reduceBEq, QOp.loads, boxO, bslO, buildO, cutL, fillV, putL, w13, v13, R, R', W]
  refine stepI.split (fun hp => ?_) (fun hp => ?_)
  · simp (maxSteps := 4000000) (disch := omega) only [ah, am, Nat.reduceEqDiff, reduceCtorEq, Nat.reduceAdd, Nat.reduceLeDiff, Nat.reduceMul, Nat.reduceLT, if_true, if_false, true_and, and_true, and_self, Nat.reduceBEq, QOp.loads, boxO, bslO, buildO, cutL, fillV, putL, w13, v13, R, R', encI, W]
    refine stepI.split (fun hq => ?_) (fun hq => ?_)
    · simp (maxSteps := 4000000) (disch := omega) only [ah, am, Nat.reduceEqDiff, reduceCtorEq, Nat.reduceAdd, Nat.reduceLeDiff, Nat.reduceMul, Nat.reduceLT, if_true, if_false, true_and, and_true, and_self, Nat.reduceBEq, QOp.loads, boxO, bslO, buildO, cutL, fillV, putL, w13, v13, W]
      exact ⟨by omega, fun j h1 h2 => by
        by_cases hj : j = i
        · subst hj; exact hq
        · exact F j (by omega) h2⟩
    · simp (maxSteps := 4000000) (disch := omega) only [ah, am, Nat.reduceEqDiff, reduceCtorEq, Nat.reduceAdd, Nat.reduceLeDiff, Nat.reduceMul, Nat.reduceLT, if_true, if_false, true_and, and_true, and_self, Nat.reduceBEq, QOp.loads, boxO, bslO, buildO, cutL, fillV, putL, w13, v13, W]
      exact ⟨Ext.refl _, by rw [decide_eq_false]; rintro rfl; exact hq rfl⟩
  · simp (maxSteps := 4000000) (disch := omega) only [ah, am, Nat.reduceEqDiff, reduceCtorEq, Nat.reduceAdd, Nat.reduceLeDiff, Nat.reduceMul, Nat.reduceLT, if_true, if_false, true_and, and_true, and_self, Nat.reduceBEq, QOp.loads, boxO, bslO, buildO, cutL, fillV, putL, w13, v13, R, W]
    refine ⟨Ext.refl _, ?_⟩
    rw [decide_eq_true]
    exact List.ext_getElem hll fun j h1 h2 => F j (by omega) h1
def markI (k : Int) (n : Nat) : List Int := (List.range n).map fun i : Nat => k + (i : Int)
theorem markInt64S_ok (h : Heap) (g : Nat) (v : Value) (l : List Int) (k : Int) (o : OwnT g h encI 1 v l) (hl : l.length ≤ 1000000000) (hk : 0 ≤ k ∧ k ≤ 1000000000000) :
    ACall Try.prog 16 [v, .int .i64 k] h fun r h' => ExtG g h h' ∧ OwnT g h' encI 1 v (markI k l.length) ∧ r = .int .i64 (k + l.length) := by
  refine ACall.of Try.func16 s16 (of_decide_eq_true rfl) ?_
  have R := o.slt.rulesN
  simp (maxSteps := 4000000) (disch := omega) only [ah, am, Nat.reduceEqDiff, reduceCtorEq, Nat.reduceAdd, Nat.reduceLeDiff, Nat.reduceMul, Nat.reduceLT, if_true, if_false, true_and, and_true, and_self, Nat.reduceBEq, QOp.loads, boxO, bslO, buildO, cutL, fillV, putL, w16, v16, R]
  refine SW_loop_up (fun i E H => E = [(0, v), (1, .int .i64 (k + i)), (5, .int .i64 i)] ∧ ExtG g h H ∧ OwnT g H encI 1 v (markI k i ++ l.drop i)) l.length 0 (by omega)
    ⟨by simp, ExtG.refl g h, by simpa [markI] using o⟩ ?_
  rintro i E H hi ⟨rfl, e, O⟩
  have hlen : (markI k i ++ l.drop i).length = l.length := by simp [markI]; omega
  have R := O.slt.rulesN
  simp only [hlen] at R
  have W : IntKind.i64.wrap ((i : Int) + 1) = ((i + 1 : Nat) : Int) := i64e (by omega) (by omega)
  have W3 : IntKind.i64.wrap (k + (i : Int) + 1) = k + ((i + 1 : Nat) : Int) := i64e (by omega) (by omega)
  simp (maxSteps := 4000000) (disch := omega) only [ah, am, Nat.reduceEqDiff, reduceCtorEq, Nat.reduceAdd, Nat.reduceLeDiff, Nat.reduceMul, Nat.reduceLT, if_true, if_false, true_and, and_true, and_self, Nat.reduceBEq, QOp.loads, boxO, bslO, buildO, cutL, fillV, putL, w16, v16, R, W]
  refine stepI.split (fun hp => ?_) (fun hp => ?_)
  · have hj : i < (markI k i ++ l.drop i).length := by omega
    obtain ⟨H1, es1, O1, G1, -⟩ := O.setF (j := i) (f := 0) (n := 1) (y := .int .i64 (k + i)) (x := k + i) hj rfl (by omega) rfl (by omega) rfl
    simp only [Nat.add_zero, Nat.mul_one] at es1 R
    simp (maxSteps := 4000000) (disch := omega) only [ah, am, Nat.reduceEqDiff, reduceCtorEq, Nat.reduceAdd, Nat.reduceLeDiff, Nat.reduceMul, Nat.reduceLT, if_true, if_false, true_and, and_true, and_self, Nat.reduceBEq, QOp.loads, boxO, bslO, buildO, cutL, fillV, putL, w16, v16, R, es1, W, W3]
    refine ⟨by omega, e.trans G1, ?_⟩
    have := mark_stepG (fun i : Nat => k + (i : Int)) l i (by omega)
    unfold markI at O1 ⊢
    rw [← this]; exact O1
  · simp (maxSteps := 4000000) (disch := omega) only [ah, am, Nat.reduceEqDiff, reduceCtorEq, Nat.reduceAdd, Nat.reduceLeDiff, Nat.reduceMul, Nat.reduceLT, if_true, if_false, true_and, and_true, and_self, Nat.reduceBEq, QOp.loads, boxO, bslO, buildO, cutL, fillV, putL, w16, v16]
    obtain rfl : i = l.length := by omega
    exact ⟨e, by simpa using O, rfl⟩
theorem markInt64S_mine {a b : Nat} {h : Heap} {v : Value} {l : List Int} (k : Int) (m : Mine a b h encI 1 v l) (hl : l.length ≤ 1000000000) (hk : 0 ≤ k ∧ k ≤ 1000000000000) :
    ACall Try.prog 16 [v, .int .i64 k] h fun r h' => Chg a b h h' ∧ Mine a b h' encI 1 v (markI k l.length) ∧ r = .int .i64 (k + l.length) :=
  ACall.mine m (fun g o => markInt64S_ok h g v l k o hl hk) (fun e => by subst e; rfl)
theorem heldInt64S_ok (h : Heap) (v : Value) (n : Nat) (k : Int) (s : SlT h encI 1 v (markI k n)) (hl : n ≤ 1000000000) (hk : 0 ≤ k ∧ k ≤ 1000000000000) :
    ACall Try.prog 17 [v, .int .i64 k] h fun r h' => h' = h ∧ r = .int .i64 (k + n) := by
  refine ACall.of Try.func17 s17 (of_decide_eq_true rfl) ?_
  have R := s.rulesN
  have hn : (markI k n).length = n := by simp [markI]
  simp only [hn] at R
  simp (maxSteps := 4000000) (disch := omega) only [ah, am, Nat.reduceEqDiff, reduceCtorEq, Nat.reduceAdd, Nat.reduceLeDiff, Nat.reduceMul, Nat.reduceLT, if_true, if_false, true_and, and_true, and_self, Nat.reduceBEq, QOp.loads, boxO, bslO, buildO, cutL, fillV, putL, w17, v17, R]
  refine SW_loop_up (fun i E H => E = [(0, v), (1, .int .i64 (k + i)), (5, .int .i64 i)] ∧ H = h) n 0 (by omega) ⟨by simp, rfl⟩ ?_
  rintro i E H hi ⟨rfl, rfl⟩
  have W : IntKind.i64.wrap ((i : Int) + 1) = ((i + 1 : Nat) : Int) := i64e (by omega) (by omega)
  have W3 : IntKind.i64.wrap (k + (i : Int) + 1) = k + ((i + 1 : Nat) : Int) := i64e (by omega) (by omega)
  simp (maxSteps := 4000000) (disch := omega) only [ah, am, Nat.reduceEqDiff, reduceCtorEq, Nat.reduceAdd, Nat.reduceLeDiff, Nat.reduceMul, Nat.reduceLT, if_true, if_false, true_and, and_true, and_self, Nat.reduceBEq, QOp.loads, boxO, bslO, buildO, cutL, fillV, putL, w17, v17, R, W]
  refine stepI.split (fun hp => ?_) (fun hp => ?_)
  · have g : ∀ (hj : i < (markI k n).length), encI (markI k n)[i] = [.int .i64 (k + i)] := by
      intro hj; simp [markI, encI]
    simp (maxSteps := 4000000) (disch := omega) only [ah, am, Nat.reduceEqDiff, reduceCtorEq, Nat.reduceAdd, Nat.reduceLeDiff, Nat.reduceMul, Nat.reduceLT, if_true, if_false, true_and, and_true, and_self, Nat.reduceBEq, QOp.loads, boxO, bslO, buildO, cutL, fillV, putL, w17, v17, R, g, W, W3, decide_true, stepI_true]
    omega
  · simp (maxSteps := 4000000) (disch := omega) only [ah, am, Nat.reduceEqDiff, reduceCtorEq, Nat.reduceAdd, Nat.reduceLeDiff, Nat.reduceMul, Nat.reduceLT, if_true, if_false, true_and, and_true, and_self, Nat.reduceBEq, QOp.loads, boxO, bslO, buildO, cutL, fillV, putL, w17, v17]
    obtain rfl : i = n := by omega
    rfl
end Go.Proofs.Ytbnkpligdcponaa
