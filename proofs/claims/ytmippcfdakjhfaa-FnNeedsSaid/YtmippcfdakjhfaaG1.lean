import Derived.Test.YtmippcfdakjhfaaN0
namespace Go.Proofs.Ytmippcfdakjhfaa
open Go Go.Ah
set_option linter.unusedSimpArgs false
set_option linter.unusedVariables false
set_option maxRecDepth 10000
set_option maxHeartbeats 4000000
/-! 8 loop.example/g00066/laws.szReelS: parameters 2, live [0, 1], slots [0:a, 1:left, 2:a, 3:left] -/
def c8_0 : List SOper := [⟨some 4, .q (.mv (.c (.int .i64 0))), none⟩]
def c8_1 : List SOper := [⟨some 5, .q (.mv (.t 1)), none⟩, ⟨some 6, .q (.mv (.t 0)), none⟩, ⟨some 7, .q (.len (.t 6)), none⟩, ⟨some 8, .q (.bin .sub (.t 5) (.t 7)), none⟩, ⟨some 1, .q (.mv (.t 8)), none⟩]
def c8_2 : List SOper := [⟨some 9, .q (.mv (.t 1)), none⟩, ⟨some 10, .q (.bin .lss (.t 9) (.c (.int .i64 0))), none⟩]
def c8_3 : List SOper := [⟨some 4, .q (.mv (.c (.int .i64 (-1)))), none⟩]
def c8_4 : SCode := .seq (.region c8_3 [4]) .ret
def c8_5 : SCode := .cond (.t 10) c8_4 .skip
def c8_6 : SCode := .seq (.region c8_2 [1, 10]) c8_5
def c8_7 : List SOper := [⟨some 11, .q (.mv (.t 1)), none⟩, ⟨some 4, .q (.mv (.t 11)), none⟩]
def c8_8 : SCode := .seq (.region c8_7 [4]) .ret
def c8_9 : SCode := .seq c8_6 c8_8
def c8_10 : SCode := .seq (.region c8_1 [1]) c8_9
def c8_11 : SCode := .seq (.region c8_0 [0, 1]) c8_10
def c8 : SCode := c8_11
theorem w8 : type_of% (And.intro (uR Try.prog c8_0.eq_1) (And.intro (uR Try.prog c8_1.eq_1) (And.intro (uR Try.prog c8_2.eq_1) (And.intro (uR Try.prog c8_3.eq_1) (And.intro (uC Try.prog c8_4.eq_1) (And.intro (uC Try.prog c8_5.eq_1) (And.intro (uC Try.prog c8_6.eq_1) (And.intro (uR Try.prog c8_7.eq_1) (And.intro (uC Try.prog c8_8.eq_1) (And.intro (uC Try.prog c8_9.eq_1) (And.intro (uC Try.prog c8_10.eq_1) (And.intro (uC Try.prog c8_11.eq_1) (uC Try.prog c8.eq_1))))))))))))) := (And.intro (uR Try.prog c8_0.eq_1) (And.intro (uR Try.prog c8_1.eq_1) (And.intro (uR Try.prog c8_2.eq_1) (And.intro (uR Try.prog c8_3.eq_1) (And.intro (uC Try.prog c8_4.eq_1) (And.intro (uC Try.prog c8_5.eq_1) (And.intro (uC Try.prog c8_6.eq_1) (And.intro (uR Try.prog c8_7.eq_1) (And.intro (uC Try.prog c8_8.eq_1) (And.intro (uC Try.prog c8_9.eq_1) (And.intro (uC Try.prog c8_10.eq_1) (And.intro (uC Try.prog c8_11.eq_1) (uC Try.prog c8.eq_1)))))))))))))
def v8 : List RV := [.t 4]
theorem s8 : slimF Try.prog Try.f8 = some (c8.bare, v8) := by kernel_rfl

/-! 10 loop.example/g00066/laws.toReelS: parameters 1, live [0], slots [0:a, 1:a, 3:out, 4:i] -/
def c10_0 : List SOper := [⟨some 2, .q (.mv (.c (.slice none 0 0))), none⟩]
def c10_1 : List SOper := [⟨some 5, .q (.mv (.t 0)), none⟩, ⟨some 6, .q (.len (.t 5)), none⟩, ⟨some 7, .a (.mks 24 3 [(.int .i64 0), (.int .i64 0), (.int .i64 0)] (.t 6) (.t 6)), none⟩, ⟨some 3, .q (.mv (.t 7)), none⟩]
def c10_2 : List SOper := [⟨some 4, .q (.mv (.c (.int .i64 0))), none⟩]
def c10_3 : List SOper := [⟨some 8, .q (.mv (.t 4)), none⟩, ⟨some 9, .q (.mv (.t 0)), none⟩, ⟨some 10, .q (.len (.t 9)), none⟩, ⟨some 11, .q (.bin .lss (.t 8) (.t 10)), none⟩]
def c10_4 : SCode := .cond (.t 11) .skip (.exit 0)
def c10_5 : SCode := .seq (.region c10_3 [0, 3, 4, 11]) c10_4
def c10_6 : List SOper := [⟨some 14, .q (.mv (.t 3)), none⟩, ⟨some 15, .q (.mv (.t 4)), none⟩, ⟨some 16, .q (.mv (.t 0)), none⟩, ⟨some 17, .q (.mv (.t 4)), none⟩, ⟨some 18, .q (.ia 3 (.t 16) (.t 17)), none⟩, ⟨some 19, .q (.ldn 3 (.t 18)), none⟩, ⟨some 20, .e (.call 28 [(.t 19)]), none⟩, ⟨some 21, .q (.ia 3 (.t 14) (.t 15)), none⟩, ⟨none, .e (.st 3 (.t 21) (.t 20)), none⟩]
def c10_7 : SCode := .block 1 (.region c10_6 [0, 3, 4])
def c10_8 : List SOper := [⟨some 12, .q (.mv (.t 4)), none⟩, ⟨some 13, .q (.bin .add (.t 12) (.c (.int .i64 1))), none⟩, ⟨some 4, .q (.mv (.t 13)), none⟩]
def c10_9 : SCode := .seq c10_7 (.region c10_8 [0, 3, 4])
def c10_10 : SCode := .seq c10_5 c10_9
def c10_11 : SCode := .loop c10_10
def c10_12 : SCode := .block 0 c10_11
def c10_13 : SCode := .seq (.region c10_2 [0, 3, 4]) c10_12
def c10_14 : List SOper := [⟨some 22, .q (.mv (.t 3)), none⟩, ⟨some 2, .q (.mv (.t 22)), none⟩]
def c10_15 : SCode := .seq (.region c10_14 [2]) .ret
def c10_16 : SCode := .seq c10_13 c10_15
def c10_17 : SCode := .seq (.region c10_1 [0, 3]) c10_16
def c10_18 : SCode := .seq (.region c10_0 [0]) c10_17
def c10 : SCode := c10_18
theorem w10 : type_of% (And.intro (uR Try.prog c10_0.eq_1) (And.intro (uR Try.prog c10_1.eq_1) (And.intro (uR Try.prog c10_2.eq_1) (And.intro (uR Try.prog c10_3.eq_1) (And.intro (uC Try.prog c10_4.eq_1) (And.intro (uC Try.prog c10_5.eq_1) (And.intro (uR Try.prog c10_6.eq_1) (And.intro (uC Try.prog c10_7.eq_1) (And.intro (uR Try.prog c10_8.eq_1) (And.intro (uC Try.prog c10_9.eq_1) (And.intro (uC Try.prog c10_10.eq_1) (And.intro (uC Try.prog c10_11.eq_1) (And.intro (uC Try.prog c10_12.eq_1) (And.intro (uC Try.prog c10_13.eq_1) (And.intro (uR Try.prog c10_14.eq_1) (And.intro (uC Try.prog c10_15.eq_1) (And.intro (uC Try.prog c10_16.eq_1) (And.intro (uC Try.prog c10_17.eq_1) (And.intro (uC Try.prog c10_18.eq_1) (uC Try.prog c10.eq_1)))))))))))))))))))) := (And.intro (uR Try.prog c10_0.eq_1) (And.intro (uR Try.prog c10_1.eq_1) (And.intro (uR Try.prog c10_2.eq_1) (And.intro (uR Try.prog c10_3.eq_1) (And.intro (uC Try.prog c10_4.eq_1) (And.intro (uC Try.prog c10_5.eq_1) (And.intro (uR Try.prog c10_6.eq_1) (And.intro (uC Try.prog c10_7.eq_1) (And.intro (uR Try.prog c10_8.eq_1) (And.intro (uC Try.prog c10_9.eq_1) (And.intro (uC Try.prog c10_10.eq_1) (And.intro (uC Try.prog c10_11.eq_1) (And.intro (uC Try.prog c10_12.eq_1) (And.intro (uC Try.prog c10_13.eq_1) (And.intro (uR Try.prog c10_14.eq_1) (And.intro (uC Try.prog c10_15.eq_1) (And.intro (uC Try.prog c10_16.eq_1) (And.intro (uC Try.prog c10_17.eq_1) (And.intro (uC Try.prog c10_18.eq_1) (uC Try.prog c10.eq_1))))))))))))))))))))
def v10 : List RV := [.t 2]
theorem s10 : slimF Try.prog Try.f10 = some (c10.bare, v10) := by kernel_rfl

/-! 28 loop.example/g00066/laws.toReel: parameters 1, live [0], slots [0:a, 1:a, 3:out] -/
def c28_0 : List SOper := [⟨some 1, .a (.box (.t 0)), none⟩, ⟨some 2, .a (.new [(.int .i64 0), (.int .i64 0), (.int .i64 0)]), none⟩]
def c28_1 : List SOper := [⟨some 3, .a (.new [(.int .i64 0), (.int .i64 0), (.int .i64 0)]), none⟩]
def c28_2 : List SOper := [⟨some 4, .q (.fa 0 (.t 1)), none⟩, ⟨some 5, .q (.ld (.t 4)), none⟩, ⟨some 6, .q (.fa 0 (.t 3)), none⟩, ⟨none, .e (.st 1 (.t 6) (.t 5)), none⟩]
def c28_3 : List SOper := [⟨some 7, .q (.fa 1 (.t 1)), none⟩, ⟨some 8, .q (.ld (.t 7)), none⟩, ⟨some 9, .q (.fa 1 (.t 3)), none⟩, ⟨none, .e (.st 1 (.t 9) (.t 8)), none⟩]
def c28_4 : List SOper := [⟨some 10, .q (.fa 2 (.t 1)), none⟩, ⟨some 11, .q (.ld (.t 10)), none⟩, ⟨some 12, .q (.fa 2 (.t 3)), none⟩, ⟨none, .e (.st 1 (.t 12) (.t 11)), none⟩]
def c28_5 : List SOper := [⟨some 13, .q (.ldn 3 (.t 3)), none⟩, ⟨none, .e (.st 3 (.t 2) (.t 13)), none⟩]
def c28_6 : SCode := .seq (.region c28_5 [2]) .ret
def c28_7 : SCode := .seq (.region c28_4 [2, 3]) c28_6
def c28_8 : SCode := .seq (.region c28_3 [1, 2, 3]) c28_7
def c28_9 : SCode := .seq (.region c28_2 [1, 2, 3]) c28_8
def c28_10 : SCode := .seq (.region c28_1 [1, 2, 3]) c28_9
def c28_11 : SCode := .seq (.region c28_0 [1, 2]) c28_10
def c28 : SCode := c28_11
theorem w28 : type_of% (And.intro (uR Try.prog c28_0.eq_1) (And.intro (uR Try.prog c28_1.eq_1) (And.intro (uR Try.prog c28_2.eq_1) (And.intro (uR Try.prog c28_3.eq_1) (And.intro (uR Try.prog c28_4.eq_1) (And.intro (uR Try.prog c28_5.eq_1) (And.intro (uC Try.prog c28_6.eq_1) (And.intro (uC Try.prog c28_7.eq_1) (And.intro (uC Try.prog c28_8.eq_1) (And.intro (uC Try.prog c28_9.eq_1) (And.intro (uC Try.prog c28_10.eq_1) (And.intro (uC Try.prog c28_11.eq_1) (uC Try.prog c28.eq_1))))))))))))) := (And.intro (uR Try.prog c28_0.eq_1) (And.intro (uR Try.prog c28_1.eq_1) (And.intro (uR Try.prog c28_2.eq_1) (And.intro (uR Try.prog c28_3.eq_1) (And.intro (uR Try.prog c28_4.eq_1) (And.intro (uR Try.prog c28_5.eq_1) (And.intro (uC Try.prog c28_6.eq_1) (And.intro (uC Try.prog c28_7.eq_1) (And.intro (uC Try.prog c28_8.eq_1) (And.intro (uC Try.prog c28_9.eq_1) (And.intro (uC Try.prog c28_10.eq_1) (And.intro (uC Try.prog c28_11.eq_1) (uC Try.prog c28.eq_1)))))))))))))
def v28 : List RV := [.c 2 (some 3)]
theorem s28 : slimF Try.prog Try.f28 = some (c28.bare, v28) := by kernel_rfl

/-! 12 loop.example/g00066/laws.eqReelS: parameters 2, live [0, 1], slots [0:a, 1:b, 2:a, 3:b, 5:i] -/
def c12_0 : List SOper := [⟨some 4, .q (.mv (.c (.bool false))), none⟩]
def c12_1 : List SOper := [⟨some 6, .q (.mv (.t 0)), none⟩, ⟨some 7, .q (.len (.t 6)), none⟩, ⟨some 8, .q (.mv (.t 1)), none⟩, ⟨some 9, .q (.len (.t 8)), none⟩, ⟨some 10, .q (.bin .neq (.t 7) (.t 9)), none⟩]
def c12_2 : List SOper := [⟨some 4, .q (.mv (.c (.bool false))), none⟩]
def c12_3 : SCode := .seq (.region c12_2 [4]) .ret
def c12_4 : SCode := .cond (.t 10) c12_3 .skip
def c12_5 : SCode := .seq (.region c12_1 [0, 1, 10]) c12_4
def c12_6 : List SOper := [⟨some 5, .q (.mv (.c (.int .i64 0))), none⟩]
def c12_7 : List SOper := [⟨some 11, .q (.mv (.t 5)), none⟩, ⟨some 12, .q (.mv (.t 0)), none⟩, ⟨some 13, .q (.len (.t 12)), none⟩, ⟨some 14, .q (.bin .lss (.t 11) (.t 13)), none⟩]
def c12_8 : SCode := .cond (.t 14) .skip (.exit 0)
def c12_9 : SCode := .seq (.region c12_7 [0, 1, 5, 14]) c12_8
def c12_10 : List SOper := [⟨some 17, .q (.mv (.t 0)), none⟩, ⟨some 18, .q (.mv (.t 5)), none⟩, ⟨some 19, .q (.ia 3 (.t 17) (.t 18)), none⟩, ⟨some 20, .q (.ldn 3 (.t 19)), none⟩, ⟨some 21, .q (.mv (.t 1)), none⟩, ⟨some 22, .q (.mv (.t 5)), none⟩, ⟨some 23, .q (.ia 3 (.t 21) (.t 22)), none⟩, ⟨some 24, .q (.ldn 3 (.t 23)), none⟩, ⟨some 25, .e (.call 30 [(.t 20), (.t 24)]), none⟩, ⟨some 26, .q (.not (.t 25)), none⟩]
def c12_11 : List SOper := [⟨some 4, .q (.mv (.c (.bool false))), none⟩]
def c12_12 : SCode := .seq (.region c12_11 [4]) .ret
def c12_13 : SCode := .cond (.t 26) c12_12 .skip
def c12_14 : SCode := .seq (.region c12_10 [0, 1, 5, 26]) c12_13
def c12_15 : SCode := .block 1 c12_14
def c12_16 : List SOper := [⟨some 15, .q (.mv (.t 5)), none⟩, ⟨some 16, .q (.bin .add (.t 15) (.c (.int .i64 1))), none⟩, ⟨some 5, .q (.mv (.t 16)), none⟩]
def c12_17 : SCode := .seq c12_15 (.region c12_16 [0, 1, 5])
def c12_18 : SCode := .seq c12_9 c12_17
def c12_19 : SCode := .loop c12_18
def c12_20 : SCode := .block 0 c12_19
def c12_21 : SCode := .seq (.region c12_6 [0, 1, 5]) c12_20
def c12_22 : List SOper := [⟨some 4, .q (.mv (.c (.bool true))), none⟩]
def c12_23 : SCode := .seq (.region c12_22 [4]) .ret
def c12_24 : SCode := .seq c12_21 c12_23
def c12_25 : SCode := .seq c12_5 c12_24
def c12_26 : SCode := .seq (.region c12_0 [0, 1]) c12_25
def c12 : SCode := c12_26
theorem w12 : type_of% (And.intro (uR Try.prog c12_0.eq_1) (And.intro (uR Try.prog c12_1.eq_1) (And.intro (uR Try.prog c12_2.eq_1) (And.intro (uC Try.prog c12_3.eq_1) (And.intro (uC Try.prog c12_4.eq_1) (And.intro (uC Try.prog c12_5.eq_1) (And.intro (uR Try.prog c12_6.eq_1) (And.intro (uR Try.prog c12_7.eq_1) (And.intro (uC Try.prog c12_8.eq_1) (And.intro (uC Try.prog c12_9.eq_1) (And.intro (uR Try.prog c12_10.eq_1) (And.intro (uR Try.prog c12_11.eq_1) (And.intro (uC Try.prog c12_12.eq_1) (And.intro (uC Try.prog c12_13.eq_1) (And.intro (uC Try.prog c12_14.eq_1) (And.intro (uC Try.prog c12_15.eq_1) (And.intro (uR Try.prog c12_16.eq_1) (And.intro (uC Try.prog c12_17.eq_1) (And.intro (uC Try.prog c12_18.eq_1) (And.intro (uC Try.prog c12_19.eq_1) (And.intro (uC Try.prog c12_20.eq_1) (And.intro (uC Try.prog c12_21.eq_1) (And.intro (uR Try.prog c12_22.eq_1) (And.intro (uC Try.prog c12_23.eq_1) (And.intro (uC Try.prog c12_24.eq_1) (And.intro (uC Try.prog c12_25.eq_1) (And.intro (uC Try.prog c12_26.eq_1) (uC Try.prog c12.eq_1)))))))))))))))))))))))))))) := (And.intro (uR Try.prog c12_0.eq_1) (And.intro (uR Try.prog c12_1.eq_1) (And.intro (uR Try.prog c12_2.eq_1) (And.intro (uC Try.prog c12_3.eq_1) (And.intro (uC Try.prog c12_4.eq_1) (And.intro (uC Try.prog c12_5.eq_1) (And.intro (uR Try.prog c12_6.eq_1) (And.intro (uR Try.prog c12_7.eq_1) (And.intro (uC Try.prog c12_8.eq_1) (And.intro (uC Try.prog c12_9.eq_1) (And.intro (uR Try.prog c12_10.eq_1) (And.intro (uR Try.prog c12_11.eq_1) (And.intro (uC Try.prog c12_12.eq_1) (And.intro (uC Try.prog c12_13.eq_1) (And.intro (uC Try.prog c12_14.eq_1) (And.intro (uC Try.prog c12_15.eq_1) (And.intro (uR Try.prog c12_16.eq_1) (And.intro (uC Try.prog c12_17.eq_1) (And.intro (uC Try.prog c12_18.eq_1) (And.intro (uC Try.prog c12_19.eq_1) (And.intro (uC Try.prog c12_20.eq_1) (And.intro (uC Try.prog c12_21.eq_1) (And.intro (uR Try.prog c12_22.eq_1) (And.intro (uC Try.prog c12_23.eq_1) (And.intro (uC Try.prog c12_24.eq_1) (And.intro (uC Try.prog c12_25.eq_1) (And.intro (uC Try.prog c12_26.eq_1) (uC Try.prog c12.eq_1))))))))))))))))))))))))))))
def v12 : List RV := [.t 4]
theorem s12 : slimF Try.prog Try.f12 = some (c12.bare, v12) := by kernel_rfl

/-! 30 loop.example/g00066/laws.eqReel: parameters 2, live [0, 1], slots [0:a, 1:b, 2:a, 3:b] -/
def c30_0 : List SOper := [⟨some 2, .a (.box (.t 0)), none⟩, ⟨some 3, .a (.box (.t 1)), none⟩, ⟨some 4, .q (.mv (.c (.bool false))), none⟩]
def c30_1 : List SOper := [⟨some 5, .q (.fa 0 (.t 2)), none⟩, ⟨some 6, .q (.ld (.t 5)), none⟩, ⟨some 7, .q (.fa 0 (.t 3)), none⟩, ⟨some 8, .q (.ld (.t 7)), none⟩, ⟨some 9, .q (.bin .neq (.t 6) (.t 8)), none⟩]
def c30_2 : List SOper := [⟨some 4, .q (.mv (.c (.bool false))), none⟩]
def c30_3 : SCode := .seq (.region c30_2 [4]) .ret
def c30_4 : SCode := .cond (.t 9) c30_3 .skip
def c30_5 : SCode := .seq (.region c30_1 [2, 3, 9]) c30_4
def c30_6 : List SOper := [⟨some 10, .q (.fa 1 (.t 2)), none⟩, ⟨some 11, .q (.ld (.t 10)), none⟩, ⟨some 12, .q (.fa 1 (.t 3)), none⟩, ⟨some 13, .q (.ld (.t 12)), none⟩, ⟨some 14, .q (.bin .neq (.t 11) (.t 13)), none⟩]
def c30_7 : List SOper := [⟨some 4, .q (.mv (.c (.bool false))), none⟩]
def c30_8 : SCode := .seq (.region c30_7 [4]) .ret
def c30_9 : SCode := .cond (.t 14) c30_8 .skip
def c30_10 : SCode := .seq (.region c30_6 [2, 3, 14]) c30_9
def c30_11 : List SOper := [⟨some 15, .q (.fa 2 (.t 2)), none⟩, ⟨some 16, .q (.ld (.t 15)), none⟩, ⟨some 17, .q (.fa 2 (.t 3)), none⟩, ⟨some 18, .q (.ld (.t 17)), none⟩, ⟨some 19, .q (.bin .neq (.t 16) (.t 18)), none⟩]
def c30_12 : List SOper := [⟨some 4, .q (.mv (.c (.bool false))), none⟩]
def c30_13 : SCode := .seq (.region c30_12 [4]) .ret
def c30_14 : SCode := .cond (.t 19) c30_13 .skip
def c30_15 : SCode := .seq (.region c30_11 [19]) c30_14
def c30_16 : List SOper := [⟨some 4, .q (.mv (.c (.bool true))), none⟩]
def c30_17 : SCode := .seq (.region c30_16 [4]) .ret
def c30_18 : SCode := .seq c30_15 c30_17
def c30_19 : SCode := .seq c30_10 c30_18
def c30_20 : SCode := .seq c30_5 c30_19
def c30_21 : SCode := .seq (.region c30_0 [2, 3]) c30_20
def c30 : SCode := c30_21
theorem w30 : type_of% (And.intro (uR Try.prog c30_0.eq_1) (And.intro (uR Try.prog c30_1.eq_1) (And.intro (uR Try.prog c30_2.eq_1) (And.intro (uC Try.prog c30_3.eq_1) (And.intro (uC Try.prog c30_4.eq_1) (And.intro (uC Try.prog c30_5.eq_1) (And.intro (uR Try.prog c30_6.eq_1) (And.intro (uR Try.prog c30_7.eq_1) (And.intro (uC Try.prog c30_8.eq_1) (And.intro (uC Try.prog c30_9.eq_1) (And.intro (uC Try.prog c30_10.eq_1) (And.intro (uR Try.prog c30_11.eq_1) (And.intro (uR Try.prog c30_12.eq_1) (And.intro (uC Try.prog c30_13.eq_1) (And.intro (uC Try.prog c30_14.eq_1) (And.intro (uC Try.prog c30_15.eq_1) (And.intro (uR Try.prog c30_16.eq_1) (And.intro (uC Try.prog c30_17.eq_1) (And.intro (uC Try.prog c30_18.eq_1) (And.intro (uC Try.prog c30_19.eq_1) (And.intro (uC Try.prog c30_20.eq_1) (And.intro (uC Try.prog c30_21.eq_1) (uC Try.prog c30.eq_1))))))))))))))))))))))) := (And.intro (uR Try.prog c30_0.eq_1) (And.intro (uR Try.prog c30_1.eq_1) (And.intro (uR Try.prog c30_2.eq_1) (And.intro (uC Try.prog c30_3.eq_1) (And.intro (uC Try.prog c30_4.eq_1) (And.intro (uC Try.prog c30_5.eq_1) (And.intro (uR Try.prog c30_6.eq_1) (And.intro (uR Try.prog c30_7.eq_1) (And.intro (uC Try.prog c30_8.eq_1) (And.intro (uC Try.prog c30_9.eq_1) (And.intro (uC Try.prog c30_10.eq_1) (And.intro (uR Try.prog c30_11.eq_1) (And.intro (uR Try.prog c30_12.eq_1) (And.intro (uC Try.prog c30_13.eq_1) (And.intro (uC Try.prog c30_14.eq_1) (And.intro (uC Try.prog c30_15.eq_1) (And.intro (uR Try.prog c30_16.eq_1) (And.intro (uC Try.prog c30_17.eq_1) (And.intro (uC Try.prog c30_18.eq_1) (And.intro (uC Try.prog c30_19.eq_1) (And.intro (uC Try.prog c30_20.eq_1) (And.intro (uC Try.prog c30_21.eq_1) (uC Try.prog c30.eq_1)))))))))))))))))))))))
def v30 : List RV := [.t 4]
theorem s30 : slimF Try.prog Try.f30 = some (c30.bare, v30) := by kernel_rfl

/-! 15 loop.example/g00066/laws.markReelS: parameters 2, live [0, 1], slots [0:a, 1:k, 2:a, 3:k, 5:i] -/
def c15_0 : List SOper := [⟨some 4, .q (.mv (.c (.int .i64 0))), none⟩]
def c15_1 : List SOper := [⟨some 5, .q (.mv (.c (.int .i64 0))), none⟩]
def c15_2 : List SOper := [⟨some 6, .q (.mv (.t 5)), none⟩, ⟨some 7, .q (.mv (.t 0)), none⟩, ⟨some 8, .q (.len (.t 7)), none⟩, ⟨some 9, .q (.bin .lss (.t 6) (.t 8)), none⟩]
def c15_3 : SCode := .cond (.t 9) .skip (.exit 0)
def c15_4 : SCode := .seq (.region c15_2 [0, 1, 5, 9]) c15_3
def c15_5 : List SOper := [⟨some 12, .q (.mv (.t 0)), none⟩, ⟨some 13, .q (.mv (.t 5)), none⟩, ⟨some 14, .q (.mv (.t 1)), none⟩, ⟨some 15, .q (.ia 3 (.t 12) (.t 13)), none⟩, ⟨some 16, .q (.fa 0 (.t 15)), none⟩, ⟨none, .e (.st 1 (.t 16) (.t 14)), none⟩]
def c15_6 : List SOper := [⟨some 17, .q (.mv (.t 1)), none⟩, ⟨some 18, .q (.bin .add (.t 17) (.c (.int .i64 1))), none⟩, ⟨some 1, .q (.mv (.t 18)), none⟩]
def c15_7 : List SOper := [⟨some 19, .q (.mv (.t 0)), none⟩, ⟨some 20, .q (.mv (.t 5)), none⟩, ⟨some 21, .q (.mv (.t 1)), none⟩, ⟨some 22, .q (.ia 3 (.t 19) (.t 20)), none⟩, ⟨some 23, .q (.fa 1 (.t 22)), none⟩, ⟨none, .e (.st 1 (.t 23) (.t 21)), none⟩]
def c15_8 : List SOper := [⟨some 24, .q (.mv (.t 1)), none⟩, ⟨some 25, .q (.bin .add (.t 24) (.c (.int .i64 1))), none⟩, ⟨some 1, .q (.mv (.t 25)), none⟩]
def c15_9 : List SOper := [⟨some 26, .q (.mv (.t 0)), none⟩, ⟨some 27, .q (.mv (.t 5)), none⟩, ⟨some 28, .q (.mv (.t 1)), none⟩, ⟨some 29, .q (.ia 3 (.t 26) (.t 27)), none⟩, ⟨some 30, .q (.fa 2 (.t 29)), none⟩, ⟨none, .e (.st 1 (.t 30) (.t 28)), none⟩]
def c15_10 : List SOper := [⟨some 31, .q (.mv (.t 1)), none⟩, ⟨some 32, .q (.bin .add (.t 31) (.c (.int .i64 1))), none⟩, ⟨some 1, .q (.mv (.t 32)), none⟩]
def c15_11 : SCode := .seq (.region c15_9 [0, 1, 5]) (.region c15_10 [0, 1, 5])
def c15_12 : SCode := .seq (.region c15_8 [0, 1, 5]) c15_11
def c15_13 : SCode := .seq (.region c15_7 [0, 1, 5]) c15_12
def c15_14 : SCode := .seq (.region c15_6 [0, 1, 5]) c15_13
def c15_15 : SCode := .seq (.region c15_5 [0, 1, 5]) c15_14
def c15_16 : SCode := .block 1 c15_15
def c15_17 : List SOper := [⟨some 10, .q (.mv (.t 5)), none⟩, ⟨some 11, .q (.bin .add (.t 10) (.c (.int .i64 1))), none⟩, ⟨some 5, .q (.mv (.t 11)), none⟩]
def c15_18 : SCode := .seq c15_16 (.region c15_17 [0, 1, 5])
def c15_19 : SCode := .seq c15_4 c15_18
def c15_20 : SCode := .loop c15_19
def c15_21 : SCode := .block 0 c15_20
def c15_22 : SCode := .seq (.region c15_1 [0, 1, 5]) c15_21
def c15_23 : List SOper := [⟨some 33, .q (.mv (.t 1)), none⟩, ⟨some 4, .q (.mv (.t 33)), none⟩]
def c15_24 : SCode := .seq (.region c15_23 [4]) .ret
def c15_25 : SCode := .seq c15_22 c15_24
def c15_26 : SCode := .seq (.region c15_0 [0, 1]) c15_25
def c15 : SCode := c15_26
theorem w15 : type_of% (And.intro (uR Try.prog c15_0.eq_1) (And.intro (uR Try.prog c15_1.eq_1) (And.intro (uR Try.prog c15_2.eq_1) (And.intro (uC Try.prog c15_3.eq_1) (And.intro (uC Try.prog c15_4.eq_1) (And.intro (uR Try.prog c15_5.eq_1) (And.intro (uR Try.prog c15_6.eq_1) (And.intro (uR Try.prog c15_7.eq_1) (And.intro (uR Try.prog c15_8.eq_1) (And.intro (uR Try.prog c15_9.eq_1) (And.intro (uR Try.prog c15_10.eq_1) (And.intro (uC Try.prog c15_11.eq_1) (And.intro (uC Try.prog c15_12.eq_1) (And.intro (uC Try.prog c15_13.eq_1) (And.intro (uC Try.prog c15_14.eq_1) (And.intro (uC Try.prog c15_15.eq_1) (And.intro (uC Try.prog c15_16.eq_1) (And.intro (uR Try.prog c15_17.eq_1) (And.intro (uC Try.prog c15_18.eq_1) (And.intro (uC Try.prog c15_19.eq_1) (And.intro (uC Try.prog c15_20.eq_1) (And.intro (uC Try.prog c15_21.eq_1) (And.intro (uC Try.prog c15_22.eq_1) (And.intro (uR Try.prog c15_23.eq_1) (And.intro (uC Try.prog c15_24.eq_1) (And.intro (uC Try.prog c15_25.eq_1) (And.intro (uC Try.prog c15_26.eq_1) (uC Try.prog c15.eq_1)))))))))))))))))))))))))))) := (And.intro (uR Try.prog c15_0.eq_1) (And.intro (uR Try.prog c15_1.eq_1) (And.intro (uR Try.prog c15_2.eq_1) (And.intro (uC Try.prog c15_3.eq_1) (And.intro (uC Try.prog c15_4.eq_1) (And.intro (uR Try.prog c15_5.eq_1) (And.intro (uR Try.prog c15_6.eq_1) (And.intro (uR Try.prog c15_7.eq_1) (And.intro (uR Try.prog c15_8.eq_1) (And.intro (uR Try.prog c15_9.eq_1) (And.intro (uR Try.prog c15_10.eq_1) (And.intro (uC Try.prog c15_11.eq_1) (And.intro (uC Try.prog c15_12.eq_1) (And.intro (uC Try.prog c15_13.eq_1) (And.intro (uC Try.prog c15_14.eq_1) (And.intro (uC Try.prog c15_15.eq_1) (And.intro (uC Try.prog c15_16.eq_1) (And.intro (uR Try.prog c15_17.eq_1) (And.intro (uC Try.prog c15_18.eq_1) (And.intro (uC Try.prog c15_19.eq_1) (And.intro (uC Try.prog c15_20.eq_1) (And.intro (uC Try.prog c15_21.eq_1) (And.intro (uC Try.prog c15_22.eq_1) (And.intro (uR Try.prog c15_23.eq_1) (And.intro (uC Try.prog c15_24.eq_1) (And.intro (uC Try.prog c15_25.eq_1) (And.intro (uC Try.prog c15_26.eq_1) (uC Try.prog c15.eq_1))))))))))))))))))))))))))))
def v15 : List RV := [.t 4]
theorem s15 : slimF Try.prog Try.f15 = some (c15.bare, v15) := by kernel_rfl

/-! 16 loop.example/g00066/laws.heldReelS: parameters 2, live [0, 1], slots [0:a, 1:k, 2:a, 3:k, 5:i] -/
def c16_0 : List SOper := [⟨some 4, .q (.mv (.c (.int .i64 0))), none⟩]
def c16_1 : List SOper := [⟨some 5, .q (.mv (.c (.int .i64 0))), none⟩]
def c16_2 : List SOper := [⟨some 6, .q (.mv (.t 5)), none⟩, ⟨some 7, .q (.mv (.t 0)), none⟩, ⟨some 8, .q (.len (.t 7)), none⟩, ⟨some 9, .q (.bin .lss (.t 6) (.t 8)), none⟩]
def c16_3 : SCode := .cond (.t 9) .skip (.exit 0)
def c16_4 : SCode := .seq (.region c16_2 [0, 1, 5, 9]) c16_3
def c16_5 : List SOper := [⟨some 12, .q (.mv (.t 0)), none⟩, ⟨some 13, .q (.mv (.t 5)), none⟩, ⟨some 14, .q (.ia 3 (.t 12) (.t 13)), none⟩, ⟨some 15, .q (.fa 0 (.t 14)), none⟩, ⟨some 16, .q (.ld (.t 15)), none⟩, ⟨some 17, .q (.mv (.t 1)), none⟩, ⟨some 18, .q (.bin .neq (.t 16) (.t 17)), none⟩]
def c16_6 : List SOper := [⟨some 4, .q (.mv (.c (.int .i64 (-1)))), none⟩]
def c16_7 : SCode := .seq (.region c16_6 [4]) .ret
def c16_8 : SCode := .cond (.t 18) c16_7 .skip
def c16_9 : SCode := .seq (.region c16_5 [0, 1, 5, 18]) c16_8
def c16_10 : List SOper := [⟨some 19, .q (.mv (.t 1)), none⟩, ⟨some 20, .q (.bin .add (.t 19) (.c (.int .i64 1))), none⟩, ⟨some 1, .q (.mv (.t 20)), none⟩]
def c16_11 : List SOper := [⟨some 21, .q (.mv (.t 0)), none⟩, ⟨some 22, .q (.mv (.t 5)), none⟩, ⟨some 23, .q (.ia 3 (.t 21) (.t 22)), none⟩, ⟨some 24, .q (.fa 1 (.t 23)), none⟩, ⟨some 25, .q (.ld (.t 24)), none⟩, ⟨some 26, .q (.mv (.t 1)), none⟩, ⟨some 27, .q (.bin .neq (.t 25) (.t 26)), none⟩]
def c16_12 : List SOper := [⟨some 4, .q (.mv (.c (.int .i64 (-1)))), none⟩]
def c16_13 : SCode := .seq (.region c16_12 [4]) .ret
def c16_14 : SCode := .cond (.t 27) c16_13 .skip
def c16_15 : SCode := .seq (.region c16_11 [0, 1, 5, 27]) c16_14
def c16_16 : List SOper := [⟨some 28, .q (.mv (.t 1)), none⟩, ⟨some 29, .q (.bin .add (.t 28) (.c (.int .i64 1))), none⟩, ⟨some 1, .q (.mv (.t 29)), none⟩]
def c16_17 : List SOper := [⟨some 30, .q (.mv (.t 0)), none⟩, ⟨some 31, .q (.mv (.t 5)), none⟩, ⟨some 32, .q (.ia 3 (.t 30) (.t 31)), none⟩, ⟨some 33, .q (.fa 2 (.t 32)), none⟩, ⟨some 34, .q (.ld (.t 33)), none⟩, ⟨some 35, .q (.mv (.t 1)), none⟩, ⟨some 36, .q (.bin .neq (.t 34) (.t 35)), none⟩]
def c16_18 : List SOper := [⟨some 4, .q (.mv (.c (.int .i64 (-1)))), none⟩]
def c16_19 : SCode := .seq (.region c16_18 [4]) .ret
def c16_20 : SCode := .cond (.t 36) c16_19 .skip
def c16_21 : SCode := .seq (.region c16_17 [0, 1, 5, 36]) c16_20
def c16_22 : List SOper := [⟨some 37, .q (.mv (.t 1)), none⟩, ⟨some 38, .q (.bin .add (.t 37) (.c (.int .i64 1))), none⟩, ⟨some 1, .q (.mv (.t 38)), none⟩]
def c16_23 : SCode := .seq c16_21 (.region c16_22 [0, 1, 5])
def c16_24 : SCode := .seq (.region c16_16 [0, 1, 5]) c16_23
def c16_25 : SCode := .seq c16_15 c16_24
def c16_26 : SCode := .seq (.region c16_10 [0, 1, 5]) c16_25
def c16_27 : SCode := .seq c16_9 c16_26
def c16_28 : SCode := .block 1 c16_27
def c16_29 : List SOper := [⟨some 10, .q (.mv (.t 5)), none⟩, ⟨some 11, .q (.bin .add (.t 10) (.c (.int .i64 1))), none⟩, ⟨some 5, .q (.mv (.t 11)), none⟩]
def c16_30 : SCode := .seq c16_28 (.region c16_29 [0, 1, 5])
def c16_31 : SCode := .seq c16_4 c16_30
def c16_32 : SCode := .loop c16_31
def c16_33 : SCode := .block 0 c16_32
def c16_34 : SCode := .seq (.region c16_1 [0, 1, 5]) c16_33
def c16_35 : List SOper := [⟨some 39, .q (.mv (.t 1)), none⟩, ⟨some 4, .q (.mv (.t 39)), none⟩]
def c16_36 : SCode := .seq (.region c16_35 [4]) .ret
def c16_37 : SCode := .seq c16_34 c16_36
def c16_38 : SCode := .seq (.region c16_0 [0, 1]) c16_37
def c16 : SCode := c16_38
theorem w16 : type_of% (And.intro (uR Try.prog c16_0.eq_1) (And.intro (uR Try.prog c16_1.eq_1) (And.intro (uR Try.prog c16_2.eq_1) (And.intro (uC Try.prog c16_3.eq_1) (And.intro (uC Try.prog c16_4.eq_1) (And.intro (uR Try.prog c16_5.eq_1) (And.intro (uR Try.prog c16_6.eq_1) (And.intro (uC Try.prog c16_7.eq_1) (And.intro (uC Try.prog c16_8.eq_1) (And.intro (uC Try.prog c16_9.eq_1) (And.intro (uR Try.prog c16_10.eq_1) (And.intro (uR Try.prog c16_11.eq_1) (And.intro (uR Try.prog c16_12.eq_1) (And.intro (uC Try.prog c16_13.eq_1) (And.intro (uC Try.prog c16_14.eq_1) (And.intro (uC Try.prog c16_15.eq_1) (And.intro (uR Try.prog c16_16.eq_1) (And.intro (uR Try.prog c16_17.eq_1) (And.intro (uR Try.prog c16_18.eq_1) (And.intro (uC Try.prog c16_19.eq_1) (And.intro (uC Try.prog c16_20.eq_1) (And.intro (uC Try.prog c16_21.eq_1) (And.intro (uR Try.prog c16_22.eq_1) (And.intro (uC Try.prog c16_23.eq_1) (And.intro (uC Try.prog c16_24.eq_1) (And.intro (uC Try.prog c16_25.eq_1) (And.intro (uC Try.prog c16_26.eq_1) (And.intro (uC Try.prog c16_27.eq_1) (And.intro (uC Try.prog c16_28.eq_1) (And.intro (uR Try.prog c16_29.eq_1) (And.intro (uC Try.prog c16_30.eq_1) (And.intro (uC Try.prog c16_31.eq_1) (And.intro (uC Try.prog c16_32.eq_1) (And.intro (uC Try.prog c16_33.eq_1) (And.intro (uC Try.prog c16_34.eq_1) (And.intro (uR Try.prog c16_35.eq_1) (And.intro (uC Try.prog c16_36.eq_1) (And.intro (uC Try.prog c16_37.eq_1) (And.intro (uC Try.prog c16_38.eq_1) (uC Try.prog c16.eq_1)))))))))))))))))))))))))))))))))))))))) := (And.intro (uR Try.prog c16_0.eq_1) (And.intro (uR Try.prog c16_1.eq_1) (And.intro (uR Try.prog c16_2.eq_1) (And.intro (uC Try.prog c16_3.eq_1) (And.intro (uC Try.prog c16_4.eq_1) (And.intro (uR Try.prog c16_5.eq_1) (And.intro (uR Try.prog c16_6.eq_1) (And.intro (uC Try.prog c16_7.eq_1) (And.intro (uC Try.prog c16_8.eq_1) (And.intro (uC Try.prog c16_9.eq_1) (And.intro (uR Try.prog c16_10.eq_1) (And.intro (uR Try.prog c16_11.eq_1) (And.intro (uR Try.prog c16_12.eq_1) (And.intro (uC Try.prog c16_13.eq_1) (And.intro (uC Try.prog c16_14.eq_1) (And.intro (uC Try.prog c16_15.eq_1) (And.intro (uR Try.prog c16_16.eq_1) (And.intro (uR Try.prog c16_17.eq_1) (And.intro (uR Try.prog c16_18.eq_1) (And.intro (uC Try.prog c16_19.eq_1) (And.intro (uC Try.prog c16_20.eq_1) (And.intro (uC Try.prog c16_21.eq_1) (And.intro (uR Try.prog c16_22.eq_1) (And.intro (uC Try.prog c16_23.eq_1) (And.intro (uC Try.prog c16_24.eq_1) (And.intro (uC Try.prog c16_25.eq_1) (And.intro (uC Try.prog c16_26.eq_1) (And.intro (uC Try.prog c16_27.eq_1) (And.intro (uC Try.prog c16_28.eq_1) (And.intro (uR Try.prog c16_29.eq_1) (And.intro (uC Try.prog c16_30.eq_1) (And.intro (uC Try.prog c16_31.eq_1) (And.intro (uC Try.prog c16_32.eq_1) (And.intro (uC Try.prog c16_33.eq_1) (And.intro (uC Try.prog c16_34.eq_1) (And.intro (uR Try.prog c16_35.eq_1) (And.intro (uC Try.prog c16_36.eq_1) (And.intro (uC Try.prog c16_37.eq_1) (And.intro (uC Try.prog c16_38.eq_1) (uC Try.prog c16.eq_1))))))))))))))))))))))))))))))))))))))))
def v16 : List RV := [.t 4]
theorem s16 : slimF Try.prog Try.f16 = some (c16.bare, v16) := by kernel_rfl

structure Reel where
  src : Int
  fr : Int
  to : Int
  deriving DecidableEq
def zReel : Reel := ⟨0, 0, 0⟩
def encReel (k : Reel) : List Value := [.int .i64 k.src, .int .i64 k.fr, .int .i64 k.to]
theorem encReel_len (k : Reel) : (encReel k).length = 3 := rfl
theorem toReel_ok (h : Heap) (k : Reel) : ACall Try.prog 28 [.agg (encReel k).toArray] h fun r h' => Ext h h' ∧ r = .agg (encReel k).toArray := by
  refine ACall.of Try.func28 s28 (of_decide_eq_true rfl) ?_
  simp (maxSteps := 4000000) (disch := omega) only [ah, am, Nat.reduceEqDiff, reduceCtorEq, Nat.reduceAdd, Nat.reduceLeDiff, Nat.reduceMul, Nat.reduceLT, if_true, if_false, true_and, and_true, and_self, Nat.reduceBEq, QOp.loads, boxO, bslO, buildO, cutL, fillV, putL, w28, v28, encReel]
  exact Ext.more _ _
theorem toReel_ok' (h : Heap) (a b c : Int) : ACall Try.prog 28 [.agg [.int .i64 a, .int .i64 b, .int .i64 c].toArray] h fun r h' => Ext h h' ∧ r = .agg [.int .i64 a, .int .i64 b, .int .i64 c].toArray := toReel_ok h ⟨a, b, c⟩
theorem eqReel_ok (h : Heap) (k k' : Reel) : ACall Try.prog 30 [.agg (encReel k).toArray, .agg (encReel k').toArray] h
    fun r h' => Ext h h' ∧ r = .bool (decide (k = k')) := by
  obtain ⟨a, b, c⟩ := k; obtain ⟨a', b', c'⟩ := k'
  refine ACall.of Try.func30 s30 (of_decide_eq_true rfl) ?_
  simp (maxSteps := 4000000) (disch := omega) only [ah, am, Nat.reduceEqDiff, reduceCtorEq, Nat.reduceAdd, Nat.reduceLeDiff, Nat.reduceMul, Nat.reduceLT, if_true, if_false, true_and, and_true, and_self, Nat.reduceBEq, QOp.loads, boxO, bslO, buildO, cutL, fillV, putL, w30, v30, encReel, stepI_dec]
  repeat' split
  all_goals exact ⟨Ext.more _ _, by simp [*]⟩
theorem szReelS_ok (h : Heap) (v : Value) (l : List Reel) (left : Int) (hs : SlT h encReel 3 v l) (h0 : 0 ≤ left) (h1 : left ≤ 1048576) (hl : l.length ≤ 9223372036854775807) :
    ACall Try.prog 8 [v, .int .i64 left] h fun r h' => h' = h ∧ r = .int .i64 (if left - l.length < 0 then -1 else left - l.length) := by
  refine ACall.of Try.func8 s8 (of_decide_eq_true rfl) ?_
  have R := hs.rules
  have W : IntKind.i64.wrap (left - l.length) = left - l.length := i64e (by omega) (by omega)
  simp (maxSteps := 4000000) (disch := omega) only [ah, am, Nat.reduceEqDiff, reduceCtorEq, Nat.reduceAdd, Nat.reduceLeDiff, Nat.reduceMul, Nat.reduceLT, if_true, if_false, true_and, and_true, and_self, Nat.reduceBEq, QOp.loads, boxO, bslO, buildO, cutL, fillV, putL, w8, v8, R, W, stepI_dec]
  split <;> simp
theorem toReelS_ok (h : Heap) (v : Value) (l : List Reel) (hs : SlT h encReel 3 v l) (hl : l.length ≤ 1048576) :
    ACall Try.prog 10 [v] h fun r h' => Fresh h h' encReel 3 r l := by
  refine ACall.of Try.func10 s10 (of_decide_eq_true rfl) ?_
  have R := hs.rulesN
  simp (maxSteps := 4000000) (disch := omega) only [ah, am, Nat.reduceEqDiff, reduceCtorEq, Nat.reduceAdd, Nat.reduceLeDiff, Nat.reduceMul, Nat.reduceLT, if_true, if_false, true_and, and_true, and_self, Nat.reduceBEq, QOp.loads, boxO, bslO, buildO, cutL, fillV, putL, w10, v10, R, mksV_nat]
  refine SW_loop_up (fun i E' H => ∃ ov, E' = [(0, v), (3, ov), (4, .int .i64 i)] ∧ Fresh h H encReel 3 ov (l.take i ++ List.replicate (l.length - i) zReel)) l.length 0 (by omega)
    ⟨_, rfl, by have := Fresh.newR (sz := 3) h l.length zReel encReel_len (by omega); simpa [encReel, zReel] using this⟩ ?_
  rintro i E' H hi ⟨ov, rfl, F⟩
  have R := (hs.ext F.1).rulesN
  have W : IntKind.i64.wrap ((i : Int) + 1) = ((i + 1 : Nat) : Int) := i64e (by omega) (by omega)
  simp (maxSteps := 4000000) (disch := omega) only [ah, am, Nat.reduceEqDiff, reduceCtorEq, Nat.reduceAdd, Nat.reduceLeDiff, Nat.reduceMul, Nat.reduceLT, if_true, if_false, true_and, and_true, and_self, Nat.reduceBEq, QOp.loads, boxO, bslO, buildO, cutL, fillV, putL, w10, v10, R, W]
  refine stepI.split (fun hp => ?_) (fun hp => ?_)
  · simp (maxSteps := 4000000) (disch := omega) only [ah, am, Nat.reduceEqDiff, reduceCtorEq, Nat.reduceAdd, Nat.reduceLeDiff, Nat.reduceMul, Nat.reduceLT, if_true, if_false, true_and, and_true, and_self, Nat.reduceBEq, QOp.loads, boxO, bslO, buildO, cutL, fillV, putL, w10, v10, R, W]
    refine stepC.of (toReel_ok _ _) ?_
    rintro r H1 ⟨e1, rfl⟩
    have F1 := F.ext e1
    obtain ⟨H2, es, F2, hsz⟩ := F1.set (j := i) (by simp; omega) l[i] rfl
    have R2 := F1.slt.rulesN
    simp only [List.length_append, List.length_take, List.length_replicate] at R2
    simp (maxSteps := 4000000) (disch := omega) only [ah, am, Nat.reduceEqDiff, reduceCtorEq, Nat.reduceAdd, Nat.reduceLeDiff, Nat.reduceMul, Nat.reduceLT, if_true, if_false, true_and, and_true, and_self, Nat.reduceBEq, QOp.loads, boxO, bslO, buildO, cutL, fillV, putL, w10, v10, R2, es, W]
    refine ⟨by omega, _, rfl, ?_⟩
    rw [show List.take (i + 1) l ++ List.replicate (l.length - (i + 1)) zReel = (l.take i ++ List.replicate (l.length - i) zReel).set i l[i] from (take_set_repG l zReel i (by omega)).symm]
    exact F2
  · simp (maxSteps := 4000000) (disch := omega) only [ah, am, Nat.reduceEqDiff, reduceCtorEq, Nat.reduceAdd, Nat.reduceLeDiff, Nat.reduceMul, Nat.reduceLT, if_true, if_false, true_and, and_true, and_self, Nat.reduceBEq, QOp.loads, boxO, bslO, buildO, cutL, fillV, putL, w10, v10, R, W]
    obtain rfl : i = l.length := by omega
    simpa using F
theorem eqReelS_ok (h : Heap) (v v' : Value) (l l' : List Reel) (hs : SlT h encReel 3 v l) (hs' : SlT h encReel 3 v' l') (hl : l.length ≤ 281474976710656) (hl' : l'.length ≤ 281474976710656) :
    ACall Try.prog 12 [v, v'] h fun r h' => Ext h h' ∧ r = .bool (decide (l = l')) := by
  refine ACall.of Try.func12 s12 (of_decide_eq_true rfl) ?_
  have R := hs.rulesN
  have R' := hs'.rulesN
  simp (maxSteps := 4000000) (disch := omega) only [ah, am, Nat.reduceEqDiff, reduceCtorEq, Nat.reduceAdd, Nat.reduceLeDiff, Nat.reduceMul, Nat.reduceLT, if_true, if_false, true_and, and_true, and_self, Nat.reduceBEq, QOp.loads, boxO, bslO, buildO, cutL, fillV, putL, w12, v12, R, R']
  refine stepI.split (fun hp => ?_) (fun hp => ?_)
  rotate_left
  · simp (maxSteps := 4000000) (disch := omega) only [ah, am, Nat.reduceEqDiff, reduceCtorEq, Nat.reduceAdd, Nat.reduceLeDiff, Nat.reduceMul, Nat.reduceLT, if_true, if_false, true_and, and_true, and_self, Nat.reduceBEq, QOp.loads, boxO, bslO, buildO, cutL, fillV, putL, w12, v12]
    exact ⟨Ext.refl h, by rw [decide_eq_false]; rintro rfl; exact hp rfl⟩
  have hll : l.length = l'.length := by omega
  simp (maxSteps := 4000000) (disch := omega) only [ah, am, Nat.reduceEqDiff, reduceCtorEq, Nat.reduceAdd, Nat.reduceLeDiff, Nat.reduceMul, Nat.reduceLT, if_true, if_false, true_and, and_true, and_self, Nat.reduceBEq, QOp.loads, boxO, bslO, buildO, cutL, fillV, putL, w12, v12]
  refine SW_loop_up (fun i E' H => E' = [(0, v), (1, v'), (5, .int .i64 i)] ∧ Ext h H ∧ ∀ j (h1 : j < i) (h2 : j < l.length), l[j] = l'[j]) l.length 0 (by omega)
    ⟨rfl, .refl h, fun j h1 h2 => absurd h1 (by omega)⟩ ?_
  rintro i E' H hi ⟨rfl, e, F⟩
  have R := (hs.ext e).rulesN
  have R' := (hs'.ext e).rulesN
  have W : IntKind.i64.wrap ((i : Int) + 1) = ((i + 1 : Nat) : Int) := i64e (by omega) (by omega)
  simp (maxSteps := 4000000) (disch := omega) only [ah, am, Nat.reduceEqDiff, reduceCtorEq, Nat.reduceAdd, Nat.reduceLeDiff, Nat.reduceMul, Nat.reduceLT, if_true, if_false, true_and, and_true, and_self, Nat.reduceBEq, QOp.loads, boxO, bslO, buildO, cutL, fillV, putL, w12, v12, R, R', W]
  refine stepI.split (fun hp => ?_) (fun hp => ?_)
  · simp (maxSteps := 4000000) (disch := omega) only [ah, am, Nat.reduceEqDiff, reduceCtorEq, Nat.reduceAdd, Nat.reduceLeDiff, Nat.reduceMul, Nat.reduceLT, if_true, if_false, true_and, and_true, and_self, Nat.reduceBEq, QOp.loads, boxO, bslO, buildO, cutL, fillV, putL, w12, v12, R, R', W]
    refine stepC.of (eqReel_ok _ _ _) ?_
    rintro r H1 ⟨e1, rfl⟩
    simp (maxSteps := 4000000) (disch := omega) only [ah, am, Nat.reduceEqDiff, reduceCtorEq, Nat.reduceAdd, Nat.reduceLeDiff, Nat.reduceMul, Nat.reduceLT, if_true, if_false, true_and, and_true, and_self, Nat.reduceBEq, QOp.loads, boxO, bslO, buildO, cutL, fillV, putL, w12, v12, R, R', W]
    refine stepI.split (fun hq => ?_) (fun hq => ?_)
    · simp (maxSteps := 4000000) (disch := omega) only [ah, am, Nat.reduceEqDiff, reduceCtorEq, Nat.reduceAdd, Nat.reduceLeDiff, Nat.reduceMul, Nat.reduceLT, if_true, if_false, true_and, and_true, and_self, Nat.reduceBEq, QOp.loads, boxO, bslO, buildO, cutL, fillV, putL, w12, v12, W]
      exact ⟨by omega, e.trans e1, fun j h1 h2 => by
        by_cases hj : j = i
        · subst hj; exact hq
        · exact F j (by omega) h2⟩
    · simp (maxSteps := 4000000) (disch := omega) only [ah, am, Nat.reduceEqDiff, reduceCtorEq, Nat.reduceAdd, Nat.reduceLeDiff, Nat.reduceMul, Nat.reduceLT, if_true, if_false, true_and, and_true, and_self, Nat.reduceBEq, QOp.loads, boxO, bslO, buildO, cutL, fillV, putL, w12, v12, W]
      exact ⟨e.trans e1, by rw [decide_eq_false]; rintro rfl; exact hq rfl⟩
  · simp (maxSteps := 4000000) (disch := omega) only [ah, am, Nat.reduceEqDiff, reduceCtorEq, Nat.reduceAdd, Nat.reduceLeDiff, Nat.reduceMul, Nat.reduceLT, if_true, if_false, true_and, and_true, and_self, Nat.reduceBEq, QOp.loads, boxO, bslO, buildO, cutL, fillV, putL, w12, v12, R, W]
    refine ⟨e, ?_⟩
    rw [decide_eq_true]
    exact List.ext_getElem hll fun j h1 h2 => F j (by omega) h1
def markReel (k : Int) (n : Nat) : List Reel := (List.range n).map fun i : Nat => ⟨k + 3 * (i : Int), k + 3 * (i : Int) + 1, k + 3 * (i : Int) + 2⟩
theorem markReelS_ok (h : Heap) (g : Nat) (v : Value) (l : List Reel) (k : Int) (o : OwnT g h encReel 3 v l) (hl : l.length ≤ 1000000000) (hk : 0 ≤ k ∧ k ≤ 1000000000000) :
    ACall Try.prog 15 [v, .int .i64 k] h fun r h' => ExtG g h h' ∧ OwnT g h' encReel 3 v (markReel k l.length) ∧ r = .int .i64 (k + 3 * l.length) := by
  refine ACall.of Try.func15 s15 (of_decide_eq_true rfl) ?_
  have R := o.slt.rulesN
  simp (maxSteps := 4000000) (disch := omega) only [ah, am, Nat.reduceEqDiff, reduceCtorEq, Nat.reduceAdd, Nat.reduceLeDiff, Nat.reduceMul, Nat.reduceLT, if_true, if_false, true_and, and_true, and_self, Nat.reduceBEq, QOp.loads, boxO, bslO, buildO, cutL, fillV, putL, w15, v15, R]
  refine SW_loop_up (fun i E' H => E' = [(0, v), (1, .int .i64 (k + 3 * i)), (5, .int .i64 i)] ∧ ExtG g h H ∧ OwnT g H encReel 3 v (markReel k i ++ l.drop i)) l.length 0 (by omega)
    ⟨by simp, ExtG.refl g h, by simpa [markReel] using o⟩ ?_
  rintro i E' H hi ⟨rfl, e, O⟩
  have hlen : (markReel k i ++ l.drop i).length = l.length := by simp [markReel]; omega
  have R := O.slt.rulesN
  simp only [hlen] at R
  have W : IntKind.i64.wrap ((i : Int) + 1) = ((i + 1 : Nat) : Int) := i64e (by omega) (by omega)
  have W1 : IntKind.i64.wrap (k + 3 * (i : Int) + 1) = k + 3 * (i : Int) + 1 := i64e (by omega) (by omega)
  have W2 : IntKind.i64.wrap (k + 3 * (i : Int) + 1 + 1) = k + 3 * (i : Int) + 2 := i64e (by omega) (by omega)
  have W3 : IntKind.i64.wrap (k + 3 * (i : Int) + 2 + 1) = k + 3 * ((i + 1 : Nat) : Int) := i64e (by omega) (by omega)
  simp (maxSteps := 4000000) (disch := omega) only [ah, am, Nat.reduceEqDiff, reduceCtorEq, Nat.reduceAdd, Nat.reduceLeDiff, Nat.reduceMul, Nat.reduceLT, if_true, if_false, true_and, and_true, and_self, Nat.reduceBEq, QOp.loads, boxO, bslO, buildO, cutL, fillV, putL, w15, v15, R, W]
  refine stepI.split (fun hp => ?_) (fun hp => ?_)
  · have hj : i < (markReel k i ++ l.drop i).length := by omega
    obtain ⟨H1, es1, O1, G1, -⟩ := O.setF (j := i) (f := 0) (n := 1) (y := .int .i64 (k + 3 * (i : Int))) (x := ⟨(k + 3 * (i : Int)), ((markReel k i ++ l.drop i)[i]).fr, ((markReel k i ++ l.drop i)[i]).to⟩) (by simpa using hj) (by simp [encReel, splice, cells_int]) (by omega) rfl (by omega) rfl
    obtain ⟨H2, es2, O2, G2, -⟩ := O1.setF (j := i) (f := 1) (n := 1) (y := .int .i64 (k + 3 * (i : Int) + 1)) (x := ⟨(k + 3 * (i : Int)), (k + 3 * (i : Int) + 1), ((markReel k i ++ l.drop i)[i]).to⟩) (by simpa using hj) (by simp [encReel, splice, cells_int]) (by omega) rfl (by omega) rfl
    obtain ⟨H3, es3, O3, G3, -⟩ := O2.setF (j := i) (f := 2) (n := 1) (y := .int .i64 (k + 3 * (i : Int) + 2)) (x := ⟨(k + 3 * (i : Int)), (k + 3 * (i : Int) + 1), (k + 3 * (i : Int) + 2)⟩) (by simpa using hj) (by simp [encReel, splice, cells_int]) (by omega) rfl (by omega) rfl
    simp only [List.set_set] at O3
    simp only [Nat.add_zero] at es1
    simp (maxSteps := 4000000) (disch := omega) only [ah, am, Nat.reduceEqDiff, reduceCtorEq, Nat.reduceAdd, Nat.reduceLeDiff, Nat.reduceMul, Nat.reduceLT, if_true, if_false, true_and, and_true, and_self, Nat.reduceBEq, QOp.loads, boxO, bslO, buildO, cutL, fillV, putL, w15, v15, R, es1, es2, es3, W, W1, W2, W3]
    refine ⟨by omega, (((e.trans G1).trans G2).trans G3), ?_⟩
    have := mark_stepG (fun i : Nat => (⟨k + 3 * (i : Int), k + 3 * (i : Int) + 1, k + 3 * (i : Int) + 2⟩ : Reel)) l i (by omega)
    unfold markReel at O3 ⊢
    rw [← this]; exact O3
  · simp (maxSteps := 4000000) (disch := omega) only [ah, am, Nat.reduceEqDiff, reduceCtorEq, Nat.reduceAdd, Nat.reduceLeDiff, Nat.reduceMul, Nat.reduceLT, if_true, if_false, true_and, and_true, and_self, Nat.reduceBEq, QOp.loads, boxO, bslO, buildO, cutL, fillV, putL, w15, v15]
    obtain rfl : i = l.length := by omega
    exact ⟨e, by simpa using O, rfl⟩
theorem markReelS_mine {a b : Nat} {h : Heap} {v : Value} {l : List Reel} (k : Int) (m : Mine a b h encReel 3 v l) (hl : l.length ≤ 1000000000) (hk : 0 ≤ k ∧ k ≤ 1000000000000) :
    ACall Try.prog 15 [v, .int .i64 k] h fun r h' => Chg a b h h' ∧ Mine a b h' encReel 3 v (markReel k l.length) ∧ r = .int .i64 (k + 3 * l.length) :=
  ACall.mine m (fun g o => markReelS_ok h g v l k o hl hk) (fun e => by rw [e]; rfl)
theorem heldReelS_ok (h : Heap) (v : Value) (n : Nat) (k : Int) (s : SlT h encReel 3 v (markReel k n)) (hl : n ≤ 1000000000) (hk : 0 ≤ k ∧ k ≤ 1000000000000) :
    ACall Try.prog 16 [v, .int .i64 k] h fun r h' => h' = h ∧ r = .int .i64 (k + 3 * n) := by
  refine ACall.of Try.func16 s16 (of_decide_eq_true rfl) ?_
  have R := s.rulesN
  have hn : (markReel k n).length = n := by simp [markReel]
  simp only [hn] at R
  simp (maxSteps := 4000000) (disch := omega) only [ah, am, Nat.reduceEqDiff, reduceCtorEq, Nat.reduceAdd, Nat.reduceLeDiff, Nat.reduceMul, Nat.reduceLT, if_true, if_false, true_and, and_true, and_self, Nat.reduceBEq, QOp.loads, boxO, bslO, buildO, cutL, fillV, putL, w16, v16, R]
  refine SW_loop_up (fun i E' H => E' = [(0, v), (1, .int .i64 (k + 3 * i)), (5, .int .i64 i)] ∧ H = h) n 0 (by omega) ⟨by simp, rfl⟩ ?_
  rintro i E' H hi ⟨rfl, rfl⟩
  have W : IntKind.i64.wrap ((i : Int) + 1) = ((i + 1 : Nat) : Int) := i64e (by omega) (by omega)
  have W1 : IntKind.i64.wrap (k + 3 * (i : Int) + 1) = k + 3 * (i : Int) + 1 := i64e (by omega) (by omega)
  have W2 : IntKind.i64.wrap (k + 3 * (i : Int) + 1 + 1) = k + 3 * (i : Int) + 2 := i64e (by omega) (by omega)
  have W3 : IntKind.i64.wrap (k + 3 * (i : Int) + 2 + 1) = k + 3 * ((i + 1 : Nat) : Int) := i64e (by omega) (by omega)
  simp (maxSteps := 4000000) (disch := omega) only [ah, am, Nat.reduceEqDiff, reduceCtorEq, Nat.reduceAdd, Nat.reduceLeDiff, Nat.reduceMul, Nat.reduceLT, if_true, if_false, true_and, and_true, and_self, Nat.reduceBEq, QOp.loads, boxO, bslO, buildO, cutL, fillV, putL, w16, v16, R, W]
  refine stepI.split (fun hp => ?_) (fun hp => ?_)
  · have g : ∀ (hj : i < (markReel k n).length), encReel (markReel k n)[i] = [.int .i64 (k + 3 * (i : Int)), .int .i64 (k + 3 * (i : Int) + 1), .int .i64 (k + 3 * (i : Int) + 2)] := by
      intro hj; simp [markReel, encReel]
    simp (maxSteps := 4000000) (disch := omega) only [ah, am, Nat.reduceEqDiff, reduceCtorEq, Nat.reduceAdd, Nat.reduceLeDiff, Nat.reduceMul, Nat.reduceLT, if_true, if_false, true_and, and_true, and_self, Nat.reduceBEq, QOp.loads, boxO, bslO, buildO, cutL, fillV, putL, w16, v16, R, g, W, W1, W2, W3, decide_true, stepI_true]
    omega
  · simp (maxSteps := 4000000) (disch := omega) only [ah, am, Nat.reduceEqDiff, reduceCtorEq, Nat.reduceAdd, Nat.reduceLeDiff, Nat.reduceMul, Nat.reduceLT, if_true, if_false, true_and, and_true, and_self, Nat.reduceBEq, QOp.loads, boxO, bslO, buildO, cutL, fillV, putL, w16, v16]
    obtain rfl : i = n := by omega
    rfl
end Go.Proofs.Ytmippcfdakjhfaa
