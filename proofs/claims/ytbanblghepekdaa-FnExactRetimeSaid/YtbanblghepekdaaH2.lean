import Derived.Test.YtbanblghepekdaaL0
namespace Go.Proofs.Ytbanblghepekdaa
open Go Go.Ah
set_option linter.unusedSimpArgs false
set_option linter.unusedVariables false
set_option maxRecDepth 10000
set_option maxHeartbeats 4000000
/-! 40 loop.example/g00066/laws.szKeyS: parameters 2, live [0, 1], slots [0:a, 1:left, 2:a, 3:left] -/
def c40_0 : List SOper := [⟨some 4, .q (.mv (.c (.int .i64 0))), none⟩]
def c40_1 : List SOper := [⟨some 5, .q (.mv (.t 1)), none⟩, ⟨some 6, .q (.mv (.t 0)), none⟩, ⟨some 7, .q (.len (.t 6)), none⟩, ⟨some 8, .q (.bin .sub (.t 5) (.t 7)), none⟩, ⟨some 1, .q (.mv (.t 8)), none⟩]
def c40_2 : List SOper := [⟨some 9, .q (.mv (.t 1)), none⟩, ⟨some 10, .q (.bin .lss (.t 9) (.c (.int .i64 0))), none⟩]
def c40_3 : List SOper := [⟨some 4, .q (.mv (.c (.int .i64 (-1)))), none⟩]
def c40_4 : SCode := .seq (.region c40_3 [4]) .ret
def c40_5 : SCode := .cond (.t 10) c40_4 .skip
def c40_6 : SCode := .seq (.region c40_2 [1, 10]) c40_5
def c40_7 : List SOper := [⟨some 11, .q (.mv (.t 1)), none⟩, ⟨some 4, .q (.mv (.t 11)), none⟩]
def c40_8 : SCode := .seq (.region c40_7 [4]) .ret
def c40_9 : SCode := .seq c40_6 c40_8
def c40_10 : SCode := .seq (.region c40_1 [1]) c40_9
def c40_11 : SCode := .seq (.region c40_0 [0, 1]) c40_10
def c40 : SCode := c40_11
theorem w40 : type_of% (And.intro (uR Try.prog c40_0.eq_1) (And.intro (uR Try.prog c40_1.eq_1) (And.intro (uR Try.prog c40_2.eq_1) (And.intro (uR Try.prog c40_3.eq_1) (And.intro (uC Try.prog c40_4.eq_1) (And.intro (uC Try.prog c40_5.eq_1) (And.intro (uC Try.prog c40_6.eq_1) (And.intro (uR Try.prog c40_7.eq_1) (And.intro (uC Try.prog c40_8.eq_1) (And.intro (uC Try.prog c40_9.eq_1) (And.intro (uC Try.prog c40_10.eq_1) (And.intro (uC Try.prog c40_11.eq_1) (uC Try.prog c40.eq_1))))))))))))) := (And.intro (uR Try.prog c40_0.eq_1) (And.intro (uR Try.prog c40_1.eq_1) (And.intro (uR Try.prog c40_2.eq_1) (And.intro (uR Try.prog c40_3.eq_1) (And.intro (uC Try.prog c40_4.eq_1) (And.intro (uC Try.prog c40_5.eq_1) (And.intro (uC Try.prog c40_6.eq_1) (And.intro (uR Try.prog c40_7.eq_1) (And.intro (uC Try.prog c40_8.eq_1) (And.intro (uC Try.prog c40_9.eq_1) (And.intro (uC Try.prog c40_10.eq_1) (And.intro (uC Try.prog c40_11.eq_1) (uC Try.prog c40.eq_1)))))))))))))
def v40 : List RV := [.t 4]
theorem s40 : slimF Try.prog Try.f40 = some (c40.bare, v40) := by kernel_rfl
/-! 42 loop.example/g00066/laws.toKeyS: parameters 1, live [0], slots [0:a, 1:a, 3:out, 4:i] -/
def c42_0 : List SOper := [⟨some 2, .q (.mv (.c (.slice none 0 0))), none⟩]
def c42_1 : List SOper := [⟨some 5, .q (.mv (.t 0)), none⟩, ⟨some 6, .q (.len (.t 5)), none⟩, ⟨some 7, .a (.mks 16 2 [(.int .i64 0), (.int .i64 0)] (.t 6) (.t 6)), none⟩, ⟨some 3, .q (.mv (.t 7)), none⟩]
def c42_2 : List SOper := [⟨some 4, .q (.mv (.c (.int .i64 0))), none⟩]
def c42_3 : List SOper := [⟨some 8, .q (.mv (.t 4)), none⟩, ⟨some 9, .q (.mv (.t 0)), none⟩, ⟨some 10, .q (.len (.t 9)), none⟩, ⟨some 11, .q (.bin .lss (.t 8) (.t 10)), none⟩]
def c42_4 : SCode := .cond (.t 11) .skip (.exit 0)
def c42_5 : SCode := .seq (.region c42_3 [0, 3, 4, 11]) c42_4
def c42_6 : List SOper := [⟨some 14, .q (.mv (.t 3)), none⟩, ⟨some 15, .q (.mv (.t 4)), none⟩, ⟨some 16, .q (.mv (.t 0)), none⟩, ⟨some 17, .q (.mv (.t 4)), none⟩, ⟨some 18, .q (.ia 2 (.t 16) (.t 17)), none⟩, ⟨some 19, .q (.ldn 2 (.t 18)), none⟩, ⟨some 20, .e (.call 76 [(.t 19)]), none⟩, ⟨some 21, .q (.ia 2 (.t 14) (.t 15)), none⟩, ⟨none, .e (.st 2 (.t 21) (.t 20)), none⟩]
def c42_7 : SCode := .block 1 (.region c42_6 [0, 3, 4])
def c42_8 : List SOper := [⟨some 12, .q (.mv (.t 4)), none⟩, ⟨some 13, .q (.bin .add (.t 12) (.c (.int .i64 1))), none⟩, ⟨some 4, .q (.mv (.t 13)), none⟩]
def c42_9 : SCode := .seq c42_7 (.region c42_8 [0, 3, 4])
def c42_10 : SCode := .seq c42_5 c42_9
def c42_11 : SCode := .loop c42_10
def c42_12 : SCode := .block 0 c42_11
def c42_13 : SCode := .seq (.region c42_2 [0, 3, 4]) c42_12
def c42_14 : List SOper := [⟨some 22, .q (.mv (.t 3)), none⟩, ⟨some 2, .q (.mv (.t 22)), none⟩]
def c42_15 : SCode := .seq (.region c42_14 [2]) .ret
def c42_16 : SCode := .seq c42_13 c42_15
def c42_17 : SCode := .seq (.region c42_1 [0, 3]) c42_16
def c42_18 : SCode := .seq (.region c42_0 [0]) c42_17
def c42 : SCode := c42_18
theorem w42 : type_of% (And.intro (uR Try.prog c42_0.eq_1) (And.intro (uR Try.prog c42_1.eq_1) (And.intro (uR Try.prog c42_2.eq_1) (And.intro (uR Try.prog c42_3.eq_1) (And.intro (uC Try.prog c42_4.eq_1) (And.intro (uC Try.prog c42_5.eq_1) (And.intro (uR Try.prog c42_6.eq_1) (And.intro (uC Try.prog c42_7.eq_1) (And.intro (uR Try.prog c42_8.eq_1) (And.intro (uC Try.prog c42_9.eq_1) (And.intro (uC Try.prog c42_10.eq_1) (And.intro (uC Try.prog c42_11.eq_1) (And.intro (uC Try.prog c42_12.eq_1) (And.intro (uC Try.prog c42_13.eq_1) (And.intro (uR Try.prog c42_14.eq_1) (And.intro (uC Try.prog c42_15.eq_1) (And.intro (uC Try.prog c42_16.eq_1) (And.intro (uC Try.prog c42_17.eq_1) (And.intro (uC Try.prog c42_18.eq_1) (uC Try.prog c42.eq_1)))))))))))))))))))) := (And.intro (uR Try.prog c42_0.eq_1) (And.intro (uR Try.prog c42_1.eq_1) (And.intro (uR Try.prog c42_2.eq_1) (And.intro (uR Try.prog c42_3.eq_1) (And.intro (uC Try.prog c42_4.eq_1) (And.intro (uC Try.prog c42_5.eq_1) (And.intro (uR Try.prog c42_6.eq_1) (And.intro (uC Try.prog c42_7.eq_1) (And.intro (uR Try.prog c42_8.eq_1) (And.intro (uC Try.prog c42_9.eq_1) (And.intro (uC Try.prog c42_10.eq_1) (And.intro (uC Try.prog c42_11.eq_1) (And.intro (uC Try.prog c42_12.eq_1) (And.intro (uC Try.prog c42_13.eq_1) (And.intro (uR Try.prog c42_14.eq_1) (And.intro (uC Try.prog c42_15.eq_1) (And.intro (uC Try.prog c42_16.eq_1) (And.intro (uC Try.prog c42_17.eq_1) (And.intro (uC Try.prog c42_18.eq_1) (uC Try.prog c42.eq_1))))))))))))))))))))
def v42 : List RV := [.t 2]
theorem s42 : slimF Try.prog Try.f42 = some (c42.bare, v42) := by kernel_rfl
/-! 76 loop.example/g00066/laws.toKey: parameters 1, live [0], slots [0:a, 1:a, 3:out] -/
def c76_0 : List SOper := [⟨some 1, .a (.box (.t 0)), none⟩, ⟨some 2, .a (.new [(.int .i64 0), (.int .i64 0)]), none⟩]
def c76_1 : List SOper := [⟨some 3, .a (.new [(.int .i64 0), (.int .i64 0)]), none⟩]
def c76_2 : List SOper := [⟨some 4, .q (.fa 0 (.t 1)), none⟩, ⟨some 5, .q (.ld (.t 4)), none⟩, ⟨some 6, .q (.fa 0 (.t 3)), none⟩, ⟨none, .e (.st 1 (.t 6) (.t 5)), none⟩]
def c76_3 : List SOper := [⟨some 7, .q (.fa 1 (.t 1)), none⟩, ⟨some 8, .q (.ld (.t 7)), none⟩, ⟨some 9, .q (.fa 1 (.t 3)), none⟩, ⟨none, .e (.st 1 (.t 9) (.t 8)), none⟩]
def c76_4 : List SOper := [⟨some 10, .q (.ldn 2 (.t 3)), none⟩, ⟨none, .e (.st 2 (.t 2) (.t 10)), none⟩]
def c76_5 : SCode := .seq (.region c76_4 [2]) .ret
def c76_6 : SCode := .seq (.region c76_3 [2, 3]) c76_5
def c76_7 : SCode := .seq (.region c76_2 [1, 2, 3]) c76_6
def c76_8 : SCode := .seq (.region c76_1 [1, 2, 3]) c76_7
def c76_9 : SCode := .seq (.region c76_0 [1, 2]) c76_8
def c76 : SCode := c76_9
theorem w76 : type_of% (And.intro (uR Try.prog c76_0.eq_1) (And.intro (uR Try.prog c76_1.eq_1) (And.intro (uR Try.prog c76_2.eq_1) (And.intro (uR Try.prog c76_3.eq_1) (And.intro (uR Try.prog c76_4.eq_1) (And.intro (uC Try.prog c76_5.eq_1) (And.intro (uC Try.prog c76_6.eq_1) (And.intro (uC Try.prog c76_7.eq_1) (And.intro (uC Try.prog c76_8.eq_1) (And.intro (uC Try.prog c76_9.eq_1) (uC Try.prog c76.eq_1))))))))))) := (And.intro (uR Try.prog c76_0.eq_1) (And.intro (uR Try.prog c76_1.eq_1) (And.intro (uR Try.prog c76_2.eq_1) (And.intro (uR Try.prog c76_3.eq_1) (And.intro (uR Try.prog c76_4.eq_1) (And.intro (uC Try.prog c76_5.eq_1) (And.intro (uC Try.prog c76_6.eq_1) (And.intro (uC Try.prog c76_7.eq_1) (And.intro (uC Try.prog c76_8.eq_1) (And.intro (uC Try.prog c76_9.eq_1) (uC Try.prog c76.eq_1)))))))))))
def v76 : List RV := [.c 2 (some 2)]
theorem s76 : slimF Try.prog Try.f76 = some (c76.bare, v76) := by kernel_rfl
/-! 44 loop.example/g00066/laws.eqKeyS: parameters 2, live [0, 1], slots [0:a, 1:b, 2:a, 3:b, 5:i] -/
def c44_0 : List SOper := [⟨some 4, .q (.mv (.c (.bool false))), none⟩]
def c44_1 : List SOper := [⟨some 6, .q (.mv (.t 0)), none⟩, ⟨some 7, .q (.len (.t 6)), none⟩, ⟨some 8, .q (.mv (.t 1)), none⟩, ⟨some 9, .q (.len (.t 8)), none⟩, ⟨some 10, .q (.bin .neq (.t 7) (.t 9)), none⟩]
def c44_2 : List SOper := [⟨some 4, .q (.mv (.c (.bool false))), none⟩]
def c44_3 : SCode := .seq (.region c44_2 [4]) .ret
def c44_4 : SCode := .cond (.t 10) c44_3 .skip
def c44_5 : SCode := .seq (.region c44_1 [0, 1, 10]) c44_4
def c44_6 : List SOper := [⟨some 5, .q (.mv (.c (.int .i64 0))), none⟩]
def c44_7 : List SOper := [⟨some 11, .q (.mv (.t 5)), none⟩, ⟨some 12, .q (.mv (.t 0)), none⟩, ⟨some 13, .q (.len (.t 12)), none⟩, ⟨some 14, .q (.bin .lss (.t 11) (.t 13)), none⟩]
def c44_8 : SCode := .cond (.t 14) .skip (.exit 0)
def c44_9 : SCode := .seq (.region c44_7 [0, 1, 5, 14]) c44_8
def c44_10 : List SOper := [⟨some 17, .q (.mv (.t 0)), none⟩, ⟨some 18, .q (.mv (.t 5)), none⟩, ⟨some 19, .q (.ia 2 (.t 17) (.t 18)), none⟩, ⟨some 20, .q (.ldn 2 (.t 19)), none⟩, ⟨some 21, .q (.mv (.t 1)), none⟩, ⟨some 22, .q (.mv (.t 5)), none⟩, ⟨some 23, .q (.ia 2 (.t 21) (.t 22)), none⟩, ⟨some 24, .q (.ldn 2 (.t 23)), none⟩, ⟨some 25, .e (.call 79 [(.t 20), (.t 24)]), none⟩, ⟨some 26, .q (.not (.t 25)), none⟩]
def c44_11 : List SOper := [⟨some 4, .q (.mv (.c (.bool false))), none⟩]
def c44_12 : SCode := .seq (.region c44_11 [4]) .ret
def c44_13 : SCode := .cond (.t 26) c44_12 .skip
def c44_14 : SCode := .seq (.region c44_10 [0, 1, 5, 26]) c44_13
def c44_15 : SCode := .block 1 c44_14
def c44_16 : List SOper := [⟨some 15, .q (.mv (.t 5)), none⟩, ⟨some 16, .q (.bin .add (.t 15) (.c (.int .i64 1))), none⟩, ⟨some 5, .q (.mv (.t 16)), none⟩]
def c44_17 : SCode := .seq c44_15 (.region c44_16 [0, 1, 5])
def c44_18 : SCode := .seq c44_9 c44_17
def c44_19 : SCode := .loop c44_18
def c44_20 : SCode := .block 0 c44_19
def c44_21 : SCode := .seq (.region c44_6 [0, 1, 5]) c44_20
def c44_22 : List SOper := [⟨some 4, .q (.mv (.c (.bool true))), none⟩]
def c44_23 : SCode := .seq (.region c44_22 [4]) .ret
def c44_24 : SCode := .seq c44_21 c44_23
def c44_25 : SCode := .seq c44_5 c44_24
def c44_26 : SCode := .seq (.region c44_0 [0, 1]) c44_25
def c44 : SCode := c44_26
theorem w44 : type_of% (And.intro (uR Try.prog c44_0.eq_1) (And.intro (uR Try.prog c44_1.eq_1) (And.intro (uR Try.prog c44_2.eq_1) (And.intro (uC Try.prog c44_3.eq_1) (And.intro (uC Try.prog c44_4.eq_1) (And.intro (uC Try.prog c44_5.eq_1) (And.intro (uR Try.prog c44_6.eq_1) (And.intro (uR Try.prog c44_7.eq_1) (And.intro (uC Try.prog c44_8.eq_1) (And.intro (uC Try.prog c44_9.eq_1) (And.intro (uR Try.prog c44_10.eq_1) (And.intro (uR Try.prog c44_11.eq_1) (And.intro (uC Try.prog c44_12.eq_1) (And.intro (uC Try.prog c44_13.eq_1) (And.intro (uC Try.prog c44_14.eq_1) (And.intro (uC Try.prog c44_15.eq_1) (And.intro (uR Try.prog c44_16.eq_1) (And.intro (uC Try.prog c44_17.eq_1) (And.intro (uC Try.prog c44_18.eq_1) (And.intro (uC Try.prog c44_19.eq_1) (And.intro (uC Try.prog c44_20.eq_1) (And.intro (uC Try.prog c44_21.eq_1) (And.intro (uR Try.prog c44_22.eq_1) (And.intro (uC Try.prog c44_23.eq_1) (And.intro (uC Try.prog c44_24.eq_1) (And.intro (uC Try.prog c44_25.eq_1) (And.intro (uC Try.prog c44_26.eq_1) (uC Try.prog c44.eq_1)))))))))))))))))))))))))))) := (And.intro (uR Try.prog c44_0.eq_1) (And.intro (uR Try.prog c44_1.eq_1) (And.intro (uR Try.prog c44_2.eq_1) (And.intro (uC Try.prog c44_3.eq_1) (And.intro (uC Try.prog c44_4.eq_1) (And.intro (uC Try.prog c44_5.eq_1) (And.intro (uR Try.prog c44_6.eq_1) (And.intro (uR Try.prog c44_7.eq_1) (And.intro (uC Try.prog c44_8.eq_1) (And.intro (uC Try.prog c44_9.eq_1) (And.intro (uR Try.prog c44_10.eq_1) (And.intro (uR Try.prog c44_11.eq_1) (And.intro (uC Try.prog c44_12.eq_1) (And.intro (uC Try.prog c44_13.eq_1) (And.intro (uC Try.prog c44_14.eq_1) (And.intro (uC Try.prog c44_15.eq_1) (And.intro (uR Try.prog c44_16.eq_1) (And.intro (uC Try.prog c44_17.eq_1) (And.intro (uC Try.prog c44_18.eq_1) (And.intro (uC Try.prog c44_19.eq_1) (And.intro (uC Try.prog c44_20.eq_1) (And.intro (uC Try.prog c44_21.eq_1) (And.intro (uR Try.prog c44_22.eq_1) (And.intro (uC Try.prog c44_23.eq_1) (And.intro (uC Try.prog c44_24.eq_1) (And.intro (uC Try.prog c44_25.eq_1) (And.intro (uC Try.prog c44_26.eq_1) (uC Try.prog c44.eq_1))))))))))))))))))))))))))))
def v44 : List RV := [.t 4]
theorem s44 : slimF Try.prog Try.f44 = some (c44.bare, v44) := by kernel_rfl
/-! 79 loop.example/g00066/laws.eqKey: parameters 2, live [0, 1], slots [0:a, 1:b, 2:a, 3:b] -/
def c79_0 : List SOper := [⟨some 2, .a (.box (.t 0)), none⟩, ⟨some 3, .a (.box (.t 1)), none⟩, ⟨some 4, .q (.mv (.c (.bool false))), none⟩]
def c79_1 : List SOper := [⟨some 5, .q (.fa 0 (.t 2)), none⟩, ⟨some 6, .q (.ld (.t 5)), none⟩, ⟨some 7, .q (.fa 0 (.t 3)), none⟩, ⟨some 8, .q (.ld (.t 7)), none⟩, ⟨some 9, .q (.bin .neq (.t 6) (.t 8)), none⟩]
def c79_2 : List SOper := [⟨some 4, .q (.mv (.c (.bool false))), none⟩]
def c79_3 : SCode := .seq (.region c79_2 [4]) .ret
def c79_4 : SCode := .cond (.t 9) c79_3 .skip
def c79_5 : SCode := .seq (.region c79_1 [2, 3, 9]) c79_4
def c79_6 : List SOper := [⟨some 10, .q (.fa 1 (.t 2)), none⟩, ⟨some 11, .q (.ld (.t 10)), none⟩, ⟨some 12, .q (.fa 1 (.t 3)), none⟩, ⟨some 13, .q (.ld (.t 12)), none⟩, ⟨some 14, .q (.bin .neq (.t 11) (.t 13)), none⟩]
def c79_7 : List SOper := [⟨some 4, .q (.mv (.c (.bool false))), none⟩]
def c79_8 : SCode := .seq (.region c79_7 [4]) .ret
def c79_9 : SCode := .cond (.t 14) c79_8 .skip
def c79_10 : SCode := .seq (.region c79_6 [14]) c79_9
def c79_11 : List SOper := [⟨some 4, .q (.mv (.c (.bool true))), none⟩]
def c79_12 : SCode := .seq (.region c79_11 [4]) .ret
def c79_13 : SCode := .seq c79_10 c79_12
def c79_14 : SCode := .seq c79_5 c79_13
def c79_15 : SCode := .seq (.region c79_0 [2, 3]) c79_14
def c79 : SCode := c79_15
theorem w79 : type_of% (And.intro (uR Try.prog c79_0.eq_1) (And.intro (uR Try.prog c79_1.eq_1) (And.intro (uR Try.prog c79_2.eq_1) (And.intro (uC Try.prog c79_3.eq_1) (And.intro (uC Try.prog c79_4.eq_1) (And.intro (uC Try.prog c79_5.eq_1) (And.intro (uR Try.prog c79_6.eq_1) (And.intro (uR Try.prog c79_7.eq_1) (And.intro (uC Try.prog c79_8.eq_1) (And.intro (uC Try.prog c79_9.eq_1) (And.intro (uC Try.prog c79_10.eq_1) (And.intro (uR Try.prog c79_11.eq_1) (And.intro (uC Try.prog c79_12.eq_1) (And.intro (uC Try.prog c79_13.eq_1) (And.intro (uC Try.prog c79_14.eq_1) (And.intro (uC Try.prog c79_15.eq_1) (uC Try.prog c79.eq_1))))))))))))))))) := (And.intro (uR Try.prog c79_0.eq_1) (And.intro (uR Try.prog c79_1.eq_1) (And.intro (uR Try.prog c79_2.eq_1) (And.intro (uC Try.prog c79_3.eq_1) (And.intro (uC Try.prog c79_4.eq_1) (And.intro (uC Try.prog c79_5.eq_1) (And.intro (uR Try.prog c79_6.eq_1) (And.intro (uR Try.prog c79_7.eq_1) (And.intro (uC Try.prog c79_8.eq_1) (And.intro (uC Try.prog c79_9.eq_1) (And.intro (uC Try.prog c79_10.eq_1) (And.intro (uR Try.prog c79_11.eq_1) (And.intro (uC Try.prog c79_12.eq_1) (And.intro (uC Try.prog c79_13.eq_1) (And.intro (uC Try.prog c79_14.eq_1) (And.intro (uC Try.prog c79_15.eq_1) (uC Try.prog c79.eq_1)))))))))))))))))
def v79 : List RV := [.t 4]
theorem s79 : slimF Try.prog Try.f79 = some (c79.bare, v79) := by kernel_rfl
/-! 45 loop.example/g00066/laws.markKeyS: parameters 2, live [0, 1], slots [0:a, 1:k, 2:a, 3:k, 5:i] -/
def c45_0 : List SOper := [⟨some 4, .q (.mv (.c (.int .i64 0))), none⟩]
def c45_1 : List SOper := [⟨some 5, .q (.mv (.c (.int .i64 0))), none⟩]
def c45_2 : List SOper := [⟨some 6, .q (.mv (.t 5)), none⟩, ⟨some 7, .q (.mv (.t 0)), none⟩, ⟨some 8, .q (.len (.t 7)), none⟩, ⟨some 9, .q (.bin .lss (.t 6) (.t 8)), none⟩]
def c45_3 : SCode := .cond (.t 9) .skip (.exit 0)
def c45_4 : SCode := .seq (.region c45_2 [0, 1, 5, 9]) c45_3
def c45_5 : List SOper := [⟨some 12, .q (.mv (.t 0)), none⟩, ⟨some 13, .q (.mv (.t 5)), none⟩, ⟨some 14, .q (.mv (.t 1)), none⟩, ⟨some 15, .q (.ia 2 (.t 12) (.t 13)), none⟩, ⟨some 16, .q (.fa 0 (.t 15)), none⟩, ⟨none, .e (.st 1 (.t 16) (.t 14)), none⟩]
def c45_6 : List SOper := [⟨some 17, .q (.mv (.t 1)), none⟩, ⟨some 18, .q (.bin .add (.t 17) (.c (.int .i64 1))), none⟩, ⟨some 1, .q (.mv (.t 18)), none⟩]
def c45_7 : List SOper := [⟨some 19, .q (.mv (.t 0)), none⟩, ⟨some 20, .q (.mv (.t 5)), none⟩, ⟨some 21, .q (.mv (.t 1)), none⟩, ⟨some 22, .q (.ia 2 (.t 19) (.t 20)), none⟩, ⟨some 23, .q (.fa 1 (.t 22)), none⟩, ⟨none, .e (.st 1 (.t 23) (.t 21)), none⟩]
def c45_8 : List SOper := [⟨some 24, .q (.mv (.t 1)), none⟩, ⟨some 25, .q (.bin .add (.t 24) (.c (.int .i64 1))), none⟩, ⟨some 1, .q (.mv (.t 25)), none⟩]
def c45_9 : SCode := .seq (.region c45_7 [0, 1, 5]) (.region c45_8 [0, 1, 5])
def c45_10 : SCode := .seq (.region c45_6 [0, 1, 5]) c45_9
def c45_11 : SCode := .seq (.region c45_5 [0, 1, 5]) c45_10
def c45_12 : SCode := .block 1 c45_11
def c45_13 : List SOper := [⟨some 10, .q (.mv (.t 5)), none⟩, ⟨some 11, .q (.bin .add (.t 10) (.c (.int .i64 1))), none⟩, ⟨some 5, .q (.mv (.t 11)), none⟩]
def c45_14 : SCode := .seq c45_12 (.region c45_13 [0, 1, 5])
def c45_15 : SCode := .seq c45_4 c45_14
def c45_16 : SCode := .loop c45_15
def c45_17 : SCode := .block 0 c45_16
def c45_18 : SCode := .seq (.region c45_1 [0, 1, 5]) c45_17
def c45_19 : List SOper := [⟨some 26, .q (.mv (.t 1)), none⟩, ⟨some 4, .q (.mv (.t 26)), none⟩]
def c45_20 : SCode := .seq (.region c45_19 [4]) .ret
def c45_21 : SCode := .seq c45_18 c45_20
def c45_22 : SCode := .seq (.region c45_0 [0, 1]) c45_21
def c45 : SCode := c45_22
theorem w45 : type_of% (And.intro (uR Try.prog c45_0.eq_1) (And.intro (uR Try.prog c45_1.eq_1) (And.intro (uR Try.prog c45_2.eq_1) (And.intro (uC Try.prog c45_3.eq_1) (And.intro (uC Try.prog c45_4.eq_1) (And.intro (uR Try.prog c45_5.eq_1) (And.intro (uR Try.prog c45_6.eq_1) (And.intro (uR Try.prog c45_7.eq_1) (And.intro (uR Try.prog c45_8.eq_1) (And.intro (uC Try.prog c45_9.eq_1) (And.intro (uC Try.prog c45_10.eq_1) (And.intro (uC Try.prog c45_11.eq_1) (And.intro (uC Try.prog c45_12.eq_1) (And.intro (uR Try.prog c45_13.eq_1) (And.intro (uC Try.prog c45_14.eq_1) (And.intro (uC Try.prog c45_15.eq_1) (And.intro (uC Try.prog c45_16.eq_1) (And.intro (uC Try.prog c45_17.eq_1) (And.intro (uC Try.prog c45_18.eq_1) (And.intro (uR Try.prog c45_19.eq_1) (And.intro (uC Try.prog c45_20.eq_1) (And.intro (uC Try.prog c45_21.eq_1) (And.intro (uC Try.prog c45_22.eq_1) (uC Try.prog c45.eq_1)))))))))))))))))))))))) := (And.intro (uR Try.prog c45_0.eq_1) (And.intro (uR Try.prog c45_1.eq_1) (And.intro (uR Try.prog c45_2.eq_1) (And.intro (uC Try.prog c45_3.eq_1) (And.intro (uC Try.prog c45_4.eq_1) (And.intro (uR Try.prog c45_5.eq_1) (And.intro (uR Try.prog c45_6.eq_1) (And.intro (uR Try.prog c45_7.eq_1) (And.intro (uR Try.prog c45_8.eq_1) (And.intro (uC Try.prog c45_9.eq_1) (And.intro (uC Try.prog c45_10.eq_1) (And.intro (uC Try.prog c45_11.eq_1) (And.intro (uC Try.prog c45_12.eq_1) (And.intro (uR Try.prog c45_13.eq_1) (And.intro (uC Try.prog c45_14.eq_1) (And.intro (uC Try.prog c45_15.eq_1) (And.intro (uC Try.prog c45_16.eq_1) (And.intro (uC Try.prog c45_17.eq_1) (And.intro (uC Try.prog c45_18.eq_1) (And.intro (uR Try.prog c45_19.eq_1) (And.intro (uC Try.prog c45_20.eq_1) (And.intro (uC Try.prog c45_21.eq_1) (And.intro (uC Try.prog c45_22.eq_1) (uC Try.prog c45.eq_1))))))))))))))))))))))))
def v45 : List RV := [.t 4]
theorem s45 : slimF Try.prog Try.f45 = some (c45.bare, v45) := by kernel_rfl

structure Key where
  pos : Int
  to : Int
  deriving DecidableEq
def zKey : Key := ⟨0, 0⟩
def encKey (k : Key) : List Value := [.int .i64 k.pos, .int .i64 k.to]
theorem encKey_len (k : Key) : (encKey k).length = 2 := rfl
theorem toKey_ok (h : Heap) (k : Key) : ACall Try.prog 76 [.agg (encKey k).toArray] h fun r h' => Ext h h' ∧ r = .agg (encKey k).toArray := by
  refine ACall.of Try.func76 s76 (of_decide_eq_true rfl) ?_
  simp (maxSteps := 4000000) (disch := omega) only [ah, am, Nat.reduceEqDiff, reduceCtorEq, Nat.reduceAdd, Nat.reduceLeDiff, Nat.reduceMul, Nat.reduceLT, if_true, if_false, true_and, and_true, and_self, Nat.reduceBEq, QOp.loads, boxO, bslO, buildO, cutL, fillV, putL, w76, v76, encKey]
  exact Ext.more _ _
theorem toKey_ok' (h : Heap) (a b : Int) : ACall Try.prog 76 [.agg [.int .i64 a, .int .i64 b].toArray] h fun r h' => Ext h h' ∧ r = .agg [.int .i64 a, .int .i64 b].toArray := toKey_ok h ⟨a, b⟩
theorem eqKey_ok (h : Heap) (k k' : Key) : ACall Try.prog 79 [.agg (encKey k).toArray, .agg (encKey k').toArray] h
    fun r h' => Ext h h' ∧ r = .bool (decide (k = k')) := by
  obtain ⟨a, b⟩ := k; obtain ⟨a', b'⟩ := k'
  refine ACall.of Try.func79 s79 (of_decide_eq_true rfl) ?_
  simp (maxSteps := 4000000) (disch := omega) only [ah, am, Nat.reduceEqDiff, reduceCtorEq, Nat.reduceAdd, Nat.reduceLeDiff, Nat.reduceMul, Nat.reduceLT, if_true, if_false, true_and, and_true, and_self, Nat.reduceBEq, QOp.loads, boxO, bslO, buildO, cutL, fillV, putL, w79, v79, encKey, stepI_dec]
  repeat' split
  all_goals exact ⟨Ext.more _ _, by simp [*]⟩
theorem szKeyS_ok (h : Heap) (v : Value) (l : List Key) (left : Int) (hs : SlT h encKey 2 v l) (h0 : 0 ≤ left) (h1 : left ≤ 1048576) (hl : l.length ≤ 9223372036854775807) :
    ACall Try.prog 40 [v, .int .i64 left] h fun r h' => h' = h ∧ r = .int .i64 (if left - l.length < 0 then -1 else left - l.length) := by
  refine ACall.of Try.func40 s40 (of_decide_eq_true rfl) ?_
  have R := hs.rules
  have W : IntKind.i64.wrap (left - l.length) = left - l.length := i64e (by omega) (by omega)
  simp (maxSteps := 4000000) (disch := omega) only [ah, am, Nat.reduceEqDiff, reduceCtorEq, Nat.reduceAdd, Nat.reduceLeDiff, Nat.reduceMul, Nat.reduceLT, if_true, if_false, true_and, and_true, and_self, Nat.reduceBEq, QOp.loads, boxO, bslO, buildO, cutL, fillV, putL, w40, v40, R, W, stepI_dec]
  split <;> simp
theorem toKeyS_ok (h : Heap) (v : Value) (l : List Key) (hs : SlT h encKey 2 v l) (hl : l.length ≤ 1048576) :
    ACall Try.prog 42 [v] h fun r h' => Fresh h h' encKey 2 r l := by
  refine ACall.of Try.func42 s42 (of_decide_eq_true rfl) ?_
  have R := hs.rulesN
  simp (maxSteps := 4000000) (disch := omega) only [ah, am, Nat.reduceEqDiff, reduceCtorEq, Nat.reduceAdd, Nat.reduceLeDiff, Nat.reduceMul, Nat.reduceLT, if_true, if_false, true_and, and_true, and_self, Nat.reduceBEq, QOp.loads, boxO, bslO, buildO, cutL, fillV, putL, w42, v42, R, mksV_nat]
  refine SW_loop_up (fun i E' H => ∃ ov, E' = [(0, v), (3, ov), (4, .int .i64 i)] ∧ Fresh h H encKey 2 ov (l.take i ++ List.replicate (l.length - i) zKey)) l.length 0 (by omega)
    ⟨_, rfl, by have := Fresh.newR (sz := 2) h l.length zKey encKey_len (by omega); simpa [encKey, zKey] using this⟩ ?_
  rintro i E' H hi ⟨ov, rfl, F⟩
  have R := (hs.ext F.1).rulesN
  have W : IntKind.i64.wrap ((i : Int) + 1) = ((i + 1 : Nat) : Int) := i64e (by omega) (by omega)
  simp (maxSteps := 4000000) (disch := omega) only [ah, am, Nat.reduceEqDiff, reduceCtorEq, Nat.reduceAdd, Nat.reduceLeDiff, Nat.reduceMul, Nat.reduceLT, if_true, if_false, true_and, and_true, and_self, Nat.reduceBEq, QOp.loads, boxO, bslO, buildO, cutL, fillV, putL, w42, v42, R, W]
  refine stepI.split (fun hp => ?_) (fun hp => ?_)
  · simp (maxSteps := 4000000) (disch := omega) only [ah, am, Nat.reduceEqDiff, reduceCtorEq, Nat.reduceAdd, Nat.reduceLeDiff, Nat.reduceMul, Nat.reduceLT, if_true, if_false, true_and, and_true, and_self, Nat.reduceBEq, QOp.loads, boxO, bslO, buildO, cutL, fillV, putL, w42, v42, R, W]
    refine stepC.of (toKey_ok _ _) ?_
    rintro r H1 ⟨e1, rfl⟩
    have F1 := F.ext e1
    obtain ⟨H2, es, F2, hsz⟩ := F1.set (j := i) (by simp; omega) l[i] rfl
    have R2 := F1.slt.rulesN
    simp only [List.length_append, List.length_take, List.length_replicate] at R2
    simp (maxSteps := 4000000) (disch := omega) only [ah, am, Nat.reduceEqDiff, reduceCtorEq, Nat.reduceAdd, Nat.reduceLeDiff, Nat.reduceMul, Nat.reduceLT, if_true, if_false, true_and, and_true, and_self, Nat.reduceBEq, QOp.loads, boxO, bslO, buildO, cutL, fillV, putL, w42, v42, R2, es, W]
    refine ⟨by omega, _, rfl, ?_⟩
    rw [show List.take (i + 1) l ++ List.replicate (l.length - (i + 1)) zKey = (l.take i ++ List.replicate (l.length - i) zKey).set i l[i] from (take_set_rep l zKey i (by omega)).symm]
    exact F2
  · simp (maxSteps := 4000000) (disch := omega) only [ah, am, Nat.reduceEqDiff, reduceCtorEq, Nat.reduceAdd, Nat.reduceLeDiff, Nat.reduceMul, Nat.reduceLT, if_true, if_false, true_and, and_true, and_self, Nat.reduceBEq, QOp.loads, boxO, bslO, buildO, cutL, fillV, putL, w42, v42, R, W]
    obtain rfl : i = l.length := by omega
    simpa using F
theorem eqKeyS_ok (h : Heap) (v v' : Value) (l l' : List Key) (hs : SlT h encKey 2 v l) (hs' : SlT h encKey 2 v' l') (hl : l.length ≤ 281474976710656) (hl' : l'.length ≤ 281474976710656) :
    ACall Try.prog 44 [v, v'] h fun r h' => Ext h h' ∧ r = .bool (decide (l = l')) := by
  refine ACall.of Try.func44 s44 (of_decide_eq_true rfl) ?_
  have R := hs.rulesN
  have R' := hs'.rulesN
  simp (maxSteps := 4000000) (disch := omega) only [ah, am, Nat.reduceEqDiff, reduceCtorEq, Nat.reduceAdd, Nat.reduceLeDiff, Nat.reduceMul, Nat.reduceLT, if_true, if_false, true_and, and_true, and_self, Nat.reduceBEq, QOp.loads, boxO, bslO, buildO, cutL, fillV, putL, w44, v44, R, R']
  refine stepI.split (fun hp => ?_) (fun hp => ?_)
  rotate_left
  · simp (maxSteps := 4000000) (disch := omega) only [ah, am, Nat.reduceEqDiff, reduceCtorEq, Nat.reduceAdd, Nat.reduceLeDiff, Nat.reduceMul, Nat.reduceLT, if_true, if_false, true_and, and_true, and_self, Nat.reduceBEq, QOp.loads, boxO, bslO, buildO, cutL, fillV, putL, w44, v44]
    exact ⟨Ext.refl h, by rw [decide_eq_false]; rintro rfl; exact hp rfl⟩
  have hll : l.length = l'.length := by omega
  simp (maxSteps := 4000000) (disch := omega) only [ah, am, Nat.reduceEqDiff, reduceCtorEq, Nat.reduceAdd, Nat.reduceLeDiff, Nat.reduceMul, Nat.reduceLT, if_true, if_false, true_and, and_true, and_self, Nat.reduceBEq, QOp.loads, boxO, bslO, buildO, cutL, fillV, putL, w44, v44]
  refine SW_loop_up (fun i E' H => E' = [(0, v), (1, v'), (5, .int .i64 i)] ∧ Ext h H ∧ ∀ j (h1 : j < i) (h2 : j < l.length), l[j] = l'[j]) l.length 0 (by omega)
    ⟨rfl, .refl h, fun j h1 h2 => absurd h1 (by omega)⟩ ?_
  rintro i E' H hi ⟨rfl, e, F⟩
  have R := (hs.ext e).rulesN
  have R' := (hs'.ext e).rulesN
  have W : IntKind.i64.wrap ((i : Int) + 1) = ((i + 1 : Nat) : Int) := i64e (by omega) (by omega)
  simp (maxSteps := 4000000) (disch := omega) only [ah, am, Nat.reduceEqDiff, reduceCtorEq, Nat.reduceAdd, Nat.reduceLeDiff, Nat.reduceMul, Nat.reduceLT, if_true, if_false, true_and, and_true, and_self, Nat.reduceBEq, QOp.loads, boxO, bslO, buildO, cutL, fillV, putL, w44, v44, R, R', W]
  refine stepI.split (fun hp => ?_) (fun hp => ?_)
  · simp (maxSteps := 4000000) (disch := omega) only [ah, am, Nat.reduceEqDiff, reduceCtorEq, Nat.reduceAdd, Nat.reduceLeDiff, Nat.reduceMul, Nat.reduceLT, if_true, if_false, true_and, and_true, and_self, Nat.reduceBEq, QOp.loads, boxO, bslO, buildO, cutL, fillV, putL, w44, v44, R, R', W]
    refine stepC.of (eqKey_ok _ _ _) ?_
    rintro r H1 ⟨e1, rfl⟩
    simp (maxSteps := 4000000) (disch := omega) only [ah, am, Nat.reduceEqDiff, reduceCtorEq, Nat.reduceAdd, Nat.reduceLeDiff, Nat.reduceMul, Nat.reduceLT, if_true, if_false, true_and, and_true, and_self, Nat.reduceBEq, QOp.loads, boxO, bslO, buildO, cutL, fillV, putL, w44, v44, R, R', W]
    refine stepI.split (fun hq => ?_) (fun hq => ?_)
    · simp (maxSteps := 4000000) (disch := omega) only [ah, am, Nat.reduceEqDiff, reduceCtorEq, Nat.reduceAdd, Nat.reduceLeDiff, Nat.reduceMul, Nat.reduceLT, if_true, if_false, true_and, and_true, and_self, Nat.reduceBEq, QOp.loads, boxO, bslO, buildO, cutL, fillV, putL, w44, v44, W]
      exact ⟨by omega, e.trans e1, fun j h1 h2 => by
        by_cases hj : j = i
        · subst hj; exact hq
        · exact F j (by omega) h2⟩
    · simp (maxSteps := 4000000) (disch := omega) only [ah, am, Nat.reduceEqDiff, reduceCtorEq, Nat.reduceAdd, Nat.reduceLeDiff, Nat.reduceMul, Nat.reduceLT, if_true, if_false, true_and, and_true, and_self, Nat.reduceBEq, QOp.loads, boxO, bslO, buildO, cutL, fillV, putL, w44, v44, W]
      exact ⟨e.trans e1, by rw [decide_eq_false]; rintro rfl; exact hq rfl⟩
  · simp (maxSteps := 4000000) (disch := omega) only [ah, am, Nat.reduceEqDiff, reduceCtorEq, Nat.reduceAdd, Nat.reduceLeDiff, Nat.reduceMul, Nat.reduceLT, if_true, if_false, true_and, and_true, and_self, Nat.reduceBEq, QOp.loads, boxO, bslO, buildO, cutL, fillV, putL, w44, v44, R, W]
    refine ⟨e, ?_⟩
    rw [decide_eq_true]
    exact List.ext_getElem hll fun j h1 h2 => F j (by omega) h1
def markKey (k : Int) (n : Nat) : List Key := (List.range n).map fun i : Nat => ⟨k + 2 * (i : Int), k + 2 * (i : Int) + 1⟩
theorem markKeyS_ok (h : Heap) (g : Nat) (v : Value) (l : List Key) (k : Int) (o : OwnT g h encKey 2 v l) (hl : l.length ≤ 1000000000) (hk : 0 ≤ k ∧ k ≤ 1000000000000) :
    ACall Try.prog 45 [v, .int .i64 k] h fun r h' => ExtG g h h' ∧ OwnT g h' encKey 2 v (markKey k l.length) ∧ r = .int .i64 (k + 2 * l.length) := by
  refine ACall.of Try.func45 s45 (of_decide_eq_true rfl) ?_
  have R := o.slt.rulesN
  simp (maxSteps := 4000000) (disch := omega) only [ah, am, Nat.reduceEqDiff, reduceCtorEq, Nat.reduceAdd, Nat.reduceLeDiff, Nat.reduceMul, Nat.reduceLT, if_true, if_false, true_and, and_true, and_self, Nat.reduceBEq, QOp.loads, boxO, bslO, buildO, cutL, fillV, putL, w45, v45, R]
  refine SW_loop_up (fun i E' H => E' = [(0, v), (1, .int .i64 (k + 2 * i)), (5, .int .i64 i)] ∧ ExtG g h H ∧ OwnT g H encKey 2 v (markKey k i ++ l.drop i)) l.length 0 (by omega)
    ⟨by simp, ExtG.refl g h, by simpa [markKey] using o⟩ ?_
  rintro i E' H hi ⟨rfl, e, O⟩
  have hlen : (markKey k i ++ l.drop i).length = l.length := by simp [markKey]; omega
  have R := O.slt.rulesN
  simp only [hlen] at R
  have W : IntKind.i64.wrap ((i : Int) + 1) = ((i + 1 : Nat) : Int) := i64e (by omega) (by omega)
  have W1 : IntKind.i64.wrap (k + 2 * (i : Int) + 1) = k + 2 * (i : Int) + 1 := i64e (by omega) (by omega)
  have W2 : IntKind.i64.wrap (k + 2 * (i : Int) + 1 + 1) = k + 2 * ((i + 1 : Nat) : Int) := i64e (by omega) (by omega)
  simp (maxSteps := 4000000) (disch := omega) only [ah, am, Nat.reduceEqDiff, reduceCtorEq, Nat.reduceAdd, Nat.reduceLeDiff, Nat.reduceMul, Nat.reduceLT, if_true, if_false, true_and, and_true, and_self, Nat.reduceBEq, QOp.loads, boxO, bslO, buildO, cutL, fillV, putL, w45, v45, R, W]
  refine stepI.split (fun hp => ?_) (fun hp => ?_)
  · have hj : i < (markKey k i ++ l.drop i).length := by omega
    obtain ⟨H1, es1, O1, G1, -⟩ := O.setF (j := i) (f := 0) (n := 1) (y := .int .i64 (k + 2 * (i : Int))) (x := ⟨(k + 2 * (i : Int)), ((markKey k i ++ l.drop i)[i]).to⟩) (by simpa using hj) (by simp [encKey, splice, cells_int]) (by omega) rfl (by omega) rfl
    obtain ⟨H2, es2, O2, G2, -⟩ := O1.setF (j := i) (f := 1) (n := 1) (y := .int .i64 (k + 2 * (i : Int) + 1)) (x := ⟨(k + 2 * (i : Int)), (k + 2 * (i : Int) + 1)⟩) (by simpa using hj) (by simp [encKey, splice, cells_int]) (by omega) rfl (by omega) rfl
    simp only [List.set_set] at O2
    simp only [Nat.add_zero] at es1
    simp (maxSteps := 4000000) (disch := omega) only [ah, am, Nat.reduceEqDiff, reduceCtorEq, Nat.reduceAdd, Nat.reduceLeDiff, Nat.reduceMul, Nat.reduceLT, if_true, if_false, true_and, and_true, and_self, Nat.reduceBEq, QOp.loads, boxO, bslO, buildO, cutL, fillV, putL, w45, v45, R, es1, es2, W, W1, W2]
    refine ⟨by omega, ((e.trans G1).trans G2), ?_⟩
    have := mark_step (fun i : Nat => (⟨k + 2 * (i : Int), k + 2 * (i : Int) + 1⟩ : Key)) l i (by omega)
    unfold markKey at O2 ⊢
    rw [← this]; exact O2
  · simp (maxSteps := 4000000) (disch := omega) only [ah, am, Nat.reduceEqDiff, reduceCtorEq, Nat.reduceAdd, Nat.reduceLeDiff, Nat.reduceMul, Nat.reduceLT, if_true, if_false, true_and, and_true, and_self, Nat.reduceBEq, QOp.loads, boxO, bslO, buildO, cutL, fillV, putL, w45, v45]
    obtain rfl : i = l.length := by omega
    exact ⟨e, by simpa using O, rfl⟩
theorem markKeyS_mine {a b : Nat} {h : Heap} {v : Value} {l : List Key} (k : Int) (m : Mine a b h encKey 2 v l) (hl : l.length ≤ 1000000000) (hk : 0 ≤ k ∧ k ≤ 1000000000000) :
    ACall Try.prog 45 [v, .int .i64 k] h fun r h' => Chg a b h h' ∧ Mine a b h' encKey 2 v (markKey k l.length) ∧ r = .int .i64 (k + 2 * l.length) :=
  ACall.mine m (fun g o => markKeyS_ok h g v l k o hl hk) (fun e => by rw [e]; rfl)
end Go.Proofs.Ytbanblghepekdaa
