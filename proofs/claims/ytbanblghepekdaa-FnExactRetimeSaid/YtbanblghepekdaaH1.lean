import Derived.Test.YtbanblghepekdaaProg
import Derived.Test.YtbanblghepekdaaAhT
namespace Go.Proofs.Ytbanblghepekdaa
open Go Go.Ah
set_option linter.unusedSimpArgs false
set_option linter.unusedVariables false
set_option maxRecDepth 10000
set_option maxHeartbeats 4000000
/-! 14 loop.example/g00066/laws.szClipS: parameters 2, live [0, 1], slots [0:a, 1:left, 2:a, 3:left] -/
def c14_0 : List SOper := [⟨some 4, .q (.mv (.c (.int .i64 0))), none⟩]
def c14_1 : List SOper := [⟨some 5, .q (.mv (.t 1)), none⟩, ⟨some 6, .q (.mv (.t 0)), none⟩, ⟨some 7, .q (.len (.t 6)), none⟩, ⟨some 8, .q (.bin .sub (.t 5) (.t 7)), none⟩, ⟨some 1, .q (.mv (.t 8)), none⟩]
def c14_2 : List SOper := [⟨some 9, .q (.mv (.t 1)), none⟩, ⟨some 10, .q (.bin .lss (.t 9) (.c (.int .i64 0))), none⟩]
def c14_3 : List SOper := [⟨some 4, .q (.mv (.c (.int .i64 (-1)))), none⟩]
def c14_4 : SCode := .seq (.region c14_3 [4]) .ret
def c14_5 : SCode := .cond (.t 10) c14_4 .skip
def c14_6 : SCode := .seq (.region c14_2 [1, 10]) c14_5
def c14_7 : List SOper := [⟨some 11, .q (.mv (.t 1)), none⟩, ⟨some 4, .q (.mv (.t 11)), none⟩]
def c14_8 : SCode := .seq (.region c14_7 [4]) .ret
def c14_9 : SCode := .seq c14_6 c14_8
def c14_10 : SCode := .seq (.region c14_1 [1]) c14_9
def c14_11 : SCode := .seq (.region c14_0 [0, 1]) c14_10
def c14 : SCode := c14_11
theorem w14 : type_of% (And.intro (uR Try.prog c14_0.eq_1) (And.intro (uR Try.prog c14_1.eq_1) (And.intro (uR Try.prog c14_2.eq_1) (And.intro (uR Try.prog c14_3.eq_1) (And.intro (uC Try.prog c14_4.eq_1) (And.intro (uC Try.prog c14_5.eq_1) (And.intro (uC Try.prog c14_6.eq_1) (And.intro (uR Try.prog c14_7.eq_1) (And.intro (uC Try.prog c14_8.eq_1) (And.intro (uC Try.prog c14_9.eq_1) (And.intro (uC Try.prog c14_10.eq_1) (And.intro (uC Try.prog c14_11.eq_1) (uC Try.prog c14.eq_1))))))))))))) := (And.intro (uR Try.prog c14_0.eq_1) (And.intro (uR Try.prog c14_1.eq_1) (And.intro (uR Try.prog c14_2.eq_1) (And.intro (uR Try.prog c14_3.eq_1) (And.intro (uC Try.prog c14_4.eq_1) (And.intro (uC Try.prog c14_5.eq_1) (And.intro (uC Try.prog c14_6.eq_1) (And.intro (uR Try.prog c14_7.eq_1) (And.intro (uC Try.prog c14_8.eq_1) (And.intro (uC Try.prog c14_9.eq_1) (And.intro (uC Try.prog c14_10.eq_1) (And.intro (uC Try.prog c14_11.eq_1) (uC Try.prog c14.eq_1)))))))))))))
def v14 : List RV := [.t 4]
theorem s14 : slimF Try.prog Try.f14 = some (c14.bare, v14) := by kernel_rfl
/-! 16 loop.example/g00066/laws.toClipS: parameters 1, live [0], slots [0:a, 1:a, 3:out, 4:i] -/
def c16_0 : List SOper := [⟨some 2, .q (.mv (.c (.slice none 0 0))), none⟩]
def c16_1 : List SOper := [⟨some 5, .q (.mv (.t 0)), none⟩, ⟨some 6, .q (.len (.t 5)), none⟩, ⟨some 7, .a (.mks 24 3 [(.int .i64 0), (.int .i64 0), (.int .i64 0)] (.t 6) (.t 6)), none⟩, ⟨some 3, .q (.mv (.t 7)), none⟩]
def c16_2 : List SOper := [⟨some 4, .q (.mv (.c (.int .i64 0))), none⟩]
def c16_3 : List SOper := [⟨some 8, .q (.mv (.t 4)), none⟩, ⟨some 9, .q (.mv (.t 0)), none⟩, ⟨some 10, .q (.len (.t 9)), none⟩, ⟨some 11, .q (.bin .lss (.t 8) (.t 10)), none⟩]
def c16_4 : SCode := .cond (.t 11) .skip (.exit 0)
def c16_5 : SCode := .seq (.region c16_3 [0, 3, 4, 11]) c16_4
def c16_6 : List SOper := [⟨some 14, .q (.mv (.t 3)), none⟩, ⟨some 15, .q (.mv (.t 4)), none⟩, ⟨some 16, .q (.mv (.t 0)), none⟩, ⟨some 17, .q (.mv (.t 4)), none⟩, ⟨some 18, .q (.ia 3 (.t 16) (.t 17)), none⟩, ⟨some 19, .q (.ldn 3 (.t 18)), none⟩, ⟨some 20, .e (.call 32 [(.t 19)]), none⟩, ⟨some 21, .q (.ia 3 (.t 14) (.t 15)), none⟩, ⟨none, .e (.st 3 (.t 21) (.t 20)), none⟩]
def c16_7 : SCode := .block 1 (.region c16_6 [0, 3, 4])
def c16_8 : List SOper := [⟨some 12, .q (.mv (.t 4)), none⟩, ⟨some 13, .q (.bin .add (.t 12) (.c (.int .i64 1))), none⟩, ⟨some 4, .q (.mv (.t 13)), none⟩]
def c16_9 : SCode := .seq c16_7 (.region c16_8 [0, 3, 4])
def c16_10 : SCode := .seq c16_5 c16_9
def c16_11 : SCode := .loop c16_10
def c16_12 : SCode := .block 0 c16_11
def c16_13 : SCode := .seq (.region c16_2 [0, 3, 4]) c16_12
def c16_14 : List SOper := [⟨some 22, .q (.mv (.t 3)), none⟩, ⟨some 2, .q (.mv (.t 22)), none⟩]
def c16_15 : SCode := .seq (.region c16_14 [2]) .ret
def c16_16 : SCode := .seq c16_13 c16_15
def c16_17 : SCode := .seq (.region c16_1 [0, 3]) c16_16
def c16_18 : SCode := .seq (.region c16_0 [0]) c16_17
def c16 : SCode := c16_18
theorem w16 : type_of% (And.intro (uR Try.prog c16_0.eq_1) (And.intro (uR Try.prog c16_1.eq_1) (And.intro (uR Try.prog c16_2.eq_1) (And.intro (uR Try.prog c16_3.eq_1) (And.intro (uC Try.prog c16_4.eq_1) (And.intro (uC Try.prog c16_5.eq_1) (And.intro (uR Try.prog c16_6.eq_1) (And.intro (uC Try.prog c16_7.eq_1) (And.intro (uR Try.prog c16_8.eq_1) (And.intro (uC Try.prog c16_9.eq_1) (And.intro (uC Try.prog c16_10.eq_1) (And.intro (uC Try.prog c16_11.eq_1) (And.intro (uC Try.prog c16_12.eq_1) (And.intro (uC Try.prog c16_13.eq_1) (And.intro (uR Try.prog c16_14.eq_1) (And.intro (uC Try.prog c16_15.eq_1) (And.intro (uC Try.prog c16_16.eq_1) (And.intro (uC Try.prog c16_17.eq_1) (And.intro (uC Try.prog c16_18.eq_1) (uC Try.prog c16.eq_1)))))))))))))))))))) := (And.intro (uR Try.prog c16_0.eq_1) (And.intro (uR Try.prog c16_1.eq_1) (And.intro (uR Try.prog c16_2.eq_1) (And.intro (uR Try.prog c16_3.eq_1) (And.intro (uC Try.prog c16_4.eq_1) (And.intro (uC Try.prog c16_5.eq_1) (And.intro (uR Try.prog c16_6.eq_1) (And.intro (uC Try.prog c16_7.eq_1) (And.intro (uR Try.prog c16_8.eq_1) (And.intro (uC Try.prog c16_9.eq_1) (And.intro (uC Try.prog c16_10.eq_1) (And.intro (uC Try.prog c16_11.eq_1) (And.intro (uC Try.prog c16_12.eq_1) (And.intro (uC Try.prog c16_13.eq_1) (And.intro (uR Try.prog c16_14.eq_1) (And.intro (uC Try.prog c16_15.eq_1) (And.intro (uC Try.prog c16_16.eq_1) (And.intro (uC Try.prog c16_17.eq_1) (And.intro (uC Try.prog c16_18.eq_1) (uC Try.prog c16.eq_1))))))))))))))))))))
def v16 : List RV := [.t 2]
theorem s16 : slimF Try.prog Try.f16 = some (c16.bare, v16) := by kernel_rfl
/-! 32 loop.example/g00066/laws.toClip: parameters 1, live [0], slots [0:a, 1:a, 3:out] -/
def c32_0 : List SOper := [⟨some 1, .a (.box (.t 0)), none⟩, ⟨some 2, .a (.new [(.int .i64 0), (.int .i64 0), (.int .i64 0)]), none⟩]
def c32_1 : List SOper := [⟨some 3, .a (.new [(.int .i64 0), (.int .i64 0), (.int .i64 0)]), none⟩]
def c32_2 : List SOper := [⟨some 4, .q (.fa 0 (.t 1)), none⟩, ⟨some 5, .q (.ld (.t 4)), none⟩, ⟨some 6, .q (.fa 0 (.t 3)), none⟩, ⟨none, .e (.st 1 (.t 6) (.t 5)), none⟩]
def c32_3 : List SOper := [⟨some 7, .q (.fa 1 (.t 1)), none⟩, ⟨some 8, .q (.ld (.t 7)), none⟩, ⟨some 9, .q (.fa 1 (.t 3)), none⟩, ⟨none, .e (.st 1 (.t 9) (.t 8)), none⟩]
def c32_4 : List SOper := [⟨some 10, .q (.fa 2 (.t 1)), none⟩, ⟨some 11, .q (.ld (.t 10)), none⟩, ⟨some 12, .q (.fa 2 (.t 3)), none⟩, ⟨none, .e (.st 1 (.t 12) (.t 11)), none⟩]
def c32_5 : List SOper := [⟨some 13, .q (.ldn 3 (.t 3)), none⟩, ⟨none, .e (.st 3 (.t 2) (.t 13)), none⟩]
def c32_6 : SCode := .seq (.region c32_5 [2]) .ret
def c32_7 : SCode := .seq (.region c32_4 [2, 3]) c32_6
def c32_8 : SCode := .seq (.region c32_3 [1, 2, 3]) c32_7
def c32_9 : SCode := .seq (.region c32_2 [1, 2, 3]) c32_8
def c32_10 : SCode := .seq (.region c32_1 [1, 2, 3]) c32_9
def c32_11 : SCode := .seq (.region c32_0 [1, 2]) c32_10
def c32 : SCode := c32_11
theorem w32 : type_of% (And.intro (uR Try.prog c32_0.eq_1) (And.intro (uR Try.prog c32_1.eq_1) (And.intro (uR Try.prog c32_2.eq_1) (And.intro (uR Try.prog c32_3.eq_1) (And.intro (uR Try.prog c32_4.eq_1) (And.intro (uR Try.prog c32_5.eq_1) (And.intro (uC Try.prog c32_6.eq_1) (And.intro (uC Try.prog c32_7.eq_1) (And.intro (uC Try.prog c32_8.eq_1) (And.intro (uC Try.prog c32_9.eq_1) (And.intro (uC Try.prog c32_10.eq_1) (And.intro (uC Try.prog c32_11.eq_1) (uC Try.prog c32.eq_1))))))))))))) := (And.intro (uR Try.prog c32_0.eq_1) (And.intro (uR Try.prog c32_1.eq_1) (And.intro (uR Try.prog c32_2.eq_1) (And.intro (uR Try.prog c32_3.eq_1) (And.intro (uR Try.prog c32_4.eq_1) (And.intro (uR Try.prog c32_5.eq_1) (And.intro (uC Try.prog c32_6.eq_1) (And.intro (uC Try.prog c32_7.eq_1) (And.intro (uC Try.prog c32_8.eq_1) (And.intro (uC Try.prog c32_9.eq_1) (And.intro (uC Try.prog c32_10.eq_1) (And.intro (uC Try.prog c32_11.eq_1) (uC Try.prog c32.eq_1)))))))))))))
def v32 : List RV := [.c 2 (some 3)]
theorem s32 : slimF Try.prog Try.f32 = some (c32.bare, v32) := by kernel_rfl
/-! 18 loop.example/g00066/laws.eqClipS: parameters 2, live [0, 1], slots [0:a, 1:b, 2:a, 3:b, 5:i] -/
def c18_0 : List SOper := [⟨some 4, .q (.mv (.c (.bool false))), none⟩]
def c18_1 : List SOper := [⟨some 6, .q (.mv (.t 0)), none⟩, ⟨some 7, .q (.len (.t 6)), none⟩, ⟨some 8, .q (.mv (.t 1)), none⟩, ⟨some 9, .q (.len (.t 8)), none⟩, ⟨some 10, .q (.bin .neq (.t 7) (.t 9)), none⟩]
def c18_2 : List SOper := [⟨some 4, .q (.mv (.c (.bool false))), none⟩]
def c18_3 : SCode := .seq (.region c18_2 [4]) .ret
def c18_4 : SCode := .cond (.t 10) c18_3 .skip
def c18_5 : SCode := .seq (.region c18_1 [0, 1, 10]) c18_4
def c18_6 : List SOper := [⟨some 5, .q (.mv (.c (.int .i64 0))), none⟩]
def c18_7 : List SOper := [⟨some 11, .q (.mv (.t 5)), none⟩, ⟨some 12, .q (.mv (.t 0)), none⟩, ⟨some 13, .q (.len (.t 12)), none⟩, ⟨some 14, .q (.bin .lss (.t 11) (.t 13)), none⟩]
def c18_8 : SCode := .cond (.t 14) .skip (.exit 0)
def c18_9 : SCode := .seq (.region c18_7 [0, 1, 5, 14]) c18_8
def c18_10 : List SOper := [⟨some 17, .q (.mv (.t 0)), none⟩, ⟨some 18, .q (.mv (.t 5)), none⟩, ⟨some 19, .q (.ia 3 (.t 17) (.t 18)), none⟩, ⟨some 20, .q (.ldn 3 (.t 19)), none⟩, ⟨some 21, .q (.mv (.t 1)), none⟩, ⟨some 22, .q (.mv (.t 5)), none⟩, ⟨some 23, .q (.ia 3 (.t 21) (.t 22)), none⟩, ⟨some 24, .q (.ldn 3 (.t 23)), none⟩, ⟨some 25, .e (.call 52 [(.t 20), (.t 24)]), none⟩, ⟨some 26, .q (.not (.t 25)), none⟩]
def c18_11 : List SOper := [⟨some 4, .q (.mv (.c (.bool false))), none⟩]
def c18_12 : SCode := .seq (.region c18_11 [4]) .ret
def c18_13 : SCode := .cond (.t 26) c18_12 .skip
def c18_14 : SCode := .seq (.region c18_10 [0, 1, 5, 26]) c18_13
def c18_15 : SCode := .block 1 c18_14
def c18_16 : List SOper := [⟨some 15, .q (.mv (.t 5)), none⟩, ⟨some 16, .q (.bin .add (.t 15) (.c (.int .i64 1))), none⟩, ⟨some 5, .q (.mv (.t 16)), none⟩]
def c18_17 : SCode := .seq c18_15 (.region c18_16 [0, 1, 5])
def c18_18 : SCode := .seq c18_9 c18_17
def c18_19 : SCode := .loop c18_18
def c18_20 : SCode := .block 0 c18_19
def c18_21 : SCode := .seq (.region c18_6 [0, 1, 5]) c18_20
def c18_22 : List SOper := [⟨some 4, .q (.mv (.c (.bool true))), none⟩]
def c18_23 : SCode := .seq (.region c18_22 [4]) .ret
def c18_24 : SCode := .seq c18_21 c18_23
def c18_25 : SCode := .seq c18_5 c18_24
def c18_26 : SCode := .seq (.region c18_0 [0, 1]) c18_25
def c18 : SCode := c18_26
theorem w18 : type_of% (And.intro (uR Try.prog c18_0.eq_1) (And.intro (uR Try.prog c18_1.eq_1) (And.intro (uR Try.prog c18_2.eq_1) (And.intro (uC Try.prog c18_3.eq_1) (And.intro (uC Try.prog c18_4.eq_1) (And.intro (uC Try.prog c18_5.eq_1) (And.intro (uR Try.prog c18_6.eq_1) (And.intro (uR Try.prog c18_7.eq_1) (And.intro (uC Try.prog c18_8.eq_1) (And.intro (uC Try.prog c18_9.eq_1) (And.intro (uR Try.prog c18_10.eq_1) (And.intro (uR Try.prog c18_11.eq_1) (And.intro (uC Try.prog c18_12.eq_1) (And.intro (uC Try.prog c18_13.eq_1) (And.intro (uC Try.prog c18_14.eq_1) (And.intro (uC Try.prog c18_15.eq_1) (And.intro (uR Try.prog c18_16.eq_1) (And.intro (uC Try.prog c18_17.eq_1) (And.intro (uC Try.prog c18_18.eq_1) (And.intro (uC Try.prog c18_19.eq_1) (And.intro (uC Try.prog c18_20.eq_1) (And.intro (uC Try.prog c18_21.eq_1) (And.intro (uR Try.prog c18_22.eq_1) (And.intro (uC Try.prog c18_23.eq_1) (And.intro (uC Try.prog c18_24.eq_1) (And.intro (uC Try.prog c18_25.eq_1) (And.intro (uC Try.prog c18_26.eq_1) (uC Try.prog c18.eq_1)))))))))))))))))))))))))))) := (And.intro (uR Try.prog c18_0.eq_1) (And.intro (uR Try.prog c18_1.eq_1) (And.intro (uR Try.prog c18_2.eq_1) (And.intro (uC Try.prog c18_3.eq_1) (And.intro (uC Try.prog c18_4.eq_1) (And.intro (uC Try.prog c18_5.eq_1) (And.intro (uR Try.prog c18_6.eq_1) (And.intro (uR Try.prog c18_7.eq_1) (And.intro (uC Try.prog c18_8.eq_1) (And.intro (uC Try.prog c18_9.eq_1) (And.intro (uR Try.prog c18_10.eq_1) (And.intro (uR Try.prog c18_11.eq_1) (And.intro (uC Try.prog c18_12.eq_1) (And.intro (uC Try.prog c18_13.eq_1) (And.intro (uC Try.prog c18_14.eq_1) (And.intro (uC Try.prog c18_15.eq_1) (And.intro (uR Try.prog c18_16.eq_1) (And.intro (uC Try.prog c18_17.eq_1) (And.intro (uC Try.prog c18_18.eq_1) (And.intro (uC Try.prog c18_19.eq_1) (And.intro (uC Try.prog c18_20.eq_1) (And.intro (uC Try.prog c18_21.eq_1) (And.intro (uR Try.prog c18_22.eq_1) (And.intro (uC Try.prog c18_23.eq_1) (And.intro (uC Try.prog c18_24.eq_1) (And.intro (uC Try.prog c18_25.eq_1) (And.intro (uC Try.prog c18_26.eq_1) (uC Try.prog c18.eq_1))))))))))))))))))))))))))))
def v18 : List RV := [.t 4]
theorem s18 : slimF Try.prog Try.f18 = some (c18.bare, v18) := by kernel_rfl
/-! 52 loop.example/g00066/laws.eqClip: parameters 2, live [0, 1], slots [0:a, 1:b, 2:a, 3:b] -/
def c52_0 : List SOper := [⟨some 2, .a (.box (.t 0)), none⟩, ⟨some 3, .a (.box (.t 1)), none⟩, ⟨some 4, .q (.mv (.c (.bool false))), none⟩]
def c52_1 : List SOper := [⟨some 5, .q (.fa 0 (.t 2)), none⟩, ⟨some 6, .q (.ld (.t 5)), none⟩, ⟨some 7, .q (.fa 0 (.t 3)), none⟩, ⟨some 8, .q (.ld (.t 7)), none⟩, ⟨some 9, .q (.bin .neq (.t 6) (.t 8)), none⟩]
def c52_2 : List SOper := [⟨some 4, .q (.mv (.c (.bool false))), none⟩]
def c52_3 : SCode := .seq (.region c52_2 [4]) .ret
def c52_4 : SCode := .cond (.t 9) c52_3 .skip
def c52_5 : SCode := .seq (.region c52_1 [2, 3, 9]) c52_4
def c52_6 : List SOper := [⟨some 10, .q (.fa 1 (.t 2)), none⟩, ⟨some 11, .q (.ld (.t 10)), none⟩, ⟨some 12, .q (.fa 1 (.t 3)), none⟩, ⟨some 13, .q (.ld (.t 12)), none⟩, ⟨some 14, .q (.bin .neq (.t 11) (.t 13)), none⟩]
def c52_7 : List SOper := [⟨some 4, .q (.mv (.c (.bool false))), none⟩]
def c52_8 : SCode := .seq (.region c52_7 [4]) .ret
def c52_9 : SCode := .cond (.t 14) c52_8 .skip
def c52_10 : SCode := .seq (.region c52_6 [2, 3, 14]) c52_9
def c52_11 : List SOper := [⟨some 15, .q (.fa 2 (.t 2)), none⟩, ⟨some 16, .q (.ld (.t 15)), none⟩, ⟨some 17, .q (.fa 2 (.t 3)), none⟩, ⟨some 18, .q (.ld (.t 17)), none⟩, ⟨some 19, .q (.bin .neq (.t 16) (.t 18)), none⟩]
def c52_12 : List SOper := [⟨some 4, .q (.mv (.c (.bool false))), none⟩]
def c52_13 : SCode := .seq (.region c52_12 [4]) .ret
def c52_14 : SCode := .cond (.t 19) c52_13 .skip
def c52_15 : SCode := .seq (.region c52_11 [19]) c52_14
def c52_16 : List SOper := [⟨some 4, .q (.mv (.c (.bool true))), none⟩]
def c52_17 : SCode := .seq (.region c52_16 [4]) .ret
def c52_18 : SCode := .seq c52_15 c52_17
def c52_19 : SCode := .seq c52_10 c52_18
def c52_20 : SCode := .seq c52_5 c52_19
def c52_21 : SCode := .seq (.region c52_0 [2, 3]) c52_20
def c52 : SCode := c52_21
theorem w52 : type_of% (And.intro (uR Try.prog c52_0.eq_1) (And.intro (uR Try.prog c52_1.eq_1) (And.intro (uR Try.prog c52_2.eq_1) (And.intro (uC Try.prog c52_3.eq_1) (And.intro (uC Try.prog c52_4.eq_1) (And.intro (uC Try.prog c52_5.eq_1) (And.intro (uR Try.prog c52_6.eq_1) (And.intro (uR Try.prog c52_7.eq_1) (And.intro (uC Try.prog c52_8.eq_1) (And.intro (uC Try.prog c52_9.eq_1) (And.intro (uC Try.prog c52_10.eq_1) (And.intro (uR Try.prog c52_11.eq_1) (And.intro (uR Try.prog c52_12.eq_1) (And.intro (uC Try.prog c52_13.eq_1) (And.intro (uC Try.prog c52_14.eq_1) (And.intro (uC Try.prog c52_15.eq_1) (And.intro (uR Try.prog c52_16.eq_1) (And.intro (uC Try.prog c52_17.eq_1) (And.intro (uC Try.prog c52_18.eq_1) (And.intro (uC Try.prog c52_19.eq_1) (And.intro (uC Try.prog c52_20.eq_1) (And.intro (uC Try.prog c52_21.eq_1) (uC Try.prog c52.eq_1))))))))))))))))))))))) := (And.intro (uR Try.prog c52_0.eq_1) (And.intro (uR Try.prog c52_1.eq_1) (And.intro (uR Try.prog c52_2.eq_1) (And.intro (uC Try.prog c52_3.eq_1) (And.intro (uC Try.prog c52_4.eq_1) (And.intro (uC Try.prog c52_5.eq_1) (And.intro (uR Try.prog c52_6.eq_1) (And.intro (uR Try.prog c52_7.eq_1) (And.intro (uC Try.prog c52_8.eq_1) (And.intro (uC Try.prog c52_9.eq_1) (And.intro (uC Try.prog c52_10.eq_1) (And.intro (uR Try.prog c52_11.eq_1) (And.intro (uR Try.prog c52_12.eq_1) (And.intro (uC Try.prog c52_13.eq_1) (And.intro (uC Try.prog c52_14.eq_1) (And.intro (uC Try.prog c52_15.eq_1) (And.intro (uR Try.prog c52_16.eq_1) (And.intro (uC Try.prog c52_17.eq_1) (And.intro (uC Try.prog c52_18.eq_1) (And.intro (uC Try.prog c52_19.eq_1) (And.intro (uC Try.prog c52_20.eq_1) (And.intro (uC Try.prog c52_21.eq_1) (uC Try.prog c52.eq_1)))))))))))))))))))))))
def v52 : List RV := [.t 4]
theorem s52 : slimF Try.prog Try.f52 = some (c52.bare, v52) := by kernel_rfl
/-! 19 loop.example/g00066/laws.markClipS: parameters 2, live [0, 1], slots [0:a, 1:k, 2:a, 3:k, 5:i] -/
def c19_0 : List SOper := [⟨some 4, .q (.mv (.c (.int .i64 0))), none⟩]
def c19_1 : List SOper := [⟨some 5, .q (.mv (.c (.int .i64 0))), none⟩]
def c19_2 : List SOper := [⟨some 6, .q (.mv (.t 5)), none⟩, ⟨some 7, .q (.mv (.t 0)), none⟩, ⟨some 8, .q (.len (.t 7)), none⟩, ⟨some 9, .q (.bin .lss (.t 6) (.t 8)), none⟩]
def c19_3 : SCode := .cond (.t 9) .skip (.exit 0)
def c19_4 : SCode := .seq (.region c19_2 [0, 1, 5, 9]) c19_3
def c19_5 : List SOper := [⟨some 12, .q (.mv (.t 0)), none⟩, ⟨some 13, .q (.mv (.t 5)), none⟩, ⟨some 14, .q (.mv (.t 1)), none⟩, ⟨some 15, .q (.ia 3 (.t 12) (.t 13)), none⟩, ⟨some 16, .q (.fa 0 (.t 15)), none⟩, ⟨none, .e (.st 1 (.t 16) (.t 14)), none⟩]
def c19_6 : List SOper := [⟨some 17, .q (.mv (.t 1)), none⟩, ⟨some 18, .q (.bin .add (.t 17) (.c (.int .i64 1))), none⟩, ⟨some 1, .q (.mv (.t 18)), none⟩]
def c19_7 : List SOper := [⟨some 19, .q (.mv (.t 0)), none⟩, ⟨some 20, .q (.mv (.t 5)), none⟩, ⟨some 21, .q (.mv (.t 1)), none⟩, ⟨some 22, .q (.ia 3 (.t 19) (.t 20)), none⟩, ⟨some 23, .q (.fa 1 (.t 22)), none⟩, ⟨none, .e (.st 1 (.t 23) (.t 21)), none⟩]
def c19_8 : List SOper := [⟨some 24, .q (.mv (.t 1)), none⟩, ⟨some 25, .q (.bin .add (.t 24) (.c (.int .i64 1))), none⟩, ⟨some 1, .q (.mv (.t 25)), none⟩]
def c19_9 : List SOper := [⟨some 26, .q (.mv (.t 0)), none⟩, ⟨some 27, .q (.mv (.t 5)), none⟩, ⟨some 28, .q (.mv (.t 1)), none⟩, ⟨some 29, .q (.ia 3 (.t 26) (.t 27)), none⟩, ⟨some 30, .q (.fa 2 (.t 29)), none⟩, ⟨none, .e (.st 1 (.t 30) (.t 28)), none⟩]
def c19_10 : List SOper := [⟨some 31, .q (.mv (.t 1)), none⟩, ⟨some 32, .q (.bin .add (.t 31) (.c (.int .i64 1))), none⟩, ⟨some 1, .q (.mv (.t 32)), none⟩]
def c19_11 : SCode := .seq (.region c19_9 [0, 1, 5]) (.region c19_10 [0, 1, 5])
def c19_12 : SCode := .seq (.region c19_8 [0, 1, 5]) c19_11
def c19_13 : SCode := .seq (.region c19_7 [0, 1, 5]) c19_12
def c19_14 : SCode := .seq (.region c19_6 [0, 1, 5]) c19_13
def c19_15 : SCode := .seq (.region c19_5 [0, 1, 5]) c19_14
def c19_16 : SCode := .block 1 c19_15
def c19_17 : List SOper := [⟨some 10, .q (.mv (.t 5)), none⟩, ⟨some 11, .q (.bin .add (.t 10) (.c (.int .i64 1))), none⟩, ⟨some 5, .q (.mv (.t 11)), none⟩]
def c19_18 : SCode := .seq c19_16 (.region c19_17 [0, 1, 5])
def c19_19 : SCode := .seq c19_4 c19_18
def c19_20 : SCode := .loop c19_19
def c19_21 : SCode := .block 0 c19_20
def c19_22 : SCode := .seq (.region c19_1 [0, 1, 5]) c19_21
def c19_23 : List SOper := [⟨some 33, .q (.mv (.t 1)), none⟩, ⟨some 4, .q (.mv (.t 33)), none⟩]
def c19_24 : SCode := .seq (.region c19_23 [4]) .ret
def c19_25 : SCode := .seq c19_22 c19_24
def c19_26 : SCode := .seq (.region c19_0 [0, 1]) c19_25
def c19 : SCode := c19_26
theorem w19 : type_of% (And.intro (uR Try.prog c19_0.eq_1) (And.intro (uR Try.prog c19_1.eq_1) (And.intro (uR Try.prog c19_2.eq_1) (And.intro (uC Try.prog c19_3.eq_1) (And.intro (uC Try.prog c19_4.eq_1) (And.intro (uR Try.prog c19_5.eq_1) (And.intro (uR Try.prog c19_6.eq_1) (And.intro (uR Try.prog c19_7.eq_1) (And.intro (uR Try.prog c19_8.eq_1) (And.intro (uR Try.prog c19_9.eq_1) (And.intro (uR Try.prog c19_10.eq_1) (And.intro (uC Try.prog c19_11.eq_1) (And.intro (uC Try.prog c19_12.eq_1) (And.intro (uC Try.prog c19_13.eq_1) (And.intro (uC Try.prog c19_14.eq_1) (And.intro (uC Try.prog c19_15.eq_1) (And.intro (uC Try.prog c19_16.eq_1) (And.intro (uR Try.prog c19_17.eq_1) (And.intro (uC Try.prog c19_18.eq_1) (And.intro (uC Try.prog c19_19.eq_1) (And.intro (uC Try.prog c19_20.eq_1) (And.intro (uC Try.prog c19_21.eq_1) (And.intro (uC Try.prog c19_22.eq_1) (And.intro (uR Try.prog c19_23.eq_1) (And.intro (uC Try.prog c19_24.eq_1) (And.intro (uC Try.prog c19_25.eq_1) (And.intro (uC Try.prog c19_26.eq_1) (uC Try.prog c19.eq_1)))))))))))))))))))))))))))) := (And.intro (uR Try.prog c19_0.eq_1) (And.intro (uR Try.prog c19_1.eq_1) (And.intro (uR Try.prog c19_2.eq_1) (And.intro (uC Try.prog c19_3.eq_1) (And.intro (uC Try.prog c19_4.eq_1) (And.intro (uR Try.prog c19_5.eq_1) (And.intro (uR Try.prog c19_6.eq_1) (And.intro (uR Try.prog c19_7.eq_1) (And.intro (uR Try.prog c19_8.eq_1) (And.intro (uR Try.prog c19_9.eq_1) (And.intro (uR Try.prog c19_10.eq_1) (And.intro (uC Try.prog c19_11.eq_1) (And.intro (uC Try.prog c19_12.eq_1) (And.intro (uC Try.prog c19_13.eq_1) (And.intro (uC Try.prog c19_14.eq_1) (And.intro (uC Try.prog c19_15.eq_1) (And.intro (uC Try.prog c19_16.eq_1) (And.intro (uR Try.prog c19_17.eq_1) (And.intro (uC Try.prog c19_18.eq_1) (And.intro (uC Try.prog c19_19.eq_1) (And.intro (uC Try.prog c19_20.eq_1) (And.intro (uC Try.prog c19_21.eq_1) (And.intro (uC Try.prog c19_22.eq_1) (And.intro (uR Try.prog c19_23.eq_1) (And.intro (uC Try.prog c19_24.eq_1) (And.intro (uC Try.prog c19_25.eq_1) (And.intro (uC Try.prog c19_26.eq_1) (uC Try.prog c19.eq_1))))))))))))))))))))))))))))
def v19 : List RV := [.t 4]
theorem s19 : slimF Try.prog Try.f19 = some (c19.bare, v19) := by kernel_rfl
/-! 20 loop.example/g00066/laws.heldClipS: parameters 2, live [0, 1], slots [0:a, 1:k, 2:a, 3:k, 5:i] -/
def c20_0 : List SOper := [⟨some 4, .q (.mv (.c (.int .i64 0))), none⟩]
def c20_1 : List SOper := [⟨some 5, .q (.mv (.c (.int .i64 0))), none⟩]
def c20_2 : List SOper := [⟨some 6, .q (.mv (.t 5)), none⟩, ⟨some 7, .q (.mv (.t 0)), none⟩, ⟨some 8, .q (.len (.t 7)), none⟩, ⟨some 9, .q (.bin .lss (.t 6) (.t 8)), none⟩]
def c20_3 : SCode := .cond (.t 9) .skip (.exit 0)
def c20_4 : SCode := .seq (.region c20_2 [0, 1, 5, 9]) c20_3
def c20_5 : List SOper := [⟨some 12, .q (.mv (.t 0)), none⟩, ⟨some 13, .q (.mv (.t 5)), none⟩, ⟨some 14, .q (.ia 3 (.t 12) (.t 13)), none⟩, ⟨some 15, .q (.fa 0 (.t 14)), none⟩, ⟨some 16, .q (.ld (.t 15)), none⟩, ⟨some 17, .q (.mv (.t 1)), none⟩, ⟨some 18, .q (.bin .neq (.t 16) (.t 17)), none⟩]
def c20_6 : List SOper := [⟨some 4, .q (.mv (.c (.int .i64 (-1)))), none⟩]
def c20_7 : SCode := .seq (.region c20_6 [4]) .ret
def c20_8 : SCode := .cond (.t 18) c20_7 .skip
def c20_9 : SCode := .seq (.region c20_5 [0, 1, 5, 18]) c20_8
def c20_10 : List SOper := [⟨some 19, .q (.mv (.t 1)), none⟩, ⟨some 20, .q (.bin .add (.t 19) (.c (.int .i64 1))), none⟩, ⟨some 1, .q (.mv (.t 20)), none⟩]
def c20_11 : List SOper := [⟨some 21, .q (.mv (.t 0)), none⟩, ⟨some 22, .q (.mv (.t 5)), none⟩, ⟨some 23, .q (.ia 3 (.t 21) (.t 22)), none⟩, ⟨some 24, .q (.fa 1 (.t 23)), none⟩, ⟨some 25, .q (.ld (.t 24)), none⟩, ⟨some 26, .q (.mv (.t 1)), none⟩, ⟨some 27, .q (.bin .neq (.t 25) (.t 26)), none⟩]
def c20_12 : List SOper := [⟨some 4, .q (.mv (.c (.int .i64 (-1)))), none⟩]
def c20_13 : SCode := .seq (.region c20_12 [4]) .ret
def c20_14 : SCode := .cond (.t 27) c20_13 .skip
def c20_15 : SCode := .seq (.region c20_11 [0, 1, 5, 27]) c20_14
def c20_16 : List SOper := [⟨some 28, .q (.mv (.t 1)), none⟩, ⟨some 29, .q (.bin .add (.t 28) (.c (.int .i64 1))), none⟩, ⟨some 1, .q (.mv (.t 29)), none⟩]
def c20_17 : List SOper := [⟨some 30, .q (.mv (.t 0)), none⟩, ⟨some 31, .q (.mv (.t 5)), none⟩, ⟨some 32, .q (.ia 3 (.t 30) (.t 31)), none⟩, ⟨some 33, .q (.fa 2 (.t 32)), none⟩, ⟨some 34, .q (.ld (.t 33)), none⟩, ⟨some 35, .q (.mv (.t 1)), none⟩, ⟨some 36, .q (.bin .neq (.t 34) (.t 35)), none⟩]
def c20_18 : List SOper := [⟨some 4, .q (.mv (.c (.int .i64 (-1)))), none⟩]
def c20_19 : SCode := .seq (.region c20_18 [4]) .ret
def c20_20 : SCode := .cond (.t 36) c20_19 .skip
def c20_21 : SCode := .seq (.region c20_17 [0, 1, 5, 36]) c20_20
def c20_22 : List SOper := [⟨some 37, .q (.mv (.t 1)), none⟩, ⟨some 38, .q (.bin .add (.t 37) (.c (.int .i64 1))), none⟩, ⟨some 1, .q (.mv (.t 38)), none⟩]
def c20_23 : SCode := .seq c20_21 (.region c20_22 [0, 1, 5])
def c20_24 : SCode := .seq (.region c20_16 [0, 1, 5]) c20_23
def c20_25 : SCode := .seq c20_15 c20_24
def c20_26 : SCode := .seq (.region c20_10 [0, 1, 5]) c20_25
def c20_27 : SCode := .seq c20_9 c20_26
def c20_28 : SCode := .block 1 c20_27
def c20_29 : List SOper := [⟨some 10, .q (.mv (.t 5)), none⟩, ⟨some 11, .q (.bin .add (.t 10) (.c (.int .i64 1))), none⟩, ⟨some 5, .q (.mv (.t 11)), none⟩]
def c20_30 : SCode := .seq c20_28 (.region c20_29 [0, 1, 5])
def c20_31 : SCode := .seq c20_4 c20_30
def c20_32 : SCode := .loop c20_31
def c20_33 : SCode := .block 0 c20_32
def c20_34 : SCode := .seq (.region c20_1 [0, 1, 5]) c20_33
def c20_35 : List SOper := [⟨some 39, .q (.mv (.t 1)), none⟩, ⟨some 4, .q (.mv (.t 39)), none⟩]
def c20_36 : SCode := .seq (.region c20_35 [4]) .ret
def c20_37 : SCode := .seq c20_34 c20_36
def c20_38 : SCode := .seq (.region c20_0 [0, 1]) c20_37
def c20 : SCode := c20_38
theorem w20 : type_of% (And.intro (uR Try.prog c20_0.eq_1) (And.intro (uR Try.prog c20_1.eq_1) (And.intro (uR Try.prog c20_2.eq_1) (And.intro (uC Try.prog c20_3.eq_1) (And.intro (uC Try.prog c20_4.eq_1) (And.intro (uR Try.prog c20_5.eq_1) (And.intro (uR Try.prog c20_6.eq_1) (And.intro (uC Try.prog c20_7.eq_1) (And.intro (uC Try.prog c20_8.eq_1) (And.intro (uC Try.prog c20_9.eq_1) (And.intro (uR Try.prog c20_10.eq_1) (And.intro (uR Try.prog c20_11.eq_1) (And.intro (uR Try.prog c20_12.eq_1) (And.intro (uC Try.prog c20_13.eq_1) (And.intro (uC Try.prog c20_14.eq_1) (And.intro (uC Try.prog c20_15.eq_1) (And.intro (uR Try.prog c20_16.eq_1) (And.intro (uR Try.prog c20_17.eq_1) (And.intro (uR Try.prog c20_18.eq_1) (And.intro (uC Try.prog c20_19.eq_1) (And.intro (uC Try.prog c20_20.eq_1) (And.intro (uC Try.prog c20_21.eq_1) (And.intro (uR Try.prog c20_22.eq_1) (And.intro (uC Try.prog c20_23.eq_1) (And.intro (uC Try.prog c20_24.eq_1) (And.intro (uC Try.prog c20_25.eq_1) (And.intro (uC Try.prog c20_26.eq_1) (And.intro (uC Try.prog c20_27.eq_1) (And.intro (uC Try.prog c20_28.eq_1) (And.intro (uR Try.prog c20_29.eq_1) (And.intro (uC Try.prog c20_30.eq_1) (And.intro (uC Try.prog c20_31.eq_1) (And.intro (uC Try.prog c20_32.eq_1) (And.intro (uC Try.prog c20_33.eq_1) (And.intro (uC Try.prog c20_34.eq_1) (And.intro (uR Try.prog c20_35.eq_1) (And.intro (uC Try.prog c20_36.eq_1) (And.intro (uC Try.prog c20_37.eq_1) (And.intro (uC Try.prog c20_38.eq_1) (uC Try.prog c20.eq_1)))))))))))))))))))))))))))))))))))))))) := (And.intro (uR Try.prog c20_0.eq_1) (And.intro (uR Try.prog c20_1.eq_1) (And.intro (uR Try.prog c20_2.eq_1) (And.intro (uC Try.prog c20_3.eq_1) (And.intro (uC Try.prog c20_4.eq_1) (And.intro (uR Try.prog c20_5.eq_1) (And.intro (uR Try.prog c20_6.eq_1) (And.intro (uC Try.prog c20_7.eq_1) (And.intro (uC Try.prog c20_8.eq_1) (And.intro (uC Try.prog c20_9.eq_1) (And.intro (uR Try.prog c20_10.eq_1) (And.intro (uR Try.prog c20_11.eq_1) (And.intro (uR Try.prog c20_12.eq_1) (And.intro (uC Try.prog c20_13.eq_1) (And.intro (uC Try.prog c20_14.eq_1) (And.intro (uC Try.prog c20_15.eq_1) (And.intro (uR Try.prog c20_16.eq_1) (And.intro (uR Try.prog c20_17.eq_1) (And.intro (uR Try.prog c20_18.eq_1) (And.intro (uC Try.prog c20_19.eq_1) (And.intro (uC Try.prog c20_20.eq_1) (And.intro (uC Try.prog c20_21.eq_1) (And.intro (uR Try.prog c20_22.eq_1) (And.intro (uC Try.prog c20_23.eq_1) (And.intro (uC Try.prog c20_24.eq_1) (And.intro (uC Try.prog c20_25.eq_1) (And.intro (uC Try.prog c20_26.eq_1) (And.intro (uC Try.prog c20_27.eq_1) (And.intro (uC Try.prog c20_28.eq_1) (And.intro (uR Try.prog c20_29.eq_1) (And.intro (uC Try.prog c20_30.eq_1) (And.intro (uC Try.prog c20_31.eq_1) (And.intro (uC Try.prog c20_32.eq_1) (And.intro (uC Try.prog c20_33.eq_1) (And.intro (uC Try.prog c20_34.eq_1) (And.intro (uR Try.prog c20_35.eq_1) (And.intro (uC Try.prog c20_36.eq_1) (And.intro (uC Try.prog c20_37.eq_1) (And.intro (uC Try.prog c20_38.eq_1) (uC Try.prog c20.eq_1))))))))))))))))))))))))))))))))))))))))
def v20 : List RV := [.t 4]
theorem s20 : slimF Try.prog Try.f20 = some (c20.bare, v20) := by kernel_rfl

structure Clip where
  src : Int
  inn : Int
  len : Int
  deriving DecidableEq
def zClip : Clip := ⟨0, 0, 0⟩
def encClip (k : Clip) : List Value := [.int .i64 k.src, .int .i64 k.inn, .int .i64 k.len]
theorem encClip_len (k : Clip) : (encClip k).length = 3 := rfl
theorem take_set_rep {α : Type} (l : List α) (z : α) (i : Nat) (hi : i < l.length) : (l.take i ++ List.replicate (l.length - i) z).set i l[i] = l.take (i + 1) ++ List.replicate (l.length - (i + 1)) z := by
  have hlen : (l.take i).length = i := by simp; omega
  rw [show l.length - i = (l.length - (i + 1)) + 1 by omega, List.replicate_succ, List.set_append_right _ _ (by omega), hlen, Nat.sub_self, List.set_cons_zero,
    List.take_succ_eq_append_getElem hi, List.append_assoc]
  rfl
theorem toClip_ok (h : Heap) (k : Clip) : ACall Try.prog 32 [.agg (encClip k).toArray] h fun r h' => Ext h h' ∧ r = .agg (encClip k).toArray := by
  refine ACall.of Try.func32 s32 (of_decide_eq_true rfl) ?_
  simp (maxSteps := 4000000) (disch := omega) only [ah, am, Nat.reduceEqDiff, reduceCtorEq, Nat.reduceAdd, Nat.reduceLeDiff, Nat.reduceMul, Nat.reduceLT, if_true, if_false, true_and, and_true, and_self, Nat.reduceBEq, QOp.loads, boxO, bslO, buildO, cutL, fillV, putL, w32, v32, encClip]
  exact Ext.more _ _
theorem eqClip_ok (h : Heap) (k k' : Clip) : ACall Try.prog 52 [.agg (encClip k).toArray, .agg (encClip k').toArray] h
    fun r h' => Ext h h' ∧ r = .bool (decide (k = k')) := by
  obtain ⟨a, b, c⟩ := k; obtain ⟨a', b', c'⟩ := k'
  refine ACall.of Try.func52 s52 (of_decide_eq_true rfl) ?_
  simp (maxSteps := 4000000) (disch := omega) only [ah, am, Nat.reduceEqDiff, reduceCtorEq, Nat.reduceAdd, Nat.reduceLeDiff, Nat.reduceMul, Nat.reduceLT, if_true, if_false, true_and, and_true, and_self, Nat.reduceBEq, QOp.loads, boxO, bslO, buildO, cutL, fillV, putL, w52, v52, encClip, stepI_dec]
  repeat' split
  all_goals exact ⟨Ext.more _ _, by simp [*]⟩

theorem szClipS_ok (h : Heap) (v : Value) (l : List Clip) (left : Int) (hs : SlT h encClip 3 v l) (h0 : 0 ≤ left) (h1 : left ≤ 1048576) (hl : l.length ≤ 9223372036854775807) :
    ACall Try.prog 14 [v, .int .i64 left] h fun r h' => h' = h ∧ r = .int .i64 (if left - l.length < 0 then -1 else left - l.length) := by
  refine ACall.of Try.func14 s14 (of_decide_eq_true rfl) ?_
  have R := hs.rules
  have W : IntKind.i64.wrap (left - l.length) = left - l.length := i64e (by omega) (by omega)
  simp (maxSteps := 4000000) (disch := omega) only [ah, am, Nat.reduceEqDiff, reduceCtorEq, Nat.reduceAdd, Nat.reduceLeDiff, Nat.reduceMul, Nat.reduceLT, if_true, if_false, true_and, and_true, and_self, Nat.reduceBEq, QOp.loads, boxO, bslO, buildO, cutL, fillV, putL, w14, v14, R, W, stepI_dec]
  split <;> simp
theorem toClipS_ok (h : Heap) (v : Value) (l : List Clip) (hs : SlT h encClip 3 v l) (hl : l.length ≤ 1048576) :
    ACall Try.prog 16 [v] h fun r h' => Fresh h h' encClip 3 r l := by
  refine ACall.of Try.func16 s16 (of_decide_eq_true rfl) ?_
  have R := hs.rulesN
  simp (maxSteps := 4000000) (disch := omega) only [ah, am, Nat.reduceEqDiff, reduceCtorEq, Nat.reduceAdd, Nat.reduceLeDiff, Nat.reduceMul, Nat.reduceLT, if_true, if_false, true_and, and_true, and_self, Nat.reduceBEq, QOp.loads, boxO, bslO, buildO, cutL, fillV, putL, w16, v16, R, mksV_nat]
  refine SW_loop_up (fun i E H => ∃ ov, E = [(0, v), (3, ov), (4, .int .i64 i)] ∧ Fresh h H encClip 3 ov (l.take i ++ List.replicate (l.length - i) zClip)) l.length 0 (by omega)
    ⟨_, rfl, by have := Fresh.newR (sz := 3) h l.length zClip encClip_len (by omega); simpa [encClip, zClip] using this⟩ ?_
  rintro i E H hi ⟨ov, rfl, F⟩
  have R := (hs.ext F.1).rulesN
  have W : IntKind.i64.wrap ((i : Int) + 1) = ((i + 1 : Nat) : Int) := i64e (by omega) (by omega)
  simp (maxSteps := 4000000) (disch := omega) only [ah, am, Nat.reduceEqDiff, reduceCtorEq, Nat.reduceAdd, Nat.reduceLeDiff, Nat.reduceMul, Nat.reduceLT, if_true, if_false, true_and, and_true, and_self, Nat.reduceBEq, QOp.loads, boxO, bslO, buildO, cutL, fillV, putL, w16, v16, R, W]
  refine stepI.split (fun hp => ?_) (fun hp => ?_)
  · simp (maxSteps := 4000000) (disch := omega) only [ah, am, Nat.reduceEqDiff, reduceCtorEq, Nat.reduceAdd, Nat.reduceLeDiff, Nat.reduceMul, Nat.reduceLT, if_true, if_false, true_and, and_true, and_self, Nat.reduceBEq, QOp.loads, boxO, bslO, buildO, cutL, fillV, putL, w16, v16, R, W]
    refine stepC.of (toClip_ok _ _) ?_
    rintro r H1 ⟨e1, rfl⟩
    have F1 := F.ext e1
    obtain ⟨H2, es, F2, hsz⟩ := F1.set (j := i) (by simp; omega) l[i] rfl
    have R2 := F1.slt.rulesN
    simp only [List.length_append, List.length_take, List.length_replicate] at R2
    simp (maxSteps := 4000000) (disch := omega) only [ah, am, Nat.reduceEqDiff, reduceCtorEq, Nat.reduceAdd, Nat.reduceLeDiff, Nat.reduceMul, Nat.reduceLT, if_true, if_false, true_and, and_true, and_self, Nat.reduceBEq, QOp.loads, boxO, bslO, buildO, cutL, fillV, putL, w16, v16, R2, es, W]
    refine ⟨by omega, _, rfl, ?_⟩
    rw [show List.take (i + 1) l ++ List.replicate (l.length - (i + 1)) zClip = (l.take i ++ List.replicate (l.length - i) zClip).set i l[i] from (take_set_rep l zClip i (by omega)).symm]
    exact F2
  · simp (maxSteps := 4000000) (disch := omega) only [ah, am, Nat.reduceEqDiff, reduceCtorEq, Nat.reduceAdd, Nat.reduceLeDiff, Nat.reduceMul, Nat.reduceLT, if_true, if_false, true_and, and_true, and_self, Nat.reduceBEq, QOp.loads, boxO, bslO, buildO, cutL, fillV, putL, w16, v16, R, W]
    obtain rfl : i = l.length := by omega
    simpa using F
theorem eqClipS_ok (h : Heap) (v v' : Value) (l l' : List Clip) (hs : SlT h encClip 3 v l) (hs' : SlT h encClip 3 v' l') (hl : l.length ≤ 281474976710656) (hl' : l'.length ≤ 281474976710656) :
    ACall Try.prog 18 [v, v'] h fun r h' => Ext h h' ∧ r = .bool (decide (l = l')) := by
  refine ACall.of Try.func18 s18 (of_decide_eq_true rfl) ?_
  have R := hs.rulesN
  have R' := hs'.rulesN
  simp (maxSteps := 4000000) (disch := omega) only [ah, am, Nat.reduceEqDiff, reduceCtorEq, Nat.reduceAdd, Nat.reduceLeDiff, Nat.reduceMul, Nat.reduceLT, if_true, if_false, true_and, and_true, and_self, Nat.reduceBEq, QOp.loads, boxO, bslO, buildO, cutL, fillV, putL, w18, v18, R, R']
  refine stepI.split (fun hp => ?_) (fun hp => ?_)
  rotate_left
  · simp (maxSteps := 4000000) (disch := omega) only [ah, am, Nat.reduceEqDiff, reduceCtorEq, Nat.reduceAdd, Nat.reduceLeDiff, Nat.reduceMul, Nat.reduceLT, if_true, if_false, true_and, and_true, and_self, Nat.reduceBEq, QOp.loads, boxO, bslO, buildO, cutL, fillV, putL, w18, v18]
    exact ⟨Ext.refl h, by rw [decide_eq_false]; rintro rfl; exact hp rfl⟩
  have hll : l.length = l'.length := by omega
  simp (maxSteps := 4000000) (disch := omega) only [ah, am, Nat.reduceEqDiff, reduceCtorEq, Nat.reduceAdd, Nat.reduceLeDiff, Nat.reduceMul, Nat.reduceLT, if_true, if_false, true_and, and_true, and_self, Nat.reduceBEq, QOp.loads, boxO, bslO, buildO, cutL, fillV, putL, w18, v18]
  refine SW_loop_up (fun i E H => E = [(0, v), (1, v'), (5, .int .i64 i)] ∧ Ext h H ∧ ∀ j (h1 : j < i) (h2 : j < l.length), l[j] = l'[j]) l.length 0 (by omega)
    ⟨rfl, .refl h, fun j h1 h2 => absurd h1 (by omega)⟩ ?_
  rintro i E H hi ⟨rfl, e, F⟩
  have R := (hs.ext e).rulesN
  have R' := (hs'.ext e).rulesN
  have W : IntKind.i64.wrap ((i : Int) + 1) = ((i + 1 : Nat) : Int) := i64e (by omega) (by omega)
  simp (maxSteps := 4000000) (disch := omega) only [ah, am, Nat.reduceEqDiff, reduceCtorEq, Nat.reduceAdd, Nat.reduceLeDiff, Nat.reduceMul, Nat.reduceLT, if_true, if_false, true_and, and_true, and_self, Nat.reduceBEq, QOp.loads, boxO, bslO, buildO, cutL, fillV, putL, w18, v18, R, R', W]
  refine stepI.split (fun hp => ?_) (fun hp => ?_)
  · simp (maxSteps := 4000000) (disch := omega) only [ah, am, Nat.reduceEqDiff, reduceCtorEq, Nat.reduceAdd, Nat.reduceLeDiff, Nat.reduceMul, Nat.reduceLT, if_true, if_false, true_and, and_true, and_self, Nat.reduceBEq, QOp.loads, boxO, bslO, buildO, cutL, fillV, putL, w18, v18, R, R', W]
    refine stepC.of (eqClip_ok _ _ _) ?_
    rintro r H1 ⟨e1, rfl⟩
    simp (maxSteps := 4000000) (disch := omega) only [ah, am, Nat.reduceEqDiff, reduceCtorEq, Nat.reduceAdd, Nat.reduceLeDiff, Nat.reduceMul, Nat.reduceLT, if_true, if_false, true_and, and_true, and_self, Nat.reduceBEq, QOp.loads, boxO, bslO, buildO, cutL, fillV, putL, w18, v18, R, R', W]
    refine stepI.split (fun hq => ?_) (fun hq => ?_)
    · simp (maxSteps := 4000000) (disch := omega) only [ah, am, Nat.reduceEqDiff, reduceCtorEq, Nat.reduceAdd, Nat.reduceLeDiff, Nat.reduceMul, Nat.reduceLT, if_true, if_false, true_and, and_true, and_self, Nat.reduceBEq, QOp.loads, boxO, bslO, buildO, cutL, fillV, putL, w18, v18, W]
      exact ⟨by omega, e.trans e1, fun j h1 h2 => by
        by_cases hj : j = i
        · subst hj; exact hq
        · exact F j (by omega) h2⟩
    · simp (maxSteps := 4000000) (disch := omega) only [ah, am, Nat.reduceEqDiff, reduceCtorEq, Nat.reduceAdd, Nat.reduceLeDiff, Nat.reduceMul, Nat.reduceLT, if_true, if_false, true_and, and_true, and_self, Nat.reduceBEq, QOp.loads, boxO, bslO, buildO, cutL, fillV, putL, w18, v18, W]
      exact ⟨e.trans e1, by rw [decide_eq_false]; rintro rfl; exact hq rfl⟩
  · simp (maxSteps := 4000000) (disch := omega) only [ah, am, Nat.reduceEqDiff, reduceCtorEq, Nat.reduceAdd, Nat.reduceLeDiff, Nat.reduceMul, Nat.reduceLT, if_true, if_false, true_and, and_true, and_self, Nat.reduceBEq, QOp.loads, boxO, bslO, buildO, cutL, fillV, putL, w18, v18, R, W]
    refine ⟨e, ?_⟩
    rw [decide_eq_true]
    exact List.ext_getElem hll fun j h1 h2 => F j (by omega) h1
def markClip (k : Int) (n : Nat) : List Clip := (List.range n).map fun i : Nat => ⟨k + 3 * (i : Int), k + 3 * (i : Int) + 1, k + 3 * (i : Int) + 2⟩
theorem mark_step {α : Type} (f : Nat → α) (l : List α) (i : Nat) (hi : i < l.length) : ((List.range i).map f ++ l.drop i).set i (f i) = (List.range (i + 1)).map f ++ l.drop (i + 1) := by
  rw [List.set_append_right _ _ (by simp), List.length_map, List.length_range, Nat.sub_self, List.drop_eq_getElem_cons hi, List.set_cons_zero, List.range_succ, List.map_append, List.append_assoc]
  rfl
theorem markClipS_ok (h : Heap) (g : Nat) (v : Value) (l : List Clip) (k : Int) (o : OwnT g h encClip 3 v l) (hl : l.length ≤ 1000000000) (hk : 0 ≤ k ∧ k ≤ 1000000000000) :
    ACall Try.prog 19 [v, .int .i64 k] h fun r h' => ExtG g h h' ∧ OwnT g h' encClip 3 v (markClip k l.length) ∧ r = .int .i64 (k + 3 * l.length) := by
  refine ACall.of Try.func19 s19 (of_decide_eq_true rfl) ?_
  have R := o.slt.rulesN
  simp (maxSteps := 4000000) (disch := omega) only [ah, am, Nat.reduceEqDiff, reduceCtorEq, Nat.reduceAdd, Nat.reduceLeDiff, Nat.reduceMul, Nat.reduceLT, if_true, if_false, true_and, and_true, and_self, Nat.reduceBEq, QOp.loads, boxO, bslO, buildO, cutL, fillV, putL, w19, v19, R]
  refine SW_loop_up (fun i E H => E = [(0, v), (1, .int .i64 (k + 3 * i)), (5, .int .i64 i)] ∧ ExtG g h H ∧ OwnT g H encClip 3 v (markClip k i ++ l.drop i)) l.length 0 (by omega)
    ⟨by simp, ExtG.refl g h, by simpa [markClip] using o⟩ ?_
  rintro i E H hi ⟨rfl, e, O⟩
  have hlen : (markClip k i ++ l.drop i).length = l.length := by simp [markClip]; omega
  have R := O.slt.rulesN
  simp only [hlen] at R
  have W : IntKind.i64.wrap ((i : Int) + 1) = ((i + 1 : Nat) : Int) := i64e (by omega) (by omega)
  have W1 : IntKind.i64.wrap (k + 3 * (i : Int) + 1) = k + 3 * (i : Int) + 1 := i64e (by omega) (by omega)
  have W2 : IntKind.i64.wrap (k + 3 * (i : Int) + 1 + 1) = k + 3 * (i : Int) + 2 := i64e (by omega) (by omega)
  have W3 : IntKind.i64.wrap (k + 3 * (i : Int) + 2 + 1) = k + 3 * ((i + 1 : Nat) : Int) := i64e (by omega) (by omega)
  simp (maxSteps := 4000000) (disch := omega) only [ah, am, Nat.reduceEqDiff, reduceCtorEq, Nat.reduceAdd, Nat.reduceLeDiff, Nat.reduceMul, Nat.reduceLT, if_true, if_false, true_and, and_true, and_self, Nat.reduceBEq, QOp.loads, boxO, bslO, buildO, cutL, fillV, putL, w19, v19, R, W]
  refine stepI.split (fun hp => ?_) (fun hp => ?_)
  · have hj : i < (markClip k i ++ l.drop i).length := by omega
    obtain ⟨H1, es1, O1, G1, -⟩ := O.setF (j := i) (f := 0) (n := 1) (y := .int .i64 (k + 3 * i)) (x := ⟨k + 3 * i, ((markClip k i ++ l.drop i)[i]).inn, ((markClip k i ++ l.drop i)[i]).len⟩) hj rfl (by omega) rfl (by omega) rfl
    obtain ⟨H2, es2, O2, G2, -⟩ := O1.setF (j := i) (f := 1) (n := 1) (y := .int .i64 (k + 3 * i + 1)) (x := ⟨k + 3 * i, k + 3 * i + 1, ((markClip k i ++ l.drop i)[i]).len⟩) (by simpa using hj) (by simp [encClip, splice, cells_int]) (by omega) rfl (by omega) rfl
    obtain ⟨H3, es3, O3, G3, -⟩ := O2.setF (j := i) (f := 2) (n := 1) (y := .int .i64 (k + 3 * i + 2)) (x := ⟨k + 3 * i, k + 3 * i + 1, k + 3 * i + 2⟩) (by simpa using hj) (by simp [encClip, splice, cells_int]) (by omega) rfl (by omega) rfl
    rw [List.set_set, List.set_set] at O3
    simp only [Nat.add_zero] at es1
    simp (maxSteps := 4000000) (disch := omega) only [ah, am, Nat.reduceEqDiff, reduceCtorEq, Nat.reduceAdd, Nat.reduceLeDiff, Nat.reduceMul, Nat.reduceLT, if_true, if_false, true_and, and_true, and_self, Nat.reduceBEq, QOp.loads, boxO, bslO, buildO, cutL, fillV, putL, w19, v19, R, es1, es2, es3, W, W1, W2, W3]
    refine ⟨by omega, ((e.trans G1).trans G2).trans G3, ?_⟩
    have := mark_step (fun i : Nat => (⟨k + 3 * (i : Int), k + 3 * (i : Int) + 1, k + 3 * (i : Int) + 2⟩ : Clip)) l i (by omega)
    unfold markClip at O3 ⊢
    rw [← this]; exact O3
  · simp (maxSteps := 4000000) (disch := omega) only [ah, am, Nat.reduceEqDiff, reduceCtorEq, Nat.reduceAdd, Nat.reduceLeDiff, Nat.reduceMul, Nat.reduceLT, if_true, if_false, true_and, and_true, and_self, Nat.reduceBEq, QOp.loads, boxO, bslO, buildO, cutL, fillV, putL, w19, v19]
    obtain rfl : i = l.length := by omega
    exact ⟨e, by simpa using O, rfl⟩
theorem heldClipS_ok (h : Heap) (v : Value) (n : Nat) (k : Int) (s : SlT h encClip 3 v (markClip k n)) (hl : n ≤ 1000000000) (hk : 0 ≤ k ∧ k ≤ 1000000000000) :
    ACall Try.prog 20 [v, .int .i64 k] h fun r h' => h' = h ∧ r = .int .i64 (k + 3 * n) := by
  refine ACall.of Try.func20 s20 (of_decide_eq_true rfl) ?_
  have R := s.rulesN
  have hn : (markClip k n).length = n := by simp [markClip]
  simp only [hn] at R
  simp (maxSteps := 4000000) (disch := omega) only [ah, am, Nat.reduceEqDiff, reduceCtorEq, Nat.reduceAdd, Nat.reduceLeDiff, Nat.reduceMul, Nat.reduceLT, if_true, if_false, true_and, and_true, and_self, Nat.reduceBEq, QOp.loads, boxO, bslO, buildO, cutL, fillV, putL, w20, v20, R]
  refine SW_loop_up (fun i E H => E = [(0, v), (1, .int .i64 (k + 3 * i)), (5, .int .i64 i)] ∧ H = h) n 0 (by omega) ⟨by simp, rfl⟩ ?_
  rintro i E H hi ⟨rfl, rfl⟩
  have W : IntKind.i64.wrap ((i : Int) + 1) = ((i + 1 : Nat) : Int) := i64e (by omega) (by omega)
  have W1 : IntKind.i64.wrap (k + 3 * (i : Int) + 1) = k + 3 * (i : Int) + 1 := i64e (by omega) (by omega)
  have W2 : IntKind.i64.wrap (k + 3 * (i : Int) + 1 + 1) = k + 3 * (i : Int) + 2 := i64e (by omega) (by omega)
  have W3 : IntKind.i64.wrap (k + 3 * (i : Int) + 2 + 1) = k + 3 * ((i + 1 : Nat) : Int) := i64e (by omega) (by omega)
  simp (maxSteps := 4000000) (disch := omega) only [ah, am, Nat.reduceEqDiff, reduceCtorEq, Nat.reduceAdd, Nat.reduceLeDiff, Nat.reduceMul, Nat.reduceLT, if_true, if_false, true_and, and_true, and_self, Nat.reduceBEq, QOp.loads, boxO, bslO, buildO, cutL, fillV, putL, w20, v20, R, W]
  refine stepI.split (fun hp => ?_) (fun hp => ?_)
  · have g : ∀ (hj : i < (markClip k n).length), encClip (markClip k n)[i] = [.int .i64 (k + 3 * i), .int .i64 (k + 3 * i + 1), .int .i64 (k + 3 * i + 2)] := by
      intro hj; simp [markClip, encClip]
    simp (maxSteps := 4000000) (disch := omega) only [ah, am, Nat.reduceEqDiff, reduceCtorEq, Nat.reduceAdd, Nat.reduceLeDiff, Nat.reduceMul, Nat.reduceLT, if_true, if_false, true_and, and_true, and_self, Nat.reduceBEq, QOp.loads, boxO, bslO, buildO, cutL, fillV, putL, w20, v20, R, g, W, W1, W2, W3, decide_true, stepI_true]
    omega
  · simp (maxSteps := 4000000) (disch := omega) only [ah, am, Nat.reduceEqDiff, reduceCtorEq, Nat.reduceAdd, Nat.reduceLeDiff, Nat.reduceMul, Nat.reduceLT, if_true, if_false, true_and, and_true, and_self, Nat.reduceBEq, QOp.loads, boxO, bslO, buildO, cutL, fillV, putL, w20, v20]
    obtain rfl : i = n := by omega
    rfl
end Go.Proofs.Ytbanblghepekdaa
