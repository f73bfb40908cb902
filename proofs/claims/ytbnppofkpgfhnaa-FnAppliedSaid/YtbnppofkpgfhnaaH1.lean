import Derived.Test.YtbnppofkpgfhnaaProg
import Derived.Test.YtbnppofkpgfhnaaAhT
namespace Go.Proofs.Ytbnppofkpgfhnaa
open Go Go.Ah
set_option linter.unusedSimpArgs false
set_option linter.unusedVariables false
set_option maxRecDepth 10000
set_option maxHeartbeats 4000000
/-! 20 loop.example/g00066/laws.szClipS: parameters 2, live [0, 1], slots [0:a, 1:left, 2:a, 3:left] -/
def c20_0 : List SOper := [⟨some 4, .q (.mv (.c (.int .i64 0))), none⟩]
def c20_1 : List SOper := [⟨some 5, .q (.mv (.t 1)), none⟩, ⟨some 6, .q (.mv (.t 0)), none⟩, ⟨some 7, .q (.len (.t 6)), none⟩, ⟨some 8, .q (.bin .sub (.t 5) (.t 7)), none⟩, ⟨some 1, .q (.mv (.t 8)), none⟩]
def c20_2 : List SOper := [⟨some 9, .q (.mv (.t 1)), none⟩, ⟨some 10, .q (.bin .lss (.t 9) (.c (.int .i64 0))), none⟩]
def c20_3 : List SOper := [⟨some 4, .q (.mv (.c (.int .i64 (-1)))), none⟩]
def c20_4 : SCode := .seq (.region c20_3 [4]) .ret
def c20_5 : SCode := .cond (.t 10) c20_4 .skip
def c20_6 : SCode := .seq (.region c20_2 [1, 10]) c20_5
def c20_7 : List SOper := [⟨some 11, .q (.mv (.t 1)), none⟩, ⟨some 4, .q (.mv (.t 11)), none⟩]
def c20_8 : SCode := .seq (.region c20_7 [4]) .ret
def c20_9 : SCode := .seq c20_6 c20_8
def c20_10 : SCode := .seq (.region c20_1 [1]) c20_9
def c20_11 : SCode := .seq (.region c20_0 [0, 1]) c20_10
def c20 : SCode := c20_11
theorem w20 : type_of% (And.intro (uR Try.prog c20_0.eq_1) (And.intro (uR Try.prog c20_1.eq_1) (And.intro (uR Try.prog c20_2.eq_1) (And.intro (uR Try.prog c20_3.eq_1) (And.intro (uC Try.prog c20_4.eq_1) (And.intro (uC Try.prog c20_5.eq_1) (And.intro (uC Try.prog c20_6.eq_1) (And.intro (uR Try.prog c20_7.eq_1) (And.intro (uC Try.prog c20_8.eq_1) (And.intro (uC Try.prog c20_9.eq_1) (And.intro (uC Try.prog c20_10.eq_1) (And.intro (uC Try.prog c20_11.eq_1) (uC Try.prog c20.eq_1))))))))))))) := (And.intro (uR Try.prog c20_0.eq_1) (And.intro (uR Try.prog c20_1.eq_1) (And.intro (uR Try.prog c20_2.eq_1) (And.intro (uR Try.prog c20_3.eq_1) (And.intro (uC Try.prog c20_4.eq_1) (And.intro (uC Try.prog c20_5.eq_1) (And.intro (uC Try.prog c20_6.eq_1) (And.intro (uR Try.prog c20_7.eq_1) (And.intro (uC Try.prog c20_8.eq_1) (And.intro (uC Try.prog c20_9.eq_1) (And.intro (uC Try.prog c20_10.eq_1) (And.intro (uC Try.prog c20_11.eq_1) (uC Try.prog c20.eq_1)))))))))))))
def v20 : List RV := [.t 4]
theorem s20 : slimF Try.prog Try.f20 = some (c20.bare, v20) := by kernel_rfl

/-! 23 loop.example/g00066/laws.toClipS: parameters 1, live [0], slots [0:a, 1:a, 3:out, 4:i] -/
def c23_0 : List SOper := [⟨some 2, .q (.mv (.c (.slice none 0 0))), none⟩]
def c23_1 : List SOper := [⟨some 5, .q (.mv (.t 0)), none⟩, ⟨some 6, .q (.len (.t 5)), none⟩, ⟨some 7, .a (.mks 24 3 [(.int .i64 0), (.int .i64 0), (.int .i64 0)] (.t 6) (.t 6)), none⟩, ⟨some 3, .q (.mv (.t 7)), none⟩]
def c23_2 : List SOper := [⟨some 4, .q (.mv (.c (.int .i64 0))), none⟩]
def c23_3 : List SOper := [⟨some 8, .q (.mv (.t 4)), none⟩, ⟨some 9, .q (.mv (.t 0)), none⟩, ⟨some 10, .q (.len (.t 9)), none⟩, ⟨some 11, .q (.bin .lss (.t 8) (.t 10)), none⟩]
def c23_4 : SCode := .cond (.t 11) .skip (.exit 0)
def c23_5 : SCode := .seq (.region c23_3 [0, 3, 4, 11]) c23_4
def c23_6 : List SOper := [⟨some 14, .q (.mv (.t 3)), none⟩, ⟨some 15, .q (.mv (.t 4)), none⟩, ⟨some 16, .q (.mv (.t 0)), none⟩, ⟨some 17, .q (.mv (.t 4)), none⟩, ⟨some 18, .q (.ia 3 (.t 16) (.t 17)), none⟩, ⟨some 19, .q (.ldn 3 (.t 18)), none⟩, ⟨some 20, .e (.call 63 [(.t 19)]), none⟩, ⟨some 21, .q (.ia 3 (.t 14) (.t 15)), none⟩, ⟨none, .e (.st 3 (.t 21) (.t 20)), none⟩]
def c23_7 : SCode := .block 1 (.region c23_6 [0, 3, 4])
def c23_8 : List SOper := [⟨some 12, .q (.mv (.t 4)), none⟩, ⟨some 13, .q (.bin .add (.t 12) (.c (.int .i64 1))), none⟩, ⟨some 4, .q (.mv (.t 13)), none⟩]
def c23_9 : SCode := .seq c23_7 (.region c23_8 [0, 3, 4])
def c23_10 : SCode := .seq c23_5 c23_9
def c23_11 : SCode := .loop c23_10
def c23_12 : SCode := .block 0 c23_11
def c23_13 : SCode := .seq (.region c23_2 [0, 3, 4]) c23_12
def c23_14 : List SOper := [⟨some 22, .q (.mv (.t 3)), none⟩, ⟨some 2, .q (.mv (.t 22)), none⟩]
def c23_15 : SCode := .seq (.region c23_14 [2]) .ret
def c23_16 : SCode := .seq c23_13 c23_15
def c23_17 : SCode := .seq (.region c23_1 [0, 3]) c23_16
def c23_18 : SCode := .seq (.region c23_0 [0]) c23_17
def c23 : SCode := c23_18
theorem w23 : type_of% (And.intro (uR Try.prog c23_0.eq_1) (And.intro (uR Try.prog c23_1.eq_1) (And.intro (uR Try.prog c23_2.eq_1) (And.intro (uR Try.prog c23_3.eq_1) (And.intro (uC Try.prog c23_4.eq_1) (And.intro (uC Try.prog c23_5.eq_1) (And.intro (uR Try.prog c23_6.eq_1) (And.intro (uC Try.prog c23_7.eq_1) (And.intro (uR Try.prog c23_8.eq_1) (And.intro (uC Try.prog c23_9.eq_1) (And.intro (uC Try.prog c23_10.eq_1) (And.intro (uC Try.prog c23_11.eq_1) (And.intro (uC Try.prog c23_12.eq_1) (And.intro (uC Try.prog c23_13.eq_1) (And.intro (uR Try.prog c23_14.eq_1) (And.intro (uC Try.prog c23_15.eq_1) (And.intro (uC Try.prog c23_16.eq_1) (And.intro (uC Try.prog c23_17.eq_1) (And.intro (uC Try.prog c23_18.eq_1) (uC Try.prog c23.eq_1)))))))))))))))))))) := (And.intro (uR Try.prog c23_0.eq_1) (And.intro (uR Try.prog c23_1.eq_1) (And.intro (uR Try.prog c23_2.eq_1) (And.intro (uR Try.prog c23_3.eq_1) (And.intro (uC Try.prog c23_4.eq_1) (And.intro (uC Try.prog c23_5.eq_1) (And.intro (uR Try.prog c23_6.eq_1) (And.intro (uC Try.prog c23_7.eq_1) (And.intro (uR Try.prog c23_8.eq_1) (And.intro (uC Try.prog c23_9.eq_1) (And.intro (uC Try.prog c23_10.eq_1) (And.intro (uC Try.prog c23_11.eq_1) (And.intro (uC Try.prog c23_12.eq_1) (And.intro (uC Try.prog c23_13.eq_1) (And.intro (uR Try.prog c23_14.eq_1) (And.intro (uC Try.prog c23_15.eq_1) (And.intro (uC Try.prog c23_16.eq_1) (And.intro (uC Try.prog c23_17.eq_1) (And.intro (uC Try.prog c23_18.eq_1) (uC Try.prog c23.eq_1))))))))))))))))))))
def v23 : List RV := [.t 2]
theorem s23 : slimF Try.prog Try.f23 = some (c23.bare, v23) := by kernel_rfl

/-! 63 loop.example/g00066/laws.toClip: parameters 1, live [0], slots [0:a, 1:a, 3:out] -/
def c63_0 : List SOper := [⟨some 1, .a (.box (.t 0)), none⟩, ⟨some 2, .a (.new [(.int .i64 0), (.int .i64 0), (.int .i64 0)]), none⟩]
def c63_1 : List SOper := [⟨some 3, .a (.new [(.int .i64 0), (.int .i64 0), (.int .i64 0)]), none⟩]
def c63_2 : List SOper := [⟨some 4, .q (.fa 0 (.t 1)), none⟩, ⟨some 5, .q (.ld (.t 4)), none⟩, ⟨some 6, .q (.fa 0 (.t 3)), none⟩, ⟨none, .e (.st 1 (.t 6) (.t 5)), none⟩]
def c63_3 : List SOper := [⟨some 7, .q (.fa 1 (.t 1)), none⟩, ⟨some 8, .q (.ld (.t 7)), none⟩, ⟨some 9, .q (.fa 1 (.t 3)), none⟩, ⟨none, .e (.st 1 (.t 9) (.t 8)), none⟩]
def c63_4 : List SOper := [⟨some 10, .q (.fa 2 (.t 1)), none⟩, ⟨some 11, .q (.ld (.t 10)), none⟩, ⟨some 12, .q (.fa 2 (.t 3)), none⟩, ⟨none, .e (.st 1 (.t 12) (.t 11)), none⟩]
def c63_5 : List SOper := [⟨some 13, .q (.ldn 3 (.t 3)), none⟩, ⟨none, .e (.st 3 (.t 2) (.t 13)), none⟩]
def c63_6 : SCode := .seq (.region c63_5 [2]) .ret
def c63_7 : SCode := .seq (.region c63_4 [2, 3]) c63_6
def c63_8 : SCode := .seq (.region c63_3 [1, 2, 3]) c63_7
def c63_9 : SCode := .seq (.region c63_2 [1, 2, 3]) c63_8
def c63_10 : SCode := .seq (.region c63_1 [1, 2, 3]) c63_9
def c63_11 : SCode := .seq (.region c63_0 [1, 2]) c63_10
def c63 : SCode := c63_11
theorem w63 : type_of% (And.intro (uR Try.prog c63_0.eq_1) (And.intro (uR Try.prog c63_1.eq_1) (And.intro (uR Try.prog c63_2.eq_1) (And.intro (uR Try.prog c63_3.eq_1) (And.intro (uR Try.prog c63_4.eq_1) (And.intro (uR Try.prog c63_5.eq_1) (And.intro (uC Try.prog c63_6.eq_1) (And.intro (uC Try.prog c63_7.eq_1) (And.intro (uC Try.prog c63_8.eq_1) (And.intro (uC Try.prog c63_9.eq_1) (And.intro (uC Try.prog c63_10.eq_1) (And.intro (uC Try.prog c63_11.eq_1) (uC Try.prog c63.eq_1))))))))))))) := (And.intro (uR Try.prog c63_0.eq_1) (And.intro (uR Try.prog c63_1.eq_1) (And.intro (uR Try.prog c63_2.eq_1) (And.intro (uR Try.prog c63_3.eq_1) (And.intro (uR Try.prog c63_4.eq_1) (And.intro (uR Try.prog c63_5.eq_1) (And.intro (uC Try.prog c63_6.eq_1) (And.intro (uC Try.prog c63_7.eq_1) (And.intro (uC Try.prog c63_8.eq_1) (And.intro (uC Try.prog c63_9.eq_1) (And.intro (uC Try.prog c63_10.eq_1) (And.intro (uC Try.prog c63_11.eq_1) (uC Try.prog c63.eq_1)))))))))))))
def v63 : List RV := [.c 2 (some 3)]
theorem s63 : slimF Try.prog Try.f63 = some (c63.bare, v63) := by kernel_rfl

/-! 25 loop.example/g00066/laws.eqClipS: parameters 2, live [0, 1], slots [0:a, 1:b, 2:a, 3:b, 5:i] -/
def c25_0 : List SOper := [⟨some 4, .q (.mv (.c (.bool false))), none⟩]
def c25_1 : List SOper := [⟨some 6, .q (.mv (.t 0)), none⟩, ⟨some 7, .q (.len (.t 6)), none⟩, ⟨some 8, .q (.mv (.t 1)), none⟩, ⟨some 9, .q (.len (.t 8)), none⟩, ⟨some 10, .q (.bin .neq (.t 7) (.t 9)), none⟩]
def c25_2 : List SOper := [⟨some 4, .q (.mv (.c (.bool false))), none⟩]
def c25_3 : SCode := .seq (.region c25_2 [4]) .ret
def c25_4 : SCode := .cond (.t 10) c25_3 .skip
def c25_5 : SCode := .seq (.region c25_1 [0, 1, 10]) c25_4
def c25_6 : List SOper := [⟨some 5, .q (.mv (.c (.int .i64 0))), none⟩]
def c25_7 : List SOper := [⟨some 11, .q (.mv (.t 5)), none⟩, ⟨some 12, .q (.mv (.t 0)), none⟩, ⟨some 13, .q (.len (.t 12)), none⟩, ⟨some 14, .q (.bin .lss (.t 11) (.t 13)), none⟩]
def c25_8 : SCode := .cond (.t 14) .skip (.exit 0)
def c25_9 : SCode := .seq (.region c25_7 [0, 1, 5, 14]) c25_8
def c25_10 : List SOper := [⟨some 17, .q (.mv (.t 0)), none⟩, ⟨some 18, .q (.mv (.t 5)), none⟩, ⟨some 19, .q (.ia 3 (.t 17) (.t 18)), none⟩, ⟨some 20, .q (.ldn 3 (.t 19)), none⟩, ⟨some 21, .q (.mv (.t 1)), none⟩, ⟨some 22, .q (.mv (.t 5)), none⟩, ⟨some 23, .q (.ia 3 (.t 21) (.t 22)), none⟩, ⟨some 24, .q (.ldn 3 (.t 23)), none⟩, ⟨some 25, .e (.call 65 [(.t 20), (.t 24)]), none⟩, ⟨some 26, .q (.not (.t 25)), none⟩]
def c25_11 : List SOper := [⟨some 4, .q (.mv (.c (.bool false))), none⟩]
def c25_12 : SCode := .seq (.region c25_11 [4]) .ret
def c25_13 : SCode := .cond (.t 26) c25_12 .skip
def c25_14 : SCode := .seq (.region c25_10 [0, 1, 5, 26]) c25_13
def c25_15 : SCode := .block 1 c25_14
def c25_16 : List SOper := [⟨some 15, .q (.mv (.t 5)), none⟩, ⟨some 16, .q (.bin .add (.t 15) (.c (.int .i64 1))), none⟩, ⟨some 5, .q (.mv (.t 16)), none⟩]
def c25_17 : SCode := .seq c25_15 (.region c25_16 [0, 1, 5])
def c25_18 : SCode := .seq c25_9 c25_17
def c25_19 : SCode := .loop c25_18
def c25_20 : SCode := .block 0 c25_19
def c25_21 : SCode := .seq (.region c25_6 [0, 1, 5]) c25_20
def c25_22 : List SOper := [⟨some 4, .q (.mv (.c (.bool true))), none⟩]
def c25_23 : SCode := .seq (.region c25_22 [4]) .ret
def c25_24 : SCode := .seq c25_21 c25_23
def c25_25 : SCode := .seq c25_5 c25_24
def c25_26 : SCode := .seq (.region c25_0 [0, 1]) c25_25
def c25 : SCode := c25_26
theorem w25 : type_of% (And.intro (uR Try.prog c25_0.eq_1) (And.intro (uR Try.prog c25_1.eq_1) (And.intro (uR Try.prog c25_2.eq_1) (And.intro (uC Try.prog c25_3.eq_1) (And.intro (uC Try.prog c25_4.eq_1) (And.intro (uC Try.prog c25_5.eq_1) (And.intro (uR Try.prog c25_6.eq_1) (And.intro (uR Try.prog c25_7.eq_1) (And.intro (uC Try.prog c25_8.eq_1) (And.intro (uC Try.prog c25_9.eq_1) (And.intro (uR Try.prog c25_10.eq_1) (And.intro (uR Try.prog c25_11.eq_1) (And.intro (uC Try.prog c25_12.eq_1) (And.intro (uC Try.prog c25_13.eq_1) (And.intro (uC Try.prog c25_14.eq_1) (And.intro (uC Try.prog c25_15.eq_1) (And.intro (uR Try.prog c25_16.eq_1) (And.intro (uC Try.prog c25_17.eq_1) (And.intro (uC Try.prog c25_18.eq_1) (And.intro (uC Try.prog c25_19.eq_1) (And.intro (uC Try.prog c25_20.eq_1) (And.intro (uC Try.prog c25_21.eq_1) (And.intro (uR Try.prog c25_22.eq_1) (And.intro (uC Try.prog c25_23.eq_1) (And.intro (uC Try.prog c25_24.eq_1) (And.intro (uC Try.prog c25_25.eq_1) (And.intro (uC Try.prog c25_26.eq_1) (uC Try.prog c25.eq_1)))))))))))))))))))))))))))) := (And.intro (uR Try.prog c25_0.eq_1) (And.intro (uR Try.prog c25_1.eq_1) (And.intro (uR Try.prog c25_2.eq_1) (And.intro (uC Try.prog c25_3.eq_1) (And.intro (uC Try.prog c25_4.eq_1) (And.intro (uC Try.prog c25_5.eq_1) (And.intro (uR Try.prog c25_6.eq_1) (And.intro (uR Try.prog c25_7.eq_1) (And.intro (uC Try.prog c25_8.eq_1) (And.intro (uC Try.prog c25_9.eq_1) (And.intro (uR Try.prog c25_10.eq_1) (And.intro (uR Try.prog c25_11.eq_1) (And.intro (uC Try.prog c25_12.eq_1) (And.intro (uC Try.prog c25_13.eq_1) (And.intro (uC Try.prog c25_14.eq_1) (And.intro (uC Try.prog c25_15.eq_1) (And.intro (uR Try.prog c25_16.eq_1) (And.intro (uC Try.prog c25_17.eq_1) (And.intro (uC Try.prog c25_18.eq_1) (And.intro (uC Try.prog c25_19.eq_1) (And.intro (uC Try.prog c25_20.eq_1) (And.intro (uC Try.prog c25_21.eq_1) (And.intro (uR Try.prog c25_22.eq_1) (And.intro (uC Try.prog c25_23.eq_1) (And.intro (uC Try.prog c25_24.eq_1) (And.intro (uC Try.prog c25_25.eq_1) (And.intro (uC Try.prog c25_26.eq_1) (uC Try.prog c25.eq_1))))))))))))))))))))))))))))
def v25 : List RV := [.t 4]
theorem s25 : slimF Try.prog Try.f25 = some (c25.bare, v25) := by kernel_rfl

/-! 65 loop.example/g00066/laws.eqClip: parameters 2, live [0, 1], slots [0:a, 1:b, 2:a, 3:b] -/
def c65_0 : List SOper := [⟨some 2, .a (.box (.t 0)), none⟩, ⟨some 3, .a (.box (.t 1)), none⟩, ⟨some 4, .q (.mv (.c (.bool false))), none⟩]
def c65_1 : List SOper := [⟨some 5, .q (.fa 0 (.t 2)), none⟩, ⟨some 6, .q (.ld (.t 5)), none⟩, ⟨some 7, .q (.fa 0 (.t 3)), none⟩, ⟨some 8, .q (.ld (.t 7)), none⟩, ⟨some 9, .q (.bin .neq (.t 6) (.t 8)), none⟩]
def c65_2 : List SOper := [⟨some 4, .q (.mv (.c (.bool false))), none⟩]
def c65_3 : SCode := .seq (.region c65_2 [4]) .ret
def c65_4 : SCode := .cond (.t 9) c65_3 .skip
def c65_5 : SCode := .seq (.region c65_1 [2, 3, 9]) c65_4
def c65_6 : List SOper := [⟨some 10, .q (.fa 1 (.t 2)), none⟩, ⟨some 11, .q (.ld (.t 10)), none⟩, ⟨some 12, .q (.fa 1 (.t 3)), none⟩, ⟨some 13, .q (.ld (.t 12)), none⟩, ⟨some 14, .q (.bin .neq (.t 11) (.t 13)), none⟩]
def c65_7 : List SOper := [⟨some 4, .q (.mv (.c (.bool false))), none⟩]
def c65_8 : SCode := .seq (.region c65_7 [4]) .ret
def c65_9 : SCode := .cond (.t 14) c65_8 .skip
def c65_10 : SCode := .seq (.region c65_6 [2, 3, 14]) c65_9
def c65_11 : List SOper := [⟨some 15, .q (.fa 2 (.t 2)), none⟩, ⟨some 16, .q (.ld (.t 15)), none⟩, ⟨some 17, .q (.fa 2 (.t 3)), none⟩, ⟨some 18, .q (.ld (.t 17)), none⟩, ⟨some 19, .q (.bin .neq (.t 16) (.t 18)), none⟩]
def c65_12 : List SOper := [⟨some 4, .q (.mv (.c (.bool false))), none⟩]
def c65_13 : SCode := .seq (.region c65_12 [4]) .ret
def c65_14 : SCode := .cond (.t 19) c65_13 .skip
def c65_15 : SCode := .seq (.region c65_11 [19]) c65_14
def c65_16 : List SOper := [⟨some 4, .q (.mv (.c (.bool true))), none⟩]
def c65_17 : SCode := .seq (.region c65_16 [4]) .ret
def c65_18 : SCode := .seq c65_15 c65_17
def c65_19 : SCode := .seq c65_10 c65_18
def c65_20 : SCode := .seq c65_5 c65_19
def c65_21 : SCode := .seq (.region c65_0 [2, 3]) c65_20
def c65 : SCode := c65_21
theorem w65 : type_of% (And.intro (uR Try.prog c65_0.eq_1) (And.intro (uR Try.prog c65_1.eq_1) (And.intro (uR Try.prog c65_2.eq_1) (And.intro (uC Try.prog c65_3.eq_1) (And.intro (uC Try.prog c65_4.eq_1) (And.intro (uC Try.prog c65_5.eq_1) (And.intro (uR Try.prog c65_6.eq_1) (And.intro (uR Try.prog c65_7.eq_1) (And.intro (uC Try.prog c65_8.eq_1) (And.intro (uC Try.prog c65_9.eq_1) (And.intro (uC Try.prog c65_10.eq_1) (And.intro (uR Try.prog c65_11.eq_1) (And.intro (uR Try.prog c65_12.eq_1) (And.intro (uC Try.prog c65_13.eq_1) (And.intro (uC Try.prog c65_14.eq_1) (And.intro (uC Try.prog c65_15.eq_1) (And.intro (uR Try.prog c65_16.eq_1) (And.intro (uC Try.prog c65_17.eq_1) (And.intro (uC Try.prog c65_18.eq_1) (And.intro (uC Try.prog c65_19.eq_1) (And.intro (uC Try.prog c65_20.eq_1) (And.intro (uC Try.prog c65_21.eq_1) (uC Try.prog c65.eq_1))))))))))))))))))))))) := (And.intro (uR Try.prog c65_0.eq_1) (And.intro (uR Try.prog c65_1.eq_1) (And.intro (uR Try.prog c65_2.eq_1) (And.intro (uC Try.prog c65_3.eq_1) (And.intro (uC Try.prog c65_4.eq_1) (And.intro (uC Try.prog c65_5.eq_1) (And.intro (uR Try.prog c65_6.eq_1) (And.intro (uR Try.prog c65_7.eq_1) (And.intro (uC Try.prog c65_8.eq_1) (And.intro (uC Try.prog c65_9.eq_1) (And.intro (uC Try.prog c65_10.eq_1) (And.intro (uR Try.prog c65_11.eq_1) (And.intro (uR Try.prog c65_12.eq_1) (And.intro (uC Try.prog c65_13.eq_1) (And.intro (uC Try.prog c65_14.eq_1) (And.intro (uC Try.prog c65_15.eq_1) (And.intro (uR Try.prog c65_16.eq_1) (And.intro (uC Try.prog c65_17.eq_1) (And.intro (uC Try.prog c65_18.eq_1) (And.intro (uC Try.prog c65_19.eq_1) (And.intro (uC Try.prog c65_20.eq_1) (And.intro (uC Try.prog c65_21.eq_1) (uC Try.prog c65.eq_1)))))))))))))))))))))))
def v65 : List RV := [.t 4]
theorem s65 : slimF Try.prog Try.f65 = some (c65.bare, v65) := by kernel_rfl

/-! 27 loop.example/g00066/laws.markClipS: parameters 2, live [0, 1], slots [0:a, 1:k, 2:a, 3:k, 5:i] -/
def c27_0 : List SOper := [⟨some 4, .q (.mv (.c (.int .i64 0))), none⟩]
def c27_1 : List SOper := [⟨some 5, .q (.mv (.c (.int .i64 0))), none⟩]
def c27_2 : List SOper := [⟨some 6, .q (.mv (.t 5)), none⟩, ⟨some 7, .q (.mv (.t 0)), none⟩, ⟨some 8, .q (.len (.t 7)), none⟩, ⟨some 9, .q (.bin .lss (.t 6) (.t 8)), none⟩]
def c27_3 : SCode := .cond (.t 9) .skip (.exit 0)
def c27_4 : SCode := .seq (.region c27_2 [0, 1, 5, 9]) c27_3
def c27_5 : List SOper := [⟨some 12, .q (.mv (.t 0)), none⟩, ⟨some 13, .q (.mv (.t 5)), none⟩, ⟨some 14, .q (.mv (.t 1)), none⟩, ⟨some 15, .q (.ia 3 (.t 12) (.t 13)), none⟩, ⟨some 16, .q (.fa 0 (.t 15)), none⟩, ⟨none, .e (.st 1 (.t 16) (.t 14)), none⟩]
def c27_6 : List SOper := [⟨some 17, .q (.mv (.t 1)), none⟩, ⟨some 18, .q (.bin .add (.t 17) (.c (.int .i64 1))), none⟩, ⟨some 1, .q (.mv (.t 18)), none⟩]
def c27_7 : List SOper := [⟨some 19, .q (.mv (.t 0)), none⟩, ⟨some 20, .q (.mv (.t 5)), none⟩, ⟨some 21, .q (.mv (.t 1)), none⟩, ⟨some 22, .q (.ia 3 (.t 19) (.t 20)), none⟩, ⟨some 23, .q (.fa 1 (.t 22)), none⟩, ⟨none, .e (.st 1 (.t 23) (.t 21)), none⟩]
def c27_8 : List SOper := [⟨some 24, .q (.mv (.t 1)), none⟩, ⟨some 25, .q (.bin .add (.t 24) (.c (.int .i64 1))), none⟩, ⟨some 1, .q (.mv (.t 25)), none⟩]
def c27_9 : List SOper := [⟨some 26, .q (.mv (.t 0)), none⟩, ⟨some 27, .q (.mv (.t 5)), none⟩, ⟨some 28, .q (.mv (.t 1)), none⟩, ⟨some 29, .q (.ia 3 (.t 26) (.t 27)), none⟩, ⟨some 30, .q (.fa 2 (.t 29)), none⟩, ⟨none, .e (.st 1 (.t 30) (.t 28)), none⟩]
def c27_10 : List SOper := [⟨some 31, .q (.mv (.t 1)), none⟩, ⟨some 32, .q (.bin .add (.t 31) (.c (.int .i64 1))), none⟩, ⟨some 1, .q (.mv (.t 32)), none⟩]
def c27_11 : SCode := .seq (.region c27_9 [0, 1, 5]) (.region c27_10 [0, 1, 5])
def c27_12 : SCode := .seq (.region c27_8 [0, 1, 5]) c27_11
def c27_13 : SCode := .seq (.region c27_7 [0, 1, 5]) c27_12
def c27_14 : SCode := .seq (.region c27_6 [0, 1, 5]) c27_13
def c27_15 : SCode := .seq (.region c27_5 [0, 1, 5]) c27_14
def c27_16 : SCode := .block 1 c27_15
def c27_17 : List SOper := [⟨some 10, .q (.mv (.t 5)), none⟩, ⟨some 11, .q (.bin .add (.t 10) (.c (.int .i64 1))), none⟩, ⟨some 5, .q (.mv (.t 11)), none⟩]
def c27_18 : SCode := .seq c27_16 (.region c27_17 [0, 1, 5])
def c27_19 : SCode := .seq c27_4 c27_18
def c27_20 : SCode := .loop c27_19
def c27_21 : SCode := .block 0 c27_20
def c27_22 : SCode := .seq (.region c27_1 [0, 1, 5]) c27_21
def c27_23 : List SOper := [⟨some 33, .q (.mv (.t 1)), none⟩, ⟨some 4, .q (.mv (.t 33)), none⟩]
def c27_24 : SCode := .seq (.region c27_23 [4]) .ret
def c27_25 : SCode := .seq c27_22 c27_24
def c27_26 : SCode := .seq (.region c27_0 [0, 1]) c27_25
def c27 : SCode := c27_26
theorem w27 : type_of% (And.intro (uR Try.prog c27_0.eq_1) (And.intro (uR Try.prog c27_1.eq_1) (And.intro (uR Try.prog c27_2.eq_1) (And.intro (uC Try.prog c27_3.eq_1) (And.intro (uC Try.prog c27_4.eq_1) (And.intro (uR Try.prog c27_5.eq_1) (And.intro (uR Try.prog c27_6.eq_1) (And.intro (uR Try.prog c27_7.eq_1) (And.intro (uR Try.prog c27_8.eq_1) (And.intro (uR Try.prog c27_9.eq_1) (And.intro (uR Try.prog c27_10.eq_1) (And.intro (uC Try.prog c27_11.eq_1) (And.intro (uC Try.prog c27_12.eq_1) (And.intro (uC Try.prog c27_13.eq_1) (And.intro (uC Try.prog c27_14.eq_1) (And.intro (uC Try.prog c27_15.eq_1) (And.intro (uC Try.prog c27_16.eq_1) (And.intro (uR Try.prog c27_17.eq_1) (And.intro (uC Try.prog c27_18.eq_1) (And.intro (uC Try.prog c27_19.eq_1) (And.intro (uC Try.prog c27_20.eq_1) (And.intro (uC Try.prog c27_21.eq_1) (And.intro (uC Try.prog c27_22.eq_1) (And.intro (uR Try.prog c27_23.eq_1) (And.intro (uC Try.prog c27_24.eq_1) (And.intro (uC Try.prog c27_25.eq_1) (And.intro (uC Try.prog c27_26.eq_1) (uC Try.prog c27.eq_1)))))))))))))))))))))))))))) := (And.intro (uR Try.prog c27_0.eq_1) (And.intro (uR Try.prog c27_1.eq_1) (And.intro (uR Try.prog c27_2.eq_1) (And.intro (uC Try.prog c27_3.eq_1) (And.intro (uC Try.prog c27_4.eq_1) (And.intro (uR Try.prog c27_5.eq_1) (And.intro (uR Try.prog c27_6.eq_1) (And.intro (uR Try.prog c27_7.eq_1) (And.intro (uR Try.prog c27_8.eq_1) (And.intro (uR Try.prog c27_9.eq_1) (And.intro (uR Try.prog c27_10.eq_1) (And.intro (uC Try.prog c27_11.eq_1) (And.intro (uC Try.prog c27_12.eq_1) (And.intro (uC Try.prog c27_13.eq_1) (And.intro (uC Try.prog c27_14.eq_1) (And.intro (uC Try.prog c27_15.eq_1) (And.intro (uC Try.prog c27_16.eq_1) (And.intro (uR Try.prog c27_17.eq_1) (And.intro (uC Try.prog c27_18.eq_1) (And.intro (uC Try.prog c27_19.eq_1) (And.intro (uC Try.prog c27_20.eq_1) (And.intro (uC Try.prog c27_21.eq_1) (And.intro (uC Try.prog c27_22.eq_1) (And.intro (uR Try.prog c27_23.eq_1) (And.intro (uC Try.prog c27_24.eq_1) (And.intro (uC Try.prog c27_25.eq_1) (And.intro (uC Try.prog c27_26.eq_1) (uC Try.prog c27.eq_1))))))))))))))))))))))))))))
def v27 : List RV := [.t 4]
theorem s27 : slimF Try.prog Try.f27 = some (c27.bare, v27) := by kernel_rfl

/-! 29 loop.example/g00066/laws.heldClipS: parameters 2, live [0, 1], slots [0:a, 1:k, 2:a, 3:k, 5:i] -/
def c29_0 : List SOper := [⟨some 4, .q (.mv (.c (.int .i64 0))), none⟩]
def c29_1 : List SOper := [⟨some 5, .q (.mv (.c (.int .i64 0))), none⟩]
def c29_2 : List SOper := [⟨some 6, .q (.mv (.t 5)), none⟩, ⟨some 7, .q (.mv (.t 0)), none⟩, ⟨some 8, .q (.len (.t 7)), none⟩, ⟨some 9, .q (.bin .lss (.t 6) (.t 8)), none⟩]
def c29_3 : SCode := .cond (.t 9) .skip (.exit 0)
def c29_4 : SCode := .seq (.region c29_2 [0, 1, 5, 9]) c29_3
def c29_5 : List SOper := [⟨some 12, .q (.mv (.t 0)), none⟩, ⟨some 13, .q (.mv (.t 5)), none⟩, ⟨some 14, .q (.ia 3 (.t 12) (.t 13)), none⟩, ⟨some 15, .q (.fa 0 (.t 14)), none⟩, ⟨some 16, .q (.ld (.t 15)), none⟩, ⟨some 17, .q (.mv (.t 1)), none⟩, ⟨some 18, .q (.bin .neq (.t 16) (.t 17)), none⟩]
def c29_6 : List SOper := [⟨some 4, .q (.mv (.c (.int .i64 (-1)))), none⟩]
def c29_7 : SCode := .seq (.region c29_6 [4]) .ret
def c29_8 : SCode := .cond (.t 18) c29_7 .skip
def c29_9 : SCode := .seq (.region c29_5 [0, 1, 5, 18]) c29_8
def c29_10 : List SOper := [⟨some 19, .q (.mv (.t 1)), none⟩, ⟨some 20, .q (.bin .add (.t 19) (.c (.int .i64 1))), none⟩, ⟨some 1, .q (.mv (.t 20)), none⟩]
def c29_11 : List SOper := [⟨some 21, .q (.mv (.t 0)), none⟩, ⟨some 22, .q (.mv (.t 5)), none⟩, ⟨some 23, .q (.ia 3 (.t 21) (.t 22)), none⟩, ⟨some 24, .q (.fa 1 (.t 23)), none⟩, ⟨some 25, .q (.ld (.t 24)), none⟩, ⟨some 26, .q (.mv (.t 1)), none⟩, ⟨some 27, .q (.bin .neq (.t 25) (.t 26)), none⟩]
def c29_12 : List SOper := [⟨some 4, .q (.mv (.c (.int .i64 (-1)))), none⟩]
def c29_13 : SCode := .seq (.region c29_12 [4]) .ret
def c29_14 : SCode := .cond (.t 27) c29_13 .skip
def c29_15 : SCode := .seq (.region c29_11 [0, 1, 5, 27]) c29_14
def c29_16 : List SOper := [⟨some 28, .q (.mv (.t 1)), none⟩, ⟨some 29, .q (.bin .add (.t 28) (.c (.int .i64 1))), none⟩, ⟨some 1, .q (.mv (.t 29)), none⟩]
def c29_17 : List SOper := [⟨some 30, .q (.mv (.t 0)), none⟩, ⟨some 31, .q (.mv (.t 5)), none⟩, ⟨some 32, .q (.ia 3 (.t 30) (.t 31)), none⟩, ⟨some 33, .q (.fa 2 (.t 32)), none⟩, ⟨some 34, .q (.ld (.t 33)), none⟩, ⟨some 35, .q (.mv (.t 1)), none⟩, ⟨some 36, .q (.bin .neq (.t 34) (.t 35)), none⟩]
def c29_18 : List SOper := [⟨some 4, .q (.mv (.c (.int .i64 (-1)))), none⟩]
def c29_19 : SCode := .seq (.region c29_18 [4]) .ret
def c29_20 : SCode := .cond (.t 36) c29_19 .skip
def c29_21 : SCode := .seq (.region c29_17 [0, 1, 5, 36]) c29_20
def c29_22 : List SOper := [⟨some 37, .q (.mv (.t 1)), none⟩, ⟨some 38, .q (.bin .add (.t 37) (.c (.int .i64 1))), none⟩, ⟨some 1, .q (.mv (.t 38)), none⟩]
def c29_23 : SCode := .seq c29_21 (.region c29_22 [0, 1, 5])
def c29_24 : SCode := .seq (.region c29_16 [0, 1, 5]) c29_23
def c29_25 : SCode := .seq c29_15 c29_24
def c29_26 : SCode := .seq (.region c29_10 [0, 1, 5]) c29_25
def c29_27 : SCode := .seq c29_9 c29_26
def c29_28 : SCode := .block 1 c29_27
def c29_29 : List SOper := [⟨some 10, .q (.mv (.t 5)), none⟩, ⟨some 11, .q (.bin .add (.t 10) (.c (.int .i64 1))), none⟩, ⟨some 5, .q (.mv (.t 11)), none⟩]
def c29_30 : SCode := .seq c29_28 (.region c29_29 [0, 1, 5])
def c29_31 : SCode := .seq c29_4 c29_30
def c29_32 : SCode := .loop c29_31
def c29_33 : SCode := .block 0 c29_32
def c29_34 : SCode := .seq (.region c29_1 [0, 1, 5]) c29_33
def c29_35 : List SOper := [⟨some 39, .q (.mv (.t 1)), none⟩, ⟨some 4, .q (.mv (.t 39)), none⟩]
def c29_36 : SCode := .seq (.region c29_35 [4]) .ret
def c29_37 : SCode := .seq c29_34 c29_36
def c29_38 : SCode := .seq (.region c29_0 [0, 1]) c29_37
def c29 : SCode := c29_38
theorem w29 : type_of% (And.intro (uR Try.prog c29_0.eq_1) (And.intro (uR Try.prog c29_1.eq_1) (And.intro (uR Try.prog c29_2.eq_1) (And.intro (uC Try.prog c29_3.eq_1) (And.intro (uC Try.prog c29_4.eq_1) (And.intro (uR Try.prog c29_5.eq_1) (And.intro (uR Try.prog c29_6.eq_1) (And.intro (uC Try.prog c29_7.eq_1) (And.intro (uC Try.prog c29_8.eq_1) (And.intro (uC Try.prog c29_9.eq_1) (And.intro (uR Try.prog c29_10.eq_1) (And.intro (uR Try.prog c29_11.eq_1) (And.intro (uR Try.prog c29_12.eq_1) (And.intro (uC Try.prog c29_13.eq_1) (And.intro (uC Try.prog c29_14.eq_1) (And.intro (uC Try.prog c29_15.eq_1) (And.intro (uR Try.prog c29_16.eq_1) (And.intro (uR Try.prog c29_17.eq_1) (And.intro (uR Try.prog c29_18.eq_1) (And.intro (uC Try.prog c29_19.eq_1) (And.intro (uC Try.prog c29_20.eq_1) (And.intro (uC Try.prog c29_21.eq_1) (And.intro (uR Try.prog c29_22.eq_1) (And.intro (uC Try.prog c29_23.eq_1) (And.intro (uC Try.prog c29_24.eq_1) (And.intro (uC Try.prog c29_25.eq_1) (And.intro (uC Try.prog c29_26.eq_1) (And.intro (uC Try.prog c29_27.eq_1) (And.intro (uC Try.prog c29_28.eq_1) (And.intro (uR Try.prog c29_29.eq_1) (And.intro (uC Try.prog c29_30.eq_1) (And.intro (uC Try.prog c29_31.eq_1) (And.intro (uC Try.prog c29_32.eq_1) (And.intro (uC Try.prog c29_33.eq_1) (And.intro (uC Try.prog c29_34.eq_1) (And.intro (uR Try.prog c29_35.eq_1) (And.intro (uC Try.prog c29_36.eq_1) (And.intro (uC Try.prog c29_37.eq_1) (And.intro (uC Try.prog c29_38.eq_1) (uC Try.prog c29.eq_1)))))))))))))))))))))))))))))))))))))))) := (And.intro (uR Try.prog c29_0.eq_1) (And.intro (uR Try.prog c29_1.eq_1) (And.intro (uR Try.prog c29_2.eq_1) (And.intro (uC Try.prog c29_3.eq_1) (And.intro (uC Try.prog c29_4.eq_1) (And.intro (uR Try.prog c29_5.eq_1) (And.intro (uR Try.prog c29_6.eq_1) (And.intro (uC Try.prog c29_7.eq_1) (And.intro (uC Try.prog c29_8.eq_1) (And.intro (uC Try.prog c29_9.eq_1) (And.intro (uR Try.prog c29_10.eq_1) (And.intro (uR Try.prog c29_11.eq_1) (And.intro (uR Try.prog c29_12.eq_1) (And.intro (uC Try.prog c29_13.eq_1) (And.intro (uC Try.prog c29_14.eq_1) (And.intro (uC Try.prog c29_15.eq_1) (And.intro (uR Try.prog c29_16.eq_1) (And.intro (uR Try.prog c29_17.eq_1) (And.intro (uR Try.prog c29_18.eq_1) (And.intro (uC Try.prog c29_19.eq_1) (And.intro (uC Try.prog c29_20.eq_1) (And.intro (uC Try.prog c29_21.eq_1) (And.intro (uR Try.prog c29_22.eq_1) (And.intro (uC Try.prog c29_23.eq_1) (And.intro (uC Try.prog c29_24.eq_1) (And.intro (uC Try.prog c29_25.eq_1) (And.intro (uC Try.prog c29_26.eq_1) (And.intro (uC Try.prog c29_27.eq_1) (And.intro (uC Try.prog c29_28.eq_1) (And.intro (uR Try.prog c29_29.eq_1) (And.intro (uC Try.prog c29_30.eq_1) (And.intro (uC Try.prog c29_31.eq_1) (And.intro (uC Try.prog c29_32.eq_1) (And.intro (uC Try.prog c29_33.eq_1) (And.intro (uC Try.prog c29_34.eq_1) (And.intro (uR Try.prog c29_35.eq_1) (And.intro (uC Try.prog c29_36.eq_1) (And.intro (uC Try.prog c29_37.eq_1) (And.intro (uC Try.prog c29_38.eq_1) (uC Try.prog c29.eq_1))))))))))))))))))))))))))))))))))))))))
def v29 : List RV := [.t 4]
theorem s29 : slimF Try.prog Try.f29 = some (c29.bare, v29) := by kernel_rfl

structure Clip where
  src : Int
  inn : Int
  len : Int
  deriving DecidableEq
def zClip : Clip := ⟨0, 0, 0⟩
def encClip (k : Clip) : List Value := [.int .i64 k.src, .int .i64 k.inn, .int .i64 k.len]
theorem encClip_len (k : Clip) : (encClip k).length = 3 := rfl
theorem take_set_rep {α : Type} (l : List α) (z : α) (i : Nat) (hi : i < l.length) : (l.take i ++ List.replicate (l.length - i) z).set i l[i] = l.take (i + 1) ++ List.replicate (l.length - (i + 1)) z := by
  have hlen : (l.take i).length = i := by simp; omega
  rw [show l.length - i = (l.length - (i + 1)) + 1 by omega, List.replicate_succ, List.set_append_right _ _ (by omega), hlen, Nat.sub_self, List.set_cons_zero,
    List.take_succ_eq_append_getElem hi, List.append_assoc]
  rfl
theorem toClip_ok (h : Heap) (k : Clip) : ACall Try.prog 63 [.agg (encClip k).toArray] h fun r h' => Ext h h' ∧ r = .agg (encClip k).toArray := by
  refine ACall.of Try.func63 s63 (of_decide_eq_true rfl) ?_
  simp (maxSteps := 4000000) (disch := omega) only [ah, am, Nat.reduceEqDiff, reduceCtorEq, Nat.reduceAdd, Nat.reduceLeDiff, Nat.reduceMul, Nat.reduceLT, if_true, if_false, true_and, and_true, and_self, Nat.reduceBEq, QOp.loads, boxO, bslO, buildO, cutL, fillV, putL, w63, v63, encClip]
  exact Ext.more _ _
theorem eqClip_ok (h : Heap) (k k' : Clip) : ACall Try.prog 65 [.agg (encClip k).toArray, .agg (encClip k').toArray] h
    fun r h' => Ext h h' ∧ r = .bool (decide (k = k')) := by
  obtain ⟨a, b, c⟩ := k; obtain ⟨a', b', c'⟩ := k'
  refine ACall.of Try.func65 s65 (of_decide_eq_true rfl) ?_
  simp (maxSteps := 4000000) (disch := omega) only [ah, am, Nat.reduceEqDiff, reduceCtorEq, Nat.reduceAdd, Nat.reduceLeDiff, Nat.reduceMul, Nat.reduceLT, if_true, if_false, true_and, and_true, and_self, Nat.reduceBEq, QOp.loads, boxO, bslO, buildO, cutL, fillV, putL, w65, v65, encClip, stepI_dec]
  repeat' split
  all_goals exact ⟨Ext.more _ _, by simp [*]⟩

theorem szClipS_ok (h : Heap) (v : Value) (l : List Clip) (left : Int) (hs : SlT h encClip 3 v l) (h0 : 0 ≤ left) (h1 : left ≤ 1048576) (hl : l.length ≤ 9223372036854775807) :
    ACall Try.prog 20 [v, .int .i64 left] h fun r h' => h' = h ∧ r = .int .i64 (if left - l.length < 0 then -1 else left - l.length) := by
  refine ACall.of Try.func20 s20 (of_decide_eq_true rfl) ?_
  have R := hs.rules
  have W : IntKind.i64.wrap (left - l.length) = left - l.length := i64e (by omega) (by omega)
  simp (maxSteps := 4000000) (disch := omega) only [ah, am, Nat.reduceEqDiff, reduceCtorEq, Nat.reduceAdd, Nat.reduceLeDiff, Nat.reduceMul, Nat.reduceLT, if_true, if_false, true_and, and_true, and_self, Nat.reduceBEq, QOp.loads, boxO, bslO, buildO, cutL, fillV, putL, w20, v20, R, W, stepI_dec]
  split <;> simp
theorem toClipS_ok (h : Heap) (v : Value) (l : List Clip) (hs : SlT h encClip 3 v l) (hl : l.length ≤ 1048576) :
    ACall Try.prog 23 [v] h fun r h' => Fresh h h' encClip 3 r l := by
  refine ACall.of Try.func23 s23 (of_decide_eq_true rfl) ?_
  have R := hs.rulesN
  simp (maxSteps := 4000000) (disch := omega) only [ah, am, Nat.reduceEqDiff, reduceCtorEq, Nat.reduceAdd, Nat.reduceLeDiff, Nat.reduceMul, Nat.reduceLT, if_true, if_false, true_and, and_true, and_self, Nat.reduceBEq, QOp.loads, boxO, bslO, buildO, cutL, fillV, putL, w23, v23, R, mksV_nat]
  refine SW_loop_up (fun i E H => ∃ ov, E = [(0, v), (3, ov), (4, .int .i64 i)] ∧ Fresh h H encClip 3 ov (l.take i ++ List.replicate (l.length - i) zClip)) l.length 0 (by omega)
    ⟨_, rfl, by have := Fresh.newR (sz := 3) h l.length zClip encClip_len (by omega); simpa [encClip, zClip] using this⟩ ?_
  rintro i E H hi ⟨ov, rfl, F⟩
  have R := (hs.ext F.1).rulesN
  have W : IntKind.i64.wrap ((i : Int) + 1) = ((i + 1 : Nat) : Int) := i64e (by omega) (by omega)
  simp (maxSteps := 4000000) (disch := omega) only [ah, am, Nat.reduceEqDiff, reduceCtorEq, Nat.reduceAdd, Nat.reduceLeDiff, Nat.reduceMul, Nat.reduceLT, if_true, if_false, true_and, and_true, and_self, Nat.reduceBEq, QOp.loads, boxO, bslO, buildO, cutL, fillV, putL, w23, v23, R, W]
  refine stepI.split (fun hp => ?_) (fun hp => ?_)
  · simp (maxSteps := 4000000) (disch := omega) only [ah, am, Nat.reduceEqDiff, reduceCtorEq, Nat.reduceAdd, Nat.reduceLeDiff, Nat.reduceMul, Nat.reduceLT, if_true, if_false, true_and, and_true, and_self, Nat.reduceBEq, QOp.loads, boxO, bslO, buildO, cutL, fillV, putL, w23, v23, R, W]
    refine stepC.of (toClip_ok _ _) ?_
    rintro r H1 ⟨e1, rfl⟩
    have F1 := F.ext e1
    obtain ⟨H2, es, F2, hsz⟩ := F1.set (j := i) (by simp; omega) l[i] rfl
    have R2 := F1.slt.rulesN
    simp only [List.length_append, List.length_take, List.length_replicate] at R2
    simp (maxSteps := 4000000) (disch := omega) only [ah, am, Nat.reduceEqDiff, reduceCtorEq, Nat.reduceAdd, Nat.reduceLeDiff, Nat.reduceMul, Nat.reduceLT, if_true, if_false, true_and, and_true, and_self, Nat.reduceBEq, QOp.loads, boxO, bslO, buildO, cutL, fillV, putL, w23, v23, R2, es, W]
    refine ⟨by omega, _, rfl, ?_⟩
    rw [show List.take (i + 1) l ++ List.replicate (l.length - (i + 1)) zClip = (l.take i ++ List.replicate (l.length - i) zClip).set i l[i] from (take_set_rep l zClip i (by omega)).symm]
    exact F2
  · simp (maxSteps := 4000000) (disch := omega) only [ah, am, Nat.reduceEqDiff, reduceCtorEq, Nat.reduceAdd, Nat.reduceLeDiff, Nat.reduceMul, Nat.reduceLT, if_true, if_false, true_and, and_true, and_self, Nat.reduceBEq, QOp.loads, boxO, bslO, buildO, cutL, fillV, putL, w23, v23, R, W]
    obtain rfl : i = l.length := by omega
    simpa using F
theorem eqClipS_ok (h : Heap) (v v' : Value) (l l' : List Clip) (hs : SlT h encClip 3 v l) (hs' : SlT h encClip 3 v' l') (hl : l.length ≤ 281474976710656) (hl' : l'.length ≤ 281474976710656) :
    ACall Try.prog 25 [v, v'] h fun r h' => Ext h h' ∧ r = .bool (decide (l = l')) := by
  refine ACall.of Try.func25 s25 (of_decide_eq_true rfl) ?_
  have R := hs.rulesN
  have R' := hs'.rulesN
  simp (maxSteps := 4000000) (disch := omega) only [ah, am, Nat.reduceEqDiff, reduceCtorEq, Nat.reduceAdd, Nat.reduceLeDiff, Nat.reduceMul, Nat.reduceLT, if_true, if_false, true_and, and_true, and_self, Nat.reduceBEq, QOp.loads, boxO, bslO, buildO, cutL, fillV, putL, w25, v25, R, R']
  refine stepI.split (fun hp => ?_) (fun hp => ?_)
  rotate_left
  · simp (maxSteps := 4000000) (disch := omega) only [ah, am, Nat.reduceEqDiff, reduceCtorEq, Nat.reduceAdd, Nat.reduceLeDiff, Nat.reduceMul, Nat.reduceLT, if_true, if_false, true_and, and_true, and_self, Nat.reduceBEq, QOp.loads, boxO, bslO, buildO, cutL, fillV, putL, w25, v25]
    exact ⟨Ext.refl h, by rw [decide_eq_false]; rintro rfl; exact hp rfl⟩
  have hll : l.length = l'.length := by omega
  simp (maxSteps := 4000000) (disch := omega) only [ah, am, Nat.reduceEqDiff, reduceCtorEq, Nat.reduceAdd, Nat.reduceLeDiff, Nat.reduceMul, Nat.reduceLT, if_true, if_false, true_and, and_true, and_self, Nat.reduceBEq, QOp.loads, boxO, bslO, buildO, cutL, fillV, putL, w25, v25]
  refine SW_loop_up (fun i E H => E = [(0, v), (1, v'), (5, .int .i64 i)] ∧ Ext h H ∧ ∀ j (h1 : j < i) (h2 : j < l.length), l[j] = l'[j]) l.length 0 (by omega)
    ⟨rfl, .refl h, fun j h1 h2 => absurd h1 (by omega)⟩ ?_
  rintro i E H hi ⟨rfl, e, F⟩
  have R := (hs.ext e).rulesN
  have R' := (hs'.ext e).rulesN
  have W : IntKind.i64.wrap ((i : Int) + 1) = ((i + 1 : Nat) : Int) := i64e (by omega) (by omega)
  simp (maxSteps := 4000000) (disch := omega) only [ah, am, Nat.reduceEqDiff, reduceCtorEq, Nat.reduceAdd, Nat.reduceLeDiff, Nat.reduceMul, Nat.reduceLT, if_true, if_false, true_and, and_true, and_self, Nat.reduceBEq, QOp.loads, boxO, bslO, buildO, cutL, fillV, putL, w25, v25, R, R', W]
  refine stepI.split (fun hp => ?_) (fun hp => ?_)
  · simp (maxSteps := 4000000) (disch := omega) only [ah, am, Nat.reduceEqDiff, reduceCtorEq, Nat.reduceAdd, Nat.reduceLeDiff, Nat.reduceMul, Nat.reduceLT, if_true, if_false, true_and, and_true, and_self, Nat.reduceBEq, QOp.loads, boxO, bslO, buildO, cutL, fillV, putL, w25, v25, R, R', W]
    refine stepC.of (eqClip_ok _ _ _) ?_
    rintro r H1 ⟨e1, rfl⟩
    simp (maxSteps := 4000000) (disch := omega) only [ah, am, Nat.reduceEqDiff, reduceCtorEq, Nat.reduceAdd, Nat.reduceLeDiff, Nat.reduceMul, Nat.reduceLT, if_true, if_false, true_and, and_true, and_self, Nat.reduceBEq, QOp.loads, boxO, bslO, buildO, cutL, fillV, putL, w25, v25, R, R', W]
    refine stepI.split (fun hq => ?_) (fun hq => ?_)
    · simp (maxSteps := 4000000) (disch := omega) only [ah, am, Nat.reduceEqDiff, reduceCtorEq, Nat.reduceAdd, Nat.reduceLeDiff, Nat.reduceMul, Nat.reduceLT, if_true, if_false, true_and, and_true, and_self, Nat.reduceBEq, QOp.loads, boxO, bslO, buildO, cutL, fillV, putL, w25, v25, W]
      exact ⟨by omega, e.trans e1, fun j h1 h2 => by
        by_cases hj : j = i
        · subst hj; exact hq
        · exact F j (by omega) h2⟩
    · simp (maxSteps := 4000000) (disch := omega) only [ah, am, Nat.reduceEqDiff, reduceCtorEq, Nat.reduceAdd, Nat.reduceLeDiff, Nat.reduceMul, Nat.reduceLT, if_true, if_false, true_and, and_true, and_self, Nat.reduceBEq, QOp.loads, boxO, bslO, buildO, cutL, fillV, putL, w25, v25, W]
      exact ⟨e.trans e1, by rw [decide_eq_false]; rintro rfl; exact hq rfl⟩
  · simp (maxSteps := 4000000) (disch := omega) only [ah, am, Nat.reduceEqDiff, reduceCtorEq, Nat.reduceAdd, Nat.reduceLeDiff, Nat.reduceMul, Nat.reduceLT, if_true, if_false, true_and, and_true, and_self, Nat.reduceBEq, QOp.loads, boxO, bslO, buildO, cutL, fillV, putL, w25, v25, R, W]
    refine ⟨e, ?_⟩
    rw [decide_eq_true]
    exact List.ext_getElem hll fun j h1 h2 => F j (by omega) h1
def markClip (k : Int) (n : Nat) : List Clip := (List.range n).map fun i : Nat => ⟨k + 3 * (i : Int), k + 3 * (i : Int) + 1, k + 3 * (i : Int) + 2⟩
theorem mark_step {α : Type} (f : Nat → α) (l : List α) (i : Nat) (hi : i < l.length) : ((List.range i).map f ++ l.drop i).set i (f i) = (List.range (i + 1)).map f ++ l.drop (i + 1) := by
  rw [List.set_append_right _ _ (by simp), List.length_map, List.length_range, Nat.sub_self, List.drop_eq_getElem_cons hi, List.set_cons_zero, List.range_succ, List.map_append, List.append_assoc]
  rfl
theorem markClipS_ok (h : Heap) (g : Nat) (v : Value) (l : List Clip) (k : Int) (o : OwnT g h encClip 3 v l) (hl : l.length ≤ 1000000000) (hk : 0 ≤ k ∧ k ≤ 1000000000000) :
    ACall Try.prog 27 [v, .int .i64 k] h fun r h' => ExtG g h h' ∧ OwnT g h' encClip 3 v (markClip k l.length) ∧ r = .int .i64 (k + 3 * l.length) := by
  refine ACall.of Try.func27 s27 (of_decide_eq_true rfl) ?_
  have R := o.slt.rulesN
  simp (maxSteps := 4000000) (disch := omega) only [ah, am, Nat.reduceEqDiff, reduceCtorEq, Nat.reduceAdd, Nat.reduceLeDiff, Nat.reduceMul, Nat.reduceLT, if_true, if_false, true_and, and_true, and_self, Nat.reduceBEq, QOp.loads, boxO, bslO, buildO, cutL, fillV, putL, w27, v27, R]
  refine SW_loop_up (fun i E H => E = [(0, v), (1, .int .i64 (k + 3 * i)), (5, .int .i64 i)] ∧ ExtG g h H ∧ OwnT g H encClip 3 v (markClip k i ++ l.drop i)) l.length 0 (by omega)
    ⟨by simp, ExtG.refl g h, by simpa [markClip] using o⟩ ?_
  rintro i E H hi ⟨rfl, e, O⟩
  have hlen : (markClip k i ++ l.drop i).length = l.length := by simp [markClip]; omega
  have R := O.slt.rulesN
  simp only [hlen] at R
  have W : IntKind.i64.wrap ((i : Int) + 1) = ((i + 1 : Nat) : Int) := i64e (by omega) (by omega)
  have W1 : IntKind.i64.wrap (k + 3 * (i : Int) + 1) = k + 3 * (i : Int) + 1 := i64e (by omega) (by omega)
  have W2 : IntKind.i64.wrap (k + 3 * (i : Int) + 1 + 1) = k + 3 * (i : Int) + 2 := i64e (by omega) (by omega)
  have W3 : IntKind.i64.wrap (k + 3 * (i : Int) + 2 + 1) = k + 3 * ((i + 1 : Nat) : Int) := i64e (by omega) (by omega)
  simp (maxSteps := 4000000) (disch := omega) only [ah, am, Nat.reduceEqDiff, reduceCtorEq, Nat.reduceAdd, Nat.reduceLeDiff, Nat.reduceMul, Nat.reduceLT, if_true, if_false, true_and, and_true, and_self, Nat.reduceBEq, QOp.loads, boxO, bslO, buildO, cutL, fillV, putL, w27, v27, R, W]
  refine stepI.split (fun hp => ?_) (fun hp => ?_)
  · have hj : i < (markClip k i ++ l.drop i).length := by omega
    obtain ⟨H1, es1, O1, G1, -⟩ := O.setF (j := i) (f := 0) (n := 1) (y := .int .i64 (k + 3 * i)) (x := ⟨k + 3 * i, ((markClip k i ++ l.drop i)[i]).inn, ((markClip k i ++ l.drop i)[i]).len⟩) hj rfl (by omega) rfl (by omega) rfl
    obtain ⟨H2, es2, O2, G2, -⟩ := O1.setF (j := i) (f := 1) (n := 1) (y := .int .i64 (k + 3 * i + 1)) (x := ⟨k + 3 * i, k + 3 * i + 1, ((markClip k i ++ l.drop i)[i]).len⟩) (by simpa using hj) (by simp [encClip, splice, cells_int]) (by omega) rfl (by omega) rfl
    obtain ⟨H3, es3, O3, G3, -⟩ := O2.setF (j := i) (f := 2) (n := 1) (y := .int .i64 (k + 3 * i + 2)) (x := ⟨k + 3 * i, k + 3 * i + 1, k + 3 * i + 2⟩) (by simpa using hj) (by simp [encClip, splice, cells_int]) (by omega) rfl (by omega) rfl
    rw [List.set_set, List.set_set] at O3
    simp only [Nat.add_zero] at es1
    simp (maxSteps := 4000000) (disch := omega) only [ah, am, Nat.reduceEqDiff, reduceCtorEq, Nat.reduceAdd, Nat.reduceLeDiff, Nat.reduceMul, Nat.reduceLT, if_true, if_false, true_and, and_true, and_self, Nat.reduceBEq, QOp.loads, boxO, bslO, buildO, cutL, fillV, putL, w27, v27, R, es1, es2, es3, W, W1, W2, W3]
    refine ⟨by omega, ((e.trans G1).trans G2).trans G3, ?_⟩
    have := mark_step (fun i : Nat => (⟨k + 3 * (i : Int), k + 3 * (i : Int) + 1, k + 3 * (i : Int) + 2⟩ : Clip)) l i (by omega)
    unfold markClip at O3 ⊢
    rw [← this]; exact O3
  · simp (maxSteps := 4000000) (disch := omega) only [ah, am, Nat.reduceEqDiff, reduceCtorEq, Nat.reduceAdd, Nat.reduceLeDiff, Nat.reduceMul, Nat.reduceLT, if_true, if_false, true_and, and_true, and_self, Nat.reduceBEq, QOp.loads, boxO, bslO, buildO, cutL, fillV, putL, w27, v27]
    obtain rfl : i = l.length := by omega
    exact ⟨e, by simpa using O, rfl⟩
theorem heldClipS_ok (h : Heap) (v : Value) (n : Nat) (k : Int) (s : SlT h encClip 3 v (markClip k n)) (hl : n ≤ 1000000000) (hk : 0 ≤ k ∧ k ≤ 1000000000000) :
    ACall Try.prog 29 [v, .int .i64 k] h fun r h' => h' = h ∧ r = .int .i64 (k + 3 * n) := by
  refine ACall.of Try.func29 s29 (of_decide_eq_true rfl) ?_
  have R := s.rulesN
  have hn : (markClip k n).length = n := by simp [markClip]
  simp only [hn] at R
  simp (maxSteps := 4000000) (disch := omega) only [ah, am, Nat.reduceEqDiff, reduceCtorEq, Nat.reduceAdd, Nat.reduceLeDiff, Nat.reduceMul, Nat.reduceLT, if_true, if_false, true_and, and_true, and_self, Nat.reduceBEq, QOp.loads, boxO, bslO, buildO, cutL, fillV, putL, w29, v29, R]
  refine SW_loop_up (fun i E H => E = [(0, v), (1, .int .i64 (k + 3 * i)), (5, .int .i64 i)] ∧ H = h) n 0 (by omega) ⟨by simp, rfl⟩ ?_
  rintro i E H hi ⟨rfl, rfl⟩
  have W : IntKind.i64.wrap ((i : Int) + 1) = ((i + 1 : Nat) : Int) := i64e (by omega) (by omega)
  have W1 : IntKind.i64.wrap (k + 3 * (i : Int) + 1) = k + 3 * (i : Int) + 1 := i64e (by omega) (by omega)
  have W2 : IntKind.i64.wrap (k + 3 * (i : Int) + 1 + 1) = k + 3 * (i : Int) + 2 := i64e (by omega) (by omega)
  have W3 : IntKind.i64.wrap (k + 3 * (i : Int) + 2 + 1) = k + 3 * ((i + 1 : Nat) : Int) := i64e (by omega) (by omega)
  simp (maxSteps := 4000000) (disch := omega) only [ah, am, Nat.reduceEqDiff, reduceCtorEq, Nat.reduceAdd, Nat.reduceLeDiff, Nat.reduceMul, Nat.reduceLT, if_true, if_false, true_and, and_true, and_self, Nat.reduceBEq, QOp.loads, boxO, bslO, buildO, cutL, fillV, putL, w29, v29, R, W]
  refine stepI.split (fun hp => ?_) (fun hp => ?_)
  · have g : ∀ (hj : i < (markClip k n).length), encClip (markClip k n)[i] = [.int .i64 (k + 3 * i), .int .i64 (k + 3 * i + 1), .int .i64 (k + 3 * i + 2)] := by
      intro hj; simp [markClip, encClip]
    simp (maxSteps := 4000000) (disch := omega) only [ah, am, Nat.reduceEqDiff, reduceCtorEq, Nat.reduceAdd, Nat.reduceLeDiff, Nat.reduceMul, Nat.reduceLT, if_true, if_false, true_and, and_true, and_self, Nat.reduceBEq, QOp.loads, boxO, bslO, buildO, cutL, fillV, putL, w29, v29, R, g, W, W1, W2, W3, decide_true, stepI_true]
    omega
  · simp (maxSteps := 4000000) (disch := omega) only [ah, am, Nat.reduceEqDiff, reduceCtorEq, Nat.reduceAdd, Nat.reduceLeDiff, Nat.reduceMul, Nat.reduceLT, if_true, if_false, true_and, and_true, and_self, Nat.reduceBEq, QOp.loads, boxO, bslO, buildO, cutL, fillV, putL, w29, v29]
    obtain rfl : i = n := by omega
    rfl
end Go.Proofs.Ytbnppofkpgfhnaa
