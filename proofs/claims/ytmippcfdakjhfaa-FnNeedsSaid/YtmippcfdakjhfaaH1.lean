import Derived.Test.YtmippcfdakjhfaaProg
import Derived.Test.YtmippcfdakjhfaaAhT
namespace Go.Proofs.Ytmippcfdakjhfaa
open Go Go.Ah
set_option linter.unusedSimpArgs false
set_option linter.unusedVariables false
set_option maxRecDepth 10000
set_option maxHeartbeats 4000000
/-! 46 loop.example/g00066/laws.szClipS: parameters 2, live [0, 1], slots [0:a, 1:left, 2:a, 3:left] -/
def c46_0 : List SOper := [⟨some 4, .q (.mv (.c (.int .i64 0))), none⟩]
def c46_1 : List SOper := [⟨some 5, .q (.mv (.t 1)), none⟩, ⟨some 6, .q (.mv (.t 0)), none⟩, ⟨some 7, .q (.len (.t 6)), none⟩, ⟨some 8, .q (.bin .sub (.t 5) (.t 7)), none⟩, ⟨some 1, .q (.mv (.t 8)), none⟩]
def c46_2 : List SOper := [⟨some 9, .q (.mv (.t 1)), none⟩, ⟨some 10, .q (.bin .lss (.t 9) (.c (.int .i64 0))), none⟩]
def c46_3 : List SOper := [⟨some 4, .q (.mv (.c (.int .i64 (-1)))), none⟩]
def c46_4 : SCode := .seq (.region c46_3 [4]) .ret
def c46_5 : SCode := .cond (.t 10) c46_4 .skip
def c46_6 : SCode := .seq (.region c46_2 [1, 10]) c46_5
def c46_7 : List SOper := [⟨some 11, .q (.mv (.t 1)), none⟩, ⟨some 4, .q (.mv (.t 11)), none⟩]
def c46_8 : SCode := .seq (.region c46_7 [4]) .ret
def c46_9 : SCode := .seq c46_6 c46_8
def c46_10 : SCode := .seq (.region c46_1 [1]) c46_9
def c46_11 : SCode := .seq (.region c46_0 [0, 1]) c46_10
def c46 : SCode := c46_11
theorem w46 : type_of% (And.intro (uR Try.prog c46_0.eq_1) (And.intro (uR Try.prog c46_1.eq_1) (And.intro (uR Try.prog c46_2.eq_1) (And.intro (uR Try.prog c46_3.eq_1) (And.intro (uC Try.prog c46_4.eq_1) (And.intro (uC Try.prog c46_5.eq_1) (And.intro (uC Try.prog c46_6.eq_1) (And.intro (uR Try.prog c46_7.eq_1) (And.intro (uC Try.prog c46_8.eq_1) (And.intro (uC Try.prog c46_9.eq_1) (And.intro (uC Try.prog c46_10.eq_1) (And.intro (uC Try.prog c46_11.eq_1) (uC Try.prog c46.eq_1))))))))))))) := (And.intro (uR Try.prog c46_0.eq_1) (And.intro (uR Try.prog c46_1.eq_1) (And.intro (uR Try.prog c46_2.eq_1) (And.intro (uR Try.prog c46_3.eq_1) (And.intro (uC Try.prog c46_4.eq_1) (And.intro (uC Try.prog c46_5.eq_1) (And.intro (uC Try.prog c46_6.eq_1) (And.intro (uR Try.prog c46_7.eq_1) (And.intro (uC Try.prog c46_8.eq_1) (And.intro (uC Try.prog c46_9.eq_1) (And.intro (uC Try.prog c46_10.eq_1) (And.intro (uC Try.prog c46_11.eq_1) (uC Try.prog c46.eq_1)))))))))))))
def v46 : List RV := [.t 4]
theorem s46 : slimF Try.prog Try.f46 = some (c46.bare, v46) := by kernel_rfl

/-! 47 loop.example/g00066/laws.toClipS: parameters 1, live [0], slots [0:a, 1:a, 3:out, 4:i] -/
def c47_0 : List SOper := [⟨some 2, .q (.mv (.c (.slice none 0 0))), none⟩]
def c47_1 : List SOper := [⟨some 5, .q (.mv (.t 0)), none⟩, ⟨some 6, .q (.len (.t 5)), none⟩, ⟨some 7, .a (.mks 24 3 [(.int .i64 0), (.int .i64 0), (.int .i64 0)] (.t 6) (.t 6)), none⟩, ⟨some 3, .q (.mv (.t 7)), none⟩]
def c47_2 : List SOper := [⟨some 4, .q (.mv (.c (.int .i64 0))), none⟩]
def c47_3 : List SOper := [⟨some 8, .q (.mv (.t 4)), none⟩, ⟨some 9, .q (.mv (.t 0)), none⟩, ⟨some 10, .q (.len (.t 9)), none⟩, ⟨some 11, .q (.bin .lss (.t 8) (.t 10)), none⟩]
def c47_4 : SCode := .cond (.t 11) .skip (.exit 0)
def c47_5 : SCode := .seq (.region c47_3 [0, 3, 4, 11]) c47_4
def c47_6 : List SOper := [⟨some 14, .q (.mv (.t 3)), none⟩, ⟨some 15, .q (.mv (.t 4)), none⟩, ⟨some 16, .q (.mv (.t 0)), none⟩, ⟨some 17, .q (.mv (.t 4)), none⟩, ⟨some 18, .q (.ia 3 (.t 16) (.t 17)), none⟩, ⟨some 19, .q (.ldn 3 (.t 18)), none⟩, ⟨some 20, .e (.call 66 [(.t 19)]), none⟩, ⟨some 21, .q (.ia 3 (.t 14) (.t 15)), none⟩, ⟨none, .e (.st 3 (.t 21) (.t 20)), none⟩]
def c47_7 : SCode := .block 1 (.region c47_6 [0, 3, 4])
def c47_8 : List SOper := [⟨some 12, .q (.mv (.t 4)), none⟩, ⟨some 13, .q (.bin .add (.t 12) (.c (.int .i64 1))), none⟩, ⟨some 4, .q (.mv (.t 13)), none⟩]
def c47_9 : SCode := .seq c47_7 (.region c47_8 [0, 3, 4])
def c47_10 : SCode := .seq c47_5 c47_9
def c47_11 : SCode := .loop c47_10
def c47_12 : SCode := .block 0 c47_11
def c47_13 : SCode := .seq (.region c47_2 [0, 3, 4]) c47_12
def c47_14 : List SOper := [⟨some 22, .q (.mv (.t 3)), none⟩, ⟨some 2, .q (.mv (.t 22)), none⟩]
def c47_15 : SCode := .seq (.region c47_14 [2]) .ret
def c47_16 : SCode := .seq c47_13 c47_15
def c47_17 : SCode := .seq (.region c47_1 [0, 3]) c47_16
def c47_18 : SCode := .seq (.region c47_0 [0]) c47_17
def c47 : SCode := c47_18
theorem w47 : type_of% (And.intro (uR Try.prog c47_0.eq_1) (And.intro (uR Try.prog c47_1.eq_1) (And.intro (uR Try.prog c47_2.eq_1) (And.intro (uR Try.prog c47_3.eq_1) (And.intro (uC Try.prog c47_4.eq_1) (And.intro (uC Try.prog c47_5.eq_1) (And.intro (uR Try.prog c47_6.eq_1) (And.intro (uC Try.prog c47_7.eq_1) (And.intro (uR Try.prog c47_8.eq_1) (And.intro (uC Try.prog c47_9.eq_1) (And.intro (uC Try.prog c47_10.eq_1) (And.intro (uC Try.prog c47_11.eq_1) (And.intro (uC Try.prog c47_12.eq_1) (And.intro (uC Try.prog c47_13.eq_1) (And.intro (uR Try.prog c47_14.eq_1) (And.intro (uC Try.prog c47_15.eq_1) (And.intro (uC Try.prog c47_16.eq_1) (And.intro (uC Try.prog c47_17.eq_1) (And.intro (uC Try.prog c47_18.eq_1) (uC Try.prog c47.eq_1)))))))))))))))))))) := (And.intro (uR Try.prog c47_0.eq_1) (And.intro (uR Try.prog c47_1.eq_1) (And.intro (uR Try.prog c47_2.eq_1) (And.intro (uR Try.prog c47_3.eq_1) (And.intro (uC Try.prog c47_4.eq_1) (And.intro (uC Try.prog c47_5.eq_1) (And.intro (uR Try.prog c47_6.eq_1) (And.intro (uC Try.prog c47_7.eq_1) (And.intro (uR Try.prog c47_8.eq_1) (And.intro (uC Try.prog c47_9.eq_1) (And.intro (uC Try.prog c47_10.eq_1) (And.intro (uC Try.prog c47_11.eq_1) (And.intro (uC Try.prog c47_12.eq_1) (And.intro (uC Try.prog c47_13.eq_1) (And.intro (uR Try.prog c47_14.eq_1) (And.intro (uC Try.prog c47_15.eq_1) (And.intro (uC Try.prog c47_16.eq_1) (And.intro (uC Try.prog c47_17.eq_1) (And.intro (uC Try.prog c47_18.eq_1) (uC Try.prog c47.eq_1))))))))))))))))))))
def v47 : List RV := [.t 2]
theorem s47 : slimF Try.prog Try.f47 = some (c47.bare, v47) := by kernel_rfl

/-! 66 loop.example/g00066/laws.toClip: parameters 1, live [0], slots [0:a, 1:a, 3:out] -/
def c66_0 : List SOper := [⟨some 1, .a (.box (.t 0)), none⟩, ⟨some 2, .a (.new [(.int .i64 0), (.int .i64 0), (.int .i64 0)]), none⟩]
def c66_1 : List SOper := [⟨some 3, .a (.new [(.int .i64 0), (.int .i64 0), (.int .i64 0)]), none⟩]
def c66_2 : List SOper := [⟨some 4, .q (.fa 0 (.t 1)), none⟩, ⟨some 5, .q (.ld (.t 4)), none⟩, ⟨some 6, .q (.fa 0 (.t 3)), none⟩, ⟨none, .e (.st 1 (.t 6) (.t 5)), none⟩]
def c66_3 : List SOper := [⟨some 7, .q (.fa 1 (.t 1)), none⟩, ⟨some 8, .q (.ld (.t 7)), none⟩, ⟨some 9, .q (.fa 1 (.t 3)), none⟩, ⟨none, .e (.st 1 (.t 9) (.t 8)), none⟩]
def c66_4 : List SOper := [⟨some 10, .q (.fa 2 (.t 1)), none⟩, ⟨some 11, .q (.ld (.t 10)), none⟩, ⟨some 12, .q (.fa 2 (.t 3)), none⟩, ⟨none, .e (.st 1 (.t 12) (.t 11)), none⟩]
def c66_5 : List SOper := [⟨some 13, .q (.ldn 3 (.t 3)), none⟩, ⟨none, .e (.st 3 (.t 2) (.t 13)), none⟩]
def c66_6 : SCode := .seq (.region c66_5 [2]) .ret
def c66_7 : SCode := .seq (.region c66_4 [2, 3]) c66_6
def c66_8 : SCode := .seq (.region c66_3 [1, 2, 3]) c66_7
def c66_9 : SCode := .seq (.region c66_2 [1, 2, 3]) c66_8
def c66_10 : SCode := .seq (.region c66_1 [1, 2, 3]) c66_9
def c66_11 : SCode := .seq (.region c66_0 [1, 2]) c66_10
def c66 : SCode := c66_11
theorem w66 : type_of% (And.intro (uR Try.prog c66_0.eq_1) (And.intro (uR Try.prog c66_1.eq_1) (And.intro (uR Try.prog c66_2.eq_1) (And.intro (uR Try.prog c66_3.eq_1) (And.intro (uR Try.prog c66_4.eq_1) (And.intro (uR Try.prog c66_5.eq_1) (And.intro (uC Try.prog c66_6.eq_1) (And.intro (uC Try.prog c66_7.eq_1) (And.intro (uC Try.prog c66_8.eq_1) (And.intro (uC Try.prog c66_9.eq_1) (And.intro (uC Try.prog c66_10.eq_1) (And.intro (uC Try.prog c66_11.eq_1) (uC Try.prog c66.eq_1))))))))))))) := (And.intro (uR Try.prog c66_0.eq_1) (And.intro (uR Try.prog c66_1.eq_1) (And.intro (uR Try.prog c66_2.eq_1) (And.intro (uR Try.prog c66_3.eq_1) (And.intro (uR Try.prog c66_4.eq_1) (And.intro (uR Try.prog c66_5.eq_1) (And.intro (uC Try.prog c66_6.eq_1) (And.intro (uC Try.prog c66_7.eq_1) (And.intro (uC Try.prog c66_8.eq_1) (And.intro (uC Try.prog c66_9.eq_1) (And.intro (uC Try.prog c66_10.eq_1) (And.intro (uC Try.prog c66_11.eq_1) (uC Try.prog c66.eq_1)))))))))))))
def v66 : List RV := [.c 2 (some 3)]
theorem s66 : slimF Try.prog Try.f66 = some (c66.bare, v66) := by kernel_rfl

/-! 48 loop.example/g00066/laws.eqClipS: parameters 2, live [0, 1], slots [0:a, 1:b, 2:a, 3:b, 5:i] -/
def c48_0 : List SOper := [⟨some 4, .q (.mv (.c (.bool false))), none⟩]
def c48_1 : List SOper := [⟨some 6, .q (.mv (.t 0)), none⟩, ⟨some 7, .q (.len (.t 6)), none⟩, ⟨some 8, .q (.mv (.t 1)), none⟩, ⟨some 9, .q (.len (.t 8)), none⟩, ⟨some 10, .q (.bin .neq (.t 7) (.t 9)), none⟩]
def c48_2 : List SOper := [⟨some 4, .q (.mv (.c (.bool false))), none⟩]
def c48_3 : SCode := .seq (.region c48_2 [4]) .ret
def c48_4 : SCode := .cond (.t 10) c48_3 .skip
def c48_5 : SCode := .seq (.region c48_1 [0, 1, 10]) c48_4
def c48_6 : List SOper := [⟨some 5, .q (.mv (.c (.int .i64 0))), none⟩]
def c48_7 : List SOper := [⟨some 11, .q (.mv (.t 5)), none⟩, ⟨some 12, .q (.mv (.t 0)), none⟩, ⟨some 13, .q (.len (.t 12)), none⟩, ⟨some 14, .q (.bin .lss (.t 11) (.t 13)), none⟩]
def c48_8 : SCode := .cond (.t 14) .skip (.exit 0)
def c48_9 : SCode := .seq (.region c48_7 [0, 1, 5, 14]) c48_8
def c48_10 : List SOper := [⟨some 17, .q (.mv (.t 0)), none⟩, ⟨some 18, .q (.mv (.t 5)), none⟩, ⟨some 19, .q (.ia 3 (.t 17) (.t 18)), none⟩, ⟨some 20, .q (.ldn 3 (.t 19)), none⟩, ⟨some 21, .q (.mv (.t 1)), none⟩, ⟨some 22, .q (.mv (.t 5)), none⟩, ⟨some 23, .q (.ia 3 (.t 21) (.t 22)), none⟩, ⟨some 24, .q (.ldn 3 (.t 23)), none⟩, ⟨some 25, .e (.call 67 [(.t 20), (.t 24)]), none⟩, ⟨some 26, .q (.not (.t 25)), none⟩]
def c48_11 : List SOper := [⟨some 4, .q (.mv (.c (.bool false))), none⟩]
def c48_12 : SCode := .seq (.region c48_11 [4]) .ret
def c48_13 : SCode := .cond (.t 26) c48_12 .skip
def c48_14 : SCode := .seq (.region c48_10 [0, 1, 5, 26]) c48_13
def c48_15 : SCode := .block 1 c48_14
def c48_16 : List SOper := [⟨some 15, .q (.mv (.t 5)), none⟩, ⟨some 16, .q (.bin .add (.t 15) (.c (.int .i64 1))), none⟩, ⟨some 5, .q (.mv (.t 16)), none⟩]
def c48_17 : SCode := .seq c48_15 (.region c48_16 [0, 1, 5])
def c48_18 : SCode := .seq c48_9 c48_17
def c48_19 : SCode := .loop c48_18
def c48_20 : SCode := .block 0 c48_19
def c48_21 : SCode := .seq (.region c48_6 [0, 1, 5]) c48_20
def c48_22 : List SOper := [⟨some 4, .q (.mv (.c (.bool true))), none⟩]
def c48_23 : SCode := .seq (.region c48_22 [4]) .ret
def c48_24 : SCode := .seq c48_21 c48_23
def c48_25 : SCode := .seq c48_5 c48_24
def c48_26 : SCode := .seq (.region c48_0 [0, 1]) c48_25
def c48 : SCode := c48_26
theorem w48 : type_of% (And.intro (uR Try.prog c48_0.eq_1) (And.intro (uR Try.prog c48_1.eq_1) (And.intro (uR Try.prog c48_2.eq_1) (And.intro (uC Try.prog c48_3.eq_1) (And.intro (uC Try.prog c48_4.eq_1) (And.intro (uC Try.prog c48_5.eq_1) (And.intro (uR Try.prog c48_6.eq_1) (And.intro (uR Try.prog c48_7.eq_1) (And.intro (uC Try.prog c48_8.eq_1) (And.intro (uC Try.prog c48_9.eq_1) (And.intro (uR Try.prog c48_10.eq_1) (And.intro (uR Try.prog c48_11.eq_1) (And.intro (uC Try.prog c48_12.eq_1) (And.intro (uC Try.prog c48_13.eq_1) (And.intro (uC Try.prog c48_14.eq_1) (And.intro (uC Try.prog c48_15.eq_1) (And.intro (uR Try.prog c48_16.eq_1) (And.intro (uC Try.prog c48_17.eq_1) (And.intro (uC Try.prog c48_18.eq_1) (And.intro (uC Try.prog c48_19.eq_1) (And.intro (uC Try.prog c48_20.eq_1) (And.intro (uC Try.prog c48_21.eq_1) (And.intro (uR Try.prog c48_22.eq_1) (And.intro (uC Try.prog c48_23.eq_1) (And.intro (uC Try.prog c48_24.eq_1) (And.intro (uC Try.prog c48_25.eq_1) (And.intro (uC Try.prog c48_26.eq_1) (uC Try.prog c48.eq_1)))))))))))))))))))))))))))) := (And.intro (uR Try.prog c48_0.eq_1) (And.intro (uR Try.prog c48_1.eq_1) (And.intro (uR Try.prog c48_2.eq_1) (And.intro (uC Try.prog c48_3.eq_1) (And.intro (uC Try.prog c48_4.eq_1) (And.intro (uC Try.prog c48_5.eq_1) (And.intro (uR Try.prog c48_6.eq_1) (And.intro (uR Try.prog c48_7.eq_1) (And.intro (uC Try.prog c48_8.eq_1) (And.intro (uC Try.prog c48_9.eq_1) (And.intro (uR Try.prog c48_10.eq_1) (And.intro (uR Try.prog c48_11.eq_1) (And.intro (uC Try.prog c48_12.eq_1) (And.intro (uC Try.prog c48_13.eq_1) (And.intro (uC Try.prog c48_14.eq_1) (And.intro (uC Try.prog c48_15.eq_1) (And.intro (uR Try.prog c48_16.eq_1) (And.intro (uC Try.prog c48_17.eq_1) (And.intro (uC Try.prog c48_18.eq_1) (And.intro (uC Try.prog c48_19.eq_1) (And.intro (uC Try.prog c48_20.eq_1) (And.intro (uC Try.prog c48_21.eq_1) (And.intro (uR Try.prog c48_22.eq_1) (And.intro (uC Try.prog c48_23.eq_1) (And.intro (uC Try.prog c48_24.eq_1) (And.intro (uC Try.prog c48_25.eq_1) (And.intro (uC Try.prog c48_26.eq_1) (uC Try.prog c48.eq_1))))))))))))))))))))))))))))
def v48 : List RV := [.t 4]
theorem s48 : slimF Try.prog Try.f48 = some (c48.bare, v48) := by kernel_rfl

/-! 67 loop.example/g00066/laws.eqClip: parameters 2, live [0, 1], slots [0:a, 1:b, 2:a, 3:b] -/
def c67_0 : List SOper := [⟨some 2, .a (.box (.t 0)), none⟩, ⟨some 3, .a (.box (.t 1)), none⟩, ⟨some 4, .q (.mv (.c (.bool false))), none⟩]
def c67_1 : List SOper := [⟨some 5, .q (.fa 0 (.t 2)), none⟩, ⟨some 6, .q (.ld (.t 5)), none⟩, ⟨some 7, .q (.fa 0 (.t 3)), none⟩, ⟨some 8, .q (.ld (.t 7)), none⟩, ⟨some 9, .q (.bin .neq (.t 6) (.t 8)), none⟩]
def c67_2 : List SOper := [⟨some 4, .q (.mv (.c (.bool false))), none⟩]
def c67_3 : SCode := .seq (.region c67_2 [4]) .ret
def c67_4 : SCode := .cond (.t 9) c67_3 .skip
def c67_5 : SCode := .seq (.region c67_1 [2, 3, 9]) c67_4
def c67_6 : List SOper := [⟨some 10, .q (.fa 1 (.t 2)), none⟩, ⟨some 11, .q (.ld (.t 10)), none⟩, ⟨some 12, .q (.fa 1 (.t 3)), none⟩, ⟨some 13, .q (.ld (.t 12)), none⟩, ⟨some 14, .q (.bin .neq (.t 11) (.t 13)), none⟩]
def c67_7 : List SOper := [⟨some 4, .q (.mv (.c (.bool false))), none⟩]
def c67_8 : SCode := .seq (.region c67_7 [4]) .ret
def c67_9 : SCode := .cond (.t 14) c67_8 .skip
def c67_10 : SCode := .seq (.region c67_6 [2, 3, 14]) c67_9
def c67_11 : List SOper := [⟨some 15, .q (.fa 2 (.t 2)), none⟩, ⟨some 16, .q (.ld (.t 15)), none⟩, ⟨some 17, .q (.fa 2 (.t 3)), none⟩, ⟨some 18, .q (.ld (.t 17)), none⟩, ⟨some 19, .q (.bin .neq (.t 16) (.t 18)), none⟩]
def c67_12 : List SOper := [⟨some 4, .q (.mv (.c (.bool false))), none⟩]
def c67_13 : SCode := .seq (.region c67_12 [4]) .ret
def c67_14 : SCode := .cond (.t 19) c67_13 .skip
def c67_15 : SCode := .seq (.region c67_11 [19]) c67_14
def c67_16 : List SOper := [⟨some 4, .q (.mv (.c (.bool true))), none⟩]
def c67_17 : SCode := .seq (.region c67_16 [4]) .ret
def c67_18 : SCode := .seq c67_15 c67_17
def c67_19 : SCode := .seq c67_10 c67_18
def c67_20 : SCode := .seq c67_5 c67_19
def c67_21 : SCode := .seq (.region c67_0 [2, 3]) c67_20
def c67 : SCode := c67_21
theorem w67 : type_of% (And.intro (uR Try.prog c67_0.eq_1) (And.intro (uR Try.prog c67_1.eq_1) (And.intro (uR Try.prog c67_2.eq_1) (And.intro (uC Try.prog c67_3.eq_1) (And.intro (uC Try.prog c67_4.eq_1) (And.intro (uC Try.prog c67_5.eq_1) (And.intro (uR Try.prog c67_6.eq_1) (And.intro (uR Try.prog c67_7.eq_1) (And.intro (uC Try.prog c67_8.eq_1) (And.intro (uC Try.prog c67_9.eq_1) (And.intro (uC Try.prog c67_10.eq_1) (And.intro (uR Try.prog c67_11.eq_1) (And.intro (uR Try.prog c67_12.eq_1) (And.intro (uC Try.prog c67_13.eq_1) (And.intro (uC Try.prog c67_14.eq_1) (And.intro (uC Try.prog c67_15.eq_1) (And.intro (uR Try.prog c67_16.eq_1) (And.intro (uC Try.prog c67_17.eq_1) (And.intro (uC Try.prog c67_18.eq_1) (And.intro (uC Try.prog c67_19.eq_1) (And.intro (uC Try.prog c67_20.eq_1) (And.intro (uC Try.prog c67_21.eq_1) (uC Try.prog c67.eq_1))))))))))))))))))))))) := (And.intro (uR Try.prog c67_0.eq_1) (And.intro (uR Try.prog c67_1.eq_1) (And.intro (uR Try.prog c67_2.eq_1) (And.intro (uC Try.prog c67_3.eq_1) (And.intro (uC Try.prog c67_4.eq_1) (And.intro (uC Try.prog c67_5.eq_1) (And.intro (uR Try.prog c67_6.eq_1) (And.intro (uR Try.prog c67_7.eq_1) (And.intro (uC Try.prog c67_8.eq_1) (And.intro (uC Try.prog c67_9.eq_1) (And.intro (uC Try.prog c67_10.eq_1) (And.intro (uR Try.prog c67_11.eq_1) (And.intro (uR Try.prog c67_12.eq_1) (And.intro (uC Try.prog c67_13.eq_1) (And.intro (uC Try.prog c67_14.eq_1) (And.intro (uC Try.prog c67_15.eq_1) (And.intro (uR Try.prog c67_16.eq_1) (And.intro (uC Try.prog c67_17.eq_1) (And.intro (uC Try.prog c67_18.eq_1) (And.intro (uC Try.prog c67_19.eq_1) (And.intro (uC Try.prog c67_20.eq_1) (And.intro (uC Try.prog c67_21.eq_1) (uC Try.prog c67.eq_1)))))))))))))))))))))))
def v67 : List RV := [.t 4]
theorem s67 : slimF Try.prog Try.f67 = some (c67.bare, v67) := by kernel_rfl

/-! 49 loop.example/g00066/laws.markClipS: parameters 2, live [0, 1], slots [0:a, 1:k, 2:a, 3:k, 5:i] -/
def c49_0 : List SOper := [⟨some 4, .q (.mv (.c (.int .i64 0))), none⟩]
def c49_1 : List SOper := [⟨some 5, .q (.mv (.c (.int .i64 0))), none⟩]
def c49_2 : List SOper := [⟨some 6, .q (.mv (.t 5)), none⟩, ⟨some 7, .q (.mv (.t 0)), none⟩, ⟨some 8, .q (.len (.t 7)), none⟩, ⟨some 9, .q (.bin .lss (.t 6) (.t 8)), none⟩]
def c49_3 : SCode := .cond (.t 9) .skip (.exit 0)
def c49_4 : SCode := .seq (.region c49_2 [0, 1, 5, 9]) c49_3
def c49_5 : List SOper := [⟨some 12, .q (.mv (.t 0)), none⟩, ⟨some 13, .q (.mv (.t 5)), none⟩, ⟨some 14, .q (.mv (.t 1)), none⟩, ⟨some 15, .q (.ia 3 (.t 12) (.t 13)), none⟩, ⟨some 16, .q (.fa 0 (.t 15)), none⟩, ⟨none, .e (.st 1 (.t 16) (.t 14)), none⟩]
def c49_6 : List SOper := [⟨some 17, .q (.mv (.t 1)), none⟩, ⟨some 18, .q (.bin .add (.t 17) (.c (.int .i64 1))), none⟩, ⟨some 1, .q (.mv (.t 18)), none⟩]
def c49_7 : List SOper := [⟨some 19, .q (.mv (.t 0)), none⟩, ⟨some 20, .q (.mv (.t 5)), none⟩, ⟨some 21, .q (.mv (.t 1)), none⟩, ⟨some 22, .q (.ia 3 (.t 19) (.t 20)), none⟩, ⟨some 23, .q (.fa 1 (.t 22)), none⟩, ⟨none, .e (.st 1 (.t 23) (.t 21)), none⟩]
def c49_8 : List SOper := [⟨some 24, .q (.mv (.t 1)), none⟩, ⟨some 25, .q (.bin .add (.t 24) (.c (.int .i64 1))), none⟩, ⟨some 1, .q (.mv (.t 25)), none⟩]
def c49_9 : List SOper := [⟨some 26, .q (.mv (.t 0)), none⟩, ⟨some 27, .q (.mv (.t 5)), none⟩, ⟨some 28, .q (.mv (.t 1)), none⟩, ⟨some 29, .q (.ia 3 (.t 26) (.t 27)), none⟩, ⟨some 30, .q (.fa 2 (.t 29)), none⟩, ⟨none, .e (.st 1 (.t 30) (.t 28)), none⟩]
def c49_10 : List SOper := [⟨some 31, .q (.mv (.t 1)), none⟩, ⟨some 32, .q (.bin .add (.t 31) (.c (.int .i64 1))), none⟩, ⟨some 1, .q (.mv (.t 32)), none⟩]
def c49_11 : SCode := .seq (.region c49_9 [0, 1, 5]) (.region c49_10 [0, 1, 5])
def c49_12 : SCode := .seq (.region c49_8 [0, 1, 5]) c49_11
def c49_13 : SCode := .seq (.region c49_7 [0, 1, 5]) c49_12
def c49_14 : SCode := .seq (.region c49_6 [0, 1, 5]) c49_13
def c49_15 : SCode := .seq (.region c49_5 [0, 1, 5]) c49_14
def c49_16 : SCode := .block 1 c49_15
def c49_17 : List SOper := [⟨some 10, .q (.mv (.t 5)), none⟩, ⟨some 11, .q (.bin .add (.t 10) (.c (.int .i64 1))), none⟩, ⟨some 5, .q (.mv (.t 11)), none⟩]
def c49_18 : SCode := .seq c49_16 (.region c49_17 [0, 1, 5])
def c49_19 : SCode := .seq c49_4 c49_18
def c49_20 : SCode := .loop c49_19
def c49_21 : SCode := .block 0 c49_20
def c49_22 : SCode := .seq (.region c49_1 [0, 1, 5]) c49_21
def c49_23 : List SOper := [⟨some 33, .q (.mv (.t 1)), none⟩, ⟨some 4, .q (.mv (.t 33)), none⟩]
def c49_24 : SCode := .seq (.region c49_23 [4]) .ret
def c49_25 : SCode := .seq c49_22 c49_24
def c49_26 : SCode := .seq (.region c49_0 [0, 1]) c49_25
def c49 : SCode := c49_26
theorem w49 : type_of% (And.intro (uR Try.prog c49_0.eq_1) (And.intro (uR Try.prog c49_1.eq_1) (And.intro (uR Try.prog c49_2.eq_1) (And.intro (uC Try.prog c49_3.eq_1) (And.intro (uC Try.prog c49_4.eq_1) (And.intro (uR Try.prog c49_5.eq_1) (And.intro (uR Try.prog c49_6.eq_1) (And.intro (uR Try.prog c49_7.eq_1) (And.intro (uR Try.prog c49_8.eq_1) (And.intro (uR Try.prog c49_9.eq_1) (And.intro (uR Try.prog c49_10.eq_1) (And.intro (uC Try.prog c49_11.eq_1) (And.intro (uC Try.prog c49_12.eq_1) (And.intro (uC Try.prog c49_13.eq_1) (And.intro (uC Try.prog c49_14.eq_1) (And.intro (uC Try.prog c49_15.eq_1) (And.intro (uC Try.prog c49_16.eq_1) (And.intro (uR Try.prog c49_17.eq_1) (And.intro (uC Try.prog c49_18.eq_1) (And.intro (uC Try.prog c49_19.eq_1) (And.intro (uC Try.prog c49_20.eq_1) (And.intro (uC Try.prog c49_21.eq_1) (And.intro (uC Try.prog c49_22.eq_1) (And.intro (uR Try.prog c49_23.eq_1) (And.intro (uC Try.prog c49_24.eq_1) (And.intro (uC Try.prog c49_25.eq_1) (And.intro (uC Try.prog c49_26.eq_1) (uC Try.prog c49.eq_1)))))))))))))))))))))))))))) := (And.intro (uR Try.prog c49_0.eq_1) (And.intro (uR Try.prog c49_1.eq_1) (And.intro (uR Try.prog c49_2.eq_1) (And.intro (uC Try.prog c49_3.eq_1) (And.intro (uC Try.prog c49_4.eq_1) (And.intro (uR Try.prog c49_5.eq_1) (And.intro (uR Try.prog c49_6.eq_1) (And.intro (uR Try.prog c49_7.eq_1) (And.intro (uR Try.prog c49_8.eq_1) (And.intro (uR Try.prog c49_9.eq_1) (And.intro (uR Try.prog c49_10.eq_1) (And.intro (uC Try.prog c49_11.eq_1) (And.intro (uC Try.prog c49_12.eq_1) (And.intro (uC Try.prog c49_13.eq_1) (And.intro (uC Try.prog c49_14.eq_1) (And.intro (uC Try.prog c49_15.eq_1) (And.intro (uC Try.prog c49_16.eq_1) (And.intro (uR Try.prog c49_17.eq_1) (And.intro (uC Try.prog c49_18.eq_1) (And.intro (uC Try.prog c49_19.eq_1) (And.intro (uC Try.prog c49_20.eq_1) (And.intro (uC Try.prog c49_21.eq_1) (And.intro (uC Try.prog c49_22.eq_1) (And.intro (uR Try.prog c49_23.eq_1) (And.intro (uC Try.prog c49_24.eq_1) (And.intro (uC Try.prog c49_25.eq_1) (And.intro (uC Try.prog c49_26.eq_1) (uC Try.prog c49.eq_1))))))))))))))))))))))))))))
def v49 : List RV := [.t 4]
theorem s49 : slimF Try.prog Try.f49 = some (c49.bare, v49) := by kernel_rfl

structure Clip where
  src : Int
  inn : Int
  len : Int
  deriving DecidableEq
def zClip : Clip := ⟨0, 0, 0⟩
def encClip (k : Clip) : List Value := [.int .i64 k.src, .int .i64 k.inn, .int .i64 k.len]
theorem encClip_len (k : Clip) : (encClip k).length = 3 := rfl
theorem take_set_rep {α : Type} (l : List α) (z : α) (i : Nat) (hi : i < l.length) : (l.take i ++ List.replicate (l.length - i) z).set i l[i] = l.take (i + 1) ++ List.replicate (l.length - (i + 1)) z := by
  have hlen : (l.take i).length = i := by simp; omega
  rw [show l.length - i = (l.length - (i + 1)) + 1 by omega, List.replicate_succ, List.set_append_right _ _ (by omega), hlen, Nat.sub_self, List.set_cons_zero,
    List.take_succ_eq_append_getElem hi, List.append_assoc]
  rfl
theorem toClip_ok (h : Heap) (k : Clip) : ACall Try.prog 66 [.agg (encClip k).toArray] h fun r h' => Ext h h' ∧ r = .agg (encClip k).toArray := by
  refine ACall.of Try.func66 s66 (of_decide_eq_true rfl) ?_
  simp (maxSteps := 4000000) (disch := omega) only [ah, am, Nat.reduceEqDiff, reduceCtorEq, Nat.reduceAdd, Nat.reduceLeDiff, Nat.reduceMul, Nat.reduceLT, if_true, if_false, true_and, and_true, and_self, Nat.reduceBEq, QOp.loads, boxO, bslO, buildO, cutL, fillV, putL, w66, v66, encClip]
  exact Ext.more _ _
theorem eqClip_ok (h : Heap) (k k' : Clip) : ACall Try.prog 67 [.agg (encClip k).toArray, .agg (encClip k').toArray] h
    fun r h' => Ext h h' ∧ r = .bool (decide (k = k')) := by
  obtain ⟨a, b, c⟩ := k; obtain ⟨a', b', c'⟩ := k'
  refine ACall.of Try.func67 s67 (of_decide_eq_true rfl) ?_
  simp (maxSteps := 4000000) (disch := omega) only [ah, am, Nat.reduceEqDiff, reduceCtorEq, Nat.reduceAdd, Nat.reduceLeDiff, Nat.reduceMul, Nat.reduceLT, if_true, if_false, true_and, and_true, and_self, Nat.reduceBEq, QOp.loads, boxO, bslO, buildO, cutL, fillV, putL, w67, v67, encClip, stepI_dec]
  repeat' split
  all_goals exact ⟨Ext.more _ _, by simp [*]⟩

theorem szClipS_ok (h : Heap) (v : Value) (l : List Clip) (left : Int) (hs : SlT h encClip 3 v l) (h0 : 0 ≤ left) (h1 : left ≤ 1048576) (hl : l.length ≤ 9223372036854775807) :
    ACall Try.prog 46 [v, .int .i64 left] h fun r h' => h' = h ∧ r = .int .i64 (if left - l.length < 0 then -1 else left - l.length) := by
  refine ACall.of Try.func46 s46 (of_decide_eq_true rfl) ?_
  have R := hs.rules
  have W : IntKind.i64.wrap (left - l.length) = left - l.length := i64e (by omega) (by omega)
  simp (maxSteps := 4000000) (disch := omega) only [ah, am, Nat.reduceEqDiff, reduceCtorEq, Nat.reduceAdd, Nat.reduceLeDiff, Nat.reduceMul, Nat.reduceLT, if_true, if_false, true_and, and_true, and_self, Nat.reduceBEq, QOp.loads, boxO, bslO, buildO, cutL, fillV, putL, w46, v46, R, W, stepI_dec]
  split <;> simp
theorem toClipS_ok (h : Heap) (v : Value) (l : List Clip) (hs : SlT h encClip 3 v l) (hl : l.length ≤ 1048576) :
    ACall Try.prog 47 [v] h fun r h' => Fresh h h' encClip 3 r l := by
  refine ACall.of Try.func47 s47 (of_decide_eq_true rfl) ?_
  have R := hs.rulesN
  simp (maxSteps := 4000000) (disch := omega) only [ah, am, Nat.reduceEqDiff, reduceCtorEq, Nat.reduceAdd, Nat.reduceLeDiff, Nat.reduceMul, Nat.reduceLT, if_true, if_false, true_and, and_true, and_self, Nat.reduceBEq, QOp.loads, boxO, bslO, buildO, cutL, fillV, putL, w47, v47, R, mksV_nat]
  refine SW_loop_up (fun i E H => ∃ ov, E = [(0, v), (3, ov), (4, .int .i64 i)] ∧ Fresh h H encClip 3 ov (l.take i ++ List.replicate (l.length - i) zClip)) l.length 0 (by omega)
    ⟨_, rfl, by have := Fresh.newR (sz := 3) h l.length zClip encClip_len (by omega); simpa [encClip, zClip] using this⟩ ?_
  rintro i E H hi ⟨ov, rfl, F⟩
  have R := (hs.ext F.1).rulesN
  have W : IntKind.i64.wrap ((i : Int) + 1) = ((i + 1 : Nat) : Int) := i64e (by omega) (by omega)
  simp (maxSteps := 4000000) (disch := omega) only [ah, am, Nat.reduceEqDiff, reduceCtorEq, Nat.reduceAdd, Nat.reduceLeDiff, Nat.reduceMul, Nat.reduceLT, if_true, if_false, true_and, and_true, and_self, Nat.reduceBEq, QOp.loads, boxO, bslO, buildO, cutL, fillV, putL, w47, v47, R, W]
  refine stepI.split (fun hp => ?_) (fun hp => ?_)
  · simp (maxSteps := 4000000) (disch := omega) only [ah, am, Nat.reduceEqDiff, reduceCtorEq, Nat.reduceAdd, Nat.reduceLeDiff, Nat.reduceMul, Nat.reduceLT, if_true, if_false, true_and, and_true, and_self, Nat.reduceBEq, QOp.loads, boxO, bslO, buildO, cutL, fillV, putL, w47, v47, R, W]
    refine stepC.of (toClip_ok _ _) ?_
    rintro r H1 ⟨e1, rfl⟩
    have F1 := F.ext e1
    obtain ⟨H2, es, F2, hsz⟩ := F1.set (j := i) (by simp; omega) l[i] rfl
    have R2 := F1.slt.rulesN
    simp only [List.length_append, List.length_take, List.length_replicate] at R2
    simp (maxSteps := 4000000) (disch := omega) only [ah, am, Nat.reduceEqDiff, reduceCtorEq, Nat.reduceAdd, Nat.reduceLeDiff, Nat.reduceMul, Nat.reduceLT, if_true, if_false, true_and, and_true, and_self, Nat.reduceBEq, QOp.loads, boxO, bslO, buildO, cutL, fillV, putL, w47, v47, R2, es, W]
    refine ⟨by omega, _, rfl, ?_⟩
    rw [show List.take (i + 1) l ++ List.replicate (l.length - (i + 1)) zClip = (l.take i ++ List.replicate (l.length - i) zClip).set i l[i] from (take_set_rep l zClip i (by omega)).symm]
    exact F2
  · simp (maxSteps := 4000000) (disch := omega) only [ah, am, Nat.reduceEqDiff, reduceCtorEq, Nat.reduceAdd, Nat.reduceLeDiff, Nat.reduceMul, Nat.reduceLT, if_true, if_false, true_and, and_true, and_self, Nat.reduceBEq, QOp.loads, boxO, bslO, buildO, cutL, fillV, putL, w47, v47, R, W]
    obtain rfl : i = l.length := by omega
    simpa using F
theorem eqClipS_ok (h : Heap) (v v' : Value) (l l' : List Clip) (hs : SlT h encClip 3 v l) (hs' : SlT h encClip 3 v' l') (hl : l.length ≤ 281474976710656) (hl' : l'.length ≤ 281474976710656) :
    ACall Try.prog 48 [v, v'] h fun r h' => Ext h h' ∧ r = .bool (decide (l = l')) := by
  refine ACall.of Try.func48 s48 (of_decide_eq_true rfl) ?_
  have R := hs.rulesN
  have R' := hs'.rulesN
  simp (maxSteps := 4000000) (disch := omega) only [ah, am, Nat.reduceEqDiff, reduceCtorEq, Nat.reduceAdd, Nat.reduceLeDiff, Nat.reduceMul, Nat.reduceLT, if_true, if_false, true_and, and_true, and_self, Nat.reduceBEq, QOp.loads, boxO, bslO, buildO, cutL, fillV, putL, w48, v48, R, R']
  refine stepI.split (fun hp => ?_) (fun hp => ?_)
  rotate_left
  · simp (maxSteps := 4000000) (disch := omega) only [ah, am, Nat.reduceEqDiff, reduceCtorEq, Nat.reduceAdd, Nat.reduceLeDiff, Nat.reduceMul, Nat.reduceLT, if_true, if_false, true_and, and_true, and_self, Nat.reduceBEq, QOp.loads, boxO, bslO, buildO, cutL, fillV, putL, w48, v48]
    exact ⟨Ext.refl h, by rw [decide_eq_false]; rintro rfl; exact hp rfl⟩
  have hll : l.length = l'.length := by omega
  simp (maxSteps := 4000000) (disch := omega) only [ah, am, Nat.reduceEqDiff, reduceCtorEq, Nat.reduceAdd, Nat.reduceLeDiff, Nat.reduceMul, Nat.reduceLT, if_true, if_false, true_and, and_true, and_self, Nat.reduceBEq, QOp.loads, boxO, bslO, buildO, cutL, fillV, putL, w48, v48]
  refine SW_loop_up (fun i E H => E = [(0, v), (1, v'), (5, .int .i64 i)] ∧ Ext h H ∧ ∀ j (h1 : j < i) (h2 : j < l.length), l[j] = l'[j]) l.length 0 (by omega)
    ⟨rfl, .refl h, fun j h1 h2 => absurd h1 (by omega)⟩ ?_
  rintro i E H hi ⟨rfl, e, F⟩
  have R := (hs.ext e).rulesN
  have R' := (hs'.ext e).rulesN
  have W : IntKind.i64.wrap ((i : Int) + 1) = ((i + 1 : Nat) : Int) := i64e (by omega) (by omega)
  simp (maxSteps := 4000000) (disch := omega) only [ah, am, Nat.reduceEqDiff, reduceCtorEq, Nat.reduceAdd, Nat.reduceLeDiff, Nat.reduceMul, Nat.reduceLT, if_true, if_false, true_and, and_true, and_self, Nat.reduceBEq, QOp.loads, boxO, bslO, buildO, cutL, fillV, putL, w48, v48, R, R', W]
  refine stepI.split (fun hp => ?_) (fun hp => ?_)
  · simp (maxSteps := 4000000) (disch := omega) only [ah, am, Nat.reduceEqDiff, reduceCtorEq, Nat.reduceAdd, Nat.reduceLeDiff, Nat.reduceMul, Nat.reduceLT, if_true, if_false, true_and, and_true, and_self, Nat.reduceBEq, QOp.loads, boxO, bslO, buildO, cutL, fillV, putL, w48, v48, R, R', W]
    refine stepC.of (eqClip_ok _ _ _) ?_
    rintro r H1 ⟨e1, rfl⟩
    simp (maxSteps := 4000000) (disch := omega) only [ah, am, Nat.reduceEqDiff, reduceCtorEq, Nat.reduceAdd, Nat.reduceLeDiff, Nat.reduceMul, Nat.reduceLT, if_true, if_false, true_and, and_true, and_self, Nat.reduceBEq, QOp.loads, boxO, bslO, buildO, cutL, fillV, putL, w48, v48, R, R', W]
    refine stepI.split (fun hq => ?_) (fun hq => ?_)
    · simp (maxSteps := 4000000) (disch := omega) only [ah, am, Nat.reduceEqDiff, reduceCtorEq, Nat.reduceAdd, Nat.reduceLeDiff, Nat.reduceMul, Nat.reduceLT, if_true, if_false, true_and, and_true, and_self, Nat.reduceBEq, QOp.loads, boxO, bslO, buildO, cutL, fillV, putL, w48, v48, W]
      exact ⟨by omega, e.trans e1, fun j h1 h2 => by
        by_cases hj : j = i
        · subst hj; exact hq
        · exact F j (by omega) h2⟩
    · simp (maxSteps := 4000000) (disch := omega) only [ah, am, Nat.reduceEqDiff, reduceCtorEq, Nat.reduceAdd, Nat.reduceLeDiff, Nat.reduceMul, Nat.reduceLT, if_true, if_false, true_and, and_true, and_self, Nat.reduceBEq, QOp.loads, boxO, bslO, buildO, cutL, fillV, putL, w48, v48, W]
      exact ⟨e.trans e1, by rw [decide_eq_false]; rintro rfl; exact hq rfl⟩
  · simp (maxSteps := 4000000) (disch := omega) only [ah, am, Nat.reduceEqDiff, reduceCtorEq, Nat.reduceAdd, Nat.reduceLeDiff, Nat.reduceMul, Nat.reduceLT, if_true, if_false, true_and, and_true, and_self, Nat.reduceBEq, QOp.loads, boxO, bslO, buildO, cutL, fillV, putL, w48, v48, R, W]
    refine ⟨e, ?_⟩
    rw [decide_eq_true]
    exact List.ext_getElem hll fun j h1 h2 => F j (by omega) h1
def markClip (k : Int) (n : Nat) : List Clip := (List.range n).map fun i : Nat => ⟨k + 3 * (i : Int), k + 3 * (i : Int) + 1, k + 3 * (i : Int) + 2⟩
theorem mark_step {α : Type} (f : Nat → α) (l : List α) (i : Nat) (hi : i < l.length) : ((List.range i).map f ++ l.drop i).set i (f i) = (List.range (i + 1)).map f ++ l.drop (i + 1) := by
  rw [List.set_append_right _ _ (by simp), List.length_map, List.length_range, Nat.sub_self, List.drop_eq_getElem_cons hi, List.set_cons_zero, List.range_succ, List.map_append, List.append_assoc]
  rfl
theorem markClipS_ok (h : Heap) (g : Nat) (v : Value) (l : List Clip) (k : Int) (o : OwnT g h encClip 3 v l) (hl : l.length ≤ 1000000000) (hk : 0 ≤ k ∧ k ≤ 1000000000000) :
    ACall Try.prog 49 [v, .int .i64 k] h fun r h' => ExtG g h h' ∧ OwnT g h' encClip 3 v (markClip k l.length) ∧ r = .int .i64 (k + 3 * l.length) := by
  refine ACall.of Try.func49 s49 (of_decide_eq_true rfl) ?_
  have R := o.slt.rulesN
  simp (maxSteps := 4000000) (disch := omega) only [ah, am, Nat.reduceEqDiff, reduceCtorEq, Nat.reduceAdd, Nat.reduceLeDiff, Nat.reduceMul, Nat.reduceLT, if_true, if_false, true_and, and_true, and_self, Nat.reduceBEq, QOp.loads, boxO, bslO, buildO, cutL, fillV, putL, w49, v49, R]
  refine SW_loop_up (fun i E H => E = [(0, v), (1, .int .i64 (k + 3 * i)), (5, .int .i64 i)] ∧ ExtG g h H ∧ OwnT g H encClip 3 v (markClip k i ++ l.drop i)) l.length 0 (by omega)
    ⟨by simp, ExtG.refl g h, by simpa [markClip] using o⟩ ?_
  rintro i E H hi ⟨rfl, e, O⟩
  have hlen : (markClip k i ++ l.drop i).length = l.length := by simp [markClip]; omega
  have R := O.slt.rulesN
  simp only [hlen] at R
  have W : IntKind.i64.wrap ((i : Int) + 1) = ((i + 1 : Nat) : Int) := i64e (by omega) (by omega)
  have W1 : IntKind.i64.wrap (k + 3 * (i : Int) + 1) = k + 3 * (i : Int) + 1 := i64e (by omega) (by omega)
  have W2 : IntKind.i64.wrap (k + 3 * (i : Int) + 1 + 1) = k + 3 * (i : Int) + 2 := i64e (by omega) (by omega)
  have W3 : IntKind.i64.wrap (k + 3 * (i : Int) + 2 + 1) = k + 3 * ((i + 1 : Nat) : Int) := i64e (by omega) (by omega)
  simp (maxSteps := 4000000) (disch := omega) only [ah, am, Nat.reduceEqDiff, reduceCtorEq, Nat.reduceAdd, Nat.reduceLeDiff, Nat.reduceMul, Nat.reduceLT, if_true, if_false, true_and, and_true, and_self, Nat.reduceBEq, QOp.loads, boxO, bslO, buildO, cutL, fillV, putL, w49, v49, R, W]
  refine stepI.split (fun hp => ?_) (fun hp => ?_)
  · have hj : i < (markClip k i ++ l.drop i).length := by omega
    obtain ⟨H1, es1, O1, G1, -⟩ := O.setF (j := i) (f := 0) (n := 1) (y := .int .i64 (k + 3 * i)) (x := ⟨k + 3 * i, ((markClip k i ++ l.drop i)[i]).inn, ((markClip k i ++ l.drop i)[i]).len⟩) hj rfl (by omega) rfl (by omega) rfl
    obtain ⟨H2, es2, O2, G2, -⟩ := O1.setF (j := i) (f := 1) (n := 1) (y := .int .i64 (k + 3 * i + 1)) (x := ⟨k + 3 * i, k + 3 * i + 1, ((markClip k i ++ l.drop i)[i]).len⟩) (by simpa using hj) (by simp [encClip, splice, cells_int]) (by omega) rfl (by omega) rfl
    obtain ⟨H3, es3, O3, G3, -⟩ := O2.setF (j := i) (f := 2) (n := 1) (y := .int .i64 (k + 3 * i + 2)) (x := ⟨k + 3 * i, k + 3 * i + 1, k + 3 * i + 2⟩) (by simpa using hj) (by simp [encClip, splice, cells_int]) (by omega) rfl (by omega) rfl
    rw [List.set_set, List.set_set] at O3
    simp only [Nat.add_zero] at es1
    simp (maxSteps := 4000000) (disch := omega) only [ah, am, Nat.reduceEqDiff, reduceCtorEq, Nat.reduceAdd, Nat.reduceLeDiff, Nat.reduceMul, Nat.reduceLT, if_true, if_false, true_and, and_true, and_self, Nat.reduceBEq, QOp.loads, boxO, bslO, buildO, cutL, fillV, putL, w49, v49, R, es1, es2, es3, W, W1, W2, W3]
    refine ⟨by omega, ((e.trans G1).trans G2).trans G3, ?_⟩
    have := mark_step (fun i : Nat => (⟨k + 3 * (i : Int), k + 3 * (i : Int) + 1, k + 3 * (i : Int) + 2⟩ : Clip)) l i (by omega)
    unfold markClip at O3 ⊢
    rw [← this]; exact O3
  · simp (maxSteps := 4000000) (disch := omega) only [ah, am, Nat.reduceEqDiff, reduceCtorEq, Nat.reduceAdd, Nat.reduceLeDiff, Nat.reduceMul, Nat.reduceLT, if_true, if_false, true_and, and_true, and_self, Nat.reduceBEq, QOp.loads, boxO, bslO, buildO, cutL, fillV, putL, w49, v49]
    obtain rfl : i = l.length := by omega
    exact ⟨e, by simpa using O, rfl⟩
end Go.Proofs.Ytmippcfdakjhfaa
