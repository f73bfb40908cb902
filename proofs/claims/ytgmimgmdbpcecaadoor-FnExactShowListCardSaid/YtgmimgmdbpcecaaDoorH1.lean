import Derived.Test.YtgmimgmdbpcecaaDoorProg
import Derived.Test.YtgmimgmdbpcecaaDoorAhT
namespace Go.Proofs.YtgmimgmdbpcecaaDoor
open Go Go.Ah
set_option linter.unusedSimpArgs false
set_option linter.unusedVariables false
set_option maxRecDepth 10000
set_option maxHeartbeats 4000000
/-! 4 loop.example/g00066/laws.szClipS: parameters 2, live [0, 1], slots [0:a, 1:left, 2:a, 3:left] -/
def c4_0 : List SOper := [⟨some 4, .q (.mv (.c (.int .i64 0))), none⟩]
def c4_1 : List SOper := [⟨some 5, .q (.mv (.t 1)), none⟩, ⟨some 6, .q (.mv (.t 0)), none⟩, ⟨some 7, .q (.len (.t 6)), none⟩, ⟨some 8, .q (.bin .sub (.t 5) (.t 7)), none⟩, ⟨some 1, .q (.mv (.t 8)), none⟩]
def c4_2 : List SOper := [⟨some 9, .q (.mv (.t 1)), none⟩, ⟨some 10, .q (.bin .lss (.t 9) (.c (.int .i64 0))), none⟩]
def c4_3 : List SOper := [⟨some 4, .q (.mv (.c (.int .i64 (-1)))), none⟩]
def c4_4 : SCode := .seq (.region c4_3 [4]) .ret
def c4_5 : SCode := .cond (.t 10) c4_4 .skip
def c4_6 : SCode := .seq (.region c4_2 [1, 10]) c4_5
def c4_7 : List SOper := [⟨some 11, .q (.mv (.t 1)), none⟩, ⟨some 4, .q (.mv (.t 11)), none⟩]
def c4_8 : SCode := .seq (.region c4_7 [4]) .ret
def c4_9 : SCode := .seq c4_6 c4_8
def c4_10 : SCode := .seq (.region c4_1 [1]) c4_9
def c4_11 : SCode := .seq (.region c4_0 [0, 1]) c4_10
def c4 : SCode := c4_11
theorem w4 : type_of% (And.intro (uR Tryd.prog c4_0.eq_1) (And.intro (uR Tryd.prog c4_1.eq_1) (And.intro (uR Tryd.prog c4_2.eq_1) (And.intro (uR Tryd.prog c4_3.eq_1) (And.intro (uC Tryd.prog c4_4.eq_1) (And.intro (uC Tryd.prog c4_5.eq_1) (And.intro (uC Tryd.prog c4_6.eq_1) (And.intro (uR Tryd.prog c4_7.eq_1) (And.intro (uC Tryd.prog c4_8.eq_1) (And.intro (uC Tryd.prog c4_9.eq_1) (And.intro (uC Tryd.prog c4_10.eq_1) (And.intro (uC Tryd.prog c4_11.eq_1) (uC Tryd.prog c4.eq_1))))))))))))) := (And.intro (uR Tryd.prog c4_0.eq_1) (And.intro (uR Tryd.prog c4_1.eq_1) (And.intro (uR Tryd.prog c4_2.eq_1) (And.intro (uR Tryd.prog c4_3.eq_1) (And.intro (uC Tryd.prog c4_4.eq_1) (And.intro (uC Tryd.prog c4_5.eq_1) (And.intro (uC Tryd.prog c4_6.eq_1) (And.intro (uR Tryd.prog c4_7.eq_1) (And.intro (uC Tryd.prog c4_8.eq_1) (And.intro (uC Tryd.prog c4_9.eq_1) (And.intro (uC Tryd.prog c4_10.eq_1) (And.intro (uC Tryd.prog c4_11.eq_1) (uC Tryd.prog c4.eq_1)))))))))))))
def v4 : List RV := [.t 4]
theorem s4 : slimF Tryd.prog Tryd.f4 = some (c4.bare, v4) := by kernel_rfl

/-! 7 loop.example/g00066/laws.toClipS: parameters 1, live [0], slots [0:a, 1:a, 3:out, 4:i] -/
def c7_0 : List SOper := [⟨some 2, .q (.mv (.c (.slice none 0 0))), none⟩]
def c7_1 : List SOper := [⟨some 5, .q (.mv (.t 0)), none⟩, ⟨some 6, .q (.len (.t 5)), none⟩, ⟨some 7, .a (.mks 24 3 [(.int .i64 0), (.int .i64 0), (.int .i64 0)] (.t 6) (.t 6)), none⟩, ⟨some 3, .q (.mv (.t 7)), none⟩]
def c7_2 : List SOper := [⟨some 4, .q (.mv (.c (.int .i64 0))), none⟩]
def c7_3 : List SOper := [⟨some 8, .q (.mv (.t 4)), none⟩, ⟨some 9, .q (.mv (.t 0)), none⟩, ⟨some 10, .q (.len (.t 9)), none⟩, ⟨some 11, .q (.bin .lss (.t 8) (.t 10)), none⟩]
def c7_4 : SCode := .cond (.t 11) .skip (.exit 0)
def c7_5 : SCode := .seq (.region c7_3 [0, 3, 4, 11]) c7_4
def c7_6 : List SOper := [⟨some 14, .q (.mv (.t 3)), none⟩, ⟨some 15, .q (.mv (.t 4)), none⟩, ⟨some 16, .q (.mv (.t 0)), none⟩, ⟨some 17, .q (.mv (.t 4)), none⟩, ⟨some 18, .q (.ia 3 (.t 16) (.t 17)), none⟩, ⟨some 19, .q (.ldn 3 (.t 18)), none⟩, ⟨some 20, .e (.call 16 [(.t 19)]), none⟩, ⟨some 21, .q (.ia 3 (.t 14) (.t 15)), none⟩, ⟨none, .e (.st 3 (.t 21) (.t 20)), none⟩]
def c7_7 : SCode := .block 1 (.region c7_6 [0, 3, 4])
def c7_8 : List SOper := [⟨some 12, .q (.mv (.t 4)), none⟩, ⟨some 13, .q (.bin .add (.t 12) (.c (.int .i64 1))), none⟩, ⟨some 4, .q (.mv (.t 13)), none⟩]
def c7_9 : SCode := .seq c7_7 (.region c7_8 [0, 3, 4])
def c7_10 : SCode := .seq c7_5 c7_9
def c7_11 : SCode := .loop c7_10
def c7_12 : SCode := .block 0 c7_11
def c7_13 : SCode := .seq (.region c7_2 [0, 3, 4]) c7_12
def c7_14 : List SOper := [⟨some 22, .q (.mv (.t 3)), none⟩, ⟨some 2, .q (.mv (.t 22)), none⟩]
def c7_15 : SCode := .seq (.region c7_14 [2]) .ret
def c7_16 : SCode := .seq c7_13 c7_15
def c7_17 : SCode := .seq (.region c7_1 [0, 3]) c7_16
def c7_18 : SCode := .seq (.region c7_0 [0]) c7_17
def c7 : SCode := c7_18
theorem w7 : type_of% (And.intro (uR Tryd.prog c7_0.eq_1) (And.intro (uR Tryd.prog c7_1.eq_1) (And.intro (uR Tryd.prog c7_2.eq_1) (And.intro (uR Tryd.prog c7_3.eq_1) (And.intro (uC Tryd.prog c7_4.eq_1) (And.intro (uC Tryd.prog c7_5.eq_1) (And.intro (uR Tryd.prog c7_6.eq_1) (And.intro (uC Tryd.prog c7_7.eq_1) (And.intro (uR Tryd.prog c7_8.eq_1) (And.intro (uC Tryd.prog c7_9.eq_1) (And.intro (uC Tryd.prog c7_10.eq_1) (And.intro (uC Tryd.prog c7_11.eq_1) (And.intro (uC Tryd.prog c7_12.eq_1) (And.intro (uC Tryd.prog c7_13.eq_1) (And.intro (uR Tryd.prog c7_14.eq_1) (And.intro (uC Tryd.prog c7_15.eq_1) (And.intro (uC Tryd.prog c7_16.eq_1) (And.intro (uC Tryd.prog c7_17.eq_1) (And.intro (uC Tryd.prog c7_18.eq_1) (uC Tryd.prog c7.eq_1)))))))))))))))))))) := (And.intro (uR Tryd.prog c7_0.eq_1) (And.intro (uR Tryd.prog c7_1.eq_1) (And.intro (uR Tryd.prog c7_2.eq_1) (And.intro (uR Tryd.prog c7_3.eq_1) (And.intro (uC Tryd.prog c7_4.eq_1) (And.intro (uC Tryd.prog c7_5.eq_1) (And.intro (uR Tryd.prog c7_6.eq_1) (And.intro (uC Tryd.prog c7_7.eq_1) (And.intro (uR Tryd.prog c7_8.eq_1) (And.intro (uC Tryd.prog c7_9.eq_1) (And.intro (uC Tryd.prog c7_10.eq_1) (And.intro (uC Tryd.prog c7_11.eq_1) (And.intro (uC Tryd.prog c7_12.eq_1) (And.intro (uC Tryd.prog c7_13.eq_1) (And.intro (uR Tryd.prog c7_14.eq_1) (And.intro (uC Tryd.prog c7_15.eq_1) (And.intro (uC Tryd.prog c7_16.eq_1) (And.intro (uC Tryd.prog c7_17.eq_1) (And.intro (uC Tryd.prog c7_18.eq_1) (uC Tryd.prog c7.eq_1))))))))))))))))))))
def v7 : List RV := [.t 2]
theorem s7 : slimF Tryd.prog Tryd.f7 = some (c7.bare, v7) := by kernel_rfl

/-! 16 loop.example/g00066/laws.toClip: parameters 1, live [0], slots [0:a, 1:a, 3:out] -/
def c16_0 : List SOper := [⟨some 1, .a (.box (.t 0)), none⟩, ⟨some 2, .a (.new [(.int .i64 0), (.int .i64 0), (.int .i64 0)]), none⟩]
def c16_1 : List SOper := [⟨some 3, .a (.new [(.int .i64 0), (.int .i64 0), (.int .i64 0)]), none⟩]
def c16_2 : List SOper := [⟨some 4, .q (.fa 0 (.t 1)), none⟩, ⟨some 5, .q (.ld (.t 4)), none⟩, ⟨some 6, .q (.fa 0 (.t 3)), none⟩, ⟨none, .e (.st 1 (.t 6) (.t 5)), none⟩]
def c16_3 : List SOper := [⟨some 7, .q (.fa 1 (.t 1)), none⟩, ⟨some 8, .q (.ld (.t 7)), none⟩, ⟨some 9, .q (.fa 1 (.t 3)), none⟩, ⟨none, .e (.st 1 (.t 9) (.t 8)), none⟩]
def c16_4 : List SOper := [⟨some 10, .q (.fa 2 (.t 1)), none⟩, ⟨some 11, .q (.ld (.t 10)), none⟩, ⟨some 12, .q (.fa 2 (.t 3)), none⟩, ⟨none, .e (.st 1 (.t 12) (.t 11)), none⟩]
def c16_5 : List SOper := [⟨some 13, .q (.ldn 3 (.t 3)), none⟩, ⟨none, .e (.st 3 (.t 2) (.t 13)), none⟩]
def c16_6 : SCode := .seq (.region c16_5 [2]) .ret
def c16_7 : SCode := .seq (.region c16_4 [2, 3]) c16_6
def c16_8 : SCode := .seq (.region c16_3 [1, 2, 3]) c16_7
def c16_9 : SCode := .seq (.region c16_2 [1, 2, 3]) c16_8
def c16_10 : SCode := .seq (.region c16_1 [1, 2, 3]) c16_9
def c16_11 : SCode := .seq (.region c16_0 [1, 2]) c16_10
def c16 : SCode := c16_11
theorem w16 : type_of% (And.intro (uR Tryd.prog c16_0.eq_1) (And.intro (uR Tryd.prog c16_1.eq_1) (And.intro (uR Tryd.prog c16_2.eq_1) (And.intro (uR Tryd.prog c16_3.eq_1) (And.intro (uR Tryd.prog c16_4.eq_1) (And.intro (uR Tryd.prog c16_5.eq_1) (And.intro (uC Tryd.prog c16_6.eq_1) (And.intro (uC Tryd.prog c16_7.eq_1) (And.intro (uC Tryd.prog c16_8.eq_1) (And.intro (uC Tryd.prog c16_9.eq_1) (And.intro (uC Tryd.prog c16_10.eq_1) (And.intro (uC Tryd.prog c16_11.eq_1) (uC Tryd.prog c16.eq_1))))))))))))) := (And.intro (uR Tryd.prog c16_0.eq_1) (And.intro (uR Tryd.prog c16_1.eq_1) (And.intro (uR Tryd.prog c16_2.eq_1) (And.intro (uR Tryd.prog c16_3.eq_1) (And.intro (uR Tryd.prog c16_4.eq_1) (And.intro (uR Tryd.prog c16_5.eq_1) (And.intro (uC Tryd.prog c16_6.eq_1) (And.intro (uC Tryd.prog c16_7.eq_1) (And.intro (uC Tryd.prog c16_8.eq_1) (And.intro (uC Tryd.prog c16_9.eq_1) (And.intro (uC Tryd.prog c16_10.eq_1) (And.intro (uC Tryd.prog c16_11.eq_1) (uC Tryd.prog c16.eq_1)))))))))))))
def v16 : List RV := [.c 2 (some 3)]
theorem s16 : slimF Tryd.prog Tryd.f16 = some (c16.bare, v16) := by kernel_rfl

/-! 9 loop.example/g00066/laws.eqClipS: parameters 2, live [0, 1], slots [0:a, 1:b, 2:a, 3:b, 5:i] -/
def c9_0 : List SOper := [⟨some 4, .q (.mv (.c (.bool false))), none⟩]
def c9_1 : List SOper := [⟨some 6, .q (.mv (.t 0)), none⟩, ⟨some 7, .q (.len (.t 6)), none⟩, ⟨some 8, .q (.mv (.t 1)), none⟩, ⟨some 9, .q (.len (.t 8)), none⟩, ⟨some 10, .q (.bin .neq (.t 7) (.t 9)), none⟩]
def c9_2 : List SOper := [⟨some 4, .q (.mv (.c (.bool false))), none⟩]
def c9_3 : SCode := .seq (.region c9_2 [4]) .ret
def c9_4 : SCode := .cond (.t 10) c9_3 .skip
def c9_5 : SCode := .seq (.region c9_1 [0, 1, 10]) c9_4
def c9_6 : List SOper := [⟨some 5, .q (.mv (.c (.int .i64 0))), none⟩]
def c9_7 : List SOper := [⟨some 11, .q (.mv (.t 5)), none⟩, ⟨some 12, .q (.mv (.t 0)), none⟩, ⟨some 13, .q (.len (.t 12)), none⟩, ⟨some 14, .q (.bin .lss (.t 11) (.t 13)), none⟩]
def c9_8 : SCode := .cond (.t 14) .skip (.exit 0)
def c9_9 : SCode := .seq (.region c9_7 [0, 1, 5, 14]) c9_8
def c9_10 : List SOper := [⟨some 17, .q (.mv (.t 0)), none⟩, ⟨some 18, .q (.mv (.t 5)), none⟩, ⟨some 19, .q (.ia 3 (.t 17) (.t 18)), none⟩, ⟨some 20, .q (.ldn 3 (.t 19)), none⟩, ⟨some 21, .q (.mv (.t 1)), none⟩, ⟨some 22, .q (.mv (.t 5)), none⟩, ⟨some 23, .q (.ia 3 (.t 21) (.t 22)), none⟩, ⟨some 24, .q (.ldn 3 (.t 23)), none⟩, ⟨some 25, .e (.call 21 [(.t 20), (.t 24)]), none⟩, ⟨some 26, .q (.not (.t 25)), none⟩]
def c9_11 : List SOper := [⟨some 4, .q (.mv (.c (.bool false))), none⟩]
def c9_12 : SCode := .seq (.region c9_11 [4]) .ret
def c9_13 : SCode := .cond (.t 26) c9_12 .skip
def c9_14 : SCode := .seq (.region c9_10 [0, 1, 5, 26]) c9_13
def c9_15 : SCode := .block 1 c9_14
def c9_16 : List SOper := [⟨some 15, .q (.mv (.t 5)), none⟩, ⟨some 16, .q (.bin .add (.t 15) (.c (.int .i64 1))), none⟩, ⟨some 5, .q (.mv (.t 16)), none⟩]
def c9_17 : SCode := .seq c9_15 (.region c9_16 [0, 1, 5])
def c9_18 : SCode := .seq c9_9 c9_17
def c9_19 : SCode := .loop c9_18
def c9_20 : SCode := .block 0 c9_19
def c9_21 : SCode := .seq (.region c9_6 [0, 1, 5]) c9_20
def c9_22 : List SOper := [⟨some 4, .q (.mv (.c (.bool true))), none⟩]
def c9_23 : SCode := .seq (.region c9_22 [4]) .ret
def c9_24 : SCode := .seq c9_21 c9_23
def c9_25 : SCode := .seq c9_5 c9_24
def c9_26 : SCode := .seq (.region c9_0 [0, 1]) c9_25
def c9 : SCode := c9_26
theorem w9 : type_of% (And.intro (uR Tryd.prog c9_0.eq_1) (And.intro (uR Tryd.prog c9_1.eq_1) (And.intro (uR Tryd.prog c9_2.eq_1) (And.intro (uC Tryd.prog c9_3.eq_1) (And.intro (uC Tryd.prog c9_4.eq_1) (And.intro (uC Tryd.prog c9_5.eq_1) (And.intro (uR Tryd.prog c9_6.eq_1) (And.intro (uR Tryd.prog c9_7.eq_1) (And.intro (uC Tryd.prog c9_8.eq_1) (And.intro (uC Tryd.prog c9_9.eq_1) (And.intro (uR Tryd.prog c9_10.eq_1) (And.intro (uR Tryd.prog c9_11.eq_1) (And.intro (uC Tryd.prog c9_12.eq_1) (And.intro (uC Tryd.prog c9_13.eq_1) (And.intro (uC Tryd.prog c9_14.eq_1) (And.intro (uC Tryd.prog c9_15.eq_1) (And.intro (uR Tryd.prog c9_16.eq_1) (And.intro (uC Tryd.prog c9_17.eq_1) (And.intro (uC Tryd.prog c9_18.eq_1) (And.intro (uC Tryd.prog c9_19.eq_1) (And.intro (uC Tryd.prog c9_20.eq_1) (And.intro (uC Tryd.prog c9_21.eq_1) (And.intro (uR Tryd.prog c9_22.eq_1) (And.intro (uC Tryd.prog c9_23.eq_1) (And.intro (uC Tryd.prog c9_24.eq_1) (And.intro (uC Tryd.prog c9_25.eq_1) (And.intro (uC Tryd.prog c9_26.eq_1) (uC Tryd.prog c9.eq_1)))))))))))))))))))))))))))) := (And.intro (uR Tryd.prog c9_0.eq_1) (And.intro (uR Tryd.prog c9_1.eq_1) (And.intro (uR Tryd.prog c9_2.eq_1) (And.intro (uC Tryd.prog c9_3.eq_1) (And.intro (uC Tryd.prog c9_4.eq_1) (And.intro (uC Tryd.prog c9_5.eq_1) (And.intro (uR Tryd.prog c9_6.eq_1) (And.intro (uR Tryd.prog c9_7.eq_1) (And.intro (uC Tryd.prog c9_8.eq_1) (And.intro (uC Tryd.prog c9_9.eq_1) (And.intro (uR Tryd.prog c9_10.eq_1) (And.intro (uR Tryd.prog c9_11.eq_1) (And.intro (uC Tryd.prog c9_12.eq_1) (And.intro (uC Tryd.prog c9_13.eq_1) (And.intro (uC Tryd.prog c9_14.eq_1) (And.intro (uC Tryd.prog c9_15.eq_1) (And.intro (uR Tryd.prog c9_16.eq_1) (And.intro (uC Tryd.prog c9_17.eq_1) (And.intro (uC Tryd.prog c9_18.eq_1) (And.intro (uC Tryd.prog c9_19.eq_1) (And.intro (uC Tryd.prog c9_20.eq_1) (And.intro (uC Tryd.prog c9_21.eq_1) (And.intro (uR Tryd.prog c9_22.eq_1) (And.intro (uC Tryd.prog c9_23.eq_1) (And.intro (uC Tryd.prog c9_24.eq_1) (And.intro (uC Tryd.prog c9_25.eq_1) (And.intro (uC Tryd.prog c9_26.eq_1) (uC Tryd.prog c9.eq_1))))))))))))))))))))))))))))
def v9 : List RV := [.t 4]
theorem s9 : slimF Tryd.prog Tryd.f9 = some (c9.bare, v9) := by kernel_rfl

/-! 21 loop.example/g00066/laws.eqClip: parameters 2, live [0, 1], slots [0:a, 1:b, 2:a, 3:b] -/
def c21_0 : List SOper := [⟨some 2, .a (.box (.t 0)), none⟩, ⟨some 3, .a (.box (.t 1)), none⟩, ⟨some 4, .q (.mv (.c (.bool false))), none⟩]
def c21_1 : List SOper := [⟨some 5, .q (.fa 0 (.t 2)), none⟩, ⟨some 6, .q (.ld (.t 5)), none⟩, ⟨some 7, .q (.fa 0 (.t 3)), none⟩, ⟨some 8, .q (.ld (.t 7)), none⟩, ⟨some 9, .q (.bin .neq (.t 6) (.t 8)), none⟩]
def c21_2 : List SOper := [⟨some 4, .q (.mv (.c (.bool false))), none⟩]
def c21_3 : SCode := .seq (.region c21_2 [4]) .ret
def c21_4 : SCode := .cond (.t 9) c21_3 .skip
def c21_5 : SCode := .seq (.region c21_1 [2, 3, 9]) c21_4
def c21_6 : List SOper := [⟨some 10, .q (.fa 1 (.t 2)), none⟩, ⟨some 11, .q (.ld (.t 10)), none⟩, ⟨some 12, .q (.fa 1 (.t 3)), none⟩, ⟨some 13, .q (.ld (.t 12)), none⟩, ⟨some 14, .q (.bin .neq (.t 11) (.t 13)), none⟩]
def c21_7 : List SOper := [⟨some 4, .q (.mv (.c (.bool false))), none⟩]
def c21_8 : SCode := .seq (.region c21_7 [4]) .ret
def c21_9 : SCode := .cond (.t 14) c21_8 .skip
def c21_10 : SCode := .seq (.region c21_6 [2, 3, 14]) c21_9
def c21_11 : List SOper := [⟨some 15, .q (.fa 2 (.t 2)), none⟩, ⟨some 16, .q (.ld (.t 15)), none⟩, ⟨some 17, .q (.fa 2 (.t 3)), none⟩, ⟨some 18, .q (.ld (.t 17)), none⟩, ⟨some 19, .q (.bin .neq (.t 16) (.t 18)), none⟩]
def c21_12 : List SOper := [⟨some 4, .q (.mv (.c (.bool false))), none⟩]
def c21_13 : SCode := .seq (.region c21_12 [4]) .ret
def c21_14 : SCode := .cond (.t 19) c21_13 .skip
def c21_15 : SCode := .seq (.region c21_11 [19]) c21_14
def c21_16 : List SOper := [⟨some 4, .q (.mv (.c (.bool true))), none⟩]
def c21_17 : SCode := .seq (.region c21_16 [4]) .ret
def c21_18 : SCode := .seq c21_15 c21_17
def c21_19 : SCode := .seq c21_10 c21_18
def c21_20 : SCode := .seq c21_5 c21_19
def c21_21 : SCode := .seq (.region c21_0 [2, 3]) c21_20
def c21 : SCode := c21_21
theorem w21 : type_of% (And.intro (uR Tryd.prog c21_0.eq_1) (And.intro (uR Tryd.prog c21_1.eq_1) (And.intro (uR Tryd.prog c21_2.eq_1) (And.intro (uC Tryd.prog c21_3.eq_1) (And.intro (uC Tryd.prog c21_4.eq_1) (And.intro (uC Tryd.prog c21_5.eq_1) (And.intro (uR Tryd.prog c21_6.eq_1) (And.intro (uR Tryd.prog c21_7.eq_1) (And.intro (uC Tryd.prog c21_8.eq_1) (And.intro (uC Tryd.prog c21_9.eq_1) (And.intro (uC Tryd.prog c21_10.eq_1) (And.intro (uR Tryd.prog c21_11.eq_1) (And.intro (uR Tryd.prog c21_12.eq_1) (And.intro (uC Tryd.prog c21_13.eq_1) (And.intro (uC Tryd.prog c21_14.eq_1) (And.intro (uC Tryd.prog c21_15.eq_1) (And.intro (uR Tryd.prog c21_16.eq_1) (And.intro (uC Tryd.prog c21_17.eq_1) (And.intro (uC Tryd.prog c21_18.eq_1) (And.intro (uC Tryd.prog c21_19.eq_1) (And.intro (uC Tryd.prog c21_20.eq_1) (And.intro (uC Tryd.prog c21_21.eq_1) (uC Tryd.prog c21.eq_1))))))))))))))))))))))) := (And.intro (uR Tryd.prog c21_0.eq_1) (And.intro (uR Tryd.prog c21_1.eq_1) (And.intro (uR Tryd.prog c21_2.eq_1) (And.intro (uC Tryd.prog c21_3.eq_1) (And.intro (uC Tryd.prog c21_4.eq_1) (And.intro (uC Tryd.prog c21_5.eq_1) (And.intro (uR Tryd.prog c21_6.eq_1) (And.intro (uR Tryd.prog c21_7.eq_1) (And.intro (uC Tryd.prog c21_8.eq_1) (And.intro (uC Tryd.prog c21_9.eq_1) (And.intro (uC Tryd.prog c21_10.eq_1) (And.intro (uR Tryd.prog c21_11.eq_1) (And.intro (uR Tryd.prog c21_12.eq_1) (And.intro (uC Tryd.prog c21_13.eq_1) (And.intro (uC Tryd.prog c21_14.eq_1) (And.intro (uC Tryd.prog c21_15.eq_1) (And.intro (uR Tryd.prog c21_16.eq_1) (And.intro (uC Tryd.prog c21_17.eq_1) (And.intro (uC Tryd.prog c21_18.eq_1) (And.intro (uC Tryd.prog c21_19.eq_1) (And.intro (uC Tryd.prog c21_20.eq_1) (And.intro (uC Tryd.prog c21_21.eq_1) (uC Tryd.prog c21.eq_1)))))))))))))))))))))))
def v21 : List RV := [.t 4]
theorem s21 : slimF Tryd.prog Tryd.f21 = some (c21.bare, v21) := by kernel_rfl

structure Clip where
  src : Int
  inn : Int
  len : Int
  deriving DecidableEq
def zClip : Clip := ⟨0, 0, 0⟩
def encClip (k : Clip) : List Value := [.int .i64 k.src, .int .i64 k.inn, .int .i64 k.len]
theorem encClip_len (k : Clip) : (encClip k).length = 3 := rfl
theorem take_set_rep {α : Type} (l : List α) (z : α) (i : Nat) (hi : i < l.length) : (l.take i ++ List.replicate (l.length - i) z).set i l[i] = l.take (i + 1) ++ List.replicate (l.length - (i + 1)) z := by
  have hlen : (l.take i).length = i := by simp; omega
  rw [show l.length - i = (l.length - (i + 1)) + 1 by omega, List.replicate_succ, List.set_append_right _ _ (by omega), hlen, Nat.sub_self, List.set_cons_zero,
    List.take_succ_eq_append_getElem hi, List.append_assoc]
  rfl
theorem toClip_ok (h : Heap) (k : Clip) : ACall Tryd.prog 16 [.agg (encClip k).toArray] h fun r h' => Ext h h' ∧ r = .agg (encClip k).toArray := by
  refine ACall.of Tryd.func16 s16 (of_decide_eq_true rfl) ?_
  simp (maxSteps := 4000000) (disch := omega) only [ah, am, Nat.reduceEqDiff, reduceCtorEq, Nat.reduceAdd, Nat.reduceLeDiff, Nat.reduceMul, Nat.reduceLT, if_true, if_false, true_and, and_true, and_self, Nat.reduceBEq, QOp.loads, boxO, bslO, buildO, cutL, fillV, putL, w16, v16, encClip]
  exact Ext.more _ _
theorem eqClip_ok (h : Heap) (k k' : Clip) : ACall Tryd.prog 21 [.agg (encClip k).toArray, .agg (encClip k').toArray] h
    fun r h' => Ext h h' ∧ r = .bool (decide (k = k')) := by
  obtain ⟨a, b, c⟩ := k; obtain ⟨a', b', c'⟩ := k'
  refine ACall.of Tryd.func21 s21 (of_decide_eq_true rfl) ?_
  simp (maxSteps := 4000000) (disch := omega) only [ah, am, Nat.reduceEqDiff, reduceCtorEq, Nat.reduceAdd, Nat.reduceLeDiff, Nat.reduceMul, Nat.reduceLT, if_true, if_false, true_and, and_true, and_self, Nat.reduceBEq, QOp.loads, boxO, bslO, buildO, cutL, fillV, putL, w21, v21, encClip, stepI_dec]
  repeat' split
  all_goals exact ⟨Ext.more _ _, by simp [*]⟩

theorem szClipS_ok (h : Heap) (v : Value) (l : List Clip) (left : Int) (hs : SlT h encClip 3 v l) (h0 : 0 ≤ left) (h1 : left ≤ 1048576) (hl : l.length ≤ 9223372036854775807) :
    ACall Tryd.prog 4 [v, .int .i64 left] h fun r h' => h' = h ∧ r = .int .i64 (if left - l.length < 0 then -1 else left - l.length) := by
  refine ACall.of Tryd.func4 s4 (of_decide_eq_true rfl) ?_
  have R := hs.rules
  have W : IntKind.i64.wrap (left - l.length) = left - l.length := i64e (by omega) (by omega)
  simp (maxSteps := 4000000) (disch := omega) only [ah, am, Nat.reduceEqDiff, reduceCtorEq, Nat.reduceAdd, Nat.reduceLeDiff, Nat.reduceMul, Nat.reduceLT, if_true, if_false, true_and, and_true, and_self, Nat.reduceBEq, QOp.loads, boxO, bslO, buildO, cutL, fillV, putL, w4, v4, R, W, stepI_dec]
  split <;> simp
theorem toClipS_ok (h : Heap) (v : Value) (l : List Clip) (hs : SlT h encClip 3 v l) (hl : l.length ≤ 1048576) :
    ACall Tryd.prog 7 [v] h fun r h' => Fresh h h' encClip 3 r l := by
  refine ACall.of Tryd.func7 s7 (of_decide_eq_true rfl) ?_
  have R := hs.rulesN
  simp (maxSteps := 4000000) (disch := omega) only [ah, am, Nat.reduceEqDiff, reduceCtorEq, Nat.reduceAdd, Nat.reduceLeDiff, Nat.reduceMul, Nat.reduceLT, if_true, if_false, true_and, and_true, and_self, Nat.reduceBEq, QOp.loads, boxO, bslO, buildO, cutL, fillV, putL, w7, v7, R, mksV_nat]
  refine SW_loop_up (fun i E H => ∃ ov, E = [(0, v), (3, ov), (4, .int .i64 i)] ∧ Fresh h H encClip 3 ov (l.take i ++ List.replicate (l.length - i) zClip)) l.length 0 (by omega)
    ⟨_, rfl, by have := Fresh.newR (sz := 3) h l.length zClip encClip_len (by omega); simpa [encClip, zClip] using this⟩ ?_
  rintro i E H hi ⟨ov, rfl, F⟩
  have R := (hs.ext F.1).rulesN
  have W : IntKind.i64.wrap ((i : Int) + 1) = ((i + 1 : Nat) : Int) := i64e (by omega) (by omega)
  simp (maxSteps := 4000000) (disch := omega) only [ah, am, Nat.reduceEqDiff, reduceCtorEq, Nat.reduceAdd, Nat.reduceLeDiff, Nat.reduceMul, Nat.reduceLT, if_true, if_false, true_and, and_true, and_self, Nat.reduceBEq, QOp.loads, boxO, bslO, buildO, cutL, fillV, putL, w7, v7, R, W]
  refine stepI.split (fun hp => ?_) (fun hp => ?_)
  · simp (maxSteps := 4000000) (disch := omega) only [ah, am, Nat.reduceEqDiff, reduceCtorEq, Nat.reduceAdd, Nat.reduceLeDiff, Nat.reduceMul, Nat.reduceLT, if_true, if_false, true_and, and_true, and_self, Nat.reduceBEq, QOp.loads, boxO, bslO, buildO, cutL, fillV, putL, w7, v7, R, W]
    refine stepC.of (toClip_ok _ _) ?_
    rintro r H1 ⟨e1, rfl⟩
    have F1 := F.ext e1
    obtain ⟨H2, es, F2, hsz⟩ := F1.set (j := i) (by simp; omega) l[i] rfl
    have R2 := F1.slt.rulesN
    simp only [List.length_append, List.length_take, List.length_replicate] at R2
    simp (maxSteps := 4000000) (disch := omega) only [ah, am, Nat.reduceEqDiff, reduceCtorEq, Nat.reduceAdd, Nat.reduceLeDiff, Nat.reduceMul, Nat.reduceLT, if_true, if_false, true_and, and_true, and_self, Nat.reduceBEq, QOp.loads, boxO, bslO, buildO, cutL, fillV, putL, w7, v7, R2, es, W]
    refine ⟨by omega, _, rfl, ?_⟩
    rw [show List.take (i + 1) l ++ List.replicate (l.length - (i + 1)) zClip = (l.take i ++ List.replicate (l.length - i) zClip).set i l[i] from (take_set_rep l zClip i (by omega)).symm]
    exact F2
  · simp (maxSteps := 4000000) (disch := omega) only [ah, am, Nat.reduceEqDiff, reduceCtorEq, Nat.reduceAdd, Nat.reduceLeDiff, Nat.reduceMul, Nat.reduceLT, if_true, if_false, true_and, and_true, and_self, Nat.reduceBEq, QOp.loads, boxO, bslO, buildO, cutL, fillV, putL, w7, v7, R, W]
    obtain rfl : i = l.length := by omega
    simpa using F
theorem eqClipS_ok (h : Heap) (v v' : Value) (l l' : List Clip) (hs : SlT h encClip 3 v l) (hs' : SlT h encClip 3 v' l') (hl : l.length ≤ 281474976710656) (hl' : l'.length ≤ 281474976710656) :
    ACall Tryd.prog 9 [v, v'] h fun r h' => Ext h h' ∧ r = .bool (decide (l = l')) := by
  refine ACall.of Tryd.func9 s9 (of_decide_eq_true rfl) ?_
  have R := hs.rulesN
  have R' := hs'.rulesN
  simp (maxSteps := 4000000) (disch := omega) only [ah, am, Nat.reduceEqDiff, reduceCtorEq, Nat.reduceAdd, Nat.reduceLeDiff, Nat.reduceMul, Nat.reduceLT, if_true, if_false, true_and, and_true, and_self, Nat.reduceBEq, QOp.loads, boxO, bslO, buildO, cutL, fillV, putL, w9, v9, R, R']
  refine stepI.split (fun hp => ?_) (fun hp => ?_)
  rotate_left
  · simp (maxSteps := 4000000) (disch := omega) only [ah, am, Nat.reduceEqDiff, reduceCtorEq, Nat.reduceAdd, Nat.reduceLeDiff, Nat.reduceMul, Nat.reduceLT, if_true, if_false, true_and, and_true, and_self, Nat.reduceBEq, QOp.loads, boxO, bslO, buildO, cutL, fillV, putL, w9, v9]
    exact ⟨Ext.refl h, by rw [decide_eq_false]; rintro rfl; exact hp rfl⟩
  have hll : l.length = l'.length := by omega
  simp (maxSteps := 4000000) (disch := omega) only [ah, am, Nat.reduceEqDiff, reduceCtorEq, Nat.reduceAdd, Nat.reduceLeDiff, Nat.reduceMul, Nat.reduceLT, if_true, if_false, true_and, and_true, and_self, Nat.reduceBEq, QOp.loads, boxO, bslO, buildO, cutL, fillV, putL, w9, v9]
  refine SW_loop_up (fun i E H => E = [(0, v), (1, v'), (5, .int .i64 i)] ∧ Ext h H ∧ ∀ j (h1 : j < i) (h2 : j < l.length), l[j] = l'[j]) l.length 0 (by omega)
    ⟨rfl, .refl h, fun j h1 h2 => absurd h1 (by omega)⟩ ?_
  rintro i E H hi ⟨rfl, e, F⟩
  have R := (hs.ext e).rulesN
  have R' := (hs'.ext e).rulesN
  have W : IntKind.i64.wrap ((i : Int) + 1) = ((i + 1 : Nat) : Int) := i64e (by omega) (by omega)
  simp (maxSteps := 4000000) (disch := omega) only [ah, am, Nat.reduceEqDiff, reduceCtorEq, Nat.reduceAdd, Nat.reduceLeDiff, Nat.reduceMul, Nat.reduceLT, if_true, if_false, true_and, and_true, and_self, Nat.reduceBEq, QOp.loads, boxO, bslO, buildO, cutL, fillV, putL, w9, v9, R, R', W]
  refine stepI.split (fun hp => ?_) (fun hp => ?_)
  · simp (maxSteps := 4000000) (disch := omega) only [ah, am, Nat.reduceEqDiff, reduceCtorEq, Nat.reduceAdd, Nat.reduceLeDiff, Nat.reduceMul, Nat.reduceLT, if_true, if_false, true_and, and_true, and_self, Nat.reduceBEq, QOp.loads, boxO, bslO, buildO, cutL, fillV, putL, w9, v9, R, R', W]
    refine stepC.of (eqClip_ok _ _ _) ?_
    rintro r H1 ⟨e1, rfl⟩
    simp (maxSteps := 4000000) (disch := omega) only [ah, am, Nat.reduceEqDiff, reduceCtorEq, Nat.reduceAdd, Nat.reduceLeDiff, Nat.reduceMul, Nat.reduceLT, if_true, if_false, true_and, and_true, and_self, Nat.reduceBEq, QOp.loads, boxO, bslO, buildO, cutL, fillV, putL, w9, v9, R, R', W]
    refine stepI.split (fun hq => ?_) (fun hq => ?_)
    · simp (maxSteps := 4000000) (disch := omega) only [ah, am, Nat.reduceEqDiff, reduceCtorEq, Nat.reduceAdd, Nat.reduceLeDiff, Nat.reduceMul, Nat.reduceLT, if_true, if_false, true_and, and_true, and_self, Nat.reduceBEq, QOp.loads, boxO, bslO, buildO, cutL, fillV, putL, w9, v9, W]
      exact ⟨by omega, e.trans e1, fun j h1 h2 => by
        by_cases hj : j = i
        · subst hj; exact hq
        · exact F j (by omega) h2⟩
    · simp (maxSteps := 4000000) (disch := omega) only [ah, am, Nat.reduceEqDiff, reduceCtorEq, Nat.reduceAdd, Nat.reduceLeDiff, Nat.reduceMul, Nat.reduceLT, if_true, if_false, true_and, and_true, and_self, Nat.reduceBEq, QOp.loads, boxO, bslO, buildO, cutL, fillV, putL, w9, v9, W]
      exact ⟨e.trans e1, by rw [decide_eq_false]; rintro rfl; exact hq rfl⟩
  · simp (maxSteps := 4000000) (disch := omega) only [ah, am, Nat.reduceEqDiff, reduceCtorEq, Nat.reduceAdd, Nat.reduceLeDiff, Nat.reduceMul, Nat.reduceLT, if_true, if_false, true_and, and_true, and_self, Nat.reduceBEq, QOp.loads, boxO, bslO, buildO, cutL, fillV, putL, w9, v9, R, W]
    refine ⟨e, ?_⟩
    rw [decide_eq_true]
    exact List.ext_getElem hll fun j h1 h2 => F j (by omega) h1
def markClip (k : Int) (n : Nat) : List Clip := (List.range n).map fun i : Nat => ⟨k + 3 * (i : Int), k + 3 * (i : Int) + 1, k + 3 * (i : Int) + 2⟩
theorem mark_step {α : Type} (f : Nat → α) (l : List α) (i : Nat) (hi : i < l.length) : ((List.range i).map f ++ l.drop i).set i (f i) = (List.range (i + 1)).map f ++ l.drop (i + 1) := by
  rw [List.set_append_right _ _ (by simp), List.length_map, List.length_range, Nat.sub_self, List.drop_eq_getElem_cons hi, List.set_cons_zero, List.range_succ, List.map_append, List.append_assoc]
  rfl
end Go.Proofs.YtgmimgmdbpcecaaDoor
