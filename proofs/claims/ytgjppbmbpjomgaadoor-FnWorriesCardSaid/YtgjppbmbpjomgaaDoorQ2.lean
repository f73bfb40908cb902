import Derived.Test.YtgjppbmbpjomgaaDoorQ1
import Derived.Test.YtgjppbmbpjomgaaDoorAhBB
import Derived.Laws.Strings
namespace Go.Proofs.YtgjppbmbpjomgaaDoor
open Go Go.Ah
set_option linter.unusedSimpArgs false
set_option linter.unusedVariables false
set_option maxRecDepth 10000
set_option maxHeartbeats 4000000
/-! 11 loop.example/g00066/laws.szTitleS: parameters 2, live [0, 1], slots [0:a, 1:left, 2:a, 3:left, 5:i] -/
def c11_0 : List SOper := [⟨some 4, .q (.mv (.c (.int .i64 0))), none⟩]
def c11_1 : List SOper := [⟨some 6, .q (.mv (.t 1)), none⟩, ⟨some 7, .q (.mv (.t 0)), none⟩, ⟨some 8, .q (.len (.t 7)), none⟩, ⟨some 9, .q (.bin .sub (.t 6) (.t 8)), none⟩, ⟨some 1, .q (.mv (.t 9)), none⟩]
def c11_2 : List SOper := [⟨some 10, .q (.mv (.t 1)), none⟩, ⟨some 11, .q (.bin .lss (.t 10) (.c (.int .i64 0))), none⟩]
def c11_3 : List SOper := [⟨some 4, .q (.mv (.c (.int .i64 (-1)))), none⟩]
def c11_4 : SCode := .seq (.region c11_3 [4]) .ret
def c11_5 : SCode := .cond (.t 11) c11_4 .skip
def c11_6 : SCode := .seq (.region c11_2 [0, 1, 11]) c11_5
def c11_7 : List SOper := [⟨some 5, .q (.mv (.c (.int .i64 0))), none⟩]
def c11_8 : List SOper := [⟨some 12, .q (.mv (.t 5)), none⟩, ⟨some 13, .q (.mv (.t 0)), none⟩, ⟨some 14, .q (.len (.t 13)), none⟩, ⟨some 15, .q (.bin .lss (.t 12) (.t 14)), none⟩]
def c11_9 : SCode := .cond (.t 15) .skip (.exit 0)
def c11_10 : SCode := .seq (.region c11_8 [0, 1, 5, 15]) c11_9
def c11_11 : List SOper := [⟨some 18, .q (.mv (.t 0)), none⟩, ⟨some 19, .q (.mv (.t 5)), none⟩, ⟨some 20, .q (.ia 3 (.t 18) (.t 19)), none⟩, ⟨some 21, .q (.ldn 3 (.t 20)), none⟩, ⟨some 22, .q (.mv (.t 1)), none⟩, ⟨some 23, .e (.call 32 [(.t 21), (.t 22)]), none⟩, ⟨some 1, .q (.mv (.t 23)), none⟩]
def c11_12 : List SOper := [⟨some 24, .q (.mv (.t 1)), none⟩, ⟨some 25, .q (.bin .lss (.t 24) (.c (.int .i64 0))), none⟩]
def c11_13 : List SOper := [⟨some 4, .q (.mv (.c (.int .i64 (-1)))), none⟩]
def c11_14 : SCode := .seq (.region c11_13 [4]) .ret
def c11_15 : SCode := .cond (.t 25) c11_14 .skip
def c11_16 : SCode := .seq (.region c11_12 [0, 1, 5, 25]) c11_15
def c11_17 : SCode := .seq (.region c11_11 [0, 1, 5]) c11_16
def c11_18 : SCode := .block 1 c11_17
def c11_19 : List SOper := [⟨some 16, .q (.mv (.t 5)), none⟩, ⟨some 17, .q (.bin .add (.t 16) (.c (.int .i64 1))), none⟩, ⟨some 5, .q (.mv (.t 17)), none⟩]
def c11_20 : SCode := .seq c11_18 (.region c11_19 [0, 1, 5])
def c11_21 : SCode := .seq c11_10 c11_20
def c11_22 : SCode := .loop c11_21
def c11_23 : SCode := .block 0 c11_22
def c11_24 : SCode := .seq (.region c11_7 [0, 1, 5]) c11_23
def c11_25 : List SOper := [⟨some 26, .q (.mv (.t 1)), none⟩, ⟨some 4, .q (.mv (.t 26)), none⟩]
def c11_26 : SCode := .seq (.region c11_25 [4]) .ret
def c11_27 : SCode := .seq c11_24 c11_26
def c11_28 : SCode := .seq c11_6 c11_27
def c11_29 : SCode := .seq (.region c11_1 [0, 1]) c11_28
def c11_30 : SCode := .seq (.region c11_0 [0, 1]) c11_29
def c11 : SCode := c11_30
theorem w11 : type_of% (And.intro (uR Tryd.prog c11_0.eq_1) (And.intro (uR Tryd.prog c11_1.eq_1) (And.intro (uR Tryd.prog c11_2.eq_1) (And.intro (uR Tryd.prog c11_3.eq_1) (And.intro (uC Tryd.prog c11_4.eq_1) (And.intro (uC Tryd.prog c11_5.eq_1) (And.intro (uC Tryd.prog c11_6.eq_1) (And.intro (uR Tryd.prog c11_7.eq_1) (And.intro (uR Tryd.prog c11_8.eq_1) (And.intro (uC Tryd.prog c11_9.eq_1) (And.intro (uC Tryd.prog c11_10.eq_1) (And.intro (uR Tryd.prog c11_11.eq_1) (And.intro (uR Tryd.prog c11_12.eq_1) (And.intro (uR Tryd.prog c11_13.eq_1) (And.intro (uC Tryd.prog c11_14.eq_1) (And.intro (uC Tryd.prog c11_15.eq_1) (And.intro (uC Tryd.prog c11_16.eq_1) (And.intro (uC Tryd.prog c11_17.eq_1) (And.intro (uC Tryd.prog c11_18.eq_1) (And.intro (uR Tryd.prog c11_19.eq_1) (And.intro (uC Tryd.prog c11_20.eq_1) (And.intro (uC Tryd.prog c11_21.eq_1) (And.intro (uC Tryd.prog c11_22.eq_1) (And.intro (uC Tryd.prog c11_23.eq_1) (And.intro (uC Tryd.prog c11_24.eq_1) (And.intro (uR Tryd.prog c11_25.eq_1) (And.intro (uC Tryd.prog c11_26.eq_1) (And.intro (uC Tryd.prog c11_27.eq_1) (And.intro (uC Tryd.prog c11_28.eq_1) (And.intro (uC Tryd.prog c11_29.eq_1) (And.intro (uC Tryd.prog c11_30.eq_1) (uC Tryd.prog c11.eq_1)))))))))))))))))))))))))))))))) := (And.intro (uR Tryd.prog c11_0.eq_1) (And.intro (uR Tryd.prog c11_1.eq_1) (And.intro (uR Tryd.prog c11_2.eq_1) (And.intro (uR Tryd.prog c11_3.eq_1) (And.intro (uC Tryd.prog c11_4.eq_1) (And.intro (uC Tryd.prog c11_5.eq_1) (And.intro (uC Tryd.prog c11_6.eq_1) (And.intro (uR Tryd.prog c11_7.eq_1) (And.intro (uR Tryd.prog c11_8.eq_1) (And.intro (uC Tryd.prog c11_9.eq_1) (And.intro (uC Tryd.prog c11_10.eq_1) (And.intro (uR Tryd.prog c11_11.eq_1) (And.intro (uR Tryd.prog c11_12.eq_1) (And.intro (uR Tryd.prog c11_13.eq_1) (And.intro (uC Tryd.prog c11_14.eq_1) (And.intro (uC Tryd.prog c11_15.eq_1) (And.intro (uC Tryd.prog c11_16.eq_1) (And.intro (uC Tryd.prog c11_17.eq_1) (And.intro (uC Tryd.prog c11_18.eq_1) (And.intro (uR Tryd.prog c11_19.eq_1) (And.intro (uC Tryd.prog c11_20.eq_1) (And.intro (uC Tryd.prog c11_21.eq_1) (And.intro (uC Tryd.prog c11_22.eq_1) (And.intro (uC Tryd.prog c11_23.eq_1) (And.intro (uC Tryd.prog c11_24.eq_1) (And.intro (uR Tryd.prog c11_25.eq_1) (And.intro (uC Tryd.prog c11_26.eq_1) (And.intro (uC Tryd.prog c11_27.eq_1) (And.intro (uC Tryd.prog c11_28.eq_1) (And.intro (uC Tryd.prog c11_29.eq_1) (And.intro (uC Tryd.prog c11_30.eq_1) (uC Tryd.prog c11.eq_1))))))))))))))))))))))))))))))))
def v11 : List RV := [.t 4]
theorem s11 : slimF Tryd.prog Tryd.f11 = some (c11.bare, v11) := by kernel_rfl
/-! 32 loop.example/g00066/laws.szTitle: parameters 2, live [0, 1], slots [0:a, 1:left, 2:a, 3:left] -/
def c32_0 : List SOper := [⟨some 2, .a (.box (.t 0)), none⟩, ⟨some 4, .q (.mv (.c (.int .i64 0))), none⟩]
def c32_1 : List SOper := [⟨some 5, .q (.mv (.t 1)), none⟩, ⟨some 6, .q (.fa 2 (.t 2)), none⟩, ⟨some 7, .q (.ld (.t 6)), none⟩, ⟨some 8, .q (.lens (.t 7)), none⟩, ⟨some 9, .q (.bin .sub (.t 5) (.t 8)), none⟩, ⟨some 1, .q (.mv (.t 9)), none⟩]
def c32_2 : List SOper := [⟨some 10, .q (.mv (.t 1)), none⟩, ⟨some 11, .q (.bin .lss (.t 10) (.c (.int .i64 0))), none⟩]
def c32_3 : List SOper := [⟨some 4, .q (.mv (.c (.int .i64 (-1)))), none⟩]
def c32_4 : SCode := .seq (.region c32_3 [4]) .ret
def c32_5 : SCode := .cond (.t 11) c32_4 .skip
def c32_6 : SCode := .seq (.region c32_2 [1, 11]) c32_5
def c32_7 : List SOper := [⟨some 12, .q (.mv (.t 1)), none⟩, ⟨some 4, .q (.mv (.t 12)), none⟩]
def c32_8 : SCode := .seq (.region c32_7 [4]) .ret
def c32_9 : SCode := .seq c32_6 c32_8
def c32_10 : SCode := .seq (.region c32_1 [1]) c32_9
def c32_11 : SCode := .seq (.region c32_0 [1, 2]) c32_10
def c32 : SCode := c32_11
theorem w32 : type_of% (And.intro (uR Tryd.prog c32_0.eq_1) (And.intro (uR Tryd.prog c32_1.eq_1) (And.intro (uR Tryd.prog c32_2.eq_1) (And.intro (uR Tryd.prog c32_3.eq_1) (And.intro (uC Tryd.prog c32_4.eq_1) (And.intro (uC Tryd.prog c32_5.eq_1) (And.intro (uC Tryd.prog c32_6.eq_1) (And.intro (uR Tryd.prog c32_7.eq_1) (And.intro (uC Tryd.prog c32_8.eq_1) (And.intro (uC Tryd.prog c32_9.eq_1) (And.intro (uC Tryd.prog c32_10.eq_1) (And.intro (uC Tryd.prog c32_11.eq_1) (uC Tryd.prog c32.eq_1))))))))))))) := (And.intro (uR Tryd.prog c32_0.eq_1) (And.intro (uR Tryd.prog c32_1.eq_1) (And.intro (uR Tryd.prog c32_2.eq_1) (And.intro (uR Tryd.prog c32_3.eq_1) (And.intro (uC Tryd.prog c32_4.eq_1) (And.intro (uC Tryd.prog c32_5.eq_1) (And.intro (uC Tryd.prog c32_6.eq_1) (And.intro (uR Tryd.prog c32_7.eq_1) (And.intro (uC Tryd.prog c32_8.eq_1) (And.intro (uC Tryd.prog c32_9.eq_1) (And.intro (uC Tryd.prog c32_10.eq_1) (And.intro (uC Tryd.prog c32_11.eq_1) (uC Tryd.prog c32.eq_1)))))))))))))
def v32 : List RV := [.t 4]
theorem s32 : slimF Tryd.prog Tryd.f32 = some (c32.bare, v32) := by kernel_rfl
/-! 12 loop.example/g00066/laws.toTitleS: parameters 1, live [0], slots [0:a, 1:a, 3:out, 4:i] -/
def c12_0 : List SOper := [⟨some 2, .q (.mv (.c (.slice none 0 0))), none⟩]
def c12_1 : List SOper := [⟨some 5, .q (.mv (.t 0)), none⟩, ⟨some 6, .q (.len (.t 5)), none⟩, ⟨some 7, .a (.mks 32 3 [(.int .i64 0), (.int .i64 0), (.string ⟨#[]⟩)] (.t 6) (.t 6)), none⟩, ⟨some 3, .q (.mv (.t 7)), none⟩]
def c12_2 : List SOper := [⟨some 4, .q (.mv (.c (.int .i64 0))), none⟩]
def c12_3 : List SOper := [⟨some 8, .q (.mv (.t 4)), none⟩, ⟨some 9, .q (.mv (.t 0)), none⟩, ⟨some 10, .q (.len (.t 9)), none⟩, ⟨some 11, .q (.bin .lss (.t 8) (.t 10)), none⟩]
def c12_4 : SCode := .cond (.t 11) .skip (.exit 0)
def c12_5 : SCode := .seq (.region c12_3 [0, 3, 4, 11]) c12_4
def c12_6 : List SOper := [⟨some 14, .q (.mv (.t 3)), none⟩, ⟨some 15, .q (.mv (.t 4)), none⟩, ⟨some 16, .q (.mv (.t 0)), none⟩, ⟨some 17, .q (.mv (.t 4)), none⟩, ⟨some 18, .q (.ia 3 (.t 16) (.t 17)), none⟩, ⟨some 19, .q (.ldn 3 (.t 18)), none⟩, ⟨some 20, .e (.call 33 [(.t 19)]), none⟩, ⟨some 21, .q (.ia 3 (.t 14) (.t 15)), none⟩, ⟨none, .e (.st 3 (.t 21) (.t 20)), none⟩]
def c12_7 : SCode := .block 1 (.region c12_6 [0, 3, 4])
def c12_8 : List SOper := [⟨some 12, .q (.mv (.t 4)), none⟩, ⟨some 13, .q (.bin .add (.t 12) (.c (.int .i64 1))), none⟩, ⟨some 4, .q (.mv (.t 13)), none⟩]
def c12_9 : SCode := .seq c12_7 (.region c12_8 [0, 3, 4])
def c12_10 : SCode := .seq c12_5 c12_9
def c12_11 : SCode := .loop c12_10
def c12_12 : SCode := .block 0 c12_11
def c12_13 : SCode := .seq (.region c12_2 [0, 3, 4]) c12_12
def c12_14 : List SOper := [⟨some 22, .q (.mv (.t 3)), none⟩, ⟨some 2, .q (.mv (.t 22)), none⟩]
def c12_15 : SCode := .seq (.region c12_14 [2]) .ret
def c12_16 : SCode := .seq c12_13 c12_15
def c12_17 : SCode := .seq (.region c12_1 [0, 3]) c12_16
def c12_18 : SCode := .seq (.region c12_0 [0]) c12_17
def c12 : SCode := c12_18
theorem w12 : type_of% (And.intro (uR Tryd.prog c12_0.eq_1) (And.intro (uR Tryd.prog c12_1.eq_1) (And.intro (uR Tryd.prog c12_2.eq_1) (And.intro (uR Tryd.prog c12_3.eq_1) (And.intro (uC Tryd.prog c12_4.eq_1) (And.intro (uC Tryd.prog c12_5.eq_1) (And.intro (uR Tryd.prog c12_6.eq_1) (And.intro (uC Tryd.prog c12_7.eq_1) (And.intro (uR Tryd.prog c12_8.eq_1) (And.intro (uC Tryd.prog c12_9.eq_1) (And.intro (uC Tryd.prog c12_10.eq_1) (And.intro (uC Tryd.prog c12_11.eq_1) (And.intro (uC Tryd.prog c12_12.eq_1) (And.intro (uC Tryd.prog c12_13.eq_1) (And.intro (uR Tryd.prog c12_14.eq_1) (And.intro (uC Tryd.prog c12_15.eq_1) (And.intro (uC Tryd.prog c12_16.eq_1) (And.intro (uC Tryd.prog c12_17.eq_1) (And.intro (uC Tryd.prog c12_18.eq_1) (uC Tryd.prog c12.eq_1)))))))))))))))))))) := (And.intro (uR Tryd.prog c12_0.eq_1) (And.intro (uR Tryd.prog c12_1.eq_1) (And.intro (uR Tryd.prog c12_2.eq_1) (And.intro (uR Tryd.prog c12_3.eq_1) (And.intro (uC Tryd.prog c12_4.eq_1) (And.intro (uC Tryd.prog c12_5.eq_1) (And.intro (uR Tryd.prog c12_6.eq_1) (And.intro (uC Tryd.prog c12_7.eq_1) (And.intro (uR Tryd.prog c12_8.eq_1) (And.intro (uC Tryd.prog c12_9.eq_1) (And.intro (uC Tryd.prog c12_10.eq_1) (And.intro (uC Tryd.prog c12_11.eq_1) (And.intro (uC Tryd.prog c12_12.eq_1) (And.intro (uC Tryd.prog c12_13.eq_1) (And.intro (uR Tryd.prog c12_14.eq_1) (And.intro (uC Tryd.prog c12_15.eq_1) (And.intro (uC Tryd.prog c12_16.eq_1) (And.intro (uC Tryd.prog c12_17.eq_1) (And.intro (uC Tryd.prog c12_18.eq_1) (uC Tryd.prog c12.eq_1))))))))))))))))))))
def v12 : List RV := [.t 2]
theorem s12 : slimF Tryd.prog Tryd.f12 = some (c12.bare, v12) := by kernel_rfl
/-! 33 loop.example/g00066/laws.toTitle: parameters 1, live [0], slots [0:a, 1:a, 3:out] -/
def c33_0 : List SOper := [⟨some 1, .a (.box (.t 0)), none⟩, ⟨some 2, .a (.new [(.int .i64 0), (.int .i64 0), (.string ⟨#[]⟩)]), none⟩]
def c33_1 : List SOper := [⟨some 3, .a (.new [(.int .i64 0), (.int .i64 0), (.string ⟨#[]⟩)]), none⟩]
def c33_2 : List SOper := [⟨some 4, .q (.fa 0 (.t 1)), none⟩, ⟨some 5, .q (.ld (.t 4)), none⟩, ⟨some 6, .q (.fa 0 (.t 3)), none⟩, ⟨none, .e (.st 1 (.t 6) (.t 5)), none⟩]
def c33_3 : List SOper := [⟨some 7, .q (.fa 1 (.t 1)), none⟩, ⟨some 8, .q (.ld (.t 7)), none⟩, ⟨some 9, .q (.fa 1 (.t 3)), none⟩, ⟨none, .e (.st 1 (.t 9) (.t 8)), none⟩]
def c33_4 : List SOper := [⟨some 10, .q (.fa 2 (.t 1)), none⟩, ⟨some 11, .q (.ld (.t 10)), none⟩, ⟨some 12, .q (.fa 2 (.t 3)), none⟩, ⟨none, .e (.st 1 (.t 12) (.t 11)), none⟩]
def c33_5 : List SOper := [⟨some 13, .q (.ldn 3 (.t 3)), none⟩, ⟨none, .e (.st 3 (.t 2) (.t 13)), none⟩]
def c33_6 : SCode := .seq (.region c33_5 [2]) .ret
def c33_7 : SCode := .seq (.region c33_4 [2, 3]) c33_6
def c33_8 : SCode := .seq (.region c33_3 [1, 2, 3]) c33_7
def c33_9 : SCode := .seq (.region c33_2 [1, 2, 3]) c33_8
def c33_10 : SCode := .seq (.region c33_1 [1, 2, 3]) c33_9
def c33_11 : SCode := .seq (.region c33_0 [1, 2]) c33_10
def c33 : SCode := c33_11
theorem w33 : type_of% (And.intro (uR Tryd.prog c33_0.eq_1) (And.intro (uR Tryd.prog c33_1.eq_1) (And.intro (uR Tryd.prog c33_2.eq_1) (And.intro (uR Tryd.prog c33_3.eq_1) (And.intro (uR Tryd.prog c33_4.eq_1) (And.intro (uR Tryd.prog c33_5.eq_1) (And.intro (uC Tryd.prog c33_6.eq_1) (And.intro (uC Tryd.prog c33_7.eq_1) (And.intro (uC Tryd.prog c33_8.eq_1) (And.intro (uC Tryd.prog c33_9.eq_1) (And.intro (uC Tryd.prog c33_10.eq_1) (And.intro (uC Tryd.prog c33_11.eq_1) (uC Tryd.prog c33.eq_1))))))))))))) := (And.intro (uR Tryd.prog c33_0.eq_1) (And.intro (uR Tryd.prog c33_1.eq_1) (And.intro (uR Tryd.prog c33_2.eq_1) (And.intro (uR Tryd.prog c33_3.eq_1) (And.intro (uR Tryd.prog c33_4.eq_1) (And.intro (uR Tryd.prog c33_5.eq_1) (And.intro (uC Tryd.prog c33_6.eq_1) (And.intro (uC Tryd.prog c33_7.eq_1) (And.intro (uC Tryd.prog c33_8.eq_1) (And.intro (uC Tryd.prog c33_9.eq_1) (And.intro (uC Tryd.prog c33_10.eq_1) (And.intro (uC Tryd.prog c33_11.eq_1) (uC Tryd.prog c33.eq_1)))))))))))))
def v33 : List RV := [.c 2 (some 3)]
theorem s33 : slimF Tryd.prog Tryd.f33 = some (c33.bare, v33) := by kernel_rfl
/-! 15 loop.example/g00066/laws.eqTitleS: parameters 2, live [0, 1], slots [0:a, 1:b, 2:a, 3:b, 5:i] -/
def c15_0 : List SOper := [⟨some 4, .q (.mv (.c (.bool false))), none⟩]
def c15_1 : List SOper := [⟨some 6, .q (.mv (.t 0)), none⟩, ⟨some 7, .q (.len (.t 6)), none⟩, ⟨some 8, .q (.mv (.t 1)), none⟩, ⟨some 9, .q (.len (.t 8)), none⟩, ⟨some 10, .q (.bin .neq (.t 7) (.t 9)), none⟩]
def c15_2 : List SOper := [⟨some 4, .q (.mv (.c (.bool false))), none⟩]
def c15_3 : SCode := .seq (.region c15_2 [4]) .ret
def c15_4 : SCode := .cond (.t 10) c15_3 .skip
def c15_5 : SCode := .seq (.region c15_1 [0, 1, 10]) c15_4
def c15_6 : List SOper := [⟨some 5, .q (.mv (.c (.int .i64 0))), none⟩]
def c15_7 : List SOper := [⟨some 11, .q (.mv (.t 5)), none⟩, ⟨some 12, .q (.mv (.t 0)), none⟩, ⟨some 13, .q (.len (.t 12)), none⟩, ⟨some 14, .q (.bin .lss (.t 11) (.t 13)), none⟩]
def c15_8 : SCode := .cond (.t 14) .skip (.exit 0)
def c15_9 : SCode := .seq (.region c15_7 [0, 1, 5, 14]) c15_8
def c15_10 : List SOper := [⟨some 17, .q (.mv (.t 0)), none⟩, ⟨some 18, .q (.mv (.t 5)), none⟩, ⟨some 19, .q (.ia 3 (.t 17) (.t 18)), none⟩, ⟨some 20, .q (.ldn 3 (.t 19)), none⟩, ⟨some 21, .q (.mv (.t 1)), none⟩, ⟨some 22, .q (.mv (.t 5)), none⟩, ⟨some 23, .q (.ia 3 (.t 21) (.t 22)), none⟩, ⟨some 24, .q (.ldn 3 (.t 23)), none⟩, ⟨some 25, .e (.call 35 [(.t 20), (.t 24)]), none⟩, ⟨some 26, .q (.not (.t 25)), none⟩]
def c15_11 : List SOper := [⟨some 4, .q (.mv (.c (.bool false))), none⟩]
def c15_12 : SCode := .seq (.region c15_11 [4]) .ret
def c15_13 : SCode := .cond (.t 26) c15_12 .skip
def c15_14 : SCode := .seq (.region c15_10 [0, 1, 5, 26]) c15_13
def c15_15 : SCode := .block 1 c15_14
def c15_16 : List SOper := [⟨some 15, .q (.mv (.t 5)), none⟩, ⟨some 16, .q (.bin .add (.t 15) (.c (.int .i64 1))), none⟩, ⟨some 5, .q (.mv (.t 16)), none⟩]
def c15_17 : SCode := .seq c15_15 (.region c15_16 [0, 1, 5])
def c15_18 : SCode := .seq c15_9 c15_17
def c15_19 : SCode := .loop c15_18
def c15_20 : SCode := .block 0 c15_19
def c15_21 : SCode := .seq (.region c15_6 [0, 1, 5]) c15_20
def c15_22 : List SOper := [⟨some 4, .q (.mv (.c (.bool true))), none⟩]
def c15_23 : SCode := .seq (.region c15_22 [4]) .ret
def c15_24 : SCode := .seq c15_21 c15_23
def c15_25 : SCode := .seq c15_5 c15_24
def c15_26 : SCode := .seq (.region c15_0 [0, 1]) c15_25
def c15 : SCode := c15_26
theorem w15 : type_of% (And.intro (uR Tryd.prog c15_0.eq_1) (And.intro (uR Tryd.prog c15_1.eq_1) (And.intro (uR Tryd.prog c15_2.eq_1) (And.intro (uC Tryd.prog c15_3.eq_1) (And.intro (uC Tryd.prog c15_4.eq_1) (And.intro (uC Tryd.prog c15_5.eq_1) (And.intro (uR Tryd.prog c15_6.eq_1) (And.intro (uR Tryd.prog c15_7.eq_1) (And.intro (uC Tryd.prog c15_8.eq_1) (And.intro (uC Tryd.prog c15_9.eq_1) (And.intro (uR Tryd.prog c15_10.eq_1) (And.intro (uR Tryd.prog c15_11.eq_1) (And.intro (uC Tryd.prog c15_12.eq_1) (And.intro (uC Tryd.prog c15_13.eq_1) (And.intro (uC Tryd.prog c15_14.eq_1) (And.intro (uC Tryd.prog c15_15.eq_1) (And.intro (uR Tryd.prog c15_16.eq_1) (And.intro (uC Tryd.prog c15_17.eq_1) (And.intro (uC Tryd.prog c15_18.eq_1) (And.intro (uC Tryd.prog c15_19.eq_1) (And.intro (uC Tryd.prog c15_20.eq_1) (And.intro (uC Tryd.prog c15_21.eq_1) (And.intro (uR Tryd.prog c15_22.eq_1) (And.intro (uC Tryd.prog c15_23.eq_1) (And.intro (uC Tryd.prog c15_24.eq_1) (And.intro (uC Tryd.prog c15_25.eq_1) (And.intro (uC Tryd.prog c15_26.eq_1) (uC Tryd.prog c15.eq_1)))))))))))))))))))))))))))) := (And.intro (uR Tryd.prog c15_0.eq_1) (And.intro (uR Tryd.prog c15_1.eq_1) (And.intro (uR Tryd.prog c15_2.eq_1) (And.intro (uC Tryd.prog c15_3.eq_1) (And.intro (uC Tryd.prog c15_4.eq_1) (And.intro (uC Tryd.prog c15_5.eq_1) (And.intro (uR Tryd.prog c15_6.eq_1) (And.intro (uR Tryd.prog c15_7.eq_1) (And.intro (uC Tryd.prog c15_8.eq_1) (And.intro (uC Tryd.prog c15_9.eq_1) (And.intro (uR Tryd.prog c15_10.eq_1) (And.intro (uR Tryd.prog c15_11.eq_1) (And.intro (uC Tryd.prog c15_12.eq_1) (And.intro (uC Tryd.prog c15_13.eq_1) (And.intro (uC Tryd.prog c15_14.eq_1) (And.intro (uC Tryd.prog c15_15.eq_1) (And.intro (uR Tryd.prog c15_16.eq_1) (And.intro (uC Tryd.prog c15_17.eq_1) (And.intro (uC Tryd.prog c15_18.eq_1) (And.intro (uC Tryd.prog c15_19.eq_1) (And.intro (uC Tryd.prog c15_20.eq_1) (And.intro (uC Tryd.prog c15_21.eq_1) (And.intro (uR Tryd.prog c15_22.eq_1) (And.intro (uC Tryd.prog c15_23.eq_1) (And.intro (uC Tryd.prog c15_24.eq_1) (And.intro (uC Tryd.prog c15_25.eq_1) (And.intro (uC Tryd.prog c15_26.eq_1) (uC Tryd.prog c15.eq_1))))))))))))))))))))))))))))
def v15 : List RV := [.t 4]
theorem s15 : slimF Tryd.prog Tryd.f15 = some (c15.bare, v15) := by kernel_rfl
/-! 35 loop.example/g00066/laws.eqTitle: parameters 2, live [0, 1], slots [0:a, 1:b, 2:a, 3:b] -/
def c35_0 : List SOper := [⟨some 2, .a (.box (.t 0)), none⟩, ⟨some 3, .a (.box (.t 1)), none⟩, ⟨some 4, .q (.mv (.c (.bool false))), none⟩]
def c35_1 : List SOper := [⟨some 5, .q (.fa 0 (.t 2)), none⟩, ⟨some 6, .q (.ld (.t 5)), none⟩, ⟨some 7, .q (.fa 0 (.t 3)), none⟩, ⟨some 8, .q (.ld (.t 7)), none⟩, ⟨some 9, .q (.bin .neq (.t 6) (.t 8)), none⟩]
def c35_2 : List SOper := [⟨some 4, .q (.mv (.c (.bool false))), none⟩]
def c35_3 : SCode := .seq (.region c35_2 [4]) .ret
def c35_4 : SCode := .cond (.t 9) c35_3 .skip
def c35_5 : SCode := .seq (.region c35_1 [2, 3, 9]) c35_4
def c35_6 : List SOper := [⟨some 10, .q (.fa 1 (.t 2)), none⟩, ⟨some 11, .q (.ld (.t 10)), none⟩, ⟨some 12, .q (.fa 1 (.t 3)), none⟩, ⟨some 13, .q (.ld (.t 12)), none⟩, ⟨some 14, .q (.bin .neq (.t 11) (.t 13)), none⟩]
def c35_7 : List SOper := [⟨some 4, .q (.mv (.c (.bool false))), none⟩]
def c35_8 : SCode := .seq (.region c35_7 [4]) .ret
def c35_9 : SCode := .cond (.t 14) c35_8 .skip
def c35_10 : SCode := .seq (.region c35_6 [2, 3, 14]) c35_9
def c35_11 : List SOper := [⟨some 15, .q (.fa 2 (.t 2)), none⟩, ⟨some 16, .q (.ld (.t 15)), none⟩, ⟨some 17, .q (.fa 2 (.t 3)), none⟩, ⟨some 18, .q (.ld (.t 17)), none⟩, ⟨some 19, .q (.bin .neq (.t 16) (.t 18)), none⟩]
def c35_12 : List SOper := [⟨some 4, .q (.mv (.c (.bool false))), none⟩]
def c35_13 : SCode := .seq (.region c35_12 [4]) .ret
def c35_14 : SCode := .cond (.t 19) c35_13 .skip
def c35_15 : SCode := .seq (.region c35_11 [19]) c35_14
def c35_16 : List SOper := [⟨some 4, .q (.mv (.c (.bool true))), none⟩]
def c35_17 : SCode := .seq (.region c35_16 [4]) .ret
def c35_18 : SCode := .seq c35_15 c35_17
def c35_19 : SCode := .seq c35_10 c35_18
def c35_20 : SCode := .seq c35_5 c35_19
def c35_21 : SCode := .seq (.region c35_0 [2, 3]) c35_20
def c35 : SCode := c35_21
theorem w35 : type_of% (And.intro (uR Tryd.prog c35_0.eq_1) (And.intro (uR Tryd.prog c35_1.eq_1) (And.intro (uR Tryd.prog c35_2.eq_1) (And.intro (uC Tryd.prog c35_3.eq_1) (And.intro (uC Tryd.prog c35_4.eq_1) (And.intro (uC Tryd.prog c35_5.eq_1) (And.intro (uR Tryd.prog c35_6.eq_1) (And.intro (uR Tryd.prog c35_7.eq_1) (And.intro (uC Tryd.prog c35_8.eq_1) (And.intro (uC Tryd.prog c35_9.eq_1) (And.intro (uC Tryd.prog c35_10.eq_1) (And.intro (uR Tryd.prog c35_11.eq_1) (And.intro (uR Tryd.prog c35_12.eq_1) (And.intro (uC Tryd.prog c35_13.eq_1) (And.intro (uC Tryd.prog c35_14.eq_1) (And.intro (uC Tryd.prog c35_15.eq_1) (And.intro (uR Tryd.prog c35_16.eq_1) (And.intro (uC Tryd.prog c35_17.eq_1) (And.intro (uC Tryd.prog c35_18.eq_1) (And.intro (uC Tryd.prog c35_19.eq_1) (And.intro (uC Tryd.prog c35_20.eq_1) (And.intro (uC Tryd.prog c35_21.eq_1) (uC Tryd.prog c35.eq_1))))))))))))))))))))))) := (And.intro (uR Tryd.prog c35_0.eq_1) (And.intro (uR Tryd.prog c35_1.eq_1) (And.intro (uR Tryd.prog c35_2.eq_1) (And.intro (uC Tryd.prog c35_3.eq_1) (And.intro (uC Tryd.prog c35_4.eq_1) (And.intro (uC Tryd.prog c35_5.eq_1) (And.intro (uR Tryd.prog c35_6.eq_1) (And.intro (uR Tryd.prog c35_7.eq_1) (And.intro (uC Tryd.prog c35_8.eq_1) (And.intro (uC Tryd.prog c35_9.eq_1) (And.intro (uC Tryd.prog c35_10.eq_1) (And.intro (uR Tryd.prog c35_11.eq_1) (And.intro (uR Tryd.prog c35_12.eq_1) (And.intro (uC Tryd.prog c35_13.eq_1) (And.intro (uC Tryd.prog c35_14.eq_1) (And.intro (uC Tryd.prog c35_15.eq_1) (And.intro (uR Tryd.prog c35_16.eq_1) (And.intro (uC Tryd.prog c35_17.eq_1) (And.intro (uC Tryd.prog c35_18.eq_1) (And.intro (uC Tryd.prog c35_19.eq_1) (And.intro (uC Tryd.prog c35_20.eq_1) (And.intro (uC Tryd.prog c35_21.eq_1) (uC Tryd.prog c35.eq_1)))))))))))))))))))))))
def v35 : List RV := [.t 4]
theorem s35 : slimF Tryd.prog Tryd.f35 = some (c35.bare, v35) := by kernel_rfl
/-! 16 loop.example/g00066/laws.markTitleS: parameters 2, live [0, 1], slots [0:a, 1:k, 2:a, 3:k, 5:i] -/
def c16_0 : List SOper := [⟨some 4, .q (.mv (.c (.int .i64 0))), none⟩]
def c16_1 : List SOper := [⟨some 5, .q (.mv (.c (.int .i64 0))), none⟩]
def c16_2 : List SOper := [⟨some 6, .q (.mv (.t 5)), none⟩, ⟨some 7, .q (.mv (.t 0)), none⟩, ⟨some 8, .q (.len (.t 7)), none⟩, ⟨some 9, .q (.bin .lss (.t 6) (.t 8)), none⟩]
def c16_3 : SCode := .cond (.t 9) .skip (.exit 0)
def c16_4 : SCode := .seq (.region c16_2 [0, 1, 5, 9]) c16_3
def c16_5 : List SOper := [⟨some 12, .q (.mv (.t 0)), none⟩, ⟨some 13, .q (.mv (.t 5)), none⟩, ⟨some 14, .q (.mv (.t 1)), none⟩, ⟨some 15, .q (.ia 3 (.t 12) (.t 13)), none⟩, ⟨some 16, .q (.fa 0 (.t 15)), none⟩, ⟨none, .e (.st 1 (.t 16) (.t 14)), none⟩]
def c16_6 : List SOper := [⟨some 17, .q (.mv (.t 1)), none⟩, ⟨some 18, .q (.bin .add (.t 17) (.c (.int .i64 1))), none⟩, ⟨some 1, .q (.mv (.t 18)), none⟩]
def c16_7 : List SOper := [⟨some 19, .q (.mv (.t 0)), none⟩, ⟨some 20, .q (.mv (.t 5)), none⟩, ⟨some 21, .q (.mv (.t 1)), none⟩, ⟨some 22, .q (.ia 3 (.t 19) (.t 20)), none⟩, ⟨some 23, .q (.fa 1 (.t 22)), none⟩, ⟨none, .e (.st 1 (.t 23) (.t 21)), none⟩]
def c16_8 : List SOper := [⟨some 24, .q (.mv (.t 1)), none⟩, ⟨some 25, .q (.bin .add (.t 24) (.c (.int .i64 1))), none⟩, ⟨some 1, .q (.mv (.t 25)), none⟩]
def c16_9 : List SOper := [⟨some 26, .q (.mv (.t 0)), none⟩, ⟨some 27, .q (.mv (.t 5)), none⟩, ⟨some 28, .q (.mv (.t 1)), none⟩, ⟨some 29, .e (.call 36 [(.t 28)]), none⟩, ⟨some 30, .q (.ia 3 (.t 26) (.t 27)), none⟩, ⟨some 31, .q (.fa 2 (.t 30)), none⟩, ⟨none, .e (.st 1 (.t 31) (.t 29)), none⟩]
def c16_10 : List SOper := [⟨some 32, .q (.mv (.t 1)), none⟩, ⟨some 33, .q (.bin .add (.t 32) (.c (.int .i64 1))), none⟩, ⟨some 1, .q (.mv (.t 33)), none⟩]
def c16_11 : SCode := .seq (.region c16_9 [0, 1, 5]) (.region c16_10 [0, 1, 5])
def c16_12 : SCode := .seq (.region c16_8 [0, 1, 5]) c16_11
def c16_13 : SCode := .seq (.region c16_7 [0, 1, 5]) c16_12
def c16_14 : SCode := .seq (.region c16_6 [0, 1, 5]) c16_13
def c16_15 : SCode := .seq (.region c16_5 [0, 1, 5]) c16_14
def c16_16 : SCode := .block 1 c16_15
def c16_17 : List SOper := [⟨some 10, .q (.mv (.t 5)), none⟩, ⟨some 11, .q (.bin .add (.t 10) (.c (.int .i64 1))), none⟩, ⟨some 5, .q (.mv (.t 11)), none⟩]
def c16_18 : SCode := .seq c16_16 (.region c16_17 [0, 1, 5])
def c16_19 : SCode := .seq c16_4 c16_18
def c16_20 : SCode := .loop c16_19
def c16_21 : SCode := .block 0 c16_20
def c16_22 : SCode := .seq (.region c16_1 [0, 1, 5]) c16_21
def c16_23 : List SOper := [⟨some 34, .q (.mv (.t 1)), none⟩, ⟨some 4, .q (.mv (.t 34)), none⟩]
def c16_24 : SCode := .seq (.region c16_23 [4]) .ret
def c16_25 : SCode := .seq c16_22 c16_24
def c16_26 : SCode := .seq (.region c16_0 [0, 1]) c16_25
def c16 : SCode := c16_26
theorem w16 : type_of% (And.intro (uR Tryd.prog c16_0.eq_1) (And.intro (uR Tryd.prog c16_1.eq_1) (And.intro (uR Tryd.prog c16_2.eq_1) (And.intro (uC Tryd.prog c16_3.eq_1) (And.intro (uC Tryd.prog c16_4.eq_1) (And.intro (uR Tryd.prog c16_5.eq_1) (And.intro (uR Tryd.prog c16_6.eq_1) (And.intro (uR Tryd.prog c16_7.eq_1) (And.intro (uR Tryd.prog c16_8.eq_1) (And.intro (uR Tryd.prog c16_9.eq_1) (And.intro (uR Tryd.prog c16_10.eq_1) (And.intro (uC Tryd.prog c16_11.eq_1) (And.intro (uC Tryd.prog c16_12.eq_1) (And.intro (uC Tryd.prog c16_13.eq_1) (And.intro (uC Tryd.prog c16_14.eq_1) (And.intro (uC Tryd.prog c16_15.eq_1) (And.intro (uC Tryd.prog c16_16.eq_1) (And.intro (uR Tryd.prog c16_17.eq_1) (And.intro (uC Tryd.prog c16_18.eq_1) (And.intro (uC Tryd.prog c16_19.eq_1) (And.intro (uC Tryd.prog c16_20.eq_1) (And.intro (uC Tryd.prog c16_21.eq_1) (And.intro (uC Tryd.prog c16_22.eq_1) (And.intro (uR Tryd.prog c16_23.eq_1) (And.intro (uC Tryd.prog c16_24.eq_1) (And.intro (uC Tryd.prog c16_25.eq_1) (And.intro (uC Tryd.prog c16_26.eq_1) (uC Tryd.prog c16.eq_1)))))))))))))))))))))))))))) := (And.intro (uR Tryd.prog c16_0.eq_1) (And.intro (uR Tryd.prog c16_1.eq_1) (And.intro (uR Tryd.prog c16_2.eq_1) (And.intro (uC Tryd.prog c16_3.eq_1) (And.intro (uC Tryd.prog c16_4.eq_1) (And.intro (uR Tryd.prog c16_5.eq_1) (And.intro (uR Tryd.prog c16_6.eq_1) (And.intro (uR Tryd.prog c16_7.eq_1) (And.intro (uR Tryd.prog c16_8.eq_1) (And.intro (uR Tryd.prog c16_9.eq_1) (And.intro (uR Tryd.prog c16_10.eq_1) (And.intro (uC Tryd.prog c16_11.eq_1) (And.intro (uC Tryd.prog c16_12.eq_1) (And.intro (uC Tryd.prog c16_13.eq_1) (And.intro (uC Tryd.prog c16_14.eq_1) (And.intro (uC Tryd.prog c16_15.eq_1) (And.intro (uC Tryd.prog c16_16.eq_1) (And.intro (uR Tryd.prog c16_17.eq_1) (And.intro (uC Tryd.prog c16_18.eq_1) (And.intro (uC Tryd.prog c16_19.eq_1) (And.intro (uC Tryd.prog c16_20.eq_1) (And.intro (uC Tryd.prog c16_21.eq_1) (And.intro (uC Tryd.prog c16_22.eq_1) (And.intro (uR Tryd.prog c16_23.eq_1) (And.intro (uC Tryd.prog c16_24.eq_1) (And.intro (uC Tryd.prog c16_25.eq_1) (And.intro (uC Tryd.prog c16_26.eq_1) (uC Tryd.prog c16.eq_1))))))))))))))))))))))))))))
def v16 : List RV := [.t 4]
theorem s16 : slimF Tryd.prog Tryd.f16 = some (c16.bare, v16) := by kernel_rfl
/-! 36 loop.example/g00066/laws.markText: parameters 1, live [0], slots [0:k, 1:k, 3:out] -/
def c36_0 : List SOper := [⟨some 2, .q (.mv (.c (.string ⟨#[]⟩))), none⟩]
def c36_1 : List SOper := [⟨some 4, .q (.mv (.t 0)), none⟩, ⟨some 5, .q (.bin .leq (.t 4) (.c (.int .i64 0))), none⟩]
def c36_2 : List SOper := [⟨some 2, .q (.mv (.c (.string ⟨#[109, 48]⟩))), none⟩]
def c36_3 : SCode := .seq (.region c36_2 [2]) .ret
def c36_4 : SCode := .cond (.t 5) c36_3 .skip
def c36_5 : SCode := .seq (.region c36_1 [0, 5]) c36_4
def c36_6 : List SOper := [⟨some 3, .q (.mv (.c (.string ⟨#[]⟩))), none⟩]
def c36_7 : List SOper := [⟨some 6, .q (.mv (.t 0)), none⟩, ⟨some 7, .q (.bin .gtr (.t 6) (.c (.int .i64 0))), none⟩]
def c36_8 : SCode := .cond (.t 7) .skip (.exit 0)
def c36_9 : SCode := .seq (.region c36_7 [0, 3, 7]) c36_8
def c36_10 : List SOper := [⟨some 8, .q (.mv (.t 0)), none⟩, ⟨some 9, .q (.bin .rem (.t 8) (.c (.int .i64 10))), none⟩, ⟨some 10, .q (.bin .add (.c (.int .i64 48)) (.t 9)), none⟩, ⟨some 11, .q (.cvi .u8 (.t 10)), none⟩, ⟨some 12, .a (.bsl 1 1 [(.int .u8 0)] [(0, 1, (.t 11))]), none⟩, ⟨some 13, .q (.cbs (.t 12)), none⟩, ⟨some 14, .q (.mv (.t 3)), none⟩, ⟨some 15, .q (.bin .add (.t 13) (.t 14)), none⟩, ⟨some 3, .q (.mv (.t 15)), none⟩]
def c36_11 : List SOper := [⟨some 16, .q (.mv (.t 0)), none⟩, ⟨some 17, .q (.bin .quo (.t 16) (.c (.int .i64 10))), none⟩, ⟨some 0, .q (.mv (.t 17)), none⟩]
def c36_12 : SCode := .seq (.region c36_10 [0, 3]) (.region c36_11 [0, 3])
def c36_13 : SCode := .block 1 c36_12
def c36_14 : SCode := .seq c36_9 c36_13
def c36_15 : SCode := .loop c36_14
def c36_16 : SCode := .block 0 c36_15
def c36_17 : List SOper := [⟨some 18, .q (.mv (.t 3)), none⟩, ⟨some 19, .q (.bin .add (.c (.string ⟨#[109]⟩)) (.t 18)), none⟩, ⟨some 2, .q (.mv (.t 19)), none⟩]
def c36_18 : SCode := .seq (.region c36_17 [2]) .ret
def c36_19 : SCode := .seq c36_16 c36_18
def c36_20 : SCode := .seq (.region c36_6 [0, 3]) c36_19
def c36_21 : SCode := .seq c36_5 c36_20
def c36_22 : SCode := .seq (.region c36_0 [0]) c36_21
def c36 : SCode := c36_22
theorem w36 : type_of% (And.intro (uR Tryd.prog c36_0.eq_1) (And.intro (uR Tryd.prog c36_1.eq_1) (And.intro (uR Tryd.prog c36_2.eq_1) (And.intro (uC Tryd.prog c36_3.eq_1) (And.intro (uC Tryd.prog c36_4.eq_1) (And.intro (uC Tryd.prog c36_5.eq_1) (And.intro (uR Tryd.prog c36_6.eq_1) (And.intro (uR Tryd.prog c36_7.eq_1) (And.intro (uC Tryd.prog c36_8.eq_1) (And.intro (uC Tryd.prog c36_9.eq_1) (And.intro (uR Tryd.prog c36_10.eq_1) (And.intro (uR Tryd.prog c36_11.eq_1) (And.intro (uC Tryd.prog c36_12.eq_1) (And.intro (uC Tryd.prog c36_13.eq_1) (And.intro (uC Tryd.prog c36_14.eq_1) (And.intro (uC Tryd.prog c36_15.eq_1) (And.intro (uC Tryd.prog c36_16.eq_1) (And.intro (uR Tryd.prog c36_17.eq_1) (And.intro (uC Tryd.prog c36_18.eq_1) (And.intro (uC Tryd.prog c36_19.eq_1) (And.intro (uC Tryd.prog c36_20.eq_1) (And.intro (uC Tryd.prog c36_21.eq_1) (And.intro (uC Tryd.prog c36_22.eq_1) (uC Tryd.prog c36.eq_1)))))))))))))))))))))))) := (And.intro (uR Tryd.prog c36_0.eq_1) (And.intro (uR Tryd.prog c36_1.eq_1) (And.intro (uR Tryd.prog c36_2.eq_1) (And.intro (uC Tryd.prog c36_3.eq_1) (And.intro (uC Tryd.prog c36_4.eq_1) (And.intro (uC Tryd.prog c36_5.eq_1) (And.intro (uR Tryd.prog c36_6.eq_1) (And.intro (uR Tryd.prog c36_7.eq_1) (And.intro (uC Tryd.prog c36_8.eq_1) (And.intro (uC Tryd.prog c36_9.eq_1) (And.intro (uR Tryd.prog c36_10.eq_1) (And.intro (uR Tryd.prog c36_11.eq_1) (And.intro (uC Tryd.prog c36_12.eq_1) (And.intro (uC Tryd.prog c36_13.eq_1) (And.intro (uC Tryd.prog c36_14.eq_1) (And.intro (uC Tryd.prog c36_15.eq_1) (And.intro (uC Tryd.prog c36_16.eq_1) (And.intro (uR Tryd.prog c36_17.eq_1) (And.intro (uC Tryd.prog c36_18.eq_1) (And.intro (uC Tryd.prog c36_19.eq_1) (And.intro (uC Tryd.prog c36_20.eq_1) (And.intro (uC Tryd.prog c36_21.eq_1) (And.intro (uC Tryd.prog c36_22.eq_1) (uC Tryd.prog c36.eq_1))))))))))))))))))))))))
def v36 : List RV := [.t 2]
theorem s36 : slimF Tryd.prog Tryd.f36 = some (c36.bare, v36) := by kernel_rfl
/-! 13 loop.example/g00066/laws.toStyle: parameters 1, live [0], slots [0:a, 1:a, 3:out] -/
def c13_0 : List SOper := [⟨some 1, .a (.box (.t 0)), none⟩, ⟨some 2, .a (.new [(.int .i64 0), (.int .i64 0), (.int .i64 0), (.int .i64 0), (.int .i64 0)]), none⟩]
def c13_1 : List SOper := [⟨some 3, .a (.new [(.int .i64 0), (.int .i64 0), (.int .i64 0), (.int .i64 0), (.int .i64 0)]), none⟩]
def c13_2 : List SOper := [⟨some 4, .q (.fa 0 (.t 1)), none⟩, ⟨some 5, .q (.ld (.t 4)), none⟩, ⟨some 6, .q (.fa 0 (.t 3)), none⟩, ⟨none, .e (.st 1 (.t 6) (.t 5)), none⟩]
def c13_3 : List SOper := [⟨some 7, .q (.fa 1 (.t 1)), none⟩, ⟨some 8, .q (.ld (.t 7)), none⟩, ⟨some 9, .q (.fa 1 (.t 3)), none⟩, ⟨none, .e (.st 1 (.t 9) (.t 8)), none⟩]
def c13_4 : List SOper := [⟨some 10, .q (.fa 2 (.t 1)), none⟩, ⟨some 11, .q (.ld (.t 10)), none⟩, ⟨some 12, .q (.fa 2 (.t 3)), none⟩, ⟨none, .e (.st 1 (.t 12) (.t 11)), none⟩]
def c13_5 : List SOper := [⟨some 13, .q (.fa 3 (.t 1)), none⟩, ⟨some 14, .q (.ld (.t 13)), none⟩, ⟨some 15, .q (.fa 3 (.t 3)), none⟩, ⟨none, .e (.st 1 (.t 15) (.t 14)), none⟩]
def c13_6 : List SOper := [⟨some 16, .q (.fa 4 (.t 1)), none⟩, ⟨some 17, .q (.ld (.t 16)), none⟩, ⟨some 18, .q (.fa 4 (.t 3)), none⟩, ⟨none, .e (.st 1 (.t 18) (.t 17)), none⟩]
def c13_7 : List SOper := [⟨some 19, .q (.ldn 5 (.t 3)), none⟩, ⟨none, .e (.st 5 (.t 2) (.t 19)), none⟩]
def c13_8 : SCode := .seq (.region c13_7 [2]) .ret
def c13_9 : SCode := .seq (.region c13_6 [2, 3]) c13_8
def c13_10 : SCode := .seq (.region c13_5 [1, 2, 3]) c13_9
def c13_11 : SCode := .seq (.region c13_4 [1, 2, 3]) c13_10
def c13_12 : SCode := .seq (.region c13_3 [1, 2, 3]) c13_11
def c13_13 : SCode := .seq (.region c13_2 [1, 2, 3]) c13_12
def c13_14 : SCode := .seq (.region c13_1 [1, 2, 3]) c13_13
def c13_15 : SCode := .seq (.region c13_0 [1, 2]) c13_14
def c13 : SCode := c13_15
theorem w13 : type_of% (And.intro (uR Tryd.prog c13_0.eq_1) (And.intro (uR Tryd.prog c13_1.eq_1) (And.intro (uR Tryd.prog c13_2.eq_1) (And.intro (uR Tryd.prog c13_3.eq_1) (And.intro (uR Tryd.prog c13_4.eq_1) (And.intro (uR Tryd.prog c13_5.eq_1) (And.intro (uR Tryd.prog c13_6.eq_1) (And.intro (uR Tryd.prog c13_7.eq_1) (And.intro (uC Tryd.prog c13_8.eq_1) (And.intro (uC Tryd.prog c13_9.eq_1) (And.intro (uC Tryd.prog c13_10.eq_1) (And.intro (uC Tryd.prog c13_11.eq_1) (And.intro (uC Tryd.prog c13_12.eq_1) (And.intro (uC Tryd.prog c13_13.eq_1) (And.intro (uC Tryd.prog c13_14.eq_1) (And.intro (uC Tryd.prog c13_15.eq_1) (uC Tryd.prog c13.eq_1))))))))))))))))) := (And.intro (uR Tryd.prog c13_0.eq_1) (And.intro (uR Tryd.prog c13_1.eq_1) (And.intro (uR Tryd.prog c13_2.eq_1) (And.intro (uR Tryd.prog c13_3.eq_1) (And.intro (uR Tryd.prog c13_4.eq_1) (And.intro (uR Tryd.prog c13_5.eq_1) (And.intro (uR Tryd.prog c13_6.eq_1) (And.intro (uR Tryd.prog c13_7.eq_1) (And.intro (uC Tryd.prog c13_8.eq_1) (And.intro (uC Tryd.prog c13_9.eq_1) (And.intro (uC Tryd.prog c13_10.eq_1) (And.intro (uC Tryd.prog c13_11.eq_1) (And.intro (uC Tryd.prog c13_12.eq_1) (And.intro (uC Tryd.prog c13_13.eq_1) (And.intro (uC Tryd.prog c13_14.eq_1) (And.intro (uC Tryd.prog c13_15.eq_1) (uC Tryd.prog c13.eq_1)))))))))))))))))
def v13 : List RV := [.c 2 (some 5)]
theorem s13 : slimF Tryd.prog Tryd.f13 = some (c13.bare, v13) := by kernel_rfl

/-! ### Titles -/
structure Title where
  fr : Int
  to : Int
  tx : ByteArray
structure Style where
  least : Int
  gap : Int
  rate : Int
  rows : Int
  wide : Int
theorem bytes_inj {a b : ByteArray} (h : a.data.toList = b.data.toList) : a = b := by
  obtain ⟨⟨a⟩⟩ := a
  obtain ⟨⟨b⟩⟩ := b
  simp only at h
  rw [h]
theorem bytes_beq (a b : ByteArray) : (a.toList == b.toList) = decide (a.data.toList = b.data.toList) := by
  rw [ByteArray.toList_eq, ByteArray.toList_eq]
  rw [Bool.eq_iff_iff]; simp
theorem strB_eql (a b : ByteArray) : strB .eql a b = some (.bool (decide (a.data.toList = b.data.toList))) := by
  rw [← bytes_beq]; rfl
theorem strB_neq (a b : ByteArray) : strB .neq a b = some (.bool (!decide (a.data.toList = b.data.toList))) := by
  rw [← bytes_beq]; rfl
theorem strB_add (a b : ByteArray) (h : a.size + b.size ≤ 9223372036854775807) : strB .add a b = some (.string (a ++ b)) := if_pos h
noncomputable instance : DecidableEq Title := fun _ _ => Classical.propDecidable _
def zTitle : Title := ⟨0, 0, ⟨#[]⟩⟩
def encTitle (t : Title) : List Value := [.int .i64 t.fr, .int .i64 t.to, .string t.tx]
theorem encTitle_len (t : Title) : (encTitle t).length = 3 := rfl
def encStyle (s : Style) : List Value := [.int .i64 s.least, .int .i64 s.gap, .int .i64 s.rate, .int .i64 s.rows, .int .i64 s.wide]
def totT (l : List Title) : Nat := (l.map fun t => t.tx.size).sum
theorem totT_take (l : List Title) (i : Nat) (hi : i < l.length) : totT (l.take (i + 1)) = totT (l.take i) + l[i].tx.size := by
  unfold totT; rw [List.take_succ_eq_append_getElem hi, List.map_append, List.sum_append]; simp
theorem totT_le (l : List Title) (i : Nat) : totT (l.take i) ≤ totT l := by
  have : totT l = totT (l.take i) + totT (l.drop i) := by unfold totT; rw [← List.sum_append, ← List.map_append, List.take_append_drop]
  omega
theorem totT_get (l : List Title) (i : Nat) (hi : i < l.length) : l[i].tx.size ≤ totT l := by
  have := totT_take l i hi; have := totT_le l (i + 1); omega
theorem szTitle_ok (h : Heap) (t : Title) (left : Int) (h0 : 0 ≤ left) (h1 : left ≤ 1048576) (hl : t.tx.size ≤ 9223372036854775807) :
    ACall Tryd.prog 32 [.agg (encTitle t).toArray, .int .i64 left] h fun r h' => Ext h h' ∧ r = .int .i64 (if left - t.tx.size < 0 then -1 else left - t.tx.size) := by
  refine ACall.of Tryd.func32 s32 (of_decide_eq_true rfl) ?_
  have W : IntKind.i64.wrap (left - t.tx.size) = left - t.tx.size := i64e (by omega) (by omega)
  simp (maxSteps := 4000000) (disch := omega) only [ah, am, Nat.reduceEqDiff, reduceCtorEq, Nat.reduceAdd, Nat.reduceLeDiff, Nat.reduceMul, Nat.reduceLT, if_true, if_false, true_and, and_true, and_self, Nat.reduceBEq, QOp.loads, boxO, bslO, buildO, cutL, fillV, putL, w32, v32, encTitle, W, stepI_dec]
  split <;> exact ⟨Ext.more _ _, rfl⟩
theorem szTitleS_ok (h : Heap) (v : Value) (l : List Title) (left : Int) (s : SlT h encTitle 3 v l) (h0 : 0 ≤ left) (h1 : left ≤ 1048576) (hl : l.length ≤ 9223372036854775807)
    (hn : ∀ t ∈ l, t.tx.size ≤ 9223372036854775807) :
    ACall Tryd.prog 11 [v, .int .i64 left] h fun r h' => Ext h h' ∧ ∃ z : Int, r = .int .i64 z ∧ (z = -1 ∨ (0 ≤ z ∧ z = left - l.length - totT l)) := by
  refine ACall.of Tryd.func11 s11 (of_decide_eq_true rfl) ?_
  have R := s.rulesN
  have W : IntKind.i64.wrap (left - l.length) = left - l.length := i64e (by omega) (by omega)
  simp (maxSteps := 4000000) (disch := omega) only [ah, am, Nat.reduceEqDiff, reduceCtorEq, Nat.reduceAdd, Nat.reduceLeDiff, Nat.reduceMul, Nat.reduceLT, if_true, if_false, true_and, and_true, and_self, Nat.reduceBEq, QOp.loads, boxO, bslO, buildO, cutL, fillV, putL, w11, v11, R, W]
  refine stepI.split (fun hp => ?_) (fun hp => ?_)
  · simp (maxSteps := 4000000) (disch := omega) only [ah, am, Nat.reduceEqDiff, reduceCtorEq, Nat.reduceAdd, Nat.reduceLeDiff, Nat.reduceMul, Nat.reduceLT, if_true, if_false, true_and, and_true, and_self, Nat.reduceBEq, QOp.loads, boxO, bslO, buildO, cutL, fillV, putL, w11, v11]
    exact ⟨Ext.refl h, _, rfl, .inl rfl⟩
  simp (maxSteps := 4000000) (disch := omega) only [ah, am, Nat.reduceEqDiff, reduceCtorEq, Nat.reduceAdd, Nat.reduceLeDiff, Nat.reduceMul, Nat.reduceLT, if_true, if_false, true_and, and_true, and_self, Nat.reduceBEq, QOp.loads, boxO, bslO, buildO, cutL, fillV, putL, w11, v11]
  refine SW_loop_up (fun i E H => E = [(0, v), (1, .int .i64 (left - l.length - totT (l.take i))), (5, .int .i64 i)] ∧ Ext h H ∧ 0 ≤ left - l.length - totT (l.take i)) l.length 0 (by omega)
    ⟨by simp [totT], .refl h, by simp [totT]; omega⟩ ?_
  rintro i E K hi ⟨rfl, e, hq⟩
  have R := (s.ext e).rulesN
  have W : IntKind.i64.wrap ((i : Int) + 1) = ((i + 1 : Nat) : Int) := i64e (by omega) (by omega)
  simp (maxSteps := 4000000) (disch := omega) only [ah, am, Nat.reduceEqDiff, reduceCtorEq, Nat.reduceAdd, Nat.reduceLeDiff, Nat.reduceMul, Nat.reduceLT, if_true, if_false, true_and, and_true, and_self, Nat.reduceBEq, QOp.loads, boxO, bslO, buildO, cutL, fillV, putL, w11, v11, R, W]
  refine stepI.split (fun hp => ?_) (fun hp => ?_)
  · have hi2 : i < l.length := by omega
    simp (maxSteps := 4000000) (disch := omega) only [ah, am, Nat.reduceEqDiff, reduceCtorEq, Nat.reduceAdd, Nat.reduceLeDiff, Nat.reduceMul, Nat.reduceLT, if_true, if_false, true_and, and_true, and_self, Nat.reduceBEq, QOp.loads, boxO, bslO, buildO, cutL, fillV, putL, w11, v11, R, W]
    refine stepC.of (szTitle_ok _ l[i] _ hq (by omega) (hn _ (List.getElem_mem hi2))) ?_
    rintro _ K2 ⟨e2, rfl⟩
    have ht := totT_take l i hi2
    by_cases hz : left - ↑l.length - ↑(totT (List.take i l)) - ↑l[i].tx.size < 0
    · simp (maxSteps := 4000000) (disch := omega) only [ah, am, Nat.reduceEqDiff, reduceCtorEq, Nat.reduceAdd, Nat.reduceLeDiff, Nat.reduceMul, Nat.reduceLT, if_true, if_false, true_and, and_true, and_self, Nat.reduceBEq, QOp.loads, boxO, bslO, buildO, cutL, fillV, putL, w11, v11, if_pos hz, show decide ((-1 : Int) < 0) = true from rfl]
      exact ⟨e.trans e2, _, rfl, .inl rfl⟩
    · have hz' : decide (left - ↑l.length - ↑(totT (List.take i l)) - ↑l[i].tx.size < 0) = false := decide_eq_false hz
      simp (maxSteps := 4000000) (disch := omega) only [ah, am, Nat.reduceEqDiff, reduceCtorEq, Nat.reduceAdd, Nat.reduceLeDiff, Nat.reduceMul, Nat.reduceLT, if_true, if_false, true_and, and_true, and_self, Nat.reduceBEq, QOp.loads, boxO, bslO, buildO, cutL, fillV, putL, w11, v11, if_neg hz, hz', W]
      refine ⟨hi2, ?_, e.trans e2, by omega⟩
      rw [ht]
      simp only [List.cons.injEq, Prod.mk.injEq, Value.int.injEq, true_and, and_true]
      omega
  · simp (maxSteps := 4000000) (disch := omega) only [ah, am, Nat.reduceEqDiff, reduceCtorEq, Nat.reduceAdd, Nat.reduceLeDiff, Nat.reduceMul, Nat.reduceLT, if_true, if_false, true_and, and_true, and_self, Nat.reduceBEq, QOp.loads, boxO, bslO, buildO, cutL, fillV, putL, w11, v11]
    obtain rfl : i = l.length := by omega
    refine ⟨e, _, rfl, .inr ⟨hq, ?_⟩⟩
    rw [List.take_length]
theorem toTitle_ok (h : Heap) (k : Title) : ACall Tryd.prog 33 [.agg (encTitle k).toArray] h fun r h' => Ext h h' ∧ r = .agg (encTitle k).toArray := by
  refine ACall.of Tryd.func33 s33 (of_decide_eq_true rfl) ?_
  simp (maxSteps := 4000000) (disch := omega) only [ah, am, Nat.reduceEqDiff, reduceCtorEq, Nat.reduceAdd, Nat.reduceLeDiff, Nat.reduceMul, Nat.reduceLT, if_true, if_false, true_and, and_true, and_self, Nat.reduceBEq, QOp.loads, boxO, bslO, buildO, cutL, fillV, putL, w33, v33, encTitle]
  exact Ext.more _ _
theorem toTitleS_ok (h : Heap) (v : Value) (l : List Title) (hs : SlT h encTitle 3 v l) (hl : l.length ≤ 1048576) :
    ACall Tryd.prog 12 [v] h fun r h' => Fresh h h' encTitle 3 r l := by
  refine ACall.of Tryd.func12 s12 (of_decide_eq_true rfl) ?_
  have R := hs.rulesN
  simp (maxSteps := 4000000) (disch := omega) only [ah, am, Nat.reduceEqDiff, reduceCtorEq, Nat.reduceAdd, Nat.reduceLeDiff, Nat.reduceMul, Nat.reduceLT, if_true, if_false, true_and, and_true, and_self, Nat.reduceBEq, QOp.loads, boxO, bslO, buildO, cutL, fillV, putL, w12, v12, R, mksV_nat]
  refine SW_loop_up (fun i E' H => ∃ ov, E' = [(0, v), (3, ov), (4, .int .i64 i)] ∧ Fresh h H encTitle 3 ov (l.take i ++ List.replicate (l.length - i) zTitle)) l.length 0 (by omega)
    ⟨_, rfl, by have := Fresh.newR (sz := 3) h l.length zTitle encTitle_len (by omega); simpa [encTitle, zTitle] using this⟩ ?_
  rintro i E' H hi ⟨ov, rfl, F⟩
  have R := (hs.ext F.1).rulesN
  have W : IntKind.i64.wrap ((i : Int) + 1) = ((i + 1 : Nat) : Int) := i64e (by omega) (by omega)
  simp (maxSteps := 4000000) (disch := omega) only [ah, am, Nat.reduceEqDiff, reduceCtorEq, Nat.reduceAdd, Nat.reduceLeDiff, Nat.reduceMul, Nat.reduceLT, if_true, if_false, true_and, and_true, and_self, Nat.reduceBEq, QOp.loads, boxO, bslO, buildO, cutL, fillV, putL, w12, v12, R, W]
  refine stepI.split (fun hp => ?_) (fun hp => ?_)
  · simp (maxSteps := 4000000) (disch := omega) only [ah, am, Nat.reduceEqDiff, reduceCtorEq, Nat.reduceAdd, Nat.reduceLeDiff, Nat.reduceMul, Nat.reduceLT, if_true, if_false, true_and, and_true, and_self, Nat.reduceBEq, QOp.loads, boxO, bslO, buildO, cutL, fillV, putL, w12, v12, R, W]
    refine stepC.of (toTitle_ok _ _) ?_
    rintro r H1 ⟨e1, rfl⟩
    have F1 := F.ext e1
    obtain ⟨H2, es, F2, hsz⟩ := F1.set (j := i) (by simp; omega) l[i] rfl
    have R2 := F1.slt.rulesN
    simp only [List.length_append, List.length_take, List.length_replicate] at R2
    simp (maxSteps := 4000000) (disch := omega) only [ah, am, Nat.reduceEqDiff, reduceCtorEq, Nat.reduceAdd, Nat.reduceLeDiff, Nat.reduceMul, Nat.reduceLT, if_true, if_false, true_and, and_true, and_self, Nat.reduceBEq, QOp.loads, boxO, bslO, buildO, cutL, fillV, putL, w12, v12, R2, es, W]
    refine ⟨by omega, _, rfl, ?_⟩
    rw [show List.take (i + 1) l ++ List.replicate (l.length - (i + 1)) zTitle = (l.take i ++ List.replicate (l.length - i) zTitle).set i l[i] from (take_set_repG l zTitle i (by omega)).symm]
    exact F2
  · simp (maxSteps := 4000000) (disch := omega) only [ah, am, Nat.reduceEqDiff, reduceCtorEq, Nat.reduceAdd, Nat.reduceLeDiff, Nat.reduceMul, Nat.reduceLT, if_true, if_false, true_and, and_true, and_self, Nat.reduceBEq, QOp.loads, boxO, bslO, buildO, cutL, fillV, putL, w12, v12, R, W]
    obtain rfl : i = l.length := by omega
    simpa using F
theorem eqTitle_ok (h : Heap) (k k' : Title) : ACall Tryd.prog 35 [.agg (encTitle k).toArray, .agg (encTitle k').toArray] h fun r h' => Ext h h' ∧ r = .bool (decide (k = k')) := by
  obtain ⟨a, b, c⟩ := k; obtain ⟨a', b', c'⟩ := k'
  refine ACall.of Tryd.func35 s35 (of_decide_eq_true rfl) ?_
  simp (maxSteps := 4000000) (disch := omega) only [ah, am, Nat.reduceEqDiff, reduceCtorEq, Nat.reduceAdd, Nat.reduceLeDiff, Nat.reduceMul, Nat.reduceLT, if_true, if_false, true_and, and_true, and_self, Nat.reduceBEq, QOp.loads, boxO, bslO, buildO, cutL, fillV, putL, w35, v35, encTitle, strB_neq, stepI_dec, stepI_not]
  repeat' split
  all_goals refine ⟨Ext.more _ _, ?_⟩
  all_goals first
    | (rename_i h1 h2 h3; rw [h1, h2, bytes_inj h3]; simp; done)
    | (rw [decide_eq_false]; rintro ⟨⟩; simp_all; done)
    | simp_all
theorem eqTitleS_ok (h : Heap) (v v' : Value) (l l' : List Title) (hs : SlT h encTitle 3 v l) (hs' : SlT h encTitle 3 v' l') (hl : l.length ≤ 281474976710656) (hl' : l'.length ≤ 281474976710656) :
    ACall Tryd.prog 15 [v, v'] h fun r h' => Ext h h' ∧ r = .bool (decide (l = l')) := by
  refine ACall.of Tryd.func15 s15 (of_decide_eq_true rfl) ?_
  have R := hs.rulesN
  have R' := hs'.rulesN
  simp (maxSteps := 4000000) (disch := omega) only [ah, am, Nat.reduceEqDiff, reduceCtorEq, Nat.reduceAdd, Nat.reduceLeDiff, Nat.reduceMul, Nat.reduceLT, if_true, if_false, true_and, and_true, and_self, Nat.reduceBEq, QOp.loads, boxO, bslO, buildO, cutL, fillV, putL, w15, v15, R, R']
  refine stepI.split (fun hp => ?_) (fun hp => ?_)
  rotate_left
  · simp (maxSteps := 4000000) (disch := omega) only [ah, am, Nat.reduceEqDiff, reduceCtorEq, Nat.reduceAdd, Nat.reduceLeDiff, Nat.reduceMul, Nat.reduceLT, if_true, if_false, true_and, and_true, and_self, Nat.reduceBEq, QOp.loads, boxO, bslO, buildO, cutL, fillV, putL, w15, v15]
    exact ⟨Ext.refl h, by rw [decide_eq_false]; rintro rfl; exact hp rfl⟩
  have hll : l.length = l'.length := by omega
  simp (maxSteps := 4000000) (disch := omega) only [ah, am, Nat.reduceEqDiff, reduceCtorEq, Nat.reduceAdd, Nat.reduceLeDiff, Nat.reduceMul, Nat.reduceLT, if_true, if_false, true_and, and_true, and_self, Nat.reduceBEq, QOp.loads, boxO, bslO, buildO, cutL, fillV, putL, w15, v15]
  refine SW_loop_up (fun i E' H => E' = [(0, v), (1, v'), (5, .int .i64 i)] ∧ Ext h H ∧ ∀ j (h1 : j < i) (h2 : j < l.length), l[j] = l'[j]) l.length 0 (by omega)
    ⟨rfl, .refl h, fun j h1 h2 => absurd h1 (by omega)⟩ ?_
  rintro i E' H hi ⟨rfl, e, F⟩
  have R := (hs.ext e).rulesN
  have R' := (hs'.ext e).rulesN
  have W : IntKind.i64.wrap ((i : Int) + 1) = ((i + 1 : Nat) : Int) := i64e (by omega) (by omega)
  simp (maxSteps := 4000000) (disch := omega) only [ah, am, Nat.reduceEqDiff, reduceCtorEq, Nat.reduceAdd, Nat.reduceLeDiff, Nat.reduceMul, Nat.reduceLT, if_true, if_false, true_and, and_true, and_self, Nat.reduceBEq, QOp.loads, boxO, bslO, buildO, cutL, fillV, putL, w15, v15, R, R', W]
  refine stepI.split (fun hp => ?_) (fun hp => ?_)
  · simp (maxSteps := 4000000) (disch := omega) only [ah, am, Nat.reduceEqDiff, reduceCtorEq, Nat.reduceAdd, Nat.reduceLeDiff, Nat.reduceMul, Nat.reduceLT, if_true, if_false, true_and, and_true, and_self, Nat.reduceBEq, QOp.loads, boxO, bslO, buildO, cutL, fillV, putL, w15, v15, R, R', W]
    refine stepC.of (eqTitle_ok _ _ _) ?_
    rintro r H1 ⟨e1, rfl⟩
    simp (maxSteps := 4000000) (disch := omega) only [ah, am, Nat.reduceEqDiff, reduceCtorEq, Nat.reduceAdd, Nat.reduceLeDiff, Nat.reduceMul, Nat.reduceLT, if_true, if_false, true_and, and_true, and_self, Nat.reduceBEq, QOp.loads, boxO, bslO, buildO, cutL, fillV, putL, w15, v15, R, R', W]
    refine stepI.split (fun hq => ?_) (fun hq => ?_)
    · simp (maxSteps := 4000000) (disch := omega) only [ah, am, Nat.reduceEqDiff, reduceCtorEq, Nat.reduceAdd, Nat.reduceLeDiff, Nat.reduceMul, Nat.reduceLT, if_true, if_false, true_and, and_true, and_self, Nat.reduceBEq, QOp.loads, boxO, bslO, buildO, cutL, fillV, putL, w15, v15, W]
      exact ⟨by omega, e.trans e1, fun j h1 h2 => by
        by_cases hj : j = i
        · subst hj; exact hq
        · exact F j (by omega) h2⟩
    · simp (maxSteps := 4000000) (disch := omega) only [ah, am, Nat.reduceEqDiff, reduceCtorEq, Nat.reduceAdd, Nat.reduceLeDiff, Nat.reduceMul, Nat.reduceLT, if_true, if_false, true_and, and_true, and_self, Nat.reduceBEq, QOp.loads, boxO, bslO, buildO, cutL, fillV, putL, w15, v15, W]
      exact ⟨e.trans e1, by rw [decide_eq_false]; rintro rfl; exact hq rfl⟩
  · simp (maxSteps := 4000000) (disch := omega) only [ah, am, Nat.reduceEqDiff, reduceCtorEq, Nat.reduceAdd, Nat.reduceLeDiff, Nat.reduceMul, Nat.reduceLT, if_true, if_false, true_and, and_true, and_self, Nat.reduceBEq, QOp.loads, boxO, bslO, buildO, cutL, fillV, putL, w15, v15, R, W]
    refine ⟨e, ?_⟩
    rw [decide_eq_true]
    exact List.ext_getElem hll fun j h1 h2 => F j (by omega) h1
/-- One byte as a string. -/
theorem cbs_one (K : Heap) (L : List (List Value)) (n : Int) : cbsV (K.more (L ++ [[.int .u8 n]])) (.slice (some ⟨K.size + L.length, 0, none⟩) 1 1) = some (.string (bytesS [n])) := by
  have : rdn (K.more (L ++ [[.int .u8 n]])) (K.size + L.length) 0 1 = some [.int .u8 n] := by
    unfold rdn
    rw [get_more]
    simp
  simp only [cbsV, this, Option.bind_some, bytesV, Option.map_some]
theorem cbs_one0 (K : Heap) (n : Int) : cbsV (K.more [[.int .u8 n]]) (.slice (some ⟨K.size, 0, none⟩) 1 1) = some (.string (bytesS [n])) := cbs_one K [] n
theorem bytesS_one (n : Int) : (bytesS [n]).size = 1 := rfl
theorem markText_ok (h : Heap) (k : Int) (h0 : 0 ≤ k) (h1 : k ≤ 1000000000000) : ACall Tryd.prog 36 [.int .i64 k] h fun r h' => Ext h h' ∧ ∃ s, r = .string s := by
  refine ACall.of Tryd.func36 s36 (of_decide_eq_true rfl) ?_
  simp (maxSteps := 4000000) (disch := omega) only [ah, am, Nat.reduceEqDiff, reduceCtorEq, Nat.reduceAdd, Nat.reduceLeDiff, Nat.reduceMul, Nat.reduceLT, if_true, if_false, true_and, and_true, and_self, Nat.reduceBEq, QOp.loads, boxO, bslO, buildO, cutL, fillV, putL, w36, v36]
  refine stepI.split (fun hp => ?_) (fun hp => ?_)
  · simp (maxSteps := 4000000) (disch := omega) only [ah, am, Nat.reduceEqDiff, reduceCtorEq, Nat.reduceAdd, Nat.reduceLeDiff, Nat.reduceMul, Nat.reduceLT, if_true, if_false, true_and, and_true, and_self, Nat.reduceBEq, QOp.loads, boxO, bslO, buildO, cutL, fillV, putL, w36, v36]
    exact ⟨Ext.refl h, _, rfl⟩
  simp (maxSteps := 4000000) (disch := omega) only [ah, am, Nat.reduceEqDiff, reduceCtorEq, Nat.reduceAdd, Nat.reduceLeDiff, Nat.reduceMul, Nat.reduceLT, if_true, if_false, true_and, and_true, and_self, Nat.reduceBEq, QOp.loads, boxO, bslO, buildO, cutL, fillV, putL, w36, v36]
  refine ⟨fun n E H => ∃ (q : Int) (s : ByteArray), E = [(0, .int .i64 q), (3, .string s)] ∧ Ext h H ∧ 0 ≤ q ∧ q.toNat = n ∧ (s.size : Int) + q ≤ 1000000000000, ⟨k.toNat, k, _, rfl, Ext.refl h, h0, rfl, (show (((⟨#[]⟩ : ByteArray).size : Nat) : Int) + k ≤ 1000000000000 from by rw [show ((⟨#[]⟩ : ByteArray).size) = 0 from rfl]; omega)⟩, ?_⟩
  rintro n E H ⟨q, s, rfl, e, q0, rfl, hs⟩
  simp (maxSteps := 4000000) (disch := omega) only [ah, am, Nat.reduceEqDiff, reduceCtorEq, Nat.reduceAdd, Nat.reduceLeDiff, Nat.reduceMul, Nat.reduceLT, if_true, if_false, true_and, and_true, and_self, Nat.reduceBEq, QOp.loads, boxO, bslO, buildO, cutL, fillV, putL, w36, v36]
  refine stepI.split (fun hp => ?_) (fun hp => ?_)
  · have m1 : 0 ≤ q.tmod 10 := Int.tmod_nonneg _ q0
    have m2 : q.tmod 10 < 10 := Int.tmod_lt_of_pos _ (by omega)
    have d1 : q.tdiv 10 = q / 10 := Int.tdiv_eq_ediv_of_nonneg q0
    have w1 : IntKind.i64.wrap (48 + q.tmod 10) = 48 + q.tmod 10 := i64w (by omega)
    have w2 : IntKind.i64.wrap (q.tdiv 10) = q / 10 := i64e d1 (by omega)
    have n10 : (10 : Int) ≠ 0 := by omega
    generalize hu : IntKind.u8.wrap (48 + q.tmod 10) = u
    have A := strB_add (bytesS [u]) s (by rw [bytesS_one]; omega)
    simp (maxSteps := 4000000) (disch := omega) only [ah, am, Nat.reduceEqDiff, reduceCtorEq, Nat.reduceAdd, Nat.reduceLeDiff, Nat.reduceMul, Nat.reduceLT, if_true, if_false, true_and, and_true, and_self, Nat.reduceBEq, QOp.loads, boxO, bslO, buildO, cutL, fillV, putL, w36, v36, n10, ne_eq, not_false_eq_true, w1, w2, hu, ev_cbs, cbs_one0, A]
    refine ⟨(q / 10).toNat, by omega, q / 10, _, rfl, e.trans (Ext.more _ _), by omega, rfl, ?_⟩
    rw [ByteArray.size_append, bytesS_one]; omega
  · have A := strB_add ⟨#[109]⟩ s (by rw [show ((⟨#[109]⟩ : ByteArray).size) = 1 from rfl]; omega)
    simp (maxSteps := 4000000) (disch := omega) only [ah, am, Nat.reduceEqDiff, reduceCtorEq, Nat.reduceAdd, Nat.reduceLeDiff, Nat.reduceMul, Nat.reduceLT, if_true, if_false, true_and, and_true, and_self, Nat.reduceBEq, QOp.loads, boxO, bslO, buildO, cutL, fillV, putL, w36, v36, A]
    exact ⟨e, _, rfl⟩
theorem markTitleS_mine {a b : Nat} {h : Heap} {v : Value} {l : List Title} (k : Int) (m : Mine a b h encTitle 3 v l) (hl : l.length ≤ 1000000000) (hk : 0 ≤ k ∧ k ≤ 100000000000) :
    ACall Tryd.prog 16 [v, .int .i64 k] h fun r h' => Chg a b h h' ∧ r = .int .i64 (k + 3 * l.length) := by
  have key : ∀ g, OwnT g h encTitle 3 v l → ACall Tryd.prog 16 [v, .int .i64 k] h fun r h' => ExtG g h h' ∧ r = .int .i64 (k + 3 * l.length) := by
    intro g o
    refine ACall.of Tryd.func16 s16 (of_decide_eq_true rfl) ?_
    have R := o.slt.rulesN
    simp (maxSteps := 4000000) (disch := omega) only [ah, am, Nat.reduceEqDiff, reduceCtorEq, Nat.reduceAdd, Nat.reduceLeDiff, Nat.reduceMul, Nat.reduceLT, if_true, if_false, true_and, and_true, and_self, Nat.reduceBEq, QOp.loads, boxO, bslO, buildO, cutL, fillV, putL, w16, v16, R]
    refine SW_loop_up (fun i E H => E = [(0, v), (1, .int .i64 (k + 3 * i)), (5, .int .i64 i)] ∧ ExtG g h H ∧ ∃ l2 : List Title, l2.length = l.length ∧ OwnT g H encTitle 3 v l2) l.length 0 (by omega)
      ⟨by simp, ExtG.refl g h, l, rfl, o⟩ ?_
    rintro i E H hi ⟨rfl, e, l2, hl2, O⟩
    have R := O.slt.rulesN
    simp only [hl2] at R
    have W : IntKind.i64.wrap ((i : Int) + 1) = ((i + 1 : Nat) : Int) := i64e (by omega) (by omega)
    have W1 : IntKind.i64.wrap (k + 3 * (i : Int) + 1) = k + 3 * (i : Int) + 1 := i64e (by omega) (by omega)
    have W2 : IntKind.i64.wrap (k + 3 * (i : Int) + 1 + 1) = k + 3 * (i : Int) + 2 := i64e (by omega) (by omega)
    have W3 : IntKind.i64.wrap (k + 3 * (i : Int) + 2 + 1) = k + 3 * ((i + 1 : Nat) : Int) := i64e (by omega) (by omega)
    simp (maxSteps := 4000000) (disch := omega) only [ah, am, Nat.reduceEqDiff, reduceCtorEq, Nat.reduceAdd, Nat.reduceLeDiff, Nat.reduceMul, Nat.reduceLT, if_true, if_false, true_and, and_true, and_self, Nat.reduceBEq, QOp.loads, boxO, bslO, buildO, cutL, fillV, putL, w16, v16, R, W]
    refine stepI.split (fun hp => ?_) (fun hp => ?_)
    · have hj : i < l2.length := by omega
      obtain ⟨H1, es1, O1, G1, -⟩ := O.setF (j := i) (f := 0) (n := 1) (y := .int .i64 (k + 3 * i)) (x := ⟨k + 3 * i, l2[i].to, l2[i].tx⟩) hj (by simp [encTitle, splice, cells_int]) (by omega) rfl (by omega) rfl
      obtain ⟨H2, es2, O2, G2, -⟩ := O1.setF (j := i) (f := 1) (n := 1) (y := .int .i64 (k + 3 * i + 1)) (x := ⟨k + 3 * i, k + 3 * i + 1, l2[i].tx⟩) (by simpa using hj) (by simp [encTitle, splice, cells_int]) (by omega) rfl (by omega) rfl
      simp only [Nat.add_zero] at es1
      have R1 := O1.slt.rulesN
      have R2 := O2.slt.rulesN
      simp only [List.length_set, hl2] at R1 R2
      simp (maxSteps := 4000000) (disch := omega) only [ah, am, Nat.reduceEqDiff, reduceCtorEq, Nat.reduceAdd, Nat.reduceLeDiff, Nat.reduceMul, Nat.reduceLT, if_true, if_false, true_and, and_true, and_self, Nat.reduceBEq, QOp.loads, boxO, bslO, buildO, cutL, fillV, putL, w16, v16, R, R1, R2, es1, es2, W, W1, W2, W3]
      refine stepC.of (markText_ok _ _ (by omega) (by omega)) ?_
      rintro _ H3 ⟨e3, s, rfl⟩
      have O3 := O2.ext e3
      have R3 := O3.slt.rulesN
      simp only [List.length_set, hl2] at R3
      obtain ⟨H4, es4, O4, G4, -⟩ := O3.setF (j := i) (f := 2) (n := 1) (y := .string s) (x := ⟨k + 3 * i, k + 3 * i + 1, s⟩) (by simpa using hj) (by simp [encTitle, splice, cells_string]) (by omega) rfl (by omega) rfl
      simp (maxSteps := 4000000) (disch := omega) only [ah, am, Nat.reduceEqDiff, reduceCtorEq, Nat.reduceAdd, Nat.reduceLeDiff, Nat.reduceMul, Nat.reduceLT, if_true, if_false, true_and, and_true, and_self, Nat.reduceBEq, QOp.loads, boxO, bslO, buildO, cutL, fillV, putL, w16, v16, R3, es4, W, W3]
      exact ⟨by omega, ((e.trans G1).trans G2).trans (e3.toG.trans G4), _, by simp [hl2], O4⟩
    · simp (maxSteps := 4000000) (disch := omega) only [ah, am, Nat.reduceEqDiff, reduceCtorEq, Nat.reduceAdd, Nat.reduceLeDiff, Nat.reduceMul, Nat.reduceLT, if_true, if_false, true_and, and_true, and_self, Nat.reduceBEq, QOp.loads, boxO, bslO, buildO, cutL, fillV, putL, w16, v16]
      obtain rfl : i = l.length := by omega
      exact ⟨e, rfl⟩
  rcases m.2 with ⟨rfl, rfl⟩ | ⟨g, h1, h2, o⟩
  · exact (key h.size (OwnT.nil _ h m.1.hs m.1.pos)).mono fun r' h' ⟨e, hr⟩ => ⟨(e.top (Nat.le_refl _)).chg, hr⟩
  · exact (key g o).mono fun r' h' ⟨e, hr⟩ => ⟨e.chg h1 h2, hr⟩
theorem toStyle_ok (h : Heap) (s : Style) : ACall Tryd.prog 13 [.agg (encStyle s).toArray] h fun r h' => Ext h h' ∧ r = .agg (encStyle s).toArray := by
  refine ACall.of Tryd.func13 s13 (of_decide_eq_true rfl) ?_
  simp (maxSteps := 4000000) (disch := omega) only [ah, am, Nat.reduceEqDiff, reduceCtorEq, Nat.reduceAdd, Nat.reduceLeDiff, Nat.reduceMul, Nat.reduceLT, if_true, if_false, true_and, and_true, and_self, Nat.reduceBEq, QOp.loads, boxO, bslO, buildO, cutL, fillV, putL, w13, v13, encStyle]
  exact Ext.more _ _
end Go.Proofs.YtgjppbmbpjomgaaDoor
