import Derived.Test.YtgjppbmbpjomgaaDoorN0
namespace Go.Proofs.YtgjppbmbpjomgaaDoor
open Go Go.Ah
set_option linter.unusedSimpArgs false
set_option linter.unusedVariables false
set_option maxRecDepth 10000
set_option maxHeartbeats 4000000
/-! 14 loop.example/g00066/laws.eqWorryS: parameters 2, live [0, 1], slots [0:a, 1:b, 2:a, 3:b, 5:i] -/
def c14_0 : List SOper := [⟨some 4, .q (.mv (.c (.bool false))), none⟩]
def c14_1 : List SOper := [⟨some 6, .q (.mv (.t 0)), none⟩, ⟨some 7, .q (.len (.t 6)), none⟩, ⟨some 8, .q (.mv (.t 1)), none⟩, ⟨some 9, .q (.len (.t 8)), none⟩, ⟨some 10, .q (.bin .neq (.t 7) (.t 9)), none⟩]
def c14_2 : List SOper := [⟨some 4, .q (.mv (.c (.bool false))), none⟩]
def c14_3 : SCode := .seq (.region c14_2 [4]) .ret
def c14_4 : SCode := .cond (.t 10) c14_3 .skip
def c14_5 : SCode := .seq (.region c14_1 [0, 1, 10]) c14_4
def c14_6 : List SOper := [⟨some 5, .q (.mv (.c (.int .i64 0))), none⟩]
def c14_7 : List SOper := [⟨some 11, .q (.mv (.t 5)), none⟩, ⟨some 12, .q (.mv (.t 0)), none⟩, ⟨some 13, .q (.len (.t 12)), none⟩, ⟨some 14, .q (.bin .lss (.t 11) (.t 13)), none⟩]
def c14_8 : SCode := .cond (.t 14) .skip (.exit 0)
def c14_9 : SCode := .seq (.region c14_7 [0, 1, 5, 14]) c14_8
def c14_10 : List SOper := [⟨some 17, .q (.mv (.t 0)), none⟩, ⟨some 18, .q (.mv (.t 5)), none⟩, ⟨some 19, .q (.ia 2 (.t 17) (.t 18)), none⟩, ⟨some 20, .q (.ldn 2 (.t 19)), none⟩, ⟨some 21, .q (.mv (.t 1)), none⟩, ⟨some 22, .q (.mv (.t 5)), none⟩, ⟨some 23, .q (.ia 2 (.t 21) (.t 22)), none⟩, ⟨some 24, .q (.ldn 2 (.t 23)), none⟩, ⟨some 25, .e (.call 34 [(.t 20), (.t 24)]), none⟩, ⟨some 26, .q (.not (.t 25)), none⟩]
def c14_11 : List SOper := [⟨some 4, .q (.mv (.c (.bool false))), none⟩]
def c14_12 : SCode := .seq (.region c14_11 [4]) .ret
def c14_13 : SCode := .cond (.t 26) c14_12 .skip
def c14_14 : SCode := .seq (.region c14_10 [0, 1, 5, 26]) c14_13
def c14_15 : SCode := .block 1 c14_14
def c14_16 : List SOper := [⟨some 15, .q (.mv (.t 5)), none⟩, ⟨some 16, .q (.bin .add (.t 15) (.c (.int .i64 1))), none⟩, ⟨some 5, .q (.mv (.t 16)), none⟩]
def c14_17 : SCode := .seq c14_15 (.region c14_16 [0, 1, 5])
def c14_18 : SCode := .seq c14_9 c14_17
def c14_19 : SCode := .loop c14_18
def c14_20 : SCode := .block 0 c14_19
def c14_21 : SCode := .seq (.region c14_6 [0, 1, 5]) c14_20
def c14_22 : List SOper := [⟨some 4, .q (.mv (.c (.bool true))), none⟩]
def c14_23 : SCode := .seq (.region c14_22 [4]) .ret
def c14_24 : SCode := .seq c14_21 c14_23
def c14_25 : SCode := .seq c14_5 c14_24
def c14_26 : SCode := .seq (.region c14_0 [0, 1]) c14_25
def c14 : SCode := c14_26
theorem w14 : type_of% (And.intro (uR Tryd.prog c14_0.eq_1) (And.intro (uR Tryd.prog c14_1.eq_1) (And.intro (uR Tryd.prog c14_2.eq_1) (And.intro (uC Tryd.prog c14_3.eq_1) (And.intro (uC Tryd.prog c14_4.eq_1) (And.intro (uC Tryd.prog c14_5.eq_1) (And.intro (uR Tryd.prog c14_6.eq_1) (And.intro (uR Tryd.prog c14_7.eq_1) (And.intro (uC Tryd.prog c14_8.eq_1) (And.intro (uC Tryd.prog c14_9.eq_1) (And.intro (uR Tryd.prog c14_10.eq_1) (And.intro (uR Tryd.prog c14_11.eq_1) (And.intro (uC Tryd.prog c14_12.eq_1) (And.intro (uC Tryd.prog c14_13.eq_1) (And.intro (uC Tryd.prog c14_14.eq_1) (And.intro (uC Tryd.prog c14_15.eq_1) (And.intro (uR Tryd.prog c14_16.eq_1) (And.intro (uC Tryd.prog c14_17.eq_1) (And.intro (uC Tryd.prog c14_18.eq_1) (And.intro (uC Tryd.prog c14_19.eq_1) (And.intro (uC Tryd.prog c14_20.eq_1) (And.intro (uC Tryd.prog c14_21.eq_1) (And.intro (uR Tryd.prog c14_22.eq_1) (And.intro (uC Tryd.prog c14_23.eq_1) (And.intro (uC Tryd.prog c14_24.eq_1) (And.intro (uC Tryd.prog c14_25.eq_1) (And.intro (uC Tryd.prog c14_26.eq_1) (uC Tryd.prog c14.eq_1)))))))))))))))))))))))))))) := (And.intro (uR Tryd.prog c14_0.eq_1) (And.intro (uR Tryd.prog c14_1.eq_1) (And.intro (uR Tryd.prog c14_2.eq_1) (And.intro (uC Tryd.prog c14_3.eq_1) (And.intro (uC Tryd.prog c14_4.eq_1) (And.intro (uC Tryd.prog c14_5.eq_1) (And.intro (uR Tryd.prog c14_6.eq_1) (And.intro (uR Tryd.prog c14_7.eq_1) (And.intro (uC Tryd.prog c14_8.eq_1) (And.intro (uC Tryd.prog c14_9.eq_1) (And.intro (uR Tryd.prog c14_10.eq_1) (And.intro (uR Tryd.prog c14_11.eq_1) (And.intro (uC Tryd.prog c14_12.eq_1) (And.intro (uC Tryd.prog c14_13.eq_1) (And.intro (uC Tryd.prog c14_14.eq_1) (And.intro (uC Tryd.prog c14_15.eq_1) (And.intro (uR Tryd.prog c14_16.eq_1) (And.intro (uC Tryd.prog c14_17.eq_1) (And.intro (uC Tryd.prog c14_18.eq_1) (And.intro (uC Tryd.prog c14_19.eq_1) (And.intro (uC Tryd.prog c14_20.eq_1) (And.intro (uC Tryd.prog c14_21.eq_1) (And.intro (uR Tryd.prog c14_22.eq_1) (And.intro (uC Tryd.prog c14_23.eq_1) (And.intro (uC Tryd.prog c14_24.eq_1) (And.intro (uC Tryd.prog c14_25.eq_1) (And.intro (uC Tryd.prog c14_26.eq_1) (uC Tryd.prog c14.eq_1))))))))))))))))))))))))))))
def v14 : List RV := [.t 4]
theorem s14 : slimF Tryd.prog Tryd.f14 = some (c14.bare, v14) := by kernel_rfl

/-! 34 loop.example/g00066/laws.eqWorry: parameters 2, live [0, 1], slots [0:a, 1:b, 2:a, 3:b] -/
def c34_0 : List SOper := [⟨some 2, .a (.box (.t 0)), none⟩, ⟨some 3, .a (.box (.t 1)), none⟩, ⟨some 4, .q (.mv (.c (.bool false))), none⟩]
def c34_1 : List SOper := [⟨some 5, .q (.fa 0 (.t 2)), none⟩, ⟨some 6, .q (.ld (.t 5)), none⟩, ⟨some 7, .q (.fa 0 (.t 3)), none⟩, ⟨some 8, .q (.ld (.t 7)), none⟩, ⟨some 9, .q (.bin .neq (.t 6) (.t 8)), none⟩]
def c34_2 : List SOper := [⟨some 4, .q (.mv (.c (.bool false))), none⟩]
def c34_3 : SCode := .seq (.region c34_2 [4]) .ret
def c34_4 : SCode := .cond (.t 9) c34_3 .skip
def c34_5 : SCode := .seq (.region c34_1 [2, 3, 9]) c34_4
def c34_6 : List SOper := [⟨some 10, .q (.fa 1 (.t 2)), none⟩, ⟨some 11, .q (.ld (.t 10)), none⟩, ⟨some 12, .q (.fa 1 (.t 3)), none⟩, ⟨some 13, .q (.ld (.t 12)), none⟩, ⟨some 14, .q (.bin .neq (.t 11) (.t 13)), none⟩]
def c34_7 : List SOper := [⟨some 4, .q (.mv (.c (.bool false))), none⟩]
def c34_8 : SCode := .seq (.region c34_7 [4]) .ret
def c34_9 : SCode := .cond (.t 14) c34_8 .skip
def c34_10 : SCode := .seq (.region c34_6 [14]) c34_9
def c34_11 : List SOper := [⟨some 4, .q (.mv (.c (.bool true))), none⟩]
def c34_12 : SCode := .seq (.region c34_11 [4]) .ret
def c34_13 : SCode := .seq c34_10 c34_12
def c34_14 : SCode := .seq c34_5 c34_13
def c34_15 : SCode := .seq (.region c34_0 [2, 3]) c34_14
def c34 : SCode := c34_15
theorem w34 : type_of% (And.intro (uR Tryd.prog c34_0.eq_1) (And.intro (uR Tryd.prog c34_1.eq_1) (And.intro (uR Tryd.prog c34_2.eq_1) (And.intro (uC Tryd.prog c34_3.eq_1) (And.intro (uC Tryd.prog c34_4.eq_1) (And.intro (uC Tryd.prog c34_5.eq_1) (And.intro (uR Tryd.prog c34_6.eq_1) (And.intro (uR Tryd.prog c34_7.eq_1) (And.intro (uC Tryd.prog c34_8.eq_1) (And.intro (uC Tryd.prog c34_9.eq_1) (And.intro (uC Tryd.prog c34_10.eq_1) (And.intro (uR Tryd.prog c34_11.eq_1) (And.intro (uC Tryd.prog c34_12.eq_1) (And.intro (uC Tryd.prog c34_13.eq_1) (And.intro (uC Tryd.prog c34_14.eq_1) (And.intro (uC Tryd.prog c34_15.eq_1) (uC Tryd.prog c34.eq_1))))))))))))))))) := (And.intro (uR Tryd.prog c34_0.eq_1) (And.intro (uR Tryd.prog c34_1.eq_1) (And.intro (uR Tryd.prog c34_2.eq_1) (And.intro (uC Tryd.prog c34_3.eq_1) (And.intro (uC Tryd.prog c34_4.eq_1) (And.intro (uC Tryd.prog c34_5.eq_1) (And.intro (uR Tryd.prog c34_6.eq_1) (And.intro (uR Tryd.prog c34_7.eq_1) (And.intro (uC Tryd.prog c34_8.eq_1) (And.intro (uC Tryd.prog c34_9.eq_1) (And.intro (uC Tryd.prog c34_10.eq_1) (And.intro (uR Tryd.prog c34_11.eq_1) (And.intro (uC Tryd.prog c34_12.eq_1) (And.intro (uC Tryd.prog c34_13.eq_1) (And.intro (uC Tryd.prog c34_14.eq_1) (And.intro (uC Tryd.prog c34_15.eq_1) (uC Tryd.prog c34.eq_1)))))))))))))))))
def v34 : List RV := [.t 4]
theorem s34 : slimF Tryd.prog Tryd.f34 = some (c34.bare, v34) := by kernel_rfl

/-! 17 loop.example/g00066/laws.markWorryS: parameters 2, live [0, 1], slots [0:a, 1:k, 2:a, 3:k, 5:i] -/
def c17_0 : List SOper := [⟨some 4, .q (.mv (.c (.int .i64 0))), none⟩]
def c17_1 : List SOper := [⟨some 5, .q (.mv (.c (.int .i64 0))), none⟩]
def c17_2 : List SOper := [⟨some 6, .q (.mv (.t 5)), none⟩, ⟨some 7, .q (.mv (.t 0)), none⟩, ⟨some 8, .q (.len (.t 7)), none⟩, ⟨some 9, .q (.bin .lss (.t 6) (.t 8)), none⟩]
def c17_3 : SCode := .cond (.t 9) .skip (.exit 0)
def c17_4 : SCode := .seq (.region c17_2 [0, 1, 5, 9]) c17_3
def c17_5 : List SOper := [⟨some 12, .q (.mv (.t 0)), none⟩, ⟨some 13, .q (.mv (.t 5)), none⟩, ⟨some 14, .q (.mv (.t 1)), none⟩, ⟨some 15, .q (.ia 2 (.t 12) (.t 13)), none⟩, ⟨some 16, .q (.fa 0 (.t 15)), none⟩, ⟨none, .e (.st 1 (.t 16) (.t 14)), none⟩]
def c17_6 : List SOper := [⟨some 17, .q (.mv (.t 1)), none⟩, ⟨some 18, .q (.bin .add (.t 17) (.c (.int .i64 1))), none⟩, ⟨some 1, .q (.mv (.t 18)), none⟩]
def c17_7 : List SOper := [⟨some 19, .q (.mv (.t 0)), none⟩, ⟨some 20, .q (.mv (.t 5)), none⟩, ⟨some 21, .q (.mv (.t 1)), none⟩, ⟨some 22, .q (.ia 2 (.t 19) (.t 20)), none⟩, ⟨some 23, .q (.fa 1 (.t 22)), none⟩, ⟨none, .e (.st 1 (.t 23) (.t 21)), none⟩]
def c17_8 : List SOper := [⟨some 24, .q (.mv (.t 1)), none⟩, ⟨some 25, .q (.bin .add (.t 24) (.c (.int .i64 1))), none⟩, ⟨some 1, .q (.mv (.t 25)), none⟩]
def c17_9 : SCode := .seq (.region c17_7 [0, 1, 5]) (.region c17_8 [0, 1, 5])
def c17_10 : SCode := .seq (.region c17_6 [0, 1, 5]) c17_9
def c17_11 : SCode := .seq (.region c17_5 [0, 1, 5]) c17_10
def c17_12 : SCode := .block 1 c17_11
def c17_13 : List SOper := [⟨some 10, .q (.mv (.t 5)), none⟩, ⟨some 11, .q (.bin .add (.t 10) (.c (.int .i64 1))), none⟩, ⟨some 5, .q (.mv (.t 11)), none⟩]
def c17_14 : SCode := .seq c17_12 (.region c17_13 [0, 1, 5])
def c17_15 : SCode := .seq c17_4 c17_14
def c17_16 : SCode := .loop c17_15
def c17_17 : SCode := .block 0 c17_16
def c17_18 : SCode := .seq (.region c17_1 [0, 1, 5]) c17_17
def c17_19 : List SOper := [⟨some 26, .q (.mv (.t 1)), none⟩, ⟨some 4, .q (.mv (.t 26)), none⟩]
def c17_20 : SCode := .seq (.region c17_19 [4]) .ret
def c17_21 : SCode := .seq c17_18 c17_20
def c17_22 : SCode := .seq (.region c17_0 [0, 1]) c17_21
def c17 : SCode := c17_22
theorem w17 : type_of% (And.intro (uR Tryd.prog c17_0.eq_1) (And.intro (uR Tryd.prog c17_1.eq_1) (And.intro (uR Tryd.prog c17_2.eq_1) (And.intro (uC Tryd.prog c17_3.eq_1) (And.intro (uC Tryd.prog c17_4.eq_1) (And.intro (uR Tryd.prog c17_5.eq_1) (And.intro (uR Tryd.prog c17_6.eq_1) (And.intro (uR Tryd.prog c17_7.eq_1) (And.intro (uR Tryd.prog c17_8.eq_1) (And.intro (uC Tryd.prog c17_9.eq_1) (And.intro (uC Tryd.prog c17_10.eq_1) (And.intro (uC Tryd.prog c17_11.eq_1) (And.intro (uC Tryd.prog c17_12.eq_1) (And.intro (uR Tryd.prog c17_13.eq_1) (And.intro (uC Tryd.prog c17_14.eq_1) (And.intro (uC Tryd.prog c17_15.eq_1) (And.intro (uC Tryd.prog c17_16.eq_1) (And.intro (uC Tryd.prog c17_17.eq_1) (And.intro (uC Tryd.prog c17_18.eq_1) (And.intro (uR Tryd.prog c17_19.eq_1) (And.intro (uC Tryd.prog c17_20.eq_1) (And.intro (uC Tryd.prog c17_21.eq_1) (And.intro (uC Tryd.prog c17_22.eq_1) (uC Tryd.prog c17.eq_1)))))))))))))))))))))))) := (And.intro (uR Tryd.prog c17_0.eq_1) (And.intro (uR Tryd.prog c17_1.eq_1) (And.intro (uR Tryd.prog c17_2.eq_1) (And.intro (uC Tryd.prog c17_3.eq_1) (And.intro (uC Tryd.prog c17_4.eq_1) (And.intro (uR Tryd.prog c17_5.eq_1) (And.intro (uR Tryd.prog c17_6.eq_1) (And.intro (uR Tryd.prog c17_7.eq_1) (And.intro (uR Tryd.prog c17_8.eq_1) (And.intro (uC Tryd.prog c17_9.eq_1) (And.intro (uC Tryd.prog c17_10.eq_1) (And.intro (uC Tryd.prog c17_11.eq_1) (And.intro (uC Tryd.prog c17_12.eq_1) (And.intro (uR Tryd.prog c17_13.eq_1) (And.intro (uC Tryd.prog c17_14.eq_1) (And.intro (uC Tryd.prog c17_15.eq_1) (And.intro (uC Tryd.prog c17_16.eq_1) (And.intro (uC Tryd.prog c17_17.eq_1) (And.intro (uC Tryd.prog c17_18.eq_1) (And.intro (uR Tryd.prog c17_19.eq_1) (And.intro (uC Tryd.prog c17_20.eq_1) (And.intro (uC Tryd.prog c17_21.eq_1) (And.intro (uC Tryd.prog c17_22.eq_1) (uC Tryd.prog c17.eq_1))))))))))))))))))))))))
def v17 : List RV := [.t 4]
theorem s17 : slimF Tryd.prog Tryd.f17 = some (c17.bare, v17) := by kernel_rfl

/-! 18 loop.example/g00066/laws.heldWorryS: parameters 2, live [0, 1], slots [0:a, 1:k, 2:a, 3:k, 5:i] -/
def c18_0 : List SOper := [⟨some 4, .q (.mv (.c (.int .i64 0))), none⟩]
def c18_1 : List SOper := [⟨some 5, .q (.mv (.c (.int .i64 0))), none⟩]
def c18_2 : List SOper := [⟨some 6, .q (.mv (.t 5)), none⟩, ⟨some 7, .q (.mv (.t 0)), none⟩, ⟨some 8, .q (.len (.t 7)), none⟩, ⟨some 9, .q (.bin .lss (.t 6) (.t 8)), none⟩]
def c18_3 : SCode := .cond (.t 9) .skip (.exit 0)
def c18_4 : SCode := .seq (.region c18_2 [0, 1, 5, 9]) c18_3
def c18_5 : List SOper := [⟨some 12, .q (.mv (.t 0)), none⟩, ⟨some 13, .q (.mv (.t 5)), none⟩, ⟨some 14, .q (.ia 2 (.t 12) (.t 13)), none⟩, ⟨some 15, .q (.fa 0 (.t 14)), none⟩, ⟨some 16, .q (.ld (.t 15)), none⟩, ⟨some 17, .q (.mv (.t 1)), none⟩, ⟨some 18, .q (.bin .neq (.t 16) (.t 17)), none⟩]
def c18_6 : List SOper := [⟨some 4, .q (.mv (.c (.int .i64 (-1)))), none⟩]
def c18_7 : SCode := .seq (.region c18_6 [4]) .ret
def c18_8 : SCode := .cond (.t 18) c18_7 .skip
def c18_9 : SCode := .seq (.region c18_5 [0, 1, 5, 18]) c18_8
def c18_10 : List SOper := [⟨some 19, .q (.mv (.t 1)), none⟩, ⟨some 20, .q (.bin .add (.t 19) (.c (.int .i64 1))), none⟩, ⟨some 1, .q (.mv (.t 20)), none⟩]
def c18_11 : List SOper := [⟨some 21, .q (.mv (.t 0)), none⟩, ⟨some 22, .q (.mv (.t 5)), none⟩, ⟨some 23, .q (.ia 2 (.t 21) (.t 22)), none⟩, ⟨some 24, .q (.fa 1 (.t 23)), none⟩, ⟨some 25, .q (.ld (.t 24)), none⟩, ⟨some 26, .q (.mv (.t 1)), none⟩, ⟨some 27, .q (.bin .neq (.t 25) (.t 26)), none⟩]
def c18_12 : List SOper := [⟨some 4, .q (.mv (.c (.int .i64 (-1)))), none⟩]
def c18_13 : SCode := .seq (.region c18_12 [4]) .ret
def c18_14 : SCode := .cond (.t 27) c18_13 .skip
def c18_15 : SCode := .seq (.region c18_11 [0, 1, 5, 27]) c18_14
def c18_16 : List SOper := [⟨some 28, .q (.mv (.t 1)), none⟩, ⟨some 29, .q (.bin .add (.t 28) (.c (.int .i64 1))), none⟩, ⟨some 1, .q (.mv (.t 29)), none⟩]
def c18_17 : SCode := .seq c18_15 (.region c18_16 [0, 1, 5])
def c18_18 : SCode := .seq (.region c18_10 [0, 1, 5]) c18_17
def c18_19 : SCode := .seq c18_9 c18_18
def c18_20 : SCode := .block 1 c18_19
def c18_21 : List SOper := [⟨some 10, .q (.mv (.t 5)), none⟩, ⟨some 11, .q (.bin .add (.t 10) (.c (.int .i64 1))), none⟩, ⟨some 5, .q (.mv (.t 11)), none⟩]
def c18_22 : SCode := .seq c18_20 (.region c18_21 [0, 1, 5])
def c18_23 : SCode := .seq c18_4 c18_22
def c18_24 : SCode := .loop c18_23
def c18_25 : SCode := .block 0 c18_24
def c18_26 : SCode := .seq (.region c18_1 [0, 1, 5]) c18_25
def c18_27 : List SOper := [⟨some 30, .q (.mv (.t 1)), none⟩, ⟨some 4, .q (.mv (.t 30)), none⟩]
def c18_28 : SCode := .seq (.region c18_27 [4]) .ret
def c18_29 : SCode := .seq c18_26 c18_28
def c18_30 : SCode := .seq (.region c18_0 [0, 1]) c18_29
def c18 : SCode := c18_30
theorem w18 : type_of% (And.intro (uR Tryd.prog c18_0.eq_1) (And.intro (uR Tryd.prog c18_1.eq_1) (And.intro (uR Tryd.prog c18_2.eq_1) (And.intro (uC Tryd.prog c18_3.eq_1) (And.intro (uC Tryd.prog c18_4.eq_1) (And.intro (uR Tryd.prog c18_5.eq_1) (And.intro (uR Tryd.prog c18_6.eq_1) (And.intro (uC Tryd.prog c18_7.eq_1) (And.intro (uC Tryd.prog c18_8.eq_1) (And.intro (uC Tryd.prog c18_9.eq_1) (And.intro (uR Tryd.prog c18_10.eq_1) (And.intro (uR Tryd.prog c18_11.eq_1) (And.intro (uR Tryd.prog c18_12.eq_1) (And.intro (uC Tryd.prog c18_13.eq_1) (And.intro (uC Tryd.prog c18_14.eq_1) (And.intro (uC Tryd.prog c18_15.eq_1) (And.intro (uR Tryd.prog c18_16.eq_1) (And.intro (uC Tryd.prog c18_17.eq_1) (And.intro (uC Tryd.prog c18_18.eq_1) (And.intro (uC Tryd.prog c18_19.eq_1) (And.intro (uC Tryd.prog c18_20.eq_1) (And.intro (uR Tryd.prog c18_21.eq_1) (And.intro (uC Tryd.prog c18_22.eq_1) (And.intro (uC Tryd.prog c18_23.eq_1) (And.intro (uC Tryd.prog c18_24.eq_1) (And.intro (uC Tryd.prog c18_25.eq_1) (And.intro (uC Tryd.prog c18_26.eq_1) (And.intro (uR Tryd.prog c18_27.eq_1) (And.intro (uC Tryd.prog c18_28.eq_1) (And.intro (uC Tryd.prog c18_29.eq_1) (And.intro (uC Tryd.prog c18_30.eq_1) (uC Tryd.prog c18.eq_1)))))))))))))))))))))))))))))))) := (And.intro (uR Tryd.prog c18_0.eq_1) (And.intro (uR Tryd.prog c18_1.eq_1) (And.intro (uR Tryd.prog c18_2.eq_1) (And.intro (uC Tryd.prog c18_3.eq_1) (And.intro (uC Tryd.prog c18_4.eq_1) (And.intro (uR Tryd.prog c18_5.eq_1) (And.intro (uR Tryd.prog c18_6.eq_1) (And.intro (uC Tryd.prog c18_7.eq_1) (And.intro (uC Tryd.prog c18_8.eq_1) (And.intro (uC Tryd.prog c18_9.eq_1) (And.intro (uR Tryd.prog c18_10.eq_1) (And.intro (uR Tryd.prog c18_11.eq_1) (And.intro (uR Tryd.prog c18_12.eq_1) (And.intro (uC Tryd.prog c18_13.eq_1) (And.intro (uC Tryd.prog c18_14.eq_1) (And.intro (uC Tryd.prog c18_15.eq_1) (And.intro (uR Tryd.prog c18_16.eq_1) (And.intro (uC Tryd.prog c18_17.eq_1) (And.intro (uC Tryd.prog c18_18.eq_1) (And.intro (uC Tryd.prog c18_19.eq_1) (And.intro (uC Tryd.prog c18_20.eq_1) (And.intro (uR Tryd.prog c18_21.eq_1) (And.intro (uC Tryd.prog c18_22.eq_1) (And.intro (uC Tryd.prog c18_23.eq_1) (And.intro (uC Tryd.prog c18_24.eq_1) (And.intro (uC Tryd.prog c18_25.eq_1) (And.intro (uC Tryd.prog c18_26.eq_1) (And.intro (uR Tryd.prog c18_27.eq_1) (And.intro (uC Tryd.prog c18_28.eq_1) (And.intro (uC Tryd.prog c18_29.eq_1) (And.intro (uC Tryd.prog c18_30.eq_1) (uC Tryd.prog c18.eq_1))))))))))))))))))))))))))))))))
def v18 : List RV := [.t 4]
theorem s18 : slimF Tryd.prog Tryd.f18 = some (c18.bare, v18) := by kernel_rfl

structure Worry where
  pos : Int
  why : Int
  deriving DecidableEq
def zWorry : Worry := ⟨0, 0⟩
def encWorry (k : Worry) : List Value := [.int .i64 k.pos, .int .i64 k.why]
theorem encWorry_len (k : Worry) : (encWorry k).length = 2 := rfl
theorem eqWorry_ok (h : Heap) (k k' : Worry) : ACall Tryd.prog 34 [.agg (encWorry k).toArray, .agg (encWorry k').toArray] h
    fun r h' => Ext h h' ∧ r = .bool (decide (k = k')) := by
  obtain ⟨a, b⟩ := k; obtain ⟨a', b'⟩ := k'
  refine ACall.of Tryd.func34 s34 (of_decide_eq_true rfl) ?_
  simp (maxSteps := 4000000) (disch := omega) only [ah, am, Nat.reduceEqDiff, reduceCtorEq, Nat.reduceAdd, Nat.reduceLeDiff, Nat.reduceMul, Nat.reduceLT, if_true, if_false, true_and, and_true, and_self, Nat.reduceBEq, QOp.loads, boxO, bslO, buildO, cutL, fillV, putL, w34, v34, encWorry, stepI_dec]
  repeat' split
  all_goals exact ⟨Ext.more _ _, by simp [*]⟩
theorem eqWorryS_ok (h : Heap) (v v' : Value) (l l' : List Worry) (hs : SlT h encWorry 2 v l) (hs' : SlT h encWorry 2 v' l') (hl : l.length ≤ 281474976710656) (hl' : l'.length ≤ 281474976710656) :
    ACall Tryd.prog 14 [v, v'] h fun r h' => Ext h h' ∧ r = .bool (decide (l = l')) := by
  refine ACall.of Tryd.func14 s14 (of_decide_eq_true rfl) ?_
  have R := hs.rulesN
  have R' := hs'.rulesN
  simp (maxSteps := 4000000) (disch := omega) only [ah, am, Nat.reduceEqDiff, reduceCtorEq, Nat.reduceAdd, Nat.reduceLeDiff, Nat.reduceMul, Nat.reduceLT, if_true, if_false, true_and, and_true, and_self, Nat.reduceBEq, QOp.loads, boxO, bslO, buildO, cutL, fillV, putL, w14, v14, R, R']
  refine stepI.split (fun hp => ?_) (fun hp => ?_)
  rotate_left
  · simp (maxSteps := 4000000) (disch := omega) only [ah, am, Nat.reduceEqDiff, reduceCtorEq, Nat.reduceAdd, Nat.reduceLeDiff, Nat.reduceMul, Nat.reduceLT, if_true, if_false, true_and, and_true, and_self, Nat.reduceBEq, QOp.loads, boxO, bslO, buildO, cutL, fillV, putL, w14, v14]
    exact ⟨Ext.refl h, by rw [decide_eq_false]; rintro rfl; exact hp rfl⟩
  have hll : l.length = l'.length := by omega
  simp (maxSteps := 4000000) (disch := omega) only [ah, am, Nat.reduceEqDiff, reduceCtorEq, Nat.reduceAdd, Nat.reduceLeDiff, Nat.reduceMul, Nat.reduceLT, if_true, if_false, true_and, and_true, and_self, Nat.reduceBEq, QOp.loads, boxO, bslO, buildO, cutL, fillV, putL, w14, v14]
  refine SW_loop_up (fun i E' H => E' = [(0, v), (1, v'), (5, .int .i64 i)] ∧ Ext h H ∧ ∀ j (h1 : j < i) (h2 : j < l.length), l[j] = l'[j]) l.length 0 (by omega)
    ⟨rfl, .refl h, fun j h1 h2 => absurd h1 (by omega)⟩ ?_
  rintro i E' H hi ⟨rfl, e, F⟩
  have R := (hs.ext e).rulesN
  have R' := (hs'.ext e).rulesN
  have W : IntKind.i64.wrap ((i : Int) + 1) = ((i + 1 : Nat) : Int) := i64e (by omega) (by omega)
  simp (maxSteps := 4000000) (disch := omega) only [ah, am, Nat.reduceEqDiff, reduceCtorEq, Nat.reduceAdd, Nat.reduceLeDiff, Nat.reduceMul, Nat.reduceLT, if_true, if_false, true_and, and_true, and_self, Nat.reduceBEq, QOp.loads, boxO, bslO, buildO, cutL, fillV, putL, w14, v14, R, R', W]
  refine stepI.split (fun hp => ?_) (fun hp => ?_)
  · simp (maxSteps := 4000000) (disch := omega) only [ah, am, Nat.reduceEqDiff, reduceCtorEq, Nat.reduceAdd, Nat.reduceLeDiff, Nat.reduceMul, Nat.reduceLT, if_true, if_false, true_and, and_true, and_self, Nat.reduceBEq, QOp.loads, boxO, bslO, buildO, cutL, fillV, putL, w14, v14, R, R', W]
    refine stepC.of (eqWorry_ok _ _ _) ?_
    rintro r H1 ⟨e1, rfl⟩
    simp (maxSteps := 4000000) (disch := omega) only [ah, am, Nat.reduceEqDiff, reduceCtorEq, Nat.reduceAdd, Nat.reduceLeDiff, Nat.reduceMul, Nat.reduceLT, if_true, if_false, true_and, and_true, and_self, Nat.reduceBEq, QOp.loads, boxO, bslO, buildO, cutL, fillV, putL, w14, v14, R, R', W]
    refine stepI.split (fun hq => ?_) (fun hq => ?_)
    · simp (maxSteps := 4000000) (disch := omega) only [ah, am, Nat.reduceEqDiff, reduceCtorEq, Nat.reduceAdd, Nat.reduceLeDiff, Nat.reduceMul, Nat.reduceLT, if_true, if_false, true_and, and_true, and_self, Nat.reduceBEq, QOp.loads, boxO, bslO, buildO, cutL, fillV, putL, w14, v14, W]
      exact ⟨by omega, e.trans e1, fun j h1 h2 => by
        by_cases hj : j = i
        · subst hj; exact hq
        · exact F j (by omega) h2⟩
    · simp (maxSteps := 4000000) (disch := omega) only [ah, am, Nat.reduceEqDiff, reduceCtorEq, Nat.reduceAdd, Nat.reduceLeDiff, Nat.reduceMul, Nat.reduceLT, if_true, if_false, true_and, and_true, and_self, Nat.reduceBEq, QOp.loads, boxO, bslO, buildO, cutL, fillV, putL, w14, v14, W]
      exact ⟨e.trans e1, by rw [decide_eq_false]; rintro rfl; exact hq rfl⟩
  · simp (maxSteps := 4000000) (disch := omega) only [ah, am, Nat.reduceEqDiff, reduceCtorEq, Nat.reduceAdd, Nat.reduceLeDiff, Nat.reduceMul, Nat.reduceLT, if_true, if_false, true_and, and_true, and_self, Nat.reduceBEq, QOp.loads, boxO, bslO, buildO, cutL, fillV, putL, w14, v14, R, W]
    refine ⟨e, ?_⟩
    rw [decide_eq_true]
    exact List.ext_getElem hll fun j h1 h2 => F j (by omega) h1
def markWorry (k : Int) (n : Nat) : List Worry := (List.range n).map fun i : Nat => ⟨k + 2 * (i : Int), k + 2 * (i : Int) + 1⟩
theorem markWorryS_ok (h : Heap) (g : Nat) (v : Value) (l : List Worry) (k : Int) (o : OwnT g h encWorry 2 v l) (hl : l.length ≤ 1000000000) (hk : 0 ≤ k ∧ k ≤ 1000000000000) :
    ACall Tryd.prog 17 [v, .int .i64 k] h fun r h' => ExtG g h h' ∧ OwnT g h' encWorry 2 v (markWorry k l.length) ∧ r = .int .i64 (k + 2 * l.length) := by
  refine ACall.of Tryd.func17 s17 (of_decide_eq_true rfl) ?_
  have R := o.slt.rulesN
  simp (maxSteps := 4000000) (disch := omega) only [ah, am, Nat.reduceEqDiff, reduceCtorEq, Nat.reduceAdd, Nat.reduceLeDiff, Nat.reduceMul, Nat.reduceLT, if_true, if_false, true_and, and_true, and_self, Nat.reduceBEq, QOp.loads, boxO, bslO, buildO, cutL, fillV, putL, w17, v17, R]
  refine SW_loop_up (fun i E' H => E' = [(0, v), (1, .int .i64 (k + 2 * i)), (5, .int .i64 i)] ∧ ExtG g h H ∧ OwnT g H encWorry 2 v (markWorry k i ++ l.drop i)) l.length 0 (by omega)
    ⟨by simp, ExtG.refl g h, by simpa [markWorry] using o⟩ ?_
  rintro i E' H hi ⟨rfl, e, O⟩
  have hlen : (markWorry k i ++ l.drop i).length = l.length := by simp [markWorry]; omega
  have R := O.slt.rulesN
  simp only [hlen] at R
  have W : IntKind.i64.wrap ((i : Int) + 1) = ((i + 1 : Nat) : Int) := i64e (by omega) (by omega)
  have W1 : IntKind.i64.wrap (k + 2 * (i : Int) + 1) = k + 2 * (i : Int) + 1 := i64e (by omega) (by omega)
  have W2 : IntKind.i64.wrap (k + 2 * (i : Int) + 1 + 1) = k + 2 * ((i + 1 : Nat) : Int) := i64e (by omega) (by omega)
  simp (maxSteps := 4000000) (disch := omega) only [ah, am, Nat.reduceEqDiff, reduceCtorEq, Nat.reduceAdd, Nat.reduceLeDiff, Nat.reduceMul, Nat.reduceLT, if_true, if_false, true_and, and_true, and_self, Nat.reduceBEq, QOp.loads, boxO, bslO, buildO, cutL, fillV, putL, w17, v17, R, W]
  refine stepI.split (fun hp => ?_) (fun hp => ?_)
  · have hj : i < (markWorry k i ++ l.drop i).length := by omega
    obtain ⟨H1, es1, O1, G1, -⟩ := O.setF (j := i) (f := 0) (n := 1) (y := .int .i64 (k + 2 * (i : Int))) (x := ⟨(k + 2 * (i : Int)), ((markWorry k i ++ l.drop i)[i]).why⟩) (by simpa using hj) (by simp [encWorry, splice, cells_int]) (by omega) rfl (by omega) rfl
    obtain ⟨H2, es2, O2, G2, -⟩ := O1.setF (j := i) (f := 1) (n := 1) (y := .int .i64 (k + 2 * (i : Int) + 1)) (x := ⟨(k + 2 * (i : Int)), (k + 2 * (i : Int) + 1)⟩) (by simpa using hj) (by simp [encWorry, splice, cells_int]) (by omega) rfl (by omega) rfl
    simp only [List.set_set] at O2
    simp only [Nat.add_zero] at es1
    simp (maxSteps := 4000000) (disch := omega) only [ah, am, Nat.reduceEqDiff, reduceCtorEq, Nat.reduceAdd, Nat.reduceLeDiff, Nat.reduceMul, Nat.reduceLT, if_true, if_false, true_and, and_true, and_self, Nat.reduceBEq, QOp.loads, boxO, bslO, buildO, cutL, fillV, putL, w17, v17, R, es1, es2, W, W1, W2]
    refine ⟨by omega, ((e.trans G1).trans G2), ?_⟩
    have := mark_stepG (fun i : Nat => (⟨k + 2 * (i : Int), k + 2 * (i : Int) + 1⟩ : Worry)) l i (by omega)
    unfold markWorry at O2 ⊢
    rw [← this]; exact O2
  · simp (maxSteps := 4000000) (disch := omega) only [ah, am, Nat.reduceEqDiff, reduceCtorEq, Nat.reduceAdd, Nat.reduceLeDiff, Nat.reduceMul, Nat.reduceLT, if_true, if_false, true_and, and_true, and_self, Nat.reduceBEq, QOp.loads, boxO, bslO, buildO, cutL, fillV, putL, w17, v17]
    obtain rfl : i = l.length := by omega
    exact ⟨e, by simpa using O, rfl⟩
theorem markWorryS_mine {a b : Nat} {h : Heap} {v : Value} {l : List Worry} (k : Int) (m : Mine a b h encWorry 2 v l) (hl : l.length ≤ 1000000000) (hk : 0 ≤ k ∧ k ≤ 1000000000000) :
    ACall Tryd.prog 17 [v, .int .i64 k] h fun r h' => Chg a b h h' ∧ Mine a b h' encWorry 2 v (markWorry k l.length) ∧ r = .int .i64 (k + 2 * l.length) :=
  ACall.mine m (fun g o => markWorryS_ok h g v l k o hl hk) (fun e => by rw [e]; rfl)
theorem heldWorryS_ok (h : Heap) (v : Value) (n : Nat) (k : Int) (s : SlT h encWorry 2 v (markWorry k n)) (hl : n ≤ 1000000000) (hk : 0 ≤ k ∧ k ≤ 1000000000000) :
    ACall Tryd.prog 18 [v, .int .i64 k] h fun r h' => h' = h ∧ r = .int .i64 (k + 2 * n) := by
  refine ACall.of Tryd.func18 s18 (of_decide_eq_true rfl) ?_
  have R := s.rulesN
  have hn : (markWorry k n).length = n := by simp [markWorry]
  simp only [hn] at R
  simp (maxSteps := 4000000) (disch := omega) only [ah, am, Nat.reduceEqDiff, reduceCtorEq, Nat.reduceAdd, Nat.reduceLeDiff, Nat.reduceMul, Nat.reduceLT, if_true, if_false, true_and, and_true, and_self, Nat.reduceBEq, QOp.loads, boxO, bslO, buildO, cutL, fillV, putL, w18, v18, R]
  refine SW_loop_up (fun i E' H => E' = [(0, v), (1, .int .i64 (k + 2 * i)), (5, .int .i64 i)] ∧ H = h) n 0 (by omega) ⟨by simp, rfl⟩ ?_
  rintro i E' H hi ⟨rfl, rfl⟩
  have W : IntKind.i64.wrap ((i : Int) + 1) = ((i + 1 : Nat) : Int) := i64e (by omega) (by omega)
  have W1 : IntKind.i64.wrap (k + 2 * (i : Int) + 1) = k + 2 * (i : Int) + 1 := i64e (by omega) (by omega)
  have W2 : IntKind.i64.wrap (k + 2 * (i : Int) + 1 + 1) = k + 2 * ((i + 1 : Nat) : Int) := i64e (by omega) (by omega)
  simp (maxSteps := 4000000) (disch := omega) only [ah, am, Nat.reduceEqDiff, reduceCtorEq, Nat.reduceAdd, Nat.reduceLeDiff, Nat.reduceMul, Nat.reduceLT, if_true, if_false, true_and, and_true, and_self, Nat.reduceBEq, QOp.loads, boxO, bslO, buildO, cutL, fillV, putL, w18, v18, R, W]
  refine stepI.split (fun hp => ?_) (fun hp => ?_)
  · have g : ∀ (hj : i < (markWorry k n).length), encWorry (markWorry k n)[i] = [.int .i64 (k + 2 * (i : Int)), .int .i64 (k + 2 * (i : Int) + 1)] := by
      intro hj; simp [markWorry, encWorry]
    simp (maxSteps := 4000000) (disch := omega) only [ah, am, Nat.reduceEqDiff, reduceCtorEq, Nat.reduceAdd, Nat.reduceLeDiff, Nat.reduceMul, Nat.reduceLT, if_true, if_false, true_and, and_true, and_self, Nat.reduceBEq, QOp.loads, boxO, bslO, buildO, cutL, fillV, putL, w18, v18, R, g, W, W1, W2, decide_true, stepI_true]
    omega
  · simp (maxSteps := 4000000) (disch := omega) only [ah, am, Nat.reduceEqDiff, reduceCtorEq, Nat.reduceAdd, Nat.reduceLeDiff, Nat.reduceMul, Nat.reduceLT, if_true, if_false, true_and, and_true, and_self, Nat.reduceBEq, QOp.loads, boxO, bslO, buildO, cutL, fillV, putL, w18, v18]
    obtain rfl : i = n := by omega
    rfl
end Go.Proofs.YtgjppbmbpjomgaaDoor
