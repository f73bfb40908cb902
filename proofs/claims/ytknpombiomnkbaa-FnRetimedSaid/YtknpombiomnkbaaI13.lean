import Derived.Test.YtknpombiomnkbaaI6
import Derived.Test.YtknpombiomnkbaaS14
namespace Go.Proofs.Ytknpombiomnkbaa
open Go Go.Ah
set_option linter.unusedSimpArgs false
set_option linter.unusedVariables false
set_option maxRecDepth 10000
set_option maxHeartbeats 4000000
/-! 75 loop.example/g00066/impl.isFrame: parameters 1, live [0], slots [0:n, 1:n] -/
def c75_0 : List SOper := [⟨some 2, .q (.mv (.c (.bool false))), none⟩]
def c75_1 : List SOper := [⟨some 3, .q (.mv (.t 0)), none⟩, ⟨some 4, .e (.call 51 [(.t 3), (.c (.int .i64 0)), (.c (.int .i64 10000000))]), none⟩, ⟨some 2, .q (.mv (.t 4)), none⟩]
def c75_2 : SCode := .seq (.region c75_1 [2]) .ret
def c75_3 : SCode := .seq (.region c75_0 [0]) c75_2
def c75 : SCode := c75_3
theorem w75 : type_of% (And.intro (uR Try.prog c75_0.eq_1) (And.intro (uR Try.prog c75_1.eq_1) (And.intro (uC Try.prog c75_2.eq_1) (And.intro (uC Try.prog c75_3.eq_1) (uC Try.prog c75.eq_1))))) := (And.intro (uR Try.prog c75_0.eq_1) (And.intro (uR Try.prog c75_1.eq_1) (And.intro (uC Try.prog c75_2.eq_1) (And.intro (uC Try.prog c75_3.eq_1) (uC Try.prog c75.eq_1)))))
def v75 : List RV := [.t 2]
theorem s75 : slimF Try.prog Try.f75 = some (c75.bare, v75) := by kernel_rfl
/-! 71 loop.example/g00066/impl.KeysOk: parameters 1, live [0], slots [0:keys, 1:keys, 3:i, 4:k] -/
def c71_0 : List SOper := [⟨some 2, .q (.mv (.c (.bool false))), none⟩]
def c71_1 : List SOper := [⟨some 5, .q (.mv (.t 0)), none⟩, ⟨some 6, .q (.len (.t 5)), none⟩, ⟨some 7, .e (.call 51 [(.t 6), (.c (.int .i64 1)), (.c (.int .i64 100))]), none⟩, ⟨some 8, .q (.not (.t 7)), none⟩]
def c71_2 : List SOper := [⟨some 2, .q (.mv (.c (.bool false))), none⟩]
def c71_3 : SCode := .seq (.region c71_2 [2]) .ret
def c71_4 : SCode := .cond (.t 8) c71_3 .skip
def c71_5 : SCode := .seq (.region c71_1 [0, 8]) c71_4
def c71_6 : List SOper := [⟨some 9, .q (.mv (.t 0)), none⟩, ⟨some 10, .q (.len (.t 9)), none⟩, ⟨some 11, .q (.mv (.c (.int .i64 0))), none⟩]
def c71_7 : List SOper := [⟨some 12, .q (.bin .lss (.t 11) (.t 10)), none⟩]
def c71_8 : SCode := .cond (.t 12) .skip (.exit 0)
def c71_9 : List SOper := [⟨some 13, .q (.mv (.t 11)), none⟩, ⟨some 14, .q (.ia 2 (.t 9) (.t 11)), none⟩, ⟨some 15, .q (.ldn 2 (.t 14)), none⟩, ⟨some 4, .a (.new [(.int .i64 0), (.int .i64 0)]), none⟩, ⟨some 3, .q (.mv (.t 13)), none⟩, ⟨none, .e (.st 2 (.t 4) (.t 15)), none⟩]
def c71_10 : List SOper := [⟨some 16, .q (.fa 0 (.t 4)), none⟩, ⟨some 17, .q (.ld (.t 16)), none⟩, ⟨some 18, .e (.call 75 [(.t 17)]), none⟩, ⟨some 19, .q (.not (.t 18)), none⟩, ⟨some 20, .q (.mv (.t 19)), none⟩, ⟨some 21, .q (.fa 1 (.t 4)), some (20, false)⟩, ⟨some 22, .q (.ld (.t 21)), some (20, false)⟩, ⟨some 23, .e (.call 75 [(.t 22)]), some (20, false)⟩, ⟨some 24, .q (.not (.t 23)), some (20, false)⟩, ⟨some 25, .q (.pick (.t 20) (.c (.bool true)) (.t 24)), none⟩, ⟨some 26, .q (.mv (.t 25)), none⟩, ⟨some 27, .q (.mv (.t 3)), some (26, false)⟩, ⟨some 28, .q (.bin .gtr (.t 27) (.c (.int .i64 0))), some (26, false)⟩, ⟨some 29, .q (.mv (.t 28)), some (26, false)⟩, ⟨some 30, .q (.fa 0 (.t 4)), some (29, true)⟩, ⟨some 31, .q (.ld (.t 30)), some (29, true)⟩, ⟨some 32, .q (.mv (.t 0)), some (29, true)⟩, ⟨some 33, .q (.mv (.t 3)), some (29, true)⟩, ⟨some 34, .q (.bin .sub (.t 33) (.c (.int .i64 1))), some (29, true)⟩, ⟨some 35, .q (.ia 2 (.t 32) (.t 34)), some (29, true)⟩, ⟨some 36, .q (.fa 0 (.t 35)), some (29, true)⟩, ⟨some 37, .q (.ld (.t 36)), some (29, true)⟩, ⟨some 38, .q (.bin .leq (.t 31) (.t 37)), some (29, true)⟩, ⟨some 39, .q (.pick (.t 29) (.t 38) (.c (.bool false))), some (26, false)⟩, ⟨some 40, .q (.pick (.t 26) (.c (.bool true)) (.t 39)), none⟩]
def c71_11 : List SOper := [⟨some 2, .q (.mv (.c (.bool false))), none⟩]
def c71_12 : SCode := .seq (.region c71_11 [2]) .ret
def c71_13 : SCode := .cond (.t 40) c71_12 .skip
def c71_14 : SCode := .seq (.region c71_10 [0, 9, 10, 11, 40]) c71_13
def c71_15 : SCode := .seq (.region c71_9 [0, 3, 4, 9, 10, 11]) c71_14
def c71_16 : SCode := .block 1 c71_15
def c71_17 : List SOper := [⟨some 41, .q (.bin .add (.t 11) (.c (.int .i64 1))), none⟩, ⟨some 11, .q (.mv (.t 41)), none⟩]
def c71_18 : SCode := .seq c71_16 (.region c71_17 [0, 9, 10, 11])
def c71_19 : SCode := .seq c71_8 c71_18
def c71_20 : SCode := .seq (.region c71_7 [0, 9, 10, 11, 12]) c71_19
def c71_21 : SCode := .loop c71_20
def c71_22 : SCode := .block 0 c71_21
def c71_23 : SCode := .seq (.region c71_6 [0, 9, 10, 11]) c71_22
def c71_24 : List SOper := [⟨some 2, .q (.mv (.c (.bool true))), none⟩]
def c71_25 : SCode := .seq (.region c71_24 [2]) .ret
def c71_26 : SCode := .seq c71_23 c71_25
def c71_27 : SCode := .seq c71_5 c71_26
def c71_28 : SCode := .seq (.region c71_0 [0]) c71_27
def c71 : SCode := c71_28
theorem w71 : type_of% (And.intro (uR Try.prog c71_0.eq_1) (And.intro (uR Try.prog c71_1.eq_1) (And.intro (uR Try.prog c71_2.eq_1) (And.intro (uC Try.prog c71_3.eq_1) (And.intro (uC Try.prog c71_4.eq_1) (And.intro (uC Try.prog c71_5.eq_1) (And.intro (uR Try.prog c71_6.eq_1) (And.intro (uR Try.prog c71_7.eq_1) (And.intro (uC Try.prog c71_8.eq_1) (And.intro (uR Try.prog c71_9.eq_1) (And.intro (uR Try.prog c71_10.eq_1) (And.intro (uR Try.prog c71_11.eq_1) (And.intro (uC Try.prog c71_12.eq_1) (And.intro (uC Try.prog c71_13.eq_1) (And.intro (uC Try.prog c71_14.eq_1) (And.intro (uC Try.prog c71_15.eq_1) (And.intro (uC Try.prog c71_16.eq_1) (And.intro (uR Try.prog c71_17.eq_1) (And.intro (uC Try.prog c71_18.eq_1) (And.intro (uC Try.prog c71_19.eq_1) (And.intro (uC Try.prog c71_20.eq_1) (And.intro (uC Try.prog c71_21.eq_1) (And.intro (uC Try.prog c71_22.eq_1) (And.intro (uC Try.prog c71_23.eq_1) (And.intro (uR Try.prog c71_24.eq_1) (And.intro (uC Try.prog c71_25.eq_1) (And.intro (uC Try.prog c71_26.eq_1) (And.intro (uC Try.prog c71_27.eq_1) (And.intro (uC Try.prog c71_28.eq_1) (uC Try.prog c71.eq_1)))))))))))))))))))))))))))))) := (And.intro (uR Try.prog c71_0.eq_1) (And.intro (uR Try.prog c71_1.eq_1) (And.intro (uR Try.prog c71_2.eq_1) (And.intro (uC Try.prog c71_3.eq_1) (And.intro (uC Try.prog c71_4.eq_1) (And.intro (uC Try.prog c71_5.eq_1) (And.intro (uR Try.prog c71_6.eq_1) (And.intro (uR Try.prog c71_7.eq_1) (And.intro (uC Try.prog c71_8.eq_1) (And.intro (uR Try.prog c71_9.eq_1) (And.intro (uR Try.prog c71_10.eq_1) (And.intro (uR Try.prog c71_11.eq_1) (And.intro (uC Try.prog c71_12.eq_1) (And.intro (uC Try.prog c71_13.eq_1) (And.intro (uC Try.prog c71_14.eq_1) (And.intro (uC Try.prog c71_15.eq_1) (And.intro (uC Try.prog c71_16.eq_1) (And.intro (uR Try.prog c71_17.eq_1) (And.intro (uC Try.prog c71_18.eq_1) (And.intro (uC Try.prog c71_19.eq_1) (And.intro (uC Try.prog c71_20.eq_1) (And.intro (uC Try.prog c71_21.eq_1) (And.intro (uC Try.prog c71_22.eq_1) (And.intro (uC Try.prog c71_23.eq_1) (And.intro (uR Try.prog c71_24.eq_1) (And.intro (uC Try.prog c71_25.eq_1) (And.intro (uC Try.prog c71_26.eq_1) (And.intro (uC Try.prog c71_27.eq_1) (And.intro (uC Try.prog c71_28.eq_1) (uC Try.prog c71.eq_1))))))))))))))))))))))))))))))
def v71 : List RV := [.t 2]
theorem s71 : slimF Try.prog Try.f71 = some (c71.bare, v71) := by kernel_rfl
/-! 98 loop.example/g00066/impl.down: parameters 2, live [0, 1], slots [0:a, 1:b, 2:a, 3:b, 5:q] -/
def c98_0 : List SOper := [⟨some 4, .q (.mv (.c (.int .i64 0))), none⟩]
def c98_1 : List SOper := [⟨some 6, .q (.mv (.t 0)), none⟩, ⟨some 7, .q (.mv (.t 1)), none⟩, ⟨some 8, .q (.bin .quo (.t 6) (.t 7)), none⟩, ⟨some 5, .q (.mv (.t 8)), none⟩]
def c98_2 : List SOper := [⟨some 9, .q (.mv (.t 0)), none⟩, ⟨some 10, .q (.mv (.t 1)), none⟩, ⟨some 11, .q (.bin .rem (.t 9) (.t 10)), none⟩, ⟨some 12, .q (.bin .lss (.t 11) (.c (.int .i64 0))), none⟩]
def c98_3 : List SOper := [⟨some 13, .q (.mv (.t 5)), none⟩, ⟨some 14, .q (.bin .sub (.t 13) (.c (.int .i64 1))), none⟩, ⟨some 5, .q (.mv (.t 14)), none⟩]
def c98_4 : SCode := .cond (.t 12) (.region c98_3 [5]) .skip
def c98_5 : SCode := .seq (.region c98_2 [5, 12]) c98_4
def c98_6 : List SOper := [⟨some 15, .q (.mv (.t 5)), none⟩, ⟨some 4, .q (.mv (.t 15)), none⟩]
def c98_7 : SCode := .seq (.region c98_6 [4]) .ret
def c98_8 : SCode := .seq c98_5 c98_7
def c98_9 : SCode := .seq (.region c98_1 [0, 1, 5]) c98_8
def c98_10 : SCode := .seq (.region c98_0 [0, 1]) c98_9
def c98 : SCode := c98_10
theorem w98 : type_of% (And.intro (uR Try.prog c98_0.eq_1) (And.intro (uR Try.prog c98_1.eq_1) (And.intro (uR Try.prog c98_2.eq_1) (And.intro (uR Try.prog c98_3.eq_1) (And.intro (uC Try.prog c98_4.eq_1) (And.intro (uC Try.prog c98_5.eq_1) (And.intro (uR Try.prog c98_6.eq_1) (And.intro (uC Try.prog c98_7.eq_1) (And.intro (uC Try.prog c98_8.eq_1) (And.intro (uC Try.prog c98_9.eq_1) (And.intro (uC Try.prog c98_10.eq_1) (uC Try.prog c98.eq_1)))))))))))) := (And.intro (uR Try.prog c98_0.eq_1) (And.intro (uR Try.prog c98_1.eq_1) (And.intro (uR Try.prog c98_2.eq_1) (And.intro (uR Try.prog c98_3.eq_1) (And.intro (uC Try.prog c98_4.eq_1) (And.intro (uC Try.prog c98_5.eq_1) (And.intro (uR Try.prog c98_6.eq_1) (And.intro (uC Try.prog c98_7.eq_1) (And.intro (uC Try.prog c98_8.eq_1) (And.intro (uC Try.prog c98_9.eq_1) (And.intro (uC Try.prog c98_10.eq_1) (uC Try.prog c98.eq_1))))))))))))
def v98 : List RV := [.t 4]
theorem s98 : slimF Try.prog Try.f98 = some (c98.bare, v98) := by kernel_rfl
/-! 97 loop.example/g00066/impl.between$1: parameters 1, live [0, 1], slots [0:k, 2:k] -/
def c97_0 : List SOper := [⟨some 2, .a (.box (.t 0)), none⟩, ⟨some 3, .q (.mv (.c (.bool false))), none⟩]
def c97_1 : List SOper := [⟨some 4, .q (.ld (.t 1)), none⟩, ⟨some 5, .q (.fa 0 (.t 2)), none⟩, ⟨some 6, .q (.ld (.t 5)), none⟩, ⟨some 7, .q (.bin .leq (.t 4) (.t 6)), none⟩, ⟨some 3, .q (.mv (.t 7)), none⟩]
def c97_2 : SCode := .seq (.region c97_1 [3]) .ret
def c97_3 : SCode := .seq (.region c97_0 [1, 2]) c97_2
def c97 : SCode := c97_3
theorem w97 : type_of% (And.intro (uR Try.prog c97_0.eq_1) (And.intro (uR Try.prog c97_1.eq_1) (And.intro (uC Try.prog c97_2.eq_1) (And.intro (uC Try.prog c97_3.eq_1) (uC Try.prog c97.eq_1))))) := (And.intro (uR Try.prog c97_0.eq_1) (And.intro (uR Try.prog c97_1.eq_1) (And.intro (uC Try.prog c97_2.eq_1) (And.intro (uC Try.prog c97_3.eq_1) (uC Try.prog c97.eq_1)))))
def v97 : List RV := [.t 3]
theorem s97 : slimF Try.prog Try.f97 = some (c97.bare, v97) := by kernel_rfl
/-! 96 slices.IndexFunc[[]loop.example/g00066/impl.Key,loop.example/g00066/impl.Key]: parameters 2, live [0, 1], slots [0:s, 1:f, 2:s, 3:f, 5:i] -/
def c96_0 : List SOper := [⟨some 4, .q (.mv (.c (.int .i64 0))), none⟩]
def c96_1 : List SOper := [⟨some 6, .q (.mv (.t 0)), none⟩, ⟨some 7, .q (.len (.t 6)), none⟩, ⟨some 8, .q (.mv (.c (.int .i64 0))), none⟩]
def c96_2 : List SOper := [⟨some 9, .q (.bin .lss (.t 8) (.t 7)), none⟩]
def c96_3 : SCode := .cond (.t 9) .skip (.exit 0)
def c96_4 : List SOper := [⟨some 10, .q (.mv (.t 8)), none⟩, ⟨some 5, .q (.mv (.t 10)), none⟩]
def c96_5 : List SOper := [⟨some 11, .q (.mv (.t 1)), none⟩, ⟨some 12, .q (.mv (.t 0)), none⟩, ⟨some 13, .q (.mv (.t 5)), none⟩, ⟨some 14, .q (.ia 2 (.t 12) (.t 13)), none⟩, ⟨some 15, .q (.ldn 2 (.t 14)), none⟩, ⟨some 16, .e (.callv (.t 11) [(.t 15)]), none⟩]
def c96_6 : List SOper := [⟨some 17, .q (.mv (.t 5)), none⟩, ⟨some 4, .q (.mv (.t 17)), none⟩]
def c96_7 : SCode := .seq (.region c96_6 [4]) .ret
def c96_8 : SCode := .cond (.t 16) c96_7 .skip
def c96_9 : SCode := .seq (.region c96_5 [0, 1, 5, 7, 8, 16]) c96_8
def c96_10 : SCode := .seq (.region c96_4 [0, 1, 5, 7, 8]) c96_9
def c96_11 : SCode := .block 1 c96_10
def c96_12 : List SOper := [⟨some 18, .q (.bin .add (.t 8) (.c (.int .i64 1))), none⟩, ⟨some 8, .q (.mv (.t 18)), none⟩]
def c96_13 : SCode := .seq c96_11 (.region c96_12 [0, 1, 7, 8])
def c96_14 : SCode := .seq c96_3 c96_13
def c96_15 : SCode := .seq (.region c96_2 [0, 1, 7, 8, 9]) c96_14
def c96_16 : SCode := .loop c96_15
def c96_17 : SCode := .block 0 c96_16
def c96_18 : SCode := .seq (.region c96_1 [0, 1, 7, 8]) c96_17
def c96_19 : List SOper := [⟨some 4, .q (.mv (.c (.int .i64 (-1)))), none⟩]
def c96_20 : SCode := .seq (.region c96_19 [4]) .ret
def c96_21 : SCode := .seq c96_18 c96_20
def c96_22 : SCode := .seq (.region c96_0 [0, 1]) c96_21
def c96 : SCode := c96_22
theorem w96 : type_of% (And.intro (uR Try.prog c96_0.eq_1) (And.intro (uR Try.prog c96_1.eq_1) (And.intro (uR Try.prog c96_2.eq_1) (And.intro (uC Try.prog c96_3.eq_1) (And.intro (uR Try.prog c96_4.eq_1) (And.intro (uR Try.prog c96_5.eq_1) (And.intro (uR Try.prog c96_6.eq_1) (And.intro (uC Try.prog c96_7.eq_1) (And.intro (uC Try.prog c96_8.eq_1) (And.intro (uC Try.prog c96_9.eq_1) (And.intro (uC Try.prog c96_10.eq_1) (And.intro (uC Try.prog c96_11.eq_1) (And.intro (uR Try.prog c96_12.eq_1) (And.intro (uC Try.prog c96_13.eq_1) (And.intro (uC Try.prog c96_14.eq_1) (And.intro (uC Try.prog c96_15.eq_1) (And.intro (uC Try.prog c96_16.eq_1) (And.intro (uC Try.prog c96_17.eq_1) (And.intro (uC Try.prog c96_18.eq_1) (And.intro (uR Try.prog c96_19.eq_1) (And.intro (uC Try.prog c96_20.eq_1) (And.intro (uC Try.prog c96_21.eq_1) (And.intro (uC Try.prog c96_22.eq_1) (uC Try.prog c96.eq_1)))))))))))))))))))))))) := (And.intro (uR Try.prog c96_0.eq_1) (And.intro (uR Try.prog c96_1.eq_1) (And.intro (uR Try.prog c96_2.eq_1) (And.intro (uC Try.prog c96_3.eq_1) (And.intro (uR Try.prog c96_4.eq_1) (And.intro (uR Try.prog c96_5.eq_1) (And.intro (uR Try.prog c96_6.eq_1) (And.intro (uC Try.prog c96_7.eq_1) (And.intro (uC Try.prog c96_8.eq_1) (And.intro (uC Try.prog c96_9.eq_1) (And.intro (uC Try.prog c96_10.eq_1) (And.intro (uC Try.prog c96_11.eq_1) (And.intro (uR Try.prog c96_12.eq_1) (And.intro (uC Try.prog c96_13.eq_1) (And.intro (uC Try.prog c96_14.eq_1) (And.intro (uC Try.prog c96_15.eq_1) (And.intro (uC Try.prog c96_16.eq_1) (And.intro (uC Try.prog c96_17.eq_1) (And.intro (uC Try.prog c96_18.eq_1) (And.intro (uR Try.prog c96_19.eq_1) (And.intro (uC Try.prog c96_20.eq_1) (And.intro (uC Try.prog c96_21.eq_1) (And.intro (uC Try.prog c96_22.eq_1) (uC Try.prog c96.eq_1))))))))))))))))))))))))
def v96 : List RV := [.t 4]
theorem s96 : slimF Try.prog Try.f96 = some (c96.bare, v96) := by kernel_rfl
/-! 72 loop.example/g00066/impl.between: parameters 2, live [0, 1], slots [0:keys, 1:t, 2:keys, 3:t, 7:n, 8:a, 9:b, 10:way, 11:by, 12:q] -/
def c72_0 : List SOper := [⟨some 3, .a (.box (.t 1)), none⟩, ⟨some 4, .q (.mv (.c (.int .i64 0))), none⟩, ⟨some 5, .q (.mv (.c (.int .i64 0))), none⟩, ⟨some 6, .q (.mv (.c (.int .i64 0))), none⟩]
def c72_1 : List SOper := [⟨some 13, .q (.mv (.t 0)), none⟩, ⟨some 14, .q (.mkf 97 [(.t 3)]), none⟩, ⟨some 15, .e (.call 96 [(.t 13), (.t 14)]), none⟩, ⟨some 7, .q (.mv (.t 15)), none⟩]
def c72_2 : List SOper := [⟨some 17, .q (.mv (.t 7)), none⟩, ⟨some 18, .q (.bin .lss (.t 17) (.c (.int .i64 0))), none⟩, ⟨some 16, .q (.mv (.t 18)), none⟩]
def c72_3 : List SOper := [⟨some 19, .q (.mv (.t 0)), none⟩, ⟨some 20, .q (.mv (.t 0)), none⟩, ⟨some 21, .q (.len (.t 20)), none⟩, ⟨some 22, .q (.bin .sub (.t 21) (.c (.int .i64 1))), none⟩, ⟨some 23, .q (.ia 2 (.t 19) (.t 22)), none⟩, ⟨some 24, .q (.fa 1 (.t 23)), none⟩, ⟨some 25, .q (.ld (.t 24)), none⟩, ⟨some 4, .q (.mv (.t 25)), none⟩, ⟨some 5, .q (.mv (.c (.int .i64 0))), none⟩, ⟨some 6, .q (.mv (.c (.int .i64 0))), none⟩]
def c72_4 : SCode := .seq (.region c72_3 [4, 5, 6]) .ret
def c72_5 : List SOper := [⟨some 27, .q (.mv (.t 7)), none⟩, ⟨some 28, .q (.bin .eql (.t 27) (.c (.int .i64 0))), none⟩, ⟨some 29, .q (.mv (.t 28)), none⟩, ⟨some 30, .q (.mv (.t 0)), some (29, false)⟩, ⟨some 31, .q (.mv (.t 7)), some (29, false)⟩, ⟨some 32, .q (.ia 2 (.t 30) (.t 31)), some (29, false)⟩, ⟨some 33, .q (.fa 0 (.t 32)), some (29, false)⟩, ⟨some 34, .q (.ld (.t 33)), some (29, false)⟩, ⟨some 35, .q (.ld (.t 3)), some (29, false)⟩, ⟨some 36, .q (.bin .eql (.t 34) (.t 35)), some (29, false)⟩, ⟨some 37, .q (.pick (.t 29) (.c (.bool true)) (.t 36)), none⟩, ⟨some 26, .q (.mv (.t 37)), none⟩]
def c72_6 : List SOper := [⟨some 38, .q (.mv (.t 0)), none⟩, ⟨some 39, .q (.mv (.t 7)), none⟩, ⟨some 40, .q (.ia 2 (.t 38) (.t 39)), none⟩, ⟨some 41, .q (.fa 1 (.t 40)), none⟩, ⟨some 42, .q (.ld (.t 41)), none⟩, ⟨some 4, .q (.mv (.t 42)), none⟩, ⟨some 5, .q (.mv (.c (.int .i64 0))), none⟩, ⟨some 6, .q (.mv (.c (.int .i64 0))), none⟩]
def c72_7 : SCode := .seq (.region c72_6 [4, 5, 6]) .ret
def c72_8 : SCode := .cond (.t 26) c72_7 .skip
def c72_9 : SCode := .seq (.region c72_5 [0, 3, 7, 26]) c72_8
def c72_10 : SCode := .cond (.t 16) c72_4 c72_9
def c72_11 : SCode := .seq (.region c72_2 [0, 3, 7, 16]) c72_10
def c72_12 : SCode := .block 0 c72_11
def c72_13 : List DOper := [⟨0, ⟨some 43, .q (.mv (.t 0)), none⟩, [], []⟩, ⟨1, ⟨some 44, .q (.mv (.t 7)), none⟩, [], []⟩, ⟨2, ⟨some 45, .q (.bin .sub (.t 44) (.c (.int .i64 1))), none⟩, [], []⟩, ⟨3, ⟨some 46, .q (.ia 2 (.t 43) (.t 45)), none⟩, [], []⟩, ⟨4, ⟨some 47, .q (.ldn 2 (.t 46)), none⟩, [], []⟩, ⟨5, ⟨some 48, .q (.mv (.t 0)), none⟩, [], []⟩, ⟨6, ⟨some 49, .q (.mv (.t 7)), none⟩, [], []⟩, ⟨7, ⟨some 50, .q (.ia 2 (.t 48) (.t 49)), none⟩, [], []⟩, ⟨8, ⟨some 51, .q (.ldn 2 (.t 50)), none⟩, [], []⟩, ⟨9, ⟨some 8, .a (.new [(.int .i64 0), (.int .i64 0)]), none⟩, [], []⟩, ⟨10, ⟨some 9, .a (.new [(.int .i64 0), (.int .i64 0)]), none⟩, [], []⟩, ⟨11, ⟨none, .e (.st 2 (.t 8) (.t 47)), none⟩, [], [8]⟩, ⟨12, ⟨none, .e (.st 2 (.t 9) (.t 51)), none⟩, [], []⟩]
def c72_14 : List SOper := [⟨some 52, .q (.ld (.t 3)), none⟩, ⟨some 53, .q (.fa 0 (.t 8)), none⟩, ⟨some 54, .q (.ld (.t 53)), none⟩, ⟨some 55, .q (.bin .sub (.t 52) (.t 54)), none⟩, ⟨some 56, .q (.fa 1 (.t 9)), none⟩, ⟨some 57, .q (.ld (.t 56)), none⟩, ⟨some 58, .q (.fa 1 (.t 8)), none⟩, ⟨some 59, .q (.ld (.t 58)), none⟩, ⟨some 60, .q (.bin .sub (.t 57) (.t 59)), none⟩, ⟨some 61, .q (.bin .mul (.t 55) (.t 60)), none⟩, ⟨some 62, .q (.fa 0 (.t 9)), none⟩, ⟨some 63, .q (.ld (.t 62)), none⟩, ⟨some 64, .q (.fa 0 (.t 8)), none⟩, ⟨some 65, .q (.ld (.t 64)), none⟩, ⟨some 66, .q (.bin .sub (.t 63) (.t 65)), none⟩, ⟨some 10, .q (.mv (.t 61)), none⟩, ⟨some 11, .q (.mv (.t 66)), none⟩]
def c72_15 : List SOper := [⟨some 67, .q (.mv (.t 10)), none⟩, ⟨some 68, .q (.mv (.t 11)), none⟩, ⟨some 69, .e (.call 98 [(.t 67), (.t 68)]), none⟩, ⟨some 12, .q (.mv (.t 69)), none⟩]
def c72_16 : List SOper := [⟨some 70, .q (.fa 1 (.t 8)), none⟩, ⟨some 71, .q (.ld (.t 70)), none⟩, ⟨some 72, .q (.mv (.t 12)), none⟩, ⟨some 73, .q (.bin .add (.t 71) (.t 72)), none⟩, ⟨some 74, .q (.mv (.t 10)), none⟩, ⟨some 75, .q (.mv (.t 12)), none⟩, ⟨some 76, .q (.mv (.t 11)), none⟩, ⟨some 77, .q (.bin .mul (.t 75) (.t 76)), none⟩, ⟨some 78, .q (.bin .sub (.t 74) (.t 77)), none⟩, ⟨some 79, .q (.mv (.t 11)), none⟩, ⟨some 4, .q (.mv (.t 73)), none⟩, ⟨some 5, .q (.mv (.t 78)), none⟩, ⟨some 6, .q (.mv (.t 79)), none⟩]
def c72_17 : SCode := .seq (.region c72_16 [4, 5, 6]) .ret
def c72_18 : SCode := .seq (.region c72_15 [8, 10, 11, 12]) c72_17
def c72_19 : SCode := .seq (.region c72_14 [8, 10, 11]) c72_18
def c72_20 : SCode := .seq (.dregion c72_13 [3, 8, 9]) c72_19
def c72_21 : SCode := .seq c72_12 c72_20
def c72_22 : SCode := .seq (.region c72_1 [0, 3, 7]) c72_21
def c72_23 : SCode := .seq (.region c72_0 [0, 3]) c72_22
def c72 : SCode := c72_23
theorem w72 : type_of% (And.intro (uR Try.prog c72_0.eq_1) (And.intro (uR Try.prog c72_1.eq_1) (And.intro (uR Try.prog c72_2.eq_1) (And.intro (uR Try.prog c72_3.eq_1) (And.intro (uC Try.prog c72_4.eq_1) (And.intro (uR Try.prog c72_5.eq_1) (And.intro (uR Try.prog c72_6.eq_1) (And.intro (uC Try.prog c72_7.eq_1) (And.intro (uC Try.prog c72_8.eq_1) (And.intro (uC Try.prog c72_9.eq_1) (And.intro (uC Try.prog c72_10.eq_1) (And.intro (uC Try.prog c72_11.eq_1) (And.intro (uC Try.prog c72_12.eq_1) (And.intro (uD Try.prog c72_13.eq_1) (And.intro (uR Try.prog c72_14.eq_1) (And.intro (uR Try.prog c72_15.eq_1) (And.intro (uR Try.prog c72_16.eq_1) (And.intro (uC Try.prog c72_17.eq_1) (And.intro (uC Try.prog c72_18.eq_1) (And.intro (uC Try.prog c72_19.eq_1) (And.intro (uC Try.prog c72_20.eq_1) (And.intro (uC Try.prog c72_21.eq_1) (And.intro (uC Try.prog c72_22.eq_1) (And.intro (uC Try.prog c72_23.eq_1) (uC Try.prog c72.eq_1))))))))))))))))))))))))) := (And.intro (uR Try.prog c72_0.eq_1) (And.intro (uR Try.prog c72_1.eq_1) (And.intro (uR Try.prog c72_2.eq_1) (And.intro (uR Try.prog c72_3.eq_1) (And.intro (uC Try.prog c72_4.eq_1) (And.intro (uR Try.prog c72_5.eq_1) (And.intro (uR Try.prog c72_6.eq_1) (And.intro (uC Try.prog c72_7.eq_1) (And.intro (uC Try.prog c72_8.eq_1) (And.intro (uC Try.prog c72_9.eq_1) (And.intro (uC Try.prog c72_10.eq_1) (And.intro (uC Try.prog c72_11.eq_1) (And.intro (uC Try.prog c72_12.eq_1) (And.intro (uD Try.prog c72_13.eq_1) (And.intro (uR Try.prog c72_14.eq_1) (And.intro (uR Try.prog c72_15.eq_1) (And.intro (uR Try.prog c72_16.eq_1) (And.intro (uC Try.prog c72_17.eq_1) (And.intro (uC Try.prog c72_18.eq_1) (And.intro (uC Try.prog c72_19.eq_1) (And.intro (uC Try.prog c72_20.eq_1) (And.intro (uC Try.prog c72_21.eq_1) (And.intro (uC Try.prog c72_22.eq_1) (And.intro (uC Try.prog c72_23.eq_1) (uC Try.prog c72.eq_1)))))))))))))))))))))))))
def v72 : List RV := [.t 4, .t 5, .t 6]
theorem s72 : slimF Try.prog Try.f72 = some (c72.bare, v72) := by kernel_rfl
/-! 25 loop.example/g00066/impl.Retime: parameters 3, live [0, 1, 2], slots [0:keys, 1:src, 2:n, 3:keys, 4:src, 5:n, 8:out, 9:t, 10:frame, 11:_, 12:_, 13:c] -/
def c25_0 : List SOper := [⟨some 6, .q (.mv (.c (.slice none 0 0))), none⟩, ⟨some 7, .q (.mv (.c (.bool false))), none⟩]
def c25_1 : List SOper := [⟨some 14, .q (.mv (.t 0)), none⟩, ⟨some 15, .e (.call 71 [(.t 14)]), none⟩, ⟨some 16, .q (.not (.t 15)), none⟩, ⟨some 17, .q (.mv (.t 16)), none⟩, ⟨some 18, .q (.mv (.t 1)), some (17, false)⟩, ⟨some 19, .e (.call 51 [(.t 18), (.c (.int .i64 1)), (.c (.int .i64 500))]), some (17, false)⟩, ⟨some 20, .q (.not (.t 19)), some (17, false)⟩, ⟨some 21, .q (.pick (.t 17) (.c (.bool true)) (.t 20)), none⟩, ⟨some 22, .q (.mv (.t 21)), none⟩, ⟨some 23, .q (.mv (.t 2)), some (22, false)⟩, ⟨some 24, .e (.call 51 [(.t 23), (.c (.int .i64 1)), (.c (.int .i64 2000))]), some (22, false)⟩, ⟨some 25, .q (.not (.t 24)), some (22, false)⟩, ⟨some 26, .q (.pick (.t 22) (.c (.bool true)) (.t 25)), none⟩]
def c25_2 : List SOper := [⟨some 6, .q (.mv (.c (.slice none 0 0))), none⟩, ⟨some 7, .q (.mv (.c (.bool false))), none⟩]
def c25_3 : SCode := .seq (.region c25_2 [6, 7]) .ret
def c25_4 : SCode := .cond (.t 26) c25_3 .skip
def c25_5 : SCode := .seq (.region c25_1 [0, 1, 2, 26]) c25_4
def c25_6 : List SOper := [⟨some 27, .a (.bsl 0 3 [] []), none⟩, ⟨some 8, .q (.mv (.t 27)), none⟩]
def c25_7 : List SOper := [⟨some 28, .q (.mv (.t 2)), none⟩, ⟨some 29, .q (.mv (.c (.int .i64 0))), none⟩]
def c25_8 : List SOper := [⟨some 30, .q (.bin .lss (.t 29) (.t 28)), none⟩]
def c25_9 : SCode := .cond (.t 30) .skip (.exit 0)
def c25_10 : List SOper := [⟨some 31, .q (.mv (.t 29)), none⟩, ⟨some 9, .q (.mv (.t 31)), none⟩]
def c25_11 : List SOper := [⟨some 33, .q (.mv (.t 0)), none⟩, ⟨some 34, .q (.mv (.t 9)), none⟩, ⟨some 35, .e (.call 72 [(.t 33), (.t 34)]), none⟩, ⟨some 32, .q (.mv (.t 35)), none⟩, ⟨some 36, .q (.ext (.t 32) 0), none⟩, ⟨some 37, .q (.ext (.t 32) 1), none⟩, ⟨some 38, .q (.ext (.t 32) 2), none⟩, ⟨some 10, .q (.mv (.t 36)), none⟩, ⟨some 11, .q (.mv (.t 37)), none⟩, ⟨some 12, .q (.mv (.t 38)), none⟩]
def c25_12 : List SOper := [⟨some 39, .q (.mv (.t 1)), none⟩, ⟨some 40, .q (.mv (.t 10)), none⟩, ⟨some 41, .q (.build [(.int .i64 0), (.int .i64 0), (.int .i64 0)] [(0, 1, (.t 39)), (1, 1, (.t 40)), (2, 1, (.c (.int .i64 1)))]), none⟩, ⟨some 13, .a (.new [(.int .i64 0), (.int .i64 0), (.int .i64 0)]), none⟩, ⟨none, .e (.st 3 (.t 13) (.t 41)), none⟩]
def c25_13 : List SOper := [⟨some 42, .q (.ldn 3 (.t 13)), none⟩, ⟨some 43, .e (.call 53 [(.t 42)]), none⟩, ⟨some 44, .q (.not (.t 43)), none⟩]
def c25_14 : List SOper := [⟨some 6, .q (.mv (.c (.slice none 0 0))), none⟩, ⟨some 7, .q (.mv (.c (.bool false))), none⟩]
def c25_15 : SCode := .seq (.region c25_14 [6, 7]) .ret
def c25_16 : SCode := .cond (.t 44) c25_15 .skip
def c25_17 : SCode := .seq (.region c25_13 [0, 1, 8, 13, 28, 29, 44]) c25_16
def c25_18 : List SOper := [⟨some 45, .q (.mv (.t 8)), none⟩, ⟨some 46, .q (.ldn 3 (.t 13)), none⟩, ⟨some 47, .a (.bsl 1 3 [(.int .i64 0), (.int .i64 0), (.int .i64 0)] [(0, 3, (.t 46))]), none⟩, ⟨some 48, .e (.app 24 3 (.t 45) (.t 47)), none⟩, ⟨some 8, .q (.mv (.t 48)), none⟩]
def c25_19 : SCode := .seq c25_17 (.region c25_18 [0, 1, 8, 28, 29])
def c25_20 : SCode := .seq (.region c25_12 [0, 1, 8, 13, 28, 29]) c25_19
def c25_21 : SCode := .seq (.region c25_11 [0, 1, 8, 10, 28, 29]) c25_20
def c25_22 : SCode := .seq (.region c25_10 [0, 1, 8, 9, 28, 29]) c25_21
def c25_23 : SCode := .block 1 c25_22
def c25_24 : List SOper := [⟨some 49, .q (.bin .add (.t 29) (.c (.int .i64 1))), none⟩, ⟨some 29, .q (.mv (.t 49)), none⟩]
def c25_25 : SCode := .seq c25_23 (.region c25_24 [0, 1, 8, 28, 29])
def c25_26 : SCode := .seq c25_9 c25_25
def c25_27 : SCode := .seq (.region c25_8 [0, 1, 8, 28, 29, 30]) c25_26
def c25_28 : SCode := .loop c25_27
def c25_29 : SCode := .block 0 c25_28
def c25_30 : SCode := .seq (.region c25_7 [0, 1, 8, 28, 29]) c25_29
def c25_31 : List SOper := [⟨some 50, .q (.mv (.t 8)), none⟩, ⟨some 51, .a (.bsl 1 1 [(.slice none 0 0)] [(0, 1, (.t 50))]), none⟩, ⟨some 52, .e (.call 54 [(.t 51)]), none⟩, ⟨some 53, .q (.ext (.t 52) 0), none⟩, ⟨some 54, .q (.ext (.t 52) 1), none⟩, ⟨some 6, .q (.mv (.t 53)), none⟩, ⟨some 7, .q (.mv (.t 54)), none⟩]
def c25_32 : SCode := .seq (.region c25_31 [6, 7]) .ret
def c25_33 : SCode := .seq c25_30 c25_32
def c25_34 : SCode := .seq (.region c25_6 [0, 1, 2, 8]) c25_33
def c25_35 : SCode := .seq c25_5 c25_34
def c25_36 : SCode := .seq (.region c25_0 [0, 1, 2]) c25_35
def c25 : SCode := c25_36
theorem w25 : type_of% (And.intro (uR Try.prog c25_0.eq_1) (And.intro (uR Try.prog c25_1.eq_1) (And.intro (uR Try.prog c25_2.eq_1) (And.intro (uC Try.prog c25_3.eq_1) (And.intro (uC Try.prog c25_4.eq_1) (And.intro (uC Try.prog c25_5.eq_1) (And.intro (uR Try.prog c25_6.eq_1) (And.intro (uR Try.prog c25_7.eq_1) (And.intro (uR Try.prog c25_8.eq_1) (And.intro (uC Try.prog c25_9.eq_1) (And.intro (uR Try.prog c25_10.eq_1) (And.intro (uR Try.prog c25_11.eq_1) (And.intro (uR Try.prog c25_12.eq_1) (And.intro (uR Try.prog c25_13.eq_1) (And.intro (uR Try.prog c25_14.eq_1) (And.intro (uC Try.prog c25_15.eq_1) (And.intro (uC Try.prog c25_16.eq_1) (And.intro (uC Try.prog c25_17.eq_1) (And.intro (uR Try.prog c25_18.eq_1) (And.intro (uC Try.prog c25_19.eq_1) (And.intro (uC Try.prog c25_20.eq_1) (And.intro (uC Try.prog c25_21.eq_1) (And.intro (uC Try.prog c25_22.eq_1) (And.intro (uC Try.prog c25_23.eq_1) (And.intro (uR Try.prog c25_24.eq_1) (And.intro (uC Try.prog c25_25.eq_1) (And.intro (uC Try.prog c25_26.eq_1) (And.intro (uC Try.prog c25_27.eq_1) (And.intro (uC Try.prog c25_28.eq_1) (And.intro (uC Try.prog c25_29.eq_1) (And.intro (uC Try.prog c25_30.eq_1) (And.intro (uR Try.prog c25_31.eq_1) (And.intro (uC Try.prog c25_32.eq_1) (And.intro (uC Try.prog c25_33.eq_1) (And.intro (uC Try.prog c25_34.eq_1) (And.intro (uC Try.prog c25_35.eq_1) (And.intro (uC Try.prog c25_36.eq_1) (uC Try.prog c25.eq_1)))))))))))))))))))))))))))))))))))))) := (And.intro (uR Try.prog c25_0.eq_1) (And.intro (uR Try.prog c25_1.eq_1) (And.intro (uR Try.prog c25_2.eq_1) (And.intro (uC Try.prog c25_3.eq_1) (And.intro (uC Try.prog c25_4.eq_1) (And.intro (uC Try.prog c25_5.eq_1) (And.intro (uR Try.prog c25_6.eq_1) (And.intro (uR Try.prog c25_7.eq_1) (And.intro (uR Try.prog c25_8.eq_1) (And.intro (uC Try.prog c25_9.eq_1) (And.intro (uR Try.prog c25_10.eq_1) (And.intro (uR Try.prog c25_11.eq_1) (And.intro (uR Try.prog c25_12.eq_1) (And.intro (uR Try.prog c25_13.eq_1) (And.intro (uR Try.prog c25_14.eq_1) (And.intro (uC Try.prog c25_15.eq_1) (And.intro (uC Try.prog c25_16.eq_1) (And.intro (uC Try.prog c25_17.eq_1) (And.intro (uR Try.prog c25_18.eq_1) (And.intro (uC Try.prog c25_19.eq_1) (And.intro (uC Try.prog c25_20.eq_1) (And.intro (uC Try.prog c25_21.eq_1) (And.intro (uC Try.prog c25_22.eq_1) (And.intro (uC Try.prog c25_23.eq_1) (And.intro (uR Try.prog c25_24.eq_1) (And.intro (uC Try.prog c25_25.eq_1) (And.intro (uC Try.prog c25_26.eq_1) (And.intro (uC Try.prog c25_27.eq_1) (And.intro (uC Try.prog c25_28.eq_1) (And.intro (uC Try.prog c25_29.eq_1) (And.intro (uC Try.prog c25_30.eq_1) (And.intro (uR Try.prog c25_31.eq_1) (And.intro (uC Try.prog c25_32.eq_1) (And.intro (uC Try.prog c25_33.eq_1) (And.intro (uC Try.prog c25_34.eq_1) (And.intro (uC Try.prog c25_35.eq_1) (And.intro (uC Try.prog c25_36.eq_1) (uC Try.prog c25.eq_1))))))))))))))))))))))))))))))))))))))
def v25 : List RV := [.t 6, .t 7]
theorem s25 : slimF Try.prog Try.f25 = some (c25.bare, v25) := by kernel_rfl

theorem isFrame_ok (h : Heap) (x : Int) : ACall Try.prog 75 [.int .i64 x] h fun r h' => h' = h ∧ r = .bool (decide (0 ≤ x ∧ x ≤ 10000000)) := by
  refine ACall.of Try.func75 s75 (of_decide_eq_true rfl) ?_
  simp (maxSteps := 4000000) (disch := omega) only [ah, am, Nat.reduceEqDiff, reduceCtorEq, Nat.reduceAdd, Nat.reduceLeDiff, Nat.reduceMul, Nat.reduceLT, if_true, if_false, true_and, and_true, and_self, Nat.reduceBEq, QOp.loads, boxO, bslO, buildO, cutL, fillV, putL, w75, v75]
  (repeat' first
    | (refine stepC.of (in_ok _ _ _ _) ?_; rintro _ _ ⟨rfl, rfl⟩; simp (maxSteps := 4000000) (disch := omega) only [ah, am, Nat.reduceEqDiff, reduceCtorEq, Nat.reduceAdd, Nat.reduceLeDiff, Nat.reduceMul, Nat.reduceLT, if_true, if_false, true_and, and_true, and_self, Nat.reduceBEq, QOp.loads, boxO, bslO, buildO, cutL, fillV, putL, i64w, w75, v75])
    | (refine stepG.cases (fun _ hp => ?_) (fun _ hp => ?_) <;> simp (maxSteps := 4000000) (disch := omega) only [hp, ah, am, Nat.reduceEqDiff, reduceCtorEq, Nat.reduceAdd, Nat.reduceLeDiff, Nat.reduceMul, Nat.reduceLT, if_true, if_false, true_and, and_true, and_self, Nat.reduceBEq, QOp.loads, boxO, bslO, buildO, cutL, fillV, putL, i64w, w75, v75])
    | (refine stepI.cases (fun _ hp => ?_) (fun _ hp => ?_) <;> simp (maxSteps := 4000000) (disch := omega) only [hp, ah, am, Nat.reduceEqDiff, reduceCtorEq, Nat.reduceAdd, Nat.reduceLeDiff, Nat.reduceMul, Nat.reduceLT, if_true, if_false, true_and, and_true, and_self, Nat.reduceBEq, QOp.loads, boxO, bslO, buildO, cutL, fillV, putL, i64w, w75, v75]))
theorem down_ok (h : Heap) (a b : Int) (hb : 0 < b) (ha : -1000000000000000 ≤ a ∧ a ≤ 1000000000000000) : ACall Try.prog 98 [.int .i64 a, .int .i64 b] h fun r h' => h' = h ∧ r = .int .i64 (a / b) := by
  refine ACall.of Try.func98 s98 (of_decide_eq_true rfl) ?_
  have hb' : b ≠ 0 := by omega
  have D := down_eq a b hb
  have B := div_bound (x := a) (d := b) (M := 1000000000000000) (by omega) ha.1 ha.2
  by_cases hc : a.tmod b < 0
  · have hc' : decide (a.tmod b < 0) = true := decide_eq_true hc
    rw [if_pos hc] at D
    simp (maxSteps := 4000000) (disch := omega) only [ah, am, Nat.reduceEqDiff, reduceCtorEq, Nat.reduceAdd, Nat.reduceLeDiff, Nat.reduceMul, Nat.reduceLT, if_true, if_false, true_and, and_true, and_self, Nat.reduceBEq, QOp.loads, boxO, bslO, buildO, cutL, fillV, putL, w98, v98, hb', ne_eq, i64w, hc']
    rw [D]
  · have hc' : decide (a.tmod b < 0) = false := decide_eq_false hc
    rw [if_neg hc] at D
    simp (maxSteps := 4000000) (disch := omega) only [ah, am, Nat.reduceEqDiff, reduceCtorEq, Nat.reduceAdd, Nat.reduceLeDiff, Nat.reduceMul, Nat.reduceLT, if_true, if_false, true_and, and_true, and_self, Nat.reduceBEq, QOp.loads, boxO, bslO, buildO, cutL, fillV, putL, w98, v98, hb', ne_eq, i64w, hc']
    rw [D]
theorem KeysOk_ok (h : Heap) (v : Value) (l : List Key) (s : SlT h encKey 2 v l) (hl : l.length ≤ 281474976710656) : ACall Try.prog 71 [v] h fun r h' => Ext h h' ∧ r = .bool (decide (keysOk l)) := by
  refine ACall.of Try.func71 s71 (of_decide_eq_true rfl) ?_
  have R := s.rulesN
  simp (maxSteps := 4000000) (disch := omega) only [ah, am, Nat.reduceEqDiff, reduceCtorEq, Nat.reduceAdd, Nat.reduceLeDiff, Nat.reduceMul, Nat.reduceLT, if_true, if_false, true_and, and_true, and_self, Nat.reduceBEq, QOp.loads, boxO, bslO, buildO, cutL, fillV, putL, w71, v71, R]
  refine stepC.of (in_ok _ _ _ _) ?_
  rintro _ Hx ⟨hx, rfl⟩; rw [hx]; clear hx Hx
  by_cases h1 : 1 ≤ (l.length : Int) ∧ (l.length : Int) ≤ 100
  rotate_left
  · have h1' : decide (1 ≤ (l.length : Int) ∧ (l.length : Int) ≤ 100) = false := decide_eq_false h1
    simp (maxSteps := 4000000) (disch := omega) only [ah, am, Nat.reduceEqDiff, reduceCtorEq, Nat.reduceAdd, Nat.reduceLeDiff, Nat.reduceMul, Nat.reduceLT, if_true, if_false, true_and, and_true, and_self, Nat.reduceBEq, QOp.loads, boxO, bslO, buildO, cutL, fillV, putL, w71, v71, R, h1']
    rw [show decide (keysOk l) = false from decide_eq_false fun q => by have := q.1; have := q.2.1; omega]
    exact ⟨Ext.refl h, rfl⟩
  have h1' : decide (1 ≤ (l.length : Int) ∧ (l.length : Int) ≤ 100) = true := decide_eq_true h1
  simp (maxSteps := 4000000) (disch := omega) only [ah, am, Nat.reduceEqDiff, reduceCtorEq, Nat.reduceAdd, Nat.reduceLeDiff, Nat.reduceMul, Nat.reduceLT, if_true, if_false, true_and, and_true, and_self, Nat.reduceBEq, QOp.loads, boxO, bslO, buildO, cutL, fillV, putL, w71, v71, R, h1']
  refine SW_loop_up (fun i E H => E = [(0, v), (9, v), (10, .int .i64 l.length), (11, .int .i64 i)] ∧ Ext h H ∧ ∀ j, j < i → keyOkAt l j) l.length 0 (by omega) ⟨rfl, Ext.refl h, fun j hj => absurd hj (by omega)⟩ ?_
  rintro i E H hi ⟨rfl, e, F⟩
  have W : IntKind.i64.wrap ((i : Int) + 1) = ((i + 1 : Nat) : Int) := i64e (by omega) (by omega)
  have R := (s.ext e).rulesN
  simp (maxSteps := 4000000) (disch := omega) only [ah, am, Nat.reduceEqDiff, reduceCtorEq, Nat.reduceAdd, Nat.reduceLeDiff, Nat.reduceMul, Nat.reduceLT, if_true, if_false, true_and, and_true, and_self, Nat.reduceBEq, QOp.loads, boxO, bslO, buildO, cutL, fillV, putL, w71, v71, R]
  refine stepI.split (fun hp => ?_) (fun hp => ?_)
  · have hi' : i < l.length := by omega
    have G : ∀ hx : i < l.length, l[i]'hx = kAt l i := fun hx => kAt_eq l i hx
    have G1 : ∀ hx : i - 1 < l.length, l[i - 1]'hx = kAt l (i - 1) := fun hx => kAt_eq l (i - 1) hx
    have no : ¬ keyOkAt l i → decide (keysOk l) = false := fun q => decide_eq_false fun k => q (k.2.2 i hi')
    have yes : keyOkAt l i → ∀ j, j < i + 1 → keyOkAt l j := by
      intro q j hj
      by_cases hji : j = i
      · subst hji; exact q
      · exact F j (by omega)
    have e2 := e.trans (Ext.more H [encKey (kAt l i)])
    have R2 := (s.ext e2).rulesN
    simp only [encKey] at R2
    simp (maxSteps := 4000000) (disch := omega) only [ah, am, Nat.reduceEqDiff, reduceCtorEq, Nat.reduceAdd, Nat.reduceLeDiff, Nat.reduceMul, Nat.reduceLT, if_true, if_false, true_and, and_true, and_self, Nat.reduceBEq, QOp.loads, boxO, bslO, buildO, cutL, fillV, putL, w71, v71, R, G, encKey]
    refine stepC.of (isFrame_ok _ _) ?_
    rintro _ Hx ⟨hx, rfl⟩; rw [hx]; clear hx Hx
    by_cases k1 : 0 ≤ (kAt l i).pos ∧ (kAt l i).pos ≤ 10000000
    · have k1' : decide (0 ≤ (kAt l i).pos ∧ (kAt l i).pos ≤ 10000000) = true := decide_eq_true k1
      simp (maxSteps := 4000000) (disch := omega) only [ah, am, Nat.reduceEqDiff, reduceCtorEq, Nat.reduceAdd, Nat.reduceLeDiff, Nat.reduceMul, Nat.reduceLT, if_true, if_false, true_and, and_true, and_self, Nat.reduceBEq, QOp.loads, boxO, bslO, buildO, cutL, fillV, putL, w71, v71, R, G, encKey, k1']
      refine stepC.of (isFrame_ok _ _) ?_
      rintro _ Hx ⟨hx, rfl⟩; rw [hx]; clear hx Hx
      by_cases k2 : 0 ≤ (kAt l i).to ∧ (kAt l i).to ≤ 10000000
      · have k2' : decide (0 ≤ (kAt l i).to ∧ (kAt l i).to ≤ 10000000) = true := decide_eq_true k2
        by_cases h0 : i = 0
        · have h0' : decide (0 < (i : Int)) = false := decide_eq_false (by omega)
          simp (maxSteps := 4000000) (disch := omega) only [ah, am, Nat.reduceEqDiff, reduceCtorEq, Nat.reduceAdd, Nat.reduceLeDiff, Nat.reduceMul, Nat.reduceLT, if_true, if_false, true_and, and_true, and_self, Nat.reduceBEq, QOp.loads, boxO, bslO, buildO, cutL, fillV, putL, w71, v71, R, G, encKey, k1', k2', h0', W]
          exact ⟨hi', e2, yes ⟨k1, k2, .inl h0⟩⟩
        · have h0' : decide (0 < (i : Int)) = true := decide_eq_true (by omega)
          have W3 : IntKind.i64.wrap ((i : Int) - 1) = ((i - 1 : Nat) : Int) := i64e (by omega) (by omega)
          simp (maxSteps := 4000000) (disch := omega) only [ah, am, Nat.reduceEqDiff, reduceCtorEq, Nat.reduceAdd, Nat.reduceLeDiff, Nat.reduceMul, Nat.reduceLT, if_true, if_false, true_and, and_true, and_self, Nat.reduceBEq, QOp.loads, boxO, bslO, buildO, cutL, fillV, putL, w71, v71, R, R2, G, G1, encKey, k1', k2', h0', W3, W]
          refine stepI.split (fun hq => ?_) (fun hq => ?_)
          · simp (maxSteps := 4000000) (disch := omega) only [ah, am, Nat.reduceEqDiff, reduceCtorEq, Nat.reduceAdd, Nat.reduceLeDiff, Nat.reduceMul, Nat.reduceLT, if_true, if_false, true_and, and_true, and_self, Nat.reduceBEq, QOp.loads, boxO, bslO, buildO, cutL, fillV, putL, w71, v71]
            rw [no fun q => by have := q.2.2; omega]
            exact ⟨e2, rfl⟩
          · simp (maxSteps := 4000000) (disch := omega) only [ah, am, Nat.reduceEqDiff, reduceCtorEq, Nat.reduceAdd, Nat.reduceLeDiff, Nat.reduceMul, Nat.reduceLT, if_true, if_false, true_and, and_true, and_self, Nat.reduceBEq, QOp.loads, boxO, bslO, buildO, cutL, fillV, putL, w71, v71, W]
            exact ⟨hi', e2, yes ⟨k1, k2, .inr (by omega)⟩⟩
      · have k2' : decide (0 ≤ (kAt l i).to ∧ (kAt l i).to ≤ 10000000) = false := decide_eq_false k2
        simp (maxSteps := 4000000) (disch := omega) only [ah, am, Nat.reduceEqDiff, reduceCtorEq, Nat.reduceAdd, Nat.reduceLeDiff, Nat.reduceMul, Nat.reduceLT, if_true, if_false, true_and, and_true, and_self, Nat.reduceBEq, QOp.loads, boxO, bslO, buildO, cutL, fillV, putL, w71, v71, R, G, encKey, k1', k2']
        rw [no fun q => k2 q.2.1]
        exact ⟨e2, rfl⟩
    · have k1' : decide (0 ≤ (kAt l i).pos ∧ (kAt l i).pos ≤ 10000000) = false := decide_eq_false k1
      simp (maxSteps := 4000000) (disch := omega) only [ah, am, Nat.reduceEqDiff, reduceCtorEq, Nat.reduceAdd, Nat.reduceLeDiff, Nat.reduceMul, Nat.reduceLT, if_true, if_false, true_and, and_true, and_self, Nat.reduceBEq, QOp.loads, boxO, bslO, buildO, cutL, fillV, putL, w71, v71, R, G, encKey, k1']
      rw [no fun q => k1 q.1]
      exact ⟨e2, rfl⟩
  · simp (maxSteps := 4000000) (disch := omega) only [ah, am, Nat.reduceEqDiff, reduceCtorEq, Nat.reduceAdd, Nat.reduceLeDiff, Nat.reduceMul, Nat.reduceLT, if_true, if_false, true_and, and_true, and_self, Nat.reduceBEq, QOp.loads, boxO, bslO, buildO, cutL, fillV, putL, w71, v71, R, W]
    obtain rfl : i = l.length := by omega
    rw [decide_eq_true ⟨by omega, by omega, F⟩]
    exact ⟨e, rfl⟩
theorem IndexFuncK_ok (h : Heap) (v : Value) (l : List Key) (n : Nat) (cap : Array Value) (p : Key → Bool) (s : SlT h encKey 2 v l) (hl : l.length ≤ 1100000)
    (hf : ∃ fn, Try.prog.funcs[n]? = some fn ∧ fn.body.isSome = true ∧ fn.name ≠ "runtime.NumGoroutine")
    (H : ∀ h' k, Ext h h' → k ∈ l → ACall Try.prog n ([.agg (encKey k).toArray] ++ cap.toList) h' fun r h2 => Ext h' h2 ∧ r = .bool (p k)) :
    ACall Try.prog 96 [v, .func (.func n) #[] cap] h fun r h' => Ext h h' ∧ r = .int .i64 (match l.findIdx? p with | some j => (j : Int) | none => -1) := by
  obtain ⟨fn, hf1, hf2, hf3⟩ := hf
  refine ACall.of Try.func96 s96 (of_decide_eq_true rfl) ?_
  have R := s.rulesN
  simp (maxSteps := 4000000) (disch := omega) only [ah, am, Nat.reduceEqDiff, reduceCtorEq, Nat.reduceAdd, Nat.reduceLeDiff, Nat.reduceMul, Nat.reduceLT, if_true, if_false, true_and, and_true, and_self, Nat.reduceBEq, QOp.loads, boxO, bslO, buildO, cutL, fillV, putL, w96, v96, R]
  refine SW_loop_up (fun i E H => E = [(0, v), (1, .func (.func n) #[] cap), (7, .int .i64 l.length), (8, .int .i64 i)] ∧ Ext h H ∧ ∀ j (hj : j < l.length), j < i → p l[j] = false) l.length 0 (by omega)
    ⟨rfl, Ext.refl h, fun j _ hj => absurd hj (by omega)⟩ ?_
  rintro i E H1 hi ⟨rfl, e, F⟩
  have R := (s.ext e).rulesN
  have W : IntKind.i64.wrap ((i : Int) + 1) = ((i + 1 : Nat) : Int) := i64e (by omega) (by omega)
  simp (maxSteps := 4000000) (disch := omega) only [ah, am, Nat.reduceEqDiff, reduceCtorEq, Nat.reduceAdd, Nat.reduceLeDiff, Nat.reduceMul, Nat.reduceLT, if_true, if_false, true_and, and_true, and_self, Nat.reduceBEq, QOp.loads, boxO, bslO, buildO, cutL, fillV, putL, w96, v96, R]
  refine stepI.split (fun hp => ?_) (fun hp => ?_)
  · have hi' : i < l.length := by omega
    simp (maxSteps := 4000000) (disch := omega) only [ah, am, Nat.reduceEqDiff, reduceCtorEq, Nat.reduceAdd, Nat.reduceLeDiff, Nat.reduceMul, Nat.reduceLT, if_true, if_false, true_and, and_true, and_self, Nat.reduceBEq, QOp.loads, boxO, bslO, buildO, cutL, fillV, putL, w96, v96, R, nilV_func]
    refine stepV.of hf1 hf2 hf3 (H H1 _ e (List.getElem_mem hi')) ?_
    rintro _ H2 ⟨e2, rfl⟩
    simp (maxSteps := 4000000) (disch := omega) only [ah, am, Nat.reduceEqDiff, reduceCtorEq, Nat.reduceAdd, Nat.reduceLeDiff, Nat.reduceMul, Nat.reduceLT, if_true, if_false, true_and, and_true, and_self, Nat.reduceBEq, QOp.loads, boxO, bslO, buildO, cutL, fillV, putL, w96, v96, W]
    refine stepI.splitB (fun hk => ?_) (fun hk => ?_)
    · simp (maxSteps := 4000000) (disch := omega) only [ah, am, Nat.reduceEqDiff, reduceCtorEq, Nat.reduceAdd, Nat.reduceLeDiff, Nat.reduceMul, Nat.reduceLT, if_true, if_false, true_and, and_true, and_self, Nat.reduceBEq, QOp.loads, boxO, bslO, buildO, cutL, fillV, putL, w96, v96, W]
      refine ⟨e.trans e2, ?_⟩
      have : l.findIdx? p = some i := by
        rw [List.findIdx?_eq_some_iff_getElem]
        exact ⟨hi', hk, fun j hj => by rw [F j (by omega) hj]; decide⟩
      rw [this]
    · simp (maxSteps := 4000000) (disch := omega) only [ah, am, Nat.reduceEqDiff, reduceCtorEq, Nat.reduceAdd, Nat.reduceLeDiff, Nat.reduceMul, Nat.reduceLT, if_true, if_false, true_and, and_true, and_self, Nat.reduceBEq, QOp.loads, boxO, bslO, buildO, cutL, fillV, putL, w96, v96, W]
      refine ⟨hi', e.trans e2, fun j hj hj2 => ?_⟩
      by_cases hji : j = i
      · subst hji; exact hk
      · exact F j hj (by omega)
  · simp (maxSteps := 4000000) (disch := omega) only [ah, am, Nat.reduceEqDiff, reduceCtorEq, Nat.reduceAdd, Nat.reduceLeDiff, Nat.reduceMul, Nat.reduceLT, if_true, if_false, true_and, and_true, and_self, Nat.reduceBEq, QOp.loads, boxO, bslO, buildO, cutL, fillV, putL, w96, v96, R, W]
    obtain rfl : i = l.length := by omega
    refine ⟨e, ?_⟩
    have : l.findIdx? p = none := by
      rw [List.findIdx?_eq_none_iff]
      intro x hx
      obtain ⟨j, hj, rfl⟩ := List.getElem_of_mem hx
      exact F j hj hj
    rw [this]
theorem between1_ok (h : Heap) (k : Key) (t : Int) (p : Value) (hp : ∀ L, ldV (h.more L) p = some (.int .i64 t)) :
    ACall Try.prog 97 [.agg (encKey k).toArray, p] h fun r h' => Ext h h' ∧ r = .bool (decide (t ≤ k.pos)) := by
  obtain ⟨a, b⟩ := k
  refine ACall.of Try.func97 s97 (of_decide_eq_true rfl) ?_
  simp (maxSteps := 4000000) (disch := omega) only [ah, am, Nat.reduceEqDiff, reduceCtorEq, Nat.reduceAdd, Nat.reduceLeDiff, Nat.reduceMul, Nat.reduceLT, if_true, if_false, true_and, and_true, and_self, Nat.reduceBEq, QOp.loads, boxO, bslO, buildO, cutL, fillV, putL, w97, v97, encKey, hp]
  exact Ext.more _ _
theorem between_ok (h : Heap) (v : Value) (l : List Key) (t : Int) (s : SlT h encKey 2 v l) (hk : keysOk l) (ht : 0 ≤ t ∧ t ≤ 10000000) : ACall Try.prog 72 [v, .int .i64 t] h fun r h' => Ext h h' ∧ Tri r (sp l t) := by
  have hn := hk.1; have hn2 := hk.2.1
  refine ACall.of Try.func72 s72 (of_decide_eq_true rfl) ?_
  simp (maxSteps := 4000000) (disch := omega) only [ah, am, Nat.reduceEqDiff, reduceCtorEq, Nat.reduceAdd, Nat.reduceLeDiff, Nat.reduceMul, Nat.reduceLT, if_true, if_false, true_and, and_true, and_self, Nat.reduceBEq, QOp.loads, boxO, bslO, buildO, cutL, fillV, putL, w72, v72]
  refine stepC.of (IndexFuncK_ok _ v l 97 _ (fun k => decide (t ≤ k.pos)) (s.ext (Ext.more h _)) (by omega) ⟨_, Try.func97, rfl, by decide⟩ (fun h' k e _ => between1_ok h' k t _ (fun L => ?_))) ?_
  · have X := (e.trans (Ext.more h' L)).ld0
    rw [X.1]; rfl
  rintro _ H1 ⟨e1, rfl⟩
  have e := (Ext.more h [[.int .i64 t]]).trans e1
  have R := (s.ext e).rulesN
  have X := e1.ld0
  cases hq : l.findIdx? (fun k => decide (t ≤ k.pos)) with
  | none =>
    have hs : sp l t = (kAt l (l.length - 1)).to := by unfold sp; rw [hq]
    have G1 : ∀ hx : l.length - 1 < l.length, l[l.length - 1]'hx = kAt l (l.length - 1) := fun hx => kAt_eq l (l.length - 1) hx
    have W4 : IntKind.i64.wrap ((l.length : Int) - 1) = ((l.length - 1 : Nat) : Int) := i64e (by omega) (by omega)
    have m1 : decide ((-1 : Int) < 0) = true := rfl
    simp (maxSteps := 4000000) (disch := omega) only [ah, am, Nat.reduceEqDiff, reduceCtorEq, Nat.reduceAdd, Nat.reduceLeDiff, Nat.reduceMul, Nat.reduceLT, if_true, if_false, true_and, and_true, and_self, Nat.reduceBEq, QOp.loads, boxO, bslO, buildO, cutL, fillV, putL, w72, v72, R, G1, W4, encKey, m1]
    rw [hs]
    exact ⟨e, _, _, rfl⟩
  | some n =>
    have hs : sp l t = if n = 0 ∨ (kAt l n).pos = t then (kAt l n).to else (kAt l (n - 1)).to + (t - (kAt l (n - 1)).pos) * ((kAt l n).to - (kAt l (n - 1)).to) / ((kAt l n).pos - (kAt l (n - 1)).pos) := by unfold sp; rw [hq]
    rw [List.findIdx?_eq_some_iff_getElem] at hq
    obtain ⟨hnl, hq1, hq2⟩ := hq
    have hq1 := of_decide_eq_true hq1
    rw [kAt_eq l n hnl] at hq1
    have G : ∀ hx : n < l.length, l[n]'hx = kAt l n := fun hx => kAt_eq l n hx
    have G1 : ∀ hx : n - 1 < l.length, l[n - 1]'hx = kAt l (n - 1) := fun hx => kAt_eq l (n - 1) hx
    have m1 : decide ((n : Int) < 0) = false := decide_eq_false (by omega)
    by_cases h0 : n = 0
    · have h0' : decide ((n : Int) = 0) = true := decide_eq_true (by omega)
      rw [if_pos (.inl h0)] at hs
      simp (maxSteps := 4000000) (disch := omega) only [ah, am, Nat.reduceEqDiff, reduceCtorEq, Nat.reduceAdd, Nat.reduceLeDiff, Nat.reduceMul, Nat.reduceLT, if_true, if_false, true_and, and_true, and_self, Nat.reduceBEq, QOp.loads, boxO, bslO, buildO, cutL, fillV, putL, w72, v72, R, G, encKey, m1, h0']
      rw [hs]
      exact ⟨e, _, _, rfl⟩
    · have h0' : decide ((n : Int) = 0) = false := decide_eq_false (by omega)
      by_cases ha : (kAt l n).pos = t
      · have ha' : decide ((kAt l n).pos = t) = true := decide_eq_true ha
        rw [if_pos (.inr ha)] at hs
        simp (maxSteps := 4000000) (disch := omega) only [ah, am, Nat.reduceEqDiff, reduceCtorEq, Nat.reduceAdd, Nat.reduceLeDiff, Nat.reduceMul, Nat.reduceLT, if_true, if_false, true_and, and_true, and_self, Nat.reduceBEq, QOp.loads, boxO, bslO, buildO, cutL, fillV, putL, w72, v72, R, G, X, encKey, m1, h0', ha']
        rw [hs]
        exact ⟨e, _, _, rfl⟩
      · have ha' : decide ((kAt l n).pos = t) = false := decide_eq_false ha
        rw [if_neg (by omega)] at hs
        have W3 : IntKind.i64.wrap ((n : Int) - 1) = ((n - 1 : Nat) : Int) := i64e (by omega) (by omega)
        have KA := hk.2.2 (n - 1) (by omega)
        have KB := hk.2.2 n hnl
        have KA1 := KA.1; have KA2 := KA.2.1; have KB1 := KB.1; have KB2 := KB.2.1
        have LT := keys_lt hk n hnl (n - 1) (by omega)
        have LE : (kAt l (n - 1)).pos < t := by
          have := hq2 (n - 1) (by omega)
          rw [kAt_eq l (n - 1) (by omega)] at this; simp at this; omega
        have M := mul_bound (x := t - (kAt l (n - 1)).pos) (y := (kAt l n).to - (kAt l (n - 1)).to) (M := 10000000) (N := 10000000) (by omega) (by omega) (by omega) (by omega)
        have hd1 : 1 ≤ (kAt l n).pos - (kAt l (n - 1)).pos := by omega
        have DB := div_bound (x := (t - (kAt l (n - 1)).pos) * ((kAt l n).to - (kAt l (n - 1)).to)) (d := (kAt l n).pos - (kAt l (n - 1)).pos) (M := 100000000000000) hd1 (by omega) (by omega)
        have EM := Int.mul_ediv_add_emod ((t - (kAt l (n - 1)).pos) * ((kAt l n).to - (kAt l (n - 1)).to)) ((kAt l n).pos - (kAt l (n - 1)).pos)
        have EM1 := Int.emod_nonneg ((t - (kAt l (n - 1)).pos) * ((kAt l n).to - (kAt l (n - 1)).to)) (b := (kAt l n).pos - (kAt l (n - 1)).pos) (by omega)
        have EM2 := Int.emod_lt_of_pos ((t - (kAt l (n - 1)).pos) * ((kAt l n).to - (kAt l (n - 1)).to)) (b := (kAt l n).pos - (kAt l (n - 1)).pos) (by omega)
        rw [Int.mul_comm] at EM
        have X1 : IntKind.i64.wrap (t - (kAt l (n - 1)).pos) = t - (kAt l (n - 1)).pos := i64w (by omega)
        have X2 : IntKind.i64.wrap ((kAt l n).to - (kAt l (n - 1)).to) = (kAt l n).to - (kAt l (n - 1)).to := i64w (by omega)
        clear KA KB
        have R2 := (s.ext (e.trans (Ext.more H1 [encKey (kAt l (n - 1)), [.int .i64 0, .int .i64 0]]))).rulesN
        have Y := (e1.trans (Ext.more H1 [encKey (kAt l (n - 1)), encKey (kAt l n)])).ld0
        simp only [encKey] at R2 Y
        generalize hxx : (t - (kAt l (n - 1)).pos) * ((kAt l n).to - (kAt l (n - 1)).to) = x at *
        generalize hdd : (kAt l n).pos - (kAt l (n - 1)).pos = d at *
        have X3 : IntKind.i64.wrap ((kAt l n).pos - (kAt l (n - 1)).pos) = d := by rw [hdd]; exact i64w (by omega)
        simp (maxSteps := 4000000) (disch := omega) only [ah, am, Nat.reduceEqDiff, reduceCtorEq, Nat.reduceAdd, Nat.reduceLeDiff, Nat.reduceMul, Nat.reduceLT, if_true, if_false, true_and, and_true, and_self, Nat.reduceBEq, QOp.loads, boxO, bslO, buildO, cutL, fillV, putL, w72, v72, R, R2, G, G1, X, Y, W3, encKey, m1, h0', ha', X1, X2, X3, hxx, i64w]
        refine stepC.of (down_ok _ _ _ (by omega) (by omega)) ?_
        rintro _ Hx ⟨hx, rfl⟩; rw [hx]; clear hx Hx
        generalize hqq : x / d = q at *
        simp (maxSteps := 4000000) (disch := omega) only [ah, am, Nat.reduceEqDiff, reduceCtorEq, Nat.reduceAdd, Nat.reduceLeDiff, Nat.reduceMul, Nat.reduceLT, if_true, if_false, true_and, and_true, and_self, Nat.reduceBEq, QOp.loads, boxO, bslO, buildO, cutL, fillV, putL, w72, v72, encKey, i64w]
        rw [hs]
        exact ⟨e.trans (Ext.more _ _), _, _, rfl⟩
end Go.Proofs.Ytknpombiomnkbaa
