import Derived.Test.YtbanblghepekdaaI6
import Derived.Test.YtbanblghepekdaaS14
namespace Go.Proofs.Ytbanblghepekdaa
open Go Go.Ah
set_option linter.unusedSimpArgs false
set_option linter.unusedVariables false
set_option maxRecDepth 10000
set_option maxHeartbeats 4000000
/-! 89 loop.example/g00066/impl.isFrame: parameters 1, live [0], slots [0:n, 1:n] -/
def c89_0 : List SOper := [⟨some 2, .q (.mv (.c (.bool false))), none⟩]
def c89_1 : List SOper := [⟨some 3, .q (.mv (.t 0)), none⟩, ⟨some 4, .e (.call 55 [(.t 3), (.c (.int .i64 0)), (.c (.int .i64 10000000))]), none⟩, ⟨some 2, .q (.mv (.t 4)), none⟩]
def c89_2 : SCode := .seq (.region c89_1 [2]) .ret
def c89_3 : SCode := .seq (.region c89_0 [0]) c89_2
def c89 : SCode := c89_3
theorem w89 : type_of% (And.intro (uR Try.prog c89_0.eq_1) (And.intro (uR Try.prog c89_1.eq_1) (And.intro (uC Try.prog c89_2.eq_1) (And.intro (uC Try.prog c89_3.eq_1) (uC Try.prog c89.eq_1))))) := (And.intro (uR Try.prog c89_0.eq_1) (And.intro (uR Try.prog c89_1.eq_1) (And.intro (uC Try.prog c89_2.eq_1) (And.intro (uC Try.prog c89_3.eq_1) (uC Try.prog c89.eq_1)))))
def v89 : List RV := [.t 2]
theorem s89 : slimF Try.prog Try.f89 = some (c89.bare, v89) := by kernel_rfl
/-! 77 loop.example/g00066/impl.KeysOk: parameters 1, live [0], slots [0:keys, 1:keys, 3:i, 4:k] -/
def c77_0 : List SOper := [⟨some 2, .q (.mv (.c (.bool false))), none⟩]
def c77_1 : List SOper := [⟨some 5, .q (.mv (.t 0)), none⟩, ⟨some 6, .q (.len (.t 5)), none⟩, ⟨some 7, .e (.call 55 [(.t 6), (.c (.int .i64 1)), (.c (.int .i64 100))]), none⟩, ⟨some 8, .q (.not (.t 7)), none⟩]
def c77_2 : List SOper := [⟨some 2, .q (.mv (.c (.bool false))), none⟩]
def c77_3 : SCode := .seq (.region c77_2 [2]) .ret
def c77_4 : SCode := .cond (.t 8) c77_3 .skip
def c77_5 : SCode := .seq (.region c77_1 [0, 8]) c77_4
def c77_6 : List SOper := [⟨some 9, .q (.mv (.t 0)), none⟩, ⟨some 10, .q (.len (.t 9)), none⟩, ⟨some 11, .q (.mv (.c (.int .i64 0))), none⟩]
def c77_7 : List SOper := [⟨some 12, .q (.bin .lss (.t 11) (.t 10)), none⟩]
def c77_8 : SCode := .cond (.t 12) .skip (.exit 0)
def c77_9 : List SOper := [⟨some 13, .q (.mv (.t 11)), none⟩, ⟨some 14, .q (.ia 2 (.t 9) (.t 11)), none⟩, ⟨some 15, .q (.ldn 2 (.t 14)), none⟩, ⟨some 4, .a (.new [(.int .i64 0), (.int .i64 0)]), none⟩, ⟨some 3, .q (.mv (.t 13)), none⟩, ⟨none, .e (.st 2 (.t 4) (.t 15)), none⟩]
def c77_10 : List SOper := [⟨some 16, .q (.fa 0 (.t 4)), none⟩, ⟨some 17, .q (.ld (.t 16)), none⟩, ⟨some 18, .e (.call 89 [(.t 17)]), none⟩, ⟨some 19, .q (.not (.t 18)), none⟩, ⟨some 20, .q (.mv (.t 19)), none⟩, ⟨some 21, .q (.fa 1 (.t 4)), some (20, false)⟩, ⟨some 22, .q (.ld (.t 21)), some (20, false)⟩, ⟨some 23, .e (.call 89 [(.t 22)]), some (20, false)⟩, ⟨some 24, .q (.not (.t 23)), some (20, false)⟩, ⟨some 25, .q (.pick (.t 20) (.c (.bool true)) (.t 24)), none⟩, ⟨some 26, .q (.mv (.t 25)), none⟩, ⟨some 27, .q (.mv (.t 3)), some (26, false)⟩, ⟨some 28, .q (.bin .gtr (.t 27) (.c (.int .i64 0))), some (26, false)⟩, ⟨some 29, .q (.mv (.t 28)), some (26, false)⟩, ⟨some 30, .q (.fa 0 (.t 4)), some (29, true)⟩, ⟨some 31, .q (.ld (.t 30)), some (29, true)⟩, ⟨some 32, .q (.mv (.t 0)), some (29, true)⟩, ⟨some 33, .q (.mv (.t 3)), some (29, true)⟩, ⟨some 34, .q (.bin .sub (.t 33) (.c (.int .i64 1))), some (29, true)⟩, ⟨some 35, .q (.ia 2 (.t 32) (.t 34)), some (29, true)⟩, ⟨some 36, .q (.fa 0 (.t 35)), some (29, true)⟩, ⟨some 37, .q (.ld (.t 36)), some (29, true)⟩, ⟨some 38, .q (.bin .leq (.t 31) (.t 37)), some (29, true)⟩, ⟨some 39, .q (.pick (.t 29) (.t 38) (.c (.bool false))), some (26, false)⟩, ⟨some 40, .q (.pick (.t 26) (.c (.bool true)) (.t 39)), none⟩]
def c77_11 : List SOper := [⟨some 2, .q (.mv (.c (.bool false))), none⟩]
def c77_12 : SCode := .seq (.region c77_11 [2]) .ret
def c77_13 : SCode := .cond (.t 40) c77_12 .skip
def c77_14 : SCode := .seq (.region c77_10 [0, 9, 10, 11, 40]) c77_13
def c77_15 : SCode := .seq (.region c77_9 [0, 3, 4, 9, 10, 11]) c77_14
def c77_16 : SCode := .block 1 c77_15
def c77_17 : List SOper := [⟨some 41, .q (.bin .add (.t 11) (.c (.int .i64 1))), none⟩, ⟨some 11, .q (.mv (.t 41)), none⟩]
def c77_18 : SCode := .seq c77_16 (.region c77_17 [0, 9, 10, 11])
def c77_19 : SCode := .seq c77_8 c77_18
def c77_20 : SCode := .seq (.region c77_7 [0, 9, 10, 11, 12]) c77_19
def c77_21 : SCode := .loop c77_20
def c77_22 : SCode := .block 0 c77_21
def c77_23 : SCode := .seq (.region c77_6 [0, 9, 10, 11]) c77_22
def c77_24 : List SOper := [⟨some 2, .q (.mv (.c (.bool true))), none⟩]
def c77_25 : SCode := .seq (.region c77_24 [2]) .ret
def c77_26 : SCode := .seq c77_23 c77_25
def c77_27 : SCode := .seq c77_5 c77_26
def c77_28 : SCode := .seq (.region c77_0 [0]) c77_27
def c77 : SCode := c77_28
theorem w77 : type_of% (And.intro (uR Try.prog c77_0.eq_1) (And.intro (uR Try.prog c77_1.eq_1) (And.intro (uR Try.prog c77_2.eq_1) (And.intro (uC Try.prog c77_3.eq_1) (And.intro (uC Try.prog c77_4.eq_1) (And.intro (uC Try.prog c77_5.eq_1) (And.intro (uR Try.prog c77_6.eq_1) (And.intro (uR Try.prog c77_7.eq_1) (And.intro (uC Try.prog c77_8.eq_1) (And.intro (uR Try.prog c77_9.eq_1) (And.intro (uR Try.prog c77_10.eq_1) (And.intro (uR Try.prog c77_11.eq_1) (And.intro (uC Try.prog c77_12.eq_1) (And.intro (uC Try.prog c77_13.eq_1) (And.intro (uC Try.prog c77_14.eq_1) (And.intro (uC Try.prog c77_15.eq_1) (And.intro (uC Try.prog c77_16.eq_1) (And.intro (uR Try.prog c77_17.eq_1) (And.intro (uC Try.prog c77_18.eq_1) (And.intro (uC Try.prog c77_19.eq_1) (And.intro (uC Try.prog c77_20.eq_1) (And.intro (uC Try.prog c77_21.eq_1) (And.intro (uC Try.prog c77_22.eq_1) (And.intro (uC Try.prog c77_23.eq_1) (And.intro (uR Try.prog c77_24.eq_1) (And.intro (uC Try.prog c77_25.eq_1) (And.intro (uC Try.prog c77_26.eq_1) (And.intro (uC Try.prog c77_27.eq_1) (And.intro (uC Try.prog c77_28.eq_1) (uC Try.prog c77.eq_1)))))))))))))))))))))))))))))) := (And.intro (uR Try.prog c77_0.eq_1) (And.intro (uR Try.prog c77_1.eq_1) (And.intro (uR Try.prog c77_2.eq_1) (And.intro (uC Try.prog c77_3.eq_1) (And.intro (uC Try.prog c77_4.eq_1) (And.intro (uC Try.prog c77_5.eq_1) (And.intro (uR Try.prog c77_6.eq_1) (And.intro (uR Try.prog c77_7.eq_1) (And.intro (uC Try.prog c77_8.eq_1) (And.intro (uR Try.prog c77_9.eq_1) (And.intro (uR Try.prog c77_10.eq_1) (And.intro (uR Try.prog c77_11.eq_1) (And.intro (uC Try.prog c77_12.eq_1) (And.intro (uC Try.prog c77_13.eq_1) (And.intro (uC Try.prog c77_14.eq_1) (And.intro (uC Try.prog c77_15.eq_1) (And.intro (uC Try.prog c77_16.eq_1) (And.intro (uR Try.prog c77_17.eq_1) (And.intro (uC Try.prog c77_18.eq_1) (And.intro (uC Try.prog c77_19.eq_1) (And.intro (uC Try.prog c77_20.eq_1) (And.intro (uC Try.prog c77_21.eq_1) (And.intro (uC Try.prog c77_22.eq_1) (And.intro (uC Try.prog c77_23.eq_1) (And.intro (uR Try.prog c77_24.eq_1) (And.intro (uC Try.prog c77_25.eq_1) (And.intro (uC Try.prog c77_26.eq_1) (And.intro (uC Try.prog c77_27.eq_1) (And.intro (uC Try.prog c77_28.eq_1) (uC Try.prog c77.eq_1))))))))))))))))))))))))))))))
def v77 : List RV := [.t 2]
theorem s77 : slimF Try.prog Try.f77 = some (c77.bare, v77) := by kernel_rfl
/-! 92 loop.example/g00066/impl.down: parameters 2, live [0, 1], slots [0:a, 1:b, 2:a, 3:b, 5:q] -/
def c92_0 : List SOper := [⟨some 4, .q (.mv (.c (.int .i64 0))), none⟩]
def c92_1 : List SOper := [⟨some 6, .q (.mv (.t 0)), none⟩, ⟨some 7, .q (.mv (.t 1)), none⟩, ⟨some 8, .q (.bin .quo (.t 6) (.t 7)), none⟩, ⟨some 5, .q (.mv (.t 8)), none⟩]
def c92_2 : List SOper := [⟨some 9, .q (.mv (.t 0)), none⟩, ⟨some 10, .q (.mv (.t 1)), none⟩, ⟨some 11, .q (.bin .rem (.t 9) (.t 10)), none⟩, ⟨some 12, .q (.bin .lss (.t 11) (.c (.int .i64 0))), none⟩]
def c92_3 : List SOper := [⟨some 13, .q (.mv (.t 5)), none⟩, ⟨some 14, .q (.bin .sub (.t 13) (.c (.int .i64 1))), none⟩, ⟨some 5, .q (.mv (.t 14)), none⟩]
def c92_4 : SCode := .cond (.t 12) (.region c92_3 [5]) .skip
def c92_5 : SCode := .seq (.region c92_2 [5, 12]) c92_4
def c92_6 : List SOper := [⟨some 15, .q (.mv (.t 5)), none⟩, ⟨some 4, .q (.mv (.t 15)), none⟩]
def c92_7 : SCode := .seq (.region c92_6 [4]) .ret
def c92_8 : SCode := .seq c92_5 c92_7
def c92_9 : SCode := .seq (.region c92_1 [0, 1, 5]) c92_8
def c92_10 : SCode := .seq (.region c92_0 [0, 1]) c92_9
def c92 : SCode := c92_10
theorem w92 : type_of% (And.intro (uR Try.prog c92_0.eq_1) (And.intro (uR Try.prog c92_1.eq_1) (And.intro (uR Try.prog c92_2.eq_1) (And.intro (uR Try.prog c92_3.eq_1) (And.intro (uC Try.prog c92_4.eq_1) (And.intro (uC Try.prog c92_5.eq_1) (And.intro (uR Try.prog c92_6.eq_1) (And.intro (uC Try.prog c92_7.eq_1) (And.intro (uC Try.prog c92_8.eq_1) (And.intro (uC Try.prog c92_9.eq_1) (And.intro (uC Try.prog c92_10.eq_1) (uC Try.prog c92.eq_1)))))))))))) := (And.intro (uR Try.prog c92_0.eq_1) (And.intro (uR Try.prog c92_1.eq_1) (And.intro (uR Try.prog c92_2.eq_1) (And.intro (uR Try.prog c92_3.eq_1) (And.intro (uC Try.prog c92_4.eq_1) (And.intro (uC Try.prog c92_5.eq_1) (And.intro (uR Try.prog c92_6.eq_1) (And.intro (uC Try.prog c92_7.eq_1) (And.intro (uC Try.prog c92_8.eq_1) (And.intro (uC Try.prog c92_9.eq_1) (And.intro (uC Try.prog c92_10.eq_1) (uC Try.prog c92.eq_1))))))))))))
def v92 : List RV := [.t 4]
theorem s92 : slimF Try.prog Try.f92 = some (c92.bare, v92) := by kernel_rfl
/-! 91 loop.example/g00066/impl.between$1: parameters 1, live [0, 1], slots [0:k, 2:k] -/
def c91_0 : List SOper := [⟨some 2, .a (.box (.t 0)), none⟩, ⟨some 3, .q (.mv (.c (.bool false))), none⟩]
def c91_1 : List SOper := [⟨some 4, .q (.ld (.t 1)), none⟩, ⟨some 5, .q (.fa 0 (.t 2)), none⟩, ⟨some 6, .q (.ld (.t 5)), none⟩, ⟨some 7, .q (.bin .leq (.t 4) (.t 6)), none⟩, ⟨some 3, .q (.mv (.t 7)), none⟩]
def c91_2 : SCode := .seq (.region c91_1 [3]) .ret
def c91_3 : SCode := .seq (.region c91_0 [1, 2]) c91_2
def c91 : SCode := c91_3
theorem w91 : type_of% (And.intro (uR Try.prog c91_0.eq_1) (And.intro (uR Try.prog c91_1.eq_1) (And.intro (uC Try.prog c91_2.eq_1) (And.intro (uC Try.prog c91_3.eq_1) (uC Try.prog c91.eq_1))))) := (And.intro (uR Try.prog c91_0.eq_1) (And.intro (uR Try.prog c91_1.eq_1) (And.intro (uC Try.prog c91_2.eq_1) (And.intro (uC Try.prog c91_3.eq_1) (uC Try.prog c91.eq_1)))))
def v91 : List RV := [.t 3]
theorem s91 : slimF Try.prog Try.f91 = some (c91.bare, v91) := by kernel_rfl
/-! 90 slices.IndexFunc[[]loop.example/g00066/impl.Key,loop.example/g00066/impl.Key]: parameters 2, live [0, 1], slots [0:s, 1:f, 2:s, 3:f, 5:i] -/
def c90_0 : List SOper := [⟨some 4, .q (.mv (.c (.int .i64 0))), none⟩]
def c90_1 : List SOper := [⟨some 6, .q (.mv (.t 0)), none⟩, ⟨some 7, .q (.len (.t 6)), none⟩, ⟨some 8, .q (.mv (.c (.int .i64 0))), none⟩]
def c90_2 : List SOper := [⟨some 9, .q (.bin .lss (.t 8) (.t 7)), none⟩]
def c90_3 : SCode := .cond (.t 9) .skip (.exit 0)
def c90_4 : List SOper := [⟨some 10, .q (.mv (.t 8)), none⟩, ⟨some 5, .q (.mv (.t 10)), none⟩]
def c90_5 : List SOper := [⟨some 11, .q (.mv (.t 1)), none⟩, ⟨some 12, .q (.mv (.t 0)), none⟩, ⟨some 13, .q (.mv (.t 5)), none⟩, ⟨some 14, .q (.ia 2 (.t 12) (.t 13)), none⟩, ⟨some 15, .q (.ldn 2 (.t 14)), none⟩, ⟨some 16, .e (.callv (.t 11) [(.t 15)]), none⟩]
def c90_6 : List SOper := [⟨some 17, .q (.mv (.t 5)), none⟩, ⟨some 4, .q (.mv (.t 17)), none⟩]
def c90_7 : SCode := .seq (.region c90_6 [4]) .ret
def c90_8 : SCode := .cond (.t 16) c90_7 .skip
def c90_9 : SCode := .seq (.region c90_5 [0, 1, 5, 7, 8, 16]) c90_8
def c90_10 : SCode := .seq (.region c90_4 [0, 1, 5, 7, 8]) c90_9
def c90_11 : SCode := .block 1 c90_10
def c90_12 : List SOper := [⟨some 18, .q (.bin .add (.t 8) (.c (.int .i64 1))), none⟩, ⟨some 8, .q (.mv (.t 18)), none⟩]
def c90_13 : SCode := .seq c90_11 (.region c90_12 [0, 1, 7, 8])
def c90_14 : SCode := .seq c90_3 c90_13
def c90_15 : SCode := .seq (.region c90_2 [0, 1, 7, 8, 9]) c90_14
def c90_16 : SCode := .loop c90_15
def c90_17 : SCode := .block 0 c90_16
def c90_18 : SCode := .seq (.region c90_1 [0, 1, 7, 8]) c90_17
def c90_19 : List SOper := [⟨some 4, .q (.mv (.c (.int .i64 (-1)))), none⟩]
def c90_20 : SCode := .seq (.region c90_19 [4]) .ret
def c90_21 : SCode := .seq c90_18 c90_20
def c90_22 : SCode := .seq (.region c90_0 [0, 1]) c90_21
def c90 : SCode := c90_22
theorem w90 : type_of% (And.intro (uR Try.prog c90_0.eq_1) (And.intro (uR Try.prog c90_1.eq_1) (And.intro (uR Try.prog c90_2.eq_1) (And.intro (uC Try.prog c90_3.eq_1) (And.intro (uR Try.prog c90_4.eq_1) (And.intro (uR Try.prog c90_5.eq_1) (And.intro (uR Try.prog c90_6.eq_1) (And.intro (uC Try.prog c90_7.eq_1) (And.intro (uC Try.prog c90_8.eq_1) (And.intro (uC Try.prog c90_9.eq_1) (And.intro (uC Try.prog c90_10.eq_1) (And.intro (uC Try.prog c90_11.eq_1) (And.intro (uR Try.prog c90_12.eq_1) (And.intro (uC Try.prog c90_13.eq_1) (And.intro (uC Try.prog c90_14.eq_1) (And.intro (uC Try.prog c90_15.eq_1) (And.intro (uC Try.prog c90_16.eq_1) (And.intro (uC Try.prog c90_17.eq_1) (And.intro (uC Try.prog c90_18.eq_1) (And.intro (uR Try.prog c90_19.eq_1) (And.intro (uC Try.prog c90_20.eq_1) (And.intro (uC Try.prog c90_21.eq_1) (And.intro (uC Try.prog c90_22.eq_1) (uC Try.prog c90.eq_1)))))))))))))))))))))))) := (And.intro (uR Try.prog c90_0.eq_1) (And.intro (uR Try.prog c90_1.eq_1) (And.intro (uR Try.prog c90_2.eq_1) (And.intro (uC Try.prog c90_3.eq_1) (And.intro (uR Try.prog c90_4.eq_1) (And.intro (uR Try.prog c90_5.eq_1) (And.intro (uR Try.prog c90_6.eq_1) (And.intro (uC Try.prog c90_7.eq_1) (And.intro (uC Try.prog c90_8.eq_1) (And.intro (uC Try.prog c90_9.eq_1) (And.intro (uC Try.prog c90_10.eq_1) (And.intro (uC Try.prog c90_11.eq_1) (And.intro (uR Try.prog c90_12.eq_1) (And.intro (uC Try.prog c90_13.eq_1) (And.intro (uC Try.prog c90_14.eq_1) (And.intro (uC Try.prog c90_15.eq_1) (And.intro (uC Try.prog c90_16.eq_1) (And.intro (uC Try.prog c90_17.eq_1) (And.intro (uC Try.prog c90_18.eq_1) (And.intro (uR Try.prog c90_19.eq_1) (And.intro (uC Try.prog c90_20.eq_1) (And.intro (uC Try.prog c90_21.eq_1) (And.intro (uC Try.prog c90_22.eq_1) (uC Try.prog c90.eq_1))))))))))))))))))))))))
def v90 : List RV := [.t 4]
theorem s90 : slimF Try.prog Try.f90 = some (c90.bare, v90) := by kernel_rfl
/-! 78 loop.example/g00066/impl.between: parameters 2, live [0, 1], slots [0:keys, 1:t, 2:keys, 3:t, 7:n, 8:a, 9:b, 10:way, 11:by, 12:q] -/
def c78_0 : List SOper := [⟨some 3, .a (.box (.t 1)), none⟩, ⟨some 4, .q (.mv (.c (.int .i64 0))), none⟩, ⟨some 5, .q (.mv (.c (.int .i64 0))), none⟩, ⟨some 6, .q (.mv (.c (.int .i64 0))), none⟩]
def c78_1 : List SOper := [⟨some 13, .q (.mv (.t 0)), none⟩, ⟨some 14, .q (.mkf 91 [(.t 3)]), none⟩, ⟨some 15, .e (.call 90 [(.t 13), (.t 14)]), none⟩, ⟨some 7, .q (.mv (.t 15)), none⟩]
def c78_2 : List SOper := [⟨some 17, .q (.mv (.t 7)), none⟩, ⟨some 18, .q (.bin .lss (.t 17) (.c (.int .i64 0))), none⟩, ⟨some 16, .q (.mv (.t 18)), none⟩]
def c78_3 : List SOper := [⟨some 19, .q (.mv (.t 0)), none⟩, ⟨some 20, .q (.mv (.t 0)), none⟩, ⟨some 21, .q (.len (.t 20)), none⟩, ⟨some 22, .q (.bin .sub (.t 21) (.c (.int .i64 1))), none⟩, ⟨some 23, .q (.ia 2 (.t 19) (.t 22)), none⟩, ⟨some 24, .q (.fa 1 (.t 23)), none⟩, ⟨some 25, .q (.ld (.t 24)), none⟩, ⟨some 4, .q (.mv (.t 25)), none⟩, ⟨some 5, .q (.mv (.c (.int .i64 0))), none⟩, ⟨some 6, .q (.mv (.c (.int .i64 0))), none⟩]
def c78_4 : SCode := .seq (.region c78_3 [4, 5, 6]) .ret
def c78_5 : List SOper := [⟨some 27, .q (.mv (.t 7)), none⟩, ⟨some 28, .q (.bin .eql (.t 27) (.c (.int .i64 0))), none⟩, ⟨some 29, .q (.mv (.t 28)), none⟩, ⟨some 30, .q (.mv (.t 0)), some (29, false)⟩, ⟨some 31, .q (.mv (.t 7)), some (29, false)⟩, ⟨some 32, .q (.ia 2 (.t 30) (.t 31)), some (29, false)⟩, ⟨some 33, .q (.fa 0 (.t 32)), some (29, false)⟩, ⟨some 34, .q (.ld (.t 33)), some (29, false)⟩, ⟨some 35, .q (.ld (.t 3)), some (29, false)⟩, ⟨some 36, .q (.bin .eql (.t 34) (.t 35)), some (29, false)⟩, ⟨some 37, .q (.pick (.t 29) (.c (.bool true)) (.t 36)), none⟩, ⟨some 26, .q (.mv (.t 37)), none⟩]
def c78_6 : List SOper := [⟨some 38, .q (.mv (.t 0)), none⟩, ⟨some 39, .q (.mv (.t 7)), none⟩, ⟨some 40, .q (.ia 2 (.t 38) (.t 39)), none⟩, ⟨some 41, .q (.fa 1 (.t 40)), none⟩, ⟨some 42, .q (.ld (.t 41)), none⟩, ⟨some 4, .q (.mv (.t 42)), none⟩, ⟨some 5, .q (.mv (.c (.int .i64 0))), none⟩, ⟨some 6, .q (.mv (.c (.int .i64 0))), none⟩]
def c78_7 : SCode := .seq (.region c78_6 [4, 5, 6]) .ret
def c78_8 : SCode := .cond (.t 26) c78_7 .skip
def c78_9 : SCode := .seq (.region c78_5 [0, 3, 7, 26]) c78_8
def c78_10 : SCode := .cond (.t 16) c78_4 c78_9
def c78_11 : SCode := .seq (.region c78_2 [0, 3, 7, 16]) c78_10
def c78_12 : SCode := .block 0 c78_11
def c78_13 : List DOper := [⟨0, ⟨some 43, .q (.mv (.t 0)), none⟩, [], []⟩, ⟨1, ⟨some 44, .q (.mv (.t 7)), none⟩, [], []⟩, ⟨2, ⟨some 45, .q (.bin .sub (.t 44) (.c (.int .i64 1))), none⟩, [], []⟩, ⟨3, ⟨some 46, .q (.ia 2 (.t 43) (.t 45)), none⟩, [], []⟩, ⟨4, ⟨some 47, .q (.ldn 2 (.t 46)), none⟩, [], []⟩, ⟨5, ⟨some 48, .q (.mv (.t 0)), none⟩, [], []⟩, ⟨6, ⟨some 49, .q (.mv (.t 7)), none⟩, [], []⟩, ⟨7, ⟨some 50, .q (.ia 2 (.t 48) (.t 49)), none⟩, [], []⟩, ⟨8, ⟨some 51, .q (.ldn 2 (.t 50)), none⟩, [], []⟩, ⟨9, ⟨some 8, .a (.new [(.int .i64 0), (.int .i64 0)]), none⟩, [], []⟩, ⟨10, ⟨some 9, .a (.new [(.int .i64 0), (.int .i64 0)]), none⟩, [], []⟩, ⟨11, ⟨none, .e (.st 2 (.t 8) (.t 47)), none⟩, [], [8]⟩, ⟨12, ⟨none, .e (.st 2 (.t 9) (.t 51)), none⟩, [], []⟩]
def c78_14 : List SOper := [⟨some 52, .q (.ld (.t 3)), none⟩, ⟨some 53, .q (.fa 0 (.t 8)), none⟩, ⟨some 54, .q (.ld (.t 53)), none⟩, ⟨some 55, .q (.bin .sub (.t 52) (.t 54)), none⟩, ⟨some 56, .q (.fa 1 (.t 9)), none⟩, ⟨some 57, .q (.ld (.t 56)), none⟩, ⟨some 58, .q (.fa 1 (.t 8)), none⟩, ⟨some 59, .q (.ld (.t 58)), none⟩, ⟨some 60, .q (.bin .sub (.t 57) (.t 59)), none⟩, ⟨some 61, .q (.bin .mul (.t 55) (.t 60)), none⟩, ⟨some 62, .q (.fa 0 (.t 9)), none⟩, ⟨some 63, .q (.ld (.t 62)), none⟩, ⟨some 64, .q (.fa 0 (.t 8)), none⟩, ⟨some 65, .q (.ld (.t 64)), none⟩, ⟨some 66, .q (.bin .sub (.t 63) (.t 65)), none⟩, ⟨some 10, .q (.mv (.t 61)), none⟩, ⟨some 11, .q (.mv (.t 66)), none⟩]
def c78_15 : List SOper := [⟨some 67, .q (.mv (.t 10)), none⟩, ⟨some 68, .q (.mv (.t 11)), none⟩, ⟨some 69, .e (.call 92 [(.t 67), (.t 68)]), none⟩, ⟨some 12, .q (.mv (.t 69)), none⟩]
def c78_16 : List SOper := [⟨some 70, .q (.fa 1 (.t 8)), none⟩, ⟨some 71, .q (.ld (.t 70)), none⟩, ⟨some 72, .q (.mv (.t 12)), none⟩, ⟨some 73, .q (.bin .add (.t 71) (.t 72)), none⟩, ⟨some 74, .q (.mv (.t 10)), none⟩, ⟨some 75, .q (.mv (.t 12)), none⟩, ⟨some 76, .q (.mv (.t 11)), none⟩, ⟨some 77, .q (.bin .mul (.t 75) (.t 76)), none⟩, ⟨some 78, .q (.bin .sub (.t 74) (.t 77)), none⟩, ⟨some 79, .q (.mv (.t 11)), none⟩, ⟨some 4, .q (.mv (.t 73)), none⟩, ⟨some 5, .q (.mv (.t 78)), none⟩, ⟨some 6, .q (.mv (.t 79)), none⟩]
def c78_17 : SCode := .seq (.region c78_16 [4, 5, 6]) .ret
def c78_18 : SCode := .seq (.region c78_15 [8, 10, 11, 12]) c78_17
def c78_19 : SCode := .seq (.region c78_14 [8, 10, 11]) c78_18
def c78_20 : SCode := .seq (.dregion c78_13 [3, 8, 9]) c78_19
def c78_21 : SCode := .seq c78_12 c78_20
def c78_22 : SCode := .seq (.region c78_1 [0, 3, 7]) c78_21
def c78_23 : SCode := .seq (.region c78_0 [0, 3]) c78_22
def c78 : SCode := c78_23
theorem w78 : type_of% (And.intro (uR Try.prog c78_0.eq_1) (And.intro (uR Try.prog c78_1.eq_1) (And.intro (uR Try.prog c78_2.eq_1) (And.intro (uR Try.prog c78_3.eq_1) (And.intro (uC Try.prog c78_4.eq_1) (And.intro (uR Try.prog c78_5.eq_1) (And.intro (uR Try.prog c78_6.eq_1) (And.intro (uC Try.prog c78_7.eq_1) (And.intro (uC Try.prog c78_8.eq_1) (And.intro (uC Try.prog c78_9.eq_1) (And.intro (uC Try.prog c78_10.eq_1) (And.intro (uC Try.prog c78_11.eq_1) (And.intro (uC Try.prog c78_12.eq_1) (And.intro (uD Try.prog c78_13.eq_1) (And.intro (uR Try.prog c78_14.eq_1) (And.intro (uR Try.prog c78_15.eq_1) (And.intro (uR Try.prog c78_16.eq_1) (And.intro (uC Try.prog c78_17.eq_1) (And.intro (uC Try.prog c78_18.eq_1) (And.intro (uC Try.prog c78_19.eq_1) (And.intro (uC Try.prog c78_20.eq_1) (And.intro (uC Try.prog c78_21.eq_1) (And.intro (uC Try.prog c78_22.eq_1) (And.intro (uC Try.prog c78_23.eq_1) (uC Try.prog c78.eq_1))))))))))))))))))))))))) := (And.intro (uR Try.prog c78_0.eq_1) (And.intro (uR Try.prog c78_1.eq_1) (And.intro (uR Try.prog c78_2.eq_1) (And.intro (uR Try.prog c78_3.eq_1) (And.intro (uC Try.prog c78_4.eq_1) (And.intro (uR Try.prog c78_5.eq_1) (And.intro (uR Try.prog c78_6.eq_1) (And.intro (uC Try.prog c78_7.eq_1) (And.intro (uC Try.prog c78_8.eq_1) (And.intro (uC Try.prog c78_9.eq_1) (And.intro (uC Try.prog c78_10.eq_1) (And.intro (uC Try.prog c78_11.eq_1) (And.intro (uC Try.prog c78_12.eq_1) (And.intro (uD Try.prog c78_13.eq_1) (And.intro (uR Try.prog c78_14.eq_1) (And.intro (uR Try.prog c78_15.eq_1) (And.intro (uR Try.prog c78_16.eq_1) (And.intro (uC Try.prog c78_17.eq_1) (And.intro (uC Try.prog c78_18.eq_1) (And.intro (uC Try.prog c78_19.eq_1) (And.intro (uC Try.prog c78_20.eq_1) (And.intro (uC Try.prog c78_21.eq_1) (And.intro (uC Try.prog c78_22.eq_1) (And.intro (uC Try.prog c78_23.eq_1) (uC Try.prog c78.eq_1)))))))))))))))))))))))))
def v78 : List RV := [.t 4, .t 5, .t 6]
theorem s78 : slimF Try.prog Try.f78 = some (c78.bare, v78) := by kernel_rfl
/-! 43 loop.example/g00066/impl.Retime: parameters 3, live [0, 1, 2], slots [0:keys, 1:src, 2:n, 3:keys, 4:src, 5:n, 8:out, 9:t, 10:frame, 11:_, 12:_, 13:c] -/
def c43_0 : List SOper := [⟨some 6, .q (.mv (.c (.slice none 0 0))), none⟩, ⟨some 7, .q (.mv (.c (.bool false))), none⟩]
def c43_1 : List SOper := [⟨some 14, .q (.mv (.t 0)), none⟩, ⟨some 15, .e (.call 77 [(.t 14)]), none⟩, ⟨some 16, .q (.not (.t 15)), none⟩, ⟨some 17, .q (.mv (.t 16)), none⟩, ⟨some 18, .q (.mv (.t 1)), some (17, false)⟩, ⟨some 19, .e (.call 55 [(.t 18), (.c (.int .i64 1)), (.c (.int .i64 500))]), some (17, false)⟩, ⟨some 20, .q (.not (.t 19)), some (17, false)⟩, ⟨some 21, .q (.pick (.t 17) (.c (.bool true)) (.t 20)), none⟩, ⟨some 22, .q (.mv (.t 21)), none⟩, ⟨some 23, .q (.mv (.t 2)), some (22, false)⟩, ⟨some 24, .e (.call 55 [(.t 23), (.c (.int .i64 1)), (.c (.int .i64 2000))]), some (22, false)⟩, ⟨some 25, .q (.not (.t 24)), some (22, false)⟩, ⟨some 26, .q (.pick (.t 22) (.c (.bool true)) (.t 25)), none⟩]
def c43_2 : List SOper := [⟨some 6, .q (.mv (.c (.slice none 0 0))), none⟩, ⟨some 7, .q (.mv (.c (.bool false))), none⟩]
def c43_3 : SCode := .seq (.region c43_2 [6, 7]) .ret
def c43_4 : SCode := .cond (.t 26) c43_3 .skip
def c43_5 : SCode := .seq (.region c43_1 [0, 1, 2, 26]) c43_4
def c43_6 : List SOper := [⟨some 27, .a (.bsl 0 3 [] []), none⟩, ⟨some 8, .q (.mv (.t 27)), none⟩]
def c43_7 : List SOper := [⟨some 28, .q (.mv (.t 2)), none⟩, ⟨some 29, .q (.mv (.c (.int .i64 0))), none⟩]
def c43_8 : List SOper := [⟨some 30, .q (.bin .lss (.t 29) (.t 28)), none⟩]
def c43_9 : SCode := .cond (.t 30) .skip (.exit 0)
def c43_10 : List SOper := [⟨some 31, .q (.mv (.t 29)), none⟩, ⟨some 9, .q (.mv (.t 31)), none⟩]
def c43_11 : List SOper := [⟨some 33, .q (.mv (.t 0)), none⟩, ⟨some 34, .q (.mv (.t 9)), none⟩, ⟨some 35, .e (.call 78 [(.t 33), (.t 34)]), none⟩, ⟨some 32, .q (.mv (.t 35)), none⟩, ⟨some 36, .q (.ext (.t 32) 0), none⟩, ⟨some 37, .q (.ext (.t 32) 1), none⟩, ⟨some 38, .q (.ext (.t 32) 2), none⟩, ⟨some 10, .q (.mv (.t 36)), none⟩, ⟨some 11, .q (.mv (.t 37)), none⟩, ⟨some 12, .q (.mv (.t 38)), none⟩]
def c43_12 : List SOper := [⟨some 39, .q (.mv (.t 1)), none⟩, ⟨some 40, .q (.mv (.t 10)), none⟩, ⟨some 41, .q (.build [(.int .i64 0), (.int .i64 0), (.int .i64 0)] [(0, 1, (.t 39)), (1, 1, (.t 40)), (2, 1, (.c (.int .i64 1)))]), none⟩, ⟨some 13, .a (.new [(.int .i64 0), (.int .i64 0), (.int .i64 0)]), none⟩, ⟨none, .e (.st 3 (.t 13) (.t 41)), none⟩]
def c43_13 : List SOper := [⟨some 42, .q (.ldn 3 (.t 13)), none⟩, ⟨some 43, .e (.call 57 [(.t 42)]), none⟩, ⟨some 44, .q (.not (.t 43)), none⟩]
def c43_14 : List SOper := [⟨some 6, .q (.mv (.c (.slice none 0 0))), none⟩, ⟨some 7, .q (.mv (.c (.bool false))), none⟩]
def c43_15 : SCode := .seq (.region c43_14 [6, 7]) .ret
def c43_16 : SCode := .cond (.t 44) c43_15 .skip
def c43_17 : SCode := .seq (.region c43_13 [0, 1, 8, 13, 28, 29, 44]) c43_16
def c43_18 : List SOper := [⟨some 45, .q (.mv (.t 8)), none⟩, ⟨some 46, .q (.ldn 3 (.t 13)), none⟩, ⟨some 47, .a (.bsl 1 3 [(.int .i64 0), (.int .i64 0), (.int .i64 0)] [(0, 3, (.t 46))]), none⟩, ⟨some 48, .e (.app 24 3 (.t 45) (.t 47)), none⟩, ⟨some 8, .q (.mv (.t 48)), none⟩]
def c43_19 : SCode := .seq c43_17 (.region c43_18 [0, 1, 8, 28, 29])
def c43_20 : SCode := .seq (.region c43_12 [0, 1, 8, 13, 28, 29]) c43_19
def c43_21 : SCode := .seq (.region c43_11 [0, 1, 8, 10, 28, 29]) c43_20
def c43_22 : SCode := .seq (.region c43_10 [0, 1, 8, 9, 28, 29]) c43_21
def c43_23 : SCode := .block 1 c43_22
def c43_24 : List SOper := [⟨some 49, .q (.bin .add (.t 29) (.c (.int .i64 1))), none⟩, ⟨some 29, .q (.mv (.t 49)), none⟩]
def c43_25 : SCode := .seq c43_23 (.region c43_24 [0, 1, 8, 28, 29])
def c43_26 : SCode := .seq c43_9 c43_25
def c43_27 : SCode := .seq (.region c43_8 [0, 1, 8, 28, 29, 30]) c43_26
def c43_28 : SCode := .loop c43_27
def c43_29 : SCode := .block 0 c43_28
def c43_30 : SCode := .seq (.region c43_7 [0, 1, 8, 28, 29]) c43_29
def c43_31 : List SOper := [⟨some 50, .q (.mv (.t 8)), none⟩, ⟨some 51, .a (.bsl 1 1 [(.slice none 0 0)] [(0, 1, (.t 50))]), none⟩, ⟨some 52, .e (.call 58 [(.t 51)]), none⟩, ⟨some 53, .q (.ext (.t 52) 0), none⟩, ⟨some 54, .q (.ext (.t 52) 1), none⟩, ⟨some 6, .q (.mv (.t 53)), none⟩, ⟨some 7, .q (.mv (.t 54)), none⟩]
def c43_32 : SCode := .seq (.region c43_31 [6, 7]) .ret
def c43_33 : SCode := .seq c43_30 c43_32
def c43_34 : SCode := .seq (.region c43_6 [0, 1, 2, 8]) c43_33
def c43_35 : SCode := .seq c43_5 c43_34
def c43_36 : SCode := .seq (.region c43_0 [0, 1, 2]) c43_35
def c43 : SCode := c43_36
theorem w43 : type_of% (And.intro (uR Try.prog c43_0.eq_1) (And.intro (uR Try.prog c43_1.eq_1) (And.intro (uR Try.prog c43_2.eq_1) (And.intro (uC Try.prog c43_3.eq_1) (And.intro (uC Try.prog c43_4.eq_1) (And.intro (uC Try.prog c43_5.eq_1) (And.intro (uR Try.prog c43_6.eq_1) (And.intro (uR Try.prog c43_7.eq_1) (And.intro (uR Try.prog c43_8.eq_1) (And.intro (uC Try.prog c43_9.eq_1) (And.intro (uR Try.prog c43_10.eq_1) (And.intro (uR Try.prog c43_11.eq_1) (And.intro (uR Try.prog c43_12.eq_1) (And.intro (uR Try.prog c43_13.eq_1) (And.intro (uR Try.prog c43_14.eq_1) (And.intro (uC Try.prog c43_15.eq_1) (And.intro (uC Try.prog c43_16.eq_1) (And.intro (uC Try.prog c43_17.eq_1) (And.intro (uR Try.prog c43_18.eq_1) (And.intro (uC Try.prog c43_19.eq_1) (And.intro (uC Try.prog c43_20.eq_1) (And.intro (uC Try.prog c43_21.eq_1) (And.intro (uC Try.prog c43_22.eq_1) (And.intro (uC Try.prog c43_23.eq_1) (And.intro (uR Try.prog c43_24.eq_1) (And.intro (uC Try.prog c43_25.eq_1) (And.intro (uC Try.prog c43_26.eq_1) (And.intro (uC Try.prog c43_27.eq_1) (And.intro (uC Try.prog c43_28.eq_1) (And.intro (uC Try.prog c43_29.eq_1) (And.intro (uC Try.prog c43_30.eq_1) (And.intro (uR Try.prog c43_31.eq_1) (And.intro (uC Try.prog c43_32.eq_1) (And.intro (uC Try.prog c43_33.eq_1) (And.intro (uC Try.prog c43_34.eq_1) (And.intro (uC Try.prog c43_35.eq_1) (And.intro (uC Try.prog c43_36.eq_1) (uC Try.prog c43.eq_1)))))))))))))))))))))))))))))))))))))) := (And.intro (uR Try.prog c43_0.eq_1) (And.intro (uR Try.prog c43_1.eq_1) (And.intro (uR Try.prog c43_2.eq_1) (And.intro (uC Try.prog c43_3.eq_1) (And.intro (uC Try.prog c43_4.eq_1) (And.intro (uC Try.prog c43_5.eq_1) (And.intro (uR Try.prog c43_6.eq_1) (And.intro (uR Try.prog c43_7.eq_1) (And.intro (uR Try.prog c43_8.eq_1) (And.intro (uC Try.prog c43_9.eq_1) (And.intro (uR Try.prog c43_10.eq_1) (And.intro (uR Try.prog c43_11.eq_1) (And.intro (uR Try.prog c43_12.eq_1) (And.intro (uR Try.prog c43_13.eq_1) (And.intro (uR Try.prog c43_14.eq_1) (And.intro (uC Try.prog c43_15.eq_1) (And.intro (uC Try.prog c43_16.eq_1) (And.intro (uC Try.prog c43_17.eq_1) (And.intro (uR Try.prog c43_18.eq_1) (And.intro (uC Try.prog c43_19.eq_1) (And.intro (uC Try.prog c43_20.eq_1) (And.intro (uC Try.prog c43_21.eq_1) (And.intro (uC Try.prog c43_22.eq_1) (And.intro (uC Try.prog c43_23.eq_1) (And.intro (uR Try.prog c43_24.eq_1) (And.intro (uC Try.prog c43_25.eq_1) (And.intro (uC Try.prog c43_26.eq_1) (And.intro (uC Try.prog c43_27.eq_1) (And.intro (uC Try.prog c43_28.eq_1) (And.intro (uC Try.prog c43_29.eq_1) (And.intro (uC Try.prog c43_30.eq_1) (And.intro (uR Try.prog c43_31.eq_1) (And.intro (uC Try.prog c43_32.eq_1) (And.intro (uC Try.prog c43_33.eq_1) (And.intro (uC Try.prog c43_34.eq_1) (And.intro (uC Try.prog c43_35.eq_1) (And.intro (uC Try.prog c43_36.eq_1) (uC Try.prog c43.eq_1))))))))))))))))))))))))))))))))))))))
def v43 : List RV := [.t 6, .t 7]
theorem s43 : slimF Try.prog Try.f43 = some (c43.bare, v43) := by kernel_rfl

theorem isFrame_ok (h : Heap) (x : Int) : ACall Try.prog 89 [.int .i64 x] h fun r h' => h' = h ∧ r = .bool (decide (0 ≤ x ∧ x ≤ 10000000)) := by
  refine ACall.of Try.func89 s89 (of_decide_eq_true rfl) ?_
  simp (maxSteps := 4000000) (disch := omega) only [ah, am, Nat.reduceEqDiff, reduceCtorEq, Nat.reduceAdd, Nat.reduceLeDiff, Nat.reduceMul, Nat.reduceLT, if_true, if_false, true_and, and_true, and_self, Nat.reduceBEq, QOp.loads, boxO, bslO, buildO, cutL, fillV, putL, w89, v89]
  (repeat' first
    | (refine stepC.of (in_ok _ _ _ _) ?_; rintro _ _ ⟨rfl, rfl⟩; simp (maxSteps := 4000000) (disch := omega) only [ah, am, Nat.reduceEqDiff, reduceCtorEq, Nat.reduceAdd, Nat.reduceLeDiff, Nat.reduceMul, Nat.reduceLT, if_true, if_false, true_and, and_true, and_self, Nat.reduceBEq, QOp.loads, boxO, bslO, buildO, cutL, fillV, putL, i64w, w89, v89])
    | (refine stepG.cases (fun _ hp => ?_) (fun _ hp => ?_) <;> simp (maxSteps := 4000000) (disch := omega) only [hp, ah, am, Nat.reduceEqDiff, reduceCtorEq, Nat.reduceAdd, Nat.reduceLeDiff, Nat.reduceMul, Nat.reduceLT, if_true, if_false, true_and, and_true, and_self, Nat.reduceBEq, QOp.loads, boxO, bslO, buildO, cutL, fillV, putL, i64w, w89, v89])
    | (refine stepI.cases (fun _ hp => ?_) (fun _ hp => ?_) <;> simp (maxSteps := 4000000) (disch := omega) only [hp, ah, am, Nat.reduceEqDiff, reduceCtorEq, Nat.reduceAdd, Nat.reduceLeDiff, Nat.reduceMul, Nat.reduceLT, if_true, if_false, true_and, and_true, and_self, Nat.reduceBEq, QOp.loads, boxO, bslO, buildO, cutL, fillV, putL, i64w, w89, v89]))
theorem down_ok (h : Heap) (a b : Int) (hb : 0 < b) (ha : -1000000000000000 ≤ a ∧ a ≤ 1000000000000000) : ACall Try.prog 92 [.int .i64 a, .int .i64 b] h fun r h' => h' = h ∧ r = .int .i64 (a / b) := by
  refine ACall.of Try.func92 s92 (of_decide_eq_true rfl) ?_
  have hb' : b ≠ 0 := by omega
  have D := down_eq a b hb
  have B := div_bound (x := a) (d := b) (M := 1000000000000000) (by omega) ha.1 ha.2
  by_cases hc : a.tmod b < 0
  · have hc' : decide (a.tmod b < 0) = true := decide_eq_true hc
    rw [if_pos hc] at D
    simp (maxSteps := 4000000) (disch := omega) only [ah, am, Nat.reduceEqDiff, reduceCtorEq, Nat.reduceAdd, Nat.reduceLeDiff, Nat.reduceMul, Nat.reduceLT, if_true, if_false, true_and, and_true, and_self, Nat.reduceBEq, QOp.loads, boxO, bslO, buildO, cutL, fillV, putL, w92, v92, hb', ne_eq, i64w, hc']
    rw [D]
  · have hc' : decide (a.tmod b < 0) = false := decide_eq_false hc
    rw [if_neg hc] at D
    simp (maxSteps := 4000000) (disch := omega) only [ah, am, Nat.reduceEqDiff, reduceCtorEq, Nat.reduceAdd, Nat.reduceLeDiff, Nat.reduceMul, Nat.reduceLT, if_true, if_false, true_and, and_true, and_self, Nat.reduceBEq, QOp.loads, boxO, bslO, buildO, cutL, fillV, putL, w92, v92, hb', ne_eq, i64w, hc']
    rw [D]
theorem KeysOk_ok (h : Heap) (v : Value) (l : List Key) (s : SlT h encKey 2 v l) (hl : l.length ≤ 281474976710656) : ACall Try.prog 77 [v] h fun r h' => Ext h h' ∧ r = .bool (decide (keysOk l)) := by
  refine ACall.of Try.func77 s77 (of_decide_eq_true rfl) ?_
  have R := s.rulesN
  simp (maxSteps := 4000000) (disch := omega) only [ah, am, Nat.reduceEqDiff, reduceCtorEq, Nat.reduceAdd, Nat.reduceLeDiff, Nat.reduceMul, Nat.reduceLT, if_true, if_false, true_and, and_true, and_self, Nat.reduceBEq, QOp.loads, boxO, bslO, buildO, cutL, fillV, putL, w77, v77, R]
  refine stepC.of (in_ok _ _ _ _) ?_
  rintro _ Hx ⟨hx, rfl⟩; rw [hx]; clear hx Hx
  by_cases h1 : 1 ≤ (l.length : Int) ∧ (l.length : Int) ≤ 100
  rotate_left
  · have h1' : decide (1 ≤ (l.length : Int) ∧ (l.length : Int) ≤ 100) = false := decide_eq_false h1
    simp (maxSteps := 4000000) (disch := omega) only [ah, am, Nat.reduceEqDiff, reduceCtorEq, Nat.reduceAdd, Nat.reduceLeDiff, Nat.reduceMul, Nat.reduceLT, if_true, if_false, true_and, and_true, and_self, Nat.reduceBEq, QOp.loads, boxO, bslO, buildO, cutL, fillV, putL, w77, v77, R, h1']
    rw [show decide (keysOk l) = false from decide_eq_false fun q => by have := q.1; have := q.2.1; omega]
    exact ⟨Ext.refl h, rfl⟩
  have h1' : decide (1 ≤ (l.length : Int) ∧ (l.length : Int) ≤ 100) = true := decide_eq_true h1
  simp (maxSteps := 4000000) (disch := omega) only [ah, am, Nat.reduceEqDiff, reduceCtorEq, Nat.reduceAdd, Nat.reduceLeDiff, Nat.reduceMul, Nat.reduceLT, if_true, if_false, true_and, and_true, and_self, Nat.reduceBEq, QOp.loads, boxO, bslO, buildO, cutL, fillV, putL, w77, v77, R, h1']
  refine SW_loop_up (fun i E H => E = [(0, v), (9, v), (10, .int .i64 l.length), (11, .int .i64 i)] ∧ Ext h H ∧ ∀ j, j < i → keyOkAt l j) l.length 0 (by omega) ⟨rfl, Ext.refl h, fun j hj => absurd hj (by omega)⟩ ?_
  rintro i E H hi ⟨rfl, e, F⟩
  have W : IntKind.i64.wrap ((i : Int) + 1) = ((i + 1 : Nat) : Int) := i64e (by omega) (by omega)
  have R := (s.ext e).rulesN
  simp (maxSteps := 4000000) (disch := omega) only [ah, am, Nat.reduceEqDiff, reduceCtorEq, Nat.reduceAdd, Nat.reduceLeDiff, Nat.reduceMul, Nat.reduceLT, if_true, if_false, true_and, and_true, and_self, Nat.reduceBEq, QOp.loads, boxO, bslO, buildO, cutL, fillV, putL, w77, v77, R]
  refine stepI.split (fun hp => ?_) (fun hp => ?_)
  · have hi' : i < l.length := by omega
    have G : ∀ hx : i < l.length, l[i]'hx = kAt l i := fun hx => kAt_eq l i hx
    have G1 : ∀ hx : i - 1 < l.length, l[i - 1]'hx = kAt l (i - 1) := fun hx => kAt_eq l (i - 1) hx
    have no : ¬ keyOkAt l i → decide (keysOk l) = false := fun q => decide_eq_false fun k => q (k.2.2 i hi')
    have yes : keyOkAt l i → ∀ j, j < i + 1 → keyOkAt l j := by
      intro q j hj
      by_cases hji : j = i
      · subst hji; exact q
      · exact F j (by omega)
    have e2 := e.trans (Ext.more H [encKey (kAt l i)])
    have R2 := (s.ext e2).rulesN
    simp only [encKey] at R2
    simp (maxSteps := 4000000) (disch := omega) only [ah, am, Nat.reduceEqDiff, reduceCtorEq, Nat.reduceAdd, Nat.reduceLeDiff, Nat.reduceMul, Nat.reduceLT, if_true, if_false, true_and, and_true, and_self, Nat.reduceBEq, QOp.loads, boxO, bslO, buildO, cutL, fillV, putL, w77, v77, R, G, encKey]
    refine stepC.of (isFrame_ok _ _) ?_
    rintro _ Hx ⟨hx, rfl⟩; rw [hx]; clear hx Hx
    by_cases k1 : 0 ≤ (kAt l i).pos ∧ (kAt l i).pos ≤ 10000000
    · have k1' : decide (0 ≤ (kAt l i).pos ∧ (kAt l i).pos ≤ 10000000) = true := decide_eq_true k1
      simp (maxSteps := 4000000) (disch := omega) only [ah, am, Nat.reduceEqDiff, reduceCtorEq, Nat.reduceAdd, Nat.reduceLeDiff, Nat.reduceMul, Nat.reduceLT, if_true, if_false, true_and, and_true, and_self, Nat.reduceBEq, QOp.loads, boxO, bslO, buildO, cutL, fillV, putL, w77, v77, R, G, encKey, k1']
      refine stepC.of (isFrame_ok _ _) ?_
      rintro _ Hx ⟨hx, rfl⟩; rw [hx]; clear hx Hx
      by_cases k2 : 0 ≤ (kAt l i).to ∧ (kAt l i).to ≤ 10000000
      · have k2' : decide (0 ≤ (kAt l i).to ∧ (kAt l i).to ≤ 10000000) = true := decide_eq_true k2
        by_cases h0 : i = 0
        · have h0' : decide (0 < (i : Int)) = false := decide_eq_false (by omega)
          simp (maxSteps := 4000000) (disch := omega) only [ah, am, Nat.reduceEqDiff, reduceCtorEq, Nat.reduceAdd, Nat.reduceLeDiff, Nat.reduceMul, Nat.reduceLT, if_true, if_false, true_and, and_true, and_self, Nat.reduceBEq, QOp.loads, boxO, bslO, buildO, cutL, fillV, putL, w77, v77, R, G, encKey, k1', k2', h0', W]
          exact ⟨hi', e2, yes ⟨k1, k2, .inl h0⟩⟩
        · have h0' : decide (0 < (i : Int)) = true := decide_eq_true (by omega)
          have W3 : IntKind.i64.wrap ((i : Int) - 1) = ((i - 1 : Nat) : Int) := i64e (by omega) (by omega)
          simp (maxSteps := 4000000) (disch := omega) only [ah, am, Nat.reduceEqDiff, reduceCtorEq, Nat.reduceAdd, Nat.reduceLeDiff, Nat.reduceMul, Nat.reduceLT, if_true, if_false, true_and, and_true, and_self, Nat.reduceBEq, QOp.loads, boxO, bslO, buildO, cutL, fillV, putL, w77, v77, R, R2, G, G1, encKey, k1', k2', h0', W3, W]
          refine stepI.split (fun hq => ?_) (fun hq => ?_)
          · simp (maxSteps := 4000000) (disch := omega) only [ah, am, Nat.reduceEqDiff, reduceCtorEq, Nat.reduceAdd, Nat.reduceLeDiff, Nat.reduceMul, Nat.reduceLT, if_true, if_false, true_and, and_true, and_self, Nat.reduceBEq, QOp.loads, boxO, bslO, buildO, cutL, fillV, putL, w77, v77]
            rw [no fun q => by have := q.2.2; omega]
            exact ⟨e2, rfl⟩
          · simp (maxSteps := 4000000) (disch := omega) only [ah, am, Nat.reduceEqDiff, reduceCtorEq, Nat.reduceAdd, Nat.reduceLeDiff, Nat.reduceMul, Nat.reduceLT, if_true, if_false, true_and, and_true, and_self, Nat.reduceBEq, QOp.loads, boxO, bslO, buildO, cutL, fillV, putL, w77, v77, W]
            exact ⟨hi', e2, yes ⟨k1, k2, .inr (by omega)⟩⟩
      · have k2' : decide (0 ≤ (kAt l i).to ∧ (kAt l i).to ≤ 10000000) = false := decide_eq_false k2
        simp (maxSteps := 4000000) (disch := omega) only [ah, am, Nat.reduceEqDiff, reduceCtorEq, Nat.reduceAdd, Nat.reduceLeDiff, Nat.reduceMul, Nat.reduceLT, if_true, if_false, true_and, and_true, and_self, Nat.reduceBEq, QOp.loads, boxO, bslO, buildO, cutL, fillV, putL, w77, v77, R, G, encKey, k1', k2']
        rw [no fun q => k2 q.2.1]
        exact ⟨e2, rfl⟩
    · have k1' : decide (0 ≤ (kAt l i).pos ∧ (kAt l i).pos ≤ 10000000) = false := decide_eq_false k1
      simp (maxSteps := 4000000) (disch := omega) only [ah, am, Nat.reduceEqDiff, reduceCtorEq, Nat.reduceAdd, Nat.reduceLeDiff, Nat.reduceMul, Nat.reduceLT, if_true, if_false, true_and, and_true, and_self, Nat.reduceBEq, QOp.loads, boxO, bslO, buildO, cutL, fillV, putL, w77, v77, R, G, encKey, k1']
      rw [no fun q => k1 q.1]
      exact ⟨e2, rfl⟩
  · simp (maxSteps := 4000000) (disch := omega) only [ah, am, Nat.reduceEqDiff, reduceCtorEq, Nat.reduceAdd, Nat.reduceLeDiff, Nat.reduceMul, Nat.reduceLT, if_true, if_false, true_and, and_true, and_self, Nat.reduceBEq, QOp.loads, boxO, bslO, buildO, cutL, fillV, putL, w77, v77, R, W]
    obtain rfl : i = l.length := by omega
    rw [decide_eq_true ⟨by omega, by omega, F⟩]
    exact ⟨e, rfl⟩
theorem IndexFuncK_ok (h : Heap) (v : Value) (l : List Key) (n : Nat) (cap : Array Value) (p : Key → Bool) (s : SlT h encKey 2 v l) (hl : l.length ≤ 1100000)
    (hf : ∃ fn, Try.prog.funcs[n]? = some fn ∧ fn.body.isSome = true ∧ fn.name ≠ "runtime.NumGoroutine")
    (H : ∀ h' k, Ext h h' → k ∈ l → ACall Try.prog n ([.agg (encKey k).toArray] ++ cap.toList) h' fun r h2 => Ext h' h2 ∧ r = .bool (p k)) :
    ACall Try.prog 90 [v, .func (.func n) #[] cap] h fun r h' => Ext h h' ∧ r = .int .i64 (match l.findIdx? p with | some j => (j : Int) | none => -1) := by
  obtain ⟨fn, hf1, hf2, hf3⟩ := hf
  refine ACall.of Try.func90 s90 (of_decide_eq_true rfl) ?_
  have R := s.rulesN
  simp (maxSteps := 4000000) (disch := omega) only [ah, am, Nat.reduceEqDiff, reduceCtorEq, Nat.reduceAdd, Nat.reduceLeDiff, Nat.reduceMul, Nat.reduceLT, if_true, if_false, true_and, and_true, and_self, Nat.reduceBEq, QOp.loads, boxO, bslO, buildO, cutL, fillV, putL, w90, v90, R]
  refine SW_loop_up (fun i E H => E = [(0, v), (1, .func (.func n) #[] cap), (7, .int .i64 l.length), (8, .int .i64 i)] ∧ Ext h H ∧ ∀ j (hj : j < l.length), j < i → p l[j] = false) l.length 0 (by omega)
    ⟨rfl, Ext.refl h, fun j _ hj => absurd hj (by omega)⟩ ?_
  rintro i E H1 hi ⟨rfl, e, F⟩
  have R := (s.ext e).rulesN
  have W : IntKind.i64.wrap ((i : Int) + 1) = ((i + 1 : Nat) : Int) := i64e (by omega) (by omega)
  simp (maxSteps := 4000000) (disch := omega) only [ah, am, Nat.reduceEqDiff, reduceCtorEq, Nat.reduceAdd, Nat.reduceLeDiff, Nat.reduceMul, Nat.reduceLT, if_true, if_false, true_and, and_true, and_self, Nat.reduceBEq, QOp.loads, boxO, bslO, buildO, cutL, fillV, putL, w90, v90, R]
  refine stepI.split (fun hp => ?_) (fun hp => ?_)
  · have hi' : i < l.length := by omega
    simp (maxSteps := 4000000) (disch := omega) only [ah, am, Nat.reduceEqDiff, reduceCtorEq, Nat.reduceAdd, Nat.reduceLeDiff, Nat.reduceMul, Nat.reduceLT, if_true, if_false, true_and, and_true, and_self, Nat.reduceBEq, QOp.loads, boxO, bslO, buildO, cutL, fillV, putL, w90, v90, R, nilV_func]
    refine stepV.of hf1 hf2 hf3 (H H1 _ e (List.getElem_mem hi')) ?_
    rintro _ H2 ⟨e2, rfl⟩
    simp (maxSteps := 4000000) (disch := omega) only [ah, am, Nat.reduceEqDiff, reduceCtorEq, Nat.reduceAdd, Nat.reduceLeDiff, Nat.reduceMul, Nat.reduceLT, if_true, if_false, true_and, and_true, and_self, Nat.reduceBEq, QOp.loads, boxO, bslO, buildO, cutL, fillV, putL, w90, v90, W]
    refine stepI.splitB (fun hk => ?_) (fun hk => ?_)
    · simp (maxSteps := 4000000) (disch := omega) only [ah, am, Nat.reduceEqDiff, reduceCtorEq, Nat.reduceAdd, Nat.reduceLeDiff, Nat.reduceMul, Nat.reduceLT, if_true, if_false, true_and, and_true, and_self, Nat.reduceBEq, QOp.loads, boxO, bslO, buildO, cutL, fillV, putL, w90, v90, W]
      refine ⟨e.trans e2, ?_⟩
      have : l.findIdx? p = some i := by
        rw [List.findIdx?_eq_some_iff_getElem]
        exact ⟨hi', hk, fun j hj => by rw [F j (by omega) hj]; decide⟩
      rw [this]
    · simp (maxSteps := 4000000) (disch := omega) only [ah, am, Nat.reduceEqDiff, reduceCtorEq, Nat.reduceAdd, Nat.reduceLeDiff, Nat.reduceMul, Nat.reduceLT, if_true, if_false, true_and, and_true, and_self, Nat.reduceBEq, QOp.loads, boxO, bslO, buildO, cutL, fillV, putL, w90, v90, W]
      refine ⟨hi', e.trans e2, fun j hj hj2 => ?_⟩
      by_cases hji : j = i
      · subst hji; exact hk
      · exact F j hj (by omega)
  · simp (maxSteps := 4000000) (disch := omega) only [ah, am, Nat.reduceEqDiff, reduceCtorEq, Nat.reduceAdd, Nat.reduceLeDiff, Nat.reduceMul, Nat.reduceLT, if_true, if_false, true_and, and_true, and_self, Nat.reduceBEq, QOp.loads, boxO, bslO, buildO, cutL, fillV, putL, w90, v90, R, W]
    obtain rfl : i = l.length := by omega
    refine ⟨e, ?_⟩
    have : l.findIdx? p = none := by
      rw [List.findIdx?_eq_none_iff]
      intro x hx
      obtain ⟨j, hj, rfl⟩ := List.getElem_of_mem hx
      exact F j hj hj
    rw [this]
theorem between1_ok (h : Heap) (k : Key) (t : Int) (p : Value) (hp : ∀ L, ldV (h.more L) p = some (.int .i64 t)) :
    ACall Try.prog 91 [.agg (encKey k).toArray, p] h fun r h' => Ext h h' ∧ r = .bool (decide (t ≤ k.pos)) := by
  obtain ⟨a, b⟩ := k
  refine ACall.of Try.func91 s91 (of_decide_eq_true rfl) ?_
  simp (maxSteps := 4000000) (disch := omega) only [ah, am, Nat.reduceEqDiff, reduceCtorEq, Nat.reduceAdd, Nat.reduceLeDiff, Nat.reduceMul, Nat.reduceLT, if_true, if_false, true_and, and_true, and_self, Nat.reduceBEq, QOp.loads, boxO, bslO, buildO, cutL, fillV, putL, w91, v91, encKey, hp]
  exact Ext.more _ _
theorem between_ok (h : Heap) (v : Value) (l : List Key) (t : Int) (s : SlT h encKey 2 v l) (hk : keysOk l) (ht : 0 ≤ t ∧ t ≤ 10000000) : ACall Try.prog 78 [v, .int .i64 t] h fun r h' => Ext h h' ∧ Tri r (sp l t) := by
  have hn := hk.1; have hn2 := hk.2.1
  refine ACall.of Try.func78 s78 (of_decide_eq_true rfl) ?_
  simp (maxSteps := 4000000) (disch := omega) only [ah, am, Nat.reduceEqDiff, reduceCtorEq, Nat.reduceAdd, Nat.reduceLeDiff, Nat.reduceMul, Nat.reduceLT, if_true, if_false, true_and, and_true, and_self, Nat.reduceBEq, QOp.loads, boxO, bslO, buildO, cutL, fillV, putL, w78, v78]
  refine stepC.of (IndexFuncK_ok _ v l 91 _ (fun k => decide (t ≤ k.pos)) (s.ext (Ext.more h _)) (by omega) ⟨_, Try.func91, rfl, by decide⟩ (fun h' k e _ => between1_ok h' k t _ (fun L => ?_))) ?_
  · have X := (e.trans (Ext.more h' L)).ld0
    rw [X.1]; rfl
  rintro _ H1 ⟨e1, rfl⟩
  have e := (Ext.more h [[.int .i64 t]]).trans e1
  have R := (s.ext e).rulesN
  have X := e1.ld0
  cases hq : l.findIdx? (fun k => decide (t ≤ k.pos)) with
  | none =>
    have hs : sp l t = (kAt l (l.length - 1)).to := by unfold sp; rw [hq]
    have G1 : ∀ hx : l.length - 1 < l.length, l[l.length - 1]'hx = kAt l (l.length - 1) := fun hx => kAt_eq l (l.length - 1) hx
    have W4 : IntKind.i64.wrap ((l.length : Int) - 1) = ((l.length - 1 : Nat) : Int) := i64e (by omega) (by omega)
    have m1 : decide ((-1 : Int) < 0) = true := rfl
    simp (maxSteps := 4000000) (disch := omega) only [ah, am, Nat.reduceEqDiff, reduceCtorEq, Nat.reduceAdd, Nat.reduceLeDiff, Nat.reduceMul, Nat.reduceLT, if_true, if_false, true_and, and_true, and_self, Nat.reduceBEq, QOp.loads, boxO, bslO, buildO, cutL, fillV, putL, w78, v78, R, G1, W4, encKey, m1]
    rw [hs]
    exact ⟨e, _, _, rfl⟩
  | some n =>
    have hs : sp l t = if n = 0 ∨ (kAt l n).pos = t then (kAt l n).to else (kAt l (n - 1)).to + (t - (kAt l (n - 1)).pos) * ((kAt l n).to - (kAt l (n - 1)).to) / ((kAt l n).pos - (kAt l (n - 1)).pos) := by unfold sp; rw [hq]
    rw [List.findIdx?_eq_some_iff_getElem] at hq
    obtain ⟨hnl, hq1, hq2⟩ := hq
    have hq1 := of_decide_eq_true hq1
    rw [kAt_eq l n hnl] at hq1
    have G : ∀ hx : n < l.length, l[n]'hx = kAt l n := fun hx => kAt_eq l n hx
    have G1 : ∀ hx : n - 1 < l.length, l[n - 1]'hx = kAt l (n - 1) := fun hx => kAt_eq l (n - 1) hx
    have m1 : decide ((n : Int) < 0) = false := decide_eq_false (by omega)
    by_cases h0 : n = 0
    · have h0' : decide ((n : Int) = 0) = true := decide_eq_true (by omega)
      rw [if_pos (.inl h0)] at hs
      simp (maxSteps := 4000000) (disch := omega) only [ah, am, Nat.reduceEqDiff, reduceCtorEq, Nat.reduceAdd, Nat.reduceLeDiff, Nat.reduceMul, Nat.reduceLT, if_true, if_false, true_and, and_true, and_self, Nat.reduceBEq, QOp.loads, boxO, bslO, buildO, cutL, fillV, putL, w78, v78, R, G, encKey, m1, h0']
      rw [hs]
      exact ⟨e, _, _, rfl⟩
    · have h0' : decide ((n : Int) = 0) = false := decide_eq_false (by omega)
      by_cases ha : (kAt l n).pos = t
      · have ha' : decide ((kAt l n).pos = t) = true := decide_eq_true ha
        rw [if_pos (.inr ha)] at hs
        simp (maxSteps := 4000000) (disch := omega) only [ah, am, Nat.reduceEqDiff, reduceCtorEq, Nat.reduceAdd, Nat.reduceLeDiff, Nat.reduceMul, Nat.reduceLT, if_true, if_false, true_and, and_true, and_self, Nat.reduceBEq, QOp.loads, boxO, bslO, buildO, cutL, fillV, putL, w78, v78, R, G, X, encKey, m1, h0', ha']
        rw [hs]
        exact ⟨e, _, _, rfl⟩
      · have ha' : decide ((kAt l n).pos = t) = false := decide_eq_false ha
        rw [if_neg (by omega)] at hs
        have W3 : IntKind.i64.wrap ((n : Int) - 1) = ((n - 1 : Nat) : Int) := i64e (by omega) (by omega)
        have KA := hk.2.2 (n - 1) (by omega)
        have KB := hk.2.2 n hnl
        have KA1 := KA.1; have KA2 := KA.2.1; have KB1 := KB.1; have KB2 := KB.2.1
        have LT := keys_lt hk n hnl (n - 1) (by omega)
        have LE : (kAt l (n - 1)).pos < t := by
          have := hq2 (n - 1) (by omega)
          rw [kAt_eq l (n - 1) (by omega)] at this; simp at this; omega
        have M := mul_bound (x := t - (kAt l (n - 1)).pos) (y := (kAt l n).to - (kAt l (n - 1)).to) (M := 10000000) (N := 10000000) (by omega) (by omega) (by omega) (by omega)
        have hd1 : 1 ≤ (kAt l n).pos - (kAt l (n - 1)).pos := by omega
        have DB := div_bound (x := (t - (kAt l (n - 1)).pos) * ((kAt l n).to - (kAt l (n - 1)).to)) (d := (kAt l n).pos - (kAt l (n - 1)).pos) (M := 100000000000000) hd1 (by omega) (by omega)
        have EM := Int.mul_ediv_add_emod ((t - (kAt l (n - 1)).pos) * ((kAt l n).to - (kAt l (n - 1)).to)) ((kAt l n).pos - (kAt l (n - 1)).pos)
        have EM1 := Int.emod_nonneg ((t - (kAt l (n - 1)).pos) * ((kAt l n).to - (kAt l (n - 1)).to)) (b := (kAt l n).pos - (kAt l (n - 1)).pos) (by omega)
        have EM2 := Int.emod_lt_of_pos ((t - (kAt l (n - 1)).pos) * ((kAt l n).to - (kAt l (n - 1)).to)) (b := (kAt l n).pos - (kAt l (n - 1)).pos) (by omega)
        rw [Int.mul_comm] at EM
        have X1 : IntKind.i64.wrap (t - (kAt l (n - 1)).pos) = t - (kAt l (n - 1)).pos := i64w (by omega)
        have X2 : IntKind.i64.wrap ((kAt l n).to - (kAt l (n - 1)).to) = (kAt l n).to - (kAt l (n - 1)).to := i64w (by omega)
        clear KA KB
        have R2 := (s.ext (e.trans (Ext.more H1 [encKey (kAt l (n - 1)), [.int .i64 0, .int .i64 0]]))).rulesN
        have Y := (e1.trans (Ext.more H1 [encKey (kAt l (n - 1)), encKey (kAt l n)])).ld0
        simp only [encKey] at R2 Y
        generalize hxx : (t - (kAt l (n - 1)).pos) * ((kAt l n).to - (kAt l (n - 1)).to) = x at *
        generalize hdd : (kAt l n).pos - (kAt l (n - 1)).pos = d at *
        have X3 : IntKind.i64.wrap ((kAt l n).pos - (kAt l (n - 1)).pos) = d := by rw [hdd]; exact i64w (by omega)
        simp (maxSteps := 4000000) (disch := omega) only [ah, am, Nat.reduceEqDiff, reduceCtorEq, Nat.reduceAdd, Nat.reduceLeDiff, Nat.reduceMul, Nat.reduceLT, if_true, if_false, true_and, and_true, and_self, Nat.reduceBEq, QOp.loads, boxO, bslO, buildO, cutL, fillV, putL, w78, v78, R, R2, G, G1, X, Y, W3, encKey, m1, h0', ha', X1, X2, X3, hxx, i64w]
        refine stepC.of (down_ok _ _ _ (by omega) (by omega)) ?_
        rintro _ Hx ⟨hx, rfl⟩; rw [hx]; clear hx Hx
        generalize hqq : x / d = q at *
        simp (maxSteps := 4000000) (disch := omega) only [ah, am, Nat.reduceEqDiff, reduceCtorEq, Nat.reduceAdd, Nat.reduceLeDiff, Nat.reduceMul, Nat.reduceLT, if_true, if_false, true_and, and_true, and_self, Nat.reduceBEq, QOp.loads, boxO, bslO, buildO, cutL, fillV, putL, w78, v78, encKey, i64w]
        rw [hs]
        exact ⟨e.trans (Ext.more _ _), _, _, rfl⟩
end Go.Proofs.Ytbanblghepekdaa
