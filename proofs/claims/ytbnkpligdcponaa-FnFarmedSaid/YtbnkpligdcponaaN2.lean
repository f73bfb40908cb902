import Derived.Test.YtbnkpligdcponaaN1
namespace Go.Proofs.Ytbnkpligdcponaa
open Go Go.Ah
set_option linter.unusedSimpArgs false
set_option linter.unusedVariables false
set_option maxRecDepth 10000
set_option maxHeartbeats 4000000
/-! 51 loop.example/g00066/spec.l1In: parameters 3, live [0, 1, 2], slots [0:x, 1:lo, 2:hi, 3:x, 4:lo, 5:hi] -/
def c51_0 : List SOper := [⟨some 6, .q (.mv (.c (.bool false))), none⟩]
def c51_1 : List SOper := [⟨some 7, .q (.mv (.t 0)), none⟩, ⟨some 8, .q (.mv (.t 1)), none⟩, ⟨some 9, .q (.bin .geq (.t 7) (.t 8)), none⟩, ⟨some 10, .q (.mv (.t 9)), none⟩, ⟨some 11, .q (.mv (.t 0)), some (10, true)⟩, ⟨some 12, .q (.mv (.t 2)), some (10, true)⟩, ⟨some 13, .q (.bin .leq (.t 11) (.t 12)), some (10, true)⟩, ⟨some 14, .q (.pick (.t 10) (.t 13) (.c (.bool false))), none⟩, ⟨some 6, .q (.mv (.t 14)), none⟩]
def c51_2 : SCode := .seq (.region c51_1 [6]) .ret
def c51_3 : SCode := .seq (.region c51_0 [0, 1, 2]) c51_2
def c51 : SCode := c51_3
theorem w51 : type_of% (And.intro (uR Try.prog c51_0.eq_1) (And.intro (uR Try.prog c51_1.eq_1) (And.intro (uC Try.prog c51_2.eq_1) (And.intro (uC Try.prog c51_3.eq_1) (uC Try.prog c51.eq_1))))) := (And.intro (uR Try.prog c51_0.eq_1) (And.intro (uR Try.prog c51_1.eq_1) (And.intro (uC Try.prog c51_2.eq_1) (And.intro (uC Try.prog c51_3.eq_1) (uC Try.prog c51.eq_1)))))
def v51 : List RV := [.t 6]
theorem s51 : slimF Try.prog Try.f51 = some (c51.bare, v51) := by kernel_rfl
/-! 52 loop.example/g00066/spec.l1Frame: parameters 1, live [0], slots [0:f, 1:f] -/
def c52_0 : List SOper := [⟨some 2, .q (.mv (.c (.bool false))), none⟩]
def c52_1 : List SOper := [⟨some 3, .q (.mv (.t 0)), none⟩, ⟨some 4, .e (.call 51 [(.t 3), (.c (.int .i64 0)), (.c (.int .i64 10000000))]), none⟩, ⟨some 2, .q (.mv (.t 4)), none⟩]
def c52_2 : SCode := .seq (.region c52_1 [2]) .ret
def c52_3 : SCode := .seq (.region c52_0 [0]) c52_2
def c52 : SCode := c52_3
theorem w52 : type_of% (And.intro (uR Try.prog c52_0.eq_1) (And.intro (uR Try.prog c52_1.eq_1) (And.intro (uC Try.prog c52_2.eq_1) (And.intro (uC Try.prog c52_3.eq_1) (uC Try.prog c52.eq_1))))) := (And.intro (uR Try.prog c52_0.eq_1) (And.intro (uR Try.prog c52_1.eq_1) (And.intro (uC Try.prog c52_2.eq_1) (And.intro (uC Try.prog c52_3.eq_1) (uC Try.prog c52.eq_1)))))
def v52 : List RV := [.t 2]
theorem s52 : slimF Try.prog Try.f52 = some (c52.bare, v52) := by kernel_rfl
/-! 39 loop.example/g00066/impl.in: parameters 3, live [0, 1, 2], slots [0:x, 1:least, 2:most, 3:x, 4:least, 5:most] -/
def c39_0 : List SOper := [⟨some 6, .q (.mv (.c (.bool false))), none⟩]
def c39_1 : List SOper := [⟨some 7, .q (.mv (.t 1)), none⟩, ⟨some 8, .q (.mv (.t 0)), none⟩, ⟨some 9, .q (.bin .leq (.t 7) (.t 8)), none⟩, ⟨some 10, .q (.mv (.t 9)), none⟩, ⟨some 11, .q (.mv (.t 0)), some (10, true)⟩, ⟨some 12, .q (.mv (.t 2)), some (10, true)⟩, ⟨some 13, .q (.bin .leq (.t 11) (.t 12)), some (10, true)⟩, ⟨some 14, .q (.pick (.t 10) (.t 13) (.c (.bool false))), none⟩, ⟨some 6, .q (.mv (.t 14)), none⟩]
def c39_2 : SCode := .seq (.region c39_1 [6]) .ret
def c39_3 : SCode := .seq (.region c39_0 [0, 1, 2]) c39_2
def c39 : SCode := c39_3
theorem w39 : type_of% (And.intro (uR Try.prog c39_0.eq_1) (And.intro (uR Try.prog c39_1.eq_1) (And.intro (uC Try.prog c39_2.eq_1) (And.intro (uC Try.prog c39_3.eq_1) (uC Try.prog c39.eq_1))))) := (And.intro (uR Try.prog c39_0.eq_1) (And.intro (uR Try.prog c39_1.eq_1) (And.intro (uC Try.prog c39_2.eq_1) (And.intro (uC Try.prog c39_3.eq_1) (uC Try.prog c39.eq_1)))))
def v39 : List RV := [.t 6]
theorem s39 : slimF Try.prog Try.f39 = some (c39.bare, v39) := by kernel_rfl
/-! 62 loop.example/g00066/impl.isFrame: parameters 1, live [0], slots [0:n, 1:n] -/
def c62_0 : List SOper := [⟨some 2, .q (.mv (.c (.bool false))), none⟩]
def c62_1 : List SOper := [⟨some 3, .q (.mv (.t 0)), none⟩, ⟨some 4, .e (.call 39 [(.t 3), (.c (.int .i64 0)), (.c (.int .i64 10000000))]), none⟩, ⟨some 2, .q (.mv (.t 4)), none⟩]
def c62_2 : SCode := .seq (.region c62_1 [2]) .ret
def c62_3 : SCode := .seq (.region c62_0 [0]) c62_2
def c62 : SCode := c62_3
theorem w62 : type_of% (And.intro (uR Try.prog c62_0.eq_1) (And.intro (uR Try.prog c62_1.eq_1) (And.intro (uC Try.prog c62_2.eq_1) (And.intro (uC Try.prog c62_3.eq_1) (uC Try.prog c62.eq_1))))) := (And.intro (uR Try.prog c62_0.eq_1) (And.intro (uR Try.prog c62_1.eq_1) (And.intro (uC Try.prog c62_2.eq_1) (And.intro (uC Try.prog c62_3.eq_1) (uC Try.prog c62.eq_1)))))
def v62 : List RV := [.t 2]
theorem s62 : slimF Try.prog Try.f62 = some (c62.bare, v62) := by kernel_rfl
/-! 28 loop.example/g00066/spec.JobOk: parameters 1, live [0], slots [0:job, 1:job, 3:i, 4:t, 5:k] -/
def c28_0 : List SOper := [⟨some 2, .q (.mv (.c (.bool false))), none⟩]
def c28_1 : List SOper := [⟨some 6, .q (.mv (.t 0)), none⟩, ⟨some 7, .q (.len (.t 6)), none⟩, ⟨some 8, .q (.bin .gtr (.t 7) (.c (.int .i64 200))), none⟩]
def c28_2 : List SOper := [⟨some 2, .q (.mv (.c (.bool false))), none⟩]
def c28_3 : SCode := .seq (.region c28_2 [2]) .ret
def c28_4 : SCode := .cond (.t 8) c28_3 .skip
def c28_5 : SCode := .seq (.region c28_1 [0, 8]) c28_4
def c28_6 : List SOper := [⟨some 3, .q (.mv (.c (.int .i64 0))), none⟩]
def c28_7 : List SOper := [⟨some 9, .q (.mv (.t 3)), none⟩, ⟨some 10, .q (.mv (.t 0)), none⟩, ⟨some 11, .q (.len (.t 10)), none⟩, ⟨some 12, .q (.bin .lss (.t 9) (.t 11)), none⟩]
def c28_8 : SCode := .cond (.t 12) .skip (.exit 0)
def c28_9 : SCode := .seq (.region c28_7 [0, 3, 12]) c28_8
def c28_10 : List SOper := [⟨some 15, .q (.mv (.t 0)), none⟩, ⟨some 16, .q (.mv (.t 3)), none⟩, ⟨some 17, .q (.ia 4 (.t 15) (.t 16)), none⟩, ⟨some 18, .q (.ldn 4 (.t 17)), none⟩, ⟨some 4, .a (.new [(.int .i64 0), (.int .i64 0), (.slice none 0 0), (.int .i64 0)]), none⟩, ⟨none, .e (.st 4 (.t 4) (.t 18)), none⟩]
def c28_11 : List SOper := [⟨some 19, .q (.fa 0 (.t 4)), none⟩, ⟨some 20, .q (.ld (.t 19)), none⟩, ⟨some 21, .e (.call 51 [(.t 20), (.c (.int .i64 0)), (.c (.int .i64 9))]), none⟩, ⟨some 22, .q (.not (.t 21)), none⟩, ⟨some 23, .q (.mv (.t 22)), none⟩, ⟨some 24, .q (.fa 1 (.t 4)), some (23, false)⟩, ⟨some 25, .q (.ld (.t 24)), some (23, false)⟩, ⟨some 26, .e (.call 52 [(.t 25)]), some (23, false)⟩, ⟨some 27, .q (.not (.t 26)), some (23, false)⟩, ⟨some 28, .q (.pick (.t 23) (.c (.bool true)) (.t 27)), none⟩, ⟨some 29, .q (.mv (.t 28)), none⟩, ⟨some 30, .q (.fa 2 (.t 4)), some (29, false)⟩, ⟨some 31, .q (.ld (.t 30)), some (29, false)⟩, ⟨some 32, .q (.len (.t 31)), some (29, false)⟩, ⟨some 33, .q (.bin .gtr (.t 32) (.c (.int .i64 10))), some (29, false)⟩, ⟨some 34, .q (.pick (.t 29) (.c (.bool true)) (.t 33)), none⟩, ⟨some 35, .q (.mv (.t 34)), none⟩, ⟨some 36, .q (.fa 3 (.t 4)), some (35, false)⟩, ⟨some 37, .q (.ld (.t 36)), some (35, false)⟩, ⟨some 38, .e (.call 51 [(.t 37), (.c (.int .i64 1)), (.c (.int .i64 1000))]), some (35, false)⟩, ⟨some 39, .q (.not (.t 38)), some (35, false)⟩, ⟨some 40, .q (.pick (.t 35) (.c (.bool true)) (.t 39)), none⟩]
def c28_12 : List SOper := [⟨some 2, .q (.mv (.c (.bool false))), none⟩]
def c28_13 : SCode := .seq (.region c28_12 [2]) .ret
def c28_14 : SCode := .cond (.t 40) c28_13 .skip
def c28_15 : SCode := .seq (.region c28_11 [0, 3, 4, 40]) c28_14
def c28_16 : List SOper := [⟨some 5, .q (.mv (.c (.int .i64 0))), none⟩]
def c28_17 : List SOper := [⟨some 41, .q (.mv (.t 5)), none⟩, ⟨some 42, .q (.fa 2 (.t 4)), none⟩, ⟨some 43, .q (.ld (.t 42)), none⟩, ⟨some 44, .q (.len (.t 43)), none⟩, ⟨some 45, .q (.bin .lss (.t 41) (.t 44)), none⟩]
def c28_18 : SCode := .cond (.t 45) .skip (.exit 2)
def c28_19 : SCode := .seq (.region c28_17 [0, 3, 4, 5, 45]) c28_18
def c28_20 : List SOper := [⟨some 48, .q (.fa 2 (.t 4)), none⟩, ⟨some 49, .q (.ld (.t 48)), none⟩, ⟨some 50, .q (.mv (.t 5)), none⟩, ⟨some 51, .q (.ia 1 (.t 49) (.t 50)), none⟩, ⟨some 52, .q (.ld (.t 51)), none⟩, ⟨some 53, .q (.mv (.t 3)), none⟩, ⟨some 54, .q (.bin .sub (.t 53) (.c (.int .i64 1))), none⟩, ⟨some 55, .e (.call 51 [(.t 52), (.c (.int .i64 0)), (.t 54)]), none⟩, ⟨some 56, .q (.not (.t 55)), none⟩, ⟨some 57, .q (.mv (.t 56)), none⟩, ⟨some 58, .q (.mv (.t 5)), some (57, false)⟩, ⟨some 59, .q (.bin .gtr (.t 58) (.c (.int .i64 0))), some (57, false)⟩, ⟨some 60, .q (.mv (.t 59)), some (57, false)⟩, ⟨some 61, .q (.fa 2 (.t 4)), some (60, true)⟩, ⟨some 62, .q (.ld (.t 61)), some (60, true)⟩, ⟨some 63, .q (.mv (.t 5)), some (60, true)⟩, ⟨some 64, .q (.ia 1 (.t 62) (.t 63)), some (60, true)⟩, ⟨some 65, .q (.ld (.t 64)), some (60, true)⟩, ⟨some 66, .q (.fa 2 (.t 4)), some (60, true)⟩, ⟨some 67, .q (.ld (.t 66)), some (60, true)⟩, ⟨some 68, .q (.mv (.t 5)), some (60, true)⟩, ⟨some 69, .q (.bin .sub (.t 68) (.c (.int .i64 1))), some (60, true)⟩, ⟨some 70, .q (.ia 1 (.t 67) (.t 69)), some (60, true)⟩, ⟨some 71, .q (.ld (.t 70)), some (60, true)⟩, ⟨some 72, .q (.bin .leq (.t 65) (.t 71)), some (60, true)⟩, ⟨some 73, .q (.pick (.t 60) (.t 72) (.c (.bool false))), some (57, false)⟩, ⟨some 74, .q (.pick (.t 57) (.c (.bool true)) (.t 73)), none⟩]
def c28_21 : List SOper := [⟨some 2, .q (.mv (.c (.bool false))), none⟩]
def c28_22 : SCode := .seq (.region c28_21 [2]) .ret
def c28_23 : SCode := .cond (.t 74) c28_22 .skip
def c28_24 : SCode := .seq (.region c28_20 [0, 3, 4, 5, 74]) c28_23
def c28_25 : SCode := .block 3 c28_24
def c28_26 : List SOper := [⟨some 46, .q (.mv (.t 5)), none⟩, ⟨some 47, .q (.bin .add (.t 46) (.c (.int .i64 1))), none⟩, ⟨some 5, .q (.mv (.t 47)), none⟩]
def c28_27 : SCode := .seq c28_25 (.region c28_26 [0, 3, 4, 5])
def c28_28 : SCode := .seq c28_19 c28_27
def c28_29 : SCode := .loop c28_28
def c28_30 : SCode := .block 2 c28_29
def c28_31 : SCode := .seq (.region c28_16 [0, 3, 4, 5]) c28_30
def c28_32 : SCode := .seq c28_15 c28_31
def c28_33 : SCode := .seq (.region c28_10 [0, 3, 4]) c28_32
def c28_34 : SCode := .block 1 c28_33
def c28_35 : List SOper := [⟨some 13, .q (.mv (.t 3)), none⟩, ⟨some 14, .q (.bin .add (.t 13) (.c (.int .i64 1))), none⟩, ⟨some 3, .q (.mv (.t 14)), none⟩]
def c28_36 : SCode := .seq c28_34 (.region c28_35 [0, 3])
def c28_37 : SCode := .seq c28_9 c28_36
def c28_38 : SCode := .loop c28_37
def c28_39 : SCode := .block 0 c28_38
def c28_40 : SCode := .seq (.region c28_6 [0, 3]) c28_39
def c28_41 : List SOper := [⟨some 2, .q (.mv (.c (.bool true))), none⟩]
def c28_42 : SCode := .seq (.region c28_41 [2]) .ret
def c28_43 : SCode := .seq c28_40 c28_42
def c28_44 : SCode := .seq c28_5 c28_43
def c28_45 : SCode := .seq (.region c28_0 [0]) c28_44
def c28 : SCode := c28_45
theorem w28 : type_of% (And.intro (uR Try.prog c28_0.eq_1) (And.intro (uR Try.prog c28_1.eq_1) (And.intro (uR Try.prog c28_2.eq_1) (And.intro (uC Try.prog c28_3.eq_1) (And.intro (uC Try.prog c28_4.eq_1) (And.intro (uC Try.prog c28_5.eq_1) (And.intro (uR Try.prog c28_6.eq_1) (And.intro (uR Try.prog c28_7.eq_1) (And.intro (uC Try.prog c28_8.eq_1) (And.intro (uC Try.prog c28_9.eq_1) (And.intro (uR Try.prog c28_10.eq_1) (And.intro (uR Try.prog c28_11.eq_1) (And.intro (uR Try.prog c28_12.eq_1) (And.intro (uC Try.prog c28_13.eq_1) (And.intro (uC Try.prog c28_14.eq_1) (And.intro (uC Try.prog c28_15.eq_1) (And.intro (uR Try.prog c28_16.eq_1) (And.intro (uR Try.prog c28_17.eq_1) (And.intro (uC Try.prog c28_18.eq_1) (And.intro (uC Try.prog c28_19.eq_1) (And.intro (uR Try.prog c28_20.eq_1) (And.intro (uR Try.prog c28_21.eq_1) (And.intro (uC Try.prog c28_22.eq_1) (And.intro (uC Try.prog c28_23.eq_1) (And.intro (uC Try.prog c28_24.eq_1) (And.intro (uC Try.prog c28_25.eq_1) (And.intro (uR Try.prog c28_26.eq_1) (And.intro (uC Try.prog c28_27.eq_1) (And.intro (uC Try.prog c28_28.eq_1) (And.intro (uC Try.prog c28_29.eq_1) (And.intro (uC Try.prog c28_30.eq_1) (And.intro (uC Try.prog c28_31.eq_1) (And.intro (uC Try.prog c28_32.eq_1) (And.intro (uC Try.prog c28_33.eq_1) (And.intro (uC Try.prog c28_34.eq_1) (And.intro (uR Try.prog c28_35.eq_1) (And.intro (uC Try.prog c28_36.eq_1) (And.intro (uC Try.prog c28_37.eq_1) (And.intro (uC Try.prog c28_38.eq_1) (And.intro (uC Try.prog c28_39.eq_1) (And.intro (uC Try.prog c28_40.eq_1) (And.intro (uR Try.prog c28_41.eq_1) (And.intro (uC Try.prog c28_42.eq_1) (And.intro (uC Try.prog c28_43.eq_1) (And.intro (uC Try.prog c28_44.eq_1) (And.intro (uC Try.prog c28_45.eq_1) (uC Try.prog c28.eq_1))))))))))))))))))))))))))))))))))))))))))))))) := (And.intro (uR Try.prog c28_0.eq_1) (And.intro (uR Try.prog c28_1.eq_1) (And.intro (uR Try.prog c28_2.eq_1) (And.intro (uC Try.prog c28_3.eq_1) (And.intro (uC Try.prog c28_4.eq_1) (And.intro (uC Try.prog c28_5.eq_1) (And.intro (uR Try.prog c28_6.eq_1) (And.intro (uR Try.prog c28_7.eq_1) (And.intro (uC Try.prog c28_8.eq_1) (And.intro (uC Try.prog c28_9.eq_1) (And.intro (uR Try.prog c28_10.eq_1) (And.intro (uR Try.prog c28_11.eq_1) (And.intro (uR Try.prog c28_12.eq_1) (And.intro (uC Try.prog c28_13.eq_1) (And.intro (uC Try.prog c28_14.eq_1) (And.intro (uC Try.prog c28_15.eq_1) (And.intro (uR Try.prog c28_16.eq_1) (And.intro (uR Try.prog c28_17.eq_1) (And.intro (uC Try.prog c28_18.eq_1) (And.intro (uC Try.prog c28_19.eq_1) (And.intro (uR Try.prog c28_20.eq_1) (And.intro (uR Try.prog c28_21.eq_1) (And.intro (uC Try.prog c28_22.eq_1) (And.intro (uC Try.prog c28_23.eq_1) (And.intro (uC Try.prog c28_24.eq_1) (And.intro (uC Try.prog c28_25.eq_1) (And.intro (uR Try.prog c28_26.eq_1) (And.intro (uC Try.prog c28_27.eq_1) (And.intro (uC Try.prog c28_28.eq_1) (And.intro (uC Try.prog c28_29.eq_1) (And.intro (uC Try.prog c28_30.eq_1) (And.intro (uC Try.prog c28_31.eq_1) (And.intro (uC Try.prog c28_32.eq_1) (And.intro (uC Try.prog c28_33.eq_1) (And.intro (uC Try.prog c28_34.eq_1) (And.intro (uR Try.prog c28_35.eq_1) (And.intro (uC Try.prog c28_36.eq_1) (And.intro (uC Try.prog c28_37.eq_1) (And.intro (uC Try.prog c28_38.eq_1) (And.intro (uC Try.prog c28_39.eq_1) (And.intro (uC Try.prog c28_40.eq_1) (And.intro (uR Try.prog c28_41.eq_1) (And.intro (uC Try.prog c28_42.eq_1) (And.intro (uC Try.prog c28_43.eq_1) (And.intro (uC Try.prog c28_44.eq_1) (And.intro (uC Try.prog c28_45.eq_1) (uC Try.prog c28.eq_1)))))))))))))))))))))))))))))))))))))))))))))))
def v28 : List RV := [.t 2]
theorem s28 : slimF Try.prog Try.f28 = some (c28.bare, v28) := by kernel_rfl
/-! 36 loop.example/g00066/impl.JobOk: parameters 1, live [0], slots [0:job, 1:job, 3:i, 4:t] -/
def c36_0 : List SOper := [⟨some 2, .q (.mv (.c (.bool false))), none⟩]
def c36_1 : List SOper := [⟨some 5, .q (.mv (.t 0)), none⟩, ⟨some 6, .q (.len (.t 5)), none⟩, ⟨some 7, .q (.bin .gtr (.t 6) (.c (.int .i64 200))), none⟩]
def c36_2 : List SOper := [⟨some 2, .q (.mv (.c (.bool false))), none⟩]
def c36_3 : SCode := .seq (.region c36_2 [2]) .ret
def c36_4 : SCode := .cond (.t 7) c36_3 .skip
def c36_5 : SCode := .seq (.region c36_1 [0, 7]) c36_4
def c36_6 : List SOper := [⟨some 8, .q (.mv (.t 0)), none⟩, ⟨some 9, .q (.len (.t 8)), none⟩, ⟨some 10, .q (.mv (.c (.int .i64 0))), none⟩]
def c36_7 : List SOper := [⟨some 11, .q (.bin .lss (.t 10) (.t 9)), none⟩]
def c36_8 : SCode := .cond (.t 11) .skip (.exit 0)
def c36_9 : List SOper := [⟨some 12, .q (.mv (.t 10)), none⟩, ⟨some 13, .q (.ia 4 (.t 8) (.t 10)), none⟩, ⟨some 14, .q (.ldn 4 (.t 13)), none⟩, ⟨some 4, .a (.new [(.int .i64 0), (.int .i64 0), (.slice none 0 0), (.int .i64 0)]), none⟩, ⟨some 3, .q (.mv (.t 12)), none⟩, ⟨none, .e (.st 4 (.t 4) (.t 14)), none⟩]
def c36_10 : List SOper := [⟨some 15, .q (.ldn 4 (.t 4)), none⟩, ⟨some 16, .q (.mv (.t 3)), none⟩, ⟨some 17, .e (.call 55 [(.t 15), (.t 16)]), none⟩, ⟨some 18, .q (.not (.t 17)), none⟩]
def c36_11 : List SOper := [⟨some 2, .q (.mv (.c (.bool false))), none⟩]
def c36_12 : SCode := .seq (.region c36_11 [2]) .ret
def c36_13 : SCode := .cond (.t 18) c36_12 .skip
def c36_14 : SCode := .seq (.region c36_10 [8, 9, 10, 18]) c36_13
def c36_15 : SCode := .seq (.region c36_9 [3, 4, 8, 9, 10]) c36_14
def c36_16 : SCode := .block 1 c36_15
def c36_17 : List SOper := [⟨some 19, .q (.bin .add (.t 10) (.c (.int .i64 1))), none⟩, ⟨some 10, .q (.mv (.t 19)), none⟩]
def c36_18 : SCode := .seq c36_16 (.region c36_17 [8, 9, 10])
def c36_19 : SCode := .seq c36_8 c36_18
def c36_20 : SCode := .seq (.region c36_7 [8, 9, 10, 11]) c36_19
def c36_21 : SCode := .loop c36_20
def c36_22 : SCode := .block 0 c36_21
def c36_23 : SCode := .seq (.region c36_6 [8, 9, 10]) c36_22
def c36_24 : List SOper := [⟨some 2, .q (.mv (.c (.bool true))), none⟩]
def c36_25 : SCode := .seq (.region c36_24 [2]) .ret
def c36_26 : SCode := .seq c36_23 c36_25
def c36_27 : SCode := .seq c36_5 c36_26
def c36_28 : SCode := .seq (.region c36_0 [0]) c36_27
def c36 : SCode := c36_28
theorem w36 : type_of% (And.intro (uR Try.prog c36_0.eq_1) (And.intro (uR Try.prog c36_1.eq_1) (And.intro (uR Try.prog c36_2.eq_1) (And.intro (uC Try.prog c36_3.eq_1) (And.intro (uC Try.prog c36_4.eq_1) (And.intro (uC Try.prog c36_5.eq_1) (And.intro (uR Try.prog c36_6.eq_1) (And.intro (uR Try.prog c36_7.eq_1) (And.intro (uC Try.prog c36_8.eq_1) (And.intro (uR Try.prog c36_9.eq_1) (And.intro (uR Try.prog c36_10.eq_1) (And.intro (uR Try.prog c36_11.eq_1) (And.intro (uC Try.prog c36_12.eq_1) (And.intro (uC Try.prog c36_13.eq_1) (And.intro (uC Try.prog c36_14.eq_1) (And.intro (uC Try.prog c36_15.eq_1) (And.intro (uC Try.prog c36_16.eq_1) (And.intro (uR Try.prog c36_17.eq_1) (And.intro (uC Try.prog c36_18.eq_1) (And.intro (uC Try.prog c36_19.eq_1) (And.intro (uC Try.prog c36_20.eq_1) (And.intro (uC Try.prog c36_21.eq_1) (And.intro (uC Try.prog c36_22.eq_1) (And.intro (uC Try.prog c36_23.eq_1) (And.intro (uR Try.prog c36_24.eq_1) (And.intro (uC Try.prog c36_25.eq_1) (And.intro (uC Try.prog c36_26.eq_1) (And.intro (uC Try.prog c36_27.eq_1) (And.intro (uC Try.prog c36_28.eq_1) (uC Try.prog c36.eq_1)))))))))))))))))))))))))))))) := (And.intro (uR Try.prog c36_0.eq_1) (And.intro (uR Try.prog c36_1.eq_1) (And.intro (uR Try.prog c36_2.eq_1) (And.intro (uC Try.prog c36_3.eq_1) (And.intro (uC Try.prog c36_4.eq_1) (And.intro (uC Try.prog c36_5.eq_1) (And.intro (uR Try.prog c36_6.eq_1) (And.intro (uR Try.prog c36_7.eq_1) (And.intro (uC Try.prog c36_8.eq_1) (And.intro (uR Try.prog c36_9.eq_1) (And.intro (uR Try.prog c36_10.eq_1) (And.intro (uR Try.prog c36_11.eq_1) (And.intro (uC Try.prog c36_12.eq_1) (And.intro (uC Try.prog c36_13.eq_1) (And.intro (uC Try.prog c36_14.eq_1) (And.intro (uC Try.prog c36_15.eq_1) (And.intro (uC Try.prog c36_16.eq_1) (And.intro (uR Try.prog c36_17.eq_1) (And.intro (uC Try.prog c36_18.eq_1) (And.intro (uC Try.prog c36_19.eq_1) (And.intro (uC Try.prog c36_20.eq_1) (And.intro (uC Try.prog c36_21.eq_1) (And.intro (uC Try.prog c36_22.eq_1) (And.intro (uC Try.prog c36_23.eq_1) (And.intro (uR Try.prog c36_24.eq_1) (And.intro (uC Try.prog c36_25.eq_1) (And.intro (uC Try.prog c36_26.eq_1) (And.intro (uC Try.prog c36_27.eq_1) (And.intro (uC Try.prog c36_28.eq_1) (uC Try.prog c36.eq_1))))))))))))))))))))))))))))))
def v36 : List RV := [.t 2]
theorem s36 : slimF Try.prog Try.f36 = some (c36.bare, v36) := by kernel_rfl
/-! 55 (loop.example/g00066/impl.Task).ok: parameters 2, live [0, 1], slots [0:t, 1:ahead, 2:t, 3:ahead, 5:i, 6:n] -/
def c55_0 : List SOper := [⟨some 2, .a (.box (.t 0)), none⟩, ⟨some 4, .q (.mv (.c (.bool false))), none⟩]
def c55_1 : List SOper := [⟨some 7, .q (.fa 0 (.t 2)), none⟩, ⟨some 8, .q (.ld (.t 7)), none⟩, ⟨some 9, .e (.call 39 [(.t 8), (.c (.int .i64 0)), (.c (.int .i64 9))]), none⟩, ⟨some 10, .q (.not (.t 9)), none⟩, ⟨some 11, .q (.mv (.t 10)), none⟩, ⟨some 12, .q (.fa 1 (.t 2)), some (11, false)⟩, ⟨some 13, .q (.ld (.t 12)), some (11, false)⟩, ⟨some 14, .e (.call 62 [(.t 13)]), some (11, false)⟩, ⟨some 15, .q (.not (.t 14)), some (11, false)⟩, ⟨some 16, .q (.pick (.t 11) (.c (.bool true)) (.t 15)), none⟩, ⟨some 17, .q (.mv (.t 16)), none⟩, ⟨some 18, .q (.fa 3 (.t 2)), some (17, false)⟩, ⟨some 19, .q (.ld (.t 18)), some (17, false)⟩, ⟨some 20, .e (.call 39 [(.t 19), (.c (.int .i64 1)), (.c (.int .i64 1000))]), some (17, false)⟩, ⟨some 21, .q (.not (.t 20)), some (17, false)⟩, ⟨some 22, .q (.pick (.t 17) (.c (.bool true)) (.t 21)), none⟩, ⟨some 23, .q (.mv (.t 22)), none⟩, ⟨some 24, .q (.fa 2 (.t 2)), some (23, false)⟩, ⟨some 25, .q (.ld (.t 24)), some (23, false)⟩, ⟨some 26, .q (.len (.t 25)), some (23, false)⟩, ⟨some 27, .q (.bin .gtr (.t 26) (.c (.int .i64 10))), some (23, false)⟩, ⟨some 28, .q (.pick (.t 23) (.c (.bool true)) (.t 27)), none⟩]
def c55_2 : List SOper := [⟨some 4, .q (.mv (.c (.bool false))), none⟩]
def c55_3 : SCode := .seq (.region c55_2 [4]) .ret
def c55_4 : SCode := .cond (.t 28) c55_3 .skip
def c55_5 : SCode := .seq (.region c55_1 [1, 2, 28]) c55_4
def c55_6 : List SOper := [⟨some 29, .q (.fa 2 (.t 2)), none⟩, ⟨some 30, .q (.ld (.t 29)), none⟩, ⟨some 31, .q (.len (.t 30)), none⟩, ⟨some 32, .q (.mv (.c (.int .i64 0))), none⟩]
def c55_7 : List SOper := [⟨some 33, .q (.bin .lss (.t 32) (.t 31)), none⟩]
def c55_8 : SCode := .cond (.t 33) .skip (.exit 0)
def c55_9 : List SOper := [⟨some 34, .q (.mv (.t 32)), none⟩, ⟨some 35, .q (.ia 1 (.t 30) (.t 32)), none⟩, ⟨some 36, .q (.ld (.t 35)), none⟩, ⟨some 5, .q (.mv (.t 34)), none⟩, ⟨some 6, .q (.mv (.t 36)), none⟩]
def c55_10 : List SOper := [⟨some 37, .q (.mv (.t 6)), none⟩, ⟨some 38, .q (.mv (.t 1)), none⟩, ⟨some 39, .q (.bin .sub (.t 38) (.c (.int .i64 1))), none⟩, ⟨some 40, .e (.call 39 [(.t 37), (.c (.int .i64 0)), (.t 39)]), none⟩, ⟨some 41, .q (.not (.t 40)), none⟩, ⟨some 42, .q (.mv (.t 41)), none⟩, ⟨some 43, .q (.mv (.t 5)), some (42, false)⟩, ⟨some 44, .q (.bin .gtr (.t 43) (.c (.int .i64 0))), some (42, false)⟩, ⟨some 45, .q (.mv (.t 44)), some (42, false)⟩, ⟨some 46, .q (.mv (.t 6)), some (45, true)⟩, ⟨some 47, .q (.fa 2 (.t 2)), some (45, true)⟩, ⟨some 48, .q (.ld (.t 47)), some (45, true)⟩, ⟨some 49, .q (.mv (.t 5)), some (45, true)⟩, ⟨some 50, .q (.bin .sub (.t 49) (.c (.int .i64 1))), some (45, true)⟩, ⟨some 51, .q (.ia 1 (.t 48) (.t 50)), some (45, true)⟩, ⟨some 52, .q (.ld (.t 51)), some (45, true)⟩, ⟨some 53, .q (.bin .leq (.t 46) (.t 52)), some (45, true)⟩, ⟨some 54, .q (.pick (.t 45) (.t 53) (.c (.bool false))), some (42, false)⟩, ⟨some 55, .q (.pick (.t 42) (.c (.bool true)) (.t 54)), none⟩]
def c55_11 : List SOper := [⟨some 4, .q (.mv (.c (.bool false))), none⟩]
def c55_12 : SCode := .seq (.region c55_11 [4]) .ret
def c55_13 : SCode := .cond (.t 55) c55_12 .skip
def c55_14 : SCode := .seq (.region c55_10 [1, 2, 30, 31, 32, 55]) c55_13
def c55_15 : SCode := .seq (.region c55_9 [1, 2, 5, 6, 30, 31, 32]) c55_14
def c55_16 : SCode := .block 1 c55_15
def c55_17 : List SOper := [⟨some 56, .q (.bin .add (.t 32) (.c (.int .i64 1))), none⟩, ⟨some 32, .q (.mv (.t 56)), none⟩]
def c55_18 : SCode := .seq c55_16 (.region c55_17 [1, 2, 30, 31, 32])
def c55_19 : SCode := .seq c55_8 c55_18
def c55_20 : SCode := .seq (.region c55_7 [1, 2, 30, 31, 32, 33]) c55_19
def c55_21 : SCode := .loop c55_20
def c55_22 : SCode := .block 0 c55_21
def c55_23 : SCode := .seq (.region c55_6 [1, 2, 30, 31, 32]) c55_22
def c55_24 : List SOper := [⟨some 4, .q (.mv (.c (.bool true))), none⟩]
def c55_25 : SCode := .seq (.region c55_24 [4]) .ret
def c55_26 : SCode := .seq c55_23 c55_25
def c55_27 : SCode := .seq c55_5 c55_26
def c55_28 : SCode := .seq (.region c55_0 [1, 2]) c55_27
def c55 : SCode := c55_28
theorem w55 : type_of% (And.intro (uR Try.prog c55_0.eq_1) (And.intro (uR Try.prog c55_1.eq_1) (And.intro (uR Try.prog c55_2.eq_1) (And.intro (uC Try.prog c55_3.eq_1) (And.intro (uC Try.prog c55_4.eq_1) (And.intro (uC Try.prog c55_5.eq_1) (And.intro (uR Try.prog c55_6.eq_1) (And.intro (uR Try.prog c55_7.eq_1) (And.intro (uC Try.prog c55_8.eq_1) (And.intro (uR Try.prog c55_9.eq_1) (And.intro (uR Try.prog c55_10.eq_1) (And.intro (uR Try.prog c55_11.eq_1) (And.intro (uC Try.prog c55_12.eq_1) (And.intro (uC Try.prog c55_13.eq_1) (And.intro (uC Try.prog c55_14.eq_1) (And.intro (uC Try.prog c55_15.eq_1) (And.intro (uC Try.prog c55_16.eq_1) (And.intro (uR Try.prog c55_17.eq_1) (And.intro (uC Try.prog c55_18.eq_1) (And.intro (uC Try.prog c55_19.eq_1) (And.intro (uC Try.prog c55_20.eq_1) (And.intro (uC Try.prog c55_21.eq_1) (And.intro (uC Try.prog c55_22.eq_1) (And.intro (uC Try.prog c55_23.eq_1) (And.intro (uR Try.prog c55_24.eq_1) (And.intro (uC Try.prog c55_25.eq_1) (And.intro (uC Try.prog c55_26.eq_1) (And.intro (uC Try.prog c55_27.eq_1) (And.intro (uC Try.prog c55_28.eq_1) (uC Try.prog c55.eq_1)))))))))))))))))))))))))))))) := (And.intro (uR Try.prog c55_0.eq_1) (And.intro (uR Try.prog c55_1.eq_1) (And.intro (uR Try.prog c55_2.eq_1) (And.intro (uC Try.prog c55_3.eq_1) (And.intro (uC Try.prog c55_4.eq_1) (And.intro (uC Try.prog c55_5.eq_1) (And.intro (uR Try.prog c55_6.eq_1) (And.intro (uR Try.prog c55_7.eq_1) (And.intro (uC Try.prog c55_8.eq_1) (And.intro (uR Try.prog c55_9.eq_1) (And.intro (uR Try.prog c55_10.eq_1) (And.intro (uR Try.prog c55_11.eq_1) (And.intro (uC Try.prog c55_12.eq_1) (And.intro (uC Try.prog c55_13.eq_1) (And.intro (uC Try.prog c55_14.eq_1) (And.intro (uC Try.prog c55_15.eq_1) (And.intro (uC Try.prog c55_16.eq_1) (And.intro (uR Try.prog c55_17.eq_1) (And.intro (uC Try.prog c55_18.eq_1) (And.intro (uC Try.prog c55_19.eq_1) (And.intro (uC Try.prog c55_20.eq_1) (And.intro (uC Try.prog c55_21.eq_1) (And.intro (uC Try.prog c55_22.eq_1) (And.intro (uC Try.prog c55_23.eq_1) (And.intro (uR Try.prog c55_24.eq_1) (And.intro (uC Try.prog c55_25.eq_1) (And.intro (uC Try.prog c55_26.eq_1) (And.intro (uC Try.prog c55_27.eq_1) (And.intro (uC Try.prog c55_28.eq_1) (uC Try.prog c55.eq_1))))))))))))))))))))))))))))))
def v55 : List RV := [.t 4]
theorem s55 : slimF Try.prog Try.f55 = some (c55.bare, v55) := by kernel_rfl

/-! ### Which jobs are told -/
def needOk (n : Nat) (l : List Int) (j : Nat) : Prop := ∃ h : j < l.length, 0 ≤ l[j] ∧ l[j] ≤ (n : Int) - 1 ∧ ∀ i (hi : i + 1 = j), l[i] < l[j]
def taskOk (n : Nat) (t : Task) : Prop := (0 ≤ t.kind ∧ t.kind ≤ 9) ∧ (0 ≤ t.value ∧ t.value ≤ 10000000) ∧ (1 ≤ t.cost ∧ t.cost ≤ 1000) ∧ t.needs.length ≤ 10 ∧ ∀ j, j < t.needs.length → needOk n t.needs j
def jobOk (l : List Task) : Prop := l.length ≤ 200 ∧ ∀ i (h : i < l.length), taskOk i l[i]
noncomputable instance (l : List Task) : Decidable (jobOk l) := Classical.propDecidable _
noncomputable instance (n : Nat) (t : Task) : Decidable (taskOk n t) := Classical.propDecidable _
noncomputable instance (n : Nat) (l : List Int) (j : Nat) : Decidable (needOk n l j) := Classical.propDecidable _
theorem jobOk.need {l : List Task} (h : jobOk l) {i : Nat} (hi : i < l.length) {n : Int} (hn : n ∈ l[i].needs) : 0 ≤ n ∧ n < i := by
  obtain ⟨j, hj, rfl⟩ := List.mem_iff_getElem.mp hn
  obtain ⟨_, h1, h2, _⟩ := (h.2 i hi).2.2.2.2 j hj
  omega
theorem jobOk.cost {l : List Task} (h : jobOk l) {i : Nat} (hi : i < l.length) : 1 ≤ l[i].cost ∧ l[i].cost ≤ 1000 := (h.2 i hi).2.2.1
theorem l1In_ok (h : Heap) (x lo hi : Int) : ACall Try.prog 51 [.int .i64 x, .int .i64 lo, .int .i64 hi] h fun r h' => h' = h ∧ r = .bool (decide (lo ≤ x ∧ x ≤ hi)) := by
  refine ACall.of Try.func51 s51 (of_decide_eq_true rfl) ?_
  simp (maxSteps := 4000000) (disch := omega) only [ah, am, Nat.reduceEqDiff, reduceCtorEq, Nat.reduceAdd, Nat.reduceLeDiff, Nat.reduceMul, Nat.reduceLT, if_true, if_false, true_and, and_true, and_self, Nat.reduceBEq, QOp.loads, boxO, bslO, buildO, cutL, fillV, putL, w51, v51]
  (repeat' first
    | (refine stepG.cases (fun _ hp => ?_) (fun _ hp => ?_) <;> simp (maxSteps := 4000000) (disch := omega) only [hp, ah, am, Nat.reduceEqDiff, reduceCtorEq, Nat.reduceAdd, Nat.reduceLeDiff, Nat.reduceMul, Nat.reduceLT, if_true, if_false, true_and, and_true, and_self, Nat.reduceBEq, QOp.loads, boxO, bslO, buildO, cutL, fillV, putL, i64w, w51, v51])
    | (refine stepI.cases (fun _ hp => ?_) (fun _ hp => ?_) <;> simp (maxSteps := 4000000) (disch := omega) only [hp, ah, am, Nat.reduceEqDiff, reduceCtorEq, Nat.reduceAdd, Nat.reduceLeDiff, Nat.reduceMul, Nat.reduceLT, if_true, if_false, true_and, and_true, and_self, Nat.reduceBEq, QOp.loads, boxO, bslO, buildO, cutL, fillV, putL, i64w, w51, v51]))
  all_goals (refine bool_dec ?_; try simp only [decide_eq_true_eq, Bool.false_eq_true, false_and, and_false, true_and, and_true, false_iff, iff_false, true_iff, iff_true, not_false_eq_true, false_or, or_false, true_or, or_true]; first | done | omega | (refine Iff.intro (fun hq => ?_) (fun hq => ?_) <;> omega))
theorem l1Frame_ok (h : Heap) (x : Int) : ACall Try.prog 52 [.int .i64 x] h fun r h' => h' = h ∧ r = .bool (decide (0 ≤ x ∧ x ≤ 10000000)) := by
  refine ACall.of Try.func52 s52 (of_decide_eq_true rfl) ?_
  simp (maxSteps := 4000000) (disch := omega) only [ah, am, Nat.reduceEqDiff, reduceCtorEq, Nat.reduceAdd, Nat.reduceLeDiff, Nat.reduceMul, Nat.reduceLT, if_true, if_false, true_and, and_true, and_self, Nat.reduceBEq, QOp.loads, boxO, bslO, buildO, cutL, fillV, putL, w52, v52]
  refine stepC.of (l1In_ok _ _ _ _) ?_
  rintro _ Hx ⟨hx, rfl⟩; rw [hx]; clear hx Hx
  simp (maxSteps := 4000000) (disch := omega) only [ah, am, Nat.reduceEqDiff, reduceCtorEq, Nat.reduceAdd, Nat.reduceLeDiff, Nat.reduceMul, Nat.reduceLT, if_true, if_false, true_and, and_true, and_self, Nat.reduceBEq, QOp.loads, boxO, bslO, buildO, cutL, fillV, putL, w52, v52]
theorem in_ok (h : Heap) (x lo hi : Int) : ACall Try.prog 39 [.int .i64 x, .int .i64 lo, .int .i64 hi] h fun r h' => h' = h ∧ r = .bool (decide (lo ≤ x ∧ x ≤ hi)) := by
  refine ACall.of Try.func39 s39 (of_decide_eq_true rfl) ?_
  simp (maxSteps := 4000000) (disch := omega) only [ah, am, Nat.reduceEqDiff, reduceCtorEq, Nat.reduceAdd, Nat.reduceLeDiff, Nat.reduceMul, Nat.reduceLT, if_true, if_false, true_and, and_true, and_self, Nat.reduceBEq, QOp.loads, boxO, bslO, buildO, cutL, fillV, putL, w39, v39]
  (repeat' first
    | (refine stepG.cases (fun _ hp => ?_) (fun _ hp => ?_) <;> simp (maxSteps := 4000000) (disch := omega) only [hp, ah, am, Nat.reduceEqDiff, reduceCtorEq, Nat.reduceAdd, Nat.reduceLeDiff, Nat.reduceMul, Nat.reduceLT, if_true, if_false, true_and, and_true, and_self, Nat.reduceBEq, QOp.loads, boxO, bslO, buildO, cutL, fillV, putL, i64w, w39, v39])
    | (refine stepI.cases (fun _ hp => ?_) (fun _ hp => ?_) <;> simp (maxSteps := 4000000) (disch := omega) only [hp, ah, am, Nat.reduceEqDiff, reduceCtorEq, Nat.reduceAdd, Nat.reduceLeDiff, Nat.reduceMul, Nat.reduceLT, if_true, if_false, true_and, and_true, and_self, Nat.reduceBEq, QOp.loads, boxO, bslO, buildO, cutL, fillV, putL, i64w, w39, v39]))
  all_goals (refine bool_dec ?_; try simp only [decide_eq_true_eq, Bool.false_eq_true, false_and, and_false, true_and, and_true, false_iff, iff_false, true_iff, iff_true, not_false_eq_true, false_or, or_false, true_or, or_true]; first | done | omega | (refine Iff.intro (fun hq => ?_) (fun hq => ?_) <;> omega))
theorem isFrame_ok (h : Heap) (x : Int) : ACall Try.prog 62 [.int .i64 x] h fun r h' => h' = h ∧ r = .bool (decide (0 ≤ x ∧ x ≤ 10000000)) := by
  refine ACall.of Try.func62 s62 (of_decide_eq_true rfl) ?_
  simp (maxSteps := 4000000) (disch := omega) only [ah, am, Nat.reduceEqDiff, reduceCtorEq, Nat.reduceAdd, Nat.reduceLeDiff, Nat.reduceMul, Nat.reduceLT, if_true, if_false, true_and, and_true, and_self, Nat.reduceBEq, QOp.loads, boxO, bslO, buildO, cutL, fillV, putL, w62, v62]
  refine stepC.of (in_ok _ _ _ _) ?_
  rintro _ Hx ⟨hx, rfl⟩; rw [hx]; clear hx Hx
  simp (maxSteps := 4000000) (disch := omega) only [ah, am, Nat.reduceEqDiff, reduceCtorEq, Nat.reduceAdd, Nat.reduceLeDiff, Nat.reduceMul, Nat.reduceLT, if_true, if_false, true_and, and_true, and_self, Nat.reduceBEq, QOp.loads, boxO, bslO, buildO, cutL, fillV, putL, w62, v62]
theorem Taskok_ok (h : Heap) (r : TaskR) (t : Task) (n : Nat) (a : TaskAt h r t) (hn : n ≤ 1000) : ACall Try.prog 55 [.agg (encT r).toArray, .int .i64 n] h fun r h' => Ext h h' ∧ r = .bool (decide (taskOk n t)) := by
  obtain ⟨k1, k2, k3, s⟩ := a
  refine ACall.of Try.func55 s55 (of_decide_eq_true rfl) ?_
  have q1 := cells_slT s; have q2 := oneB_slT s
  have s1 := s.ext (Ext.more h [[.int .i64 t.kind, .int .i64 t.value, r.nv, .int .i64 t.cost]])
  have R := s1.rulesN
  simp only [encT, k1, k2, k3]
  simp (maxSteps := 4000000) (disch := omega) only [ah, am, Nat.reduceEqDiff, reduceCtorEq, Nat.reduceAdd, Nat.reduceLeDiff, Nat.reduceMul, Nat.reduceLT, if_true, if_false, true_and, and_true, and_self, Nat.reduceBEq, QOp.loads, boxO, bslO, buildO, cutL, fillV, putL, w55, v55, encT, q1, q2]
  refine stepC.of (in_ok _ _ _ _) ?_
  rintro _ Hx ⟨hx, rfl⟩; rw [hx]; clear hx Hx
  by_cases c1 : 0 ≤ t.kind ∧ t.kind ≤ 9
  rotate_left
  · simp (maxSteps := 4000000) (disch := omega) only [ah, am, Nat.reduceEqDiff, reduceCtorEq, Nat.reduceAdd, Nat.reduceLeDiff, Nat.reduceMul, Nat.reduceLT, if_true, if_false, true_and, and_true, and_self, Nat.reduceBEq, QOp.loads, boxO, bslO, buildO, cutL, fillV, putL, w55, v55, decide_eq_false c1, Bool.not_false]
    exact ⟨Ext.more _ _, by rw [decide_eq_false]; exact fun q => c1 q.1⟩
  simp (maxSteps := 4000000) (disch := omega) only [ah, am, Nat.reduceEqDiff, reduceCtorEq, Nat.reduceAdd, Nat.reduceLeDiff, Nat.reduceMul, Nat.reduceLT, if_true, if_false, true_and, and_true, and_self, Nat.reduceBEq, QOp.loads, boxO, bslO, buildO, cutL, fillV, putL, w55, v55, decide_eq_true c1, Bool.not_true]
  refine stepC.of (isFrame_ok _ _) ?_
  rintro _ Hx ⟨hx, rfl⟩; rw [hx]; clear hx Hx
  by_cases c2 : 0 ≤ t.value ∧ t.value ≤ 10000000
  rotate_left
  · simp (maxSteps := 4000000) (disch := omega) only [ah, am, Nat.reduceEqDiff, reduceCtorEq, Nat.reduceAdd, Nat.reduceLeDiff, Nat.reduceMul, Nat.reduceLT, if_true, if_false, true_and, and_true, and_self, Nat.reduceBEq, QOp.loads, boxO, bslO, buildO, cutL, fillV, putL, w55, v55, decide_eq_false c2, Bool.not_false]
    exact ⟨Ext.more _ _, by rw [decide_eq_false]; exact fun q => c2 q.2.1⟩
  simp (maxSteps := 4000000) (disch := omega) only [ah, am, Nat.reduceEqDiff, reduceCtorEq, Nat.reduceAdd, Nat.reduceLeDiff, Nat.reduceMul, Nat.reduceLT, if_true, if_false, true_and, and_true, and_self, Nat.reduceBEq, QOp.loads, boxO, bslO, buildO, cutL, fillV, putL, w55, v55, decide_eq_true c2, Bool.not_true]
  refine stepC.of (in_ok _ _ _ _) ?_
  rintro _ Hx ⟨hx, rfl⟩; rw [hx]; clear hx Hx
  by_cases c3 : 1 ≤ t.cost ∧ t.cost ≤ 1000
  rotate_left
  · simp (maxSteps := 4000000) (disch := omega) only [ah, am, Nat.reduceEqDiff, reduceCtorEq, Nat.reduceAdd, Nat.reduceLeDiff, Nat.reduceMul, Nat.reduceLT, if_true, if_false, true_and, and_true, and_self, Nat.reduceBEq, QOp.loads, boxO, bslO, buildO, cutL, fillV, putL, w55, v55, decide_eq_false c3, Bool.not_false]
    exact ⟨Ext.more _ _, by rw [decide_eq_false]; exact fun q => c3 q.2.2.1⟩
  simp (maxSteps := 4000000) (disch := omega) only [ah, am, Nat.reduceEqDiff, reduceCtorEq, Nat.reduceAdd, Nat.reduceLeDiff, Nat.reduceMul, Nat.reduceLT, if_true, if_false, true_and, and_true, and_self, Nat.reduceBEq, QOp.loads, boxO, bslO, buildO, cutL, fillV, putL, w55, v55, decide_eq_true c3, Bool.not_true, R]
  refine stepI.split (fun c4 => ?_) (fun c4 => ?_)
  · simp (maxSteps := 4000000) (disch := omega) only [ah, am, Nat.reduceEqDiff, reduceCtorEq, Nat.reduceAdd, Nat.reduceLeDiff, Nat.reduceMul, Nat.reduceLT, if_true, if_false, true_and, and_true, and_self, Nat.reduceBEq, QOp.loads, boxO, bslO, buildO, cutL, fillV, putL, w55, v55]
    exact ⟨Ext.more _ _, by rw [decide_eq_false]; exact fun q => by have := q.2.2.2.1; omega⟩
  simp (maxSteps := 4000000) (disch := omega) only [ah, am, Nat.reduceEqDiff, reduceCtorEq, Nat.reduceAdd, Nat.reduceLeDiff, Nat.reduceMul, Nat.reduceLT, if_true, if_false, true_and, and_true, and_self, Nat.reduceBEq, QOp.loads, boxO, bslO, buildO, cutL, fillV, putL, w55, v55, R]
  refine SW_loop_up (fun i E H => E = [(1, .int .i64 n), (2, .pointer (some ⟨h.size, 0, none⟩)), (30, r.nv), (31, .int .i64 t.needs.length), (32, .int .i64 i)] ∧ H = h.more [[.int .i64 t.kind, .int .i64 t.value, r.nv, .int .i64 t.cost]] ∧ ∀ j, j < i → needOk n t.needs j) t.needs.length 0 (by omega)
    ⟨rfl, rfl, fun j hj => absurd hj (by omega)⟩ ?_
  rintro i E H hi ⟨rfl, rfl, F⟩
  have W : IntKind.i64.wrap ((i : Int) + 1) = ((i + 1 : Nat) : Int) := i64e (by omega) (by omega)
  have W1 : IntKind.i64.wrap ((n : Int) - 1) = (n : Int) - 1 := i64e (by omega) (by omega)
  simp (maxSteps := 4000000) (disch := omega) only [ah, am, Nat.reduceEqDiff, reduceCtorEq, Nat.reduceAdd, Nat.reduceLeDiff, Nat.reduceMul, Nat.reduceLT, if_true, if_false, true_and, and_true, and_self, Nat.reduceBEq, QOp.loads, boxO, bslO, buildO, cutL, fillV, putL, w55, v55]
  refine stepI.split (fun hp => ?_) (fun hp => ?_)
  · have hi2 : i < t.needs.length := by omega
    simp (maxSteps := 4000000) (disch := omega) only [ah, am, Nat.reduceEqDiff, reduceCtorEq, Nat.reduceAdd, Nat.reduceLeDiff, Nat.reduceMul, Nat.reduceLT, if_true, if_false, true_and, and_true, and_self, Nat.reduceBEq, QOp.loads, boxO, bslO, buildO, cutL, fillV, putL, w55, v55, R, W, W1, encI]
    refine stepC.of (in_ok _ _ _ _) ?_
    rintro _ Hx ⟨hx, rfl⟩; rw [hx]; clear hx Hx
    by_cases d1 : 0 ≤ t.needs[i] ∧ t.needs[i] ≤ (n : Int) - 1
    rotate_left
    · simp (maxSteps := 4000000) (disch := omega) only [ah, am, Nat.reduceEqDiff, reduceCtorEq, Nat.reduceAdd, Nat.reduceLeDiff, Nat.reduceMul, Nat.reduceLT, if_true, if_false, true_and, and_true, and_self, Nat.reduceBEq, QOp.loads, boxO, bslO, buildO, cutL, fillV, putL, w55, v55, decide_eq_false d1, Bool.not_false]
      exact ⟨Ext.more _ _, by rw [decide_eq_false]; rintro q; obtain ⟨_, q1, q2, _⟩ := q.2.2.2.2 i hi2; exact d1 ⟨q1, q2⟩⟩
    simp (maxSteps := 4000000) (disch := omega) only [ah, am, Nat.reduceEqDiff, reduceCtorEq, Nat.reduceAdd, Nat.reduceLeDiff, Nat.reduceMul, Nat.reduceLT, if_true, if_false, true_and, and_true, and_self, Nat.reduceBEq, QOp.loads, boxO, bslO, buildO, cutL, fillV, putL, w55, v55, decide_eq_true d1, Bool.not_true]
    cases i with
    | zero =>
      simp (maxSteps := 4000000) (disch := omega) only [ah, am, Nat.reduceEqDiff, reduceCtorEq, Nat.reduceAdd, Nat.reduceLeDiff, Nat.reduceMul, Nat.reduceLT, if_true, if_false, true_and, and_true, and_self, Nat.reduceBEq, QOp.loads, boxO, bslO, buildO, cutL, fillV, putL, w55, v55, show decide ((0:Int) < ((0:Nat):Int)) = false from rfl, W]
      refine ⟨by omega, fun j hj => ⟨by omega, ?_⟩⟩
      obtain rfl : j = 0 := by omega
      exact ⟨d1.1, d1.2, fun i hi => absurd hi (by omega)⟩
    | succ i =>
      have W2 : IntKind.i64.wrap (((i + 1 : Nat) : Int) - 1) = (i : Int) := i64e (by omega) (by omega)
      simp (maxSteps := 4000000) (disch := omega) only [ah, am, Nat.reduceEqDiff, reduceCtorEq, Nat.reduceAdd, Nat.reduceLeDiff, Nat.reduceMul, Nat.reduceLT, if_true, if_false, true_and, and_true, and_self, Nat.reduceBEq, QOp.loads, boxO, bslO, buildO, cutL, fillV, putL, w55, v55, show decide ((0:Int) < ((i+1:Nat):Int)) = true from decide_eq_true (by omega), R, W, W2, encI]
      refine stepI.split (fun d2 => ?_) (fun d2 => ?_)
      · simp (maxSteps := 4000000) (disch := omega) only [ah, am, Nat.reduceEqDiff, reduceCtorEq, Nat.reduceAdd, Nat.reduceLeDiff, Nat.reduceMul, Nat.reduceLT, if_true, if_false, true_and, and_true, and_self, Nat.reduceBEq, QOp.loads, boxO, bslO, buildO, cutL, fillV, putL, w55, v55]
        exact ⟨Ext.more _ _, by rw [decide_eq_false]; rintro q; obtain ⟨_, q1, q2, q3⟩ := q.2.2.2.2 (i + 1) hi2; have := q3 i rfl; omega⟩
      · simp (maxSteps := 4000000) (disch := omega) only [ah, am, Nat.reduceEqDiff, reduceCtorEq, Nat.reduceAdd, Nat.reduceLeDiff, Nat.reduceMul, Nat.reduceLT, if_true, if_false, true_and, and_true, and_self, Nat.reduceBEq, QOp.loads, boxO, bslO, buildO, cutL, fillV, putL, w55, v55, W]
        refine ⟨by omega, fun j hj => ?_⟩
        by_cases hji : j = i + 1
        · subst hji; exact ⟨hi2, d1.1, d1.2, fun k hk => by obtain rfl : k = i := by omega
                                                            omega⟩
        · exact F j (by omega)
  · simp (maxSteps := 4000000) (disch := omega) only [ah, am, Nat.reduceEqDiff, reduceCtorEq, Nat.reduceAdd, Nat.reduceLeDiff, Nat.reduceMul, Nat.reduceLT, if_true, if_false, true_and, and_true, and_self, Nat.reduceBEq, QOp.loads, boxO, bslO, buildO, cutL, fillV, putL, w55, v55]
    obtain rfl : i = t.needs.length := by omega
    exact ⟨Ext.more _ _, by rw [decide_eq_true]; exact ⟨c1, c2, c3, by omega, F⟩⟩
theorem implJobOk_ok (h : Heap) (v : Value) (l : List Task) (hj : JobAt h v l) (hl : l.length ≤ 281474976710656) : ACall Try.prog 36 [v] h fun r h' => Ext h h' ∧ r = .bool (decide (jobOk l)) := by
  obtain ⟨rs, s, hlen, Hr⟩ := hj
  refine ACall.of Try.func36 s36 (of_decide_eq_true rfl) ?_
  have R := s.rulesN
  simp only [hlen] at R
  simp (maxSteps := 4000000) (disch := omega) only [ah, am, Nat.reduceEqDiff, reduceCtorEq, Nat.reduceAdd, Nat.reduceLeDiff, Nat.reduceMul, Nat.reduceLT, if_true, if_false, true_and, and_true, and_self, Nat.reduceBEq, QOp.loads, boxO, bslO, buildO, cutL, fillV, putL, w36, v36, R]
  refine stepI.split (fun hp => ?_) (fun hp => ?_)
  · simp (maxSteps := 4000000) (disch := omega) only [ah, am, Nat.reduceEqDiff, reduceCtorEq, Nat.reduceAdd, Nat.reduceLeDiff, Nat.reduceMul, Nat.reduceLT, if_true, if_false, true_and, and_true, and_self, Nat.reduceBEq, QOp.loads, boxO, bslO, buildO, cutL, fillV, putL, w36, v36]
    exact ⟨Ext.refl _, by rw [decide_eq_false]; intro q; have := q.1; omega⟩
  simp (maxSteps := 4000000) (disch := omega) only [ah, am, Nat.reduceEqDiff, reduceCtorEq, Nat.reduceAdd, Nat.reduceLeDiff, Nat.reduceMul, Nat.reduceLT, if_true, if_false, true_and, and_true, and_self, Nat.reduceBEq, QOp.loads, boxO, bslO, buildO, cutL, fillV, putL, w36, v36, R]
  refine SW_loop_up (fun i E H => E = [(8, v), (9, .int .i64 l.length), (10, .int .i64 i)] ∧ Ext h H ∧ ∀ j (h1 : j < i) (h2 : j < l.length), taskOk j l[j]) l.length 0 (by omega)
    ⟨rfl, .refl h, fun j h1 h2 => absurd h1 (by omega)⟩ ?_
  rintro i E H hi ⟨rfl, e, F⟩
  have R := (s.ext e).rulesN
  simp only [hlen] at R
  have W : IntKind.i64.wrap ((i : Int) + 1) = ((i + 1 : Nat) : Int) := i64e (by omega) (by omega)
  simp (maxSteps := 4000000) (disch := omega) only [ah, am, Nat.reduceEqDiff, reduceCtorEq, Nat.reduceAdd, Nat.reduceLeDiff, Nat.reduceMul, Nat.reduceLT, if_true, if_false, true_and, and_true, and_self, Nat.reduceBEq, QOp.loads, boxO, bslO, buildO, cutL, fillV, putL, w36, v36, R, W]
  refine stepI.split (fun hp => ?_) (fun hp => ?_)
  · have hi2 : i < l.length := by omega
    have A := (Hr i (by omega) hi2).ext e
    have q1 := cells_slT A.2.2.2; have q2 := oneB_slT A.2.2.2
    simp (maxSteps := 4000000) (disch := omega) only [ah, am, Nat.reduceEqDiff, reduceCtorEq, Nat.reduceAdd, Nat.reduceLeDiff, Nat.reduceMul, Nat.reduceLT, if_true, if_false, true_and, and_true, and_self, Nat.reduceBEq, QOp.loads, boxO, bslO, buildO, cutL, fillV, putL, w36, v36, R, W, encT, q1, q2]
    refine stepC.of (Taskok_ok _ rs[i] l[i] i (A.ext (Ext.more _ _)) (by omega)) ?_
    rintro _ H1 ⟨e1, rfl⟩
    have E1 := (Ext.more H _).trans e1
    by_cases hq : taskOk i l[i]
    · simp (maxSteps := 4000000) (disch := omega) only [ah, am, Nat.reduceEqDiff, reduceCtorEq, Nat.reduceAdd, Nat.reduceLeDiff, Nat.reduceMul, Nat.reduceLT, if_true, if_false, true_and, and_true, and_self, Nat.reduceBEq, QOp.loads, boxO, bslO, buildO, cutL, fillV, putL, w36, v36, decide_eq_true hq, Bool.not_true, W]
      exact ⟨hi2, e.trans E1, fun j h1 h2 => by
        by_cases hj : j = i
        · subst hj; exact hq
        · exact F j (by omega) h2⟩
    · simp (maxSteps := 4000000) (disch := omega) only [ah, am, Nat.reduceEqDiff, reduceCtorEq, Nat.reduceAdd, Nat.reduceLeDiff, Nat.reduceMul, Nat.reduceLT, if_true, if_false, true_and, and_true, and_self, Nat.reduceBEq, QOp.loads, boxO, bslO, buildO, cutL, fillV, putL, w36, v36, decide_eq_false hq, Bool.not_false, W]
      exact ⟨e.trans E1, by rw [decide_eq_false]; exact fun q => hq (q.2 i hi2)⟩
  · simp (maxSteps := 4000000) (disch := omega) only [ah, am, Nat.reduceEqDiff, reduceCtorEq, Nat.reduceAdd, Nat.reduceLeDiff, Nat.reduceMul, Nat.reduceLT, if_true, if_false, true_and, and_true, and_self, Nat.reduceBEq, QOp.loads, boxO, bslO, buildO, cutL, fillV, putL, w36, v36, R, W]
    exact ⟨e, by rw [decide_eq_true]; exact ⟨by omega, fun j h2 => F j (by omega) h2⟩⟩
theorem specJobOk_ok (h : Heap) (v : Value) (l : List Task) (hj : JobAt h v l) (hl : l.length ≤ 281474976710656) : ACall Try.prog 28 [v] h fun r h' => Ext h h' ∧ r = .bool (decide (jobOk l)) := by
  obtain ⟨rs, s, hlen, Hr⟩ := hj
  refine ACall.of Try.func28 s28 (of_decide_eq_true rfl) ?_
  have R := s.rulesN
  simp only [hlen] at R
  simp (maxSteps := 4000000) (disch := omega) only [ah, am, Nat.reduceEqDiff, reduceCtorEq, Nat.reduceAdd, Nat.reduceLeDiff, Nat.reduceMul, Nat.reduceLT, if_true, if_false, true_and, and_true, and_self, Nat.reduceBEq, QOp.loads, boxO, bslO, buildO, cutL, fillV, putL, w28, v28, R]
  refine stepI.split (fun hp => ?_) (fun hp => ?_)
  · simp (maxSteps := 4000000) (disch := omega) only [ah, am, Nat.reduceEqDiff, reduceCtorEq, Nat.reduceAdd, Nat.reduceLeDiff, Nat.reduceMul, Nat.reduceLT, if_true, if_false, true_and, and_true, and_self, Nat.reduceBEq, QOp.loads, boxO, bslO, buildO, cutL, fillV, putL, w28, v28]
    exact ⟨Ext.refl _, by rw [decide_eq_false]; intro q; have := q.1; omega⟩
  simp (maxSteps := 4000000) (disch := omega) only [ah, am, Nat.reduceEqDiff, reduceCtorEq, Nat.reduceAdd, Nat.reduceLeDiff, Nat.reduceMul, Nat.reduceLT, if_true, if_false, true_and, and_true, and_self, Nat.reduceBEq, QOp.loads, boxO, bslO, buildO, cutL, fillV, putL, w28, v28, R]
  refine SW_loop_up (fun i E H => E = [(0, v), (3, .int .i64 i)] ∧ Ext h H ∧ ∀ j (h1 : j < i) (h2 : j < l.length), taskOk j l[j]) l.length 0 (by omega)
    ⟨rfl, .refl h, fun j h1 h2 => absurd h1 (by omega)⟩ ?_
  rintro n E H hi ⟨rfl, e, G⟩
  have R := (s.ext e).rulesN
  simp only [hlen] at R
  have W : IntKind.i64.wrap ((n : Int) + 1) = ((n + 1 : Nat) : Int) := i64e (by omega) (by omega)
  simp (maxSteps := 4000000) (disch := omega) only [ah, am, Nat.reduceEqDiff, reduceCtorEq, Nat.reduceAdd, Nat.reduceLeDiff, Nat.reduceMul, Nat.reduceLT, if_true, if_false, true_and, and_true, and_self, Nat.reduceBEq, QOp.loads, boxO, bslO, buildO, cutL, fillV, putL, w28, v28, R, W]
  refine stepI.split (fun hp => ?_) (fun hp => ?_)
  rotate_left
  · simp (maxSteps := 4000000) (disch := omega) only [ah, am, Nat.reduceEqDiff, reduceCtorEq, Nat.reduceAdd, Nat.reduceLeDiff, Nat.reduceMul, Nat.reduceLT, if_true, if_false, true_and, and_true, and_self, Nat.reduceBEq, QOp.loads, boxO, bslO, buildO, cutL, fillV, putL, w28, v28, R, W]
    exact ⟨e, by rw [decide_eq_true]; exact ⟨by omega, fun j h2 => G j (by omega) h2⟩⟩
  have hn2 : n < l.length := by omega
  have A := (Hr n (by omega) hn2).ext e
  have q1 := cells_slT A.2.2.2; have q2 := oneB_slT A.2.2.2
  have hno : ¬ taskOk n l[n] → decide (jobOk l) = false := fun q => decide_eq_false fun k => q (k.2 n hn2)
  simp (maxSteps := 4000000) (disch := omega) only [ah, am, Nat.reduceEqDiff, reduceCtorEq, Nat.reduceAdd, Nat.reduceLeDiff, Nat.reduceMul, Nat.reduceLT, if_true, if_false, true_and, and_true, and_self, Nat.reduceBEq, QOp.loads, boxO, bslO, buildO, cutL, fillV, putL, w28, v28, R, W, encT, q1, q2]
  obtain ⟨k1, k2, k3, s3⟩ := A
  generalize hr : rs[n] = r at k1 k2 k3 s3 q1 q2 ⊢
  generalize ht : l[n] = t at k1 k2 k3 s3 hno
  rw [k1, k2, k3]
  have s1 := s3.ext (Ext.more H [[.int .i64 t.kind, .int .i64 t.value, r.nv, .int .i64 t.cost]])
  have R := s1.rulesN
  refine stepC.of (l1In_ok _ _ _ _) ?_
  rintro _ Hx ⟨hx, rfl⟩; rw [hx]; clear hx Hx
  by_cases c1 : 0 ≤ t.kind ∧ t.kind ≤ 9
  rotate_left
  · simp (maxSteps := 4000000) (disch := omega) only [ah, am, Nat.reduceEqDiff, reduceCtorEq, Nat.reduceAdd, Nat.reduceLeDiff, Nat.reduceMul, Nat.reduceLT, if_true, if_false, true_and, and_true, and_self, Nat.reduceBEq, QOp.loads, boxO, bslO, buildO, cutL, fillV, putL, w28, v28, decide_eq_false c1, Bool.not_false]
    exact ⟨e.trans (Ext.more _ _), by rw [hno]; exact fun q => c1 q.1⟩
  simp (maxSteps := 4000000) (disch := omega) only [ah, am, Nat.reduceEqDiff, reduceCtorEq, Nat.reduceAdd, Nat.reduceLeDiff, Nat.reduceMul, Nat.reduceLT, if_true, if_false, true_and, and_true, and_self, Nat.reduceBEq, QOp.loads, boxO, bslO, buildO, cutL, fillV, putL, w28, v28, decide_eq_true c1, Bool.not_true]
  refine stepC.of (l1Frame_ok _ _) ?_
  rintro _ Hx ⟨hx, rfl⟩; rw [hx]; clear hx Hx
  by_cases c2 : 0 ≤ t.value ∧ t.value ≤ 10000000
  rotate_left
  · simp (maxSteps := 4000000) (disch := omega) only [ah, am, Nat.reduceEqDiff, reduceCtorEq, Nat.reduceAdd, Nat.reduceLeDiff, Nat.reduceMul, Nat.reduceLT, if_true, if_false, true_and, and_true, and_self, Nat.reduceBEq, QOp.loads, boxO, bslO, buildO, cutL, fillV, putL, w28, v28, decide_eq_false c2, Bool.not_false]
    exact ⟨e.trans (Ext.more _ _), by rw [hno]; exact fun q => c2 q.2.1⟩
  simp (maxSteps := 4000000) (disch := omega) only [ah, am, Nat.reduceEqDiff, reduceCtorEq, Nat.reduceAdd, Nat.reduceLeDiff, Nat.reduceMul, Nat.reduceLT, if_true, if_false, true_and, and_true, and_self, Nat.reduceBEq, QOp.loads, boxO, bslO, buildO, cutL, fillV, putL, w28, v28, decide_eq_true c2, Bool.not_true, R]
  refine stepG.cases (fun c4 hc4 => ?_) (fun c4 hc4 => ?_)
  · simp (maxSteps := 4000000) (disch := omega) only [ah, am, Nat.reduceEqDiff, reduceCtorEq, Nat.reduceAdd, Nat.reduceLeDiff, Nat.reduceMul, Nat.reduceLT, if_true, if_false, true_and, and_true, and_self, Nat.reduceBEq, QOp.loads, boxO, bslO, buildO, cutL, fillV, putL, w28, v28, hc4]
    exact ⟨e.trans (Ext.more _ _), by rw [hno]; exact fun q => by have := q.2.2.2.1; omega⟩
  simp (maxSteps := 4000000) (disch := omega) only [ah, am, Nat.reduceEqDiff, reduceCtorEq, Nat.reduceAdd, Nat.reduceLeDiff, Nat.reduceMul, Nat.reduceLT, if_true, if_false, true_and, and_true, and_self, Nat.reduceBEq, QOp.loads, boxO, bslO, buildO, cutL, fillV, putL, w28, v28, hc4]
  refine stepC.of (l1In_ok _ _ _ _) ?_
  rintro _ Hx ⟨hx, rfl⟩; rw [hx]; clear hx Hx
  by_cases c3 : 1 ≤ t.cost ∧ t.cost ≤ 1000
  rotate_left
  · simp (maxSteps := 4000000) (disch := omega) only [ah, am, Nat.reduceEqDiff, reduceCtorEq, Nat.reduceAdd, Nat.reduceLeDiff, Nat.reduceMul, Nat.reduceLT, if_true, if_false, true_and, and_true, and_self, Nat.reduceBEq, QOp.loads, boxO, bslO, buildO, cutL, fillV, putL, w28, v28, decide_eq_false c3, Bool.not_false]
    exact ⟨e.trans (Ext.more _ _), by rw [hno]; exact fun q => c3 q.2.2.1⟩
  simp (maxSteps := 4000000) (disch := omega) only [ah, am, Nat.reduceEqDiff, reduceCtorEq, Nat.reduceAdd, Nat.reduceLeDiff, Nat.reduceMul, Nat.reduceLT, if_true, if_false, true_and, and_true, and_self, Nat.reduceBEq, QOp.loads, boxO, bslO, buildO, cutL, fillV, putL, w28, v28, decide_eq_true c3, Bool.not_true, R]
  refine SW_loop_up (fun i E H' => E = [(0, v), (3, .int .i64 n), (4, .pointer (some ⟨H.size, 0, none⟩)), (5, .int .i64 i)] ∧ H' = H.more [[.int .i64 t.kind, .int .i64 t.value, r.nv, .int .i64 t.cost]] ∧ ∀ j, j < i → needOk n t.needs j) t.needs.length 0 (by omega)
    ⟨rfl, rfl, fun j hj => absurd hj (by omega)⟩ ?_
  rintro i E K hi ⟨rfl, rfl, F⟩
  have Wi : IntKind.i64.wrap ((i : Int) + 1) = ((i + 1 : Nat) : Int) := i64e (by omega) (by omega)
  have W1 : IntKind.i64.wrap ((n : Int) - 1) = (n : Int) - 1 := i64e (by omega) (by omega)
  simp (maxSteps := 4000000) (disch := omega) only [ah, am, Nat.reduceEqDiff, reduceCtorEq, Nat.reduceAdd, Nat.reduceLeDiff, Nat.reduceMul, Nat.reduceLT, if_true, if_false, true_and, and_true, and_self, Nat.reduceBEq, QOp.loads, boxO, bslO, buildO, cutL, fillV, putL, w28, v28, R]
  refine stepI.split (fun hp => ?_) (fun hp => ?_)
  · have hi2 : i < t.needs.length := by omega
    simp (maxSteps := 4000000) (disch := omega) only [ah, am, Nat.reduceEqDiff, reduceCtorEq, Nat.reduceAdd, Nat.reduceLeDiff, Nat.reduceMul, Nat.reduceLT, if_true, if_false, true_and, and_true, and_self, Nat.reduceBEq, QOp.loads, boxO, bslO, buildO, cutL, fillV, putL, w28, v28, R, Wi, W1, encI]
    refine stepC.of (l1In_ok _ _ _ _) ?_
    rintro _ Hx ⟨hx, rfl⟩; rw [hx]; clear hx Hx
    by_cases d1 : 0 ≤ t.needs[i] ∧ t.needs[i] ≤ (n : Int) - 1
    rotate_left
    · simp (maxSteps := 4000000) (disch := omega) only [ah, am, Nat.reduceEqDiff, reduceCtorEq, Nat.reduceAdd, Nat.reduceLeDiff, Nat.reduceMul, Nat.reduceLT, if_true, if_false, true_and, and_true, and_self, Nat.reduceBEq, QOp.loads, boxO, bslO, buildO, cutL, fillV, putL, w28, v28, decide_eq_false d1, Bool.not_false]
      exact ⟨e.trans (Ext.more _ _), by rw [hno]; rintro q; obtain ⟨_, q1, q2, _⟩ := q.2.2.2.2 i hi2; exact d1 ⟨q1, q2⟩⟩
    simp (maxSteps := 4000000) (disch := omega) only [ah, am, Nat.reduceEqDiff, reduceCtorEq, Nat.reduceAdd, Nat.reduceLeDiff, Nat.reduceMul, Nat.reduceLT, if_true, if_false, true_and, and_true, and_self, Nat.reduceBEq, QOp.loads, boxO, bslO, buildO, cutL, fillV, putL, w28, v28, decide_eq_true d1, Bool.not_true]
    cases i with
    | zero =>
      simp (maxSteps := 4000000) (disch := omega) only [ah, am, Nat.reduceEqDiff, reduceCtorEq, Nat.reduceAdd, Nat.reduceLeDiff, Nat.reduceMul, Nat.reduceLT, if_true, if_false, true_and, and_true, and_self, Nat.reduceBEq, QOp.loads, boxO, bslO, buildO, cutL, fillV, putL, w28, v28, show decide ((0:Int) < ((0:Nat):Int)) = false from rfl, Wi]
      refine ⟨by omega, fun j hj => ⟨by omega, ?_⟩⟩
      obtain rfl : j = 0 := by omega
      exact ⟨d1.1, d1.2, fun i hi => absurd hi (by omega)⟩
    | succ i =>
      have W2 : IntKind.i64.wrap (((i + 1 : Nat) : Int) - 1) = (i : Int) := i64e (by omega) (by omega)
      simp (maxSteps := 4000000) (disch := omega) only [ah, am, Nat.reduceEqDiff, reduceCtorEq, Nat.reduceAdd, Nat.reduceLeDiff, Nat.reduceMul, Nat.reduceLT, if_true, if_false, true_and, and_true, and_self, Nat.reduceBEq, QOp.loads, boxO, bslO, buildO, cutL, fillV, putL, w28, v28, show decide ((0:Int) < ((i+1:Nat):Int)) = true from decide_eq_true (by omega), R, Wi, W2, encI]
      refine stepI.split (fun d2 => ?_) (fun d2 => ?_)
      · simp (maxSteps := 4000000) (disch := omega) only [ah, am, Nat.reduceEqDiff, reduceCtorEq, Nat.reduceAdd, Nat.reduceLeDiff, Nat.reduceMul, Nat.reduceLT, if_true, if_false, true_and, and_true, and_self, Nat.reduceBEq, QOp.loads, boxO, bslO, buildO, cutL, fillV, putL, w28, v28]
        exact ⟨e.trans (Ext.more _ _), by rw [hno]; rintro q; obtain ⟨_, q1, q2, q3⟩ := q.2.2.2.2 (i + 1) hi2; have := q3 i rfl; omega⟩
      · simp (maxSteps := 4000000) (disch := omega) only [ah, am, Nat.reduceEqDiff, reduceCtorEq, Nat.reduceAdd, Nat.reduceLeDiff, Nat.reduceMul, Nat.reduceLT, if_true, if_false, true_and, and_true, and_self, Nat.reduceBEq, QOp.loads, boxO, bslO, buildO, cutL, fillV, putL, w28, v28, Wi]
        refine ⟨by omega, fun j hj => ?_⟩
        by_cases hji : j = i + 1
        · subst hji; exact ⟨hi2, d1.1, d1.2, fun k hk => by obtain rfl : k = i := by omega
                                                            omega⟩
        · exact F j (by omega)
  · simp (maxSteps := 4000000) (disch := omega) only [ah, am, Nat.reduceEqDiff, reduceCtorEq, Nat.reduceAdd, Nat.reduceLeDiff, Nat.reduceMul, Nat.reduceLT, if_true, if_false, true_and, and_true, and_self, Nat.reduceBEq, QOp.loads, boxO, bslO, buildO, cutL, fillV, putL, w28, v28, W]
    obtain rfl : i = t.needs.length := by omega
    refine ⟨hn2, e.trans (Ext.more _ _), fun j h1 h2 => ?_⟩
    by_cases hj : j = n
    · subst hj; rw [ht]; exact ⟨c1, c2, c3, by omega, F⟩
    · exact G j (by omega) h2
end Go.Proofs.Ytbnkpligdcponaa
