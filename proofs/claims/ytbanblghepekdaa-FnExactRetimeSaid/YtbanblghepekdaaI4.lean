import Derived.Test.YtbanblghepekdaaS5
namespace Go.Proofs.Ytbanblghepekdaa
open Go Go.Ah
set_option linter.unusedSimpArgs false
set_option linter.unusedVariables false
set_option maxRecDepth 10000
set_option maxHeartbeats 4000000
/-! 55 loop.example/g00066/impl.in: parameters 3, live [0, 1, 2], slots [0:x, 1:least, 2:most, 3:x, 4:least, 5:most] -/
def c55_0 : List SOper := [⟨some 6, .q (.mv (.c (.bool false))), none⟩]
def c55_1 : List SOper := [⟨some 7, .q (.mv (.t 1)), none⟩, ⟨some 8, .q (.mv (.t 0)), none⟩, ⟨some 9, .q (.bin .leq (.t 7) (.t 8)), none⟩, ⟨some 10, .q (.mv (.t 9)), none⟩, ⟨some 11, .q (.mv (.t 0)), some (10, true)⟩, ⟨some 12, .q (.mv (.t 2)), some (10, true)⟩, ⟨some 13, .q (.bin .leq (.t 11) (.t 12)), some (10, true)⟩, ⟨some 14, .q (.pick (.t 10) (.t 13) (.c (.bool false))), none⟩, ⟨some 6, .q (.mv (.t 14)), none⟩]
def c55_2 : SCode := .seq (.region c55_1 [6]) .ret
def c55_3 : SCode := .seq (.region c55_0 [0, 1, 2]) c55_2
def c55 : SCode := c55_3
theorem w55 : type_of% (And.intro (uR Try.prog c55_0.eq_1) (And.intro (uR Try.prog c55_1.eq_1) (And.intro (uC Try.prog c55_2.eq_1) (And.intro (uC Try.prog c55_3.eq_1) (uC Try.prog c55.eq_1))))) := (And.intro (uR Try.prog c55_0.eq_1) (And.intro (uR Try.prog c55_1.eq_1) (And.intro (uC Try.prog c55_2.eq_1) (And.intro (uC Try.prog c55_3.eq_1) (uC Try.prog c55.eq_1)))))
def v55 : List RV := [.t 6]
theorem s55 : slimF Try.prog Try.f55 = some (c55.bare, v55) := by kernel_rfl
/-! 66 (loop.example/g00066/impl.Clip).isGap: parameters 1, live [0], slots [0:c, 1:c] -/
def c66_0 : List SOper := [⟨some 1, .a (.box (.t 0)), none⟩, ⟨some 2, .q (.mv (.c (.bool false))), none⟩]
def c66_1 : List SOper := [⟨some 3, .q (.fa 0 (.t 1)), none⟩, ⟨some 4, .q (.ld (.t 3)), none⟩, ⟨some 5, .q (.bin .eql (.t 4) (.c (.int .i64 0))), none⟩, ⟨some 2, .q (.mv (.t 5)), none⟩]
def c66_2 : SCode := .seq (.region c66_1 [2]) .ret
def c66_3 : SCode := .seq (.region c66_0 [1]) c66_2
def c66 : SCode := c66_3
theorem w66 : type_of% (And.intro (uR Try.prog c66_0.eq_1) (And.intro (uR Try.prog c66_1.eq_1) (And.intro (uC Try.prog c66_2.eq_1) (And.intro (uC Try.prog c66_3.eq_1) (uC Try.prog c66.eq_1))))) := (And.intro (uR Try.prog c66_0.eq_1) (And.intro (uR Try.prog c66_1.eq_1) (And.intro (uC Try.prog c66_2.eq_1) (And.intro (uC Try.prog c66_3.eq_1) (uC Try.prog c66.eq_1)))))
def v66 : List RV := [.t 2]
theorem s66 : slimF Try.prog Try.f66 = some (c66.bare, v66) := by kernel_rfl
/-! 57 (loop.example/g00066/impl.Clip).ok: parameters 1, live [0], slots [0:c, 1:c] -/
def c57_0 : List SOper := [⟨some 1, .a (.box (.t 0)), none⟩, ⟨some 2, .q (.mv (.c (.bool false))), none⟩]
def c57_1 : List SOper := [⟨some 3, .q (.fa 0 (.t 1)), none⟩, ⟨some 4, .q (.ld (.t 3)), none⟩, ⟨some 5, .e (.call 55 [(.t 4), (.c (.int .i64 0)), (.c (.int .i64 500))]), none⟩, ⟨some 6, .q (.not (.t 5)), none⟩, ⟨some 7, .q (.mv (.t 6)), none⟩, ⟨some 8, .q (.fa 1 (.t 1)), some (7, false)⟩, ⟨some 9, .q (.ld (.t 8)), some (7, false)⟩, ⟨some 10, .e (.call 55 [(.t 9), (.c (.int .i64 0)), (.c (.int .i64 10000000))]), some (7, false)⟩, ⟨some 11, .q (.not (.t 10)), some (7, false)⟩, ⟨some 12, .q (.pick (.t 7) (.c (.bool true)) (.t 11)), none⟩, ⟨some 13, .q (.mv (.t 12)), none⟩, ⟨some 14, .q (.fa 2 (.t 1)), some (13, false)⟩, ⟨some 15, .q (.ld (.t 14)), some (13, false)⟩, ⟨some 16, .e (.call 55 [(.t 15), (.c (.int .i64 1)), (.c (.int .i64 10000000))]), some (13, false)⟩, ⟨some 17, .q (.not (.t 16)), some (13, false)⟩, ⟨some 18, .q (.pick (.t 13) (.c (.bool true)) (.t 17)), none⟩]
def c57_2 : List SOper := [⟨some 2, .q (.mv (.c (.bool false))), none⟩]
def c57_3 : SCode := .seq (.region c57_2 [2]) .ret
def c57_4 : SCode := .cond (.t 18) c57_3 .skip
def c57_5 : SCode := .seq (.region c57_1 [1, 18]) c57_4
def c57_6 : List SOper := [⟨some 19, .q (.ldn 3 (.t 1)), none⟩, ⟨some 20, .e (.call 66 [(.t 19)]), none⟩, ⟨some 21, .q (.mv (.t 20)), none⟩, ⟨some 22, .q (.fa 1 (.t 1)), some (21, true)⟩, ⟨some 23, .q (.ld (.t 22)), some (21, true)⟩, ⟨some 24, .q (.bin .eql (.t 23) (.c (.int .i64 0))), some (21, true)⟩, ⟨some 25, .q (.pick (.t 21) (.t 24) (.c (.bool false))), none⟩, ⟨some 26, .q (.mv (.t 25)), none⟩, ⟨some 27, .q (.ldn 3 (.t 1)), some (26, false)⟩, ⟨some 28, .e (.call 66 [(.t 27)]), some (26, false)⟩, ⟨some 29, .q (.not (.t 28)), some (26, false)⟩, ⟨some 30, .q (.mv (.t 29)), some (26, false)⟩, ⟨some 31, .q (.fa 1 (.t 1)), some (30, true)⟩, ⟨some 32, .q (.ld (.t 31)), some (30, true)⟩, ⟨some 33, .q (.fa 2 (.t 1)), some (30, true)⟩, ⟨some 34, .q (.ld (.t 33)), some (30, true)⟩, ⟨some 35, .q (.bin .add (.t 32) (.t 34)), some (30, true)⟩, ⟨some 36, .q (.bin .leq (.t 35) (.c (.int .i64 10000000))), some (30, true)⟩, ⟨some 37, .q (.pick (.t 30) (.t 36) (.c (.bool false))), some (26, false)⟩, ⟨some 38, .q (.pick (.t 26) (.c (.bool true)) (.t 37)), none⟩, ⟨some 2, .q (.mv (.t 38)), none⟩]
def c57_7 : SCode := .seq (.region c57_6 [2]) .ret
def c57_8 : SCode := .seq c57_5 c57_7
def c57_9 : SCode := .seq (.region c57_0 [1]) c57_8
def c57 : SCode := c57_9
theorem w57 : type_of% (And.intro (uR Try.prog c57_0.eq_1) (And.intro (uR Try.prog c57_1.eq_1) (And.intro (uR Try.prog c57_2.eq_1) (And.intro (uC Try.prog c57_3.eq_1) (And.intro (uC Try.prog c57_4.eq_1) (And.intro (uC Try.prog c57_5.eq_1) (And.intro (uR Try.prog c57_6.eq_1) (And.intro (uC Try.prog c57_7.eq_1) (And.intro (uC Try.prog c57_8.eq_1) (And.intro (uC Try.prog c57_9.eq_1) (uC Try.prog c57.eq_1))))))))))) := (And.intro (uR Try.prog c57_0.eq_1) (And.intro (uR Try.prog c57_1.eq_1) (And.intro (uR Try.prog c57_2.eq_1) (And.intro (uC Try.prog c57_3.eq_1) (And.intro (uC Try.prog c57_4.eq_1) (And.intro (uC Try.prog c57_5.eq_1) (And.intro (uR Try.prog c57_6.eq_1) (And.intro (uC Try.prog c57_7.eq_1) (And.intro (uC Try.prog c57_8.eq_1) (And.intro (uC Try.prog c57_9.eq_1) (uC Try.prog c57.eq_1)))))))))))
def v57 : List RV := [.t 2]
theorem s57 : slimF Try.prog Try.f57 = some (c57.bare, v57) := by kernel_rfl
/-! 82 loop.example/g00066/impl.TrackOk$1: parameters 1, live [0], slots [0:c, 1:c] -/
def c82_0 : List SOper := [⟨some 1, .a (.box (.t 0)), none⟩, ⟨some 2, .q (.mv (.c (.bool false))), none⟩]
def c82_1 : List SOper := [⟨some 3, .q (.ldn 3 (.t 1)), none⟩, ⟨some 4, .e (.call 57 [(.t 3)]), none⟩, ⟨some 5, .q (.not (.t 4)), none⟩, ⟨some 2, .q (.mv (.t 5)), none⟩]
def c82_2 : SCode := .seq (.region c82_1 [2]) .ret
def c82_3 : SCode := .seq (.region c82_0 [1]) c82_2
def c82 : SCode := c82_3
theorem w82 : type_of% (And.intro (uR Try.prog c82_0.eq_1) (And.intro (uR Try.prog c82_1.eq_1) (And.intro (uC Try.prog c82_2.eq_1) (And.intro (uC Try.prog c82_3.eq_1) (uC Try.prog c82.eq_1))))) := (And.intro (uR Try.prog c82_0.eq_1) (And.intro (uR Try.prog c82_1.eq_1) (And.intro (uC Try.prog c82_2.eq_1) (And.intro (uC Try.prog c82_3.eq_1) (uC Try.prog c82.eq_1)))))
def v82 : List RV := [.t 2]
theorem s82 : slimF Try.prog Try.f82 = some (c82.bare, v82) := by kernel_rfl
/-! 93 slices.IndexFunc[[]loop.example/g00066/impl.Clip,loop.example/g00066/impl.Clip]: parameters 2, live [0, 1], slots [0:s, 1:f, 2:s, 3:f, 5:i] -/
def c93_0 : List SOper := [⟨some 4, .q (.mv (.c (.int .i64 0))), none⟩]
def c93_1 : List SOper := [⟨some 6, .q (.mv (.t 0)), none⟩, ⟨some 7, .q (.len (.t 6)), none⟩, ⟨some 8, .q (.mv (.c (.int .i64 0))), none⟩]
def c93_2 : List SOper := [⟨some 9, .q (.bin .lss (.t 8) (.t 7)), none⟩]
def c93_3 : SCode := .cond (.t 9) .skip (.exit 0)
def c93_4 : List SOper := [⟨some 10, .q (.mv (.t 8)), none⟩, ⟨some 5, .q (.mv (.t 10)), none⟩]
def c93_5 : List SOper := [⟨some 11, .q (.mv (.t 1)), none⟩, ⟨some 12, .q (.mv (.t 0)), none⟩, ⟨some 13, .q (.mv (.t 5)), none⟩, ⟨some 14, .q (.ia 3 (.t 12) (.t 13)), none⟩, ⟨some 15, .q (.ldn 3 (.t 14)), none⟩, ⟨some 16, .e (.callv (.t 11) [(.t 15)]), none⟩]
def c93_6 : List SOper := [⟨some 17, .q (.mv (.t 5)), none⟩, ⟨some 4, .q (.mv (.t 17)), none⟩]
def c93_7 : SCode := .seq (.region c93_6 [4]) .ret
def c93_8 : SCode := .cond (.t 16) c93_7 .skip
def c93_9 : SCode := .seq (.region c93_5 [0, 1, 5, 7, 8, 16]) c93_8
def c93_10 : SCode := .seq (.region c93_4 [0, 1, 5, 7, 8]) c93_9
def c93_11 : SCode := .block 1 c93_10
def c93_12 : List SOper := [⟨some 18, .q (.bin .add (.t 8) (.c (.int .i64 1))), none⟩, ⟨some 8, .q (.mv (.t 18)), none⟩]
def c93_13 : SCode := .seq c93_11 (.region c93_12 [0, 1, 7, 8])
def c93_14 : SCode := .seq c93_3 c93_13
def c93_15 : SCode := .seq (.region c93_2 [0, 1, 7, 8, 9]) c93_14
def c93_16 : SCode := .loop c93_15
def c93_17 : SCode := .block 0 c93_16
def c93_18 : SCode := .seq (.region c93_1 [0, 1, 7, 8]) c93_17
def c93_19 : List SOper := [⟨some 4, .q (.mv (.c (.int .i64 (-1)))), none⟩]
def c93_20 : SCode := .seq (.region c93_19 [4]) .ret
def c93_21 : SCode := .seq c93_18 c93_20
def c93_22 : SCode := .seq (.region c93_0 [0, 1]) c93_21
def c93 : SCode := c93_22
theorem w93 : type_of% (And.intro (uR Try.prog c93_0.eq_1) (And.intro (uR Try.prog c93_1.eq_1) (And.intro (uR Try.prog c93_2.eq_1) (And.intro (uC Try.prog c93_3.eq_1) (And.intro (uR Try.prog c93_4.eq_1) (And.intro (uR Try.prog c93_5.eq_1) (And.intro (uR Try.prog c93_6.eq_1) (And.intro (uC Try.prog c93_7.eq_1) (And.intro (uC Try.prog c93_8.eq_1) (And.intro (uC Try.prog c93_9.eq_1) (And.intro (uC Try.prog c93_10.eq_1) (And.intro (uC Try.prog c93_11.eq_1) (And.intro (uR Try.prog c93_12.eq_1) (And.intro (uC Try.prog c93_13.eq_1) (And.intro (uC Try.prog c93_14.eq_1) (And.intro (uC Try.prog c93_15.eq_1) (And.intro (uC Try.prog c93_16.eq_1) (And.intro (uC Try.prog c93_17.eq_1) (And.intro (uC Try.prog c93_18.eq_1) (And.intro (uR Try.prog c93_19.eq_1) (And.intro (uC Try.prog c93_20.eq_1) (And.intro (uC Try.prog c93_21.eq_1) (And.intro (uC Try.prog c93_22.eq_1) (uC Try.prog c93.eq_1)))))))))))))))))))))))) := (And.intro (uR Try.prog c93_0.eq_1) (And.intro (uR Try.prog c93_1.eq_1) (And.intro (uR Try.prog c93_2.eq_1) (And.intro (uC Try.prog c93_3.eq_1) (And.intro (uR Try.prog c93_4.eq_1) (And.intro (uR Try.prog c93_5.eq_1) (And.intro (uR Try.prog c93_6.eq_1) (And.intro (uC Try.prog c93_7.eq_1) (And.intro (uC Try.prog c93_8.eq_1) (And.intro (uC Try.prog c93_9.eq_1) (And.intro (uC Try.prog c93_10.eq_1) (And.intro (uC Try.prog c93_11.eq_1) (And.intro (uR Try.prog c93_12.eq_1) (And.intro (uC Try.prog c93_13.eq_1) (And.intro (uC Try.prog c93_14.eq_1) (And.intro (uC Try.prog c93_15.eq_1) (And.intro (uC Try.prog c93_16.eq_1) (And.intro (uC Try.prog c93_17.eq_1) (And.intro (uC Try.prog c93_18.eq_1) (And.intro (uR Try.prog c93_19.eq_1) (And.intro (uC Try.prog c93_20.eq_1) (And.intro (uC Try.prog c93_21.eq_1) (And.intro (uC Try.prog c93_22.eq_1) (uC Try.prog c93.eq_1))))))))))))))))))))))))
def v93 : List RV := [.t 4]
theorem s93 : slimF Try.prog Try.f93 = some (c93.bare, v93) := by kernel_rfl
/-! 81 slices.ContainsFunc[[]loop.example/g00066/impl.Clip,loop.example/g00066/impl.Clip]: parameters 2, live [0, 1], slots [0:s, 1:f, 2:s, 3:f] -/
def c81_0 : List SOper := [⟨some 4, .q (.mv (.c (.bool false))), none⟩]
def c81_1 : List SOper := [⟨some 5, .q (.mv (.t 0)), none⟩, ⟨some 6, .q (.mv (.t 1)), none⟩, ⟨some 7, .e (.call 93 [(.t 5), (.t 6)]), none⟩, ⟨some 8, .q (.bin .geq (.t 7) (.c (.int .i64 0))), none⟩, ⟨some 4, .q (.mv (.t 8)), none⟩]
def c81_2 : SCode := .seq (.region c81_1 [4]) .ret
def c81_3 : SCode := .seq (.region c81_0 [0, 1]) c81_2
def c81 : SCode := c81_3
theorem w81 : type_of% (And.intro (uR Try.prog c81_0.eq_1) (And.intro (uR Try.prog c81_1.eq_1) (And.intro (uC Try.prog c81_2.eq_1) (And.intro (uC Try.prog c81_3.eq_1) (uC Try.prog c81.eq_1))))) := (And.intro (uR Try.prog c81_0.eq_1) (And.intro (uR Try.prog c81_1.eq_1) (And.intro (uC Try.prog c81_2.eq_1) (And.intro (uC Try.prog c81_3.eq_1) (uC Try.prog c81.eq_1)))))
def v81 : List RV := [.t 4]
theorem s81 : slimF Try.prog Try.f81 = some (c81.bare, v81) := by kernel_rfl
/-! 54 loop.example/g00066/impl.TrackOk: parameters 1, live [0], slots [0:track, 1:track] -/
def c54_0 : List SOper := [⟨some 2, .q (.mv (.c (.bool false))), none⟩]
def c54_1 : List SOper := [⟨some 3, .q (.mv (.t 0)), none⟩, ⟨some 4, .q (.len (.t 3)), none⟩, ⟨some 5, .q (.bin .leq (.t 4) (.c (.int .i64 300))), none⟩, ⟨some 6, .q (.mv (.t 5)), none⟩, ⟨some 7, .q (.mv (.t 0)), some (6, true)⟩, ⟨some 8, .e (.call 81 [(.t 7), (.f 82)]), some (6, true)⟩, ⟨some 9, .q (.not (.t 8)), some (6, true)⟩, ⟨some 10, .q (.pick (.t 6) (.t 9) (.c (.bool false))), none⟩, ⟨some 11, .q (.mv (.t 10)), none⟩, ⟨some 12, .q (.mv (.t 0)), some (11, true)⟩, ⟨some 13, .e (.call 62 [(.t 12)]), some (11, true)⟩, ⟨some 14, .q (.bin .leq (.t 13) (.c (.int .i64 10000000))), some (11, true)⟩, ⟨some 15, .q (.pick (.t 11) (.t 14) (.c (.bool false))), none⟩, ⟨some 2, .q (.mv (.t 15)), none⟩]
def c54_2 : SCode := .seq (.region c54_1 [2]) .ret
def c54_3 : SCode := .seq (.region c54_0 [0]) c54_2
def c54 : SCode := c54_3
theorem w54 : type_of% (And.intro (uR Try.prog c54_0.eq_1) (And.intro (uR Try.prog c54_1.eq_1) (And.intro (uC Try.prog c54_2.eq_1) (And.intro (uC Try.prog c54_3.eq_1) (uC Try.prog c54.eq_1))))) := (And.intro (uR Try.prog c54_0.eq_1) (And.intro (uR Try.prog c54_1.eq_1) (And.intro (uC Try.prog c54_2.eq_1) (And.intro (uC Try.prog c54_3.eq_1) (uC Try.prog c54.eq_1)))))
def v54 : List RV := [.t 2]
theorem s54 : slimF Try.prog Try.f54 = some (c54.bare, v54) := by kernel_rfl
/-! 62 loop.example/g00066/impl.long: parameters 1, live [0], slots [0:track, 1:track, 3:out, 4:_, 5:c] -/
def c62_0 : List SOper := [⟨some 2, .q (.mv (.c (.int .i64 0))), none⟩]
def c62_1 : List SOper := [⟨some 3, .q (.mv (.c (.int .i64 0))), none⟩]
def c62_2 : List SOper := [⟨some 6, .q (.mv (.t 0)), none⟩, ⟨some 7, .q (.len (.t 6)), none⟩, ⟨some 8, .q (.mv (.c (.int .i64 0))), none⟩]
def c62_3 : List SOper := [⟨some 9, .q (.bin .lss (.t 8) (.t 7)), none⟩]
def c62_4 : SCode := .cond (.t 9) .skip (.exit 0)
def c62_5 : List SOper := [⟨some 10, .q (.ia 3 (.t 6) (.t 8)), none⟩, ⟨some 11, .q (.ldn 3 (.t 10)), none⟩, ⟨some 5, .a (.new [(.int .i64 0), (.int .i64 0), (.int .i64 0)]), none⟩, ⟨none, .e (.st 3 (.t 5) (.t 11)), none⟩]
def c62_6 : List SOper := [⟨some 12, .q (.mv (.t 3)), none⟩, ⟨some 13, .q (.fa 2 (.t 5)), none⟩, ⟨some 14, .q (.ld (.t 13)), none⟩, ⟨some 15, .q (.bin .add (.t 12) (.t 14)), none⟩, ⟨some 3, .q (.mv (.t 15)), none⟩]
def c62_7 : SCode := .seq (.region c62_5 [3, 5, 6, 7, 8]) (.region c62_6 [3, 6, 7, 8])
def c62_8 : SCode := .block 1 c62_7
def c62_9 : List SOper := [⟨some 16, .q (.bin .add (.t 8) (.c (.int .i64 1))), none⟩, ⟨some 8, .q (.mv (.t 16)), none⟩]
def c62_10 : SCode := .seq c62_8 (.region c62_9 [3, 6, 7, 8])
def c62_11 : SCode := .seq c62_4 c62_10
def c62_12 : SCode := .seq (.region c62_3 [3, 6, 7, 8, 9]) c62_11
def c62_13 : SCode := .loop c62_12
def c62_14 : SCode := .block 0 c62_13
def c62_15 : SCode := .seq (.region c62_2 [3, 6, 7, 8]) c62_14
def c62_16 : List SOper := [⟨some 17, .q (.mv (.t 3)), none⟩, ⟨some 2, .q (.mv (.t 17)), none⟩]
def c62_17 : SCode := .seq (.region c62_16 [2]) .ret
def c62_18 : SCode := .seq c62_15 c62_17
def c62_19 : SCode := .seq (.region c62_1 [0, 3]) c62_18
def c62_20 : SCode := .seq (.region c62_0 [0]) c62_19
def c62 : SCode := c62_20
theorem w62 : type_of% (And.intro (uR Try.prog c62_0.eq_1) (And.intro (uR Try.prog c62_1.eq_1) (And.intro (uR Try.prog c62_2.eq_1) (And.intro (uR Try.prog c62_3.eq_1) (And.intro (uC Try.prog c62_4.eq_1) (And.intro (uR Try.prog c62_5.eq_1) (And.intro (uR Try.prog c62_6.eq_1) (And.intro (uC Try.prog c62_7.eq_1) (And.intro (uC Try.prog c62_8.eq_1) (And.intro (uR Try.prog c62_9.eq_1) (And.intro (uC Try.prog c62_10.eq_1) (And.intro (uC Try.prog c62_11.eq_1) (And.intro (uC Try.prog c62_12.eq_1) (And.intro (uC Try.prog c62_13.eq_1) (And.intro (uC Try.prog c62_14.eq_1) (And.intro (uC Try.prog c62_15.eq_1) (And.intro (uR Try.prog c62_16.eq_1) (And.intro (uC Try.prog c62_17.eq_1) (And.intro (uC Try.prog c62_18.eq_1) (And.intro (uC Try.prog c62_19.eq_1) (And.intro (uC Try.prog c62_20.eq_1) (uC Try.prog c62.eq_1)))))))))))))))))))))) := (And.intro (uR Try.prog c62_0.eq_1) (And.intro (uR Try.prog c62_1.eq_1) (And.intro (uR Try.prog c62_2.eq_1) (And.intro (uR Try.prog c62_3.eq_1) (And.intro (uC Try.prog c62_4.eq_1) (And.intro (uR Try.prog c62_5.eq_1) (And.intro (uR Try.prog c62_6.eq_1) (And.intro (uC Try.prog c62_7.eq_1) (And.intro (uC Try.prog c62_8.eq_1) (And.intro (uR Try.prog c62_9.eq_1) (And.intro (uC Try.prog c62_10.eq_1) (And.intro (uC Try.prog c62_11.eq_1) (And.intro (uC Try.prog c62_12.eq_1) (And.intro (uC Try.prog c62_13.eq_1) (And.intro (uC Try.prog c62_14.eq_1) (And.intro (uC Try.prog c62_15.eq_1) (And.intro (uR Try.prog c62_16.eq_1) (And.intro (uC Try.prog c62_17.eq_1) (And.intro (uC Try.prog c62_18.eq_1) (And.intro (uC Try.prog c62_19.eq_1) (And.intro (uC Try.prog c62_20.eq_1) (uC Try.prog c62.eq_1))))))))))))))))))))))
def v62 : List RV := [.t 2]
theorem s62 : slimF Try.prog Try.f62 = some (c62.bare, v62) := by kernel_rfl
/-! 94 (loop.example/g00066/impl.Clip).follows: parameters 2, live [0, 1], slots [0:c, 1:ahead, 2:c, 3:ahead] -/
def c94_0 : List SOper := [⟨some 2, .a (.box (.t 0)), none⟩, ⟨some 3, .a (.box (.t 1)), none⟩, ⟨some 4, .q (.mv (.c (.bool false))), none⟩]
def c94_1 : List SOper := [⟨some 5, .q (.fa 0 (.t 2)), none⟩, ⟨some 6, .q (.ld (.t 5)), none⟩, ⟨some 7, .q (.fa 0 (.t 3)), none⟩, ⟨some 8, .q (.ld (.t 7)), none⟩, ⟨some 9, .q (.bin .eql (.t 6) (.t 8)), none⟩, ⟨some 10, .q (.mv (.t 9)), none⟩, ⟨some 11, .q (.ldn 3 (.t 2)), some (10, true)⟩, ⟨some 12, .e (.call 66 [(.t 11)]), some (10, true)⟩, ⟨some 13, .q (.mv (.t 12)), some (10, true)⟩, ⟨some 14, .q (.fa 1 (.t 2)), some (13, false)⟩, ⟨some 15, .q (.ld (.t 14)), some (13, false)⟩, ⟨some 16, .q (.fa 1 (.t 3)), some (13, false)⟩, ⟨some 17, .q (.ld (.t 16)), some (13, false)⟩, ⟨some 18, .q (.fa 2 (.t 3)), some (13, false)⟩, ⟨some 19, .q (.ld (.t 18)), some (13, false)⟩, ⟨some 20, .q (.bin .add (.t 17) (.t 19)), some (13, false)⟩, ⟨some 21, .q (.bin .eql (.t 15) (.t 20)), some (13, false)⟩, ⟨some 22, .q (.pick (.t 13) (.c (.bool true)) (.t 21)), some (10, true)⟩, ⟨some 23, .q (.pick (.t 10) (.t 22) (.c (.bool false))), none⟩, ⟨some 4, .q (.mv (.t 23)), none⟩]
def c94_2 : SCode := .seq (.region c94_1 [4]) .ret
def c94_3 : SCode := .seq (.region c94_0 [2, 3]) c94_2
def c94 : SCode := c94_3
theorem w94 : type_of% (And.intro (uR Try.prog c94_0.eq_1) (And.intro (uR Try.prog c94_1.eq_1) (And.intro (uC Try.prog c94_2.eq_1) (And.intro (uC Try.prog c94_3.eq_1) (uC Try.prog c94.eq_1))))) := (And.intro (uR Try.prog c94_0.eq_1) (And.intro (uR Try.prog c94_1.eq_1) (And.intro (uC Try.prog c94_2.eq_1) (And.intro (uC Try.prog c94_3.eq_1) (uC Try.prog c94.eq_1)))))
def v94 : List RV := [.t 4]
theorem s94 : slimF Try.prog Try.f94 = some (c94.bare, v94) := by kernel_rfl
/-! 56 slices.Clone[[]loop.example/g00066/impl.Clip,loop.example/g00066/impl.Clip]: parameters 1, live [0], slots [0:s, 1:s] -/
def c56_0 : List SOper := [⟨some 2, .q (.mv (.c (.slice none 0 0))), none⟩]
def c56_1 : List SOper := [⟨some 3, .q (.mv (.t 0)), none⟩, ⟨some 4, .q (.eqs false (.t 3) (.c (.slice none 0 0))), none⟩]
def c56_2 : List SOper := [⟨some 2, .q (.mv (.c (.slice none 0 0))), none⟩]
def c56_3 : SCode := .seq (.region c56_2 [2]) .ret
def c56_4 : SCode := .cond (.t 4) c56_3 .skip
def c56_5 : SCode := .seq (.region c56_1 [0, 4]) c56_4
def c56_6 : List SOper := [⟨some 5, .a (.bsl 0 3 [] []), none⟩, ⟨some 6, .q (.mv (.t 0)), none⟩, ⟨some 7, .e (.app 24 3 (.t 5) (.t 6)), none⟩, ⟨some 2, .q (.mv (.t 7)), none⟩]
def c56_7 : SCode := .seq (.region c56_6 [2]) .ret
def c56_8 : SCode := .seq c56_5 c56_7
def c56_9 : SCode := .seq (.region c56_0 [0]) c56_8
def c56 : SCode := c56_9
theorem w56 : type_of% (And.intro (uR Try.prog c56_0.eq_1) (And.intro (uR Try.prog c56_1.eq_1) (And.intro (uR Try.prog c56_2.eq_1) (And.intro (uC Try.prog c56_3.eq_1) (And.intro (uC Try.prog c56_4.eq_1) (And.intro (uC Try.prog c56_5.eq_1) (And.intro (uR Try.prog c56_6.eq_1) (And.intro (uC Try.prog c56_7.eq_1) (And.intro (uC Try.prog c56_8.eq_1) (And.intro (uC Try.prog c56_9.eq_1) (uC Try.prog c56.eq_1))))))))))) := (And.intro (uR Try.prog c56_0.eq_1) (And.intro (uR Try.prog c56_1.eq_1) (And.intro (uR Try.prog c56_2.eq_1) (And.intro (uC Try.prog c56_3.eq_1) (And.intro (uC Try.prog c56_4.eq_1) (And.intro (uC Try.prog c56_5.eq_1) (And.intro (uR Try.prog c56_6.eq_1) (And.intro (uC Try.prog c56_7.eq_1) (And.intro (uC Try.prog c56_8.eq_1) (And.intro (uC Try.prog c56_9.eq_1) (uC Try.prog c56.eq_1)))))))))))
def v56 : List RV := [.t 2]
theorem s56 : slimF Try.prog Try.f56 = some (c56.bare, v56) := by kernel_rfl

theorem in_ok (h : Heap) (x lo hi : Int) : ACall Try.prog 55 [.int .i64 x, .int .i64 lo, .int .i64 hi] h fun r h' => h' = h ∧ r = .bool (decide (lo ≤ x ∧ x ≤ hi)) := by
  refine ACall.of Try.func55 s55 (of_decide_eq_true rfl) ?_
  simp (maxSteps := 4000000) (disch := omega) only [ah, am, Nat.reduceEqDiff, reduceCtorEq, Nat.reduceAdd, Nat.reduceLeDiff, Nat.reduceMul, Nat.reduceLT, if_true, if_false, true_and, and_true, and_self, Nat.reduceBEq, QOp.loads, boxO, bslO, buildO, cutL, fillV, putL, w55, v55]
  (repeat' first
    | (refine stepG.cases (fun _ hp => ?_) (fun _ hp => ?_) <;> simp (maxSteps := 4000000) (disch := omega) only [hp, ah, am, Nat.reduceEqDiff, reduceCtorEq, Nat.reduceAdd, Nat.reduceLeDiff, Nat.reduceMul, Nat.reduceLT, if_true, if_false, true_and, and_true, and_self, Nat.reduceBEq, QOp.loads, boxO, bslO, buildO, cutL, fillV, putL, i64w, w55, v55])
    | (refine stepI.cases (fun _ hp => ?_) (fun _ hp => ?_) <;> simp (maxSteps := 4000000) (disch := omega) only [hp, ah, am, Nat.reduceEqDiff, reduceCtorEq, Nat.reduceAdd, Nat.reduceLeDiff, Nat.reduceMul, Nat.reduceLT, if_true, if_false, true_and, and_true, and_self, Nat.reduceBEq, QOp.loads, boxO, bslO, buildO, cutL, fillV, putL, i64w, w55, v55]))
  all_goals (refine bool_dec ?_; try simp only [decide_eq_true_eq, Bool.false_eq_true, false_and, and_false, true_and, and_true, false_iff, iff_false, true_iff, iff_true, not_false_eq_true, false_or, or_false, true_or, or_true]; first | done | omega | (refine Iff.intro (fun hq => ?_) (fun hq => ?_) <;> omega))
theorem isGap_ok (h : Heap) (k : Clip) : ACall Try.prog 66 [.agg (encClip k).toArray] h fun r h' => h' = h.more [encClip k] ∧ r = .bool (decide (k.src = 0)) := by
  obtain ⟨a, b, c⟩ := k
  refine ACall.of Try.func66 s66 (of_decide_eq_true rfl) ?_
  simp (maxSteps := 4000000) (disch := omega) only [ah, am, Nat.reduceEqDiff, reduceCtorEq, Nat.reduceAdd, Nat.reduceLeDiff, Nat.reduceMul, Nat.reduceLT, if_true, if_false, true_and, and_true, and_self, Nat.reduceBEq, QOp.loads, boxO, bslO, buildO, cutL, fillV, putL, w66, v66, encClip]
theorem isGap_ok' (h : Heap) (a b c : Int) : ACall Try.prog 66 [.agg [.int .i64 a, .int .i64 b, .int .i64 c].toArray] h fun r h' => h' = h.more [[.int .i64 a, .int .i64 b, .int .i64 c]] ∧ r = .bool (decide (a = 0)) := isGap_ok h ⟨a, b, c⟩
theorem ok_ok (h : Heap) (k : Clip) : ACall Try.prog 57 [.agg (encClip k).toArray] h fun r h' => Ext h h' ∧ r = .bool (decide (clipOk k)) := by
  obtain ⟨a, b, c⟩ := k
  refine ACall.of Try.func57 s57 (of_decide_eq_true rfl) ?_
  simp (maxSteps := 4000000) (disch := omega) only [ah, am, Nat.reduceEqDiff, reduceCtorEq, Nat.reduceAdd, Nat.reduceLeDiff, Nat.reduceMul, Nat.reduceLT, if_true, if_false, true_and, and_true, and_self, Nat.reduceBEq, QOp.loads, boxO, bslO, buildO, cutL, fillV, putL, w57, v57, encClip]
  (repeat' first
    | (refine stepC.of (in_ok _ _ _ _) ?_; rintro _ _ ⟨rfl, rfl⟩; simp (maxSteps := 4000000) (disch := omega) only [ah, am, Nat.reduceEqDiff, reduceCtorEq, Nat.reduceAdd, Nat.reduceLeDiff, Nat.reduceMul, Nat.reduceLT, if_true, if_false, true_and, and_true, and_self, Nat.reduceBEq, QOp.loads, boxO, bslO, buildO, cutL, fillV, putL, i64w, w57, v57])
    | (refine stepC.of (isGap_ok' _ _ _ _) ?_; rintro _ _ ⟨rfl, rfl⟩; simp (maxSteps := 4000000) (disch := omega) only [ah, am, Nat.reduceEqDiff, reduceCtorEq, Nat.reduceAdd, Nat.reduceLeDiff, Nat.reduceMul, Nat.reduceLT, if_true, if_false, true_and, and_true, and_self, Nat.reduceBEq, QOp.loads, boxO, bslO, buildO, cutL, fillV, putL, i64w, w57, v57])
    | (refine stepG.cases (fun _ hp => ?_) (fun _ hp => ?_) <;> simp (maxSteps := 4000000) (disch := omega) only [hp, ah, am, Nat.reduceEqDiff, reduceCtorEq, Nat.reduceAdd, Nat.reduceLeDiff, Nat.reduceMul, Nat.reduceLT, if_true, if_false, true_and, and_true, and_self, Nat.reduceBEq, QOp.loads, boxO, bslO, buildO, cutL, fillV, putL, i64w, w57, v57])
    | (refine stepI.cases (fun _ hp => ?_) (fun _ hp => ?_) <;> simp (maxSteps := 4000000) (disch := omega) only [hp, ah, am, Nat.reduceEqDiff, reduceCtorEq, Nat.reduceAdd, Nat.reduceLeDiff, Nat.reduceMul, Nat.reduceLT, if_true, if_false, true_and, and_true, and_self, Nat.reduceBEq, QOp.loads, boxO, bslO, buildO, cutL, fillV, putL, i64w, w57, v57]))
  all_goals (refine ⟨Ext.more _ _, ?_⟩; refine bool_dec ?_; try simp only [decide_eq_true_eq, Bool.false_eq_true, false_and, and_false, true_and, and_true, false_iff, iff_false, true_iff, iff_true, not_false_eq_true, false_or, or_false, true_or, or_true, clipOk]; first | done | omega | (refine Iff.intro (fun hq => ?_) (fun hq => ?_) <;> omega))
theorem TrackOk1_ok (h : Heap) (k : Clip) : ACall Try.prog 82 [.agg (encClip k).toArray] h fun r h' => Ext h h' ∧ r = .bool (!decide (clipOk k)) := by
  have g := ok_ok (h.more [encClip k]) k
  obtain ⟨a, b, c⟩ := k
  refine ACall.of Try.func82 s82 (of_decide_eq_true rfl) ?_
  simp (maxSteps := 4000000) (disch := omega) only [ah, am, Nat.reduceEqDiff, reduceCtorEq, Nat.reduceAdd, Nat.reduceLeDiff, Nat.reduceMul, Nat.reduceLT, if_true, if_false, true_and, and_true, and_self, Nat.reduceBEq, QOp.loads, boxO, bslO, buildO, cutL, fillV, putL, w82, v82, encClip]
  refine stepC.of g ?_
  rintro _ H ⟨e, rfl⟩
  simp (maxSteps := 4000000) (disch := omega) only [ah, am, Nat.reduceEqDiff, reduceCtorEq, Nat.reduceAdd, Nat.reduceLeDiff, Nat.reduceMul, Nat.reduceLT, if_true, if_false, true_and, and_true, and_self, Nat.reduceBEq, QOp.loads, boxO, bslO, buildO, cutL, fillV, putL, w82, v82]
  exact (Ext.more h _).trans e
theorem IndexFunc_ok (h : Heap) (v : Value) (l : List Clip) (n : Nat) (cap : Array Value) (p : Clip → Bool) (s : SlT h encClip 3 v l) (hl : l.length ≤ 1100000)
    (hf : ∃ fn, Try.prog.funcs[n]? = some fn ∧ fn.body.isSome = true ∧ fn.name ≠ "runtime.NumGoroutine")
    (H : ∀ h' k, Ext h h' → k ∈ l → ACall Try.prog n ([.agg (encClip k).toArray] ++ cap.toList) h' fun r h2 => Ext h' h2 ∧ r = .bool (p k)) :
    ACall Try.prog 93 [v, .func (.func n) #[] cap] h fun r h' => Ext h h' ∧ r = .int .i64 (match l.findIdx? p with | some j => (j : Int) | none => -1) := by
  obtain ⟨fn, hf1, hf2, hf3⟩ := hf
  refine ACall.of Try.func93 s93 (of_decide_eq_true rfl) ?_
  have R := s.rulesN
  simp (maxSteps := 4000000) (disch := omega) only [ah, am, Nat.reduceEqDiff, reduceCtorEq, Nat.reduceAdd, Nat.reduceLeDiff, Nat.reduceMul, Nat.reduceLT, if_true, if_false, true_and, and_true, and_self, Nat.reduceBEq, QOp.loads, boxO, bslO, buildO, cutL, fillV, putL, w93, v93, R]
  refine SW_loop_up (fun i E H => E = [(0, v), (1, .func (.func n) #[] cap), (7, .int .i64 l.length), (8, .int .i64 i)] ∧ Ext h H ∧ ∀ j (hj : j < l.length), j < i → p l[j] = false) l.length 0 (by omega)
    ⟨rfl, Ext.refl h, fun j _ hj => absurd hj (by omega)⟩ ?_
  rintro i E H1 hi ⟨rfl, e, F⟩
  have R := (s.ext e).rulesN
  have W : IntKind.i64.wrap ((i : Int) + 1) = ((i + 1 : Nat) : Int) := i64e (by omega) (by omega)
  simp (maxSteps := 4000000) (disch := omega) only [ah, am, Nat.reduceEqDiff, reduceCtorEq, Nat.reduceAdd, Nat.reduceLeDiff, Nat.reduceMul, Nat.reduceLT, if_true, if_false, true_and, and_true, and_self, Nat.reduceBEq, QOp.loads, boxO, bslO, buildO, cutL, fillV, putL, w93, v93, R]
  refine stepI.split (fun hp => ?_) (fun hp => ?_)
  · have hi' : i < l.length := by omega
    simp (maxSteps := 4000000) (disch := omega) only [ah, am, Nat.reduceEqDiff, reduceCtorEq, Nat.reduceAdd, Nat.reduceLeDiff, Nat.reduceMul, Nat.reduceLT, if_true, if_false, true_and, and_true, and_self, Nat.reduceBEq, QOp.loads, boxO, bslO, buildO, cutL, fillV, putL, w93, v93, R, nilV_func]
    refine stepV.of hf1 hf2 hf3 (H H1 _ e (List.getElem_mem hi')) ?_
    rintro _ H2 ⟨e2, rfl⟩
    simp (maxSteps := 4000000) (disch := omega) only [ah, am, Nat.reduceEqDiff, reduceCtorEq, Nat.reduceAdd, Nat.reduceLeDiff, Nat.reduceMul, Nat.reduceLT, if_true, if_false, true_and, and_true, and_self, Nat.reduceBEq, QOp.loads, boxO, bslO, buildO, cutL, fillV, putL, w93, v93, W]
    refine stepI.splitB (fun hk => ?_) (fun hk => ?_)
    · simp (maxSteps := 4000000) (disch := omega) only [ah, am, Nat.reduceEqDiff, reduceCtorEq, Nat.reduceAdd, Nat.reduceLeDiff, Nat.reduceMul, Nat.reduceLT, if_true, if_false, true_and, and_true, and_self, Nat.reduceBEq, QOp.loads, boxO, bslO, buildO, cutL, fillV, putL, w93, v93, W]
      refine ⟨e.trans e2, ?_⟩
      have : l.findIdx? p = some i := by
        rw [List.findIdx?_eq_some_iff_getElem]
        exact ⟨hi', hk, fun j hj => by rw [F j (by omega) hj]; decide⟩
      rw [this]
    · simp (maxSteps := 4000000) (disch := omega) only [ah, am, Nat.reduceEqDiff, reduceCtorEq, Nat.reduceAdd, Nat.reduceLeDiff, Nat.reduceMul, Nat.reduceLT, if_true, if_false, true_and, and_true, and_self, Nat.reduceBEq, QOp.loads, boxO, bslO, buildO, cutL, fillV, putL, w93, v93, W]
      refine ⟨hi', e.trans e2, fun j hj hj2 => ?_⟩
      by_cases hji : j = i
      · subst hji; exact hk
      · exact F j hj (by omega)
  · simp (maxSteps := 4000000) (disch := omega) only [ah, am, Nat.reduceEqDiff, reduceCtorEq, Nat.reduceAdd, Nat.reduceLeDiff, Nat.reduceMul, Nat.reduceLT, if_true, if_false, true_and, and_true, and_self, Nat.reduceBEq, QOp.loads, boxO, bslO, buildO, cutL, fillV, putL, w93, v93, R, W]
    obtain rfl : i = l.length := by omega
    refine ⟨e, ?_⟩
    have : l.findIdx? p = none := by
      rw [List.findIdx?_eq_none_iff]
      intro x hx
      obtain ⟨j, hj, rfl⟩ := List.getElem_of_mem hx
      exact F j hj hj
    rw [this]
theorem ContainsFunc_ok (h : Heap) (v : Value) (l : List Clip) (n : Nat) (cap : Array Value) (p : Clip → Bool) (s : SlT h encClip 3 v l) (hl : l.length ≤ 1100000)
    (hf : ∃ fn, Try.prog.funcs[n]? = some fn ∧ fn.body.isSome = true ∧ fn.name ≠ "runtime.NumGoroutine")
    (H : ∀ h' k, Ext h h' → k ∈ l → ACall Try.prog n ([.agg (encClip k).toArray] ++ cap.toList) h' fun r h2 => Ext h' h2 ∧ r = .bool (p k)) :
    ACall Try.prog 81 [v, .func (.func n) #[] cap] h fun r h' => Ext h h' ∧ r = .bool (l.any p) := by
  refine ACall.of Try.func81 s81 (of_decide_eq_true rfl) ?_
  simp (maxSteps := 4000000) (disch := omega) only [ah, am, Nat.reduceEqDiff, reduceCtorEq, Nat.reduceAdd, Nat.reduceLeDiff, Nat.reduceMul, Nat.reduceLT, if_true, if_false, true_and, and_true, and_self, Nat.reduceBEq, QOp.loads, boxO, bslO, buildO, cutL, fillV, putL, w81, v81]
  refine stepC.of (IndexFunc_ok h v l n cap p s hl hf H) ?_
  rintro _ H1 ⟨e, rfl⟩
  simp (maxSteps := 4000000) (disch := omega) only [ah, am, Nat.reduceEqDiff, reduceCtorEq, Nat.reduceAdd, Nat.reduceLeDiff, Nat.reduceMul, Nat.reduceLT, if_true, if_false, true_and, and_true, and_self, Nat.reduceBEq, QOp.loads, boxO, bslO, buildO, cutL, fillV, putL, w81, v81]
  refine ⟨e, ?_⟩
  cases hq : l.findIdx? p with
  | none =>
    rw [List.findIdx?_eq_none_iff] at hq
    have : l.any p = false := by rw [List.any_eq_false]; intro x hx; rw [hq x hx]; decide
    rw [this]; rfl
  | some j =>
    rw [List.findIdx?_eq_some_iff_getElem] at hq
    obtain ⟨hj, hp, _⟩ := hq
    have : l.any p = true := List.any_eq_true.mpr ⟨_, List.getElem_mem hj, hp⟩
    rw [this]
    congr 1
theorem long_ok (h : Heap) (v : Value) (l : List Clip) (s : SlT h encClip 3 v l) (hl : l.length ≤ 300) (ho : ∀ k ∈ l, clipOk k) : ACall Try.prog 62 [v] h fun r h' => Ext h h' ∧ r = .int .i64 (sumLen l) := by
  refine ACall.of Try.func62 s62 (of_decide_eq_true rfl) ?_
  have R := s.rulesN
  simp (maxSteps := 4000000) (disch := omega) only [ah, am, Nat.reduceEqDiff, reduceCtorEq, Nat.reduceAdd, Nat.reduceLeDiff, Nat.reduceMul, Nat.reduceLT, if_true, if_false, true_and, and_true, and_self, Nat.reduceBEq, QOp.loads, boxO, bslO, buildO, cutL, fillV, putL, w62, v62, R]
  refine SW_loop_up (fun i E H => E = [(3, .int .i64 (sumLen (l.take i))), (6, v), (7, .int .i64 l.length), (8, .int .i64 i)] ∧ Ext h H) l.length 0 (by omega) ⟨by simp [sumLen], Ext.refl h⟩ ?_
  rintro i E H hi ⟨rfl, e⟩
  have R := (s.ext e).rulesN
  have W : IntKind.i64.wrap ((i : Int) + 1) = ((i + 1 : Nat) : Int) := i64e (by omega) (by omega)
  simp (maxSteps := 4000000) (disch := omega) only [ah, am, Nat.reduceEqDiff, reduceCtorEq, Nat.reduceAdd, Nat.reduceLeDiff, Nat.reduceMul, Nat.reduceLT, if_true, if_false, true_and, and_true, and_self, Nat.reduceBEq, QOp.loads, boxO, bslO, buildO, cutL, fillV, putL, w62, v62, R]
  refine stepI.split (fun hp => ?_) (fun hp => ?_)
  · have B := sumLen_bound (l := l.take (i + 1)) (fun k hk => ho k (List.mem_of_mem_take hk))
    rw [sumLen_take l i (by omega)] at B
    have hlen : (l.take (i + 1)).length ≤ 300 := by simp; omega
    simp (maxSteps := 4000000) (disch := omega) only [ah, am, Nat.reduceEqDiff, reduceCtorEq, Nat.reduceAdd, Nat.reduceLeDiff, Nat.reduceMul, Nat.reduceLT, if_true, if_false, true_and, and_true, and_self, Nat.reduceBEq, QOp.loads, boxO, bslO, buildO, cutL, fillV, putL, w62, v62, R, W, encClip, i64w]
    exact ⟨by omega, by rw [sumLen_take l i (by omega)], e.trans (Ext.more _ _)⟩
  · simp (maxSteps := 4000000) (disch := omega) only [ah, am, Nat.reduceEqDiff, reduceCtorEq, Nat.reduceAdd, Nat.reduceLeDiff, Nat.reduceMul, Nat.reduceLT, if_true, if_false, true_and, and_true, and_self, Nat.reduceBEq, QOp.loads, boxO, bslO, buildO, cutL, fillV, putL, w62, v62, R, W]
    obtain rfl : i = l.length := by omega
    rw [List.take_length]
    exact ⟨e, rfl⟩
theorem implTrackOk_ok (h : Heap) (v : Value) (l : List Clip) (s : SlT h encClip 3 v l) (hl : l.length ≤ 1100000) : ACall Try.prog 54 [v] h fun r h' => Ext h h' ∧ r = .bool (decide (trackOk l)) := by
  refine ACall.of Try.func54 s54 (of_decide_eq_true rfl) ?_
  have R := s.rulesN
  simp (maxSteps := 4000000) (disch := omega) only [ah, am, Nat.reduceEqDiff, reduceCtorEq, Nat.reduceAdd, Nat.reduceLeDiff, Nat.reduceMul, Nat.reduceLT, if_true, if_false, true_and, and_true, and_self, Nat.reduceBEq, QOp.loads, boxO, bslO, buildO, cutL, fillV, putL, w54, v54, R]
  refine stepG.cases (fun h0 hp => ?_) (fun h0 hp => ?_)
  · simp (maxSteps := 4000000) (disch := omega) only [ah, am, Nat.reduceEqDiff, reduceCtorEq, Nat.reduceAdd, Nat.reduceLeDiff, Nat.reduceMul, Nat.reduceLT, if_true, if_false, true_and, and_true, and_self, Nat.reduceBEq, QOp.loads, boxO, bslO, buildO, cutL, fillV, putL, w54, v54, hp, R]
    refine stepC.of (ContainsFunc_ok h v l 82 #[] (fun k => !decide (clipOk k)) s hl ⟨_, Try.func82, rfl, by decide⟩ (fun h' k _ _ => TrackOk1_ok h' k)) ?_
    rintro _ H1 ⟨e, rfl⟩
    simp (maxSteps := 4000000) (disch := omega) only [ah, am, Nat.reduceEqDiff, reduceCtorEq, Nat.reduceAdd, Nat.reduceLeDiff, Nat.reduceMul, Nat.reduceLT, if_true, if_false, true_and, and_true, and_self, Nat.reduceBEq, QOp.loads, boxO, bslO, buildO, cutL, fillV, putL, w54, v54, hp, R]
    cases hq : l.any (fun k => !decide (clipOk k)) with
    | false =>
      have ho : ∀ k ∈ l, clipOk k := by
        intro k hk; rw [List.any_eq_false] at hq; have := hq k hk; simpa using this
      simp (maxSteps := 4000000) (disch := omega) only [ah, am, Nat.reduceEqDiff, reduceCtorEq, Nat.reduceAdd, Nat.reduceLeDiff, Nat.reduceMul, Nat.reduceLT, if_true, if_false, true_and, and_true, and_self, Nat.reduceBEq, QOp.loads, boxO, bslO, buildO, cutL, fillV, putL, w54, v54, hp, R]
      refine stepC.of (long_ok _ _ _ (s.ext e) (by omega) ho) ?_
      rintro _ H2 ⟨e2, rfl⟩
      simp (maxSteps := 4000000) (disch := omega) only [ah, am, Nat.reduceEqDiff, reduceCtorEq, Nat.reduceAdd, Nat.reduceLeDiff, Nat.reduceMul, Nat.reduceLT, if_true, if_false, true_and, and_true, and_self, Nat.reduceBEq, QOp.loads, boxO, bslO, buildO, cutL, fillV, putL, w54, v54, hp, R]
      refine ⟨e.trans e2, ?_⟩
      refine bool_dec ?_
      simp only [decide_eq_true_eq, trackOk]
      exact ⟨fun hq => ⟨by omega, ho, hq⟩, fun hq => hq.2.2⟩
    | true =>
      simp (maxSteps := 4000000) (disch := omega) only [ah, am, Nat.reduceEqDiff, reduceCtorEq, Nat.reduceAdd, Nat.reduceLeDiff, Nat.reduceMul, Nat.reduceLT, if_true, if_false, true_and, and_true, and_self, Nat.reduceBEq, QOp.loads, boxO, bslO, buildO, cutL, fillV, putL, w54, v54, hp, R]
      refine ⟨e, ?_⟩
      refine bool_dec ?_
      simp only [Bool.false_eq_true, false_iff, trackOk]
      rw [List.any_eq_true] at hq
      obtain ⟨k, hk, hq⟩ := hq
      intro ht
      have := ht.2.1 k hk
      simp [this] at hq
  · simp (maxSteps := 4000000) (disch := omega) only [ah, am, Nat.reduceEqDiff, reduceCtorEq, Nat.reduceAdd, Nat.reduceLeDiff, Nat.reduceMul, Nat.reduceLT, if_true, if_false, true_and, and_true, and_self, Nat.reduceBEq, QOp.loads, boxO, bslO, buildO, cutL, fillV, putL, w54, v54, hp, R]
    refine ⟨Ext.refl h, ?_⟩; refine bool_dec ?_; try simp only [decide_eq_true_eq, Bool.false_eq_true, false_and, and_false, true_and, and_true, false_iff, iff_false, true_iff, iff_true, not_false_eq_true, false_or, or_false, true_or, or_true, trackOk]; first | done | omega | (refine Iff.intro (fun hq => ?_) (fun hq => ?_) <;> omega)
end Go.Proofs.Ytbanblghepekdaa
