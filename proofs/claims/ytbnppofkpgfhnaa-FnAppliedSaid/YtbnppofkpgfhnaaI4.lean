import Derived.Test.YtbnppofkpgfhnaaS5
namespace Go.Proofs.Ytbnppofkpgfhnaa
open Go Go.Ah
set_option linter.unusedSimpArgs false
set_option linter.unusedVariables false
set_option maxRecDepth 10000
set_option maxHeartbeats 4000000
/-! 58 loop.example/g00066/impl.in: parameters 3, live [0, 1, 2], slots [0:x, 1:least, 2:most, 3:x, 4:least, 5:most] -/
def c58_0 : List SOper := [⟨some 6, .q (.mv (.c (.bool false))), none⟩]
def c58_1 : List SOper := [⟨some 7, .q (.mv (.t 1)), none⟩, ⟨some 8, .q (.mv (.t 0)), none⟩, ⟨some 9, .q (.bin .leq (.t 7) (.t 8)), none⟩, ⟨some 10, .q (.mv (.t 9)), none⟩, ⟨some 11, .q (.mv (.t 0)), some (10, true)⟩, ⟨some 12, .q (.mv (.t 2)), some (10, true)⟩, ⟨some 13, .q (.bin .leq (.t 11) (.t 12)), some (10, true)⟩, ⟨some 14, .q (.pick (.t 10) (.t 13) (.c (.bool false))), none⟩, ⟨some 6, .q (.mv (.t 14)), none⟩]
def c58_2 : SCode := .seq (.region c58_1 [6]) .ret
def c58_3 : SCode := .seq (.region c58_0 [0, 1, 2]) c58_2
def c58 : SCode := c58_3
theorem w58 : type_of% (And.intro (uR Try.prog c58_0.eq_1) (And.intro (uR Try.prog c58_1.eq_1) (And.intro (uC Try.prog c58_2.eq_1) (And.intro (uC Try.prog c58_3.eq_1) (uC Try.prog c58.eq_1))))) := (And.intro (uR Try.prog c58_0.eq_1) (And.intro (uR Try.prog c58_1.eq_1) (And.intro (uC Try.prog c58_2.eq_1) (And.intro (uC Try.prog c58_3.eq_1) (uC Try.prog c58.eq_1)))))
def v58 : List RV := [.t 6]
theorem s58 : slimF Try.prog Try.f58 = some (c58.bare, v58) := by kernel_rfl
/-! 78 (loop.example/g00066/impl.Clip).isGap: parameters 1, live [0], slots [0:c, 1:c] -/
def c78_0 : List SOper := [⟨some 1, .a (.box (.t 0)), none⟩, ⟨some 2, .q (.mv (.c (.bool false))), none⟩]
def c78_1 : List SOper := [⟨some 3, .q (.fa 0 (.t 1)), none⟩, ⟨some 4, .q (.ld (.t 3)), none⟩, ⟨some 5, .q (.bin .eql (.t 4) (.c (.int .i64 0))), none⟩, ⟨some 2, .q (.mv (.t 5)), none⟩]
def c78_2 : SCode := .seq (.region c78_1 [2]) .ret
def c78_3 : SCode := .seq (.region c78_0 [1]) c78_2
def c78 : SCode := c78_3
theorem w78 : type_of% (And.intro (uR Try.prog c78_0.eq_1) (And.intro (uR Try.prog c78_1.eq_1) (And.intro (uC Try.prog c78_2.eq_1) (And.intro (uC Try.prog c78_3.eq_1) (uC Try.prog c78.eq_1))))) := (And.intro (uR Try.prog c78_0.eq_1) (And.intro (uR Try.prog c78_1.eq_1) (And.intro (uC Try.prog c78_2.eq_1) (And.intro (uC Try.prog c78_3.eq_1) (uC Try.prog c78.eq_1)))))
def v78 : List RV := [.t 2]
theorem s78 : slimF Try.prog Try.f78 = some (c78.bare, v78) := by kernel_rfl
/-! 75 (loop.example/g00066/impl.Clip).ok: parameters 1, live [0], slots [0:c, 1:c] -/
def c75_0 : List SOper := [⟨some 1, .a (.box (.t 0)), none⟩, ⟨some 2, .q (.mv (.c (.bool false))), none⟩]
def c75_1 : List SOper := [⟨some 3, .q (.fa 0 (.t 1)), none⟩, ⟨some 4, .q (.ld (.t 3)), none⟩, ⟨some 5, .e (.call 58 [(.t 4), (.c (.int .i64 0)), (.c (.int .i64 500))]), none⟩, ⟨some 6, .q (.not (.t 5)), none⟩, ⟨some 7, .q (.mv (.t 6)), none⟩, ⟨some 8, .q (.fa 1 (.t 1)), some (7, false)⟩, ⟨some 9, .q (.ld (.t 8)), some (7, false)⟩, ⟨some 10, .e (.call 58 [(.t 9), (.c (.int .i64 0)), (.c (.int .i64 10000000))]), some (7, false)⟩, ⟨some 11, .q (.not (.t 10)), some (7, false)⟩, ⟨some 12, .q (.pick (.t 7) (.c (.bool true)) (.t 11)), none⟩, ⟨some 13, .q (.mv (.t 12)), none⟩, ⟨some 14, .q (.fa 2 (.t 1)), some (13, false)⟩, ⟨some 15, .q (.ld (.t 14)), some (13, false)⟩, ⟨some 16, .e (.call 58 [(.t 15), (.c (.int .i64 1)), (.c (.int .i64 10000000))]), some (13, false)⟩, ⟨some 17, .q (.not (.t 16)), some (13, false)⟩, ⟨some 18, .q (.pick (.t 13) (.c (.bool true)) (.t 17)), none⟩]
def c75_2 : List SOper := [⟨some 2, .q (.mv (.c (.bool false))), none⟩]
def c75_3 : SCode := .seq (.region c75_2 [2]) .ret
def c75_4 : SCode := .cond (.t 18) c75_3 .skip
def c75_5 : SCode := .seq (.region c75_1 [1, 18]) c75_4
def c75_6 : List SOper := [⟨some 19, .q (.ldn 3 (.t 1)), none⟩, ⟨some 20, .e (.call 78 [(.t 19)]), none⟩, ⟨some 21, .q (.mv (.t 20)), none⟩, ⟨some 22, .q (.fa 1 (.t 1)), some (21, true)⟩, ⟨some 23, .q (.ld (.t 22)), some (21, true)⟩, ⟨some 24, .q (.bin .eql (.t 23) (.c (.int .i64 0))), some (21, true)⟩, ⟨some 25, .q (.pick (.t 21) (.t 24) (.c (.bool false))), none⟩, ⟨some 26, .q (.mv (.t 25)), none⟩, ⟨some 27, .q (.ldn 3 (.t 1)), some (26, false)⟩, ⟨some 28, .e (.call 78 [(.t 27)]), some (26, false)⟩, ⟨some 29, .q (.not (.t 28)), some (26, false)⟩, ⟨some 30, .q (.mv (.t 29)), some (26, false)⟩, ⟨some 31, .q (.fa 1 (.t 1)), some (30, true)⟩, ⟨some 32, .q (.ld (.t 31)), some (30, true)⟩, ⟨some 33, .q (.fa 2 (.t 1)), some (30, true)⟩, ⟨some 34, .q (.ld (.t 33)), some (30, true)⟩, ⟨some 35, .q (.bin .add (.t 32) (.t 34)), some (30, true)⟩, ⟨some 36, .q (.bin .leq (.t 35) (.c (.int .i64 10000000))), some (30, true)⟩, ⟨some 37, .q (.pick (.t 30) (.t 36) (.c (.bool false))), some (26, false)⟩, ⟨some 38, .q (.pick (.t 26) (.c (.bool true)) (.t 37)), none⟩, ⟨some 2, .q (.mv (.t 38)), none⟩]
def c75_7 : SCode := .seq (.region c75_6 [2]) .ret
def c75_8 : SCode := .seq c75_5 c75_7
def c75_9 : SCode := .seq (.region c75_0 [1]) c75_8
def c75 : SCode := c75_9
theorem w75 : type_of% (And.intro (uR Try.prog c75_0.eq_1) (And.intro (uR Try.prog c75_1.eq_1) (And.intro (uR Try.prog c75_2.eq_1) (And.intro (uC Try.prog c75_3.eq_1) (And.intro (uC Try.prog c75_4.eq_1) (And.intro (uC Try.prog c75_5.eq_1) (And.intro (uR Try.prog c75_6.eq_1) (And.intro (uC Try.prog c75_7.eq_1) (And.intro (uC Try.prog c75_8.eq_1) (And.intro (uC Try.prog c75_9.eq_1) (uC Try.prog c75.eq_1))))))))))) := (And.intro (uR Try.prog c75_0.eq_1) (And.intro (uR Try.prog c75_1.eq_1) (And.intro (uR Try.prog c75_2.eq_1) (And.intro (uC Try.prog c75_3.eq_1) (And.intro (uC Try.prog c75_4.eq_1) (And.intro (uC Try.prog c75_5.eq_1) (And.intro (uR Try.prog c75_6.eq_1) (And.intro (uC Try.prog c75_7.eq_1) (And.intro (uC Try.prog c75_8.eq_1) (And.intro (uC Try.prog c75_9.eq_1) (uC Try.prog c75.eq_1)))))))))))
def v75 : List RV := [.t 2]
theorem s75 : slimF Try.prog Try.f75 = some (c75.bare, v75) := by kernel_rfl
/-! 74 loop.example/g00066/impl.TrackOk$1: parameters 1, live [0], slots [0:c, 1:c] -/
def c74_0 : List SOper := [⟨some 1, .a (.box (.t 0)), none⟩, ⟨some 2, .q (.mv (.c (.bool false))), none⟩]
def c74_1 : List SOper := [⟨some 3, .q (.ldn 3 (.t 1)), none⟩, ⟨some 4, .e (.call 75 [(.t 3)]), none⟩, ⟨some 5, .q (.not (.t 4)), none⟩, ⟨some 2, .q (.mv (.t 5)), none⟩]
def c74_2 : SCode := .seq (.region c74_1 [2]) .ret
def c74_3 : SCode := .seq (.region c74_0 [1]) c74_2
def c74 : SCode := c74_3
theorem w74 : type_of% (And.intro (uR Try.prog c74_0.eq_1) (And.intro (uR Try.prog c74_1.eq_1) (And.intro (uC Try.prog c74_2.eq_1) (And.intro (uC Try.prog c74_3.eq_1) (uC Try.prog c74.eq_1))))) := (And.intro (uR Try.prog c74_0.eq_1) (And.intro (uR Try.prog c74_1.eq_1) (And.intro (uC Try.prog c74_2.eq_1) (And.intro (uC Try.prog c74_3.eq_1) (uC Try.prog c74.eq_1)))))
def v74 : List RV := [.t 2]
theorem s74 : slimF Try.prog Try.f74 = some (c74.bare, v74) := by kernel_rfl
/-! 92 slices.IndexFunc[[]loop.example/g00066/impl.Clip,loop.example/g00066/impl.Clip]: parameters 2, live [0, 1], slots [0:s, 1:f, 2:s, 3:f, 5:i] -/
def c92_0 : List SOper := [⟨some 4, .q (.mv (.c (.int .i64 0))), none⟩]
def c92_1 : List SOper := [⟨some 6, .q (.mv (.t 0)), none⟩, ⟨some 7, .q (.len (.t 6)), none⟩, ⟨some 8, .q (.mv (.c (.int .i64 0))), none⟩]
def c92_2 : List SOper := [⟨some 9, .q (.bin .lss (.t 8) (.t 7)), none⟩]
def c92_3 : SCode := .cond (.t 9) .skip (.exit 0)
def c92_4 : List SOper := [⟨some 10, .q (.mv (.t 8)), none⟩, ⟨some 5, .q (.mv (.t 10)), none⟩]
def c92_5 : List SOper := [⟨some 11, .q (.mv (.t 1)), none⟩, ⟨some 12, .q (.mv (.t 0)), none⟩, ⟨some 13, .q (.mv (.t 5)), none⟩, ⟨some 14, .q (.ia 3 (.t 12) (.t 13)), none⟩, ⟨some 15, .q (.ldn 3 (.t 14)), none⟩, ⟨some 16, .e (.callv (.t 11) [(.t 15)]), none⟩]
def c92_6 : List SOper := [⟨some 17, .q (.mv (.t 5)), none⟩, ⟨some 4, .q (.mv (.t 17)), none⟩]
def c92_7 : SCode := .seq (.region c92_6 [4]) .ret
def c92_8 : SCode := .cond (.t 16) c92_7 .skip
def c92_9 : SCode := .seq (.region c92_5 [0, 1, 5, 7, 8, 16]) c92_8
def c92_10 : SCode := .seq (.region c92_4 [0, 1, 5, 7, 8]) c92_9
def c92_11 : SCode := .block 1 c92_10
def c92_12 : List SOper := [⟨some 18, .q (.bin .add (.t 8) (.c (.int .i64 1))), none⟩, ⟨some 8, .q (.mv (.t 18)), none⟩]
def c92_13 : SCode := .seq c92_11 (.region c92_12 [0, 1, 7, 8])
def c92_14 : SCode := .seq c92_3 c92_13
def c92_15 : SCode := .seq (.region c92_2 [0, 1, 7, 8, 9]) c92_14
def c92_16 : SCode := .loop c92_15
def c92_17 : SCode := .block 0 c92_16
def c92_18 : SCode := .seq (.region c92_1 [0, 1, 7, 8]) c92_17
def c92_19 : List SOper := [⟨some 4, .q (.mv (.c (.int .i64 (-1)))), none⟩]
def c92_20 : SCode := .seq (.region c92_19 [4]) .ret
def c92_21 : SCode := .seq c92_18 c92_20
def c92_22 : SCode := .seq (.region c92_0 [0, 1]) c92_21
def c92 : SCode := c92_22
theorem w92 : type_of% (And.intro (uR Try.prog c92_0.eq_1) (And.intro (uR Try.prog c92_1.eq_1) (And.intro (uR Try.prog c92_2.eq_1) (And.intro (uC Try.prog c92_3.eq_1) (And.intro (uR Try.prog c92_4.eq_1) (And.intro (uR Try.prog c92_5.eq_1) (And.intro (uR Try.prog c92_6.eq_1) (And.intro (uC Try.prog c92_7.eq_1) (And.intro (uC Try.prog c92_8.eq_1) (And.intro (uC Try.prog c92_9.eq_1) (And.intro (uC Try.prog c92_10.eq_1) (And.intro (uC Try.prog c92_11.eq_1) (And.intro (uR Try.prog c92_12.eq_1) (And.intro (uC Try.prog c92_13.eq_1) (And.intro (uC Try.prog c92_14.eq_1) (And.intro (uC Try.prog c92_15.eq_1) (And.intro (uC Try.prog c92_16.eq_1) (And.intro (uC Try.prog c92_17.eq_1) (And.intro (uC Try.prog c92_18.eq_1) (And.intro (uR Try.prog c92_19.eq_1) (And.intro (uC Try.prog c92_20.eq_1) (And.intro (uC Try.prog c92_21.eq_1) (And.intro (uC Try.prog c92_22.eq_1) (uC Try.prog c92.eq_1)))))))))))))))))))))))) := (And.intro (uR Try.prog c92_0.eq_1) (And.intro (uR Try.prog c92_1.eq_1) (And.intro (uR Try.prog c92_2.eq_1) (And.intro (uC Try.prog c92_3.eq_1) (And.intro (uR Try.prog c92_4.eq_1) (And.intro (uR Try.prog c92_5.eq_1) (And.intro (uR Try.prog c92_6.eq_1) (And.intro (uC Try.prog c92_7.eq_1) (And.intro (uC Try.prog c92_8.eq_1) (And.intro (uC Try.prog c92_9.eq_1) (And.intro (uC Try.prog c92_10.eq_1) (And.intro (uC Try.prog c92_11.eq_1) (And.intro (uR Try.prog c92_12.eq_1) (And.intro (uC Try.prog c92_13.eq_1) (And.intro (uC Try.prog c92_14.eq_1) (And.intro (uC Try.prog c92_15.eq_1) (And.intro (uC Try.prog c92_16.eq_1) (And.intro (uC Try.prog c92_17.eq_1) (And.intro (uC Try.prog c92_18.eq_1) (And.intro (uR Try.prog c92_19.eq_1) (And.intro (uC Try.prog c92_20.eq_1) (And.intro (uC Try.prog c92_21.eq_1) (And.intro (uC Try.prog c92_22.eq_1) (uC Try.prog c92.eq_1))))))))))))))))))))))))
def v92 : List RV := [.t 4]
theorem s92 : slimF Try.prog Try.f92 = some (c92.bare, v92) := by kernel_rfl
/-! 73 slices.ContainsFunc[[]loop.example/g00066/impl.Clip,loop.example/g00066/impl.Clip]: parameters 2, live [0, 1], slots [0:s, 1:f, 2:s, 3:f] -/
def c73_0 : List SOper := [⟨some 4, .q (.mv (.c (.bool false))), none⟩]
def c73_1 : List SOper := [⟨some 5, .q (.mv (.t 0)), none⟩, ⟨some 6, .q (.mv (.t 1)), none⟩, ⟨some 7, .e (.call 92 [(.t 5), (.t 6)]), none⟩, ⟨some 8, .q (.bin .geq (.t 7) (.c (.int .i64 0))), none⟩, ⟨some 4, .q (.mv (.t 8)), none⟩]
def c73_2 : SCode := .seq (.region c73_1 [4]) .ret
def c73_3 : SCode := .seq (.region c73_0 [0, 1]) c73_2
def c73 : SCode := c73_3
theorem w73 : type_of% (And.intro (uR Try.prog c73_0.eq_1) (And.intro (uR Try.prog c73_1.eq_1) (And.intro (uC Try.prog c73_2.eq_1) (And.intro (uC Try.prog c73_3.eq_1) (uC Try.prog c73.eq_1))))) := (And.intro (uR Try.prog c73_0.eq_1) (And.intro (uR Try.prog c73_1.eq_1) (And.intro (uC Try.prog c73_2.eq_1) (And.intro (uC Try.prog c73_3.eq_1) (uC Try.prog c73.eq_1)))))
def v73 : List RV := [.t 4]
theorem s73 : slimF Try.prog Try.f73 = some (c73.bare, v73) := by kernel_rfl
/-! 37 loop.example/g00066/impl.TrackOk: parameters 1, live [0], slots [0:track, 1:track] -/
def c37_0 : List SOper := [⟨some 2, .q (.mv (.c (.bool false))), none⟩]
def c37_1 : List SOper := [⟨some 3, .q (.mv (.t 0)), none⟩, ⟨some 4, .q (.len (.t 3)), none⟩, ⟨some 5, .q (.bin .leq (.t 4) (.c (.int .i64 300))), none⟩, ⟨some 6, .q (.mv (.t 5)), none⟩, ⟨some 7, .q (.mv (.t 0)), some (6, true)⟩, ⟨some 8, .e (.call 73 [(.t 7), (.f 74)]), some (6, true)⟩, ⟨some 9, .q (.not (.t 8)), some (6, true)⟩, ⟨some 10, .q (.pick (.t 6) (.t 9) (.c (.bool false))), none⟩, ⟨some 11, .q (.mv (.t 10)), none⟩, ⟨some 12, .q (.mv (.t 0)), some (11, true)⟩, ⟨some 13, .e (.call 39 [(.t 12)]), some (11, true)⟩, ⟨some 14, .q (.bin .leq (.t 13) (.c (.int .i64 10000000))), some (11, true)⟩, ⟨some 15, .q (.pick (.t 11) (.t 14) (.c (.bool false))), none⟩, ⟨some 2, .q (.mv (.t 15)), none⟩]
def c37_2 : SCode := .seq (.region c37_1 [2]) .ret
def c37_3 : SCode := .seq (.region c37_0 [0]) c37_2
def c37 : SCode := c37_3
theorem w37 : type_of% (And.intro (uR Try.prog c37_0.eq_1) (And.intro (uR Try.prog c37_1.eq_1) (And.intro (uC Try.prog c37_2.eq_1) (And.intro (uC Try.prog c37_3.eq_1) (uC Try.prog c37.eq_1))))) := (And.intro (uR Try.prog c37_0.eq_1) (And.intro (uR Try.prog c37_1.eq_1) (And.intro (uC Try.prog c37_2.eq_1) (And.intro (uC Try.prog c37_3.eq_1) (uC Try.prog c37.eq_1)))))
def v37 : List RV := [.t 2]
theorem s37 : slimF Try.prog Try.f37 = some (c37.bare, v37) := by kernel_rfl
/-! 39 loop.example/g00066/impl.long: parameters 1, live [0], slots [0:track, 1:track, 3:out, 4:_, 5:c] -/
def c39_0 : List SOper := [⟨some 2, .q (.mv (.c (.int .i64 0))), none⟩]
def c39_1 : List SOper := [⟨some 3, .q (.mv (.c (.int .i64 0))), none⟩]
def c39_2 : List SOper := [⟨some 6, .q (.mv (.t 0)), none⟩, ⟨some 7, .q (.len (.t 6)), none⟩, ⟨some 8, .q (.mv (.c (.int .i64 0))), none⟩]
def c39_3 : List SOper := [⟨some 9, .q (.bin .lss (.t 8) (.t 7)), none⟩]
def c39_4 : SCode := .cond (.t 9) .skip (.exit 0)
def c39_5 : List SOper := [⟨some 10, .q (.ia 3 (.t 6) (.t 8)), none⟩, ⟨some 11, .q (.ldn 3 (.t 10)), none⟩, ⟨some 5, .a (.new [(.int .i64 0), (.int .i64 0), (.int .i64 0)]), none⟩, ⟨none, .e (.st 3 (.t 5) (.t 11)), none⟩]
def c39_6 : List SOper := [⟨some 12, .q (.mv (.t 3)), none⟩, ⟨some 13, .q (.fa 2 (.t 5)), none⟩, ⟨some 14, .q (.ld (.t 13)), none⟩, ⟨some 15, .q (.bin .add (.t 12) (.t 14)), none⟩, ⟨some 3, .q (.mv (.t 15)), none⟩]
def c39_7 : SCode := .seq (.region c39_5 [3, 5, 6, 7, 8]) (.region c39_6 [3, 6, 7, 8])
def c39_8 : SCode := .block 1 c39_7
def c39_9 : List SOper := [⟨some 16, .q (.bin .add (.t 8) (.c (.int .i64 1))), none⟩, ⟨some 8, .q (.mv (.t 16)), none⟩]
def c39_10 : SCode := .seq c39_8 (.region c39_9 [3, 6, 7, 8])
def c39_11 : SCode := .seq c39_4 c39_10
def c39_12 : SCode := .seq (.region c39_3 [3, 6, 7, 8, 9]) c39_11
def c39_13 : SCode := .loop c39_12
def c39_14 : SCode := .block 0 c39_13
def c39_15 : SCode := .seq (.region c39_2 [3, 6, 7, 8]) c39_14
def c39_16 : List SOper := [⟨some 17, .q (.mv (.t 3)), none⟩, ⟨some 2, .q (.mv (.t 17)), none⟩]
def c39_17 : SCode := .seq (.region c39_16 [2]) .ret
def c39_18 : SCode := .seq c39_15 c39_17
def c39_19 : SCode := .seq (.region c39_1 [0, 3]) c39_18
def c39_20 : SCode := .seq (.region c39_0 [0]) c39_19
def c39 : SCode := c39_20
theorem w39 : type_of% (And.intro (uR Try.prog c39_0.eq_1) (And.intro (uR Try.prog c39_1.eq_1) (And.intro (uR Try.prog c39_2.eq_1) (And.intro (uR Try.prog c39_3.eq_1) (And.intro (uC Try.prog c39_4.eq_1) (And.intro (uR Try.prog c39_5.eq_1) (And.intro (uR Try.prog c39_6.eq_1) (And.intro (uC Try.prog c39_7.eq_1) (And.intro (uC Try.prog c39_8.eq_1) (And.intro (uR Try.prog c39_9.eq_1) (And.intro (uC Try.prog c39_10.eq_1) (And.intro (uC Try.prog c39_11.eq_1) (And.intro (uC Try.prog c39_12.eq_1) (And.intro (uC Try.prog c39_13.eq_1) (And.intro (uC Try.prog c39_14.eq_1) (And.intro (uC Try.prog c39_15.eq_1) (And.intro (uR Try.prog c39_16.eq_1) (And.intro (uC Try.prog c39_17.eq_1) (And.intro (uC Try.prog c39_18.eq_1) (And.intro (uC Try.prog c39_19.eq_1) (And.intro (uC Try.prog c39_20.eq_1) (uC Try.prog c39.eq_1)))))))))))))))))))))) := (And.intro (uR Try.prog c39_0.eq_1) (And.intro (uR Try.prog c39_1.eq_1) (And.intro (uR Try.prog c39_2.eq_1) (And.intro (uR Try.prog c39_3.eq_1) (And.intro (uC Try.prog c39_4.eq_1) (And.intro (uR Try.prog c39_5.eq_1) (And.intro (uR Try.prog c39_6.eq_1) (And.intro (uC Try.prog c39_7.eq_1) (And.intro (uC Try.prog c39_8.eq_1) (And.intro (uR Try.prog c39_9.eq_1) (And.intro (uC Try.prog c39_10.eq_1) (And.intro (uC Try.prog c39_11.eq_1) (And.intro (uC Try.prog c39_12.eq_1) (And.intro (uC Try.prog c39_13.eq_1) (And.intro (uC Try.prog c39_14.eq_1) (And.intro (uC Try.prog c39_15.eq_1) (And.intro (uR Try.prog c39_16.eq_1) (And.intro (uC Try.prog c39_17.eq_1) (And.intro (uC Try.prog c39_18.eq_1) (And.intro (uC Try.prog c39_19.eq_1) (And.intro (uC Try.prog c39_20.eq_1) (uC Try.prog c39.eq_1))))))))))))))))))))))
def v39 : List RV := [.t 2]
theorem s39 : slimF Try.prog Try.f39 = some (c39.bare, v39) := by kernel_rfl
/-! 76 (loop.example/g00066/impl.Clip).follows: parameters 2, live [0, 1], slots [0:c, 1:ahead, 2:c, 3:ahead] -/
def c76_0 : List SOper := [⟨some 2, .a (.box (.t 0)), none⟩, ⟨some 3, .a (.box (.t 1)), none⟩, ⟨some 4, .q (.mv (.c (.bool false))), none⟩]
def c76_1 : List SOper := [⟨some 5, .q (.fa 0 (.t 2)), none⟩, ⟨some 6, .q (.ld (.t 5)), none⟩, ⟨some 7, .q (.fa 0 (.t 3)), none⟩, ⟨some 8, .q (.ld (.t 7)), none⟩, ⟨some 9, .q (.bin .eql (.t 6) (.t 8)), none⟩, ⟨some 10, .q (.mv (.t 9)), none⟩, ⟨some 11, .q (.ldn 3 (.t 2)), some (10, true)⟩, ⟨some 12, .e (.call 78 [(.t 11)]), some (10, true)⟩, ⟨some 13, .q (.mv (.t 12)), some (10, true)⟩, ⟨some 14, .q (.fa 1 (.t 2)), some (13, false)⟩, ⟨some 15, .q (.ld (.t 14)), some (13, false)⟩, ⟨some 16, .q (.fa 1 (.t 3)), some (13, false)⟩, ⟨some 17, .q (.ld (.t 16)), some (13, false)⟩, ⟨some 18, .q (.fa 2 (.t 3)), some (13, false)⟩, ⟨some 19, .q (.ld (.t 18)), some (13, false)⟩, ⟨some 20, .q (.bin .add (.t 17) (.t 19)), some (13, false)⟩, ⟨some 21, .q (.bin .eql (.t 15) (.t 20)), some (13, false)⟩, ⟨some 22, .q (.pick (.t 13) (.c (.bool true)) (.t 21)), some (10, true)⟩, ⟨some 23, .q (.pick (.t 10) (.t 22) (.c (.bool false))), none⟩, ⟨some 4, .q (.mv (.t 23)), none⟩]
def c76_2 : SCode := .seq (.region c76_1 [4]) .ret
def c76_3 : SCode := .seq (.region c76_0 [2, 3]) c76_2
def c76 : SCode := c76_3
theorem w76 : type_of% (And.intro (uR Try.prog c76_0.eq_1) (And.intro (uR Try.prog c76_1.eq_1) (And.intro (uC Try.prog c76_2.eq_1) (And.intro (uC Try.prog c76_3.eq_1) (uC Try.prog c76.eq_1))))) := (And.intro (uR Try.prog c76_0.eq_1) (And.intro (uR Try.prog c76_1.eq_1) (And.intro (uC Try.prog c76_2.eq_1) (And.intro (uC Try.prog c76_3.eq_1) (uC Try.prog c76.eq_1)))))
def v76 : List RV := [.t 4]
theorem s76 : slimF Try.prog Try.f76 = some (c76.bare, v76) := by kernel_rfl
/-! 41 slices.Clone[[]loop.example/g00066/impl.Clip,loop.example/g00066/impl.Clip]: parameters 1, live [0], slots [0:s, 1:s] -/
def c41_0 : List SOper := [⟨some 2, .q (.mv (.c (.slice none 0 0))), none⟩]
def c41_1 : List SOper := [⟨some 3, .q (.mv (.t 0)), none⟩, ⟨some 4, .q (.eqs false (.t 3) (.c (.slice none 0 0))), none⟩]
def c41_2 : List SOper := [⟨some 2, .q (.mv (.c (.slice none 0 0))), none⟩]
def c41_3 : SCode := .seq (.region c41_2 [2]) .ret
def c41_4 : SCode := .cond (.t 4) c41_3 .skip
def c41_5 : SCode := .seq (.region c41_1 [0, 4]) c41_4
def c41_6 : List SOper := [⟨some 5, .a (.bsl 0 3 [] []), none⟩, ⟨some 6, .q (.mv (.t 0)), none⟩, ⟨some 7, .e (.app 24 3 (.t 5) (.t 6)), none⟩, ⟨some 2, .q (.mv (.t 7)), none⟩]
def c41_7 : SCode := .seq (.region c41_6 [2]) .ret
def c41_8 : SCode := .seq c41_5 c41_7
def c41_9 : SCode := .seq (.region c41_0 [0]) c41_8
def c41 : SCode := c41_9
theorem w41 : type_of% (And.intro (uR Try.prog c41_0.eq_1) (And.intro (uR Try.prog c41_1.eq_1) (And.intro (uR Try.prog c41_2.eq_1) (And.intro (uC Try.prog c41_3.eq_1) (And.intro (uC Try.prog c41_4.eq_1) (And.intro (uC Try.prog c41_5.eq_1) (And.intro (uR Try.prog c41_6.eq_1) (And.intro (uC Try.prog c41_7.eq_1) (And.intro (uC Try.prog c41_8.eq_1) (And.intro (uC Try.prog c41_9.eq_1) (uC Try.prog c41.eq_1))))))))))) := (And.intro (uR Try.prog c41_0.eq_1) (And.intro (uR Try.prog c41_1.eq_1) (And.intro (uR Try.prog c41_2.eq_1) (And.intro (uC Try.prog c41_3.eq_1) (And.intro (uC Try.prog c41_4.eq_1) (And.intro (uC Try.prog c41_5.eq_1) (And.intro (uR Try.prog c41_6.eq_1) (And.intro (uC Try.prog c41_7.eq_1) (And.intro (uC Try.prog c41_8.eq_1) (And.intro (uC Try.prog c41_9.eq_1) (uC Try.prog c41.eq_1)))))))))))
def v41 : List RV := [.t 2]
theorem s41 : slimF Try.prog Try.f41 = some (c41.bare, v41) := by kernel_rfl

theorem in_ok (h : Heap) (x lo hi : Int) : ACall Try.prog 58 [.int .i64 x, .int .i64 lo, .int .i64 hi] h fun r h' => h' = h ∧ r = .bool (decide (lo ≤ x ∧ x ≤ hi)) := by
  refine ACall.of Try.func58 s58 (of_decide_eq_true rfl) ?_
  simp (maxSteps := 4000000) (disch := omega) only [ah, am, Nat.reduceEqDiff, reduceCtorEq, Nat.reduceAdd, Nat.reduceLeDiff, Nat.reduceMul, Nat.reduceLT, if_true, if_false, true_and, and_true, and_self, Nat.reduceBEq, QOp.loads, boxO, bslO, buildO, cutL, fillV, putL, w58, v58]
  (repeat' first
    | (refine stepG.cases (fun _ hp => ?_) (fun _ hp => ?_) <;> simp (maxSteps := 4000000) (disch := omega) only [hp, ah, am, Nat.reduceEqDiff, reduceCtorEq, Nat.reduceAdd, Nat.reduceLeDiff, Nat.reduceMul, Nat.reduceLT, if_true, if_false, true_and, and_true, and_self, Nat.reduceBEq, QOp.loads, boxO, bslO, buildO, cutL, fillV, putL, i64w, w58, v58])
    | (refine stepI.cases (fun _ hp => ?_) (fun _ hp => ?_) <;> simp (maxSteps := 4000000) (disch := omega) only [hp, ah, am, Nat.reduceEqDiff, reduceCtorEq, Nat.reduceAdd, Nat.reduceLeDiff, Nat.reduceMul, Nat.reduceLT, if_true, if_false, true_and, and_true, and_self, Nat.reduceBEq, QOp.loads, boxO, bslO, buildO, cutL, fillV, putL, i64w, w58, v58]))
  all_goals (refine bool_dec ?_; try simp only [decide_eq_true_eq, Bool.false_eq_true, false_and, and_false, true_and, and_true, false_iff, iff_false, true_iff, iff_true, not_false_eq_true, false_or, or_false, true_or, or_true]; first | done | omega | (refine Iff.intro (fun hq => ?_) (fun hq => ?_) <;> omega))
theorem isGap_ok (h : Heap) (k : Clip) : ACall Try.prog 78 [.agg (encClip k).toArray] h fun r h' => h' = h.more [encClip k] ∧ r = .bool (decide (k.src = 0)) := by
  obtain ⟨a, b, c⟩ := k
  refine ACall.of Try.func78 s78 (of_decide_eq_true rfl) ?_
  simp (maxSteps := 4000000) (disch := omega) only [ah, am, Nat.reduceEqDiff, reduceCtorEq, Nat.reduceAdd, Nat.reduceLeDiff, Nat.reduceMul, Nat.reduceLT, if_true, if_false, true_and, and_true, and_self, Nat.reduceBEq, QOp.loads, boxO, bslO, buildO, cutL, fillV, putL, w78, v78, encClip]
theorem isGap_ok' (h : Heap) (a b c : Int) : ACall Try.prog 78 [.agg [.int .i64 a, .int .i64 b, .int .i64 c].toArray] h fun r h' => h' = h.more [[.int .i64 a, .int .i64 b, .int .i64 c]] ∧ r = .bool (decide (a = 0)) := isGap_ok h ⟨a, b, c⟩
theorem ok_ok (h : Heap) (k : Clip) : ACall Try.prog 75 [.agg (encClip k).toArray] h fun r h' => Ext h h' ∧ r = .bool (decide (clipOk k)) := by
  obtain ⟨a, b, c⟩ := k
  refine ACall.of Try.func75 s75 (of_decide_eq_true rfl) ?_
  simp (maxSteps := 4000000) (disch := omega) only [ah, am, Nat.reduceEqDiff, reduceCtorEq, Nat.reduceAdd, Nat.reduceLeDiff, Nat.reduceMul, Nat.reduceLT, if_true, if_false, true_and, and_true, and_self, Nat.reduceBEq, QOp.loads, boxO, bslO, buildO, cutL, fillV, putL, w75, v75, encClip]
  (repeat' first
    | (refine stepC.of (in_ok _ _ _ _) ?_; rintro _ _ ⟨rfl, rfl⟩; simp (maxSteps := 4000000) (disch := omega) only [ah, am, Nat.reduceEqDiff, reduceCtorEq, Nat.reduceAdd, Nat.reduceLeDiff, Nat.reduceMul, Nat.reduceLT, if_true, if_false, true_and, and_true, and_self, Nat.reduceBEq, QOp.loads, boxO, bslO, buildO, cutL, fillV, putL, i64w, w75, v75])
    | (refine stepC.of (isGap_ok' _ _ _ _) ?_; rintro _ _ ⟨rfl, rfl⟩; simp (maxSteps := 4000000) (disch := omega) only [ah, am, Nat.reduceEqDiff, reduceCtorEq, Nat.reduceAdd, Nat.reduceLeDiff, Nat.reduceMul, Nat.reduceLT, if_true, if_false, true_and, and_true, and_self, Nat.reduceBEq, QOp.loads, boxO, bslO, buildO, cutL, fillV, putL, i64w, w75, v75])
    | (refine stepG.cases (fun _ hp => ?_) (fun _ hp => ?_) <;> simp (maxSteps := 4000000) (disch := omega) only [hp, ah, am, Nat.reduceEqDiff, reduceCtorEq, Nat.reduceAdd, Nat.reduceLeDiff, Nat.reduceMul, Nat.reduceLT, if_true, if_false, true_and, and_true, and_self, Nat.reduceBEq, QOp.loads, boxO, bslO, buildO, cutL, fillV, putL, i64w, w75, v75])
    | (refine stepI.cases (fun _ hp => ?_) (fun _ hp => ?_) <;> simp (maxSteps := 4000000) (disch := omega) only [hp, ah, am, Nat.reduceEqDiff, reduceCtorEq, Nat.reduceAdd, Nat.reduceLeDiff, Nat.reduceMul, Nat.reduceLT, if_true, if_false, true_and, and_true, and_self, Nat.reduceBEq, QOp.loads, boxO, bslO, buildO, cutL, fillV, putL, i64w, w75, v75]))
  all_goals (refine ⟨Ext.more _ _, ?_⟩; refine bool_dec ?_; try simp only [decide_eq_true_eq, Bool.false_eq_true, false_and, and_false, true_and, and_true, false_iff, iff_false, true_iff, iff_true, not_false_eq_true, false_or, or_false, true_or, or_true, clipOk]; first | done | omega | (refine Iff.intro (fun hq => ?_) (fun hq => ?_) <;> omega))
theorem TrackOk1_ok (h : Heap) (k : Clip) : ACall Try.prog 74 [.agg (encClip k).toArray] h fun r h' => Ext h h' ∧ r = .bool (!decide (clipOk k)) := by
  have g := ok_ok (h.more [encClip k]) k
  obtain ⟨a, b, c⟩ := k
  refine ACall.of Try.func74 s74 (of_decide_eq_true rfl) ?_
  simp (maxSteps := 4000000) (disch := omega) only [ah, am, Nat.reduceEqDiff, reduceCtorEq, Nat.reduceAdd, Nat.reduceLeDiff, Nat.reduceMul, Nat.reduceLT, if_true, if_false, true_and, and_true, and_self, Nat.reduceBEq, QOp.loads, boxO, bslO, buildO, cutL, fillV, putL, w74, v74, encClip]
  refine stepC.of g ?_
  rintro _ H ⟨e, rfl⟩
  simp (maxSteps := 4000000) (disch := omega) only [ah, am, Nat.reduceEqDiff, reduceCtorEq, Nat.reduceAdd, Nat.reduceLeDiff, Nat.reduceMul, Nat.reduceLT, if_true, if_false, true_and, and_true, and_self, Nat.reduceBEq, QOp.loads, boxO, bslO, buildO, cutL, fillV, putL, w74, v74]
  exact (Ext.more h _).trans e
theorem IndexFunc_ok (h : Heap) (v : Value) (l : List Clip) (n : Nat) (cap : Array Value) (p : Clip → Bool) (s : SlT h encClip 3 v l) (hl : l.length ≤ 1100000)
    (hf : ∃ fn, Try.prog.funcs[n]? = some fn ∧ fn.body.isSome = true ∧ fn.name ≠ "runtime.NumGoroutine")
    (H : ∀ h' k, Ext h h' → k ∈ l → ACall Try.prog n ([.agg (encClip k).toArray] ++ cap.toList) h' fun r h2 => Ext h' h2 ∧ r = .bool (p k)) :
    ACall Try.prog 92 [v, .func (.func n) #[] cap] h fun r h' => Ext h h' ∧ r = .int .i64 (match l.findIdx? p with | some j => (j : Int) | none => -1) := by
  obtain ⟨fn, hf1, hf2, hf3⟩ := hf
  refine ACall.of Try.func92 s92 (of_decide_eq_true rfl) ?_
  have R := s.rulesN
  simp (maxSteps := 4000000) (disch := omega) only [ah, am, Nat.reduceEqDiff, reduceCtorEq, Nat.reduceAdd, Nat.reduceLeDiff, Nat.reduceMul, Nat.reduceLT, if_true, if_false, true_and, and_true, and_self, Nat.reduceBEq, QOp.loads, boxO, bslO, buildO, cutL, fillV, putL, w92, v92, R]
  refine SW_loop_up (fun i E H => E = [(0, v), (1, .func (.func n) #[] cap), (7, .int .i64 l.length), (8, .int .i64 i)] ∧ Ext h H ∧ ∀ j (hj : j < l.length), j < i → p l[j] = false) l.length 0 (by omega)
    ⟨rfl, Ext.refl h, fun j _ hj => absurd hj (by omega)⟩ ?_
  rintro i E H1 hi ⟨rfl, e, F⟩
  have R := (s.ext e).rulesN
  have W : IntKind.i64.wrap ((i : Int) + 1) = ((i + 1 : Nat) : Int) := i64e (by omega) (by omega)
  simp (maxSteps := 4000000) (disch := omega) only [ah, am, Nat.reduceEqDiff, reduceCtorEq, Nat.reduceAdd, Nat.reduceLeDiff, Nat.reduceMul, Nat.reduceLT, if_true, if_false, true_and, and_true, and_self, Nat.reduceBEq, QOp.loads, boxO, bslO, buildO, cutL, fillV, putL, w92, v92, R]
  refine stepI.split (fun hp => ?_) (fun hp => ?_)
  · have hi' : i < l.length := by omega
    simp (maxSteps := 4000000) (disch := omega) only [ah, am, Nat.reduceEqDiff, reduceCtorEq, Nat.reduceAdd, Nat.reduceLeDiff, Nat.reduceMul, Nat.reduceLT, if_true, if_false, true_and, and_true, and_self, Nat.reduceBEq, QOp.loads, boxO, bslO, buildO, cutL, fillV, putL, w92, v92, R, nilV_func]
    refine stepV.of hf1 hf2 hf3 (H H1 _ e (List.getElem_mem hi')) ?_
    rintro _ H2 ⟨e2, rfl⟩
    simp (maxSteps := 4000000) (disch := omega) only [ah, am, Nat.reduceEqDiff, reduceCtorEq, Nat.reduceAdd, Nat.reduceLeDiff, Nat.reduceMul, Nat.reduceLT, if_true, if_false, true_and, and_true, and_self, Nat.reduceBEq, QOp.loads, boxO, bslO, buildO, cutL, fillV, putL, w92, v92, W]
    refine stepI.splitB (fun hk => ?_) (fun hk => ?_)
    · simp (maxSteps := 4000000) (disch := omega) only [ah, am, Nat.reduceEqDiff, reduceCtorEq, Nat.reduceAdd, Nat.reduceLeDiff, Nat.reduceMul, Nat.reduceLT, if_true, if_false, true_and, and_true, and_self, Nat.reduceBEq, QOp.loads, boxO, bslO, buildO, cutL, fillV, putL, w92, v92, W]
      refine ⟨e.trans e2, ?_⟩
      have : l.findIdx? p = some i := by
        rw [List.findIdx?_eq_some_iff_getElem]
        exact ⟨hi', hk, fun j hj => by rw [F j (by omega) hj]; decide⟩
      rw [this]
    · simp (maxSteps := 4000000) (disch := omega) only [ah, am, Nat.reduceEqDiff, reduceCtorEq, Nat.reduceAdd, Nat.reduceLeDiff, Nat.reduceMul, Nat.reduceLT, if_true, if_false, true_and, and_true, and_self, Nat.reduceBEq, QOp.loads, boxO, bslO, buildO, cutL, fillV, putL, w92, v92, W]
      refine ⟨hi', e.trans e2, fun j hj hj2 => ?_⟩
      by_cases hji : j = i
      · subst hji; exact hk
      · exact F j hj (by omega)
  · simp (maxSteps := 4000000) (disch := omega) only [ah, am, Nat.reduceEqDiff, reduceCtorEq, Nat.reduceAdd, Nat.reduceLeDiff, Nat.reduceMul, Nat.reduceLT, if_true, if_false, true_and, and_true, and_self, Nat.reduceBEq, QOp.loads, boxO, bslO, buildO, cutL, fillV, putL, w92, v92, R, W]
    obtain rfl : i = l.length := by omega
    refine ⟨e, ?_⟩
    have : l.findIdx? p = none := by
      rw [List.findIdx?_eq_none_iff]
      intro x hx
      obtain ⟨j, hj, rfl⟩ := List.getElem_of_mem hx
      exact F j hj hj
    rw [this]
theorem ContainsFunc_ok (h : Heap) (v : Value) (l : List Clip) (n : Nat) (cap : Array Value) (p : Clip → Bool) (s : SlT h encClip 3 v l) (hl : l.length ≤ 1100000)
    (hf : ∃ fn, Try.prog.funcs[n]? = some fn ∧ fn.body.isSome = true ∧ fn.name ≠ "runtime.NumGoroutine")
    (H : ∀ h' k, Ext h h' → k ∈ l → ACall Try.prog n ([.agg (encClip k).toArray] ++ cap.toList) h' fun r h2 => Ext h' h2 ∧ r = .bool (p k)) :
    ACall Try.prog 73 [v, .func (.func n) #[] cap] h fun r h' => Ext h h' ∧ r = .bool (l.any p) := by
  refine ACall.of Try.func73 s73 (of_decide_eq_true rfl) ?_
  simp (maxSteps := 4000000) (disch := omega) only [ah, am, Nat.reduceEqDiff, reduceCtorEq, Nat.reduceAdd, Nat.reduceLeDiff, Nat.reduceMul, Nat.reduceLT, if_true, if_false, true_and, and_true, and_self, Nat.reduceBEq, QOp.loads, boxO, bslO, buildO, cutL, fillV, putL, w73, v73]
  refine stepC.of (IndexFunc_ok h v l n cap p s hl hf H) ?_
  rintro _ H1 ⟨e, rfl⟩
  simp (maxSteps := 4000000) (disch := omega) only [ah, am, Nat.reduceEqDiff, reduceCtorEq, Nat.reduceAdd, Nat.reduceLeDiff, Nat.reduceMul, Nat.reduceLT, if_true, if_false, true_and, and_true, and_self, Nat.reduceBEq, QOp.loads, boxO, bslO, buildO, cutL, fillV, putL, w73, v73]
  refine ⟨e, ?_⟩
  cases hq : l.findIdx? p with
  | none =>
    rw [List.findIdx?_eq_none_iff] at hq
    have : l.any p = false := by rw [List.any_eq_false]; intro x hx; rw [hq x hx]; decide
    rw [this]; rfl
  | some j =>
    rw [List.findIdx?_eq_some_iff_getElem] at hq
    obtain ⟨hj, hp, _⟩ := hq
    have : l.any p = true := List.any_eq_true.mpr ⟨_, List.getElem_mem hj, hp⟩
    rw [this]
    congr 1
theorem long_ok (h : Heap) (v : Value) (l : List Clip) (s : SlT h encClip 3 v l) (hl : l.length ≤ 300) (ho : ∀ k ∈ l, clipOk k) : ACall Try.prog 39 [v] h fun r h' => Ext h h' ∧ r = .int .i64 (sumLen l) := by
  refine ACall.of Try.func39 s39 (of_decide_eq_true rfl) ?_
  have R := s.rulesN
  simp (maxSteps := 4000000) (disch := omega) only [ah, am, Nat.reduceEqDiff, reduceCtorEq, Nat.reduceAdd, Nat.reduceLeDiff, Nat.reduceMul, Nat.reduceLT, if_true, if_false, true_and, and_true, and_self, Nat.reduceBEq, QOp.loads, boxO, bslO, buildO, cutL, fillV, putL, w39, v39, R]
  refine SW_loop_up (fun i E H => E = [(3, .int .i64 (sumLen (l.take i))), (6, v), (7, .int .i64 l.length), (8, .int .i64 i)] ∧ Ext h H) l.length 0 (by omega) ⟨by simp [sumLen], Ext.refl h⟩ ?_
  rintro i E H hi ⟨rfl, e⟩
  have R := (s.ext e).rulesN
  have W : IntKind.i64.wrap ((i : Int) + 1) = ((i + 1 : Nat) : Int) := i64e (by omega) (by omega)
  simp (maxSteps := 4000000) (disch := omega) only [ah, am, Nat.reduceEqDiff, reduceCtorEq, Nat.reduceAdd, Nat.reduceLeDiff, Nat.reduceMul, Nat.reduceLT, if_true, if_false, true_and, and_true, and_self, Nat.reduceBEq, QOp.loads, boxO, bslO, buildO, cutL, fillV, putL, w39, v39, R]
  refine stepI.split (fun hp => ?_) (fun hp => ?_)
  · have B := sumLen_bound (l := l.take (i + 1)) (fun k hk => ho k (List.mem_of_mem_take hk))
    rw [sumLen_take l i (by omega)] at B
    have hlen : (l.take (i + 1)).length ≤ 300 := by simp; omega
    simp (maxSteps := 4000000) (disch := omega) only [ah, am, Nat.reduceEqDiff, reduceCtorEq, Nat.reduceAdd, Nat.reduceLeDiff, Nat.reduceMul, Nat.reduceLT, if_true, if_false, true_and, and_true, and_self, Nat.reduceBEq, QOp.loads, boxO, bslO, buildO, cutL, fillV, putL, w39, v39, R, W, encClip, i64w]
    exact ⟨by omega, by rw [sumLen_take l i (by omega)], e.trans (Ext.more _ _)⟩
  · simp (maxSteps := 4000000) (disch := omega) only [ah, am, Nat.reduceEqDiff, reduceCtorEq, Nat.reduceAdd, Nat.reduceLeDiff, Nat.reduceMul, Nat.reduceLT, if_true, if_false, true_and, and_true, and_self, Nat.reduceBEq, QOp.loads, boxO, bslO, buildO, cutL, fillV, putL, w39, v39, R, W]
    obtain rfl : i = l.length := by omega
    rw [List.take_length]
    exact ⟨e, rfl⟩
theorem implTrackOk_ok (h : Heap) (v : Value) (l : List Clip) (s : SlT h encClip 3 v l) (hl : l.length ≤ 1100000) : ACall Try.prog 37 [v] h fun r h' => Ext h h' ∧ r = .bool (decide (trackOk l)) := by
  refine ACall.of Try.func37 s37 (of_decide_eq_true rfl) ?_
  have R := s.rulesN
  simp (maxSteps := 4000000) (disch := omega) only [ah, am, Nat.reduceEqDiff, reduceCtorEq, Nat.reduceAdd, Nat.reduceLeDiff, Nat.reduceMul, Nat.reduceLT, if_true, if_false, true_and, and_true, and_self, Nat.reduceBEq, QOp.loads, boxO, bslO, buildO, cutL, fillV, putL, w37, v37, R]
  refine stepG.cases (fun h0 hp => ?_) (fun h0 hp => ?_)
  · simp (maxSteps := 4000000) (disch := omega) only [ah, am, Nat.reduceEqDiff, reduceCtorEq, Nat.reduceAdd, Nat.reduceLeDiff, Nat.reduceMul, Nat.reduceLT, if_true, if_false, true_and, and_true, and_self, Nat.reduceBEq, QOp.loads, boxO, bslO, buildO, cutL, fillV, putL, w37, v37, hp, R]
    refine stepC.of (ContainsFunc_ok h v l 74 #[] (fun k => !decide (clipOk k)) s hl ⟨_, Try.func74, rfl, by decide⟩ (fun h' k _ _ => TrackOk1_ok h' k)) ?_
    rintro _ H1 ⟨e, rfl⟩
    simp (maxSteps := 4000000) (disch := omega) only [ah, am, Nat.reduceEqDiff, reduceCtorEq, Nat.reduceAdd, Nat.reduceLeDiff, Nat.reduceMul, Nat.reduceLT, if_true, if_false, true_and, and_true, and_self, Nat.reduceBEq, QOp.loads, boxO, bslO, buildO, cutL, fillV, putL, w37, v37, hp, R]
    cases hq : l.any (fun k => !decide (clipOk k)) with
    | false =>
      have ho : ∀ k ∈ l, clipOk k := by
        intro k hk; rw [List.any_eq_false] at hq; have := hq k hk; simpa using this
      simp (maxSteps := 4000000) (disch := omega) only [ah, am, Nat.reduceEqDiff, reduceCtorEq, Nat.reduceAdd, Nat.reduceLeDiff, Nat.reduceMul, Nat.reduceLT, if_true, if_false, true_and, and_true, and_self, Nat.reduceBEq, QOp.loads, boxO, bslO, buildO, cutL, fillV, putL, w37, v37, hp, R]
      refine stepC.of (long_ok _ _ _ (s.ext e) (by omega) ho) ?_
      rintro _ H2 ⟨e2, rfl⟩
      simp (maxSteps := 4000000) (disch := omega) only [ah, am, Nat.reduceEqDiff, reduceCtorEq, Nat.reduceAdd, Nat.reduceLeDiff, Nat.reduceMul, Nat.reduceLT, if_true, if_false, true_and, and_true, and_self, Nat.reduceBEq, QOp.loads, boxO, bslO, buildO, cutL, fillV, putL, w37, v37, hp, R]
      refine ⟨e.trans e2, ?_⟩
      refine bool_dec ?_
      simp only [decide_eq_true_eq, trackOk]
      exact ⟨fun hq => ⟨by omega, ho, hq⟩, fun hq => hq.2.2⟩
    | true =>
      simp (maxSteps := 4000000) (disch := omega) only [ah, am, Nat.reduceEqDiff, reduceCtorEq, Nat.reduceAdd, Nat.reduceLeDiff, Nat.reduceMul, Nat.reduceLT, if_true, if_false, true_and, and_true, and_self, Nat.reduceBEq, QOp.loads, boxO, bslO, buildO, cutL, fillV, putL, w37, v37, hp, R]
      refine ⟨e, ?_⟩
      refine bool_dec ?_
      simp only [Bool.false_eq_true, false_iff, trackOk]
      rw [List.any_eq_true] at hq
      obtain ⟨k, hk, hq⟩ := hq
      intro ht
      have := ht.2.1 k hk
      simp [this] at hq
  · simp (maxSteps := 4000000) (disch := omega) only [ah, am, Nat.reduceEqDiff, reduceCtorEq, Nat.reduceAdd, Nat.reduceLeDiff, Nat.reduceMul, Nat.reduceLT, if_true, if_false, true_and, and_true, and_self, Nat.reduceBEq, QOp.loads, boxO, bslO, buildO, cutL, fillV, putL, w37, v37, hp, R]
    refine ⟨Ext.refl h, ?_⟩; refine bool_dec ?_; try simp only [decide_eq_true_eq, Bool.false_eq_true, false_and, and_false, true_and, and_true, false_iff, iff_false, true_iff, iff_true, not_false_eq_true, false_or, or_false, true_or, or_true, trackOk]; first | done | omega | (refine Iff.intro (fun hq => ?_) (fun hq => ?_) <;> omega)
end Go.Proofs.Ytbnppofkpgfhnaa
