import Derived.Test.YtknpombiomnkbaaS5
namespace Go.Proofs.Ytknpombiomnkbaa
open Go Go.Ah
set_option linter.unusedSimpArgs false
set_option linter.unusedVariables false
set_option maxRecDepth 10000
set_option maxHeartbeats 4000000
/-! 51 loop.example/g00066/impl.in: parameters 3, live [0, 1, 2], slots [0:x, 1:least, 2:most, 3:x, 4:least, 5:most] -/
def c51_0 : List SOper := [⟨some 6, .q (.mv (.c (.bool false))), none⟩]
def c51_1 : List SOper := [⟨some 7, .q (.mv (.t 1)), none⟩, ⟨some 8, .q (.mv (.t 0)), none⟩, ⟨some 9, .q (.bin .leq (.t 7) (.t 8)), none⟩, ⟨some 10, .q (.mv (.t 9)), none⟩, ⟨some 11, .q (.mv (.t 0)), some (10, true)⟩, ⟨some 12, .q (.mv (.t 2)), some (10, true)⟩, ⟨some 13, .q (.bin .leq (.t 11) (.t 12)), some (10, true)⟩, ⟨some 14, .q (.pick (.t 10) (.t 13) (.c (.bool false))), none⟩, ⟨some 6, .q (.mv (.t 14)), none⟩]
def c51_2 : SCode := .seq (.region c51_1 [6]) .ret
def c51_3 : SCode := .seq (.region c51_0 [0, 1, 2]) c51_2
def c51 : SCode := c51_3
theorem w51 : type_of% (And.intro (uR Try.prog c51_0.eq_1) (And.intro (uR Try.prog c51_1.eq_1) (And.intro (uC Try.prog c51_2.eq_1) (And.intro (uC Try.prog c51_3.eq_1) (uC Try.prog c51.eq_1))))) := (And.intro (uR Try.prog c51_0.eq_1) (And.intro (uR Try.prog c51_1.eq_1) (And.intro (uC Try.prog c51_2.eq_1) (And.intro (uC Try.prog c51_3.eq_1) (uC Try.prog c51.eq_1)))))
def v51 : List RV := [.t 6]
theorem s51 : slimF Try.prog Try.f51 = some (c51.bare, v51) := by kernel_rfl
/-! 87 (loop.example/g00066/impl.Clip).isGap: parameters 1, live [0], slots [0:c, 1:c] -/
def c87_0 : List SOper := [⟨some 1, .a (.box (.t 0)), none⟩, ⟨some 2, .q (.mv (.c (.bool false))), none⟩]
def c87_1 : List SOper := [⟨some 3, .q (.fa 0 (.t 1)), none⟩, ⟨some 4, .q (.ld (.t 3)), none⟩, ⟨some 5, .q (.bin .eql (.t 4) (.c (.int .i64 0))), none⟩, ⟨some 2, .q (.mv (.t 5)), none⟩]
def c87_2 : SCode := .seq (.region c87_1 [2]) .ret
def c87_3 : SCode := .seq (.region c87_0 [1]) c87_2
def c87 : SCode := c87_3
theorem w87 : type_of% (And.intro (uR Try.prog c87_0.eq_1) (And.intro (uR Try.prog c87_1.eq_1) (And.intro (uC Try.prog c87_2.eq_1) (And.intro (uC Try.prog c87_3.eq_1) (uC Try.prog c87.eq_1))))) := (And.intro (uR Try.prog c87_0.eq_1) (And.intro (uR Try.prog c87_1.eq_1) (And.intro (uC Try.prog c87_2.eq_1) (And.intro (uC Try.prog c87_3.eq_1) (uC Try.prog c87.eq_1)))))
def v87 : List RV := [.t 2]
theorem s87 : slimF Try.prog Try.f87 = some (c87.bare, v87) := by kernel_rfl
/-! 53 (loop.example/g00066/impl.Clip).ok: parameters 1, live [0], slots [0:c, 1:c] -/
def c53_0 : List SOper := [⟨some 1, .a (.box (.t 0)), none⟩, ⟨some 2, .q (.mv (.c (.bool false))), none⟩]
def c53_1 : List SOper := [⟨some 3, .q (.fa 0 (.t 1)), none⟩, ⟨some 4, .q (.ld (.t 3)), none⟩, ⟨some 5, .e (.call 51 [(.t 4), (.c (.int .i64 0)), (.c (.int .i64 500))]), none⟩, ⟨some 6, .q (.not (.t 5)), none⟩, ⟨some 7, .q (.mv (.t 6)), none⟩, ⟨some 8, .q (.fa 1 (.t 1)), some (7, false)⟩, ⟨some 9, .q (.ld (.t 8)), some (7, false)⟩, ⟨some 10, .e (.call 51 [(.t 9), (.c (.int .i64 0)), (.c (.int .i64 10000000))]), some (7, false)⟩, ⟨some 11, .q (.not (.t 10)), some (7, false)⟩, ⟨some 12, .q (.pick (.t 7) (.c (.bool true)) (.t 11)), none⟩, ⟨some 13, .q (.mv (.t 12)), none⟩, ⟨some 14, .q (.fa 2 (.t 1)), some (13, false)⟩, ⟨some 15, .q (.ld (.t 14)), some (13, false)⟩, ⟨some 16, .e (.call 51 [(.t 15), (.c (.int .i64 1)), (.c (.int .i64 10000000))]), some (13, false)⟩, ⟨some 17, .q (.not (.t 16)), some (13, false)⟩, ⟨some 18, .q (.pick (.t 13) (.c (.bool true)) (.t 17)), none⟩]
def c53_2 : List SOper := [⟨some 2, .q (.mv (.c (.bool false))), none⟩]
def c53_3 : SCode := .seq (.region c53_2 [2]) .ret
def c53_4 : SCode := .cond (.t 18) c53_3 .skip
def c53_5 : SCode := .seq (.region c53_1 [1, 18]) c53_4
def c53_6 : List SOper := [⟨some 19, .q (.ldn 3 (.t 1)), none⟩, ⟨some 20, .e (.call 87 [(.t 19)]), none⟩, ⟨some 21, .q (.mv (.t 20)), none⟩, ⟨some 22, .q (.fa 1 (.t 1)), some (21, true)⟩, ⟨some 23, .q (.ld (.t 22)), some (21, true)⟩, ⟨some 24, .q (.bin .eql (.t 23) (.c (.int .i64 0))), some (21, true)⟩, ⟨some 25, .q (.pick (.t 21) (.t 24) (.c (.bool false))), none⟩, ⟨some 26, .q (.mv (.t 25)), none⟩, ⟨some 27, .q (.ldn 3 (.t 1)), some (26, false)⟩, ⟨some 28, .e (.call 87 [(.t 27)]), some (26, false)⟩, ⟨some 29, .q (.not (.t 28)), some (26, false)⟩, ⟨some 30, .q (.mv (.t 29)), some (26, false)⟩, ⟨some 31, .q (.fa 1 (.t 1)), some (30, true)⟩, ⟨some 32, .q (.ld (.t 31)), some (30, true)⟩, ⟨some 33, .q (.fa 2 (.t 1)), some (30, true)⟩, ⟨some 34, .q (.ld (.t 33)), some (30, true)⟩, ⟨some 35, .q (.bin .add (.t 32) (.t 34)), some (30, true)⟩, ⟨some 36, .q (.bin .leq (.t 35) (.c (.int .i64 10000000))), some (30, true)⟩, ⟨some 37, .q (.pick (.t 30) (.t 36) (.c (.bool false))), some (26, false)⟩, ⟨some 38, .q (.pick (.t 26) (.c (.bool true)) (.t 37)), none⟩, ⟨some 2, .q (.mv (.t 38)), none⟩]
def c53_7 : SCode := .seq (.region c53_6 [2]) .ret
def c53_8 : SCode := .seq c53_5 c53_7
def c53_9 : SCode := .seq (.region c53_0 [1]) c53_8
def c53 : SCode := c53_9
theorem w53 : type_of% (And.intro (uR Try.prog c53_0.eq_1) (And.intro (uR Try.prog c53_1.eq_1) (And.intro (uR Try.prog c53_2.eq_1) (And.intro (uC Try.prog c53_3.eq_1) (And.intro (uC Try.prog c53_4.eq_1) (And.intro (uC Try.prog c53_5.eq_1) (And.intro (uR Try.prog c53_6.eq_1) (And.intro (uC Try.prog c53_7.eq_1) (And.intro (uC Try.prog c53_8.eq_1) (And.intro (uC Try.prog c53_9.eq_1) (uC Try.prog c53.eq_1))))))))))) := (And.intro (uR Try.prog c53_0.eq_1) (And.intro (uR Try.prog c53_1.eq_1) (And.intro (uR Try.prog c53_2.eq_1) (And.intro (uC Try.prog c53_3.eq_1) (And.intro (uC Try.prog c53_4.eq_1) (And.intro (uC Try.prog c53_5.eq_1) (And.intro (uR Try.prog c53_6.eq_1) (And.intro (uC Try.prog c53_7.eq_1) (And.intro (uC Try.prog c53_8.eq_1) (And.intro (uC Try.prog c53_9.eq_1) (uC Try.prog c53.eq_1)))))))))))
def v53 : List RV := [.t 2]
theorem s53 : slimF Try.prog Try.f53 = some (c53.bare, v53) := by kernel_rfl
/-! 92 loop.example/g00066/impl.TrackOk$1: parameters 1, live [0], slots [0:c, 1:c] -/
def c92_0 : List SOper := [⟨some 1, .a (.box (.t 0)), none⟩, ⟨some 2, .q (.mv (.c (.bool false))), none⟩]
def c92_1 : List SOper := [⟨some 3, .q (.ldn 3 (.t 1)), none⟩, ⟨some 4, .e (.call 53 [(.t 3)]), none⟩, ⟨some 5, .q (.not (.t 4)), none⟩, ⟨some 2, .q (.mv (.t 5)), none⟩]
def c92_2 : SCode := .seq (.region c92_1 [2]) .ret
def c92_3 : SCode := .seq (.region c92_0 [1]) c92_2
def c92 : SCode := c92_3
theorem w92 : type_of% (And.intro (uR Try.prog c92_0.eq_1) (And.intro (uR Try.prog c92_1.eq_1) (And.intro (uC Try.prog c92_2.eq_1) (And.intro (uC Try.prog c92_3.eq_1) (uC Try.prog c92.eq_1))))) := (And.intro (uR Try.prog c92_0.eq_1) (And.intro (uR Try.prog c92_1.eq_1) (And.intro (uC Try.prog c92_2.eq_1) (And.intro (uC Try.prog c92_3.eq_1) (uC Try.prog c92.eq_1)))))
def v92 : List RV := [.t 2]
theorem s92 : slimF Try.prog Try.f92 = some (c92.bare, v92) := by kernel_rfl
/-! 102 slices.IndexFunc[[]loop.example/g00066/impl.Clip,loop.example/g00066/impl.Clip]: parameters 2, live [0, 1], slots [0:s, 1:f, 2:s, 3:f, 5:i] -/
def c102_0 : List SOper := [⟨some 4, .q (.mv (.c (.int .i64 0))), none⟩]
def c102_1 : List SOper := [⟨some 6, .q (.mv (.t 0)), none⟩, ⟨some 7, .q (.len (.t 6)), none⟩, ⟨some 8, .q (.mv (.c (.int .i64 0))), none⟩]
def c102_2 : List SOper := [⟨some 9, .q (.bin .lss (.t 8) (.t 7)), none⟩]
def c102_3 : SCode := .cond (.t 9) .skip (.exit 0)
def c102_4 : List SOper := [⟨some 10, .q (.mv (.t 8)), none⟩, ⟨some 5, .q (.mv (.t 10)), none⟩]
def c102_5 : List SOper := [⟨some 11, .q (.mv (.t 1)), none⟩, ⟨some 12, .q (.mv (.t 0)), none⟩, ⟨some 13, .q (.mv (.t 5)), none⟩, ⟨some 14, .q (.ia 3 (.t 12) (.t 13)), none⟩, ⟨some 15, .q (.ldn 3 (.t 14)), none⟩, ⟨some 16, .e (.callv (.t 11) [(.t 15)]), none⟩]
def c102_6 : List SOper := [⟨some 17, .q (.mv (.t 5)), none⟩, ⟨some 4, .q (.mv (.t 17)), none⟩]
def c102_7 : SCode := .seq (.region c102_6 [4]) .ret
def c102_8 : SCode := .cond (.t 16) c102_7 .skip
def c102_9 : SCode := .seq (.region c102_5 [0, 1, 5, 7, 8, 16]) c102_8
def c102_10 : SCode := .seq (.region c102_4 [0, 1, 5, 7, 8]) c102_9
def c102_11 : SCode := .block 1 c102_10
def c102_12 : List SOper := [⟨some 18, .q (.bin .add (.t 8) (.c (.int .i64 1))), none⟩, ⟨some 8, .q (.mv (.t 18)), none⟩]
def c102_13 : SCode := .seq c102_11 (.region c102_12 [0, 1, 7, 8])
def c102_14 : SCode := .seq c102_3 c102_13
def c102_15 : SCode := .seq (.region c102_2 [0, 1, 7, 8, 9]) c102_14
def c102_16 : SCode := .loop c102_15
def c102_17 : SCode := .block 0 c102_16
def c102_18 : SCode := .seq (.region c102_1 [0, 1, 7, 8]) c102_17
def c102_19 : List SOper := [⟨some 4, .q (.mv (.c (.int .i64 (-1)))), none⟩]
def c102_20 : SCode := .seq (.region c102_19 [4]) .ret
def c102_21 : SCode := .seq c102_18 c102_20
def c102_22 : SCode := .seq (.region c102_0 [0, 1]) c102_21
def c102 : SCode := c102_22
theorem w102 : type_of% (And.intro (uR Try.prog c102_0.eq_1) (And.intro (uR Try.prog c102_1.eq_1) (And.intro (uR Try.prog c102_2.eq_1) (And.intro (uC Try.prog c102_3.eq_1) (And.intro (uR Try.prog c102_4.eq_1) (And.intro (uR Try.prog c102_5.eq_1) (And.intro (uR Try.prog c102_6.eq_1) (And.intro (uC Try.prog c102_7.eq_1) (And.intro (uC Try.prog c102_8.eq_1) (And.intro (uC Try.prog c102_9.eq_1) (And.intro (uC Try.prog c102_10.eq_1) (And.intro (uC Try.prog c102_11.eq_1) (And.intro (uR Try.prog c102_12.eq_1) (And.intro (uC Try.prog c102_13.eq_1) (And.intro (uC Try.prog c102_14.eq_1) (And.intro (uC Try.prog c102_15.eq_1) (And.intro (uC Try.prog c102_16.eq_1) (And.intro (uC Try.prog c102_17.eq_1) (And.intro (uC Try.prog c102_18.eq_1) (And.intro (uR Try.prog c102_19.eq_1) (And.intro (uC Try.prog c102_20.eq_1) (And.intro (uC Try.prog c102_21.eq_1) (And.intro (uC Try.prog c102_22.eq_1) (uC Try.prog c102.eq_1)))))))))))))))))))))))) := (And.intro (uR Try.prog c102_0.eq_1) (And.intro (uR Try.prog c102_1.eq_1) (And.intro (uR Try.prog c102_2.eq_1) (And.intro (uC Try.prog c102_3.eq_1) (And.intro (uR Try.prog c102_4.eq_1) (And.intro (uR Try.prog c102_5.eq_1) (And.intro (uR Try.prog c102_6.eq_1) (And.intro (uC Try.prog c102_7.eq_1) (And.intro (uC Try.prog c102_8.eq_1) (And.intro (uC Try.prog c102_9.eq_1) (And.intro (uC Try.prog c102_10.eq_1) (And.intro (uC Try.prog c102_11.eq_1) (And.intro (uR Try.prog c102_12.eq_1) (And.intro (uC Try.prog c102_13.eq_1) (And.intro (uC Try.prog c102_14.eq_1) (And.intro (uC Try.prog c102_15.eq_1) (And.intro (uC Try.prog c102_16.eq_1) (And.intro (uC Try.prog c102_17.eq_1) (And.intro (uC Try.prog c102_18.eq_1) (And.intro (uR Try.prog c102_19.eq_1) (And.intro (uC Try.prog c102_20.eq_1) (And.intro (uC Try.prog c102_21.eq_1) (And.intro (uC Try.prog c102_22.eq_1) (uC Try.prog c102.eq_1))))))))))))))))))))))))
def v102 : List RV := [.t 4]
theorem s102 : slimF Try.prog Try.f102 = some (c102.bare, v102) := by kernel_rfl
/-! 91 slices.ContainsFunc[[]loop.example/g00066/impl.Clip,loop.example/g00066/impl.Clip]: parameters 2, live [0, 1], slots [0:s, 1:f, 2:s, 3:f] -/
def c91_0 : List SOper := [⟨some 4, .q (.mv (.c (.bool false))), none⟩]
def c91_1 : List SOper := [⟨some 5, .q (.mv (.t 0)), none⟩, ⟨some 6, .q (.mv (.t 1)), none⟩, ⟨some 7, .e (.call 102 [(.t 5), (.t 6)]), none⟩, ⟨some 8, .q (.bin .geq (.t 7) (.c (.int .i64 0))), none⟩, ⟨some 4, .q (.mv (.t 8)), none⟩]
def c91_2 : SCode := .seq (.region c91_1 [4]) .ret
def c91_3 : SCode := .seq (.region c91_0 [0, 1]) c91_2
def c91 : SCode := c91_3
theorem w91 : type_of% (And.intro (uR Try.prog c91_0.eq_1) (And.intro (uR Try.prog c91_1.eq_1) (And.intro (uC Try.prog c91_2.eq_1) (And.intro (uC Try.prog c91_3.eq_1) (uC Try.prog c91.eq_1))))) := (And.intro (uR Try.prog c91_0.eq_1) (And.intro (uR Try.prog c91_1.eq_1) (And.intro (uC Try.prog c91_2.eq_1) (And.intro (uC Try.prog c91_3.eq_1) (uC Try.prog c91.eq_1)))))
def v91 : List RV := [.t 4]
theorem s91 : slimF Try.prog Try.f91 = some (c91.bare, v91) := by kernel_rfl
/-! 50 loop.example/g00066/impl.TrackOk: parameters 1, live [0], slots [0:track, 1:track] -/
def c50_0 : List SOper := [⟨some 2, .q (.mv (.c (.bool false))), none⟩]
def c50_1 : List SOper := [⟨some 3, .q (.mv (.t 0)), none⟩, ⟨some 4, .q (.len (.t 3)), none⟩, ⟨some 5, .q (.bin .leq (.t 4) (.c (.int .i64 300))), none⟩, ⟨some 6, .q (.mv (.t 5)), none⟩, ⟨some 7, .q (.mv (.t 0)), some (6, true)⟩, ⟨some 8, .e (.call 91 [(.t 7), (.f 92)]), some (6, true)⟩, ⟨some 9, .q (.not (.t 8)), some (6, true)⟩, ⟨some 10, .q (.pick (.t 6) (.t 9) (.c (.bool false))), none⟩, ⟨some 11, .q (.mv (.t 10)), none⟩, ⟨some 12, .q (.mv (.t 0)), some (11, true)⟩, ⟨some 13, .e (.call 60 [(.t 12)]), some (11, true)⟩, ⟨some 14, .q (.bin .leq (.t 13) (.c (.int .i64 10000000))), some (11, true)⟩, ⟨some 15, .q (.pick (.t 11) (.t 14) (.c (.bool false))), none⟩, ⟨some 2, .q (.mv (.t 15)), none⟩]
def c50_2 : SCode := .seq (.region c50_1 [2]) .ret
def c50_3 : SCode := .seq (.region c50_0 [0]) c50_2
def c50 : SCode := c50_3
theorem w50 : type_of% (And.intro (uR Try.prog c50_0.eq_1) (And.intro (uR Try.prog c50_1.eq_1) (And.intro (uC Try.prog c50_2.eq_1) (And.intro (uC Try.prog c50_3.eq_1) (uC Try.prog c50.eq_1))))) := (And.intro (uR Try.prog c50_0.eq_1) (And.intro (uR Try.prog c50_1.eq_1) (And.intro (uC Try.prog c50_2.eq_1) (And.intro (uC Try.prog c50_3.eq_1) (uC Try.prog c50.eq_1)))))
def v50 : List RV := [.t 2]
theorem s50 : slimF Try.prog Try.f50 = some (c50.bare, v50) := by kernel_rfl
/-! 60 loop.example/g00066/impl.long: parameters 1, live [0], slots [0:track, 1:track, 3:out, 4:_, 5:c] -/
def c60_0 : List SOper := [⟨some 2, .q (.mv (.c (.int .i64 0))), none⟩]
def c60_1 : List SOper := [⟨some 3, .q (.mv (.c (.int .i64 0))), none⟩]
def c60_2 : List SOper := [⟨some 6, .q (.mv (.t 0)), none⟩, ⟨some 7, .q (.len (.t 6)), none⟩, ⟨some 8, .q (.mv (.c (.int .i64 0))), none⟩]
def c60_3 : List SOper := [⟨some 9, .q (.bin .lss (.t 8) (.t 7)), none⟩]
def c60_4 : SCode := .cond (.t 9) .skip (.exit 0)
def c60_5 : List SOper := [⟨some 10, .q (.ia 3 (.t 6) (.t 8)), none⟩, ⟨some 11, .q (.ldn 3 (.t 10)), none⟩, ⟨some 5, .a (.new [(.int .i64 0), (.int .i64 0), (.int .i64 0)]), none⟩, ⟨none, .e (.st 3 (.t 5) (.t 11)), none⟩]
def c60_6 : List SOper := [⟨some 12, .q (.mv (.t 3)), none⟩, ⟨some 13, .q (.fa 2 (.t 5)), none⟩, ⟨some 14, .q (.ld (.t 13)), none⟩, ⟨some 15, .q (.bin .add (.t 12) (.t 14)), none⟩, ⟨some 3, .q (.mv (.t 15)), none⟩]
def c60_7 : SCode := .seq (.region c60_5 [3, 5, 6, 7, 8]) (.region c60_6 [3, 6, 7, 8])
def c60_8 : SCode := .block 1 c60_7
def c60_9 : List SOper := [⟨some 16, .q (.bin .add (.t 8) (.c (.int .i64 1))), none⟩, ⟨some 8, .q (.mv (.t 16)), none⟩]
def c60_10 : SCode := .seq c60_8 (.region c60_9 [3, 6, 7, 8])
def c60_11 : SCode := .seq c60_4 c60_10
def c60_12 : SCode := .seq (.region c60_3 [3, 6, 7, 8, 9]) c60_11
def c60_13 : SCode := .loop c60_12
def c60_14 : SCode := .block 0 c60_13
def c60_15 : SCode := .seq (.region c60_2 [3, 6, 7, 8]) c60_14
def c60_16 : List SOper := [⟨some 17, .q (.mv (.t 3)), none⟩, ⟨some 2, .q (.mv (.t 17)), none⟩]
def c60_17 : SCode := .seq (.region c60_16 [2]) .ret
def c60_18 : SCode := .seq c60_15 c60_17
def c60_19 : SCode := .seq (.region c60_1 [0, 3]) c60_18
def c60_20 : SCode := .seq (.region c60_0 [0]) c60_19
def c60 : SCode := c60_20
theorem w60 : type_of% (And.intro (uR Try.prog c60_0.eq_1) (And.intro (uR Try.prog c60_1.eq_1) (And.intro (uR Try.prog c60_2.eq_1) (And.intro (uR Try.prog c60_3.eq_1) (And.intro (uC Try.prog c60_4.eq_1) (And.intro (uR Try.prog c60_5.eq_1) (And.intro (uR Try.prog c60_6.eq_1) (And.intro (uC Try.prog c60_7.eq_1) (And.intro (uC Try.prog c60_8.eq_1) (And.intro (uR Try.prog c60_9.eq_1) (And.intro (uC Try.prog c60_10.eq_1) (And.intro (uC Try.prog c60_11.eq_1) (And.intro (uC Try.prog c60_12.eq_1) (And.intro (uC Try.prog c60_13.eq_1) (And.intro (uC Try.prog c60_14.eq_1) (And.intro (uC Try.prog c60_15.eq_1) (And.intro (uR Try.prog c60_16.eq_1) (And.intro (uC Try.prog c60_17.eq_1) (And.intro (uC Try.prog c60_18.eq_1) (And.intro (uC Try.prog c60_19.eq_1) (And.intro (uC Try.prog c60_20.eq_1) (uC Try.prog c60.eq_1)))))))))))))))))))))) := (And.intro (uR Try.prog c60_0.eq_1) (And.intro (uR Try.prog c60_1.eq_1) (And.intro (uR Try.prog c60_2.eq_1) (And.intro (uR Try.prog c60_3.eq_1) (And.intro (uC Try.prog c60_4.eq_1) (And.intro (uR Try.prog c60_5.eq_1) (And.intro (uR Try.prog c60_6.eq_1) (And.intro (uC Try.prog c60_7.eq_1) (And.intro (uC Try.prog c60_8.eq_1) (And.intro (uR Try.prog c60_9.eq_1) (And.intro (uC Try.prog c60_10.eq_1) (And.intro (uC Try.prog c60_11.eq_1) (And.intro (uC Try.prog c60_12.eq_1) (And.intro (uC Try.prog c60_13.eq_1) (And.intro (uC Try.prog c60_14.eq_1) (And.intro (uC Try.prog c60_15.eq_1) (And.intro (uR Try.prog c60_16.eq_1) (And.intro (uC Try.prog c60_17.eq_1) (And.intro (uC Try.prog c60_18.eq_1) (And.intro (uC Try.prog c60_19.eq_1) (And.intro (uC Try.prog c60_20.eq_1) (uC Try.prog c60.eq_1))))))))))))))))))))))
def v60 : List RV := [.t 2]
theorem s60 : slimF Try.prog Try.f60 = some (c60.bare, v60) := by kernel_rfl
/-! 94 (loop.example/g00066/impl.Clip).follows: parameters 2, live [0, 1], slots [0:c, 1:ahead, 2:c, 3:ahead] -/
def c94_0 : List SOper := [⟨some 2, .a (.box (.t 0)), none⟩, ⟨some 3, .a (.box (.t 1)), none⟩, ⟨some 4, .q (.mv (.c (.bool false))), none⟩]
def c94_1 : List SOper := [⟨some 5, .q (.fa 0 (.t 2)), none⟩, ⟨some 6, .q (.ld (.t 5)), none⟩, ⟨some 7, .q (.fa 0 (.t 3)), none⟩, ⟨some 8, .q (.ld (.t 7)), none⟩, ⟨some 9, .q (.bin .eql (.t 6) (.t 8)), none⟩, ⟨some 10, .q (.mv (.t 9)), none⟩, ⟨some 11, .q (.ldn 3 (.t 2)), some (10, true)⟩, ⟨some 12, .e (.call 87 [(.t 11)]), some (10, true)⟩, ⟨some 13, .q (.mv (.t 12)), some (10, true)⟩, ⟨some 14, .q (.fa 1 (.t 2)), some (13, false)⟩, ⟨some 15, .q (.ld (.t 14)), some (13, false)⟩, ⟨some 16, .q (.fa 1 (.t 3)), some (13, false)⟩, ⟨some 17, .q (.ld (.t 16)), some (13, false)⟩, ⟨some 18, .q (.fa 2 (.t 3)), some (13, false)⟩, ⟨some 19, .q (.ld (.t 18)), some (13, false)⟩, ⟨some 20, .q (.bin .add (.t 17) (.t 19)), some (13, false)⟩, ⟨some 21, .q (.bin .eql (.t 15) (.t 20)), some (13, false)⟩, ⟨some 22, .q (.pick (.t 13) (.c (.bool true)) (.t 21)), some (10, true)⟩, ⟨some 23, .q (.pick (.t 10) (.t 22) (.c (.bool false))), none⟩, ⟨some 4, .q (.mv (.t 23)), none⟩]
def c94_2 : SCode := .seq (.region c94_1 [4]) .ret
def c94_3 : SCode := .seq (.region c94_0 [2, 3]) c94_2
def c94 : SCode := c94_3
theorem w94 : type_of% (And.intro (uR Try.prog c94_0.eq_1) (And.intro (uR Try.prog c94_1.eq_1) (And.intro (uC Try.prog c94_2.eq_1) (And.intro (uC Try.prog c94_3.eq_1) (uC Try.prog c94.eq_1))))) := (And.intro (uR Try.prog c94_0.eq_1) (And.intro (uR Try.prog c94_1.eq_1) (And.intro (uC Try.prog c94_2.eq_1) (And.intro (uC Try.prog c94_3.eq_1) (uC Try.prog c94.eq_1)))))
def v94 : List RV := [.t 4]
theorem s94 : slimF Try.prog Try.f94 = some (c94.bare, v94) := by kernel_rfl
/-! 52 slices.Clone[[]loop.example/g00066/impl.Clip,loop.example/g00066/impl.Clip]: parameters 1, live [0], slots [0:s, 1:s] -/
def c52_0 : List SOper := [⟨some 2, .q (.mv (.c (.slice none 0 0))), none⟩]
def c52_1 : List SOper := [⟨some 3, .q (.mv (.t 0)), none⟩, ⟨some 4, .q (.eqs false (.t 3) (.c (.slice none 0 0))), none⟩]
def c52_2 : List SOper := [⟨some 2, .q (.mv (.c (.slice none 0 0))), none⟩]
def c52_3 : SCode := .seq (.region c52_2 [2]) .ret
def c52_4 : SCode := .cond (.t 4) c52_3 .skip
def c52_5 : SCode := .seq (.region c52_1 [0, 4]) c52_4
def c52_6 : List SOper := [⟨some 5, .a (.bsl 0 3 [] []), none⟩, ⟨some 6, .q (.mv (.t 0)), none⟩, ⟨some 7, .e (.app 24 3 (.t 5) (.t 6)), none⟩, ⟨some 2, .q (.mv (.t 7)), none⟩]
def c52_7 : SCode := .seq (.region c52_6 [2]) .ret
def c52_8 : SCode := .seq c52_5 c52_7
def c52_9 : SCode := .seq (.region c52_0 [0]) c52_8
def c52 : SCode := c52_9
theorem w52 : type_of% (And.intro (uR Try.prog c52_0.eq_1) (And.intro (uR Try.prog c52_1.eq_1) (And.intro (uR Try.prog c52_2.eq_1) (And.intro (uC Try.prog c52_3.eq_1) (And.intro (uC Try.prog c52_4.eq_1) (And.intro (uC Try.prog c52_5.eq_1) (And.intro (uR Try.prog c52_6.eq_1) (And.intro (uC Try.prog c52_7.eq_1) (And.intro (uC Try.prog c52_8.eq_1) (And.intro (uC Try.prog c52_9.eq_1) (uC Try.prog c52.eq_1))))))))))) := (And.intro (uR Try.prog c52_0.eq_1) (And.intro (uR Try.prog c52_1.eq_1) (And.intro (uR Try.prog c52_2.eq_1) (And.intro (uC Try.prog c52_3.eq_1) (And.intro (uC Try.prog c52_4.eq_1) (And.intro (uC Try.prog c52_5.eq_1) (And.intro (uR Try.prog c52_6.eq_1) (And.intro (uC Try.prog c52_7.eq_1) (And.intro (uC Try.prog c52_8.eq_1) (And.intro (uC Try.prog c52_9.eq_1) (uC Try.prog c52.eq_1)))))))))))
def v52 : List RV := [.t 2]
theorem s52 : slimF Try.prog Try.f52 = some (c52.bare, v52) := by kernel_rfl

theorem in_ok (h : Heap) (x lo hi : Int) : ACall Try.prog 51 [.int .i64 x, .int .i64 lo, .int .i64 hi] h fun r h' => h' = h ∧ r = .bool (decide (lo ≤ x ∧ x ≤ hi)) := by
  refine ACall.of Try.func51 s51 (of_decide_eq_true rfl) ?_
  simp (maxSteps := 4000000) (disch := omega) only [ah, am, Nat.reduceEqDiff, reduceCtorEq, Nat.reduceAdd, Nat.reduceLeDiff, Nat.reduceMul, Nat.reduceLT, if_true, if_false, true_and, and_true, and_self, Nat.reduceBEq, QOp.loads, boxO, bslO, buildO, cutL, fillV, putL, w51, v51]
  (repeat' first
    | (refine stepG.cases (fun _ hp => ?_) (fun _ hp => ?_) <;> simp (maxSteps := 4000000) (disch := omega) only [hp, ah, am, Nat.reduceEqDiff, reduceCtorEq, Nat.reduceAdd, Nat.reduceLeDiff, Nat.reduceMul, Nat.reduceLT, if_true, if_false, true_and, and_true, and_self, Nat.reduceBEq, QOp.loads, boxO, bslO, buildO, cutL, fillV, putL, i64w, w51, v51])
    | (refine stepI.cases (fun _ hp => ?_) (fun _ hp => ?_) <;> simp (maxSteps := 4000000) (disch := omega) only [hp, ah, am, Nat.reduceEqDiff, reduceCtorEq, Nat.reduceAdd, Nat.reduceLeDiff, Nat.reduceMul, Nat.reduceLT, if_true, if_false, true_and, and_true, and_self, Nat.reduceBEq, QOp.loads, boxO, bslO, buildO, cutL, fillV, putL, i64w, w51, v51]))
  all_goals (refine bool_dec ?_; try simp only [decide_eq_true_eq, Bool.false_eq_true, false_and, and_false, true_and, and_true, false_iff, iff_false, true_iff, iff_true, not_false_eq_true, false_or, or_false, true_or, or_true]; first | done | omega | (refine Iff.intro (fun hq => ?_) (fun hq => ?_) <;> omega))
theorem isGap_ok (h : Heap) (k : Clip) : ACall Try.prog 87 [.agg (encClip k).toArray] h fun r h' => h' = h.more [encClip k] ∧ r = .bool (decide (k.src = 0)) := by
  obtain ⟨a, b, c⟩ := k
  refine ACall.of Try.func87 s87 (of_decide_eq_true rfl) ?_
  simp (maxSteps := 4000000) (disch := omega) only [ah, am, Nat.reduceEqDiff, reduceCtorEq, Nat.reduceAdd, Nat.reduceLeDiff, Nat.reduceMul, Nat.reduceLT, if_true, if_false, true_and, and_true, and_self, Nat.reduceBEq, QOp.loads, boxO, bslO, buildO, cutL, fillV, putL, w87, v87, encClip]
theorem isGap_ok' (h : Heap) (a b c : Int) : ACall Try.prog 87 [.agg [.int .i64 a, .int .i64 b, .int .i64 c].toArray] h fun r h' => h' = h.more [[.int .i64 a, .int .i64 b, .int .i64 c]] ∧ r = .bool (decide (a = 0)) := isGap_ok h ⟨a, b, c⟩
theorem ok_ok (h : Heap) (k : Clip) : ACall Try.prog 53 [.agg (encClip k).toArray] h fun r h' => Ext h h' ∧ r = .bool (decide (clipOk k)) := by
  obtain ⟨a, b, c⟩ := k
  refine ACall.of Try.func53 s53 (of_decide_eq_true rfl) ?_
  simp (maxSteps := 4000000) (disch := omega) only [ah, am, Nat.reduceEqDiff, reduceCtorEq, Nat.reduceAdd, Nat.reduceLeDiff, Nat.reduceMul, Nat.reduceLT, if_true, if_false, true_and, and_true, and_self, Nat.reduceBEq, QOp.loads, boxO, bslO, buildO, cutL, fillV, putL, w53, v53, encClip]
  (repeat' first
    | (refine stepC.of (in_ok _ _ _ _) ?_; rintro _ _ ⟨rfl, rfl⟩; simp (maxSteps := 4000000) (disch := omega) only [ah, am, Nat.reduceEqDiff, reduceCtorEq, Nat.reduceAdd, Nat.reduceLeDiff, Nat.reduceMul, Nat.reduceLT, if_true, if_false, true_and, and_true, and_self, Nat.reduceBEq, QOp.loads, boxO, bslO, buildO, cutL, fillV, putL, i64w, w53, v53])
    | (refine stepC.of (isGap_ok' _ _ _ _) ?_; rintro _ _ ⟨rfl, rfl⟩; simp (maxSteps := 4000000) (disch := omega) only [ah, am, Nat.reduceEqDiff, reduceCtorEq, Nat.reduceAdd, Nat.reduceLeDiff, Nat.reduceMul, Nat.reduceLT, if_true, if_false, true_and, and_true, and_self, Nat.reduceBEq, QOp.loads, boxO, bslO, buildO, cutL, fillV, putL, i64w, w53, v53])
    | (refine stepG.cases (fun _ hp => ?_) (fun _ hp => ?_) <;> simp (maxSteps := 4000000) (disch := omega) only [hp, ah, am, Nat.reduceEqDiff, reduceCtorEq, Nat.reduceAdd, Nat.reduceLeDiff, Nat.reduceMul, Nat.reduceLT, if_true, if_false, true_and, and_true, and_self, Nat.reduceBEq, QOp.loads, boxO, bslO, buildO, cutL, fillV, putL, i64w, w53, v53])
    | (refine stepI.cases (fun _ hp => ?_) (fun _ hp => ?_) <;> simp (maxSteps := 4000000) (disch := omega) only [hp, ah, am, Nat.reduceEqDiff, reduceCtorEq, Nat.reduceAdd, Nat.reduceLeDiff, Nat.reduceMul, Nat.reduceLT, if_true, if_false, true_and, and_true, and_self, Nat.reduceBEq, QOp.loads, boxO, bslO, buildO, cutL, fillV, putL, i64w, w53, v53]))
  all_goals (refine ⟨Ext.more _ _, ?_⟩; refine bool_dec ?_; try simp only [decide_eq_true_eq, Bool.false_eq_true, false_and, and_false, true_and, and_true, false_iff, iff_false, true_iff, iff_true, not_false_eq_true, false_or, or_false, true_or, or_true, clipOk]; first | done | omega | (refine Iff.intro (fun hq => ?_) (fun hq => ?_) <;> omega))
theorem TrackOk1_ok (h : Heap) (k : Clip) : ACall Try.prog 92 [.agg (encClip k).toArray] h fun r h' => Ext h h' ∧ r = .bool (!decide (clipOk k)) := by
  have g := ok_ok (h.more [encClip k]) k
  obtain ⟨a, b, c⟩ := k
  refine ACall.of Try.func92 s92 (of_decide_eq_true rfl) ?_
  simp (maxSteps := 4000000) (disch := omega) only [ah, am, Nat.reduceEqDiff, reduceCtorEq, Nat.reduceAdd, Nat.reduceLeDiff, Nat.reduceMul, Nat.reduceLT, if_true, if_false, true_and, and_true, and_self, Nat.reduceBEq, QOp.loads, boxO, bslO, buildO, cutL, fillV, putL, w92, v92, encClip]
  refine stepC.of g ?_
  rintro _ H ⟨e, rfl⟩
  simp (maxSteps := 4000000) (disch := omega) only [ah, am, Nat.reduceEqDiff, reduceCtorEq, Nat.reduceAdd, Nat.reduceLeDiff, Nat.reduceMul, Nat.reduceLT, if_true, if_false, true_and, and_true, and_self, Nat.reduceBEq, QOp.loads, boxO, bslO, buildO, cutL, fillV, putL, w92, v92]
  exact (Ext.more h _).trans e
theorem IndexFunc_ok (h : Heap) (v : Value) (l : List Clip) (n : Nat) (cap : Array Value) (p : Clip → Bool) (s : SlT h encClip 3 v l) (hl : l.length ≤ 1100000)
    (hf : ∃ fn, Try.prog.funcs[n]? = some fn ∧ fn.body.isSome = true ∧ fn.name ≠ "runtime.NumGoroutine")
    (H : ∀ h' k, Ext h h' → k ∈ l → ACall Try.prog n ([.agg (encClip k).toArray] ++ cap.toList) h' fun r h2 => Ext h' h2 ∧ r = .bool (p k)) :
    ACall Try.prog 102 [v, .func (.func n) #[] cap] h fun r h' => Ext h h' ∧ r = .int .i64 (match l.findIdx? p with | some j => (j : Int) | none => -1) := by
  obtain ⟨fn, hf1, hf2, hf3⟩ := hf
  refine ACall.of Try.func102 s102 (of_decide_eq_true rfl) ?_
  have R := s.rulesN
  simp (maxSteps := 4000000) (disch := omega) only [ah, am, Nat.reduceEqDiff, reduceCtorEq, Nat.reduceAdd, Nat.reduceLeDiff, Nat.reduceMul, Nat.reduceLT, if_true, if_false, true_and, and_true, and_self, Nat.reduceBEq, QOp.loads, boxO, bslO, buildO, cutL, fillV, putL, w102, v102, R]
  refine SW_loop_up (fun i E H => E = [(0, v), (1, .func (.func n) #[] cap), (7, .int .i64 l.length), (8, .int .i64 i)] ∧ Ext h H ∧ ∀ j (hj : j < l.length), j < i → p l[j] = false) l.length 0 (by omega)
    ⟨rfl, Ext.refl h, fun j _ hj => absurd hj (by omega)⟩ ?_
  rintro i E H1 hi ⟨rfl, e, F⟩
  have R := (s.ext e).rulesN
  have W : IntKind.i64.wrap ((i : Int) + 1) = ((i + 1 : Nat) : Int) := i64e (by omega) (by omega)
  simp (maxSteps := 4000000) (disch := omega) only [ah, am, Nat.reduceEqDiff, reduceCtorEq, Nat.reduceAdd, Nat.reduceLeDiff, Nat.reduceMul, Nat.reduceLT, if_true, if_false, true_and, and_true, and_self, Nat.reduceBEq, QOp.loads, boxO, bslO, buildO, cutL, fillV, putL, w102, v102, R]
  refine stepI.split (fun hp => ?_) (fun hp => ?_)
  · have hi' : i < l.length := by omega
    simp (maxSteps := 4000000) (disch := omega) only [ah, am, Nat.reduceEqDiff, reduceCtorEq, Nat.reduceAdd, Nat.reduceLeDiff, Nat.reduceMul, Nat.reduceLT, if_true, if_false, true_and, and_true, and_self, Nat.reduceBEq, QOp.loads, boxO, bslO, buildO, cutL, fillV, putL, w102, v102, R, nilV_func]
    refine stepV.of hf1 hf2 hf3 (H H1 _ e (List.getElem_mem hi')) ?_
    rintro _ H2 ⟨e2, rfl⟩
    simp (maxSteps := 4000000) (disch := omega) only [ah, am, Nat.reduceEqDiff, reduceCtorEq, Nat.reduceAdd, Nat.reduceLeDiff, Nat.reduceMul, Nat.reduceLT, if_true, if_false, true_and, and_true, and_self, Nat.reduceBEq, QOp.loads, boxO, bslO, buildO, cutL, fillV, putL, w102, v102, W]
    refine stepI.splitB (fun hk => ?_) (fun hk => ?_)
    · simp (maxSteps := 4000000) (disch := omega) only [ah, am, Nat.reduceEqDiff, reduceCtorEq, Nat.reduceAdd, Nat.reduceLeDiff, Nat.reduceMul, Nat.reduceLT, if_true, if_false, true_and, and_true, and_self, Nat.reduceBEq, QOp.loads, boxO, bslO, buildO, cutL, fillV, putL, w102, v102, W]
      refine ⟨e.trans e2, ?_⟩
      have : l.findIdx? p = some i := by
        rw [List.findIdx?_eq_some_iff_getElem]
        exact ⟨hi', hk, fun j hj => by rw [F j (by omega) hj]; decide⟩
      rw [this]
    · simp (maxSteps := 4000000) (disch := omega) only [ah, am, Nat.reduceEqDiff, reduceCtorEq, Nat.reduceAdd, Nat.reduceLeDiff, Nat.reduceMul, Nat.reduceLT, if_true, if_false, true_and, and_true, and_self, Nat.reduceBEq, QOp.loads, boxO, bslO, buildO, cutL, fillV, putL, w102, v102, W]
      refine ⟨hi', e.trans e2, fun j hj hj2 => ?_⟩
      by_cases hji : j = i
      · subst hji; exact hk
      · exact F j hj (by omega)
  · simp (maxSteps := 4000000) (disch := omega) only [ah, am, Nat.reduceEqDiff, reduceCtorEq, Nat.reduceAdd, Nat.reduceLeDiff, Nat.reduceMul, Nat.reduceLT, if_true, if_false, true_and, and_true, and_self, Nat.reduceBEq, QOp.loads, boxO, bslO, buildO, cutL, fillV, putL, w102, v102, R, W]
    obtain rfl : i = l.length := by omega
    refine ⟨e, ?_⟩
    have : l.findIdx? p = none := by
      rw [List.findIdx?_eq_none_iff]
      intro x hx
      obtain ⟨j, hj, rfl⟩ := List.getElem_of_mem hx
      exact F j hj hj
    rw [this]
theorem ContainsFunc_ok (h : Heap) (v : Value) (l : List Clip) (n : Nat) (cap : Array Value) (p : Clip → Bool) (s : SlT h encClip 3 v l) (hl : l.length ≤ 1100000)
    (hf : ∃ fn, Try.prog.funcs[n]? = some fn ∧ fn.body.isSome = true ∧ fn.name ≠ "runtime.NumGoroutine")
    (H : ∀ h' k, Ext h h' → k ∈ l → ACall Try.prog n ([.agg (encClip k).toArray] ++ cap.toList) h' fun r h2 => Ext h' h2 ∧ r = .bool (p k)) :
    ACall Try.prog 91 [v, .func (.func n) #[] cap] h fun r h' => Ext h h' ∧ r = .bool (l.any p) := by
  refine ACall.of Try.func91 s91 (of_decide_eq_true rfl) ?_
  simp (maxSteps := 4000000) (disch := omega) only [ah, am, Nat.reduceEqDiff, reduceCtorEq, Nat.reduceAdd, Nat.reduceLeDiff, Nat.reduceMul, Nat.reduceLT, if_true, if_false, true_and, and_true, and_self, Nat.reduceBEq, QOp.loads, boxO, bslO, buildO, cutL, fillV, putL, w91, v91]
  refine stepC.of (IndexFunc_ok h v l n cap p s hl hf H) ?_
  rintro _ H1 ⟨e, rfl⟩
  simp (maxSteps := 4000000) (disch := omega) only [ah, am, Nat.reduceEqDiff, reduceCtorEq, Nat.reduceAdd, Nat.reduceLeDiff, Nat.reduceMul, Nat.reduceLT, if_true, if_false, true_and, and_true, and_self, Nat.reduceBEq, QOp.loads, boxO, bslO, buildO, cutL, fillV, putL, w91, v91]
  refine ⟨e, ?_⟩
  cases hq : l.findIdx? p with
  | none =>
    rw [List.findIdx?_eq_none_iff] at hq
    have : l.any p = false := by rw [List.any_eq_false]; intro x hx; rw [hq x hx]; decide
    rw [this]; rfl
  | some j =>
    rw [List.findIdx?_eq_some_iff_getElem] at hq
    obtain ⟨hj, hp, _⟩ := hq
    have : l.any p = true := List.any_eq_true.mpr ⟨_, List.getElem_mem hj, hp⟩
    rw [this]
    congr 1
theorem long_ok (h : Heap) (v : Value) (l : List Clip) (s : SlT h encClip 3 v l) (hl : l.length ≤ 300) (ho : ∀ k ∈ l, clipOk k) : ACall Try.prog 60 [v] h fun r h' => Ext h h' ∧ r = .int .i64 (sumLen l) := by
  refine ACall.of Try.func60 s60 (of_decide_eq_true rfl) ?_
  have R := s.rulesN
  simp (maxSteps := 4000000) (disch := omega) only [ah, am, Nat.reduceEqDiff, reduceCtorEq, Nat.reduceAdd, Nat.reduceLeDiff, Nat.reduceMul, Nat.reduceLT, if_true, if_false, true_and, and_true, and_self, Nat.reduceBEq, QOp.loads, boxO, bslO, buildO, cutL, fillV, putL, w60, v60, R]
  refine SW_loop_up (fun i E H => E = [(3, .int .i64 (sumLen (l.take i))), (6, v), (7, .int .i64 l.length), (8, .int .i64 i)] ∧ Ext h H) l.length 0 (by omega) ⟨by simp [sumLen], Ext.refl h⟩ ?_
  rintro i E H hi ⟨rfl, e⟩
  have R := (s.ext e).rulesN
  have W : IntKind.i64.wrap ((i : Int) + 1) = ((i + 1 : Nat) : Int) := i64e (by omega) (by omega)
  simp (maxSteps := 4000000) (disch := omega) only [ah, am, Nat.reduceEqDiff, reduceCtorEq, Nat.reduceAdd, Nat.reduceLeDiff, Nat.reduceMul, Nat.reduceLT, if_true, if_false, true_and, and_true, and_self, Nat.reduceBEq, QOp.loads, boxO, bslO, buildO, cutL, fillV, putL, w60, v60, R]
  refine stepI.split (fun hp => ?_) (fun hp => ?_)
  · have B := sumLen_bound (l := l.take (i + 1)) (fun k hk => ho k (List.mem_of_mem_take hk))
    rw [sumLen_take l i (by omega)] at B
    have hlen : (l.take (i + 1)).length ≤ 300 := by simp; omega
    simp (maxSteps := 4000000) (disch := omega) only [ah, am, Nat.reduceEqDiff, reduceCtorEq, Nat.reduceAdd, Nat.reduceLeDiff, Nat.reduceMul, Nat.reduceLT, if_true, if_false, true_and, and_true, and_self, Nat.reduceBEq, QOp.loads, boxO, bslO, buildO, cutL, fillV, putL, w60, v60, R, W, encClip, i64w]
    exact ⟨by omega, by rw [sumLen_take l i (by omega)], e.trans (Ext.more _ _)⟩
  · simp (maxSteps := 4000000) (disch := omega) only [ah, am, Nat.reduceEqDiff, reduceCtorEq, Nat.reduceAdd, Nat.reduceLeDiff, Nat.reduceMul, Nat.reduceLT, if_true, if_false, true_and, and_true, and_self, Nat.reduceBEq, QOp.loads, boxO, bslO, buildO, cutL, fillV, putL, w60, v60, R, W]
    obtain rfl : i = l.length := by omega
    rw [List.take_length]
    exact ⟨e, rfl⟩
theorem implTrackOk_ok (h : Heap) (v : Value) (l : List Clip) (s : SlT h encClip 3 v l) (hl : l.length ≤ 1100000) : ACall Try.prog 50 [v] h fun r h' => Ext h h' ∧ r = .bool (decide (trackOk l)) := by
  refine ACall.of Try.func50 s50 (of_decide_eq_true rfl) ?_
  have R := s.rulesN
  simp (maxSteps := 4000000) (disch := omega) only [ah, am, Nat.reduceEqDiff, reduceCtorEq, Nat.reduceAdd, Nat.reduceLeDiff, Nat.reduceMul, Nat.reduceLT, if_true, if_false, true_and, and_true, and_self, Nat.reduceBEq, QOp.loads, boxO, bslO, buildO, cutL, fillV, putL, w50, v50, R]
  refine stepG.cases (fun h0 hp => ?_) (fun h0 hp => ?_)
  · simp (maxSteps := 4000000) (disch := omega) only [ah, am, Nat.reduceEqDiff, reduceCtorEq, Nat.reduceAdd, Nat.reduceLeDiff, Nat.reduceMul, Nat.reduceLT, if_true, if_false, true_and, and_true, and_self, Nat.reduceBEq, QOp.loads, boxO, bslO, buildO, cutL, fillV, putL, w50, v50, hp, R]
    refine stepC.of (ContainsFunc_ok h v l 92 #[] (fun k => !decide (clipOk k)) s hl ⟨_, Try.func92, rfl, by decide⟩ (fun h' k _ _ => TrackOk1_ok h' k)) ?_
    rintro _ H1 ⟨e, rfl⟩
    simp (maxSteps := 4000000) (disch := omega) only [ah, am, Nat.reduceEqDiff, reduceCtorEq, Nat.reduceAdd, Nat.reduceLeDiff, Nat.reduceMul, Nat.reduceLT, if_true, if_false, true_and, and_true, and_self, Nat.reduceBEq, QOp.loads, boxO, bslO, buildO, cutL, fillV, putL, w50, v50, hp, R]
    cases hq : l.any (fun k => !decide (clipOk k)) with
    | false =>
      have ho : ∀ k ∈ l, clipOk k := by
        intro k hk; rw [List.any_eq_false] at hq; have := hq k hk; simpa using this
      simp (maxSteps := 4000000) (disch := omega) only [ah, am, Nat.reduceEqDiff, reduceCtorEq, Nat.reduceAdd, Nat.reduceLeDiff, Nat.reduceMul, Nat.reduceLT, if_true, if_false, true_and, and_true, and_self, Nat.reduceBEq, QOp.loads, boxO, bslO, buildO, cutL, fillV, putL, w50, v50, hp, R]
      refine stepC.of (long_ok _ _ _ (s.ext e) (by omega) ho) ?_
      rintro _ H2 ⟨e2, rfl⟩
      simp (maxSteps := 4000000) (disch := omega) only [ah, am, Nat.reduceEqDiff, reduceCtorEq, Nat.reduceAdd, Nat.reduceLeDiff, Nat.reduceMul, Nat.reduceLT, if_true, if_false, true_and, and_true, and_self, Nat.reduceBEq, QOp.loads, boxO, bslO, buildO, cutL, fillV, putL, w50, v50, hp, R]
      refine ⟨e.trans e2, ?_⟩
      refine bool_dec ?_
      simp only [decide_eq_true_eq, trackOk]
      exact ⟨fun hq => ⟨by omega, ho, hq⟩, fun hq => hq.2.2⟩
    | true =>
      simp (maxSteps := 4000000) (disch := omega) only [ah, am, Nat.reduceEqDiff, reduceCtorEq, Nat.reduceAdd, Nat.reduceLeDiff, Nat.reduceMul, Nat.reduceLT, if_true, if_false, true_and, and_true, and_self, Nat.reduceBEq, QOp.loads, boxO, bslO, buildO, cutL, fillV, putL, w50, v50, hp, R]
      refine ⟨e, ?_⟩
      refine bool_dec ?_
      simp only [Bool.false_eq_true, false_iff, trackOk]
      rw [List.any_eq_true] at hq
      obtain ⟨k, hk, hq⟩ := hq
      intro ht
      have := ht.2.1 k hk
      simp [this] at hq
  · simp (maxSteps := 4000000) (disch := omega) only [ah, am, Nat.reduceEqDiff, reduceCtorEq, Nat.reduceAdd, Nat.reduceLeDiff, Nat.reduceMul, Nat.reduceLT, if_true, if_false, true_and, and_true, and_self, Nat.reduceBEq, QOp.loads, boxO, bslO, buildO, cutL, fillV, putL, w50, v50, hp, R]
    refine ⟨Ext.refl h, ?_⟩; refine bool_dec ?_; try simp only [decide_eq_true_eq, Bool.false_eq_true, false_and, and_false, true_and, and_true, false_iff, iff_false, true_iff, iff_true, not_false_eq_true, false_or, or_false, true_or, or_true, trackOk]; first | done | omega | (refine Iff.intro (fun hq => ?_) (fun hq => ?_) <;> omega)
end Go.Proofs.Ytknpombiomnkbaa
