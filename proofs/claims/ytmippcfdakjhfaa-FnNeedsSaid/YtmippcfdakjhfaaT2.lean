import Derived.Test.YtmippcfdakjhfaaT1
import Derived.Test.YtmippcfdakjhfaaG13
namespace Go.Proofs.Ytmippcfdakjhfaa
open Go Go.Ah
set_option linter.unusedSimpArgs false
set_option linter.unusedVariables false
set_option maxRecDepth 10000
set_option maxHeartbeats 4000000
/-! 65 loop.example/g00066/spec.l4Clip: parameters 1, live [0], slots [0:k, 1:k] -/
def c65_0 : List SOper := [⟨some 1, .a (.box (.t 0)), none⟩, ⟨some 2, .q (.mv (.c (.bool false))), none⟩]
def c65_1 : List SOper := [⟨some 3, .q (.fa 2 (.t 1)), none⟩, ⟨some 4, .q (.ld (.t 3)), none⟩, ⟨some 5, .e (.call 42 [(.t 4), (.c (.int .i64 1)), (.c (.int .i64 10000000))]), none⟩, ⟨some 6, .q (.not (.t 5)), none⟩, ⟨some 7, .q (.mv (.t 6)), none⟩, ⟨some 8, .q (.fa 1 (.t 1)), some (7, false)⟩, ⟨some 9, .q (.ld (.t 8)), some (7, false)⟩, ⟨some 10, .e (.call 42 [(.t 9), (.c (.int .i64 0)), (.c (.int .i64 10000000))]), some (7, false)⟩, ⟨some 11, .q (.not (.t 10)), some (7, false)⟩, ⟨some 12, .q (.pick (.t 7) (.c (.bool true)) (.t 11)), none⟩, ⟨some 13, .q (.mv (.t 12)), none⟩, ⟨some 14, .q (.fa 1 (.t 1)), some (13, false)⟩, ⟨some 15, .q (.ld (.t 14)), some (13, false)⟩, ⟨some 16, .q (.fa 2 (.t 1)), some (13, false)⟩, ⟨some 17, .q (.ld (.t 16)), some (13, false)⟩, ⟨some 18, .q (.bin .add (.t 15) (.t 17)), some (13, false)⟩, ⟨some 19, .q (.bin .gtr (.t 18) (.c (.int .i64 10000000))), some (13, false)⟩, ⟨some 20, .q (.pick (.t 13) (.c (.bool true)) (.t 19)), none⟩]
def c65_2 : List SOper := [⟨some 2, .q (.mv (.c (.bool false))), none⟩]
def c65_3 : SCode := .seq (.region c65_2 [2]) .ret
def c65_4 : SCode := .cond (.t 20) c65_3 .skip
def c65_5 : SCode := .seq (.region c65_1 [1, 20]) c65_4
def c65_6 : List SOper := [⟨some 21, .q (.fa 0 (.t 1)), none⟩, ⟨some 22, .q (.ld (.t 21)), none⟩, ⟨some 23, .e (.call 68 [(.t 22)]), none⟩, ⟨some 24, .q (.mv (.t 23)), none⟩, ⟨some 25, .q (.fa 0 (.t 1)), some (24, false)⟩, ⟨some 26, .q (.ld (.t 25)), some (24, false)⟩, ⟨some 27, .q (.bin .eql (.t 26) (.c (.int .i64 0))), some (24, false)⟩, ⟨some 28, .q (.mv (.t 27)), some (24, false)⟩, ⟨some 29, .q (.fa 1 (.t 1)), some (28, true)⟩, ⟨some 30, .q (.ld (.t 29)), some (28, true)⟩, ⟨some 31, .q (.bin .eql (.t 30) (.c (.int .i64 0))), some (28, true)⟩, ⟨some 32, .q (.pick (.t 28) (.t 31) (.c (.bool false))), some (24, false)⟩, ⟨some 33, .q (.pick (.t 24) (.c (.bool true)) (.t 32)), none⟩, ⟨some 2, .q (.mv (.t 33)), none⟩]
def c65_7 : SCode := .seq (.region c65_6 [2]) .ret
def c65_8 : SCode := .seq c65_5 c65_7
def c65_9 : SCode := .seq (.region c65_0 [1]) c65_8
def c65 : SCode := c65_9
theorem w65 : type_of% (And.intro (uR Try.prog c65_0.eq_1) (And.intro (uR Try.prog c65_1.eq_1) (And.intro (uR Try.prog c65_2.eq_1) (And.intro (uC Try.prog c65_3.eq_1) (And.intro (uC Try.prog c65_4.eq_1) (And.intro (uC Try.prog c65_5.eq_1) (And.intro (uR Try.prog c65_6.eq_1) (And.intro (uC Try.prog c65_7.eq_1) (And.intro (uC Try.prog c65_8.eq_1) (And.intro (uC Try.prog c65_9.eq_1) (uC Try.prog c65.eq_1))))))))))) := (And.intro (uR Try.prog c65_0.eq_1) (And.intro (uR Try.prog c65_1.eq_1) (And.intro (uR Try.prog c65_2.eq_1) (And.intro (uC Try.prog c65_3.eq_1) (And.intro (uC Try.prog c65_4.eq_1) (And.intro (uC Try.prog c65_5.eq_1) (And.intro (uR Try.prog c65_6.eq_1) (And.intro (uC Try.prog c65_7.eq_1) (And.intro (uC Try.prog c65_8.eq_1) (And.intro (uC Try.prog c65_9.eq_1) (uC Try.prog c65.eq_1)))))))))))
def v65 : List RV := [.t 2]
theorem s65 : slimF Try.prog Try.f65 = some (c65.bare, v65) := by kernel_rfl
/-! 43 loop.example/g00066/spec.TrackOk: parameters 1, live [0], slots [0:track, 1:track, 3:n, 4:i] -/
def c43_0 : List SOper := [⟨some 2, .q (.mv (.c (.bool false))), none⟩]
def c43_1 : List SOper := [⟨some 5, .q (.mv (.t 0)), none⟩, ⟨some 6, .q (.len (.t 5)), none⟩, ⟨some 7, .q (.bin .gtr (.t 6) (.c (.int .i64 300))), none⟩]
def c43_2 : List SOper := [⟨some 2, .q (.mv (.c (.bool false))), none⟩]
def c43_3 : SCode := .seq (.region c43_2 [2]) .ret
def c43_4 : SCode := .cond (.t 7) c43_3 .skip
def c43_5 : SCode := .seq (.region c43_1 [0, 7]) c43_4
def c43_6 : List SOper := [⟨some 3, .q (.mv (.c (.int .i64 0))), none⟩]
def c43_7 : List SOper := [⟨some 4, .q (.mv (.c (.int .i64 0))), none⟩]
def c43_8 : List SOper := [⟨some 8, .q (.mv (.t 4)), none⟩, ⟨some 9, .q (.mv (.t 0)), none⟩, ⟨some 10, .q (.len (.t 9)), none⟩, ⟨some 11, .q (.bin .lss (.t 8) (.t 10)), none⟩]
def c43_9 : SCode := .cond (.t 11) .skip (.exit 0)
def c43_10 : SCode := .seq (.region c43_8 [0, 3, 4, 11]) c43_9
def c43_11 : List SOper := [⟨some 14, .q (.mv (.t 0)), none⟩, ⟨some 15, .q (.mv (.t 4)), none⟩, ⟨some 16, .q (.ia 3 (.t 14) (.t 15)), none⟩, ⟨some 17, .q (.ldn 3 (.t 16)), none⟩, ⟨some 18, .e (.call 65 [(.t 17)]), none⟩, ⟨some 19, .q (.not (.t 18)), none⟩]
def c43_12 : List SOper := [⟨some 2, .q (.mv (.c (.bool false))), none⟩]
def c43_13 : SCode := .seq (.region c43_12 [2]) .ret
def c43_14 : SCode := .cond (.t 19) c43_13 .skip
def c43_15 : SCode := .seq (.region c43_11 [0, 3, 4, 19]) c43_14
def c43_16 : List SOper := [⟨some 20, .q (.mv (.t 3)), none⟩, ⟨some 21, .q (.mv (.t 0)), none⟩, ⟨some 22, .q (.mv (.t 4)), none⟩, ⟨some 23, .q (.ia 3 (.t 21) (.t 22)), none⟩, ⟨some 24, .q (.fa 2 (.t 23)), none⟩, ⟨some 25, .q (.ld (.t 24)), none⟩, ⟨some 26, .q (.bin .add (.t 20) (.t 25)), none⟩, ⟨some 3, .q (.mv (.t 26)), none⟩]
def c43_17 : SCode := .seq c43_15 (.region c43_16 [0, 3, 4])
def c43_18 : SCode := .block 1 c43_17
def c43_19 : List SOper := [⟨some 12, .q (.mv (.t 4)), none⟩, ⟨some 13, .q (.bin .add (.t 12) (.c (.int .i64 1))), none⟩, ⟨some 4, .q (.mv (.t 13)), none⟩]
def c43_20 : SCode := .seq c43_18 (.region c43_19 [0, 3, 4])
def c43_21 : SCode := .seq c43_10 c43_20
def c43_22 : SCode := .loop c43_21
def c43_23 : SCode := .block 0 c43_22
def c43_24 : SCode := .seq (.region c43_7 [0, 3, 4]) c43_23
def c43_25 : List SOper := [⟨some 27, .q (.mv (.t 3)), none⟩, ⟨some 28, .q (.bin .leq (.t 27) (.c (.int .i64 10000000))), none⟩, ⟨some 2, .q (.mv (.t 28)), none⟩]
def c43_26 : SCode := .seq (.region c43_25 [2]) .ret
def c43_27 : SCode := .seq c43_24 c43_26
def c43_28 : SCode := .seq (.region c43_6 [0, 3]) c43_27
def c43_29 : SCode := .seq c43_5 c43_28
def c43_30 : SCode := .seq (.region c43_0 [0]) c43_29
def c43 : SCode := c43_30
theorem w43 : type_of% (And.intro (uR Try.prog c43_0.eq_1) (And.intro (uR Try.prog c43_1.eq_1) (And.intro (uR Try.prog c43_2.eq_1) (And.intro (uC Try.prog c43_3.eq_1) (And.intro (uC Try.prog c43_4.eq_1) (And.intro (uC Try.prog c43_5.eq_1) (And.intro (uR Try.prog c43_6.eq_1) (And.intro (uR Try.prog c43_7.eq_1) (And.intro (uR Try.prog c43_8.eq_1) (And.intro (uC Try.prog c43_9.eq_1) (And.intro (uC Try.prog c43_10.eq_1) (And.intro (uR Try.prog c43_11.eq_1) (And.intro (uR Try.prog c43_12.eq_1) (And.intro (uC Try.prog c43_13.eq_1) (And.intro (uC Try.prog c43_14.eq_1) (And.intro (uC Try.prog c43_15.eq_1) (And.intro (uR Try.prog c43_16.eq_1) (And.intro (uC Try.prog c43_17.eq_1) (And.intro (uC Try.prog c43_18.eq_1) (And.intro (uR Try.prog c43_19.eq_1) (And.intro (uC Try.prog c43_20.eq_1) (And.intro (uC Try.prog c43_21.eq_1) (And.intro (uC Try.prog c43_22.eq_1) (And.intro (uC Try.prog c43_23.eq_1) (And.intro (uC Try.prog c43_24.eq_1) (And.intro (uR Try.prog c43_25.eq_1) (And.intro (uC Try.prog c43_26.eq_1) (And.intro (uC Try.prog c43_27.eq_1) (And.intro (uC Try.prog c43_28.eq_1) (And.intro (uC Try.prog c43_29.eq_1) (And.intro (uC Try.prog c43_30.eq_1) (uC Try.prog c43.eq_1)))))))))))))))))))))))))))))))) := (And.intro (uR Try.prog c43_0.eq_1) (And.intro (uR Try.prog c43_1.eq_1) (And.intro (uR Try.prog c43_2.eq_1) (And.intro (uC Try.prog c43_3.eq_1) (And.intro (uC Try.prog c43_4.eq_1) (And.intro (uC Try.prog c43_5.eq_1) (And.intro (uR Try.prog c43_6.eq_1) (And.intro (uR Try.prog c43_7.eq_1) (And.intro (uR Try.prog c43_8.eq_1) (And.intro (uC Try.prog c43_9.eq_1) (And.intro (uC Try.prog c43_10.eq_1) (And.intro (uR Try.prog c43_11.eq_1) (And.intro (uR Try.prog c43_12.eq_1) (And.intro (uC Try.prog c43_13.eq_1) (And.intro (uC Try.prog c43_14.eq_1) (And.intro (uC Try.prog c43_15.eq_1) (And.intro (uR Try.prog c43_16.eq_1) (And.intro (uC Try.prog c43_17.eq_1) (And.intro (uC Try.prog c43_18.eq_1) (And.intro (uR Try.prog c43_19.eq_1) (And.intro (uC Try.prog c43_20.eq_1) (And.intro (uC Try.prog c43_21.eq_1) (And.intro (uC Try.prog c43_22.eq_1) (And.intro (uC Try.prog c43_23.eq_1) (And.intro (uC Try.prog c43_24.eq_1) (And.intro (uR Try.prog c43_25.eq_1) (And.intro (uC Try.prog c43_26.eq_1) (And.intro (uC Try.prog c43_27.eq_1) (And.intro (uC Try.prog c43_28.eq_1) (And.intro (uC Try.prog c43_29.eq_1) (And.intro (uC Try.prog c43_30.eq_1) (uC Try.prog c43.eq_1))))))))))))))))))))))))))))))))
def v43 : List RV := [.t 2]
theorem s43 : slimF Try.prog Try.f43 = some (c43.bare, v43) := by kernel_rfl
/-! 41 (loop.example/g00066/impl.Clip).isGap: parameters 1, live [0], slots [0:c, 1:c] -/
def c41_0 : List SOper := [⟨some 1, .a (.box (.t 0)), none⟩, ⟨some 2, .q (.mv (.c (.bool false))), none⟩]
def c41_1 : List SOper := [⟨some 3, .q (.fa 0 (.t 1)), none⟩, ⟨some 4, .q (.ld (.t 3)), none⟩, ⟨some 5, .q (.bin .eql (.t 4) (.c (.int .i64 0))), none⟩, ⟨some 2, .q (.mv (.t 5)), none⟩]
def c41_2 : SCode := .seq (.region c41_1 [2]) .ret
def c41_3 : SCode := .seq (.region c41_0 [1]) c41_2
def c41 : SCode := c41_3
theorem w41 : type_of% (And.intro (uR Try.prog c41_0.eq_1) (And.intro (uR Try.prog c41_1.eq_1) (And.intro (uC Try.prog c41_2.eq_1) (And.intro (uC Try.prog c41_3.eq_1) (uC Try.prog c41.eq_1))))) := (And.intro (uR Try.prog c41_0.eq_1) (And.intro (uR Try.prog c41_1.eq_1) (And.intro (uC Try.prog c41_2.eq_1) (And.intro (uC Try.prog c41_3.eq_1) (uC Try.prog c41.eq_1)))))
def v41 : List RV := [.t 2]
theorem s41 : slimF Try.prog Try.f41 = some (c41.bare, v41) := by kernel_rfl
/-! 63 (loop.example/g00066/impl.Clip).ok: parameters 1, live [0], slots [0:c, 1:c] -/
def c63_0 : List SOper := [⟨some 1, .a (.box (.t 0)), none⟩, ⟨some 2, .q (.mv (.c (.bool false))), none⟩]
def c63_1 : List SOper := [⟨some 3, .q (.fa 0 (.t 1)), none⟩, ⟨some 4, .q (.ld (.t 3)), none⟩, ⟨some 5, .e (.call 39 [(.t 4), (.c (.int .i64 0)), (.c (.int .i64 500))]), none⟩, ⟨some 6, .q (.not (.t 5)), none⟩, ⟨some 7, .q (.mv (.t 6)), none⟩, ⟨some 8, .q (.fa 1 (.t 1)), some (7, false)⟩, ⟨some 9, .q (.ld (.t 8)), some (7, false)⟩, ⟨some 10, .e (.call 39 [(.t 9), (.c (.int .i64 0)), (.c (.int .i64 10000000))]), some (7, false)⟩, ⟨some 11, .q (.not (.t 10)), some (7, false)⟩, ⟨some 12, .q (.pick (.t 7) (.c (.bool true)) (.t 11)), none⟩, ⟨some 13, .q (.mv (.t 12)), none⟩, ⟨some 14, .q (.fa 2 (.t 1)), some (13, false)⟩, ⟨some 15, .q (.ld (.t 14)), some (13, false)⟩, ⟨some 16, .e (.call 39 [(.t 15), (.c (.int .i64 1)), (.c (.int .i64 10000000))]), some (13, false)⟩, ⟨some 17, .q (.not (.t 16)), some (13, false)⟩, ⟨some 18, .q (.pick (.t 13) (.c (.bool true)) (.t 17)), none⟩]
def c63_2 : List SOper := [⟨some 2, .q (.mv (.c (.bool false))), none⟩]
def c63_3 : SCode := .seq (.region c63_2 [2]) .ret
def c63_4 : SCode := .cond (.t 18) c63_3 .skip
def c63_5 : SCode := .seq (.region c63_1 [1, 18]) c63_4
def c63_6 : List SOper := [⟨some 19, .q (.ldn 3 (.t 1)), none⟩, ⟨some 20, .e (.call 41 [(.t 19)]), none⟩, ⟨some 21, .q (.mv (.t 20)), none⟩, ⟨some 22, .q (.fa 1 (.t 1)), some (21, true)⟩, ⟨some 23, .q (.ld (.t 22)), some (21, true)⟩, ⟨some 24, .q (.bin .eql (.t 23) (.c (.int .i64 0))), some (21, true)⟩, ⟨some 25, .q (.pick (.t 21) (.t 24) (.c (.bool false))), none⟩, ⟨some 26, .q (.mv (.t 25)), none⟩, ⟨some 27, .q (.ldn 3 (.t 1)), some (26, false)⟩, ⟨some 28, .e (.call 41 [(.t 27)]), some (26, false)⟩, ⟨some 29, .q (.not (.t 28)), some (26, false)⟩, ⟨some 30, .q (.mv (.t 29)), some (26, false)⟩, ⟨some 31, .q (.fa 1 (.t 1)), some (30, true)⟩, ⟨some 32, .q (.ld (.t 31)), some (30, true)⟩, ⟨some 33, .q (.fa 2 (.t 1)), some (30, true)⟩, ⟨some 34, .q (.ld (.t 33)), some (30, true)⟩, ⟨some 35, .q (.bin .add (.t 32) (.t 34)), some (30, true)⟩, ⟨some 36, .q (.bin .leq (.t 35) (.c (.int .i64 10000000))), some (30, true)⟩, ⟨some 37, .q (.pick (.t 30) (.t 36) (.c (.bool false))), some (26, false)⟩, ⟨some 38, .q (.pick (.t 26) (.c (.bool true)) (.t 37)), none⟩, ⟨some 2, .q (.mv (.t 38)), none⟩]
def c63_7 : SCode := .seq (.region c63_6 [2]) .ret
def c63_8 : SCode := .seq c63_5 c63_7
def c63_9 : SCode := .seq (.region c63_0 [1]) c63_8
def c63 : SCode := c63_9
theorem w63 : type_of% (And.intro (uR Try.prog c63_0.eq_1) (And.intro (uR Try.prog c63_1.eq_1) (And.intro (uR Try.prog c63_2.eq_1) (And.intro (uC Try.prog c63_3.eq_1) (And.intro (uC Try.prog c63_4.eq_1) (And.intro (uC Try.prog c63_5.eq_1) (And.intro (uR Try.prog c63_6.eq_1) (And.intro (uC Try.prog c63_7.eq_1) (And.intro (uC Try.prog c63_8.eq_1) (And.intro (uC Try.prog c63_9.eq_1) (uC Try.prog c63.eq_1))))))))))) := (And.intro (uR Try.prog c63_0.eq_1) (And.intro (uR Try.prog c63_1.eq_1) (And.intro (uR Try.prog c63_2.eq_1) (And.intro (uC Try.prog c63_3.eq_1) (And.intro (uC Try.prog c63_4.eq_1) (And.intro (uC Try.prog c63_5.eq_1) (And.intro (uR Try.prog c63_6.eq_1) (And.intro (uC Try.prog c63_7.eq_1) (And.intro (uC Try.prog c63_8.eq_1) (And.intro (uC Try.prog c63_9.eq_1) (uC Try.prog c63.eq_1)))))))))))
def v63 : List RV := [.t 2]
theorem s63 : slimF Try.prog Try.f63 = some (c63.bare, v63) := by kernel_rfl
/-! 62 loop.example/g00066/impl.TrackOk$1: parameters 1, live [0], slots [0:c, 1:c] -/
def c62_0 : List SOper := [⟨some 1, .a (.box (.t 0)), none⟩, ⟨some 2, .q (.mv (.c (.bool false))), none⟩]
def c62_1 : List SOper := [⟨some 3, .q (.ldn 3 (.t 1)), none⟩, ⟨some 4, .e (.call 63 [(.t 3)]), none⟩, ⟨some 5, .q (.not (.t 4)), none⟩, ⟨some 2, .q (.mv (.t 5)), none⟩]
def c62_2 : SCode := .seq (.region c62_1 [2]) .ret
def c62_3 : SCode := .seq (.region c62_0 [1]) c62_2
def c62 : SCode := c62_3
theorem w62 : type_of% (And.intro (uR Try.prog c62_0.eq_1) (And.intro (uR Try.prog c62_1.eq_1) (And.intro (uC Try.prog c62_2.eq_1) (And.intro (uC Try.prog c62_3.eq_1) (uC Try.prog c62.eq_1))))) := (And.intro (uR Try.prog c62_0.eq_1) (And.intro (uR Try.prog c62_1.eq_1) (And.intro (uC Try.prog c62_2.eq_1) (And.intro (uC Try.prog c62_3.eq_1) (uC Try.prog c62.eq_1)))))
def v62 : List RV := [.t 2]
theorem s62 : slimF Try.prog Try.f62 = some (c62.bare, v62) := by kernel_rfl
/-! 73 slices.IndexFunc[[]loop.example/g00066/impl.Clip,loop.example/g00066/impl.Clip]: parameters 2, live [0, 1], slots [0:s, 1:f, 2:s, 3:f, 5:i] -/
def c73_0 : List SOper := [⟨some 4, .q (.mv (.c (.int .i64 0))), none⟩]
def c73_1 : List SOper := [⟨some 6, .q (.mv (.t 0)), none⟩, ⟨some 7, .q (.len (.t 6)), none⟩, ⟨some 8, .q (.mv (.c (.int .i64 0))), none⟩]
def c73_2 : List SOper := [⟨some 9, .q (.bin .lss (.t 8) (.t 7)), none⟩]
def c73_3 : SCode := .cond (.t 9) .skip (.exit 0)
def c73_4 : List SOper := [⟨some 10, .q (.mv (.t 8)), none⟩, ⟨some 5, .q (.mv (.t 10)), none⟩]
def c73_5 : List SOper := [⟨some 11, .q (.mv (.t 1)), none⟩, ⟨some 12, .q (.mv (.t 0)), none⟩, ⟨some 13, .q (.mv (.t 5)), none⟩, ⟨some 14, .q (.ia 3 (.t 12) (.t 13)), none⟩, ⟨some 15, .q (.ldn 3 (.t 14)), none⟩, ⟨some 16, .e (.callv (.t 11) [(.t 15)]), none⟩]
def c73_6 : List SOper := [⟨some 17, .q (.mv (.t 5)), none⟩, ⟨some 4, .q (.mv (.t 17)), none⟩]
def c73_7 : SCode := .seq (.region c73_6 [4]) .ret
def c73_8 : SCode := .cond (.t 16) c73_7 .skip
def c73_9 : SCode := .seq (.region c73_5 [0, 1, 5, 7, 8, 16]) c73_8
def c73_10 : SCode := .seq (.region c73_4 [0, 1, 5, 7, 8]) c73_9
def c73_11 : SCode := .block 1 c73_10
def c73_12 : List SOper := [⟨some 18, .q (.bin .add (.t 8) (.c (.int .i64 1))), none⟩, ⟨some 8, .q (.mv (.t 18)), none⟩]
def c73_13 : SCode := .seq c73_11 (.region c73_12 [0, 1, 7, 8])
def c73_14 : SCode := .seq c73_3 c73_13
def c73_15 : SCode := .seq (.region c73_2 [0, 1, 7, 8, 9]) c73_14
def c73_16 : SCode := .loop c73_15
def c73_17 : SCode := .block 0 c73_16
def c73_18 : SCode := .seq (.region c73_1 [0, 1, 7, 8]) c73_17
def c73_19 : List SOper := [⟨some 4, .q (.mv (.c (.int .i64 (-1)))), none⟩]
def c73_20 : SCode := .seq (.region c73_19 [4]) .ret
def c73_21 : SCode := .seq c73_18 c73_20
def c73_22 : SCode := .seq (.region c73_0 [0, 1]) c73_21
def c73 : SCode := c73_22
theorem w73 : type_of% (And.intro (uR Try.prog c73_0.eq_1) (And.intro (uR Try.prog c73_1.eq_1) (And.intro (uR Try.prog c73_2.eq_1) (And.intro (uC Try.prog c73_3.eq_1) (And.intro (uR Try.prog c73_4.eq_1) (And.intro (uR Try.prog c73_5.eq_1) (And.intro (uR Try.prog c73_6.eq_1) (And.intro (uC Try.prog c73_7.eq_1) (And.intro (uC Try.prog c73_8.eq_1) (And.intro (uC Try.prog c73_9.eq_1) (And.intro (uC Try.prog c73_10.eq_1) (And.intro (uC Try.prog c73_11.eq_1) (And.intro (uR Try.prog c73_12.eq_1) (And.intro (uC Try.prog c73_13.eq_1) (And.intro (uC Try.prog c73_14.eq_1) (And.intro (uC Try.prog c73_15.eq_1) (And.intro (uC Try.prog c73_16.eq_1) (And.intro (uC Try.prog c73_17.eq_1) (And.intro (uC Try.prog c73_18.eq_1) (And.intro (uR Try.prog c73_19.eq_1) (And.intro (uC Try.prog c73_20.eq_1) (And.intro (uC Try.prog c73_21.eq_1) (And.intro (uC Try.prog c73_22.eq_1) (uC Try.prog c73.eq_1)))))))))))))))))))))))) := (And.intro (uR Try.prog c73_0.eq_1) (And.intro (uR Try.prog c73_1.eq_1) (And.intro (uR Try.prog c73_2.eq_1) (And.intro (uC Try.prog c73_3.eq_1) (And.intro (uR Try.prog c73_4.eq_1) (And.intro (uR Try.prog c73_5.eq_1) (And.intro (uR Try.prog c73_6.eq_1) (And.intro (uC Try.prog c73_7.eq_1) (And.intro (uC Try.prog c73_8.eq_1) (And.intro (uC Try.prog c73_9.eq_1) (And.intro (uC Try.prog c73_10.eq_1) (And.intro (uC Try.prog c73_11.eq_1) (And.intro (uR Try.prog c73_12.eq_1) (And.intro (uC Try.prog c73_13.eq_1) (And.intro (uC Try.prog c73_14.eq_1) (And.intro (uC Try.prog c73_15.eq_1) (And.intro (uC Try.prog c73_16.eq_1) (And.intro (uC Try.prog c73_17.eq_1) (And.intro (uC Try.prog c73_18.eq_1) (And.intro (uR Try.prog c73_19.eq_1) (And.intro (uC Try.prog c73_20.eq_1) (And.intro (uC Try.prog c73_21.eq_1) (And.intro (uC Try.prog c73_22.eq_1) (uC Try.prog c73.eq_1))))))))))))))))))))))))
def v73 : List RV := [.t 4]
theorem s73 : slimF Try.prog Try.f73 = some (c73.bare, v73) := by kernel_rfl
/-! 61 slices.ContainsFunc[[]loop.example/g00066/impl.Clip,loop.example/g00066/impl.Clip]: parameters 2, live [0, 1], slots [0:s, 1:f, 2:s, 3:f] -/
def c61_0 : List SOper := [⟨some 4, .q (.mv (.c (.bool false))), none⟩]
def c61_1 : List SOper := [⟨some 5, .q (.mv (.t 0)), none⟩, ⟨some 6, .q (.mv (.t 1)), none⟩, ⟨some 7, .e (.call 73 [(.t 5), (.t 6)]), none⟩, ⟨some 8, .q (.bin .geq (.t 7) (.c (.int .i64 0))), none⟩, ⟨some 4, .q (.mv (.t 8)), none⟩]
def c61_2 : SCode := .seq (.region c61_1 [4]) .ret
def c61_3 : SCode := .seq (.region c61_0 [0, 1]) c61_2
def c61 : SCode := c61_3
theorem w61 : type_of% (And.intro (uR Try.prog c61_0.eq_1) (And.intro (uR Try.prog c61_1.eq_1) (And.intro (uC Try.prog c61_2.eq_1) (And.intro (uC Try.prog c61_3.eq_1) (uC Try.prog c61.eq_1))))) := (And.intro (uR Try.prog c61_0.eq_1) (And.intro (uR Try.prog c61_1.eq_1) (And.intro (uC Try.prog c61_2.eq_1) (And.intro (uC Try.prog c61_3.eq_1) (uC Try.prog c61.eq_1)))))
def v61 : List RV := [.t 4]
theorem s61 : slimF Try.prog Try.f61 = some (c61.bare, v61) := by kernel_rfl
/-! 40 loop.example/g00066/impl.TrackOk: parameters 1, live [0], slots [0:track, 1:track] -/
def c40_0 : List SOper := [⟨some 2, .q (.mv (.c (.bool false))), none⟩]
def c40_1 : List SOper := [⟨some 3, .q (.mv (.t 0)), none⟩, ⟨some 4, .q (.len (.t 3)), none⟩, ⟨some 5, .q (.bin .leq (.t 4) (.c (.int .i64 300))), none⟩, ⟨some 6, .q (.mv (.t 5)), none⟩, ⟨some 7, .q (.mv (.t 0)), some (6, true)⟩, ⟨some 8, .e (.call 61 [(.t 7), (.f 62)]), some (6, true)⟩, ⟨some 9, .q (.not (.t 8)), some (6, true)⟩, ⟨some 10, .q (.pick (.t 6) (.t 9) (.c (.bool false))), none⟩, ⟨some 11, .q (.mv (.t 10)), none⟩, ⟨some 12, .q (.mv (.t 0)), some (11, true)⟩, ⟨some 13, .e (.call 64 [(.t 12)]), some (11, true)⟩, ⟨some 14, .q (.bin .leq (.t 13) (.c (.int .i64 10000000))), some (11, true)⟩, ⟨some 15, .q (.pick (.t 11) (.t 14) (.c (.bool false))), none⟩, ⟨some 2, .q (.mv (.t 15)), none⟩]
def c40_2 : SCode := .seq (.region c40_1 [2]) .ret
def c40_3 : SCode := .seq (.region c40_0 [0]) c40_2
def c40 : SCode := c40_3
theorem w40 : type_of% (And.intro (uR Try.prog c40_0.eq_1) (And.intro (uR Try.prog c40_1.eq_1) (And.intro (uC Try.prog c40_2.eq_1) (And.intro (uC Try.prog c40_3.eq_1) (uC Try.prog c40.eq_1))))) := (And.intro (uR Try.prog c40_0.eq_1) (And.intro (uR Try.prog c40_1.eq_1) (And.intro (uC Try.prog c40_2.eq_1) (And.intro (uC Try.prog c40_3.eq_1) (uC Try.prog c40.eq_1)))))
def v40 : List RV := [.t 2]
theorem s40 : slimF Try.prog Try.f40 = some (c40.bare, v40) := by kernel_rfl
/-! 64 loop.example/g00066/impl.long: parameters 1, live [0], slots [0:track, 1:track, 3:out, 4:_, 5:c] -/
def c64_0 : List SOper := [⟨some 2, .q (.mv (.c (.int .i64 0))), none⟩]
def c64_1 : List SOper := [⟨some 3, .q (.mv (.c (.int .i64 0))), none⟩]
def c64_2 : List SOper := [⟨some 6, .q (.mv (.t 0)), none⟩, ⟨some 7, .q (.len (.t 6)), none⟩, ⟨some 8, .q (.mv (.c (.int .i64 0))), none⟩]
def c64_3 : List SOper := [⟨some 9, .q (.bin .lss (.t 8) (.t 7)), none⟩]
def c64_4 : SCode := .cond (.t 9) .skip (.exit 0)
def c64_5 : List SOper := [⟨some 10, .q (.ia 3 (.t 6) (.t 8)), none⟩, ⟨some 11, .q (.ldn 3 (.t 10)), none⟩, ⟨some 5, .a (.new [(.int .i64 0), (.int .i64 0), (.int .i64 0)]), none⟩, ⟨none, .e (.st 3 (.t 5) (.t 11)), none⟩]
def c64_6 : List SOper := [⟨some 12, .q (.mv (.t 3)), none⟩, ⟨some 13, .q (.fa 2 (.t 5)), none⟩, ⟨some 14, .q (.ld (.t 13)), none⟩, ⟨some 15, .q (.bin .add (.t 12) (.t 14)), none⟩, ⟨some 3, .q (.mv (.t 15)), none⟩]
def c64_7 : SCode := .seq (.region c64_5 [3, 5, 6, 7, 8]) (.region c64_6 [3, 6, 7, 8])
def c64_8 : SCode := .block 1 c64_7
def c64_9 : List SOper := [⟨some 16, .q (.bin .add (.t 8) (.c (.int .i64 1))), none⟩, ⟨some 8, .q (.mv (.t 16)), none⟩]
def c64_10 : SCode := .seq c64_8 (.region c64_9 [3, 6, 7, 8])
def c64_11 : SCode := .seq c64_4 c64_10
def c64_12 : SCode := .seq (.region c64_3 [3, 6, 7, 8, 9]) c64_11
def c64_13 : SCode := .loop c64_12
def c64_14 : SCode := .block 0 c64_13
def c64_15 : SCode := .seq (.region c64_2 [3, 6, 7, 8]) c64_14
def c64_16 : List SOper := [⟨some 17, .q (.mv (.t 3)), none⟩, ⟨some 2, .q (.mv (.t 17)), none⟩]
def c64_17 : SCode := .seq (.region c64_16 [2]) .ret
def c64_18 : SCode := .seq c64_15 c64_17
def c64_19 : SCode := .seq (.region c64_1 [0, 3]) c64_18
def c64_20 : SCode := .seq (.region c64_0 [0]) c64_19
def c64 : SCode := c64_20
theorem w64 : type_of% (And.intro (uR Try.prog c64_0.eq_1) (And.intro (uR Try.prog c64_1.eq_1) (And.intro (uR Try.prog c64_2.eq_1) (And.intro (uR Try.prog c64_3.eq_1) (And.intro (uC Try.prog c64_4.eq_1) (And.intro (uR Try.prog c64_5.eq_1) (And.intro (uR Try.prog c64_6.eq_1) (And.intro (uC Try.prog c64_7.eq_1) (And.intro (uC Try.prog c64_8.eq_1) (And.intro (uR Try.prog c64_9.eq_1) (And.intro (uC Try.prog c64_10.eq_1) (And.intro (uC Try.prog c64_11.eq_1) (And.intro (uC Try.prog c64_12.eq_1) (And.intro (uC Try.prog c64_13.eq_1) (And.intro (uC Try.prog c64_14.eq_1) (And.intro (uC Try.prog c64_15.eq_1) (And.intro (uR Try.prog c64_16.eq_1) (And.intro (uC Try.prog c64_17.eq_1) (And.intro (uC Try.prog c64_18.eq_1) (And.intro (uC Try.prog c64_19.eq_1) (And.intro (uC Try.prog c64_20.eq_1) (uC Try.prog c64.eq_1)))))))))))))))))))))) := (And.intro (uR Try.prog c64_0.eq_1) (And.intro (uR Try.prog c64_1.eq_1) (And.intro (uR Try.prog c64_2.eq_1) (And.intro (uR Try.prog c64_3.eq_1) (And.intro (uC Try.prog c64_4.eq_1) (And.intro (uR Try.prog c64_5.eq_1) (And.intro (uR Try.prog c64_6.eq_1) (And.intro (uC Try.prog c64_7.eq_1) (And.intro (uC Try.prog c64_8.eq_1) (And.intro (uR Try.prog c64_9.eq_1) (And.intro (uC Try.prog c64_10.eq_1) (And.intro (uC Try.prog c64_11.eq_1) (And.intro (uC Try.prog c64_12.eq_1) (And.intro (uC Try.prog c64_13.eq_1) (And.intro (uC Try.prog c64_14.eq_1) (And.intro (uC Try.prog c64_15.eq_1) (And.intro (uR Try.prog c64_16.eq_1) (And.intro (uC Try.prog c64_17.eq_1) (And.intro (uC Try.prog c64_18.eq_1) (And.intro (uC Try.prog c64_19.eq_1) (And.intro (uC Try.prog c64_20.eq_1) (uC Try.prog c64.eq_1))))))))))))))))))))))
def v64 : List RV := [.t 2]
theorem s64 : slimF Try.prog Try.f64 = some (c64.bare, v64) := by kernel_rfl

def clipOk (k : Clip) : Prop := 1 ≤ k.len ∧ k.len ≤ 10000000 ∧ 0 ≤ k.inn ∧ k.inn ≤ 10000000 ∧ k.inn + k.len ≤ 10000000 ∧ 0 ≤ k.src ∧ k.src ≤ 500 ∧ (k.src ≠ 0 ∨ k.inn = 0)
instance (k : Clip) : Decidable (clipOk k) := by unfold clipOk; infer_instance
def sumLen (l : List Clip) : Int := (l.map Clip.len).sum
def trackOk (l : List Clip) : Prop := l.length ≤ 300 ∧ (∀ k ∈ l, clipOk k) ∧ sumLen l ≤ 10000000
instance (l : List Clip) : Decidable (trackOk l) := by unfold trackOk; infer_instance
theorem l4Clip_ok (h : Heap) (k : Clip) : ACall Try.prog 65 [.agg (encClip k).toArray] h fun r h' => Ext h h' ∧ r = .bool (decide (clipOk k)) := by
  obtain ⟨a, b, c⟩ := k
  refine ACall.of Try.func65 s65 (of_decide_eq_true rfl) ?_
  simp (maxSteps := 4000000) (disch := omega) only [ah, am, Nat.reduceEqDiff, reduceCtorEq, Nat.reduceAdd, Nat.reduceLeDiff, Nat.reduceMul, Nat.reduceLT, if_true, if_false, true_and, and_true, and_self, Nat.reduceBEq, QOp.loads, boxO, bslO, buildO, cutL, fillV, putL, w65, v65, encClip]
  (repeat' first
    | (refine stepC.of (l1In_ok _ _ _ _) ?_; rintro _ _ ⟨rfl, rfl⟩; simp (maxSteps := 4000000) (disch := omega) only [ah, am, Nat.reduceEqDiff, reduceCtorEq, Nat.reduceAdd, Nat.reduceLeDiff, Nat.reduceMul, Nat.reduceLT, if_true, if_false, true_and, and_true, and_self, Nat.reduceBEq, QOp.loads, boxO, bslO, buildO, cutL, fillV, putL, i64w, w65, v65])
    | (refine stepC.of (l4Src_ok _ _) ?_; rintro _ _ ⟨rfl, rfl⟩; simp (maxSteps := 4000000) (disch := omega) only [ah, am, Nat.reduceEqDiff, reduceCtorEq, Nat.reduceAdd, Nat.reduceLeDiff, Nat.reduceMul, Nat.reduceLT, if_true, if_false, true_and, and_true, and_self, Nat.reduceBEq, QOp.loads, boxO, bslO, buildO, cutL, fillV, putL, i64w, w65, v65])
    | (refine stepG.cases (fun _ hp => ?_) (fun _ hp => ?_) <;> simp (maxSteps := 4000000) (disch := omega) only [hp, ah, am, Nat.reduceEqDiff, reduceCtorEq, Nat.reduceAdd, Nat.reduceLeDiff, Nat.reduceMul, Nat.reduceLT, if_true, if_false, true_and, and_true, and_self, Nat.reduceBEq, QOp.loads, boxO, bslO, buildO, cutL, fillV, putL, i64w, w65, v65])
    | (refine stepI.cases (fun _ hp => ?_) (fun _ hp => ?_) <;> simp (maxSteps := 4000000) (disch := omega) only [hp, ah, am, Nat.reduceEqDiff, reduceCtorEq, Nat.reduceAdd, Nat.reduceLeDiff, Nat.reduceMul, Nat.reduceLT, if_true, if_false, true_and, and_true, and_self, Nat.reduceBEq, QOp.loads, boxO, bslO, buildO, cutL, fillV, putL, i64w, w65, v65]))
  all_goals (refine ⟨Ext.more _ _, ?_⟩; refine bool_dec ?_; try simp only [decide_eq_true_eq, Bool.false_eq_true, false_and, and_false, true_and, and_true, false_iff, iff_false, true_iff, iff_true, not_false_eq_true, false_or, or_false, true_or, or_true, clipOk]; first | done | omega | (refine Iff.intro (fun hq => ?_) (fun hq => ?_) <;> omega))
theorem sumLen_nil : sumLen [] = 0 := rfl
theorem sumLen_append (a b : List Clip) : sumLen (a ++ b) = sumLen a + sumLen b := by simp [sumLen]
theorem sumLen_take (l : List Clip) (i : Nat) (hi : i < l.length) : sumLen (l.take (i + 1)) = sumLen (l.take i) + l[i].len := by
  rw [List.take_succ_eq_append_getElem hi, sumLen_append]; simp [sumLen]
theorem sumLen_bound {l : List Clip} (hl : ∀ k ∈ l, clipOk k) : 0 ≤ sumLen l ∧ sumLen l ≤ 10000000 * l.length := by
  induction l with
  | nil => simp [sumLen]
  | cons k l ih =>
    have h1 := hl k (by simp); have h2 := ih (fun k hk => hl k (by simp [hk]))
    simp only [sumLen, List.map_cons, List.sum_cons, List.length_cons, clipOk] at h1 h2 ⊢; omega
theorem all_take {l : List Clip} {i : Nat} (hi : i < l.length) (h : ∀ k ∈ l.take i, clipOk k) (hk : clipOk l[i]) : ∀ k ∈ l.take (i + 1), clipOk k := by
  intro k hm
  rw [List.take_succ_eq_append_getElem hi] at hm
  simp only [List.mem_append, List.mem_singleton] at hm
  rcases hm with hm | rfl
  · exact h k hm
  · exact hk
theorem TrackOk_ok (h : Heap) (v : Value) (l : List Clip) (s : SlT h encClip 3 v l) (hl : l.length ≤ 281474976710656) : ACall Try.prog 43 [v] h fun r h' => Ext h h' ∧ r = .bool (decide (trackOk l)) := by
  refine ACall.of Try.func43 s43 (of_decide_eq_true rfl) ?_
  have R := s.rulesN
  simp (maxSteps := 4000000) (disch := omega) only [ah, am, Nat.reduceEqDiff, reduceCtorEq, Nat.reduceAdd, Nat.reduceLeDiff, Nat.reduceMul, Nat.reduceLT, if_true, if_false, true_and, and_true, and_self, Nat.reduceBEq, QOp.loads, boxO, bslO, buildO, cutL, fillV, putL, w43, v43, R]
  refine stepI.split (fun hp => ?_) (fun hp => ?_)
  · simp (maxSteps := 4000000) (disch := omega) only [ah, am, Nat.reduceEqDiff, reduceCtorEq, Nat.reduceAdd, Nat.reduceLeDiff, Nat.reduceMul, Nat.reduceLT, if_true, if_false, true_and, and_true, and_self, Nat.reduceBEq, QOp.loads, boxO, bslO, buildO, cutL, fillV, putL, w43, v43, R]
    refine ⟨Ext.refl h, ?_⟩; refine bool_dec ?_; try simp only [decide_eq_true_eq, Bool.false_eq_true, false_and, and_false, true_and, and_true, false_iff, iff_false, true_iff, iff_true, not_false_eq_true, false_or, or_false, true_or, or_true, trackOk]; first | done | omega | (refine Iff.intro (fun hq => ?_) (fun hq => ?_) <;> omega)
  simp (maxSteps := 4000000) (disch := omega) only [ah, am, Nat.reduceEqDiff, reduceCtorEq, Nat.reduceAdd, Nat.reduceLeDiff, Nat.reduceMul, Nat.reduceLT, if_true, if_false, true_and, and_true, and_self, Nat.reduceBEq, QOp.loads, boxO, bslO, buildO, cutL, fillV, putL, w43, v43, R]
  refine SW_loop_up (fun i E H => E = [(0, v), (3, .int .i64 (sumLen (l.take i))), (4, .int .i64 i)] ∧ Ext h H ∧ ∀ k ∈ l.take i, clipOk k) l.length 0 (by omega)
    ⟨by simp [sumLen], Ext.refl h, by simp⟩ ?_
  rintro i E H hi ⟨rfl, e, F⟩
  have R := (s.ext e).rulesN
  have W : IntKind.i64.wrap ((i : Int) + 1) = ((i + 1 : Nat) : Int) := i64e (by omega) (by omega)
  simp (maxSteps := 4000000) (disch := omega) only [ah, am, Nat.reduceEqDiff, reduceCtorEq, Nat.reduceAdd, Nat.reduceLeDiff, Nat.reduceMul, Nat.reduceLT, if_true, if_false, true_and, and_true, and_self, Nat.reduceBEq, QOp.loads, boxO, bslO, buildO, cutL, fillV, putL, w43, v43, R]
  refine stepI.split (fun hp => ?_) (fun hp => ?_)
  · simp (maxSteps := 4000000) (disch := omega) only [ah, am, Nat.reduceEqDiff, reduceCtorEq, Nat.reduceAdd, Nat.reduceLeDiff, Nat.reduceMul, Nat.reduceLT, if_true, if_false, true_and, and_true, and_self, Nat.reduceBEq, QOp.loads, boxO, bslO, buildO, cutL, fillV, putL, w43, v43, R, W]
    refine stepC.of (l4Clip_ok _ _) ?_
    rintro r H1 ⟨e1, rfl⟩
    have R := (s.ext (e.trans e1)).rulesN
    simp (maxSteps := 4000000) (disch := omega) only [ah, am, Nat.reduceEqDiff, reduceCtorEq, Nat.reduceAdd, Nat.reduceLeDiff, Nat.reduceMul, Nat.reduceLT, if_true, if_false, true_and, and_true, and_self, Nat.reduceBEq, QOp.loads, boxO, bslO, buildO, cutL, fillV, putL, w43, v43, R, W]
    refine stepI.split (fun hk => ?_) (fun hk => ?_)
    · have B := sumLen_bound (all_take (by omega) F hk)
      rw [sumLen_take l i (by omega)] at B
      have hlen : (l.take (i + 1)).length ≤ 300 := by simp; omega
      simp (maxSteps := 4000000) (disch := omega) only [ah, am, Nat.reduceEqDiff, reduceCtorEq, Nat.reduceAdd, Nat.reduceLeDiff, Nat.reduceMul, Nat.reduceLT, if_true, if_false, true_and, and_true, and_self, Nat.reduceBEq, QOp.loads, boxO, bslO, buildO, cutL, fillV, putL, w43, v43, R, W, encClip, i64w]
      exact ⟨by omega, by rw [sumLen_take l i (by omega)], e.trans e1, all_take (by omega) F hk⟩
    · simp (maxSteps := 4000000) (disch := omega) only [ah, am, Nat.reduceEqDiff, reduceCtorEq, Nat.reduceAdd, Nat.reduceLeDiff, Nat.reduceMul, Nat.reduceLT, if_true, if_false, true_and, and_true, and_self, Nat.reduceBEq, QOp.loads, boxO, bslO, buildO, cutL, fillV, putL, w43, v43]
      refine ⟨e.trans e1, ?_⟩
      rw [decide_eq_false]; intro ht; exact hk (ht.2.1 _ (List.getElem_mem _))
  · simp (maxSteps := 4000000) (disch := omega) only [ah, am, Nat.reduceEqDiff, reduceCtorEq, Nat.reduceAdd, Nat.reduceLeDiff, Nat.reduceMul, Nat.reduceLT, if_true, if_false, true_and, and_true, and_self, Nat.reduceBEq, QOp.loads, boxO, bslO, buildO, cutL, fillV, putL, w43, v43, R, W]
    obtain rfl : i = l.length := by omega
    rw [List.take_length] at F
    refine ⟨e, ?_⟩
    rw [List.take_length]
    refine bool_dec ?_
    simp only [decide_eq_true_eq, trackOk]
    exact ⟨fun hq => ⟨by omega, F, hq⟩, fun hq => hq.2.2⟩
theorem isGap_ok (h : Heap) (k : Clip) : ACall Try.prog 41 [.agg (encClip k).toArray] h fun r h' => h' = h.more [encClip k] ∧ r = .bool (decide (k.src = 0)) := by
  obtain ⟨a, b, c⟩ := k
  refine ACall.of Try.func41 s41 (of_decide_eq_true rfl) ?_
  simp (maxSteps := 4000000) (disch := omega) only [ah, am, Nat.reduceEqDiff, reduceCtorEq, Nat.reduceAdd, Nat.reduceLeDiff, Nat.reduceMul, Nat.reduceLT, if_true, if_false, true_and, and_true, and_self, Nat.reduceBEq, QOp.loads, boxO, bslO, buildO, cutL, fillV, putL, w41, v41, encClip]
theorem isGap_ok' (h : Heap) (a b c : Int) : ACall Try.prog 41 [.agg [.int .i64 a, .int .i64 b, .int .i64 c].toArray] h fun r h' => h' = h.more [[.int .i64 a, .int .i64 b, .int .i64 c]] ∧ r = .bool (decide (a = 0)) := isGap_ok h ⟨a, b, c⟩
theorem ok_ok (h : Heap) (k : Clip) : ACall Try.prog 63 [.agg (encClip k).toArray] h fun r h' => Ext h h' ∧ r = .bool (decide (clipOk k)) := by
  obtain ⟨a, b, c⟩ := k
  refine ACall.of Try.func63 s63 (of_decide_eq_true rfl) ?_
  simp (maxSteps := 4000000) (disch := omega) only [ah, am, Nat.reduceEqDiff, reduceCtorEq, Nat.reduceAdd, Nat.reduceLeDiff, Nat.reduceMul, Nat.reduceLT, if_true, if_false, true_and, and_true, and_self, Nat.reduceBEq, QOp.loads, boxO, bslO, buildO, cutL, fillV, putL, w63, v63, encClip]
  (repeat' first
    | (refine stepC.of (in_ok _ _ _ _) ?_; rintro _ _ ⟨rfl, rfl⟩; simp (maxSteps := 4000000) (disch := omega) only [ah, am, Nat.reduceEqDiff, reduceCtorEq, Nat.reduceAdd, Nat.reduceLeDiff, Nat.reduceMul, Nat.reduceLT, if_true, if_false, true_and, and_true, and_self, Nat.reduceBEq, QOp.loads, boxO, bslO, buildO, cutL, fillV, putL, i64w, w63, v63])
    | (refine stepC.of (isGap_ok' _ _ _ _) ?_; rintro _ _ ⟨rfl, rfl⟩; simp (maxSteps := 4000000) (disch := omega) only [ah, am, Nat.reduceEqDiff, reduceCtorEq, Nat.reduceAdd, Nat.reduceLeDiff, Nat.reduceMul, Nat.reduceLT, if_true, if_false, true_and, and_true, and_self, Nat.reduceBEq, QOp.loads, boxO, bslO, buildO, cutL, fillV, putL, i64w, w63, v63])
    | (refine stepG.cases (fun _ hp => ?_) (fun _ hp => ?_) <;> simp (maxSteps := 4000000) (disch := omega) only [hp, ah, am, Nat.reduceEqDiff, reduceCtorEq, Nat.reduceAdd, Nat.reduceLeDiff, Nat.reduceMul, Nat.reduceLT, if_true, if_false, true_and, and_true, and_self, Nat.reduceBEq, QOp.loads, boxO, bslO, buildO, cutL, fillV, putL, i64w, w63, v63])
    | (refine stepI.cases (fun _ hp => ?_) (fun _ hp => ?_) <;> simp (maxSteps := 4000000) (disch := omega) only [hp, ah, am, Nat.reduceEqDiff, reduceCtorEq, Nat.reduceAdd, Nat.reduceLeDiff, Nat.reduceMul, Nat.reduceLT, if_true, if_false, true_and, and_true, and_self, Nat.reduceBEq, QOp.loads, boxO, bslO, buildO, cutL, fillV, putL, i64w, w63, v63]))
  all_goals (refine ⟨Ext.more _ _, ?_⟩; refine bool_dec ?_; try simp only [decide_eq_true_eq, Bool.false_eq_true, false_and, and_false, true_and, and_true, false_iff, iff_false, true_iff, iff_true, not_false_eq_true, false_or, or_false, true_or, or_true, clipOk]; first | done | omega | (refine Iff.intro (fun hq => ?_) (fun hq => ?_) <;> omega))
theorem TrackOk1_ok (h : Heap) (k : Clip) : ACall Try.prog 62 [.agg (encClip k).toArray] h fun r h' => Ext h h' ∧ r = .bool (!decide (clipOk k)) := by
  have g := ok_ok (h.more [encClip k]) k
  obtain ⟨a, b, c⟩ := k
  refine ACall.of Try.func62 s62 (of_decide_eq_true rfl) ?_
  simp (maxSteps := 4000000) (disch := omega) only [ah, am, Nat.reduceEqDiff, reduceCtorEq, Nat.reduceAdd, Nat.reduceLeDiff, Nat.reduceMul, Nat.reduceLT, if_true, if_false, true_and, and_true, and_self, Nat.reduceBEq, QOp.loads, boxO, bslO, buildO, cutL, fillV, putL, w62, v62, encClip]
  refine stepC.of g ?_
  rintro _ H ⟨e, rfl⟩
  simp (maxSteps := 4000000) (disch := omega) only [ah, am, Nat.reduceEqDiff, reduceCtorEq, Nat.reduceAdd, Nat.reduceLeDiff, Nat.reduceMul, Nat.reduceLT, if_true, if_false, true_and, and_true, and_self, Nat.reduceBEq, QOp.loads, boxO, bslO, buildO, cutL, fillV, putL, w62, v62]
  exact (Ext.more h _).trans e
theorem IndexFunc_ok (h : Heap) (v : Value) (l : List Clip) (n : Nat) (cap : Array Value) (p : Clip → Bool) (s : SlT h encClip 3 v l) (hl : l.length ≤ 1100000)
    (hf : ∃ fn, Try.prog.funcs[n]? = some fn ∧ fn.body.isSome = true ∧ fn.name ≠ "runtime.NumGoroutine")
    (H : ∀ h' k, Ext h h' → k ∈ l → ACall Try.prog n ([.agg (encClip k).toArray] ++ cap.toList) h' fun r h2 => Ext h' h2 ∧ r = .bool (p k)) :
    ACall Try.prog 73 [v, .func (.func n) #[] cap] h fun r h' => Ext h h' ∧ r = .int .i64 (match l.findIdx? p with | some j => (j : Int) | none => -1) := by
  obtain ⟨fn, hf1, hf2, hf3⟩ := hf
  refine ACall.of Try.func73 s73 (of_decide_eq_true rfl) ?_
  have R := s.rulesN
  simp (maxSteps := 4000000) (disch := omega) only [ah, am, Nat.reduceEqDiff, reduceCtorEq, Nat.reduceAdd, Nat.reduceLeDiff, Nat.reduceMul, Nat.reduceLT, if_true, if_false, true_and, and_true, and_self, Nat.reduceBEq, QOp.loads, boxO, bslO, buildO, cutL, fillV, putL, w73, v73, R]
  refine SW_loop_up (fun i E H => E = [(0, v), (1, .func (.func n) #[] cap), (7, .int .i64 l.length), (8, .int .i64 i)] ∧ Ext h H ∧ ∀ j (hj : j < l.length), j < i → p l[j] = false) l.length 0 (by omega)
    ⟨rfl, Ext.refl h, fun j _ hj => absurd hj (by omega)⟩ ?_
  rintro i E H1 hi ⟨rfl, e, F⟩
  have R := (s.ext e).rulesN
  have W : IntKind.i64.wrap ((i : Int) + 1) = ((i + 1 : Nat) : Int) := i64e (by omega) (by omega)
  simp (maxSteps := 4000000) (disch := omega) only [ah, am, Nat.reduceEqDiff, reduceCtorEq, Nat.reduceAdd, Nat.reduceLeDiff, Nat.reduceMul, Nat.reduceLT, if_true, if_false, true_and, and_true, and_self, Nat.reduceBEq, QOp.loads, boxO, bslO, buildO, cutL, fillV, putL, w73, v73, R]
  refine stepI.split (fun hp => ?_) (fun hp => ?_)
  · have hi' : i < l.length := by omega
    simp (maxSteps := 4000000) (disch := omega) only [ah, am, Nat.reduceEqDiff, reduceCtorEq, Nat.reduceAdd, Nat.reduceLeDiff, Nat.reduceMul, Nat.reduceLT, if_true, if_false, true_and, and_true, and_self, Nat.reduceBEq, QOp.loads, boxO, bslO, buildO, cutL, fillV, putL, w73, v73, R, nilV_func]
    refine stepV.of hf1 hf2 hf3 (H H1 _ e (List.getElem_mem hi')) ?_
    rintro _ H2 ⟨e2, rfl⟩
    simp (maxSteps := 4000000) (disch := omega) only [ah, am, Nat.reduceEqDiff, reduceCtorEq, Nat.reduceAdd, Nat.reduceLeDiff, Nat.reduceMul, Nat.reduceLT, if_true, if_false, true_and, and_true, and_self, Nat.reduceBEq, QOp.loads, boxO, bslO, buildO, cutL, fillV, putL, w73, v73, W]
    refine stepI.splitB (fun hk => ?_) (fun hk => ?_)
    · simp (maxSteps := 4000000) (disch := omega) only [ah, am, Nat.reduceEqDiff, reduceCtorEq, Nat.reduceAdd, Nat.reduceLeDiff, Nat.reduceMul, Nat.reduceLT, if_true, if_false, true_and, and_true, and_self, Nat.reduceBEq, QOp.loads, boxO, bslO, buildO, cutL, fillV, putL, w73, v73, W]
      refine ⟨e.trans e2, ?_⟩
      have : l.findIdx? p = some i := by
        rw [List.findIdx?_eq_some_iff_getElem]
        exact ⟨hi', hk, fun j hj => by rw [F j (by omega) hj]; decide⟩
      rw [this]
    · simp (maxSteps := 4000000) (disch := omega) only [ah, am, Nat.reduceEqDiff, reduceCtorEq, Nat.reduceAdd, Nat.reduceLeDiff, Nat.reduceMul, Nat.reduceLT, if_true, if_false, true_and, and_true, and_self, Nat.reduceBEq, QOp.loads, boxO, bslO, buildO, cutL, fillV, putL, w73, v73, W]
      refine ⟨hi', e.trans e2, fun j hj hj2 => ?_⟩
      by_cases hji : j = i
      · subst hji; exact hk
      · exact F j hj (by omega)
  · simp (maxSteps := 4000000) (disch := omega) only [ah, am, Nat.reduceEqDiff, reduceCtorEq, Nat.reduceAdd, Nat.reduceLeDiff, Nat.reduceMul, Nat.reduceLT, if_true, if_false, true_and, and_true, and_self, Nat.reduceBEq, QOp.loads, boxO, bslO, buildO, cutL, fillV, putL, w73, v73, R, W]
    obtain rfl : i = l.length := by omega
    refine ⟨e, ?_⟩
    have : l.findIdx? p = none := by
      rw [List.findIdx?_eq_none_iff]
      intro x hx
      obtain ⟨j, hj, rfl⟩ := List.getElem_of_mem hx
      exact F j hj hj
    rw [this]
theorem ContainsFunc_ok (h : Heap) (v : Value) (l : List Clip) (n : Nat) (cap : Array Value) (p : Clip → Bool) (s : SlT h encClip 3 v l) (hl : l.length ≤ 1100000)
    (hf : ∃ fn, Try.prog.funcs[n]? = some fn ∧ fn.body.isSome = true ∧ fn.name ≠ "runtime.NumGoroutine")
    (H : ∀ h' k, Ext h h' → k ∈ l → ACall Try.prog n ([.agg (encClip k).toArray] ++ cap.toList) h' fun r h2 => Ext h' h2 ∧ r = .bool (p k)) :
    ACall Try.prog 61 [v, .func (.func n) #[] cap] h fun r h' => Ext h h' ∧ r = .bool (l.any p) := by
  refine ACall.of Try.func61 s61 (of_decide_eq_true rfl) ?_
  simp (maxSteps := 4000000) (disch := omega) only [ah, am, Nat.reduceEqDiff, reduceCtorEq, Nat.reduceAdd, Nat.reduceLeDiff, Nat.reduceMul, Nat.reduceLT, if_true, if_false, true_and, and_true, and_self, Nat.reduceBEq, QOp.loads, boxO, bslO, buildO, cutL, fillV, putL, w61, v61]
  refine stepC.of (IndexFunc_ok h v l n cap p s hl hf H) ?_
  rintro _ H1 ⟨e, rfl⟩
  simp (maxSteps := 4000000) (disch := omega) only [ah, am, Nat.reduceEqDiff, reduceCtorEq, Nat.reduceAdd, Nat.reduceLeDiff, Nat.reduceMul, Nat.reduceLT, if_true, if_false, true_and, and_true, and_self, Nat.reduceBEq, QOp.loads, boxO, bslO, buildO, cutL, fillV, putL, w61, v61]
  refine ⟨e, ?_⟩
  cases hq : l.findIdx? p with
  | none =>
    rw [List.findIdx?_eq_none_iff] at hq
    have : l.any p = false := by rw [List.any_eq_false]; intro x hx; rw [hq x hx]; decide
    rw [this]; rfl
  | some j =>
    rw [List.findIdx?_eq_some_iff_getElem] at hq
    obtain ⟨hj, hp, _⟩ := hq
    have : l.any p = true := List.any_eq_true.mpr ⟨_, List.getElem_mem hj, hp⟩
    rw [this]
    congr 1
theorem long_ok (h : Heap) (v : Value) (l : List Clip) (s : SlT h encClip 3 v l) (hl : l.length ≤ 300) (ho : ∀ k ∈ l, clipOk k) : ACall Try.prog 64 [v] h fun r h' => Ext h h' ∧ r = .int .i64 (sumLen l) := by
  refine ACall.of Try.func64 s64 (of_decide_eq_true rfl) ?_
  have R := s.rulesN
  simp (maxSteps := 4000000) (disch := omega) only [ah, am, Nat.reduceEqDiff, reduceCtorEq, Nat.reduceAdd, Nat.reduceLeDiff, Nat.reduceMul, Nat.reduceLT, if_true, if_false, true_and, and_true, and_self, Nat.reduceBEq, QOp.loads, boxO, bslO, buildO, cutL, fillV, putL, w64, v64, R]
  refine SW_loop_up (fun i E H => E = [(3, .int .i64 (sumLen (l.take i))), (6, v), (7, .int .i64 l.length), (8, .int .i64 i)] ∧ Ext h H) l.length 0 (by omega) ⟨by simp [sumLen], Ext.refl h⟩ ?_
  rintro i E H hi ⟨rfl, e⟩
  have R := (s.ext e).rulesN
  have W : IntKind.i64.wrap ((i : Int) + 1) = ((i + 1 : Nat) : Int) := i64e (by omega) (by omega)
  simp (maxSteps := 4000000) (disch := omega) only [ah, am, Nat.reduceEqDiff, reduceCtorEq, Nat.reduceAdd, Nat.reduceLeDiff, Nat.reduceMul, Nat.reduceLT, if_true, if_false, true_and, and_true, and_self, Nat.reduceBEq, QOp.loads, boxO, bslO, buildO, cutL, fillV, putL, w64, v64, R]
  refine stepI.split (fun hp => ?_) (fun hp => ?_)
  · have B := sumLen_bound (l := l.take (i + 1)) (fun k hk => ho k (List.mem_of_mem_take hk))
    rw [sumLen_take l i (by omega)] at B
    have hlen : (l.take (i + 1)).length ≤ 300 := by simp; omega
    simp (maxSteps := 4000000) (disch := omega) only [ah, am, Nat.reduceEqDiff, reduceCtorEq, Nat.reduceAdd, Nat.reduceLeDiff, Nat.reduceMul, Nat.reduceLT, if_true, if_false, true_and, and_true, and_self, Nat.reduceBEq, QOp.loads, boxO, bslO, buildO, cutL, fillV, putL, w64, v64, R, W, encClip, i64w]
    exact ⟨by omega, by rw [sumLen_take l i (by omega)], e.trans (Ext.more _ _)⟩
  · simp (maxSteps := 4000000) (disch := omega) only [ah, am, Nat.reduceEqDiff, reduceCtorEq, Nat.reduceAdd, Nat.reduceLeDiff, Nat.reduceMul, Nat.reduceLT, if_true, if_false, true_and, and_true, and_self, Nat.reduceBEq, QOp.loads, boxO, bslO, buildO, cutL, fillV, putL, w64, v64, R, W]
    obtain rfl : i = l.length := by omega
    rw [List.take_length]
    exact ⟨e, rfl⟩
theorem implTrackOk_ok (h : Heap) (v : Value) (l : List Clip) (s : SlT h encClip 3 v l) (hl : l.length ≤ 1100000) : ACall Try.prog 40 [v] h fun r h' => Ext h h' ∧ r = .bool (decide (trackOk l)) := by
  refine ACall.of Try.func40 s40 (of_decide_eq_true rfl) ?_
  have R := s.rulesN
  simp (maxSteps := 4000000) (disch := omega) only [ah, am, Nat.reduceEqDiff, reduceCtorEq, Nat.reduceAdd, Nat.reduceLeDiff, Nat.reduceMul, Nat.reduceLT, if_true, if_false, true_and, and_true, and_self, Nat.reduceBEq, QOp.loads, boxO, bslO, buildO, cutL, fillV, putL, w40, v40, R]
  refine stepG.cases (fun h0 hp => ?_) (fun h0 hp => ?_)
  · simp (maxSteps := 4000000) (disch := omega) only [ah, am, Nat.reduceEqDiff, reduceCtorEq, Nat.reduceAdd, Nat.reduceLeDiff, Nat.reduceMul, Nat.reduceLT, if_true, if_false, true_and, and_true, and_self, Nat.reduceBEq, QOp.loads, boxO, bslO, buildO, cutL, fillV, putL, w40, v40, hp, R]
    refine stepC.of (ContainsFunc_ok h v l 62 #[] (fun k => !decide (clipOk k)) s hl ⟨_, Try.func62, rfl, by decide⟩ (fun h' k _ _ => TrackOk1_ok h' k)) ?_
    rintro _ H1 ⟨e, rfl⟩
    simp (maxSteps := 4000000) (disch := omega) only [ah, am, Nat.reduceEqDiff, reduceCtorEq, Nat.reduceAdd, Nat.reduceLeDiff, Nat.reduceMul, Nat.reduceLT, if_true, if_false, true_and, and_true, and_self, Nat.reduceBEq, QOp.loads, boxO, bslO, buildO, cutL, fillV, putL, w40, v40, hp, R]
    cases hq : l.any (fun k => !decide (clipOk k)) with
    | false =>
      have ho : ∀ k ∈ l, clipOk k := by
        intro k hk; rw [List.any_eq_false] at hq; have := hq k hk; simpa using this
      simp (maxSteps := 4000000) (disch := omega) only [ah, am, Nat.reduceEqDiff, reduceCtorEq, Nat.reduceAdd, Nat.reduceLeDiff, Nat.reduceMul, Nat.reduceLT, if_true, if_false, true_and, and_true, and_self, Nat.reduceBEq, QOp.loads, boxO, bslO, buildO, cutL, fillV, putL, w40, v40, hp, R]
      refine stepC.of (long_ok _ _ _ (s.ext e) (by omega) ho) ?_
      rintro _ H2 ⟨e2, rfl⟩
      simp (maxSteps := 4000000) (disch := omega) only [ah, am, Nat.reduceEqDiff, reduceCtorEq, Nat.reduceAdd, Nat.reduceLeDiff, Nat.reduceMul, Nat.reduceLT, if_true, if_false, true_and, and_true, and_self, Nat.reduceBEq, QOp.loads, boxO, bslO, buildO, cutL, fillV, putL, w40, v40, hp, R]
      refine ⟨e.trans e2, ?_⟩
      refine bool_dec ?_
      simp only [decide_eq_true_eq, trackOk]
      exact ⟨fun hq => ⟨by omega, ho, hq⟩, fun hq => hq.2.2⟩
    | true =>
      simp (maxSteps := 4000000) (disch := omega) only [ah, am, Nat.reduceEqDiff, reduceCtorEq, Nat.reduceAdd, Nat.reduceLeDiff, Nat.reduceMul, Nat.reduceLT, if_true, if_false, true_and, and_true, and_self, Nat.reduceBEq, QOp.loads, boxO, bslO, buildO, cutL, fillV, putL, w40, v40, hp, R]
      refine ⟨e, ?_⟩
      refine bool_dec ?_
      simp only [Bool.false_eq_true, false_iff, trackOk]
      rw [List.any_eq_true] at hq
      obtain ⟨k, hk, hq⟩ := hq
      intro ht
      have := ht.2.1 k hk
      simp [this] at hq
  · simp (maxSteps := 4000000) (disch := omega) only [ah, am, Nat.reduceEqDiff, reduceCtorEq, Nat.reduceAdd, Nat.reduceLeDiff, Nat.reduceMul, Nat.reduceLT, if_true, if_false, true_and, and_true, and_self, Nat.reduceBEq, QOp.loads, boxO, bslO, buildO, cutL, fillV, putL, w40, v40, hp, R]
    refine ⟨Ext.refl h, ?_⟩; refine bool_dec ?_; try simp only [decide_eq_true_eq, Bool.false_eq_true, false_and, and_false, true_and, and_true, false_iff, iff_false, true_iff, iff_true, not_false_eq_true, false_or, or_false, true_or, or_true, trackOk]; first | done | omega | (refine Iff.intro (fun hq => ?_) (fun hq => ?_) <;> omega)
end Go.Proofs.Ytmippcfdakjhfaa
