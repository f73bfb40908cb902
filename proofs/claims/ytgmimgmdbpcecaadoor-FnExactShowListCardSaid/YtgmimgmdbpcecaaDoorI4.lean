import Derived.Test.YtgmimgmdbpcecaaDoorS5
namespace Go.Proofs.YtgmimgmdbpcecaaDoor
open Go Go.Ah
set_option linter.unusedSimpArgs false
set_option linter.unusedVariables false
set_option maxRecDepth 10000
set_option maxHeartbeats 4000000
/-! 28 loop.example/g00066/impl.in: parameters 3, live [0, 1, 2], slots [0:x, 1:least, 2:most, 3:x, 4:least, 5:most] -/
def c28_0 : List SOper := [⟨some 6, .q (.mv (.c (.bool false))), none⟩]
def c28_1 : List SOper := [⟨some 7, .q (.mv (.t 1)), none⟩, ⟨some 8, .q (.mv (.t 0)), none⟩, ⟨some 9, .q (.bin .leq (.t 7) (.t 8)), none⟩, ⟨some 10, .q (.mv (.t 9)), none⟩, ⟨some 11, .q (.mv (.t 0)), some (10, true)⟩, ⟨some 12, .q (.mv (.t 2)), some (10, true)⟩, ⟨some 13, .q (.bin .leq (.t 11) (.t 12)), some (10, true)⟩, ⟨some 14, .q (.pick (.t 10) (.t 13) (.c (.bool false))), none⟩, ⟨some 6, .q (.mv (.t 14)), none⟩]
def c28_2 : SCode := .seq (.region c28_1 [6]) .ret
def c28_3 : SCode := .seq (.region c28_0 [0, 1, 2]) c28_2
def c28 : SCode := c28_3
theorem w28 : type_of% (And.intro (uR Tryd.prog c28_0.eq_1) (And.intro (uR Tryd.prog c28_1.eq_1) (And.intro (uC Tryd.prog c28_2.eq_1) (And.intro (uC Tryd.prog c28_3.eq_1) (uC Tryd.prog c28.eq_1))))) := (And.intro (uR Tryd.prog c28_0.eq_1) (And.intro (uR Tryd.prog c28_1.eq_1) (And.intro (uC Tryd.prog c28_2.eq_1) (And.intro (uC Tryd.prog c28_3.eq_1) (uC Tryd.prog c28.eq_1)))))
def v28 : List RV := [.t 6]
theorem s28 : slimF Tryd.prog Tryd.f28 = some (c28.bare, v28) := by kernel_rfl
/-! 42 (loop.example/g00066/impl.Clip).isGap: parameters 1, live [0], slots [0:c, 1:c] -/
def c42_0 : List SOper := [⟨some 1, .a (.box (.t 0)), none⟩, ⟨some 2, .q (.mv (.c (.bool false))), none⟩]
def c42_1 : List SOper := [⟨some 3, .q (.fa 0 (.t 1)), none⟩, ⟨some 4, .q (.ld (.t 3)), none⟩, ⟨some 5, .q (.bin .eql (.t 4) (.c (.int .i64 0))), none⟩, ⟨some 2, .q (.mv (.t 5)), none⟩]
def c42_2 : SCode := .seq (.region c42_1 [2]) .ret
def c42_3 : SCode := .seq (.region c42_0 [1]) c42_2
def c42 : SCode := c42_3
theorem w42 : type_of% (And.intro (uR Tryd.prog c42_0.eq_1) (And.intro (uR Tryd.prog c42_1.eq_1) (And.intro (uC Tryd.prog c42_2.eq_1) (And.intro (uC Tryd.prog c42_3.eq_1) (uC Tryd.prog c42.eq_1))))) := (And.intro (uR Tryd.prog c42_0.eq_1) (And.intro (uR Tryd.prog c42_1.eq_1) (And.intro (uC Tryd.prog c42_2.eq_1) (And.intro (uC Tryd.prog c42_3.eq_1) (uC Tryd.prog c42.eq_1)))))
def v42 : List RV := [.t 2]
theorem s42 : slimF Tryd.prog Tryd.f42 = some (c42.bare, v42) := by kernel_rfl
/-! 32 (loop.example/g00066/impl.Clip).ok: parameters 1, live [0], slots [0:c, 1:c] -/
def c32_0 : List SOper := [⟨some 1, .a (.box (.t 0)), none⟩, ⟨some 2, .q (.mv (.c (.bool false))), none⟩]
def c32_1 : List SOper := [⟨some 3, .q (.fa 0 (.t 1)), none⟩, ⟨some 4, .q (.ld (.t 3)), none⟩, ⟨some 5, .e (.call 28 [(.t 4), (.c (.int .i64 0)), (.c (.int .i64 500))]), none⟩, ⟨some 6, .q (.not (.t 5)), none⟩, ⟨some 7, .q (.mv (.t 6)), none⟩, ⟨some 8, .q (.fa 1 (.t 1)), some (7, false)⟩, ⟨some 9, .q (.ld (.t 8)), some (7, false)⟩, ⟨some 10, .e (.call 28 [(.t 9), (.c (.int .i64 0)), (.c (.int .i64 10000000))]), some (7, false)⟩, ⟨some 11, .q (.not (.t 10)), some (7, false)⟩, ⟨some 12, .q (.pick (.t 7) (.c (.bool true)) (.t 11)), none⟩, ⟨some 13, .q (.mv (.t 12)), none⟩, ⟨some 14, .q (.fa 2 (.t 1)), some (13, false)⟩, ⟨some 15, .q (.ld (.t 14)), some (13, false)⟩, ⟨some 16, .e (.call 28 [(.t 15), (.c (.int .i64 1)), (.c (.int .i64 10000000))]), some (13, false)⟩, ⟨some 17, .q (.not (.t 16)), some (13, false)⟩, ⟨some 18, .q (.pick (.t 13) (.c (.bool true)) (.t 17)), none⟩]
def c32_2 : List SOper := [⟨some 2, .q (.mv (.c (.bool false))), none⟩]
def c32_3 : SCode := .seq (.region c32_2 [2]) .ret
def c32_4 : SCode := .cond (.t 18) c32_3 .skip
def c32_5 : SCode := .seq (.region c32_1 [1, 18]) c32_4
def c32_6 : List SOper := [⟨some 19, .q (.ldn 3 (.t 1)), none⟩, ⟨some 20, .e (.call 42 [(.t 19)]), none⟩, ⟨some 21, .q (.mv (.t 20)), none⟩, ⟨some 22, .q (.fa 1 (.t 1)), some (21, true)⟩, ⟨some 23, .q (.ld (.t 22)), some (21, true)⟩, ⟨some 24, .q (.bin .eql (.t 23) (.c (.int .i64 0))), some (21, true)⟩, ⟨some 25, .q (.pick (.t 21) (.t 24) (.c (.bool false))), none⟩, ⟨some 26, .q (.mv (.t 25)), none⟩, ⟨some 27, .q (.ldn 3 (.t 1)), some (26, false)⟩, ⟨some 28, .e (.call 42 [(.t 27)]), some (26, false)⟩, ⟨some 29, .q (.not (.t 28)), some (26, false)⟩, ⟨some 30, .q (.mv (.t 29)), some (26, false)⟩, ⟨some 31, .q (.fa 1 (.t 1)), some (30, true)⟩, ⟨some 32, .q (.ld (.t 31)), some (30, true)⟩, ⟨some 33, .q (.fa 2 (.t 1)), some (30, true)⟩, ⟨some 34, .q (.ld (.t 33)), some (30, true)⟩, ⟨some 35, .q (.bin .add (.t 32) (.t 34)), some (30, true)⟩, ⟨some 36, .q (.bin .leq (.t 35) (.c (.int .i64 10000000))), some (30, true)⟩, ⟨some 37, .q (.pick (.t 30) (.t 36) (.c (.bool false))), some (26, false)⟩, ⟨some 38, .q (.pick (.t 26) (.c (.bool true)) (.t 37)), none⟩, ⟨some 2, .q (.mv (.t 38)), none⟩]
def c32_7 : SCode := .seq (.region c32_6 [2]) .ret
def c32_8 : SCode := .seq c32_5 c32_7
def c32_9 : SCode := .seq (.region c32_0 [1]) c32_8
def c32 : SCode := c32_9
theorem w32 : type_of% (And.intro (uR Tryd.prog c32_0.eq_1) (And.intro (uR Tryd.prog c32_1.eq_1) (And.intro (uR Tryd.prog c32_2.eq_1) (And.intro (uC Tryd.prog c32_3.eq_1) (And.intro (uC Tryd.prog c32_4.eq_1) (And.intro (uC Tryd.prog c32_5.eq_1) (And.intro (uR Tryd.prog c32_6.eq_1) (And.intro (uC Tryd.prog c32_7.eq_1) (And.intro (uC Tryd.prog c32_8.eq_1) (And.intro (uC Tryd.prog c32_9.eq_1) (uC Tryd.prog c32.eq_1))))))))))) := (And.intro (uR Tryd.prog c32_0.eq_1) (And.intro (uR Tryd.prog c32_1.eq_1) (And.intro (uR Tryd.prog c32_2.eq_1) (And.intro (uC Tryd.prog c32_3.eq_1) (And.intro (uC Tryd.prog c32_4.eq_1) (And.intro (uC Tryd.prog c32_5.eq_1) (And.intro (uR Tryd.prog c32_6.eq_1) (And.intro (uC Tryd.prog c32_7.eq_1) (And.intro (uC Tryd.prog c32_8.eq_1) (And.intro (uC Tryd.prog c32_9.eq_1) (uC Tryd.prog c32.eq_1)))))))))))
def v32 : List RV := [.t 2]
theorem s32 : slimF Tryd.prog Tryd.f32 = some (c32.bare, v32) := by kernel_rfl
/-! 31 loop.example/g00066/impl.TrackOk$1: parameters 1, live [0], slots [0:c, 1:c] -/
def c31_0 : List SOper := [⟨some 1, .a (.box (.t 0)), none⟩, ⟨some 2, .q (.mv (.c (.bool false))), none⟩]
def c31_1 : List SOper := [⟨some 3, .q (.ldn 3 (.t 1)), none⟩, ⟨some 4, .e (.call 32 [(.t 3)]), none⟩, ⟨some 5, .q (.not (.t 4)), none⟩, ⟨some 2, .q (.mv (.t 5)), none⟩]
def c31_2 : SCode := .seq (.region c31_1 [2]) .ret
def c31_3 : SCode := .seq (.region c31_0 [1]) c31_2
def c31 : SCode := c31_3
theorem w31 : type_of% (And.intro (uR Tryd.prog c31_0.eq_1) (And.intro (uR Tryd.prog c31_1.eq_1) (And.intro (uC Tryd.prog c31_2.eq_1) (And.intro (uC Tryd.prog c31_3.eq_1) (uC Tryd.prog c31.eq_1))))) := (And.intro (uR Tryd.prog c31_0.eq_1) (And.intro (uR Tryd.prog c31_1.eq_1) (And.intro (uC Tryd.prog c31_2.eq_1) (And.intro (uC Tryd.prog c31_3.eq_1) (uC Tryd.prog c31.eq_1)))))
def v31 : List RV := [.t 2]
theorem s31 : slimF Tryd.prog Tryd.f31 = some (c31.bare, v31) := by kernel_rfl
/-! 41 slices.IndexFunc[[]loop.example/g00066/impl.Clip,loop.example/g00066/impl.Clip]: parameters 2, live [0, 1], slots [0:s, 1:f, 2:s, 3:f, 5:i] -/
def c41_0 : List SOper := [⟨some 4, .q (.mv (.c (.int .i64 0))), none⟩]
def c41_1 : List SOper := [⟨some 6, .q (.mv (.t 0)), none⟩, ⟨some 7, .q (.len (.t 6)), none⟩, ⟨some 8, .q (.mv (.c (.int .i64 0))), none⟩]
def c41_2 : List SOper := [⟨some 9, .q (.bin .lss (.t 8) (.t 7)), none⟩]
def c41_3 : SCode := .cond (.t 9) .skip (.exit 0)
def c41_4 : List SOper := [⟨some 10, .q (.mv (.t 8)), none⟩, ⟨some 5, .q (.mv (.t 10)), none⟩]
def c41_5 : List SOper := [⟨some 11, .q (.mv (.t 1)), none⟩, ⟨some 12, .q (.mv (.t 0)), none⟩, ⟨some 13, .q (.mv (.t 5)), none⟩, ⟨some 14, .q (.ia 3 (.t 12) (.t 13)), none⟩, ⟨some 15, .q (.ldn 3 (.t 14)), none⟩, ⟨some 16, .e (.callv (.t 11) [(.t 15)]), none⟩]
def c41_6 : List SOper := [⟨some 17, .q (.mv (.t 5)), none⟩, ⟨some 4, .q (.mv (.t 17)), none⟩]
def c41_7 : SCode := .seq (.region c41_6 [4]) .ret
def c41_8 : SCode := .cond (.t 16) c41_7 .skip
def c41_9 : SCode := .seq (.region c41_5 [0, 1, 5, 7, 8, 16]) c41_8
def c41_10 : SCode := .seq (.region c41_4 [0, 1, 5, 7, 8]) c41_9
def c41_11 : SCode := .block 1 c41_10
def c41_12 : List SOper := [⟨some 18, .q (.bin .add (.t 8) (.c (.int .i64 1))), none⟩, ⟨some 8, .q (.mv (.t 18)), none⟩]
def c41_13 : SCode := .seq c41_11 (.region c41_12 [0, 1, 7, 8])
def c41_14 : SCode := .seq c41_3 c41_13
def c41_15 : SCode := .seq (.region c41_2 [0, 1, 7, 8, 9]) c41_14
def c41_16 : SCode := .loop c41_15
def c41_17 : SCode := .block 0 c41_16
def c41_18 : SCode := .seq (.region c41_1 [0, 1, 7, 8]) c41_17
def c41_19 : List SOper := [⟨some 4, .q (.mv (.c (.int .i64 (-1)))), none⟩]
def c41_20 : SCode := .seq (.region c41_19 [4]) .ret
def c41_21 : SCode := .seq c41_18 c41_20
def c41_22 : SCode := .seq (.region c41_0 [0, 1]) c41_21
def c41 : SCode := c41_22
theorem w41 : type_of% (And.intro (uR Tryd.prog c41_0.eq_1) (And.intro (uR Tryd.prog c41_1.eq_1) (And.intro (uR Tryd.prog c41_2.eq_1) (And.intro (uC Tryd.prog c41_3.eq_1) (And.intro (uR Tryd.prog c41_4.eq_1) (And.intro (uR Tryd.prog c41_5.eq_1) (And.intro (uR Tryd.prog c41_6.eq_1) (And.intro (uC Tryd.prog c41_7.eq_1) (And.intro (uC Tryd.prog c41_8.eq_1) (And.intro (uC Tryd.prog c41_9.eq_1) (And.intro (uC Tryd.prog c41_10.eq_1) (And.intro (uC Tryd.prog c41_11.eq_1) (And.intro (uR Tryd.prog c41_12.eq_1) (And.intro (uC Tryd.prog c41_13.eq_1) (And.intro (uC Tryd.prog c41_14.eq_1) (And.intro (uC Tryd.prog c41_15.eq_1) (And.intro (uC Tryd.prog c41_16.eq_1) (And.intro (uC Tryd.prog c41_17.eq_1) (And.intro (uC Tryd.prog c41_18.eq_1) (And.intro (uR Tryd.prog c41_19.eq_1) (And.intro (uC Tryd.prog c41_20.eq_1) (And.intro (uC Tryd.prog c41_21.eq_1) (And.intro (uC Tryd.prog c41_22.eq_1) (uC Tryd.prog c41.eq_1)))))))))))))))))))))))) := (And.intro (uR Tryd.prog c41_0.eq_1) (And.intro (uR Tryd.prog c41_1.eq_1) (And.intro (uR Tryd.prog c41_2.eq_1) (And.intro (uC Tryd.prog c41_3.eq_1) (And.intro (uR Tryd.prog c41_4.eq_1) (And.intro (uR Tryd.prog c41_5.eq_1) (And.intro (uR Tryd.prog c41_6.eq_1) (And.intro (uC Tryd.prog c41_7.eq_1) (And.intro (uC Tryd.prog c41_8.eq_1) (And.intro (uC Tryd.prog c41_9.eq_1) (And.intro (uC Tryd.prog c41_10.eq_1) (And.intro (uC Tryd.prog c41_11.eq_1) (And.intro (uR Tryd.prog c41_12.eq_1) (And.intro (uC Tryd.prog c41_13.eq_1) (And.intro (uC Tryd.prog c41_14.eq_1) (And.intro (uC Tryd.prog c41_15.eq_1) (And.intro (uC Tryd.prog c41_16.eq_1) (And.intro (uC Tryd.prog c41_17.eq_1) (And.intro (uC Tryd.prog c41_18.eq_1) (And.intro (uR Tryd.prog c41_19.eq_1) (And.intro (uC Tryd.prog c41_20.eq_1) (And.intro (uC Tryd.prog c41_21.eq_1) (And.intro (uC Tryd.prog c41_22.eq_1) (uC Tryd.prog c41.eq_1))))))))))))))))))))))))
def v41 : List RV := [.t 4]
theorem s41 : slimF Tryd.prog Tryd.f41 = some (c41.bare, v41) := by kernel_rfl
/-! 30 slices.ContainsFunc[[]loop.example/g00066/impl.Clip,loop.example/g00066/impl.Clip]: parameters 2, live [0, 1], slots [0:s, 1:f, 2:s, 3:f] -/
def c30_0 : List SOper := [⟨some 4, .q (.mv (.c (.bool false))), none⟩]
def c30_1 : List SOper := [⟨some 5, .q (.mv (.t 0)), none⟩, ⟨some 6, .q (.mv (.t 1)), none⟩, ⟨some 7, .e (.call 41 [(.t 5), (.t 6)]), none⟩, ⟨some 8, .q (.bin .geq (.t 7) (.c (.int .i64 0))), none⟩, ⟨some 4, .q (.mv (.t 8)), none⟩]
def c30_2 : SCode := .seq (.region c30_1 [4]) .ret
def c30_3 : SCode := .seq (.region c30_0 [0, 1]) c30_2
def c30 : SCode := c30_3
theorem w30 : type_of% (And.intro (uR Tryd.prog c30_0.eq_1) (And.intro (uR Tryd.prog c30_1.eq_1) (And.intro (uC Tryd.prog c30_2.eq_1) (And.intro (uC Tryd.prog c30_3.eq_1) (uC Tryd.prog c30.eq_1))))) := (And.intro (uR Tryd.prog c30_0.eq_1) (And.intro (uR Tryd.prog c30_1.eq_1) (And.intro (uC Tryd.prog c30_2.eq_1) (And.intro (uC Tryd.prog c30_3.eq_1) (uC Tryd.prog c30.eq_1)))))
def v30 : List RV := [.t 4]
theorem s30 : slimF Tryd.prog Tryd.f30 = some (c30.bare, v30) := by kernel_rfl
/-! 18 loop.example/g00066/impl.TrackOk: parameters 1, live [0], slots [0:track, 1:track] -/
def c18_0 : List SOper := [⟨some 2, .q (.mv (.c (.bool false))), none⟩]
def c18_1 : List SOper := [⟨some 3, .q (.mv (.t 0)), none⟩, ⟨some 4, .q (.len (.t 3)), none⟩, ⟨some 5, .q (.bin .leq (.t 4) (.c (.int .i64 300))), none⟩, ⟨some 6, .q (.mv (.t 5)), none⟩, ⟨some 7, .q (.mv (.t 0)), some (6, true)⟩, ⟨some 8, .e (.call 30 [(.t 7), (.f 31)]), some (6, true)⟩, ⟨some 9, .q (.not (.t 8)), some (6, true)⟩, ⟨some 10, .q (.pick (.t 6) (.t 9) (.c (.bool false))), none⟩, ⟨some 11, .q (.mv (.t 10)), none⟩, ⟨some 12, .q (.mv (.t 0)), some (11, true)⟩, ⟨some 13, .e (.call 33 [(.t 12)]), some (11, true)⟩, ⟨some 14, .q (.bin .leq (.t 13) (.c (.int .i64 10000000))), some (11, true)⟩, ⟨some 15, .q (.pick (.t 11) (.t 14) (.c (.bool false))), none⟩, ⟨some 2, .q (.mv (.t 15)), none⟩]
def c18_2 : SCode := .seq (.region c18_1 [2]) .ret
def c18_3 : SCode := .seq (.region c18_0 [0]) c18_2
def c18 : SCode := c18_3
theorem w18 : type_of% (And.intro (uR Tryd.prog c18_0.eq_1) (And.intro (uR Tryd.prog c18_1.eq_1) (And.intro (uC Tryd.prog c18_2.eq_1) (And.intro (uC Tryd.prog c18_3.eq_1) (uC Tryd.prog c18.eq_1))))) := (And.intro (uR Tryd.prog c18_0.eq_1) (And.intro (uR Tryd.prog c18_1.eq_1) (And.intro (uC Tryd.prog c18_2.eq_1) (And.intro (uC Tryd.prog c18_3.eq_1) (uC Tryd.prog c18.eq_1)))))
def v18 : List RV := [.t 2]
theorem s18 : slimF Tryd.prog Tryd.f18 = some (c18.bare, v18) := by kernel_rfl
/-! 33 loop.example/g00066/impl.long: parameters 1, live [0], slots [0:track, 1:track, 3:out, 4:_, 5:c] -/
def c33_0 : List SOper := [⟨some 2, .q (.mv (.c (.int .i64 0))), none⟩]
def c33_1 : List SOper := [⟨some 3, .q (.mv (.c (.int .i64 0))), none⟩]
def c33_2 : List SOper := [⟨some 6, .q (.mv (.t 0)), none⟩, ⟨some 7, .q (.len (.t 6)), none⟩, ⟨some 8, .q (.mv (.c (.int .i64 0))), none⟩]
def c33_3 : List SOper := [⟨some 9, .q (.bin .lss (.t 8) (.t 7)), none⟩]
def c33_4 : SCode := .cond (.t 9) .skip (.exit 0)
def c33_5 : List SOper := [⟨some 10, .q (.ia 3 (.t 6) (.t 8)), none⟩, ⟨some 11, .q (.ldn 3 (.t 10)), none⟩, ⟨some 5, .a (.new [(.int .i64 0), (.int .i64 0), (.int .i64 0)]), none⟩, ⟨none, .e (.st 3 (.t 5) (.t 11)), none⟩]
def c33_6 : List SOper := [⟨some 12, .q (.mv (.t 3)), none⟩, ⟨some 13, .q (.fa 2 (.t 5)), none⟩, ⟨some 14, .q (.ld (.t 13)), none⟩, ⟨some 15, .q (.bin .add (.t 12) (.t 14)), none⟩, ⟨some 3, .q (.mv (.t 15)), none⟩]
def c33_7 : SCode := .seq (.region c33_5 [3, 5, 6, 7, 8]) (.region c33_6 [3, 6, 7, 8])
def c33_8 : SCode := .block 1 c33_7
def c33_9 : List SOper := [⟨some 16, .q (.bin .add (.t 8) (.c (.int .i64 1))), none⟩, ⟨some 8, .q (.mv (.t 16)), none⟩]
def c33_10 : SCode := .seq c33_8 (.region c33_9 [3, 6, 7, 8])
def c33_11 : SCode := .seq c33_4 c33_10
def c33_12 : SCode := .seq (.region c33_3 [3, 6, 7, 8, 9]) c33_11
def c33_13 : SCode := .loop c33_12
def c33_14 : SCode := .block 0 c33_13
def c33_15 : SCode := .seq (.region c33_2 [3, 6, 7, 8]) c33_14
def c33_16 : List SOper := [⟨some 17, .q (.mv (.t 3)), none⟩, ⟨some 2, .q (.mv (.t 17)), none⟩]
def c33_17 : SCode := .seq (.region c33_16 [2]) .ret
def c33_18 : SCode := .seq c33_15 c33_17
def c33_19 : SCode := .seq (.region c33_1 [0, 3]) c33_18
def c33_20 : SCode := .seq (.region c33_0 [0]) c33_19
def c33 : SCode := c33_20
theorem w33 : type_of% (And.intro (uR Tryd.prog c33_0.eq_1) (And.intro (uR Tryd.prog c33_1.eq_1) (And.intro (uR Tryd.prog c33_2.eq_1) (And.intro (uR Tryd.prog c33_3.eq_1) (And.intro (uC Tryd.prog c33_4.eq_1) (And.intro (uR Tryd.prog c33_5.eq_1) (And.intro (uR Tryd.prog c33_6.eq_1) (And.intro (uC Tryd.prog c33_7.eq_1) (And.intro (uC Tryd.prog c33_8.eq_1) (And.intro (uR Tryd.prog c33_9.eq_1) (And.intro (uC Tryd.prog c33_10.eq_1) (And.intro (uC Tryd.prog c33_11.eq_1) (And.intro (uC Tryd.prog c33_12.eq_1) (And.intro (uC Tryd.prog c33_13.eq_1) (And.intro (uC Tryd.prog c33_14.eq_1) (And.intro (uC Tryd.prog c33_15.eq_1) (And.intro (uR Tryd.prog c33_16.eq_1) (And.intro (uC Tryd.prog c33_17.eq_1) (And.intro (uC Tryd.prog c33_18.eq_1) (And.intro (uC Tryd.prog c33_19.eq_1) (And.intro (uC Tryd.prog c33_20.eq_1) (uC Tryd.prog c33.eq_1)))))))))))))))))))))) := (And.intro (uR Tryd.prog c33_0.eq_1) (And.intro (uR Tryd.prog c33_1.eq_1) (And.intro (uR Tryd.prog c33_2.eq_1) (And.intro (uR Tryd.prog c33_3.eq_1) (And.intro (uC Tryd.prog c33_4.eq_1) (And.intro (uR Tryd.prog c33_5.eq_1) (And.intro (uR Tryd.prog c33_6.eq_1) (And.intro (uC Tryd.prog c33_7.eq_1) (And.intro (uC Tryd.prog c33_8.eq_1) (And.intro (uR Tryd.prog c33_9.eq_1) (And.intro (uC Tryd.prog c33_10.eq_1) (And.intro (uC Tryd.prog c33_11.eq_1) (And.intro (uC Tryd.prog c33_12.eq_1) (And.intro (uC Tryd.prog c33_13.eq_1) (And.intro (uC Tryd.prog c33_14.eq_1) (And.intro (uC Tryd.prog c33_15.eq_1) (And.intro (uR Tryd.prog c33_16.eq_1) (And.intro (uC Tryd.prog c33_17.eq_1) (And.intro (uC Tryd.prog c33_18.eq_1) (And.intro (uC Tryd.prog c33_19.eq_1) (And.intro (uC Tryd.prog c33_20.eq_1) (uC Tryd.prog c33.eq_1))))))))))))))))))))))
def v33 : List RV := [.t 2]
theorem s33 : slimF Tryd.prog Tryd.f33 = some (c33.bare, v33) := by kernel_rfl
/-! 34 (loop.example/g00066/impl.Clip).follows: parameters 2, live [0, 1], slots [0:c, 1:ahead, 2:c, 3:ahead] -/
def c34_0 : List SOper := [⟨some 2, .a (.box (.t 0)), none⟩, ⟨some 3, .a (.box (.t 1)), none⟩, ⟨some 4, .q (.mv (.c (.bool false))), none⟩]
def c34_1 : List SOper := [⟨some 5, .q (.fa 0 (.t 2)), none⟩, ⟨some 6, .q (.ld (.t 5)), none⟩, ⟨some 7, .q (.fa 0 (.t 3)), none⟩, ⟨some 8, .q (.ld (.t 7)), none⟩, ⟨some 9, .q (.bin .eql (.t 6) (.t 8)), none⟩, ⟨some 10, .q (.mv (.t 9)), none⟩, ⟨some 11, .q (.ldn 3 (.t 2)), some (10, true)⟩, ⟨some 12, .e (.call 42 [(.t 11)]), some (10, true)⟩, ⟨some 13, .q (.mv (.t 12)), some (10, true)⟩, ⟨some 14, .q (.fa 1 (.t 2)), some (13, false)⟩, ⟨some 15, .q (.ld (.t 14)), some (13, false)⟩, ⟨some 16, .q (.fa 1 (.t 3)), some (13, false)⟩, ⟨some 17, .q (.ld (.t 16)), some (13, false)⟩, ⟨some 18, .q (.fa 2 (.t 3)), some (13, false)⟩, ⟨some 19, .q (.ld (.t 18)), some (13, false)⟩, ⟨some 20, .q (.bin .add (.t 17) (.t 19)), some (13, false)⟩, ⟨some 21, .q (.bin .eql (.t 15) (.t 20)), some (13, false)⟩, ⟨some 22, .q (.pick (.t 13) (.c (.bool true)) (.t 21)), some (10, true)⟩, ⟨some 23, .q (.pick (.t 10) (.t 22) (.c (.bool false))), none⟩, ⟨some 4, .q (.mv (.t 23)), none⟩]
def c34_2 : SCode := .seq (.region c34_1 [4]) .ret
def c34_3 : SCode := .seq (.region c34_0 [2, 3]) c34_2
def c34 : SCode := c34_3
theorem w34 : type_of% (And.intro (uR Tryd.prog c34_0.eq_1) (And.intro (uR Tryd.prog c34_1.eq_1) (And.intro (uC Tryd.prog c34_2.eq_1) (And.intro (uC Tryd.prog c34_3.eq_1) (uC Tryd.prog c34.eq_1))))) := (And.intro (uR Tryd.prog c34_0.eq_1) (And.intro (uR Tryd.prog c34_1.eq_1) (And.intro (uC Tryd.prog c34_2.eq_1) (And.intro (uC Tryd.prog c34_3.eq_1) (uC Tryd.prog c34.eq_1)))))
def v34 : List RV := [.t 4]
theorem s34 : slimF Tryd.prog Tryd.f34 = some (c34.bare, v34) := by kernel_rfl

theorem in_ok (h : Heap) (x lo hi : Int) : ACall Tryd.prog 28 [.int .i64 x, .int .i64 lo, .int .i64 hi] h fun r h' => h' = h ∧ r = .bool (decide (lo ≤ x ∧ x ≤ hi)) := by
  refine ACall.of Tryd.func28 s28 (of_decide_eq_true rfl) ?_
  simp (maxSteps := 4000000) (disch := omega) only [ah, am, Nat.reduceEqDiff, reduceCtorEq, Nat.reduceAdd, Nat.reduceLeDiff, Nat.reduceMul, Nat.reduceLT, if_true, if_false, true_and, and_true, and_self, Nat.reduceBEq, QOp.loads, boxO, bslO, buildO, cutL, fillV, putL, w28, v28]
  (repeat' first
    | (refine stepG.cases (fun _ hp => ?_) (fun _ hp => ?_) <;> simp (maxSteps := 4000000) (disch := omega) only [hp, ah, am, Nat.reduceEqDiff, reduceCtorEq, Nat.reduceAdd, Nat.reduceLeDiff, Nat.reduceMul, Nat.reduceLT, if_true, if_false, true_and, and_true, and_self, Nat.reduceBEq, QOp.loads, boxO, bslO, buildO, cutL, fillV, putL, i64w, w28, v28])
    | (refine stepI.cases (fun _ hp => ?_) (fun _ hp => ?_) <;> simp (maxSteps := 4000000) (disch := omega) only [hp, ah, am, Nat.reduceEqDiff, reduceCtorEq, Nat.reduceAdd, Nat.reduceLeDiff, Nat.reduceMul, Nat.reduceLT, if_true, if_false, true_and, and_true, and_self, Nat.reduceBEq, QOp.loads, boxO, bslO, buildO, cutL, fillV, putL, i64w, w28, v28]))
  all_goals (refine bool_dec ?_; try simp only [decide_eq_true_eq, Bool.false_eq_true, false_and, and_false, true_and, and_true, false_iff, iff_false, true_iff, iff_true, not_false_eq_true, false_or, or_false, true_or, or_true]; first | done | omega | (refine Iff.intro (fun hq => ?_) (fun hq => ?_) <;> omega))
theorem isGap_ok (h : Heap) (k : Clip) : ACall Tryd.prog 42 [.agg (encClip k).toArray] h fun r h' => h' = h.more [encClip k] ∧ r = .bool (decide (k.src = 0)) := by
  obtain ⟨a, b, c⟩ := k
  refine ACall.of Tryd.func42 s42 (of_decide_eq_true rfl) ?_
  simp (maxSteps := 4000000) (disch := omega) only [ah, am, Nat.reduceEqDiff, reduceCtorEq, Nat.reduceAdd, Nat.reduceLeDiff, Nat.reduceMul, Nat.reduceLT, if_true, if_false, true_and, and_true, and_self, Nat.reduceBEq, QOp.loads, boxO, bslO, buildO, cutL, fillV, putL, w42, v42, encClip]
theorem isGap_ok' (h : Heap) (a b c : Int) : ACall Tryd.prog 42 [.agg [.int .i64 a, .int .i64 b, .int .i64 c].toArray] h fun r h' => h' = h.more [[.int .i64 a, .int .i64 b, .int .i64 c]] ∧ r = .bool (decide (a = 0)) := isGap_ok h ⟨a, b, c⟩
theorem ok_ok (h : Heap) (k : Clip) : ACall Tryd.prog 32 [.agg (encClip k).toArray] h fun r h' => Ext h h' ∧ r = .bool (decide (clipOk k)) := by
  obtain ⟨a, b, c⟩ := k
  refine ACall.of Tryd.func32 s32 (of_decide_eq_true rfl) ?_
  simp (maxSteps := 4000000) (disch := omega) only [ah, am, Nat.reduceEqDiff, reduceCtorEq, Nat.reduceAdd, Nat.reduceLeDiff, Nat.reduceMul, Nat.reduceLT, if_true, if_false, true_and, and_true, and_self, Nat.reduceBEq, QOp.loads, boxO, bslO, buildO, cutL, fillV, putL, w32, v32, encClip]
  (repeat' first
    | (refine stepC.of (in_ok _ _ _ _) ?_; rintro _ _ ⟨rfl, rfl⟩; simp (maxSteps := 4000000) (disch := omega) only [ah, am, Nat.reduceEqDiff, reduceCtorEq, Nat.reduceAdd, Nat.reduceLeDiff, Nat.reduceMul, Nat.reduceLT, if_true, if_false, true_and, and_true, and_self, Nat.reduceBEq, QOp.loads, boxO, bslO, buildO, cutL, fillV, putL, i64w, w32, v32])
    | (refine stepC.of (isGap_ok' _ _ _ _) ?_; rintro _ _ ⟨rfl, rfl⟩; simp (maxSteps := 4000000) (disch := omega) only [ah, am, Nat.reduceEqDiff, reduceCtorEq, Nat.reduceAdd, Nat.reduceLeDiff, Nat.reduceMul, Nat.reduceLT, if_true, if_false, true_and, and_true, and_self, Nat.reduceBEq, QOp.loads, boxO, bslO, buildO, cutL, fillV, putL, i64w, w32, v32])
    | (refine stepG.cases (fun _ hp => ?_) (fun _ hp => ?_) <;> simp (maxSteps := 4000000) (disch := omega) only [hp, ah, am, Nat.reduceEqDiff, reduceCtorEq, Nat.reduceAdd, Nat.reduceLeDiff, Nat.reduceMul, Nat.reduceLT, if_true, if_false, true_and, and_true, and_self, Nat.reduceBEq, QOp.loads, boxO, bslO, buildO, cutL, fillV, putL, i64w, w32, v32])
    | (refine stepI.cases (fun _ hp => ?_) (fun _ hp => ?_) <;> simp (maxSteps := 4000000) (disch := omega) only [hp, ah, am, Nat.reduceEqDiff, reduceCtorEq, Nat.reduceAdd, Nat.reduceLeDiff, Nat.reduceMul, Nat.reduceLT, if_true, if_false, true_and, and_true, and_self, Nat.reduceBEq, QOp.loads, boxO, bslO, buildO, cutL, fillV, putL, i64w, w32, v32]))
  all_goals (refine ⟨Ext.more _ _, ?_⟩; refine bool_dec ?_; try simp only [decide_eq_true_eq, Bool.false_eq_true, false_and, and_false, true_and, and_true, false_iff, iff_false, true_iff, iff_true, not_false_eq_true, false_or, or_false, true_or, or_true, clipOk]; first | done | omega | (refine Iff.intro (fun hq => ?_) (fun hq => ?_) <;> omega))
theorem TrackOk1_ok (h : Heap) (k : Clip) : ACall Tryd.prog 31 [.agg (encClip k).toArray] h fun r h' => Ext h h' ∧ r = .bool (!decide (clipOk k)) := by
  have g := ok_ok (h.more [encClip k]) k
  obtain ⟨a, b, c⟩ := k
  refine ACall.of Tryd.func31 s31 (of_decide_eq_true rfl) ?_
  simp (maxSteps := 4000000) (disch := omega) only [ah, am, Nat.reduceEqDiff, reduceCtorEq, Nat.reduceAdd, Nat.reduceLeDiff, Nat.reduceMul, Nat.reduceLT, if_true, if_false, true_and, and_true, and_self, Nat.reduceBEq, QOp.loads, boxO, bslO, buildO, cutL, fillV, putL, w31, v31, encClip]
  refine stepC.of g ?_
  rintro _ H ⟨e, rfl⟩
  simp (maxSteps := 4000000) (disch := omega) only [ah, am, Nat.reduceEqDiff, reduceCtorEq, Nat.reduceAdd, Nat.reduceLeDiff, Nat.reduceMul, Nat.reduceLT, if_true, if_false, true_and, and_true, and_self, Nat.reduceBEq, QOp.loads, boxO, bslO, buildO, cutL, fillV, putL, w31, v31]
  exact (Ext.more h _).trans e
theorem IndexFunc_ok (h : Heap) (v : Value) (l : List Clip) (n : Nat) (cap : Array Value) (p : Clip → Bool) (s : SlT h encClip 3 v l) (hl : l.length ≤ 1100000)
    (hf : ∃ fn, Tryd.prog.funcs[n]? = some fn ∧ fn.body.isSome = true ∧ fn.name ≠ "runtime.NumGoroutine")
    (H : ∀ h' k, Ext h h' → k ∈ l → ACall Tryd.prog n ([.agg (encClip k).toArray] ++ cap.toList) h' fun r h2 => Ext h' h2 ∧ r = .bool (p k)) :
    ACall Tryd.prog 41 [v, .func (.func n) #[] cap] h fun r h' => Ext h h' ∧ r = .int .i64 (match l.findIdx? p with | some j => (j : Int) | none => -1) := by
  obtain ⟨fn, hf1, hf2, hf3⟩ := hf
  refine ACall.of Tryd.func41 s41 (of_decide_eq_true rfl) ?_
  have R := s.rulesN
  simp (maxSteps := 4000000) (disch := omega) only [ah, am, Nat.reduceEqDiff, reduceCtorEq, Nat.reduceAdd, Nat.reduceLeDiff, Nat.reduceMul, Nat.reduceLT, if_true, if_false, true_and, and_true, and_self, Nat.reduceBEq, QOp.loads, boxO, bslO, buildO, cutL, fillV, putL, w41, v41, R]
  refine SW_loop_up (fun i E H => E = [(0, v), (1, .func (.func n) #[] cap), (7, .int .i64 l.length), (8, .int .i64 i)] ∧ Ext h H ∧ ∀ j (hj : j < l.length), j < i → p l[j] = false) l.length 0 (by omega)
    ⟨rfl, Ext.refl h, fun j _ hj => absurd hj (by omega)⟩ ?_
  rintro i E H1 hi ⟨rfl, e, F⟩
  have R := (s.ext e).rulesN
  have W : IntKind.i64.wrap ((i : Int) + 1) = ((i + 1 : Nat) : Int) := i64e (by omega) (by omega)
  simp (maxSteps := 4000000) (disch := omega) only [ah, am, Nat.reduceEqDiff, reduceCtorEq, Nat.reduceAdd, Nat.reduceLeDiff, Nat.reduceMul, Nat.reduceLT, if_true, if_false, true_and, and_true, and_self, Nat.reduceBEq, QOp.loads, boxO, bslO, buildO, cutL, fillV, putL, w41, v41, R]
  refine stepI.split (fun hp => ?_) (fun hp => ?_)
  · have hi' : i < l.length := by omega
    simp (maxSteps := 4000000) (disch := omega) only [ah, am, Nat.reduceEqDiff, reduceCtorEq, Nat.reduceAdd, Nat.reduceLeDiff, Nat.reduceMul, Nat.reduceLT, if_true, if_false, true_and, and_true, and_self, Nat.reduceBEq, QOp.loads, boxO, bslO, buildO, cutL, fillV, putL, w41, v41, R, nilV_func]
    refine stepV.of hf1 hf2 hf3 (H H1 _ e (List.getElem_mem hi')) ?_
    rintro _ H2 ⟨e2, rfl⟩
    simp (maxSteps := 4000000) (disch := omega) only [ah, am, Nat.reduceEqDiff, reduceCtorEq, Nat.reduceAdd, Nat.reduceLeDiff, Nat.reduceMul, Nat.reduceLT, if_true, if_false, true_and, and_true, and_self, Nat.reduceBEq, QOp.loads, boxO, bslO, buildO, cutL, fillV, putL, w41, v41, W]
    refine stepI.splitB (fun hk => ?_) (fun hk => ?_)
    · simp (maxSteps := 4000000) (disch := omega) only [ah, am, Nat.reduceEqDiff, reduceCtorEq, Nat.reduceAdd, Nat.reduceLeDiff, Nat.reduceMul, Nat.reduceLT, if_true, if_false, true_and, and_true, and_self, Nat.reduceBEq, QOp.loads, boxO, bslO, buildO, cutL, fillV, putL, w41, v41, W]
      refine ⟨e.trans e2, ?_⟩
      have : l.findIdx? p = some i := by
        rw [List.findIdx?_eq_some_iff_getElem]
        exact ⟨hi', hk, fun j hj => by rw [F j (by omega) hj]; decide⟩
      rw [this]
    · simp (maxSteps := 4000000) (disch := omega) only [ah, am, Nat.reduceEqDiff, reduceCtorEq, Nat.reduceAdd, Nat.reduceLeDiff, Nat.reduceMul, Nat.reduceLT, if_true, if_false, true_and, and_true, and_self, Nat.reduceBEq, QOp.loads, boxO, bslO, buildO, cutL, fillV, putL, w41, v41, W]
      refine ⟨hi', e.trans e2, fun j hj hj2 => ?_⟩
      by_cases hji : j = i
      · subst hji; exact hk
      · exact F j hj (by omega)
  · simp (maxSteps := 4000000) (disch := omega) only [ah, am, Nat.reduceEqDiff, reduceCtorEq, Nat.reduceAdd, Nat.reduceLeDiff, Nat.reduceMul, Nat.reduceLT, if_true, if_false, true_and, and_true, and_self, Nat.reduceBEq, QOp.loads, boxO, bslO, buildO, cutL, fillV, putL, w41, v41, R, W]
    obtain rfl : i = l.length := by omega
    refine ⟨e, ?_⟩
    have : l.findIdx? p = none := by
      rw [List.findIdx?_eq_none_iff]
      intro x hx
      obtain ⟨j, hj, rfl⟩ := List.getElem_of_mem hx
      exact F j hj hj
    rw [this]
theorem ContainsFunc_ok (h : Heap) (v : Value) (l : List Clip) (n : Nat) (cap : Array Value) (p : Clip → Bool) (s : SlT h encClip 3 v l) (hl : l.length ≤ 1100000)
    (hf : ∃ fn, Tryd.prog.funcs[n]? = some fn ∧ fn.body.isSome = true ∧ fn.name ≠ "runtime.NumGoroutine")
    (H : ∀ h' k, Ext h h' → k ∈ l → ACall Tryd.prog n ([.agg (encClip k).toArray] ++ cap.toList) h' fun r h2 => Ext h' h2 ∧ r = .bool (p k)) :
    ACall Tryd.prog 30 [v, .func (.func n) #[] cap] h fun r h' => Ext h h' ∧ r = .bool (l.any p) := by
  refine ACall.of Tryd.func30 s30 (of_decide_eq_true rfl) ?_
  simp (maxSteps := 4000000) (disch := omega) only [ah, am, Nat.reduceEqDiff, reduceCtorEq, Nat.reduceAdd, Nat.reduceLeDiff, Nat.reduceMul, Nat.reduceLT, if_true, if_false, true_and, and_true, and_self, Nat.reduceBEq, QOp.loads, boxO, bslO, buildO, cutL, fillV, putL, w30, v30]
  refine stepC.of (IndexFunc_ok h v l n cap p s hl hf H) ?_
  rintro _ H1 ⟨e, rfl⟩
  simp (maxSteps := 4000000) (disch := omega) only [ah, am, Nat.reduceEqDiff, reduceCtorEq, Nat.reduceAdd, Nat.reduceLeDiff, Nat.reduceMul, Nat.reduceLT, if_true, if_false, true_and, and_true, and_self, Nat.reduceBEq, QOp.loads, boxO, bslO, buildO, cutL, fillV, putL, w30, v30]
  refine ⟨e, ?_⟩
  cases hq : l.findIdx? p with
  | none =>
    rw [List.findIdx?_eq_none_iff] at hq
    have : l.any p = false := by rw [List.any_eq_false]; intro x hx; rw [hq x hx]; decide
    rw [this]; rfl
  | some j =>
    rw [List.findIdx?_eq_some_iff_getElem] at hq
    obtain ⟨hj, hp, _⟩ := hq
    have : l.any p = true := List.any_eq_true.mpr ⟨_, List.getElem_mem hj, hp⟩
    rw [this]
    congr 1
theorem long_ok (h : Heap) (v : Value) (l : List Clip) (s : SlT h encClip 3 v l) (hl : l.length ≤ 300) (ho : ∀ k ∈ l, clipOk k) : ACall Tryd.prog 33 [v] h fun r h' => Ext h h' ∧ r = .int .i64 (sumLen l) := by
  refine ACall.of Tryd.func33 s33 (of_decide_eq_true rfl) ?_
  have R := s.rulesN
  simp (maxSteps := 4000000) (disch := omega) only [ah, am, Nat.reduceEqDiff, reduceCtorEq, Nat.reduceAdd, Nat.reduceLeDiff, Nat.reduceMul, Nat.reduceLT, if_true, if_false, true_and, and_true, and_self, Nat.reduceBEq, QOp.loads, boxO, bslO, buildO, cutL, fillV, putL, w33, v33, R]
  refine SW_loop_up (fun i E H => E = [(3, .int .i64 (sumLen (l.take i))), (6, v), (7, .int .i64 l.length), (8, .int .i64 i)] ∧ Ext h H) l.length 0 (by omega) ⟨by simp [sumLen], Ext.refl h⟩ ?_
  rintro i E H hi ⟨rfl, e⟩
  have R := (s.ext e).rulesN
  have W : IntKind.i64.wrap ((i : Int) + 1) = ((i + 1 : Nat) : Int) := i64e (by omega) (by omega)
  simp (maxSteps := 4000000) (disch := omega) only [ah, am, Nat.reduceEqDiff, reduceCtorEq, Nat.reduceAdd, Nat.reduceLeDiff, Nat.reduceMul, Nat.reduceLT, if_true, if_false, true_and, and_true, and_self, Nat.reduceBEq, QOp.loads, boxO, bslO, buildO, cutL, fillV, putL, w33, v33, R]
  refine stepI.split (fun hp => ?_) (fun hp => ?_)
  · have B := sumLen_bound (l := l.take (i + 1)) (fun k hk => ho k (List.mem_of_mem_take hk))
    rw [sumLen_take l i (by omega)] at B
    have hlen : (l.take (i + 1)).length ≤ 300 := by simp; omega
    simp (maxSteps := 4000000) (disch := omega) only [ah, am, Nat.reduceEqDiff, reduceCtorEq, Nat.reduceAdd, Nat.reduceLeDiff, Nat.reduceMul, Nat.reduceLT, if_true, if_false, true_and, and_true, and_self, Nat.reduceBEq, QOp.loads, boxO, bslO, buildO, cutL, fillV, putL, w33, v33, R, W, encClip, i64w]
    exact ⟨by omega, by rw [sumLen_take l i (by omega)], e.trans (Ext.more _ _)⟩
  · simp (maxSteps := 4000000) (disch := omega) only [ah, am, Nat.reduceEqDiff, reduceCtorEq, Nat.reduceAdd, Nat.reduceLeDiff, Nat.reduceMul, Nat.reduceLT, if_true, if_false, true_and, and_true, and_self, Nat.reduceBEq, QOp.loads, boxO, bslO, buildO, cutL, fillV, putL, w33, v33, R, W]
    obtain rfl : i = l.length := by omega
    rw [List.take_length]
    exact ⟨e, rfl⟩
theorem implTrackOk_ok (h : Heap) (v : Value) (l : List Clip) (s : SlT h encClip 3 v l) (hl : l.length ≤ 1100000) : ACall Tryd.prog 18 [v] h fun r h' => Ext h h' ∧ r = .bool (decide (trackOk l)) := by
  refine ACall.of Tryd.func18 s18 (of_decide_eq_true rfl) ?_
  have R := s.rulesN
  simp (maxSteps := 4000000) (disch := omega) only [ah, am, Nat.reduceEqDiff, reduceCtorEq, Nat.reduceAdd, Nat.reduceLeDiff, Nat.reduceMul, Nat.reduceLT, if_true, if_false, true_and, and_true, and_self, Nat.reduceBEq, QOp.loads, boxO, bslO, buildO, cutL, fillV, putL, w18, v18, R]
  refine stepG.cases (fun h0 hp => ?_) (fun h0 hp => ?_)
  · simp (maxSteps := 4000000) (disch := omega) only [ah, am, Nat.reduceEqDiff, reduceCtorEq, Nat.reduceAdd, Nat.reduceLeDiff, Nat.reduceMul, Nat.reduceLT, if_true, if_false, true_and, and_true, and_self, Nat.reduceBEq, QOp.loads, boxO, bslO, buildO, cutL, fillV, putL, w18, v18, hp, R]
    refine stepC.of (ContainsFunc_ok h v l 31 #[] (fun k => !decide (clipOk k)) s hl ⟨_, Tryd.func31, rfl, by decide⟩ (fun h' k _ _ => TrackOk1_ok h' k)) ?_
    rintro _ H1 ⟨e, rfl⟩
    simp (maxSteps := 4000000) (disch := omega) only [ah, am, Nat.reduceEqDiff, reduceCtorEq, Nat.reduceAdd, Nat.reduceLeDiff, Nat.reduceMul, Nat.reduceLT, if_true, if_false, true_and, and_true, and_self, Nat.reduceBEq, QOp.loads, boxO, bslO, buildO, cutL, fillV, putL, w18, v18, hp, R]
    cases hq : l.any (fun k => !decide (clipOk k)) with
    | false =>
      have ho : ∀ k ∈ l, clipOk k := by
        intro k hk; rw [List.any_eq_false] at hq; have := hq k hk; simpa using this
      simp (maxSteps := 4000000) (disch := omega) only [ah, am, Nat.reduceEqDiff, reduceCtorEq, Nat.reduceAdd, Nat.reduceLeDiff, Nat.reduceMul, Nat.reduceLT, if_true, if_false, true_and, and_true, and_self, Nat.reduceBEq, QOp.loads, boxO, bslO, buildO, cutL, fillV, putL, w18, v18, hp, R]
      refine stepC.of (long_ok _ _ _ (s.ext e) (by omega) ho) ?_
      rintro _ H2 ⟨e2, rfl⟩
      simp (maxSteps := 4000000) (disch := omega) only [ah, am, Nat.reduceEqDiff, reduceCtorEq, Nat.reduceAdd, Nat.reduceLeDiff, Nat.reduceMul, Nat.reduceLT, if_true, if_false, true_and, and_true, and_self, Nat.reduceBEq, QOp.loads, boxO, bslO, buildO, cutL, fillV, putL, w18, v18, hp, R]
      refine ⟨e.trans e2, ?_⟩
      refine bool_dec ?_
      simp only [decide_eq_true_eq, trackOk]
      exact ⟨fun hq => ⟨by omega, ho, hq⟩, fun hq => hq.2.2⟩
    | true =>
      simp (maxSteps := 4000000) (disch := omega) only [ah, am, Nat.reduceEqDiff, reduceCtorEq, Nat.reduceAdd, Nat.reduceLeDiff, Nat.reduceMul, Nat.reduceLT, if_true, if_false, true_and, and_true, and_self, Nat.reduceBEq, QOp.loads, boxO, bslO, buildO, cutL, fillV, putL, w18, v18, hp, R]
      refine ⟨e, ?_⟩
      refine bool_dec ?_
      simp only [Bool.false_eq_true, false_iff, trackOk]
      rw [List.any_eq_true] at hq
      obtain ⟨k, hk, hq⟩ := hq
      intro ht
      have := ht.2.1 k hk
      simp [this] at hq
  · simp (maxSteps := 4000000) (disch := omega) only [ah, am, Nat.reduceEqDiff, reduceCtorEq, Nat.reduceAdd, Nat.reduceLeDiff, Nat.reduceMul, Nat.reduceLT, if_true, if_false, true_and, and_true, and_self, Nat.reduceBEq, QOp.loads, boxO, bslO, buildO, cutL, fillV, putL, w18, v18, hp, R]
    refine ⟨Ext.refl h, ?_⟩; refine bool_dec ?_; try simp only [decide_eq_true_eq, Bool.false_eq_true, false_and, and_false, true_and, and_true, false_iff, iff_false, true_iff, iff_true, not_false_eq_true, false_or, or_false, true_or, or_true, trackOk]; first | done | omega | (refine Iff.intro (fun hq => ?_) (fun hq => ?_) <;> omega)
end Go.Proofs.YtgmimgmdbpcecaaDoor
