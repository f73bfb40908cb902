import Derived.Test.YtgmimgmdbpcecaaDoorR2
namespace Go.Proofs.YtgmimgmdbpcecaaDoor
open Go Go.Ah
set_option linter.unusedSimpArgs false
set_option linter.unusedVariables false
set_option maxRecDepth 10000
set_option maxHeartbeats 4000000
/-! 29 loop.example/g00066/impl.gcd: parameters 2, live [0, 1], slots [0:a, 1:b, 2:a, 3:b] -/
def c29_0 : List SOper := [⟨some 4, .q (.mv (.c (.int .i64 0))), none⟩]
def c29_1 : List SOper := [⟨some 5, .q (.mv (.t 1)), none⟩, ⟨some 6, .q (.bin .neq (.t 5) (.c (.int .i64 0))), none⟩]
def c29_2 : SCode := .cond (.t 6) .skip (.exit 0)
def c29_3 : SCode := .seq (.region c29_1 [0, 1, 6]) c29_2
def c29_4 : List SOper := [⟨some 7, .q (.mv (.t 1)), none⟩, ⟨some 8, .q (.mv (.t 0)), none⟩, ⟨some 9, .q (.mv (.t 1)), none⟩, ⟨some 10, .q (.bin .rem (.t 8) (.t 9)), none⟩, ⟨some 0, .q (.mv (.t 7)), none⟩, ⟨some 1, .q (.mv (.t 10)), none⟩]
def c29_5 : SCode := .block 1 (.region c29_4 [0, 1])
def c29_6 : SCode := .seq c29_3 c29_5
def c29_7 : SCode := .loop c29_6
def c29_8 : SCode := .block 0 c29_7
def c29_9 : List SOper := [⟨some 11, .q (.mv (.t 0)), none⟩, ⟨some 4, .q (.mv (.t 11)), none⟩]
def c29_10 : SCode := .seq (.region c29_9 [4]) .ret
def c29_11 : SCode := .seq c29_8 c29_10
def c29_12 : SCode := .seq (.region c29_0 [0, 1]) c29_11
def c29 : SCode := c29_12
theorem w29 : type_of% (And.intro (uR Tryd.prog c29_0.eq_1) (And.intro (uR Tryd.prog c29_1.eq_1) (And.intro (uC Tryd.prog c29_2.eq_1) (And.intro (uC Tryd.prog c29_3.eq_1) (And.intro (uR Tryd.prog c29_4.eq_1) (And.intro (uC Tryd.prog c29_5.eq_1) (And.intro (uC Tryd.prog c29_6.eq_1) (And.intro (uC Tryd.prog c29_7.eq_1) (And.intro (uC Tryd.prog c29_8.eq_1) (And.intro (uR Tryd.prog c29_9.eq_1) (And.intro (uC Tryd.prog c29_10.eq_1) (And.intro (uC Tryd.prog c29_11.eq_1) (And.intro (uC Tryd.prog c29_12.eq_1) (uC Tryd.prog c29.eq_1)))))))))))))) := (And.intro (uR Tryd.prog c29_0.eq_1) (And.intro (uR Tryd.prog c29_1.eq_1) (And.intro (uC Tryd.prog c29_2.eq_1) (And.intro (uC Tryd.prog c29_3.eq_1) (And.intro (uR Tryd.prog c29_4.eq_1) (And.intro (uC Tryd.prog c29_5.eq_1) (And.intro (uC Tryd.prog c29_6.eq_1) (And.intro (uC Tryd.prog c29_7.eq_1) (And.intro (uC Tryd.prog c29_8.eq_1) (And.intro (uR Tryd.prog c29_9.eq_1) (And.intro (uC Tryd.prog c29_10.eq_1) (And.intro (uC Tryd.prog c29_11.eq_1) (And.intro (uC Tryd.prog c29_12.eq_1) (uC Tryd.prog c29.eq_1))))))))))))))
def v29 : List RV := [.t 4]
theorem s29 : slimF Tryd.prog Tryd.f29 = some (c29.bare, v29) := by kernel_rfl
/-! 23 loop.example/g00066/spec.l1Gcd: parameters 2, live [0, 1], slots [0:a, 1:b, 2:a, 3:b, 5:r] -/
def c23_0 : List SOper := [⟨some 4, .q (.mv (.c (.int .i64 0))), none⟩]
def c23_1 : List SOper := [⟨some 6, .q (.mv (.t 0)), none⟩, ⟨some 7, .e (.call 39 [(.t 6)]), none⟩, ⟨some 0, .q (.mv (.t 7)), none⟩]
def c23_2 : List SOper := [⟨some 8, .q (.mv (.t 1)), none⟩, ⟨some 9, .e (.call 39 [(.t 8)]), none⟩, ⟨some 1, .q (.mv (.t 9)), none⟩]
def c23_3 : List SOper := [⟨some 10, .q (.mv (.t 1)), none⟩, ⟨some 11, .q (.bin .neq (.t 10) (.c (.int .i64 0))), none⟩]
def c23_4 : SCode := .cond (.t 11) .skip (.exit 0)
def c23_5 : SCode := .seq (.region c23_3 [0, 1, 11]) c23_4
def c23_6 : List SOper := [⟨some 12, .q (.mv (.t 0)), none⟩, ⟨some 13, .q (.mv (.t 1)), none⟩, ⟨some 14, .q (.bin .rem (.t 12) (.t 13)), none⟩, ⟨some 5, .q (.mv (.t 14)), none⟩]
def c23_7 : List SOper := [⟨some 15, .q (.mv (.t 1)), none⟩, ⟨some 0, .q (.mv (.t 15)), none⟩]
def c23_8 : List SOper := [⟨some 16, .q (.mv (.t 5)), none⟩, ⟨some 1, .q (.mv (.t 16)), none⟩]
def c23_9 : SCode := .seq (.region c23_7 [0, 5]) (.region c23_8 [0, 1])
def c23_10 : SCode := .seq (.region c23_6 [1, 5]) c23_9
def c23_11 : SCode := .block 1 c23_10
def c23_12 : SCode := .seq c23_5 c23_11
def c23_13 : SCode := .loop c23_12
def c23_14 : SCode := .block 0 c23_13
def c23_15 : List SOper := [⟨some 17, .q (.mv (.t 0)), none⟩, ⟨some 4, .q (.mv (.t 17)), none⟩]
def c23_16 : SCode := .seq (.region c23_15 [4]) .ret
def c23_17 : SCode := .seq c23_14 c23_16
def c23_18 : SCode := .seq (.region c23_2 [0, 1]) c23_17
def c23_19 : SCode := .seq (.region c23_1 [0, 1]) c23_18
def c23_20 : SCode := .seq (.region c23_0 [0, 1]) c23_19
def c23 : SCode := c23_20
theorem w23 : type_of% (And.intro (uR Tryd.prog c23_0.eq_1) (And.intro (uR Tryd.prog c23_1.eq_1) (And.intro (uR Tryd.prog c23_2.eq_1) (And.intro (uR Tryd.prog c23_3.eq_1) (And.intro (uC Tryd.prog c23_4.eq_1) (And.intro (uC Tryd.prog c23_5.eq_1) (And.intro (uR Tryd.prog c23_6.eq_1) (And.intro (uR Tryd.prog c23_7.eq_1) (And.intro (uR Tryd.prog c23_8.eq_1) (And.intro (uC Tryd.prog c23_9.eq_1) (And.intro (uC Tryd.prog c23_10.eq_1) (And.intro (uC Tryd.prog c23_11.eq_1) (And.intro (uC Tryd.prog c23_12.eq_1) (And.intro (uC Tryd.prog c23_13.eq_1) (And.intro (uC Tryd.prog c23_14.eq_1) (And.intro (uR Tryd.prog c23_15.eq_1) (And.intro (uC Tryd.prog c23_16.eq_1) (And.intro (uC Tryd.prog c23_17.eq_1) (And.intro (uC Tryd.prog c23_18.eq_1) (And.intro (uC Tryd.prog c23_19.eq_1) (And.intro (uC Tryd.prog c23_20.eq_1) (uC Tryd.prog c23.eq_1)))))))))))))))))))))) := (And.intro (uR Tryd.prog c23_0.eq_1) (And.intro (uR Tryd.prog c23_1.eq_1) (And.intro (uR Tryd.prog c23_2.eq_1) (And.intro (uR Tryd.prog c23_3.eq_1) (And.intro (uC Tryd.prog c23_4.eq_1) (And.intro (uC Tryd.prog c23_5.eq_1) (And.intro (uR Tryd.prog c23_6.eq_1) (And.intro (uR Tryd.prog c23_7.eq_1) (And.intro (uR Tryd.prog c23_8.eq_1) (And.intro (uC Tryd.prog c23_9.eq_1) (And.intro (uC Tryd.prog c23_10.eq_1) (And.intro (uC Tryd.prog c23_11.eq_1) (And.intro (uC Tryd.prog c23_12.eq_1) (And.intro (uC Tryd.prog c23_13.eq_1) (And.intro (uC Tryd.prog c23_14.eq_1) (And.intro (uR Tryd.prog c23_15.eq_1) (And.intro (uC Tryd.prog c23_16.eq_1) (And.intro (uC Tryd.prog c23_17.eq_1) (And.intro (uC Tryd.prog c23_18.eq_1) (And.intro (uC Tryd.prog c23_19.eq_1) (And.intro (uC Tryd.prog c23_20.eq_1) (uC Tryd.prog c23.eq_1))))))))))))))))))))))
def v23 : List RV := [.t 4]
theorem s23 : slimF Tryd.prog Tryd.f23 = some (c23.bare, v23) := by kernel_rfl
/-! 39 loop.example/g00066/spec.l1Abs: parameters 1, live [0], slots [0:x, 1:x] -/
def c39_0 : List SOper := [⟨some 2, .q (.mv (.c (.int .i64 0))), none⟩]
def c39_1 : List SOper := [⟨some 3, .q (.mv (.t 0)), none⟩, ⟨some 4, .q (.bin .lss (.t 3) (.c (.int .i64 0))), none⟩]
def c39_2 : List SOper := [⟨some 5, .q (.mv (.t 0)), none⟩, ⟨some 6, .q (.neg (.t 5)), none⟩, ⟨some 2, .q (.mv (.t 6)), none⟩]
def c39_3 : SCode := .seq (.region c39_2 [2]) .ret
def c39_4 : SCode := .cond (.t 4) c39_3 .skip
def c39_5 : SCode := .seq (.region c39_1 [0, 4]) c39_4
def c39_6 : List SOper := [⟨some 7, .q (.mv (.t 0)), none⟩, ⟨some 2, .q (.mv (.t 7)), none⟩]
def c39_7 : SCode := .seq (.region c39_6 [2]) .ret
def c39_8 : SCode := .seq c39_5 c39_7
def c39_9 : SCode := .seq (.region c39_0 [0]) c39_8
def c39 : SCode := c39_9
theorem w39 : type_of% (And.intro (uR Tryd.prog c39_0.eq_1) (And.intro (uR Tryd.prog c39_1.eq_1) (And.intro (uR Tryd.prog c39_2.eq_1) (And.intro (uC Tryd.prog c39_3.eq_1) (And.intro (uC Tryd.prog c39_4.eq_1) (And.intro (uC Tryd.prog c39_5.eq_1) (And.intro (uR Tryd.prog c39_6.eq_1) (And.intro (uC Tryd.prog c39_7.eq_1) (And.intro (uC Tryd.prog c39_8.eq_1) (And.intro (uC Tryd.prog c39_9.eq_1) (uC Tryd.prog c39.eq_1))))))))))) := (And.intro (uR Tryd.prog c39_0.eq_1) (And.intro (uR Tryd.prog c39_1.eq_1) (And.intro (uR Tryd.prog c39_2.eq_1) (And.intro (uC Tryd.prog c39_3.eq_1) (And.intro (uC Tryd.prog c39_4.eq_1) (And.intro (uC Tryd.prog c39_5.eq_1) (And.intro (uR Tryd.prog c39_6.eq_1) (And.intro (uC Tryd.prog c39_7.eq_1) (And.intro (uC Tryd.prog c39_8.eq_1) (And.intro (uC Tryd.prog c39_9.eq_1) (uC Tryd.prog c39.eq_1)))))))))))
def v39 : List RV := [.t 2]
theorem s39 : slimF Tryd.prog Tryd.f39 = some (c39.bare, v39) := by kernel_rfl
/-! 17 loop.example/g00066/impl.RateOk: parameters 1, live [0], slots [0:r, 1:r] -/
def c17_0 : List SOper := [⟨some 1, .a (.box (.t 0)), none⟩, ⟨some 2, .q (.mv (.c (.bool false))), none⟩]
def c17_1 : List SOper := [⟨some 3, .q (.fa 0 (.t 1)), none⟩, ⟨some 4, .q (.ld (.t 3)), none⟩, ⟨some 5, .e (.call 28 [(.t 4), (.c (.int .i64 1)), (.c (.int .i64 240000))]), none⟩, ⟨some 6, .q (.not (.t 5)), none⟩, ⟨some 7, .q (.mv (.t 6)), none⟩, ⟨some 8, .q (.fa 1 (.t 1)), some (7, false)⟩, ⟨some 9, .q (.ld (.t 8)), some (7, false)⟩, ⟨some 10, .e (.call 28 [(.t 9), (.c (.int .i64 1)), (.c (.int .i64 1001))]), some (7, false)⟩, ⟨some 11, .q (.not (.t 10)), some (7, false)⟩, ⟨some 12, .q (.pick (.t 7) (.c (.bool true)) (.t 11)), none⟩, ⟨some 13, .q (.mv (.t 12)), none⟩, ⟨some 14, .q (.fa 0 (.t 1)), some (13, false)⟩, ⟨some 15, .q (.ld (.t 14)), some (13, false)⟩, ⟨some 16, .q (.fa 1 (.t 1)), some (13, false)⟩, ⟨some 17, .q (.ld (.t 16)), some (13, false)⟩, ⟨some 18, .e (.call 29 [(.t 15), (.t 17)]), some (13, false)⟩, ⟨some 19, .q (.bin .neq (.t 18) (.c (.int .i64 1))), some (13, false)⟩, ⟨some 20, .q (.pick (.t 13) (.c (.bool true)) (.t 19)), none⟩, ⟨some 21, .q (.mv (.t 20)), none⟩, ⟨some 22, .q (.fa 0 (.t 1)), some (21, false)⟩, ⟨some 23, .q (.ld (.t 22)), some (21, false)⟩, ⟨some 24, .q (.fa 1 (.t 1)), some (21, false)⟩, ⟨some 25, .q (.ld (.t 24)), some (21, false)⟩, ⟨some 26, .q (.bin .mul (.c (.int .i64 120)) (.t 25)), some (21, false)⟩, ⟨some 27, .q (.bin .gtr (.t 23) (.t 26)), some (21, false)⟩, ⟨some 28, .q (.pick (.t 21) (.c (.bool true)) (.t 27)), none⟩]
def c17_2 : List SOper := [⟨some 2, .q (.mv (.c (.bool false))), none⟩]
def c17_3 : SCode := .seq (.region c17_2 [2]) .ret
def c17_4 : SCode := .cond (.t 28) c17_3 .skip
def c17_5 : SCode := .seq (.region c17_1 [1, 28]) c17_4
def c17_6 : List SOper := [⟨some 29, .q (.fa 2 (.t 1)), none⟩, ⟨some 30, .q (.ld (.t 29)), none⟩, ⟨some 31, .q (.not (.t 30)), none⟩, ⟨some 32, .q (.mv (.t 31)), none⟩, ⟨some 33, .q (.fa 1 (.t 1)), some (32, false)⟩, ⟨some 34, .q (.ld (.t 33)), some (32, false)⟩, ⟨some 35, .q (.bin .eql (.t 34) (.c (.int .i64 1001))), some (32, false)⟩, ⟨some 36, .q (.mv (.t 35)), some (32, false)⟩, ⟨some 37, .q (.fa 0 (.t 1)), some (36, true)⟩, ⟨some 38, .q (.ld (.t 37)), some (36, true)⟩, ⟨some 39, .q (.bin .eql (.t 38) (.c (.int .i64 30000))), some (36, true)⟩, ⟨some 40, .q (.mv (.t 39)), some (36, true)⟩, ⟨some 41, .q (.fa 0 (.t 1)), some (40, false)⟩, ⟨some 42, .q (.ld (.t 41)), some (40, false)⟩, ⟨some 43, .q (.bin .eql (.t 42) (.c (.int .i64 60000))), some (40, false)⟩, ⟨some 44, .q (.pick (.t 40) (.c (.bool true)) (.t 43)), some (36, true)⟩, ⟨some 45, .q (.pick (.t 36) (.t 44) (.c (.bool false))), some (32, false)⟩, ⟨some 46, .q (.pick (.t 32) (.c (.bool true)) (.t 45)), none⟩, ⟨some 2, .q (.mv (.t 46)), none⟩]
def c17_7 : SCode := .seq (.region c17_6 [2]) .ret
def c17_8 : SCode := .seq c17_5 c17_7
def c17_9 : SCode := .seq (.region c17_0 [1]) c17_8
def c17 : SCode := c17_9
theorem w17 : type_of% (And.intro (uR Tryd.prog c17_0.eq_1) (And.intro (uR Tryd.prog c17_1.eq_1) (And.intro (uR Tryd.prog c17_2.eq_1) (And.intro (uC Tryd.prog c17_3.eq_1) (And.intro (uC Tryd.prog c17_4.eq_1) (And.intro (uC Tryd.prog c17_5.eq_1) (And.intro (uR Tryd.prog c17_6.eq_1) (And.intro (uC Tryd.prog c17_7.eq_1) (And.intro (uC Tryd.prog c17_8.eq_1) (And.intro (uC Tryd.prog c17_9.eq_1) (uC Tryd.prog c17.eq_1))))))))))) := (And.intro (uR Tryd.prog c17_0.eq_1) (And.intro (uR Tryd.prog c17_1.eq_1) (And.intro (uR Tryd.prog c17_2.eq_1) (And.intro (uC Tryd.prog c17_3.eq_1) (And.intro (uC Tryd.prog c17_4.eq_1) (And.intro (uC Tryd.prog c17_5.eq_1) (And.intro (uR Tryd.prog c17_6.eq_1) (And.intro (uC Tryd.prog c17_7.eq_1) (And.intro (uC Tryd.prog c17_8.eq_1) (And.intro (uC Tryd.prog c17_9.eq_1) (uC Tryd.prog c17.eq_1)))))))))))
def v17 : List RV := [.t 2]
theorem s17 : slimF Tryd.prog Tryd.f17 = some (c17.bare, v17) := by kernel_rfl
/-! 10 loop.example/g00066/spec.RateOk: parameters 1, live [0], slots [0:r, 1:r] -/
def c10_0 : List SOper := [⟨some 1, .a (.box (.t 0)), none⟩, ⟨some 2, .q (.mv (.c (.bool false))), none⟩]
def c10_1 : List SOper := [⟨some 3, .q (.fa 0 (.t 1)), none⟩, ⟨some 4, .q (.ld (.t 3)), none⟩, ⟨some 5, .e (.call 22 [(.t 4), (.c (.int .i64 1)), (.c (.int .i64 240000))]), none⟩, ⟨some 6, .q (.not (.t 5)), none⟩, ⟨some 7, .q (.mv (.t 6)), none⟩, ⟨some 8, .q (.fa 1 (.t 1)), some (7, false)⟩, ⟨some 9, .q (.ld (.t 8)), some (7, false)⟩, ⟨some 10, .e (.call 22 [(.t 9), (.c (.int .i64 1)), (.c (.int .i64 1001))]), some (7, false)⟩, ⟨some 11, .q (.not (.t 10)), some (7, false)⟩, ⟨some 12, .q (.pick (.t 7) (.c (.bool true)) (.t 11)), none⟩, ⟨some 13, .q (.mv (.t 12)), none⟩, ⟨some 14, .q (.fa 0 (.t 1)), some (13, false)⟩, ⟨some 15, .q (.ld (.t 14)), some (13, false)⟩, ⟨some 16, .q (.fa 1 (.t 1)), some (13, false)⟩, ⟨some 17, .q (.ld (.t 16)), some (13, false)⟩, ⟨some 18, .e (.call 23 [(.t 15), (.t 17)]), some (13, false)⟩, ⟨some 19, .q (.bin .neq (.t 18) (.c (.int .i64 1))), some (13, false)⟩, ⟨some 20, .q (.pick (.t 13) (.c (.bool true)) (.t 19)), none⟩, ⟨some 21, .q (.mv (.t 20)), none⟩, ⟨some 22, .q (.fa 0 (.t 1)), some (21, false)⟩, ⟨some 23, .q (.ld (.t 22)), some (21, false)⟩, ⟨some 24, .q (.fa 1 (.t 1)), some (21, false)⟩, ⟨some 25, .q (.ld (.t 24)), some (21, false)⟩, ⟨some 26, .q (.bin .mul (.c (.int .i64 120)) (.t 25)), some (21, false)⟩, ⟨some 27, .q (.bin .gtr (.t 23) (.t 26)), some (21, false)⟩, ⟨some 28, .q (.pick (.t 21) (.c (.bool true)) (.t 27)), none⟩]
def c10_2 : List SOper := [⟨some 2, .q (.mv (.c (.bool false))), none⟩]
def c10_3 : SCode := .seq (.region c10_2 [2]) .ret
def c10_4 : SCode := .cond (.t 28) c10_3 .skip
def c10_5 : SCode := .seq (.region c10_1 [1, 28]) c10_4
def c10_6 : List SOper := [⟨some 29, .q (.fa 2 (.t 1)), none⟩, ⟨some 30, .q (.ld (.t 29)), none⟩, ⟨some 31, .q (.not (.t 30)), none⟩, ⟨some 32, .q (.mv (.t 31)), none⟩, ⟨some 33, .q (.fa 1 (.t 1)), some (32, false)⟩, ⟨some 34, .q (.ld (.t 33)), some (32, false)⟩, ⟨some 35, .q (.bin .eql (.t 34) (.c (.int .i64 1001))), some (32, false)⟩, ⟨some 36, .q (.mv (.t 35)), some (32, false)⟩, ⟨some 37, .q (.fa 0 (.t 1)), some (36, true)⟩, ⟨some 38, .q (.ld (.t 37)), some (36, true)⟩, ⟨some 39, .q (.bin .eql (.t 38) (.c (.int .i64 30000))), some (36, true)⟩, ⟨some 40, .q (.mv (.t 39)), some (36, true)⟩, ⟨some 41, .q (.fa 0 (.t 1)), some (40, false)⟩, ⟨some 42, .q (.ld (.t 41)), some (40, false)⟩, ⟨some 43, .q (.bin .eql (.t 42) (.c (.int .i64 60000))), some (40, false)⟩, ⟨some 44, .q (.pick (.t 40) (.c (.bool true)) (.t 43)), some (36, true)⟩, ⟨some 45, .q (.pick (.t 36) (.t 44) (.c (.bool false))), some (32, false)⟩, ⟨some 46, .q (.pick (.t 32) (.c (.bool true)) (.t 45)), none⟩, ⟨some 2, .q (.mv (.t 46)), none⟩]
def c10_7 : SCode := .seq (.region c10_6 [2]) .ret
def c10_8 : SCode := .seq c10_5 c10_7
def c10_9 : SCode := .seq (.region c10_0 [1]) c10_8
def c10 : SCode := c10_9
theorem w10 : type_of% (And.intro (uR Tryd.prog c10_0.eq_1) (And.intro (uR Tryd.prog c10_1.eq_1) (And.intro (uR Tryd.prog c10_2.eq_1) (And.intro (uC Tryd.prog c10_3.eq_1) (And.intro (uC Tryd.prog c10_4.eq_1) (And.intro (uC Tryd.prog c10_5.eq_1) (And.intro (uR Tryd.prog c10_6.eq_1) (And.intro (uC Tryd.prog c10_7.eq_1) (And.intro (uC Tryd.prog c10_8.eq_1) (And.intro (uC Tryd.prog c10_9.eq_1) (uC Tryd.prog c10.eq_1))))))))))) := (And.intro (uR Tryd.prog c10_0.eq_1) (And.intro (uR Tryd.prog c10_1.eq_1) (And.intro (uR Tryd.prog c10_2.eq_1) (And.intro (uC Tryd.prog c10_3.eq_1) (And.intro (uC Tryd.prog c10_4.eq_1) (And.intro (uC Tryd.prog c10_5.eq_1) (And.intro (uR Tryd.prog c10_6.eq_1) (And.intro (uC Tryd.prog c10_7.eq_1) (And.intro (uC Tryd.prog c10_8.eq_1) (And.intro (uC Tryd.prog c10_9.eq_1) (uC Tryd.prog c10.eq_1)))))))))))
def v10 : List RV := [.t 2]
theorem s10 : slimF Tryd.prog Tryd.f10 = some (c10.bare, v10) := by kernel_rfl

structure Rate where
  num : Int
  den : Int
  drop : Bool
def encRate (r : Rate) : List Value := [.int .i64 r.num, .int .i64 r.den, .bool r.drop]
theorem gcd_ok (h : Heap) (a b : Nat) (ha : a ≤ 1000000) (hb : b ≤ 1000000) : ACall Tryd.prog 29 [.int .i64 (a : Int), .int .i64 (b : Int)] h fun r h' => h' = h ∧ r = .int .i64 (Nat.gcd a b : Int) := by
  refine ACall.of Tryd.func29 s29 (of_decide_eq_true rfl) ?_
  simp (maxSteps := 4000000) (disch := omega) only [ah, am, Nat.reduceEqDiff, reduceCtorEq, Nat.reduceAdd, Nat.reduceLeDiff, Nat.reduceMul, Nat.reduceLT, if_true, if_false, true_and, and_true, and_self, Nat.reduceBEq, QOp.loads, boxO, bslO, buildO, cutL, fillV, putL, w29, v29]
  refine ⟨fun t E H => ∃ (x y : Nat), H = h ∧ E = [(0, .int .i64 (x : Int)), (1, .int .i64 (y : Int))] ∧ Nat.gcd x y = Nat.gcd a b ∧ x ≤ 1000000 ∧ y ≤ 1000000 ∧ t = y, ⟨b, a, b, rfl, rfl, rfl, ha, hb, rfl⟩, ?_⟩
  rintro t E H ⟨x, y, rfl, rfl, g, hx, hy, rfl⟩
  by_cases c : t = 0
  · have c' : decide ((t : Int) = 0) = true := decide_eq_true (by omega)
    simp (maxSteps := 4000000) (disch := omega) only [ah, am, Nat.reduceEqDiff, reduceCtorEq, Nat.reduceAdd, Nat.reduceLeDiff, Nat.reduceMul, Nat.reduceLT, if_true, if_false, true_and, and_true, and_self, Nat.reduceBEq, QOp.loads, boxO, bslO, buildO, cutL, fillV, putL, w29, v29, c', Bool.not_true]
    rw [← g, c, Nat.gcd_zero_right]
  · have c' : decide ((t : Int) = 0) = false := decide_eq_false (by omega)
    have t0 : (t : Int) ≠ 0 := by omega
    have m1 : ((x : Int)).tmod (t : Int) = ((x % t : Nat) : Int) := by rw [Int.tmod_eq_emod_of_nonneg (by omega)]; rfl
    have hm : x % t < t := Nat.mod_lt _ (by omega)
    simp (maxSteps := 4000000) (disch := omega) only [ah, am, Nat.reduceEqDiff, reduceCtorEq, Nat.reduceAdd, Nat.reduceLeDiff, Nat.reduceMul, Nat.reduceLT, if_true, if_false, true_and, and_true, and_self, Nat.reduceBEq, QOp.loads, boxO, bslO, buildO, cutL, fillV, putL, w29, v29, c', Bool.not_false, t0, ne_eq, not_false_eq_true, m1]
    refine ⟨x % t, hm, t, x % t, rfl, ?_, hy, by omega, rfl⟩
    rw [← g, Nat.gcd_comm x t, Nat.gcd_rec t x, Nat.gcd_comm]
theorem l1Abs_ok (h : Heap) (a : Nat) : ACall Tryd.prog 39 [.int .i64 (a : Int)] h fun r h' => h' = h ∧ r = .int .i64 (a : Int) := by
  refine ACall.of Tryd.func39 s39 (of_decide_eq_true rfl) ?_
  have c : decide ((a : Int) < 0) = false := decide_eq_false (by omega)
  simp (maxSteps := 4000000) (disch := omega) only [ah, am, Nat.reduceEqDiff, reduceCtorEq, Nat.reduceAdd, Nat.reduceLeDiff, Nat.reduceMul, Nat.reduceLT, if_true, if_false, true_and, and_true, and_self, Nat.reduceBEq, QOp.loads, boxO, bslO, buildO, cutL, fillV, putL, w39, v39, c]
theorem l1Gcd_ok (h : Heap) (a b : Nat) (ha : a ≤ 1000000) (hb : b ≤ 1000000) : ACall Tryd.prog 23 [.int .i64 (a : Int), .int .i64 (b : Int)] h fun r h' => h' = h ∧ r = .int .i64 (Nat.gcd a b : Int) := by
  refine ACall.of Tryd.func23 s23 (of_decide_eq_true rfl) ?_
  simp (maxSteps := 4000000) (disch := omega) only [ah, am, Nat.reduceEqDiff, reduceCtorEq, Nat.reduceAdd, Nat.reduceLeDiff, Nat.reduceMul, Nat.reduceLT, if_true, if_false, true_and, and_true, and_self, Nat.reduceBEq, QOp.loads, boxO, bslO, buildO, cutL, fillV, putL, w23, v23]
  refine stepC.of (l1Abs_ok h a) ?_
  rintro _ Hx ⟨hx, rfl⟩; rw [hx]; clear hx Hx
  simp (maxSteps := 4000000) (disch := omega) only [ah, am, Nat.reduceEqDiff, reduceCtorEq, Nat.reduceAdd, Nat.reduceLeDiff, Nat.reduceMul, Nat.reduceLT, if_true, if_false, true_and, and_true, and_self, Nat.reduceBEq, QOp.loads, boxO, bslO, buildO, cutL, fillV, putL, w23, v23]
  refine stepC.of (l1Abs_ok h b) ?_
  rintro _ Hx ⟨hx, rfl⟩; rw [hx]; clear hx Hx
  simp (maxSteps := 4000000) (disch := omega) only [ah, am, Nat.reduceEqDiff, reduceCtorEq, Nat.reduceAdd, Nat.reduceLeDiff, Nat.reduceMul, Nat.reduceLT, if_true, if_false, true_and, and_true, and_self, Nat.reduceBEq, QOp.loads, boxO, bslO, buildO, cutL, fillV, putL, w23, v23]
  refine ⟨fun t E H => ∃ (x y : Nat), H = h ∧ E = [(0, .int .i64 (x : Int)), (1, .int .i64 (y : Int))] ∧ Nat.gcd x y = Nat.gcd a b ∧ x ≤ 1000000 ∧ y ≤ 1000000 ∧ t = y, ⟨b, a, b, rfl, rfl, rfl, ha, hb, rfl⟩, ?_⟩
  rintro t E H ⟨x, y, rfl, rfl, g, hx, hy, rfl⟩
  by_cases c : t = 0
  · have c' : decide ((t : Int) = 0) = true := decide_eq_true (by omega)
    simp (maxSteps := 4000000) (disch := omega) only [ah, am, Nat.reduceEqDiff, reduceCtorEq, Nat.reduceAdd, Nat.reduceLeDiff, Nat.reduceMul, Nat.reduceLT, if_true, if_false, true_and, and_true, and_self, Nat.reduceBEq, QOp.loads, boxO, bslO, buildO, cutL, fillV, putL, w23, v23, c', Bool.not_true]
    rw [← g, c, Nat.gcd_zero_right]
  · have c' : decide ((t : Int) = 0) = false := decide_eq_false (by omega)
    have t0 : (t : Int) ≠ 0 := by omega
    have m1 : ((x : Int)).tmod (t : Int) = ((x % t : Nat) : Int) := by rw [Int.tmod_eq_emod_of_nonneg (by omega)]; rfl
    have hm : x % t < t := Nat.mod_lt _ (by omega)
    simp (maxSteps := 4000000) (disch := omega) only [ah, am, Nat.reduceEqDiff, reduceCtorEq, Nat.reduceAdd, Nat.reduceLeDiff, Nat.reduceMul, Nat.reduceLT, if_true, if_false, true_and, and_true, and_self, Nat.reduceBEq, QOp.loads, boxO, bslO, buildO, cutL, fillV, putL, w23, v23, c', Bool.not_false, t0, ne_eq, not_false_eq_true, m1]
    refine ⟨x % t, hm, t, x % t, rfl, ?_, hy, by omega, rfl⟩
    rw [← g, Nat.gcd_comm x t, Nat.gcd_rec t x, Nat.gcd_comm]
def rateOk (r : Rate) : Prop := (1 ≤ r.num ∧ r.num ≤ 240000) ∧ (1 ≤ r.den ∧ r.den ≤ 1001) ∧ Nat.gcd r.num.toNat r.den.toNat = 1 ∧ r.num ≤ 120 * r.den ∧ (r.drop = true → r.den = 1001 ∧ (r.num = 30000 ∨ r.num = 60000))
instance (r : Rate) : Decidable (rateOk r) := by unfold rateOk; infer_instance
theorem RateOk_ok (h : Heap) (r : Rate) : ACall Tryd.prog 17 [.agg (encRate r).toArray] h fun x h' => Ext h h' ∧ x = .bool (decide (rateOk r)) := by
  have B := Bx.new h (encRate r) []
  have eM := Ext.more h [encRate r]
  have D := B.ld
  simp only [encRate] at D eM
  refine ACall.of Tryd.func17 s17 (of_decide_eq_true rfl) ?_
  simp (maxSteps := 4000000) (disch := omega) only [ah, am, Nat.reduceEqDiff, reduceCtorEq, Nat.reduceAdd, Nat.reduceLeDiff, Nat.reduceMul, Nat.reduceLT, if_true, if_false, true_and, and_true, and_self, Nat.reduceBEq, QOp.loads, boxO, bslO, buildO, cutL, fillV, putL, w17, v17, encRate]
  obtain ⟨K, hK⟩ : ∃ K, K = h.more [[.int .i64 r.num, .int .i64 r.den, .bool r.drop]] := ⟨_, rfl⟩
  rw [← hK] at D eM ⊢
  have no : ¬ rateOk r → Ext h K ∧ Value.bool false = .bool (decide (rateOk r)) := fun q => ⟨eM, by rw [decide_eq_false q]⟩
  refine stepC.of (in_ok K r.num 1 240000) ?_
  rintro _ Hx ⟨hx, rfl⟩; rw [hx]; clear hx Hx
  by_cases c1 : 1 ≤ r.num ∧ r.num ≤ 240000
  rotate_left
  · simp (maxSteps := 4000000) (disch := omega) only [ah, am, Nat.reduceEqDiff, reduceCtorEq, Nat.reduceAdd, Nat.reduceLeDiff, Nat.reduceMul, Nat.reduceLT, if_true, if_false, true_and, and_true, and_self, Nat.reduceBEq, QOp.loads, boxO, bslO, buildO, cutL, fillV, putL, w17, v17, decide_eq_false c1, D]
    exact no fun q => c1 q.1
  simp (maxSteps := 4000000) (disch := omega) only [ah, am, Nat.reduceEqDiff, reduceCtorEq, Nat.reduceAdd, Nat.reduceLeDiff, Nat.reduceMul, Nat.reduceLT, if_true, if_false, true_and, and_true, and_self, Nat.reduceBEq, QOp.loads, boxO, bslO, buildO, cutL, fillV, putL, w17, v17, decide_eq_true c1, D]
  refine stepC.of (in_ok K r.den 1 1001) ?_
  rintro _ Hx ⟨hx, rfl⟩; rw [hx]; clear hx Hx
  by_cases c2 : 1 ≤ r.den ∧ r.den ≤ 1001
  rotate_left
  · simp (maxSteps := 4000000) (disch := omega) only [ah, am, Nat.reduceEqDiff, reduceCtorEq, Nat.reduceAdd, Nat.reduceLeDiff, Nat.reduceMul, Nat.reduceLT, if_true, if_false, true_and, and_true, and_self, Nat.reduceBEq, QOp.loads, boxO, bslO, buildO, cutL, fillV, putL, w17, v17, decide_eq_false c2, D]
    exact no fun q => c2 q.2.1
  have g := gcd_ok K r.num.toNat r.den.toNat (by omega) (by omega)
  rw [show ((r.num.toNat : Nat) : Int) = r.num from by omega, show ((r.den.toNat : Nat) : Int) = r.den from by omega] at g
  simp (maxSteps := 4000000) (disch := omega) only [ah, am, Nat.reduceEqDiff, reduceCtorEq, Nat.reduceAdd, Nat.reduceLeDiff, Nat.reduceMul, Nat.reduceLT, if_true, if_false, true_and, and_true, and_self, Nat.reduceBEq, QOp.loads, boxO, bslO, buildO, cutL, fillV, putL, w17, v17, decide_eq_true c2, D]
  refine stepC.of g ?_
  rintro _ Hx ⟨hx, rfl⟩; rw [hx]; clear hx Hx
  have hg : decide (((Nat.gcd r.num.toNat r.den.toNat : Nat) : Int) = 1) = decide (Nat.gcd r.num.toNat r.den.toNat = 1) := decide_eq_decide.mpr ⟨fun q => by omega, fun q => by omega⟩
  have wm : IntKind.i64.wrap (120 * r.den) = 120 * r.den := i64e rfl (by omega)
  by_cases c3 : Nat.gcd r.num.toNat r.den.toNat = 1
  rotate_left
  · simp (maxSteps := 4000000) (disch := omega) only [ah, am, Nat.reduceEqDiff, reduceCtorEq, Nat.reduceAdd, Nat.reduceLeDiff, Nat.reduceMul, Nat.reduceLT, if_true, if_false, true_and, and_true, and_self, Nat.reduceBEq, QOp.loads, boxO, bslO, buildO, cutL, fillV, putL, w17, v17, hg, decide_eq_false c3, Bool.not_false, D]
    exact no fun q => c3 q.2.2.1
  by_cases c4 : 120 * r.den < r.num
  · simp (maxSteps := 4000000) (disch := omega) only [ah, am, Nat.reduceEqDiff, reduceCtorEq, Nat.reduceAdd, Nat.reduceLeDiff, Nat.reduceMul, Nat.reduceLT, if_true, if_false, true_and, and_true, and_self, Nat.reduceBEq, QOp.loads, boxO, bslO, buildO, cutL, fillV, putL, w17, v17, hg, decide_eq_true c3, Bool.not_true, D, wm, decide_eq_true c4]
    exact no fun q => by have := q.2.2.2.1; omega
  have yes : (r.drop = true → r.den = 1001 ∧ (r.num = 30000 ∨ r.num = 60000)) → Ext h K ∧ Value.bool true = .bool (decide (rateOk r)) := fun q => ⟨eM, by rw [decide_eq_true ⟨c1, c2, c3, by omega, q⟩]⟩
  cases hd : r.drop with
  | false =>
    rw [hd] at D
    simp (maxSteps := 4000000) (disch := omega) only [ah, am, Nat.reduceEqDiff, reduceCtorEq, Nat.reduceAdd, Nat.reduceLeDiff, Nat.reduceMul, Nat.reduceLT, if_true, if_false, true_and, and_true, and_self, Nat.reduceBEq, QOp.loads, boxO, bslO, buildO, cutL, fillV, putL, w17, v17, hg, decide_eq_true c3, Bool.not_true, D, wm, decide_eq_false c4]
    exact yes fun q => by rw [hd] at q; cases q
  | true =>
    rw [hd] at D
    by_cases c5 : r.den = 1001
    rotate_left
    · simp (maxSteps := 4000000) (disch := omega) only [ah, am, Nat.reduceEqDiff, reduceCtorEq, Nat.reduceAdd, Nat.reduceLeDiff, Nat.reduceMul, Nat.reduceLT, if_true, if_false, true_and, and_true, and_self, Nat.reduceBEq, QOp.loads, boxO, bslO, buildO, cutL, fillV, putL, w17, v17, hg, decide_eq_true c3, Bool.not_true, D, wm, decide_eq_false c4, decide_eq_false c5]
      exact no fun q => c5 (q.2.2.2.2 hd).1
    by_cases c6 : r.num = 30000
    · simp (maxSteps := 4000000) (disch := omega) only [ah, am, Nat.reduceEqDiff, reduceCtorEq, Nat.reduceAdd, Nat.reduceLeDiff, Nat.reduceMul, Nat.reduceLT, if_true, if_false, true_and, and_true, and_self, Nat.reduceBEq, QOp.loads, boxO, bslO, buildO, cutL, fillV, putL, w17, v17, hg, decide_eq_true c3, Bool.not_true, D, wm, decide_eq_false c4, decide_eq_true c5, decide_eq_true c6]
      exact yes fun _ => ⟨c5, .inl c6⟩
    by_cases c7 : r.num = 60000
    · simp (maxSteps := 4000000) (disch := omega) only [ah, am, Nat.reduceEqDiff, reduceCtorEq, Nat.reduceAdd, Nat.reduceLeDiff, Nat.reduceMul, Nat.reduceLT, if_true, if_false, true_and, and_true, and_self, Nat.reduceBEq, QOp.loads, boxO, bslO, buildO, cutL, fillV, putL, w17, v17, hg, decide_eq_true c3, Bool.not_true, D, wm, decide_eq_false c4, decide_eq_true c5, decide_eq_false c6, decide_eq_true c7]
      exact yes fun _ => ⟨c5, .inr c7⟩
    · simp (maxSteps := 4000000) (disch := omega) only [ah, am, Nat.reduceEqDiff, reduceCtorEq, Nat.reduceAdd, Nat.reduceLeDiff, Nat.reduceMul, Nat.reduceLT, if_true, if_false, true_and, and_true, and_self, Nat.reduceBEq, QOp.loads, boxO, bslO, buildO, cutL, fillV, putL, w17, v17, hg, decide_eq_true c3, Bool.not_true, D, wm, decide_eq_false c4, decide_eq_true c5, decide_eq_false c6, decide_eq_false c7]
      exact no fun q => by rcases (q.2.2.2.2 hd).2 with q | q <;> omega
theorem specRateOk_ok (h : Heap) (r : Rate) : ACall Tryd.prog 10 [.agg (encRate r).toArray] h fun x h' => Ext h h' ∧ x = .bool (decide (rateOk r)) := by
  have B := Bx.new h (encRate r) []
  have eM := Ext.more h [encRate r]
  have D := B.ld
  simp only [encRate] at D eM
  refine ACall.of Tryd.func10 s10 (of_decide_eq_true rfl) ?_
  simp (maxSteps := 4000000) (disch := omega) only [ah, am, Nat.reduceEqDiff, reduceCtorEq, Nat.reduceAdd, Nat.reduceLeDiff, Nat.reduceMul, Nat.reduceLT, if_true, if_false, true_and, and_true, and_self, Nat.reduceBEq, QOp.loads, boxO, bslO, buildO, cutL, fillV, putL, w10, v10, encRate]
  obtain ⟨K, hK⟩ : ∃ K, K = h.more [[.int .i64 r.num, .int .i64 r.den, .bool r.drop]] := ⟨_, rfl⟩
  rw [← hK] at D eM ⊢
  have no : ¬ rateOk r → Ext h K ∧ Value.bool false = .bool (decide (rateOk r)) := fun q => ⟨eM, by rw [decide_eq_false q]⟩
  refine stepC.of (l1In_ok K r.num 1 240000) ?_
  rintro _ Hx ⟨hx, rfl⟩; rw [hx]; clear hx Hx
  by_cases c1 : 1 ≤ r.num ∧ r.num ≤ 240000
  rotate_left
  · simp (maxSteps := 4000000) (disch := omega) only [ah, am, Nat.reduceEqDiff, reduceCtorEq, Nat.reduceAdd, Nat.reduceLeDiff, Nat.reduceMul, Nat.reduceLT, if_true, if_false, true_and, and_true, and_self, Nat.reduceBEq, QOp.loads, boxO, bslO, buildO, cutL, fillV, putL, w10, v10, decide_eq_false c1, D]
    exact no fun q => c1 q.1
  simp (maxSteps := 4000000) (disch := omega) only [ah, am, Nat.reduceEqDiff, reduceCtorEq, Nat.reduceAdd, Nat.reduceLeDiff, Nat.reduceMul, Nat.reduceLT, if_true, if_false, true_and, and_true, and_self, Nat.reduceBEq, QOp.loads, boxO, bslO, buildO, cutL, fillV, putL, w10, v10, decide_eq_true c1, D]
  refine stepC.of (l1In_ok K r.den 1 1001) ?_
  rintro _ Hx ⟨hx, rfl⟩; rw [hx]; clear hx Hx
  by_cases c2 : 1 ≤ r.den ∧ r.den ≤ 1001
  rotate_left
  · simp (maxSteps := 4000000) (disch := omega) only [ah, am, Nat.reduceEqDiff, reduceCtorEq, Nat.reduceAdd, Nat.reduceLeDiff, Nat.reduceMul, Nat.reduceLT, if_true, if_false, true_and, and_true, and_self, Nat.reduceBEq, QOp.loads, boxO, bslO, buildO, cutL, fillV, putL, w10, v10, decide_eq_false c2, D]
    exact no fun q => c2 q.2.1
  have g := l1Gcd_ok K r.num.toNat r.den.toNat (by omega) (by omega)
  rw [show ((r.num.toNat : Nat) : Int) = r.num from by omega, show ((r.den.toNat : Nat) : Int) = r.den from by omega] at g
  simp (maxSteps := 4000000) (disch := omega) only [ah, am, Nat.reduceEqDiff, reduceCtorEq, Nat.reduceAdd, Nat.reduceLeDiff, Nat.reduceMul, Nat.reduceLT, if_true, if_false, true_and, and_true, and_self, Nat.reduceBEq, QOp.loads, boxO, bslO, buildO, cutL, fillV, putL, w10, v10, decide_eq_true c2, D]
  refine stepC.of g ?_
  rintro _ Hx ⟨hx, rfl⟩; rw [hx]; clear hx Hx
  have hg : decide (((Nat.gcd r.num.toNat r.den.toNat : Nat) : Int) = 1) = decide (Nat.gcd r.num.toNat r.den.toNat = 1) := decide_eq_decide.mpr ⟨fun q => by omega, fun q => by omega⟩
  have wm : IntKind.i64.wrap (120 * r.den) = 120 * r.den := i64e rfl (by omega)
  by_cases c3 : Nat.gcd r.num.toNat r.den.toNat = 1
  rotate_left
  · simp (maxSteps := 4000000) (disch := omega) only [ah, am, Nat.reduceEqDiff, reduceCtorEq, Nat.reduceAdd, Nat.reduceLeDiff, Nat.reduceMul, Nat.reduceLT, if_true, if_false, true_and, and_true, and_self, Nat.reduceBEq, QOp.loads, boxO, bslO, buildO, cutL, fillV, putL, w10, v10, hg, decide_eq_false c3, Bool.not_false, D]
    exact no fun q => c3 q.2.2.1
  by_cases c4 : 120 * r.den < r.num
  · simp (maxSteps := 4000000) (disch := omega) only [ah, am, Nat.reduceEqDiff, reduceCtorEq, Nat.reduceAdd, Nat.reduceLeDiff, Nat.reduceMul, Nat.reduceLT, if_true, if_false, true_and, and_true, and_self, Nat.reduceBEq, QOp.loads, boxO, bslO, buildO, cutL, fillV, putL, w10, v10, hg, decide_eq_true c3, Bool.not_true, D, wm, decide_eq_true c4]
    exact no fun q => by have := q.2.2.2.1; omega
  have yes : (r.drop = true → r.den = 1001 ∧ (r.num = 30000 ∨ r.num = 60000)) → Ext h K ∧ Value.bool true = .bool (decide (rateOk r)) := fun q => ⟨eM, by rw [decide_eq_true ⟨c1, c2, c3, by omega, q⟩]⟩
  cases hd : r.drop with
  | false =>
    rw [hd] at D
    simp (maxSteps := 4000000) (disch := omega) only [ah, am, Nat.reduceEqDiff, reduceCtorEq, Nat.reduceAdd, Nat.reduceLeDiff, Nat.reduceMul, Nat.reduceLT, if_true, if_false, true_and, and_true, and_self, Nat.reduceBEq, QOp.loads, boxO, bslO, buildO, cutL, fillV, putL, w10, v10, hg, decide_eq_true c3, Bool.not_true, D, wm, decide_eq_false c4]
    exact yes fun q => by rw [hd] at q; cases q
  | true =>
    rw [hd] at D
    by_cases c5 : r.den = 1001
    rotate_left
    · simp (maxSteps := 4000000) (disch := omega) only [ah, am, Nat.reduceEqDiff, reduceCtorEq, Nat.reduceAdd, Nat.reduceLeDiff, Nat.reduceMul, Nat.reduceLT, if_true, if_false, true_and, and_true, and_self, Nat.reduceBEq, QOp.loads, boxO, bslO, buildO, cutL, fillV, putL, w10, v10, hg, decide_eq_true c3, Bool.not_true, D, wm, decide_eq_false c4, decide_eq_false c5]
      exact no fun q => c5 (q.2.2.2.2 hd).1
    by_cases c6 : r.num = 30000
    · simp (maxSteps := 4000000) (disch := omega) only [ah, am, Nat.reduceEqDiff, reduceCtorEq, Nat.reduceAdd, Nat.reduceLeDiff, Nat.reduceMul, Nat.reduceLT, if_true, if_false, true_and, and_true, and_self, Nat.reduceBEq, QOp.loads, boxO, bslO, buildO, cutL, fillV, putL, w10, v10, hg, decide_eq_true c3, Bool.not_true, D, wm, decide_eq_false c4, decide_eq_true c5, decide_eq_true c6]
      exact yes fun _ => ⟨c5, .inl c6⟩
    by_cases c7 : r.num = 60000
    · simp (maxSteps := 4000000) (disch := omega) only [ah, am, Nat.reduceEqDiff, reduceCtorEq, Nat.reduceAdd, Nat.reduceLeDiff, Nat.reduceMul, Nat.reduceLT, if_true, if_false, true_and, and_true, and_self, Nat.reduceBEq, QOp.loads, boxO, bslO, buildO, cutL, fillV, putL, w10, v10, hg, decide_eq_true c3, Bool.not_true, D, wm, decide_eq_false c4, decide_eq_true c5, decide_eq_false c6, decide_eq_true c7]
      exact yes fun _ => ⟨c5, .inr c7⟩
    · simp (maxSteps := 4000000) (disch := omega) only [ah, am, Nat.reduceEqDiff, reduceCtorEq, Nat.reduceAdd, Nat.reduceLeDiff, Nat.reduceMul, Nat.reduceLT, if_true, if_false, true_and, and_true, and_self, Nat.reduceBEq, QOp.loads, boxO, bslO, buildO, cutL, fillV, putL, w10, v10, hg, decide_eq_true c3, Bool.not_true, D, wm, decide_eq_false c4, decide_eq_true c5, decide_eq_false c6, decide_eq_false c7]
      exact no fun q => by rcases (q.2.2.2.2 hd).2 with q | q <;> omega
end Go.Proofs.YtgmimgmdbpcecaaDoor
