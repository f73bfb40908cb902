import Derived.Test.YtgmimgmdbpcecaaDoorH1
namespace Go.Proofs.YtgmimgmdbpcecaaDoor
open Go Go.Ah
set_option linter.unusedSimpArgs false
set_option linter.unusedVariables false
set_option maxRecDepth 10000
set_option maxHeartbeats 4000000
/-! 22 loop.example/g00066/spec.l1In: parameters 3, live [0, 1, 2], slots [0:x, 1:lo, 2:hi, 3:x, 4:lo, 5:hi] -/
def c22_0 : List SOper := [⟨some 6, .q (.mv (.c (.bool false))), none⟩]
def c22_1 : List SOper := [⟨some 7, .q (.mv (.t 0)), none⟩, ⟨some 8, .q (.mv (.t 1)), none⟩, ⟨some 9, .q (.bin .geq (.t 7) (.t 8)), none⟩, ⟨some 10, .q (.mv (.t 9)), none⟩, ⟨some 11, .q (.mv (.t 0)), some (10, true)⟩, ⟨some 12, .q (.mv (.t 2)), some (10, true)⟩, ⟨some 13, .q (.bin .leq (.t 11) (.t 12)), some (10, true)⟩, ⟨some 14, .q (.pick (.t 10) (.t 13) (.c (.bool false))), none⟩, ⟨some 6, .q (.mv (.t 14)), none⟩]
def c22_2 : SCode := .seq (.region c22_1 [6]) .ret
def c22_3 : SCode := .seq (.region c22_0 [0, 1, 2]) c22_2
def c22 : SCode := c22_3
theorem w22 : type_of% (And.intro (uR Tryd.prog c22_0.eq_1) (And.intro (uR Tryd.prog c22_1.eq_1) (And.intro (uC Tryd.prog c22_2.eq_1) (And.intro (uC Tryd.prog c22_3.eq_1) (uC Tryd.prog c22.eq_1))))) := (And.intro (uR Tryd.prog c22_0.eq_1) (And.intro (uR Tryd.prog c22_1.eq_1) (And.intro (uC Tryd.prog c22_2.eq_1) (And.intro (uC Tryd.prog c22_3.eq_1) (uC Tryd.prog c22.eq_1)))))
def v22 : List RV := [.t 6]
theorem s22 : slimF Tryd.prog Tryd.f22 = some (c22.bare, v22) := by kernel_rfl
/-! 40 loop.example/g00066/spec.l4Src: parameters 1, live [0], slots [0:s, 1:s] -/
def c40_0 : List SOper := [⟨some 2, .q (.mv (.c (.bool false))), none⟩]
def c40_1 : List SOper := [⟨some 3, .q (.mv (.t 0)), none⟩, ⟨some 4, .e (.call 22 [(.t 3), (.c (.int .i64 1)), (.c (.int .i64 500))]), none⟩, ⟨some 2, .q (.mv (.t 4)), none⟩]
def c40_2 : SCode := .seq (.region c40_1 [2]) .ret
def c40_3 : SCode := .seq (.region c40_0 [0]) c40_2
def c40 : SCode := c40_3
theorem w40 : type_of% (And.intro (uR Tryd.prog c40_0.eq_1) (And.intro (uR Tryd.prog c40_1.eq_1) (And.intro (uC Tryd.prog c40_2.eq_1) (And.intro (uC Tryd.prog c40_3.eq_1) (uC Tryd.prog c40.eq_1))))) := (And.intro (uR Tryd.prog c40_0.eq_1) (And.intro (uR Tryd.prog c40_1.eq_1) (And.intro (uC Tryd.prog c40_2.eq_1) (And.intro (uC Tryd.prog c40_3.eq_1) (uC Tryd.prog c40.eq_1)))))
def v40 : List RV := [.t 2]
theorem s40 : slimF Tryd.prog Tryd.f40 = some (c40.bare, v40) := by kernel_rfl
/-! 24 loop.example/g00066/spec.l4Clip: parameters 1, live [0], slots [0:k, 1:k] -/
def c24_0 : List SOper := [⟨some 1, .a (.box (.t 0)), none⟩, ⟨some 2, .q (.mv (.c (.bool false))), none⟩]
def c24_1 : List SOper := [⟨some 3, .q (.fa 2 (.t 1)), none⟩, ⟨some 4, .q (.ld (.t 3)), none⟩, ⟨some 5, .e (.call 22 [(.t 4), (.c (.int .i64 1)), (.c (.int .i64 10000000))]), none⟩, ⟨some 6, .q (.not (.t 5)), none⟩, ⟨some 7, .q (.mv (.t 6)), none⟩, ⟨some 8, .q (.fa 1 (.t 1)), some (7, false)⟩, ⟨some 9, .q (.ld (.t 8)), some (7, false)⟩, ⟨some 10, .e (.call 22 [(.t 9), (.c (.int .i64 0)), (.c (.int .i64 10000000))]), some (7, false)⟩, ⟨some 11, .q (.not (.t 10)), some (7, false)⟩, ⟨some 12, .q (.pick (.t 7) (.c (.bool true)) (.t 11)), none⟩, ⟨some 13, .q (.mv (.t 12)), none⟩, ⟨some 14, .q (.fa 1 (.t 1)), some (13, false)⟩, ⟨some 15, .q (.ld (.t 14)), some (13, false)⟩, ⟨some 16, .q (.fa 2 (.t 1)), some (13, false)⟩, ⟨some 17, .q (.ld (.t 16)), some (13, false)⟩, ⟨some 18, .q (.bin .add (.t 15) (.t 17)), some (13, false)⟩, ⟨some 19, .q (.bin .gtr (.t 18) (.c (.int .i64 10000000))), some (13, false)⟩, ⟨some 20, .q (.pick (.t 13) (.c (.bool true)) (.t 19)), none⟩]
def c24_2 : List SOper := [⟨some 2, .q (.mv (.c (.bool false))), none⟩]
def c24_3 : SCode := .seq (.region c24_2 [2]) .ret
def c24_4 : SCode := .cond (.t 20) c24_3 .skip
def c24_5 : SCode := .seq (.region c24_1 [1, 20]) c24_4
def c24_6 : List SOper := [⟨some 21, .q (.fa 0 (.t 1)), none⟩, ⟨some 22, .q (.ld (.t 21)), none⟩, ⟨some 23, .e (.call 40 [(.t 22)]), none⟩, ⟨some 24, .q (.mv (.t 23)), none⟩, ⟨some 25, .q (.fa 0 (.t 1)), some (24, false)⟩, ⟨some 26, .q (.ld (.t 25)), some (24, false)⟩, ⟨some 27, .q (.bin .eql (.t 26) (.c (.int .i64 0))), some (24, false)⟩, ⟨some 28, .q (.mv (.t 27)), some (24, false)⟩, ⟨some 29, .q (.fa 1 (.t 1)), some (28, true)⟩, ⟨some 30, .q (.ld (.t 29)), some (28, true)⟩, ⟨some 31, .q (.bin .eql (.t 30) (.c (.int .i64 0))), some (28, true)⟩, ⟨some 32, .q (.pick (.t 28) (.t 31) (.c (.bool false))), some (24, false)⟩, ⟨some 33, .q (.pick (.t 24) (.c (.bool true)) (.t 32)), none⟩, ⟨some 2, .q (.mv (.t 33)), none⟩]
def c24_7 : SCode := .seq (.region c24_6 [2]) .ret
def c24_8 : SCode := .seq c24_5 c24_7
def c24_9 : SCode := .seq (.region c24_0 [1]) c24_8
def c24 : SCode := c24_9
theorem w24 : type_of% (And.intro (uR Tryd.prog c24_0.eq_1) (And.intro (uR Tryd.prog c24_1.eq_1) (And.intro (uR Tryd.prog c24_2.eq_1) (And.intro (uC Tryd.prog c24_3.eq_1) (And.intro (uC Tryd.prog c24_4.eq_1) (And.intro (uC Tryd.prog c24_5.eq_1) (And.intro (uR Tryd.prog c24_6.eq_1) (And.intro (uC Tryd.prog c24_7.eq_1) (And.intro (uC Tryd.prog c24_8.eq_1) (And.intro (uC Tryd.prog c24_9.eq_1) (uC Tryd.prog c24.eq_1))))))))))) := (And.intro (uR Tryd.prog c24_0.eq_1) (And.intro (uR Tryd.prog c24_1.eq_1) (And.intro (uR Tryd.prog c24_2.eq_1) (And.intro (uC Tryd.prog c24_3.eq_1) (And.intro (uC Tryd.prog c24_4.eq_1) (And.intro (uC Tryd.prog c24_5.eq_1) (And.intro (uR Tryd.prog c24_6.eq_1) (And.intro (uC Tryd.prog c24_7.eq_1) (And.intro (uC Tryd.prog c24_8.eq_1) (And.intro (uC Tryd.prog c24_9.eq_1) (uC Tryd.prog c24.eq_1)))))))))))
def v24 : List RV := [.t 2]
theorem s24 : slimF Tryd.prog Tryd.f24 = some (c24.bare, v24) := by kernel_rfl
/-! 11 loop.example/g00066/spec.TrackOk: parameters 1, live [0], slots [0:track, 1:track, 3:n, 4:i] -/
def c11_0 : List SOper := [⟨some 2, .q (.mv (.c (.bool false))), none⟩]
def c11_1 : List SOper := [⟨some 5, .q (.mv (.t 0)), none⟩, ⟨some 6, .q (.len (.t 5)), none⟩, ⟨some 7, .q (.bin .gtr (.t 6) (.c (.int .i64 300))), none⟩]
def c11_2 : List SOper := [⟨some 2, .q (.mv (.c (.bool false))), none⟩]
def c11_3 : SCode := .seq (.region c11_2 [2]) .ret
def c11_4 : SCode := .cond (.t 7) c11_3 .skip
def c11_5 : SCode := .seq (.region c11_1 [0, 7]) c11_4
def c11_6 : List SOper := [⟨some 3, .q (.mv (.c (.int .i64 0))), none⟩]
def c11_7 : List SOper := [⟨some 4, .q (.mv (.c (.int .i64 0))), none⟩]
def c11_8 : List SOper := [⟨some 8, .q (.mv (.t 4)), none⟩, ⟨some 9, .q (.mv (.t 0)), none⟩, ⟨some 10, .q (.len (.t 9)), none⟩, ⟨some 11, .q (.bin .lss (.t 8) (.t 10)), none⟩]
def c11_9 : SCode := .cond (.t 11) .skip (.exit 0)
def c11_10 : SCode := .seq (.region c11_8 [0, 3, 4, 11]) c11_9
def c11_11 : List SOper := [⟨some 14, .q (.mv (.t 0)), none⟩, ⟨some 15, .q (.mv (.t 4)), none⟩, ⟨some 16, .q (.ia 3 (.t 14) (.t 15)), none⟩, ⟨some 17, .q (.ldn 3 (.t 16)), none⟩, ⟨some 18, .e (.call 24 [(.t 17)]), none⟩, ⟨some 19, .q (.not (.t 18)), none⟩]
def c11_12 : List SOper := [⟨some 2, .q (.mv (.c (.bool false))), none⟩]
def c11_13 : SCode := .seq (.region c11_12 [2]) .ret
def c11_14 : SCode := .cond (.t 19) c11_13 .skip
def c11_15 : SCode := .seq (.region c11_11 [0, 3, 4, 19]) c11_14
def c11_16 : List SOper := [⟨some 20, .q (.mv (.t 3)), none⟩, ⟨some 21, .q (.mv (.t 0)), none⟩, ⟨some 22, .q (.mv (.t 4)), none⟩, ⟨some 23, .q (.ia 3 (.t 21) (.t 22)), none⟩, ⟨some 24, .q (.fa 2 (.t 23)), none⟩, ⟨some 25, .q (.ld (.t 24)), none⟩, ⟨some 26, .q (.bin .add (.t 20) (.t 25)), none⟩, ⟨some 3, .q (.mv (.t 26)), none⟩]
def c11_17 : SCode := .seq c11_15 (.region c11_16 [0, 3, 4])
def c11_18 : SCode := .block 1 c11_17
def c11_19 : List SOper := [⟨some 12, .q (.mv (.t 4)), none⟩, ⟨some 13, .q (.bin .add (.t 12) (.c (.int .i64 1))), none⟩, ⟨some 4, .q (.mv (.t 13)), none⟩]
def c11_20 : SCode := .seq c11_18 (.region c11_19 [0, 3, 4])
def c11_21 : SCode := .seq c11_10 c11_20
def c11_22 : SCode := .loop c11_21
def c11_23 : SCode := .block 0 c11_22
def c11_24 : SCode := .seq (.region c11_7 [0, 3, 4]) c11_23
def c11_25 : List SOper := [⟨some 27, .q (.mv (.t 3)), none⟩, ⟨some 28, .q (.bin .leq (.t 27) (.c (.int .i64 10000000))), none⟩, ⟨some 2, .q (.mv (.t 28)), none⟩]
def c11_26 : SCode := .seq (.region c11_25 [2]) .ret
def c11_27 : SCode := .seq c11_24 c11_26
def c11_28 : SCode := .seq (.region c11_6 [0, 3]) c11_27
def c11_29 : SCode := .seq c11_5 c11_28
def c11_30 : SCode := .seq (.region c11_0 [0]) c11_29
def c11 : SCode := c11_30
theorem w11 : type_of% (And.intro (uR Tryd.prog c11_0.eq_1) (And.intro (uR Tryd.prog c11_1.eq_1) (And.intro (uR Tryd.prog c11_2.eq_1) (And.intro (uC Tryd.prog c11_3.eq_1) (And.intro (uC Tryd.prog c11_4.eq_1) (And.intro (uC Tryd.prog c11_5.eq_1) (And.intro (uR Tryd.prog c11_6.eq_1) (And.intro (uR Tryd.prog c11_7.eq_1) (And.intro (uR Tryd.prog c11_8.eq_1) (And.intro (uC Tryd.prog c11_9.eq_1) (And.intro (uC Tryd.prog c11_10.eq_1) (And.intro (uR Tryd.prog c11_11.eq_1) (And.intro (uR Tryd.prog c11_12.eq_1) (And.intro (uC Tryd.prog c11_13.eq_1) (And.intro (uC Tryd.prog c11_14.eq_1) (And.intro (uC Tryd.prog c11_15.eq_1) (And.intro (uR Tryd.prog c11_16.eq_1) (And.intro (uC Tryd.prog c11_17.eq_1) (And.intro (uC Tryd.prog c11_18.eq_1) (And.intro (uR Tryd.prog c11_19.eq_1) (And.intro (uC Tryd.prog c11_20.eq_1) (And.intro (uC Tryd.prog c11_21.eq_1) (And.intro (uC Tryd.prog c11_22.eq_1) (And.intro (uC Tryd.prog c11_23.eq_1) (And.intro (uC Tryd.prog c11_24.eq_1) (And.intro (uR Tryd.prog c11_25.eq_1) (And.intro (uC Tryd.prog c11_26.eq_1) (And.intro (uC Tryd.prog c11_27.eq_1) (And.intro (uC Tryd.prog c11_28.eq_1) (And.intro (uC Tryd.prog c11_29.eq_1) (And.intro (uC Tryd.prog c11_30.eq_1) (uC Tryd.prog c11.eq_1)))))))))))))))))))))))))))))))) := (And.intro (uR Tryd.prog c11_0.eq_1) (And.intro (uR Tryd.prog c11_1.eq_1) (And.intro (uR Tryd.prog c11_2.eq_1) (And.intro (uC Tryd.prog c11_3.eq_1) (And.intro (uC Tryd.prog c11_4.eq_1) (And.intro (uC Tryd.prog c11_5.eq_1) (And.intro (uR Tryd.prog c11_6.eq_1) (And.intro (uR Tryd.prog c11_7.eq_1) (And.intro (uR Tryd.prog c11_8.eq_1) (And.intro (uC Tryd.prog c11_9.eq_1) (And.intro (uC Tryd.prog c11_10.eq_1) (And.intro (uR Tryd.prog c11_11.eq_1) (And.intro (uR Tryd.prog c11_12.eq_1) (And.intro (uC Tryd.prog c11_13.eq_1) (And.intro (uC Tryd.prog c11_14.eq_1) (And.intro (uC Tryd.prog c11_15.eq_1) (And.intro (uR Tryd.prog c11_16.eq_1) (And.intro (uC Tryd.prog c11_17.eq_1) (And.intro (uC Tryd.prog c11_18.eq_1) (And.intro (uR Tryd.prog c11_19.eq_1) (And.intro (uC Tryd.prog c11_20.eq_1) (And.intro (uC Tryd.prog c11_21.eq_1) (And.intro (uC Tryd.prog c11_22.eq_1) (And.intro (uC Tryd.prog c11_23.eq_1) (And.intro (uC Tryd.prog c11_24.eq_1) (And.intro (uR Tryd.prog c11_25.eq_1) (And.intro (uC Tryd.prog c11_26.eq_1) (And.intro (uC Tryd.prog c11_27.eq_1) (And.intro (uC Tryd.prog c11_28.eq_1) (And.intro (uC Tryd.prog c11_29.eq_1) (And.intro (uC Tryd.prog c11_30.eq_1) (uC Tryd.prog c11.eq_1))))))))))))))))))))))))))))))))
def v11 : List RV := [.t 2]
theorem s11 : slimF Tryd.prog Tryd.f11 = some (c11.bare, v11) := by kernel_rfl
/-! 12 loop.example/g00066/spec.l4Join: parameters 1, live [0], slots [0:track, 1:track, 3:out, 4:i, 5:k, 6:n] -/
def c12_0 : List SOper := [⟨some 2, .q (.mv (.c (.slice none 0 0))), none⟩]
def c12_1 : List SOper := [⟨some 7, .a (.bsl 0 3 [] []), none⟩, ⟨some 3, .q (.mv (.t 7)), none⟩]
def c12_2 : List SOper := [⟨some 4, .q (.mv (.c (.int .i64 0))), none⟩]
def c12_3 : List SOper := [⟨some 8, .q (.mv (.t 4)), none⟩, ⟨some 9, .q (.mv (.t 0)), none⟩, ⟨some 10, .q (.len (.t 9)), none⟩, ⟨some 11, .q (.bin .lss (.t 8) (.t 10)), none⟩]
def c12_4 : SCode := .cond (.t 11) .skip (.exit 0)
def c12_5 : SCode := .seq (.region c12_3 [0, 3, 4, 11]) c12_4
def c12_6 : List SOper := [⟨some 14, .q (.mv (.t 0)), none⟩, ⟨some 15, .q (.mv (.t 4)), none⟩, ⟨some 16, .q (.ia 3 (.t 14) (.t 15)), none⟩, ⟨some 17, .q (.ldn 3 (.t 16)), none⟩, ⟨some 5, .a (.new [(.int .i64 0), (.int .i64 0), (.int .i64 0)]), none⟩, ⟨none, .e (.st 3 (.t 5) (.t 17)), none⟩]
def c12_7 : List SOper := [⟨some 18, .q (.mv (.t 3)), none⟩, ⟨some 19, .q (.len (.t 18)), none⟩, ⟨some 6, .q (.mv (.t 19)), none⟩]
def c12_8 : List SOper := [⟨some 20, .q (.mv (.t 6)), none⟩, ⟨some 21, .q (.bin .gtr (.t 20) (.c (.int .i64 0))), none⟩, ⟨some 22, .q (.mv (.t 21)), none⟩, ⟨some 23, .q (.mv (.t 3)), some (22, true)⟩, ⟨some 24, .q (.mv (.t 6)), some (22, true)⟩, ⟨some 25, .q (.bin .sub (.t 24) (.c (.int .i64 1))), some (22, true)⟩, ⟨some 26, .q (.ia 3 (.t 23) (.t 25)), some (22, true)⟩, ⟨some 27, .q (.fa 0 (.t 26)), some (22, true)⟩, ⟨some 28, .q (.ld (.t 27)), some (22, true)⟩, ⟨some 29, .q (.fa 0 (.t 5)), some (22, true)⟩, ⟨some 30, .q (.ld (.t 29)), some (22, true)⟩, ⟨some 31, .q (.bin .eql (.t 28) (.t 30)), some (22, true)⟩, ⟨some 32, .q (.pick (.t 22) (.t 31) (.c (.bool false))), none⟩, ⟨some 33, .q (.mv (.t 32)), none⟩, ⟨some 34, .q (.fa 0 (.t 5)), some (33, true)⟩, ⟨some 35, .q (.ld (.t 34)), some (33, true)⟩, ⟨some 36, .q (.bin .eql (.t 35) (.c (.int .i64 0))), some (33, true)⟩, ⟨some 37, .q (.mv (.t 36)), some (33, true)⟩, ⟨some 38, .q (.mv (.t 3)), some (37, false)⟩, ⟨some 39, .q (.mv (.t 6)), some (37, false)⟩, ⟨some 40, .q (.bin .sub (.t 39) (.c (.int .i64 1))), some (37, false)⟩, ⟨some 41, .q (.ia 3 (.t 38) (.t 40)), some (37, false)⟩, ⟨some 42, .q (.fa 1 (.t 41)), some (37, false)⟩, ⟨some 43, .q (.ld (.t 42)), some (37, false)⟩, ⟨some 44, .q (.mv (.t 3)), some (37, false)⟩, ⟨some 45, .q (.mv (.t 6)), some (37, false)⟩, ⟨some 46, .q (.bin .sub (.t 45) (.c (.int .i64 1))), some (37, false)⟩, ⟨some 47, .q (.ia 3 (.t 44) (.t 46)), some (37, false)⟩, ⟨some 48, .q (.fa 2 (.t 47)), some (37, false)⟩, ⟨some 49, .q (.ld (.t 48)), some (37, false)⟩, ⟨some 50, .q (.bin .add (.t 43) (.t 49)), some (37, false)⟩, ⟨some 51, .q (.fa 1 (.t 5)), some (37, false)⟩, ⟨some 52, .q (.ld (.t 51)), some (37, false)⟩, ⟨some 53, .q (.bin .eql (.t 50) (.t 52)), some (37, false)⟩, ⟨some 54, .q (.pick (.t 37) (.c (.bool true)) (.t 53)), some (33, true)⟩, ⟨some 55, .q (.pick (.t 33) (.t 54) (.c (.bool false))), none⟩]
def c12_9 : List SOper := [⟨some 56, .q (.mv (.t 3)), none⟩, ⟨some 57, .q (.mv (.t 6)), none⟩, ⟨some 58, .q (.bin .sub (.t 57) (.c (.int .i64 1))), none⟩, ⟨some 59, .q (.mv (.t 3)), none⟩, ⟨some 60, .q (.mv (.t 6)), none⟩, ⟨some 61, .q (.bin .sub (.t 60) (.c (.int .i64 1))), none⟩, ⟨some 62, .q (.ia 3 (.t 59) (.t 61)), none⟩, ⟨some 63, .q (.fa 2 (.t 62)), none⟩, ⟨some 64, .q (.ld (.t 63)), none⟩, ⟨some 65, .q (.fa 2 (.t 5)), none⟩, ⟨some 66, .q (.ld (.t 65)), none⟩, ⟨some 67, .q (.bin .add (.t 64) (.t 66)), none⟩, ⟨some 68, .q (.ia 3 (.t 56) (.t 58)), none⟩, ⟨some 69, .q (.fa 2 (.t 68)), none⟩, ⟨none, .e (.st 1 (.t 69) (.t 67)), none⟩]
def c12_10 : List SOper := [⟨some 70, .q (.mv (.t 3)), none⟩, ⟨some 71, .q (.ldn 3 (.t 5)), none⟩, ⟨some 72, .a (.bsl 1 3 [(.int .i64 0), (.int .i64 0), (.int .i64 0)] [(0, 3, (.t 71))]), none⟩, ⟨some 73, .e (.app 24 3 (.t 70) (.t 72)), none⟩, ⟨some 3, .q (.mv (.t 73)), none⟩]
def c12_11 : SCode := .cond (.t 55) (.region c12_9 [0, 3, 4]) (.region c12_10 [0, 3, 4])
def c12_12 : SCode := .seq (.region c12_8 [0, 3, 4, 5, 6, 55]) c12_11
def c12_13 : SCode := .seq (.region c12_7 [0, 3, 4, 5, 6]) c12_12
def c12_14 : SCode := .seq (.region c12_6 [0, 3, 4, 5]) c12_13
def c12_15 : SCode := .block 1 c12_14
def c12_16 : List SOper := [⟨some 12, .q (.mv (.t 4)), none⟩, ⟨some 13, .q (.bin .add (.t 12) (.c (.int .i64 1))), none⟩, ⟨some 4, .q (.mv (.t 13)), none⟩]
def c12_17 : SCode := .seq c12_15 (.region c12_16 [0, 3, 4])
def c12_18 : SCode := .seq c12_5 c12_17
def c12_19 : SCode := .loop c12_18
def c12_20 : SCode := .block 0 c12_19
def c12_21 : SCode := .seq (.region c12_2 [0, 3, 4]) c12_20
def c12_22 : List SOper := [⟨some 74, .q (.mv (.t 3)), none⟩, ⟨some 2, .q (.mv (.t 74)), none⟩]
def c12_23 : SCode := .seq (.region c12_22 [2]) .ret
def c12_24 : SCode := .seq c12_21 c12_23
def c12_25 : SCode := .seq (.region c12_1 [0, 3]) c12_24
def c12_26 : SCode := .seq (.region c12_0 [0]) c12_25
def c12 : SCode := c12_26
theorem w12 : type_of% (And.intro (uR Tryd.prog c12_0.eq_1) (And.intro (uR Tryd.prog c12_1.eq_1) (And.intro (uR Tryd.prog c12_2.eq_1) (And.intro (uR Tryd.prog c12_3.eq_1) (And.intro (uC Tryd.prog c12_4.eq_1) (And.intro (uC Tryd.prog c12_5.eq_1) (And.intro (uR Tryd.prog c12_6.eq_1) (And.intro (uR Tryd.prog c12_7.eq_1) (And.intro (uR Tryd.prog c12_8.eq_1) (And.intro (uR Tryd.prog c12_9.eq_1) (And.intro (uR Tryd.prog c12_10.eq_1) (And.intro (uC Tryd.prog c12_11.eq_1) (And.intro (uC Tryd.prog c12_12.eq_1) (And.intro (uC Tryd.prog c12_13.eq_1) (And.intro (uC Tryd.prog c12_14.eq_1) (And.intro (uC Tryd.prog c12_15.eq_1) (And.intro (uR Tryd.prog c12_16.eq_1) (And.intro (uC Tryd.prog c12_17.eq_1) (And.intro (uC Tryd.prog c12_18.eq_1) (And.intro (uC Tryd.prog c12_19.eq_1) (And.intro (uC Tryd.prog c12_20.eq_1) (And.intro (uC Tryd.prog c12_21.eq_1) (And.intro (uR Tryd.prog c12_22.eq_1) (And.intro (uC Tryd.prog c12_23.eq_1) (And.intro (uC Tryd.prog c12_24.eq_1) (And.intro (uC Tryd.prog c12_25.eq_1) (And.intro (uC Tryd.prog c12_26.eq_1) (uC Tryd.prog c12.eq_1)))))))))))))))))))))))))))) := (And.intro (uR Tryd.prog c12_0.eq_1) (And.intro (uR Tryd.prog c12_1.eq_1) (And.intro (uR Tryd.prog c12_2.eq_1) (And.intro (uR Tryd.prog c12_3.eq_1) (And.intro (uC Tryd.prog c12_4.eq_1) (And.intro (uC Tryd.prog c12_5.eq_1) (And.intro (uR Tryd.prog c12_6.eq_1) (And.intro (uR Tryd.prog c12_7.eq_1) (And.intro (uR Tryd.prog c12_8.eq_1) (And.intro (uR Tryd.prog c12_9.eq_1) (And.intro (uR Tryd.prog c12_10.eq_1) (And.intro (uC Tryd.prog c12_11.eq_1) (And.intro (uC Tryd.prog c12_12.eq_1) (And.intro (uC Tryd.prog c12_13.eq_1) (And.intro (uC Tryd.prog c12_14.eq_1) (And.intro (uC Tryd.prog c12_15.eq_1) (And.intro (uR Tryd.prog c12_16.eq_1) (And.intro (uC Tryd.prog c12_17.eq_1) (And.intro (uC Tryd.prog c12_18.eq_1) (And.intro (uC Tryd.prog c12_19.eq_1) (And.intro (uC Tryd.prog c12_20.eq_1) (And.intro (uC Tryd.prog c12_21.eq_1) (And.intro (uR Tryd.prog c12_22.eq_1) (And.intro (uC Tryd.prog c12_23.eq_1) (And.intro (uC Tryd.prog c12_24.eq_1) (And.intro (uC Tryd.prog c12_25.eq_1) (And.intro (uC Tryd.prog c12_26.eq_1) (uC Tryd.prog c12.eq_1))))))))))))))))))))))))))))
def v12 : List RV := [.t 2]
theorem s12 : slimF Tryd.prog Tryd.f12 = some (c12.bare, v12) := by kernel_rfl

def clipOk (k : Clip) : Prop := 1 ≤ k.len ∧ k.len ≤ 10000000 ∧ 0 ≤ k.inn ∧ k.inn ≤ 10000000 ∧ k.inn + k.len ≤ 10000000 ∧ 0 ≤ k.src ∧ k.src ≤ 500 ∧ (k.src ≠ 0 ∨ k.inn = 0)
instance (k : Clip) : Decidable (clipOk k) := by unfold clipOk; infer_instance
def sumLen (l : List Clip) : Int := (l.map Clip.len).sum
def trackOk (l : List Clip) : Prop := l.length ≤ 300 ∧ (∀ k ∈ l, clipOk k) ∧ sumLen l ≤ 10000000
instance (l : List Clip) : Decidable (trackOk l) := by unfold trackOk; infer_instance
theorem l1In_ok (h : Heap) (x lo hi : Int) : ACall Tryd.prog 22 [.int .i64 x, .int .i64 lo, .int .i64 hi] h fun r h' => h' = h ∧ r = .bool (decide (lo ≤ x ∧ x ≤ hi)) := by
  refine ACall.of Tryd.func22 s22 (of_decide_eq_true rfl) ?_
  simp (maxSteps := 4000000) (disch := omega) only [ah, am, Nat.reduceEqDiff, reduceCtorEq, Nat.reduceAdd, Nat.reduceLeDiff, Nat.reduceMul, Nat.reduceLT, if_true, if_false, true_and, and_true, and_self, Nat.reduceBEq, QOp.loads, boxO, bslO, buildO, cutL, fillV, putL, w22, v22]
  (repeat' first
    | (refine stepG.cases (fun _ hp => ?_) (fun _ hp => ?_) <;> simp (maxSteps := 4000000) (disch := omega) only [hp, ah, am, Nat.reduceEqDiff, reduceCtorEq, Nat.reduceAdd, Nat.reduceLeDiff, Nat.reduceMul, Nat.reduceLT, if_true, if_false, true_and, and_true, and_self, Nat.reduceBEq, QOp.loads, boxO, bslO, buildO, cutL, fillV, putL, i64w, w22, v22])
    | (refine stepI.cases (fun _ hp => ?_) (fun _ hp => ?_) <;> simp (maxSteps := 4000000) (disch := omega) only [hp, ah, am, Nat.reduceEqDiff, reduceCtorEq, Nat.reduceAdd, Nat.reduceLeDiff, Nat.reduceMul, Nat.reduceLT, if_true, if_false, true_and, and_true, and_self, Nat.reduceBEq, QOp.loads, boxO, bslO, buildO, cutL, fillV, putL, i64w, w22, v22]))
  all_goals (refine bool_dec ?_; try simp only [decide_eq_true_eq, Bool.false_eq_true, false_and, and_false, true_and, and_true, false_iff, iff_false, true_iff, iff_true, not_false_eq_true, false_or, or_false, true_or, or_true]; first | done | omega | (refine Iff.intro (fun hq => ?_) (fun hq => ?_) <;> omega))
theorem l4Src_ok (h : Heap) (x : Int) : ACall Tryd.prog 40 [.int .i64 x] h fun r h' => h' = h ∧ r = .bool (decide (1 ≤ x ∧ x ≤ 500)) := by
  refine ACall.of Tryd.func40 s40 (of_decide_eq_true rfl) ?_
  simp (maxSteps := 4000000) (disch := omega) only [ah, am, Nat.reduceEqDiff, reduceCtorEq, Nat.reduceAdd, Nat.reduceLeDiff, Nat.reduceMul, Nat.reduceLT, if_true, if_false, true_and, and_true, and_self, Nat.reduceBEq, QOp.loads, boxO, bslO, buildO, cutL, fillV, putL, w40, v40]
  (repeat' first
    | (refine stepC.of (l1In_ok _ _ _ _) ?_; rintro _ _ ⟨rfl, rfl⟩; simp (maxSteps := 4000000) (disch := omega) only [ah, am, Nat.reduceEqDiff, reduceCtorEq, Nat.reduceAdd, Nat.reduceLeDiff, Nat.reduceMul, Nat.reduceLT, if_true, if_false, true_and, and_true, and_self, Nat.reduceBEq, QOp.loads, boxO, bslO, buildO, cutL, fillV, putL, i64w, w40, v40])
    | (refine stepG.cases (fun _ hp => ?_) (fun _ hp => ?_) <;> simp (maxSteps := 4000000) (disch := omega) only [hp, ah, am, Nat.reduceEqDiff, reduceCtorEq, Nat.reduceAdd, Nat.reduceLeDiff, Nat.reduceMul, Nat.reduceLT, if_true, if_false, true_and, and_true, and_self, Nat.reduceBEq, QOp.loads, boxO, bslO, buildO, cutL, fillV, putL, i64w, w40, v40])
    | (refine stepI.cases (fun _ hp => ?_) (fun _ hp => ?_) <;> simp (maxSteps := 4000000) (disch := omega) only [hp, ah, am, Nat.reduceEqDiff, reduceCtorEq, Nat.reduceAdd, Nat.reduceLeDiff, Nat.reduceMul, Nat.reduceLT, if_true, if_false, true_and, and_true, and_self, Nat.reduceBEq, QOp.loads, boxO, bslO, buildO, cutL, fillV, putL, i64w, w40, v40]))
theorem l4Clip_ok (h : Heap) (k : Clip) : ACall Tryd.prog 24 [.agg (encClip k).toArray] h fun r h' => Ext h h' ∧ r = .bool (decide (clipOk k)) := by
  obtain ⟨a, b, c⟩ := k
  refine ACall.of Tryd.func24 s24 (of_decide_eq_true rfl) ?_
  simp (maxSteps := 4000000) (disch := omega) only [ah, am, Nat.reduceEqDiff, reduceCtorEq, Nat.reduceAdd, Nat.reduceLeDiff, Nat.reduceMul, Nat.reduceLT, if_true, if_false, true_and, and_true, and_self, Nat.reduceBEq, QOp.loads, boxO, bslO, buildO, cutL, fillV, putL, w24, v24, encClip]
  (repeat' first
    | (refine stepC.of (l1In_ok _ _ _ _) ?_; rintro _ _ ⟨rfl, rfl⟩; simp (maxSteps := 4000000) (disch := omega) only [ah, am, Nat.reduceEqDiff, reduceCtorEq, Nat.reduceAdd, Nat.reduceLeDiff, Nat.reduceMul, Nat.reduceLT, if_true, if_false, true_and, and_true, and_self, Nat.reduceBEq, QOp.loads, boxO, bslO, buildO, cutL, fillV, putL, i64w, w24, v24])
    | (refine stepC.of (l4Src_ok _ _) ?_; rintro _ _ ⟨rfl, rfl⟩; simp (maxSteps := 4000000) (disch := omega) only [ah, am, Nat.reduceEqDiff, reduceCtorEq, Nat.reduceAdd, Nat.reduceLeDiff, Nat.reduceMul, Nat.reduceLT, if_true, if_false, true_and, and_true, and_self, Nat.reduceBEq, QOp.loads, boxO, bslO, buildO, cutL, fillV, putL, i64w, w24, v24])
    | (refine stepG.cases (fun _ hp => ?_) (fun _ hp => ?_) <;> simp (maxSteps := 4000000) (disch := omega) only [hp, ah, am, Nat.reduceEqDiff, reduceCtorEq, Nat.reduceAdd, Nat.reduceLeDiff, Nat.reduceMul, Nat.reduceLT, if_true, if_false, true_and, and_true, and_self, Nat.reduceBEq, QOp.loads, boxO, bslO, buildO, cutL, fillV, putL, i64w, w24, v24])
    | (refine stepI.cases (fun _ hp => ?_) (fun _ hp => ?_) <;> simp (maxSteps := 4000000) (disch := omega) only [hp, ah, am, Nat.reduceEqDiff, reduceCtorEq, Nat.reduceAdd, Nat.reduceLeDiff, Nat.reduceMul, Nat.reduceLT, if_true, if_false, true_and, and_true, and_self, Nat.reduceBEq, QOp.loads, boxO, bslO, buildO, cutL, fillV, putL, i64w, w24, v24]))
  all_goals (refine ⟨Ext.more _ _, ?_⟩; refine bool_dec ?_; try simp only [decide_eq_true_eq, Bool.false_eq_true, false_and, and_false, true_and, and_true, false_iff, iff_false, true_iff, iff_true, not_false_eq_true, false_or, or_false, true_or, or_true, clipOk]; first | done | omega | (refine Iff.intro (fun hq => ?_) (fun hq => ?_) <;> omega))
theorem sumLen_nil : sumLen [] = 0 := rfl
theorem sumLen_append (a b : List Clip) : sumLen (a ++ b) = sumLen a + sumLen b := by simp [sumLen]
theorem sumLen_take (l : List Clip) (i : Nat) (hi : i < l.length) : sumLen (l.take (i + 1)) = sumLen (l.take i) + l[i].len := by
  rw [List.take_succ_eq_append_getElem hi, sumLen_append]; simp [sumLen]
theorem sumLen_bound {l : List Clip} (hl : ∀ k ∈ l, clipOk k) : 0 ≤ sumLen l ∧ sumLen l ≤ 10000000 * l.length := by
  induction l with
  | nil => simp [sumLen]
  | cons k l ih =>
    have h1 := hl k (by simp); have h2 := ih (fun k hk => hl k (by simp [hk]))
    simp only [sumLen, List.map_cons, List.sum_cons, List.length_cons, clipOk] at h1 h2 ⊢; omega
theorem all_take {l : List Clip} {i : Nat} (hi : i < l.length) (h : ∀ k ∈ l.take i, clipOk k) (hk : clipOk l[i]) : ∀ k ∈ l.take (i + 1), clipOk k := by
  intro k hm
  rw [List.take_succ_eq_append_getElem hi] at hm
  simp only [List.mem_append, List.mem_singleton] at hm
  rcases hm with hm | rfl
  · exact h k hm
  · exact hk
theorem TrackOk_ok (h : Heap) (v : Value) (l : List Clip) (s : SlT h encClip 3 v l) (hl : l.length ≤ 281474976710656) : ACall Tryd.prog 11 [v] h fun r h' => Ext h h' ∧ r = .bool (decide (trackOk l)) := by
  refine ACall.of Tryd.func11 s11 (of_decide_eq_true rfl) ?_
  have R := s.rulesN
  simp (maxSteps := 4000000) (disch := omega) only [ah, am, Nat.reduceEqDiff, reduceCtorEq, Nat.reduceAdd, Nat.reduceLeDiff, Nat.reduceMul, Nat.reduceLT, if_true, if_false, true_and, and_true, and_self, Nat.reduceBEq, QOp.loads, boxO, bslO, buildO, cutL, fillV, putL, w11, v11, R]
  refine stepI.split (fun hp => ?_) (fun hp => ?_)
  · simp (maxSteps := 4000000) (disch := omega) only [ah, am, Nat.reduceEqDiff, reduceCtorEq, Nat.reduceAdd, Nat.reduceLeDiff, Nat.reduceMul, Nat.reduceLT, if_true, if_false, true_and, and_true, and_self, Nat.reduceBEq, QOp.loads, boxO, bslO, buildO, cutL, fillV, putL, w11, v11, R]
    refine ⟨Ext.refl h, ?_⟩; refine bool_dec ?_; try simp only [decide_eq_true_eq, Bool.false_eq_true, false_and, and_false, true_and, and_true, false_iff, iff_false, true_iff, iff_true, not_false_eq_true, false_or, or_false, true_or, or_true, trackOk]; first | done | omega | (refine Iff.intro (fun hq => ?_) (fun hq => ?_) <;> omega)
  simp (maxSteps := 4000000) (disch := omega) only [ah, am, Nat.reduceEqDiff, reduceCtorEq, Nat.reduceAdd, Nat.reduceLeDiff, Nat.reduceMul, Nat.reduceLT, if_true, if_false, true_and, and_true, and_self, Nat.reduceBEq, QOp.loads, boxO, bslO, buildO, cutL, fillV, putL, w11, v11, R]
  refine SW_loop_up (fun i E H => E = [(0, v), (3, .int .i64 (sumLen (l.take i))), (4, .int .i64 i)] ∧ Ext h H ∧ ∀ k ∈ l.take i, clipOk k) l.length 0 (by omega)
    ⟨by simp [sumLen], Ext.refl h, by simp⟩ ?_
  rintro i E H hi ⟨rfl, e, F⟩
  have R := (s.ext e).rulesN
  have W : IntKind.i64.wrap ((i : Int) + 1) = ((i + 1 : Nat) : Int) := i64e (by omega) (by omega)
  simp (maxSteps := 4000000) (disch := omega) only [ah, am, Nat.reduceEqDiff, reduceCtorEq, Nat.reduceAdd, Nat.reduceLeDiff, Nat.reduceMul, Nat.reduceLT, if_true, if_false, true_and, and_true, and_self, Nat.reduceBEq, QOp.loads, boxO, bslO, buildO, cutL, fillV, putL, w11, v11, R]
  refine stepI.split (fun hp => ?_) (fun hp => ?_)
  · simp (maxSteps := 4000000) (disch := omega) only [ah, am, Nat.reduceEqDiff, reduceCtorEq, Nat.reduceAdd, Nat.reduceLeDiff, Nat.reduceMul, Nat.reduceLT, if_true, if_false, true_and, and_true, and_self, Nat.reduceBEq, QOp.loads, boxO, bslO, buildO, cutL, fillV, putL, w11, v11, R, W]
    refine stepC.of (l4Clip_ok _ _) ?_
    rintro r H1 ⟨e1, rfl⟩
    have R := (s.ext (e.trans e1)).rulesN
    simp (maxSteps := 4000000) (disch := omega) only [ah, am, Nat.reduceEqDiff, reduceCtorEq, Nat.reduceAdd, Nat.reduceLeDiff, Nat.reduceMul, Nat.reduceLT, if_true, if_false, true_and, and_true, and_self, Nat.reduceBEq, QOp.loads, boxO, bslO, buildO, cutL, fillV, putL, w11, v11, R, W]
    refine stepI.split (fun hk => ?_) (fun hk => ?_)
    · have B := sumLen_bound (all_take (by omega) F hk)
      rw [sumLen_take l i (by omega)] at B
      have hlen : (l.take (i + 1)).length ≤ 300 := by simp; omega
      simp (maxSteps := 4000000) (disch := omega) only [ah, am, Nat.reduceEqDiff, reduceCtorEq, Nat.reduceAdd, Nat.reduceLeDiff, Nat.reduceMul, Nat.reduceLT, if_true, if_false, true_and, and_true, and_self, Nat.reduceBEq, QOp.loads, boxO, bslO, buildO, cutL, fillV, putL, w11, v11, R, W, encClip, i64w]
      exact ⟨by omega, by rw [sumLen_take l i (by omega)], e.trans e1, all_take (by omega) F hk⟩
    · simp (maxSteps := 4000000) (disch := omega) only [ah, am, Nat.reduceEqDiff, reduceCtorEq, Nat.reduceAdd, Nat.reduceLeDiff, Nat.reduceMul, Nat.reduceLT, if_true, if_false, true_and, and_true, and_self, Nat.reduceBEq, QOp.loads, boxO, bslO, buildO, cutL, fillV, putL, w11, v11]
      refine ⟨e.trans e1, ?_⟩
      rw [decide_eq_false]; intro ht; exact hk (ht.2.1 _ (List.getElem_mem _))
  · simp (maxSteps := 4000000) (disch := omega) only [ah, am, Nat.reduceEqDiff, reduceCtorEq, Nat.reduceAdd, Nat.reduceLeDiff, Nat.reduceMul, Nat.reduceLT, if_true, if_false, true_and, and_true, and_self, Nat.reduceBEq, QOp.loads, boxO, bslO, buildO, cutL, fillV, putL, w11, v11, R, W]
    obtain rfl : i = l.length := by omega
    rw [List.take_length] at F
    refine ⟨e, ?_⟩
    rw [List.take_length]
    refine bool_dec ?_
    simp only [decide_eq_true_eq, trackOk]
    exact ⟨fun hq => ⟨by omega, F, hq⟩, fun hq => hq.2.2⟩
def joinStep (out : List Clip) (k : Clip) : List Clip :=
  if h : 0 < out.length then
    if (out[out.length - 1]).src = k.src ∧ (k.src = 0 ∨ (out[out.length - 1]).inn + (out[out.length - 1]).len = k.inn) then
      out.set (out.length - 1) ⟨(out[out.length - 1]).src, (out[out.length - 1]).inn, (out[out.length - 1]).len + k.len⟩
    else out ++ [k]
  else out ++ [k]
def join (l : List Clip) : List Clip := l.foldl joinStep []
theorem join_take (l : List Clip) (i : Nat) (hi : i < l.length) : join (l.take (i + 1)) = joinStep (join (l.take i)) l[i] := by
  rw [List.take_succ_eq_append_getElem hi, join, List.foldl_append]; rfl
theorem joinStep_length (out : List Clip) (k : Clip) : (joinStep out k).length ≤ out.length + 1 := by
  unfold joinStep; split
  · split <;> simp
  · simp
theorem join_length (l : List Clip) : (join l).length ≤ l.length := by
  have : ∀ (l out : List Clip), (l.foldl joinStep out).length ≤ out.length + l.length := by
    intro l; induction l with
    | nil => intro out; simp
    | cons k l ih => intro out; have h1 := joinStep_length out k; have h2 := ih (joinStep out k); simp only [List.foldl_cons, List.length_cons]; omega
  simpa [join] using this l []
def clipIn (B : Int) (k : Clip) : Prop := 0 ≤ k.inn ∧ k.inn ≤ 10000000 ∧ 0 ≤ k.len ∧ k.len ≤ B
theorem joinStep_in {out : List Clip} {k : Clip} {B : Int} (ho : ∀ a ∈ out, clipIn B a) (hB : 0 ≤ B) (hk : clipIn 10000000 k) : ∀ a ∈ joinStep out k, clipIn (B + 10000000) a := by
  have h1 : ∀ a ∈ out ++ [k], clipIn (B + 10000000) a := by
    intro a ha
    simp only [List.mem_append, List.mem_singleton] at ha
    rcases ha with ha | rfl
    · have := ho a ha; simp only [clipIn] at this ⊢; omega
    · simp only [clipIn] at hk ⊢; omega
  unfold joinStep; split
  · split
    · intro a ha
      rcases List.mem_or_eq_of_mem_set ha with ha | rfl
      · exact h1 a (by simp [ha])
      · have := ho _ (List.getElem_mem (l := out) (n := out.length - 1) (by omega)); simp only [clipIn] at this hk ⊢; omega
    · exact h1
  · exact h1
theorem join_in {l : List Clip} (hl : ∀ k ∈ l, clipIn 10000000 k) : ∀ a ∈ join l, clipIn (10000000 * l.length) a := by
  have : ∀ (l : List Clip), (∀ k ∈ l, clipIn 10000000 k) → ∀ (out : List Clip) (B : Int), 0 ≤ B → (∀ a ∈ out, clipIn B a) → ∀ a ∈ l.foldl joinStep out, clipIn (B + 10000000 * l.length) a := by
    intro l; induction l with
    | nil => intro _ out B hB ho a ha; have := ho a ha; simpa using this
    | cons k l ih =>
      intro hl out B hB ho a ha
      have := ih (fun k hk => hl k (by simp [hk])) (joinStep out k) (B + 10000000) (by omega) (joinStep_in ho hB (hl k (by simp))) a ha
      simp only [clipIn, List.length_cons] at this ⊢; omega
  intro a ha
  simpa using this l hl [] 0 (by omega) (by simp) a ha
theorem clipOk.in {k : Clip} (h : clipOk k) : clipIn 10000000 k := by simp only [clipOk, clipIn] at *; omega
theorem l4Join_ok (h : Heap) (v : Value) (l : List Clip) (s : SlT h encClip 3 v l) (hl : l.length ≤ 1100000) (ho : ∀ k ∈ l, clipIn 10000000 k) : ACall Tryd.prog 12 [v] h fun r h' => Fresh h h' encClip 3 r (join l) := by
  refine ACall.of Tryd.func12 s12 (of_decide_eq_true rfl) ?_
  simp (maxSteps := 4000000) (disch := omega) only [ah, am, Nat.reduceEqDiff, reduceCtorEq, Nat.reduceAdd, Nat.reduceLeDiff, Nat.reduceMul, Nat.reduceLT, if_true, if_false, true_and, and_true, and_self, Nat.reduceBEq, QOp.loads, boxO, bslO, buildO, cutL, fillV, putL, w12, v12]
  refine SW_loop_up (fun i E H => ∃ ov, E = [(0, v), (3, ov), (4, .int .i64 i)] ∧ Fresh h H encClip 3 ov (join (l.take i))) l.length 0 (by omega) ⟨_, rfl, Fresh.new0 h encClip_len (by omega)⟩ ?_
  rintro i E H hi ⟨ov, rfl, F⟩
  have R := (s.ext F.1).rulesN
  have W : IntKind.i64.wrap ((i : Int) + 1) = ((i + 1 : Nat) : Int) := i64e (by omega) (by omega)
  simp (maxSteps := 4000000) (disch := omega) only [ah, am, Nat.reduceEqDiff, reduceCtorEq, Nat.reduceAdd, Nat.reduceLeDiff, Nat.reduceMul, Nat.reduceLT, if_true, if_false, true_and, and_true, and_self, Nat.reduceBEq, QOp.loads, boxO, bslO, buildO, cutL, fillV, putL, w12, v12, R]
  refine stepI.split (fun hp => ?_) (fun hp => ?_)
  · have hi' : i < l.length := by omega
    have J := join_take l i hi'
    have F' := F.ext (Ext.more H [encClip l[i]])
    have R' := F'.slt.rules
    have L := join_length (l.take i)
    rw [List.length_take] at L
    have B := join_in (l := l.take i) (fun k hk => ho k (List.mem_of_mem_take hk))
    have Bk := ho _ (List.getElem_mem hi')
    generalize join (l.take i) = out at *
    have T : ((out.length : Int) - 1).toNat = out.length - 1 := by omega
    simp only [encClip] at R'
    simp (maxSteps := 4000000) (disch := omega) only [ah, am, Nat.reduceEqDiff, reduceCtorEq, Nat.reduceAdd, Nat.reduceLeDiff, Nat.reduceMul, Nat.reduceLT, if_true, if_false, true_and, and_true, and_self, Nat.reduceBEq, QOp.loads, boxO, bslO, buildO, cutL, fillV, putL, w12, v12, R, R', W, encClip]
    obtain ⟨v2, H2, ea, F2⟩ := F'.app1 l[i] (bytes := 24) (by omega)
    simp only [more_more, size_more, List.cons_append, List.nil_append, List.length_cons, List.length_nil, Nat.zero_add, encClip] at ea
    by_cases hn : 0 < out.length
    · have Bo := B _ (List.getElem_mem (l := out) (n := out.length - 1) (by omega))
      simp only [clipIn, List.length_take] at Bo Bk
      obtain ⟨H3, es, F3, -⟩ := F'.setF (j := out.length - 1) (f := 2) (n := 1) (by omega) (x := ⟨(out[out.length - 1]).src, (out[out.length - 1]).inn, (out[out.length - 1]).len + l[i].len⟩)
        (y := .int .i64 ((out[out.length - 1]).len + l[i].len)) (by simp [encClip, splice, cells_int]) (by omega) rfl (by omega) rfl
      simp only [encClip] at es
      (repeat' first
    | (refine stepG.cases (fun _ hp => ?_) (fun _ hp => ?_) <;> simp (maxSteps := 4000000) (disch := omega) only [hp, ah, am, Nat.reduceEqDiff, reduceCtorEq, Nat.reduceAdd, Nat.reduceLeDiff, Nat.reduceMul, Nat.reduceLT, if_true, if_false, true_and, and_true, and_self, Nat.reduceBEq, QOp.loads, boxO, bslO, buildO, cutL, fillV, putL, i64w, w12, v12, R, R', W, encClip, T, es, ea])
    | (refine stepI.cases (fun _ hp => ?_) (fun _ hp => ?_) <;> simp (maxSteps := 4000000) (disch := omega) only [hp, ah, am, Nat.reduceEqDiff, reduceCtorEq, Nat.reduceAdd, Nat.reduceLeDiff, Nat.reduceMul, Nat.reduceLT, if_true, if_false, true_and, and_true, and_self, Nat.reduceBEq, QOp.loads, boxO, bslO, buildO, cutL, fillV, putL, i64w, w12, v12, R, R', W, encClip, T, es, ea]))
      all_goals first
        | (refine ⟨by omega, _, rfl, ?_⟩; rw [J, joinStep, dif_pos hn, if_pos (by omega)]; exact F3)
        | (refine ⟨by omega, _, rfl, ?_⟩; rw [J, joinStep, dif_pos hn, if_neg (by omega)]; exact F2)
        | omega
    · (repeat' first
    | (refine stepG.cases (fun _ hp => ?_) (fun _ hp => ?_) <;> simp (maxSteps := 4000000) (disch := omega) only [hp, ah, am, Nat.reduceEqDiff, reduceCtorEq, Nat.reduceAdd, Nat.reduceLeDiff, Nat.reduceMul, Nat.reduceLT, if_true, if_false, true_and, and_true, and_self, Nat.reduceBEq, QOp.loads, boxO, bslO, buildO, cutL, fillV, putL, i64w, w12, v12, R, R', W, encClip, T, ea])
    | (refine stepI.cases (fun _ hp => ?_) (fun _ hp => ?_) <;> simp (maxSteps := 4000000) (disch := omega) only [hp, ah, am, Nat.reduceEqDiff, reduceCtorEq, Nat.reduceAdd, Nat.reduceLeDiff, Nat.reduceMul, Nat.reduceLT, if_true, if_false, true_and, and_true, and_self, Nat.reduceBEq, QOp.loads, boxO, bslO, buildO, cutL, fillV, putL, i64w, w12, v12, R, R', W, encClip, T, ea]))
      all_goals first
        | (refine ⟨by omega, _, rfl, ?_⟩; rw [J, joinStep, dif_neg hn]; exact F2)
        | omega
  · simp (maxSteps := 4000000) (disch := omega) only [ah, am, Nat.reduceEqDiff, reduceCtorEq, Nat.reduceAdd, Nat.reduceLeDiff, Nat.reduceMul, Nat.reduceLT, if_true, if_false, true_and, and_true, and_self, Nat.reduceBEq, QOp.loads, boxO, bslO, buildO, cutL, fillV, putL, w12, v12, R, W]
    obtain rfl : i = l.length := by omega
    rw [List.take_length] at F
    exact F
end Go.Proofs.YtgmimgmdbpcecaaDoor
