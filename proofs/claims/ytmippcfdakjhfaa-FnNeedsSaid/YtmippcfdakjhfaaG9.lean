import Derived.Test.YtmippcfdakjhfaaG8
namespace Go.Proofs.Ytmippcfdakjhfaa
open Go Go.Ah
set_option linter.unusedSimpArgs false
set_option linter.unusedVariables false
set_option maxRecDepth 10000
set_option maxHeartbeats 4000000
/-! 54 slices.Clone[[]loop.example/g00066/impl.Reel,loop.example/g00066/impl.Reel]: parameters 1, live [0], slots [0:s, 1:s] -/
def c54_0 : List SOper := [⟨some 2, .q (.mv (.c (.slice none 0 0))), none⟩]
def c54_1 : List SOper := [⟨some 3, .q (.mv (.t 0)), none⟩, ⟨some 4, .q (.eqs false (.t 3) (.c (.slice none 0 0))), none⟩]
def c54_2 : List SOper := [⟨some 2, .q (.mv (.c (.slice none 0 0))), none⟩]
def c54_3 : SCode := .seq (.region c54_2 [2]) .ret
def c54_4 : SCode := .cond (.t 4) c54_3 .skip
def c54_5 : SCode := .seq (.region c54_1 [0, 4]) c54_4
def c54_6 : List SOper := [⟨some 5, .a (.bsl 0 3 [] []), none⟩, ⟨some 6, .q (.mv (.t 0)), none⟩, ⟨some 7, .e (.app 24 3 (.t 5) (.t 6)), none⟩, ⟨some 2, .q (.mv (.t 7)), none⟩]
def c54_7 : SCode := .seq (.region c54_6 [2]) .ret
def c54_8 : SCode := .seq c54_5 c54_7
def c54_9 : SCode := .seq (.region c54_0 [0]) c54_8
def c54 : SCode := c54_9
theorem w54 : type_of% (And.intro (uR Try.prog c54_0.eq_1) (And.intro (uR Try.prog c54_1.eq_1) (And.intro (uR Try.prog c54_2.eq_1) (And.intro (uC Try.prog c54_3.eq_1) (And.intro (uC Try.prog c54_4.eq_1) (And.intro (uC Try.prog c54_5.eq_1) (And.intro (uR Try.prog c54_6.eq_1) (And.intro (uC Try.prog c54_7.eq_1) (And.intro (uC Try.prog c54_8.eq_1) (And.intro (uC Try.prog c54_9.eq_1) (uC Try.prog c54.eq_1))))))))))) := (And.intro (uR Try.prog c54_0.eq_1) (And.intro (uR Try.prog c54_1.eq_1) (And.intro (uR Try.prog c54_2.eq_1) (And.intro (uC Try.prog c54_3.eq_1) (And.intro (uC Try.prog c54_4.eq_1) (And.intro (uC Try.prog c54_5.eq_1) (And.intro (uR Try.prog c54_6.eq_1) (And.intro (uC Try.prog c54_7.eq_1) (And.intro (uC Try.prog c54_8.eq_1) (And.intro (uC Try.prog c54_9.eq_1) (uC Try.prog c54.eq_1)))))))))))
def v54 : List RV := [.t 2]
theorem s54 : slimF Try.prog Try.f54 = some (c54.bare, v54) := by kernel_rfl
/-! 32 loop.example/g00066/impl.told: parameters 1, live [0], slots [0:list, 1:list, 3:sorted, 4:out, 5:_, 6:r, 7:n] -/
def c32_0 : List SOper := [⟨some 2, .q (.mv (.c (.slice none 0 0))), none⟩]
def c32_1 : List SOper := [⟨some 8, .q (.mv (.t 0)), none⟩, ⟨some 9, .e (.call 54 [(.t 8)]), none⟩, ⟨some 3, .q (.mv (.t 9)), none⟩]
def c32_2 : List SOper := [⟨some 10, .q (.mv (.t 3)), none⟩, ⟨some 11, .e (.call 55 [(.t 10), (.f 56)]), none⟩]
def c32_3 : List SOper := [⟨some 12, .a (.bsl 0 3 [] []), none⟩, ⟨some 4, .q (.mv (.t 12)), none⟩]
def c32_4 : List SOper := [⟨some 13, .q (.mv (.t 3)), none⟩, ⟨some 14, .q (.len (.t 13)), none⟩, ⟨some 15, .q (.mv (.c (.int .i64 0))), none⟩]
def c32_5 : List SOper := [⟨some 16, .q (.bin .lss (.t 15) (.t 14)), none⟩]
def c32_6 : SCode := .cond (.t 16) .skip (.exit 0)
def c32_7 : List SOper := [⟨some 17, .q (.ia 3 (.t 13) (.t 15)), none⟩, ⟨some 18, .q (.ldn 3 (.t 17)), none⟩, ⟨some 6, .a (.new [(.int .i64 0), (.int .i64 0), (.int .i64 0)]), none⟩, ⟨none, .e (.st 3 (.t 6) (.t 18)), none⟩]
def c32_8 : List SOper := [⟨some 19, .q (.mv (.t 4)), none⟩, ⟨some 20, .q (.len (.t 19)), none⟩, ⟨some 7, .q (.mv (.t 20)), none⟩]
def c32_9 : List SOper := [⟨some 21, .q (.mv (.t 7)), none⟩, ⟨some 22, .q (.bin .gtr (.t 21) (.c (.int .i64 0))), none⟩, ⟨some 23, .q (.mv (.t 22)), none⟩, ⟨some 24, .q (.mv (.t 4)), some (23, true)⟩, ⟨some 25, .q (.mv (.t 7)), some (23, true)⟩, ⟨some 26, .q (.bin .sub (.t 25) (.c (.int .i64 1))), some (23, true)⟩, ⟨some 27, .q (.ia 3 (.t 24) (.t 26)), some (23, true)⟩, ⟨some 28, .q (.fa 0 (.t 27)), some (23, true)⟩, ⟨some 29, .q (.ld (.t 28)), some (23, true)⟩, ⟨some 30, .q (.fa 0 (.t 6)), some (23, true)⟩, ⟨some 31, .q (.ld (.t 30)), some (23, true)⟩, ⟨some 32, .q (.bin .eql (.t 29) (.t 31)), some (23, true)⟩, ⟨some 33, .q (.pick (.t 23) (.t 32) (.c (.bool false))), none⟩, ⟨some 34, .q (.mv (.t 33)), none⟩, ⟨some 35, .q (.fa 1 (.t 6)), some (34, true)⟩, ⟨some 36, .q (.ld (.t 35)), some (34, true)⟩, ⟨some 37, .q (.mv (.t 4)), some (34, true)⟩, ⟨some 38, .q (.mv (.t 7)), some (34, true)⟩, ⟨some 39, .q (.bin .sub (.t 38) (.c (.int .i64 1))), some (34, true)⟩, ⟨some 40, .q (.ia 3 (.t 37) (.t 39)), some (34, true)⟩, ⟨some 41, .q (.fa 2 (.t 40)), some (34, true)⟩, ⟨some 42, .q (.ld (.t 41)), some (34, true)⟩, ⟨some 43, .q (.bin .leq (.t 36) (.t 42)), some (34, true)⟩, ⟨some 44, .q (.pick (.t 34) (.t 43) (.c (.bool false))), none⟩]
def c32_10 : List SOper := [⟨some 45, .q (.mv (.t 4)), none⟩, ⟨some 46, .q (.mv (.t 7)), none⟩, ⟨some 47, .q (.bin .sub (.t 46) (.c (.int .i64 1))), none⟩, ⟨some 48, .q (.mv (.t 4)), none⟩, ⟨some 49, .q (.mv (.t 7)), none⟩, ⟨some 50, .q (.bin .sub (.t 49) (.c (.int .i64 1))), none⟩, ⟨some 51, .q (.ia 3 (.t 48) (.t 50)), none⟩, ⟨some 52, .q (.fa 2 (.t 51)), none⟩, ⟨some 53, .q (.ld (.t 52)), none⟩, ⟨some 54, .q (.fa 2 (.t 6)), none⟩, ⟨some 55, .q (.ld (.t 54)), none⟩, ⟨some 56, .q (.mx (.t 53) (.t 55)), none⟩, ⟨some 57, .q (.ia 3 (.t 45) (.t 47)), none⟩, ⟨some 58, .q (.fa 2 (.t 57)), none⟩, ⟨none, .e (.st 1 (.t 58) (.t 56)), none⟩]
def c32_11 : SCode := .seq (.region c32_10 [4, 13, 14, 15]) (.exit 1)
def c32_12 : SCode := .cond (.t 44) c32_11 .skip
def c32_13 : SCode := .seq (.region c32_9 [4, 6, 7, 13, 14, 15, 44]) c32_12
def c32_14 : SCode := .seq (.region c32_8 [4, 6, 7, 13, 14, 15]) c32_13
def c32_15 : List SOper := [⟨some 59, .q (.mv (.t 4)), none⟩, ⟨some 60, .q (.ldn 3 (.t 6)), none⟩, ⟨some 61, .a (.bsl 1 3 [(.int .i64 0), (.int .i64 0), (.int .i64 0)] [(0, 3, (.t 60))]), none⟩, ⟨some 62, .e (.app 24 3 (.t 59) (.t 61)), none⟩, ⟨some 4, .q (.mv (.t 62)), none⟩]
def c32_16 : SCode := .seq c32_14 (.region c32_15 [4, 13, 14, 15])
def c32_17 : SCode := .seq (.region c32_7 [4, 6, 13, 14, 15]) c32_16
def c32_18 : SCode := .block 1 c32_17
def c32_19 : List SOper := [⟨some 63, .q (.bin .add (.t 15) (.c (.int .i64 1))), none⟩, ⟨some 15, .q (.mv (.t 63)), none⟩]
def c32_20 : SCode := .seq c32_18 (.region c32_19 [4, 13, 14, 15])
def c32_21 : SCode := .seq c32_6 c32_20
def c32_22 : SCode := .seq (.region c32_5 [4, 13, 14, 15, 16]) c32_21
def c32_23 : SCode := .loop c32_22
def c32_24 : SCode := .block 0 c32_23
def c32_25 : SCode := .seq (.region c32_4 [4, 13, 14, 15]) c32_24
def c32_26 : List SOper := [⟨some 64, .q (.mv (.t 4)), none⟩, ⟨some 2, .q (.mv (.t 64)), none⟩]
def c32_27 : SCode := .seq (.region c32_26 [2]) .ret
def c32_28 : SCode := .seq c32_25 c32_27
def c32_29 : SCode := .seq (.region c32_3 [3, 4]) c32_28
def c32_30 : SCode := .seq (.region c32_2 [3]) c32_29
def c32_31 : SCode := .seq (.region c32_1 [3]) c32_30
def c32_32 : SCode := .seq (.region c32_0 [0]) c32_31
def c32 : SCode := c32_32
theorem w32 : type_of% (And.intro (uR Try.prog c32_0.eq_1) (And.intro (uR Try.prog c32_1.eq_1) (And.intro (uR Try.prog c32_2.eq_1) (And.intro (uR Try.prog c32_3.eq_1) (And.intro (uR Try.prog c32_4.eq_1) (And.intro (uR Try.prog c32_5.eq_1) (And.intro (uC Try.prog c32_6.eq_1) (And.intro (uR Try.prog c32_7.eq_1) (And.intro (uR Try.prog c32_8.eq_1) (And.intro (uR Try.prog c32_9.eq_1) (And.intro (uR Try.prog c32_10.eq_1) (And.intro (uC Try.prog c32_11.eq_1) (And.intro (uC Try.prog c32_12.eq_1) (And.intro (uC Try.prog c32_13.eq_1) (And.intro (uC Try.prog c32_14.eq_1) (And.intro (uR Try.prog c32_15.eq_1) (And.intro (uC Try.prog c32_16.eq_1) (And.intro (uC Try.prog c32_17.eq_1) (And.intro (uC Try.prog c32_18.eq_1) (And.intro (uR Try.prog c32_19.eq_1) (And.intro (uC Try.prog c32_20.eq_1) (And.intro (uC Try.prog c32_21.eq_1) (And.intro (uC Try.prog c32_22.eq_1) (And.intro (uC Try.prog c32_23.eq_1) (And.intro (uC Try.prog c32_24.eq_1) (And.intro (uC Try.prog c32_25.eq_1) (And.intro (uR Try.prog c32_26.eq_1) (And.intro (uC Try.prog c32_27.eq_1) (And.intro (uC Try.prog c32_28.eq_1) (And.intro (uC Try.prog c32_29.eq_1) (And.intro (uC Try.prog c32_30.eq_1) (And.intro (uC Try.prog c32_31.eq_1) (And.intro (uC Try.prog c32_32.eq_1) (uC Try.prog c32.eq_1)))))))))))))))))))))))))))))))))) := (And.intro (uR Try.prog c32_0.eq_1) (And.intro (uR Try.prog c32_1.eq_1) (And.intro (uR Try.prog c32_2.eq_1) (And.intro (uR Try.prog c32_3.eq_1) (And.intro (uR Try.prog c32_4.eq_1) (And.intro (uR Try.prog c32_5.eq_1) (And.intro (uC Try.prog c32_6.eq_1) (And.intro (uR Try.prog c32_7.eq_1) (And.intro (uR Try.prog c32_8.eq_1) (And.intro (uR Try.prog c32_9.eq_1) (And.intro (uR Try.prog c32_10.eq_1) (And.intro (uC Try.prog c32_11.eq_1) (And.intro (uC Try.prog c32_12.eq_1) (And.intro (uC Try.prog c32_13.eq_1) (And.intro (uC Try.prog c32_14.eq_1) (And.intro (uR Try.prog c32_15.eq_1) (And.intro (uC Try.prog c32_16.eq_1) (And.intro (uC Try.prog c32_17.eq_1) (And.intro (uC Try.prog c32_18.eq_1) (And.intro (uR Try.prog c32_19.eq_1) (And.intro (uC Try.prog c32_20.eq_1) (And.intro (uC Try.prog c32_21.eq_1) (And.intro (uC Try.prog c32_22.eq_1) (And.intro (uC Try.prog c32_23.eq_1) (And.intro (uC Try.prog c32_24.eq_1) (And.intro (uC Try.prog c32_25.eq_1) (And.intro (uR Try.prog c32_26.eq_1) (And.intro (uC Try.prog c32_27.eq_1) (And.intro (uC Try.prog c32_28.eq_1) (And.intro (uC Try.prog c32_29.eq_1) (And.intro (uC Try.prog c32_30.eq_1) (And.intro (uC Try.prog c32_31.eq_1) (And.intro (uC Try.prog c32_32.eq_1) (uC Try.prog c32.eq_1))))))))))))))))))))))))))))))))))
def v32 : List RV := [.t 2]
theorem s32 : slimF Try.prog Try.f32 = some (c32.bare, v32) := by kernel_rfl
/-! 31 loop.example/g00066/spec.l7Tell: parameters 1, live [0], slots [0:list, 1:list, 3:in, 4:i, 5:at, 6:out, 7:i, 8:n] -/
def c31_0 : List SOper := [⟨some 2, .q (.mv (.c (.slice none 0 0))), none⟩]
def c31_1 : List SOper := [⟨some 9, .a (.bsl 0 3 [] []), none⟩, ⟨some 3, .q (.mv (.t 9)), none⟩]
def c31_2 : List SOper := [⟨some 4, .q (.mv (.c (.int .i64 0))), none⟩]
def c31_3 : List SOper := [⟨some 10, .q (.mv (.t 4)), none⟩, ⟨some 11, .q (.mv (.t 0)), none⟩, ⟨some 12, .q (.len (.t 11)), none⟩, ⟨some 13, .q (.bin .lss (.t 10) (.t 12)), none⟩]
def c31_4 : SCode := .cond (.t 13) .skip (.exit 0)
def c31_5 : SCode := .seq (.region c31_3 [0, 3, 4, 13]) c31_4
def c31_6 : List SOper := [⟨some 16, .q (.mv (.t 3)), none⟩, ⟨some 17, .q (.len (.t 16)), none⟩, ⟨some 5, .q (.mv (.t 17)), none⟩]
def c31_7 : List SOper := [⟨some 18, .q (.mv (.t 3)), none⟩, ⟨some 19, .q (.mv (.t 0)), none⟩, ⟨some 20, .q (.mv (.t 4)), none⟩, ⟨some 21, .q (.ia 3 (.t 19) (.t 20)), none⟩, ⟨some 22, .q (.ldn 3 (.t 21)), none⟩, ⟨some 23, .a (.bsl 1 3 [(.int .i64 0), (.int .i64 0), (.int .i64 0)] [(0, 3, (.t 22))]), none⟩, ⟨some 24, .e (.app 24 3 (.t 18) (.t 23)), none⟩, ⟨some 3, .q (.mv (.t 24)), none⟩]
def c31_8 : List SOper := [⟨some 25, .q (.mv (.t 5)), none⟩, ⟨some 26, .q (.bin .gtr (.t 25) (.c (.int .i64 0))), none⟩, ⟨some 27, .q (.mv (.t 26)), none⟩, ⟨some 28, .q (.mv (.t 3)), some (27, true)⟩, ⟨some 29, .q (.mv (.t 5)), some (27, true)⟩, ⟨some 30, .q (.bin .sub (.t 29) (.c (.int .i64 1))), some (27, true)⟩, ⟨some 31, .q (.ia 3 (.t 28) (.t 30)), some (27, true)⟩, ⟨some 32, .q (.fa 0 (.t 31)), some (27, true)⟩, ⟨some 33, .q (.ld (.t 32)), some (27, true)⟩, ⟨some 34, .q (.mv (.t 0)), some (27, true)⟩, ⟨some 35, .q (.mv (.t 4)), some (27, true)⟩, ⟨some 36, .q (.ia 3 (.t 34) (.t 35)), some (27, true)⟩, ⟨some 37, .q (.fa 0 (.t 36)), some (27, true)⟩, ⟨some 38, .q (.ld (.t 37)), some (27, true)⟩, ⟨some 39, .q (.bin .gtr (.t 33) (.t 38)), some (27, true)⟩, ⟨some 40, .q (.mv (.t 39)), some (27, true)⟩, ⟨some 41, .q (.mv (.t 3)), some (40, false)⟩, ⟨some 42, .q (.mv (.t 5)), some (40, false)⟩, ⟨some 43, .q (.bin .sub (.t 42) (.c (.int .i64 1))), some (40, false)⟩, ⟨some 44, .q (.ia 3 (.t 41) (.t 43)), some (40, false)⟩, ⟨some 45, .q (.fa 0 (.t 44)), some (40, false)⟩, ⟨some 46, .q (.ld (.t 45)), some (40, false)⟩, ⟨some 47, .q (.mv (.t 0)), some (40, false)⟩, ⟨some 48, .q (.mv (.t 4)), some (40, false)⟩, ⟨some 49, .q (.ia 3 (.t 47) (.t 48)), some (40, false)⟩, ⟨some 50, .q (.fa 0 (.t 49)), some (40, false)⟩, ⟨some 51, .q (.ld (.t 50)), some (40, false)⟩, ⟨some 52, .q (.bin .eql (.t 46) (.t 51)), some (40, false)⟩, ⟨some 53, .q (.mv (.t 52)), some (40, false)⟩, ⟨some 54, .q (.mv (.t 3)), some (53, true)⟩, ⟨some 55, .q (.mv (.t 5)), some (53, true)⟩, ⟨some 56, .q (.bin .sub (.t 55) (.c (.int .i64 1))), some (53, true)⟩, ⟨some 57, .q (.ia 3 (.t 54) (.t 56)), some (53, true)⟩, ⟨some 58, .q (.fa 1 (.t 57)), some (53, true)⟩, ⟨some 59, .q (.ld (.t 58)), some (53, true)⟩, ⟨some 60, .q (.mv (.t 0)), some (53, true)⟩, ⟨some 61, .q (.mv (.t 4)), some (53, true)⟩, ⟨some 62, .q (.ia 3 (.t 60) (.t 61)), some (53, true)⟩, ⟨some 63, .q (.fa 1 (.t 62)), some (53, true)⟩, ⟨some 64, .q (.ld (.t 63)), some (53, true)⟩, ⟨some 65, .q (.bin .gtr (.t 59) (.t 64)), some (53, true)⟩, ⟨some 66, .q (.pick (.t 53) (.t 65) (.c (.bool false))), some (40, false)⟩, ⟨some 67, .q (.pick (.t 40) (.c (.bool true)) (.t 66)), some (27, true)⟩, ⟨some 68, .q (.pick (.t 27) (.t 67) (.c (.bool false))), none⟩]
def c31_9 : SCode := .cond (.t 68) .skip (.exit 2)
def c31_10 : SCode := .seq (.region c31_8 [0, 3, 4, 5, 68]) c31_9
def c31_11 : List SOper := [⟨some 69, .q (.mv (.t 3)), none⟩, ⟨some 70, .q (.mv (.t 5)), none⟩, ⟨some 71, .q (.mv (.t 3)), none⟩, ⟨some 72, .q (.mv (.t 5)), none⟩, ⟨some 73, .q (.bin .sub (.t 72) (.c (.int .i64 1))), none⟩, ⟨some 74, .q (.ia 3 (.t 71) (.t 73)), none⟩, ⟨some 75, .q (.ldn 3 (.t 74)), none⟩, ⟨some 76, .q (.ia 3 (.t 69) (.t 70)), none⟩, ⟨none, .e (.st 3 (.t 76) (.t 75)), none⟩]
def c31_12 : List SOper := [⟨some 77, .q (.mv (.t 5)), none⟩, ⟨some 78, .q (.bin .sub (.t 77) (.c (.int .i64 1))), none⟩, ⟨some 5, .q (.mv (.t 78)), none⟩]
def c31_13 : SCode := .seq (.region c31_11 [0, 3, 4, 5]) (.region c31_12 [0, 3, 4, 5])
def c31_14 : SCode := .block 3 c31_13
def c31_15 : SCode := .seq c31_10 c31_14
def c31_16 : SCode := .loop c31_15
def c31_17 : SCode := .block 2 c31_16
def c31_18 : List SOper := [⟨some 79, .q (.mv (.t 3)), none⟩, ⟨some 80, .q (.mv (.t 5)), none⟩, ⟨some 81, .q (.mv (.t 0)), none⟩, ⟨some 82, .q (.mv (.t 4)), none⟩, ⟨some 83, .q (.ia 3 (.t 81) (.t 82)), none⟩, ⟨some 84, .q (.ldn 3 (.t 83)), none⟩, ⟨some 85, .q (.ia 3 (.t 79) (.t 80)), none⟩, ⟨none, .e (.st 3 (.t 85) (.t 84)), none⟩]
def c31_19 : SCode := .seq c31_17 (.region c31_18 [0, 3, 4])
def c31_20 : SCode := .seq (.region c31_7 [0, 3, 4, 5]) c31_19
def c31_21 : SCode := .seq (.region c31_6 [0, 3, 4, 5]) c31_20
def c31_22 : SCode := .block 1 c31_21
def c31_23 : List SOper := [⟨some 14, .q (.mv (.t 4)), none⟩, ⟨some 15, .q (.bin .add (.t 14) (.c (.int .i64 1))), none⟩, ⟨some 4, .q (.mv (.t 15)), none⟩]
def c31_24 : SCode := .seq c31_22 (.region c31_23 [0, 3, 4])
def c31_25 : SCode := .seq c31_5 c31_24
def c31_26 : SCode := .loop c31_25
def c31_27 : SCode := .block 0 c31_26
def c31_28 : SCode := .seq (.region c31_2 [0, 3, 4]) c31_27
def c31_29 : List SOper := [⟨some 86, .a (.bsl 0 3 [] []), none⟩, ⟨some 6, .q (.mv (.t 86)), none⟩]
def c31_30 : List SOper := [⟨some 7, .q (.mv (.c (.int .i64 0))), none⟩]
def c31_31 : List SOper := [⟨some 87, .q (.mv (.t 7)), none⟩, ⟨some 88, .q (.mv (.t 3)), none⟩, ⟨some 89, .q (.len (.t 88)), none⟩, ⟨some 90, .q (.bin .lss (.t 87) (.t 89)), none⟩]
def c31_32 : SCode := .cond (.t 90) .skip (.exit 4)
def c31_33 : SCode := .seq (.region c31_31 [3, 6, 7, 90]) c31_32
def c31_34 : List SOper := [⟨some 93, .q (.mv (.t 6)), none⟩, ⟨some 94, .q (.len (.t 93)), none⟩, ⟨some 8, .q (.mv (.t 94)), none⟩]
def c31_35 : List SOper := [⟨some 95, .q (.mv (.t 8)), none⟩, ⟨some 96, .q (.bin .gtr (.t 95) (.c (.int .i64 0))), none⟩, ⟨some 97, .q (.mv (.t 96)), none⟩, ⟨some 98, .q (.mv (.t 6)), some (97, true)⟩, ⟨some 99, .q (.mv (.t 8)), some (97, true)⟩, ⟨some 100, .q (.bin .sub (.t 99) (.c (.int .i64 1))), some (97, true)⟩, ⟨some 101, .q (.ia 3 (.t 98) (.t 100)), some (97, true)⟩, ⟨some 102, .q (.fa 0 (.t 101)), some (97, true)⟩, ⟨some 103, .q (.ld (.t 102)), some (97, true)⟩, ⟨some 104, .q (.mv (.t 3)), some (97, true)⟩, ⟨some 105, .q (.mv (.t 7)), some (97, true)⟩, ⟨some 106, .q (.ia 3 (.t 104) (.t 105)), some (97, true)⟩, ⟨some 107, .q (.fa 0 (.t 106)), some (97, true)⟩, ⟨some 108, .q (.ld (.t 107)), some (97, true)⟩, ⟨some 109, .q (.bin .eql (.t 103) (.t 108)), some (97, true)⟩, ⟨some 110, .q (.pick (.t 97) (.t 109) (.c (.bool false))), none⟩, ⟨some 111, .q (.mv (.t 110)), none⟩, ⟨some 112, .q (.mv (.t 3)), some (111, true)⟩, ⟨some 113, .q (.mv (.t 7)), some (111, true)⟩, ⟨some 114, .q (.ia 3 (.t 112) (.t 113)), some (111, true)⟩, ⟨some 115, .q (.fa 1 (.t 114)), some (111, true)⟩, ⟨some 116, .q (.ld (.t 115)), some (111, true)⟩, ⟨some 117, .q (.mv (.t 6)), some (111, true)⟩, ⟨some 118, .q (.mv (.t 8)), some (111, true)⟩, ⟨some 119, .q (.bin .sub (.t 118) (.c (.int .i64 1))), some (111, true)⟩, ⟨some 120, .q (.ia 3 (.t 117) (.t 119)), some (111, true)⟩, ⟨some 121, .q (.fa 2 (.t 120)), some (111, true)⟩, ⟨some 122, .q (.ld (.t 121)), some (111, true)⟩, ⟨some 123, .q (.bin .leq (.t 116) (.t 122)), some (111, true)⟩, ⟨some 124, .q (.pick (.t 111) (.t 123) (.c (.bool false))), none⟩]
def c31_36 : List SOper := [⟨some 125, .q (.mv (.t 6)), none⟩, ⟨some 126, .q (.mv (.t 8)), none⟩, ⟨some 127, .q (.bin .sub (.t 126) (.c (.int .i64 1))), none⟩, ⟨some 128, .q (.mv (.t 6)), none⟩, ⟨some 129, .q (.mv (.t 8)), none⟩, ⟨some 130, .q (.bin .sub (.t 129) (.c (.int .i64 1))), none⟩, ⟨some 131, .q (.ia 3 (.t 128) (.t 130)), none⟩, ⟨some 132, .q (.fa 2 (.t 131)), none⟩, ⟨some 133, .q (.ld (.t 132)), none⟩, ⟨some 134, .q (.mv (.t 3)), none⟩, ⟨some 135, .q (.mv (.t 7)), none⟩, ⟨some 136, .q (.ia 3 (.t 134) (.t 135)), none⟩, ⟨some 137, .q (.fa 2 (.t 136)), none⟩, ⟨some 138, .q (.ld (.t 137)), none⟩, ⟨some 139, .e (.call 44 [(.t 133), (.t 138)]), none⟩, ⟨some 140, .q (.ia 3 (.t 125) (.t 127)), none⟩, ⟨some 141, .q (.fa 2 (.t 140)), none⟩, ⟨none, .e (.st 1 (.t 141) (.t 139)), none⟩]
def c31_37 : List SOper := [⟨some 142, .q (.mv (.t 6)), none⟩, ⟨some 143, .q (.mv (.t 3)), none⟩, ⟨some 144, .q (.mv (.t 7)), none⟩, ⟨some 145, .q (.ia 3 (.t 143) (.t 144)), none⟩, ⟨some 146, .q (.ldn 3 (.t 145)), none⟩, ⟨some 147, .a (.bsl 1 3 [(.int .i64 0), (.int .i64 0), (.int .i64 0)] [(0, 3, (.t 146))]), none⟩, ⟨some 148, .e (.app 24 3 (.t 142) (.t 147)), none⟩, ⟨some 6, .q (.mv (.t 148)), none⟩]
def c31_38 : SCode := .cond (.t 124) (.region c31_36 [3, 6, 7]) (.region c31_37 [3, 6, 7])
def c31_39 : SCode := .seq (.region c31_35 [3, 6, 7, 8, 124]) c31_38
def c31_40 : SCode := .seq (.region c31_34 [3, 6, 7, 8]) c31_39
def c31_41 : SCode := .block 5 c31_40
def c31_42 : List SOper := [⟨some 91, .q (.mv (.t 7)), none⟩, ⟨some 92, .q (.bin .add (.t 91) (.c (.int .i64 1))), none⟩, ⟨some 7, .q (.mv (.t 92)), none⟩]
def c31_43 : SCode := .seq c31_41 (.region c31_42 [3, 6, 7])
def c31_44 : SCode := .seq c31_33 c31_43
def c31_45 : SCode := .loop c31_44
def c31_46 : SCode := .block 4 c31_45
def c31_47 : SCode := .seq (.region c31_30 [3, 6, 7]) c31_46
def c31_48 : List SOper := [⟨some 149, .q (.mv (.t 6)), none⟩, ⟨some 2, .q (.mv (.t 149)), none⟩]
def c31_49 : SCode := .seq (.region c31_48 [2]) .ret
def c31_50 : SCode := .seq c31_47 c31_49
def c31_51 : SCode := .seq (.region c31_29 [3, 6]) c31_50
def c31_52 : SCode := .seq c31_28 c31_51
def c31_53 : SCode := .seq (.region c31_1 [0, 3]) c31_52
def c31_54 : SCode := .seq (.region c31_0 [0]) c31_53
def c31 : SCode := c31_54
theorem w31 : type_of% (And.intro (uR Try.prog c31_0.eq_1) (And.intro (uR Try.prog c31_1.eq_1) (And.intro (uR Try.prog c31_2.eq_1) (And.intro (uR Try.prog c31_3.eq_1) (And.intro (uC Try.prog c31_4.eq_1) (And.intro (uC Try.prog c31_5.eq_1) (And.intro (uR Try.prog c31_6.eq_1) (And.intro (uR Try.prog c31_7.eq_1) (And.intro (uR Try.prog c31_8.eq_1) (And.intro (uC Try.prog c31_9.eq_1) (And.intro (uC Try.prog c31_10.eq_1) (And.intro (uR Try.prog c31_11.eq_1) (And.intro (uR Try.prog c31_12.eq_1) (And.intro (uC Try.prog c31_13.eq_1) (And.intro (uC Try.prog c31_14.eq_1) (And.intro (uC Try.prog c31_15.eq_1) (And.intro (uC Try.prog c31_16.eq_1) (And.intro (uC Try.prog c31_17.eq_1) (And.intro (uR Try.prog c31_18.eq_1) (And.intro (uC Try.prog c31_19.eq_1) (And.intro (uC Try.prog c31_20.eq_1) (And.intro (uC Try.prog c31_21.eq_1) (And.intro (uC Try.prog c31_22.eq_1) (And.intro (uR Try.prog c31_23.eq_1) (And.intro (uC Try.prog c31_24.eq_1) (And.intro (uC Try.prog c31_25.eq_1) (And.intro (uC Try.prog c31_26.eq_1) (And.intro (uC Try.prog c31_27.eq_1) (And.intro (uC Try.prog c31_28.eq_1) (And.intro (uR Try.prog c31_29.eq_1) (And.intro (uR Try.prog c31_30.eq_1) (And.intro (uR Try.prog c31_31.eq_1) (And.intro (uC Try.prog c31_32.eq_1) (And.intro (uC Try.prog c31_33.eq_1) (And.intro (uR Try.prog c31_34.eq_1) (And.intro (uR Try.prog c31_35.eq_1) (And.intro (uR Try.prog c31_36.eq_1) (And.intro (uR Try.prog c31_37.eq_1) (And.intro (uC Try.prog c31_38.eq_1) (And.intro (uC Try.prog c31_39.eq_1) (And.intro (uC Try.prog c31_40.eq_1) (And.intro (uC Try.prog c31_41.eq_1) (And.intro (uR Try.prog c31_42.eq_1) (And.intro (uC Try.prog c31_43.eq_1) (And.intro (uC Try.prog c31_44.eq_1) (And.intro (uC Try.prog c31_45.eq_1) (And.intro (uC Try.prog c31_46.eq_1) (And.intro (uC Try.prog c31_47.eq_1) (And.intro (uR Try.prog c31_48.eq_1) (And.intro (uC Try.prog c31_49.eq_1) (And.intro (uC Try.prog c31_50.eq_1) (And.intro (uC Try.prog c31_51.eq_1) (And.intro (uC Try.prog c31_52.eq_1) (And.intro (uC Try.prog c31_53.eq_1) (And.intro (uC Try.prog c31_54.eq_1) (uC Try.prog c31.eq_1)))))))))))))))))))))))))))))))))))))))))))))))))))))))) := (And.intro (uR Try.prog c31_0.eq_1) (And.intro (uR Try.prog c31_1.eq_1) (And.intro (uR Try.prog c31_2.eq_1) (And.intro (uR Try.prog c31_3.eq_1) (And.intro (uC Try.prog c31_4.eq_1) (And.intro (uC Try.prog c31_5.eq_1) (And.intro (uR Try.prog c31_6.eq_1) (And.intro (uR Try.prog c31_7.eq_1) (And.intro (uR Try.prog c31_8.eq_1) (And.intro (uC Try.prog c31_9.eq_1) (And.intro (uC Try.prog c31_10.eq_1) (And.intro (uR Try.prog c31_11.eq_1) (And.intro (uR Try.prog c31_12.eq_1) (And.intro (uC Try.prog c31_13.eq_1) (And.intro (uC Try.prog c31_14.eq_1) (And.intro (uC Try.prog c31_15.eq_1) (And.intro (uC Try.prog c31_16.eq_1) (And.intro (uC Try.prog c31_17.eq_1) (And.intro (uR Try.prog c31_18.eq_1) (And.intro (uC Try.prog c31_19.eq_1) (And.intro (uC Try.prog c31_20.eq_1) (And.intro (uC Try.prog c31_21.eq_1) (And.intro (uC Try.prog c31_22.eq_1) (And.intro (uR Try.prog c31_23.eq_1) (And.intro (uC Try.prog c31_24.eq_1) (And.intro (uC Try.prog c31_25.eq_1) (And.intro (uC Try.prog c31_26.eq_1) (And.intro (uC Try.prog c31_27.eq_1) (And.intro (uC Try.prog c31_28.eq_1) (And.intro (uR Try.prog c31_29.eq_1) (And.intro (uR Try.prog c31_30.eq_1) (And.intro (uR Try.prog c31_31.eq_1) (And.intro (uC Try.prog c31_32.eq_1) (And.intro (uC Try.prog c31_33.eq_1) (And.intro (uR Try.prog c31_34.eq_1) (And.intro (uR Try.prog c31_35.eq_1) (And.intro (uR Try.prog c31_36.eq_1) (And.intro (uR Try.prog c31_37.eq_1) (And.intro (uC Try.prog c31_38.eq_1) (And.intro (uC Try.prog c31_39.eq_1) (And.intro (uC Try.prog c31_40.eq_1) (And.intro (uC Try.prog c31_41.eq_1) (And.intro (uR Try.prog c31_42.eq_1) (And.intro (uC Try.prog c31_43.eq_1) (And.intro (uC Try.prog c31_44.eq_1) (And.intro (uC Try.prog c31_45.eq_1) (And.intro (uC Try.prog c31_46.eq_1) (And.intro (uC Try.prog c31_47.eq_1) (And.intro (uR Try.prog c31_48.eq_1) (And.intro (uC Try.prog c31_49.eq_1) (And.intro (uC Try.prog c31_50.eq_1) (And.intro (uC Try.prog c31_51.eq_1) (And.intro (uC Try.prog c31_52.eq_1) (And.intro (uC Try.prog c31_53.eq_1) (And.intro (uC Try.prog c31_54.eq_1) (uC Try.prog c31.eq_1))))))))))))))))))))))))))))))))))))))))))))))))))))))))
def v31 : List RV := [.t 2]
theorem s31 : slimF Try.prog Try.f31 = some (c31.bare, v31) := by kernel_rfl
/-! 44 loop.example/g00066/spec.l1Max: parameters 2, live [0, 1], slots [0:a, 1:b, 2:a, 3:b] -/
def c44_0 : List SOper := [⟨some 4, .q (.mv (.c (.int .i64 0))), none⟩]
def c44_1 : List SOper := [⟨some 5, .q (.mv (.t 0)), none⟩, ⟨some 6, .q (.mv (.t 1)), none⟩, ⟨some 7, .q (.bin .gtr (.t 5) (.t 6)), none⟩]
def c44_2 : List SOper := [⟨some 8, .q (.mv (.t 0)), none⟩, ⟨some 4, .q (.mv (.t 8)), none⟩]
def c44_3 : SCode := .seq (.region c44_2 [4]) .ret
def c44_4 : SCode := .cond (.t 7) c44_3 .skip
def c44_5 : SCode := .seq (.region c44_1 [0, 1, 7]) c44_4
def c44_6 : List SOper := [⟨some 9, .q (.mv (.t 1)), none⟩, ⟨some 4, .q (.mv (.t 9)), none⟩]
def c44_7 : SCode := .seq (.region c44_6 [4]) .ret
def c44_8 : SCode := .seq c44_5 c44_7
def c44_9 : SCode := .seq (.region c44_0 [0, 1]) c44_8
def c44 : SCode := c44_9
theorem w44 : type_of% (And.intro (uR Try.prog c44_0.eq_1) (And.intro (uR Try.prog c44_1.eq_1) (And.intro (uR Try.prog c44_2.eq_1) (And.intro (uC Try.prog c44_3.eq_1) (And.intro (uC Try.prog c44_4.eq_1) (And.intro (uC Try.prog c44_5.eq_1) (And.intro (uR Try.prog c44_6.eq_1) (And.intro (uC Try.prog c44_7.eq_1) (And.intro (uC Try.prog c44_8.eq_1) (And.intro (uC Try.prog c44_9.eq_1) (uC Try.prog c44.eq_1))))))))))) := (And.intro (uR Try.prog c44_0.eq_1) (And.intro (uR Try.prog c44_1.eq_1) (And.intro (uR Try.prog c44_2.eq_1) (And.intro (uC Try.prog c44_3.eq_1) (And.intro (uC Try.prog c44_4.eq_1) (And.intro (uC Try.prog c44_5.eq_1) (And.intro (uR Try.prog c44_6.eq_1) (And.intro (uC Try.prog c44_7.eq_1) (And.intro (uC Try.prog c44_8.eq_1) (And.intro (uC Try.prog c44_9.eq_1) (uC Try.prog c44.eq_1)))))))))))
def v44 : List RV := [.t 4]
theorem s44 : slimF Try.prog Try.f44 = some (c44.bare, v44) := by kernel_rfl
/-! 45 loop.example/g00066/spec.l1Min: parameters 2, live [0, 1], slots [0:a, 1:b, 2:a, 3:b] -/
def c45_0 : List SOper := [⟨some 4, .q (.mv (.c (.int .i64 0))), none⟩]
def c45_1 : List SOper := [⟨some 5, .q (.mv (.t 0)), none⟩, ⟨some 6, .q (.mv (.t 1)), none⟩, ⟨some 7, .q (.bin .lss (.t 5) (.t 6)), none⟩]
def c45_2 : List SOper := [⟨some 8, .q (.mv (.t 0)), none⟩, ⟨some 4, .q (.mv (.t 8)), none⟩]
def c45_3 : SCode := .seq (.region c45_2 [4]) .ret
def c45_4 : SCode := .cond (.t 7) c45_3 .skip
def c45_5 : SCode := .seq (.region c45_1 [0, 1, 7]) c45_4
def c45_6 : List SOper := [⟨some 9, .q (.mv (.t 1)), none⟩, ⟨some 4, .q (.mv (.t 9)), none⟩]
def c45_7 : SCode := .seq (.region c45_6 [4]) .ret
def c45_8 : SCode := .seq c45_5 c45_7
def c45_9 : SCode := .seq (.region c45_0 [0, 1]) c45_8
def c45 : SCode := c45_9
theorem w45 : type_of% (And.intro (uR Try.prog c45_0.eq_1) (And.intro (uR Try.prog c45_1.eq_1) (And.intro (uR Try.prog c45_2.eq_1) (And.intro (uC Try.prog c45_3.eq_1) (And.intro (uC Try.prog c45_4.eq_1) (And.intro (uC Try.prog c45_5.eq_1) (And.intro (uR Try.prog c45_6.eq_1) (And.intro (uC Try.prog c45_7.eq_1) (And.intro (uC Try.prog c45_8.eq_1) (And.intro (uC Try.prog c45_9.eq_1) (uC Try.prog c45.eq_1))))))))))) := (And.intro (uR Try.prog c45_0.eq_1) (And.intro (uR Try.prog c45_1.eq_1) (And.intro (uR Try.prog c45_2.eq_1) (And.intro (uC Try.prog c45_3.eq_1) (And.intro (uC Try.prog c45_4.eq_1) (And.intro (uC Try.prog c45_5.eq_1) (And.intro (uR Try.prog c45_6.eq_1) (And.intro (uC Try.prog c45_7.eq_1) (And.intro (uC Try.prog c45_8.eq_1) (And.intro (uC Try.prog c45_9.eq_1) (uC Try.prog c45.eq_1)))))))))))
def v45 : List RV := [.t 4]
theorem s45 : slimF Try.prog Try.f45 = some (c45.bare, v45) := by kernel_rfl

theorem CloneR_ok (h : Heap) (v : Value) (l : List Reel) (s : SlT h encReel 3 v l) (hl : l.length ≤ 1100000) : ACall Try.prog 54 [v] h fun r h' => Fresh h h' encReel 3 r l := by
  refine ACall.of Try.func54 s54 (of_decide_eq_true rfl) ?_
  obtain ⟨b, eb, hb⟩ := s.eqs
  simp (maxSteps := 4000000) (disch := omega) only [ah, am, Nat.reduceEqDiff, reduceCtorEq, Nat.reduceAdd, Nat.reduceLeDiff, Nat.reduceMul, Nat.reduceLT, if_true, if_false, true_and, and_true, and_self, Nat.reduceBEq, QOp.loads, boxO, bslO, buildO, cutL, fillV, putL, w54, v54, eb]
  refine stepI.splitB (fun hk => ?_) (fun hk => ?_)
  · simp (maxSteps := 4000000) (disch := omega) only [ah, am, Nat.reduceEqDiff, reduceCtorEq, Nat.reduceAdd, Nat.reduceLeDiff, Nat.reduceMul, Nat.reduceLT, if_true, if_false, true_and, and_true, and_self, Nat.reduceBEq, QOp.loads, boxO, bslO, buildO, cutL, fillV, putL, w54, v54]
    rw [hb hk]; exact Fresh.nil h encReel_len (by omega)
  · obtain ⟨v2, H2, ea, F2⟩ := (Fresh.new0 h encReel_len (by omega)).app (s.ext (Ext.more h [[]])) (bytes := 24) (by simp; omega)
    simp (maxSteps := 4000000) (disch := omega) only [ah, am, Nat.reduceEqDiff, reduceCtorEq, Nat.reduceAdd, Nat.reduceLeDiff, Nat.reduceMul, Nat.reduceLT, if_true, if_false, true_and, and_true, and_self, Nat.reduceBEq, QOp.loads, boxO, bslO, buildO, cutL, fillV, putL, w54, v54, ea]
    exact F2
theorem tell_len (l : List Reel) : (tellL l).length ≤ l.length := by
  have key : ∀ (l s : List Reel), (l.foldl tellStep s).length ≤ l.length + s.length := by
    intro l
    induction l with
    | nil => intro s; simp
    | cons x l ih =>
      intro s
      have := ih (tellStep s x)
      have h2 : (tellStep s x).length ≤ s.length + 1 := by
        rcases List.eq_nil_or_concat s with rfl | ⟨t, p, rfl⟩
        · exact Nat.le_refl _
        · rw [List.concat_eq_append, tell_snoc]; split <;> simp
      simp only [List.foldl_cons, List.length_cons]; omega
  exact key l []
theorem tell_take (l : List Reel) {i : Nat} (hi : i < l.length) : tellL (l.take (i + 1)) = tellStep (tellL (l.take i)) l[i] := by
  unfold tellL
  rw [List.take_add_one, List.getElem?_eq_getElem hi, Option.toList_some, List.foldl_append]; rfl
theorem told_ok (h : Heap) (v : Value) (l : List Reel) (s : SlT h encReel 3 v l) (hl : l.length ≤ 100000) (hv : ∀ x ∈ l, x.fr < x.to) : ACall Try.prog 32 [v] h fun r h' => Fresh h h' encReel 3 r (toldF l) := by
  refine ACall.of Try.func32 s32 (of_decide_eq_true rfl) ?_
  simp (maxSteps := 4000000) (disch := omega) only [ah, am, Nat.reduceEqDiff, reduceCtorEq, Nat.reduceAdd, Nat.reduceLeDiff, Nat.reduceMul, Nat.reduceLT, if_true, if_false, true_and, and_true, and_self, Nat.reduceBEq, QOp.loads, boxO, bslO, buildO, cutL, fillV, putL, w32, v32]
  refine stepC.of (CloneR_ok _ _ _ s (by omega)) ?_
  rintro sv H1 ⟨e1, g, hg, o⟩
  simp (maxSteps := 4000000) (disch := omega) only [ah, am, Nat.reduceEqDiff, reduceCtorEq, Nat.reduceAdd, Nat.reduceLeDiff, Nat.reduceMul, Nat.reduceLT, if_true, if_false, true_and, and_true, and_self, Nat.reduceBEq, QOp.loads, boxO, bslO, buildO, cutL, fillV, putL, w32, v32]
  refine stepC.of (SortFunc_ok _ g _ _ o (by omega)) ?_
  rintro _ H2 ⟨l', hp, hs, G, o2⟩
  have E2 : Ext h H2 := G.ext e1 hg
  have s2 := o2.slt
  have hll : l'.length = l.length := hp.length_eq
  rw [← told_any l l' hp hs hv]
  have R := (s2.ext (Ext.more H2 [[]])).rulesN
  simp (maxSteps := 4000000) (disch := omega) only [ah, am, Nat.reduceEqDiff, reduceCtorEq, Nat.reduceAdd, Nat.reduceLeDiff, Nat.reduceMul, Nat.reduceLT, if_true, if_false, true_and, and_true, and_self, Nat.reduceBEq, QOp.loads, boxO, bslO, buildO, cutL, fillV, putL, w32, v32, R.1]
  refine SW_loop_up (fun i E K => ∃ ov, Fk [] H2 K encReel 3 ov (tellL (l'.take i)) [] ∧ E = [(4, ov), (13, sv), (14, .int .i64 (l'.length : Int)), (15, .int .i64 (i : Int))]) l'.length 0 (by omega) ?_ ?_
  · exact ⟨_, Fk.of (Fresh.new0 H2 encReel_len (by omega)), rfl⟩
  rintro i E K hi ⟨ov, F, rfl⟩
  simp (maxSteps := 4000000) (disch := omega) only [ah, am, Nat.reduceEqDiff, reduceCtorEq, Nat.reduceAdd, Nat.reduceLeDiff, Nat.reduceMul, Nat.reduceLT, if_true, if_false, true_and, and_true, and_self, Nat.reduceBEq, QOp.loads, boxO, bslO, buildO, cutL, fillV, putL, w32, v32]
  refine stepI.split (fun hp => ?_) (fun hp => ?_)
  · have hi2 : i < l'.length := by omega
    have R := (s2.ext F.ext.ext).rulesN
    have W : IntKind.i64.wrap ((i : Int) + 1) = ((i + 1 : Nat) : Int) := i64e (by omega) (by omega)
    rw [tell_take l' hi2]
    have hcl := tell_len (l'.take i)
    simp only [List.length_take] at hcl
    generalize tellL (l'.take i) = cur at F hcl ⊢
    obtain ⟨x, hx⟩ : ∃ x, x = l'[i]'hi2 := ⟨_, rfl⟩
    have LN : ldnV K 3 (ptrAt sv (i * 3)) = some (.agg (encReel x).toArray) := by rw [hx]; exact R.2.2.2.2.2 i hi2
    rw [← hx]
    have C := F.slt.rulesN
    have F1 := F.more [[.int .i64 x.src, .int .i64 x.fr, .int .i64 x.to]]
    simp only [boxesAt, List.nil_append] at F1
    have X := F1.ld (List.mem_cons_self)
    have C1 := F1.slt.rulesN
    obtain ⟨v2, H3, ea, F3⟩ := F.app1 [[.int .i64 x.src, .int .i64 x.fr, .int .i64 x.to]] x (bytes := 24) (by omega)
    simp only [encReel, List.cons_append, List.nil_append, List.length_cons, List.length_nil, Nat.zero_add] at ea
    have F3 := F3.bare
    rcases List.eq_nil_or_concat cur with rfl | ⟨t, p, rfl⟩
    · simp (maxSteps := 4000000) (disch := omega) only [ah, am, Nat.reduceEqDiff, reduceCtorEq, Nat.reduceAdd, Nat.reduceLeDiff, Nat.reduceMul, Nat.reduceLT, if_true, if_false, true_and, and_true, and_self, Nat.reduceBEq, QOp.loads, boxO, bslO, buildO, cutL, fillV, putL, w32, v32, R.2.1, LN, encReel, C1.1, X, show decide ((0 : Int) < ((0 : Nat) : Int)) = false from rfl, List.length_nil, ea, W]
      exact ⟨hi2, _, F3, rfl⟩
    · rw [List.concat_eq_append] at F F1 C1 F3 hcl ⊢
      have hn : ((t ++ [p]).length : Int) = ((t.length + 1 : Nat) : Int) := by simp
      have W1 : IntKind.i64.wrap (((t.length + 1 : Nat) : Int) - 1) = (t.length : Int) := i64e (by omega) (by simp at hcl; omega)
      have hj : t.length < (t ++ [p]).length := by simp
      have hpe : (t ++ [p])[t.length]'hj = p := by simp
      have A := C1.2.1 .i64 t.length hj
      have L0 : ldV (K.more [[.int .i64 x.src, .int .i64 x.fr, .int .i64 x.to]]) (ptrAt ov (t.length * 3)) = some (.int .i64 p.src) := by have := C1.2.2.2.2.1 t.length hj; rw [hpe] at this; exact this
      have L2 : ldV (K.more [[.int .i64 x.src, .int .i64 x.fr, .int .i64 x.to]]) (ptrAt ov (t.length * 3 + 2)) = some (.int .i64 p.to) := by have := C1.2.2.2.1 t.length 2 hj (by omega); rw [hpe] at this; exact this
      obtain ⟨K4, es, F4, -⟩ := F1.setF (j := t.length) (f := 2) (n := 1) (x := ⟨p.src, p.fr, max p.to x.to⟩) (y := .int .i64 (max p.to x.to)) hj (by rw [hpe]; rfl) (by omega) rfl (by omega) rfl
      have FA := C1.2.2.1
      have F4 := F4.bare
      rw [show (t ++ [p]).set t.length ⟨p.src, p.fr, max p.to x.to⟩ = t ++ [⟨p.src, p.fr, max p.to x.to⟩] by simp] at F4
      rw [tell_snoc]
      have hm : (if p.to < x.to then x.to else p.to) = max p.to x.to := by split <;> omega
      have D0 : decide ((0 : Int) < ((t.length + 1 : Nat) : Int)) = true := decide_eq_true (by omega)
      by_cases h1 : p.src = x.src
      · by_cases h2 : x.fr ≤ p.to
        · rw [if_pos ⟨h1, h2⟩]
          simp (maxSteps := 4000000) (disch := omega) only [ah, am, Nat.reduceEqDiff, reduceCtorEq, Nat.reduceAdd, Nat.reduceLeDiff, Nat.reduceMul, Nat.reduceLT, if_true, if_false, true_and, and_true, and_self, Nat.reduceBEq, QOp.loads, boxO, bslO, buildO, cutL, fillV, putL, w32, v32, R.2.1, LN, encReel, C1.1, hn, X, D0, W1, A, L0, L2, FA, decide_eq_true h1, decide_eq_true h2, hm, es, W]
          exact ⟨hi2, _, F4, rfl⟩
        · rw [if_neg (fun q => h2 q.2)]
          simp (maxSteps := 4000000) (disch := omega) only [ah, am, Nat.reduceEqDiff, reduceCtorEq, Nat.reduceAdd, Nat.reduceLeDiff, Nat.reduceMul, Nat.reduceLT, if_true, if_false, true_and, and_true, and_self, Nat.reduceBEq, QOp.loads, boxO, bslO, buildO, cutL, fillV, putL, w32, v32, R.2.1, LN, encReel, C1.1, hn, X, D0, W1, A, L0, L2, FA, decide_eq_true h1, decide_eq_false h2, ea, W]
          exact ⟨hi2, _, by simpa using F3, rfl⟩
      · rw [if_neg (fun q => h1 q.1)]
        simp (maxSteps := 4000000) (disch := omega) only [ah, am, Nat.reduceEqDiff, reduceCtorEq, Nat.reduceAdd, Nat.reduceLeDiff, Nat.reduceMul, Nat.reduceLT, if_true, if_false, true_and, and_true, and_self, Nat.reduceBEq, QOp.loads, boxO, bslO, buildO, cutL, fillV, putL, w32, v32, R.2.1, LN, encReel, C1.1, hn, X, D0, W1, A, L0, L2, FA, decide_eq_false h1, ea, W]
        exact ⟨hi2, _, by simpa using F3, rfl⟩
  · simp (maxSteps := 4000000) (disch := omega) only [ah, am, Nat.reduceEqDiff, reduceCtorEq, Nat.reduceAdd, Nat.reduceLeDiff, Nat.reduceMul, Nat.reduceLT, if_true, if_false, true_and, and_true, and_self, Nat.reduceBEq, QOp.loads, boxO, bslO, buildO, cutL, fillV, putL, w32, v32]
    have : i = l'.length := by omega
    subst this
    rw [List.take_length] at F
    exact F.fresh.mono E2
theorem l1Min_ok (h : Heap) (a b : Int) : ACall Try.prog 45 [.int .i64 a, .int .i64 b] h fun r h' => h' = h ∧ r = .int .i64 (min a b) := by
  refine ACall.of Try.func45 s45 (of_decide_eq_true rfl) ?_
  simp (maxSteps := 4000000) (disch := omega) only [ah, am, Nat.reduceEqDiff, reduceCtorEq, Nat.reduceAdd, Nat.reduceLeDiff, Nat.reduceMul, Nat.reduceLT, if_true, if_false, true_and, and_true, and_self, Nat.reduceBEq, QOp.loads, boxO, bslO, buildO, cutL, fillV, putL, w45, v45, stepI_dec]
  split <;> (simp; omega)
theorem l1Max_ok (h : Heap) (a b : Int) : ACall Try.prog 44 [.int .i64 a, .int .i64 b] h fun r h' => h' = h ∧ r = .int .i64 (max a b) := by
  refine ACall.of Try.func44 s44 (of_decide_eq_true rfl) ?_
  simp (maxSteps := 4000000) (disch := omega) only [ah, am, Nat.reduceEqDiff, reduceCtorEq, Nat.reduceAdd, Nat.reduceLeDiff, Nat.reduceMul, Nat.reduceLT, if_true, if_false, true_and, and_true, and_self, Nat.reduceBEq, QOp.loads, boxO, bslO, buildO, cutL, fillV, putL, w44, v44, stepI_dec]
  split <;> (simp; omega)
theorem isort_take (l : List Reel) {i : Nat} (hi : i < l.length) : isort (l.take (i + 1)) = insF (isort (l.take i)) l[i] := by
  unfold isort
  rw [List.take_add_one, List.getElem?_eq_getElem hi, Option.toList_some, List.foldl_append]; rfl
theorem insF_len (l : List Reel) (r : Reel) : (insF l r).length = l.length + 1 := by
  have := (insF_perm l r).length_eq; simpa using this
theorem isort_len (l : List Reel) : (isort l).length = l.length := by
  have := (isort_both l [] List.Pairwise.nil).2.length_eq
  rw [List.append_nil] at this; exact this
theorem mid_len (cur : List Reel) (y : Reel) {k : Nat} (hk : k ≤ cur.length) : (cur.take k ++ y :: cur.drop k).length = cur.length + 1 := by simp; omega
theorem mid_set (cur : List Reel) (y z : Reel) {k : Nat} (hk : k ≤ cur.length) : (cur.take k ++ y :: cur.drop k).set k z = cur.take k ++ z :: cur.drop k := by
  rw [List.set_append_right _ _ (by simp; omega)]
  simp [Nat.min_eq_left hk]
theorem mid_at (cur : List Reel) (y : Reel) {k : Nat} (hk : k < cur.length) (h : k < (cur.take (k + 1) ++ y :: cur.drop (k + 1)).length) : (cur.take (k + 1) ++ y :: cur.drop (k + 1))[k]'h = cur.getD k zReel := by
  rw [List.getElem_append_left (by simp; omega), List.getElem_take]
  simp [List.getD, List.getElem?_eq_getElem hk]
theorem mid_shift (cur : List Reel) {k : Nat} (hk : k < cur.length) : cur.take (k + 1) ++ cur.getD k zReel :: cur.drop (k + 1) = cur.take k ++ cur.getD k zReel :: cur.drop k := by
  have e1 : cur.take (k + 1) = cur.take k ++ [cur[k]] := by rw [List.take_add_one, List.getElem?_eq_getElem hk]; rfl
  have e2 : cur.drop k = cur[k] :: cur.drop (k + 1) := List.drop_eq_getElem_cons hk
  have e3 : cur.getD k zReel = cur[k] := by simp [List.getD, List.getElem?_eq_getElem hk]
  rw [e3, e1, e2, List.append_assoc]; rfl
theorem l7Tell_ok (h : Heap) (v : Value) (l : List Reel) (s : SlT h encReel 3 v l) (hl : l.length ≤ 100000) : ACall Try.prog 31 [v] h fun r h' => Fresh h h' encReel 3 r (toldF l) := by
  refine ACall.of Try.func31 s31 (of_decide_eq_true rfl) ?_
  simp (maxSteps := 4000000) (disch := omega) only [ah, am, Nat.reduceEqDiff, reduceCtorEq, Nat.reduceAdd, Nat.reduceLeDiff, Nat.reduceMul, Nat.reduceLT, if_true, if_false, true_and, and_true, and_self, Nat.reduceBEq, QOp.loads, boxO, bslO, buildO, cutL, fillV, putL, w31, v31]
  refine SW_loop_up (fun i E K => ∃ iv, Fk [] h K encReel 3 iv (isort (l.take i)) [] ∧ E = [(0, v), (3, iv), (4, .int .i64 (i : Int))]) l.length 0 (by omega) ?_ ?_
  · exact ⟨_, Fk.of (Fresh.new0 h encReel_len (by omega)), rfl⟩
  rintro i E K hi ⟨iv, F, rfl⟩
  have R := (s.ext F.ext.ext).rulesN
  have hcl := isort_len (l.take i)
  simp only [List.length_take] at hcl
  simp (maxSteps := 4000000) (disch := omega) only [ah, am, Nat.reduceEqDiff, reduceCtorEq, Nat.reduceAdd, Nat.reduceLeDiff, Nat.reduceMul, Nat.reduceLT, if_true, if_false, true_and, and_true, and_self, Nat.reduceBEq, QOp.loads, boxO, bslO, buildO, cutL, fillV, putL, w31, v31, R.1]
  refine stepI.split (fun hp => ?_) (fun hp => ?_)
  · have hi2 : i < l.length := by omega
    rw [isort_take l hi2]
    generalize isort (l.take i) = cur at F hcl ⊢
    obtain ⟨x, hx⟩ : ∃ x, x = l[i]'hi2 := ⟨_, rfl⟩
    have LN : ldnV K 3 (ptrAt v (i * 3)) = some (.agg (encReel x).toArray) := by rw [hx]; exact R.2.2.2.2.2 i hi2
    rw [← hx]
    have C := F.slt.rulesN
    obtain ⟨v2, H3, ea, F3⟩ := F.app1 [] x (bytes := 24) (by omega)
    simp only [List.nil_append, List.length_nil, Nat.add_zero, boxesAt, List.append_nil] at ea F3
    simp only [encReel] at ea
    simp (maxSteps := 4000000) (disch := omega) only [ah, am, Nat.reduceEqDiff, reduceCtorEq, Nat.reduceAdd, Nat.reduceLeDiff, Nat.reduceMul, Nat.reduceLT, if_true, if_false, true_and, and_true, and_self, Nat.reduceBEq, QOp.loads, boxO, bslO, buildO, cutL, fillV, putL, w31, v31, C.1, R.2.1, LN, ea, encReel]
    obtain ⟨P, hP⟩ : ∃ P, P = insPos cur x cur.length := ⟨_, rfl⟩
    have hPl : P ≤ cur.length := by rw [hP]; exact insPos_le _ _ _
    have Wd : ∀ k : Nat, k ≤ 1000001 → IntKind.i64.wrap (((k + 1 : Nat) : Int) - 1) = (k : Int) := fun k hk => i64e (by omega) (by omega)
    refine SW_loop_to 2 (fun E K => ∃ y, Fk [] h K encReel 3 v2 (cur.take P ++ y :: cur.drop P) [] ∧ ∃ t, E = (0, v) :: (3, v2) :: (4, .int .i64 (i : Int)) :: (5, .int .i64 (P : Int)) :: t) ?_ ?_
    · refine ⟨fun k E K => ∃ y, Fk [] h K encReel 3 v2 (cur.take k ++ y :: cur.drop k) [] ∧ k ≤ cur.length ∧ insPos cur x k = P ∧ E = [(0, v), (3, v2), (4, .int .i64 (i : Int)), (5, .int .i64 (k : Int))], ⟨cur.length, x, by simpa using F3, Nat.le_refl _, hP.symm, rfl⟩, ?_⟩
      rintro k E K2 ⟨y, F, hk, hI, rfl⟩
      cases k with
      | zero =>
        have hI : 0 = P := hI
        subst hI
        simp (maxSteps := 4000000) (disch := omega) only [ah, am, Nat.reduceEqDiff, reduceCtorEq, Nat.reduceAdd, Nat.reduceLeDiff, Nat.reduceMul, Nat.reduceLT, if_true, if_false, true_and, and_true, and_self, Nat.reduceBEq, QOp.loads, boxO, bslO, buildO, cutL, fillV, putL, w31, v31, show decide ((0 : Int) < ((0 : Nat) : Int)) = false from rfl]
        exact ⟨y, F, _, rfl⟩
      | succ k =>
        simp only [insPos] at hI
        have hkl : k < cur.length := by omega
        have R := (s.ext F.ext.ext).rulesN
        have C := F.slt.rulesN
        have hlen := mid_len cur y hk
        have hL : k < (cur.take (k + 1) ++ y :: cur.drop (k + 1)).length := by omega
        have hL1 : k + 1 < (cur.take (k + 1) ++ y :: cur.drop (k + 1)).length := by omega
        have hq := mid_at cur y hkl hL
        obtain ⟨q, hqe⟩ : ∃ q, q = cur.getD k zReel := ⟨_, rfl⟩
        rw [← hqe] at hq hI
        have A0 := C.2.1 .i64 k hL
        have A1 := C.2.1 .i64 (k + 1) hL1
        have Q0 : ldV K2 (ptrAt v2 (k * 3)) = some (.int .i64 q.src) := by have := C.2.2.2.2.1 k hL; rw [hq] at this; exact this
        have Q1 : ldV K2 (ptrAt v2 (k * 3 + 1)) = some (.int .i64 q.fr) := by have := C.2.2.2.1 k 1 hL (by omega); rw [hq] at this; exact this
        have QN : ldnV K2 3 (ptrAt v2 (k * 3)) = some (.agg (encReel q).toArray) := by have := C.2.2.2.2.2 k hL; rw [hq] at this; exact this
        have B0 := R.2.1 .i64 i hi2
        have X0 : ldV K2 (ptrAt v (i * 3)) = some (.int .i64 x.src) := by rw [hx]; exact R.2.2.2.2.1 i hi2
        have X1 : ldV K2 (ptrAt v (i * 3 + 1)) = some (.int .i64 x.fr) := by rw [hx]; exact R.2.2.2.1 i 1 hi2 (by omega)
        have FV := R.2.2.1
        have FW := C.2.2.1
        have D0 : decide ((0 : Int) < ((k + 1 : Nat) : Int)) = true := decide_eq_true (by omega)
        obtain ⟨K3, es, F2, g2, -⟩ := F.set (j := k + 1) hL1 q rfl
        rw [mid_set cur y q hk, hqe, mid_shift cur hkl, ← hqe] at F2
        have w := Wd k (by omega)
        by_cases h1 : x.src < q.src
        · rw [if_pos (by rw [ltR_iff]; exact .inl h1)] at hI
          simp (maxSteps := 4000000) (disch := omega) only [ah, am, Nat.reduceEqDiff, reduceCtorEq, Nat.reduceAdd, Nat.reduceLeDiff, Nat.reduceMul, Nat.reduceLT, if_true, if_false, true_and, and_true, and_self, Nat.reduceBEq, QOp.loads, boxO, bslO, buildO, cutL, fillV, putL, w31, v31, D0, w, A0, A1, Q0, Q1, QN, B0, X0, X1, FV, FW, decide_eq_true h1, es]
          exact ⟨k, by omega, q, F2, by omega, hI, rfl⟩
        · by_cases h2 : q.src = x.src
          · by_cases h3 : x.fr < q.fr
            · rw [if_pos (by rw [ltR_iff]; exact .inr ⟨h2.symm, h3⟩)] at hI
              simp (maxSteps := 4000000) (disch := omega) only [ah, am, Nat.reduceEqDiff, reduceCtorEq, Nat.reduceAdd, Nat.reduceLeDiff, Nat.reduceMul, Nat.reduceLT, if_true, if_false, true_and, and_true, and_self, Nat.reduceBEq, QOp.loads, boxO, bslO, buildO, cutL, fillV, putL, w31, v31, D0, w, A0, A1, Q0, Q1, QN, B0, X0, X1, FV, FW, decide_eq_false h1, decide_eq_true h2, decide_eq_true h3, es]
              exact ⟨k, by omega, q, F2, by omega, hI, rfl⟩
            · rw [if_neg (by rw [ltR_iff]; omega)] at hI
              simp (maxSteps := 4000000) (disch := omega) only [ah, am, Nat.reduceEqDiff, reduceCtorEq, Nat.reduceAdd, Nat.reduceLeDiff, Nat.reduceMul, Nat.reduceLT, if_true, if_false, true_and, and_true, and_self, Nat.reduceBEq, QOp.loads, boxO, bslO, buildO, cutL, fillV, putL, w31, v31, D0, w, A0, A1, Q0, Q1, QN, B0, X0, X1, FV, FW, decide_eq_false h1, decide_eq_true h2, decide_eq_false h3]
              subst hI; exact ⟨y, F, _, rfl⟩
          · rw [if_neg (by rw [ltR_iff]; omega)] at hI
            simp (maxSteps := 4000000) (disch := omega) only [ah, am, Nat.reduceEqDiff, reduceCtorEq, Nat.reduceAdd, Nat.reduceLeDiff, Nat.reduceMul, Nat.reduceLT, if_true, if_false, true_and, and_true, and_self, Nat.reduceBEq, QOp.loads, boxO, bslO, buildO, cutL, fillV, putL, w31, v31, D0, w, A0, A1, Q0, Q1, QN, B0, X0, X1, FV, FW, decide_eq_false h1, decide_eq_false h2]
            subst hI; exact ⟨y, F, _, rfl⟩
    · rintro E K2 ⟨y, F, t, rfl⟩
      have R := (s.ext F.ext.ext).rulesN
      have C := F.slt.rulesN
      have hlen := mid_len cur y hPl
      have LN : ldnV K2 3 (ptrAt v (i * 3)) = some (.agg (encReel x).toArray) := by rw [hx]; exact R.2.2.2.2.2 i hi2
      have A1 := C.2.1 .i64 P (by omega)
      have B0 := R.2.1 .i64 i hi2
      obtain ⟨K3, es, F2, g2, -⟩ := F.set (j := P) (by omega) x rfl
      rw [mid_set cur y x hPl] at F2
      have W : IntKind.i64.wrap ((i : Int) + 1) = ((i + 1 : Nat) : Int) := i64e (by omega) (by omega)
      simp (maxSteps := 4000000) (disch := omega) only [ah, am, Nat.reduceEqDiff, reduceCtorEq, Nat.reduceAdd, Nat.reduceLeDiff, Nat.reduceMul, Nat.reduceLT, if_true, if_false, true_and, and_true, and_self, Nat.reduceBEq, QOp.loads, boxO, bslO, buildO, cutL, fillV, putL, w31, v31, LN, A1, B0, es, W]
      exact ⟨hi2, _, by unfold insF; rw [← hP]; exact F2, rfl⟩
  · simp (maxSteps := 4000000) (disch := omega) only [ah, am, Nat.reduceEqDiff, reduceCtorEq, Nat.reduceAdd, Nat.reduceLeDiff, Nat.reduceMul, Nat.reduceLT, if_true, if_false, true_and, and_true, and_self, Nat.reduceBEq, QOp.loads, boxO, bslO, buildO, cutL, fillV, putL, w31, v31]
    have : i = l.length := by omega
    subst this
    rw [List.take_length] at F hcl
    have si := F.slt
    have E1 := F.ext.ext
    rw [show toldF l = tellL (isort l) from rfl]
    generalize isort l = l' at si hcl ⊢
    clear F R hi hp
    refine SW_loop_up (fun i E K' => ∃ ov, Fk [] K K' encReel 3 ov (tellL (l'.take i)) [] ∧ E = [(3, iv), (6, ov), (7, .int .i64 (i : Int))]) l'.length 0 (by omega) ?_ ?_
    · exact ⟨_, Fk.of (Fresh.new0 K encReel_len (by omega)), rfl⟩
    rintro i E K' hi ⟨ov, F, rfl⟩
    have R := (si.ext F.ext.ext).rulesN
    simp (maxSteps := 4000000) (disch := omega) only [ah, am, Nat.reduceEqDiff, reduceCtorEq, Nat.reduceAdd, Nat.reduceLeDiff, Nat.reduceMul, Nat.reduceLT, if_true, if_false, true_and, and_true, and_self, Nat.reduceBEq, QOp.loads, boxO, bslO, buildO, cutL, fillV, putL, w31, v31, R.1]
    refine stepI.split (fun hp => ?_) (fun hp => ?_)
    · have hi2 : i < l'.length := by omega
      have W : IntKind.i64.wrap ((i : Int) + 1) = ((i + 1 : Nat) : Int) := i64e (by omega) (by omega)
      rw [tell_take l' hi2]
      have hcl2 := tell_len (l'.take i)
      simp only [List.length_take] at hcl2
      generalize tellL (l'.take i) = cur at F hcl2 ⊢
      obtain ⟨x, hx⟩ : ∃ x, x = l'[i]'hi2 := ⟨_, rfl⟩
      have LN : ldnV K' 3 (ptrAt iv (i * 3)) = some (.agg (encReel x).toArray) := by rw [hx]; exact R.2.2.2.2.2 i hi2
      have X0 : ldV K' (ptrAt iv (i * 3)) = some (.int .i64 x.src) := by rw [hx]; exact R.2.2.2.2.1 i hi2
      have X1 : ldV K' (ptrAt iv (i * 3 + 1)) = some (.int .i64 x.fr) := by rw [hx]; exact R.2.2.2.1 i 1 hi2 (by omega)
      have X2 : ldV K' (ptrAt iv (i * 3 + 2)) = some (.int .i64 x.to) := by rw [hx]; exact R.2.2.2.1 i 2 hi2 (by omega)
      have B0 := R.2.1 .i64 i hi2
      have FV := R.2.2.1
      rw [← hx]
      have C := F.slt.rulesN
      obtain ⟨v2, H3, ea, F3⟩ := F.app1 [] x (bytes := 24) (by omega)
      simp only [List.nil_append, List.length_nil, Nat.add_zero, boxesAt, List.append_nil, encReel] at ea F3
      rcases List.eq_nil_or_concat cur with rfl | ⟨t, p, rfl⟩
      · simp (maxSteps := 4000000) (disch := omega) only [ah, am, Nat.reduceEqDiff, reduceCtorEq, Nat.reduceAdd, Nat.reduceLeDiff, Nat.reduceMul, Nat.reduceLT, if_true, if_false, true_and, and_true, and_self, Nat.reduceBEq, QOp.loads, boxO, bslO, buildO, cutL, fillV, putL, w31, v31, C.1, B0, LN, encReel, show decide ((0 : Int) < ((0 : Nat) : Int)) = false from rfl, List.length_nil, ea, W]
        exact ⟨hi2, _, F3, rfl⟩
      · rw [List.concat_eq_append] at F C F3 hcl2 ⊢
        have hn : ((t ++ [p]).length : Int) = ((t.length + 1 : Nat) : Int) := by simp
        have W1 : IntKind.i64.wrap (((t.length + 1 : Nat) : Int) - 1) = (t.length : Int) := i64e (by omega) (by simp at hcl2; omega)
        have hj : t.length < (t ++ [p]).length := by simp
        have hpe : (t ++ [p])[t.length]'hj = p := by simp
        have A := C.2.1 .i64 t.length hj
        have L0 : ldV K' (ptrAt ov (t.length * 3)) = some (.int .i64 p.src) := by have := C.2.2.2.2.1 t.length hj; rw [hpe] at this; exact this
        have L2 : ldV K' (ptrAt ov (t.length * 3 + 2)) = some (.int .i64 p.to) := by have := C.2.2.2.1 t.length 2 hj (by omega); rw [hpe] at this; exact this
        obtain ⟨K4, es, F4, -⟩ := F.setF (j := t.length) (f := 2) (n := 1) (x := ⟨p.src, p.fr, max p.to x.to⟩) (y := .int .i64 (max p.to x.to)) hj (by rw [hpe]; rfl) (by omega) rfl (by omega) rfl
        have FA := C.2.2.1
        rw [show (t ++ [p]).set t.length ⟨p.src, p.fr, max p.to x.to⟩ = t ++ [⟨p.src, p.fr, max p.to x.to⟩] by simp] at F4
        rw [tell_snoc]
        have D0 : decide ((0 : Int) < ((t.length + 1 : Nat) : Int)) = true := decide_eq_true (by omega)
        by_cases h1 : p.src = x.src
        · by_cases h2 : x.fr ≤ p.to
          · rw [if_pos ⟨h1, h2⟩]
            simp (maxSteps := 4000000) (disch := omega) only [ah, am, Nat.reduceEqDiff, reduceCtorEq, Nat.reduceAdd, Nat.reduceLeDiff, Nat.reduceMul, Nat.reduceLT, if_true, if_false, true_and, and_true, and_self, Nat.reduceBEq, QOp.loads, boxO, bslO, buildO, cutL, fillV, putL, w31, v31, C.1, hn, B0, LN, X0, X1, X2, FV, D0, W1, A, L0, L2, FA, decide_eq_true h1, decide_eq_true h2]
            refine stepC.of (l1Max_ok _ _ _) ?_
            rintro _ Hx ⟨hx, rfl⟩; rw [hx]; clear hx Hx
            simp (maxSteps := 4000000) (disch := omega) only [ah, am, Nat.reduceEqDiff, reduceCtorEq, Nat.reduceAdd, Nat.reduceLeDiff, Nat.reduceMul, Nat.reduceLT, if_true, if_false, true_and, and_true, and_self, Nat.reduceBEq, QOp.loads, boxO, bslO, buildO, cutL, fillV, putL, w31, v31, W1, A, FA, es, W]
            exact ⟨hi2, _, F4, rfl⟩
          · rw [if_neg (fun q => h2 q.2)]
            simp (maxSteps := 4000000) (disch := omega) only [ah, am, Nat.reduceEqDiff, reduceCtorEq, Nat.reduceAdd, Nat.reduceLeDiff, Nat.reduceMul, Nat.reduceLT, if_true, if_false, true_and, and_true, and_self, Nat.reduceBEq, QOp.loads, boxO, bslO, buildO, cutL, fillV, putL, w31, v31, C.1, hn, B0, LN, encReel, X0, X1, X2, FV, D0, W1, A, L0, L2, FA, decide_eq_true h1, decide_eq_false h2, ea, W]
            exact ⟨hi2, _, by simpa using F3, rfl⟩
        · rw [if_neg (fun q => h1 q.1)]
          simp (maxSteps := 4000000) (disch := omega) only [ah, am, Nat.reduceEqDiff, reduceCtorEq, Nat.reduceAdd, Nat.reduceLeDiff, Nat.reduceMul, Nat.reduceLT, if_true, if_false, true_and, and_true, and_self, Nat.reduceBEq, QOp.loads, boxO, bslO, buildO, cutL, fillV, putL, w31, v31, C.1, hn, B0, LN, encReel, X0, X1, X2, FV, D0, W1, A, L0, L2, FA, decide_eq_false h1, ea, W]
          exact ⟨hi2, _, by simpa using F3, rfl⟩
    · simp (maxSteps := 4000000) (disch := omega) only [ah, am, Nat.reduceEqDiff, reduceCtorEq, Nat.reduceAdd, Nat.reduceLeDiff, Nat.reduceMul, Nat.reduceLT, if_true, if_false, true_and, and_true, and_self, Nat.reduceBEq, QOp.loads, boxO, bslO, buildO, cutL, fillV, putL, w31, v31]
      have : i = l'.length := by omega
      subst this
      rw [List.take_length] at F
      exact F.fresh.mono E1
end Go.Proofs.Ytmippcfdakjhfaa
