import Derived.Test.YtknpombiomnkbaaH2
namespace Go.Proofs.Ytknpombiomnkbaa
open Go Go.Ah
set_option linter.unusedSimpArgs false
set_option linter.unusedVariables false
set_option maxRecDepth 10000
set_option maxHeartbeats 4000000
/-! 99 loop.example/g00066/spec.l1Frame: parameters 1, live [0], slots [0:f, 1:f] -/
def c99_0 : List SOper := [⟨some 2, .q (.mv (.c (.bool false))), none⟩]
def c99_1 : List SOper := [⟨some 3, .q (.mv (.t 0)), none⟩, ⟨some 4, .e (.call 68 [(.t 3), (.c (.int .i64 0)), (.c (.int .i64 10000000))]), none⟩, ⟨some 2, .q (.mv (.t 4)), none⟩]
def c99_2 : SCode := .seq (.region c99_1 [2]) .ret
def c99_3 : SCode := .seq (.region c99_0 [0]) c99_2
def c99 : SCode := c99_3
theorem w99 : type_of% (And.intro (uR Try.prog c99_0.eq_1) (And.intro (uR Try.prog c99_1.eq_1) (And.intro (uC Try.prog c99_2.eq_1) (And.intro (uC Try.prog c99_3.eq_1) (uC Try.prog c99.eq_1))))) := (And.intro (uR Try.prog c99_0.eq_1) (And.intro (uR Try.prog c99_1.eq_1) (And.intro (uC Try.prog c99_2.eq_1) (And.intro (uC Try.prog c99_3.eq_1) (uC Try.prog c99.eq_1)))))
def v99 : List RV := [.t 2]
theorem s99 : slimF Try.prog Try.f99 = some (c99.bare, v99) := by kernel_rfl
/-! 73 loop.example/g00066/spec.KeysOk: parameters 1, live [0], slots [0:keys, 1:keys, 3:i] -/
def c73_0 : List SOper := [⟨some 2, .q (.mv (.c (.bool false))), none⟩]
def c73_1 : List SOper := [⟨some 4, .q (.mv (.t 0)), none⟩, ⟨some 5, .q (.len (.t 4)), none⟩, ⟨some 6, .q (.bin .lss (.t 5) (.c (.int .i64 1))), none⟩, ⟨some 7, .q (.mv (.t 6)), none⟩, ⟨some 8, .q (.mv (.t 0)), some (7, false)⟩, ⟨some 9, .q (.len (.t 8)), some (7, false)⟩, ⟨some 10, .q (.bin .gtr (.t 9) (.c (.int .i64 100))), some (7, false)⟩, ⟨some 11, .q (.pick (.t 7) (.c (.bool true)) (.t 10)), none⟩]
def c73_2 : List SOper := [⟨some 2, .q (.mv (.c (.bool false))), none⟩]
def c73_3 : SCode := .seq (.region c73_2 [2]) .ret
def c73_4 : SCode := .cond (.t 11) c73_3 .skip
def c73_5 : SCode := .seq (.region c73_1 [0, 11]) c73_4
def c73_6 : List SOper := [⟨some 3, .q (.mv (.c (.int .i64 0))), none⟩]
def c73_7 : List SOper := [⟨some 12, .q (.mv (.t 3)), none⟩, ⟨some 13, .q (.mv (.t 0)), none⟩, ⟨some 14, .q (.len (.t 13)), none⟩, ⟨some 15, .q (.bin .lss (.t 12) (.t 14)), none⟩]
def c73_8 : SCode := .cond (.t 15) .skip (.exit 0)
def c73_9 : SCode := .seq (.region c73_7 [0, 3, 15]) c73_8
def c73_10 : List SOper := [⟨some 18, .q (.mv (.t 0)), none⟩, ⟨some 19, .q (.mv (.t 3)), none⟩, ⟨some 20, .q (.ia 2 (.t 18) (.t 19)), none⟩, ⟨some 21, .q (.fa 0 (.t 20)), none⟩, ⟨some 22, .q (.ld (.t 21)), none⟩, ⟨some 23, .e (.call 99 [(.t 22)]), none⟩, ⟨some 24, .q (.not (.t 23)), none⟩, ⟨some 25, .q (.mv (.t 24)), none⟩, ⟨some 26, .q (.mv (.t 0)), some (25, false)⟩, ⟨some 27, .q (.mv (.t 3)), some (25, false)⟩, ⟨some 28, .q (.ia 2 (.t 26) (.t 27)), some (25, false)⟩, ⟨some 29, .q (.fa 1 (.t 28)), some (25, false)⟩, ⟨some 30, .q (.ld (.t 29)), some (25, false)⟩, ⟨some 31, .e (.call 99 [(.t 30)]), some (25, false)⟩, ⟨some 32, .q (.not (.t 31)), some (25, false)⟩, ⟨some 33, .q (.pick (.t 25) (.c (.bool true)) (.t 32)), none⟩, ⟨some 34, .q (.mv (.t 33)), none⟩, ⟨some 35, .q (.mv (.t 3)), some (34, false)⟩, ⟨some 36, .q (.bin .gtr (.t 35) (.c (.int .i64 0))), some (34, false)⟩, ⟨some 37, .q (.mv (.t 36)), some (34, false)⟩, ⟨some 38, .q (.mv (.t 0)), some (37, true)⟩, ⟨some 39, .q (.mv (.t 3)), some (37, true)⟩, ⟨some 40, .q (.ia 2 (.t 38) (.t 39)), some (37, true)⟩, ⟨some 41, .q (.fa 0 (.t 40)), some (37, true)⟩, ⟨some 42, .q (.ld (.t 41)), some (37, true)⟩, ⟨some 43, .q (.mv (.t 0)), some (37, true)⟩, ⟨some 44, .q (.mv (.t 3)), some (37, true)⟩, ⟨some 45, .q (.bin .sub (.t 44) (.c (.int .i64 1))), some (37, true)⟩, ⟨some 46, .q (.ia 2 (.t 43) (.t 45)), some (37, true)⟩, ⟨some 47, .q (.fa 0 (.t 46)), some (37, true)⟩, ⟨some 48, .q (.ld (.t 47)), some (37, true)⟩, ⟨some 49, .q (.bin .leq (.t 42) (.t 48)), some (37, true)⟩, ⟨some 50, .q (.pick (.t 37) (.t 49) (.c (.bool false))), some (34, false)⟩, ⟨some 51, .q (.pick (.t 34) (.c (.bool true)) (.t 50)), none⟩]
def c73_11 : List SOper := [⟨some 2, .q (.mv (.c (.bool false))), none⟩]
def c73_12 : SCode := .seq (.region c73_11 [2]) .ret
def c73_13 : SCode := .cond (.t 51) c73_12 .skip
def c73_14 : SCode := .seq (.region c73_10 [0, 3, 51]) c73_13
def c73_15 : SCode := .block 1 c73_14
def c73_16 : List SOper := [⟨some 16, .q (.mv (.t 3)), none⟩, ⟨some 17, .q (.bin .add (.t 16) (.c (.int .i64 1))), none⟩, ⟨some 3, .q (.mv (.t 17)), none⟩]
def c73_17 : SCode := .seq c73_15 (.region c73_16 [0, 3])
def c73_18 : SCode := .seq c73_9 c73_17
def c73_19 : SCode := .loop c73_18
def c73_20 : SCode := .block 0 c73_19
def c73_21 : SCode := .seq (.region c73_6 [0, 3]) c73_20
def c73_22 : List SOper := [⟨some 2, .q (.mv (.c (.bool true))), none⟩]
def c73_23 : SCode := .seq (.region c73_22 [2]) .ret
def c73_24 : SCode := .seq c73_21 c73_23
def c73_25 : SCode := .seq c73_5 c73_24
def c73_26 : SCode := .seq (.region c73_0 [0]) c73_25
def c73 : SCode := c73_26
theorem w73 : type_of% (And.intro (uR Try.prog c73_0.eq_1) (And.intro (uR Try.prog c73_1.eq_1) (And.intro (uR Try.prog c73_2.eq_1) (And.intro (uC Try.prog c73_3.eq_1) (And.intro (uC Try.prog c73_4.eq_1) (And.intro (uC Try.prog c73_5.eq_1) (And.intro (uR Try.prog c73_6.eq_1) (And.intro (uR Try.prog c73_7.eq_1) (And.intro (uC Try.prog c73_8.eq_1) (And.intro (uC Try.prog c73_9.eq_1) (And.intro (uR Try.prog c73_10.eq_1) (And.intro (uR Try.prog c73_11.eq_1) (And.intro (uC Try.prog c73_12.eq_1) (And.intro (uC Try.prog c73_13.eq_1) (And.intro (uC Try.prog c73_14.eq_1) (And.intro (uC Try.prog c73_15.eq_1) (And.intro (uR Try.prog c73_16.eq_1) (And.intro (uC Try.prog c73_17.eq_1) (And.intro (uC Try.prog c73_18.eq_1) (And.intro (uC Try.prog c73_19.eq_1) (And.intro (uC Try.prog c73_20.eq_1) (And.intro (uC Try.prog c73_21.eq_1) (And.intro (uR Try.prog c73_22.eq_1) (And.intro (uC Try.prog c73_23.eq_1) (And.intro (uC Try.prog c73_24.eq_1) (And.intro (uC Try.prog c73_25.eq_1) (And.intro (uC Try.prog c73_26.eq_1) (uC Try.prog c73.eq_1)))))))))))))))))))))))))))) := (And.intro (uR Try.prog c73_0.eq_1) (And.intro (uR Try.prog c73_1.eq_1) (And.intro (uR Try.prog c73_2.eq_1) (And.intro (uC Try.prog c73_3.eq_1) (And.intro (uC Try.prog c73_4.eq_1) (And.intro (uC Try.prog c73_5.eq_1) (And.intro (uR Try.prog c73_6.eq_1) (And.intro (uR Try.prog c73_7.eq_1) (And.intro (uC Try.prog c73_8.eq_1) (And.intro (uC Try.prog c73_9.eq_1) (And.intro (uR Try.prog c73_10.eq_1) (And.intro (uR Try.prog c73_11.eq_1) (And.intro (uC Try.prog c73_12.eq_1) (And.intro (uC Try.prog c73_13.eq_1) (And.intro (uC Try.prog c73_14.eq_1) (And.intro (uC Try.prog c73_15.eq_1) (And.intro (uR Try.prog c73_16.eq_1) (And.intro (uC Try.prog c73_17.eq_1) (And.intro (uC Try.prog c73_18.eq_1) (And.intro (uC Try.prog c73_19.eq_1) (And.intro (uC Try.prog c73_20.eq_1) (And.intro (uC Try.prog c73_21.eq_1) (And.intro (uR Try.prog c73_22.eq_1) (And.intro (uC Try.prog c73_23.eq_1) (And.intro (uC Try.prog c73_24.eq_1) (And.intro (uC Try.prog c73_25.eq_1) (And.intro (uC Try.prog c73_26.eq_1) (uC Try.prog c73.eq_1))))))))))))))))))))))))))))
def v73 : List RV := [.t 2]
theorem s73 : slimF Try.prog Try.f73 = some (c73.bare, v73) := by kernel_rfl
/-! 100 loop.example/g00066/spec.l8Down: parameters 2, live [0, 1], slots [0:a, 1:b, 2:a, 3:b, 5:q] -/
def c100_0 : List SOper := [⟨some 4, .q (.mv (.c (.int .i64 0))), none⟩]
def c100_1 : List SOper := [⟨some 6, .q (.mv (.t 0)), none⟩, ⟨some 7, .q (.mv (.t 1)), none⟩, ⟨some 8, .q (.bin .quo (.t 6) (.t 7)), none⟩, ⟨some 5, .q (.mv (.t 8)), none⟩]
def c100_2 : List SOper := [⟨some 9, .q (.mv (.t 0)), none⟩, ⟨some 10, .q (.mv (.t 1)), none⟩, ⟨some 11, .q (.bin .rem (.t 9) (.t 10)), none⟩, ⟨some 12, .q (.bin .lss (.t 11) (.c (.int .i64 0))), none⟩]
def c100_3 : List SOper := [⟨some 13, .q (.mv (.t 5)), none⟩, ⟨some 14, .q (.bin .sub (.t 13) (.c (.int .i64 1))), none⟩, ⟨some 5, .q (.mv (.t 14)), none⟩]
def c100_4 : SCode := .cond (.t 12) (.region c100_3 [5]) .skip
def c100_5 : SCode := .seq (.region c100_2 [5, 12]) c100_4
def c100_6 : List SOper := [⟨some 15, .q (.mv (.t 5)), none⟩, ⟨some 4, .q (.mv (.t 15)), none⟩]
def c100_7 : SCode := .seq (.region c100_6 [4]) .ret
def c100_8 : SCode := .seq c100_5 c100_7
def c100_9 : SCode := .seq (.region c100_1 [0, 1, 5]) c100_8
def c100_10 : SCode := .seq (.region c100_0 [0, 1]) c100_9
def c100 : SCode := c100_10
theorem w100 : type_of% (And.intro (uR Try.prog c100_0.eq_1) (And.intro (uR Try.prog c100_1.eq_1) (And.intro (uR Try.prog c100_2.eq_1) (And.intro (uR Try.prog c100_3.eq_1) (And.intro (uC Try.prog c100_4.eq_1) (And.intro (uC Try.prog c100_5.eq_1) (And.intro (uR Try.prog c100_6.eq_1) (And.intro (uC Try.prog c100_7.eq_1) (And.intro (uC Try.prog c100_8.eq_1) (And.intro (uC Try.prog c100_9.eq_1) (And.intro (uC Try.prog c100_10.eq_1) (uC Try.prog c100.eq_1)))))))))))) := (And.intro (uR Try.prog c100_0.eq_1) (And.intro (uR Try.prog c100_1.eq_1) (And.intro (uR Try.prog c100_2.eq_1) (And.intro (uR Try.prog c100_3.eq_1) (And.intro (uC Try.prog c100_4.eq_1) (And.intro (uC Try.prog c100_5.eq_1) (And.intro (uR Try.prog c100_6.eq_1) (And.intro (uC Try.prog c100_7.eq_1) (And.intro (uC Try.prog c100_8.eq_1) (And.intro (uC Try.prog c100_9.eq_1) (And.intro (uC Try.prog c100_10.eq_1) (uC Try.prog c100.eq_1))))))))))))
def v100 : List RV := [.t 4]
theorem s100 : slimF Try.prog Try.f100 = some (c100.bare, v100) := by kernel_rfl
/-! 74 loop.example/g00066/spec.l8At: parameters 2, live [0, 1], slots [0:keys, 1:t, 2:keys, 3:t, 7:n, 8:i, 9:a, 10:b, 11:x, 12:d, 13:q] -/
def c74_0 : List SOper := [⟨some 4, .q (.mv (.c (.int .i64 0))), none⟩, ⟨some 5, .q (.mv (.c (.int .i64 0))), none⟩, ⟨some 6, .q (.mv (.c (.int .i64 0))), none⟩]
def c74_1 : List SOper := [⟨some 14, .q (.mv (.t 0)), none⟩, ⟨some 15, .q (.len (.t 14)), none⟩, ⟨some 7, .q (.mv (.t 15)), none⟩]
def c74_2 : List SOper := [⟨some 16, .q (.mv (.t 1)), none⟩, ⟨some 17, .q (.mv (.t 0)), none⟩, ⟨some 18, .q (.ia 2 (.t 17) (.c (.int .i64 0))), none⟩, ⟨some 19, .q (.fa 0 (.t 18)), none⟩, ⟨some 20, .q (.ld (.t 19)), none⟩, ⟨some 21, .q (.bin .leq (.t 16) (.t 20)), none⟩]
def c74_3 : List SOper := [⟨some 22, .q (.mv (.t 0)), none⟩, ⟨some 23, .q (.ia 2 (.t 22) (.c (.int .i64 0))), none⟩, ⟨some 24, .q (.fa 1 (.t 23)), none⟩, ⟨some 25, .q (.ld (.t 24)), none⟩, ⟨some 4, .q (.mv (.t 25)), none⟩, ⟨some 5, .q (.mv (.c (.int .i64 0))), none⟩, ⟨some 6, .q (.mv (.c (.int .i64 0))), none⟩]
def c74_4 : SCode := .seq (.region c74_3 [4, 5, 6]) .ret
def c74_5 : SCode := .cond (.t 21) c74_4 .skip
def c74_6 : SCode := .seq (.region c74_2 [0, 1, 7, 21]) c74_5
def c74_7 : List SOper := [⟨some 8, .q (.mv (.c (.int .i64 1))), none⟩]
def c74_8 : List SOper := [⟨some 26, .q (.mv (.t 8)), none⟩, ⟨some 27, .q (.mv (.t 7)), none⟩, ⟨some 28, .q (.bin .lss (.t 26) (.t 27)), none⟩]
def c74_9 : SCode := .cond (.t 28) .skip (.exit 0)
def c74_10 : SCode := .seq (.region c74_8 [0, 1, 7, 8, 28]) c74_9
def c74_11 : List SOper := [⟨some 31, .q (.mv (.t 0)), none⟩, ⟨some 32, .q (.mv (.t 8)), none⟩, ⟨some 33, .q (.bin .sub (.t 32) (.c (.int .i64 1))), none⟩, ⟨some 34, .q (.ia 2 (.t 31) (.t 33)), none⟩, ⟨some 35, .q (.ldn 2 (.t 34)), none⟩, ⟨some 9, .a (.new [(.int .i64 0), (.int .i64 0)]), none⟩, ⟨none, .e (.st 2 (.t 9) (.t 35)), none⟩]
def c74_12 : List SOper := [⟨some 36, .q (.mv (.t 0)), none⟩, ⟨some 37, .q (.mv (.t 8)), none⟩, ⟨some 38, .q (.ia 2 (.t 36) (.t 37)), none⟩, ⟨some 39, .q (.ldn 2 (.t 38)), none⟩, ⟨some 10, .a (.new [(.int .i64 0), (.int .i64 0)]), none⟩, ⟨none, .e (.st 2 (.t 10) (.t 39)), none⟩]
def c74_13 : List SOper := [⟨some 40, .q (.mv (.t 1)), none⟩, ⟨some 41, .q (.fa 0 (.t 10)), none⟩, ⟨some 42, .q (.ld (.t 41)), none⟩, ⟨some 43, .q (.bin .lss (.t 40) (.t 42)), none⟩]
def c74_14 : List SOper := [⟨some 44, .q (.mv (.t 1)), none⟩, ⟨some 45, .q (.fa 0 (.t 9)), none⟩, ⟨some 46, .q (.ld (.t 45)), none⟩, ⟨some 47, .q (.bin .sub (.t 44) (.t 46)), none⟩, ⟨some 48, .q (.fa 1 (.t 10)), none⟩, ⟨some 49, .q (.ld (.t 48)), none⟩, ⟨some 50, .q (.fa 1 (.t 9)), none⟩, ⟨some 51, .q (.ld (.t 50)), none⟩, ⟨some 52, .q (.bin .sub (.t 49) (.t 51)), none⟩, ⟨some 53, .q (.bin .mul (.t 47) (.t 52)), none⟩, ⟨some 11, .q (.mv (.t 53)), none⟩]
def c74_15 : List SOper := [⟨some 54, .q (.fa 0 (.t 10)), none⟩, ⟨some 55, .q (.ld (.t 54)), none⟩, ⟨some 56, .q (.fa 0 (.t 9)), none⟩, ⟨some 57, .q (.ld (.t 56)), none⟩, ⟨some 58, .q (.bin .sub (.t 55) (.t 57)), none⟩, ⟨some 12, .q (.mv (.t 58)), none⟩]
def c74_16 : List SOper := [⟨some 59, .q (.mv (.t 11)), none⟩, ⟨some 60, .q (.mv (.t 12)), none⟩, ⟨some 61, .e (.call 100 [(.t 59), (.t 60)]), none⟩, ⟨some 13, .q (.mv (.t 61)), none⟩]
def c74_17 : List SOper := [⟨some 62, .q (.mv (.t 1)), none⟩, ⟨some 63, .q (.fa 0 (.t 9)), none⟩, ⟨some 64, .q (.ld (.t 63)), none⟩, ⟨some 65, .q (.bin .eql (.t 62) (.t 64)), none⟩]
def c74_18 : List SOper := [⟨some 66, .q (.fa 1 (.t 9)), none⟩, ⟨some 67, .q (.ld (.t 66)), none⟩, ⟨some 4, .q (.mv (.t 67)), none⟩, ⟨some 5, .q (.mv (.c (.int .i64 0))), none⟩, ⟨some 6, .q (.mv (.c (.int .i64 0))), none⟩]
def c74_19 : SCode := .seq (.region c74_18 [4, 5, 6]) .ret
def c74_20 : SCode := .cond (.t 65) c74_19 .skip
def c74_21 : SCode := .seq (.region c74_17 [9, 11, 12, 13, 65]) c74_20
def c74_22 : List SOper := [⟨some 68, .q (.fa 1 (.t 9)), none⟩, ⟨some 69, .q (.ld (.t 68)), none⟩, ⟨some 70, .q (.mv (.t 13)), none⟩, ⟨some 71, .q (.bin .add (.t 69) (.t 70)), none⟩, ⟨some 72, .q (.mv (.t 11)), none⟩, ⟨some 73, .q (.mv (.t 13)), none⟩, ⟨some 74, .q (.mv (.t 12)), none⟩, ⟨some 75, .q (.bin .mul (.t 73) (.t 74)), none⟩, ⟨some 76, .q (.bin .sub (.t 72) (.t 75)), none⟩, ⟨some 77, .q (.mv (.t 12)), none⟩, ⟨some 4, .q (.mv (.t 71)), none⟩, ⟨some 5, .q (.mv (.t 76)), none⟩, ⟨some 6, .q (.mv (.t 77)), none⟩]
def c74_23 : SCode := .seq (.region c74_22 [4, 5, 6]) .ret
def c74_24 : SCode := .seq c74_21 c74_23
def c74_25 : SCode := .seq (.region c74_16 [1, 9, 11, 12, 13]) c74_24
def c74_26 : SCode := .seq (.region c74_15 [1, 9, 11, 12]) c74_25
def c74_27 : SCode := .seq (.region c74_14 [1, 9, 10, 11]) c74_26
def c74_28 : SCode := .cond (.t 43) c74_27 .skip
def c74_29 : SCode := .seq (.region c74_13 [0, 1, 7, 8, 9, 10, 43]) c74_28
def c74_30 : SCode := .seq (.region c74_12 [0, 1, 7, 8, 9, 10]) c74_29
def c74_31 : SCode := .seq (.region c74_11 [0, 1, 7, 8, 9]) c74_30
def c74_32 : SCode := .block 1 c74_31
def c74_33 : List SOper := [⟨some 29, .q (.mv (.t 8)), none⟩, ⟨some 30, .q (.bin .add (.t 29) (.c (.int .i64 1))), none⟩, ⟨some 8, .q (.mv (.t 30)), none⟩]
def c74_34 : SCode := .seq c74_32 (.region c74_33 [0, 1, 7, 8])
def c74_35 : SCode := .seq c74_10 c74_34
def c74_36 : SCode := .loop c74_35
def c74_37 : SCode := .block 0 c74_36
def c74_38 : SCode := .seq (.region c74_7 [0, 1, 7, 8]) c74_37
def c74_39 : List SOper := [⟨some 78, .q (.mv (.t 0)), none⟩, ⟨some 79, .q (.mv (.t 7)), none⟩, ⟨some 80, .q (.bin .sub (.t 79) (.c (.int .i64 1))), none⟩, ⟨some 81, .q (.ia 2 (.t 78) (.t 80)), none⟩, ⟨some 82, .q (.fa 1 (.t 81)), none⟩, ⟨some 83, .q (.ld (.t 82)), none⟩, ⟨some 4, .q (.mv (.t 83)), none⟩, ⟨some 5, .q (.mv (.c (.int .i64 0))), none⟩, ⟨some 6, .q (.mv (.c (.int .i64 0))), none⟩]
def c74_40 : SCode := .seq (.region c74_39 [4, 5, 6]) .ret
def c74_41 : SCode := .seq c74_38 c74_40
def c74_42 : SCode := .seq c74_6 c74_41
def c74_43 : SCode := .seq (.region c74_1 [0, 1, 7]) c74_42
def c74_44 : SCode := .seq (.region c74_0 [0, 1]) c74_43
def c74 : SCode := c74_44
theorem w74 : type_of% (And.intro (uR Try.prog c74_0.eq_1) (And.intro (uR Try.prog c74_1.eq_1) (And.intro (uR Try.prog c74_2.eq_1) (And.intro (uR Try.prog c74_3.eq_1) (And.intro (uC Try.prog c74_4.eq_1) (And.intro (uC Try.prog c74_5.eq_1) (And.intro (uC Try.prog c74_6.eq_1) (And.intro (uR Try.prog c74_7.eq_1) (And.intro (uR Try.prog c74_8.eq_1) (And.intro (uC Try.prog c74_9.eq_1) (And.intro (uC Try.prog c74_10.eq_1) (And.intro (uR Try.prog c74_11.eq_1) (And.intro (uR Try.prog c74_12.eq_1) (And.intro (uR Try.prog c74_13.eq_1) (And.intro (uR Try.prog c74_14.eq_1) (And.intro (uR Try.prog c74_15.eq_1) (And.intro (uR Try.prog c74_16.eq_1) (And.intro (uR Try.prog c74_17.eq_1) (And.intro (uR Try.prog c74_18.eq_1) (And.intro (uC Try.prog c74_19.eq_1) (And.intro (uC Try.prog c74_20.eq_1) (And.intro (uC Try.prog c74_21.eq_1) (And.intro (uR Try.prog c74_22.eq_1) (And.intro (uC Try.prog c74_23.eq_1) (And.intro (uC Try.prog c74_24.eq_1) (And.intro (uC Try.prog c74_25.eq_1) (And.intro (uC Try.prog c74_26.eq_1) (And.intro (uC Try.prog c74_27.eq_1) (And.intro (uC Try.prog c74_28.eq_1) (And.intro (uC Try.prog c74_29.eq_1) (And.intro (uC Try.prog c74_30.eq_1) (And.intro (uC Try.prog c74_31.eq_1) (And.intro (uC Try.prog c74_32.eq_1) (And.intro (uR Try.prog c74_33.eq_1) (And.intro (uC Try.prog c74_34.eq_1) (And.intro (uC Try.prog c74_35.eq_1) (And.intro (uC Try.prog c74_36.eq_1) (And.intro (uC Try.prog c74_37.eq_1) (And.intro (uC Try.prog c74_38.eq_1) (And.intro (uR Try.prog c74_39.eq_1) (And.intro (uC Try.prog c74_40.eq_1) (And.intro (uC Try.prog c74_41.eq_1) (And.intro (uC Try.prog c74_42.eq_1) (And.intro (uC Try.prog c74_43.eq_1) (And.intro (uC Try.prog c74_44.eq_1) (uC Try.prog c74.eq_1)))))))))))))))))))))))))))))))))))))))))))))) := (And.intro (uR Try.prog c74_0.eq_1) (And.intro (uR Try.prog c74_1.eq_1) (And.intro (uR Try.prog c74_2.eq_1) (And.intro (uR Try.prog c74_3.eq_1) (And.intro (uC Try.prog c74_4.eq_1) (And.intro (uC Try.prog c74_5.eq_1) (And.intro (uC Try.prog c74_6.eq_1) (And.intro (uR Try.prog c74_7.eq_1) (And.intro (uR Try.prog c74_8.eq_1) (And.intro (uC Try.prog c74_9.eq_1) (And.intro (uC Try.prog c74_10.eq_1) (And.intro (uR Try.prog c74_11.eq_1) (And.intro (uR Try.prog c74_12.eq_1) (And.intro (uR Try.prog c74_13.eq_1) (And.intro (uR Try.prog c74_14.eq_1) (And.intro (uR Try.prog c74_15.eq_1) (And.intro (uR Try.prog c74_16.eq_1) (And.intro (uR Try.prog c74_17.eq_1) (And.intro (uR Try.prog c74_18.eq_1) (And.intro (uC Try.prog c74_19.eq_1) (And.intro (uC Try.prog c74_20.eq_1) (And.intro (uC Try.prog c74_21.eq_1) (And.intro (uR Try.prog c74_22.eq_1) (And.intro (uC Try.prog c74_23.eq_1) (And.intro (uC Try.prog c74_24.eq_1) (And.intro (uC Try.prog c74_25.eq_1) (And.intro (uC Try.prog c74_26.eq_1) (And.intro (uC Try.prog c74_27.eq_1) (And.intro (uC Try.prog c74_28.eq_1) (And.intro (uC Try.prog c74_29.eq_1) (And.intro (uC Try.prog c74_30.eq_1) (And.intro (uC Try.prog c74_31.eq_1) (And.intro (uC Try.prog c74_32.eq_1) (And.intro (uR Try.prog c74_33.eq_1) (And.intro (uC Try.prog c74_34.eq_1) (And.intro (uC Try.prog c74_35.eq_1) (And.intro (uC Try.prog c74_36.eq_1) (And.intro (uC Try.prog c74_37.eq_1) (And.intro (uC Try.prog c74_38.eq_1) (And.intro (uR Try.prog c74_39.eq_1) (And.intro (uC Try.prog c74_40.eq_1) (And.intro (uC Try.prog c74_41.eq_1) (And.intro (uC Try.prog c74_42.eq_1) (And.intro (uC Try.prog c74_43.eq_1) (And.intro (uC Try.prog c74_44.eq_1) (uC Try.prog c74.eq_1))))))))))))))))))))))))))))))))))))))))))))))
def v74 : List RV := [.t 4, .t 5, .t 6]
theorem s74 : slimF Try.prog Try.f74 = some (c74.bare, v74) := by kernel_rfl

def kAt (l : List Key) (i : Nat) : Key := l.getD i zKey
theorem kAt_eq (l : List Key) (i : Nat) (hi : i < l.length) : l[i] = kAt l i := by
  simp only [kAt, List.getD_eq_getElem?_getD, List.getElem?_eq_getElem hi, Option.getD_some]
def keyOkAt (l : List Key) (i : Nat) : Prop := (0 ≤ (kAt l i).pos ∧ (kAt l i).pos ≤ 10000000) ∧ (0 ≤ (kAt l i).to ∧ (kAt l i).to ≤ 10000000) ∧ (i = 0 ∨ (kAt l (i - 1)).pos < (kAt l i).pos)
instance (l : List Key) (i : Nat) : Decidable (keyOkAt l i) := by unfold keyOkAt; infer_instance
def keysOk (l : List Key) : Prop := 1 ≤ l.length ∧ l.length ≤ 100 ∧ ∀ i, i < l.length → keyOkAt l i
instance (l : List Key) : Decidable (keysOk l) := by unfold keysOk; infer_instance
theorem l1Frame_ok (h : Heap) (x : Int) : ACall Try.prog 99 [.int .i64 x] h fun r h' => h' = h ∧ r = .bool (decide (0 ≤ x ∧ x ≤ 10000000)) := by
  refine ACall.of Try.func99 s99 (of_decide_eq_true rfl) ?_
  simp (maxSteps := 4000000) (disch := omega) only [ah, am, Nat.reduceEqDiff, reduceCtorEq, Nat.reduceAdd, Nat.reduceLeDiff, Nat.reduceMul, Nat.reduceLT, if_true, if_false, true_and, and_true, and_self, Nat.reduceBEq, QOp.loads, boxO, bslO, buildO, cutL, fillV, putL, w99, v99]
  (repeat' first
    | (refine stepC.of (l1In_ok _ _ _ _) ?_; rintro _ _ ⟨rfl, rfl⟩; simp (maxSteps := 4000000) (disch := omega) only [ah, am, Nat.reduceEqDiff, reduceCtorEq, Nat.reduceAdd, Nat.reduceLeDiff, Nat.reduceMul, Nat.reduceLT, if_true, if_false, true_and, and_true, and_self, Nat.reduceBEq, QOp.loads, boxO, bslO, buildO, cutL, fillV, putL, i64w, w99, v99])
    | (refine stepG.cases (fun _ hp => ?_) (fun _ hp => ?_) <;> simp (maxSteps := 4000000) (disch := omega) only [hp, ah, am, Nat.reduceEqDiff, reduceCtorEq, Nat.reduceAdd, Nat.reduceLeDiff, Nat.reduceMul, Nat.reduceLT, if_true, if_false, true_and, and_true, and_self, Nat.reduceBEq, QOp.loads, boxO, bslO, buildO, cutL, fillV, putL, i64w, w99, v99])
    | (refine stepI.cases (fun _ hp => ?_) (fun _ hp => ?_) <;> simp (maxSteps := 4000000) (disch := omega) only [hp, ah, am, Nat.reduceEqDiff, reduceCtorEq, Nat.reduceAdd, Nat.reduceLeDiff, Nat.reduceMul, Nat.reduceLT, if_true, if_false, true_and, and_true, and_self, Nat.reduceBEq, QOp.loads, boxO, bslO, buildO, cutL, fillV, putL, i64w, w99, v99]))
theorem specKeysOk_ok (h : Heap) (v : Value) (l : List Key) (s : SlT h encKey 2 v l) (hl : l.length ≤ 281474976710656) : ACall Try.prog 73 [v] h fun r h' => h' = h ∧ r = .bool (decide (keysOk l)) := by
  refine ACall.of Try.func73 s73 (of_decide_eq_true rfl) ?_
  have R := s.rulesN
  by_cases h1 : l.length < 1
  · have h1' : decide ((l.length : Int) < 1) = true := decide_eq_true (by omega)
    simp (maxSteps := 4000000) (disch := omega) only [ah, am, Nat.reduceEqDiff, reduceCtorEq, Nat.reduceAdd, Nat.reduceLeDiff, Nat.reduceMul, Nat.reduceLT, if_true, if_false, true_and, and_true, and_self, Nat.reduceBEq, QOp.loads, boxO, bslO, buildO, cutL, fillV, putL, w73, v73, R, h1']
    rw [show decide (keysOk l) = false from decide_eq_false fun q => by have := q.1; omega]
  have h1' : decide ((l.length : Int) < 1) = false := decide_eq_false (by omega)
  by_cases h2 : 100 < l.length
  · have h2' : decide (100 < (l.length : Int)) = true := decide_eq_true (by omega)
    simp (maxSteps := 4000000) (disch := omega) only [ah, am, Nat.reduceEqDiff, reduceCtorEq, Nat.reduceAdd, Nat.reduceLeDiff, Nat.reduceMul, Nat.reduceLT, if_true, if_false, true_and, and_true, and_self, Nat.reduceBEq, QOp.loads, boxO, bslO, buildO, cutL, fillV, putL, w73, v73, R, h1', h2']
    rw [show decide (keysOk l) = false from decide_eq_false fun q => by have := q.2.1; omega]
  have h2' : decide (100 < (l.length : Int)) = false := decide_eq_false (by omega)
  simp (maxSteps := 4000000) (disch := omega) only [ah, am, Nat.reduceEqDiff, reduceCtorEq, Nat.reduceAdd, Nat.reduceLeDiff, Nat.reduceMul, Nat.reduceLT, if_true, if_false, true_and, and_true, and_self, Nat.reduceBEq, QOp.loads, boxO, bslO, buildO, cutL, fillV, putL, w73, v73, R, h1', h2']
  refine SW_loop_up (fun i E H => E = [(0, v), (3, .int .i64 i)] ∧ H = h ∧ ∀ j, j < i → keyOkAt l j) l.length 0 (by omega) ⟨rfl, rfl, fun j hj => absurd hj (by omega)⟩ ?_
  rintro i E H hi ⟨rfl, rfl, F⟩
  have W : IntKind.i64.wrap ((i : Int) + 1) = ((i + 1 : Nat) : Int) := i64e (by omega) (by omega)
  simp (maxSteps := 4000000) (disch := omega) only [ah, am, Nat.reduceEqDiff, reduceCtorEq, Nat.reduceAdd, Nat.reduceLeDiff, Nat.reduceMul, Nat.reduceLT, if_true, if_false, true_and, and_true, and_self, Nat.reduceBEq, QOp.loads, boxO, bslO, buildO, cutL, fillV, putL, w73, v73, R]
  refine stepI.split (fun hp => ?_) (fun hp => ?_)
  · have hi' : i < l.length := by omega
    have G : ∀ hx : i < l.length, l[i]'hx = kAt l i := fun hx => kAt_eq l i hx
    have G1 : ∀ hx : i - 1 < l.length, l[i - 1]'hx = kAt l (i - 1) := fun hx => kAt_eq l (i - 1) hx
    have no : ¬ keyOkAt l i → decide (keysOk l) = false := fun q => decide_eq_false fun k => q (k.2.2 i hi')
    have yes : keyOkAt l i → ∀ j, j < i + 1 → keyOkAt l j := by
      intro q j hj
      by_cases hji : j = i
      · subst hji; exact q
      · exact F j (by omega)
    simp (maxSteps := 4000000) (disch := omega) only [ah, am, Nat.reduceEqDiff, reduceCtorEq, Nat.reduceAdd, Nat.reduceLeDiff, Nat.reduceMul, Nat.reduceLT, if_true, if_false, true_and, and_true, and_self, Nat.reduceBEq, QOp.loads, boxO, bslO, buildO, cutL, fillV, putL, w73, v73, R, G, encKey]
    refine stepC.of (l1Frame_ok _ _) ?_
    rintro _ Hx ⟨hx, rfl⟩; rw [hx]; clear hx Hx
    by_cases k1 : 0 ≤ (kAt l i).pos ∧ (kAt l i).pos ≤ 10000000
    · have k1' : decide (0 ≤ (kAt l i).pos ∧ (kAt l i).pos ≤ 10000000) = true := decide_eq_true k1
      simp (maxSteps := 4000000) (disch := omega) only [ah, am, Nat.reduceEqDiff, reduceCtorEq, Nat.reduceAdd, Nat.reduceLeDiff, Nat.reduceMul, Nat.reduceLT, if_true, if_false, true_and, and_true, and_self, Nat.reduceBEq, QOp.loads, boxO, bslO, buildO, cutL, fillV, putL, w73, v73, R, G, encKey, k1']
      refine stepC.of (l1Frame_ok _ _) ?_
      rintro _ Hx ⟨hx, rfl⟩; rw [hx]; clear hx Hx
      by_cases k2 : 0 ≤ (kAt l i).to ∧ (kAt l i).to ≤ 10000000
      · have k2' : decide (0 ≤ (kAt l i).to ∧ (kAt l i).to ≤ 10000000) = true := decide_eq_true k2
        by_cases h0 : i = 0
        · have h0' : decide (0 < (i : Int)) = false := decide_eq_false (by omega)
          simp (maxSteps := 4000000) (disch := omega) only [ah, am, Nat.reduceEqDiff, reduceCtorEq, Nat.reduceAdd, Nat.reduceLeDiff, Nat.reduceMul, Nat.reduceLT, if_true, if_false, true_and, and_true, and_self, Nat.reduceBEq, QOp.loads, boxO, bslO, buildO, cutL, fillV, putL, w73, v73, R, G, encKey, k1', k2', h0', W]
          exact ⟨hi', yes ⟨k1, k2, .inl h0⟩⟩
        · have h0' : decide (0 < (i : Int)) = true := decide_eq_true (by omega)
          have W3 : IntKind.i64.wrap ((i : Int) - 1) = ((i - 1 : Nat) : Int) := i64e (by omega) (by omega)
          simp (maxSteps := 4000000) (disch := omega) only [ah, am, Nat.reduceEqDiff, reduceCtorEq, Nat.reduceAdd, Nat.reduceLeDiff, Nat.reduceMul, Nat.reduceLT, if_true, if_false, true_and, and_true, and_self, Nat.reduceBEq, QOp.loads, boxO, bslO, buildO, cutL, fillV, putL, w73, v73, R, G, G1, encKey, k1', k2', h0', W3, W]
          refine stepI.split (fun hq => ?_) (fun hq => ?_)
          · simp (maxSteps := 4000000) (disch := omega) only [ah, am, Nat.reduceEqDiff, reduceCtorEq, Nat.reduceAdd, Nat.reduceLeDiff, Nat.reduceMul, Nat.reduceLT, if_true, if_false, true_and, and_true, and_self, Nat.reduceBEq, QOp.loads, boxO, bslO, buildO, cutL, fillV, putL, w73, v73]
            rw [no fun q => by have := q.2.2; omega]
          · simp (maxSteps := 4000000) (disch := omega) only [ah, am, Nat.reduceEqDiff, reduceCtorEq, Nat.reduceAdd, Nat.reduceLeDiff, Nat.reduceMul, Nat.reduceLT, if_true, if_false, true_and, and_true, and_self, Nat.reduceBEq, QOp.loads, boxO, bslO, buildO, cutL, fillV, putL, w73, v73, W]
            exact ⟨hi', yes ⟨k1, k2, .inr (by omega)⟩⟩
      · have k2' : decide (0 ≤ (kAt l i).to ∧ (kAt l i).to ≤ 10000000) = false := decide_eq_false k2
        simp (maxSteps := 4000000) (disch := omega) only [ah, am, Nat.reduceEqDiff, reduceCtorEq, Nat.reduceAdd, Nat.reduceLeDiff, Nat.reduceMul, Nat.reduceLT, if_true, if_false, true_and, and_true, and_self, Nat.reduceBEq, QOp.loads, boxO, bslO, buildO, cutL, fillV, putL, w73, v73, R, G, encKey, k1', k2']
        rw [no fun q => k2 q.2.1]
    · have k1' : decide (0 ≤ (kAt l i).pos ∧ (kAt l i).pos ≤ 10000000) = false := decide_eq_false k1
      simp (maxSteps := 4000000) (disch := omega) only [ah, am, Nat.reduceEqDiff, reduceCtorEq, Nat.reduceAdd, Nat.reduceLeDiff, Nat.reduceMul, Nat.reduceLT, if_true, if_false, true_and, and_true, and_self, Nat.reduceBEq, QOp.loads, boxO, bslO, buildO, cutL, fillV, putL, w73, v73, R, G, encKey, k1']
      rw [no fun q => k1 q.1]
  · simp (maxSteps := 4000000) (disch := omega) only [ah, am, Nat.reduceEqDiff, reduceCtorEq, Nat.reduceAdd, Nat.reduceLeDiff, Nat.reduceMul, Nat.reduceLT, if_true, if_false, true_and, and_true, and_self, Nat.reduceBEq, QOp.loads, boxO, bslO, buildO, cutL, fillV, putL, w73, v73, R, W]
    obtain rfl : i = l.length := by omega
    rw [decide_eq_true ⟨by omega, by omega, F⟩]
theorem down_eq (a b : Int) (hb : 0 < b) : (if a.tmod b < 0 then a.tdiv b - 1 else a.tdiv b) = a / b := by
  have h1 := Int.mul_tdiv_add_tmod a b
  have h2 : a.tmod b < b := by have := Int.tmod_lt_of_pos a hb; exact this
  have h3 : -b < a.tmod b := by have := Int.lt_tmod_of_pos a hb; exact this
  split
  · rename_i h
    symm
    have := (Int.ediv_emod_unique (a := a) (b := b) (r := a.tmod b + b) (q := a.tdiv b - 1) hb).mpr ⟨by rw [Int.mul_sub]; omega, by omega, by omega⟩
    exact this.1
  · rename_i h
    symm
    have := (Int.ediv_emod_unique (a := a) (b := b) (r := a.tmod b) (q := a.tdiv b) hb).mpr ⟨by omega, by omega, by omega⟩
    exact this.1
theorem div_bound {x d M : Int} (hd : 1 ≤ d) (h1 : -M ≤ x) (h2 : x ≤ M) : -M ≤ x / d ∧ x / d ≤ M := by
  have hM : 0 ≤ M := by omega
  have hq : M ≤ M * d := by have := Int.mul_le_mul_of_nonneg_left hd hM; simpa using this
  refine ⟨Int.le_ediv_of_mul_le (by omega) ?_, Int.ediv_le_of_le_mul (by omega) (by omega)⟩
  rw [Int.neg_mul]; omega
theorem mul_bound {x y M N : Int} (h0 : 0 ≤ x) (h1 : x ≤ M) (h2 : -N ≤ y) (h3 : y ≤ N) : -(M * N) ≤ x * y ∧ x * y ≤ M * N := by
  have hN : 0 ≤ N := by omega
  have a := Int.mul_le_mul_of_nonneg_left h3 h0
  have b := Int.mul_le_mul_of_nonneg_left h2 h0
  have c := Int.mul_le_mul_of_nonneg_right h1 hN
  rw [Int.mul_neg] at b
  omega
theorem l8Down_ok (h : Heap) (a b : Int) (hb : 0 < b) (ha : -1000000000000000 ≤ a ∧ a ≤ 1000000000000000) : ACall Try.prog 100 [.int .i64 a, .int .i64 b] h fun r h' => h' = h ∧ r = .int .i64 (a / b) := by
  refine ACall.of Try.func100 s100 (of_decide_eq_true rfl) ?_
  have hb' : b ≠ 0 := by omega
  have D := down_eq a b hb
  have B := div_bound (x := a) (d := b) (M := 1000000000000000) (by omega) ha.1 ha.2
  by_cases hc : a.tmod b < 0
  · have hc' : decide (a.tmod b < 0) = true := decide_eq_true hc
    rw [if_pos hc] at D
    simp (maxSteps := 4000000) (disch := omega) only [ah, am, Nat.reduceEqDiff, reduceCtorEq, Nat.reduceAdd, Nat.reduceLeDiff, Nat.reduceMul, Nat.reduceLT, if_true, if_false, true_and, and_true, and_self, Nat.reduceBEq, QOp.loads, boxO, bslO, buildO, cutL, fillV, putL, w100, v100, hb', ne_eq, i64w, hc']
    rw [D]
  · have hc' : decide (a.tmod b < 0) = false := decide_eq_false hc
    rw [if_neg hc] at D
    simp (maxSteps := 4000000) (disch := omega) only [ah, am, Nat.reduceEqDiff, reduceCtorEq, Nat.reduceAdd, Nat.reduceLeDiff, Nat.reduceMul, Nat.reduceLT, if_true, if_false, true_and, and_true, and_self, Nat.reduceBEq, QOp.loads, boxO, bslO, buildO, cutL, fillV, putL, w100, v100, hb', ne_eq, i64w, hc']
    rw [D]
theorem keys_lt {l : List Key} (hk : keysOk l) : ∀ k, k < l.length → ∀ j, j < k → (kAt l j).pos < (kAt l k).pos := by
  intro k
  induction k with
  | zero => intro _ j hj; omega
  | succ k ih =>
    intro hk1 j hj
    have h1 := (hk.2.2 (k + 1) hk1).2.2
    rw [Nat.add_sub_cancel] at h1
    have h2 : (kAt l k).pos < (kAt l (k + 1)).pos := by omega
    by_cases hjk : j = k
    · subst hjk; exact h2
    · have := ih (by omega) j (by omega); omega
/-- What is seen at a frame. -/
def sp (l : List Key) (t : Int) : Int := match l.findIdx? (fun k => decide (t ≤ k.pos)) with
  | none => (kAt l (l.length - 1)).to
  | some n => if n = 0 ∨ (kAt l n).pos = t then (kAt l n).to else (kAt l (n - 1)).to + (t - (kAt l (n - 1)).pos) * ((kAt l n).to - (kAt l (n - 1)).to) / ((kAt l n).pos - (kAt l (n - 1)).pos)
theorem sp_none {l : List Key} {t : Int} (h : ∀ j, j < l.length → (kAt l j).pos < t) : sp l t = (kAt l (l.length - 1)).to := by
  have : l.findIdx? (fun k => decide (t ≤ k.pos)) = none := by
    rw [List.findIdx?_eq_none_iff]
    intro x hx
    obtain ⟨j, hj, rfl⟩ := List.getElem_of_mem hx
    have := h j hj; rw [kAt_eq l j hj]; exact decide_eq_false (by omega)
  unfold sp; rw [this]
theorem sp_some {l : List Key} {t : Int} {n : Nat} (hn : n < l.length) (h1 : t ≤ (kAt l n).pos) (h : ∀ j, j < n → (kAt l j).pos < t) :
    sp l t = if n = 0 ∨ (kAt l n).pos = t then (kAt l n).to else (kAt l (n - 1)).to + (t - (kAt l (n - 1)).pos) * ((kAt l n).to - (kAt l (n - 1)).to) / ((kAt l n).pos - (kAt l (n - 1)).pos) := by
  have : l.findIdx? (fun k => decide (t ≤ k.pos)) = some n := by
    rw [List.findIdx?_eq_some_iff_getElem]
    exact ⟨hn, by rw [kAt_eq l n hn]; exact decide_eq_true h1, fun j hj => by have := h j hj; rw [kAt_eq l j (by omega)]; simp; omega⟩
  unfold sp; rw [this]
def Tri (r : Value) (x : Int) : Prop := ∃ a b, r = .tuple #[.int .i64 x, .int .i64 a, .int .i64 b]
theorem l8At_ok (h : Heap) (v : Value) (l : List Key) (t : Int) (s : SlT h encKey 2 v l) (hk : keysOk l) (ht : 0 ≤ t ∧ t ≤ 10000000) : ACall Try.prog 74 [v, .int .i64 t] h fun r h' => Ext h h' ∧ Tri r (sp l t) := by
  refine ACall.of Try.func74 s74 (of_decide_eq_true rfl) ?_
  have R := s.rulesN
  have hn := hk.1; have hn2 := hk.2.1
  have G0 : ∀ hx : 0 < l.length, l[0]'hx = kAt l 0 := fun hx => kAt_eq l 0 hx
  have Z : ∀ k, iaV 2 v (.int k 0) = some (ptrAt v 0) := fun k => by have := R.2.1 k 0 (by omega); simpa using this
  have Z2 : ldV h (ptrAt v 0) = (encKey (kAt l 0))[0]? := by have := R.2.2.2.2.1 0 (by omega); rw [G0] at this; simpa using this
  have Z3 : ldV h (ptrAt v 1) = (encKey (kAt l 0))[1]? := by have := R.2.2.2.1 0 1 (by omega) (by omega); rw [G0] at this; simpa using this
  simp (maxSteps := 4000000) (disch := omega) only [ah, am, Nat.reduceEqDiff, reduceCtorEq, Nat.reduceAdd, Nat.reduceLeDiff, Nat.reduceMul, Nat.reduceLT, if_true, if_false, true_and, and_true, and_self, Nat.reduceBEq, QOp.loads, boxO, bslO, buildO, cutL, fillV, putL, w74, v74, R, Z, Z2, Z3, encKey]
  refine stepI.split (fun hp => ?_) (fun hp => ?_)
  · simp (maxSteps := 4000000) (disch := omega) only [ah, am, Nat.reduceEqDiff, reduceCtorEq, Nat.reduceAdd, Nat.reduceLeDiff, Nat.reduceMul, Nat.reduceLT, if_true, if_false, true_and, and_true, and_self, Nat.reduceBEq, QOp.loads, boxO, bslO, buildO, cutL, fillV, putL, w74, v74, R, Z, Z2, Z3, encKey]
    have hs : sp l t = (kAt l 0).to := by rw [sp_some (n := 0) (by omega) hp (fun j hj => absurd hj (by omega)), if_pos (.inl rfl)]
    rw [hs]
    exact ⟨Ext.refl h, _, _, rfl⟩
  · simp (maxSteps := 4000000) (disch := omega) only [ah, am, Nat.reduceEqDiff, reduceCtorEq, Nat.reduceAdd, Nat.reduceLeDiff, Nat.reduceMul, Nat.reduceLT, if_true, if_false, true_and, and_true, and_self, Nat.reduceBEq, QOp.loads, boxO, bslO, buildO, cutL, fillV, putL, w74, v74, R]
    refine SW_loop_up (fun i E H => E = [(0, v), (1, .int .i64 t), (7, .int .i64 l.length), (8, .int .i64 i)] ∧ Ext h H ∧ 1 ≤ i ∧ ∀ j, j < i → (kAt l j).pos ≤ t) l.length 1 hn ⟨rfl, Ext.refl h, by omega, fun j hj => by
      obtain rfl : j = 0 := by omega
      omega⟩ ?_
    rintro i E H hi ⟨rfl, e, h1, F⟩
    have R := (s.ext e).rulesN
    have W : IntKind.i64.wrap ((i : Int) + 1) = ((i + 1 : Nat) : Int) := i64e (by omega) (by omega)
    have W3 : IntKind.i64.wrap ((i : Int) - 1) = ((i - 1 : Nat) : Int) := i64e (by omega) (by omega)
    simp (maxSteps := 4000000) (disch := omega) only [ah, am, Nat.reduceEqDiff, reduceCtorEq, Nat.reduceAdd, Nat.reduceLeDiff, Nat.reduceMul, Nat.reduceLT, if_true, if_false, true_and, and_true, and_self, Nat.reduceBEq, QOp.loads, boxO, bslO, buildO, cutL, fillV, putL, w74, v74, R]
    refine stepI.split (fun hq => ?_) (fun hq => ?_)
    · have hi' : i < l.length := by omega
      have G : ∀ hx : i < l.length, l[i]'hx = kAt l i := fun hx => kAt_eq l i hx
      have G1 : ∀ hx : i - 1 < l.length, l[i - 1]'hx = kAt l (i - 1) := fun hx => kAt_eq l (i - 1) hx
      have KA := hk.2.2 (i - 1) (by omega)
      have KB := hk.2.2 i hi'
      have LT := keys_lt hk i hi' (i - 1) (by omega)
      have LE := F (i - 1) (by omega)
      have R' := (s.ext (e.trans (Ext.more H [encKey (kAt l (i - 1))]))).rulesN
      simp only [encKey] at R'
      simp (maxSteps := 4000000) (disch := omega) only [ah, am, Nat.reduceEqDiff, reduceCtorEq, Nat.reduceAdd, Nat.reduceLeDiff, Nat.reduceMul, Nat.reduceLT, if_true, if_false, true_and, and_true, and_self, Nat.reduceBEq, QOp.loads, boxO, bslO, buildO, cutL, fillV, putL, w74, v74, R, R', G, G1, W3, encKey]
      refine stepI.split (fun hb => ?_) (fun hb => ?_)
      · have KA1 := KA.1; have KA2 := KA.2.1; have KB1 := KB.1; have KB2 := KB.2.1
        have M := mul_bound (x := t - (kAt l (i - 1)).pos) (y := (kAt l i).to - (kAt l (i - 1)).to) (M := 10000000) (N := 10000000) (by omega) (by omega) (by have := KA.2.1; have := KB.2.1; omega) (by have := KA.2.1; have := KB.2.1; omega)
        have hd1 : 1 ≤ (kAt l i).pos - (kAt l (i - 1)).pos := by omega
        have DB := div_bound (x := (t - (kAt l (i - 1)).pos) * ((kAt l i).to - (kAt l (i - 1)).to)) (d := (kAt l i).pos - (kAt l (i - 1)).pos) (M := 100000000000000) hd1 (by omega) (by omega)
        have EM := Int.mul_ediv_add_emod ((t - (kAt l (i - 1)).pos) * ((kAt l i).to - (kAt l (i - 1)).to)) ((kAt l i).pos - (kAt l (i - 1)).pos)
        have EM1 := Int.emod_nonneg ((t - (kAt l (i - 1)).pos) * ((kAt l i).to - (kAt l (i - 1)).to)) (b := (kAt l i).pos - (kAt l (i - 1)).pos) (by omega)
        have EM2 := Int.emod_lt_of_pos ((t - (kAt l (i - 1)).pos) * ((kAt l i).to - (kAt l (i - 1)).to)) (b := (kAt l i).pos - (kAt l (i - 1)).pos) (by omega)
        have hs : t ≠ (kAt l (i - 1)).pos → sp l t = (kAt l (i - 1)).to + (t - (kAt l (i - 1)).pos) * ((kAt l i).to - (kAt l (i - 1)).to) / ((kAt l i).pos - (kAt l (i - 1)).pos) := by
          intro hne
          rw [sp_some (n := i) hi' (by omega) (fun j hj => by
            have := F j hj
            by_cases hj2 : j = i - 1
            · subst hj2; omega
            · have := keys_lt hk (i - 1) (by omega) j (by omega); omega), if_neg (by omega)]
        have hs2 : t = (kAt l (i - 1)).pos → sp l t = (kAt l (i - 1)).to := by
          intro he
          rw [sp_some (n := i - 1) (by omega) (by omega) (fun j hj => by have := keys_lt hk (i - 1) (by omega) j hj; omega), if_pos (.inr he.symm)]
        rw [Int.mul_comm] at EM
        clear KA KB
        have X1 : IntKind.i64.wrap (t - (kAt l (i - 1)).pos) = t - (kAt l (i - 1)).pos := i64w (by omega)
        have X2 : IntKind.i64.wrap ((kAt l i).to - (kAt l (i - 1)).to) = (kAt l i).to - (kAt l (i - 1)).to := i64w (by omega)
        generalize hxx : (t - (kAt l (i - 1)).pos) * ((kAt l i).to - (kAt l (i - 1)).to) = x at *
        generalize hdd : (kAt l i).pos - (kAt l (i - 1)).pos = d at *
        have X3 : IntKind.i64.wrap ((kAt l i).pos - (kAt l (i - 1)).pos) = d := by rw [hdd]; exact i64w (by omega)
        simp (maxSteps := 4000000) (disch := omega) only [ah, am, Nat.reduceEqDiff, reduceCtorEq, Nat.reduceAdd, Nat.reduceLeDiff, Nat.reduceMul, Nat.reduceLT, if_true, if_false, true_and, and_true, and_self, Nat.reduceBEq, QOp.loads, boxO, bslO, buildO, cutL, fillV, putL, w74, v74, R, G, G1, W3, encKey, X1, X2, X3, hxx, i64w]
        refine stepC.of (l8Down_ok _ _ _ (by omega) (by omega)) ?_
        rintro _ Hx ⟨hx, rfl⟩; rw [hx]; clear hx Hx
        generalize hqq : x / d = q at *
        simp (maxSteps := 4000000) (disch := omega) only [ah, am, Nat.reduceEqDiff, reduceCtorEq, Nat.reduceAdd, Nat.reduceLeDiff, Nat.reduceMul, Nat.reduceLT, if_true, if_false, true_and, and_true, and_self, Nat.reduceBEq, QOp.loads, boxO, bslO, buildO, cutL, fillV, putL, w74, v74, encKey]
        refine stepI.split (fun he => ?_) (fun he => ?_)
        · simp (maxSteps := 4000000) (disch := omega) only [ah, am, Nat.reduceEqDiff, reduceCtorEq, Nat.reduceAdd, Nat.reduceLeDiff, Nat.reduceMul, Nat.reduceLT, if_true, if_false, true_and, and_true, and_self, Nat.reduceBEq, QOp.loads, boxO, bslO, buildO, cutL, fillV, putL, w74, v74, encKey]
          rw [hs2 he]
          exact ⟨e.trans (Ext.more _ _), _, _, rfl⟩
        · simp (maxSteps := 4000000) (disch := omega) only [ah, am, Nat.reduceEqDiff, reduceCtorEq, Nat.reduceAdd, Nat.reduceLeDiff, Nat.reduceMul, Nat.reduceLT, if_true, if_false, true_and, and_true, and_self, Nat.reduceBEq, QOp.loads, boxO, bslO, buildO, cutL, fillV, putL, w74, v74, encKey, i64w]
          rw [hs he]
          exact ⟨e.trans (Ext.more _ _), _, _, rfl⟩
      · simp (maxSteps := 4000000) (disch := omega) only [ah, am, Nat.reduceEqDiff, reduceCtorEq, Nat.reduceAdd, Nat.reduceLeDiff, Nat.reduceMul, Nat.reduceLT, if_true, if_false, true_and, and_true, and_self, Nat.reduceBEq, QOp.loads, boxO, bslO, buildO, cutL, fillV, putL, w74, v74, W]
        refine ⟨hi', e.trans (Ext.more _ _), fun j hj => ?_⟩
        by_cases hji : j = i
        · subst hji; omega
        · exact F j (by omega)
    · have hin : i = l.length := by omega
      have G1 : ∀ hx : l.length - 1 < l.length, l[l.length - 1]'hx = kAt l (l.length - 1) := fun hx => kAt_eq l (l.length - 1) hx
      have W4 : IntKind.i64.wrap ((l.length : Int) - 1) = ((l.length - 1 : Nat) : Int) := i64e (by omega) (by omega)
      simp (maxSteps := 4000000) (disch := omega) only [ah, am, Nat.reduceEqDiff, reduceCtorEq, Nat.reduceAdd, Nat.reduceLeDiff, Nat.reduceMul, Nat.reduceLT, if_true, if_false, true_and, and_true, and_self, Nat.reduceBEq, QOp.loads, boxO, bslO, buildO, cutL, fillV, putL, w74, v74, R, G1, W4, encKey]
      have hs : sp l t = (kAt l (l.length - 1)).to := by
        by_cases he : (kAt l (l.length - 1)).pos = t
        · rw [sp_some (n := l.length - 1) (by omega) (by omega) (fun j hj => by have := keys_lt hk (l.length - 1) (by omega) j hj; omega), if_pos (.inr he)]
        · have := F (l.length - 1) (by omega)
          exact sp_none fun j hj => by
            by_cases hj2 : j = l.length - 1
            · subst hj2; omega
            · have := keys_lt hk (l.length - 1) (by omega) j (by omega); omega
      rw [hs]
      exact ⟨e, _, _, rfl⟩
end Go.Proofs.Ytknpombiomnkbaa
