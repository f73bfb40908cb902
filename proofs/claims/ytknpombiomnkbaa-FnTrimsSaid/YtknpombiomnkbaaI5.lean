import Derived.Test.YtknpombiomnkbaaI4
namespace Go.Proofs.Ytknpombiomnkbaa
open Go Go.Ah
set_option linter.unusedSimpArgs false
set_option linter.unusedVariables false
set_option maxRecDepth 10000
set_option maxHeartbeats 4000000
/-! 103 slices.Grow[[]loop.example/g00066/impl.Clip,loop.example/g00066/impl.Clip]: parameters 2, live [0, 1], slots [0:s, 1:n, 2:s, 3:n] -/
def c103_0 : List SOper := [⟨some 4, .q (.mv (.c (.slice none 0 0))), none⟩]
def c103_1 : List SOper := [⟨some 5, .q (.mv (.t 1)), none⟩, ⟨some 6, .q (.bin .lss (.t 5) (.c (.int .i64 0))), none⟩]
def c103_2 : List SOper := [⟨some 7, .q (.bad), none⟩, ⟨none, .q (.bad), none⟩]
def c103_3 : SCode := .cond (.t 6) (.region c103_2 [0, 1]) .skip
def c103_4 : SCode := .seq (.region c103_1 [0, 1, 6]) c103_3
def c103_5 : List SOper := [⟨some 8, .q (.mv (.t 1)), none⟩, ⟨some 9, .q (.mv (.t 0)), none⟩, ⟨some 10, .q (.cap (.t 9)), none⟩, ⟨some 11, .q (.mv (.t 0)), none⟩, ⟨some 12, .q (.len (.t 11)), none⟩, ⟨some 13, .q (.bin .sub (.t 10) (.t 12)), none⟩, ⟨some 14, .q (.bin .sub (.t 8) (.t 13)), none⟩, ⟨some 1, .q (.mv (.t 14)), none⟩]
def c103_6 : List SOper := [⟨some 15, .q (.mv (.t 1)), none⟩, ⟨some 16, .q (.bin .gtr (.t 15) (.c (.int .i64 0))), none⟩]
def c103_7 : List SOper := [⟨some 17, .q (.mv (.t 0)), none⟩, ⟨some 18, .q (.mv (.t 0)), none⟩, ⟨some 19, .q (.cap (.t 18)), none⟩, ⟨some 20, .q (.slc 3 (.t 17) none (some (.t 19))), none⟩, ⟨some 21, .q (.mv (.t 1)), none⟩, ⟨some 22, .a (.gro 24 3 (.t 20) (.t 21)), none⟩, ⟨some 23, .q (.mv (.t 0)), none⟩, ⟨some 24, .q (.len (.t 23)), none⟩, ⟨some 25, .q (.slc 3 (.t 22) none (some (.t 24))), none⟩, ⟨some 0, .q (.mv (.t 25)), none⟩]
def c103_8 : SCode := .cond (.t 16) (.region c103_7 [0]) .skip
def c103_9 : SCode := .seq (.region c103_6 [0, 1, 16]) c103_8
def c103_10 : SCode := .seq (.region c103_5 [0, 1]) c103_9
def c103_11 : List SOper := [⟨some 26, .q (.mv (.t 0)), none⟩, ⟨some 4, .q (.mv (.t 26)), none⟩]
def c103_12 : SCode := .seq (.region c103_11 [4]) .ret
def c103_13 : SCode := .seq c103_10 c103_12
def c103_14 : SCode := .seq c103_4 c103_13
def c103_15 : SCode := .seq (.region c103_0 [0, 1]) c103_14
def c103 : SCode := c103_15
theorem w103 : type_of% (And.intro (uR Try.prog c103_0.eq_1) (And.intro (uR Try.prog c103_1.eq_1) (And.intro (uR Try.prog c103_2.eq_1) (And.intro (uC Try.prog c103_3.eq_1) (And.intro (uC Try.prog c103_4.eq_1) (And.intro (uR Try.prog c103_5.eq_1) (And.intro (uR Try.prog c103_6.eq_1) (And.intro (uR Try.prog c103_7.eq_1) (And.intro (uC Try.prog c103_8.eq_1) (And.intro (uC Try.prog c103_9.eq_1) (And.intro (uC Try.prog c103_10.eq_1) (And.intro (uR Try.prog c103_11.eq_1) (And.intro (uC Try.prog c103_12.eq_1) (And.intro (uC Try.prog c103_13.eq_1) (And.intro (uC Try.prog c103_14.eq_1) (And.intro (uC Try.prog c103_15.eq_1) (uC Try.prog c103.eq_1))))))))))))))))) := (And.intro (uR Try.prog c103_0.eq_1) (And.intro (uR Try.prog c103_1.eq_1) (And.intro (uR Try.prog c103_2.eq_1) (And.intro (uC Try.prog c103_3.eq_1) (And.intro (uC Try.prog c103_4.eq_1) (And.intro (uR Try.prog c103_5.eq_1) (And.intro (uR Try.prog c103_6.eq_1) (And.intro (uR Try.prog c103_7.eq_1) (And.intro (uC Try.prog c103_8.eq_1) (And.intro (uC Try.prog c103_9.eq_1) (And.intro (uC Try.prog c103_10.eq_1) (And.intro (uR Try.prog c103_11.eq_1) (And.intro (uC Try.prog c103_12.eq_1) (And.intro (uC Try.prog c103_13.eq_1) (And.intro (uC Try.prog c103_14.eq_1) (And.intro (uC Try.prog c103_15.eq_1) (uC Try.prog c103.eq_1)))))))))))))))))
def v103 : List RV := [.t 4]
theorem s103 : slimF Try.prog Try.f103 = some (c103.bare, v103) := by kernel_rfl
/-! 93 slices.Concat[[]loop.example/g00066/impl.Clip,loop.example/g00066/impl.Clip]: parameters 1, live [0], slots [0:slices, 1:slices, 3:size, 4:_, 5:s, 6:newslice, 7:_, 8:s] -/
def c93_0 : List SOper := [⟨some 2, .q (.mv (.c (.slice none 0 0))), none⟩]
def c93_1 : List SOper := [⟨some 3, .q (.mv (.c (.int .i64 0))), none⟩]
def c93_2 : List SOper := [⟨some 9, .q (.mv (.t 0)), none⟩, ⟨some 10, .q (.len (.t 9)), none⟩, ⟨some 11, .q (.mv (.c (.int .i64 0))), none⟩]
def c93_3 : List SOper := [⟨some 12, .q (.bin .lss (.t 11) (.t 10)), none⟩]
def c93_4 : SCode := .cond (.t 12) .skip (.exit 0)
def c93_5 : List SOper := [⟨some 13, .q (.ia 1 (.t 9) (.t 11)), none⟩, ⟨some 14, .q (.ld (.t 13)), none⟩, ⟨some 5, .q (.mv (.t 14)), none⟩]
def c93_6 : List SOper := [⟨some 15, .q (.mv (.t 3)), none⟩, ⟨some 16, .q (.mv (.t 5)), none⟩, ⟨some 17, .q (.len (.t 16)), none⟩, ⟨some 18, .q (.bin .add (.t 15) (.t 17)), none⟩, ⟨some 3, .q (.mv (.t 18)), none⟩]
def c93_7 : List SOper := [⟨some 19, .q (.mv (.t 3)), none⟩, ⟨some 20, .q (.bin .lss (.t 19) (.c (.int .i64 0))), none⟩]
def c93_8 : List SOper := [⟨some 21, .q (.bad), none⟩, ⟨none, .q (.bad), none⟩]
def c93_9 : SCode := .cond (.t 20) (.region c93_8 [0, 3, 9, 10, 11]) .skip
def c93_10 : SCode := .seq (.region c93_7 [0, 3, 9, 10, 11, 20]) c93_9
def c93_11 : SCode := .seq (.region c93_6 [0, 3, 9, 10, 11]) c93_10
def c93_12 : SCode := .seq (.region c93_5 [0, 3, 5, 9, 10, 11]) c93_11
def c93_13 : SCode := .block 1 c93_12
def c93_14 : List SOper := [⟨some 22, .q (.bin .add (.t 11) (.c (.int .i64 1))), none⟩, ⟨some 11, .q (.mv (.t 22)), none⟩]
def c93_15 : SCode := .seq c93_13 (.region c93_14 [0, 3, 9, 10, 11])
def c93_16 : SCode := .seq c93_4 c93_15
def c93_17 : SCode := .seq (.region c93_3 [0, 3, 9, 10, 11, 12]) c93_16
def c93_18 : SCode := .loop c93_17
def c93_19 : SCode := .block 0 c93_18
def c93_20 : SCode := .seq (.region c93_2 [0, 3, 9, 10, 11]) c93_19
def c93_21 : List SOper := [⟨some 23, .q (.mv (.t 3)), none⟩, ⟨some 24, .e (.call 103 [(.c (.slice none 0 0)), (.t 23)]), none⟩, ⟨some 6, .q (.mv (.t 24)), none⟩]
def c93_22 : List SOper := [⟨some 25, .q (.mv (.t 0)), none⟩, ⟨some 26, .q (.len (.t 25)), none⟩, ⟨some 27, .q (.mv (.c (.int .i64 0))), none⟩]
def c93_23 : List SOper := [⟨some 28, .q (.bin .lss (.t 27) (.t 26)), none⟩]
def c93_24 : SCode := .cond (.t 28) .skip (.exit 2)
def c93_25 : List SOper := [⟨some 29, .q (.ia 1 (.t 25) (.t 27)), none⟩, ⟨some 30, .q (.ld (.t 29)), none⟩, ⟨some 8, .q (.mv (.t 30)), none⟩]
def c93_26 : List SOper := [⟨some 31, .q (.mv (.t 6)), none⟩, ⟨some 32, .q (.mv (.t 8)), none⟩, ⟨some 33, .e (.app 24 3 (.t 31) (.t 32)), none⟩, ⟨some 6, .q (.mv (.t 33)), none⟩]
def c93_27 : SCode := .seq (.region c93_25 [6, 8, 25, 26, 27]) (.region c93_26 [6, 25, 26, 27])
def c93_28 : SCode := .block 3 c93_27
def c93_29 : List SOper := [⟨some 34, .q (.bin .add (.t 27) (.c (.int .i64 1))), none⟩, ⟨some 27, .q (.mv (.t 34)), none⟩]
def c93_30 : SCode := .seq c93_28 (.region c93_29 [6, 25, 26, 27])
def c93_31 : SCode := .seq c93_24 c93_30
def c93_32 : SCode := .seq (.region c93_23 [6, 25, 26, 27, 28]) c93_31
def c93_33 : SCode := .loop c93_32
def c93_34 : SCode := .block 2 c93_33
def c93_35 : SCode := .seq (.region c93_22 [6, 25, 26, 27]) c93_34
def c93_36 : List SOper := [⟨some 35, .q (.mv (.t 6)), none⟩, ⟨some 2, .q (.mv (.t 35)), none⟩]
def c93_37 : SCode := .seq (.region c93_36 [2]) .ret
def c93_38 : SCode := .seq c93_35 c93_37
def c93_39 : SCode := .seq (.region c93_21 [0, 6]) c93_38
def c93_40 : SCode := .seq c93_20 c93_39
def c93_41 : SCode := .seq (.region c93_1 [0, 3]) c93_40
def c93_42 : SCode := .seq (.region c93_0 [0]) c93_41
def c93 : SCode := c93_42
theorem w93 : type_of% (And.intro (uR Try.prog c93_0.eq_1) (And.intro (uR Try.prog c93_1.eq_1) (And.intro (uR Try.prog c93_2.eq_1) (And.intro (uR Try.prog c93_3.eq_1) (And.intro (uC Try.prog c93_4.eq_1) (And.intro (uR Try.prog c93_5.eq_1) (And.intro (uR Try.prog c93_6.eq_1) (And.intro (uR Try.prog c93_7.eq_1) (And.intro (uR Try.prog c93_8.eq_1) (And.intro (uC Try.prog c93_9.eq_1) (And.intro (uC Try.prog c93_10.eq_1) (And.intro (uC Try.prog c93_11.eq_1) (And.intro (uC Try.prog c93_12.eq_1) (And.intro (uC Try.prog c93_13.eq_1) (And.intro (uR Try.prog c93_14.eq_1) (And.intro (uC Try.prog c93_15.eq_1) (And.intro (uC Try.prog c93_16.eq_1) (And.intro (uC Try.prog c93_17.eq_1) (And.intro (uC Try.prog c93_18.eq_1) (And.intro (uC Try.prog c93_19.eq_1) (And.intro (uC Try.prog c93_20.eq_1) (And.intro (uR Try.prog c93_21.eq_1) (And.intro (uR Try.prog c93_22.eq_1) (And.intro (uR Try.prog c93_23.eq_1) (And.intro (uC Try.prog c93_24.eq_1) (And.intro (uR Try.prog c93_25.eq_1) (And.intro (uR Try.prog c93_26.eq_1) (And.intro (uC Try.prog c93_27.eq_1) (And.intro (uC Try.prog c93_28.eq_1) (And.intro (uR Try.prog c93_29.eq_1) (And.intro (uC Try.prog c93_30.eq_1) (And.intro (uC Try.prog c93_31.eq_1) (And.intro (uC Try.prog c93_32.eq_1) (And.intro (uC Try.prog c93_33.eq_1) (And.intro (uC Try.prog c93_34.eq_1) (And.intro (uC Try.prog c93_35.eq_1) (And.intro (uR Try.prog c93_36.eq_1) (And.intro (uC Try.prog c93_37.eq_1) (And.intro (uC Try.prog c93_38.eq_1) (And.intro (uC Try.prog c93_39.eq_1) (And.intro (uC Try.prog c93_40.eq_1) (And.intro (uC Try.prog c93_41.eq_1) (And.intro (uC Try.prog c93_42.eq_1) (uC Try.prog c93.eq_1)))))))))))))))))))))))))))))))))))))))))))) := (And.intro (uR Try.prog c93_0.eq_1) (And.intro (uR Try.prog c93_1.eq_1) (And.intro (uR Try.prog c93_2.eq_1) (And.intro (uR Try.prog c93_3.eq_1) (And.intro (uC Try.prog c93_4.eq_1) (And.intro (uR Try.prog c93_5.eq_1) (And.intro (uR Try.prog c93_6.eq_1) (And.intro (uR Try.prog c93_7.eq_1) (And.intro (uR Try.prog c93_8.eq_1) (And.intro (uC Try.prog c93_9.eq_1) (And.intro (uC Try.prog c93_10.eq_1) (And.intro (uC Try.prog c93_11.eq_1) (And.intro (uC Try.prog c93_12.eq_1) (And.intro (uC Try.prog c93_13.eq_1) (And.intro (uR Try.prog c93_14.eq_1) (And.intro (uC Try.prog c93_15.eq_1) (And.intro (uC Try.prog c93_16.eq_1) (And.intro (uC Try.prog c93_17.eq_1) (And.intro (uC Try.prog c93_18.eq_1) (And.intro (uC Try.prog c93_19.eq_1) (And.intro (uC Try.prog c93_20.eq_1) (And.intro (uR Try.prog c93_21.eq_1) (And.intro (uR Try.prog c93_22.eq_1) (And.intro (uR Try.prog c93_23.eq_1) (And.intro (uC Try.prog c93_24.eq_1) (And.intro (uR Try.prog c93_25.eq_1) (And.intro (uR Try.prog c93_26.eq_1) (And.intro (uC Try.prog c93_27.eq_1) (And.intro (uC Try.prog c93_28.eq_1) (And.intro (uR Try.prog c93_29.eq_1) (And.intro (uC Try.prog c93_30.eq_1) (And.intro (uC Try.prog c93_31.eq_1) (And.intro (uC Try.prog c93_32.eq_1) (And.intro (uC Try.prog c93_33.eq_1) (And.intro (uC Try.prog c93_34.eq_1) (And.intro (uC Try.prog c93_35.eq_1) (And.intro (uR Try.prog c93_36.eq_1) (And.intro (uC Try.prog c93_37.eq_1) (And.intro (uC Try.prog c93_38.eq_1) (And.intro (uC Try.prog c93_39.eq_1) (And.intro (uC Try.prog c93_40.eq_1) (And.intro (uC Try.prog c93_41.eq_1) (And.intro (uC Try.prog c93_42.eq_1) (uC Try.prog c93.eq_1))))))))))))))))))))))))))))))))))))))))))))
def v93 : List RV := [.t 2]
theorem s93 : slimF Try.prog Try.f93 = some (c93.bare, v93) := by kernel_rfl
/-! 59 loop.example/g00066/impl.joined: parameters 1, live [0], slots [0:track, 1:track, 3:out, 4:_, 5:c, 6:n] -/
def c59_0 : List SOper := [⟨some 2, .q (.mv (.c (.slice none 0 0))), none⟩]
def c59_1 : List SOper := [⟨some 7, .a (.bsl 0 3 [] []), none⟩, ⟨some 3, .q (.mv (.t 7)), none⟩]
def c59_2 : List SOper := [⟨some 8, .q (.mv (.t 0)), none⟩, ⟨some 9, .q (.len (.t 8)), none⟩, ⟨some 10, .q (.mv (.c (.int .i64 0))), none⟩]
def c59_3 : List SOper := [⟨some 11, .q (.bin .lss (.t 10) (.t 9)), none⟩]
def c59_4 : SCode := .cond (.t 11) .skip (.exit 0)
def c59_5 : List SOper := [⟨some 12, .q (.ia 3 (.t 8) (.t 10)), none⟩, ⟨some 13, .q (.ldn 3 (.t 12)), none⟩, ⟨some 5, .a (.new [(.int .i64 0), (.int .i64 0), (.int .i64 0)]), none⟩, ⟨none, .e (.st 3 (.t 5) (.t 13)), none⟩]
def c59_6 : List SOper := [⟨some 14, .q (.mv (.t 3)), none⟩, ⟨some 15, .q (.len (.t 14)), none⟩, ⟨some 6, .q (.mv (.t 15)), none⟩]
def c59_7 : List SOper := [⟨some 16, .q (.mv (.t 6)), none⟩, ⟨some 17, .q (.bin .gtr (.t 16) (.c (.int .i64 0))), none⟩, ⟨some 18, .q (.mv (.t 17)), none⟩, ⟨some 19, .q (.ldn 3 (.t 5)), some (18, true)⟩, ⟨some 20, .q (.mv (.t 3)), some (18, true)⟩, ⟨some 21, .q (.mv (.t 6)), some (18, true)⟩, ⟨some 22, .q (.bin .sub (.t 21) (.c (.int .i64 1))), some (18, true)⟩, ⟨some 23, .q (.ia 3 (.t 20) (.t 22)), some (18, true)⟩, ⟨some 24, .q (.ldn 3 (.t 23)), some (18, true)⟩, ⟨some 25, .e (.call 94 [(.t 19), (.t 24)]), some (18, true)⟩, ⟨some 26, .q (.pick (.t 18) (.t 25) (.c (.bool false))), none⟩]
def c59_8 : List SOper := [⟨some 27, .q (.mv (.t 3)), none⟩, ⟨some 28, .q (.mv (.t 6)), none⟩, ⟨some 29, .q (.bin .sub (.t 28) (.c (.int .i64 1))), none⟩, ⟨some 30, .q (.ia 3 (.t 27) (.t 29)), none⟩, ⟨some 31, .q (.fa 2 (.t 30)), none⟩, ⟨some 32, .q (.ld (.t 31)), none⟩, ⟨some 33, .q (.fa 2 (.t 5)), none⟩, ⟨some 34, .q (.ld (.t 33)), none⟩, ⟨some 35, .q (.bin .add (.t 32) (.t 34)), none⟩, ⟨some 36, .q (.ia 3 (.t 27) (.t 29)), none⟩, ⟨some 37, .q (.fa 2 (.t 36)), none⟩, ⟨none, .e (.st 1 (.t 37) (.t 35)), none⟩]
def c59_9 : SCode := .seq (.region c59_8 [3, 8, 9, 10]) (.exit 1)
def c59_10 : SCode := .cond (.t 26) c59_9 .skip
def c59_11 : SCode := .seq (.region c59_7 [3, 5, 6, 8, 9, 10, 26]) c59_10
def c59_12 : SCode := .seq (.region c59_6 [3, 5, 6, 8, 9, 10]) c59_11
def c59_13 : List SOper := [⟨some 38, .q (.mv (.t 3)), none⟩, ⟨some 39, .q (.ldn 3 (.t 5)), none⟩, ⟨some 40, .a (.bsl 1 3 [(.int .i64 0), (.int .i64 0), (.int .i64 0)] [(0, 3, (.t 39))]), none⟩, ⟨some 41, .e (.app 24 3 (.t 38) (.t 40)), none⟩, ⟨some 3, .q (.mv (.t 41)), none⟩]
def c59_14 : SCode := .seq c59_12 (.region c59_13 [3, 8, 9, 10])
def c59_15 : SCode := .seq (.region c59_5 [3, 5, 8, 9, 10]) c59_14
def c59_16 : SCode := .block 1 c59_15
def c59_17 : List SOper := [⟨some 42, .q (.bin .add (.t 10) (.c (.int .i64 1))), none⟩, ⟨some 10, .q (.mv (.t 42)), none⟩]
def c59_18 : SCode := .seq c59_16 (.region c59_17 [3, 8, 9, 10])
def c59_19 : SCode := .seq c59_4 c59_18
def c59_20 : SCode := .seq (.region c59_3 [3, 8, 9, 10, 11]) c59_19
def c59_21 : SCode := .loop c59_20
def c59_22 : SCode := .block 0 c59_21
def c59_23 : SCode := .seq (.region c59_2 [3, 8, 9, 10]) c59_22
def c59_24 : List SOper := [⟨some 43, .q (.mv (.t 3)), none⟩, ⟨some 2, .q (.mv (.t 43)), none⟩]
def c59_25 : SCode := .seq (.region c59_24 [2]) .ret
def c59_26 : SCode := .seq c59_23 c59_25
def c59_27 : SCode := .seq (.region c59_1 [0, 3]) c59_26
def c59_28 : SCode := .seq (.region c59_0 [0]) c59_27
def c59 : SCode := c59_28
theorem w59 : type_of% (And.intro (uR Try.prog c59_0.eq_1) (And.intro (uR Try.prog c59_1.eq_1) (And.intro (uR Try.prog c59_2.eq_1) (And.intro (uR Try.prog c59_3.eq_1) (And.intro (uC Try.prog c59_4.eq_1) (And.intro (uR Try.prog c59_5.eq_1) (And.intro (uR Try.prog c59_6.eq_1) (And.intro (uR Try.prog c59_7.eq_1) (And.intro (uR Try.prog c59_8.eq_1) (And.intro (uC Try.prog c59_9.eq_1) (And.intro (uC Try.prog c59_10.eq_1) (And.intro (uC Try.prog c59_11.eq_1) (And.intro (uC Try.prog c59_12.eq_1) (And.intro (uR Try.prog c59_13.eq_1) (And.intro (uC Try.prog c59_14.eq_1) (And.intro (uC Try.prog c59_15.eq_1) (And.intro (uC Try.prog c59_16.eq_1) (And.intro (uR Try.prog c59_17.eq_1) (And.intro (uC Try.prog c59_18.eq_1) (And.intro (uC Try.prog c59_19.eq_1) (And.intro (uC Try.prog c59_20.eq_1) (And.intro (uC Try.prog c59_21.eq_1) (And.intro (uC Try.prog c59_22.eq_1) (And.intro (uC Try.prog c59_23.eq_1) (And.intro (uR Try.prog c59_24.eq_1) (And.intro (uC Try.prog c59_25.eq_1) (And.intro (uC Try.prog c59_26.eq_1) (And.intro (uC Try.prog c59_27.eq_1) (And.intro (uC Try.prog c59_28.eq_1) (uC Try.prog c59.eq_1)))))))))))))))))))))))))))))) := (And.intro (uR Try.prog c59_0.eq_1) (And.intro (uR Try.prog c59_1.eq_1) (And.intro (uR Try.prog c59_2.eq_1) (And.intro (uR Try.prog c59_3.eq_1) (And.intro (uC Try.prog c59_4.eq_1) (And.intro (uR Try.prog c59_5.eq_1) (And.intro (uR Try.prog c59_6.eq_1) (And.intro (uR Try.prog c59_7.eq_1) (And.intro (uR Try.prog c59_8.eq_1) (And.intro (uC Try.prog c59_9.eq_1) (And.intro (uC Try.prog c59_10.eq_1) (And.intro (uC Try.prog c59_11.eq_1) (And.intro (uC Try.prog c59_12.eq_1) (And.intro (uR Try.prog c59_13.eq_1) (And.intro (uC Try.prog c59_14.eq_1) (And.intro (uC Try.prog c59_15.eq_1) (And.intro (uC Try.prog c59_16.eq_1) (And.intro (uR Try.prog c59_17.eq_1) (And.intro (uC Try.prog c59_18.eq_1) (And.intro (uC Try.prog c59_19.eq_1) (And.intro (uC Try.prog c59_20.eq_1) (And.intro (uC Try.prog c59_21.eq_1) (And.intro (uC Try.prog c59_22.eq_1) (And.intro (uC Try.prog c59_23.eq_1) (And.intro (uR Try.prog c59_24.eq_1) (And.intro (uC Try.prog c59_25.eq_1) (And.intro (uC Try.prog c59_26.eq_1) (And.intro (uC Try.prog c59_27.eq_1) (And.intro (uC Try.prog c59_28.eq_1) (uC Try.prog c59.eq_1))))))))))))))))))))))))))))))
def v59 : List RV := [.t 2]
theorem s59 : slimF Try.prog Try.f59 = some (c59.bare, v59) := by kernel_rfl
/-! 54 loop.example/g00066/impl.edited: parameters 1, live [0], slots [0:pieces, 1:pieces, 4:out] -/
def c54_0 : List SOper := [⟨some 2, .q (.mv (.c (.slice none 0 0))), none⟩, ⟨some 3, .q (.mv (.c (.bool false))), none⟩]
def c54_1 : List SOper := [⟨some 5, .q (.mv (.t 0)), none⟩, ⟨some 6, .e (.call 93 [(.t 5)]), none⟩, ⟨some 7, .e (.call 59 [(.t 6)]), none⟩, ⟨some 4, .q (.mv (.t 7)), none⟩]
def c54_2 : List SOper := [⟨some 8, .q (.mv (.t 4)), none⟩, ⟨some 9, .e (.call 50 [(.t 8)]), none⟩]
def c54_3 : List SOper := [⟨some 10, .q (.mv (.t 4)), none⟩, ⟨some 2, .q (.mv (.t 10)), none⟩, ⟨some 3, .q (.mv (.c (.bool true))), none⟩]
def c54_4 : SCode := .seq (.region c54_3 [2, 3]) .ret
def c54_5 : SCode := .cond (.t 9) c54_4 .skip
def c54_6 : SCode := .seq (.region c54_2 [4, 9]) c54_5
def c54_7 : SCode := .seq (.region c54_1 [4]) c54_6
def c54_8 : List SOper := [⟨some 2, .q (.mv (.c (.slice none 0 0))), none⟩, ⟨some 3, .q (.mv (.c (.bool false))), none⟩]
def c54_9 : SCode := .seq (.region c54_8 [2, 3]) .ret
def c54_10 : SCode := .seq c54_7 c54_9
def c54_11 : SCode := .seq (.region c54_0 [0]) c54_10
def c54 : SCode := c54_11
theorem w54 : type_of% (And.intro (uR Try.prog c54_0.eq_1) (And.intro (uR Try.prog c54_1.eq_1) (And.intro (uR Try.prog c54_2.eq_1) (And.intro (uR Try.prog c54_3.eq_1) (And.intro (uC Try.prog c54_4.eq_1) (And.intro (uC Try.prog c54_5.eq_1) (And.intro (uC Try.prog c54_6.eq_1) (And.intro (uC Try.prog c54_7.eq_1) (And.intro (uR Try.prog c54_8.eq_1) (And.intro (uC Try.prog c54_9.eq_1) (And.intro (uC Try.prog c54_10.eq_1) (And.intro (uC Try.prog c54_11.eq_1) (uC Try.prog c54.eq_1))))))))))))) := (And.intro (uR Try.prog c54_0.eq_1) (And.intro (uR Try.prog c54_1.eq_1) (And.intro (uR Try.prog c54_2.eq_1) (And.intro (uR Try.prog c54_3.eq_1) (And.intro (uC Try.prog c54_4.eq_1) (And.intro (uC Try.prog c54_5.eq_1) (And.intro (uC Try.prog c54_6.eq_1) (And.intro (uC Try.prog c54_7.eq_1) (And.intro (uR Try.prog c54_8.eq_1) (And.intro (uC Try.prog c54_9.eq_1) (And.intro (uC Try.prog c54_10.eq_1) (And.intro (uC Try.prog c54_11.eq_1) (uC Try.prog c54.eq_1)))))))))))))
def v54 : List RV := [.t 2, .t 3]
theorem s54 : slimF Try.prog Try.f54 = some (c54.bare, v54) := by kernel_rfl

theorem follows_ok (h : Heap) (k a : Clip) (ha : clipIn 1000000000000000 a) : ACall Try.prog 94 [.agg (encClip k).toArray, .agg (encClip a).toArray] h
    fun r h' => Ext h h' ∧ r = .bool (decide (a.src = k.src ∧ (k.src = 0 ∨ a.inn + a.len = k.inn))) := by
  obtain ⟨a1, a2, a3⟩ := k; obtain ⟨b1, b2, b3⟩ := a
  simp only [clipIn] at ha
  refine ACall.of Try.func94 s94 (of_decide_eq_true rfl) ?_
  simp (maxSteps := 4000000) (disch := omega) only [ah, am, Nat.reduceEqDiff, reduceCtorEq, Nat.reduceAdd, Nat.reduceLeDiff, Nat.reduceMul, Nat.reduceLT, if_true, if_false, true_and, and_true, and_self, Nat.reduceBEq, QOp.loads, boxO, bslO, buildO, cutL, fillV, putL, w94, v94, encClip]
  (repeat' first
    | (refine stepC.of (isGap_ok' _ _ _ _) ?_; rintro _ _ ⟨rfl, rfl⟩; simp (maxSteps := 4000000) (disch := omega) only [ah, am, Nat.reduceEqDiff, reduceCtorEq, Nat.reduceAdd, Nat.reduceLeDiff, Nat.reduceMul, Nat.reduceLT, if_true, if_false, true_and, and_true, and_self, Nat.reduceBEq, QOp.loads, boxO, bslO, buildO, cutL, fillV, putL, i64w, w94, v94])
    | (refine stepG.cases (fun _ hp => ?_) (fun _ hp => ?_) <;> simp (maxSteps := 4000000) (disch := omega) only [hp, ah, am, Nat.reduceEqDiff, reduceCtorEq, Nat.reduceAdd, Nat.reduceLeDiff, Nat.reduceMul, Nat.reduceLT, if_true, if_false, true_and, and_true, and_self, Nat.reduceBEq, QOp.loads, boxO, bslO, buildO, cutL, fillV, putL, i64w, w94, v94])
    | (refine stepI.cases (fun _ hp => ?_) (fun _ hp => ?_) <;> simp (maxSteps := 4000000) (disch := omega) only [hp, ah, am, Nat.reduceEqDiff, reduceCtorEq, Nat.reduceAdd, Nat.reduceLeDiff, Nat.reduceMul, Nat.reduceLT, if_true, if_false, true_and, and_true, and_self, Nat.reduceBEq, QOp.loads, boxO, bslO, buildO, cutL, fillV, putL, i64w, w94, v94]))
  all_goals (refine ⟨Ext.more _ _, ?_⟩; refine bool_dec ?_; try simp only [decide_eq_true_eq, Bool.false_eq_true, false_and, and_false, true_and, and_true, false_iff, iff_false, true_iff, iff_true, not_false_eq_true, false_or, or_false, true_or, or_true]; first | done | omega | (refine Iff.intro (fun hq => ?_) (fun hq => ?_) <;> omega))
theorem Clone_ok (h : Heap) (v : Value) (l : List Clip) (s : SlT h encClip 3 v l) (hl : l.length ≤ 1100000) : ACall Try.prog 52 [v] h fun r h' => Fresh h h' encClip 3 r l := by
  refine ACall.of Try.func52 s52 (of_decide_eq_true rfl) ?_
  obtain ⟨b, eb, hb⟩ := s.eqs
  simp (maxSteps := 4000000) (disch := omega) only [ah, am, Nat.reduceEqDiff, reduceCtorEq, Nat.reduceAdd, Nat.reduceLeDiff, Nat.reduceMul, Nat.reduceLT, if_true, if_false, true_and, and_true, and_self, Nat.reduceBEq, QOp.loads, boxO, bslO, buildO, cutL, fillV, putL, w52, v52, eb]
  refine stepI.splitB (fun hk => ?_) (fun hk => ?_)
  · simp (maxSteps := 4000000) (disch := omega) only [ah, am, Nat.reduceEqDiff, reduceCtorEq, Nat.reduceAdd, Nat.reduceLeDiff, Nat.reduceMul, Nat.reduceLT, if_true, if_false, true_and, and_true, and_self, Nat.reduceBEq, QOp.loads, boxO, bslO, buildO, cutL, fillV, putL, w52, v52]
    rw [hb hk]; exact Fresh.nil h encClip_len (by omega)
  · obtain ⟨v2, H2, ea, F2⟩ := (Fresh.new0 h encClip_len (by omega)).app (s.ext (Ext.more h [[]])) (bytes := 24) (by simp; omega)
    simp (maxSteps := 4000000) (disch := omega) only [ah, am, Nat.reduceEqDiff, reduceCtorEq, Nat.reduceAdd, Nat.reduceLeDiff, Nat.reduceMul, Nat.reduceLT, if_true, if_false, true_and, and_true, and_self, Nat.reduceBEq, QOp.loads, boxO, bslO, buildO, cutL, fillV, putL, w52, v52, ea]
    exact F2
theorem Grow_ok (h : Heap) (n : Int) (hn : 0 ≤ n ∧ n ≤ 1000000000) : ACall Try.prog 103 [.slice none 0 0, .int .i64 n] h fun r h' => Fresh h h' encClip 3 r [] := by
  refine ACall.of Try.func103 s103 (of_decide_eq_true rfl) ?_
  have W : IntKind.i64.wrap (0 - ((0 : Nat) : Int)) = 0 := i64e (by omega) (by omega)
  have W2 : IntKind.i64.wrap (n - 0) = n := i64e (by omega) (by omega)
  have W3 : IntKind.i64.wrap (0 - 0) = 0 := i64e (by omega) (by omega)
  simp (maxSteps := 4000000) (disch := omega) only [ah, am, Nat.reduceEqDiff, reduceCtorEq, Nat.reduceAdd, Nat.reduceLeDiff, Nat.reduceMul, Nat.reduceLT, if_true, if_false, true_and, and_true, and_self, Nat.reduceBEq, QOp.loads, boxO, bslO, buildO, cutL, fillV, putL, w103, v103, lenV_slice, W, W2, W3]
  refine stepI.split (fun hk => ?_) (fun hk => ?_)
  · omega
  · simp (maxSteps := 4000000) (disch := omega) only [ah, am, Nat.reduceEqDiff, reduceCtorEq, Nat.reduceAdd, Nat.reduceLeDiff, Nat.reduceMul, Nat.reduceLT, if_true, if_false, true_and, and_true, and_self, Nat.reduceBEq, QOp.loads, boxO, bslO, buildO, cutL, fillV, putL, w103, v103, lenV_slice, W, W2, W3, Int.natCast_zero]
    refine stepI.split (fun hk => ?_) (fun hk => ?_)
    · simp (maxSteps := 4000000) (disch := omega) only [ah, am, Nat.reduceEqDiff, reduceCtorEq, Nat.reduceAdd, Nat.reduceLeDiff, Nat.reduceMul, Nat.reduceLT, if_true, if_false, true_and, and_true, and_self, Nat.reduceBEq, QOp.loads, boxO, bslO, buildO, cutL, fillV, putL, w103, v103, lenV_slice, W, groV_ok, slc_nil, slc_to0, Int.natCast_zero]
      exact Fresh.new0 h encClip_len (by omega)
    · simp (maxSteps := 4000000) (disch := omega) only [ah, am, Nat.reduceEqDiff, reduceCtorEq, Nat.reduceAdd, Nat.reduceLeDiff, Nat.reduceMul, Nat.reduceLT, if_true, if_false, true_and, and_true, and_self, Nat.reduceBEq, QOp.loads, boxO, bslO, buildO, cutL, fillV, putL, w103, v103]
      exact Fresh.nil h encClip_len (by omega)
/-- A row of slices. -/
structure Rows (h : Heap) (v : Value) (ls : List (List Clip)) : Prop where
  rows : ∃ vs : List Value, SlT h encV 1 v vs ∧ vs.length = ls.length ∧ ∀ i (h1 : i < vs.length) (h2 : i < ls.length), SlT h encClip 3 vs[i] ls[i]
theorem flat_take (ls : List (List Clip)) (i : Nat) (hi : i < ls.length) : (ls.take (i + 1)).flatten = (ls.take i).flatten ++ ls[i] := by
  rw [List.take_succ_eq_append_getElem hi, List.flatten_append]; simp
theorem flat_take_le (ls : List (List Clip)) (i : Nat) : (ls.take i).flatten.length ≤ ls.flatten.length := by
  conv => rhs; rw [← List.take_append_drop i ls]
  rw [List.flatten_append, List.length_append]; omega
theorem Concat_ok (h : Heap) (v : Value) (ls : List (List Clip)) (s : Rows h v ls) (hn : ls.length ≤ 1100000) (hl : ls.flatten.length ≤ 1100000) :
    ACall Try.prog 93 [v] h fun r h' => Fresh h h' encClip 3 r ls.flatten := by
  obtain ⟨vs, s, hvl, hs⟩ := s
  refine ACall.of Try.func93 s93 (of_decide_eq_true rfl) ?_
  have R := s.rulesN
  simp (maxSteps := 4000000) (disch := omega) only [ah, am, Nat.reduceEqDiff, reduceCtorEq, Nat.reduceAdd, Nat.reduceLeDiff, Nat.reduceMul, Nat.reduceLT, if_true, if_false, true_and, and_true, and_self, Nat.reduceBEq, QOp.loads, boxO, bslO, buildO, cutL, fillV, putL, w93, v93, R]
  refine SW_loop_up (fun i E H => E = [(0, v), (3, .int .i64 ((ls.take i).flatten.length : Nat)), (9, v), (10, .int .i64 vs.length), (11, .int .i64 i)] ∧ H = h) vs.length 0 (by omega) ⟨by simp, rfl⟩ ?_
  rintro i E H hi ⟨rfl, rfl⟩
  have W : IntKind.i64.wrap ((i : Int) + 1) = ((i + 1 : Nat) : Int) := i64e (by omega) (by omega)
  simp (maxSteps := 4000000) (disch := omega) only [ah, am, Nat.reduceEqDiff, reduceCtorEq, Nat.reduceAdd, Nat.reduceLeDiff, Nat.reduceMul, Nat.reduceLT, if_true, if_false, true_and, and_true, and_self, Nat.reduceBEq, QOp.loads, boxO, bslO, buildO, cutL, fillV, putL, w93, v93, R]
  refine stepI.split (fun hp => ?_) (fun hp => ?_)
  · have hi1 : i < vs.length := by omega
    have hi2 : i < ls.length := by omega
    have R2 := (hs i hi1 hi2).rules
    have B := flat_take_le ls (i + 1)
    rw [flat_take ls i hi2, List.length_append] at B
    have W2 : IntKind.i64.wrap (((ls.take i).flatten.length : Nat) + (ls[i].length : Nat)) = ((ls.take (i + 1)).flatten.length : Nat) := by rw [flat_take ls i hi2, List.length_append]; exact i64e (by omega) (by omega)
    simp (maxSteps := 4000000) (disch := omega) only [ah, am, Nat.reduceEqDiff, reduceCtorEq, Nat.reduceAdd, Nat.reduceLeDiff, Nat.reduceMul, Nat.reduceLT, if_true, if_false, true_and, and_true, and_self, Nat.reduceBEq, QOp.loads, boxO, bslO, buildO, cutL, fillV, putL, w93, v93, R, W, R2, encV, W2]
    refine stepI.split (fun hk => ?_) (fun hk => ?_)
    · omega
    · simp (maxSteps := 4000000) (disch := omega) only [ah, am, Nat.reduceEqDiff, reduceCtorEq, Nat.reduceAdd, Nat.reduceLeDiff, Nat.reduceMul, Nat.reduceLT, if_true, if_false, true_and, and_true, and_self, Nat.reduceBEq, QOp.loads, boxO, bslO, buildO, cutL, fillV, putL, w93, v93, W]
      exact hi1
  · simp (maxSteps := 4000000) (disch := omega) only [ah, am, Nat.reduceEqDiff, reduceCtorEq, Nat.reduceAdd, Nat.reduceLeDiff, Nat.reduceMul, Nat.reduceLT, if_true, if_false, true_and, and_true, and_self, Nat.reduceBEq, QOp.loads, boxO, bslO, buildO, cutL, fillV, putL, w93, v93, R, W]
    obtain rfl : i = vs.length := by omega
    rw [hvl, List.take_length]
    refine stepC.of (Grow_ok H _ (by omega)) ?_
    intro r H1 F1
    have R := (s.ext F1.1).rulesN
    simp (maxSteps := 4000000) (disch := omega) only [ah, am, Nat.reduceEqDiff, reduceCtorEq, Nat.reduceAdd, Nat.reduceLeDiff, Nat.reduceMul, Nat.reduceLT, if_true, if_false, true_and, and_true, and_self, Nat.reduceBEq, QOp.loads, boxO, bslO, buildO, cutL, fillV, putL, w93, v93, R]
    refine SW_loop_up (fun i E H2 => ∃ ov, E = [(6, ov), (25, v), (26, .int .i64 vs.length), (27, .int .i64 i)] ∧ Fresh H H2 encClip 3 ov (ls.take i).flatten) vs.length 0 (by omega) ⟨r, by simp [hvl], by simpa using F1⟩ ?_
    rintro i E H2 hi ⟨ov, rfl, F⟩
    have R := (s.ext F.1).rulesN
    have W : IntKind.i64.wrap ((i : Int) + 1) = ((i + 1 : Nat) : Int) := i64e (by omega) (by omega)
    simp (maxSteps := 4000000) (disch := omega) only [ah, am, Nat.reduceEqDiff, reduceCtorEq, Nat.reduceAdd, Nat.reduceLeDiff, Nat.reduceMul, Nat.reduceLT, if_true, if_false, true_and, and_true, and_self, Nat.reduceBEq, QOp.loads, boxO, bslO, buildO, cutL, fillV, putL, w93, v93, R]
    refine stepI.split (fun hp => ?_) (fun hp => ?_)
    · have hi1 : i < vs.length := by omega
      have hi2 : i < ls.length := by omega
      have B := flat_take_le ls (i + 1)
      rw [flat_take ls i hi2, List.length_append] at B
      obtain ⟨v2, H3, ea, F2⟩ := F.app ((hs i hi1 hi2).ext F.1) (bytes := 24) (by omega)
      simp (maxSteps := 4000000) (disch := omega) only [ah, am, Nat.reduceEqDiff, reduceCtorEq, Nat.reduceAdd, Nat.reduceLeDiff, Nat.reduceMul, Nat.reduceLT, if_true, if_false, true_and, and_true, and_self, Nat.reduceBEq, QOp.loads, boxO, bslO, buildO, cutL, fillV, putL, w93, v93, R, W, encV, ea]
      exact ⟨hi1, _, rfl, by rw [flat_take ls i hi2]; exact F2⟩
    · simp (maxSteps := 4000000) (disch := omega) only [ah, am, Nat.reduceEqDiff, reduceCtorEq, Nat.reduceAdd, Nat.reduceLeDiff, Nat.reduceMul, Nat.reduceLT, if_true, if_false, true_and, and_true, and_self, Nat.reduceBEq, QOp.loads, boxO, bslO, buildO, cutL, fillV, putL, w93, v93, R, W]
      obtain rfl : i = vs.length := by omega
      rw [hvl, List.take_length] at F
      exact F
theorem joined_ok (h : Heap) (v : Value) (l : List Clip) (s : SlT h encClip 3 v l) (hl : l.length ≤ 1100000) (ho : ∀ k ∈ l, clipIn 10000000 k) : ACall Try.prog 59 [v] h fun r h' => Fresh h h' encClip 3 r (join l) := by
  refine ACall.of Try.func59 s59 (of_decide_eq_true rfl) ?_
  have R := s.rulesN
  simp (maxSteps := 4000000) (disch := omega) only [ah, am, Nat.reduceEqDiff, reduceCtorEq, Nat.reduceAdd, Nat.reduceLeDiff, Nat.reduceMul, Nat.reduceLT, if_true, if_false, true_and, and_true, and_self, Nat.reduceBEq, QOp.loads, boxO, bslO, buildO, cutL, fillV, putL, w59, v59, R]
  refine SW_loop_up (fun i E H => ∃ ov, E = [(3, ov), (8, v), (9, .int .i64 l.length), (10, .int .i64 i)] ∧ Fresh h H encClip 3 ov (join (l.take i))) l.length 0 (by omega) ⟨_, rfl, Fresh.new0 h encClip_len (by omega)⟩ ?_
  rintro i E H hi ⟨ov, rfl, F⟩
  have R := (s.ext F.1).rulesN
  have W : IntKind.i64.wrap ((i : Int) + 1) = ((i + 1 : Nat) : Int) := i64e (by omega) (by omega)
  simp (maxSteps := 4000000) (disch := omega) only [ah, am, Nat.reduceEqDiff, reduceCtorEq, Nat.reduceAdd, Nat.reduceLeDiff, Nat.reduceMul, Nat.reduceLT, if_true, if_false, true_and, and_true, and_self, Nat.reduceBEq, QOp.loads, boxO, bslO, buildO, cutL, fillV, putL, w59, v59, R]
  refine stepI.split (fun hp => ?_) (fun hp => ?_)
  · have hi' : i < l.length := by omega
    have J := join_take l i hi'
    have F' := F.ext (Ext.more H [encClip l[i]])
    have R' := F'.slt.rules
    have L := join_length (l.take i)
    rw [List.length_take] at L
    have B := join_in (l := l.take i) (fun k hk => ho k (List.mem_of_mem_take hk))
    have Bk := ho _ (List.getElem_mem hi')
    generalize join (l.take i) = out at *
    have T : ((out.length : Int) - 1).toNat = out.length - 1 := by omega
    simp only [encClip] at R'
    by_cases hn : 0 < out.length
    · have Bo := B _ (List.getElem_mem (l := out) (n := out.length - 1) (by omega))
      simp only [clipIn, List.length_take] at Bo Bk
      have fo := follows_ok (H.more [encClip l[i]]) l[i] out[out.length - 1] (by simp only [clipIn]; omega)
      simp only [encClip] at fo
      have hn' : decide (0 < (out.length : Int)) = true := decide_eq_true (by omega)
      simp (maxSteps := 4000000) (disch := omega) only [ah, am, Nat.reduceEqDiff, reduceCtorEq, Nat.reduceAdd, Nat.reduceLeDiff, Nat.reduceMul, Nat.reduceLT, if_true, if_false, true_and, and_true, and_self, Nat.reduceBEq, QOp.loads, boxO, bslO, buildO, cutL, fillV, putL, w59, v59, R, R', W, encClip, i64w, T, hn']
      refine stepC.of fo ?_
      rintro _ H2 ⟨e2, rfl⟩
      have X := e2.ld0
      have F2 := F'.ext e2
      have R2 := F2.slt.rules
      simp (maxSteps := 4000000) (disch := omega) only [ah, am, Nat.reduceEqDiff, reduceCtorEq, Nat.reduceAdd, Nat.reduceLeDiff, Nat.reduceMul, Nat.reduceLT, if_true, if_false, true_and, and_true, and_self, Nat.reduceBEq, QOp.loads, boxO, bslO, buildO, cutL, fillV, putL, w59, v59, R2, W, encClip, i64w, T, hn', X]
      refine stepI.cases (fun hc hp => ?_) (fun hc hp => ?_)
      · obtain ⟨H3, es, F3, -⟩ := F2.setF (j := out.length - 1) (f := 2) (n := 1) (by omega) (x := ⟨(out[out.length - 1]).src, (out[out.length - 1]).inn, (out[out.length - 1]).len + l[i].len⟩)
          (y := .int .i64 ((out[out.length - 1]).len + l[i].len)) (by simp [encClip, splice, cells_int]) (by omega) rfl (by omega) rfl
        simp (maxSteps := 4000000) (disch := omega) only [ah, am, Nat.reduceEqDiff, reduceCtorEq, Nat.reduceAdd, Nat.reduceLeDiff, Nat.reduceMul, Nat.reduceLT, if_true, if_false, true_and, and_true, and_self, Nat.reduceBEq, QOp.loads, boxO, bslO, buildO, cutL, fillV, putL, w59, v59, hp, R2, W, encClip, i64w, T, hn', X, es]
        refine ⟨by omega, _, rfl, ?_⟩; rw [J, joinStep, dif_pos hn, if_pos hc]; exact F3
      · obtain ⟨v2, H3, ea, F3⟩ := F2.app1 l[i] (bytes := 24) (by omega)
        simp only [encClip] at ea
        simp (maxSteps := 4000000) (disch := omega) only [ah, am, Nat.reduceEqDiff, reduceCtorEq, Nat.reduceAdd, Nat.reduceLeDiff, Nat.reduceMul, Nat.reduceLT, if_true, if_false, true_and, and_true, and_self, Nat.reduceBEq, QOp.loads, boxO, bslO, buildO, cutL, fillV, putL, w59, v59, hp, R2, W, encClip, i64w, T, hn', X, ea]
        refine ⟨by omega, _, rfl, ?_⟩; rw [J, joinStep, dif_pos hn, if_neg hc]; exact F3
    · have hn' : decide (0 < (out.length : Int)) = false := decide_eq_false (by omega)
      obtain ⟨v2, H2, ea, F2⟩ := F'.app1 l[i] (bytes := 24) (by omega)
      simp only [more_more, size_more, List.cons_append, List.nil_append, List.length_cons, List.length_nil, Nat.zero_add, encClip] at ea
      simp (maxSteps := 4000000) (disch := omega) only [ah, am, Nat.reduceEqDiff, reduceCtorEq, Nat.reduceAdd, Nat.reduceLeDiff, Nat.reduceMul, Nat.reduceLT, if_true, if_false, true_and, and_true, and_self, Nat.reduceBEq, QOp.loads, boxO, bslO, buildO, cutL, fillV, putL, w59, v59, R, R', W, encClip, i64w, T, hn', ea]
      refine ⟨by omega, _, rfl, ?_⟩; rw [J, joinStep, dif_neg hn]; exact F2
  · simp (maxSteps := 4000000) (disch := omega) only [ah, am, Nat.reduceEqDiff, reduceCtorEq, Nat.reduceAdd, Nat.reduceLeDiff, Nat.reduceMul, Nat.reduceLT, if_true, if_false, true_and, and_true, and_self, Nat.reduceBEq, QOp.loads, boxO, bslO, buildO, cutL, fillV, putL, w59, v59, R, W]
    obtain rfl : i = l.length := by omega
    rw [List.take_length] at F
    exact F
def editI (l : List Clip) : List Clip × Bool := if trackOk (join l) then (join l, true) else ([], false)
theorem edited_ok (h : Heap) (v : Value) (ls : List (List Clip)) (s : Rows h v ls) (hn : ls.length ≤ 1100000) (hl : ls.flatten.length ≤ 1100000) (ho : ∀ k ∈ ls.flatten, clipIn 10000000 k) :
    ACall Try.prog 54 [v] h fun r h' => Pair h h' r (editI ls.flatten) := by
  refine ACall.of Try.func54 s54 (of_decide_eq_true rfl) ?_
  simp (maxSteps := 4000000) (disch := omega) only [ah, am, Nat.reduceEqDiff, reduceCtorEq, Nat.reduceAdd, Nat.reduceLeDiff, Nat.reduceMul, Nat.reduceLT, if_true, if_false, true_and, and_true, and_self, Nat.reduceBEq, QOp.loads, boxO, bslO, buildO, cutL, fillV, putL, w54, v54]
  refine stepC.of (Concat_ok _ _ _ s hn hl) ?_
  intro r H1 F1
  simp (maxSteps := 4000000) (disch := omega) only [ah, am, Nat.reduceEqDiff, reduceCtorEq, Nat.reduceAdd, Nat.reduceLeDiff, Nat.reduceMul, Nat.reduceLT, if_true, if_false, true_and, and_true, and_self, Nat.reduceBEq, QOp.loads, boxO, bslO, buildO, cutL, fillV, putL, w54, v54]
  refine stepC.of (joined_ok _ _ _ F1.slt hl ho) ?_
  intro r2 H2 F2
  simp (maxSteps := 4000000) (disch := omega) only [ah, am, Nat.reduceEqDiff, reduceCtorEq, Nat.reduceAdd, Nat.reduceLeDiff, Nat.reduceMul, Nat.reduceLT, if_true, if_false, true_and, and_true, and_self, Nat.reduceBEq, QOp.loads, boxO, bslO, buildO, cutL, fillV, putL, w54, v54]
  refine stepC.of (implTrackOk_ok _ _ _ F2.slt (by have := join_length ls.flatten; omega)) ?_
  rintro _ H3 ⟨e3, rfl⟩
  simp (maxSteps := 4000000) (disch := omega) only [ah, am, Nat.reduceEqDiff, reduceCtorEq, Nat.reduceAdd, Nat.reduceLeDiff, Nat.reduceMul, Nat.reduceLT, if_true, if_false, true_and, and_true, and_self, Nat.reduceBEq, QOp.loads, boxO, bslO, buildO, cutL, fillV, putL, w54, v54]
  refine stepI.split (fun hk => ?_) (fun hk => ?_)
  · simp (maxSteps := 4000000) (disch := omega) only [ah, am, Nat.reduceEqDiff, reduceCtorEq, Nat.reduceAdd, Nat.reduceLeDiff, Nat.reduceMul, Nat.reduceLT, if_true, if_false, true_and, and_true, and_self, Nat.reduceBEq, QOp.loads, boxO, bslO, buildO, cutL, fillV, putL, w54, v54]
    have hq : editI ls.flatten = (join ls.flatten, true) := if_pos hk
    rw [hq]
    exact ⟨_, rfl, (F2.ext e3).mono F1.1⟩
  · simp (maxSteps := 4000000) (disch := omega) only [ah, am, Nat.reduceEqDiff, reduceCtorEq, Nat.reduceAdd, Nat.reduceLeDiff, Nat.reduceMul, Nat.reduceLT, if_true, if_false, true_and, and_true, and_self, Nat.reduceBEq, QOp.loads, boxO, bslO, buildO, cutL, fillV, putL, w54, v54]
    have hq : editI ls.flatten = ([], false) := if_neg hk
    rw [hq]
    exact ⟨_, rfl, (Fresh.nil H3 encClip_len (by omega)).mono (F1.1.trans (F2.1.trans e3))⟩
end Go.Proofs.Ytknpombiomnkbaa
