import Derived.Test.YtbnppofkpgfhnaaI4
namespace Go.Proofs.Ytbnppofkpgfhnaa
open Go Go.Ah
set_option linter.unusedSimpArgs false
set_option linter.unusedVariables false
set_option maxRecDepth 10000
set_option maxHeartbeats 4000000
/-! 94 slices.Grow[[]loop.example/g00066/impl.Clip,loop.example/g00066/impl.Clip]: parameters 2, live [0, 1], slots [0:s, 1:n, 2:s, 3:n] -/
def c94_0 : List SOper := [⟨some 4, .q (.mv (.c (.slice none 0 0))), none⟩]
def c94_1 : List SOper := [⟨some 5, .q (.mv (.t 1)), none⟩, ⟨some 6, .q (.bin .lss (.t 5) (.c (.int .i64 0))), none⟩]
def c94_2 : List SOper := [⟨some 7, .q (.bad), none⟩, ⟨none, .q (.bad), none⟩]
def c94_3 : SCode := .cond (.t 6) (.region c94_2 [0, 1]) .skip
def c94_4 : SCode := .seq (.region c94_1 [0, 1, 6]) c94_3
def c94_5 : List SOper := [⟨some 8, .q (.mv (.t 1)), none⟩, ⟨some 9, .q (.mv (.t 0)), none⟩, ⟨some 10, .q (.cap (.t 9)), none⟩, ⟨some 11, .q (.mv (.t 0)), none⟩, ⟨some 12, .q (.len (.t 11)), none⟩, ⟨some 13, .q (.bin .sub (.t 10) (.t 12)), none⟩, ⟨some 14, .q (.bin .sub (.t 8) (.t 13)), none⟩, ⟨some 1, .q (.mv (.t 14)), none⟩]
def c94_6 : List SOper := [⟨some 15, .q (.mv (.t 1)), none⟩, ⟨some 16, .q (.bin .gtr (.t 15) (.c (.int .i64 0))), none⟩]
def c94_7 : List SOper := [⟨some 17, .q (.mv (.t 0)), none⟩, ⟨some 18, .q (.mv (.t 0)), none⟩, ⟨some 19, .q (.cap (.t 18)), none⟩, ⟨some 20, .q (.slc 3 (.t 17) none (some (.t 19))), none⟩, ⟨some 21, .q (.mv (.t 1)), none⟩, ⟨some 22, .a (.gro 24 3 (.t 20) (.t 21)), none⟩, ⟨some 23, .q (.mv (.t 0)), none⟩, ⟨some 24, .q (.len (.t 23)), none⟩, ⟨some 25, .q (.slc 3 (.t 22) none (some (.t 24))), none⟩, ⟨some 0, .q (.mv (.t 25)), none⟩]
def c94_8 : SCode := .cond (.t 16) (.region c94_7 [0]) .skip
def c94_9 : SCode := .seq (.region c94_6 [0, 1, 16]) c94_8
def c94_10 : SCode := .seq (.region c94_5 [0, 1]) c94_9
def c94_11 : List SOper := [⟨some 26, .q (.mv (.t 0)), none⟩, ⟨some 4, .q (.mv (.t 26)), none⟩]
def c94_12 : SCode := .seq (.region c94_11 [4]) .ret
def c94_13 : SCode := .seq c94_10 c94_12
def c94_14 : SCode := .seq c94_4 c94_13
def c94_15 : SCode := .seq (.region c94_0 [0, 1]) c94_14
def c94 : SCode := c94_15
theorem w94 : type_of% (And.intro (uR Try.prog c94_0.eq_1) (And.intro (uR Try.prog c94_1.eq_1) (And.intro (uR Try.prog c94_2.eq_1) (And.intro (uC Try.prog c94_3.eq_1) (And.intro (uC Try.prog c94_4.eq_1) (And.intro (uR Try.prog c94_5.eq_1) (And.intro (uR Try.prog c94_6.eq_1) (And.intro (uR Try.prog c94_7.eq_1) (And.intro (uC Try.prog c94_8.eq_1) (And.intro (uC Try.prog c94_9.eq_1) (And.intro (uC Try.prog c94_10.eq_1) (And.intro (uR Try.prog c94_11.eq_1) (And.intro (uC Try.prog c94_12.eq_1) (And.intro (uC Try.prog c94_13.eq_1) (And.intro (uC Try.prog c94_14.eq_1) (And.intro (uC Try.prog c94_15.eq_1) (uC Try.prog c94.eq_1))))))))))))))))) := (And.intro (uR Try.prog c94_0.eq_1) (And.intro (uR Try.prog c94_1.eq_1) (And.intro (uR Try.prog c94_2.eq_1) (And.intro (uC Try.prog c94_3.eq_1) (And.intro (uC Try.prog c94_4.eq_1) (And.intro (uR Try.prog c94_5.eq_1) (And.intro (uR Try.prog c94_6.eq_1) (And.intro (uR Try.prog c94_7.eq_1) (And.intro (uC Try.prog c94_8.eq_1) (And.intro (uC Try.prog c94_9.eq_1) (And.intro (uC Try.prog c94_10.eq_1) (And.intro (uR Try.prog c94_11.eq_1) (And.intro (uC Try.prog c94_12.eq_1) (And.intro (uC Try.prog c94_13.eq_1) (And.intro (uC Try.prog c94_14.eq_1) (And.intro (uC Try.prog c94_15.eq_1) (uC Try.prog c94.eq_1)))))))))))))))))
def v94 : List RV := [.t 4]
theorem s94 : slimF Try.prog Try.f94 = some (c94.bare, v94) := by kernel_rfl
/-! 87 slices.Concat[[]loop.example/g00066/impl.Clip,loop.example/g00066/impl.Clip]: parameters 1, live [0], slots [0:slices, 1:slices, 3:size, 4:_, 5:s, 6:newslice, 7:_, 8:s] -/
def c87_0 : List SOper := [⟨some 2, .q (.mv (.c (.slice none 0 0))), none⟩]
def c87_1 : List SOper := [⟨some 3, .q (.mv (.c (.int .i64 0))), none⟩]
def c87_2 : List SOper := [⟨some 9, .q (.mv (.t 0)), none⟩, ⟨some 10, .q (.len (.t 9)), none⟩, ⟨some 11, .q (.mv (.c (.int .i64 0))), none⟩]
def c87_3 : List SOper := [⟨some 12, .q (.bin .lss (.t 11) (.t 10)), none⟩]
def c87_4 : SCode := .cond (.t 12) .skip (.exit 0)
def c87_5 : List SOper := [⟨some 13, .q (.ia 1 (.t 9) (.t 11)), none⟩, ⟨some 14, .q (.ld (.t 13)), none⟩, ⟨some 5, .q (.mv (.t 14)), none⟩]
def c87_6 : List SOper := [⟨some 15, .q (.mv (.t 3)), none⟩, ⟨some 16, .q (.mv (.t 5)), none⟩, ⟨some 17, .q (.len (.t 16)), none⟩, ⟨some 18, .q (.bin .add (.t 15) (.t 17)), none⟩, ⟨some 3, .q (.mv (.t 18)), none⟩]
def c87_7 : List SOper := [⟨some 19, .q (.mv (.t 3)), none⟩, ⟨some 20, .q (.bin .lss (.t 19) (.c (.int .i64 0))), none⟩]
def c87_8 : List SOper := [⟨some 21, .q (.bad), none⟩, ⟨none, .q (.bad), none⟩]
def c87_9 : SCode := .cond (.t 20) (.region c87_8 [0, 3, 9, 10, 11]) .skip
def c87_10 : SCode := .seq (.region c87_7 [0, 3, 9, 10, 11, 20]) c87_9
def c87_11 : SCode := .seq (.region c87_6 [0, 3, 9, 10, 11]) c87_10
def c87_12 : SCode := .seq (.region c87_5 [0, 3, 5, 9, 10, 11]) c87_11
def c87_13 : SCode := .block 1 c87_12
def c87_14 : List SOper := [⟨some 22, .q (.bin .add (.t 11) (.c (.int .i64 1))), none⟩, ⟨some 11, .q (.mv (.t 22)), none⟩]
def c87_15 : SCode := .seq c87_13 (.region c87_14 [0, 3, 9, 10, 11])
def c87_16 : SCode := .seq c87_4 c87_15
def c87_17 : SCode := .seq (.region c87_3 [0, 3, 9, 10, 11, 12]) c87_16
def c87_18 : SCode := .loop c87_17
def c87_19 : SCode := .block 0 c87_18
def c87_20 : SCode := .seq (.region c87_2 [0, 3, 9, 10, 11]) c87_19
def c87_21 : List SOper := [⟨some 23, .q (.mv (.t 3)), none⟩, ⟨some 24, .e (.call 94 [(.c (.slice none 0 0)), (.t 23)]), none⟩, ⟨some 6, .q (.mv (.t 24)), none⟩]
def c87_22 : List SOper := [⟨some 25, .q (.mv (.t 0)), none⟩, ⟨some 26, .q (.len (.t 25)), none⟩, ⟨some 27, .q (.mv (.c (.int .i64 0))), none⟩]
def c87_23 : List SOper := [⟨some 28, .q (.bin .lss (.t 27) (.t 26)), none⟩]
def c87_24 : SCode := .cond (.t 28) .skip (.exit 2)
def c87_25 : List SOper := [⟨some 29, .q (.ia 1 (.t 25) (.t 27)), none⟩, ⟨some 30, .q (.ld (.t 29)), none⟩, ⟨some 8, .q (.mv (.t 30)), none⟩]
def c87_26 : List SOper := [⟨some 31, .q (.mv (.t 6)), none⟩, ⟨some 32, .q (.mv (.t 8)), none⟩, ⟨some 33, .e (.app 24 3 (.t 31) (.t 32)), none⟩, ⟨some 6, .q (.mv (.t 33)), none⟩]
def c87_27 : SCode := .seq (.region c87_25 [6, 8, 25, 26, 27]) (.region c87_26 [6, 25, 26, 27])
def c87_28 : SCode := .block 3 c87_27
def c87_29 : List SOper := [⟨some 34, .q (.bin .add (.t 27) (.c (.int .i64 1))), none⟩, ⟨some 27, .q (.mv (.t 34)), none⟩]
def c87_30 : SCode := .seq c87_28 (.region c87_29 [6, 25, 26, 27])
def c87_31 : SCode := .seq c87_24 c87_30
def c87_32 : SCode := .seq (.region c87_23 [6, 25, 26, 27, 28]) c87_31
def c87_33 : SCode := .loop c87_32
def c87_34 : SCode := .block 2 c87_33
def c87_35 : SCode := .seq (.region c87_22 [6, 25, 26, 27]) c87_34
def c87_36 : List SOper := [⟨some 35, .q (.mv (.t 6)), none⟩, ⟨some 2, .q (.mv (.t 35)), none⟩]
def c87_37 : SCode := .seq (.region c87_36 [2]) .ret
def c87_38 : SCode := .seq c87_35 c87_37
def c87_39 : SCode := .seq (.region c87_21 [0, 6]) c87_38
def c87_40 : SCode := .seq c87_20 c87_39
def c87_41 : SCode := .seq (.region c87_1 [0, 3]) c87_40
def c87_42 : SCode := .seq (.region c87_0 [0]) c87_41
def c87 : SCode := c87_42
theorem w87 : type_of% (And.intro (uR Try.prog c87_0.eq_1) (And.intro (uR Try.prog c87_1.eq_1) (And.intro (uR Try.prog c87_2.eq_1) (And.intro (uR Try.prog c87_3.eq_1) (And.intro (uC Try.prog c87_4.eq_1) (And.intro (uR Try.prog c87_5.eq_1) (And.intro (uR Try.prog c87_6.eq_1) (And.intro (uR Try.prog c87_7.eq_1) (And.intro (uR Try.prog c87_8.eq_1) (And.intro (uC Try.prog c87_9.eq_1) (And.intro (uC Try.prog c87_10.eq_1) (And.intro (uC Try.prog c87_11.eq_1) (And.intro (uC Try.prog c87_12.eq_1) (And.intro (uC Try.prog c87_13.eq_1) (And.intro (uR Try.prog c87_14.eq_1) (And.intro (uC Try.prog c87_15.eq_1) (And.intro (uC Try.prog c87_16.eq_1) (And.intro (uC Try.prog c87_17.eq_1) (And.intro (uC Try.prog c87_18.eq_1) (And.intro (uC Try.prog c87_19.eq_1) (And.intro (uC Try.prog c87_20.eq_1) (And.intro (uR Try.prog c87_21.eq_1) (And.intro (uR Try.prog c87_22.eq_1) (And.intro (uR Try.prog c87_23.eq_1) (And.intro (uC Try.prog c87_24.eq_1) (And.intro (uR Try.prog c87_25.eq_1) (And.intro (uR Try.prog c87_26.eq_1) (And.intro (uC Try.prog c87_27.eq_1) (And.intro (uC Try.prog c87_28.eq_1) (And.intro (uR Try.prog c87_29.eq_1) (And.intro (uC Try.prog c87_30.eq_1) (And.intro (uC Try.prog c87_31.eq_1) (And.intro (uC Try.prog c87_32.eq_1) (And.intro (uC Try.prog c87_33.eq_1) (And.intro (uC Try.prog c87_34.eq_1) (And.intro (uC Try.prog c87_35.eq_1) (And.intro (uR Try.prog c87_36.eq_1) (And.intro (uC Try.prog c87_37.eq_1) (And.intro (uC Try.prog c87_38.eq_1) (And.intro (uC Try.prog c87_39.eq_1) (And.intro (uC Try.prog c87_40.eq_1) (And.intro (uC Try.prog c87_41.eq_1) (And.intro (uC Try.prog c87_42.eq_1) (uC Try.prog c87.eq_1)))))))))))))))))))))))))))))))))))))))))))) := (And.intro (uR Try.prog c87_0.eq_1) (And.intro (uR Try.prog c87_1.eq_1) (And.intro (uR Try.prog c87_2.eq_1) (And.intro (uR Try.prog c87_3.eq_1) (And.intro (uC Try.prog c87_4.eq_1) (And.intro (uR Try.prog c87_5.eq_1) (And.intro (uR Try.prog c87_6.eq_1) (And.intro (uR Try.prog c87_7.eq_1) (And.intro (uR Try.prog c87_8.eq_1) (And.intro (uC Try.prog c87_9.eq_1) (And.intro (uC Try.prog c87_10.eq_1) (And.intro (uC Try.prog c87_11.eq_1) (And.intro (uC Try.prog c87_12.eq_1) (And.intro (uC Try.prog c87_13.eq_1) (And.intro (uR Try.prog c87_14.eq_1) (And.intro (uC Try.prog c87_15.eq_1) (And.intro (uC Try.prog c87_16.eq_1) (And.intro (uC Try.prog c87_17.eq_1) (And.intro (uC Try.prog c87_18.eq_1) (And.intro (uC Try.prog c87_19.eq_1) (And.intro (uC Try.prog c87_20.eq_1) (And.intro (uR Try.prog c87_21.eq_1) (And.intro (uR Try.prog c87_22.eq_1) (And.intro (uR Try.prog c87_23.eq_1) (And.intro (uC Try.prog c87_24.eq_1) (And.intro (uR Try.prog c87_25.eq_1) (And.intro (uR Try.prog c87_26.eq_1) (And.intro (uC Try.prog c87_27.eq_1) (And.intro (uC Try.prog c87_28.eq_1) (And.intro (uR Try.prog c87_29.eq_1) (And.intro (uC Try.prog c87_30.eq_1) (And.intro (uC Try.prog c87_31.eq_1) (And.intro (uC Try.prog c87_32.eq_1) (And.intro (uC Try.prog c87_33.eq_1) (And.intro (uC Try.prog c87_34.eq_1) (And.intro (uC Try.prog c87_35.eq_1) (And.intro (uR Try.prog c87_36.eq_1) (And.intro (uC Try.prog c87_37.eq_1) (And.intro (uC Try.prog c87_38.eq_1) (And.intro (uC Try.prog c87_39.eq_1) (And.intro (uC Try.prog c87_40.eq_1) (And.intro (uC Try.prog c87_41.eq_1) (And.intro (uC Try.prog c87_42.eq_1) (uC Try.prog c87.eq_1))))))))))))))))))))))))))))))))))))))))))))
def v87 : List RV := [.t 2]
theorem s87 : slimF Try.prog Try.f87 = some (c87.bare, v87) := by kernel_rfl
/-! 38 loop.example/g00066/impl.joined: parameters 1, live [0], slots [0:track, 1:track, 3:out, 4:_, 5:c, 6:n] -/
def c38_0 : List SOper := [⟨some 2, .q (.mv (.c (.slice none 0 0))), none⟩]
def c38_1 : List SOper := [⟨some 7, .a (.bsl 0 3 [] []), none⟩, ⟨some 3, .q (.mv (.t 7)), none⟩]
def c38_2 : List SOper := [⟨some 8, .q (.mv (.t 0)), none⟩, ⟨some 9, .q (.len (.t 8)), none⟩, ⟨some 10, .q (.mv (.c (.int .i64 0))), none⟩]
def c38_3 : List SOper := [⟨some 11, .q (.bin .lss (.t 10) (.t 9)), none⟩]
def c38_4 : SCode := .cond (.t 11) .skip (.exit 0)
def c38_5 : List SOper := [⟨some 12, .q (.ia 3 (.t 8) (.t 10)), none⟩, ⟨some 13, .q (.ldn 3 (.t 12)), none⟩, ⟨some 5, .a (.new [(.int .i64 0), (.int .i64 0), (.int .i64 0)]), none⟩, ⟨none, .e (.st 3 (.t 5) (.t 13)), none⟩]
def c38_6 : List SOper := [⟨some 14, .q (.mv (.t 3)), none⟩, ⟨some 15, .q (.len (.t 14)), none⟩, ⟨some 6, .q (.mv (.t 15)), none⟩]
def c38_7 : List SOper := [⟨some 16, .q (.mv (.t 6)), none⟩, ⟨some 17, .q (.bin .gtr (.t 16) (.c (.int .i64 0))), none⟩, ⟨some 18, .q (.mv (.t 17)), none⟩, ⟨some 19, .q (.ldn 3 (.t 5)), some (18, true)⟩, ⟨some 20, .q (.mv (.t 3)), some (18, true)⟩, ⟨some 21, .q (.mv (.t 6)), some (18, true)⟩, ⟨some 22, .q (.bin .sub (.t 21) (.c (.int .i64 1))), some (18, true)⟩, ⟨some 23, .q (.ia 3 (.t 20) (.t 22)), some (18, true)⟩, ⟨some 24, .q (.ldn 3 (.t 23)), some (18, true)⟩, ⟨some 25, .e (.call 76 [(.t 19), (.t 24)]), some (18, true)⟩, ⟨some 26, .q (.pick (.t 18) (.t 25) (.c (.bool false))), none⟩]
def c38_8 : List SOper := [⟨some 27, .q (.mv (.t 3)), none⟩, ⟨some 28, .q (.mv (.t 6)), none⟩, ⟨some 29, .q (.bin .sub (.t 28) (.c (.int .i64 1))), none⟩, ⟨some 30, .q (.ia 3 (.t 27) (.t 29)), none⟩, ⟨some 31, .q (.fa 2 (.t 30)), none⟩, ⟨some 32, .q (.ld (.t 31)), none⟩, ⟨some 33, .q (.fa 2 (.t 5)), none⟩, ⟨some 34, .q (.ld (.t 33)), none⟩, ⟨some 35, .q (.bin .add (.t 32) (.t 34)), none⟩, ⟨some 36, .q (.ia 3 (.t 27) (.t 29)), none⟩, ⟨some 37, .q (.fa 2 (.t 36)), none⟩, ⟨none, .e (.st 1 (.t 37) (.t 35)), none⟩]
def c38_9 : SCode := .seq (.region c38_8 [3, 8, 9, 10]) (.exit 1)
def c38_10 : SCode := .cond (.t 26) c38_9 .skip
def c38_11 : SCode := .seq (.region c38_7 [3, 5, 6, 8, 9, 10, 26]) c38_10
def c38_12 : SCode := .seq (.region c38_6 [3, 5, 6, 8, 9, 10]) c38_11
def c38_13 : List SOper := [⟨some 38, .q (.mv (.t 3)), none⟩, ⟨some 39, .q (.ldn 3 (.t 5)), none⟩, ⟨some 40, .a (.bsl 1 3 [(.int .i64 0), (.int .i64 0), (.int .i64 0)] [(0, 3, (.t 39))]), none⟩, ⟨some 41, .e (.app 24 3 (.t 38) (.t 40)), none⟩, ⟨some 3, .q (.mv (.t 41)), none⟩]
def c38_14 : SCode := .seq c38_12 (.region c38_13 [3, 8, 9, 10])
def c38_15 : SCode := .seq (.region c38_5 [3, 5, 8, 9, 10]) c38_14
def c38_16 : SCode := .block 1 c38_15
def c38_17 : List SOper := [⟨some 42, .q (.bin .add (.t 10) (.c (.int .i64 1))), none⟩, ⟨some 10, .q (.mv (.t 42)), none⟩]
def c38_18 : SCode := .seq c38_16 (.region c38_17 [3, 8, 9, 10])
def c38_19 : SCode := .seq c38_4 c38_18
def c38_20 : SCode := .seq (.region c38_3 [3, 8, 9, 10, 11]) c38_19
def c38_21 : SCode := .loop c38_20
def c38_22 : SCode := .block 0 c38_21
def c38_23 : SCode := .seq (.region c38_2 [3, 8, 9, 10]) c38_22
def c38_24 : List SOper := [⟨some 43, .q (.mv (.t 3)), none⟩, ⟨some 2, .q (.mv (.t 43)), none⟩]
def c38_25 : SCode := .seq (.region c38_24 [2]) .ret
def c38_26 : SCode := .seq c38_23 c38_25
def c38_27 : SCode := .seq (.region c38_1 [0, 3]) c38_26
def c38_28 : SCode := .seq (.region c38_0 [0]) c38_27
def c38 : SCode := c38_28
theorem w38 : type_of% (And.intro (uR Try.prog c38_0.eq_1) (And.intro (uR Try.prog c38_1.eq_1) (And.intro (uR Try.prog c38_2.eq_1) (And.intro (uR Try.prog c38_3.eq_1) (And.intro (uC Try.prog c38_4.eq_1) (And.intro (uR Try.prog c38_5.eq_1) (And.intro (uR Try.prog c38_6.eq_1) (And.intro (uR Try.prog c38_7.eq_1) (And.intro (uR Try.prog c38_8.eq_1) (And.intro (uC Try.prog c38_9.eq_1) (And.intro (uC Try.prog c38_10.eq_1) (And.intro (uC Try.prog c38_11.eq_1) (And.intro (uC Try.prog c38_12.eq_1) (And.intro (uR Try.prog c38_13.eq_1) (And.intro (uC Try.prog c38_14.eq_1) (And.intro (uC Try.prog c38_15.eq_1) (And.intro (uC Try.prog c38_16.eq_1) (And.intro (uR Try.prog c38_17.eq_1) (And.intro (uC Try.prog c38_18.eq_1) (And.intro (uC Try.prog c38_19.eq_1) (And.intro (uC Try.prog c38_20.eq_1) (And.intro (uC Try.prog c38_21.eq_1) (And.intro (uC Try.prog c38_22.eq_1) (And.intro (uC Try.prog c38_23.eq_1) (And.intro (uR Try.prog c38_24.eq_1) (And.intro (uC Try.prog c38_25.eq_1) (And.intro (uC Try.prog c38_26.eq_1) (And.intro (uC Try.prog c38_27.eq_1) (And.intro (uC Try.prog c38_28.eq_1) (uC Try.prog c38.eq_1)))))))))))))))))))))))))))))) := (And.intro (uR Try.prog c38_0.eq_1) (And.intro (uR Try.prog c38_1.eq_1) (And.intro (uR Try.prog c38_2.eq_1) (And.intro (uR Try.prog c38_3.eq_1) (And.intro (uC Try.prog c38_4.eq_1) (And.intro (uR Try.prog c38_5.eq_1) (And.intro (uR Try.prog c38_6.eq_1) (And.intro (uR Try.prog c38_7.eq_1) (And.intro (uR Try.prog c38_8.eq_1) (And.intro (uC Try.prog c38_9.eq_1) (And.intro (uC Try.prog c38_10.eq_1) (And.intro (uC Try.prog c38_11.eq_1) (And.intro (uC Try.prog c38_12.eq_1) (And.intro (uR Try.prog c38_13.eq_1) (And.intro (uC Try.prog c38_14.eq_1) (And.intro (uC Try.prog c38_15.eq_1) (And.intro (uC Try.prog c38_16.eq_1) (And.intro (uR Try.prog c38_17.eq_1) (And.intro (uC Try.prog c38_18.eq_1) (And.intro (uC Try.prog c38_19.eq_1) (And.intro (uC Try.prog c38_20.eq_1) (And.intro (uC Try.prog c38_21.eq_1) (And.intro (uC Try.prog c38_22.eq_1) (And.intro (uC Try.prog c38_23.eq_1) (And.intro (uR Try.prog c38_24.eq_1) (And.intro (uC Try.prog c38_25.eq_1) (And.intro (uC Try.prog c38_26.eq_1) (And.intro (uC Try.prog c38_27.eq_1) (And.intro (uC Try.prog c38_28.eq_1) (uC Try.prog c38.eq_1))))))))))))))))))))))))))))))
def v38 : List RV := [.t 2]
theorem s38 : slimF Try.prog Try.f38 = some (c38.bare, v38) := by kernel_rfl
/-! 57 loop.example/g00066/impl.edited: parameters 1, live [0], slots [0:pieces, 1:pieces, 4:out] -/
def c57_0 : List SOper := [⟨some 2, .q (.mv (.c (.slice none 0 0))), none⟩, ⟨some 3, .q (.mv (.c (.bool false))), none⟩]
def c57_1 : List SOper := [⟨some 5, .q (.mv (.t 0)), none⟩, ⟨some 6, .e (.call 87 [(.t 5)]), none⟩, ⟨some 7, .e (.call 38 [(.t 6)]), none⟩, ⟨some 4, .q (.mv (.t 7)), none⟩]
def c57_2 : List SOper := [⟨some 8, .q (.mv (.t 4)), none⟩, ⟨some 9, .e (.call 37 [(.t 8)]), none⟩]
def c57_3 : List SOper := [⟨some 10, .q (.mv (.t 4)), none⟩, ⟨some 2, .q (.mv (.t 10)), none⟩, ⟨some 3, .q (.mv (.c (.bool true))), none⟩]
def c57_4 : SCode := .seq (.region c57_3 [2, 3]) .ret
def c57_5 : SCode := .cond (.t 9) c57_4 .skip
def c57_6 : SCode := .seq (.region c57_2 [4, 9]) c57_5
def c57_7 : SCode := .seq (.region c57_1 [4]) c57_6
def c57_8 : List SOper := [⟨some 2, .q (.mv (.c (.slice none 0 0))), none⟩, ⟨some 3, .q (.mv (.c (.bool false))), none⟩]
def c57_9 : SCode := .seq (.region c57_8 [2, 3]) .ret
def c57_10 : SCode := .seq c57_7 c57_9
def c57_11 : SCode := .seq (.region c57_0 [0]) c57_10
def c57 : SCode := c57_11
theorem w57 : type_of% (And.intro (uR Try.prog c57_0.eq_1) (And.intro (uR Try.prog c57_1.eq_1) (And.intro (uR Try.prog c57_2.eq_1) (And.intro (uR Try.prog c57_3.eq_1) (And.intro (uC Try.prog c57_4.eq_1) (And.intro (uC Try.prog c57_5.eq_1) (And.intro (uC Try.prog c57_6.eq_1) (And.intro (uC Try.prog c57_7.eq_1) (And.intro (uR Try.prog c57_8.eq_1) (And.intro (uC Try.prog c57_9.eq_1) (And.intro (uC Try.prog c57_10.eq_1) (And.intro (uC Try.prog c57_11.eq_1) (uC Try.prog c57.eq_1))))))))))))) := (And.intro (uR Try.prog c57_0.eq_1) (And.intro (uR Try.prog c57_1.eq_1) (And.intro (uR Try.prog c57_2.eq_1) (And.intro (uR Try.prog c57_3.eq_1) (And.intro (uC Try.prog c57_4.eq_1) (And.intro (uC Try.prog c57_5.eq_1) (And.intro (uC Try.prog c57_6.eq_1) (And.intro (uC Try.prog c57_7.eq_1) (And.intro (uR Try.prog c57_8.eq_1) (And.intro (uC Try.prog c57_9.eq_1) (And.intro (uC Try.prog c57_10.eq_1) (And.intro (uC Try.prog c57_11.eq_1) (uC Try.prog c57.eq_1)))))))))))))
def v57 : List RV := [.t 2, .t 3]
theorem s57 : slimF Try.prog Try.f57 = some (c57.bare, v57) := by kernel_rfl

theorem follows_ok (h : Heap) (k a : Clip) (ha : clipIn 1000000000000000 a) : ACall Try.prog 76 [.agg (encClip k).toArray, .agg (encClip a).toArray] h
    fun r h' => Ext h h' ∧ r = .bool (decide (a.src = k.src ∧ (k.src = 0 ∨ a.inn + a.len = k.inn))) := by
  obtain ⟨a1, a2, a3⟩ := k; obtain ⟨b1, b2, b3⟩ := a
  simp only [clipIn] at ha
  refine ACall.of Try.func76 s76 (of_decide_eq_true rfl) ?_
  simp (maxSteps := 4000000) (disch := omega) only [ah, am, Nat.reduceEqDiff, reduceCtorEq, Nat.reduceAdd, Nat.reduceLeDiff, Nat.reduceMul, Nat.reduceLT, if_true, if_false, true_and, and_true, and_self, Nat.reduceBEq, QOp.loads, boxO, bslO, buildO, cutL, fillV, putL, w76, v76, encClip]
  (repeat' first
    | (refine stepC.of (isGap_ok' _ _ _ _) ?_; rintro _ _ ⟨rfl, rfl⟩; simp (maxSteps := 4000000) (disch := omega) only [ah, am, Nat.reduceEqDiff, reduceCtorEq, Nat.reduceAdd, Nat.reduceLeDiff, Nat.reduceMul, Nat.reduceLT, if_true, if_false, true_and, and_true, and_self, Nat.reduceBEq, QOp.loads, boxO, bslO, buildO, cutL, fillV, putL, i64w, w76, v76])
    | (refine stepG.cases (fun _ hp => ?_) (fun _ hp => ?_) <;> simp (maxSteps := 4000000) (disch := omega) only [hp, ah, am, Nat.reduceEqDiff, reduceCtorEq, Nat.reduceAdd, Nat.reduceLeDiff, Nat.reduceMul, Nat.reduceLT, if_true, if_false, true_and, and_true, and_self, Nat.reduceBEq, QOp.loads, boxO, bslO, buildO, cutL, fillV, putL, i64w, w76, v76])
    | (refine stepI.cases (fun _ hp => ?_) (fun _ hp => ?_) <;> simp (maxSteps := 4000000) (disch := omega) only [hp, ah, am, Nat.reduceEqDiff, reduceCtorEq, Nat.reduceAdd, Nat.reduceLeDiff, Nat.reduceMul, Nat.reduceLT, if_true, if_false, true_and, and_true, and_self, Nat.reduceBEq, QOp.loads, boxO, bslO, buildO, cutL, fillV, putL, i64w, w76, v76]))
  all_goals (refine ⟨Ext.more _ _, ?_⟩; refine bool_dec ?_; try simp only [decide_eq_true_eq, Bool.false_eq_true, false_and, and_false, true_and, and_true, false_iff, iff_false, true_iff, iff_true, not_false_eq_true, false_or, or_false, true_or, or_true]; first | done | omega | (refine Iff.intro (fun hq => ?_) (fun hq => ?_) <;> omega))
theorem Clone_ok (h : Heap) (v : Value) (l : List Clip) (s : SlT h encClip 3 v l) (hl : l.length ≤ 1100000) : ACall Try.prog 41 [v] h fun r h' => Fresh h h' encClip 3 r l := by
  refine ACall.of Try.func41 s41 (of_decide_eq_true rfl) ?_
  obtain ⟨b, eb, hb⟩ := s.eqs
  simp (maxSteps := 4000000) (disch := omega) only [ah, am, Nat.reduceEqDiff, reduceCtorEq, Nat.reduceAdd, Nat.reduceLeDiff, Nat.reduceMul, Nat.reduceLT, if_true, if_false, true_and, and_true, and_self, Nat.reduceBEq, QOp.loads, boxO, bslO, buildO, cutL, fillV, putL, w41, v41, eb]
  refine stepI.splitB (fun hk => ?_) (fun hk => ?_)
  · simp (maxSteps := 4000000) (disch := omega) only [ah, am, Nat.reduceEqDiff, reduceCtorEq, Nat.reduceAdd, Nat.reduceLeDiff, Nat.reduceMul, Nat.reduceLT, if_true, if_false, true_and, and_true, and_self, Nat.reduceBEq, QOp.loads, boxO, bslO, buildO, cutL, fillV, putL, w41, v41]
    rw [hb hk]; exact Fresh.nil h encClip_len (by omega)
  · obtain ⟨v2, H2, ea, F2⟩ := (Fresh.new0 h encClip_len (by omega)).app (s.ext (Ext.more h [[]])) (bytes := 24) (by simp; omega)
    simp (maxSteps := 4000000) (disch := omega) only [ah, am, Nat.reduceEqDiff, reduceCtorEq, Nat.reduceAdd, Nat.reduceLeDiff, Nat.reduceMul, Nat.reduceLT, if_true, if_false, true_and, and_true, and_self, Nat.reduceBEq, QOp.loads, boxO, bslO, buildO, cutL, fillV, putL, w41, v41, ea]
    exact F2
theorem Grow_ok (h : Heap) (n : Int) (hn : 0 ≤ n ∧ n ≤ 1000000000) : ACall Try.prog 94 [.slice none 0 0, .int .i64 n] h fun r h' => Fresh h h' encClip 3 r [] := by
  refine ACall.of Try.func94 s94 (of_decide_eq_true rfl) ?_
  have W : IntKind.i64.wrap (0 - ((0 : Nat) : Int)) = 0 := i64e (by omega) (by omega)
  have W2 : IntKind.i64.wrap (n - 0) = n := i64e (by omega) (by omega)
  have W3 : IntKind.i64.wrap (0 - 0) = 0 := i64e (by omega) (by omega)
  simp (maxSteps := 4000000) (disch := omega) only [ah, am, Nat.reduceEqDiff, reduceCtorEq, Nat.reduceAdd, Nat.reduceLeDiff, Nat.reduceMul, Nat.reduceLT, if_true, if_false, true_and, and_true, and_self, Nat.reduceBEq, QOp.loads, boxO, bslO, buildO, cutL, fillV, putL, w94, v94, lenV_slice, W, W2, W3]
  refine stepI.split (fun hk => ?_) (fun hk => ?_)
  · omega
  · simp (maxSteps := 4000000) (disch := omega) only [ah, am, Nat.reduceEqDiff, reduceCtorEq, Nat.reduceAdd, Nat.reduceLeDiff, Nat.reduceMul, Nat.reduceLT, if_true, if_false, true_and, and_true, and_self, Nat.reduceBEq, QOp.loads, boxO, bslO, buildO, cutL, fillV, putL, w94, v94, lenV_slice, W, W2, W3, Int.natCast_zero]
    refine stepI.split (fun hk => ?_) (fun hk => ?_)
    · simp (maxSteps := 4000000) (disch := omega) only [ah, am, Nat.reduceEqDiff, reduceCtorEq, Nat.reduceAdd, Nat.reduceLeDiff, Nat.reduceMul, Nat.reduceLT, if_true, if_false, true_and, and_true, and_self, Nat.reduceBEq, QOp.loads, boxO, bslO, buildO, cutL, fillV, putL, w94, v94, lenV_slice, W, groV_ok, slc_nil, slc_to0, Int.natCast_zero]
      exact Fresh.new0 h encClip_len (by omega)
    · simp (maxSteps := 4000000) (disch := omega) only [ah, am, Nat.reduceEqDiff, reduceCtorEq, Nat.reduceAdd, Nat.reduceLeDiff, Nat.reduceMul, Nat.reduceLT, if_true, if_false, true_and, and_true, and_self, Nat.reduceBEq, QOp.loads, boxO, bslO, buildO, cutL, fillV, putL, w94, v94]
      exact Fresh.nil h encClip_len (by omega)
/-- A row of slices. -/
structure Rows (h : Heap) (v : Value) (ls : List (List Clip)) : Prop where
  rows : ∃ vs : List Value, SlT h encV 1 v vs ∧ vs.length = ls.length ∧ ∀ i (h1 : i < vs.length) (h2 : i < ls.length), SlT h encClip 3 vs[i] ls[i]
theorem flat_take (ls : List (List Clip)) (i : Nat) (hi : i < ls.length) : (ls.take (i + 1)).flatten = (ls.take i).flatten ++ ls[i] := by
  rw [List.take_succ_eq_append_getElem hi, List.flatten_append]; simp
theorem flat_take_le (ls : List (List Clip)) (i : Nat) : (ls.take i).flatten.length ≤ ls.flatten.length := by
  conv => rhs; rw [← List.take_append_drop i ls]
  rw [List.flatten_append, List.length_append]; omega
theorem Concat_ok (h : Heap) (v : Value) (ls : List (List Clip)) (s : Rows h v ls) (hn : ls.length ≤ 1100000) (hl : ls.flatten.length ≤ 1100000) :
    ACall Try.prog 87 [v] h fun r h' => Fresh h h' encClip 3 r ls.flatten := by
  obtain ⟨vs, s, hvl, hs⟩ := s
  refine ACall.of Try.func87 s87 (of_decide_eq_true rfl) ?_
  have R := s.rulesN
  simp (maxSteps := 4000000) (disch := omega) only [ah, am, Nat.reduceEqDiff, reduceCtorEq, Nat.reduceAdd, Nat.reduceLeDiff, Nat.reduceMul, Nat.reduceLT, if_true, if_false, true_and, and_true, and_self, Nat.reduceBEq, QOp.loads, boxO, bslO, buildO, cutL, fillV, putL, w87, v87, R]
  refine SW_loop_up (fun i E H => E = [(0, v), (3, .int .i64 ((ls.take i).flatten.length : Nat)), (9, v), (10, .int .i64 vs.length), (11, .int .i64 i)] ∧ H = h) vs.length 0 (by omega) ⟨by simp, rfl⟩ ?_
  rintro i E H hi ⟨rfl, rfl⟩
  have W : IntKind.i64.wrap ((i : Int) + 1) = ((i + 1 : Nat) : Int) := i64e (by omega) (by omega)
  simp (maxSteps := 4000000) (disch := omega) only [ah, am, Nat.reduceEqDiff, reduceCtorEq, Nat.reduceAdd, Nat.reduceLeDiff, Nat.reduceMul, Nat.reduceLT, if_true, if_false, true_and, and_true, and_self, Nat.reduceBEq, QOp.loads, boxO, bslO, buildO, cutL, fillV, putL, w87, v87, R]
  refine stepI.split (fun hp => ?_) (fun hp => ?_)
  · have hi1 : i < vs.length := by omega
    have hi2 : i < ls.length := by omega
    have R2 := (hs i hi1 hi2).rules
    have B := flat_take_le ls (i + 1)
    rw [flat_take ls i hi2, List.length_append] at B
    have W2 : IntKind.i64.wrap (((ls.take i).flatten.length : Nat) + (ls[i].length : Nat)) = ((ls.take (i + 1)).flatten.length : Nat) := by rw [flat_take ls i hi2, List.length_append]; exact i64e (by omega) (by omega)
    simp (maxSteps := 4000000) (disch := omega) only [ah, am, Nat.reduceEqDiff, reduceCtorEq, Nat.reduceAdd, Nat.reduceLeDiff, Nat.reduceMul, Nat.reduceLT, if_true, if_false, true_and, and_true, and_self, Nat.reduceBEq, QOp.loads, boxO, bslO, buildO, cutL, fillV, putL, w87, v87, R, W, R2, encV, W2]
    refine stepI.split (fun hk => ?_) (fun hk => ?_)
    · omega
    · simp (maxSteps := 4000000) (disch := omega) only [ah, am, Nat.reduceEqDiff, reduceCtorEq, Nat.reduceAdd, Nat.reduceLeDiff, Nat.reduceMul, Nat.reduceLT, if_true, if_false, true_and, and_true, and_self, Nat.reduceBEq, QOp.loads, boxO, bslO, buildO, cutL, fillV, putL, w87, v87, W]
      exact hi1
  · simp (maxSteps := 4000000) (disch := omega) only [ah, am, Nat.reduceEqDiff, reduceCtorEq, Nat.reduceAdd, Nat.reduceLeDiff, Nat.reduceMul, Nat.reduceLT, if_true, if_false, true_and, and_true, and_self, Nat.reduceBEq, QOp.loads, boxO, bslO, buildO, cutL, fillV, putL, w87, v87, R, W]
    obtain rfl : i = vs.length := by omega
    rw [hvl, List.take_length]
    refine stepC.of (Grow_ok H _ (by omega)) ?_
    intro r H1 F1
    have R := (s.ext F1.1).rulesN
    simp (maxSteps := 4000000) (disch := omega) only [ah, am, Nat.reduceEqDiff, reduceCtorEq, Nat.reduceAdd, Nat.reduceLeDiff, Nat.reduceMul, Nat.reduceLT, if_true, if_false, true_and, and_true, and_self, Nat.reduceBEq, QOp.loads, boxO, bslO, buildO, cutL, fillV, putL, w87, v87, R]
    refine SW_loop_up (fun i E H2 => ∃ ov, E = [(6, ov), (25, v), (26, .int .i64 vs.length), (27, .int .i64 i)] ∧ Fresh H H2 encClip 3 ov (ls.take i).flatten) vs.length 0 (by omega) ⟨r, by simp [hvl], by simpa using F1⟩ ?_
    rintro i E H2 hi ⟨ov, rfl, F⟩
    have R := (s.ext F.1).rulesN
    have W : IntKind.i64.wrap ((i : Int) + 1) = ((i + 1 : Nat) : Int) := i64e (by omega) (by omega)
    simp (maxSteps := 4000000) (disch := omega) only [ah, am, Nat.reduceEqDiff, reduceCtorEq, Nat.reduceAdd, Nat.reduceLeDiff, Nat.reduceMul, Nat.reduceLT, if_true, if_false, true_and, and_true, and_self, Nat.reduceBEq, QOp.loads, boxO, bslO, buildO, cutL, fillV, putL, w87, v87, R]
    refine stepI.split (fun hp => ?_) (fun hp => ?_)
    · have hi1 : i < vs.length := by omega
      have hi2 : i < ls.length := by omega
      have B := flat_take_le ls (i + 1)
      rw [flat_take ls i hi2, List.length_append] at B
      obtain ⟨v2, H3, ea, F2⟩ := F.app ((hs i hi1 hi2).ext F.1) (bytes := 24) (by omega)
      simp (maxSteps := 4000000) (disch := omega) only [ah, am, Nat.reduceEqDiff, reduceCtorEq, Nat.reduceAdd, Nat.reduceLeDiff, Nat.reduceMul, Nat.reduceLT, if_true, if_false, true_and, and_true, and_self, Nat.reduceBEq, QOp.loads, boxO, bslO, buildO, cutL, fillV, putL, w87, v87, R, W, encV, ea]
      exact ⟨hi1, _, rfl, by rw [flat_take ls i hi2]; exact F2⟩
    · simp (maxSteps := 4000000) (disch := omega) only [ah, am, Nat.reduceEqDiff, reduceCtorEq, Nat.reduceAdd, Nat.reduceLeDiff, Nat.reduceMul, Nat.reduceLT, if_true, if_false, true_and, and_true, and_self, Nat.reduceBEq, QOp.loads, boxO, bslO, buildO, cutL, fillV, putL, w87, v87, R, W]
      obtain rfl : i = vs.length := by omega
      rw [hvl, List.take_length] at F
      exact F
theorem joined_ok (h : Heap) (v : Value) (l : List Clip) (s : SlT h encClip 3 v l) (hl : l.length ≤ 1100000) (ho : ∀ k ∈ l, clipIn 10000000 k) : ACall Try.prog 38 [v] h fun r h' => Fresh h h' encClip 3 r (join l) := by
  refine ACall.of Try.func38 s38 (of_decide_eq_true rfl) ?_
  have R := s.rulesN
  simp (maxSteps := 4000000) (disch := omega) only [ah, am, Nat.reduceEqDiff, reduceCtorEq, Nat.reduceAdd, Nat.reduceLeDiff, Nat.reduceMul, Nat.reduceLT, if_true, if_false, true_and, and_true, and_self, Nat.reduceBEq, QOp.loads, boxO, bslO, buildO, cutL, fillV, putL, w38, v38, R]
  refine SW_loop_up (fun i E H => ∃ ov, E = [(3, ov), (8, v), (9, .int .i64 l.length), (10, .int .i64 i)] ∧ Fresh h H encClip 3 ov (join (l.take i))) l.length 0 (by omega) ⟨_, rfl, Fresh.new0 h encClip_len (by omega)⟩ ?_
  rintro i E H hi ⟨ov, rfl, F⟩
  have R := (s.ext F.1).rulesN
  have W : IntKind.i64.wrap ((i : Int) + 1) = ((i + 1 : Nat) : Int) := i64e (by omega) (by omega)
  simp (maxSteps := 4000000) (disch := omega) only [ah, am, Nat.reduceEqDiff, reduceCtorEq, Nat.reduceAdd, Nat.reduceLeDiff, Nat.reduceMul, Nat.reduceLT, if_true, if_false, true_and, and_true, and_self, Nat.reduceBEq, QOp.loads, boxO, bslO, buildO, cutL, fillV, putL, w38, v38, R]
  refine stepI.split (fun hp => ?_) (fun hp => ?_)
  · have hi' : i < l.length := by omega
    have J := join_take l i hi'
    have F' := F.ext (Ext.more H [encClip l[i]])
    have R' := F'.slt.rules
    have L := join_length (l.take i)
    rw [List.length_take] at L
    have B := join_in (l := l.take i) (fun k hk => ho k (List.mem_of_mem_take hk))
    have Bk := ho _ (List.getElem_mem hi')
    generalize join (l.take i) = out at *
    have T : ((out.length : Int) - 1).toNat = out.length - 1 := by omega
    simp only [encClip] at R'
    by_cases hn : 0 < out.length
    · have Bo := B _ (List.getElem_mem (l := out) (n := out.length - 1) (by omega))
      simp only [clipIn, List.length_take] at Bo Bk
      have fo := follows_ok (H.more [encClip l[i]]) l[i] out[out.length - 1] (by simp only [clipIn]; omega)
      simp only [encClip] at fo
      have hn' : decide (0 < (out.length : Int)) = true := decide_eq_true (by omega)
      simp (maxSteps := 4000000) (disch := omega) only [ah, am, Nat.reduceEqDiff, reduceCtorEq, Nat.reduceAdd, Nat.reduceLeDiff, Nat.reduceMul, Nat.reduceLT, if_true, if_false, true_and, and_true, and_self, Nat.reduceBEq, QOp.loads, boxO, bslO, buildO, cutL, fillV, putL, w38, v38, R, R', W, encClip, i64w, T, hn']
      refine stepC.of fo ?_
      rintro _ H2 ⟨e2, rfl⟩
      have X := e2.ld0
      have F2 := F'.ext e2
      have R2 := F2.slt.rules
      simp (maxSteps := 4000000) (disch := omega) only [ah, am, Nat.reduceEqDiff, reduceCtorEq, Nat.reduceAdd, Nat.reduceLeDiff, Nat.reduceMul, Nat.reduceLT, if_true, if_false, true_and, and_true, and_self, Nat.reduceBEq, QOp.loads, boxO, bslO, buildO, cutL, fillV, putL, w38, v38, R2, W, encClip, i64w, T, hn', X]
      refine stepI.cases (fun hc hp => ?_) (fun hc hp => ?_)
      · obtain ⟨H3, es, F3, -⟩ := F2.setF (j := out.length - 1) (f := 2) (n := 1) (by omega) (x := ⟨(out[out.length - 1]).src, (out[out.length - 1]).inn, (out[out.length - 1]).len + l[i].len⟩)
          (y := .int .i64 ((out[out.length - 1]).len + l[i].len)) (by simp [encClip, splice, cells_int]) (by omega) rfl (by omega) rfl
        simp (maxSteps := 4000000) (disch := omega) only [ah, am, Nat.reduceEqDiff, reduceCtorEq, Nat.reduceAdd, Nat.reduceLeDiff, Nat.reduceMul, Nat.reduceLT, if_true, if_false, true_and, and_true, and_self, Nat.reduceBEq, QOp.loads, boxO, bslO, buildO, cutL, fillV, putL, w38, v38, hp, R2, W, encClip, i64w, T, hn', X, es]
        refine ⟨by omega, _, rfl, ?_⟩; rw [J, joinStep, dif_pos hn, if_pos hc]; exact F3
      · obtain ⟨v2, H3, ea, F3⟩ := F2.app1 l[i] (bytes := 24) (by omega)
        simp only [encClip] at ea
        simp (maxSteps := 4000000) (disch := omega) only [ah, am, Nat.reduceEqDiff, reduceCtorEq, Nat.reduceAdd, Nat.reduceLeDiff, Nat.reduceMul, Nat.reduceLT, if_true, if_false, true_and, and_true, and_self, Nat.reduceBEq, QOp.loads, boxO, bslO, buildO, cutL, fillV, putL, w38, v38, hp, R2, W, encClip, i64w, T, hn', X, ea]
        refine ⟨by omega, _, rfl, ?_⟩; rw [J, joinStep, dif_pos hn, if_neg hc]; exact F3
    · have hn' : decide (0 < (out.length : Int)) = false := decide_eq_false (by omega)
      obtain ⟨v2, H2, ea, F2⟩ := F'.app1 l[i] (bytes := 24) (by omega)
      simp only [more_more, size_more, List.cons_append, List.nil_append, List.length_cons, List.length_nil, Nat.zero_add, encClip] at ea
      simp (maxSteps := 4000000) (disch := omega) only [ah, am, Nat.reduceEqDiff, reduceCtorEq, Nat.reduceAdd, Nat.reduceLeDiff, Nat.reduceMul, Nat.reduceLT, if_true, if_false, true_and, and_true, and_self, Nat.reduceBEq, QOp.loads, boxO, bslO, buildO, cutL, fillV, putL, w38, v38, R, R', W, encClip, i64w, T, hn', ea]
      refine ⟨by omega, _, rfl, ?_⟩; rw [J, joinStep, dif_neg hn]; exact F2
  · simp (maxSteps := 4000000) (disch := omega) only [ah, am, Nat.reduceEqDiff, reduceCtorEq, Nat.reduceAdd, Nat.reduceLeDiff, Nat.reduceMul, Nat.reduceLT, if_true, if_false, true_and, and_true, and_self, Nat.reduceBEq, QOp.loads, boxO, bslO, buildO, cutL, fillV, putL, w38, v38, R, W]
    obtain rfl : i = l.length := by omega
    rw [List.take_length] at F
    exact F
def editI (l : List Clip) : List Clip × Bool := if trackOk (join l) then (join l, true) else ([], false)
theorem edited_ok (h : Heap) (v : Value) (ls : List (List Clip)) (s : Rows h v ls) (hn : ls.length ≤ 1100000) (hl : ls.flatten.length ≤ 1100000) (ho : ∀ k ∈ ls.flatten, clipIn 10000000 k) :
    ACall Try.prog 57 [v] h fun r h' => Pair h h' r (editI ls.flatten) := by
  refine ACall.of Try.func57 s57 (of_decide_eq_true rfl) ?_
  simp (maxSteps := 4000000) (disch := omega) only [ah, am, Nat.reduceEqDiff, reduceCtorEq, Nat.reduceAdd, Nat.reduceLeDiff, Nat.reduceMul, Nat.reduceLT, if_true, if_false, true_and, and_true, and_self, Nat.reduceBEq, QOp.loads, boxO, bslO, buildO, cutL, fillV, putL, w57, v57]
  refine stepC.of (Concat_ok _ _ _ s hn hl) ?_
  intro r H1 F1
  simp (maxSteps := 4000000) (disch := omega) only [ah, am, Nat.reduceEqDiff, reduceCtorEq, Nat.reduceAdd, Nat.reduceLeDiff, Nat.reduceMul, Nat.reduceLT, if_true, if_false, true_and, and_true, and_self, Nat.reduceBEq, QOp.loads, boxO, bslO, buildO, cutL, fillV, putL, w57, v57]
  refine stepC.of (joined_ok _ _ _ F1.slt hl ho) ?_
  intro r2 H2 F2
  simp (maxSteps := 4000000) (disch := omega) only [ah, am, Nat.reduceEqDiff, reduceCtorEq, Nat.reduceAdd, Nat.reduceLeDiff, Nat.reduceMul, Nat.reduceLT, if_true, if_false, true_and, and_true, and_self, Nat.reduceBEq, QOp.loads, boxO, bslO, buildO, cutL, fillV, putL, w57, v57]
  refine stepC.of (implTrackOk_ok _ _ _ F2.slt (by have := join_length ls.flatten; omega)) ?_
  rintro _ H3 ⟨e3, rfl⟩
  simp (maxSteps := 4000000) (disch := omega) only [ah, am, Nat.reduceEqDiff, reduceCtorEq, Nat.reduceAdd, Nat.reduceLeDiff, Nat.reduceMul, Nat.reduceLT, if_true, if_false, true_and, and_true, and_self, Nat.reduceBEq, QOp.loads, boxO, bslO, buildO, cutL, fillV, putL, w57, v57]
  refine stepI.split (fun hk => ?_) (fun hk => ?_)
  · simp (maxSteps := 4000000) (disch := omega) only [ah, am, Nat.reduceEqDiff, reduceCtorEq, Nat.reduceAdd, Nat.reduceLeDiff, Nat.reduceMul, Nat.reduceLT, if_true, if_false, true_and, and_true, and_self, Nat.reduceBEq, QOp.loads, boxO, bslO, buildO, cutL, fillV, putL, w57, v57]
    have hq : editI ls.flatten = (join ls.flatten, true) := if_pos hk
    rw [hq]
    exact ⟨_, rfl, (F2.ext e3).mono F1.1⟩
  · simp (maxSteps := 4000000) (disch := omega) only [ah, am, Nat.reduceEqDiff, reduceCtorEq, Nat.reduceAdd, Nat.reduceLeDiff, Nat.reduceMul, Nat.reduceLT, if_true, if_false, true_and, and_true, and_self, Nat.reduceBEq, QOp.loads, boxO, bslO, buildO, cutL, fillV, putL, w57, v57]
    have hq : editI ls.flatten = ([], false) := if_neg hk
    rw [hq]
    exact ⟨_, rfl, (Fresh.nil H3 encClip_len (by omega)).mono (F1.1.trans (F2.1.trans e3))⟩
end Go.Proofs.Ytbnppofkpgfhnaa
