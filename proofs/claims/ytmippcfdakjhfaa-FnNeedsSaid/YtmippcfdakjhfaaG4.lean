import Derived.Test.YtmippcfdakjhfaaG3
namespace Go.Proofs.Ytmippcfdakjhfaa
open Go Go.Ah
open Go.Sort (swp)
set_option linter.unusedSimpArgs false
set_option linter.unusedVariables false
set_option maxRecDepth 10000
set_option maxHeartbeats 4000000
/-! 78 slices.reverseRangeCmpFunc[loop.example/g00066/impl.Reel]: parameters 4, live [0, 1, 2], slots [0:data, 1:a, 2:b, 3:cmp, 4:data, 5:a, 6:b, 7:cmp, 8:i, 9:j] -/
def c78_0 : List SOper := [⟨some 10, .q (.mv (.t 1)), none⟩, ⟨some 8, .q (.mv (.t 10)), none⟩]
def c78_1 : List SOper := [⟨some 11, .q (.mv (.t 2)), none⟩, ⟨some 12, .q (.bin .sub (.t 11) (.c (.int .i64 1))), none⟩, ⟨some 9, .q (.mv (.t 12)), none⟩]
def c78_2 : List SOper := [⟨some 13, .q (.mv (.t 8)), none⟩, ⟨some 14, .q (.mv (.t 9)), none⟩, ⟨some 15, .q (.bin .lss (.t 13) (.t 14)), none⟩]
def c78_3 : SCode := .cond (.t 15) .skip (.exit 0)
def c78_4 : SCode := .seq (.region c78_2 [0, 8, 9, 15]) c78_3
def c78_5 : List SOper := [⟨some 16, .q (.mv (.t 0)), none⟩, ⟨some 17, .q (.mv (.t 8)), none⟩, ⟨some 18, .q (.mv (.t 0)), none⟩, ⟨some 19, .q (.mv (.t 9)), none⟩, ⟨some 20, .q (.mv (.t 0)), none⟩, ⟨some 21, .q (.mv (.t 9)), none⟩, ⟨some 22, .q (.ia 3 (.t 20) (.t 21)), none⟩, ⟨some 23, .q (.ldn 3 (.t 22)), none⟩, ⟨some 24, .q (.mv (.t 0)), none⟩, ⟨some 25, .q (.mv (.t 8)), none⟩, ⟨some 26, .q (.ia 3 (.t 24) (.t 25)), none⟩, ⟨some 27, .q (.ldn 3 (.t 26)), none⟩, ⟨some 28, .q (.ia 3 (.t 16) (.t 17)), none⟩, ⟨none, .e (.st 3 (.t 28) (.t 23)), none⟩, ⟨some 29, .q (.ia 3 (.t 18) (.t 19)), none⟩, ⟨none, .e (.st 3 (.t 29) (.t 27)), none⟩]
def c78_6 : List SOper := [⟨some 30, .q (.mv (.t 8)), none⟩, ⟨some 31, .q (.bin .add (.t 30) (.c (.int .i64 1))), none⟩, ⟨some 8, .q (.mv (.t 31)), none⟩]
def c78_7 : List SOper := [⟨some 32, .q (.mv (.t 9)), none⟩, ⟨some 33, .q (.bin .sub (.t 32) (.c (.int .i64 1))), none⟩, ⟨some 9, .q (.mv (.t 33)), none⟩]
def c78_8 : SCode := .seq (.region c78_6 [0, 8, 9]) (.region c78_7 [0, 8, 9])
def c78_9 : SCode := .seq (.region c78_5 [0, 8, 9]) c78_8
def c78_10 : SCode := .block 1 c78_9
def c78_11 : SCode := .seq c78_4 c78_10
def c78_12 : SCode := .loop c78_11
def c78_13 : SCode := .block 0 c78_12
def c78_14 : SCode := .seq (.region c78_1 [0, 8, 9]) c78_13
def c78_15 : SCode := .seq (.region c78_0 [0, 2, 8]) c78_14
def c78 : SCode := c78_15
theorem w78 : type_of% (And.intro (uR Try.prog c78_0.eq_1) (And.intro (uR Try.prog c78_1.eq_1) (And.intro (uR Try.prog c78_2.eq_1) (And.intro (uC Try.prog c78_3.eq_1) (And.intro (uC Try.prog c78_4.eq_1) (And.intro (uR Try.prog c78_5.eq_1) (And.intro (uR Try.prog c78_6.eq_1) (And.intro (uR Try.prog c78_7.eq_1) (And.intro (uC Try.prog c78_8.eq_1) (And.intro (uC Try.prog c78_9.eq_1) (And.intro (uC Try.prog c78_10.eq_1) (And.intro (uC Try.prog c78_11.eq_1) (And.intro (uC Try.prog c78_12.eq_1) (And.intro (uC Try.prog c78_13.eq_1) (And.intro (uC Try.prog c78_14.eq_1) (And.intro (uC Try.prog c78_15.eq_1) (uC Try.prog c78.eq_1))))))))))))))))) := (And.intro (uR Try.prog c78_0.eq_1) (And.intro (uR Try.prog c78_1.eq_1) (And.intro (uR Try.prog c78_2.eq_1) (And.intro (uC Try.prog c78_3.eq_1) (And.intro (uC Try.prog c78_4.eq_1) (And.intro (uR Try.prog c78_5.eq_1) (And.intro (uR Try.prog c78_6.eq_1) (And.intro (uR Try.prog c78_7.eq_1) (And.intro (uC Try.prog c78_8.eq_1) (And.intro (uC Try.prog c78_9.eq_1) (And.intro (uC Try.prog c78_10.eq_1) (And.intro (uC Try.prog c78_11.eq_1) (And.intro (uC Try.prog c78_12.eq_1) (And.intro (uC Try.prog c78_13.eq_1) (And.intro (uC Try.prog c78_14.eq_1) (And.intro (uC Try.prog c78_15.eq_1) (uC Try.prog c78.eq_1)))))))))))))))))
def v78 : List RV := []
theorem s78 : slimF Try.prog Try.f78 = some (c78.bare, v78) := by kernel_rfl
/-! 89 slices.order2CmpFunc[loop.example/g00066/impl.Reel]: parameters 5, live [0, 1, 2, 3, 4], slots [0:data, 1:a, 2:b, 3:swaps, 4:cmp, 5:data, 6:a, 7:b, 8:swaps, 9:cmp] -/
def c89_0 : List SOper := [⟨some 10, .q (.mv (.c (.int .i64 0))), none⟩, ⟨some 11, .q (.mv (.c (.int .i64 0))), none⟩]
def c89_1 : List SOper := [⟨some 12, .q (.mv (.t 4)), none⟩, ⟨some 13, .q (.mv (.t 0)), none⟩, ⟨some 14, .q (.mv (.t 2)), none⟩, ⟨some 15, .q (.ia 3 (.t 13) (.t 14)), none⟩, ⟨some 16, .q (.ldn 3 (.t 15)), none⟩, ⟨some 17, .q (.mv (.t 0)), none⟩, ⟨some 18, .q (.mv (.t 1)), none⟩, ⟨some 19, .q (.ia 3 (.t 17) (.t 18)), none⟩, ⟨some 20, .q (.ldn 3 (.t 19)), none⟩, ⟨some 21, .e (.callv (.t 12) [(.t 16), (.t 20)]), none⟩, ⟨some 22, .q (.bin .lss (.t 21) (.c (.int .i64 0))), none⟩]
def c89_2 : List SOper := [⟨some 23, .q (.mv (.t 3)), none⟩, ⟨some 24, .q (.nil (.t 23)), none⟩, ⟨some 25, .q (.ld (.t 24)), none⟩, ⟨some 26, .q (.bin .add (.t 25) (.c (.int .i64 1))), none⟩, ⟨some 27, .q (.nil (.t 23)), none⟩, ⟨none, .e (.st 1 (.t 27) (.t 26)), none⟩]
def c89_3 : List SOper := [⟨some 28, .q (.mv (.t 2)), none⟩, ⟨some 29, .q (.mv (.t 1)), none⟩, ⟨some 10, .q (.mv (.t 28)), none⟩, ⟨some 11, .q (.mv (.t 29)), none⟩]
def c89_4 : SCode := .seq (.region c89_3 [10, 11]) .ret
def c89_5 : SCode := .seq (.region c89_2 [1, 2]) c89_4
def c89_6 : SCode := .cond (.t 22) c89_5 .skip
def c89_7 : SCode := .seq (.region c89_1 [1, 2, 3, 22]) c89_6
def c89_8 : List SOper := [⟨some 30, .q (.mv (.t 1)), none⟩, ⟨some 31, .q (.mv (.t 2)), none⟩, ⟨some 10, .q (.mv (.t 30)), none⟩, ⟨some 11, .q (.mv (.t 31)), none⟩]
def c89_9 : SCode := .seq (.region c89_8 [10, 11]) .ret
def c89_10 : SCode := .seq c89_7 c89_9
def c89_11 : SCode := .seq (.region c89_0 [0, 1, 2, 3, 4]) c89_10
def c89 : SCode := c89_11
theorem w89 : type_of% (And.intro (uR Try.prog c89_0.eq_1) (And.intro (uR Try.prog c89_1.eq_1) (And.intro (uR Try.prog c89_2.eq_1) (And.intro (uR Try.prog c89_3.eq_1) (And.intro (uC Try.prog c89_4.eq_1) (And.intro (uC Try.prog c89_5.eq_1) (And.intro (uC Try.prog c89_6.eq_1) (And.intro (uC Try.prog c89_7.eq_1) (And.intro (uR Try.prog c89_8.eq_1) (And.intro (uC Try.prog c89_9.eq_1) (And.intro (uC Try.prog c89_10.eq_1) (And.intro (uC Try.prog c89_11.eq_1) (uC Try.prog c89.eq_1))))))))))))) := (And.intro (uR Try.prog c89_0.eq_1) (And.intro (uR Try.prog c89_1.eq_1) (And.intro (uR Try.prog c89_2.eq_1) (And.intro (uR Try.prog c89_3.eq_1) (And.intro (uC Try.prog c89_4.eq_1) (And.intro (uC Try.prog c89_5.eq_1) (And.intro (uC Try.prog c89_6.eq_1) (And.intro (uC Try.prog c89_7.eq_1) (And.intro (uR Try.prog c89_8.eq_1) (And.intro (uC Try.prog c89_9.eq_1) (And.intro (uC Try.prog c89_10.eq_1) (And.intro (uC Try.prog c89_11.eq_1) (uC Try.prog c89.eq_1)))))))))))))
def v89 : List RV := [.t 10, .t 11]
theorem s89 : slimF Try.prog Try.f89 = some (c89.bare, v89) := by kernel_rfl
/-! 88 slices.medianCmpFunc[loop.example/g00066/impl.Reel]: parameters 6, live [0, 1, 2, 3, 4, 5], slots [0:data, 1:a, 2:b, 3:c, 4:swaps, 5:cmp, 6:data, 7:a, 8:b, 9:c, 10:swaps, 11:cmp] -/
def c88_0 : List SOper := [⟨some 12, .q (.mv (.c (.int .i64 0))), none⟩]
def c88_1 : List SOper := [⟨some 14, .q (.mv (.t 0)), none⟩, ⟨some 15, .q (.mv (.t 1)), none⟩, ⟨some 16, .q (.mv (.t 2)), none⟩, ⟨some 17, .q (.mv (.t 4)), none⟩, ⟨some 18, .q (.mv (.t 5)), none⟩, ⟨some 19, .e (.call 89 [(.t 14), (.t 15), (.t 16), (.t 17), (.t 18)]), none⟩, ⟨some 13, .q (.mv (.t 19)), none⟩, ⟨some 20, .q (.ext (.t 13) 0), none⟩, ⟨some 21, .q (.ext (.t 13) 1), none⟩, ⟨some 1, .q (.mv (.t 20)), none⟩, ⟨some 2, .q (.mv (.t 21)), none⟩]
def c88_2 : List SOper := [⟨some 23, .q (.mv (.t 0)), none⟩, ⟨some 24, .q (.mv (.t 2)), none⟩, ⟨some 25, .q (.mv (.t 3)), none⟩, ⟨some 26, .q (.mv (.t 4)), none⟩, ⟨some 27, .q (.mv (.t 5)), none⟩, ⟨some 28, .e (.call 89 [(.t 23), (.t 24), (.t 25), (.t 26), (.t 27)]), none⟩, ⟨some 22, .q (.mv (.t 28)), none⟩, ⟨some 29, .q (.ext (.t 22) 0), none⟩, ⟨some 30, .q (.ext (.t 22) 1), none⟩, ⟨some 2, .q (.mv (.t 29)), none⟩, ⟨some 3, .q (.mv (.t 30)), none⟩]
def c88_3 : List SOper := [⟨some 32, .q (.mv (.t 0)), none⟩, ⟨some 33, .q (.mv (.t 1)), none⟩, ⟨some 34, .q (.mv (.t 2)), none⟩, ⟨some 35, .q (.mv (.t 4)), none⟩, ⟨some 36, .q (.mv (.t 5)), none⟩, ⟨some 37, .e (.call 89 [(.t 32), (.t 33), (.t 34), (.t 35), (.t 36)]), none⟩, ⟨some 31, .q (.mv (.t 37)), none⟩, ⟨some 38, .q (.ext (.t 31) 0), none⟩, ⟨some 39, .q (.ext (.t 31) 1), none⟩, ⟨some 1, .q (.mv (.t 38)), none⟩, ⟨some 2, .q (.mv (.t 39)), none⟩]
def c88_4 : List SOper := [⟨some 40, .q (.mv (.t 2)), none⟩, ⟨some 12, .q (.mv (.t 40)), none⟩]
def c88_5 : SCode := .seq (.region c88_4 [12]) .ret
def c88_6 : SCode := .seq (.region c88_3 [2]) c88_5
def c88_7 : SCode := .seq (.region c88_2 [0, 1, 2, 4, 5]) c88_6
def c88_8 : SCode := .seq (.region c88_1 [0, 1, 2, 3, 4, 5]) c88_7
def c88_9 : SCode := .seq (.region c88_0 [0, 1, 2, 3, 4, 5]) c88_8
def c88 : SCode := c88_9
theorem w88 : type_of% (And.intro (uR Try.prog c88_0.eq_1) (And.intro (uR Try.prog c88_1.eq_1) (And.intro (uR Try.prog c88_2.eq_1) (And.intro (uR Try.prog c88_3.eq_1) (And.intro (uR Try.prog c88_4.eq_1) (And.intro (uC Try.prog c88_5.eq_1) (And.intro (uC Try.prog c88_6.eq_1) (And.intro (uC Try.prog c88_7.eq_1) (And.intro (uC Try.prog c88_8.eq_1) (And.intro (uC Try.prog c88_9.eq_1) (uC Try.prog c88.eq_1))))))))))) := (And.intro (uR Try.prog c88_0.eq_1) (And.intro (uR Try.prog c88_1.eq_1) (And.intro (uR Try.prog c88_2.eq_1) (And.intro (uR Try.prog c88_3.eq_1) (And.intro (uR Try.prog c88_4.eq_1) (And.intro (uC Try.prog c88_5.eq_1) (And.intro (uC Try.prog c88_6.eq_1) (And.intro (uC Try.prog c88_7.eq_1) (And.intro (uC Try.prog c88_8.eq_1) (And.intro (uC Try.prog c88_9.eq_1) (uC Try.prog c88.eq_1)))))))))))
def v88 : List RV := [.t 12]
theorem s88 : slimF Try.prog Try.f88 = some (c88.bare, v88) := by kernel_rfl
/-! 87 slices.medianAdjacentCmpFunc[loop.example/g00066/impl.Reel]: parameters 4, live [0, 1, 2, 3], slots [0:data, 1:a, 2:swaps, 3:cmp, 4:data, 5:a, 6:swaps, 7:cmp] -/
def c87_0 : List SOper := [⟨some 8, .q (.mv (.c (.int .i64 0))), none⟩]
def c87_1 : List SOper := [⟨some 9, .q (.mv (.t 0)), none⟩, ⟨some 10, .q (.mv (.t 1)), none⟩, ⟨some 11, .q (.bin .sub (.t 10) (.c (.int .i64 1))), none⟩, ⟨some 12, .q (.mv (.t 1)), none⟩, ⟨some 13, .q (.mv (.t 1)), none⟩, ⟨some 14, .q (.bin .add (.t 13) (.c (.int .i64 1))), none⟩, ⟨some 15, .q (.mv (.t 2)), none⟩, ⟨some 16, .q (.mv (.t 3)), none⟩, ⟨some 17, .e (.call 88 [(.t 9), (.t 11), (.t 12), (.t 14), (.t 15), (.t 16)]), none⟩, ⟨some 8, .q (.mv (.t 17)), none⟩]
def c87_2 : SCode := .seq (.region c87_1 [8]) .ret
def c87_3 : SCode := .seq (.region c87_0 [0, 1, 2, 3]) c87_2
def c87 : SCode := c87_3
theorem w87 : type_of% (And.intro (uR Try.prog c87_0.eq_1) (And.intro (uR Try.prog c87_1.eq_1) (And.intro (uC Try.prog c87_2.eq_1) (And.intro (uC Try.prog c87_3.eq_1) (uC Try.prog c87.eq_1))))) := (And.intro (uR Try.prog c87_0.eq_1) (And.intro (uR Try.prog c87_1.eq_1) (And.intro (uC Try.prog c87_2.eq_1) (And.intro (uC Try.prog c87_3.eq_1) (uC Try.prog c87.eq_1)))))
def v87 : List RV := [.t 8]
theorem s87 : slimF Try.prog Try.f87 = some (c87.bare, v87) := by kernel_rfl
/-! 77 slices.choosePivotCmpFunc[loop.example/g00066/impl.Reel]: parameters 4, live [0, 1, 2, 3], slots [0:data, 1:a, 2:b, 3:cmp, 4:data, 5:a, 6:b, 7:cmp, 8:pivot, 9:hint, 10:l, 11:swaps, 12:i, 13:j, 14:k] -/
def c77_0 : List SOper := [⟨some 8, .q (.mv (.c (.int .i64 0))), none⟩, ⟨some 9, .q (.mv (.c (.int .i64 0))), none⟩]
def c77_1 : List SOper := [⟨some 15, .q (.mv (.t 2)), none⟩, ⟨some 16, .q (.mv (.t 1)), none⟩, ⟨some 17, .q (.bin .sub (.t 15) (.t 16)), none⟩, ⟨some 10, .q (.mv (.t 17)), none⟩]
def c77_2 : List SOper := [⟨some 11, .a (.new [(.int .i64 0)]), none⟩]
def c77_3 : List SOper := [⟨some 18, .q (.mv (.t 1)), none⟩, ⟨some 19, .q (.mv (.t 10)), none⟩, ⟨some 20, .q (.bin .quo (.t 19) (.c (.int .i64 4))), none⟩, ⟨some 21, .q (.bin .mul (.t 20) (.c (.int .i64 1))), none⟩, ⟨some 22, .q (.bin .add (.t 18) (.t 21)), none⟩, ⟨some 12, .q (.mv (.t 22)), none⟩]
def c77_4 : List SOper := [⟨some 23, .q (.mv (.t 1)), none⟩, ⟨some 24, .q (.mv (.t 10)), none⟩, ⟨some 25, .q (.bin .quo (.t 24) (.c (.int .i64 4))), none⟩, ⟨some 26, .q (.bin .mul (.t 25) (.c (.int .i64 2))), none⟩, ⟨some 27, .q (.bin .add (.t 23) (.t 26)), none⟩, ⟨some 13, .q (.mv (.t 27)), none⟩]
def c77_5 : List SOper := [⟨some 28, .q (.mv (.t 1)), none⟩, ⟨some 29, .q (.mv (.t 10)), none⟩, ⟨some 30, .q (.bin .quo (.t 29) (.c (.int .i64 4))), none⟩, ⟨some 31, .q (.bin .mul (.t 30) (.c (.int .i64 3))), none⟩, ⟨some 32, .q (.bin .add (.t 28) (.t 31)), none⟩, ⟨some 14, .q (.mv (.t 32)), none⟩]
def c77_6 : List SOper := [⟨some 33, .q (.mv (.t 10)), none⟩, ⟨some 34, .q (.bin .geq (.t 33) (.c (.int .i64 8))), none⟩]
def c77_7 : List SOper := [⟨some 35, .q (.mv (.t 10)), none⟩, ⟨some 36, .q (.bin .geq (.t 35) (.c (.int .i64 50))), none⟩]
def c77_8 : List SOper := [⟨some 37, .q (.mv (.t 0)), none⟩, ⟨some 38, .q (.mv (.t 12)), none⟩, ⟨some 39, .q (.mv (.t 3)), none⟩, ⟨some 40, .e (.call 87 [(.t 37), (.t 38), (.t 11), (.t 39)]), none⟩, ⟨some 12, .q (.mv (.t 40)), none⟩]
def c77_9 : List SOper := [⟨some 41, .q (.mv (.t 0)), none⟩, ⟨some 42, .q (.mv (.t 13)), none⟩, ⟨some 43, .q (.mv (.t 3)), none⟩, ⟨some 44, .e (.call 87 [(.t 41), (.t 42), (.t 11), (.t 43)]), none⟩, ⟨some 13, .q (.mv (.t 44)), none⟩]
def c77_10 : List SOper := [⟨some 45, .q (.mv (.t 0)), none⟩, ⟨some 46, .q (.mv (.t 14)), none⟩, ⟨some 47, .q (.mv (.t 3)), none⟩, ⟨some 48, .e (.call 87 [(.t 45), (.t 46), (.t 11), (.t 47)]), none⟩, ⟨some 14, .q (.mv (.t 48)), none⟩]
def c77_11 : SCode := .seq (.region c77_9 [0, 3, 11, 12, 13, 14]) (.region c77_10 [0, 3, 11, 12, 13, 14])
def c77_12 : SCode := .seq (.region c77_8 [0, 3, 11, 12, 13, 14]) c77_11
def c77_13 : SCode := .cond (.t 36) c77_12 .skip
def c77_14 : SCode := .seq (.region c77_7 [0, 3, 11, 12, 13, 14, 36]) c77_13
def c77_15 : List SOper := [⟨some 49, .q (.mv (.t 0)), none⟩, ⟨some 50, .q (.mv (.t 12)), none⟩, ⟨some 51, .q (.mv (.t 13)), none⟩, ⟨some 52, .q (.mv (.t 14)), none⟩, ⟨some 53, .q (.mv (.t 3)), none⟩, ⟨some 54, .e (.call 88 [(.t 49), (.t 50), (.t 51), (.t 52), (.t 11), (.t 53)]), none⟩, ⟨some 13, .q (.mv (.t 54)), none⟩]
def c77_16 : SCode := .seq c77_14 (.region c77_15 [11, 13])
def c77_17 : SCode := .cond (.t 34) c77_16 .skip
def c77_18 : SCode := .seq (.region c77_6 [0, 3, 10, 11, 12, 13, 14, 34]) c77_17
def c77_19 : List SOper := [⟨some 55, .q (.ld (.t 11)), none⟩]
def c77_20 : List SOper := [⟨some 58, .q (.bin .eql (.t 55) (.c (.int .i64 0))), none⟩, ⟨some 57, .q (.mv (.t 58)), none⟩]
def c77_21 : List SOper := [⟨some 59, .q (.mv (.t 13)), none⟩, ⟨some 8, .q (.mv (.t 59)), none⟩, ⟨some 9, .q (.mv (.c (.int .i64 1))), none⟩]
def c77_22 : SCode := .seq (.region c77_21 [8, 9]) .ret
def c77_23 : List SOper := [⟨some 61, .q (.bin .eql (.t 55) (.c (.int .i64 12))), none⟩, ⟨some 60, .q (.mv (.t 61)), none⟩]
def c77_24 : List SOper := [⟨some 62, .q (.mv (.t 13)), none⟩, ⟨some 8, .q (.mv (.t 62)), none⟩, ⟨some 9, .q (.mv (.c (.int .i64 2))), none⟩]
def c77_25 : SCode := .seq (.region c77_24 [8, 9]) .ret
def c77_26 : List SOper := [⟨some 56, .q (.mv (.t 13)), none⟩, ⟨some 8, .q (.mv (.t 56)), none⟩, ⟨some 9, .q (.mv (.c (.int .i64 0))), none⟩]
def c77_27 : SCode := .seq (.region c77_26 [8, 9]) .ret
def c77_28 : SCode := .cond (.t 60) c77_25 c77_27
def c77_29 : SCode := .seq (.region c77_23 [13, 60]) c77_28
def c77_30 : SCode := .cond (.t 57) c77_22 c77_29
def c77_31 : SCode := .seq (.region c77_20 [13, 55, 57]) c77_30
def c77_32 : SCode := .block 0 c77_31
def c77_33 : SCode := .seq (.region c77_19 [13, 55]) c77_32
def c77_34 : SCode := .seq c77_18 c77_33
def c77_35 : SCode := .seq (.region c77_5 [0, 3, 10, 11, 12, 13, 14]) c77_34
def c77_36 : SCode := .seq (.region c77_4 [0, 1, 3, 10, 11, 12, 13]) c77_35
def c77_37 : SCode := .seq (.region c77_3 [0, 1, 3, 10, 11, 12]) c77_36
def c77_38 : SCode := .seq (.region c77_2 [0, 1, 3, 10, 11]) c77_37
def c77_39 : SCode := .seq (.region c77_1 [0, 1, 3, 10]) c77_38
def c77_40 : SCode := .seq (.region c77_0 [0, 1, 2, 3]) c77_39
def c77 : SCode := c77_40
theorem w77 : type_of% (And.intro (uR Try.prog c77_0.eq_1) (And.intro (uR Try.prog c77_1.eq_1) (And.intro (uR Try.prog c77_2.eq_1) (And.intro (uR Try.prog c77_3.eq_1) (And.intro (uR Try.prog c77_4.eq_1) (And.intro (uR Try.prog c77_5.eq_1) (And.intro (uR Try.prog c77_6.eq_1) (And.intro (uR Try.prog c77_7.eq_1) (And.intro (uR Try.prog c77_8.eq_1) (And.intro (uR Try.prog c77_9.eq_1) (And.intro (uR Try.prog c77_10.eq_1) (And.intro (uC Try.prog c77_11.eq_1) (And.intro (uC Try.prog c77_12.eq_1) (And.intro (uC Try.prog c77_13.eq_1) (And.intro (uC Try.prog c77_14.eq_1) (And.intro (uR Try.prog c77_15.eq_1) (And.intro (uC Try.prog c77_16.eq_1) (And.intro (uC Try.prog c77_17.eq_1) (And.intro (uC Try.prog c77_18.eq_1) (And.intro (uR Try.prog c77_19.eq_1) (And.intro (uR Try.prog c77_20.eq_1) (And.intro (uR Try.prog c77_21.eq_1) (And.intro (uC Try.prog c77_22.eq_1) (And.intro (uR Try.prog c77_23.eq_1) (And.intro (uR Try.prog c77_24.eq_1) (And.intro (uC Try.prog c77_25.eq_1) (And.intro (uR Try.prog c77_26.eq_1) (And.intro (uC Try.prog c77_27.eq_1) (And.intro (uC Try.prog c77_28.eq_1) (And.intro (uC Try.prog c77_29.eq_1) (And.intro (uC Try.prog c77_30.eq_1) (And.intro (uC Try.prog c77_31.eq_1) (And.intro (uC Try.prog c77_32.eq_1) (And.intro (uC Try.prog c77_33.eq_1) (And.intro (uC Try.prog c77_34.eq_1) (And.intro (uC Try.prog c77_35.eq_1) (And.intro (uC Try.prog c77_36.eq_1) (And.intro (uC Try.prog c77_37.eq_1) (And.intro (uC Try.prog c77_38.eq_1) (And.intro (uC Try.prog c77_39.eq_1) (And.intro (uC Try.prog c77_40.eq_1) (uC Try.prog c77.eq_1)))))))))))))))))))))))))))))))))))))))))) := (And.intro (uR Try.prog c77_0.eq_1) (And.intro (uR Try.prog c77_1.eq_1) (And.intro (uR Try.prog c77_2.eq_1) (And.intro (uR Try.prog c77_3.eq_1) (And.intro (uR Try.prog c77_4.eq_1) (And.intro (uR Try.prog c77_5.eq_1) (And.intro (uR Try.prog c77_6.eq_1) (And.intro (uR Try.prog c77_7.eq_1) (And.intro (uR Try.prog c77_8.eq_1) (And.intro (uR Try.prog c77_9.eq_1) (And.intro (uR Try.prog c77_10.eq_1) (And.intro (uC Try.prog c77_11.eq_1) (And.intro (uC Try.prog c77_12.eq_1) (And.intro (uC Try.prog c77_13.eq_1) (And.intro (uC Try.prog c77_14.eq_1) (And.intro (uR Try.prog c77_15.eq_1) (And.intro (uC Try.prog c77_16.eq_1) (And.intro (uC Try.prog c77_17.eq_1) (And.intro (uC Try.prog c77_18.eq_1) (And.intro (uR Try.prog c77_19.eq_1) (And.intro (uR Try.prog c77_20.eq_1) (And.intro (uR Try.prog c77_21.eq_1) (And.intro (uC Try.prog c77_22.eq_1) (And.intro (uR Try.prog c77_23.eq_1) (And.intro (uR Try.prog c77_24.eq_1) (And.intro (uC Try.prog c77_25.eq_1) (And.intro (uR Try.prog c77_26.eq_1) (And.intro (uC Try.prog c77_27.eq_1) (And.intro (uC Try.prog c77_28.eq_1) (And.intro (uC Try.prog c77_29.eq_1) (And.intro (uC Try.prog c77_30.eq_1) (And.intro (uC Try.prog c77_31.eq_1) (And.intro (uC Try.prog c77_32.eq_1) (And.intro (uC Try.prog c77_33.eq_1) (And.intro (uC Try.prog c77_34.eq_1) (And.intro (uC Try.prog c77_35.eq_1) (And.intro (uC Try.prog c77_36.eq_1) (And.intro (uC Try.prog c77_37.eq_1) (And.intro (uC Try.prog c77_38.eq_1) (And.intro (uC Try.prog c77_39.eq_1) (And.intro (uC Try.prog c77_40.eq_1) (uC Try.prog c77.eq_1))))))))))))))))))))))))))))))))))))))))))
def v77 : List RV := [.t 8, .t 9]
theorem s77 : slimF Try.prog Try.f77 = some (c77.bare, v77) := by kernel_rfl

theorem reverse_ok (h : Heap) (g : Nat) (v : Value) (d : Array Reel) (a b : Nat) (o : OwnT g h encReel 3 v d.toList) (hab : a < b) (hb : b ≤ d.size) (hl : d.size ≤ 1000000000000) :
    ACall Try.prog 78 [v, .int .i64 (a : Int), .int .i64 (b : Int), .func (.func 56) #[] #[]] h fun r h' => ExtG g h h' ∧ OwnT g h' encReel 3 v (Go.Sort.reverseRange d a b).toList := by
  refine ACall.of Try.func78 s78 (of_decide_eq_true rfl) ?_
  have W : ∀ i : Nat, i ≤ 1000000000001 → IntKind.i64.wrap ((i : Int) + 1) = ((i + 1 : Nat) : Int) := fun i hi => i64e (by omega) (by omega)
  have Wd : ∀ i : Nat, i ≤ 1000000000001 → IntKind.i64.wrap (((i + 1 : Nat) : Int) - 1) = (i : Int) := fun i hi => i64e (by omega) (by omega)
  obtain ⟨bb, rfl⟩ : ∃ bb, b = bb + 1 := ⟨b - 1, by omega⟩
  simp (maxSteps := 4000000) (disch := omega) only [ah, am, Nat.reduceEqDiff, reduceCtorEq, Nat.reduceAdd, Nat.reduceLeDiff, Nat.reduceMul, Nat.reduceLT, if_true, if_false, true_and, and_true, and_self, Nat.reduceBEq, QOp.loads, boxO, bslO, buildO, cutL, fillV, putL, w78, v78, Wd bb (by omega)]
  obtain ⟨D, hD⟩ : ∃ D, D = Go.Sort.reverseRange d a (bb + 1) := ⟨_, rfl⟩
  rw [← hD]
  rw [Go.Sort.reverseRange, Nat.add_sub_cancel] at hD
  refine ⟨fun m E K => ∃ (i j : Nat) (d' : Array Reel), m = j - i ∧ Go.Sort.reverseLoop i j d' = D ∧ d'.size = d.size ∧ j ≤ bb ∧ i ≤ bb + 1 ∧ ExtG g h K ∧ OwnT g K encReel 3 v d'.toList ∧
    E = [(0, v), (8, .int .i64 (i : Int)), (9, .int .i64 (j : Int))], ⟨_, a, bb, d, rfl, hD.symm, rfl, by omega, by omega, ExtG.refl _ _, o, rfl⟩, ?_⟩
  rintro m E K ⟨i, j, d', rfl, hR, hs, hj, hi, G, O, rfl⟩
  rw [Go.Sort.reverseLoop] at hR
  by_cases hij : i < j
  · rw [if_pos hij] at hR
    obtain ⟨j, rfl⟩ : ∃ k, j = k + 1 := ⟨j - 1, by omega⟩
    have R1 := rdA O (i := i) (by omega)
    have R2 := rdA O (i := j + 1) (by omega)
    obtain ⟨K2, K3, s1, s2, O, g2⟩ := swA O (i := i) (j := j + 1) (by omega) (by omega)
    rw [Nat.add_sub_cancel] at hR
    simp (maxSteps := 4000000) (disch := omega) only [ah, am, Nat.reduceEqDiff, reduceCtorEq, Nat.reduceAdd, Nat.reduceLeDiff, Nat.reduceMul, Nat.reduceLT, if_true, if_false, true_and, and_true, and_self, Nat.reduceBEq, QOp.loads, boxO, bslO, buildO, cutL, fillV, putL, w78, v78, decide_eq_true (show (i : Int) < ((j + 1 : Nat) : Int) by omega), R1, R2, s1, s2, W i (by omega), Wd j (by omega)]
    exact ⟨j - (i + 1), by omega, i + 1, j, _, rfl, hR, by rw [swp_size, hs], by omega, by omega, G.trans g2, O, rfl⟩
  · rw [if_neg hij] at hR
    subst hR
    simp (maxSteps := 4000000) (disch := omega) only [ah, am, Nat.reduceEqDiff, reduceCtorEq, Nat.reduceAdd, Nat.reduceLeDiff, Nat.reduceMul, Nat.reduceLT, if_true, if_false, true_and, and_true, and_self, Nat.reduceBEq, QOp.loads, boxO, bslO, buildO, cutL, fillV, putL, w78, v78, decide_eq_false (show ¬ (i : Int) < (j : Int) by omega)]
    exact ⟨G, O⟩
/-! ### The pivot: just that it lies within -/
/-- A box that counts. -/
def Cnt (h : Heap) (q : Nat) : Prop := ∃ n : Int, Bx h q [.int .i64 n]
theorem order2_ok (h : Heap) (g q : Nat) (v : Value) (d : Array Reel) (a b : Nat) (o : OwnT g h encReel 3 v d.toList) (ha : a < d.size) (hb : b < d.size) (hl : d.size ≤ 1000000000000) (c : Cnt h q) (hq : q ≠ g) :
    ACall Try.prog 89 [v, .int .i64 (a : Int), .int .i64 (b : Int), .pointer (some ⟨q, 0, none⟩), .func (.func 56) #[] #[]] h
      fun r h' => (r = .tuple #[.int .i64 (a : Int), .int .i64 (b : Int)] ∨ r = .tuple #[.int .i64 (b : Int), .int .i64 (a : Int)]) ∧ ExtG q h h' ∧ OwnT g h' encReel 3 v d.toList ∧ Cnt h' q := by
  obtain ⟨fn, hf1, hf2, hf3⟩ := fv_ok
  refine ACall.of Try.func89 s89 (of_decide_eq_true rfl) ?_
  have R1 := rdA o (i := a) ha
  have R2 := rdA o (i := b) hb
  simp (maxSteps := 4000000) (disch := omega) only [ah, am, Nat.reduceEqDiff, reduceCtorEq, Nat.reduceAdd, Nat.reduceLeDiff, Nat.reduceMul, Nat.reduceLT, if_true, if_false, true_and, and_true, and_self, Nat.reduceBEq, QOp.loads, boxO, bslO, buildO, cutL, fillV, putL, w89, v89, R1, R2]
  refine stepV.of hf1 hf2 hf3 (told1_ok _ _ _) ?_
  rintro _ K2 ⟨e, rfl⟩
  have O := o.ext e
  obtain ⟨n, B⟩ := c
  have B := B.ext e
  cases hb : ltR d[b]! d[a]! with
  | true =>
    have X := B.ld
    obtain ⟨K3, es, B2, g2⟩ := B.put (o := 0) (n := 1) (y := .int .i64 (IntKind.i64.wrap (n + 1))) rfl (by simp) rfl
    simp (maxSteps := 4000000) (disch := omega) only [ah, am, Nat.reduceEqDiff, reduceCtorEq, Nat.reduceAdd, Nat.reduceLeDiff, Nat.reduceMul, Nat.reduceLT, if_true, if_false, true_and, and_true, and_self, Nat.reduceBEq, QOp.loads, boxO, bslO, buildO, cutL, fillV, putL, w89, v89, ltd, hb, X, es]
    exact ⟨.inr trivial, e.toG.trans g2, O.extG g2 (Ne.symm hq), _, B2⟩
  | false =>
    simp (maxSteps := 4000000) (disch := omega) only [ah, am, Nat.reduceEqDiff, reduceCtorEq, Nat.reduceAdd, Nat.reduceLeDiff, Nat.reduceMul, Nat.reduceLT, if_true, if_false, true_and, and_true, and_self, Nat.reduceBEq, QOp.loads, boxO, bslO, buildO, cutL, fillV, putL, w89, v89, ltd, hb]
    exact ⟨.inl trivial, e.toG, O, _, B⟩
theorem env0_6 (a b c d e f : Value) : env0 0 [a, b, c, d, e, f] = [(0, a), (1, b), (2, c), (3, d), (4, e), (5, f)] := rfl
theorem median_ok (h : Heap) (g q : Nat) (v : Value) (d : Array Reel) (a b c0 : Nat) (O : OwnT g h encReel 3 v d.toList) (ha : a < d.size) (hb : b < d.size) (hc : c0 < d.size) (hl : d.size ≤ 1000000000000) (c : Cnt h q) (hq : q ≠ g) :
    ACall Try.prog 88 [v, .int .i64 (a : Int), .int .i64 (b : Int), .int .i64 (c0 : Int), .pointer (some ⟨q, 0, none⟩), .func (.func 56) #[] #[]] h
      fun r h' => (∃ x : Nat, r = .int .i64 (x : Int) ∧ (x = a ∨ x = b ∨ x = c0)) ∧ ExtG q h h' ∧ OwnT g h' encReel 3 v d.toList ∧ Cnt h' q := by
  refine ACall.of Try.func88 s88 (of_decide_eq_true rfl) ?_
  simp (maxSteps := 4000000) (disch := omega) only [ah, am, Nat.reduceEqDiff, reduceCtorEq, Nat.reduceAdd, Nat.reduceLeDiff, Nat.reduceMul, Nat.reduceLT, if_true, if_false, true_and, and_true, and_self, Nat.reduceBEq, QOp.loads, boxO, bslO, buildO, cutL, fillV, putL, w88, v88, env0_6]
  refine stepC.of (order2_ok _ g q v d a b O (by omega) (by omega) hl c hq) ?_
  rintro _ K1 ⟨h1, g1, O, c⟩
  obtain ⟨x1, y1, rfl, hx1⟩ : ∃ x y : Nat, _ = Value.tuple #[.int .i64 (x : Int), .int .i64 (y : Int)] ∧ ((x = a ∧ y = b) ∨ (x = b ∧ y = a)) := by
    rcases h1 with e | e
    · exact ⟨a, b, e, .inl ⟨rfl, rfl⟩⟩
    · exact ⟨b, a, e, .inr ⟨rfl, rfl⟩⟩
  simp (maxSteps := 4000000) (disch := omega) only [ah, am, Nat.reduceEqDiff, reduceCtorEq, Nat.reduceAdd, Nat.reduceLeDiff, Nat.reduceMul, Nat.reduceLT, if_true, if_false, true_and, and_true, and_self, Nat.reduceBEq, QOp.loads, boxO, bslO, buildO, cutL, fillV, putL, w88, v88]
  refine stepC.of (order2_ok _ g q v d y1 c0 O (by omega) (by omega) hl c hq) ?_
  rintro _ K2 ⟨h2, g2, O, c⟩
  obtain ⟨x2, y2, rfl, hx2⟩ : ∃ x y : Nat, _ = Value.tuple #[.int .i64 (x : Int), .int .i64 (y : Int)] ∧ ((x = y1 ∧ y = c0) ∨ (x = c0 ∧ y = y1)) := by
    rcases h2 with e | e
    · exact ⟨y1, c0, e, .inl ⟨rfl, rfl⟩⟩
    · exact ⟨c0, y1, e, .inr ⟨rfl, rfl⟩⟩
  simp (maxSteps := 4000000) (disch := omega) only [ah, am, Nat.reduceEqDiff, reduceCtorEq, Nat.reduceAdd, Nat.reduceLeDiff, Nat.reduceMul, Nat.reduceLT, if_true, if_false, true_and, and_true, and_self, Nat.reduceBEq, QOp.loads, boxO, bslO, buildO, cutL, fillV, putL, w88, v88]
  refine stepC.of (order2_ok _ g q v d x1 x2 O (by omega) (by omega) hl c hq) ?_
  rintro _ K3 ⟨h3, g3, O, c⟩
  obtain ⟨x3, y3, rfl, hx3⟩ : ∃ x y : Nat, _ = Value.tuple #[.int .i64 (x : Int), .int .i64 (y : Int)] ∧ ((x = x1 ∧ y = x2) ∨ (x = x2 ∧ y = x1)) := by
    rcases h3 with e | e
    · exact ⟨x1, x2, e, .inl ⟨rfl, rfl⟩⟩
    · exact ⟨x2, x1, e, .inr ⟨rfl, rfl⟩⟩
  simp (maxSteps := 4000000) (disch := omega) only [ah, am, Nat.reduceEqDiff, reduceCtorEq, Nat.reduceAdd, Nat.reduceLeDiff, Nat.reduceMul, Nat.reduceLT, if_true, if_false, true_and, and_true, and_self, Nat.reduceBEq, QOp.loads, boxO, bslO, buildO, cutL, fillV, putL, w88, v88]
  exact ⟨⟨y3, rfl, by omega⟩, (g1.trans g2).trans g3, O, c⟩
theorem medianAdjacent_ok (h : Heap) (g q : Nat) (v : Value) (d : Array Reel) (a : Nat) (O : OwnT g h encReel 3 v d.toList) (ha : 1 ≤ a) (hb : a + 1 < d.size) (hl : d.size ≤ 1000000000000) (c : Cnt h q) (hq : q ≠ g) :
    ACall Try.prog 87 [v, .int .i64 (a : Int), .pointer (some ⟨q, 0, none⟩), .func (.func 56) #[] #[]] h
      fun r h' => (∃ x : Nat, r = .int .i64 (x : Int) ∧ (a ≤ x + 1 ∧ x ≤ a + 1)) ∧ ExtG q h h' ∧ OwnT g h' encReel 3 v d.toList ∧ Cnt h' q := by
  refine ACall.of Try.func87 s87 (of_decide_eq_true rfl) ?_
  obtain ⟨a, rfl⟩ : ∃ k, a = k + 1 := ⟨a - 1, by omega⟩
  have w1 : IntKind.i64.wrap (((a + 1 : Nat) : Int) - 1) = (a : Int) := i64e (by omega) (by omega)
  have w2 : IntKind.i64.wrap (((a + 1 : Nat) : Int) + 1) = ((a + 2 : Nat) : Int) := i64e (by omega) (by omega)
  simp (maxSteps := 4000000) (disch := omega) only [ah, am, Nat.reduceEqDiff, reduceCtorEq, Nat.reduceAdd, Nat.reduceLeDiff, Nat.reduceMul, Nat.reduceLT, if_true, if_false, true_and, and_true, and_self, Nat.reduceBEq, QOp.loads, boxO, bslO, buildO, cutL, fillV, putL, w87, v87, w1, w2]
  refine stepC.of (median_ok _ g q v d a (a + 1) (a + 2) O (by omega) (by omega) (by omega) hl c hq) ?_
  rintro _ K1 ⟨⟨x, rfl, hx⟩, g1, O, c⟩
  simp (maxSteps := 4000000) (disch := omega) only [ah, am, Nat.reduceEqDiff, reduceCtorEq, Nat.reduceAdd, Nat.reduceLeDiff, Nat.reduceMul, Nat.reduceLT, if_true, if_false, true_and, and_true, and_self, Nat.reduceBEq, QOp.loads, boxO, bslO, buildO, cutL, fillV, putL, w87, v87]
  exact ⟨⟨x, rfl, by omega⟩, g1, O, c⟩
theorem own_lt' {α : Type} {g : Nat} {h : Heap} {enc : α → List Value} {sz : Nat} {v : Value} {l : List α} (o : OwnT g h enc sz v l) (hl : 0 < l.length) : g < h.size := by
  rcases o.own with ⟨rfl, h2⟩ | ⟨i, off, n, ob, rfl, h2, h3⟩
  · have := o.slt.slLen
    simp [slLen] at this
    omega
  · have := Heap.get_lt h2; have := Heap.grp_le h2
    have : ob.grp = g := h3.2.2.2.2
    omega
theorem choosePivot_ok (h : Heap) (g : Nat) (v : Value) (d : Array Reel) (a b : Nat) (O : OwnT g h encReel 3 v d.toList) (hab : a + 12 < b) (hb : b ≤ d.size) (hl : d.size ≤ 1000000000000) :
    ACall Try.prog 77 [v, .int .i64 (a : Int), .int .i64 (b : Int), .func (.func 56) #[] #[]] h
      fun r h' => ∃ (p : Nat) (hint : Int), r = .tuple #[.int .i64 (p : Int), .int .i64 hint] ∧ (a ≤ p ∧ p < b) ∧ Ext h h' ∧ OwnT g h' encReel 3 v d.toList := by
  have hg := own_lt' O (by simp; omega)
  refine ACall.of Try.func77 s77 (of_decide_eq_true rfl) ?_
  obtain ⟨l, rfl⟩ : ∃ l, b = a + l := ⟨b - a, by omega⟩
  have w0 : IntKind.i64.wrap (((a + l : Nat) : Int) - (a : Int)) = (l : Int) := i64e (by omega) (by omega)
  have q4 : (l : Int).tdiv 4 = ((l / 4 : Nat) : Int) := by rw [Int.tdiv_eq_ediv_of_nonneg (by omega)]; omega
  have n4 : (4 : Int) ≠ 0 := by decide
  have w1 : IntKind.i64.wrap ((l / 4 : Nat) : Int) = ((l / 4 : Nat) : Int) := i64w (by omega)
  have w2 : IntKind.i64.wrap (((l / 4 : Nat) : Int) * 1) = ((l / 4 : Nat) : Int) := i64e (by omega) (by omega)
  have w3 : IntKind.i64.wrap (((l / 4 : Nat) : Int) * 2) = ((l / 4 * 2 : Nat) : Int) := i64e (by omega) (by omega)
  have w4 : IntKind.i64.wrap (((l / 4 : Nat) : Int) * 3) = ((l / 4 * 3 : Nat) : Int) := i64e (by omega) (by omega)
  have w5 : IntKind.i64.wrap ((a : Int) + ((l / 4 : Nat) : Int)) = ((a + l / 4 : Nat) : Int) := i64e (by omega) (by omega)
  have w6 : IntKind.i64.wrap ((a : Int) + ((l / 4 * 2 : Nat) : Int)) = ((a + l / 4 * 2 : Nat) : Int) := i64e (by omega) (by omega)
  have w7 : IntKind.i64.wrap ((a : Int) + ((l / 4 * 3 : Nat) : Int)) = ((a + l / 4 * 3 : Nat) : Int) := i64e (by omega) (by omega)
  simp (maxSteps := 4000000) (disch := omega) only [ah, am, Nat.reduceEqDiff, reduceCtorEq, Nat.reduceAdd, Nat.reduceLeDiff, Nat.reduceMul, Nat.reduceLT, if_true, if_false, true_and, and_true, and_self, Nat.reduceBEq, QOp.loads, boxO, bslO, buildO, cutL, fillV, putL, w77, v77, w0, q4, n4, ne_eq, w1, w2, w3, w4, w5, w6, w7, decide_eq_true (show (8 : Int) ≤ (l : Int) by omega)]
  have eM := Ext.more h [[.int .i64 0]]
  have C0 : Cnt (h.more [[.int .i64 0]]) h.size := ⟨0, Bx.new _ _ _⟩
  have O := O.ext eM
  obtain ⟨q, hq⟩ : ∃ q, q = h.size := ⟨_, rfl⟩
  have hqg : q ≠ g := by omega
  rw [← hq] at C0 ⊢
  generalize h.more [[.int .i64 0]] = M at eM C0 O ⊢
  refine SW_if (fun E K => ∃ i j k : Nat, (a ≤ i ∧ i < a + l) ∧ (a ≤ j ∧ j < a + l) ∧ (a ≤ k ∧ k < a + l) ∧ ExtG q M K ∧ OwnT g K encReel 3 v d.toList ∧ Cnt K q ∧
    ∃ t, E = (0, v) :: (3, .func (.func 56) #[] #[]) :: (11, .pointer (some ⟨q, 0, none⟩)) :: (12, .int .i64 (i : Int)) :: (13, .int .i64 (j : Int)) :: (14, .int .i64 (k : Int)) :: t) (fun hb => ?_) (fun hb => ?_) ?_
  · have hl50 : 50 ≤ l := by have := of_decide_eq_true hb; omega
    simp (maxSteps := 4000000) (disch := omega) only [ah, am, Nat.reduceEqDiff, reduceCtorEq, Nat.reduceAdd, Nat.reduceLeDiff, Nat.reduceMul, Nat.reduceLT, if_true, if_false, true_and, and_true, and_self, Nat.reduceBEq, QOp.loads, boxO, bslO, buildO, cutL, fillV, putL, w77, v77]
    refine stepC.of (medianAdjacent_ok _ g q v d (a + l / 4) O (by omega) (by omega) hl C0 hqg) ?_
    rintro _ K1 ⟨⟨x, rfl, hx⟩, g1, O, c⟩
    simp (maxSteps := 4000000) (disch := omega) only [ah, am, Nat.reduceEqDiff, reduceCtorEq, Nat.reduceAdd, Nat.reduceLeDiff, Nat.reduceMul, Nat.reduceLT, if_true, if_false, true_and, and_true, and_self, Nat.reduceBEq, QOp.loads, boxO, bslO, buildO, cutL, fillV, putL, w77, v77]
    refine stepC.of (medianAdjacent_ok _ g q v d (a + l / 4 * 2) O (by omega) (by omega) hl c hqg) ?_
    rintro _ K2 ⟨⟨y, rfl, hy⟩, g2, O, c⟩
    simp (maxSteps := 4000000) (disch := omega) only [ah, am, Nat.reduceEqDiff, reduceCtorEq, Nat.reduceAdd, Nat.reduceLeDiff, Nat.reduceMul, Nat.reduceLT, if_true, if_false, true_and, and_true, and_self, Nat.reduceBEq, QOp.loads, boxO, bslO, buildO, cutL, fillV, putL, w77, v77]
    refine stepC.of (medianAdjacent_ok _ g q v d (a + l / 4 * 3) O (by omega) (by omega) hl c hqg) ?_
    rintro _ K3 ⟨⟨z, rfl, hz⟩, g3, O, c⟩
    simp (maxSteps := 4000000) (disch := omega) only [ah, am, Nat.reduceEqDiff, reduceCtorEq, Nat.reduceAdd, Nat.reduceLeDiff, Nat.reduceMul, Nat.reduceLT, if_true, if_false, true_and, and_true, and_self, Nat.reduceBEq, QOp.loads, boxO, bslO, buildO, cutL, fillV, putL, w77, v77]
    exact ⟨x, y, z, by omega, by omega, by omega, (g1.trans g2).trans g3, O, c, _, rfl⟩
  · exact ⟨a + l / 4, a + l / 4 * 2, a + l / 4 * 3, by omega, by omega, by omega, ExtG.refl _ _, O, C0, _, rfl⟩
  rintro E K ⟨i, j, k, hi, hj, hk, G, O, c, t, rfl⟩
  simp (maxSteps := 4000000) (disch := omega) only [ah, am, Nat.reduceEqDiff, reduceCtorEq, Nat.reduceAdd, Nat.reduceLeDiff, Nat.reduceMul, Nat.reduceLT, if_true, if_false, true_and, and_true, and_self, Nat.reduceBEq, QOp.loads, boxO, bslO, buildO, cutL, fillV, putL, w77, v77]
  refine stepC.of (median_ok _ g q v d i j k O (by omega) (by omega) (by omega) hl c hqg) ?_
  rintro _ K1 ⟨⟨x, rfl, hx⟩, g1, O, c⟩
  obtain ⟨n, B⟩ := c
  have X := B.ld
  have e2 : Ext h K1 := (G.trans g1).ext eM (by omega)
  simp (maxSteps := 4000000) (disch := omega) only [ah, am, Nat.reduceEqDiff, reduceCtorEq, Nat.reduceAdd, Nat.reduceLeDiff, Nat.reduceMul, Nat.reduceLT, if_true, if_false, true_and, and_true, and_self, Nat.reduceBEq, QOp.loads, boxO, bslO, buildO, cutL, fillV, putL, w77, v77, X]
  refine stepI.split (fun h1 => ?_) (fun h1 => ?_)
  · simp (maxSteps := 4000000) (disch := omega) only [ah, am, Nat.reduceEqDiff, reduceCtorEq, Nat.reduceAdd, Nat.reduceLeDiff, Nat.reduceMul, Nat.reduceLT, if_true, if_false, true_and, and_true, and_self, Nat.reduceBEq, QOp.loads, boxO, bslO, buildO, cutL, fillV, putL, w77, v77, X]
    exact ⟨x, 1, rfl, by omega, e2, O⟩
  · simp (maxSteps := 4000000) (disch := omega) only [ah, am, Nat.reduceEqDiff, reduceCtorEq, Nat.reduceAdd, Nat.reduceLeDiff, Nat.reduceMul, Nat.reduceLT, if_true, if_false, true_and, and_true, and_self, Nat.reduceBEq, QOp.loads, boxO, bslO, buildO, cutL, fillV, putL, w77, v77, X]
    refine stepI.split (fun h1 => ?_) (fun h1 => ?_)
    · simp (maxSteps := 4000000) (disch := omega) only [ah, am, Nat.reduceEqDiff, reduceCtorEq, Nat.reduceAdd, Nat.reduceLeDiff, Nat.reduceMul, Nat.reduceLT, if_true, if_false, true_and, and_true, and_self, Nat.reduceBEq, QOp.loads, boxO, bslO, buildO, cutL, fillV, putL, w77, v77, X]
      exact ⟨x, 2, rfl, by omega, e2, O⟩
    · simp (maxSteps := 4000000) (disch := omega) only [ah, am, Nat.reduceEqDiff, reduceCtorEq, Nat.reduceAdd, Nat.reduceLeDiff, Nat.reduceMul, Nat.reduceLT, if_true, if_false, true_and, and_true, and_self, Nat.reduceBEq, QOp.loads, boxO, bslO, buildO, cutL, fillV, putL, w77, v77, X]
      exact ⟨x, 0, rfl, by omega, e2, O⟩
end Go.Proofs.Ytmippcfdakjhfaa
