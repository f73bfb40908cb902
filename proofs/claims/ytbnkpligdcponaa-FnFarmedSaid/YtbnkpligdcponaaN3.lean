import Derived.Test.YtbnkpligdcponaaN2
namespace Go.Proofs.Ytbnkpligdcponaa
open Go Go.Ah
set_option linter.unusedSimpArgs false
set_option linter.unusedVariables false
set_option maxRecDepth 10000
set_option maxHeartbeats 4000000
/-! 56 slices.IndexFunc[[]int64,int64]: parameters 2, live [0, 1], slots [0:s, 1:f, 2:s, 3:f, 5:i] -/
def c56_0 : List SOper := [⟨some 4, .q (.mv (.c (.int .i64 0))), none⟩]
def c56_1 : List SOper := [⟨some 6, .q (.mv (.t 0)), none⟩, ⟨some 7, .q (.len (.t 6)), none⟩, ⟨some 8, .q (.mv (.c (.int .i64 0))), none⟩]
def c56_2 : List SOper := [⟨some 9, .q (.bin .lss (.t 8) (.t 7)), none⟩]
def c56_3 : SCode := .cond (.t 9) .skip (.exit 0)
def c56_4 : List SOper := [⟨some 10, .q (.mv (.t 8)), none⟩, ⟨some 5, .q (.mv (.t 10)), none⟩]
def c56_5 : List SOper := [⟨some 11, .q (.mv (.t 1)), none⟩, ⟨some 12, .q (.mv (.t 0)), none⟩, ⟨some 13, .q (.mv (.t 5)), none⟩, ⟨some 14, .q (.ia 1 (.t 12) (.t 13)), none⟩, ⟨some 15, .q (.ld (.t 14)), none⟩, ⟨some 16, .e (.callv (.t 11) [(.t 15)]), none⟩]
def c56_6 : List SOper := [⟨some 17, .q (.mv (.t 5)), none⟩, ⟨some 4, .q (.mv (.t 17)), none⟩]
def c56_7 : SCode := .seq (.region c56_6 [4]) .ret
def c56_8 : SCode := .cond (.t 16) c56_7 .skip
def c56_9 : SCode := .seq (.region c56_5 [0, 1, 5, 7, 8, 16]) c56_8
def c56_10 : SCode := .seq (.region c56_4 [0, 1, 5, 7, 8]) c56_9
def c56_11 : SCode := .block 1 c56_10
def c56_12 : List SOper := [⟨some 18, .q (.bin .add (.t 8) (.c (.int .i64 1))), none⟩, ⟨some 8, .q (.mv (.t 18)), none⟩]
def c56_13 : SCode := .seq c56_11 (.region c56_12 [0, 1, 7, 8])
def c56_14 : SCode := .seq c56_3 c56_13
def c56_15 : SCode := .seq (.region c56_2 [0, 1, 7, 8, 9]) c56_14
def c56_16 : SCode := .loop c56_15
def c56_17 : SCode := .block 0 c56_16
def c56_18 : SCode := .seq (.region c56_1 [0, 1, 7, 8]) c56_17
def c56_19 : List SOper := [⟨some 4, .q (.mv (.c (.int .i64 (-1)))), none⟩]
def c56_20 : SCode := .seq (.region c56_19 [4]) .ret
def c56_21 : SCode := .seq c56_18 c56_20
def c56_22 : SCode := .seq (.region c56_0 [0, 1]) c56_21
def c56 : SCode := c56_22
theorem w56 : type_of% (And.intro (uR Try.prog c56_0.eq_1) (And.intro (uR Try.prog c56_1.eq_1) (And.intro (uR Try.prog c56_2.eq_1) (And.intro (uC Try.prog c56_3.eq_1) (And.intro (uR Try.prog c56_4.eq_1) (And.intro (uR Try.prog c56_5.eq_1) (And.intro (uR Try.prog c56_6.eq_1) (And.intro (uC Try.prog c56_7.eq_1) (And.intro (uC Try.prog c56_8.eq_1) (And.intro (uC Try.prog c56_9.eq_1) (And.intro (uC Try.prog c56_10.eq_1) (And.intro (uC Try.prog c56_11.eq_1) (And.intro (uR Try.prog c56_12.eq_1) (And.intro (uC Try.prog c56_13.eq_1) (And.intro (uC Try.prog c56_14.eq_1) (And.intro (uC Try.prog c56_15.eq_1) (And.intro (uC Try.prog c56_16.eq_1) (And.intro (uC Try.prog c56_17.eq_1) (And.intro (uC Try.prog c56_18.eq_1) (And.intro (uR Try.prog c56_19.eq_1) (And.intro (uC Try.prog c56_20.eq_1) (And.intro (uC Try.prog c56_21.eq_1) (And.intro (uC Try.prog c56_22.eq_1) (uC Try.prog c56.eq_1)))))))))))))))))))))))) := (And.intro (uR Try.prog c56_0.eq_1) (And.intro (uR Try.prog c56_1.eq_1) (And.intro (uR Try.prog c56_2.eq_1) (And.intro (uC Try.prog c56_3.eq_1) (And.intro (uR Try.prog c56_4.eq_1) (And.intro (uR Try.prog c56_5.eq_1) (And.intro (uR Try.prog c56_6.eq_1) (And.intro (uC Try.prog c56_7.eq_1) (And.intro (uC Try.prog c56_8.eq_1) (And.intro (uC Try.prog c56_9.eq_1) (And.intro (uC Try.prog c56_10.eq_1) (And.intro (uC Try.prog c56_11.eq_1) (And.intro (uR Try.prog c56_12.eq_1) (And.intro (uC Try.prog c56_13.eq_1) (And.intro (uC Try.prog c56_14.eq_1) (And.intro (uC Try.prog c56_15.eq_1) (And.intro (uC Try.prog c56_16.eq_1) (And.intro (uC Try.prog c56_17.eq_1) (And.intro (uC Try.prog c56_18.eq_1) (And.intro (uR Try.prog c56_19.eq_1) (And.intro (uC Try.prog c56_20.eq_1) (And.intro (uC Try.prog c56_21.eq_1) (And.intro (uC Try.prog c56_22.eq_1) (uC Try.prog c56.eq_1))))))))))))))))))))))))
def v56 : List RV := [.t 4]
theorem s56 : slimF Try.prog Try.f56 = some (c56.bare, v56) := by kernel_rfl
/-! 37 slices.ContainsFunc[[]int64,int64]: parameters 2, live [0, 1], slots [0:s, 1:f, 2:s, 3:f] -/
def c37_0 : List SOper := [⟨some 4, .q (.mv (.c (.bool false))), none⟩]
def c37_1 : List SOper := [⟨some 5, .q (.mv (.t 0)), none⟩, ⟨some 6, .q (.mv (.t 1)), none⟩, ⟨some 7, .e (.call 56 [(.t 5), (.t 6)]), none⟩, ⟨some 8, .q (.bin .geq (.t 7) (.c (.int .i64 0))), none⟩, ⟨some 4, .q (.mv (.t 8)), none⟩]
def c37_2 : SCode := .seq (.region c37_1 [4]) .ret
def c37_3 : SCode := .seq (.region c37_0 [0, 1]) c37_2
def c37 : SCode := c37_3
theorem w37 : type_of% (And.intro (uR Try.prog c37_0.eq_1) (And.intro (uR Try.prog c37_1.eq_1) (And.intro (uC Try.prog c37_2.eq_1) (And.intro (uC Try.prog c37_3.eq_1) (uC Try.prog c37.eq_1))))) := (And.intro (uR Try.prog c37_0.eq_1) (And.intro (uR Try.prog c37_1.eq_1) (And.intro (uC Try.prog c37_2.eq_1) (And.intro (uC Try.prog c37_3.eq_1) (uC Try.prog c37.eq_1)))))
def v37 : List RV := [.t 4]
theorem s37 : slimF Try.prog Try.f37 = some (c37.bare, v37) := by kernel_rfl
/-! 57 slices.Index[[]int64,int64]: parameters 2, live [0, 1], slots [0:s, 1:v, 2:s, 3:v, 5:i] -/
def c57_0 : List SOper := [⟨some 4, .q (.mv (.c (.int .i64 0))), none⟩]
def c57_1 : List SOper := [⟨some 6, .q (.mv (.t 0)), none⟩, ⟨some 7, .q (.len (.t 6)), none⟩, ⟨some 8, .q (.mv (.c (.int .i64 0))), none⟩]
def c57_2 : List SOper := [⟨some 9, .q (.bin .lss (.t 8) (.t 7)), none⟩]
def c57_3 : SCode := .cond (.t 9) .skip (.exit 0)
def c57_4 : List SOper := [⟨some 10, .q (.mv (.t 8)), none⟩, ⟨some 5, .q (.mv (.t 10)), none⟩]
def c57_5 : List SOper := [⟨some 11, .q (.mv (.t 1)), none⟩, ⟨some 12, .q (.mv (.t 0)), none⟩, ⟨some 13, .q (.mv (.t 5)), none⟩, ⟨some 14, .q (.ia 1 (.t 12) (.t 13)), none⟩, ⟨some 15, .q (.ld (.t 14)), none⟩, ⟨some 16, .q (.bin .eql (.t 11) (.t 15)), none⟩]
def c57_6 : List SOper := [⟨some 17, .q (.mv (.t 5)), none⟩, ⟨some 4, .q (.mv (.t 17)), none⟩]
def c57_7 : SCode := .seq (.region c57_6 [4]) .ret
def c57_8 : SCode := .cond (.t 16) c57_7 .skip
def c57_9 : SCode := .seq (.region c57_5 [0, 1, 5, 7, 8, 16]) c57_8
def c57_10 : SCode := .seq (.region c57_4 [0, 1, 5, 7, 8]) c57_9
def c57_11 : SCode := .block 1 c57_10
def c57_12 : List SOper := [⟨some 18, .q (.bin .add (.t 8) (.c (.int .i64 1))), none⟩, ⟨some 8, .q (.mv (.t 18)), none⟩]
def c57_13 : SCode := .seq c57_11 (.region c57_12 [0, 1, 7, 8])
def c57_14 : SCode := .seq c57_3 c57_13
def c57_15 : SCode := .seq (.region c57_2 [0, 1, 7, 8, 9]) c57_14
def c57_16 : SCode := .loop c57_15
def c57_17 : SCode := .block 0 c57_16
def c57_18 : SCode := .seq (.region c57_1 [0, 1, 7, 8]) c57_17
def c57_19 : List SOper := [⟨some 4, .q (.mv (.c (.int .i64 (-1)))), none⟩]
def c57_20 : SCode := .seq (.region c57_19 [4]) .ret
def c57_21 : SCode := .seq c57_18 c57_20
def c57_22 : SCode := .seq (.region c57_0 [0, 1]) c57_21
def c57 : SCode := c57_22
theorem w57 : type_of% (And.intro (uR Try.prog c57_0.eq_1) (And.intro (uR Try.prog c57_1.eq_1) (And.intro (uR Try.prog c57_2.eq_1) (And.intro (uC Try.prog c57_3.eq_1) (And.intro (uR Try.prog c57_4.eq_1) (And.intro (uR Try.prog c57_5.eq_1) (And.intro (uR Try.prog c57_6.eq_1) (And.intro (uC Try.prog c57_7.eq_1) (And.intro (uC Try.prog c57_8.eq_1) (And.intro (uC Try.prog c57_9.eq_1) (And.intro (uC Try.prog c57_10.eq_1) (And.intro (uC Try.prog c57_11.eq_1) (And.intro (uR Try.prog c57_12.eq_1) (And.intro (uC Try.prog c57_13.eq_1) (And.intro (uC Try.prog c57_14.eq_1) (And.intro (uC Try.prog c57_15.eq_1) (And.intro (uC Try.prog c57_16.eq_1) (And.intro (uC Try.prog c57_17.eq_1) (And.intro (uC Try.prog c57_18.eq_1) (And.intro (uR Try.prog c57_19.eq_1) (And.intro (uC Try.prog c57_20.eq_1) (And.intro (uC Try.prog c57_21.eq_1) (And.intro (uC Try.prog c57_22.eq_1) (uC Try.prog c57.eq_1)))))))))))))))))))))))) := (And.intro (uR Try.prog c57_0.eq_1) (And.intro (uR Try.prog c57_1.eq_1) (And.intro (uR Try.prog c57_2.eq_1) (And.intro (uC Try.prog c57_3.eq_1) (And.intro (uR Try.prog c57_4.eq_1) (And.intro (uR Try.prog c57_5.eq_1) (And.intro (uR Try.prog c57_6.eq_1) (And.intro (uC Try.prog c57_7.eq_1) (And.intro (uC Try.prog c57_8.eq_1) (And.intro (uC Try.prog c57_9.eq_1) (And.intro (uC Try.prog c57_10.eq_1) (And.intro (uC Try.prog c57_11.eq_1) (And.intro (uR Try.prog c57_12.eq_1) (And.intro (uC Try.prog c57_13.eq_1) (And.intro (uC Try.prog c57_14.eq_1) (And.intro (uC Try.prog c57_15.eq_1) (And.intro (uC Try.prog c57_16.eq_1) (And.intro (uC Try.prog c57_17.eq_1) (And.intro (uC Try.prog c57_18.eq_1) (And.intro (uR Try.prog c57_19.eq_1) (And.intro (uC Try.prog c57_20.eq_1) (And.intro (uC Try.prog c57_21.eq_1) (And.intro (uC Try.prog c57_22.eq_1) (uC Try.prog c57.eq_1))))))))))))))))))))))))
def v57 : List RV := [.t 4]
theorem s57 : slimF Try.prog Try.f57 = some (c57.bare, v57) := by kernel_rfl
/-! 40 slices.Contains[[]int64,int64]: parameters 2, live [0, 1], slots [0:s, 1:v, 2:s, 3:v] -/
def c40_0 : List SOper := [⟨some 4, .q (.mv (.c (.bool false))), none⟩]
def c40_1 : List SOper := [⟨some 5, .q (.mv (.t 0)), none⟩, ⟨some 6, .q (.mv (.t 1)), none⟩, ⟨some 7, .e (.call 57 [(.t 5), (.t 6)]), none⟩, ⟨some 8, .q (.bin .geq (.t 7) (.c (.int .i64 0))), none⟩, ⟨some 4, .q (.mv (.t 8)), none⟩]
def c40_2 : SCode := .seq (.region c40_1 [4]) .ret
def c40_3 : SCode := .seq (.region c40_0 [0, 1]) c40_2
def c40 : SCode := c40_3
theorem w40 : type_of% (And.intro (uR Try.prog c40_0.eq_1) (And.intro (uR Try.prog c40_1.eq_1) (And.intro (uC Try.prog c40_2.eq_1) (And.intro (uC Try.prog c40_3.eq_1) (uC Try.prog c40.eq_1))))) := (And.intro (uR Try.prog c40_0.eq_1) (And.intro (uR Try.prog c40_1.eq_1) (And.intro (uC Try.prog c40_2.eq_1) (And.intro (uC Try.prog c40_3.eq_1) (uC Try.prog c40.eq_1)))))
def v40 : List RV := [.t 4]
theorem s40 : slimF Try.prog Try.f40 = some (c40.bare, v40) := by kernel_rfl
/-! 9 loop.example/g00066/spec.Dirty: parameters 2, live [0, 1], slots [0:job, 1:changed, 2:job, 3:changed, 5:out, 6:in, 7:i, 8:i, 9:k] -/
def c9_0 : List SOper := [⟨some 4, .q (.mv (.c (.slice none 0 0))), none⟩]
def c9_1 : List SOper := [⟨some 10, .a (.bsl 0 1 [] []), none⟩, ⟨some 5, .q (.mv (.t 10)), none⟩]
def c9_2 : List SOper := [⟨some 11, .q (.mv (.t 0)), none⟩, ⟨some 12, .e (.call 28 [(.t 11)]), none⟩, ⟨some 13, .q (.not (.t 12)), none⟩, ⟨some 14, .q (.mv (.t 13)), none⟩, ⟨some 15, .q (.mv (.t 1)), some (14, false)⟩, ⟨some 16, .q (.len (.t 15)), some (14, false)⟩, ⟨some 17, .q (.bin .gtr (.t 16) (.c (.int .i64 200))), some (14, false)⟩, ⟨some 18, .q (.pick (.t 14) (.c (.bool true)) (.t 17)), none⟩]
def c9_3 : List SOper := [⟨some 19, .q (.mv (.t 5)), none⟩, ⟨some 4, .q (.mv (.t 19)), none⟩]
def c9_4 : SCode := .seq (.region c9_3 [4]) .ret
def c9_5 : SCode := .cond (.t 18) c9_4 .skip
def c9_6 : SCode := .seq (.region c9_2 [0, 1, 5, 18]) c9_5
def c9_7 : List SOper := [⟨some 20, .q (.mv (.t 0)), none⟩, ⟨some 21, .q (.len (.t 20)), none⟩, ⟨some 22, .a (.mks 1 1 [(.bool false)] (.t 21) (.t 21)), none⟩, ⟨some 6, .q (.mv (.t 22)), none⟩]
def c9_8 : List SOper := [⟨some 7, .q (.mv (.c (.int .i64 0))), none⟩]
def c9_9 : List SOper := [⟨some 23, .q (.mv (.t 7)), none⟩, ⟨some 24, .q (.mv (.t 1)), none⟩, ⟨some 25, .q (.len (.t 24)), none⟩, ⟨some 26, .q (.bin .lss (.t 23) (.t 25)), none⟩]
def c9_10 : SCode := .cond (.t 26) .skip (.exit 0)
def c9_11 : SCode := .seq (.region c9_9 [0, 1, 5, 6, 7, 26]) c9_10
def c9_12 : List SOper := [⟨some 29, .q (.mv (.t 1)), none⟩, ⟨some 30, .q (.mv (.t 7)), none⟩, ⟨some 31, .q (.ia 1 (.t 29) (.t 30)), none⟩, ⟨some 32, .q (.ld (.t 31)), none⟩, ⟨some 33, .q (.bin .lss (.t 32) (.c (.int .i64 0))), none⟩, ⟨some 34, .q (.mv (.t 33)), none⟩, ⟨some 35, .q (.mv (.t 1)), some (34, false)⟩, ⟨some 36, .q (.mv (.t 7)), some (34, false)⟩, ⟨some 37, .q (.ia 1 (.t 35) (.t 36)), some (34, false)⟩, ⟨some 38, .q (.ld (.t 37)), some (34, false)⟩, ⟨some 39, .q (.mv (.t 0)), some (34, false)⟩, ⟨some 40, .q (.len (.t 39)), some (34, false)⟩, ⟨some 41, .q (.bin .geq (.t 38) (.t 40)), some (34, false)⟩, ⟨some 42, .q (.pick (.t 34) (.c (.bool true)) (.t 41)), none⟩]
def c9_13 : List SOper := [⟨some 43, .q (.mv (.t 5)), none⟩, ⟨some 4, .q (.mv (.t 43)), none⟩]
def c9_14 : SCode := .seq (.region c9_13 [4]) .ret
def c9_15 : SCode := .cond (.t 42) c9_14 .skip
def c9_16 : SCode := .seq (.region c9_12 [0, 1, 5, 6, 7, 42]) c9_15
def c9_17 : List SOper := [⟨some 44, .q (.mv (.t 6)), none⟩, ⟨some 45, .q (.mv (.t 1)), none⟩, ⟨some 46, .q (.mv (.t 7)), none⟩, ⟨some 47, .q (.ia 1 (.t 45) (.t 46)), none⟩, ⟨some 48, .q (.ld (.t 47)), none⟩, ⟨some 49, .q (.ia 1 (.t 44) (.t 48)), none⟩, ⟨none, .e (.st 1 (.t 49) (.c (.bool true))), none⟩]
def c9_18 : SCode := .seq c9_16 (.region c9_17 [0, 1, 5, 6, 7])
def c9_19 : SCode := .block 1 c9_18
def c9_20 : List SOper := [⟨some 27, .q (.mv (.t 7)), none⟩, ⟨some 28, .q (.bin .add (.t 27) (.c (.int .i64 1))), none⟩, ⟨some 7, .q (.mv (.t 28)), none⟩]
def c9_21 : SCode := .seq c9_19 (.region c9_20 [0, 1, 5, 6, 7])
def c9_22 : SCode := .seq c9_11 c9_21
def c9_23 : SCode := .loop c9_22
def c9_24 : SCode := .block 0 c9_23
def c9_25 : SCode := .seq (.region c9_8 [0, 1, 5, 6, 7]) c9_24
def c9_26 : List SOper := [⟨some 8, .q (.mv (.c (.int .i64 0))), none⟩]
def c9_27 : List SOper := [⟨some 50, .q (.mv (.t 8)), none⟩, ⟨some 51, .q (.mv (.t 0)), none⟩, ⟨some 52, .q (.len (.t 51)), none⟩, ⟨some 53, .q (.bin .lss (.t 50) (.t 52)), none⟩]
def c9_28 : SCode := .cond (.t 53) .skip (.exit 2)
def c9_29 : SCode := .seq (.region c9_27 [0, 5, 6, 8, 53]) c9_28
def c9_30 : List SOper := [⟨some 9, .q (.mv (.c (.int .i64 0))), none⟩]
def c9_31 : List SOper := [⟨some 56, .q (.mv (.t 9)), none⟩, ⟨some 57, .q (.mv (.t 0)), none⟩, ⟨some 58, .q (.mv (.t 8)), none⟩, ⟨some 59, .q (.ia 4 (.t 57) (.t 58)), none⟩, ⟨some 60, .q (.fa 2 (.t 59)), none⟩, ⟨some 61, .q (.ld (.t 60)), none⟩, ⟨some 62, .q (.len (.t 61)), none⟩, ⟨some 63, .q (.bin .lss (.t 56) (.t 62)), none⟩]
def c9_32 : SCode := .cond (.t 63) .skip (.exit 4)
def c9_33 : SCode := .seq (.region c9_31 [0, 5, 6, 8, 9, 63]) c9_32
def c9_34 : List SOper := [⟨some 66, .q (.mv (.t 6)), none⟩, ⟨some 67, .q (.mv (.t 8)), none⟩, ⟨some 68, .q (.mv (.t 6)), none⟩, ⟨some 69, .q (.mv (.t 8)), none⟩, ⟨some 70, .q (.ia 1 (.t 68) (.t 69)), none⟩, ⟨some 71, .q (.ld (.t 70)), none⟩, ⟨some 72, .q (.mv (.t 71)), none⟩, ⟨some 73, .q (.mv (.t 6)), some (72, false)⟩, ⟨some 74, .q (.mv (.t 0)), some (72, false)⟩, ⟨some 75, .q (.mv (.t 8)), some (72, false)⟩, ⟨some 76, .q (.ia 4 (.t 74) (.t 75)), some (72, false)⟩, ⟨some 77, .q (.fa 2 (.t 76)), some (72, false)⟩, ⟨some 78, .q (.ld (.t 77)), some (72, false)⟩, ⟨some 79, .q (.mv (.t 9)), some (72, false)⟩, ⟨some 80, .q (.ia 1 (.t 78) (.t 79)), some (72, false)⟩, ⟨some 81, .q (.ld (.t 80)), some (72, false)⟩, ⟨some 82, .q (.ia 1 (.t 73) (.t 81)), some (72, false)⟩, ⟨some 83, .q (.ld (.t 82)), some (72, false)⟩, ⟨some 84, .q (.pick (.t 72) (.c (.bool true)) (.t 83)), none⟩, ⟨some 85, .q (.ia 1 (.t 66) (.t 67)), none⟩, ⟨none, .e (.st 1 (.t 85) (.t 84)), none⟩]
def c9_35 : SCode := .block 5 (.region c9_34 [0, 5, 6, 8, 9])
def c9_36 : List SOper := [⟨some 64, .q (.mv (.t 9)), none⟩, ⟨some 65, .q (.bin .add (.t 64) (.c (.int .i64 1))), none⟩, ⟨some 9, .q (.mv (.t 65)), none⟩]
def c9_37 : SCode := .seq c9_35 (.region c9_36 [0, 5, 6, 8, 9])
def c9_38 : SCode := .seq c9_33 c9_37
def c9_39 : SCode := .loop c9_38
def c9_40 : SCode := .block 4 c9_39
def c9_41 : SCode := .seq (.region c9_30 [0, 5, 6, 8, 9]) c9_40
def c9_42 : List SOper := [⟨some 86, .q (.mv (.t 6)), none⟩, ⟨some 87, .q (.mv (.t 8)), none⟩, ⟨some 88, .q (.ia 1 (.t 86) (.t 87)), none⟩, ⟨some 89, .q (.ld (.t 88)), none⟩]
def c9_43 : List SOper := [⟨some 90, .q (.mv (.t 5)), none⟩, ⟨some 91, .q (.mv (.t 8)), none⟩, ⟨some 92, .a (.bsl 1 1 [(.int .i64 0)] [(0, 1, (.t 91))]), none⟩, ⟨some 93, .e (.app 8 1 (.t 90) (.t 92)), none⟩, ⟨some 5, .q (.mv (.t 93)), none⟩]
def c9_44 : SCode := .cond (.t 89) (.region c9_43 [0, 5, 6, 8]) .skip
def c9_45 : SCode := .seq (.region c9_42 [0, 5, 6, 8, 89]) c9_44
def c9_46 : SCode := .seq c9_41 c9_45
def c9_47 : SCode := .block 3 c9_46
def c9_48 : List SOper := [⟨some 54, .q (.mv (.t 8)), none⟩, ⟨some 55, .q (.bin .add (.t 54) (.c (.int .i64 1))), none⟩, ⟨some 8, .q (.mv (.t 55)), none⟩]
def c9_49 : SCode := .seq c9_47 (.region c9_48 [0, 5, 6, 8])
def c9_50 : SCode := .seq c9_29 c9_49
def c9_51 : SCode := .loop c9_50
def c9_52 : SCode := .block 2 c9_51
def c9_53 : SCode := .seq (.region c9_26 [0, 5, 6, 8]) c9_52
def c9_54 : List SOper := [⟨some 94, .q (.mv (.t 5)), none⟩, ⟨some 4, .q (.mv (.t 94)), none⟩]
def c9_55 : SCode := .seq (.region c9_54 [4]) .ret
def c9_56 : SCode := .seq c9_53 c9_55
def c9_57 : SCode := .seq c9_25 c9_56
def c9_58 : SCode := .seq (.region c9_7 [0, 1, 5, 6]) c9_57
def c9_59 : SCode := .seq c9_6 c9_58
def c9_60 : SCode := .seq (.region c9_1 [0, 1, 5]) c9_59
def c9_61 : SCode := .seq (.region c9_0 [0, 1]) c9_60
def c9 : SCode := c9_61
theorem w9 : type_of% (And.intro (uR Try.prog c9_0.eq_1) (And.intro (uR Try.prog c9_1.eq_1) (And.intro (uR Try.prog c9_2.eq_1) (And.intro (uR Try.prog c9_3.eq_1) (And.intro (uC Try.prog c9_4.eq_1) (And.intro (uC Try.prog c9_5.eq_1) (And.intro (uC Try.prog c9_6.eq_1) (And.intro (uR Try.prog c9_7.eq_1) (And.intro (uR Try.prog c9_8.eq_1) (And.intro (uR Try.prog c9_9.eq_1) (And.intro (uC Try.prog c9_10.eq_1) (And.intro (uC Try.prog c9_11.eq_1) (And.intro (uR Try.prog c9_12.eq_1) (And.intro (uR Try.prog c9_13.eq_1) (And.intro (uC Try.prog c9_14.eq_1) (And.intro (uC Try.prog c9_15.eq_1) (And.intro (uC Try.prog c9_16.eq_1) (And.intro (uR Try.prog c9_17.eq_1) (And.intro (uC Try.prog c9_18.eq_1) (And.intro (uC Try.prog c9_19.eq_1) (And.intro (uR Try.prog c9_20.eq_1) (And.intro (uC Try.prog c9_21.eq_1) (And.intro (uC Try.prog c9_22.eq_1) (And.intro (uC Try.prog c9_23.eq_1) (And.intro (uC Try.prog c9_24.eq_1) (And.intro (uC Try.prog c9_25.eq_1) (And.intro (uR Try.prog c9_26.eq_1) (And.intro (uR Try.prog c9_27.eq_1) (And.intro (uC Try.prog c9_28.eq_1) (And.intro (uC Try.prog c9_29.eq_1) (And.intro (uR Try.prog c9_30.eq_1) (And.intro (uR Try.prog c9_31.eq_1) (And.intro (uC Try.prog c9_32.eq_1) (And.intro (uC Try.prog c9_33.eq_1) (And.intro (uR Try.prog c9_34.eq_1) (And.intro (uC Try.prog c9_35.eq_1) (And.intro (uR Try.prog c9_36.eq_1) (And.intro (uC Try.prog c9_37.eq_1) (And.intro (uC Try.prog c9_38.eq_1) (And.intro (uC Try.prog c9_39.eq_1) (And.intro (uC Try.prog c9_40.eq_1) (And.intro (uC Try.prog c9_41.eq_1) (And.intro (uR Try.prog c9_42.eq_1) (And.intro (uR Try.prog c9_43.eq_1) (And.intro (uC Try.prog c9_44.eq_1) (And.intro (uC Try.prog c9_45.eq_1) (And.intro (uC Try.prog c9_46.eq_1) (And.intro (uC Try.prog c9_47.eq_1) (And.intro (uR Try.prog c9_48.eq_1) (And.intro (uC Try.prog c9_49.eq_1) (And.intro (uC Try.prog c9_50.eq_1) (And.intro (uC Try.prog c9_51.eq_1) (And.intro (uC Try.prog c9_52.eq_1) (And.intro (uC Try.prog c9_53.eq_1) (And.intro (uR Try.prog c9_54.eq_1) (And.intro (uC Try.prog c9_55.eq_1) (And.intro (uC Try.prog c9_56.eq_1) (And.intro (uC Try.prog c9_57.eq_1) (And.intro (uC Try.prog c9_58.eq_1) (And.intro (uC Try.prog c9_59.eq_1) (And.intro (uC Try.prog c9_60.eq_1) (And.intro (uC Try.prog c9_61.eq_1) (uC Try.prog c9.eq_1))))))))))))))))))))))))))))))))))))))))))))))))))))))))))))))) := (And.intro (uR Try.prog c9_0.eq_1) (And.intro (uR Try.prog c9_1.eq_1) (And.intro (uR Try.prog c9_2.eq_1) (And.intro (uR Try.prog c9_3.eq_1) (And.intro (uC Try.prog c9_4.eq_1) (And.intro (uC Try.prog c9_5.eq_1) (And.intro (uC Try.prog c9_6.eq_1) (And.intro (uR Try.prog c9_7.eq_1) (And.intro (uR Try.prog c9_8.eq_1) (And.intro (uR Try.prog c9_9.eq_1) (And.intro (uC Try.prog c9_10.eq_1) (And.intro (uC Try.prog c9_11.eq_1) (And.intro (uR Try.prog c9_12.eq_1) (And.intro (uR Try.prog c9_13.eq_1) (And.intro (uC Try.prog c9_14.eq_1) (And.intro (uC Try.prog c9_15.eq_1) (And.intro (uC Try.prog c9_16.eq_1) (And.intro (uR Try.prog c9_17.eq_1) (And.intro (uC Try.prog c9_18.eq_1) (And.intro (uC Try.prog c9_19.eq_1) (And.intro (uR Try.prog c9_20.eq_1) (And.intro (uC Try.prog c9_21.eq_1) (And.intro (uC Try.prog c9_22.eq_1) (And.intro (uC Try.prog c9_23.eq_1) (And.intro (uC Try.prog c9_24.eq_1) (And.intro (uC Try.prog c9_25.eq_1) (And.intro (uR Try.prog c9_26.eq_1) (And.intro (uR Try.prog c9_27.eq_1) (And.intro (uC Try.prog c9_28.eq_1) (And.intro (uC Try.prog c9_29.eq_1) (And.intro (uR Try.prog c9_30.eq_1) (And.intro (uR Try.prog c9_31.eq_1) (And.intro (uC Try.prog c9_32.eq_1) (And.intro (uC Try.prog c9_33.eq_1) (And.intro (uR Try.prog c9_34.eq_1) (And.intro (uC Try.prog c9_35.eq_1) (And.intro (uR Try.prog c9_36.eq_1) (And.intro (uC Try.prog c9_37.eq_1) (And.intro (uC Try.prog c9_38.eq_1) (And.intro (uC Try.prog c9_39.eq_1) (And.intro (uC Try.prog c9_40.eq_1) (And.intro (uC Try.prog c9_41.eq_1) (And.intro (uR Try.prog c9_42.eq_1) (And.intro (uR Try.prog c9_43.eq_1) (And.intro (uC Try.prog c9_44.eq_1) (And.intro (uC Try.prog c9_45.eq_1) (And.intro (uC Try.prog c9_46.eq_1) (And.intro (uC Try.prog c9_47.eq_1) (And.intro (uR Try.prog c9_48.eq_1) (And.intro (uC Try.prog c9_49.eq_1) (And.intro (uC Try.prog c9_50.eq_1) (And.intro (uC Try.prog c9_51.eq_1) (And.intro (uC Try.prog c9_52.eq_1) (And.intro (uC Try.prog c9_53.eq_1) (And.intro (uR Try.prog c9_54.eq_1) (And.intro (uC Try.prog c9_55.eq_1) (And.intro (uC Try.prog c9_56.eq_1) (And.intro (uC Try.prog c9_57.eq_1) (And.intro (uC Try.prog c9_58.eq_1) (And.intro (uC Try.prog c9_59.eq_1) (And.intro (uC Try.prog c9_60.eq_1) (And.intro (uC Try.prog c9_61.eq_1) (uC Try.prog c9.eq_1)))))))))))))))))))))))))))))))))))))))))))))))))))))))))))))))
def v9 : List RV := [.t 4]
theorem s9 : slimF Try.prog Try.f9 = some (c9.bare, v9) := by kernel_rfl
/-! 12 loop.example/g00066/impl.Dirty: parameters 2, live [0, 1], slots [0:job, 1:changed, 2:job, 3:changed, 5:out, 6:i, 7:t] -/
def c12_0 : List SOper := [⟨some 2, .a (.box (.t 0)), none⟩, ⟨some 4, .q (.mv (.c (.slice none 0 0))), none⟩]
def c12_1 : List SOper := [⟨some 8, .q (.ld (.t 2)), none⟩, ⟨some 9, .e (.call 36 [(.t 8)]), none⟩, ⟨some 10, .q (.not (.t 9)), none⟩, ⟨some 11, .q (.mv (.t 10)), none⟩, ⟨some 12, .q (.mv (.t 1)), some (11, false)⟩, ⟨some 13, .q (.len (.t 12)), some (11, false)⟩, ⟨some 14, .q (.bin .gtr (.t 13) (.c (.int .i64 200))), some (11, false)⟩, ⟨some 15, .q (.pick (.t 11) (.c (.bool true)) (.t 14)), none⟩, ⟨some 16, .q (.mv (.t 15)), none⟩, ⟨some 17, .q (.mv (.t 1)), some (16, false)⟩, ⟨some 18, .q (.mkf 38 [(.t 2)]), some (16, false)⟩, ⟨some 19, .e (.call 37 [(.t 17), (.t 18)]), some (16, false)⟩, ⟨some 20, .q (.pick (.t 16) (.c (.bool true)) (.t 19)), none⟩]
def c12_2 : List SOper := [⟨some 4, .q (.mv (.c (.slice none 0 0))), none⟩]
def c12_3 : SCode := .seq (.region c12_2 [4]) .ret
def c12_4 : SCode := .cond (.t 20) c12_3 .skip
def c12_5 : SCode := .seq (.region c12_1 [1, 2, 20]) c12_4
def c12_6 : List SOper := [⟨some 21, .a (.bsl 0 1 [] []), none⟩, ⟨some 5, .a (.new [(.slice none 0 0)]), none⟩, ⟨none, .e (.st 1 (.t 5) (.t 21)), none⟩]
def c12_7 : List SOper := [⟨some 22, .q (.ld (.t 2)), none⟩, ⟨some 23, .q (.len (.t 22)), none⟩, ⟨some 24, .q (.mv (.c (.int .i64 0))), none⟩]
def c12_8 : List SOper := [⟨some 25, .q (.bin .lss (.t 24) (.t 23)), none⟩]
def c12_9 : SCode := .cond (.t 25) .skip (.exit 0)
def c12_10 : List SOper := [⟨some 26, .q (.mv (.t 24)), none⟩, ⟨some 27, .q (.ia 4 (.t 22) (.t 24)), none⟩, ⟨some 28, .q (.ldn 4 (.t 27)), none⟩, ⟨some 7, .a (.new [(.int .i64 0), (.int .i64 0), (.slice none 0 0), (.int .i64 0)]), none⟩, ⟨some 6, .q (.mv (.t 26)), none⟩, ⟨none, .e (.st 4 (.t 7) (.t 28)), none⟩]
def c12_11 : List SOper := [⟨some 29, .q (.mv (.t 1)), none⟩, ⟨some 30, .q (.mv (.t 6)), none⟩, ⟨some 31, .e (.call 40 [(.t 29), (.t 30)]), none⟩, ⟨some 32, .q (.mv (.t 31)), none⟩, ⟨some 33, .q (.fa 2 (.t 7)), some (32, false)⟩, ⟨some 34, .q (.ld (.t 33)), some (32, false)⟩, ⟨some 35, .q (.mkf 41 [(.t 5)]), some (32, false)⟩, ⟨some 36, .e (.call 37 [(.t 34), (.t 35)]), some (32, false)⟩, ⟨some 37, .q (.pick (.t 32) (.c (.bool true)) (.t 36)), none⟩]
def c12_12 : List SOper := [⟨some 38, .q (.ld (.t 5)), none⟩, ⟨some 39, .q (.mv (.t 6)), none⟩, ⟨some 40, .a (.bsl 1 1 [(.int .i64 0)] [(0, 1, (.t 39))]), none⟩, ⟨some 41, .e (.app 8 1 (.t 38) (.t 40)), none⟩, ⟨none, .e (.st 1 (.t 5) (.t 41)), none⟩]
def c12_13 : SCode := .cond (.t 37) (.region c12_12 [1, 5, 22, 23, 24]) .skip
def c12_14 : SCode := .seq (.region c12_11 [1, 5, 6, 22, 23, 24, 37]) c12_13
def c12_15 : SCode := .seq (.region c12_10 [1, 5, 6, 7, 22, 23, 24]) c12_14
def c12_16 : SCode := .block 1 c12_15
def c12_17 : List SOper := [⟨some 42, .q (.bin .add (.t 24) (.c (.int .i64 1))), none⟩, ⟨some 24, .q (.mv (.t 42)), none⟩]
def c12_18 : SCode := .seq c12_16 (.region c12_17 [1, 5, 22, 23, 24])
def c12_19 : SCode := .seq c12_9 c12_18
def c12_20 : SCode := .seq (.region c12_8 [1, 5, 22, 23, 24, 25]) c12_19
def c12_21 : SCode := .loop c12_20
def c12_22 : SCode := .block 0 c12_21
def c12_23 : SCode := .seq (.region c12_7 [1, 5, 22, 23, 24]) c12_22
def c12_24 : List SOper := [⟨some 43, .q (.ld (.t 5)), none⟩, ⟨some 4, .q (.mv (.t 43)), none⟩]
def c12_25 : SCode := .seq (.region c12_24 [4]) .ret
def c12_26 : SCode := .seq c12_23 c12_25
def c12_27 : SCode := .seq (.region c12_6 [1, 2, 5]) c12_26
def c12_28 : SCode := .seq c12_5 c12_27
def c12_29 : SCode := .seq (.region c12_0 [1, 2]) c12_28
def c12 : SCode := c12_29
theorem w12 : type_of% (And.intro (uR Try.prog c12_0.eq_1) (And.intro (uR Try.prog c12_1.eq_1) (And.intro (uR Try.prog c12_2.eq_1) (And.intro (uC Try.prog c12_3.eq_1) (And.intro (uC Try.prog c12_4.eq_1) (And.intro (uC Try.prog c12_5.eq_1) (And.intro (uR Try.prog c12_6.eq_1) (And.intro (uR Try.prog c12_7.eq_1) (And.intro (uR Try.prog c12_8.eq_1) (And.intro (uC Try.prog c12_9.eq_1) (And.intro (uR Try.prog c12_10.eq_1) (And.intro (uR Try.prog c12_11.eq_1) (And.intro (uR Try.prog c12_12.eq_1) (And.intro (uC Try.prog c12_13.eq_1) (And.intro (uC Try.prog c12_14.eq_1) (And.intro (uC Try.prog c12_15.eq_1) (And.intro (uC Try.prog c12_16.eq_1) (And.intro (uR Try.prog c12_17.eq_1) (And.intro (uC Try.prog c12_18.eq_1) (And.intro (uC Try.prog c12_19.eq_1) (And.intro (uC Try.prog c12_20.eq_1) (And.intro (uC Try.prog c12_21.eq_1) (And.intro (uC Try.prog c12_22.eq_1) (And.intro (uC Try.prog c12_23.eq_1) (And.intro (uR Try.prog c12_24.eq_1) (And.intro (uC Try.prog c12_25.eq_1) (And.intro (uC Try.prog c12_26.eq_1) (And.intro (uC Try.prog c12_27.eq_1) (And.intro (uC Try.prog c12_28.eq_1) (And.intro (uC Try.prog c12_29.eq_1) (uC Try.prog c12.eq_1))))))))))))))))))))))))))))))) := (And.intro (uR Try.prog c12_0.eq_1) (And.intro (uR Try.prog c12_1.eq_1) (And.intro (uR Try.prog c12_2.eq_1) (And.intro (uC Try.prog c12_3.eq_1) (And.intro (uC Try.prog c12_4.eq_1) (And.intro (uC Try.prog c12_5.eq_1) (And.intro (uR Try.prog c12_6.eq_1) (And.intro (uR Try.prog c12_7.eq_1) (And.intro (uR Try.prog c12_8.eq_1) (And.intro (uC Try.prog c12_9.eq_1) (And.intro (uR Try.prog c12_10.eq_1) (And.intro (uR Try.prog c12_11.eq_1) (And.intro (uR Try.prog c12_12.eq_1) (And.intro (uC Try.prog c12_13.eq_1) (And.intro (uC Try.prog c12_14.eq_1) (And.intro (uC Try.prog c12_15.eq_1) (And.intro (uC Try.prog c12_16.eq_1) (And.intro (uR Try.prog c12_17.eq_1) (And.intro (uC Try.prog c12_18.eq_1) (And.intro (uC Try.prog c12_19.eq_1) (And.intro (uC Try.prog c12_20.eq_1) (And.intro (uC Try.prog c12_21.eq_1) (And.intro (uC Try.prog c12_22.eq_1) (And.intro (uC Try.prog c12_23.eq_1) (And.intro (uR Try.prog c12_24.eq_1) (And.intro (uC Try.prog c12_25.eq_1) (And.intro (uC Try.prog c12_26.eq_1) (And.intro (uC Try.prog c12_27.eq_1) (And.intro (uC Try.prog c12_28.eq_1) (And.intro (uC Try.prog c12_29.eq_1) (uC Try.prog c12.eq_1)))))))))))))))))))))))))))))))
def v12 : List RV := [.t 4]
theorem s12 : slimF Try.prog Try.f12 = some (c12.bare, v12) := by kernel_rfl
/-! 38 loop.example/g00066/impl.Dirty$1: parameters 1, live [0, 1], slots [0:n, 2:n] -/
def c38_0 : List SOper := [⟨some 3, .q (.mv (.c (.bool false))), none⟩]
def c38_1 : List SOper := [⟨some 4, .q (.mv (.t 0)), none⟩, ⟨some 5, .q (.ld (.t 1)), none⟩, ⟨some 6, .q (.len (.t 5)), none⟩, ⟨some 7, .q (.bin .sub (.t 6) (.c (.int .i64 1))), none⟩, ⟨some 8, .e (.call 39 [(.t 4), (.c (.int .i64 0)), (.t 7)]), none⟩, ⟨some 9, .q (.not (.t 8)), none⟩, ⟨some 3, .q (.mv (.t 9)), none⟩]
def c38_2 : SCode := .seq (.region c38_1 [3]) .ret
def c38_3 : SCode := .seq (.region c38_0 [0, 1]) c38_2
def c38 : SCode := c38_3
theorem w38 : type_of% (And.intro (uR Try.prog c38_0.eq_1) (And.intro (uR Try.prog c38_1.eq_1) (And.intro (uC Try.prog c38_2.eq_1) (And.intro (uC Try.prog c38_3.eq_1) (uC Try.prog c38.eq_1))))) := (And.intro (uR Try.prog c38_0.eq_1) (And.intro (uR Try.prog c38_1.eq_1) (And.intro (uC Try.prog c38_2.eq_1) (And.intro (uC Try.prog c38_3.eq_1) (uC Try.prog c38.eq_1)))))
def v38 : List RV := [.t 3]
theorem s38 : slimF Try.prog Try.f38 = some (c38.bare, v38) := by kernel_rfl
/-! 41 loop.example/g00066/impl.Dirty$2: parameters 1, live [0, 1], slots [0:n, 2:n] -/
def c41_0 : List SOper := [⟨some 3, .q (.mv (.c (.bool false))), none⟩]
def c41_1 : List SOper := [⟨some 4, .q (.ld (.t 1)), none⟩, ⟨some 5, .q (.mv (.t 0)), none⟩, ⟨some 6, .e (.call 40 [(.t 4), (.t 5)]), none⟩, ⟨some 3, .q (.mv (.t 6)), none⟩]
def c41_2 : SCode := .seq (.region c41_1 [3]) .ret
def c41_3 : SCode := .seq (.region c41_0 [0, 1]) c41_2
def c41 : SCode := c41_3
theorem w41 : type_of% (And.intro (uR Try.prog c41_0.eq_1) (And.intro (uR Try.prog c41_1.eq_1) (And.intro (uC Try.prog c41_2.eq_1) (And.intro (uC Try.prog c41_3.eq_1) (uC Try.prog c41.eq_1))))) := (And.intro (uR Try.prog c41_0.eq_1) (And.intro (uR Try.prog c41_1.eq_1) (And.intro (uC Try.prog c41_2.eq_1) (And.intro (uC Try.prog c41_3.eq_1) (uC Try.prog c41.eq_1)))))
def v41 : List RV := [.t 3]
theorem s41 : slimF Try.prog Try.f41 = some (c41.bare, v41) := by kernel_rfl

theorem IndexFuncI_ok (h : Heap) (v : Value) (l : List Int) (n : Nat) (cap : Array Value) (p : Int → Bool) (s : SlT h encI 1 v l) (hl : l.length ≤ 281474976710656)
    (hf : ∃ fn, Try.prog.funcs[n]? = some fn ∧ fn.body.isSome = true ∧ fn.name ≠ "runtime.NumGoroutine")
    (H : ∀ h' k, Ext h h' → k ∈ l → ACall Try.prog n ([.int .i64 k] ++ cap.toList) h' fun r h2 => Ext h' h2 ∧ r = .bool (p k)) :
    ACall Try.prog 56 [v, .func (.func n) #[] cap] h fun r h' => Ext h h' ∧ r = .int .i64 (match l.findIdx? p with | some j => (j : Int) | none => -1) := by
  obtain ⟨fn, hf1, hf2, hf3⟩ := hf
  refine ACall.of Try.func56 s56 (of_decide_eq_true rfl) ?_
  have R := s.rulesN
  simp (maxSteps := 4000000) (disch := omega) only [ah, am, Nat.reduceEqDiff, reduceCtorEq, Nat.reduceAdd, Nat.reduceLeDiff, Nat.reduceMul, Nat.reduceLT, if_true, if_false, true_and, and_true, and_self, Nat.reduceBEq, QOp.loads, boxO, bslO, buildO, cutL, fillV, putL, w56, v56, R]
  refine SW_loop_up (fun i E H => E = [(0, v), (1, .func (.func n) #[] cap), (7, .int .i64 l.length), (8, .int .i64 i)] ∧ Ext h H ∧ ∀ j (hj : j < l.length), j < i → p l[j] = false) l.length 0 (by omega)
    ⟨rfl, Ext.refl h, fun j _ hj => absurd hj (by omega)⟩ ?_
  rintro i E H1 hi ⟨rfl, e, F⟩
  have R := (s.ext e).rulesN
  have W : IntKind.i64.wrap ((i : Int) + 1) = ((i + 1 : Nat) : Int) := i64e (by omega) (by omega)
  simp (maxSteps := 4000000) (disch := omega) only [ah, am, Nat.reduceEqDiff, reduceCtorEq, Nat.reduceAdd, Nat.reduceLeDiff, Nat.reduceMul, Nat.reduceLT, if_true, if_false, true_and, and_true, and_self, Nat.reduceBEq, QOp.loads, boxO, bslO, buildO, cutL, fillV, putL, w56, v56, R]
  refine stepI.split (fun hp => ?_) (fun hp => ?_)
  · have hi' : i < l.length := by omega
    simp (maxSteps := 4000000) (disch := omega) only [ah, am, Nat.reduceEqDiff, reduceCtorEq, Nat.reduceAdd, Nat.reduceLeDiff, Nat.reduceMul, Nat.reduceLT, if_true, if_false, true_and, and_true, and_self, Nat.reduceBEq, QOp.loads, boxO, bslO, buildO, cutL, fillV, putL, w56, v56, R, encI]
    refine stepV.of hf1 hf2 hf3 (H H1 _ e (List.getElem_mem hi')) ?_
    rintro _ H2 ⟨e2, rfl⟩
    simp (maxSteps := 4000000) (disch := omega) only [ah, am, Nat.reduceEqDiff, reduceCtorEq, Nat.reduceAdd, Nat.reduceLeDiff, Nat.reduceMul, Nat.reduceLT, if_true, if_false, true_and, and_true, and_self, Nat.reduceBEq, QOp.loads, boxO, bslO, buildO, cutL, fillV, putL, w56, v56, W]
    refine stepI.splitB (fun hk => ?_) (fun hk => ?_)
    · simp (maxSteps := 4000000) (disch := omega) only [ah, am, Nat.reduceEqDiff, reduceCtorEq, Nat.reduceAdd, Nat.reduceLeDiff, Nat.reduceMul, Nat.reduceLT, if_true, if_false, true_and, and_true, and_self, Nat.reduceBEq, QOp.loads, boxO, bslO, buildO, cutL, fillV, putL, w56, v56, W]
      refine ⟨e.trans e2, ?_⟩
      have : l.findIdx? p = some i := by
        rw [List.findIdx?_eq_some_iff_getElem]
        exact ⟨hi', hk, fun j hj => by rw [F j (by omega) hj]; decide⟩
      rw [this]
    · simp (maxSteps := 4000000) (disch := omega) only [ah, am, Nat.reduceEqDiff, reduceCtorEq, Nat.reduceAdd, Nat.reduceLeDiff, Nat.reduceMul, Nat.reduceLT, if_true, if_false, true_and, and_true, and_self, Nat.reduceBEq, QOp.loads, boxO, bslO, buildO, cutL, fillV, putL, w56, v56, W]
      refine ⟨hi', e.trans e2, fun j hj hj2 => ?_⟩
      by_cases hji : j = i
      · subst hji; exact hk
      · exact F j hj (by omega)
  · simp (maxSteps := 4000000) (disch := omega) only [ah, am, Nat.reduceEqDiff, reduceCtorEq, Nat.reduceAdd, Nat.reduceLeDiff, Nat.reduceMul, Nat.reduceLT, if_true, if_false, true_and, and_true, and_self, Nat.reduceBEq, QOp.loads, boxO, bslO, buildO, cutL, fillV, putL, w56, v56, R, W]
    obtain rfl : i = l.length := by omega
    refine ⟨e, ?_⟩
    have : l.findIdx? p = none := by
      rw [List.findIdx?_eq_none_iff]
      intro x hx
      obtain ⟨j, hj, rfl⟩ := List.getElem_of_mem hx
      exact F j hj hj
    rw [this]
theorem findIdx_any {α : Type} (l : List α) (p : α → Bool) : decide ((0 : Int) ≤ (match l.findIdx? p with | some j => (j : Int) | none => -1)) = l.any p := by
  cases hq : l.findIdx? p with
  | none =>
    rw [List.findIdx?_eq_none_iff] at hq
    have : l.any p = false := by rw [List.any_eq_false]; intro x hx; rw [hq x hx]; decide
    rw [this]; rfl
  | some j =>
    rw [List.findIdx?_eq_some_iff_getElem] at hq
    obtain ⟨hj, hp, _⟩ := hq
    have : l.any p = true := List.any_eq_true.mpr ⟨_, List.getElem_mem hj, hp⟩
    rw [this]
    exact decide_eq_true (by simp)
theorem ContainsFuncI_ok (h : Heap) (v : Value) (l : List Int) (n : Nat) (cap : Array Value) (p : Int → Bool) (s : SlT h encI 1 v l) (hl : l.length ≤ 281474976710656)
    (hf : ∃ fn, Try.prog.funcs[n]? = some fn ∧ fn.body.isSome = true ∧ fn.name ≠ "runtime.NumGoroutine")
    (H : ∀ h' k, Ext h h' → k ∈ l → ACall Try.prog n ([.int .i64 k] ++ cap.toList) h' fun r h2 => Ext h' h2 ∧ r = .bool (p k)) :
    ACall Try.prog 37 [v, .func (.func n) #[] cap] h fun r h' => Ext h h' ∧ r = .bool (l.any p) := by
  refine ACall.of Try.func37 s37 (of_decide_eq_true rfl) ?_
  simp (maxSteps := 4000000) (disch := omega) only [ah, am, Nat.reduceEqDiff, reduceCtorEq, Nat.reduceAdd, Nat.reduceLeDiff, Nat.reduceMul, Nat.reduceLT, if_true, if_false, true_and, and_true, and_self, Nat.reduceBEq, QOp.loads, boxO, bslO, buildO, cutL, fillV, putL, w37, v37]
  refine stepC.of (IndexFuncI_ok h v l n cap p s hl hf H) ?_
  rintro _ H1 ⟨e, rfl⟩
  simp (maxSteps := 4000000) (disch := omega) only [ah, am, Nat.reduceEqDiff, reduceCtorEq, Nat.reduceAdd, Nat.reduceLeDiff, Nat.reduceMul, Nat.reduceLT, if_true, if_false, true_and, and_true, and_self, Nat.reduceBEq, QOp.loads, boxO, bslO, buildO, cutL, fillV, putL, w37, v37]
  exact ⟨e, by rw [findIdx_any]⟩
theorem IndexI_ok (h : Heap) (v : Value) (l : List Int) (x : Int) (s : SlT h encI 1 v l) (hl : l.length ≤ 281474976710656) :
    ACall Try.prog 57 [v, .int .i64 x] h fun r h' => h' = h ∧ r = .int .i64 (match l.findIdx? (fun y => decide (y = x)) with | some j => (j : Int) | none => -1) := by
  refine ACall.of Try.func57 s57 (of_decide_eq_true rfl) ?_
  have R := s.rulesN
  simp (maxSteps := 4000000) (disch := omega) only [ah, am, Nat.reduceEqDiff, reduceCtorEq, Nat.reduceAdd, Nat.reduceLeDiff, Nat.reduceMul, Nat.reduceLT, if_true, if_false, true_and, and_true, and_self, Nat.reduceBEq, QOp.loads, boxO, bslO, buildO, cutL, fillV, putL, w57, v57, R]
  refine SW_loop_up (fun i E H => E = [(0, v), (1, .int .i64 x), (7, .int .i64 l.length), (8, .int .i64 i)] ∧ H = h ∧ ∀ j (hj : j < l.length), j < i → l[j] ≠ x) l.length 0 (by omega)
    ⟨rfl, rfl, fun j _ hj => absurd hj (by omega)⟩ ?_
  rintro i E H1 hi ⟨rfl, rfl, F⟩
  have W : IntKind.i64.wrap ((i : Int) + 1) = ((i + 1 : Nat) : Int) := i64e (by omega) (by omega)
  simp (maxSteps := 4000000) (disch := omega) only [ah, am, Nat.reduceEqDiff, reduceCtorEq, Nat.reduceAdd, Nat.reduceLeDiff, Nat.reduceMul, Nat.reduceLT, if_true, if_false, true_and, and_true, and_self, Nat.reduceBEq, QOp.loads, boxO, bslO, buildO, cutL, fillV, putL, w57, v57, R]
  refine stepI.split (fun hp => ?_) (fun hp => ?_)
  · have hi' : i < l.length := by omega
    simp (maxSteps := 4000000) (disch := omega) only [ah, am, Nat.reduceEqDiff, reduceCtorEq, Nat.reduceAdd, Nat.reduceLeDiff, Nat.reduceMul, Nat.reduceLT, if_true, if_false, true_and, and_true, and_self, Nat.reduceBEq, QOp.loads, boxO, bslO, buildO, cutL, fillV, putL, w57, v57, R, encI]
    refine stepI.split (fun hk => ?_) (fun hk => ?_)
    · simp (maxSteps := 4000000) (disch := omega) only [ah, am, Nat.reduceEqDiff, reduceCtorEq, Nat.reduceAdd, Nat.reduceLeDiff, Nat.reduceMul, Nat.reduceLT, if_true, if_false, true_and, and_true, and_self, Nat.reduceBEq, QOp.loads, boxO, bslO, buildO, cutL, fillV, putL, w57, v57, W]
      have : l.findIdx? (fun y => decide (y = x)) = some i := by
        rw [List.findIdx?_eq_some_iff_getElem]
        exact ⟨hi', decide_eq_true hk.symm, fun j hj => by simpa using F j (by omega) hj⟩
      rw [this]
    · simp (maxSteps := 4000000) (disch := omega) only [ah, am, Nat.reduceEqDiff, reduceCtorEq, Nat.reduceAdd, Nat.reduceLeDiff, Nat.reduceMul, Nat.reduceLT, if_true, if_false, true_and, and_true, and_self, Nat.reduceBEq, QOp.loads, boxO, bslO, buildO, cutL, fillV, putL, w57, v57, W]
      refine ⟨hi', fun j hj hj2 => ?_⟩
      by_cases hji : j = i
      · subst hji; exact fun q => hk q.symm
      · exact F j hj (by omega)
  · simp (maxSteps := 4000000) (disch := omega) only [ah, am, Nat.reduceEqDiff, reduceCtorEq, Nat.reduceAdd, Nat.reduceLeDiff, Nat.reduceMul, Nat.reduceLT, if_true, if_false, true_and, and_true, and_self, Nat.reduceBEq, QOp.loads, boxO, bslO, buildO, cutL, fillV, putL, w57, v57, R, W]
    obtain rfl : i = l.length := by omega
    have : l.findIdx? (fun y => decide (y = x)) = none := by
      rw [List.findIdx?_eq_none_iff]
      intro y hy
      obtain ⟨j, hj, rfl⟩ := List.getElem_of_mem hy
      exact decide_eq_false (F j hj hj)
    rw [this]
theorem ContainsI_ok (h : Heap) (v : Value) (l : List Int) (x : Int) (s : SlT h encI 1 v l) (hl : l.length ≤ 281474976710656) :
    ACall Try.prog 40 [v, .int .i64 x] h fun r h' => h' = h ∧ r = .bool (decide (x ∈ l)) := by
  refine ACall.of Try.func40 s40 (of_decide_eq_true rfl) ?_
  simp (maxSteps := 4000000) (disch := omega) only [ah, am, Nat.reduceEqDiff, reduceCtorEq, Nat.reduceAdd, Nat.reduceLeDiff, Nat.reduceMul, Nat.reduceLT, if_true, if_false, true_and, and_true, and_self, Nat.reduceBEq, QOp.loads, boxO, bslO, buildO, cutL, fillV, putL, w40, v40]
  refine stepC.of (IndexI_ok h v l x s hl) ?_
  rintro _ Hx ⟨hx, rfl⟩; rw [hx]; clear hx Hx
  simp (maxSteps := 4000000) (disch := omega) only [ah, am, Nat.reduceEqDiff, reduceCtorEq, Nat.reduceAdd, Nat.reduceLeDiff, Nat.reduceMul, Nat.reduceLT, if_true, if_false, true_and, and_true, and_self, Nat.reduceBEq, QOp.loads, boxO, bslO, buildO, cutL, fillV, putL, w40, v40]
  rw [findIdx_any]
  refine bool_dec ?_
  simp
/-! ### What is dirty -/
def dirtyV (acc : List Bool) (ch : List Int) (t : Task) : Bool := decide ((acc.length : Int) ∈ ch) || t.needs.any fun n => acc.getD n.toNat false
def dirtyB (ch : List Int) (l : List Task) : List Bool := l.foldl (fun acc t => acc ++ [dirtyV acc ch t]) []
theorem dirtyB_step (ch : List Int) (l : List Task) (i : Nat) (hi : i < l.length) : dirtyB ch (l.take (i + 1)) = dirtyB ch (l.take i) ++ [dirtyV (dirtyB ch (l.take i)) ch l[i]] := by
  unfold dirtyB; rw [List.take_succ_eq_append_getElem hi, List.foldl_append]; rfl
theorem dirtyB_length (ch : List Int) (l : List Task) : (dirtyB ch l).length = l.length := by
  have key : ∀ (l : List Task) (acc : List Bool), (l.foldl (fun acc t => acc ++ [dirtyV acc ch t]) acc).length = acc.length + l.length := by
    intro l
    induction l with
    | nil => intro acc; simp
    | cons t l ih => intro acc; rw [List.foldl_cons, ih]; simp; omega
  have := key l []; simpa [dirtyB] using this
def trues (bs : List Bool) : List Int := ((List.range bs.length).filter fun i => bs.getD i false).map fun i : Nat => (i : Int)
theorem trues_snoc (bs : List Bool) (b : Bool) : trues (bs ++ [b]) = trues bs ++ if b = true then [(bs.length : Int)] else [] := by
  unfold trues
  rw [List.length_append, List.length_singleton, List.range_succ, List.filter_append, List.map_append]
  congr 1
  · congr 1
    refine List.filter_congr fun i hi => ?_
    rw [List.mem_range] at hi
    simp [List.getD, List.getElem?_append_left hi]
  · cases b <;> simp [List.getD]
theorem mem_trues (bs : List Bool) (n : Int) (h0 : 0 ≤ n) : decide (n ∈ trues bs) = bs.getD n.toNat false := by
  unfold trues
  rw [Bool.eq_iff_iff, decide_eq_true_eq, List.mem_map]
  constructor
  · rintro ⟨i, hi, rfl⟩
    rw [List.mem_filter] at hi
    simpa using hi.2
  · intro h
    refine ⟨n.toNat, ?_, by omega⟩
    rw [List.mem_filter, List.mem_range]
    refine ⟨?_, h⟩
    by_cases hlt : n.toNat < bs.length
    · exact hlt
    · simp [List.getD, List.getElem?_eq_none (Nat.le_of_not_lt hlt)] at h
theorem trues_length (bs : List Bool) : (trues bs).length ≤ bs.length := by
  unfold trues; rw [List.length_map]
  exact Nat.le_trans (List.length_filter_le _ _) (by simp)
def dirtyOk (l : List Task) (ch : List Int) : Prop := jobOk l ∧ ch.length ≤ 200 ∧ ∀ n ∈ ch, 0 ≤ n ∧ n < l.length
noncomputable instance (l : List Task) (ch : List Int) : Decidable (dirtyOk l ch) := Classical.propDecidable _
noncomputable def dirtyF (l : List Task) (ch : List Int) : List Int := if dirtyOk l ch then trues (dirtyB ch l) else []
theorem dirtyF_length (l : List Task) (ch : List Int) : (dirtyF l ch).length ≤ 200 := by
  unfold dirtyF; split
  · rename_i h; have := trues_length (dirtyB ch l); rw [dirtyB_length] at this; have := h.1.1; omega
  · simp
theorem Dirty1_ok (h : Heap) (c : Nat) (vj : Value) (l : List Task) (n : Int) (hj : JobAt h vj l) (hl : l.length ≤ 281474976710656) (hc : ldV h (.pointer (some ⟨c, 0, none⟩)) = some vj) :
    ACall Try.prog 38 [.int .i64 n, .pointer (some ⟨c, 0, none⟩)] h fun r h' => Ext h h' ∧ r = .bool (!decide (0 ≤ n ∧ n < l.length)) := by
  obtain ⟨rs, s, hlen, Hr⟩ := hj
  refine ACall.of Try.func38 s38 (of_decide_eq_true rfl) ?_
  have R := s.rulesN
  simp only [hlen] at R
  have W1 : IntKind.i64.wrap ((l.length : Int) - 1) = (l.length : Int) - 1 := i64e (by omega) (by omega)
  simp (maxSteps := 4000000) (disch := omega) only [ah, am, Nat.reduceEqDiff, reduceCtorEq, Nat.reduceAdd, Nat.reduceLeDiff, Nat.reduceMul, Nat.reduceLT, if_true, if_false, true_and, and_true, and_self, Nat.reduceBEq, QOp.loads, boxO, bslO, buildO, cutL, fillV, putL, w38, v38, hc, R, W1]
  refine stepC.of (in_ok _ _ _ _) ?_
  rintro _ Hx ⟨hx, rfl⟩; rw [hx]; clear hx Hx
  simp (maxSteps := 4000000) (disch := omega) only [ah, am, Nat.reduceEqDiff, reduceCtorEq, Nat.reduceAdd, Nat.reduceLeDiff, Nat.reduceMul, Nat.reduceLT, if_true, if_false, true_and, and_true, and_self, Nat.reduceBEq, QOp.loads, boxO, bslO, buildO, cutL, fillV, putL, w38, v38]
  refine ⟨Ext.refl _, ?_⟩
  congr 2
  exact decide_eq_decide.mpr (by omega)
theorem Dirty2_ok (h : Heap) (c : Nat) (vo : Value) (l : List Int) (n : Int) (s : SlT h encI 1 vo l) (hl : l.length ≤ 281474976710656) (hc : ldV h (.pointer (some ⟨c, 0, none⟩)) = some vo) :
    ACall Try.prog 41 [.int .i64 n, .pointer (some ⟨c, 0, none⟩)] h fun r h' => Ext h h' ∧ r = .bool (decide (n ∈ l)) := by
  refine ACall.of Try.func41 s41 (of_decide_eq_true rfl) ?_
  simp (maxSteps := 4000000) (disch := omega) only [ah, am, Nat.reduceEqDiff, reduceCtorEq, Nat.reduceAdd, Nat.reduceLeDiff, Nat.reduceMul, Nat.reduceLT, if_true, if_false, true_and, and_true, and_self, Nat.reduceBEq, QOp.loads, boxO, bslO, buildO, cutL, fillV, putL, w41, v41, hc]
  refine stepC.of (ContainsI_ok h vo l n s hl) ?_
  rintro _ Hx ⟨hx, rfl⟩; rw [hx]; clear hx Hx
  simp (maxSteps := 4000000) (disch := omega) only [ah, am, Nat.reduceEqDiff, reduceCtorEq, Nat.reduceAdd, Nat.reduceLeDiff, Nat.reduceMul, Nat.reduceLT, if_true, if_false, true_and, and_true, and_self, Nat.reduceBEq, QOp.loads, boxO, bslO, buildO, cutL, fillV, putL, w41, v41]
  exact Ext.refl _
/-- A store into the other slice. -/
theorem Tw_setU {α β : Type} {a b : Nat} {h0 h : Heap} {enc : α → List Value} {sz : Nat} {v : Value} {l : List α} {enc' : β → List Value} {sz' : Nat} {u : Value} {m : List β}
    (t : Tw a b h0 h enc sz v l [] enc' sz' u m) (ha : h0.size ≤ a) {j f n : Nat} (hj : j < m.length) {x : β} {y : Value} (hx : splice (enc' m[j]) f y.cells.toList = enc' x) (hn : 0 < n) (hy : y.cells.size = n) (hf : f + n ≤ sz') (h1 : oneB y.cells.toList = true) :
    ∃ h2, stV h n (ptrAt u (j * sz' + f)) y = some h2 ∧ Tw a b h0 h2 enc sz v l [] enc' sz' u (m.set j x) ∧ h2.size = h.size := by
  obtain ⟨g, g1, g2, g3, g4⟩ := t.own
  rcases t.mine.2 with ⟨rfl, rfl⟩ | ⟨k, k1, k2, k3⟩
  · simp at hj
  obtain ⟨h2, e, O, G, S⟩ := k3.setF hj hx hn hy hf h1
  refine ⟨h2, e, ⟨G.ext t.ext (by omega), (by have := t.le; omega), ⟨g, g1, g2, g3.extG G (by omega), (fun p hp => by cases hp)⟩, (fun p hp => by cases hp), ⟨O.slt, .inr ⟨k, k1, k2, O⟩⟩⟩, S⟩
theorem map_range_set (n k : Nat) (f g : Nat → Bool) (hk : k < n) (b : Bool) (hg : ∀ j, j < n → g j = if j = k then b else f j) : ((List.range n).map f).set k b = (List.range n).map g := by
  refine List.ext_getElem (by simp) fun i h1 h2 => ?_
  simp at h1
  rw [List.getElem_set]
  simp only [List.getElem_map, List.getElem_range]
  rw [hg i h1]
  by_cases hik : i = k
  · subst hik; simp
  · rw [if_neg (fun q => hik q.symm), if_neg hik]
theorem specDirty_ok (h : Heap) (v vc : Value) (l : List Task) (ch : List Int) (hj : JobAt h v l) (sc : SlT h encI 1 vc ch) (hl : l.length ≤ 1048576) (hc : ch.length ≤ 1048576) :
    ACall Try.prog 9 [v, vc] h fun r h' => Fresh h h' encI 1 r (dirtyF l ch) := by
  refine ACall.of Try.func9 s9 (of_decide_eq_true rfl) ?_
  simp (maxSteps := 4000000) (disch := omega) only [ah, am, Nat.reduceEqDiff, reduceCtorEq, Nat.reduceAdd, Nat.reduceLeDiff, Nat.reduceMul, Nat.reduceLT, if_true, if_false, true_and, and_true, and_self, Nat.reduceBEq, QOp.loads, boxO, bslO, buildO, cutL, fillV, putL, w9, v9]
  refine stepC.of (specJobOk_ok _ v l (hj.ext (Ext.more _ _)) (by omega)) ?_
  rintro _ H1 ⟨e1, rfl⟩
  have F0 : Fresh h H1 encI 1 (.slice (some ⟨h.size, 0, none⟩) 0 1) [] := (Fresh.new0 h encI_len (by omega)).ext e1
  by_cases c1 : jobOk l
  rotate_left
  · simp (maxSteps := 4000000) (disch := omega) only [ah, am, Nat.reduceEqDiff, reduceCtorEq, Nat.reduceAdd, Nat.reduceLeDiff, Nat.reduceMul, Nat.reduceLT, if_true, if_false, true_and, and_true, and_self, Nat.reduceBEq, QOp.loads, boxO, bslO, buildO, cutL, fillV, putL, w9, v9, decide_eq_false c1, Bool.not_false]
    rw [show dirtyF l ch = [] from if_neg fun q => c1 q.1]; exact F0
  have E1 : Ext h H1 := F0.1
  have Rc := (sc.ext E1).rulesN
  simp (maxSteps := 4000000) (disch := omega) only [ah, am, Nat.reduceEqDiff, reduceCtorEq, Nat.reduceAdd, Nat.reduceLeDiff, Nat.reduceMul, Nat.reduceLT, if_true, if_false, true_and, and_true, and_self, Nat.reduceBEq, QOp.loads, boxO, bslO, buildO, cutL, fillV, putL, w9, v9, decide_eq_true c1, Bool.not_true, Rc]
  refine stepI.split (fun c2 => ?_) (fun c2 => ?_)
  · simp (maxSteps := 4000000) (disch := omega) only [ah, am, Nat.reduceEqDiff, reduceCtorEq, Nat.reduceAdd, Nat.reduceLeDiff, Nat.reduceMul, Nat.reduceLT, if_true, if_false, true_and, and_true, and_self, Nat.reduceBEq, QOp.loads, boxO, bslO, buildO, cutL, fillV, putL, w9, v9]
    rw [show dirtyF l ch = [] from if_neg fun q => by have := q.2.1; omega]; exact F0
  obtain ⟨rs, s, hlen, Hr⟩ := hj
  have R := (s.ext E1).rulesN
  simp only [hlen] at R
  have hn2 := c1.1
  simp (maxSteps := 4000000) (disch := omega) only [ah, am, Nat.reduceEqDiff, reduceCtorEq, Nat.reduceAdd, Nat.reduceLeDiff, Nat.reduceMul, Nat.reduceLT, if_true, if_false, true_and, and_true, and_self, Nat.reduceBEq, QOp.loads, boxO, bslO, buildO, cutL, fillV, putL, w9, v9, R, mksV_nat]
  have Fi := Fresh.newR H1 l.length false encB_len (by omega)
  have T0 := Tw.of (Fk.of (X := []) F0) Fi
  generalize hiv : (Value.slice (some ⟨H1.size, 0, none⟩) l.length 1) = iv at T0
  have ha : h.size ≤ H1.size := E1.1
  have hbs : H1.size < (H1.more [(List.replicate l.length (encB false)).flatten]).size := by rw [size_more]; simp
  generalize (H1.more [(List.replicate l.length (encB false)).flatten]).size = hb at T0 hbs
  simp only [encB] at T0
  refine SW_loop_up (fun i E H => E = [(0, v), (1, vc), (5, .slice (some ⟨h.size, 0, none⟩) 0 1), (6, iv), (7, .int .i64 i)] ∧ Tw H1.size hb h H encI 1 (.slice (some ⟨h.size, 0, none⟩) 0 1) [] [] encB 1 iv ((List.range l.length).map fun j : Nat => decide ((j : Int) ∈ ch.take i)) ∧
    ∀ j (h1 : j < i) (h2 : j < ch.length), 0 ≤ ch[j] ∧ ch[j] < l.length) ch.length 0 (by omega)
    ⟨rfl, by simpa [encB, List.map_const'] using T0, fun j h1 h2 => absurd h1 (by omega)⟩ ?_
  have out : ∀ {H : Heap} {ov : Value} {ol : List Int} {il : List Bool}, Tw H1.size hb h H encI 1 ov ol [] encB 1 iv il → Fresh h H encI 1 ov ol := fun T => T.fk.fresh
  rintro i E H hi ⟨rfl, T, G⟩
  have E2 := T.ext
  have R := (s.ext E2).rulesN
  simp only [hlen] at R
  have Rc := (sc.ext E2).rulesN
  have Ri := T.mine.slt.rulesN
  simp only [List.length_map, List.length_range] at Ri
  have W : IntKind.i64.wrap ((i : Int) + 1) = ((i + 1 : Nat) : Int) := i64e (by omega) (by omega)
  simp (maxSteps := 4000000) (disch := omega) only [ah, am, Nat.reduceEqDiff, reduceCtorEq, Nat.reduceAdd, Nat.reduceLeDiff, Nat.reduceMul, Nat.reduceLT, if_true, if_false, true_and, and_true, and_self, Nat.reduceBEq, QOp.loads, boxO, bslO, buildO, cutL, fillV, putL, w9, v9, R, Rc, W]
  refine stepI.split (fun hp => ?_) (fun hp => ?_)
  · have hi2 : i < ch.length := by omega
    have bad : ¬ (0 ≤ ch[i] ∧ ch[i] < l.length) → dirtyF l ch = [] := fun q => if_neg fun k => q (k.2.2 _ (List.getElem_mem hi2))
    simp (maxSteps := 4000000) (disch := omega) only [ah, am, Nat.reduceEqDiff, reduceCtorEq, Nat.reduceAdd, Nat.reduceLeDiff, Nat.reduceMul, Nat.reduceLT, if_true, if_false, true_and, and_true, and_self, Nat.reduceBEq, QOp.loads, boxO, bslO, buildO, cutL, fillV, putL, w9, v9, Rc, encI]
    refine stepG.cases (fun d1 hd1 => ?_) (fun d1 hd1 => ?_)
    · simp (maxSteps := 4000000) (disch := omega) only [ah, am, Nat.reduceEqDiff, reduceCtorEq, Nat.reduceAdd, Nat.reduceLeDiff, Nat.reduceMul, Nat.reduceLT, if_true, if_false, true_and, and_true, and_self, Nat.reduceBEq, QOp.loads, boxO, bslO, buildO, cutL, fillV, putL, w9, v9, hd1]
      rw [bad (by omega)]; exact out T
    simp (maxSteps := 4000000) (disch := omega) only [ah, am, Nat.reduceEqDiff, reduceCtorEq, Nat.reduceAdd, Nat.reduceLeDiff, Nat.reduceMul, Nat.reduceLT, if_true, if_false, true_and, and_true, and_self, Nat.reduceBEq, QOp.loads, boxO, bslO, buildO, cutL, fillV, putL, w9, v9, hd1, R, Rc, encI]
    refine stepI.split (fun d2 => ?_) (fun d2 => ?_)
    · simp (maxSteps := 4000000) (disch := omega) only [ah, am, Nat.reduceEqDiff, reduceCtorEq, Nat.reduceAdd, Nat.reduceLeDiff, Nat.reduceMul, Nat.reduceLT, if_true, if_false, true_and, and_true, and_self, Nat.reduceBEq, QOp.loads, boxO, bslO, buildO, cutL, fillV, putL, w9, v9]
      rw [bad (by omega)]; exact out T
    obtain ⟨k, hk⟩ : ∃ k : Nat, ch[i] = (k : Int) := ⟨ch[i].toNat, by omega⟩
    have hkl : k < l.length := by omega
    obtain ⟨H2, es, T2, -⟩ := Tw_setU T ha (j := k) (f := 0) (n := 1) (x := true) (y := .bool true) (by simp; omega) rfl (by omega) rfl (by omega) rfl
    simp only [Nat.add_zero, Nat.mul_one] at es Ri
    simp (maxSteps := 4000000) (disch := omega) only [ah, am, Nat.reduceEqDiff, reduceCtorEq, Nat.reduceAdd, Nat.reduceLeDiff, Nat.reduceMul, Nat.reduceLT, if_true, if_false, true_and, and_true, and_self, Nat.reduceBEq, QOp.loads, boxO, bslO, buildO, cutL, fillV, putL, w9, v9, Rc, Ri, encI, hk, es, W]
    refine ⟨hi2, ?_, fun j h1 h2 => ?_⟩
    · rw [map_range_set l.length k _ (fun j : Nat => decide ((j : Int) ∈ ch.take (i + 1))) hkl] at T2
      · exact T2
      · intro j hj
        rw [List.take_succ_eq_append_getElem hi2, hk]
        by_cases hjk : j = k
        · subst hjk; rw [if_pos rfl]; exact decide_eq_true (by simp)
        · rw [if_neg hjk]; refine decide_eq_decide.mpr ?_
          simp only [List.mem_append, List.mem_singleton]
          exact ⟨fun q => by rcases q with q | q; exact q; omega, fun q => .inl q⟩
    · by_cases hj : j = i
      · subst hj; omega
      · exact G j (by omega) h2
  have hok : dirtyOk l ch := ⟨c1, by omega, fun n hn => by
    obtain ⟨j, hj, rfl⟩ := List.mem_iff_getElem.mp hn
    exact G j (by omega) hj⟩
  rw [show dirtyF l ch = trues (dirtyB ch l) from if_pos hok]
  obtain rfl : i = ch.length := by omega
  rw [List.take_length] at T
  clear hi hp G
  simp (maxSteps := 4000000) (disch := omega) only [ah, am, Nat.reduceEqDiff, reduceCtorEq, Nat.reduceAdd, Nat.reduceLeDiff, Nat.reduceMul, Nat.reduceLT, if_true, if_false, true_and, and_true, and_self, Nat.reduceBEq, QOp.loads, boxO, bslO, buildO, cutL, fillV, putL, w9, v9]
  let cf : Nat → Bool := fun j : Nat => decide ((j : Int) ∈ ch)
  refine SW_loop_up (fun i E K => ∃ ov, E = [(0, v), (5, ov), (6, iv), (8, .int .i64 i)] ∧ Tw H1.size hb h K encI 1 ov (trues (dirtyB ch (l.take i))) [] encB 1 iv (dirtyB ch (l.take i) ++ ((List.range l.length).map cf).drop i)) l.length 0 (by omega)
    ⟨_, rfl, by simpa [dirtyB, trues] using T⟩ ?_
  rintro i E K hi ⟨ov, rfl, T⟩
  have E2 := T.ext
  have R := (s.ext E2).rulesN
  simp only [hlen] at R
  have W : IntKind.i64.wrap ((i : Int) + 1) = ((i + 1 : Nat) : Int) := i64e (by omega) (by omega)
  simp (maxSteps := 4000000) (disch := omega) only [ah, am, Nat.reduceEqDiff, reduceCtorEq, Nat.reduceAdd, Nat.reduceLeDiff, Nat.reduceMul, Nat.reduceLT, if_true, if_false, true_and, and_true, and_self, Nat.reduceBEq, QOp.loads, boxO, bslO, buildO, cutL, fillV, putL, w9, v9, R, W]
  refine stepI.split (fun hp => ?_) (fun hp => ?_)
  rotate_left
  · simp (maxSteps := 4000000) (disch := omega) only [ah, am, Nat.reduceEqDiff, reduceCtorEq, Nat.reduceAdd, Nat.reduceLeDiff, Nat.reduceMul, Nat.reduceLT, if_true, if_false, true_and, and_true, and_self, Nat.reduceBEq, QOp.loads, boxO, bslO, buildO, cutL, fillV, putL, w9, v9]
    obtain rfl : i = l.length := by omega
    rw [List.take_length] at T
    exact out T
  have hi2 : i < l.length := by omega
  have hacc : (dirtyB ch (l.take i)).length = i := by rw [dirtyB_length]; simp; omega
  have A := (Hr i (by omega) hi2)
  obtain ⟨k1, k2, k3, sn⟩ := A
  have hneed : ∀ n ∈ l[i].needs, 0 ≤ n ∧ n < i := fun n hn => c1.need hi2 hn
  have hnl : l[i].needs.length ≤ 10 := (c1.2 i hi2).2.2.2.1
  have hstep := dirtyB_step ch l i hi2
  obtain ⟨acc, hacc'⟩ : ∃ acc, acc = dirtyB ch (l.take i) := ⟨_, rfl⟩
  rw [← hacc'] at T hacc hstep
  obtain ⟨t, ht⟩ : ∃ t, t = l[i] := ⟨_, rfl⟩
  rw [← ht] at sn hneed hnl hstep
  simp (maxSteps := 4000000) (disch := omega) only [ah, am, Nat.reduceEqDiff, reduceCtorEq, Nat.reduceAdd, Nat.reduceLeDiff, Nat.reduceMul, Nat.reduceLT, if_true, if_false, true_and, and_true, and_self, Nat.reduceBEq, QOp.loads, boxO, bslO, buildO, cutL, fillV, putL, w9, v9]
  obtain ⟨X, hX⟩ : ∃ X, X = acc ++ ((List.range l.length).map cf).drop i := ⟨_, rfl⟩
  rw [← hX] at T
  have hXl : X.length = l.length := by rw [hX]; simp; omega
  have hXi : X[i]'(by omega) = cf i := by
    subst hX; rw [List.getElem_append_right (by omega)]; simp [hacc]
  have hXn : ∀ n (hn : n < i), X[n]'(by omega) = acc.getD n false := fun n hn => by
    subst hX; rw [List.getElem_append_left (by omega)]; simp [List.getD, List.getElem?_eq_getElem (show n < acc.length by omega)]
  have hXs : ∀ b, X.set i b = acc ++ [b] ++ ((List.range l.length).map cf).drop (i + 1) := fun b => by
    subst hX; rw [List.set_append_right _ _ (by omega), hacc, Nat.sub_self, List.drop_eq_getElem_cons (by simp; omega), List.set_cons_zero, List.append_assoc]; rfl
  generalize hvv : trues acc = tl at T
  refine SW_loop_up (fun k E K => E = [(0, v), (5, ov), (6, iv), (8, .int .i64 i), (9, .int .i64 k)] ∧ Tw H1.size hb h K encI 1 ov tl [] encB 1 iv (X.set i (cf i || (t.needs.take k).any fun n => acc.getD n.toNat false))) t.needs.length 0 (by omega)
    ⟨rfl, by rw [List.take_zero, List.any_nil, Bool.or_false, ← hXi, List.set_getElem_self]; exact T⟩ ?_
  rintro k E K2 hk ⟨rfl, T⟩
  have E2 := T.ext
  have R := (s.ext E2).rulesN
  simp only [hlen] at R
  have Rn := (sn.ext E2).rulesN
  have Ri := T.mine.slt.rulesN
  simp only [List.length_set, hXl] at Ri
  have Wk : IntKind.i64.wrap ((k : Int) + 1) = ((k + 1 : Nat) : Int) := i64e (by omega) (by omega)
  simp (maxSteps := 4000000) (disch := omega) only [ah, am, Nat.reduceEqDiff, reduceCtorEq, Nat.reduceAdd, Nat.reduceLeDiff, Nat.reduceMul, Nat.reduceLT, if_true, if_false, true_and, and_true, and_self, Nat.reduceBEq, QOp.loads, boxO, bslO, buildO, cutL, fillV, putL, w9, v9, R, Rn, encT, Wk]
  refine stepI.split (fun hp => ?_) (fun hp => ?_)
  · have hk2 : k < t.needs.length := by omega
    have hstepk : ((t.needs.take (k + 1)).any fun n => acc.getD n.toNat false) = (((t.needs.take k).any fun n => acc.getD n.toNat false) || acc.getD t.needs[k].toNat false) := by
      rw [List.take_succ_eq_append_getElem hk2, List.any_append]; simp
    generalize hb0 : ((t.needs.take k).any fun n => acc.getD n.toNat false) = bk at T Ri hstepk
    cases hb1 : (cf i || bk) with
    | true =>
      rw [hb1] at T Ri
      obtain ⟨H2, es, T2, -⟩ := Tw_setU T ha (j := i) (f := 0) (n := 1) (x := true) (y := .bool true) (by simp; omega) rfl (by omega) rfl (by omega) rfl
      simp only [Nat.add_zero, Nat.mul_one] at es Ri
      simp (maxSteps := 4000000) (disch := omega) only [ah, am, Nat.reduceEqDiff, reduceCtorEq, Nat.reduceAdd, Nat.reduceLeDiff, Nat.reduceMul, Nat.reduceLT, if_true, if_false, true_and, and_true, and_self, Nat.reduceBEq, QOp.loads, boxO, bslO, buildO, cutL, fillV, putL, w9, v9, Ri, encB, List.getElem_set_self, es, Wk]
      refine ⟨hk2, ?_⟩
      rw [hstepk, ← Bool.or_assoc, hb1, Bool.true_or]
      rw [List.set_set] at T2; exact T2
    | false =>
      obtain ⟨n, hn⟩ : ∃ n : Nat, t.needs[k] = (n : Int) := ⟨t.needs[k].toNat, by have := hneed _ (List.getElem_mem hk2); omega⟩
      have hni : n < i := by have := hneed _ (List.getElem_mem hk2); omega
      rw [hb1] at T Ri
      obtain ⟨H2, es, T2, -⟩ := Tw_setU T ha (j := i) (f := 0) (n := 1) (x := acc.getD n false) (y := .bool (acc.getD n false)) (by simp; omega) rfl (by omega) rfl (by omega) rfl
      simp only [Nat.add_zero, Nat.mul_one] at es Ri
      have hgn : (X.set i false)[n]'(by simp; omega) = acc.getD n false := by rw [List.getElem_set_ne (by omega)]; exact hXn n hni
      have hgn2 : ldV K2 (ptrAt iv n) = some (.bool (acc.getD n false)) := by rw [Ri.2.2.2.2.1 n (by omega), hgn]; rfl
      simp (maxSteps := 4000000) (disch := omega) only [ah, am, Nat.reduceEqDiff, reduceCtorEq, Nat.reduceAdd, Nat.reduceLeDiff, Nat.reduceMul, Nat.reduceLT, if_true, if_false, true_and, and_true, and_self, Nat.reduceBEq, QOp.loads, boxO, bslO, buildO, cutL, fillV, putL, w9, v9, hgn2, Ri, R, Rn, encT, encI, encB, List.getElem_set_self, hn, es, Wk]
      refine ⟨hk2, ?_⟩
      rw [hstepk, ← Bool.or_assoc, hb1, Bool.false_or, hn, Int.toNat_natCast]
      rw [List.set_set] at T2; exact T2
  · obtain rfl : k = t.needs.length := by omega
    rw [List.take_length] at T Ri
    have hv : (cf i || t.needs.any fun n => acc.getD n.toNat false) = dirtyV acc ch t := by unfold dirtyV; rw [hacc]
    rw [hv] at T Ri
    rw [hXs] at T
    cases hd : dirtyV acc ch t with
    | true =>
      rw [hd] at T Ri hstep
      have Tl : tl.length ≤ acc.length := by rw [← hvv]; exact trues_length acc
      obtain ⟨v2, K3, ea, T3⟩ := T.app1 [] (i : Int) (bytes := 8) (by omega)
      simp only [List.nil_append, List.length_nil, Nat.add_zero, encI] at ea
      simp (maxSteps := 4000000) (disch := omega) only [ah, am, Nat.reduceEqDiff, reduceCtorEq, Nat.reduceAdd, Nat.reduceLeDiff, Nat.reduceMul, Nat.reduceLT, if_true, if_false, true_and, and_true, and_self, Nat.reduceBEq, QOp.loads, boxO, bslO, buildO, cutL, fillV, putL, w9, v9, Ri, encB, List.getElem_set_self, ea, W]
      refine ⟨hi2, ?_⟩
      rw [hstep, trues_snoc, if_pos rfl, hacc, hvv]
      exact ⟨_, rfl, T3⟩
    | false =>
      rw [hd] at T Ri hstep
      simp (maxSteps := 4000000) (disch := omega) only [ah, am, Nat.reduceEqDiff, reduceCtorEq, Nat.reduceAdd, Nat.reduceLeDiff, Nat.reduceMul, Nat.reduceLT, if_true, if_false, true_and, and_true, and_self, Nat.reduceBEq, QOp.loads, boxO, bslO, buildO, cutL, fillV, putL, w9, v9, Ri, encB, List.getElem_set_self, W]
      refine ⟨hi2, ?_⟩
      rw [hstep, trues_snoc, if_neg (by decide), List.append_nil, hvv]
      exact ⟨_, rfl, T⟩
theorem Dirty_ok (h : Heap) (v vc : Value) (l : List Task) (ch : List Int) (hj : JobAt h v l) (sc : SlT h encI 1 vc ch) (hl : l.length ≤ 1048576) (hc : ch.length ≤ 1048576) :
    ACall Try.prog 12 [v, vc] h fun r h' => Fresh h h' encI 1 r (dirtyF l ch) := by
  obtain ⟨rs, s, hlen, Hr⟩ := id hj
  have q1 := cells_slT s; have q2 := oneB_slT s
  refine ACall.of Try.func12 s12 (of_decide_eq_true rfl) ?_
  simp (maxSteps := 4000000) (disch := omega) only [ah, am, Nat.reduceEqDiff, reduceCtorEq, Nat.reduceAdd, Nat.reduceLeDiff, Nat.reduceMul, Nat.reduceLT, if_true, if_false, true_and, and_true, and_self, Nat.reduceBEq, QOp.loads, boxO, bslO, buildO, cutL, fillV, putL, w12, v12, q1, q2]
  refine stepC.of (implJobOk_ok _ v l (hj.ext (Ext.more _ _)) (by omega)) ?_
  rintro _ H1 ⟨e1, rfl⟩
  have E1 := (Ext.more h _).trans e1
  have nil0 : ∀ {H : Heap}, Ext h H → Fresh h H encI 1 (.slice none 0 0) ([] : List Int) := fun {H} e => (Fresh.nil H encI_len (by omega)).mono e
  by_cases c1 : jobOk l
  rotate_left
  · simp (maxSteps := 4000000) (disch := omega) only [ah, am, Nat.reduceEqDiff, reduceCtorEq, Nat.reduceAdd, Nat.reduceLeDiff, Nat.reduceMul, Nat.reduceLT, if_true, if_false, true_and, and_true, and_self, Nat.reduceBEq, QOp.loads, boxO, bslO, buildO, cutL, fillV, putL, w12, v12, decide_eq_false c1, Bool.not_false]
    rw [show dirtyF l ch = [] from if_neg fun q => c1 q.1]; exact nil0 E1
  have Rc := (sc.ext E1).rulesN
  simp (maxSteps := 4000000) (disch := omega) only [ah, am, Nat.reduceEqDiff, reduceCtorEq, Nat.reduceAdd, Nat.reduceLeDiff, Nat.reduceMul, Nat.reduceLT, if_true, if_false, true_and, and_true, and_self, Nat.reduceBEq, QOp.loads, boxO, bslO, buildO, cutL, fillV, putL, w12, v12, decide_eq_true c1, Bool.not_true, Rc]
  refine stepG.cases (fun c2 hc2 => ?_) (fun c2 hc2 => ?_)
  · simp (maxSteps := 4000000) (disch := omega) only [ah, am, Nat.reduceEqDiff, reduceCtorEq, Nat.reduceAdd, Nat.reduceLeDiff, Nat.reduceMul, Nat.reduceLT, if_true, if_false, true_and, and_true, and_self, Nat.reduceBEq, QOp.loads, boxO, bslO, buildO, cutL, fillV, putL, w12, v12, hc2]
    rw [show dirtyF l ch = [] from if_neg fun q => by have := q.2.1; omega]; exact nil0 E1
  simp (maxSteps := 4000000) (disch := omega) only [ah, am, Nat.reduceEqDiff, reduceCtorEq, Nat.reduceAdd, Nat.reduceLeDiff, Nat.reduceMul, Nat.reduceLT, if_true, if_false, true_and, and_true, and_self, Nat.reduceBEq, QOp.loads, boxO, bslO, buildO, cutL, fillV, putL, w12, v12, hc2]
  refine stepC.of (ContainsFuncI_ok _ vc ch 38 _ (fun n => !decide (0 ≤ n ∧ n < l.length)) (sc.ext E1) (by omega) ⟨_, Try.func38, rfl, by decide⟩
    (fun h' k e _ => Dirty1_ok h' h.size v l k (hj.ext (E1.trans e)) (by omega) (by rw [(e1.trans e).ld0.1]; rfl))) ?_
  rintro _ H2 ⟨e2, rfl⟩
  have E2 := E1.trans e2
  cases hany : ch.any (fun n => !decide (0 ≤ n ∧ n < l.length)) with
  | true =>
    simp (maxSteps := 4000000) (disch := omega) only [ah, am, Nat.reduceEqDiff, reduceCtorEq, Nat.reduceAdd, Nat.reduceLeDiff, Nat.reduceMul, Nat.reduceLT, if_true, if_false, true_and, and_true, and_self, Nat.reduceBEq, QOp.loads, boxO, bslO, buildO, cutL, fillV, putL, w12, v12]
    rw [List.any_eq_true] at hany
    obtain ⟨n, hn, hb⟩ := hany
    rw [show dirtyF l ch = [] from if_neg fun q => by
      have := q.2.2 n hn
      rw [decide_eq_true this] at hb; cases hb]
    exact nil0 E2
  | false =>
    have hok : dirtyOk l ch := ⟨c1, by omega, fun n hn => by
      rw [List.any_eq_false] at hany
      have := hany n hn
      simpa using this⟩
    rw [show dirtyF l ch = trues (dirtyB ch l) from if_pos hok]
    have R := (s.ext E2).rulesN
    simp only [hlen] at R
    have X := (e1.trans e2).ld0.1
    have X2 := ((e1.trans e2).trans (Ext.more H2 [[], [.slice (some ⟨H2.size, 0, none⟩) 0 1]])).ld0.1
    simp (maxSteps := 4000000) (disch := omega) only [ah, am, Nat.reduceEqDiff, reduceCtorEq, Nat.reduceAdd, Nat.reduceLeDiff, Nat.reduceMul, Nat.reduceLT, if_true, if_false, true_and, and_true, and_self, Nat.reduceBEq, QOp.loads, boxO, bslO, buildO, cutL, fillV, putL, w12, v12, X, X2, R]
    obtain ⟨c, hc0⟩ : ∃ c, c = H2.size + 1 := ⟨_, rfl⟩
    have F0 : Fk [] H2 (H2.more [[], [.slice (some ⟨H2.size, 0, none⟩) 0 1]]) encI 1 (.slice (some ⟨H2.size, 0, none⟩) 0 1) [] [(c, [.slice (some ⟨H2.size, 0, none⟩) 0 1])] := by
      have := (Fk.of (X := []) (Fresh.new0 H2 encI_len (by omega))).more [[.slice (some ⟨H2.size, 0, none⟩) 0 1]]
      rw [hc0]; simpa [boxesAt, more_more, size_more] using this
    rw [← hc0]
    refine SW_loop_up (fun i E K => ∃ ov, E = [(1, vc), (5, .pointer (some ⟨c, 0, none⟩)), (22, v), (23, .int .i64 l.length), (24, .int .i64 i)] ∧ Fk [] H2 K encI 1 ov (trues (dirtyB ch (l.take i))) [(c, [ov])]) l.length 0 (by omega)
      ⟨_, rfl, F0⟩ ?_
    rintro i E K hi ⟨ov, rfl, F⟩
    have E3 := E2.trans F.ext.ext
    have R := (s.ext E3).rulesN
    simp only [hlen] at R
    have W : IntKind.i64.wrap ((i : Int) + 1) = ((i + 1 : Nat) : Int) := i64e (by omega) (by omega)
    simp (maxSteps := 4000000) (disch := omega) only [ah, am, Nat.reduceEqDiff, reduceCtorEq, Nat.reduceAdd, Nat.reduceLeDiff, Nat.reduceMul, Nat.reduceLT, if_true, if_false, true_and, and_true, and_self, Nat.reduceBEq, QOp.loads, boxO, bslO, buildO, cutL, fillV, putL, w12, v12, R, W]
    refine stepI.split (fun hp => ?_) (fun hp => ?_)
    rotate_left
    · obtain rfl : i = l.length := by omega
      have X := (F.ld (List.mem_singleton.mpr rfl)).1
      simp (maxSteps := 4000000) (disch := omega) only [ah, am, Nat.reduceEqDiff, reduceCtorEq, Nat.reduceAdd, Nat.reduceLeDiff, Nat.reduceMul, Nat.reduceLT, if_true, if_false, true_and, and_true, and_self, Nat.reduceBEq, QOp.loads, boxO, bslO, buildO, cutL, fillV, putL, w12, v12, X]
      rw [List.take_length] at F
      exact F.fresh.mono E2
    have hi2 : i < l.length := by omega
    obtain ⟨k1, k2, k3, sn⟩ := Hr i (by omega) hi2
    have p1 := cells_slT sn; have p2 := oneB_slT sn
    have hacc : (dirtyB ch (l.take i)).length = i := by rw [dirtyB_length]; simp; omega
    have hneed : ∀ n ∈ l[i].needs, 0 ≤ n ∧ n < i := fun n hn => c1.need hi2 hn
    have hnl : l[i].needs.length ≤ 10 := (c1.2 i hi2).2.2.2.1
    have hstep := dirtyB_step ch l i hi2
    have htl := trues_length (dirtyB ch (l.take i))
    have G := F.more [encT rs[i]]
    simp (maxSteps := 4000000) (disch := omega) only [ah, am, Nat.reduceEqDiff, reduceCtorEq, Nat.reduceAdd, Nat.reduceLeDiff, Nat.reduceMul, Nat.reduceLT, if_true, if_false, true_and, and_true, and_self, Nat.reduceBEq, QOp.loads, boxO, bslO, buildO, cutL, fillV, putL, w12, v12, R, W, encT, p1, p2]
    refine stepC.of (ContainsI_ok _ vc ch i (sc.ext (E3.trans (Ext.more _ _))) (by omega)) ?_
    rintro _ Hx ⟨hx, rfl⟩; rw [hx]; clear hx Hx
    have fin : ∀ {K3 : Heap}, Fk [] H2 K3 encI 1 ov (trues (dirtyB ch (l.take i))) [(c, [ov])] → dirtyV (dirtyB ch (l.take i)) ch l[i] = true →
        ∃ v2 K4 K5, appV (K3.more [encI i]) 8 1 ov (.slice (some ⟨K3.size, 0, none⟩) 1 1) = some (v2, K4) ∧ stV K4 1 (.pointer (some ⟨c, 0, none⟩)) v2 = some K5 ∧ Fk [] H2 K5 encI 1 v2 (trues (dirtyB ch (l.take (i + 1)))) [(c, [v2])] := by
      intro K3 F hd
      obtain ⟨v2, K4, ea, F4⟩ := F.app1 [] (i : Int) (bytes := 8) (by omega)
      simp only [List.nil_append, List.length_nil, Nat.add_zero, boxesAt, List.append_nil] at ea F4
      have cv := cells_slT F4.slt; have ov2 := oneB_slT F4.slt
      obtain ⟨K5, es, F5, -⟩ := F4.put1 (o := 0) (n := 1) (y := v2) (by rw [cv]; rfl) (by simp) (by rw [cv]; simp [ov2, oneB_nil])
      refine ⟨v2, K4, K5, ea, es, ?_⟩
      rw [hstep, trues_snoc, if_pos hd, hacc]
      simpa [cv, splice] using F5
    by_cases hm : (i : Int) ∈ ch
    · have hd : dirtyV (dirtyB ch (l.take i)) ch l[i] = true := by unfold dirtyV; rw [hacc, decide_eq_true hm, Bool.true_or]
      obtain ⟨v2, K4, K5, ea, es, F5⟩ := fin (G.sub (B' := [(c, [ov])]) (by intro p hp; simp at hp ⊢; exact .inl hp)) hd
      have X := (G.ld (i := c) (cs := [ov]) (by simp)).1
      simp only [encT] at X
      simp only [more_more, size_more, encT, encI, List.cons_append, List.nil_append, List.length_cons, List.length_nil, Nat.reduceAdd, Nat.zero_add] at ea
      simp (maxSteps := 4000000) (disch := omega) only [ah, am, Nat.reduceEqDiff, reduceCtorEq, Nat.reduceAdd, Nat.reduceLeDiff, Nat.reduceMul, Nat.reduceLT, if_true, if_false, true_and, and_true, and_self, Nat.reduceBEq, QOp.loads, boxO, bslO, buildO, cutL, fillV, putL, w12, v12, decide_eq_true hm, X, ea, es, W]
      exact ⟨hi2, _, F5⟩
    · have G3 := ((G.sub (B' := [(K.size, encT rs[i])]) (by intro p hp; simp [boxesAt] at hp ⊢; exact .inr hp)).ld (List.mem_singleton.mpr rfl)).1
      simp only [encT] at G3
      simp (maxSteps := 4000000) (disch := omega) only [ah, am, Nat.reduceEqDiff, reduceCtorEq, Nat.reduceAdd, Nat.reduceLeDiff, Nat.reduceMul, Nat.reduceLT, if_true, if_false, true_and, and_true, and_self, Nat.reduceBEq, QOp.loads, boxO, bslO, buildO, cutL, fillV, putL, w12, v12, decide_eq_false hm, G3]
      refine stepC.of (ContainsFuncI_ok _ rs[i].nv l[i].needs 41 _ (fun n => decide (n ∈ trues (dirtyB ch (l.take i)))) (sn.ext (E3.trans (Ext.more _ _))) (by omega) ⟨_, Try.func41, rfl, by decide⟩
        (fun h' k e _ => Dirty2_ok h' c ov _ k (G.slt.ext e) (by omega) (((G.step e).ld (i := c) (cs := [ov]) (by simp)).1 0))) ?_
      rintro _ K2 ⟨e4, rfl⟩
      have hany2 : (l[i].needs.any fun n => decide (n ∈ trues (dirtyB ch (l.take i)))) = dirtyV (dirtyB ch (l.take i)) ch l[i] := by
        unfold dirtyV
        rw [hacc, decide_eq_false hm, Bool.false_or, Bool.eq_iff_iff, List.any_eq_true, List.any_eq_true]
        refine exists_congr fun n => and_congr_right fun hn => ?_
        rw [mem_trues _ _ (hneed n hn).1]
      rw [hany2]
      have G4 := (G.step e4).sub (B' := [(c, [ov])]) (by intro p hp; simp at hp ⊢; exact .inl hp)
      cases hd : dirtyV (dirtyB ch (l.take i)) ch l[i] with
      | true =>
        obtain ⟨v2, K4, K5, ea, es, F5⟩ := fin G4 hd
        have X := (G4.ld (i := c) (cs := [ov]) (by simp)).1
        simp only [encI] at ea
        simp (maxSteps := 4000000) (disch := omega) only [ah, am, Nat.reduceEqDiff, reduceCtorEq, Nat.reduceAdd, Nat.reduceLeDiff, Nat.reduceMul, Nat.reduceLT, if_true, if_false, true_and, and_true, and_self, Nat.reduceBEq, QOp.loads, boxO, bslO, buildO, cutL, fillV, putL, w12, v12, X, ea, es, W]
        exact ⟨hi2, _, F5⟩
      | false =>
        simp (maxSteps := 4000000) (disch := omega) only [ah, am, Nat.reduceEqDiff, reduceCtorEq, Nat.reduceAdd, Nat.reduceLeDiff, Nat.reduceMul, Nat.reduceLT, if_true, if_false, true_and, and_true, and_self, Nat.reduceBEq, QOp.loads, boxO, bslO, buildO, cutL, fillV, putL, w12, v12, W]
        have e5 : trues (dirtyB ch (l.take (i + 1))) = trues (dirtyB ch (l.take i)) := by rw [hstep, trues_snoc, if_neg (by rw [hd]; decide), List.append_nil]
        rw [← e5] at G4
        exact ⟨hi2, _, G4⟩
end Go.Proofs.Ytbnkpligdcponaa
