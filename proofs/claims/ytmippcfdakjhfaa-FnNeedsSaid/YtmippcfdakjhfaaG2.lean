import Derived.Test.YtmippcfdakjhfaaG1
import Derived.Sort.AssemblyPlain
namespace Go.Proofs.Ytmippcfdakjhfaa
open Go Go.Ah
set_option linter.unusedSimpArgs false
set_option linter.unusedVariables false
set_option maxRecDepth 10000
set_option maxHeartbeats 4000000
/-! 72 cmp.isNaN[int64]: parameters 1, live [0], slots [0:x, 1:x] -/
def c72_0 : List SOper := [⟨some 2, .q (.mv (.c (.bool false))), none⟩]
def c72_1 : List SOper := [⟨some 3, .q (.mv (.t 0)), none⟩, ⟨some 4, .q (.mv (.t 0)), none⟩, ⟨some 5, .q (.bin .neq (.t 3) (.t 4)), none⟩, ⟨some 2, .q (.mv (.t 5)), none⟩]
def c72_2 : SCode := .seq (.region c72_1 [2]) .ret
def c72_3 : SCode := .seq (.region c72_0 [0]) c72_2
def c72 : SCode := c72_3
theorem w72 : type_of% (And.intro (uR Try.prog c72_0.eq_1) (And.intro (uR Try.prog c72_1.eq_1) (And.intro (uC Try.prog c72_2.eq_1) (And.intro (uC Try.prog c72_3.eq_1) (uC Try.prog c72.eq_1))))) := (And.intro (uR Try.prog c72_0.eq_1) (And.intro (uR Try.prog c72_1.eq_1) (And.intro (uC Try.prog c72_2.eq_1) (And.intro (uC Try.prog c72_3.eq_1) (uC Try.prog c72.eq_1)))))
def v72 : List RV := [.t 2]
theorem s72 : slimF Try.prog Try.f72 = some (c72.bare, v72) := by kernel_rfl
/-! 58 cmp.Compare[int64]: parameters 2, live [0, 1], slots [0:x, 1:y, 2:x, 3:y, 5:xNaN, 6:yNaN] -/
def c58_0 : List SOper := [⟨some 4, .q (.mv (.c (.int .i64 0))), none⟩]
def c58_1 : List SOper := [⟨some 7, .q (.mv (.t 0)), none⟩, ⟨some 8, .e (.call 72 [(.t 7)]), none⟩, ⟨some 5, .q (.mv (.t 8)), none⟩]
def c58_2 : List SOper := [⟨some 9, .q (.mv (.t 1)), none⟩, ⟨some 10, .e (.call 72 [(.t 9)]), none⟩, ⟨some 6, .q (.mv (.t 10)), none⟩]
def c58_3 : List SOper := [⟨some 11, .q (.mv (.t 5)), none⟩]
def c58_4 : List SOper := [⟨some 12, .q (.mv (.t 6)), none⟩]
def c58_5 : List SOper := [⟨some 4, .q (.mv (.c (.int .i64 0))), none⟩]
def c58_6 : SCode := .seq (.region c58_5 [4]) .ret
def c58_7 : SCode := .cond (.t 12) c58_6 .skip
def c58_8 : SCode := .seq (.region c58_4 [12]) c58_7
def c58_9 : List SOper := [⟨some 4, .q (.mv (.c (.int .i64 (-1)))), none⟩]
def c58_10 : SCode := .seq (.region c58_9 [4]) .ret
def c58_11 : SCode := .seq c58_8 c58_10
def c58_12 : SCode := .cond (.t 11) c58_11 .skip
def c58_13 : SCode := .seq (.region c58_3 [0, 1, 6, 11]) c58_12
def c58_14 : List SOper := [⟨some 13, .q (.mv (.t 6)), none⟩]
def c58_15 : List SOper := [⟨some 4, .q (.mv (.c (.int .i64 1))), none⟩]
def c58_16 : SCode := .seq (.region c58_15 [4]) .ret
def c58_17 : SCode := .cond (.t 13) c58_16 .skip
def c58_18 : SCode := .seq (.region c58_14 [0, 1, 13]) c58_17
def c58_19 : List SOper := [⟨some 14, .q (.mv (.t 0)), none⟩, ⟨some 15, .q (.mv (.t 1)), none⟩, ⟨some 16, .q (.bin .lss (.t 14) (.t 15)), none⟩]
def c58_20 : List SOper := [⟨some 4, .q (.mv (.c (.int .i64 (-1)))), none⟩]
def c58_21 : SCode := .seq (.region c58_20 [4]) .ret
def c58_22 : SCode := .cond (.t 16) c58_21 .skip
def c58_23 : SCode := .seq (.region c58_19 [0, 1, 16]) c58_22
def c58_24 : List SOper := [⟨some 17, .q (.mv (.t 0)), none⟩, ⟨some 18, .q (.mv (.t 1)), none⟩, ⟨some 19, .q (.bin .gtr (.t 17) (.t 18)), none⟩]
def c58_25 : List SOper := [⟨some 4, .q (.mv (.c (.int .i64 1))), none⟩]
def c58_26 : SCode := .seq (.region c58_25 [4]) .ret
def c58_27 : SCode := .cond (.t 19) c58_26 .skip
def c58_28 : SCode := .seq (.region c58_24 [19]) c58_27
def c58_29 : List SOper := [⟨some 4, .q (.mv (.c (.int .i64 0))), none⟩]
def c58_30 : SCode := .seq (.region c58_29 [4]) .ret
def c58_31 : SCode := .seq c58_28 c58_30
def c58_32 : SCode := .seq c58_23 c58_31
def c58_33 : SCode := .seq c58_18 c58_32
def c58_34 : SCode := .seq c58_13 c58_33
def c58_35 : SCode := .seq (.region c58_2 [0, 1, 5, 6]) c58_34
def c58_36 : SCode := .seq (.region c58_1 [0, 1, 5]) c58_35
def c58_37 : SCode := .seq (.region c58_0 [0, 1]) c58_36
def c58 : SCode := c58_37
theorem w58 : type_of% (And.intro (uR Try.prog c58_0.eq_1) (And.intro (uR Try.prog c58_1.eq_1) (And.intro (uR Try.prog c58_2.eq_1) (And.intro (uR Try.prog c58_3.eq_1) (And.intro (uR Try.prog c58_4.eq_1) (And.intro (uR Try.prog c58_5.eq_1) (And.intro (uC Try.prog c58_6.eq_1) (And.intro (uC Try.prog c58_7.eq_1) (And.intro (uC Try.prog c58_8.eq_1) (And.intro (uR Try.prog c58_9.eq_1) (And.intro (uC Try.prog c58_10.eq_1) (And.intro (uC Try.prog c58_11.eq_1) (And.intro (uC Try.prog c58_12.eq_1) (And.intro (uC Try.prog c58_13.eq_1) (And.intro (uR Try.prog c58_14.eq_1) (And.intro (uR Try.prog c58_15.eq_1) (And.intro (uC Try.prog c58_16.eq_1) (And.intro (uC Try.prog c58_17.eq_1) (And.intro (uC Try.prog c58_18.eq_1) (And.intro (uR Try.prog c58_19.eq_1) (And.intro (uR Try.prog c58_20.eq_1) (And.intro (uC Try.prog c58_21.eq_1) (And.intro (uC Try.prog c58_22.eq_1) (And.intro (uC Try.prog c58_23.eq_1) (And.intro (uR Try.prog c58_24.eq_1) (And.intro (uR Try.prog c58_25.eq_1) (And.intro (uC Try.prog c58_26.eq_1) (And.intro (uC Try.prog c58_27.eq_1) (And.intro (uC Try.prog c58_28.eq_1) (And.intro (uR Try.prog c58_29.eq_1) (And.intro (uC Try.prog c58_30.eq_1) (And.intro (uC Try.prog c58_31.eq_1) (And.intro (uC Try.prog c58_32.eq_1) (And.intro (uC Try.prog c58_33.eq_1) (And.intro (uC Try.prog c58_34.eq_1) (And.intro (uC Try.prog c58_35.eq_1) (And.intro (uC Try.prog c58_36.eq_1) (And.intro (uC Try.prog c58_37.eq_1) (uC Try.prog c58.eq_1))))))))))))))))))))))))))))))))))))))) := (And.intro (uR Try.prog c58_0.eq_1) (And.intro (uR Try.prog c58_1.eq_1) (And.intro (uR Try.prog c58_2.eq_1) (And.intro (uR Try.prog c58_3.eq_1) (And.intro (uR Try.prog c58_4.eq_1) (And.intro (uR Try.prog c58_5.eq_1) (And.intro (uC Try.prog c58_6.eq_1) (And.intro (uC Try.prog c58_7.eq_1) (And.intro (uC Try.prog c58_8.eq_1) (And.intro (uR Try.prog c58_9.eq_1) (And.intro (uC Try.prog c58_10.eq_1) (And.intro (uC Try.prog c58_11.eq_1) (And.intro (uC Try.prog c58_12.eq_1) (And.intro (uC Try.prog c58_13.eq_1) (And.intro (uR Try.prog c58_14.eq_1) (And.intro (uR Try.prog c58_15.eq_1) (And.intro (uC Try.prog c58_16.eq_1) (And.intro (uC Try.prog c58_17.eq_1) (And.intro (uC Try.prog c58_18.eq_1) (And.intro (uR Try.prog c58_19.eq_1) (And.intro (uR Try.prog c58_20.eq_1) (And.intro (uC Try.prog c58_21.eq_1) (And.intro (uC Try.prog c58_22.eq_1) (And.intro (uC Try.prog c58_23.eq_1) (And.intro (uR Try.prog c58_24.eq_1) (And.intro (uR Try.prog c58_25.eq_1) (And.intro (uC Try.prog c58_26.eq_1) (And.intro (uC Try.prog c58_27.eq_1) (And.intro (uC Try.prog c58_28.eq_1) (And.intro (uR Try.prog c58_29.eq_1) (And.intro (uC Try.prog c58_30.eq_1) (And.intro (uC Try.prog c58_31.eq_1) (And.intro (uC Try.prog c58_32.eq_1) (And.intro (uC Try.prog c58_33.eq_1) (And.intro (uC Try.prog c58_34.eq_1) (And.intro (uC Try.prog c58_35.eq_1) (And.intro (uC Try.prog c58_36.eq_1) (And.intro (uC Try.prog c58_37.eq_1) (uC Try.prog c58.eq_1)))))))))))))))))))))))))))))))))))))))
def v58 : List RV := [.t 4]
theorem s58 : slimF Try.prog Try.f58 = some (c58.bare, v58) := by kernel_rfl
/-! 57 cmp.Or[int]: parameters 1, live [0], slots [0:vals, 1:vals, 3:zero, 4:_, 5:val] -/
def c57_0 : List SOper := [⟨some 2, .q (.mv (.c (.int .i64 0))), none⟩]
def c57_1 : List SOper := [⟨some 3, .q (.mv (.c (.int .i64 0))), none⟩]
def c57_2 : List SOper := [⟨some 6, .q (.mv (.t 0)), none⟩, ⟨some 7, .q (.len (.t 6)), none⟩, ⟨some 8, .q (.mv (.c (.int .i64 0))), none⟩]
def c57_3 : List SOper := [⟨some 9, .q (.bin .lss (.t 8) (.t 7)), none⟩]
def c57_4 : SCode := .cond (.t 9) .skip (.exit 0)
def c57_5 : List SOper := [⟨some 10, .q (.ia 1 (.t 6) (.t 8)), none⟩, ⟨some 11, .q (.ld (.t 10)), none⟩, ⟨some 5, .q (.mv (.t 11)), none⟩]
def c57_6 : List SOper := [⟨some 12, .q (.mv (.t 5)), none⟩, ⟨some 13, .q (.mv (.t 3)), none⟩, ⟨some 14, .q (.bin .neq (.t 12) (.t 13)), none⟩]
def c57_7 : List SOper := [⟨some 15, .q (.mv (.t 5)), none⟩, ⟨some 2, .q (.mv (.t 15)), none⟩]
def c57_8 : SCode := .seq (.region c57_7 [2]) .ret
def c57_9 : SCode := .cond (.t 14) c57_8 .skip
def c57_10 : SCode := .seq (.region c57_6 [3, 5, 6, 7, 8, 14]) c57_9
def c57_11 : SCode := .seq (.region c57_5 [3, 5, 6, 7, 8]) c57_10
def c57_12 : SCode := .block 1 c57_11
def c57_13 : List SOper := [⟨some 16, .q (.bin .add (.t 8) (.c (.int .i64 1))), none⟩, ⟨some 8, .q (.mv (.t 16)), none⟩]
def c57_14 : SCode := .seq c57_12 (.region c57_13 [3, 6, 7, 8])
def c57_15 : SCode := .seq c57_4 c57_14
def c57_16 : SCode := .seq (.region c57_3 [3, 6, 7, 8, 9]) c57_15
def c57_17 : SCode := .loop c57_16
def c57_18 : SCode := .block 0 c57_17
def c57_19 : SCode := .seq (.region c57_2 [3, 6, 7, 8]) c57_18
def c57_20 : List SOper := [⟨some 17, .q (.mv (.t 3)), none⟩, ⟨some 2, .q (.mv (.t 17)), none⟩]
def c57_21 : SCode := .seq (.region c57_20 [2]) .ret
def c57_22 : SCode := .seq c57_19 c57_21
def c57_23 : SCode := .seq (.region c57_1 [0, 3]) c57_22
def c57_24 : SCode := .seq (.region c57_0 [0]) c57_23
def c57 : SCode := c57_24
theorem w57 : type_of% (And.intro (uR Try.prog c57_0.eq_1) (And.intro (uR Try.prog c57_1.eq_1) (And.intro (uR Try.prog c57_2.eq_1) (And.intro (uR Try.prog c57_3.eq_1) (And.intro (uC Try.prog c57_4.eq_1) (And.intro (uR Try.prog c57_5.eq_1) (And.intro (uR Try.prog c57_6.eq_1) (And.intro (uR Try.prog c57_7.eq_1) (And.intro (uC Try.prog c57_8.eq_1) (And.intro (uC Try.prog c57_9.eq_1) (And.intro (uC Try.prog c57_10.eq_1) (And.intro (uC Try.prog c57_11.eq_1) (And.intro (uC Try.prog c57_12.eq_1) (And.intro (uR Try.prog c57_13.eq_1) (And.intro (uC Try.prog c57_14.eq_1) (And.intro (uC Try.prog c57_15.eq_1) (And.intro (uC Try.prog c57_16.eq_1) (And.intro (uC Try.prog c57_17.eq_1) (And.intro (uC Try.prog c57_18.eq_1) (And.intro (uC Try.prog c57_19.eq_1) (And.intro (uR Try.prog c57_20.eq_1) (And.intro (uC Try.prog c57_21.eq_1) (And.intro (uC Try.prog c57_22.eq_1) (And.intro (uC Try.prog c57_23.eq_1) (And.intro (uC Try.prog c57_24.eq_1) (uC Try.prog c57.eq_1)))))))))))))))))))))))))) := (And.intro (uR Try.prog c57_0.eq_1) (And.intro (uR Try.prog c57_1.eq_1) (And.intro (uR Try.prog c57_2.eq_1) (And.intro (uR Try.prog c57_3.eq_1) (And.intro (uC Try.prog c57_4.eq_1) (And.intro (uR Try.prog c57_5.eq_1) (And.intro (uR Try.prog c57_6.eq_1) (And.intro (uR Try.prog c57_7.eq_1) (And.intro (uC Try.prog c57_8.eq_1) (And.intro (uC Try.prog c57_9.eq_1) (And.intro (uC Try.prog c57_10.eq_1) (And.intro (uC Try.prog c57_11.eq_1) (And.intro (uC Try.prog c57_12.eq_1) (And.intro (uR Try.prog c57_13.eq_1) (And.intro (uC Try.prog c57_14.eq_1) (And.intro (uC Try.prog c57_15.eq_1) (And.intro (uC Try.prog c57_16.eq_1) (And.intro (uC Try.prog c57_17.eq_1) (And.intro (uC Try.prog c57_18.eq_1) (And.intro (uC Try.prog c57_19.eq_1) (And.intro (uR Try.prog c57_20.eq_1) (And.intro (uC Try.prog c57_21.eq_1) (And.intro (uC Try.prog c57_22.eq_1) (And.intro (uC Try.prog c57_23.eq_1) (And.intro (uC Try.prog c57_24.eq_1) (uC Try.prog c57.eq_1))))))))))))))))))))))))))
def v57 : List RV := [.t 2]
theorem s57 : slimF Try.prog Try.f57 = some (c57.bare, v57) := by kernel_rfl
/-! 56 loop.example/g00066/impl.told$1: parameters 2, live [0, 1], slots [0:a, 1:b, 2:a, 3:b] -/
def c56_0 : List SOper := [⟨some 2, .a (.box (.t 0)), none⟩, ⟨some 3, .a (.box (.t 1)), none⟩, ⟨some 4, .q (.mv (.c (.int .i64 0))), none⟩]
def c56_1 : List DOper := [⟨0, ⟨some 5, .q (.fa 0 (.t 2)), none⟩, [], []⟩, ⟨1, ⟨some 6, .q (.ld (.t 5)), none⟩, [], []⟩, ⟨2, ⟨some 7, .q (.fa 0 (.t 3)), none⟩, [], []⟩, ⟨3, ⟨some 8, .q (.ld (.t 7)), none⟩, [], []⟩, ⟨5, ⟨some 10, .q (.fa 1 (.t 2)), none⟩, [], []⟩, ⟨6, ⟨some 11, .q (.ld (.t 10)), none⟩, [], []⟩, ⟨7, ⟨some 12, .q (.fa 1 (.t 3)), none⟩, [], []⟩, ⟨8, ⟨some 13, .q (.ld (.t 12)), none⟩, [], []⟩, ⟨4, ⟨some 9, .e (.call 58 [(.t 6), (.t 8)]), none⟩, [], [8, 6]⟩, ⟨9, ⟨some 14, .e (.call 58 [(.t 11), (.t 13)]), none⟩, [], []⟩, ⟨10, ⟨some 15, .a (.bsl 2 1 [(.int .i64 0), (.int .i64 0)] [(0, 1, (.t 9)), (1, 1, (.t 14))]), none⟩, [], []⟩, ⟨11, ⟨some 16, .e (.call 57 [(.t 15)]), none⟩, [], []⟩, ⟨12, ⟨some 4, .q (.mv (.t 16)), none⟩, [], []⟩]
def c56_2 : SCode := .seq (.dregion c56_1 [4]) .ret
def c56_3 : SCode := .seq (.region c56_0 [2, 3]) c56_2
def c56 : SCode := c56_3
theorem w56 : type_of% (And.intro (uR Try.prog c56_0.eq_1) (And.intro (uD Try.prog c56_1.eq_1) (And.intro (uC Try.prog c56_2.eq_1) (And.intro (uC Try.prog c56_3.eq_1) (uC Try.prog c56.eq_1))))) := (And.intro (uR Try.prog c56_0.eq_1) (And.intro (uD Try.prog c56_1.eq_1) (And.intro (uC Try.prog c56_2.eq_1) (And.intro (uC Try.prog c56_3.eq_1) (uC Try.prog c56.eq_1)))))
def v56 : List RV := [.t 4]
theorem s56 : slimF Try.prog Try.f56 = some (c56.bare, v56) := by kernel_rfl
/-! 74 slices.insertionSortCmpFunc[loop.example/g00066/impl.Reel]: parameters 4, live [0, 1, 2, 3], slots [0:data, 1:a, 2:b, 3:cmp, 4:data, 5:a, 6:b, 7:cmp, 8:i, 9:j] -/
def c74_0 : List SOper := [⟨some 10, .q (.mv (.t 1)), none⟩, ⟨some 11, .q (.bin .add (.t 10) (.c (.int .i64 1))), none⟩, ⟨some 8, .q (.mv (.t 11)), none⟩]
def c74_1 : List SOper := [⟨some 12, .q (.mv (.t 8)), none⟩, ⟨some 13, .q (.mv (.t 2)), none⟩, ⟨some 14, .q (.bin .lss (.t 12) (.t 13)), none⟩]
def c74_2 : SCode := .cond (.t 14) .skip (.exit 0)
def c74_3 : SCode := .seq (.region c74_1 [0, 1, 2, 3, 8, 14]) c74_2
def c74_4 : List SOper := [⟨some 17, .q (.mv (.t 8)), none⟩, ⟨some 9, .q (.mv (.t 17)), none⟩]
def c74_5 : List SOper := [⟨some 18, .q (.mv (.t 9)), none⟩, ⟨some 19, .q (.mv (.t 1)), none⟩, ⟨some 20, .q (.bin .gtr (.t 18) (.t 19)), none⟩, ⟨some 21, .q (.mv (.t 20)), none⟩, ⟨some 22, .q (.mv (.t 3)), some (21, true)⟩, ⟨some 23, .q (.mv (.t 0)), some (21, true)⟩, ⟨some 24, .q (.mv (.t 9)), some (21, true)⟩, ⟨some 25, .q (.ia 3 (.t 23) (.t 24)), some (21, true)⟩, ⟨some 26, .q (.ldn 3 (.t 25)), some (21, true)⟩, ⟨some 27, .q (.mv (.t 0)), some (21, true)⟩, ⟨some 28, .q (.mv (.t 9)), some (21, true)⟩, ⟨some 29, .q (.bin .sub (.t 28) (.c (.int .i64 1))), some (21, true)⟩, ⟨some 30, .q (.ia 3 (.t 27) (.t 29)), some (21, true)⟩, ⟨some 31, .q (.ldn 3 (.t 30)), some (21, true)⟩, ⟨some 32, .e (.callv (.t 22) [(.t 26), (.t 31)]), some (21, true)⟩, ⟨some 33, .q (.bin .lss (.t 32) (.c (.int .i64 0))), some (21, true)⟩, ⟨some 34, .q (.pick (.t 21) (.t 33) (.c (.bool false))), none⟩]
def c74_6 : SCode := .cond (.t 34) .skip (.exit 2)
def c74_7 : SCode := .seq (.region c74_5 [0, 1, 2, 3, 8, 9, 34]) c74_6
def c74_8 : List SOper := [⟨some 37, .q (.mv (.t 0)), none⟩, ⟨some 38, .q (.mv (.t 9)), none⟩, ⟨some 39, .q (.mv (.t 0)), none⟩, ⟨some 40, .q (.mv (.t 9)), none⟩, ⟨some 41, .q (.bin .sub (.t 40) (.c (.int .i64 1))), none⟩, ⟨some 42, .q (.mv (.t 0)), none⟩, ⟨some 43, .q (.mv (.t 9)), none⟩, ⟨some 44, .q (.bin .sub (.t 43) (.c (.int .i64 1))), none⟩, ⟨some 45, .q (.ia 3 (.t 42) (.t 44)), none⟩, ⟨some 46, .q (.ldn 3 (.t 45)), none⟩, ⟨some 47, .q (.mv (.t 0)), none⟩, ⟨some 48, .q (.mv (.t 9)), none⟩, ⟨some 49, .q (.ia 3 (.t 47) (.t 48)), none⟩, ⟨some 50, .q (.ldn 3 (.t 49)), none⟩, ⟨some 51, .q (.ia 3 (.t 37) (.t 38)), none⟩, ⟨none, .e (.st 3 (.t 51) (.t 46)), none⟩, ⟨some 52, .q (.ia 3 (.t 39) (.t 41)), none⟩, ⟨none, .e (.st 3 (.t 52) (.t 50)), none⟩]
def c74_9 : SCode := .block 3 (.region c74_8 [0, 1, 2, 3, 8, 9])
def c74_10 : List SOper := [⟨some 35, .q (.mv (.t 9)), none⟩, ⟨some 36, .q (.bin .sub (.t 35) (.c (.int .i64 1))), none⟩, ⟨some 9, .q (.mv (.t 36)), none⟩]
def c74_11 : SCode := .seq c74_9 (.region c74_10 [0, 1, 2, 3, 8, 9])
def c74_12 : SCode := .seq c74_7 c74_11
def c74_13 : SCode := .loop c74_12
def c74_14 : SCode := .block 2 c74_13
def c74_15 : SCode := .seq (.region c74_4 [0, 1, 2, 3, 8, 9]) c74_14
def c74_16 : SCode := .block 1 c74_15
def c74_17 : List SOper := [⟨some 15, .q (.mv (.t 8)), none⟩, ⟨some 16, .q (.bin .add (.t 15) (.c (.int .i64 1))), none⟩, ⟨some 8, .q (.mv (.t 16)), none⟩]
def c74_18 : SCode := .seq c74_16 (.region c74_17 [0, 1, 2, 3, 8])
def c74_19 : SCode := .seq c74_3 c74_18
def c74_20 : SCode := .loop c74_19
def c74_21 : SCode := .block 0 c74_20
def c74_22 : SCode := .seq (.region c74_0 [0, 1, 2, 3, 8]) c74_21
def c74 : SCode := c74_22
theorem w74 : type_of% (And.intro (uR Try.prog c74_0.eq_1) (And.intro (uR Try.prog c74_1.eq_1) (And.intro (uC Try.prog c74_2.eq_1) (And.intro (uC Try.prog c74_3.eq_1) (And.intro (uR Try.prog c74_4.eq_1) (And.intro (uR Try.prog c74_5.eq_1) (And.intro (uC Try.prog c74_6.eq_1) (And.intro (uC Try.prog c74_7.eq_1) (And.intro (uR Try.prog c74_8.eq_1) (And.intro (uC Try.prog c74_9.eq_1) (And.intro (uR Try.prog c74_10.eq_1) (And.intro (uC Try.prog c74_11.eq_1) (And.intro (uC Try.prog c74_12.eq_1) (And.intro (uC Try.prog c74_13.eq_1) (And.intro (uC Try.prog c74_14.eq_1) (And.intro (uC Try.prog c74_15.eq_1) (And.intro (uC Try.prog c74_16.eq_1) (And.intro (uR Try.prog c74_17.eq_1) (And.intro (uC Try.prog c74_18.eq_1) (And.intro (uC Try.prog c74_19.eq_1) (And.intro (uC Try.prog c74_20.eq_1) (And.intro (uC Try.prog c74_21.eq_1) (And.intro (uC Try.prog c74_22.eq_1) (uC Try.prog c74.eq_1)))))))))))))))))))))))) := (And.intro (uR Try.prog c74_0.eq_1) (And.intro (uR Try.prog c74_1.eq_1) (And.intro (uC Try.prog c74_2.eq_1) (And.intro (uC Try.prog c74_3.eq_1) (And.intro (uR Try.prog c74_4.eq_1) (And.intro (uR Try.prog c74_5.eq_1) (And.intro (uC Try.prog c74_6.eq_1) (And.intro (uC Try.prog c74_7.eq_1) (And.intro (uR Try.prog c74_8.eq_1) (And.intro (uC Try.prog c74_9.eq_1) (And.intro (uR Try.prog c74_10.eq_1) (And.intro (uC Try.prog c74_11.eq_1) (And.intro (uC Try.prog c74_12.eq_1) (And.intro (uC Try.prog c74_13.eq_1) (And.intro (uC Try.prog c74_14.eq_1) (And.intro (uC Try.prog c74_15.eq_1) (And.intro (uC Try.prog c74_16.eq_1) (And.intro (uR Try.prog c74_17.eq_1) (And.intro (uC Try.prog c74_18.eq_1) (And.intro (uC Try.prog c74_19.eq_1) (And.intro (uC Try.prog c74_20.eq_1) (And.intro (uC Try.prog c74_21.eq_1) (And.intro (uC Try.prog c74_22.eq_1) (uC Try.prog c74.eq_1))))))))))))))))))))))))
def v74 : List RV := []
theorem s74 : slimF Try.prog Try.f74 = some (c74.bare, v74) := by kernel_rfl
/-! 84 slices.siftDownCmpFunc[loop.example/g00066/impl.Reel]: parameters 5, live [0, 1, 2, 3, 4], slots [0:data, 1:lo, 2:hi, 3:first, 4:cmp, 5:data, 6:lo, 7:hi, 8:first, 9:cmp, 10:root, 11:child] -/
def c84_0 : List SOper := [⟨some 12, .q (.mv (.t 1)), none⟩, ⟨some 10, .q (.mv (.t 12)), none⟩]
def c84_1 : List SOper := [⟨some 13, .q (.mv (.t 10)), none⟩, ⟨some 14, .q (.bin .mul (.c (.int .i64 2)) (.t 13)), none⟩, ⟨some 15, .q (.bin .add (.t 14) (.c (.int .i64 1))), none⟩, ⟨some 11, .q (.mv (.t 15)), none⟩]
def c84_2 : List SOper := [⟨some 16, .q (.mv (.t 11)), none⟩, ⟨some 17, .q (.mv (.t 2)), none⟩, ⟨some 18, .q (.bin .geq (.t 16) (.t 17)), none⟩]
def c84_3 : SCode := .cond (.t 18) (.exit 0) .skip
def c84_4 : SCode := .seq (.region c84_2 [0, 2, 3, 4, 10, 11, 18]) c84_3
def c84_5 : List SOper := [⟨some 19, .q (.mv (.t 11)), none⟩, ⟨some 20, .q (.bin .add (.t 19) (.c (.int .i64 1))), none⟩, ⟨some 21, .q (.mv (.t 2)), none⟩, ⟨some 22, .q (.bin .lss (.t 20) (.t 21)), none⟩, ⟨some 23, .q (.mv (.t 22)), none⟩, ⟨some 24, .q (.mv (.t 4)), some (23, true)⟩, ⟨some 25, .q (.mv (.t 0)), some (23, true)⟩, ⟨some 26, .q (.mv (.t 3)), some (23, true)⟩, ⟨some 27, .q (.mv (.t 11)), some (23, true)⟩, ⟨some 28, .q (.bin .add (.t 26) (.t 27)), some (23, true)⟩, ⟨some 29, .q (.ia 3 (.t 25) (.t 28)), some (23, true)⟩, ⟨some 30, .q (.ldn 3 (.t 29)), some (23, true)⟩, ⟨some 31, .q (.mv (.t 0)), some (23, true)⟩, ⟨some 32, .q (.mv (.t 3)), some (23, true)⟩, ⟨some 33, .q (.mv (.t 11)), some (23, true)⟩, ⟨some 34, .q (.bin .add (.t 32) (.t 33)), some (23, true)⟩, ⟨some 35, .q (.bin .add (.t 34) (.c (.int .i64 1))), some (23, true)⟩, ⟨some 36, .q (.ia 3 (.t 31) (.t 35)), some (23, true)⟩, ⟨some 37, .q (.ldn 3 (.t 36)), some (23, true)⟩, ⟨some 38, .e (.callv (.t 24) [(.t 30), (.t 37)]), some (23, true)⟩, ⟨some 39, .q (.bin .lss (.t 38) (.c (.int .i64 0))), some (23, true)⟩, ⟨some 40, .q (.pick (.t 23) (.t 39) (.c (.bool false))), none⟩]
def c84_6 : List SOper := [⟨some 41, .q (.mv (.t 11)), none⟩, ⟨some 42, .q (.bin .add (.t 41) (.c (.int .i64 1))), none⟩, ⟨some 11, .q (.mv (.t 42)), none⟩]
def c84_7 : SCode := .cond (.t 40) (.region c84_6 [0, 2, 3, 4, 10, 11]) .skip
def c84_8 : SCode := .seq (.region c84_5 [0, 2, 3, 4, 10, 11, 40]) c84_7
def c84_9 : List SOper := [⟨some 43, .q (.mv (.t 4)), none⟩, ⟨some 44, .q (.mv (.t 0)), none⟩, ⟨some 45, .q (.mv (.t 3)), none⟩, ⟨some 46, .q (.mv (.t 10)), none⟩, ⟨some 47, .q (.bin .add (.t 45) (.t 46)), none⟩, ⟨some 48, .q (.ia 3 (.t 44) (.t 47)), none⟩, ⟨some 49, .q (.ldn 3 (.t 48)), none⟩, ⟨some 50, .q (.mv (.t 0)), none⟩, ⟨some 51, .q (.mv (.t 3)), none⟩, ⟨some 52, .q (.mv (.t 11)), none⟩, ⟨some 53, .q (.bin .add (.t 51) (.t 52)), none⟩, ⟨some 54, .q (.ia 3 (.t 50) (.t 53)), none⟩, ⟨some 55, .q (.ldn 3 (.t 54)), none⟩, ⟨some 56, .e (.callv (.t 43) [(.t 49), (.t 55)]), none⟩, ⟨some 57, .q (.bin .lss (.t 56) (.c (.int .i64 0))), none⟩, ⟨some 58, .q (.not (.t 57)), none⟩]
def c84_10 : SCode := .cond (.t 58) .ret .skip
def c84_11 : SCode := .seq (.region c84_9 [0, 2, 3, 4, 10, 11, 58]) c84_10
def c84_12 : List SOper := [⟨some 59, .q (.mv (.t 0)), none⟩, ⟨some 60, .q (.mv (.t 3)), none⟩, ⟨some 61, .q (.mv (.t 10)), none⟩, ⟨some 62, .q (.bin .add (.t 60) (.t 61)), none⟩, ⟨some 63, .q (.mv (.t 0)), none⟩, ⟨some 64, .q (.mv (.t 3)), none⟩, ⟨some 65, .q (.mv (.t 11)), none⟩, ⟨some 66, .q (.bin .add (.t 64) (.t 65)), none⟩, ⟨some 67, .q (.mv (.t 0)), none⟩, ⟨some 68, .q (.mv (.t 3)), none⟩, ⟨some 69, .q (.mv (.t 11)), none⟩, ⟨some 70, .q (.bin .add (.t 68) (.t 69)), none⟩, ⟨some 71, .q (.ia 3 (.t 67) (.t 70)), none⟩, ⟨some 72, .q (.ldn 3 (.t 71)), none⟩, ⟨some 73, .q (.mv (.t 0)), none⟩, ⟨some 74, .q (.mv (.t 3)), none⟩, ⟨some 75, .q (.mv (.t 10)), none⟩, ⟨some 76, .q (.bin .add (.t 74) (.t 75)), none⟩, ⟨some 77, .q (.ia 3 (.t 73) (.t 76)), none⟩, ⟨some 78, .q (.ldn 3 (.t 77)), none⟩, ⟨some 79, .q (.ia 3 (.t 59) (.t 62)), none⟩, ⟨none, .e (.st 3 (.t 79) (.t 72)), none⟩, ⟨some 80, .q (.ia 3 (.t 63) (.t 66)), none⟩, ⟨none, .e (.st 3 (.t 80) (.t 78)), none⟩]
def c84_13 : List SOper := [⟨some 81, .q (.mv (.t 11)), none⟩, ⟨some 10, .q (.mv (.t 81)), none⟩]
def c84_14 : SCode := .seq (.region c84_12 [0, 2, 3, 4, 11]) (.region c84_13 [0, 2, 3, 4, 10])
def c84_15 : SCode := .seq c84_11 c84_14
def c84_16 : SCode := .seq c84_8 c84_15
def c84_17 : SCode := .seq c84_4 c84_16
def c84_18 : SCode := .seq (.region c84_1 [0, 2, 3, 4, 10, 11]) c84_17
def c84_19 : SCode := .block 1 c84_18
def c84_20 : SCode := .loop c84_19
def c84_21 : SCode := .block 0 c84_20
def c84_22 : SCode := .seq (.region c84_0 [0, 2, 3, 4, 10]) c84_21
def c84 : SCode := c84_22
theorem w84 : type_of% (And.intro (uR Try.prog c84_0.eq_1) (And.intro (uR Try.prog c84_1.eq_1) (And.intro (uR Try.prog c84_2.eq_1) (And.intro (uC Try.prog c84_3.eq_1) (And.intro (uC Try.prog c84_4.eq_1) (And.intro (uR Try.prog c84_5.eq_1) (And.intro (uR Try.prog c84_6.eq_1) (And.intro (uC Try.prog c84_7.eq_1) (And.intro (uC Try.prog c84_8.eq_1) (And.intro (uR Try.prog c84_9.eq_1) (And.intro (uC Try.prog c84_10.eq_1) (And.intro (uC Try.prog c84_11.eq_1) (And.intro (uR Try.prog c84_12.eq_1) (And.intro (uR Try.prog c84_13.eq_1) (And.intro (uC Try.prog c84_14.eq_1) (And.intro (uC Try.prog c84_15.eq_1) (And.intro (uC Try.prog c84_16.eq_1) (And.intro (uC Try.prog c84_17.eq_1) (And.intro (uC Try.prog c84_18.eq_1) (And.intro (uC Try.prog c84_19.eq_1) (And.intro (uC Try.prog c84_20.eq_1) (And.intro (uC Try.prog c84_21.eq_1) (And.intro (uC Try.prog c84_22.eq_1) (uC Try.prog c84.eq_1)))))))))))))))))))))))) := (And.intro (uR Try.prog c84_0.eq_1) (And.intro (uR Try.prog c84_1.eq_1) (And.intro (uR Try.prog c84_2.eq_1) (And.intro (uC Try.prog c84_3.eq_1) (And.intro (uC Try.prog c84_4.eq_1) (And.intro (uR Try.prog c84_5.eq_1) (And.intro (uR Try.prog c84_6.eq_1) (And.intro (uC Try.prog c84_7.eq_1) (And.intro (uC Try.prog c84_8.eq_1) (And.intro (uR Try.prog c84_9.eq_1) (And.intro (uC Try.prog c84_10.eq_1) (And.intro (uC Try.prog c84_11.eq_1) (And.intro (uR Try.prog c84_12.eq_1) (And.intro (uR Try.prog c84_13.eq_1) (And.intro (uC Try.prog c84_14.eq_1) (And.intro (uC Try.prog c84_15.eq_1) (And.intro (uC Try.prog c84_16.eq_1) (And.intro (uC Try.prog c84_17.eq_1) (And.intro (uC Try.prog c84_18.eq_1) (And.intro (uC Try.prog c84_19.eq_1) (And.intro (uC Try.prog c84_20.eq_1) (And.intro (uC Try.prog c84_21.eq_1) (And.intro (uC Try.prog c84_22.eq_1) (uC Try.prog c84.eq_1))))))))))))))))))))))))
def v84 : List RV := []
theorem s84 : slimF Try.prog Try.f84 = some (c84.bare, v84) := by kernel_rfl
/-! 75 slices.heapSortCmpFunc[loop.example/g00066/impl.Reel]: parameters 4, live [0, 1, 2, 3], slots [0:data, 1:a, 2:b, 3:cmp, 4:data, 5:a, 6:b, 7:cmp, 8:first, 9:lo, 10:hi, 11:i, 12:i] -/
def c75_0 : List SOper := [⟨some 13, .q (.mv (.t 1)), none⟩, ⟨some 8, .q (.mv (.t 13)), none⟩]
def c75_1 : List SOper := [⟨some 9, .q (.mv (.c (.int .i64 0))), none⟩]
def c75_2 : List SOper := [⟨some 14, .q (.mv (.t 2)), none⟩, ⟨some 15, .q (.mv (.t 1)), none⟩, ⟨some 16, .q (.bin .sub (.t 14) (.t 15)), none⟩, ⟨some 10, .q (.mv (.t 16)), none⟩]
def c75_3 : List SOper := [⟨some 17, .q (.mv (.t 10)), none⟩, ⟨some 18, .q (.bin .sub (.t 17) (.c (.int .i64 1))), none⟩, ⟨some 19, .q (.bin .quo (.t 18) (.c (.int .i64 2))), none⟩, ⟨some 11, .q (.mv (.t 19)), none⟩]
def c75_4 : List SOper := [⟨some 20, .q (.mv (.t 11)), none⟩, ⟨some 21, .q (.bin .geq (.t 20) (.c (.int .i64 0))), none⟩]
def c75_5 : SCode := .cond (.t 21) .skip (.exit 0)
def c75_6 : SCode := .seq (.region c75_4 [0, 3, 8, 9, 10, 11, 21]) c75_5
def c75_7 : List SOper := [⟨some 24, .q (.mv (.t 0)), none⟩, ⟨some 25, .q (.mv (.t 11)), none⟩, ⟨some 26, .q (.mv (.t 10)), none⟩, ⟨some 27, .q (.mv (.t 8)), none⟩, ⟨some 28, .q (.mv (.t 3)), none⟩, ⟨some 29, .e (.call 84 [(.t 24), (.t 25), (.t 26), (.t 27), (.t 28)]), none⟩]
def c75_8 : SCode := .block 1 (.region c75_7 [0, 3, 8, 9, 10, 11])
def c75_9 : List SOper := [⟨some 22, .q (.mv (.t 11)), none⟩, ⟨some 23, .q (.bin .sub (.t 22) (.c (.int .i64 1))), none⟩, ⟨some 11, .q (.mv (.t 23)), none⟩]
def c75_10 : SCode := .seq c75_8 (.region c75_9 [0, 3, 8, 9, 10, 11])
def c75_11 : SCode := .seq c75_6 c75_10
def c75_12 : SCode := .loop c75_11
def c75_13 : SCode := .block 0 c75_12
def c75_14 : SCode := .seq (.region c75_3 [0, 3, 8, 9, 10, 11]) c75_13
def c75_15 : List SOper := [⟨some 30, .q (.mv (.t 10)), none⟩, ⟨some 31, .q (.bin .sub (.t 30) (.c (.int .i64 1))), none⟩, ⟨some 12, .q (.mv (.t 31)), none⟩]
def c75_16 : List SOper := [⟨some 32, .q (.mv (.t 12)), none⟩, ⟨some 33, .q (.bin .geq (.t 32) (.c (.int .i64 0))), none⟩]
def c75_17 : SCode := .cond (.t 33) .skip (.exit 2)
def c75_18 : SCode := .seq (.region c75_16 [0, 3, 8, 9, 12, 33]) c75_17
def c75_19 : List SOper := [⟨some 36, .q (.mv (.t 0)), none⟩, ⟨some 37, .q (.mv (.t 8)), none⟩, ⟨some 38, .q (.mv (.t 0)), none⟩, ⟨some 39, .q (.mv (.t 8)), none⟩, ⟨some 40, .q (.mv (.t 12)), none⟩, ⟨some 41, .q (.bin .add (.t 39) (.t 40)), none⟩, ⟨some 42, .q (.mv (.t 0)), none⟩, ⟨some 43, .q (.mv (.t 8)), none⟩, ⟨some 44, .q (.mv (.t 12)), none⟩, ⟨some 45, .q (.bin .add (.t 43) (.t 44)), none⟩, ⟨some 46, .q (.ia 3 (.t 42) (.t 45)), none⟩, ⟨some 47, .q (.ldn 3 (.t 46)), none⟩, ⟨some 48, .q (.mv (.t 0)), none⟩, ⟨some 49, .q (.mv (.t 8)), none⟩, ⟨some 50, .q (.ia 3 (.t 48) (.t 49)), none⟩, ⟨some 51, .q (.ldn 3 (.t 50)), none⟩, ⟨some 52, .q (.ia 3 (.t 36) (.t 37)), none⟩, ⟨none, .e (.st 3 (.t 52) (.t 47)), none⟩, ⟨some 53, .q (.ia 3 (.t 38) (.t 41)), none⟩, ⟨none, .e (.st 3 (.t 53) (.t 51)), none⟩]
def c75_20 : List SOper := [⟨some 54, .q (.mv (.t 0)), none⟩, ⟨some 55, .q (.mv (.t 9)), none⟩, ⟨some 56, .q (.mv (.t 12)), none⟩, ⟨some 57, .q (.mv (.t 8)), none⟩, ⟨some 58, .q (.mv (.t 3)), none⟩, ⟨some 59, .e (.call 84 [(.t 54), (.t 55), (.t 56), (.t 57), (.t 58)]), none⟩]
def c75_21 : SCode := .seq (.region c75_19 [0, 3, 8, 9, 12]) (.region c75_20 [0, 3, 8, 9, 12])
def c75_22 : SCode := .block 3 c75_21
def c75_23 : List SOper := [⟨some 34, .q (.mv (.t 12)), none⟩, ⟨some 35, .q (.bin .sub (.t 34) (.c (.int .i64 1))), none⟩, ⟨some 12, .q (.mv (.t 35)), none⟩]
def c75_24 : SCode := .seq c75_22 (.region c75_23 [0, 3, 8, 9, 12])
def c75_25 : SCode := .seq c75_18 c75_24
def c75_26 : SCode := .loop c75_25
def c75_27 : SCode := .block 2 c75_26
def c75_28 : SCode := .seq (.region c75_15 [0, 3, 8, 9, 12]) c75_27
def c75_29 : SCode := .seq c75_14 c75_28
def c75_30 : SCode := .seq (.region c75_2 [0, 3, 8, 9, 10]) c75_29
def c75_31 : SCode := .seq (.region c75_1 [0, 1, 2, 3, 8, 9]) c75_30
def c75_32 : SCode := .seq (.region c75_0 [0, 1, 2, 3, 8]) c75_31
def c75 : SCode := c75_32
theorem w75 : type_of% (And.intro (uR Try.prog c75_0.eq_1) (And.intro (uR Try.prog c75_1.eq_1) (And.intro (uR Try.prog c75_2.eq_1) (And.intro (uR Try.prog c75_3.eq_1) (And.intro (uR Try.prog c75_4.eq_1) (And.intro (uC Try.prog c75_5.eq_1) (And.intro (uC Try.prog c75_6.eq_1) (And.intro (uR Try.prog c75_7.eq_1) (And.intro (uC Try.prog c75_8.eq_1) (And.intro (uR Try.prog c75_9.eq_1) (And.intro (uC Try.prog c75_10.eq_1) (And.intro (uC Try.prog c75_11.eq_1) (And.intro (uC Try.prog c75_12.eq_1) (And.intro (uC Try.prog c75_13.eq_1) (And.intro (uC Try.prog c75_14.eq_1) (And.intro (uR Try.prog c75_15.eq_1) (And.intro (uR Try.prog c75_16.eq_1) (And.intro (uC Try.prog c75_17.eq_1) (And.intro (uC Try.prog c75_18.eq_1) (And.intro (uR Try.prog c75_19.eq_1) (And.intro (uR Try.prog c75_20.eq_1) (And.intro (uC Try.prog c75_21.eq_1) (And.intro (uC Try.prog c75_22.eq_1) (And.intro (uR Try.prog c75_23.eq_1) (And.intro (uC Try.prog c75_24.eq_1) (And.intro (uC Try.prog c75_25.eq_1) (And.intro (uC Try.prog c75_26.eq_1) (And.intro (uC Try.prog c75_27.eq_1) (And.intro (uC Try.prog c75_28.eq_1) (And.intro (uC Try.prog c75_29.eq_1) (And.intro (uC Try.prog c75_30.eq_1) (And.intro (uC Try.prog c75_31.eq_1) (And.intro (uC Try.prog c75_32.eq_1) (uC Try.prog c75.eq_1)))))))))))))))))))))))))))))))))) := (And.intro (uR Try.prog c75_0.eq_1) (And.intro (uR Try.prog c75_1.eq_1) (And.intro (uR Try.prog c75_2.eq_1) (And.intro (uR Try.prog c75_3.eq_1) (And.intro (uR Try.prog c75_4.eq_1) (And.intro (uC Try.prog c75_5.eq_1) (And.intro (uC Try.prog c75_6.eq_1) (And.intro (uR Try.prog c75_7.eq_1) (And.intro (uC Try.prog c75_8.eq_1) (And.intro (uR Try.prog c75_9.eq_1) (And.intro (uC Try.prog c75_10.eq_1) (And.intro (uC Try.prog c75_11.eq_1) (And.intro (uC Try.prog c75_12.eq_1) (And.intro (uC Try.prog c75_13.eq_1) (And.intro (uC Try.prog c75_14.eq_1) (And.intro (uR Try.prog c75_15.eq_1) (And.intro (uR Try.prog c75_16.eq_1) (And.intro (uC Try.prog c75_17.eq_1) (And.intro (uC Try.prog c75_18.eq_1) (And.intro (uR Try.prog c75_19.eq_1) (And.intro (uR Try.prog c75_20.eq_1) (And.intro (uC Try.prog c75_21.eq_1) (And.intro (uC Try.prog c75_22.eq_1) (And.intro (uR Try.prog c75_23.eq_1) (And.intro (uC Try.prog c75_24.eq_1) (And.intro (uC Try.prog c75_25.eq_1) (And.intro (uC Try.prog c75_26.eq_1) (And.intro (uC Try.prog c75_27.eq_1) (And.intro (uC Try.prog c75_28.eq_1) (And.intro (uC Try.prog c75_29.eq_1) (And.intro (uC Try.prog c75_30.eq_1) (And.intro (uC Try.prog c75_31.eq_1) (And.intro (uC Try.prog c75_32.eq_1) (uC Try.prog c75.eq_1))))))))))))))))))))))))))))))))))
def v75 : List RV := []
theorem s75 : slimF Try.prog Try.f75 = some (c75.bare, v75) := by kernel_rfl

instance : Inhabited Reel := ⟨zReel⟩
def cmpI (x y : Int) : Int := if x < y then -1 else if y < x then 1 else 0
def cmR (x y : Reel) : Int := if cmpI x.src y.src ≠ 0 then cmpI x.src y.src else cmpI x.fr y.fr
def ltR (x y : Reel) : Bool := decide (cmR x y < 0)
theorem ltR_iff (x y : Reel) : ltR x y = true ↔ x.src < y.src ∨ (x.src = y.src ∧ x.fr < y.fr) := by
  unfold ltR cmR cmpI
  rw [decide_eq_true_iff]
  repeat' split
  all_goals omega
theorem ltR_swo : Go.Sort.SWO ltR := by
  have hf : ∀ x y, ltR x y = false ↔ ¬ (x.src < y.src ∨ (x.src = y.src ∧ x.fr < y.fr)) := fun x y => by rw [← ltR_iff]; cases ltR x y <;> simp
  refine ⟨fun x => (hf x x).mpr (by omega), fun x y z h1 h2 => ?_, fun x y z h1 h2 => ?_⟩
  · rw [ltR_iff] at *; omega
  · rw [hf] at *; omega
theorem Compare_ok (h : Heap) (x y : Int) : ACall Try.prog 58 [.int .i64 x, .int .i64 y] h fun r h' => h' = h ∧ r = .int .i64 (cmpI x y) := by
  have N : ∀ z : Int, ACall Try.prog 72 [.int .i64 z] h fun r h' => h' = h ∧ r = .bool false := by
    intro z
    refine ACall.of Try.func72 s72 (of_decide_eq_true rfl) ?_
    simp (maxSteps := 4000000) (disch := omega) only [ah, am, Nat.reduceEqDiff, reduceCtorEq, Nat.reduceAdd, Nat.reduceLeDiff, Nat.reduceMul, Nat.reduceLT, if_true, if_false, true_and, and_true, and_self, Nat.reduceBEq, QOp.loads, boxO, bslO, buildO, cutL, fillV, putL, w72, v72, eq_self, decide_true, Bool.not_true]
  refine ACall.of Try.func58 s58 (of_decide_eq_true rfl) ?_
  simp (maxSteps := 4000000) (disch := omega) only [ah, am, Nat.reduceEqDiff, reduceCtorEq, Nat.reduceAdd, Nat.reduceLeDiff, Nat.reduceMul, Nat.reduceLT, if_true, if_false, true_and, and_true, and_self, Nat.reduceBEq, QOp.loads, boxO, bslO, buildO, cutL, fillV, putL, w58, v58]
  refine stepC.of (N x) ?_
  rintro _ Hx ⟨hx, rfl⟩; rw [hx]; clear hx Hx
  simp (maxSteps := 4000000) (disch := omega) only [ah, am, Nat.reduceEqDiff, reduceCtorEq, Nat.reduceAdd, Nat.reduceLeDiff, Nat.reduceMul, Nat.reduceLT, if_true, if_false, true_and, and_true, and_self, Nat.reduceBEq, QOp.loads, boxO, bslO, buildO, cutL, fillV, putL, w58, v58]
  refine stepC.of (N y) ?_
  rintro _ Hx ⟨hx, rfl⟩; rw [hx]; clear hx Hx
  simp (maxSteps := 4000000) (disch := omega) only [ah, am, Nat.reduceEqDiff, reduceCtorEq, Nat.reduceAdd, Nat.reduceLeDiff, Nat.reduceMul, Nat.reduceLT, if_true, if_false, true_and, and_true, and_self, Nat.reduceBEq, QOp.loads, boxO, bslO, buildO, cutL, fillV, putL, w58, v58, stepI_dec]
  unfold cmpI
  split
  · simp
  · split <;> simp
theorem Or_ok (h : Heap) (v : Value) (a b : Int) (s : SlT h encI 1 v [a, b]) : ACall Try.prog 57 [v] h fun r h' => h' = h ∧ r = .int .i64 (if a ≠ 0 then a else b) := by
  have R := s.rulesN
  have R0 : iaV 1 v (.int .i64 0) = some (ptrAt v 0) ∧ ldV h (ptrAt v 0) = some (.int .i64 a) := ⟨R.2.1 .i64 0 (by simp), R.2.2.2.2.1 0 (by simp)⟩
  have R1 : iaV 1 v (.int .i64 1) = some (ptrAt v 1) ∧ ldV h (ptrAt v 1) = some (.int .i64 b) := ⟨R.2.1 .i64 1 (by simp), R.2.2.2.2.1 1 (by simp)⟩
  refine ACall.of Try.func57 s57 (of_decide_eq_true rfl) ?_
  simp (maxSteps := 4000000) (disch := omega) only [ah, am, Nat.reduceEqDiff, reduceCtorEq, Nat.reduceAdd, Nat.reduceLeDiff, Nat.reduceMul, Nat.reduceLT, if_true, if_false, true_and, and_true, and_self, Nat.reduceBEq, QOp.loads, boxO, bslO, buildO, cutL, fillV, putL, w57, v57, R.1]
  refine SW_loop_up (fun i E K => K = h ∧ E = [(3, .int .i64 0), (6, v), (7, .int .i64 ((2 : Nat) : Int)), (8, .int .i64 (i : Int))] ∧ (1 ≤ i → a = 0) ∧ (2 ≤ i → b = 0)) 2 0 (by omega) ⟨rfl, rfl, by omega, by omega⟩ ?_
  rintro i E K hi ⟨rfl, rfl, ha, hb⟩
  have W : IntKind.i64.wrap ((i : Int) + 1) = ((i + 1 : Nat) : Int) := i64e (by omega) (by omega)
  simp (maxSteps := 4000000) (disch := omega) only [ah, am, Nat.reduceEqDiff, reduceCtorEq, Nat.reduceAdd, Nat.reduceLeDiff, Nat.reduceMul, Nat.reduceLT, if_true, if_false, true_and, and_true, and_self, Nat.reduceBEq, QOp.loads, boxO, bslO, buildO, cutL, fillV, putL, w57, v57]
  refine stepI.split (fun hp => ?_) (fun hp => ?_)
  · have h2 : i = 0 ∨ i = 1 := by omega
    rcases h2 with rfl | rfl
    · by_cases h0 : a = 0
      · simp (maxSteps := 4000000) (disch := omega) only [ah, am, Nat.reduceEqDiff, reduceCtorEq, Nat.reduceAdd, Nat.reduceLeDiff, Nat.reduceMul, Nat.reduceLT, if_true, if_false, true_and, and_true, and_self, Nat.reduceBEq, QOp.loads, boxO, bslO, buildO, cutL, fillV, putL, w57, v57, R0.1, R0.2, Int.natCast_zero, decide_eq_true h0, Bool.not_true, W]
        exact ⟨rfl, fun _ => h0, fun q => q.elim⟩
      · simp (maxSteps := 4000000) (disch := omega) only [ah, am, Nat.reduceEqDiff, reduceCtorEq, Nat.reduceAdd, Nat.reduceLeDiff, Nat.reduceMul, Nat.reduceLT, if_true, if_false, true_and, and_true, and_self, Nat.reduceBEq, QOp.loads, boxO, bslO, buildO, cutL, fillV, putL, w57, v57, R0.1, R0.2, Int.natCast_zero, decide_eq_false h0, Bool.not_false, W]
        simp [h0]
    · have ha := ha (by omega)
      by_cases h0 : b = 0
      · simp (maxSteps := 4000000) (disch := omega) only [ah, am, Nat.reduceEqDiff, reduceCtorEq, Nat.reduceAdd, Nat.reduceLeDiff, Nat.reduceMul, Nat.reduceLT, if_true, if_false, true_and, and_true, and_self, Nat.reduceBEq, QOp.loads, boxO, bslO, buildO, cutL, fillV, putL, w57, v57, R1.1, R1.2, Int.natCast_one, decide_eq_true h0, Bool.not_true, W]
        exact ⟨rfl, fun _ => ha, fun _ => h0⟩
      · simp (maxSteps := 4000000) (disch := omega) only [ah, am, Nat.reduceEqDiff, reduceCtorEq, Nat.reduceAdd, Nat.reduceLeDiff, Nat.reduceMul, Nat.reduceLT, if_true, if_false, true_and, and_true, and_self, Nat.reduceBEq, QOp.loads, boxO, bslO, buildO, cutL, fillV, putL, w57, v57, R1.1, R1.2, Int.natCast_one, decide_eq_false h0, Bool.not_false, W]
        simp [ha]
  · simp (maxSteps := 4000000) (disch := omega) only [ah, am, Nat.reduceEqDiff, reduceCtorEq, Nat.reduceAdd, Nat.reduceLeDiff, Nat.reduceMul, Nat.reduceLT, if_true, if_false, true_and, and_true, and_self, Nat.reduceBEq, QOp.loads, boxO, bslO, buildO, cutL, fillV, putL, w57, v57]
    simp [ha (by omega), hb (by omega)]
theorem told1_ok (h : Heap) (x y : Reel) : ACall Try.prog 56 [.agg (encReel x).toArray, .agg (encReel y).toArray] h fun r h' => Ext h h' ∧ r = .int .i64 (cmR x y) := by
  refine ACall.of Try.func56 s56 (of_decide_eq_true rfl) ?_
  simp (maxSteps := 4000000) (disch := omega) only [ah, am, Nat.reduceEqDiff, reduceCtorEq, Nat.reduceAdd, Nat.reduceLeDiff, Nat.reduceMul, Nat.reduceLT, if_true, if_false, true_and, and_true, and_self, Nat.reduceBEq, QOp.loads, boxO, bslO, buildO, cutL, fillV, putL, w56, v56, encReel]
  have B1 : Bx (h.more [[.int .i64 x.src, .int .i64 x.fr, .int .i64 x.to], [.int .i64 y.src, .int .i64 y.fr, .int .i64 y.to]]) h.size [.int .i64 x.src, .int .i64 x.fr, .int .i64 x.to] := Bx.new _ _ _
  have B2 : Bx (h.more [[.int .i64 x.src, .int .i64 x.fr, .int .i64 x.to], [.int .i64 y.src, .int .i64 y.fr, .int .i64 y.to]]) (h.size + 1) [.int .i64 y.src, .int .i64 y.fr, .int .i64 y.to] := by unfold Bx; rw [get_more]; rfl
  have X1 := B1.ld
  have X2 := B2.ld
  have e0 := Ext.more h [[.int .i64 x.src, .int .i64 x.fr, .int .i64 x.to], [.int .i64 y.src, .int .i64 y.fr, .int .i64 y.to]]
  generalize h.more [[.int .i64 x.src, .int .i64 x.fr, .int .i64 x.to], [.int .i64 y.src, .int .i64 y.fr, .int .i64 y.to]] = M at X1 X2 e0 ⊢
  refine stepC.of (Compare_ok _ _ _) ?_
  rintro _ Hx ⟨hx, rfl⟩; rw [hx]; clear hx Hx
  simp (maxSteps := 4000000) (disch := omega) only [ah, am, Nat.reduceEqDiff, reduceCtorEq, Nat.reduceAdd, Nat.reduceLeDiff, Nat.reduceMul, Nat.reduceLT, if_true, if_false, true_and, and_true, and_self, Nat.reduceBEq, QOp.loads, boxO, bslO, buildO, cutL, fillV, putL, w56, v56, X1, X2]
  refine stepC.of (Compare_ok _ _ _) ?_
  rintro _ Hx ⟨hx, rfl⟩; rw [hx]; clear hx Hx
  simp (maxSteps := 4000000) (disch := omega) only [ah, am, Nat.reduceEqDiff, reduceCtorEq, Nat.reduceAdd, Nat.reduceLeDiff, Nat.reduceMul, Nat.reduceLT, if_true, if_false, true_and, and_true, and_self, Nat.reduceBEq, QOp.loads, boxO, bslO, buildO, cutL, fillV, putL, w56, v56]
  have s2 := (OwnT.new M [cmpI x.src y.src, cmpI x.fr y.fr] encI_len (by omega)).slt
  have e1 := Ext.more M [[.int .i64 (cmpI x.src y.src), .int .i64 (cmpI x.fr y.fr)]]
  refine stepC.of (Or_ok _ _ _ _ s2) ?_
  rintro _ Hx ⟨hx, rfl⟩; rw [hx]; clear hx Hx
  simp (maxSteps := 4000000) (disch := omega) only [ah, am, Nat.reduceEqDiff, reduceCtorEq, Nat.reduceAdd, Nat.reduceLeDiff, Nat.reduceMul, Nat.reduceLT, if_true, if_false, true_and, and_true, and_self, Nat.reduceBEq, QOp.loads, boxO, bslO, buildO, cutL, fillV, putL, w56, v56]
  exact ⟨e0.trans e1, rfl⟩
/-! ### The walks of the sort: each function computes what the kit's plain layer has -/
open Go.Sort (swp)
theorem swp_size (d : Array Reel) (i j : Nat) : (swp d i j).size = d.size := by simp [swp]
theorem at_bang (d : Array Reel) {i : Nat} (h : i < d.size) : d.toList[i]'(by simpa using h) = d[i]! := by
  rw [Array.getElem_toList, getElem!_pos d i h]
section
variable {g : Nat} {K : Heap} {v : Value} {d : Array Reel}
theorem rdA (o : OwnT g K encReel 3 v d.toList) {i : Nat} (hi : i < d.size) : iaV 3 v (.int .i64 (i : Int)) = some (ptrAt v (i * 3)) ∧ ldnV K 3 (ptrAt v (i * 3)) = some (.agg (encReel d[i]!).toArray) := by
  have hi2 : i < d.toList.length := by simpa using hi
  have a := o.slt.rulesN.2.1 .i64 i hi2
  have b := o.slt.rulesN.2.2.2.2.2 i hi2
  rw [at_bang d hi] at b
  exact ⟨a, b⟩
theorem swA (o : OwnT g K encReel 3 v d.toList) {i j : Nat} (hi : i < d.size) (hj : j < d.size) : ∃ K2 K3, stV K 3 (ptrAt v (i * 3)) (.agg (encReel d[j]!).toArray) = some K2 ∧ stV K2 3 (ptrAt v (j * 3)) (.agg (encReel d[i]!).toArray) = some K3 ∧ OwnT g K3 encReel 3 v (swp d i j).toList ∧ ExtG g K K3 := by
  obtain ⟨K2, e2, o2, g2, _⟩ := o.set (j := i) (by simpa using hi) d[j]! rfl
  obtain ⟨K3, e3, o3, g3, _⟩ := o2.set (j := j) (by simpa using hj) d[i]! rfl
  exact ⟨K2, K3, e2, e3, by simpa [swp] using o3, g2.trans g3⟩
end
/-- The comparison that is handed in. -/
def fv : Value := .func (.func 56) #[] #[]
theorem fv_ok : ∃ fn, Try.prog.funcs[56]? = some fn ∧ fn.body.isSome = true ∧ fn.name ≠ "runtime.NumGoroutine" := ⟨_, Try.func56, rfl, by decide⟩
theorem ltd (x y : Reel) : decide (cmR x y < 0) = ltR x y := rfl
theorem insertion_ok (h : Heap) (g : Nat) (v : Value) (d : Array Reel) (a b : Nat) (o : OwnT g h encReel 3 v d.toList) (hab : a ≤ b) (hb : b ≤ d.size) (hl : d.size ≤ 1000000000000) :
    ACall Try.prog 74 [v, .int .i64 (a : Int), .int .i64 (b : Int), .func (.func 56) #[] #[]] h fun r h' => ExtG g h h' ∧ OwnT g h' encReel 3 v (Go.Sort.insertionSort ltR d a b).toList := by
  obtain ⟨fn, hf1, hf2, hf3⟩ := fv_ok
  refine ACall.of Try.func74 s74 (of_decide_eq_true rfl) ?_
  have W : ∀ i : Nat, i ≤ 1000000000001 → IntKind.i64.wrap ((i : Int) + 1) = ((i + 1 : Nat) : Int) := fun i hi => i64e (by omega) (by omega)
  have Wd : ∀ i : Nat, i ≤ 1000000000001 → IntKind.i64.wrap (((i + 1 : Nat) : Int) - 1) = (i : Int) := fun i hi => i64e (by omega) (by omega)
  simp (maxSteps := 4000000) (disch := omega) only [ah, am, Nat.reduceEqDiff, reduceCtorEq, Nat.reduceAdd, Nat.reduceLeDiff, Nat.reduceMul, Nat.reduceLT, if_true, if_false, true_and, and_true, and_self, Nat.reduceBEq, QOp.loads, boxO, bslO, buildO, cutL, fillV, putL, w74, v74, W a (by omega)]
  obtain ⟨D, hD⟩ : ∃ D, D = Go.Sort.insertionSort ltR d a b := ⟨_, rfl⟩
  rw [← hD]
  refine ⟨fun m E K => ∃ (i : Nat) (d' : Array Reel), m = b - i ∧ Go.Sort.insOuter ltR a b i d' = D ∧ d'.size = d.size ∧ a + 1 ≤ i ∧ i ≤ max (a + 1) b ∧ ExtG g h K ∧ OwnT g K encReel 3 v d'.toList ∧
    E = [(0, v), (1, .int .i64 (a : Int)), (2, .int .i64 (b : Int)), (3, .func (.func 56) #[] #[]), (8, .int .i64 (i : Int))], ⟨b - (a + 1), a + 1, d, rfl, hD.symm, rfl, by omega, by omega, ExtG.refl _ _, o, rfl⟩, ?_⟩
  rintro m E K ⟨i, d', rfl, hi1, hs, hi2, hi3, G, O, rfl⟩
  simp (maxSteps := 4000000) (disch := omega) only [ah, am, Nat.reduceEqDiff, reduceCtorEq, Nat.reduceAdd, Nat.reduceLeDiff, Nat.reduceMul, Nat.reduceLT, if_true, if_false, true_and, and_true, and_self, Nat.reduceBEq, QOp.loads, boxO, bslO, buildO, cutL, fillV, putL, w74, v74]
  refine stepI.split (fun hp => ?_) (fun hp => ?_)
  · rw [Go.Sort.insOuter, if_pos (by omega)] at hi1
    simp (maxSteps := 4000000) (disch := omega) only [ah, am, Nat.reduceEqDiff, reduceCtorEq, Nat.reduceAdd, Nat.reduceLeDiff, Nat.reduceMul, Nat.reduceLT, if_true, if_false, true_and, and_true, and_self, Nat.reduceBEq, QOp.loads, boxO, bslO, buildO, cutL, fillV, putL, w74, v74]
    refine ⟨fun j E K => ∃ (d'' : Array Reel), Go.Sort.insOuter ltR a b (i + 1) (Go.Sort.insInner ltR a j d'') = D ∧ d''.size = d.size ∧ a ≤ j ∧ j ≤ i ∧ ExtG g h K ∧ OwnT g K encReel 3 v d''.toList ∧
      E = [(0, v), (1, .int .i64 (a : Int)), (2, .int .i64 (b : Int)), (3, .func (.func 56) #[] #[]), (8, .int .i64 (i : Int)), (9, .int .i64 (j : Int))], ⟨i, d', hi1, hs, by omega, by omega, G, O, rfl⟩, ?_⟩
    clear hi1 O G hs
    rintro j E K ⟨d', hi1, hs, hj1, hj2, G, O, rfl⟩
    by_cases hja : a < j
    · obtain ⟨j, rfl⟩ : ∃ k, j = k + 1 := ⟨j - 1, by omega⟩
      have R1 := rdA O (i := j + 1) (by omega)
      have R2 := rdA O (i := j) (by omega)
      have w := Wd j (by omega)
      simp (maxSteps := 4000000) (disch := omega) only [ah, am, Nat.reduceEqDiff, reduceCtorEq, Nat.reduceAdd, Nat.reduceLeDiff, Nat.reduceMul, Nat.reduceLT, if_true, if_false, true_and, and_true, and_self, Nat.reduceBEq, QOp.loads, boxO, bslO, buildO, cutL, fillV, putL, w74, v74, decide_eq_true (show (a : Int) < ((j + 1 : Nat) : Int) by omega), R1.1, R1.2, R2.1, R2.2, w]
      refine stepV.of hf1 hf2 hf3 (told1_ok _ _ _) ?_
      rintro _ K2 ⟨e, rfl⟩
      have O := O.ext e
      have G := G.trans e.toG
      cases hb : ltR d'[j + 1]! d'[j]! with
      | true =>
        have R1 := rdA O (i := j + 1) (by omega)
        have R2 := rdA O (i := j) (by omega)
        obtain ⟨K3, K4, s1, s2, O, g2⟩ := swA O (i := j + 1) (j := j) (by omega) (by omega)
        simp (maxSteps := 4000000) (disch := omega) only [ah, am, Nat.reduceEqDiff, reduceCtorEq, Nat.reduceAdd, Nat.reduceLeDiff, Nat.reduceMul, Nat.reduceLT, if_true, if_false, true_and, and_true, and_self, Nat.reduceBEq, QOp.loads, boxO, bslO, buildO, cutL, fillV, putL, w74, v74, ltd, hb, R1.1, R1.2, R2.1, R2.2, w, s1, s2]
        rw [Go.Sort.insInner, if_pos (by simp [hb]; omega)] at hi1
        exact ⟨j, by omega, _, hi1, by rw [swp_size]; exact hs, by omega, by omega, G.trans g2, O, rfl⟩
      | false =>
        simp (maxSteps := 4000000) (disch := omega) only [ah, am, Nat.reduceEqDiff, reduceCtorEq, Nat.reduceAdd, Nat.reduceLeDiff, Nat.reduceMul, Nat.reduceLT, if_true, if_false, true_and, and_true, and_self, Nat.reduceBEq, QOp.loads, boxO, bslO, buildO, cutL, fillV, putL, w74, v74, ltd, hb, W i (by omega)]
        rw [Go.Sort.insInner, if_neg (by simp [hb])] at hi1
        exact ⟨b - (i + 1), by omega, i + 1, d', rfl, hi1, hs, by omega, by omega, G, O, rfl⟩
    · simp (maxSteps := 4000000) (disch := omega) only [ah, am, Nat.reduceEqDiff, reduceCtorEq, Nat.reduceAdd, Nat.reduceLeDiff, Nat.reduceMul, Nat.reduceLT, if_true, if_false, true_and, and_true, and_self, Nat.reduceBEq, QOp.loads, boxO, bslO, buildO, cutL, fillV, putL, w74, v74, decide_eq_false (show ¬ (a : Int) < (j : Int) by omega), W i (by omega)]
      have e : Go.Sort.insInner ltR a j d' = d' := by
        cases j with
        | zero => rfl
        | succ j => rw [Go.Sort.insInner, if_neg (by simp; omega)]
      rw [e] at hi1
      exact ⟨b - (i + 1), by omega, i + 1, d', rfl, hi1, hs, by omega, by omega, G, O, rfl⟩
  · simp (maxSteps := 4000000) (disch := omega) only [ah, am, Nat.reduceEqDiff, reduceCtorEq, Nat.reduceAdd, Nat.reduceLeDiff, Nat.reduceMul, Nat.reduceLT, if_true, if_false, true_and, and_true, and_self, Nat.reduceBEq, QOp.loads, boxO, bslO, buildO, cutL, fillV, putL, w74, v74]
    have : i ≥ b := by omega
    rw [Go.Sort.insOuter, if_neg (by omega)] at hi1
    subst hi1
    exact ⟨G, O⟩
theorem siftDown_ok (h : Heap) (g : Nat) (v : Value) (d : Array Reel) (lo hi first : Nat) (o : OwnT g h encReel 3 v d.toList) (hb : first + hi ≤ d.size) (hl : d.size ≤ 1000000000000) (hlo : lo ≤ 1000000000000) :
    ACall Try.prog 84 [v, .int .i64 (lo : Int), .int .i64 (hi : Int), .int .i64 (first : Int), .func (.func 56) #[] #[]] h fun r h' => ExtG g h h' ∧ OwnT g h' encReel 3 v (Go.Sort.siftDown ltR hi first lo d).toList := by
  obtain ⟨fn, hf1, hf2, hf3⟩ := fv_ok
  refine ACall.of Try.func84 s84 (of_decide_eq_true rfl) ?_
  have wa : ∀ x y : Nat, x ≤ 4000000000000 → y ≤ 4000000000000 → IntKind.i64.wrap ((x : Int) + (y : Int)) = ((x + y : Nat) : Int) := fun x y hx hy => i64e (by omega) (by omega)
  have w1 : ∀ x : Nat, x ≤ 4000000000000 → IntKind.i64.wrap ((x : Int) + 1) = ((x + 1 : Nat) : Int) := fun x hx => i64e (by omega) (by omega)
  have w2 : ∀ x : Nat, x ≤ 4000000000000 → IntKind.i64.wrap (2 * (x : Int)) = ((2 * x : Nat) : Int) := fun x hx => i64e (by omega) (by omega)
  simp (maxSteps := 4000000) (disch := omega) only [ah, am, Nat.reduceEqDiff, reduceCtorEq, Nat.reduceAdd, Nat.reduceLeDiff, Nat.reduceMul, Nat.reduceLT, if_true, if_false, true_and, and_true, and_self, Nat.reduceBEq, QOp.loads, boxO, bslO, buildO, cutL, fillV, putL, w84, v84]
  obtain ⟨D, hD⟩ : ∃ D, D = Go.Sort.siftDown ltR hi first lo d := ⟨_, rfl⟩
  rw [← hD]
  refine ⟨fun m E K => ∃ (root : Nat) (d' : Array Reel), m = hi - root ∧ Go.Sort.siftDown ltR hi first root d' = D ∧ d'.size = d.size ∧ root ≤ 1000000000000 ∧ ExtG g h K ∧ OwnT g K encReel 3 v d'.toList ∧
    E = [(0, v), (2, .int .i64 (hi : Int)), (3, .int .i64 (first : Int)), (4, .func (.func 56) #[] #[]), (10, .int .i64 (root : Int))], ⟨hi - lo, lo, d, rfl, hD.symm, rfl, hlo, ExtG.refl _ _, o, rfl⟩, ?_⟩
  rintro m E K ⟨root, d', rfl, hD1, hs, hr, G, O, rfl⟩
  have a1 := w2 root (by omega)
  have a2 := w1 (2 * root) (by omega)
  have a3 := w1 (2 * root + 1) (by omega)
  rw [Go.Sort.siftDown] at hD1
  by_cases hc : 2 * root + 1 ≥ hi
  · rw [dif_pos hc] at hD1
    subst hD1
    simp (maxSteps := 4000000) (disch := omega) only [ah, am, Nat.reduceEqDiff, reduceCtorEq, Nat.reduceAdd, Nat.reduceLeDiff, Nat.reduceMul, Nat.reduceLT, if_true, if_false, true_and, and_true, and_self, Nat.reduceBEq, QOp.loads, boxO, bslO, buildO, cutL, fillV, putL, w84, v84, a1, a2, decide_eq_true (show (hi : Int) ≤ ((2 * root + 1 : Nat) : Int) by omega)]
    exact ⟨G, O⟩
  rw [dif_neg hc] at hD1
  have b1 := wa first (2 * root + 1) (by omega) (by omega)
  have b2 := w1 (first + (2 * root + 1)) (by omega)
  have b3 := wa first root (by omega) (by omega)
  have b4 := wa first (2 * root + 2) (by omega) (by omega)
  by_cases hc2 : 2 * root + 1 + 1 < hi
  · have R1 := rdA O (i := first + (2 * root + 1)) (by omega)
    have R2 := rdA O (i := first + (2 * root + 2)) (by omega)
    simp (maxSteps := 4000000) (disch := omega) only [ah, am, Nat.reduceEqDiff, reduceCtorEq, Nat.reduceAdd, Nat.reduceLeDiff, Nat.reduceMul, Nat.reduceLT, if_true, if_false, true_and, and_true, and_self, Nat.reduceBEq, QOp.loads, boxO, bslO, buildO, cutL, fillV, putL, w84, v84, a1, a2, a3, decide_eq_false (show ¬ (hi : Int) ≤ ((2 * root + 1 : Nat) : Int) by omega), decide_eq_true (show ((2 * root + 1 + 1 : Nat) : Int) < (hi : Int) by omega), b1, b2, R1, R2]
    refine stepV.of hf1 hf2 hf3 (told1_ok _ _ _) ?_
    rintro _ K2 ⟨e, rfl⟩
    have O := O.ext e
    have G := G.trans e.toG
    cases hb1 : ltR d'[first + (2 * root + 1)]! d'[first + (2 * root + 2)]! with
    | true =>
      rw [if_pos (by rw [decide_eq_true hc2, Bool.true_and]; exact hb1)] at hD1
      simp (maxSteps := 4000000) (disch := omega) only [ah, am, Nat.reduceEqDiff, reduceCtorEq, Nat.reduceAdd, Nat.reduceLeDiff, Nat.reduceMul, Nat.reduceLT, if_true, if_false, true_and, and_true, and_self, Nat.reduceBEq, QOp.loads, boxO, bslO, buildO, cutL, fillV, putL, w84, v84, ltd, hb1, a1, a2, a3]
      have R3 := rdA O (i := first + root) (by omega)
      have R4 := rdA O (i := first + (2 * root + 2)) (by omega)
      simp (maxSteps := 4000000) (disch := omega) only [ah, am, Nat.reduceEqDiff, reduceCtorEq, Nat.reduceAdd, Nat.reduceLeDiff, Nat.reduceMul, Nat.reduceLT, if_true, if_false, true_and, and_true, and_self, Nat.reduceBEq, QOp.loads, boxO, bslO, buildO, cutL, fillV, putL, w84, v84, a1, a2, a3, b1, b2, b3, b4, R3, R4]
      refine stepV.of hf1 hf2 hf3 (told1_ok _ _ _) ?_
      rintro _ K3 ⟨e, rfl⟩
      have O := O.ext e
      have G := G.trans e.toG
      cases hb2 : ltR d'[first + root]! d'[first + (2 * root + 2)]! with
      | true =>
        rw [if_neg (by rw [hb2]; decide), dif_pos (by omega)] at hD1
        have R3 := rdA O (i := first + root) (by omega)
        have R4 := rdA O (i := first + (2 * root + 2)) (by omega)
        obtain ⟨K4, K5, s1, s2, O, g2⟩ := swA O (i := first + root) (j := first + (2 * root + 2)) (by omega) (by omega)
        simp (maxSteps := 4000000) (disch := omega) only [ah, am, Nat.reduceEqDiff, reduceCtorEq, Nat.reduceAdd, Nat.reduceLeDiff, Nat.reduceMul, Nat.reduceLT, if_true, if_false, true_and, and_true, and_self, Nat.reduceBEq, QOp.loads, boxO, bslO, buildO, cutL, fillV, putL, w84, v84, ltd, hb2, Bool.not_true, a1, a2, a3, b1, b2, b3, b4, R3, R4, s1, s2]
        exact ⟨hi - (2 * root + 2), by omega, 2 * root + 2, _, rfl, hD1, by rw [swp_size]; exact hs, by omega, G.trans g2, O, rfl⟩
      | false =>
        rw [if_pos (by rw [hb2]; rfl)] at hD1
        subst hD1
        simp (maxSteps := 4000000) (disch := omega) only [ah, am, Nat.reduceEqDiff, reduceCtorEq, Nat.reduceAdd, Nat.reduceLeDiff, Nat.reduceMul, Nat.reduceLT, if_true, if_false, true_and, and_true, and_self, Nat.reduceBEq, QOp.loads, boxO, bslO, buildO, cutL, fillV, putL, w84, v84, ltd, hb2, Bool.not_false]
        exact ⟨G, O⟩
    | false =>
      rw [if_neg (by rw [decide_eq_true hc2, Bool.true_and]; show ¬ ltR d'[first + (2 * root + 1)]! d'[first + (2 * root + 2)]! = true; rw [hb1]; decide)] at hD1
      simp (maxSteps := 4000000) (disch := omega) only [ah, am, Nat.reduceEqDiff, reduceCtorEq, Nat.reduceAdd, Nat.reduceLeDiff, Nat.reduceMul, Nat.reduceLT, if_true, if_false, true_and, and_true, and_self, Nat.reduceBEq, QOp.loads, boxO, bslO, buildO, cutL, fillV, putL, w84, v84, ltd, hb1]
      have R3 := rdA O (i := first + root) (by omega)
      have R4 := rdA O (i := first + (2 * root + 1)) (by omega)
      simp (maxSteps := 4000000) (disch := omega) only [ah, am, Nat.reduceEqDiff, reduceCtorEq, Nat.reduceAdd, Nat.reduceLeDiff, Nat.reduceMul, Nat.reduceLT, if_true, if_false, true_and, and_true, and_self, Nat.reduceBEq, QOp.loads, boxO, bslO, buildO, cutL, fillV, putL, w84, v84, a1, a2, a3, b1, b2, b3, b4, R3, R4]
      refine stepV.of hf1 hf2 hf3 (told1_ok _ _ _) ?_
      rintro _ K3 ⟨e, rfl⟩
      have O := O.ext e
      have G := G.trans e.toG
      cases hb2 : ltR d'[first + root]! d'[first + (2 * root + 1)]! with
      | true =>
        rw [if_neg (by rw [hb2]; decide)] at hD1
        have R3 := rdA O (i := first + root) (by omega)
        have R4 := rdA O (i := first + (2 * root + 1)) (by omega)
        obtain ⟨K4, K5, s1, s2, O, g2⟩ := swA O (i := first + root) (j := first + (2 * root + 1)) (by omega) (by omega)
        simp (maxSteps := 4000000) (disch := omega) only [ah, am, Nat.reduceEqDiff, reduceCtorEq, Nat.reduceAdd, Nat.reduceLeDiff, Nat.reduceMul, Nat.reduceLT, if_true, if_false, true_and, and_true, and_self, Nat.reduceBEq, QOp.loads, boxO, bslO, buildO, cutL, fillV, putL, w84, v84, ltd, hb2, Bool.not_true, a1, a2, a3, b1, b2, b3, b4, R3, R4, s1, s2]
        exact ⟨hi - (2 * root + 1), by omega, 2 * root + 1, _, rfl, hD1, by rw [swp_size]; exact hs, by omega, G.trans g2, O, rfl⟩
      | false =>
        rw [if_pos (by rw [hb2]; rfl)] at hD1
        subst hD1
        simp (maxSteps := 4000000) (disch := omega) only [ah, am, Nat.reduceEqDiff, reduceCtorEq, Nat.reduceAdd, Nat.reduceLeDiff, Nat.reduceMul, Nat.reduceLT, if_true, if_false, true_and, and_true, and_self, Nat.reduceBEq, QOp.loads, boxO, bslO, buildO, cutL, fillV, putL, w84, v84, ltd, hb2, Bool.not_false]
        exact ⟨G, O⟩
  · rw [if_neg (by rw [decide_eq_false hc2, Bool.false_and]; decide)] at hD1
    have R3 := rdA O (i := first + root) (by omega)
    have R4 := rdA O (i := first + (2 * root + 1)) (by omega)
    simp (maxSteps := 4000000) (disch := omega) only [ah, am, Nat.reduceEqDiff, reduceCtorEq, Nat.reduceAdd, Nat.reduceLeDiff, Nat.reduceMul, Nat.reduceLT, if_true, if_false, true_and, and_true, and_self, Nat.reduceBEq, QOp.loads, boxO, bslO, buildO, cutL, fillV, putL, w84, v84, a1, a2, a3, decide_eq_false (show ¬ (hi : Int) ≤ ((2 * root + 1 : Nat) : Int) by omega), decide_eq_false (show ¬ ((2 * root + 1 + 1 : Nat) : Int) < (hi : Int) by omega), b1, b3, R3, R4]
    refine stepV.of hf1 hf2 hf3 (told1_ok _ _ _) ?_
    rintro _ K3 ⟨e, rfl⟩
    have O := O.ext e
    have G := G.trans e.toG
    cases hb2 : ltR d'[first + root]! d'[first + (2 * root + 1)]! with
    | true =>
      rw [if_neg (by rw [hb2]; decide)] at hD1
      have R3 := rdA O (i := first + root) (by omega)
      have R4 := rdA O (i := first + (2 * root + 1)) (by omega)
      obtain ⟨K4, K5, s1, s2, O, g2⟩ := swA O (i := first + root) (j := first + (2 * root + 1)) (by omega) (by omega)
      simp (maxSteps := 4000000) (disch := omega) only [ah, am, Nat.reduceEqDiff, reduceCtorEq, Nat.reduceAdd, Nat.reduceLeDiff, Nat.reduceMul, Nat.reduceLT, if_true, if_false, true_and, and_true, and_self, Nat.reduceBEq, QOp.loads, boxO, bslO, buildO, cutL, fillV, putL, w84, v84, ltd, hb2, Bool.not_true, a1, a2, a3, b1, b2, b3, b4, R3, R4, s1, s2]
      exact ⟨hi - (2 * root + 1), by omega, 2 * root + 1, _, rfl, hD1, by rw [swp_size]; exact hs, by omega, G.trans g2, O, rfl⟩
    | false =>
      rw [if_pos (by rw [hb2]; rfl)] at hD1
      subst hD1
      simp (maxSteps := 4000000) (disch := omega) only [ah, am, Nat.reduceEqDiff, reduceCtorEq, Nat.reduceAdd, Nat.reduceLeDiff, Nat.reduceMul, Nat.reduceLT, if_true, if_false, true_and, and_true, and_self, Nat.reduceBEq, QOp.loads, boxO, bslO, buildO, cutL, fillV, putL, w84, v84, ltd, hb2, Bool.not_false]
      exact ⟨G, O⟩
end Go.Proofs.Ytmippcfdakjhfaa
