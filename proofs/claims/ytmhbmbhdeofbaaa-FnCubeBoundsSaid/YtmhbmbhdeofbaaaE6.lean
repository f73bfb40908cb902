import Derived.Test.YtmhbmbhdeofbaaaE5
import Derived.Test.YtmhbmbhdeofbaaaE0
namespace Go.Proofs.Ytmhbmbhdeofbaaa
open Go Go.Ah
set_option linter.unusedSimpArgs false
set_option linter.unusedVariables false
set_option maxRecDepth 10000
set_option maxHeartbeats 4000000
/-! 54 slices.IndexFunc[[]int64,int64]: parameters 2, live [0, 1], slots [0:s, 1:f, 2:s, 3:f, 5:i] -/
def c54_0 : List SOper := [⟨some 4, .q (.mv (.c (.int .i64 0))), none⟩]
def c54_1 : List SOper := [⟨some 6, .q (.mv (.t 0)), none⟩, ⟨some 7, .q (.len (.t 6)), none⟩, ⟨some 8, .q (.mv (.c (.int .i64 0))), none⟩]
def c54_2 : List SOper := [⟨some 9, .q (.bin .lss (.t 8) (.t 7)), none⟩]
def c54_3 : SCode := .cond (.t 9) .skip (.exit 0)
def c54_4 : List SOper := [⟨some 10, .q (.mv (.t 8)), none⟩, ⟨some 5, .q (.mv (.t 10)), none⟩]
def c54_5 : List SOper := [⟨some 11, .q (.mv (.t 1)), none⟩, ⟨some 12, .q (.mv (.t 0)), none⟩, ⟨some 13, .q (.mv (.t 5)), none⟩, ⟨some 14, .q (.ia 1 (.t 12) (.t 13)), none⟩, ⟨some 15, .q (.ld (.t 14)), none⟩, ⟨some 16, .e (.callv (.t 11) [(.t 15)]), none⟩]
def c54_6 : List SOper := [⟨some 17, .q (.mv (.t 5)), none⟩, ⟨some 4, .q (.mv (.t 17)), none⟩]
def c54_7 : SCode := .seq (.region c54_6 [4]) .ret
def c54_8 : SCode := .cond (.t 16) c54_7 .skip
def c54_9 : SCode := .seq (.region c54_5 [0, 1, 5, 7, 8, 16]) c54_8
def c54_10 : SCode := .seq (.region c54_4 [0, 1, 5, 7, 8]) c54_9
def c54_11 : SCode := .block 1 c54_10
def c54_12 : List SOper := [⟨some 18, .q (.bin .add (.t 8) (.c (.int .i64 1))), none⟩, ⟨some 8, .q (.mv (.t 18)), none⟩]
def c54_13 : SCode := .seq c54_11 (.region c54_12 [0, 1, 7, 8])
def c54_14 : SCode := .seq c54_3 c54_13
def c54_15 : SCode := .seq (.region c54_2 [0, 1, 7, 8, 9]) c54_14
def c54_16 : SCode := .loop c54_15
def c54_17 : SCode := .block 0 c54_16
def c54_18 : SCode := .seq (.region c54_1 [0, 1, 7, 8]) c54_17
def c54_19 : List SOper := [⟨some 4, .q (.mv (.c (.int .i64 (-1)))), none⟩]
def c54_20 : SCode := .seq (.region c54_19 [4]) .ret
def c54_21 : SCode := .seq c54_18 c54_20
def c54_22 : SCode := .seq (.region c54_0 [0, 1]) c54_21
def c54 : SCode := c54_22
theorem w54 : type_of% (And.intro (uR Try.prog c54_0.eq_1) (And.intro (uR Try.prog c54_1.eq_1) (And.intro (uR Try.prog c54_2.eq_1) (And.intro (uC Try.prog c54_3.eq_1) (And.intro (uR Try.prog c54_4.eq_1) (And.intro (uR Try.prog c54_5.eq_1) (And.intro (uR Try.prog c54_6.eq_1) (And.intro (uC Try.prog c54_7.eq_1) (And.intro (uC Try.prog c54_8.eq_1) (And.intro (uC Try.prog c54_9.eq_1) (And.intro (uC Try.prog c54_10.eq_1) (And.intro (uC Try.prog c54_11.eq_1) (And.intro (uR Try.prog c54_12.eq_1) (And.intro (uC Try.prog c54_13.eq_1) (And.intro (uC Try.prog c54_14.eq_1) (And.intro (uC Try.prog c54_15.eq_1) (And.intro (uC Try.prog c54_16.eq_1) (And.intro (uC Try.prog c54_17.eq_1) (And.intro (uC Try.prog c54_18.eq_1) (And.intro (uR Try.prog c54_19.eq_1) (And.intro (uC Try.prog c54_20.eq_1) (And.intro (uC Try.prog c54_21.eq_1) (And.intro (uC Try.prog c54_22.eq_1) (uC Try.prog c54.eq_1)))))))))))))))))))))))) := (And.intro (uR Try.prog c54_0.eq_1) (And.intro (uR Try.prog c54_1.eq_1) (And.intro (uR Try.prog c54_2.eq_1) (And.intro (uC Try.prog c54_3.eq_1) (And.intro (uR Try.prog c54_4.eq_1) (And.intro (uR Try.prog c54_5.eq_1) (And.intro (uR Try.prog c54_6.eq_1) (And.intro (uC Try.prog c54_7.eq_1) (And.intro (uC Try.prog c54_8.eq_1) (And.intro (uC Try.prog c54_9.eq_1) (And.intro (uC Try.prog c54_10.eq_1) (And.intro (uC Try.prog c54_11.eq_1) (And.intro (uR Try.prog c54_12.eq_1) (And.intro (uC Try.prog c54_13.eq_1) (And.intro (uC Try.prog c54_14.eq_1) (And.intro (uC Try.prog c54_15.eq_1) (And.intro (uC Try.prog c54_16.eq_1) (And.intro (uC Try.prog c54_17.eq_1) (And.intro (uC Try.prog c54_18.eq_1) (And.intro (uR Try.prog c54_19.eq_1) (And.intro (uC Try.prog c54_20.eq_1) (And.intro (uC Try.prog c54_21.eq_1) (And.intro (uC Try.prog c54_22.eq_1) (uC Try.prog c54.eq_1))))))))))))))))))))))))
def v54 : List RV := [.t 4]
theorem s54 : slimF Try.prog Try.f54 = some (c54.bare, v54) := by kernel_rfl
/-! 40 slices.ContainsFunc[[]int64,int64]: parameters 2, live [0, 1], slots [0:s, 1:f, 2:s, 3:f] -/
def c40_0 : List SOper := [⟨some 4, .q (.mv (.c (.bool false))), none⟩]
def c40_1 : List SOper := [⟨some 5, .q (.mv (.t 0)), none⟩, ⟨some 6, .q (.mv (.t 1)), none⟩, ⟨some 7, .e (.call 54 [(.t 5), (.t 6)]), none⟩, ⟨some 8, .q (.bin .geq (.t 7) (.c (.int .i64 0))), none⟩, ⟨some 4, .q (.mv (.t 8)), none⟩]
def c40_2 : SCode := .seq (.region c40_1 [4]) .ret
def c40_3 : SCode := .seq (.region c40_0 [0, 1]) c40_2
def c40 : SCode := c40_3
theorem w40 : type_of% (And.intro (uR Try.prog c40_0.eq_1) (And.intro (uR Try.prog c40_1.eq_1) (And.intro (uC Try.prog c40_2.eq_1) (And.intro (uC Try.prog c40_3.eq_1) (uC Try.prog c40.eq_1))))) := (And.intro (uR Try.prog c40_0.eq_1) (And.intro (uR Try.prog c40_1.eq_1) (And.intro (uC Try.prog c40_2.eq_1) (And.intro (uC Try.prog c40_3.eq_1) (uC Try.prog c40.eq_1)))))
def v40 : List RV := [.t 4]
theorem s40 : slimF Try.prog Try.f40 = some (c40.bare, v40) := by kernel_rfl
/-! 16 loop.example/g00066/spec.Matrix: parameters 2, live [0, 1], slots [0:m, 1:c, 2:m, 3:c, 5:i, 6:out, 7:i, 8:n] -/
def c16_0 : List SOper := [⟨some 3, .a (.box (.t 1)), none⟩, ⟨some 4, .a (.new [(.int .i64 0), (.int .i64 0), (.int .i64 0)]), none⟩]
def c16_1 : List SOper := [⟨some 9, .q (.ldn 3 (.t 3)), none⟩, ⟨some 10, .e (.call 22 [(.t 9)]), none⟩, ⟨some 11, .q (.not (.t 10)), none⟩, ⟨some 12, .q (.mv (.t 11)), none⟩, ⟨some 13, .q (.mv (.t 0)), some (12, false)⟩, ⟨some 14, .q (.len (.t 13)), some (12, false)⟩, ⟨some 15, .q (.bin .neq (.t 14) (.c (.int .i64 9))), some (12, false)⟩, ⟨some 16, .q (.pick (.t 12) (.c (.bool true)) (.t 15)), none⟩]
def c16_2 : List SOper := [⟨some 17, .q (.build [(.int .i64 0), (.int .i64 0), (.int .i64 0)] []), none⟩, ⟨none, .e (.st 3 (.t 4) (.t 17)), none⟩]
def c16_3 : SCode := .seq (.region c16_2 [4]) .ret
def c16_4 : SCode := .cond (.t 16) c16_3 .skip
def c16_5 : SCode := .seq (.region c16_1 [0, 3, 4, 16]) c16_4
def c16_6 : List SOper := [⟨some 5, .q (.mv (.c (.int .i64 0))), none⟩]
def c16_7 : List SOper := [⟨some 18, .q (.mv (.t 5)), none⟩, ⟨some 19, .q (.bin .lss (.t 18) (.c (.int .i64 9))), none⟩]
def c16_8 : SCode := .cond (.t 19) .skip (.exit 0)
def c16_9 : SCode := .seq (.region c16_7 [0, 3, 4, 5, 19]) c16_8
def c16_10 : List SOper := [⟨some 22, .q (.mv (.t 0)), none⟩, ⟨some 23, .q (.mv (.t 5)), none⟩, ⟨some 24, .q (.ia 1 (.t 22) (.t 23)), none⟩, ⟨some 25, .q (.ld (.t 24)), none⟩, ⟨some 26, .e (.call 21 [(.t 25), (.c (.int .i64 (-65536))), (.c (.int .i64 65536))]), none⟩, ⟨some 27, .q (.not (.t 26)), none⟩]
def c16_11 : List SOper := [⟨some 28, .q (.build [(.int .i64 0), (.int .i64 0), (.int .i64 0)] []), none⟩, ⟨none, .e (.st 3 (.t 4) (.t 28)), none⟩]
def c16_12 : SCode := .seq (.region c16_11 [4]) .ret
def c16_13 : SCode := .cond (.t 27) c16_12 .skip
def c16_14 : SCode := .seq (.region c16_10 [0, 3, 4, 5, 27]) c16_13
def c16_15 : SCode := .block 1 c16_14
def c16_16 : List SOper := [⟨some 20, .q (.mv (.t 5)), none⟩, ⟨some 21, .q (.bin .add (.t 20) (.c (.int .i64 1))), none⟩, ⟨some 5, .q (.mv (.t 21)), none⟩]
def c16_17 : SCode := .seq c16_15 (.region c16_16 [0, 3, 4, 5])
def c16_18 : SCode := .seq c16_9 c16_17
def c16_19 : SCode := .loop c16_18
def c16_20 : SCode := .block 0 c16_19
def c16_21 : SCode := .seq (.region c16_6 [0, 3, 4, 5]) c16_20
def c16_22 : List SOper := [⟨some 29, .a (.bsl 3 1 [(.int .i64 0), (.int .i64 0), (.int .i64 0)] [(0, 1, (.c (.int .i64 0))), (1, 1, (.c (.int .i64 0))), (2, 1, (.c (.int .i64 0)))]), none⟩, ⟨some 6, .q (.mv (.t 29)), none⟩]
def c16_23 : List SOper := [⟨some 7, .q (.mv (.c (.int .i64 0))), none⟩]
def c16_24 : List SOper := [⟨some 30, .q (.mv (.t 7)), none⟩, ⟨some 31, .q (.bin .lss (.t 30) (.c (.int .i64 3))), none⟩]
def c16_25 : SCode := .cond (.t 31) .skip (.exit 2)
def c16_26 : SCode := .seq (.region c16_24 [0, 3, 4, 6, 7, 31]) c16_25
def c16_27 : List SOper := [⟨some 34, .q (.mv (.t 0)), none⟩, ⟨some 35, .q (.mv (.t 7)), none⟩, ⟨some 36, .q (.bin .mul (.c (.int .i64 3)) (.t 35)), none⟩, ⟨some 37, .q (.ia 1 (.t 34) (.t 36)), none⟩, ⟨some 38, .q (.ld (.t 37)), none⟩, ⟨some 39, .q (.fa 0 (.t 3)), none⟩, ⟨some 40, .q (.ld (.t 39)), none⟩, ⟨some 41, .q (.bin .mul (.t 38) (.t 40)), none⟩, ⟨some 42, .q (.mv (.t 0)), none⟩, ⟨some 43, .q (.mv (.t 7)), none⟩, ⟨some 44, .q (.bin .mul (.c (.int .i64 3)) (.t 43)), none⟩, ⟨some 45, .q (.bin .add (.t 44) (.c (.int .i64 1))), none⟩, ⟨some 46, .q (.ia 1 (.t 42) (.t 45)), none⟩, ⟨some 47, .q (.ld (.t 46)), none⟩, ⟨some 48, .q (.fa 1 (.t 3)), none⟩, ⟨some 49, .q (.ld (.t 48)), none⟩, ⟨some 50, .q (.bin .mul (.t 47) (.t 49)), none⟩, ⟨some 51, .q (.bin .add (.t 41) (.t 50)), none⟩, ⟨some 52, .q (.mv (.t 0)), none⟩, ⟨some 53, .q (.mv (.t 7)), none⟩, ⟨some 54, .q (.bin .mul (.c (.int .i64 3)) (.t 53)), none⟩, ⟨some 55, .q (.bin .add (.t 54) (.c (.int .i64 2))), none⟩, ⟨some 56, .q (.ia 1 (.t 52) (.t 55)), none⟩, ⟨some 57, .q (.ld (.t 56)), none⟩, ⟨some 58, .q (.fa 2 (.t 3)), none⟩, ⟨some 59, .q (.ld (.t 58)), none⟩, ⟨some 60, .q (.bin .mul (.t 57) (.t 59)), none⟩, ⟨some 61, .q (.bin .add (.t 51) (.t 60)), none⟩, ⟨some 62, .e (.call 24 [(.t 61), (.c (.int .i64 4096))]), none⟩, ⟨some 8, .q (.mv (.t 62)), none⟩]
def c16_28 : List SOper := [⟨some 63, .q (.mv (.t 6)), none⟩, ⟨some 64, .q (.mv (.t 7)), none⟩, ⟨some 65, .q (.mv (.t 8)), none⟩, ⟨some 66, .e (.call 43 [(.c (.int .i64 0)), (.t 65)]), none⟩, ⟨some 67, .e (.call 42 [(.c (.int .i64 65535)), (.t 66)]), none⟩, ⟨some 68, .q (.ia 1 (.t 63) (.t 64)), none⟩, ⟨none, .e (.st 1 (.t 68) (.t 67)), none⟩]
def c16_29 : SCode := .seq (.region c16_27 [0, 3, 4, 6, 7, 8]) (.region c16_28 [0, 3, 4, 6, 7])
def c16_30 : SCode := .block 3 c16_29
def c16_31 : List SOper := [⟨some 32, .q (.mv (.t 7)), none⟩, ⟨some 33, .q (.bin .add (.t 32) (.c (.int .i64 1))), none⟩, ⟨some 7, .q (.mv (.t 33)), none⟩]
def c16_32 : SCode := .seq c16_30 (.region c16_31 [0, 3, 4, 6, 7])
def c16_33 : SCode := .seq c16_26 c16_32
def c16_34 : SCode := .loop c16_33
def c16_35 : SCode := .block 2 c16_34
def c16_36 : SCode := .seq (.region c16_23 [0, 3, 4, 6, 7]) c16_35
def c16_37 : List SOper := [⟨some 69, .q (.mv (.t 6)), none⟩, ⟨some 70, .q (.ia 1 (.t 69) (.c (.int .i64 0))), none⟩, ⟨some 71, .q (.ld (.t 70)), none⟩, ⟨some 72, .q (.mv (.t 6)), none⟩, ⟨some 73, .q (.ia 1 (.t 72) (.c (.int .i64 1))), none⟩, ⟨some 74, .q (.ld (.t 73)), none⟩, ⟨some 75, .q (.mv (.t 6)), none⟩, ⟨some 76, .q (.ia 1 (.t 75) (.c (.int .i64 2))), none⟩, ⟨some 77, .q (.ld (.t 76)), none⟩, ⟨some 78, .q (.build [(.int .i64 0), (.int .i64 0), (.int .i64 0)] [(0, 1, (.t 71)), (1, 1, (.t 74)), (2, 1, (.t 77))]), none⟩, ⟨none, .e (.st 3 (.t 4) (.t 78)), none⟩]
def c16_38 : SCode := .seq (.region c16_37 [4]) .ret
def c16_39 : SCode := .seq c16_36 c16_38
def c16_40 : SCode := .seq (.region c16_22 [0, 3, 4, 6]) c16_39
def c16_41 : SCode := .seq c16_21 c16_40
def c16_42 : SCode := .seq c16_5 c16_41
def c16_43 : SCode := .seq (.region c16_0 [0, 3, 4]) c16_42
def c16 : SCode := c16_43
theorem w16 : type_of% (And.intro (uR Try.prog c16_0.eq_1) (And.intro (uR Try.prog c16_1.eq_1) (And.intro (uR Try.prog c16_2.eq_1) (And.intro (uC Try.prog c16_3.eq_1) (And.intro (uC Try.prog c16_4.eq_1) (And.intro (uC Try.prog c16_5.eq_1) (And.intro (uR Try.prog c16_6.eq_1) (And.intro (uR Try.prog c16_7.eq_1) (And.intro (uC Try.prog c16_8.eq_1) (And.intro (uC Try.prog c16_9.eq_1) (And.intro (uR Try.prog c16_10.eq_1) (And.intro (uR Try.prog c16_11.eq_1) (And.intro (uC Try.prog c16_12.eq_1) (And.intro (uC Try.prog c16_13.eq_1) (And.intro (uC Try.prog c16_14.eq_1) (And.intro (uC Try.prog c16_15.eq_1) (And.intro (uR Try.prog c16_16.eq_1) (And.intro (uC Try.prog c16_17.eq_1) (And.intro (uC Try.prog c16_18.eq_1) (And.intro (uC Try.prog c16_19.eq_1) (And.intro (uC Try.prog c16_20.eq_1) (And.intro (uC Try.prog c16_21.eq_1) (And.intro (uR Try.prog c16_22.eq_1) (And.intro (uR Try.prog c16_23.eq_1) (And.intro (uR Try.prog c16_24.eq_1) (And.intro (uC Try.prog c16_25.eq_1) (And.intro (uC Try.prog c16_26.eq_1) (And.intro (uR Try.prog c16_27.eq_1) (And.intro (uR Try.prog c16_28.eq_1) (And.intro (uC Try.prog c16_29.eq_1) (And.intro (uC Try.prog c16_30.eq_1) (And.intro (uR Try.prog c16_31.eq_1) (And.intro (uC Try.prog c16_32.eq_1) (And.intro (uC Try.prog c16_33.eq_1) (And.intro (uC Try.prog c16_34.eq_1) (And.intro (uC Try.prog c16_35.eq_1) (And.intro (uC Try.prog c16_36.eq_1) (And.intro (uR Try.prog c16_37.eq_1) (And.intro (uC Try.prog c16_38.eq_1) (And.intro (uC Try.prog c16_39.eq_1) (And.intro (uC Try.prog c16_40.eq_1) (And.intro (uC Try.prog c16_41.eq_1) (And.intro (uC Try.prog c16_42.eq_1) (And.intro (uC Try.prog c16_43.eq_1) (uC Try.prog c16.eq_1))))))))))))))))))))))))))))))))))))))))))))) := (And.intro (uR Try.prog c16_0.eq_1) (And.intro (uR Try.prog c16_1.eq_1) (And.intro (uR Try.prog c16_2.eq_1) (And.intro (uC Try.prog c16_3.eq_1) (And.intro (uC Try.prog c16_4.eq_1) (And.intro (uC Try.prog c16_5.eq_1) (And.intro (uR Try.prog c16_6.eq_1) (And.intro (uR Try.prog c16_7.eq_1) (And.intro (uC Try.prog c16_8.eq_1) (And.intro (uC Try.prog c16_9.eq_1) (And.intro (uR Try.prog c16_10.eq_1) (And.intro (uR Try.prog c16_11.eq_1) (And.intro (uC Try.prog c16_12.eq_1) (And.intro (uC Try.prog c16_13.eq_1) (And.intro (uC Try.prog c16_14.eq_1) (And.intro (uC Try.prog c16_15.eq_1) (And.intro (uR Try.prog c16_16.eq_1) (And.intro (uC Try.prog c16_17.eq_1) (And.intro (uC Try.prog c16_18.eq_1) (And.intro (uC Try.prog c16_19.eq_1) (And.intro (uC Try.prog c16_20.eq_1) (And.intro (uC Try.prog c16_21.eq_1) (And.intro (uR Try.prog c16_22.eq_1) (And.intro (uR Try.prog c16_23.eq_1) (And.intro (uR Try.prog c16_24.eq_1) (And.intro (uC Try.prog c16_25.eq_1) (And.intro (uC Try.prog c16_26.eq_1) (And.intro (uR Try.prog c16_27.eq_1) (And.intro (uR Try.prog c16_28.eq_1) (And.intro (uC Try.prog c16_29.eq_1) (And.intro (uC Try.prog c16_30.eq_1) (And.intro (uR Try.prog c16_31.eq_1) (And.intro (uC Try.prog c16_32.eq_1) (And.intro (uC Try.prog c16_33.eq_1) (And.intro (uC Try.prog c16_34.eq_1) (And.intro (uC Try.prog c16_35.eq_1) (And.intro (uC Try.prog c16_36.eq_1) (And.intro (uR Try.prog c16_37.eq_1) (And.intro (uC Try.prog c16_38.eq_1) (And.intro (uC Try.prog c16_39.eq_1) (And.intro (uC Try.prog c16_40.eq_1) (And.intro (uC Try.prog c16_41.eq_1) (And.intro (uC Try.prog c16_42.eq_1) (And.intro (uC Try.prog c16_43.eq_1) (uC Try.prog c16.eq_1)))))))))))))))))))))))))))))))))))))))))))))
def v16 : List RV := [.c 4 (some 3)]
theorem s16 : slimF Try.prog Try.f16 = some (c16.bare, v16) := by kernel_rfl
/-! 15 loop.example/g00066/impl.Matrix: parameters 2, live [0, 1], slots [0:m, 1:c, 2:m, 3:c, 5:out, 6:i, 7:sum] -/
def c15_0 : List SOper := [⟨some 3, .a (.box (.t 1)), none⟩, ⟨some 4, .a (.new [(.int .i64 0), (.int .i64 0), (.int .i64 0)]), none⟩]
def c15_1 : List SOper := [⟨some 8, .q (.ldn 3 (.t 3)), none⟩, ⟨some 9, .e (.call 26 [(.t 8)]), none⟩, ⟨some 10, .q (.not (.t 9)), none⟩, ⟨some 11, .q (.mv (.t 10)), none⟩, ⟨some 12, .q (.mv (.t 0)), some (11, false)⟩, ⟨some 13, .q (.len (.t 12)), some (11, false)⟩, ⟨some 14, .q (.bin .neq (.t 13) (.c (.int .i64 9))), some (11, false)⟩, ⟨some 15, .q (.pick (.t 11) (.c (.bool true)) (.t 14)), none⟩, ⟨some 16, .q (.mv (.t 15)), none⟩, ⟨some 17, .q (.mv (.t 0)), some (16, false)⟩, ⟨some 18, .e (.call 40 [(.t 17), (.f 41)]), some (16, false)⟩, ⟨some 19, .q (.pick (.t 16) (.c (.bool true)) (.t 18)), none⟩]
def c15_2 : List SOper := [⟨some 20, .q (.build [(.int .i64 0), (.int .i64 0), (.int .i64 0)] []), none⟩, ⟨none, .e (.st 3 (.t 4) (.t 20)), none⟩]
def c15_3 : SCode := .seq (.region c15_2 [4]) .ret
def c15_4 : SCode := .cond (.t 19) c15_3 .skip
def c15_5 : SCode := .seq (.region c15_1 [0, 3, 4, 19]) c15_4
def c15_6 : List SOper := [⟨some 21, .q (.build [(.int .i64 0), (.int .i64 0), (.int .i64 0)] []), none⟩, ⟨some 5, .a (.new [(.int .i64 0), (.int .i64 0), (.int .i64 0)]), none⟩, ⟨none, .e (.st 3 (.t 5) (.t 21)), none⟩]
def c15_7 : List SOper := [⟨some 22, .q (.mv (.c (.int .i64 0))), none⟩]
def c15_8 : List SOper := [⟨some 23, .q (.bin .lss (.t 22) (.c (.int .i64 3))), none⟩]
def c15_9 : SCode := .cond (.t 23) .skip (.exit 0)
def c15_10 : List SOper := [⟨some 24, .q (.mv (.t 22)), none⟩, ⟨some 6, .q (.mv (.t 24)), none⟩]
def c15_11 : List SOper := [⟨some 25, .q (.mv (.t 0)), none⟩, ⟨some 26, .q (.mv (.t 6)), none⟩, ⟨some 27, .q (.bin .mul (.c (.int .i64 3)) (.t 26)), none⟩, ⟨some 28, .q (.ia 1 (.t 25) (.t 27)), none⟩, ⟨some 29, .q (.ld (.t 28)), none⟩, ⟨some 30, .q (.fa 0 (.t 3)), none⟩, ⟨some 31, .q (.ld (.t 30)), none⟩, ⟨some 32, .q (.bin .mul (.t 29) (.t 31)), none⟩, ⟨some 33, .q (.mv (.t 0)), none⟩, ⟨some 34, .q (.mv (.t 6)), none⟩, ⟨some 35, .q (.bin .mul (.c (.int .i64 3)) (.t 34)), none⟩, ⟨some 36, .q (.bin .add (.t 35) (.c (.int .i64 1))), none⟩, ⟨some 37, .q (.ia 1 (.t 33) (.t 36)), none⟩, ⟨some 38, .q (.ld (.t 37)), none⟩, ⟨some 39, .q (.fa 1 (.t 3)), none⟩, ⟨some 40, .q (.ld (.t 39)), none⟩, ⟨some 41, .q (.bin .mul (.t 38) (.t 40)), none⟩, ⟨some 42, .q (.bin .add (.t 32) (.t 41)), none⟩, ⟨some 43, .q (.mv (.t 0)), none⟩, ⟨some 44, .q (.mv (.t 6)), none⟩, ⟨some 45, .q (.bin .mul (.c (.int .i64 3)) (.t 44)), none⟩, ⟨some 46, .q (.bin .add (.t 45) (.c (.int .i64 2))), none⟩, ⟨some 47, .q (.ia 1 (.t 43) (.t 46)), none⟩, ⟨some 48, .q (.ld (.t 47)), none⟩, ⟨some 49, .q (.fa 2 (.t 3)), none⟩, ⟨some 50, .q (.ld (.t 49)), none⟩, ⟨some 51, .q (.bin .mul (.t 48) (.t 50)), none⟩, ⟨some 52, .q (.bin .add (.t 42) (.t 51)), none⟩, ⟨some 7, .q (.mv (.t 52)), none⟩]
def c15_12 : List SOper := [⟨some 53, .q (.mv (.t 6)), none⟩, ⟨some 54, .q (.mv (.t 7)), none⟩, ⟨some 55, .e (.call 33 [(.t 54), (.c (.int .i64 4096))]), none⟩, ⟨some 56, .q (.mx (.t 55) (.c (.int .i64 0))), none⟩, ⟨some 57, .q (.mn (.t 56) (.c (.int .i64 65535))), none⟩, ⟨some 58, .q (.iaa 3 1 (.t 5) (.t 53)), none⟩, ⟨none, .e (.st 1 (.t 58) (.t 57)), none⟩]
def c15_13 : SCode := .seq (.region c15_11 [0, 3, 4, 5, 6, 7, 22]) (.region c15_12 [0, 3, 4, 5, 22])
def c15_14 : SCode := .seq (.region c15_10 [0, 3, 4, 5, 6, 22]) c15_13
def c15_15 : SCode := .block 1 c15_14
def c15_16 : List SOper := [⟨some 59, .q (.bin .add (.t 22) (.c (.int .i64 1))), none⟩, ⟨some 22, .q (.mv (.t 59)), none⟩]
def c15_17 : SCode := .seq c15_15 (.region c15_16 [0, 3, 4, 5, 22])
def c15_18 : SCode := .seq c15_9 c15_17
def c15_19 : SCode := .seq (.region c15_8 [0, 3, 4, 5, 22, 23]) c15_18
def c15_20 : SCode := .loop c15_19
def c15_21 : SCode := .block 0 c15_20
def c15_22 : SCode := .seq (.region c15_7 [0, 3, 4, 5, 22]) c15_21
def c15_23 : List SOper := [⟨some 60, .q (.ldn 3 (.t 5)), none⟩, ⟨some 61, .e (.call 34 [(.t 60)]), none⟩, ⟨none, .e (.st 3 (.t 4) (.t 61)), none⟩]
def c15_24 : SCode := .seq (.region c15_23 [4]) .ret
def c15_25 : SCode := .seq c15_22 c15_24
def c15_26 : SCode := .seq (.region c15_6 [0, 3, 4, 5]) c15_25
def c15_27 : SCode := .seq c15_5 c15_26
def c15_28 : SCode := .seq (.region c15_0 [0, 3, 4]) c15_27
def c15 : SCode := c15_28
theorem w15 : type_of% (And.intro (uR Try.prog c15_0.eq_1) (And.intro (uR Try.prog c15_1.eq_1) (And.intro (uR Try.prog c15_2.eq_1) (And.intro (uC Try.prog c15_3.eq_1) (And.intro (uC Try.prog c15_4.eq_1) (And.intro (uC Try.prog c15_5.eq_1) (And.intro (uR Try.prog c15_6.eq_1) (And.intro (uR Try.prog c15_7.eq_1) (And.intro (uR Try.prog c15_8.eq_1) (And.intro (uC Try.prog c15_9.eq_1) (And.intro (uR Try.prog c15_10.eq_1) (And.intro (uR Try.prog c15_11.eq_1) (And.intro (uR Try.prog c15_12.eq_1) (And.intro (uC Try.prog c15_13.eq_1) (And.intro (uC Try.prog c15_14.eq_1) (And.intro (uC Try.prog c15_15.eq_1) (And.intro (uR Try.prog c15_16.eq_1) (And.intro (uC Try.prog c15_17.eq_1) (And.intro (uC Try.prog c15_18.eq_1) (And.intro (uC Try.prog c15_19.eq_1) (And.intro (uC Try.prog c15_20.eq_1) (And.intro (uC Try.prog c15_21.eq_1) (And.intro (uC Try.prog c15_22.eq_1) (And.intro (uR Try.prog c15_23.eq_1) (And.intro (uC Try.prog c15_24.eq_1) (And.intro (uC Try.prog c15_25.eq_1) (And.intro (uC Try.prog c15_26.eq_1) (And.intro (uC Try.prog c15_27.eq_1) (And.intro (uC Try.prog c15_28.eq_1) (uC Try.prog c15.eq_1)))))))))))))))))))))))))))))) := (And.intro (uR Try.prog c15_0.eq_1) (And.intro (uR Try.prog c15_1.eq_1) (And.intro (uR Try.prog c15_2.eq_1) (And.intro (uC Try.prog c15_3.eq_1) (And.intro (uC Try.prog c15_4.eq_1) (And.intro (uC Try.prog c15_5.eq_1) (And.intro (uR Try.prog c15_6.eq_1) (And.intro (uR Try.prog c15_7.eq_1) (And.intro (uR Try.prog c15_8.eq_1) (And.intro (uC Try.prog c15_9.eq_1) (And.intro (uR Try.prog c15_10.eq_1) (And.intro (uR Try.prog c15_11.eq_1) (And.intro (uR Try.prog c15_12.eq_1) (And.intro (uC Try.prog c15_13.eq_1) (And.intro (uC Try.prog c15_14.eq_1) (And.intro (uC Try.prog c15_15.eq_1) (And.intro (uR Try.prog c15_16.eq_1) (And.intro (uC Try.prog c15_17.eq_1) (And.intro (uC Try.prog c15_18.eq_1) (And.intro (uC Try.prog c15_19.eq_1) (And.intro (uC Try.prog c15_20.eq_1) (And.intro (uC Try.prog c15_21.eq_1) (And.intro (uC Try.prog c15_22.eq_1) (And.intro (uR Try.prog c15_23.eq_1) (And.intro (uC Try.prog c15_24.eq_1) (And.intro (uC Try.prog c15_25.eq_1) (And.intro (uC Try.prog c15_26.eq_1) (And.intro (uC Try.prog c15_27.eq_1) (And.intro (uC Try.prog c15_28.eq_1) (uC Try.prog c15.eq_1))))))))))))))))))))))))))))))
def v15 : List RV := [.c 4 (some 3)]
theorem s15 : slimF Try.prog Try.f15 = some (c15.bare, v15) := by kernel_rfl
/-! 41 loop.example/g00066/impl.Matrix$1: parameters 1, live [0], slots [0:x, 1:x] -/
def c41_0 : List SOper := [⟨some 2, .q (.mv (.c (.bool false))), none⟩]
def c41_1 : List SOper := [⟨some 3, .q (.mv (.t 0)), none⟩, ⟨some 4, .e (.call 25 [(.t 3), (.c (.int .i64 (-65536))), (.c (.int .i64 65536))]), none⟩, ⟨some 5, .q (.not (.t 4)), none⟩, ⟨some 2, .q (.mv (.t 5)), none⟩]
def c41_2 : SCode := .seq (.region c41_1 [2]) .ret
def c41_3 : SCode := .seq (.region c41_0 [0]) c41_2
def c41 : SCode := c41_3
theorem w41 : type_of% (And.intro (uR Try.prog c41_0.eq_1) (And.intro (uR Try.prog c41_1.eq_1) (And.intro (uC Try.prog c41_2.eq_1) (And.intro (uC Try.prog c41_3.eq_1) (uC Try.prog c41.eq_1))))) := (And.intro (uR Try.prog c41_0.eq_1) (And.intro (uR Try.prog c41_1.eq_1) (And.intro (uC Try.prog c41_2.eq_1) (And.intro (uC Try.prog c41_3.eq_1) (uC Try.prog c41.eq_1)))))
def v41 : List RV := [.t 2]
theorem s41 : slimF Try.prog Try.f41 = some (c41.bare, v41) := by kernel_rfl
/-! 19 loop.example/g00066/impl.Curve: parameters 2, live [0, 1], slots [0:table, 1:v, 2:table, 3:v, 5:n, 6:i, 7:rest] -/
def c19_0 : List SOper := [⟨some 4, .q (.mv (.c (.int .i64 0))), none⟩]
def c19_1 : List SOper := [⟨some 8, .q (.mv (.t 0)), none⟩, ⟨some 9, .q (.len (.t 8)), none⟩, ⟨some 10, .q (.bin .sub (.t 9) (.c (.int .i64 1))), none⟩, ⟨some 5, .q (.mv (.t 10)), none⟩]
def c19_2 : List SOper := [⟨some 11, .q (.mv (.t 5)), none⟩, ⟨some 12, .e (.call 25 [(.t 11), (.c (.int .i64 1)), (.c (.int .i64 256))]), none⟩, ⟨some 13, .q (.not (.t 12)), none⟩, ⟨some 14, .q (.mv (.t 13)), none⟩, ⟨some 15, .q (.mv (.t 1)), some (14, false)⟩, ⟨some 16, .e (.call 44 [(.t 15)]), some (14, false)⟩, ⟨some 17, .q (.not (.t 16)), some (14, false)⟩, ⟨some 18, .q (.pick (.t 14) (.c (.bool true)) (.t 17)), none⟩, ⟨some 19, .q (.mv (.t 18)), none⟩, ⟨some 20, .q (.mv (.t 0)), some (19, false)⟩, ⟨some 21, .e (.call 40 [(.t 20), (.f 45)]), some (19, false)⟩, ⟨some 22, .q (.pick (.t 19) (.c (.bool true)) (.t 21)), none⟩]
def c19_3 : List SOper := [⟨some 4, .q (.mv (.c (.int .i64 (-1)))), none⟩]
def c19_4 : SCode := .seq (.region c19_3 [4]) .ret
def c19_5 : SCode := .cond (.t 22) c19_4 .skip
def c19_6 : SCode := .seq (.region c19_2 [0, 1, 5, 22]) c19_5
def c19_7 : List SOper := [⟨some 24, .q (.mv (.t 1)), none⟩, ⟨some 25, .q (.mv (.t 5)), none⟩, ⟨some 26, .e (.call 30 [(.t 24), (.t 25)]), none⟩, ⟨some 23, .q (.mv (.t 26)), none⟩, ⟨some 27, .q (.ext (.t 23) 0), none⟩, ⟨some 28, .q (.ext (.t 23) 1), none⟩, ⟨some 6, .q (.mv (.t 27)), none⟩, ⟨some 7, .q (.mv (.t 28)), none⟩]
def c19_8 : List DOper := [⟨0, ⟨some 29, .q (.mv (.t 0)), none⟩, [], []⟩, ⟨1, ⟨some 30, .q (.mv (.t 6)), none⟩, [], []⟩, ⟨2, ⟨some 31, .q (.ia 1 (.t 29) (.t 30)), none⟩, [], []⟩, ⟨3, ⟨some 32, .q (.ld (.t 31)), none⟩, [], []⟩, ⟨4, ⟨some 33, .q (.mv (.t 0)), none⟩, [], []⟩, ⟨5, ⟨some 34, .q (.mv (.t 6)), none⟩, [], []⟩, ⟨6, ⟨some 35, .q (.bin .add (.t 34) (.c (.int .i64 1))), none⟩, [], []⟩, ⟨7, ⟨some 36, .q (.ia 1 (.t 33) (.t 35)), none⟩, [], []⟩, ⟨8, ⟨some 37, .q (.ld (.t 36)), none⟩, [], []⟩, ⟨9, ⟨some 38, .q (.mv (.t 0)), none⟩, [], []⟩, ⟨10, ⟨some 39, .q (.mv (.t 6)), none⟩, [], []⟩, ⟨11, ⟨some 40, .q (.ia 1 (.t 38) (.t 39)), none⟩, [], []⟩, ⟨12, ⟨some 41, .q (.ld (.t 40)), none⟩, [], []⟩, ⟨13, ⟨some 42, .q (.bin .sub (.t 37) (.t 41)), none⟩, [], []⟩, ⟨14, ⟨some 43, .q (.mv (.t 7)), none⟩, [], []⟩, ⟨15, ⟨some 44, .q (.bin .mul (.t 42) (.t 43)), none⟩, [], []⟩, ⟨16, ⟨some 45, .e (.call 33 [(.t 44), (.c (.int .i64 65535))]), none⟩, [], [3]⟩, ⟨17, ⟨some 46, .q (.bin .add (.t 32) (.t 45)), none⟩, [], []⟩, ⟨18, ⟨some 4, .q (.mv (.t 46)), none⟩, [], []⟩]
def c19_9 : SCode := .seq (.dregion c19_8 [4]) .ret
def c19_10 : SCode := .seq (.region c19_7 [0, 6, 7]) c19_9
def c19_11 : SCode := .seq c19_6 c19_10
def c19_12 : SCode := .seq (.region c19_1 [0, 1, 5]) c19_11
def c19_13 : SCode := .seq (.region c19_0 [0, 1]) c19_12
def c19 : SCode := c19_13
theorem w19 : type_of% (And.intro (uR Try.prog c19_0.eq_1) (And.intro (uR Try.prog c19_1.eq_1) (And.intro (uR Try.prog c19_2.eq_1) (And.intro (uR Try.prog c19_3.eq_1) (And.intro (uC Try.prog c19_4.eq_1) (And.intro (uC Try.prog c19_5.eq_1) (And.intro (uC Try.prog c19_6.eq_1) (And.intro (uR Try.prog c19_7.eq_1) (And.intro (uD Try.prog c19_8.eq_1) (And.intro (uC Try.prog c19_9.eq_1) (And.intro (uC Try.prog c19_10.eq_1) (And.intro (uC Try.prog c19_11.eq_1) (And.intro (uC Try.prog c19_12.eq_1) (And.intro (uC Try.prog c19_13.eq_1) (uC Try.prog c19.eq_1))))))))))))))) := (And.intro (uR Try.prog c19_0.eq_1) (And.intro (uR Try.prog c19_1.eq_1) (And.intro (uR Try.prog c19_2.eq_1) (And.intro (uR Try.prog c19_3.eq_1) (And.intro (uC Try.prog c19_4.eq_1) (And.intro (uC Try.prog c19_5.eq_1) (And.intro (uC Try.prog c19_6.eq_1) (And.intro (uR Try.prog c19_7.eq_1) (And.intro (uD Try.prog c19_8.eq_1) (And.intro (uC Try.prog c19_9.eq_1) (And.intro (uC Try.prog c19_10.eq_1) (And.intro (uC Try.prog c19_11.eq_1) (And.intro (uC Try.prog c19_12.eq_1) (And.intro (uC Try.prog c19_13.eq_1) (uC Try.prog c19.eq_1)))))))))))))))
def v19 : List RV := [.t 4]
theorem s19 : slimF Try.prog Try.f19 = some (c19.bare, v19) := by kernel_rfl
/-! 45 loop.example/g00066/impl.Curve$1: parameters 1, live [0], slots [0:x, 1:x] -/
def c45_0 : List SOper := [⟨some 2, .q (.mv (.c (.bool false))), none⟩]
def c45_1 : List SOper := [⟨some 3, .q (.mv (.t 0)), none⟩, ⟨some 4, .e (.call 44 [(.t 3)]), none⟩, ⟨some 5, .q (.not (.t 4)), none⟩, ⟨some 2, .q (.mv (.t 5)), none⟩]
def c45_2 : SCode := .seq (.region c45_1 [2]) .ret
def c45_3 : SCode := .seq (.region c45_0 [0]) c45_2
def c45 : SCode := c45_3
theorem w45 : type_of% (And.intro (uR Try.prog c45_0.eq_1) (And.intro (uR Try.prog c45_1.eq_1) (And.intro (uC Try.prog c45_2.eq_1) (And.intro (uC Try.prog c45_3.eq_1) (uC Try.prog c45.eq_1))))) := (And.intro (uR Try.prog c45_0.eq_1) (And.intro (uR Try.prog c45_1.eq_1) (And.intro (uC Try.prog c45_2.eq_1) (And.intro (uC Try.prog c45_3.eq_1) (uC Try.prog c45.eq_1)))))
def v45 : List RV := [.t 2]
theorem s45 : slimF Try.prog Try.f45 = some (c45.bare, v45) := by kernel_rfl
/-! 17 loop.example/g00066/laws.pick: parameters 2, live [0, 1], slots [0:code, 1:n, 2:code, 3:n, 5:k, 6:i] -/
def c17_0 : List SOper := [⟨some 4, .q (.mv (.c (.int .i64 0))), none⟩]
def c17_1 : List SOper := [⟨some 7, .q (.mv (.t 0)), none⟩, ⟨some 8, .q (.len (.t 7)), none⟩, ⟨some 5, .q (.mv (.t 8)), none⟩]
def c17_2 : List SOper := [⟨some 6, .q (.mv (.c (.int .i64 0))), none⟩]
def c17_3 : List SOper := [⟨some 9, .q (.mv (.t 6)), none⟩, ⟨some 10, .q (.mv (.t 0)), none⟩, ⟨some 11, .q (.len (.t 10)), none⟩, ⟨some 12, .q (.bin .lss (.t 9) (.t 11)), none⟩]
def c17_4 : SCode := .cond (.t 12) .skip (.exit 0)
def c17_5 : SCode := .seq (.region c17_3 [0, 1, 5, 6, 12]) c17_4
def c17_6 : List SOper := [⟨some 15, .q (.mv (.t 5)), none⟩, ⟨some 16, .q (.bin .mul (.t 15) (.c (.int .i64 43))), none⟩, ⟨some 17, .q (.mv (.t 0)), none⟩, ⟨some 18, .q (.mv (.t 6)), none⟩, ⟨some 19, .q (.ia 1 (.t 17) (.t 18)), none⟩, ⟨some 20, .q (.ld (.t 19)), none⟩, ⟨some 21, .q (.cvi .i64 (.t 20)), none⟩, ⟨some 22, .q (.bin .add (.t 16) (.t 21)), none⟩, ⟨some 23, .q (.bin .rem (.t 22) (.c (.int .i64 1000003))), none⟩, ⟨some 5, .q (.mv (.t 23)), none⟩]
def c17_7 : SCode := .block 1 (.region c17_6 [0, 1, 5, 6])
def c17_8 : List SOper := [⟨some 13, .q (.mv (.t 6)), none⟩, ⟨some 14, .q (.bin .add (.t 13) (.c (.int .i64 1))), none⟩, ⟨some 6, .q (.mv (.t 14)), none⟩]
def c17_9 : SCode := .seq c17_7 (.region c17_8 [0, 1, 5, 6])
def c17_10 : SCode := .seq c17_5 c17_9
def c17_11 : SCode := .loop c17_10
def c17_12 : SCode := .block 0 c17_11
def c17_13 : SCode := .seq (.region c17_2 [0, 1, 5, 6]) c17_12
def c17_14 : List SOper := [⟨some 24, .q (.mv (.t 5)), none⟩, ⟨some 25, .q (.mv (.t 1)), none⟩, ⟨some 26, .q (.bin .rem (.t 24) (.t 25)), none⟩, ⟨some 4, .q (.mv (.t 26)), none⟩]
def c17_15 : SCode := .seq (.region c17_14 [4]) .ret
def c17_16 : SCode := .seq c17_13 c17_15
def c17_17 : SCode := .seq (.region c17_1 [0, 1, 5]) c17_16
def c17_18 : SCode := .seq (.region c17_0 [0, 1]) c17_17
def c17 : SCode := c17_18
theorem w17 : type_of% (And.intro (uR Try.prog c17_0.eq_1) (And.intro (uR Try.prog c17_1.eq_1) (And.intro (uR Try.prog c17_2.eq_1) (And.intro (uR Try.prog c17_3.eq_1) (And.intro (uC Try.prog c17_4.eq_1) (And.intro (uC Try.prog c17_5.eq_1) (And.intro (uR Try.prog c17_6.eq_1) (And.intro (uC Try.prog c17_7.eq_1) (And.intro (uR Try.prog c17_8.eq_1) (And.intro (uC Try.prog c17_9.eq_1) (And.intro (uC Try.prog c17_10.eq_1) (And.intro (uC Try.prog c17_11.eq_1) (And.intro (uC Try.prog c17_12.eq_1) (And.intro (uC Try.prog c17_13.eq_1) (And.intro (uR Try.prog c17_14.eq_1) (And.intro (uC Try.prog c17_15.eq_1) (And.intro (uC Try.prog c17_16.eq_1) (And.intro (uC Try.prog c17_17.eq_1) (And.intro (uC Try.prog c17_18.eq_1) (uC Try.prog c17.eq_1)))))))))))))))))))) := (And.intro (uR Try.prog c17_0.eq_1) (And.intro (uR Try.prog c17_1.eq_1) (And.intro (uR Try.prog c17_2.eq_1) (And.intro (uR Try.prog c17_3.eq_1) (And.intro (uC Try.prog c17_4.eq_1) (And.intro (uC Try.prog c17_5.eq_1) (And.intro (uR Try.prog c17_6.eq_1) (And.intro (uC Try.prog c17_7.eq_1) (And.intro (uR Try.prog c17_8.eq_1) (And.intro (uC Try.prog c17_9.eq_1) (And.intro (uC Try.prog c17_10.eq_1) (And.intro (uC Try.prog c17_11.eq_1) (And.intro (uC Try.prog c17_12.eq_1) (And.intro (uC Try.prog c17_13.eq_1) (And.intro (uR Try.prog c17_14.eq_1) (And.intro (uC Try.prog c17_15.eq_1) (And.intro (uC Try.prog c17_16.eq_1) (And.intro (uC Try.prog c17_17.eq_1) (And.intro (uC Try.prog c17_18.eq_1) (uC Try.prog c17.eq_1))))))))))))))))))))
def v17 : List RV := [.t 4]
theorem s17 : slimF Try.prog Try.f17 = some (c17.bare, v17) := by kernel_rfl

theorem IndexFuncI_ok (h : Heap) (v : Value) (l : List Int) (n : Nat) (cap : Array Value) (p : Int → Bool) (s : SlT h encI 1 v l) (hl : l.length ≤ 281474976710656)
    (hf : ∃ fn, Try.prog.funcs[n]? = some fn ∧ fn.body.isSome = true ∧ fn.name ≠ "runtime.NumGoroutine")
    (H : ∀ h' k, Ext h h' → k ∈ l → ACall Try.prog n ([.int .i64 k] ++ cap.toList) h' fun r h2 => Ext h' h2 ∧ r = .bool (p k)) :
    ACall Try.prog 54 [v, .func (.func n) #[] cap] h fun r h' => Ext h h' ∧ r = .int .i64 (match l.findIdx? p with | some j => (j : Int) | none => -1) := by
  obtain ⟨fn, hf1, hf2, hf3⟩ := hf
  refine ACall.of Try.func54 s54 (of_decide_eq_true rfl) ?_
  have R := s.rulesN
  simp (maxSteps := 4000000) (disch := omega) only [ah, am, Nat.reduceEqDiff, reduceCtorEq, Nat.reduceAdd, Nat.reduceLeDiff, Nat.reduceMul, Nat.reduceLT, if_true, if_false, true_and, and_true, and_self, Nat.reduceBEq, QOp.loads, boxO, bslO, buildO, cutL, fillV, putL, w54, v54, R]
  refine SW_loop_up (fun i E H => E = [(0, v), (1, .func (.func n) #[] cap), (7, .int .i64 l.length), (8, .int .i64 i)] ∧ Ext h H ∧ ∀ j (hj : j < l.length), j < i → p l[j] = false) l.length 0 (by omega)
    ⟨rfl, Ext.refl h, fun j _ hj => absurd hj (by omega)⟩ ?_
  rintro i E H1 hi ⟨rfl, e, F⟩
  have R := (s.ext e).rulesN
  have W : IntKind.i64.wrap ((i : Int) + 1) = ((i + 1 : Nat) : Int) := i64e (by omega) (by omega)
  simp (maxSteps := 4000000) (disch := omega) only [ah, am, Nat.reduceEqDiff, reduceCtorEq, Nat.reduceAdd, Nat.reduceLeDiff, Nat.reduceMul, Nat.reduceLT, if_true, if_false, true_and, and_true, and_self, Nat.reduceBEq, QOp.loads, boxO, bslO, buildO, cutL, fillV, putL, w54, v54, R]
  refine stepI.split (fun hp => ?_) (fun hp => ?_)
  · have hi' : i < l.length := by omega
    simp (maxSteps := 4000000) (disch := omega) only [ah, am, Nat.reduceEqDiff, reduceCtorEq, Nat.reduceAdd, Nat.reduceLeDiff, Nat.reduceMul, Nat.reduceLT, if_true, if_false, true_and, and_true, and_self, Nat.reduceBEq, QOp.loads, boxO, bslO, buildO, cutL, fillV, putL, w54, v54, R, encI]
    refine stepV.of hf1 hf2 hf3 (H H1 _ e (List.getElem_mem hi')) ?_
    rintro _ H2 ⟨e2, rfl⟩
    simp (maxSteps := 4000000) (disch := omega) only [ah, am, Nat.reduceEqDiff, reduceCtorEq, Nat.reduceAdd, Nat.reduceLeDiff, Nat.reduceMul, Nat.reduceLT, if_true, if_false, true_and, and_true, and_self, Nat.reduceBEq, QOp.loads, boxO, bslO, buildO, cutL, fillV, putL, w54, v54, W]
    refine stepI.splitB (fun hk => ?_) (fun hk => ?_)
    · simp (maxSteps := 4000000) (disch := omega) only [ah, am, Nat.reduceEqDiff, reduceCtorEq, Nat.reduceAdd, Nat.reduceLeDiff, Nat.reduceMul, Nat.reduceLT, if_true, if_false, true_and, and_true, and_self, Nat.reduceBEq, QOp.loads, boxO, bslO, buildO, cutL, fillV, putL, w54, v54, W]
      refine ⟨e.trans e2, ?_⟩
      have : l.findIdx? p = some i := by
        rw [List.findIdx?_eq_some_iff_getElem]
        exact ⟨hi', hk, fun j hj => by rw [F j (by omega) hj]; decide⟩
      rw [this]
    · simp (maxSteps := 4000000) (disch := omega) only [ah, am, Nat.reduceEqDiff, reduceCtorEq, Nat.reduceAdd, Nat.reduceLeDiff, Nat.reduceMul, Nat.reduceLT, if_true, if_false, true_and, and_true, and_self, Nat.reduceBEq, QOp.loads, boxO, bslO, buildO, cutL, fillV, putL, w54, v54, W]
      refine ⟨hi', e.trans e2, fun j hj hj2 => ?_⟩
      by_cases hji : j = i
      · subst hji; exact hk
      · exact F j hj (by omega)
  · simp (maxSteps := 4000000) (disch := omega) only [ah, am, Nat.reduceEqDiff, reduceCtorEq, Nat.reduceAdd, Nat.reduceLeDiff, Nat.reduceMul, Nat.reduceLT, if_true, if_false, true_and, and_true, and_self, Nat.reduceBEq, QOp.loads, boxO, bslO, buildO, cutL, fillV, putL, w54, v54, R, W]
    obtain rfl : i = l.length := by omega
    refine ⟨e, ?_⟩
    have : l.findIdx? p = none := by
      rw [List.findIdx?_eq_none_iff]
      intro x hx
      obtain ⟨j, hj, rfl⟩ := List.getElem_of_mem hx
      exact F j hj hj
    rw [this]
theorem findIdx_any {α : Type} (l : List α) (p : α → Bool) : decide ((0 : Int) ≤ (match l.findIdx? p with | some j => (j : Int) | none => -1)) = l.any p := by
  cases hq : l.findIdx? p with
  | none =>
    rw [List.findIdx?_eq_none_iff] at hq
    have : l.any p = false := by rw [List.any_eq_false]; intro x hx; rw [hq x hx]; decide
    rw [this]; rfl
  | some j =>
    rw [List.findIdx?_eq_some_iff_getElem] at hq
    obtain ⟨hj, hp, _⟩ := hq
    have : l.any p = true := List.any_eq_true.mpr ⟨_, List.getElem_mem hj, hp⟩
    rw [this]
    exact decide_eq_true (by simp)
theorem ContainsFuncI_ok (h : Heap) (v : Value) (l : List Int) (n : Nat) (cap : Array Value) (p : Int → Bool) (s : SlT h encI 1 v l) (hl : l.length ≤ 281474976710656)
    (hf : ∃ fn, Try.prog.funcs[n]? = some fn ∧ fn.body.isSome = true ∧ fn.name ≠ "runtime.NumGoroutine")
    (H : ∀ h' k, Ext h h' → k ∈ l → ACall Try.prog n ([.int .i64 k] ++ cap.toList) h' fun r h2 => Ext h' h2 ∧ r = .bool (p k)) :
    ACall Try.prog 40 [v, .func (.func n) #[] cap] h fun r h' => Ext h h' ∧ r = .bool (l.any p) := by
  refine ACall.of Try.func40 s40 (of_decide_eq_true rfl) ?_
  simp (maxSteps := 4000000) (disch := omega) only [ah, am, Nat.reduceEqDiff, reduceCtorEq, Nat.reduceAdd, Nat.reduceLeDiff, Nat.reduceMul, Nat.reduceLT, if_true, if_false, true_and, and_true, and_self, Nat.reduceBEq, QOp.loads, boxO, bslO, buildO, cutL, fillV, putL, w40, v40]
  refine stepC.of (IndexFuncI_ok h v l n cap p s hl hf H) ?_
  rintro _ H1 ⟨e, rfl⟩
  simp (maxSteps := 4000000) (disch := omega) only [ah, am, Nat.reduceEqDiff, reduceCtorEq, Nat.reduceAdd, Nat.reduceLeDiff, Nat.reduceMul, Nat.reduceLT, if_true, if_false, true_and, and_true, and_self, Nat.reduceBEq, QOp.loads, boxO, bslO, buildO, cutL, fillV, putL, w40, v40]
  exact ⟨e, by rw [findIdx_any]⟩
/-! ### A matrix -/
def mrF (m : List Int) (c : Rgb) (i : Nat) : Int := min (max (near (m.getD (3 * i) 0 * c.r + m.getD (3 * i + 1) 0 * c.g + m.getD (3 * i + 2) 0 * c.b) 4096) 0) 65535
def matOk (m : List Int) (c : Rgb) : Prop := rgbOk c ∧ m.length = 9 ∧ ∀ x ∈ m, -65536 ≤ x ∧ x ≤ 65536
instance (m : List Int) (c : Rgb) : Decidable (matOk m c) := by unfold matOk; infer_instance
def matF (m : List Int) (c : Rgb) : Rgb := if matOk m c then ⟨mrF m c 0, mrF m c 1, mrF m c 2⟩ else zRgb
theorem Matrix1_ok (h : Heap) (x : Int) : ACall Try.prog 41 [.int .i64 x] h fun r h' => Ext h h' ∧ r = .bool (!decide (-65536 ≤ x ∧ x ≤ 65536)) := by
  refine ACall.of Try.func41 s41 (of_decide_eq_true rfl) ?_
  simp (maxSteps := 4000000) (disch := omega) only [ah, am, Nat.reduceEqDiff, reduceCtorEq, Nat.reduceAdd, Nat.reduceLeDiff, Nat.reduceMul, Nat.reduceLT, if_true, if_false, true_and, and_true, and_self, Nat.reduceBEq, QOp.loads, boxO, bslO, buildO, cutL, fillV, putL, w41, v41]
  refine stepC.of (in_ok _ _ _ _) ?_
  rintro _ Hx ⟨hx, rfl⟩; rw [hx]; clear hx Hx
  simp (maxSteps := 4000000) (disch := omega) only [ah, am, Nat.reduceEqDiff, reduceCtorEq, Nat.reduceAdd, Nat.reduceLeDiff, Nat.reduceMul, Nat.reduceLT, if_true, if_false, true_and, and_true, and_self, Nat.reduceBEq, QOp.loads, boxO, bslO, buildO, cutL, fillV, putL, w41, v41]
  exact Ext.refl _
theorem Curve1_ok (h : Heap) (x : Int) : ACall Try.prog 45 [.int .i64 x] h fun r h' => Ext h h' ∧ r = .bool (!decide (0 ≤ x ∧ x ≤ 65535)) := by
  refine ACall.of Try.func45 s45 (of_decide_eq_true rfl) ?_
  simp (maxSteps := 4000000) (disch := omega) only [ah, am, Nat.reduceEqDiff, reduceCtorEq, Nat.reduceAdd, Nat.reduceLeDiff, Nat.reduceMul, Nat.reduceLT, if_true, if_false, true_and, and_true, and_self, Nat.reduceBEq, QOp.loads, boxO, bslO, buildO, cutL, fillV, putL, w45, v45]
  refine stepC.of (isValue_ok _ _) ?_
  rintro _ Hx ⟨hx, rfl⟩; rw [hx]; clear hx Hx
  simp (maxSteps := 4000000) (disch := omega) only [ah, am, Nat.reduceEqDiff, reduceCtorEq, Nat.reduceAdd, Nat.reduceLeDiff, Nat.reduceMul, Nat.reduceLT, if_true, if_false, true_and, and_true, and_self, Nat.reduceBEq, QOp.loads, boxO, bslO, buildO, cutL, fillV, putL, w45, v45]
  exact Ext.refl _
theorem pick_ok (h : Heap) (v : Value) (l : List Int) (n : Int) (s : SlT h encByte 1 v l) (hl : l.length ≤ 4096) (hb : ∀ x ∈ l, 0 ≤ x ∧ x ≤ 255) (hn : 0 < n) : ACall Try.prog 17 [v, .int .i64 n] h fun r h' => h' = h ∧ ∃ x, r = .int .i64 x ∧ 0 ≤ x ∧ x < n := by
  refine ACall.of Try.func17 s17 (of_decide_eq_true rfl) ?_
  have R := s.rulesN
  simp (maxSteps := 4000000) (disch := omega) only [ah, am, Nat.reduceEqDiff, reduceCtorEq, Nat.reduceAdd, Nat.reduceLeDiff, Nat.reduceMul, Nat.reduceLT, if_true, if_false, true_and, and_true, and_self, Nat.reduceBEq, QOp.loads, boxO, bslO, buildO, cutL, fillV, putL, w17, v17, R]
  refine SW_loop_up (fun i E K => K = h ∧ ∃ k : Int, (0 ≤ k ∧ k ≤ 1000003) ∧ E = [(0, v), (1, .int .i64 n), (5, .int .i64 k), (6, .int .i64 (i : Int))]) l.length 0 (by omega) ⟨rfl, l.length, by omega, rfl⟩ ?_
  rintro i E K hi ⟨rfl, k, hk, rfl⟩
  have W : IntKind.i64.wrap ((i : Int) + 1) = ((i + 1 : Nat) : Int) := i64e (by omega) (by omega)
  simp (maxSteps := 4000000) (disch := omega) only [ah, am, Nat.reduceEqDiff, reduceCtorEq, Nat.reduceAdd, Nat.reduceLeDiff, Nat.reduceMul, Nat.reduceLT, if_true, if_false, true_and, and_true, and_self, Nat.reduceBEq, QOp.loads, boxO, bslO, buildO, cutL, fillV, putL, w17, v17, R]
  refine stepI.split (fun hp => ?_) (fun hp => ?_)
  · have hx := hb (l[i]'(by omega)) (List.getElem_mem _)
    have h3 : (1000003 : Int) ≠ 0 := by omega
    simp (maxSteps := 4000000) (disch := omega) only [ah, am, Nat.reduceEqDiff, reduceCtorEq, Nat.reduceAdd, Nat.reduceLeDiff, Nat.reduceMul, Nat.reduceLT, if_true, if_false, true_and, and_true, and_self, Nat.reduceBEq, QOp.loads, boxO, bslO, buildO, cutL, fillV, putL, w17, v17, R, W, encByte, i64w, h3, ne_eq]
    rw [Int.tmod_eq_emod_of_nonneg (by omega)]
    exact ⟨by omega, _, ⟨Int.emod_nonneg _ h3, by have := Int.emod_lt_of_pos (k * 43 + l[i]'(by omega)) (show (0 : Int) < 1000003 by omega); omega⟩, rfl⟩
  · have hn0 : n ≠ 0 := by omega
    simp (maxSteps := 4000000) (disch := omega) only [ah, am, Nat.reduceEqDiff, reduceCtorEq, Nat.reduceAdd, Nat.reduceLeDiff, Nat.reduceMul, Nat.reduceLT, if_true, if_false, true_and, and_true, and_self, Nat.reduceBEq, QOp.loads, boxO, bslO, buildO, cutL, fillV, putL, w17, v17, hn0, ne_eq]
    rw [Int.tmod_eq_emod_of_nonneg (by omega)]
    exact ⟨_, rfl, Int.emod_nonneg _ hn0, Int.emod_lt_of_pos _ hn⟩
theorem rdS {K : Heap} {v : Value} {l : List Int} (o : SlT K encI 1 v l) {i : Nat} (hi : i < l.length) : iaV 1 v (.int .i64 (i : Int)) = some (ptrAt v i) ∧ ldV K (ptrAt v i) = some (.int .i64 (l.getD i 0)) := by
  have a := o.rulesN.2.1 .i64 i hi
  have b := o.rulesN.2.2.2.2.1 i hi
  rw [Nat.mul_one] at a b
  exact ⟨a, by rw [b, getD_atE hi]; rfl⟩
def msP (m : List Int) (c : Rgb) (i : Nat) : List Int := ([mrF m c 0, mrF m c 1, mrF m c 2] : List Int).take i ++ List.replicate (3 - i) 0
theorem ms_set (m : List Int) (c : Rgb) (i : Nat) (hi : i < 3) : (msP m c i).set i (mrF m c i) = msP m c (i + 1) ∧ (msP m c i).length = 3 := by
  have h3 : i = 0 ∨ i = 1 ∨ i = 2 := by omega
  rcases h3 with rfl | rfl | rfl <;> exact ⟨rfl, rfl⟩
theorem Matrix_ok (h : Heap) (v : Value) (m : List Int) (c : Rgb) (s : SlT h encI 1 v m) (hl : m.length ≤ 281474976710656) :
    ACall Try.prog 15 [v, .agg (encRgb c).toArray] h fun r h' => Ext h h' ∧ r = .agg (encRgb (matF m c)).toArray := by
  refine ACall.of Try.func15 s15 (of_decide_eq_true rfl) ?_
  simp (maxSteps := 4000000) (disch := omega) only [ah, am, Nat.reduceEqDiff, reduceCtorEq, Nat.reduceAdd, Nat.reduceLeDiff, Nat.reduceMul, Nat.reduceLT, if_true, if_false, true_and, and_true, and_self, Nat.reduceBEq, QOp.loads, boxO, bslO, buildO, cutL, fillV, putL, w15, v15, encRgb]
  have B6 : Bx (h.more [[.int .i64 c.r, .int .i64 c.g, .int .i64 c.b], [.int .i64 0, .int .i64 0, .int .i64 0]]) (h.size + 1) [.int .i64 0, .int .i64 0, .int .i64 0] := by unfold Bx; rw [get_more]; rfl
  have B5 : Bx (h.more [[.int .i64 c.r, .int .i64 c.g, .int .i64 c.b], [.int .i64 0, .int .i64 0, .int .i64 0]]) h.size [.int .i64 c.r, .int .i64 c.g, .int .i64 c.b] := Bx.new h _ _
  have E0 := Ext.more h [[.int .i64 c.r, .int .i64 c.g, .int .i64 c.b], [.int .i64 0, .int .i64 0, .int .i64 0]]
  generalize h.more [[.int .i64 c.r, .int .i64 c.g, .int .i64 c.b], [.int .i64 0, .int .i64 0, .int .i64 0]] = H0 at B6 B5 E0 ⊢
  have none0 : ∀ {K : Heap}, Ext H0 K → ∃ K2, stV K 3 (.pointer (some ⟨h.size + 1, 0, none⟩)) (.agg #[.int .i64 0, .int .i64 0, .int .i64 0]) = some K2 ∧ Ext h K2 ∧ ldnV K2 3 (.pointer (some ⟨h.size + 1, 0, none⟩)) = some (.agg #[.int .i64 0, .int .i64 0, .int .i64 0]) := by
    intro K e
    obtain ⟨K2, es, b2, g⟩ := (B6.ext e).put (o := 0) (n := 3) (y := .agg #[.int .i64 0, .int .i64 0, .int .i64 0]) rfl (by simp) rfl
    refine ⟨K2, es, g.ext (E0.trans e) (by omega), ?_⟩
    have := b2.ld.2 0 3
    simpa [splice, cells_agg, cutL] using this
  have zz : ¬ matOk m c → matF m c = zRgb := fun q => if_neg q
  refine stepC.of (Rgbok_ok _ c) ?_
  rintro _ H1 ⟨e1, rfl⟩
  by_cases c3 : rgbOk c
  rotate_left
  · obtain ⟨K2, es, e2, l2⟩ := none0 e1
    simp (maxSteps := 4000000) (disch := omega) only [ah, am, Nat.reduceEqDiff, reduceCtorEq, Nat.reduceAdd, Nat.reduceLeDiff, Nat.reduceMul, Nat.reduceLT, if_true, if_false, true_and, and_true, and_self, Nat.reduceBEq, QOp.loads, boxO, bslO, buildO, cutL, fillV, putL, w15, v15, decide_eq_false c3, Bool.not_false, es, l2]
    rw [zz fun q => c3 q.1]; exact ⟨e2, rfl⟩
  have R := (s.ext (E0.trans e1)).rulesN
  by_cases c1 : m.length = 9
  rotate_left
  · obtain ⟨K2, es, e2, l2⟩ := none0 e1
    have hne : decide ((m.length : Int) ≠ 9) = true := decide_eq_true (by omega)
    simp (maxSteps := 4000000) (disch := omega) only [ah, am, Nat.reduceEqDiff, reduceCtorEq, Nat.reduceAdd, Nat.reduceLeDiff, Nat.reduceMul, Nat.reduceLT, if_true, if_false, true_and, and_true, and_self, Nat.reduceBEq, QOp.loads, boxO, bslO, buildO, cutL, fillV, putL, w15, v15, decide_eq_true c3, Bool.not_true, R, hne, decide_eq_false (show ¬ ((m.length : Int) = 9) by omega), Bool.not_false, es, l2]
    rw [zz fun q => c1 q.2.1]; exact ⟨e2, rfl⟩
  have hne : decide ((m.length : Int) ≠ 9) = false := decide_eq_false (by omega)
  simp (maxSteps := 4000000) (disch := omega) only [ah, am, Nat.reduceEqDiff, reduceCtorEq, Nat.reduceAdd, Nat.reduceLeDiff, Nat.reduceMul, Nat.reduceLT, if_true, if_false, true_and, and_true, and_self, Nat.reduceBEq, QOp.loads, boxO, bslO, buildO, cutL, fillV, putL, w15, v15, decide_eq_true c3, Bool.not_true, R, hne, decide_eq_true (show (m.length : Int) = 9 by omega), Bool.not_false]
  refine stepC.of (ContainsFuncI_ok _ v m 41 #[] (fun x => !decide (-65536 ≤ x ∧ x ≤ 65536)) (s.ext (E0.trans e1)) (by omega) ⟨_, Try.func41, rfl, by decide⟩ (fun h' k _ _ => Matrix1_ok h' k)) ?_
  rintro _ H2 ⟨e2, rfl⟩
  have E2 := e1.trans e2
  cases hany : m.any (fun x => !decide (-65536 ≤ x ∧ x ≤ 65536)) with
  | true =>
    obtain ⟨K2, es, e2, l2⟩ := none0 E2
    simp (maxSteps := 4000000) (disch := omega) only [ah, am, Nat.reduceEqDiff, reduceCtorEq, Nat.reduceAdd, Nat.reduceLeDiff, Nat.reduceMul, Nat.reduceLT, if_true, if_false, true_and, and_true, and_self, Nat.reduceBEq, QOp.loads, boxO, bslO, buildO, cutL, fillV, putL, w15, v15, es, l2]
    rw [zz fun q => ?_]
    · exact ⟨e2, rfl⟩
    · rw [List.any_eq_true] at hany
      obtain ⟨x, hx, hb⟩ := hany
      rw [decide_eq_true (q.2.2 x hx)] at hb; cases hb
  | false =>
  have c4 : ∀ x ∈ m, -65536 ≤ x ∧ x ≤ 65536 := fun x hx => by
    rw [List.any_eq_false] at hany
    simpa using hany x hx
  rw [show matF m c = ⟨mrF m c 0, mrF m c 1, mrF m c 2⟩ from if_pos ⟨c3, c1, c4⟩]
  clear none0 zz
  obtain ⟨u1, u2, u3⟩ := id c3
  have mb : ∀ j, -65536 ≤ m.getD j 0 ∧ m.getD j 0 ≤ 65536 := fun j => by
    by_cases hj : j < m.length
    · rw [getD_atE hj]; exact c4 _ (List.getElem_mem _)
    · rw [show m.getD j 0 = 0 by simp [List.getD]; rw [List.getElem?_eq_none (by omega)]; rfl]; omega
  have pb : ∀ j (z : Int), 0 ≤ z ∧ z ≤ 65535 → -4294901760 ≤ m.getD j 0 * z ∧ m.getD j 0 * z ≤ 4294901760 := fun j z hz => by
    have := mul_bound hz.1 hz.2 (N := 65536) (mb j).1 (mb j).2
    rw [Int.mul_comm]; omega
  simp (maxSteps := 4000000) (disch := omega) only [ah, am, Nat.reduceEqDiff, reduceCtorEq, Nat.reduceAdd, Nat.reduceLeDiff, Nat.reduceMul, Nat.reduceLT, if_true, if_false, true_and, and_true, and_self, Nat.reduceBEq, QOp.loads, boxO, bslO, buildO, cutL, fillV, putL, w15, v15]
  have Bo : Bx (H2.more [[.int .i64 0, .int .i64 0, .int .i64 0]]) H2.size [.int .i64 0, .int .i64 0, .int .i64 0] := Bx.new _ _ _
  have eM := Ext.more H2 [[.int .i64 0, .int .i64 0, .int .i64 0]]
  have hq2 := Heap.get_lt (B6.ext E2)
  refine SW_loop_up (fun i E K => Ext h K ∧ Bx K h.size [.int .i64 c.r, .int .i64 c.g, .int .i64 c.b] ∧ Bx K (h.size + 1) [.int .i64 0, .int .i64 0, .int .i64 0] ∧ Bx K H2.size ((msP m c i).map (.int .i64)) ∧
    E = [(0, v), (3, .pointer (some ⟨h.size, 0, none⟩)), (4, .pointer (some ⟨h.size + 1, 0, none⟩)), (5, .pointer (some ⟨H2.size, 0, none⟩)), (22, .int .i64 (i : Int))]) 3 0 (by omega) ?_ ?_
  · exact ⟨E0.trans (E2.trans eM), B5.ext (E2.trans eM), B6.ext (E2.trans eM), Bo, rfl⟩
  rintro i E K hi ⟨eK, b5, b6, bo, rfl⟩
  simp (maxSteps := 4000000) (disch := omega) only [ah, am, Nat.reduceEqDiff, reduceCtorEq, Nat.reduceAdd, Nat.reduceLeDiff, Nat.reduceMul, Nat.reduceLT, if_true, if_false, true_and, and_true, and_self, Nat.reduceBEq, QOp.loads, boxO, bslO, buildO, cutL, fillV, putL, w15, v15]
  refine stepI.split (fun hp => ?_) (fun hp => ?_)
  · have hi3 : i < 3 := by omega
    have z1 := pb (3 * i) c.r u1
    have z2 := pb (3 * i + 1) c.g u2
    have z3 := pb (3 * i + 2) c.b u3
    have w0 : IntKind.i64.wrap (3 * (i : Int)) = ((3 * i : Nat) : Int) := i64e (by omega) (by omega)
    have w1 : IntKind.i64.wrap (((3 * i : Nat) : Int) + 1) = ((3 * i + 1 : Nat) : Int) := i64e (by omega) (by omega)
    have w2 : IntKind.i64.wrap (((3 * i : Nat) : Int) + 2) = ((3 * i + 2 : Nat) : Int) := i64e (by omega) (by omega)
    have w3 : IntKind.i64.wrap (m.getD (3 * i) 0 * c.r) = m.getD (3 * i) 0 * c.r := i64w (by omega)
    have w4 : IntKind.i64.wrap (m.getD (3 * i + 1) 0 * c.g) = m.getD (3 * i + 1) 0 * c.g := i64w (by omega)
    have w5 : IntKind.i64.wrap (m.getD (3 * i + 2) 0 * c.b) = m.getD (3 * i + 2) 0 * c.b := i64w (by omega)
    have w6 : IntKind.i64.wrap (m.getD (3 * i) 0 * c.r + m.getD (3 * i + 1) 0 * c.g) = m.getD (3 * i) 0 * c.r + m.getD (3 * i + 1) 0 * c.g := i64w (by omega)
    have w7 : IntKind.i64.wrap (m.getD (3 * i) 0 * c.r + m.getD (3 * i + 1) 0 * c.g + m.getD (3 * i + 2) 0 * c.b) = m.getD (3 * i) 0 * c.r + m.getD (3 * i + 1) 0 * c.g + m.getD (3 * i + 2) 0 * c.b := i64w (by omega)
    have W : IntKind.i64.wrap ((i : Int) + 1) = ((i + 1 : Nat) : Int) := i64e (by omega) (by omega)
    have R0 := rdS (s.ext eK) (i := 3 * i) (by omega)
    have R1 := rdS (s.ext eK) (i := 3 * i + 1) (by omega)
    have R2 := rdS (s.ext eK) (i := 3 * i + 2) (by omega)
    have X := b5.ld
    simp (maxSteps := 4000000) (disch := omega) only [ah, am, Nat.reduceEqDiff, reduceCtorEq, Nat.reduceAdd, Nat.reduceLeDiff, Nat.reduceMul, Nat.reduceLT, if_true, if_false, true_and, and_true, and_self, Nat.reduceBEq, QOp.loads, boxO, bslO, buildO, cutL, fillV, putL, w15, v15, w0, w1, w2, w3, w4, w5, w6, w7, R0, R1, R2, X]
    refine stepC.of (near_ok _ _ _ (by omega) (by omega)) ?_
    rintro _ Hx ⟨hx, rfl⟩; rw [hx]; clear hx Hx
    obtain ⟨K2, es, bo2, g⟩ := bo.put (o := i) (n := 1) (y := .int .i64 (mrF m c i)) rfl (by rw [List.length_map, (ms_set m c i hi3).2]; omega) rfl
    have bo2 : Bx K2 H2.size ((msP m c (i + 1)).map (.int .i64)) := by
      rw [← (ms_set m c i hi3).1]
      have h3 : i = 0 ∨ i = 1 ∨ i = 2 := by omega
      rcases h3 with rfl | rfl | rfl <;> exact bo2
    have hm : (if 65535 < (if near (m.getD (3 * i) 0 * c.r + m.getD (3 * i + 1) 0 * c.g + m.getD (3 * i + 2) 0 * c.b) 4096 < 0 then 0 else near (m.getD (3 * i) 0 * c.r + m.getD (3 * i + 1) 0 * c.g + m.getD (3 * i + 2) 0 * c.b) 4096) then 65535 else (if near (m.getD (3 * i) 0 * c.r + m.getD (3 * i + 1) 0 * c.g + m.getD (3 * i + 2) 0 * c.b) 4096 < 0 then 0 else near (m.getD (3 * i) 0 * c.r + m.getD (3 * i + 1) 0 * c.g + m.getD (3 * i + 2) 0 * c.b) 4096)) = mrF m c i := by
      unfold mrF; generalize near _ 4096 = z; repeat' split
      all_goals omega
    simp (maxSteps := 4000000) (disch := omega) only [ah, am, Nat.reduceEqDiff, reduceCtorEq, Nat.reduceAdd, Nat.reduceLeDiff, Nat.reduceMul, Nat.reduceLT, if_true, if_false, true_and, and_true, and_self, Nat.reduceBEq, QOp.loads, boxO, bslO, buildO, cutL, fillV, putL, w15, v15, Nat.mul_one, W, hm, es]
    exact ⟨by omega, g.ext eK (by omega), b5.step g (by omega), b6.step g (by omega), bo2⟩
  · have : i = 3 := by omega
    subst this
    have V5 : ldnV K 3 (.pointer (some ⟨H2.size, 0, none⟩)) = some (.agg (encRgb ⟨mrF m c 0, mrF m c 1, mrF m c 2⟩).toArray) := by rw [bo.ld.2]; rfl
    simp (maxSteps := 4000000) (disch := omega) only [ah, am, Nat.reduceEqDiff, reduceCtorEq, Nat.reduceAdd, Nat.reduceLeDiff, Nat.reduceMul, Nat.reduceLT, if_true, if_false, true_and, and_true, and_self, Nat.reduceBEq, QOp.loads, boxO, bslO, buildO, cutL, fillV, putL, w15, v15, V5]
    refine stepC.of (rgbOf_ok _ _) ?_
    rintro _ Kp ⟨ep, rfl⟩
    obtain ⟨K2, es, b2, g⟩ := (b6.ext ep).put (o := 0) (n := 3) (y := .agg (encRgb ⟨mrF m c 0, mrF m c 1, mrF m c 2⟩).toArray) rfl (by simp) rfl
    have V6 : ldnV K2 3 (.pointer (some ⟨h.size + 1, 0, none⟩)) = some (.agg (encRgb ⟨mrF m c 0, mrF m c 1, mrF m c 2⟩).toArray) := by rw [b2.ld.2]; rfl
    simp (maxSteps := 4000000) (disch := omega) only [ah, am, Nat.reduceEqDiff, reduceCtorEq, Nat.reduceAdd, Nat.reduceLeDiff, Nat.reduceMul, Nat.reduceLT, if_true, if_false, true_and, and_true, and_self, Nat.reduceBEq, QOp.loads, boxO, bslO, buildO, cutL, fillV, putL, w15, v15, es, V6]
    exact ⟨g.ext (eK.trans ep) (by omega), rfl⟩
theorem specMatrix_ok (h : Heap) (v : Value) (m : List Int) (c : Rgb) (s : SlT h encI 1 v m) (hl : m.length ≤ 281474976710656) :
    ACall Try.prog 16 [v, .agg (encRgb c).toArray] h fun r h' => Ext h h' ∧ r = .agg (encRgb (matF m c)).toArray := by
  refine ACall.of Try.func16 s16 (of_decide_eq_true rfl) ?_
  simp (maxSteps := 4000000) (disch := omega) only [ah, am, Nat.reduceEqDiff, reduceCtorEq, Nat.reduceAdd, Nat.reduceLeDiff, Nat.reduceMul, Nat.reduceLT, if_true, if_false, true_and, and_true, and_self, Nat.reduceBEq, QOp.loads, boxO, bslO, buildO, cutL, fillV, putL, w16, v16, encRgb]
  have B6 : Bx (h.more [[.int .i64 c.r, .int .i64 c.g, .int .i64 c.b], [.int .i64 0, .int .i64 0, .int .i64 0]]) (h.size + 1) [.int .i64 0, .int .i64 0, .int .i64 0] := by unfold Bx; rw [get_more]; rfl
  have B5 : Bx (h.more [[.int .i64 c.r, .int .i64 c.g, .int .i64 c.b], [.int .i64 0, .int .i64 0, .int .i64 0]]) h.size [.int .i64 c.r, .int .i64 c.g, .int .i64 c.b] := Bx.new h _ _
  have E0 := Ext.more h [[.int .i64 c.r, .int .i64 c.g, .int .i64 c.b], [.int .i64 0, .int .i64 0, .int .i64 0]]
  generalize h.more [[.int .i64 c.r, .int .i64 c.g, .int .i64 c.b], [.int .i64 0, .int .i64 0, .int .i64 0]] = H0 at B6 B5 E0 ⊢
  have none0 : ∀ {K : Heap}, Ext H0 K → ∃ K2, stV K 3 (.pointer (some ⟨h.size + 1, 0, none⟩)) (.agg #[.int .i64 0, .int .i64 0, .int .i64 0]) = some K2 ∧ Ext h K2 ∧ ldnV K2 3 (.pointer (some ⟨h.size + 1, 0, none⟩)) = some (.agg #[.int .i64 0, .int .i64 0, .int .i64 0]) := by
    intro K e
    obtain ⟨K2, es, b2, g⟩ := (B6.ext e).put (o := 0) (n := 3) (y := .agg #[.int .i64 0, .int .i64 0, .int .i64 0]) rfl (by simp) rfl
    refine ⟨K2, es, g.ext (E0.trans e) (by omega), ?_⟩
    have := b2.ld.2 0 3
    simpa [splice, cells_agg, cutL] using this
  have zz : ¬ matOk m c → matF m c = zRgb := fun q => if_neg q
  refine stepC.of (l9Rgb_ok _ c) ?_
  rintro _ H1 ⟨e1, rfl⟩
  by_cases c3 : rgbOk c
  rotate_left
  · obtain ⟨K2, es, e2, l2⟩ := none0 e1
    simp (maxSteps := 4000000) (disch := omega) only [ah, am, Nat.reduceEqDiff, reduceCtorEq, Nat.reduceAdd, Nat.reduceLeDiff, Nat.reduceMul, Nat.reduceLT, if_true, if_false, true_and, and_true, and_self, Nat.reduceBEq, QOp.loads, boxO, bslO, buildO, cutL, fillV, putL, w16, v16, decide_eq_false c3, Bool.not_false, es, l2]
    rw [zz fun q => c3 q.1]; exact ⟨e2, rfl⟩
  have R := (s.ext (E0.trans e1)).rulesN
  by_cases c1 : m.length = 9
  rotate_left
  · obtain ⟨K2, es, e2, l2⟩ := none0 e1
    simp (maxSteps := 4000000) (disch := omega) only [ah, am, Nat.reduceEqDiff, reduceCtorEq, Nat.reduceAdd, Nat.reduceLeDiff, Nat.reduceMul, Nat.reduceLT, if_true, if_false, true_and, and_true, and_self, Nat.reduceBEq, QOp.loads, boxO, bslO, buildO, cutL, fillV, putL, w16, v16, decide_eq_true c3, Bool.not_true, R, decide_eq_false (show ¬ ((m.length : Int) = 9) by omega), Bool.not_false, es, l2]
    rw [zz fun q => c1 q.2.1]; exact ⟨e2, rfl⟩
  simp (maxSteps := 4000000) (disch := omega) only [ah, am, Nat.reduceEqDiff, reduceCtorEq, Nat.reduceAdd, Nat.reduceLeDiff, Nat.reduceMul, Nat.reduceLT, if_true, if_false, true_and, and_true, and_self, Nat.reduceBEq, QOp.loads, boxO, bslO, buildO, cutL, fillV, putL, w16, v16, decide_eq_true c3, Bool.not_true, R, decide_eq_true (show (m.length : Int) = 9 by omega), Bool.not_false]
  refine SW_loop_up (fun i E K => Ext H0 K ∧ (∀ j (hj : j < m.length), j < i → -65536 ≤ m[j] ∧ m[j] ≤ 65536) ∧ E = [(0, v), (3, .pointer (some ⟨h.size, 0, none⟩)), (4, .pointer (some ⟨h.size + 1, 0, none⟩)), (5, .int .i64 (i : Int))]) 9 0 (by omega) ?_ ?_
  · exact ⟨e1, fun j _ hj => by omega, rfl⟩
  rintro i E K hi ⟨eK, F, rfl⟩
  simp (maxSteps := 4000000) (disch := omega) only [ah, am, Nat.reduceEqDiff, reduceCtorEq, Nat.reduceAdd, Nat.reduceLeDiff, Nat.reduceMul, Nat.reduceLT, if_true, if_false, true_and, and_true, and_self, Nat.reduceBEq, QOp.loads, boxO, bslO, buildO, cutL, fillV, putL, w16, v16]
  refine stepI.split (fun hp => ?_) (fun hp => ?_)
  · have R0 := rdS (s.ext (E0.trans eK)) (i := i) (by omega)
    have W : IntKind.i64.wrap ((i : Int) + 1) = ((i + 1 : Nat) : Int) := i64e (by omega) (by omega)
    simp (maxSteps := 4000000) (disch := omega) only [ah, am, Nat.reduceEqDiff, reduceCtorEq, Nat.reduceAdd, Nat.reduceLeDiff, Nat.reduceMul, Nat.reduceLT, if_true, if_false, true_and, and_true, and_self, Nat.reduceBEq, QOp.loads, boxO, bslO, buildO, cutL, fillV, putL, w16, v16, R0]
    refine stepC.of (l1In_ok _ _ _ _) ?_
    rintro _ Hx ⟨hx, rfl⟩; rw [hx]; clear hx Hx
    by_cases c5 : -65536 ≤ m.getD i 0 ∧ m.getD i 0 ≤ 65536
    · simp (maxSteps := 4000000) (disch := omega) only [ah, am, Nat.reduceEqDiff, reduceCtorEq, Nat.reduceAdd, Nat.reduceLeDiff, Nat.reduceMul, Nat.reduceLT, if_true, if_false, true_and, and_true, and_self, Nat.reduceBEq, QOp.loads, boxO, bslO, buildO, cutL, fillV, putL, w16, v16, decide_eq_true c5, Bool.not_true, W]
      refine ⟨by omega, eK, fun j hj h2 => ?_⟩
      by_cases hji : j = i
      · subst hji; rw [getD_atE hj] at c5; exact c5
      · exact F j hj (by omega)
    · obtain ⟨K3, es, e2, l2⟩ := none0 eK
      simp (maxSteps := 4000000) (disch := omega) only [ah, am, Nat.reduceEqDiff, reduceCtorEq, Nat.reduceAdd, Nat.reduceLeDiff, Nat.reduceMul, Nat.reduceLT, if_true, if_false, true_and, and_true, and_self, Nat.reduceBEq, QOp.loads, boxO, bslO, buildO, cutL, fillV, putL, w16, v16, decide_eq_false c5, Bool.not_false, es, l2]
      rw [zz fun q => c5 (by rw [getD_atE (by omega)]; exact q.2.2 _ (List.getElem_mem _))]; exact ⟨e2, rfl⟩
  have c4 : ∀ x ∈ m, -65536 ≤ x ∧ x ≤ 65536 := fun x hx => by
    obtain ⟨j, hj, rfl⟩ := List.getElem_of_mem hx
    exact F j hj (by omega)
  rw [show matF m c = ⟨mrF m c 0, mrF m c 1, mrF m c 2⟩ from if_pos ⟨c3, c1, c4⟩]
  clear none0 zz
  obtain ⟨u1, u2, u3⟩ := id c3
  have mb : ∀ j, -65536 ≤ m.getD j 0 ∧ m.getD j 0 ≤ 65536 := fun j => by
    by_cases hj : j < m.length
    · rw [getD_atE hj]; exact c4 _ (List.getElem_mem _)
    · rw [show m.getD j 0 = 0 by simp [List.getD]; rw [List.getElem?_eq_none (by omega)]; rfl]; omega
  have pb : ∀ j (z : Int), 0 ≤ z ∧ z ≤ 65535 → -4294901760 ≤ m.getD j 0 * z ∧ m.getD j 0 * z ≤ 4294901760 := fun j z hz => by
    have := mul_bound hz.1 hz.2 (N := 65536) (mb j).1 (mb j).2
    rw [Int.mul_comm]; omega
  simp (maxSteps := 4000000) (disch := omega) only [ah, am, Nat.reduceEqDiff, reduceCtorEq, Nat.reduceAdd, Nat.reduceLeDiff, Nat.reduceMul, Nat.reduceLT, if_true, if_false, true_and, and_true, and_self, Nat.reduceBEq, QOp.loads, boxO, bslO, buildO, cutL, fillV, putL, w16, v16]
  have Bo : Bx (K.more [[.int .i64 0, .int .i64 0, .int .i64 0]]) K.size [.int .i64 0, .int .i64 0, .int .i64 0] := Bx.new _ _ _
  have Oo := Bx_own Bo (enc := encI) (sz := 1) [0, 0, 0] encI_len (by omega) rfl
  have eM := Ext.more K [[.int .i64 0, .int .i64 0, .int .i64 0]]
  have hq2 := Heap.get_lt (B6.ext eK)
  obtain ⟨ov, hov⟩ : ∃ ov : Value, ov = .slice (some ⟨K.size, 0, none⟩) 3 1 := ⟨_, rfl⟩
  rw [show ([0, 0, 0] : List Int).length = 3 from rfl, ← hov] at Oo
  rw [← hov]
  obtain ⟨g0, hg0⟩ : ∃ g, g = K.size := ⟨_, rfl⟩
  rw [← hg0] at Oo hq2
  refine SW_loop_up (fun i E K => Ext h K ∧ Bx K h.size [.int .i64 c.r, .int .i64 c.g, .int .i64 c.b] ∧ Bx K (h.size + 1) [.int .i64 0, .int .i64 0, .int .i64 0] ∧ OwnT g0 K encI 1 ov (msP m c i) ∧
    E = [(0, v), (3, .pointer (some ⟨h.size, 0, none⟩)), (4, .pointer (some ⟨h.size + 1, 0, none⟩)), (6, ov), (7, .int .i64 (i : Int))]) 3 0 (by omega) ?_ ?_
  · exact ⟨E0.trans (eK.trans eM), B5.ext (eK.trans eM), B6.ext (eK.trans eM), Oo, rfl⟩
  clear F hp
  rintro i E K hi ⟨eK, b5, b6, Oo, rfl⟩
  simp (maxSteps := 4000000) (disch := omega) only [ah, am, Nat.reduceEqDiff, reduceCtorEq, Nat.reduceAdd, Nat.reduceLeDiff, Nat.reduceMul, Nat.reduceLT, if_true, if_false, true_and, and_true, and_self, Nat.reduceBEq, QOp.loads, boxO, bslO, buildO, cutL, fillV, putL, w16, v16]
  refine stepI.split (fun hp => ?_) (fun hp => ?_)
  · have hi3 : i < 3 := by omega
    have z1 := pb (3 * i) c.r u1
    have z2 := pb (3 * i + 1) c.g u2
    have z3 := pb (3 * i + 2) c.b u3
    have w0 : IntKind.i64.wrap (3 * (i : Int)) = ((3 * i : Nat) : Int) := i64e (by omega) (by omega)
    have w1 : IntKind.i64.wrap (((3 * i : Nat) : Int) + 1) = ((3 * i + 1 : Nat) : Int) := i64e (by omega) (by omega)
    have w2 : IntKind.i64.wrap (((3 * i : Nat) : Int) + 2) = ((3 * i + 2 : Nat) : Int) := i64e (by omega) (by omega)
    have w3 : IntKind.i64.wrap (m.getD (3 * i) 0 * c.r) = m.getD (3 * i) 0 * c.r := i64w (by omega)
    have w4 : IntKind.i64.wrap (m.getD (3 * i + 1) 0 * c.g) = m.getD (3 * i + 1) 0 * c.g := i64w (by omega)
    have w5 : IntKind.i64.wrap (m.getD (3 * i + 2) 0 * c.b) = m.getD (3 * i + 2) 0 * c.b := i64w (by omega)
    have w6 : IntKind.i64.wrap (m.getD (3 * i) 0 * c.r + m.getD (3 * i + 1) 0 * c.g) = m.getD (3 * i) 0 * c.r + m.getD (3 * i + 1) 0 * c.g := i64w (by omega)
    have w7 : IntKind.i64.wrap (m.getD (3 * i) 0 * c.r + m.getD (3 * i + 1) 0 * c.g + m.getD (3 * i + 2) 0 * c.b) = m.getD (3 * i) 0 * c.r + m.getD (3 * i + 1) 0 * c.g + m.getD (3 * i + 2) 0 * c.b := i64w (by omega)
    have W : IntKind.i64.wrap ((i : Int) + 1) = ((i + 1 : Nat) : Int) := i64e (by omega) (by omega)
    have R0 := rdS (s.ext eK) (i := 3 * i) (by omega)
    have R1 := rdS (s.ext eK) (i := 3 * i + 1) (by omega)
    have R2 := rdS (s.ext eK) (i := 3 * i + 2) (by omega)
    have X := b5.ld
    simp (maxSteps := 4000000) (disch := omega) only [ah, am, Nat.reduceEqDiff, reduceCtorEq, Nat.reduceAdd, Nat.reduceLeDiff, Nat.reduceMul, Nat.reduceLT, if_true, if_false, true_and, and_true, and_self, Nat.reduceBEq, QOp.loads, boxO, bslO, buildO, cutL, fillV, putL, w16, v16, w0, w1, w2, w3, w4, w5, w6, w7, R0, R1, R2, X]
    refine stepC.of (l9Round_ok _ _ _ (by omega) (by omega)) ?_
    rintro _ Hx ⟨hx, rfl⟩; rw [hx]; clear hx Hx
    simp (maxSteps := 4000000) (disch := omega) only [ah, am, Nat.reduceEqDiff, reduceCtorEq, Nat.reduceAdd, Nat.reduceLeDiff, Nat.reduceMul, Nat.reduceLT, if_true, if_false, true_and, and_true, and_self, Nat.reduceBEq, QOp.loads, boxO, bslO, buildO, cutL, fillV, putL, w16, v16]
    refine stepC.of (l1Max_ok _ _ _) ?_
    rintro _ Hx ⟨hx, rfl⟩; rw [hx]; clear hx Hx
    simp (maxSteps := 4000000) (disch := omega) only [ah, am, Nat.reduceEqDiff, reduceCtorEq, Nat.reduceAdd, Nat.reduceLeDiff, Nat.reduceMul, Nat.reduceLT, if_true, if_false, true_and, and_true, and_self, Nat.reduceBEq, QOp.loads, boxO, bslO, buildO, cutL, fillV, putL, w16, v16]
    refine stepC.of (l1Min_ok _ _ _) ?_
    rintro _ Hx ⟨hx, rfl⟩; rw [hx]; clear hx Hx
    have hm : min (65535 : Int) (max 0 (near (m.getD (3 * i) 0 * c.r + m.getD (3 * i + 1) 0 * c.g + m.getD (3 * i + 2) 0 * c.b) 4096)) = mrF m c i := by unfold mrF; omega
    have ms := ms_set m c i hi3
    obtain ⟨K2, es, Oo, g⟩ := wrI Oo (i := i) (by rw [ms.2]; omega) (mrF m c i)
    have A := rdI Oo (i := i) (by simp; rw [ms.2]; omega)
    rw [ms.1] at Oo
    simp (maxSteps := 4000000) (disch := omega) only [ah, am, Nat.reduceEqDiff, reduceCtorEq, Nat.reduceAdd, Nat.reduceLeDiff, Nat.reduceMul, Nat.reduceLT, if_true, if_false, true_and, and_true, and_self, Nat.reduceBEq, QOp.loads, boxO, bslO, buildO, cutL, fillV, putL, w16, v16, hm, A.1, es, W]
    exact ⟨by omega, g.ext eK (by omega), b5.step g (by omega), b6.step g (by omega), Oo⟩
  · have : i = 3 := by omega
    subst this
    have A0 := rdI Oo (i := 0) (by show 0 < 3; omega)
    have A1 := rdI Oo (i := 1) (by show 1 < 3; omega)
    have A2 := rdI Oo (i := 2) (by show 2 < 3; omega)
    rw [show ((0 : Nat) : Int) = 0 from rfl, show (msP m c 3).getD 0 0 = mrF m c 0 from rfl] at A0
    rw [show ((1 : Nat) : Int) = 1 from rfl, show (msP m c 3).getD 1 0 = mrF m c 1 from rfl] at A1
    rw [show ((2 : Nat) : Int) = 2 from rfl, show (msP m c 3).getD 2 0 = mrF m c 2 from rfl] at A2
    obtain ⟨K2, es, b2, g⟩ := b6.put (o := 0) (n := 3) (y := .agg #[.int .i64 (mrF m c 0), .int .i64 (mrF m c 1), .int .i64 (mrF m c 2)]) rfl (by simp) rfl
    have V6 : ldnV K2 3 (.pointer (some ⟨h.size + 1, 0, none⟩)) = some (.agg #[.int .i64 (mrF m c 0), .int .i64 (mrF m c 1), .int .i64 (mrF m c 2)]) := by rw [b2.ld.2]; rfl
    simp (maxSteps := 4000000) (disch := omega) only [ah, am, Nat.reduceEqDiff, reduceCtorEq, Nat.reduceAdd, Nat.reduceLeDiff, Nat.reduceMul, Nat.reduceLT, if_true, if_false, true_and, and_true, and_self, Nat.reduceBEq, QOp.loads, boxO, bslO, buildO, cutL, fillV, putL, w16, v16, A0, A1, A2, es, V6]
    exact g.ext eK (by omega)
end Go.Proofs.Ytmhbmbhdeofbaaa
