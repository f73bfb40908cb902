import Derived.Test.YtbnkpligdcponaaN3
namespace Go.Proofs.Ytbnkpligdcponaa
open Go Go.Ah
set_option linter.unusedSimpArgs false
set_option linter.unusedVariables false
set_option maxRecDepth 10000
set_option maxHeartbeats 4000000
/-! 43 loop.example/g00066/spec.l16Results: parameters 1, live [0], slots [0:job, 1:job, 3:out, 4:i, 5:h, 6:k] -/
def c43_0 : List SOper := [⟨some 2, .q (.mv (.c (.slice none 0 0))), none⟩]
def c43_1 : List SOper := [⟨some 7, .a (.bsl 0 1 [] []), none⟩, ⟨some 3, .q (.mv (.t 7)), none⟩]
def c43_2 : List SOper := [⟨some 4, .q (.mv (.c (.int .i64 0))), none⟩]
def c43_3 : List SOper := [⟨some 8, .q (.mv (.t 4)), none⟩, ⟨some 9, .q (.mv (.t 0)), none⟩, ⟨some 10, .q (.len (.t 9)), none⟩, ⟨some 11, .q (.bin .lss (.t 8) (.t 10)), none⟩]
def c43_4 : SCode := .cond (.t 11) .skip (.exit 0)
def c43_5 : SCode := .seq (.region c43_3 [0, 3, 4, 11]) c43_4
def c43_6 : List SOper := [⟨some 14, .q (.mv (.t 0)), none⟩, ⟨some 15, .q (.mv (.t 4)), none⟩, ⟨some 16, .q (.ia 4 (.t 14) (.t 15)), none⟩, ⟨some 17, .q (.fa 0 (.t 16)), none⟩, ⟨some 18, .q (.ld (.t 17)), none⟩, ⟨some 19, .q (.bin .mul (.t 18) (.c (.int .i64 1000003))), none⟩, ⟨some 20, .q (.mv (.t 0)), none⟩, ⟨some 21, .q (.mv (.t 4)), none⟩, ⟨some 22, .q (.ia 4 (.t 20) (.t 21)), none⟩, ⟨some 23, .q (.fa 1 (.t 22)), none⟩, ⟨some 24, .q (.ld (.t 23)), none⟩, ⟨some 25, .q (.bin .add (.t 19) (.t 24)), none⟩, ⟨some 26, .q (.bin .rem (.t 25) (.c (.int .i64 1000000007))), none⟩, ⟨some 5, .q (.mv (.t 26)), none⟩]
def c43_7 : List SOper := [⟨some 6, .q (.mv (.c (.int .i64 0))), none⟩]
def c43_8 : List SOper := [⟨some 27, .q (.mv (.t 6)), none⟩, ⟨some 28, .q (.mv (.t 0)), none⟩, ⟨some 29, .q (.mv (.t 4)), none⟩, ⟨some 30, .q (.ia 4 (.t 28) (.t 29)), none⟩, ⟨some 31, .q (.fa 2 (.t 30)), none⟩, ⟨some 32, .q (.ld (.t 31)), none⟩, ⟨some 33, .q (.len (.t 32)), none⟩, ⟨some 34, .q (.bin .lss (.t 27) (.t 33)), none⟩]
def c43_9 : SCode := .cond (.t 34) .skip (.exit 2)
def c43_10 : SCode := .seq (.region c43_8 [0, 3, 4, 5, 6, 34]) c43_9
def c43_11 : List SOper := [⟨some 37, .q (.mv (.t 5)), none⟩, ⟨some 38, .q (.bin .mul (.t 37) (.c (.int .i64 257))), none⟩, ⟨some 39, .q (.mv (.t 3)), none⟩, ⟨some 40, .q (.mv (.t 0)), none⟩, ⟨some 41, .q (.mv (.t 4)), none⟩, ⟨some 42, .q (.ia 4 (.t 40) (.t 41)), none⟩, ⟨some 43, .q (.fa 2 (.t 42)), none⟩, ⟨some 44, .q (.ld (.t 43)), none⟩, ⟨some 45, .q (.mv (.t 6)), none⟩, ⟨some 46, .q (.ia 1 (.t 44) (.t 45)), none⟩, ⟨some 47, .q (.ld (.t 46)), none⟩, ⟨some 48, .q (.ia 1 (.t 39) (.t 47)), none⟩, ⟨some 49, .q (.ld (.t 48)), none⟩, ⟨some 50, .q (.bin .add (.t 38) (.t 49)), none⟩, ⟨some 51, .q (.bin .add (.t 50) (.c (.int .i64 1))), none⟩, ⟨some 52, .q (.bin .rem (.t 51) (.c (.int .i64 1000000007))), none⟩, ⟨some 5, .q (.mv (.t 52)), none⟩]
def c43_12 : SCode := .block 3 (.region c43_11 [0, 3, 4, 5, 6])
def c43_13 : List SOper := [⟨some 35, .q (.mv (.t 6)), none⟩, ⟨some 36, .q (.bin .add (.t 35) (.c (.int .i64 1))), none⟩, ⟨some 6, .q (.mv (.t 36)), none⟩]
def c43_14 : SCode := .seq c43_12 (.region c43_13 [0, 3, 4, 5, 6])
def c43_15 : SCode := .seq c43_10 c43_14
def c43_16 : SCode := .loop c43_15
def c43_17 : SCode := .block 2 c43_16
def c43_18 : SCode := .seq (.region c43_7 [0, 3, 4, 5, 6]) c43_17
def c43_19 : List SOper := [⟨some 53, .q (.mv (.t 3)), none⟩, ⟨some 54, .q (.mv (.t 5)), none⟩, ⟨some 55, .a (.bsl 1 1 [(.int .i64 0)] [(0, 1, (.t 54))]), none⟩, ⟨some 56, .e (.app 8 1 (.t 53) (.t 55)), none⟩, ⟨some 3, .q (.mv (.t 56)), none⟩]
def c43_20 : SCode := .seq c43_18 (.region c43_19 [0, 3, 4])
def c43_21 : SCode := .seq (.region c43_6 [0, 3, 4, 5]) c43_20
def c43_22 : SCode := .block 1 c43_21
def c43_23 : List SOper := [⟨some 12, .q (.mv (.t 4)), none⟩, ⟨some 13, .q (.bin .add (.t 12) (.c (.int .i64 1))), none⟩, ⟨some 4, .q (.mv (.t 13)), none⟩]
def c43_24 : SCode := .seq c43_22 (.region c43_23 [0, 3, 4])
def c43_25 : SCode := .seq c43_5 c43_24
def c43_26 : SCode := .loop c43_25
def c43_27 : SCode := .block 0 c43_26
def c43_28 : SCode := .seq (.region c43_2 [0, 3, 4]) c43_27
def c43_29 : List SOper := [⟨some 57, .q (.mv (.t 3)), none⟩, ⟨some 2, .q (.mv (.t 57)), none⟩]
def c43_30 : SCode := .seq (.region c43_29 [2]) .ret
def c43_31 : SCode := .seq c43_28 c43_30
def c43_32 : SCode := .seq (.region c43_1 [0, 3]) c43_31
def c43_33 : SCode := .seq (.region c43_0 [0]) c43_32
def c43 : SCode := c43_33
theorem w43 : type_of% (And.intro (uR Try.prog c43_0.eq_1) (And.intro (uR Try.prog c43_1.eq_1) (And.intro (uR Try.prog c43_2.eq_1) (And.intro (uR Try.prog c43_3.eq_1) (And.intro (uC Try.prog c43_4.eq_1) (And.intro (uC Try.prog c43_5.eq_1) (And.intro (uR Try.prog c43_6.eq_1) (And.intro (uR Try.prog c43_7.eq_1) (And.intro (uR Try.prog c43_8.eq_1) (And.intro (uC Try.prog c43_9.eq_1) (And.intro (uC Try.prog c43_10.eq_1) (And.intro (uR Try.prog c43_11.eq_1) (And.intro (uC Try.prog c43_12.eq_1) (And.intro (uR Try.prog c43_13.eq_1) (And.intro (uC Try.prog c43_14.eq_1) (And.intro (uC Try.prog c43_15.eq_1) (And.intro (uC Try.prog c43_16.eq_1) (And.intro (uC Try.prog c43_17.eq_1) (And.intro (uC Try.prog c43_18.eq_1) (And.intro (uR Try.prog c43_19.eq_1) (And.intro (uC Try.prog c43_20.eq_1) (And.intro (uC Try.prog c43_21.eq_1) (And.intro (uC Try.prog c43_22.eq_1) (And.intro (uR Try.prog c43_23.eq_1) (And.intro (uC Try.prog c43_24.eq_1) (And.intro (uC Try.prog c43_25.eq_1) (And.intro (uC Try.prog c43_26.eq_1) (And.intro (uC Try.prog c43_27.eq_1) (And.intro (uC Try.prog c43_28.eq_1) (And.intro (uR Try.prog c43_29.eq_1) (And.intro (uC Try.prog c43_30.eq_1) (And.intro (uC Try.prog c43_31.eq_1) (And.intro (uC Try.prog c43_32.eq_1) (And.intro (uC Try.prog c43_33.eq_1) (uC Try.prog c43.eq_1))))))))))))))))))))))))))))))))))) := (And.intro (uR Try.prog c43_0.eq_1) (And.intro (uR Try.prog c43_1.eq_1) (And.intro (uR Try.prog c43_2.eq_1) (And.intro (uR Try.prog c43_3.eq_1) (And.intro (uC Try.prog c43_4.eq_1) (And.intro (uC Try.prog c43_5.eq_1) (And.intro (uR Try.prog c43_6.eq_1) (And.intro (uR Try.prog c43_7.eq_1) (And.intro (uR Try.prog c43_8.eq_1) (And.intro (uC Try.prog c43_9.eq_1) (And.intro (uC Try.prog c43_10.eq_1) (And.intro (uR Try.prog c43_11.eq_1) (And.intro (uC Try.prog c43_12.eq_1) (And.intro (uR Try.prog c43_13.eq_1) (And.intro (uC Try.prog c43_14.eq_1) (And.intro (uC Try.prog c43_15.eq_1) (And.intro (uC Try.prog c43_16.eq_1) (And.intro (uC Try.prog c43_17.eq_1) (And.intro (uC Try.prog c43_18.eq_1) (And.intro (uR Try.prog c43_19.eq_1) (And.intro (uC Try.prog c43_20.eq_1) (And.intro (uC Try.prog c43_21.eq_1) (And.intro (uC Try.prog c43_22.eq_1) (And.intro (uR Try.prog c43_23.eq_1) (And.intro (uC Try.prog c43_24.eq_1) (And.intro (uC Try.prog c43_25.eq_1) (And.intro (uC Try.prog c43_26.eq_1) (And.intro (uC Try.prog c43_27.eq_1) (And.intro (uC Try.prog c43_28.eq_1) (And.intro (uR Try.prog c43_29.eq_1) (And.intro (uC Try.prog c43_30.eq_1) (And.intro (uC Try.prog c43_31.eq_1) (And.intro (uC Try.prog c43_32.eq_1) (And.intro (uC Try.prog c43_33.eq_1) (uC Try.prog c43.eq_1)))))))))))))))))))))))))))))))))))
def v43 : List RV := [.t 2]
theorem s43 : slimF Try.prog Try.f43 = some (c43.bare, v43) := by kernel_rfl
/-! 44 loop.example/g00066/impl.results: parameters 1, live [0], slots [0:job, 1:job, 3:out, 4:_, 5:t, 6:h, 7:_, 8:n] -/
def c44_0 : List SOper := [⟨some 2, .q (.mv (.c (.slice none 0 0))), none⟩]
def c44_1 : List SOper := [⟨some 9, .a (.bsl 0 1 [] []), none⟩, ⟨some 3, .q (.mv (.t 9)), none⟩]
def c44_2 : List SOper := [⟨some 10, .q (.mv (.t 0)), none⟩, ⟨some 11, .q (.len (.t 10)), none⟩, ⟨some 12, .q (.mv (.c (.int .i64 0))), none⟩]
def c44_3 : List SOper := [⟨some 13, .q (.bin .lss (.t 12) (.t 11)), none⟩]
def c44_4 : SCode := .cond (.t 13) .skip (.exit 0)
def c44_5 : List SOper := [⟨some 14, .q (.ia 4 (.t 10) (.t 12)), none⟩, ⟨some 15, .q (.ldn 4 (.t 14)), none⟩, ⟨some 5, .a (.new [(.int .i64 0), (.int .i64 0), (.slice none 0 0), (.int .i64 0)]), none⟩, ⟨none, .e (.st 4 (.t 5) (.t 15)), none⟩]
def c44_6 : List SOper := [⟨some 16, .q (.fa 0 (.t 5)), none⟩, ⟨some 17, .q (.ld (.t 16)), none⟩, ⟨some 18, .q (.bin .mul (.t 17) (.c (.int .i64 1000003))), none⟩, ⟨some 19, .q (.fa 1 (.t 5)), none⟩, ⟨some 20, .q (.ld (.t 19)), none⟩, ⟨some 21, .q (.bin .add (.t 18) (.t 20)), none⟩, ⟨some 22, .q (.bin .rem (.t 21) (.c (.int .i64 1000000007))), none⟩, ⟨some 6, .q (.mv (.t 22)), none⟩]
def c44_7 : List SOper := [⟨some 23, .q (.fa 2 (.t 5)), none⟩, ⟨some 24, .q (.ld (.t 23)), none⟩, ⟨some 25, .q (.len (.t 24)), none⟩, ⟨some 26, .q (.mv (.c (.int .i64 0))), none⟩]
def c44_8 : List SOper := [⟨some 27, .q (.bin .lss (.t 26) (.t 25)), none⟩]
def c44_9 : SCode := .cond (.t 27) .skip (.exit 2)
def c44_10 : List SOper := [⟨some 28, .q (.ia 1 (.t 24) (.t 26)), none⟩, ⟨some 29, .q (.ld (.t 28)), none⟩, ⟨some 8, .q (.mv (.t 29)), none⟩]
def c44_11 : List SOper := [⟨some 30, .q (.mv (.t 6)), none⟩, ⟨some 31, .q (.mv (.t 3)), none⟩, ⟨some 32, .q (.mv (.t 8)), none⟩, ⟨some 33, .q (.ia 1 (.t 31) (.t 32)), none⟩, ⟨some 34, .q (.ld (.t 33)), none⟩, ⟨some 35, .e (.call 58 [(.t 30), (.t 34)]), none⟩, ⟨some 6, .q (.mv (.t 35)), none⟩]
def c44_12 : SCode := .seq (.region c44_10 [3, 6, 8, 10, 11, 12, 24, 25, 26]) (.region c44_11 [3, 6, 10, 11, 12, 24, 25, 26])
def c44_13 : SCode := .block 3 c44_12
def c44_14 : List SOper := [⟨some 36, .q (.bin .add (.t 26) (.c (.int .i64 1))), none⟩, ⟨some 26, .q (.mv (.t 36)), none⟩]
def c44_15 : SCode := .seq c44_13 (.region c44_14 [3, 6, 10, 11, 12, 24, 25, 26])
def c44_16 : SCode := .seq c44_9 c44_15
def c44_17 : SCode := .seq (.region c44_8 [3, 6, 10, 11, 12, 24, 25, 26, 27]) c44_16
def c44_18 : SCode := .loop c44_17
def c44_19 : SCode := .block 2 c44_18
def c44_20 : SCode := .seq (.region c44_7 [3, 6, 10, 11, 12, 24, 25, 26]) c44_19
def c44_21 : List SOper := [⟨some 37, .q (.mv (.t 3)), none⟩, ⟨some 38, .q (.mv (.t 6)), none⟩, ⟨some 39, .a (.bsl 1 1 [(.int .i64 0)] [(0, 1, (.t 38))]), none⟩, ⟨some 40, .e (.app 8 1 (.t 37) (.t 39)), none⟩, ⟨some 3, .q (.mv (.t 40)), none⟩]
def c44_22 : SCode := .seq c44_20 (.region c44_21 [3, 10, 11, 12])
def c44_23 : SCode := .seq (.region c44_6 [3, 5, 6, 10, 11, 12]) c44_22
def c44_24 : SCode := .seq (.region c44_5 [3, 5, 10, 11, 12]) c44_23
def c44_25 : SCode := .block 1 c44_24
def c44_26 : List SOper := [⟨some 41, .q (.bin .add (.t 12) (.c (.int .i64 1))), none⟩, ⟨some 12, .q (.mv (.t 41)), none⟩]
def c44_27 : SCode := .seq c44_25 (.region c44_26 [3, 10, 11, 12])
def c44_28 : SCode := .seq c44_4 c44_27
def c44_29 : SCode := .seq (.region c44_3 [3, 10, 11, 12, 13]) c44_28
def c44_30 : SCode := .loop c44_29
def c44_31 : SCode := .block 0 c44_30
def c44_32 : SCode := .seq (.region c44_2 [3, 10, 11, 12]) c44_31
def c44_33 : List SOper := [⟨some 42, .q (.mv (.t 3)), none⟩, ⟨some 2, .q (.mv (.t 42)), none⟩]
def c44_34 : SCode := .seq (.region c44_33 [2]) .ret
def c44_35 : SCode := .seq c44_32 c44_34
def c44_36 : SCode := .seq (.region c44_1 [0, 3]) c44_35
def c44_37 : SCode := .seq (.region c44_0 [0]) c44_36
def c44 : SCode := c44_37
theorem w44 : type_of% (And.intro (uR Try.prog c44_0.eq_1) (And.intro (uR Try.prog c44_1.eq_1) (And.intro (uR Try.prog c44_2.eq_1) (And.intro (uR Try.prog c44_3.eq_1) (And.intro (uC Try.prog c44_4.eq_1) (And.intro (uR Try.prog c44_5.eq_1) (And.intro (uR Try.prog c44_6.eq_1) (And.intro (uR Try.prog c44_7.eq_1) (And.intro (uR Try.prog c44_8.eq_1) (And.intro (uC Try.prog c44_9.eq_1) (And.intro (uR Try.prog c44_10.eq_1) (And.intro (uR Try.prog c44_11.eq_1) (And.intro (uC Try.prog c44_12.eq_1) (And.intro (uC Try.prog c44_13.eq_1) (And.intro (uR Try.prog c44_14.eq_1) (And.intro (uC Try.prog c44_15.eq_1) (And.intro (uC Try.prog c44_16.eq_1) (And.intro (uC Try.prog c44_17.eq_1) (And.intro (uC Try.prog c44_18.eq_1) (And.intro (uC Try.prog c44_19.eq_1) (And.intro (uC Try.prog c44_20.eq_1) (And.intro (uR Try.prog c44_21.eq_1) (And.intro (uC Try.prog c44_22.eq_1) (And.intro (uC Try.prog c44_23.eq_1) (And.intro (uC Try.prog c44_24.eq_1) (And.intro (uC Try.prog c44_25.eq_1) (And.intro (uR Try.prog c44_26.eq_1) (And.intro (uC Try.prog c44_27.eq_1) (And.intro (uC Try.prog c44_28.eq_1) (And.intro (uC Try.prog c44_29.eq_1) (And.intro (uC Try.prog c44_30.eq_1) (And.intro (uC Try.prog c44_31.eq_1) (And.intro (uC Try.prog c44_32.eq_1) (And.intro (uR Try.prog c44_33.eq_1) (And.intro (uC Try.prog c44_34.eq_1) (And.intro (uC Try.prog c44_35.eq_1) (And.intro (uC Try.prog c44_36.eq_1) (And.intro (uC Try.prog c44_37.eq_1) (uC Try.prog c44.eq_1))))))))))))))))))))))))))))))))))))))) := (And.intro (uR Try.prog c44_0.eq_1) (And.intro (uR Try.prog c44_1.eq_1) (And.intro (uR Try.prog c44_2.eq_1) (And.intro (uR Try.prog c44_3.eq_1) (And.intro (uC Try.prog c44_4.eq_1) (And.intro (uR Try.prog c44_5.eq_1) (And.intro (uR Try.prog c44_6.eq_1) (And.intro (uR Try.prog c44_7.eq_1) (And.intro (uR Try.prog c44_8.eq_1) (And.intro (uC Try.prog c44_9.eq_1) (And.intro (uR Try.prog c44_10.eq_1) (And.intro (uR Try.prog c44_11.eq_1) (And.intro (uC Try.prog c44_12.eq_1) (And.intro (uC Try.prog c44_13.eq_1) (And.intro (uR Try.prog c44_14.eq_1) (And.intro (uC Try.prog c44_15.eq_1) (And.intro (uC Try.prog c44_16.eq_1) (And.intro (uC Try.prog c44_17.eq_1) (And.intro (uC Try.prog c44_18.eq_1) (And.intro (uC Try.prog c44_19.eq_1) (And.intro (uC Try.prog c44_20.eq_1) (And.intro (uR Try.prog c44_21.eq_1) (And.intro (uC Try.prog c44_22.eq_1) (And.intro (uC Try.prog c44_23.eq_1) (And.intro (uC Try.prog c44_24.eq_1) (And.intro (uC Try.prog c44_25.eq_1) (And.intro (uR Try.prog c44_26.eq_1) (And.intro (uC Try.prog c44_27.eq_1) (And.intro (uC Try.prog c44_28.eq_1) (And.intro (uC Try.prog c44_29.eq_1) (And.intro (uC Try.prog c44_30.eq_1) (And.intro (uC Try.prog c44_31.eq_1) (And.intro (uC Try.prog c44_32.eq_1) (And.intro (uR Try.prog c44_33.eq_1) (And.intro (uC Try.prog c44_34.eq_1) (And.intro (uC Try.prog c44_35.eq_1) (And.intro (uC Try.prog c44_36.eq_1) (And.intro (uC Try.prog c44_37.eq_1) (uC Try.prog c44.eq_1)))))))))))))))))))))))))))))))))))))))
def v44 : List RV := [.t 2]
theorem s44 : slimF Try.prog Try.f44 = some (c44.bare, v44) := by kernel_rfl
/-! 58 loop.example/g00066/impl.stepped: parameters 2, live [0, 1], slots [0:h, 1:x, 2:h, 3:x] -/
def c58_0 : List SOper := [⟨some 4, .q (.mv (.c (.int .i64 0))), none⟩]
def c58_1 : List SOper := [⟨some 5, .q (.mv (.t 0)), none⟩, ⟨some 6, .q (.bin .mul (.t 5) (.c (.int .i64 257))), none⟩, ⟨some 7, .q (.mv (.t 1)), none⟩, ⟨some 8, .q (.bin .add (.t 6) (.t 7)), none⟩, ⟨some 9, .q (.bin .add (.t 8) (.c (.int .i64 1))), none⟩, ⟨some 10, .q (.bin .rem (.t 9) (.c (.int .i64 1000000007))), none⟩, ⟨some 4, .q (.mv (.t 10)), none⟩]
def c58_2 : SCode := .seq (.region c58_1 [4]) .ret
def c58_3 : SCode := .seq (.region c58_0 [0, 1]) c58_2
def c58 : SCode := c58_3
theorem w58 : type_of% (And.intro (uR Try.prog c58_0.eq_1) (And.intro (uR Try.prog c58_1.eq_1) (And.intro (uC Try.prog c58_2.eq_1) (And.intro (uC Try.prog c58_3.eq_1) (uC Try.prog c58.eq_1))))) := (And.intro (uR Try.prog c58_0.eq_1) (And.intro (uR Try.prog c58_1.eq_1) (And.intro (uC Try.prog c58_2.eq_1) (And.intro (uC Try.prog c58_3.eq_1) (uC Try.prog c58.eq_1)))))
def v58 : List RV := [.t 4]
theorem s58 : slimF Try.prog Try.f58 = some (c58.bare, v58) := by kernel_rfl
/-! 30 loop.example/g00066/spec.Results: parameters 1, live [0], slots [0:job, 1:job] -/
def c30_0 : List SOper := [⟨some 2, .q (.mv (.c (.slice none 0 0))), none⟩]
def c30_1 : List SOper := [⟨some 3, .q (.mv (.t 0)), none⟩, ⟨some 4, .e (.call 28 [(.t 3)]), none⟩, ⟨some 5, .q (.not (.t 4)), none⟩]
def c30_2 : List SOper := [⟨some 6, .a (.bsl 0 1 [] []), none⟩, ⟨some 2, .q (.mv (.t 6)), none⟩]
def c30_3 : SCode := .seq (.region c30_2 [2]) .ret
def c30_4 : SCode := .cond (.t 5) c30_3 .skip
def c30_5 : SCode := .seq (.region c30_1 [0, 5]) c30_4
def c30_6 : List SOper := [⟨some 7, .q (.mv (.t 0)), none⟩, ⟨some 8, .e (.call 43 [(.t 7)]), none⟩, ⟨some 2, .q (.mv (.t 8)), none⟩]
def c30_7 : SCode := .seq (.region c30_6 [2]) .ret
def c30_8 : SCode := .seq c30_5 c30_7
def c30_9 : SCode := .seq (.region c30_0 [0]) c30_8
def c30 : SCode := c30_9
theorem w30 : type_of% (And.intro (uR Try.prog c30_0.eq_1) (And.intro (uR Try.prog c30_1.eq_1) (And.intro (uR Try.prog c30_2.eq_1) (And.intro (uC Try.prog c30_3.eq_1) (And.intro (uC Try.prog c30_4.eq_1) (And.intro (uC Try.prog c30_5.eq_1) (And.intro (uR Try.prog c30_6.eq_1) (And.intro (uC Try.prog c30_7.eq_1) (And.intro (uC Try.prog c30_8.eq_1) (And.intro (uC Try.prog c30_9.eq_1) (uC Try.prog c30.eq_1))))))))))) := (And.intro (uR Try.prog c30_0.eq_1) (And.intro (uR Try.prog c30_1.eq_1) (And.intro (uR Try.prog c30_2.eq_1) (And.intro (uC Try.prog c30_3.eq_1) (And.intro (uC Try.prog c30_4.eq_1) (And.intro (uC Try.prog c30_5.eq_1) (And.intro (uR Try.prog c30_6.eq_1) (And.intro (uC Try.prog c30_7.eq_1) (And.intro (uC Try.prog c30_8.eq_1) (And.intro (uC Try.prog c30_9.eq_1) (uC Try.prog c30.eq_1)))))))))))
def v30 : List RV := [.t 2]
theorem s30 : slimF Try.prog Try.f30 = some (c30.bare, v30) := by kernel_rfl
/-! 29 loop.example/g00066/impl.Results: parameters 1, live [0], slots [0:job, 1:job] -/
def c29_0 : List SOper := [⟨some 2, .q (.mv (.c (.slice none 0 0))), none⟩]
def c29_1 : List SOper := [⟨some 3, .q (.mv (.t 0)), none⟩, ⟨some 4, .e (.call 36 [(.t 3)]), none⟩, ⟨some 5, .q (.not (.t 4)), none⟩]
def c29_2 : List SOper := [⟨some 2, .q (.mv (.c (.slice none 0 0))), none⟩]
def c29_3 : SCode := .seq (.region c29_2 [2]) .ret
def c29_4 : SCode := .cond (.t 5) c29_3 .skip
def c29_5 : SCode := .seq (.region c29_1 [0, 5]) c29_4
def c29_6 : List SOper := [⟨some 6, .q (.mv (.t 0)), none⟩, ⟨some 7, .e (.call 44 [(.t 6)]), none⟩, ⟨some 2, .q (.mv (.t 7)), none⟩]
def c29_7 : SCode := .seq (.region c29_6 [2]) .ret
def c29_8 : SCode := .seq c29_5 c29_7
def c29_9 : SCode := .seq (.region c29_0 [0]) c29_8
def c29 : SCode := c29_9
theorem w29 : type_of% (And.intro (uR Try.prog c29_0.eq_1) (And.intro (uR Try.prog c29_1.eq_1) (And.intro (uR Try.prog c29_2.eq_1) (And.intro (uC Try.prog c29_3.eq_1) (And.intro (uC Try.prog c29_4.eq_1) (And.intro (uC Try.prog c29_5.eq_1) (And.intro (uR Try.prog c29_6.eq_1) (And.intro (uC Try.prog c29_7.eq_1) (And.intro (uC Try.prog c29_8.eq_1) (And.intro (uC Try.prog c29_9.eq_1) (uC Try.prog c29.eq_1))))))))))) := (And.intro (uR Try.prog c29_0.eq_1) (And.intro (uR Try.prog c29_1.eq_1) (And.intro (uR Try.prog c29_2.eq_1) (And.intro (uC Try.prog c29_3.eq_1) (And.intro (uC Try.prog c29_4.eq_1) (And.intro (uC Try.prog c29_5.eq_1) (And.intro (uR Try.prog c29_6.eq_1) (And.intro (uC Try.prog c29_7.eq_1) (And.intro (uC Try.prog c29_8.eq_1) (And.intro (uC Try.prog c29_9.eq_1) (uC Try.prog c29.eq_1)))))))))))
def v29 : List RV := [.t 2]
theorem s29 : slimF Try.prog Try.f29 = some (c29.bare, v29) := by kernel_rfl
/-! 18 loop.example/g00066/spec.Reused: parameters 2, live [0, 1], slots [0:old, 1:new, 2:old, 3:new, 5:out, 6:a, 7:b, 8:i, 9:n, 10:k] -/
def c18_0 : List SOper := [⟨some 4, .q (.mv (.c (.slice none 0 0))), none⟩]
def c18_1 : List SOper := [⟨some 11, .a (.bsl 0 1 [] []), none⟩, ⟨some 5, .q (.mv (.t 11)), none⟩]
def c18_2 : List SOper := [⟨some 12, .q (.mv (.t 0)), none⟩, ⟨some 13, .e (.call 28 [(.t 12)]), none⟩, ⟨some 14, .q (.not (.t 13)), none⟩, ⟨some 15, .q (.mv (.t 14)), none⟩, ⟨some 16, .q (.mv (.t 1)), some (15, false)⟩, ⟨some 17, .e (.call 28 [(.t 16)]), some (15, false)⟩, ⟨some 18, .q (.not (.t 17)), some (15, false)⟩, ⟨some 19, .q (.pick (.t 15) (.c (.bool true)) (.t 18)), none⟩]
def c18_3 : List SOper := [⟨some 20, .q (.mv (.t 5)), none⟩, ⟨some 4, .q (.mv (.t 20)), none⟩]
def c18_4 : SCode := .seq (.region c18_3 [4]) .ret
def c18_5 : SCode := .cond (.t 19) c18_4 .skip
def c18_6 : SCode := .seq (.region c18_2 [0, 1, 5, 19]) c18_5
def c18_7 : List SOper := [⟨some 21, .q (.mv (.t 0)), none⟩, ⟨some 22, .e (.call 43 [(.t 21)]), none⟩, ⟨some 6, .q (.mv (.t 22)), none⟩]
def c18_8 : List SOper := [⟨some 23, .q (.mv (.t 1)), none⟩, ⟨some 24, .e (.call 43 [(.t 23)]), none⟩, ⟨some 7, .q (.mv (.t 24)), none⟩]
def c18_9 : List SOper := [⟨some 8, .q (.mv (.c (.int .i64 0))), none⟩]
def c18_10 : List SOper := [⟨some 25, .q (.mv (.t 8)), none⟩, ⟨some 26, .q (.mv (.t 7)), none⟩, ⟨some 27, .q (.len (.t 26)), none⟩, ⟨some 28, .q (.bin .lss (.t 25) (.t 27)), none⟩]
def c18_11 : SCode := .cond (.t 28) .skip (.exit 0)
def c18_12 : SCode := .seq (.region c18_10 [1, 5, 6, 7, 8, 28]) c18_11
def c18_13 : List SOper := [⟨some 31, .q (.mv (.t 1)), none⟩, ⟨some 32, .q (.mv (.t 8)), none⟩, ⟨some 33, .q (.ia 4 (.t 31) (.t 32)), none⟩, ⟨some 34, .q (.fa 3 (.t 33)), none⟩, ⟨some 35, .q (.ld (.t 34)), none⟩, ⟨some 9, .q (.mv (.t 35)), none⟩]
def c18_14 : List SOper := [⟨some 10, .q (.mv (.c (.int .i64 0))), none⟩]
def c18_15 : List SOper := [⟨some 36, .q (.mv (.t 10)), none⟩, ⟨some 37, .q (.mv (.t 6)), none⟩, ⟨some 38, .q (.len (.t 37)), none⟩, ⟨some 39, .q (.bin .lss (.t 36) (.t 38)), none⟩]
def c18_16 : SCode := .cond (.t 39) .skip (.exit 2)
def c18_17 : SCode := .seq (.region c18_15 [1, 5, 6, 7, 8, 9, 10, 39]) c18_16
def c18_18 : List SOper := [⟨some 42, .q (.mv (.t 6)), none⟩, ⟨some 43, .q (.mv (.t 10)), none⟩, ⟨some 44, .q (.ia 1 (.t 42) (.t 43)), none⟩, ⟨some 45, .q (.ld (.t 44)), none⟩, ⟨some 46, .q (.mv (.t 7)), none⟩, ⟨some 47, .q (.mv (.t 8)), none⟩, ⟨some 48, .q (.ia 1 (.t 46) (.t 47)), none⟩, ⟨some 49, .q (.ld (.t 48)), none⟩, ⟨some 50, .q (.bin .eql (.t 45) (.t 49)), none⟩]
def c18_19 : List SOper := [⟨some 9, .q (.mv (.c (.int .i64 0))), none⟩]
def c18_20 : SCode := .cond (.t 50) (.region c18_19 [1, 5, 6, 7, 8, 9, 10]) .skip
def c18_21 : SCode := .seq (.region c18_18 [1, 5, 6, 7, 8, 9, 10, 50]) c18_20
def c18_22 : SCode := .block 3 c18_21
def c18_23 : List SOper := [⟨some 40, .q (.mv (.t 10)), none⟩, ⟨some 41, .q (.bin .add (.t 40) (.c (.int .i64 1))), none⟩, ⟨some 10, .q (.mv (.t 41)), none⟩]
def c18_24 : SCode := .seq c18_22 (.region c18_23 [1, 5, 6, 7, 8, 9, 10])
def c18_25 : SCode := .seq c18_17 c18_24
def c18_26 : SCode := .loop c18_25
def c18_27 : SCode := .block 2 c18_26
def c18_28 : SCode := .seq (.region c18_14 [1, 5, 6, 7, 8, 9, 10]) c18_27
def c18_29 : List SOper := [⟨some 51, .q (.mv (.t 5)), none⟩, ⟨some 52, .q (.mv (.t 9)), none⟩, ⟨some 53, .a (.bsl 1 1 [(.int .i64 0)] [(0, 1, (.t 52))]), none⟩, ⟨some 54, .e (.app 8 1 (.t 51) (.t 53)), none⟩, ⟨some 5, .q (.mv (.t 54)), none⟩]
def c18_30 : SCode := .seq c18_28 (.region c18_29 [1, 5, 6, 7, 8])
def c18_31 : SCode := .seq (.region c18_13 [1, 5, 6, 7, 8, 9]) c18_30
def c18_32 : SCode := .block 1 c18_31
def c18_33 : List SOper := [⟨some 29, .q (.mv (.t 8)), none⟩, ⟨some 30, .q (.bin .add (.t 29) (.c (.int .i64 1))), none⟩, ⟨some 8, .q (.mv (.t 30)), none⟩]
def c18_34 : SCode := .seq c18_32 (.region c18_33 [1, 5, 6, 7, 8])
def c18_35 : SCode := .seq c18_12 c18_34
def c18_36 : SCode := .loop c18_35
def c18_37 : SCode := .block 0 c18_36
def c18_38 : SCode := .seq (.region c18_9 [1, 5, 6, 7, 8]) c18_37
def c18_39 : List SOper := [⟨some 55, .q (.mv (.t 5)), none⟩, ⟨some 4, .q (.mv (.t 55)), none⟩]
def c18_40 : SCode := .seq (.region c18_39 [4]) .ret
def c18_41 : SCode := .seq c18_38 c18_40
def c18_42 : SCode := .seq (.region c18_8 [1, 5, 6, 7]) c18_41
def c18_43 : SCode := .seq (.region c18_7 [1, 5, 6]) c18_42
def c18_44 : SCode := .seq c18_6 c18_43
def c18_45 : SCode := .seq (.region c18_1 [0, 1, 5]) c18_44
def c18_46 : SCode := .seq (.region c18_0 [0, 1]) c18_45
def c18 : SCode := c18_46
theorem w18 : type_of% (And.intro (uR Try.prog c18_0.eq_1) (And.intro (uR Try.prog c18_1.eq_1) (And.intro (uR Try.prog c18_2.eq_1) (And.intro (uR Try.prog c18_3.eq_1) (And.intro (uC Try.prog c18_4.eq_1) (And.intro (uC Try.prog c18_5.eq_1) (And.intro (uC Try.prog c18_6.eq_1) (And.intro (uR Try.prog c18_7.eq_1) (And.intro (uR Try.prog c18_8.eq_1) (And.intro (uR Try.prog c18_9.eq_1) (And.intro (uR Try.prog c18_10.eq_1) (And.intro (uC Try.prog c18_11.eq_1) (And.intro (uC Try.prog c18_12.eq_1) (And.intro (uR Try.prog c18_13.eq_1) (And.intro (uR Try.prog c18_14.eq_1) (And.intro (uR Try.prog c18_15.eq_1) (And.intro (uC Try.prog c18_16.eq_1) (And.intro (uC Try.prog c18_17.eq_1) (And.intro (uR Try.prog c18_18.eq_1) (And.intro (uR Try.prog c18_19.eq_1) (And.intro (uC Try.prog c18_20.eq_1) (And.intro (uC Try.prog c18_21.eq_1) (And.intro (uC Try.prog c18_22.eq_1) (And.intro (uR Try.prog c18_23.eq_1) (And.intro (uC Try.prog c18_24.eq_1) (And.intro (uC Try.prog c18_25.eq_1) (And.intro (uC Try.prog c18_26.eq_1) (And.intro (uC Try.prog c18_27.eq_1) (And.intro (uC Try.prog c18_28.eq_1) (And.intro (uR Try.prog c18_29.eq_1) (And.intro (uC Try.prog c18_30.eq_1) (And.intro (uC Try.prog c18_31.eq_1) (And.intro (uC Try.prog c18_32.eq_1) (And.intro (uR Try.prog c18_33.eq_1) (And.intro (uC Try.prog c18_34.eq_1) (And.intro (uC Try.prog c18_35.eq_1) (And.intro (uC Try.prog c18_36.eq_1) (And.intro (uC Try.prog c18_37.eq_1) (And.intro (uC Try.prog c18_38.eq_1) (And.intro (uR Try.prog c18_39.eq_1) (And.intro (uC Try.prog c18_40.eq_1) (And.intro (uC Try.prog c18_41.eq_1) (And.intro (uC Try.prog c18_42.eq_1) (And.intro (uC Try.prog c18_43.eq_1) (And.intro (uC Try.prog c18_44.eq_1) (And.intro (uC Try.prog c18_45.eq_1) (And.intro (uC Try.prog c18_46.eq_1) (uC Try.prog c18.eq_1)))))))))))))))))))))))))))))))))))))))))))))))) := (And.intro (uR Try.prog c18_0.eq_1) (And.intro (uR Try.prog c18_1.eq_1) (And.intro (uR Try.prog c18_2.eq_1) (And.intro (uR Try.prog c18_3.eq_1) (And.intro (uC Try.prog c18_4.eq_1) (And.intro (uC Try.prog c18_5.eq_1) (And.intro (uC Try.prog c18_6.eq_1) (And.intro (uR Try.prog c18_7.eq_1) (And.intro (uR Try.prog c18_8.eq_1) (And.intro (uR Try.prog c18_9.eq_1) (And.intro (uR Try.prog c18_10.eq_1) (And.intro (uC Try.prog c18_11.eq_1) (And.intro (uC Try.prog c18_12.eq_1) (And.intro (uR Try.prog c18_13.eq_1) (And.intro (uR Try.prog c18_14.eq_1) (And.intro (uR Try.prog c18_15.eq_1) (And.intro (uC Try.prog c18_16.eq_1) (And.intro (uC Try.prog c18_17.eq_1) (And.intro (uR Try.prog c18_18.eq_1) (And.intro (uR Try.prog c18_19.eq_1) (And.intro (uC Try.prog c18_20.eq_1) (And.intro (uC Try.prog c18_21.eq_1) (And.intro (uC Try.prog c18_22.eq_1) (And.intro (uR Try.prog c18_23.eq_1) (And.intro (uC Try.prog c18_24.eq_1) (And.intro (uC Try.prog c18_25.eq_1) (And.intro (uC Try.prog c18_26.eq_1) (And.intro (uC Try.prog c18_27.eq_1) (And.intro (uC Try.prog c18_28.eq_1) (And.intro (uR Try.prog c18_29.eq_1) (And.intro (uC Try.prog c18_30.eq_1) (And.intro (uC Try.prog c18_31.eq_1) (And.intro (uC Try.prog c18_32.eq_1) (And.intro (uR Try.prog c18_33.eq_1) (And.intro (uC Try.prog c18_34.eq_1) (And.intro (uC Try.prog c18_35.eq_1) (And.intro (uC Try.prog c18_36.eq_1) (And.intro (uC Try.prog c18_37.eq_1) (And.intro (uC Try.prog c18_38.eq_1) (And.intro (uR Try.prog c18_39.eq_1) (And.intro (uC Try.prog c18_40.eq_1) (And.intro (uC Try.prog c18_41.eq_1) (And.intro (uC Try.prog c18_42.eq_1) (And.intro (uC Try.prog c18_43.eq_1) (And.intro (uC Try.prog c18_44.eq_1) (And.intro (uC Try.prog c18_45.eq_1) (And.intro (uC Try.prog c18_46.eq_1) (uC Try.prog c18.eq_1))))))))))))))))))))))))))))))))))))))))))))))))
def v18 : List RV := [.t 4]
theorem s18 : slimF Try.prog Try.f18 = some (c18.bare, v18) := by kernel_rfl
/-! 19 loop.example/g00066/impl.Reused: parameters 2, live [0, 1], slots [0:old, 1:new, 2:old, 3:new, 5:there, 6:out, 7:i, 8:h, 9:cost] -/
def c19_0 : List SOper := [⟨some 4, .q (.mv (.c (.slice none 0 0))), none⟩]
def c19_1 : List SOper := [⟨some 10, .q (.mv (.t 0)), none⟩, ⟨some 11, .e (.call 36 [(.t 10)]), none⟩, ⟨some 12, .q (.not (.t 11)), none⟩, ⟨some 13, .q (.mv (.t 12)), none⟩, ⟨some 14, .q (.mv (.t 1)), some (13, false)⟩, ⟨some 15, .e (.call 36 [(.t 14)]), some (13, false)⟩, ⟨some 16, .q (.not (.t 15)), some (13, false)⟩, ⟨some 17, .q (.pick (.t 13) (.c (.bool true)) (.t 16)), none⟩]
def c19_2 : List SOper := [⟨some 4, .q (.mv (.c (.slice none 0 0))), none⟩]
def c19_3 : SCode := .seq (.region c19_2 [4]) .ret
def c19_4 : SCode := .cond (.t 17) c19_3 .skip
def c19_5 : SCode := .seq (.region c19_1 [0, 1, 17]) c19_4
def c19_6 : List SOper := [⟨some 18, .q (.mv (.t 0)), none⟩, ⟨some 19, .e (.call 44 [(.t 18)]), none⟩, ⟨some 20, .a (.bsl 0 1 [] []), none⟩, ⟨some 5, .q (.mv (.t 19)), none⟩, ⟨some 6, .q (.mv (.t 20)), none⟩]
def c19_7 : List SOper := [⟨some 21, .q (.mv (.t 1)), none⟩, ⟨some 22, .e (.call 44 [(.t 21)]), none⟩, ⟨some 23, .q (.len (.t 22)), none⟩, ⟨some 24, .q (.mv (.c (.int .i64 0))), none⟩]
def c19_8 : List SOper := [⟨some 25, .q (.bin .lss (.t 24) (.t 23)), none⟩]
def c19_9 : SCode := .cond (.t 25) .skip (.exit 0)
def c19_10 : List SOper := [⟨some 26, .q (.mv (.t 24)), none⟩, ⟨some 27, .q (.ia 1 (.t 22) (.t 24)), none⟩, ⟨some 28, .q (.ld (.t 27)), none⟩, ⟨some 7, .q (.mv (.t 26)), none⟩, ⟨some 8, .q (.mv (.t 28)), none⟩]
def c19_11 : List SOper := [⟨some 29, .q (.mv (.t 1)), none⟩, ⟨some 30, .q (.mv (.t 7)), none⟩, ⟨some 31, .q (.ia 4 (.t 29) (.t 30)), none⟩, ⟨some 32, .q (.fa 3 (.t 31)), none⟩, ⟨some 33, .q (.ld (.t 32)), none⟩, ⟨some 9, .q (.mv (.t 33)), none⟩]
def c19_12 : List SOper := [⟨some 34, .q (.mv (.t 5)), none⟩, ⟨some 35, .q (.mv (.t 8)), none⟩, ⟨some 36, .e (.call 40 [(.t 34), (.t 35)]), none⟩]
def c19_13 : List SOper := [⟨some 9, .q (.mv (.c (.int .i64 0))), none⟩]
def c19_14 : SCode := .cond (.t 36) (.region c19_13 [1, 5, 6, 9, 22, 23, 24]) .skip
def c19_15 : SCode := .seq (.region c19_12 [1, 5, 6, 9, 22, 23, 24, 36]) c19_14
def c19_16 : List SOper := [⟨some 37, .q (.mv (.t 6)), none⟩, ⟨some 38, .q (.mv (.t 9)), none⟩, ⟨some 39, .a (.bsl 1 1 [(.int .i64 0)] [(0, 1, (.t 38))]), none⟩, ⟨some 40, .e (.app 8 1 (.t 37) (.t 39)), none⟩, ⟨some 6, .q (.mv (.t 40)), none⟩]
def c19_17 : SCode := .seq c19_15 (.region c19_16 [1, 5, 6, 22, 23, 24])
def c19_18 : SCode := .seq (.region c19_11 [1, 5, 6, 8, 9, 22, 23, 24]) c19_17
def c19_19 : SCode := .seq (.region c19_10 [1, 5, 6, 7, 8, 22, 23, 24]) c19_18
def c19_20 : SCode := .block 1 c19_19
def c19_21 : List SOper := [⟨some 41, .q (.bin .add (.t 24) (.c (.int .i64 1))), none⟩, ⟨some 24, .q (.mv (.t 41)), none⟩]
def c19_22 : SCode := .seq c19_20 (.region c19_21 [1, 5, 6, 22, 23, 24])
def c19_23 : SCode := .seq c19_9 c19_22
def c19_24 : SCode := .seq (.region c19_8 [1, 5, 6, 22, 23, 24, 25]) c19_23
def c19_25 : SCode := .loop c19_24
def c19_26 : SCode := .block 0 c19_25
def c19_27 : SCode := .seq (.region c19_7 [1, 5, 6, 22, 23, 24]) c19_26
def c19_28 : List SOper := [⟨some 42, .q (.mv (.t 6)), none⟩, ⟨some 4, .q (.mv (.t 42)), none⟩]
def c19_29 : SCode := .seq (.region c19_28 [4]) .ret
def c19_30 : SCode := .seq c19_27 c19_29
def c19_31 : SCode := .seq (.region c19_6 [1, 5, 6]) c19_30
def c19_32 : SCode := .seq c19_5 c19_31
def c19_33 : SCode := .seq (.region c19_0 [0, 1]) c19_32
def c19 : SCode := c19_33
theorem w19 : type_of% (And.intro (uR Try.prog c19_0.eq_1) (And.intro (uR Try.prog c19_1.eq_1) (And.intro (uR Try.prog c19_2.eq_1) (And.intro (uC Try.prog c19_3.eq_1) (And.intro (uC Try.prog c19_4.eq_1) (And.intro (uC Try.prog c19_5.eq_1) (And.intro (uR Try.prog c19_6.eq_1) (And.intro (uR Try.prog c19_7.eq_1) (And.intro (uR Try.prog c19_8.eq_1) (And.intro (uC Try.prog c19_9.eq_1) (And.intro (uR Try.prog c19_10.eq_1) (And.intro (uR Try.prog c19_11.eq_1) (And.intro (uR Try.prog c19_12.eq_1) (And.intro (uR Try.prog c19_13.eq_1) (And.intro (uC Try.prog c19_14.eq_1) (And.intro (uC Try.prog c19_15.eq_1) (And.intro (uR Try.prog c19_16.eq_1) (And.intro (uC Try.prog c19_17.eq_1) (And.intro (uC Try.prog c19_18.eq_1) (And.intro (uC Try.prog c19_19.eq_1) (And.intro (uC Try.prog c19_20.eq_1) (And.intro (uR Try.prog c19_21.eq_1) (And.intro (uC Try.prog c19_22.eq_1) (And.intro (uC Try.prog c19_23.eq_1) (And.intro (uC Try.prog c19_24.eq_1) (And.intro (uC Try.prog c19_25.eq_1) (And.intro (uC Try.prog c19_26.eq_1) (And.intro (uC Try.prog c19_27.eq_1) (And.intro (uR Try.prog c19_28.eq_1) (And.intro (uC Try.prog c19_29.eq_1) (And.intro (uC Try.prog c19_30.eq_1) (And.intro (uC Try.prog c19_31.eq_1) (And.intro (uC Try.prog c19_32.eq_1) (And.intro (uC Try.prog c19_33.eq_1) (uC Try.prog c19.eq_1))))))))))))))))))))))))))))))))))) := (And.intro (uR Try.prog c19_0.eq_1) (And.intro (uR Try.prog c19_1.eq_1) (And.intro (uR Try.prog c19_2.eq_1) (And.intro (uC Try.prog c19_3.eq_1) (And.intro (uC Try.prog c19_4.eq_1) (And.intro (uC Try.prog c19_5.eq_1) (And.intro (uR Try.prog c19_6.eq_1) (And.intro (uR Try.prog c19_7.eq_1) (And.intro (uR Try.prog c19_8.eq_1) (And.intro (uC Try.prog c19_9.eq_1) (And.intro (uR Try.prog c19_10.eq_1) (And.intro (uR Try.prog c19_11.eq_1) (And.intro (uR Try.prog c19_12.eq_1) (And.intro (uR Try.prog c19_13.eq_1) (And.intro (uC Try.prog c19_14.eq_1) (And.intro (uC Try.prog c19_15.eq_1) (And.intro (uR Try.prog c19_16.eq_1) (And.intro (uC Try.prog c19_17.eq_1) (And.intro (uC Try.prog c19_18.eq_1) (And.intro (uC Try.prog c19_19.eq_1) (And.intro (uC Try.prog c19_20.eq_1) (And.intro (uR Try.prog c19_21.eq_1) (And.intro (uC Try.prog c19_22.eq_1) (And.intro (uC Try.prog c19_23.eq_1) (And.intro (uC Try.prog c19_24.eq_1) (And.intro (uC Try.prog c19_25.eq_1) (And.intro (uC Try.prog c19_26.eq_1) (And.intro (uC Try.prog c19_27.eq_1) (And.intro (uR Try.prog c19_28.eq_1) (And.intro (uC Try.prog c19_29.eq_1) (And.intro (uC Try.prog c19_30.eq_1) (And.intro (uC Try.prog c19_31.eq_1) (And.intro (uC Try.prog c19_32.eq_1) (And.intro (uC Try.prog c19_33.eq_1) (uC Try.prog c19.eq_1)))))))))))))))))))))))))))))))))))
def v19 : List RV := [.t 4]
theorem s19 : slimF Try.prog Try.f19 = some (c19.bare, v19) := by kernel_rfl

/-! ### The results of a job -/
def stp (h x : Int) : Int := (h * 257 + x + 1).tmod 1000000007
def resV (acc : List Int) (t : Task) : Int := t.needs.foldl (fun h n => stp h (acc.getD n.toNat 0)) ((t.kind * 1000003 + t.value).tmod 1000000007)
def resF (l : List Task) : List Int := l.foldl (fun acc t => acc ++ [resV acc t]) []
theorem resF_step (l : List Task) (i : Nat) (hi : i < l.length) : resF (l.take (i + 1)) = resF (l.take i) ++ [resV (resF (l.take i)) l[i]] := by
  unfold resF; rw [List.take_succ_eq_append_getElem hi, List.foldl_append]; rfl
theorem foldl_snoc_length {α β : Type} (f : List β → α → β) (l : List α) : ∀ acc : List β, (l.foldl (fun acc t => acc ++ [f acc t]) acc).length = acc.length + l.length := by
  induction l with
  | nil => intro acc; simp
  | cons t l ih => intro acc; rw [List.foldl_cons, ih]; simp; omega
theorem resF_length (l : List Task) : (resF l).length = l.length := by
  have := foldl_snoc_length resV l []; simpa [resF] using this
theorem tmod_b {x : Int} (h : 0 ≤ x) : 0 ≤ x.tmod 1000000007 ∧ x.tmod 1000000007 < 1000000007 := ⟨Int.tmod_nonneg _ h, Int.tmod_lt_of_pos _ (by omega)⟩
theorem stp_b {h x : Int} (h1 : 0 ≤ h) (h2 : 0 ≤ x) : 0 ≤ stp h x ∧ stp h x < 1000000007 := tmod_b (by omega)
theorem getD_b {acc : List Int} (hb : ∀ x ∈ acc, 0 ≤ x ∧ x < 1000000007) (n : Nat) : 0 ≤ acc.getD n 0 ∧ acc.getD n 0 < 1000000007 := by
  rw [List.getD]
  cases hq : acc[n]? with
  | none => simp
  | some y => simpa using hb y (List.mem_of_getElem? hq)
theorem fold_b {acc : List Int} (hb : ∀ x ∈ acc, 0 ≤ x ∧ x < 1000000007) : ∀ (ns : List Int) (h : Int), 0 ≤ h ∧ h < 1000000007 → 0 ≤ ns.foldl (fun h n => stp h (acc.getD n.toNat 0)) h ∧ ns.foldl (fun h n => stp h (acc.getD n.toNat 0)) h < 1000000007 := by
  intro ns
  induction ns with
  | nil => intro h hh; exact hh
  | cons n ns ih => intro h hh; exact ih _ (stp_b hh.1 (getD_b hb _).1)
def jobIn (l : List Task) : Prop := ∀ i (h : i < l.length), (0 ≤ l[i].kind ∧ l[i].kind ≤ 9) ∧ (0 ≤ l[i].value ∧ l[i].value ≤ 10000000) ∧ l[i].needs.length ≤ 10 ∧ (∀ n ∈ l[i].needs, 0 ≤ n ∧ n < i) ∧ (1 ≤ l[i].cost ∧ l[i].cost ≤ 1000)
theorem jobOk.in {l : List Task} (h : jobOk l) : jobIn l := fun i hi => ⟨(h.2 i hi).1, (h.2 i hi).2.1, (h.2 i hi).2.2.2.1, fun n hn => h.need hi hn, h.cost hi⟩
theorem resF_b {l : List Task} (h : jobIn l) : ∀ i, i ≤ l.length → ∀ x ∈ resF (l.take i), 0 ≤ x ∧ x < 1000000007 := by
  intro i
  induction i with
  | zero => intro _ x hx; simp [resF] at hx
  | succ i ih =>
    intro hi x hx
    rw [resF_step l i (by omega), List.mem_append, List.mem_singleton] at hx
    rcases hx with hx | rfl
    · exact ih (by omega) x hx
    · have := h i (by omega)
      exact fold_b (ih (by omega)) _ _ (tmod_b (by omega))
theorem stepped_ok (h : Heap) (a x : Int) (ha : 0 ≤ a ∧ a < 1000000007) (hx : 0 ≤ x ∧ x < 1000000007) : ACall Try.prog 58 [.int .i64 a, .int .i64 x] h fun r h' => h' = h ∧ r = .int .i64 (stp a x) := by
  refine ACall.of Try.func58 s58 (of_decide_eq_true rfl) ?_
  simp (maxSteps := 4000000) (disch := omega) only [ah, am, Nat.reduceEqDiff, reduceCtorEq, Nat.reduceAdd, Nat.reduceLeDiff, Nat.reduceMul, Nat.reduceLT, if_true, if_false, true_and, and_true, and_self, Nat.reduceBEq, QOp.loads, boxO, bslO, buildO, cutL, fillV, putL, w58, v58, i64w]
  rfl
theorem l16Results_ok (h : Heap) (v : Value) (l : List Task) (hj : JobAt h v l) (hl : l.length ≤ 1048576) (hk : jobIn l) : ACall Try.prog 43 [v] h fun r h' => Fresh h h' encI 1 r (resF l) := by
  obtain ⟨rs, s, hlen, Hr⟩ := id hj
  refine ACall.of Try.func43 s43 (of_decide_eq_true rfl) ?_
  simp (maxSteps := 4000000) (disch := omega) only [ah, am, Nat.reduceEqDiff, reduceCtorEq, Nat.reduceAdd, Nat.reduceLeDiff, Nat.reduceMul, Nat.reduceLT, if_true, if_false, true_and, and_true, and_self, Nat.reduceBEq, QOp.loads, boxO, bslO, buildO, cutL, fillV, putL, w43, v43]
  refine SW_loop_up (fun i E K => ∃ ov, E = [(0, v), (3, ov), (4, .int .i64 i)] ∧ Fresh h K encI 1 ov (resF (l.take i))) l.length 0 (by omega)
    ⟨_, rfl, Fresh.new0 h encI_len (by omega)⟩ ?_
  rintro i E K hi ⟨ov, rfl, F⟩
  have R := (s.ext F.1).rulesN
  simp only [hlen] at R
  have W : IntKind.i64.wrap ((i : Int) + 1) = ((i + 1 : Nat) : Int) := i64e (by omega) (by omega)
  simp (maxSteps := 4000000) (disch := omega) only [ah, am, Nat.reduceEqDiff, reduceCtorEq, Nat.reduceAdd, Nat.reduceLeDiff, Nat.reduceMul, Nat.reduceLT, if_true, if_false, true_and, and_true, and_self, Nat.reduceBEq, QOp.loads, boxO, bslO, buildO, cutL, fillV, putL, w43, v43, R, W]
  refine stepI.split (fun hp => ?_) (fun hp => ?_)
  rotate_left
  · simp (maxSteps := 4000000) (disch := omega) only [ah, am, Nat.reduceEqDiff, reduceCtorEq, Nat.reduceAdd, Nat.reduceLeDiff, Nat.reduceMul, Nat.reduceLT, if_true, if_false, true_and, and_true, and_self, Nat.reduceBEq, QOp.loads, boxO, bslO, buildO, cutL, fillV, putL, w43, v43]
    obtain rfl : i = l.length := by omega
    rw [List.take_length] at F; exact F
  have hi2 : i < l.length := by omega
  obtain ⟨k1, k2, k3, sn⟩ := Hr i (by omega) hi2
  obtain ⟨b1, b2, b3, b4, b5⟩ := hk i hi2
  have hacc : (resF (l.take i)).length = i := by rw [resF_length]; simp; omega
  have hbd := resF_b hk i (by omega)
  have hstep := resF_step l i hi2
  obtain ⟨acc, hacc'⟩ : ∃ acc, acc = resF (l.take i) := ⟨_, rfl⟩
  rw [← hacc'] at F hacc hbd hstep
  obtain ⟨t, ht⟩ : ∃ t, t = l[i] := ⟨_, rfl⟩
  rw [← ht] at k1 k2 k3 sn b1 b2 b3 b4 b5 hstep
  simp (maxSteps := 4000000) (disch := omega) only [ah, am, Nat.reduceEqDiff, reduceCtorEq, Nat.reduceAdd, Nat.reduceLeDiff, Nat.reduceMul, Nat.reduceLT, if_true, if_false, true_and, and_true, and_self, Nat.reduceBEq, QOp.loads, boxO, bslO, buildO, cutL, fillV, putL, w43, v43, R, encT, k1, k2, i64w]
  have Rn := (sn.ext F.1).rulesN
  have Ro := F.slt.rulesN
  simp only [hacc] at Ro
  refine SW_loop_up (fun k E K' => E = [(0, v), (3, ov), (4, .int .i64 i), (5, .int .i64 ((t.needs.take k).foldl (fun h n => stp h (acc.getD n.toNat 0)) ((t.kind * 1000003 + t.value).tmod 1000000007))), (6, .int .i64 k)] ∧ K' = K) t.needs.length 0 (by omega)
    ⟨rfl, rfl⟩ ?_
  rintro k E K' hk2 ⟨rfl, rfl⟩
  have Wk : IntKind.i64.wrap ((k : Int) + 1) = ((k + 1 : Nat) : Int) := i64e (by omega) (by omega)
  simp (maxSteps := 4000000) (disch := omega) only [ah, am, Nat.reduceEqDiff, reduceCtorEq, Nat.reduceAdd, Nat.reduceLeDiff, Nat.reduceMul, Nat.reduceLT, if_true, if_false, true_and, and_true, and_self, Nat.reduceBEq, QOp.loads, boxO, bslO, buildO, cutL, fillV, putL, w43, v43, R, Rn, encT]
  refine stepI.split (fun hp => ?_) (fun hp => ?_)
  · have hk3 : k < t.needs.length := by omega
    have hb := fold_b hbd (t.needs.take k) ((t.kind * 1000003 + t.value).tmod 1000000007) (tmod_b (by omega))
    rw [List.take_succ_eq_append_getElem hk3, List.foldl_append, List.foldl_cons, List.foldl_nil]
    generalize (t.needs.take k).foldl (fun h n => stp h (acc.getD n.toNat 0)) ((t.kind * 1000003 + t.value).tmod 1000000007) = hh at hb ⊢
    obtain ⟨n, hn⟩ : ∃ n : Nat, t.needs[k] = (n : Int) := ⟨t.needs[k].toNat, by have := b4 _ (List.getElem_mem hk3); omega⟩
    have hni : n < i := by have := b4 _ (List.getElem_mem hk3); omega
    have hg : acc[n] = acc.getD n 0 := by simp [List.getD, List.getElem?_eq_getElem (show n < acc.length by omega)]
    have hgb := getD_b hbd n
    simp (maxSteps := 4000000) (disch := omega) only [ah, am, Nat.reduceEqDiff, reduceCtorEq, Nat.reduceAdd, Nat.reduceLeDiff, Nat.reduceMul, Nat.reduceLT, if_true, if_false, true_and, and_true, and_self, Nat.reduceBEq, QOp.loads, boxO, bslO, buildO, cutL, fillV, putL, w43, v43, R, Rn, Ro, encT, encI, hn, hg, i64w, Wk]
    exact ⟨hk3, rfl⟩
  · simp (maxSteps := 4000000) (disch := omega) only [ah, am, Nat.reduceEqDiff, reduceCtorEq, Nat.reduceAdd, Nat.reduceLeDiff, Nat.reduceMul, Nat.reduceLT, if_true, if_false, true_and, and_true, and_self, Nat.reduceBEq, QOp.loads, boxO, bslO, buildO, cutL, fillV, putL, w43, v43]
    obtain rfl : k = t.needs.length := by omega
    rw [List.take_length]
    obtain ⟨v2, K3, ea, F3⟩ := F.app1 (resV acc t) (bytes := 8) (by omega)
    simp only [encI, resV] at ea
    simp (maxSteps := 4000000) (disch := omega) only [ah, am, Nat.reduceEqDiff, reduceCtorEq, Nat.reduceAdd, Nat.reduceLeDiff, Nat.reduceMul, Nat.reduceLT, if_true, if_false, true_and, and_true, and_self, Nat.reduceBEq, QOp.loads, boxO, bslO, buildO, cutL, fillV, putL, w43, v43, ea, W]
    refine ⟨hi2, v2, rfl, ?_⟩
    rw [hstep]; exact F3
theorem results_ok (h : Heap) (v : Value) (l : List Task) (hj : JobAt h v l) (hl : l.length ≤ 1048576) (hk : jobIn l) : ACall Try.prog 44 [v] h fun r h' => Fresh h h' encI 1 r (resF l) := by
  obtain ⟨rs, s, hlen, Hr⟩ := id hj
  refine ACall.of Try.func44 s44 (of_decide_eq_true rfl) ?_
  have R := (s.ext (Ext.more h [[]])).rulesN
  simp only [hlen] at R
  simp (maxSteps := 4000000) (disch := omega) only [ah, am, Nat.reduceEqDiff, reduceCtorEq, Nat.reduceAdd, Nat.reduceLeDiff, Nat.reduceMul, Nat.reduceLT, if_true, if_false, true_and, and_true, and_self, Nat.reduceBEq, QOp.loads, boxO, bslO, buildO, cutL, fillV, putL, w44, v44, R]
  refine SW_loop_up (fun i E K => ∃ ov, E = [(3, ov), (10, v), (11, .int .i64 l.length), (12, .int .i64 i)] ∧ Fresh h K encI 1 ov (resF (l.take i))) l.length 0 (by omega)
    ⟨_, rfl, Fresh.new0 h encI_len (by omega)⟩ ?_
  rintro i E K hi ⟨ov, rfl, F⟩
  have R := (s.ext F.1).rulesN
  simp only [hlen] at R
  have W : IntKind.i64.wrap ((i : Int) + 1) = ((i + 1 : Nat) : Int) := i64e (by omega) (by omega)
  simp (maxSteps := 4000000) (disch := omega) only [ah, am, Nat.reduceEqDiff, reduceCtorEq, Nat.reduceAdd, Nat.reduceLeDiff, Nat.reduceMul, Nat.reduceLT, if_true, if_false, true_and, and_true, and_self, Nat.reduceBEq, QOp.loads, boxO, bslO, buildO, cutL, fillV, putL, w44, v44, R, W]
  refine stepI.split (fun hp => ?_) (fun hp => ?_)
  rotate_left
  · simp (maxSteps := 4000000) (disch := omega) only [ah, am, Nat.reduceEqDiff, reduceCtorEq, Nat.reduceAdd, Nat.reduceLeDiff, Nat.reduceMul, Nat.reduceLT, if_true, if_false, true_and, and_true, and_self, Nat.reduceBEq, QOp.loads, boxO, bslO, buildO, cutL, fillV, putL, w44, v44]
    obtain rfl : i = l.length := by omega
    rw [List.take_length] at F; exact F
  have hi2 : i < l.length := by omega
  obtain ⟨k1, k2, k3, sn⟩ := Hr i (by omega) hi2
  have p1 := cells_slT sn; have p2 := oneB_slT sn
  obtain ⟨b1, b2, b3, b4, b5⟩ := hk i hi2
  have hacc : (resF (l.take i)).length = i := by rw [resF_length]; simp; omega
  have hbd := resF_b hk i (by omega)
  have hstep := resF_step l i hi2
  obtain ⟨acc, hacc'⟩ : ∃ acc, acc = resF (l.take i) := ⟨_, rfl⟩
  rw [← hacc'] at F hacc hbd hstep
  obtain ⟨t, ht⟩ : ∃ t, t = l[i] := ⟨_, rfl⟩
  rw [← ht] at k1 k2 k3 sn b1 b2 b3 b4 b5 hstep
  have G := F.ext (Ext.more K [encT rs[i]])
  have Rn := (sn.ext G.1).rulesN
  have Ro := G.slt.rulesN
  simp only [hacc] at Ro
  simp only [encT, k1, k2, k3] at Rn Ro G
  simp (maxSteps := 4000000) (disch := omega) only [ah, am, Nat.reduceEqDiff, reduceCtorEq, Nat.reduceAdd, Nat.reduceLeDiff, Nat.reduceMul, Nat.reduceLT, if_true, if_false, true_and, and_true, and_self, Nat.reduceBEq, QOp.loads, boxO, bslO, buildO, cutL, fillV, putL, w44, v44, R, encT, p1, p2, k1, k2, k3, i64w, Rn]
  refine SW_loop_up (fun k E K' => E = [(3, ov), (6, .int .i64 ((t.needs.take k).foldl (fun h n => stp h (acc.getD n.toNat 0)) ((t.kind * 1000003 + t.value).tmod 1000000007))), (10, v), (11, .int .i64 l.length), (12, .int .i64 i), (24, rs[i].nv), (25, .int .i64 t.needs.length), (26, .int .i64 k)] ∧
      K' = K.more [[.int .i64 t.kind, .int .i64 t.value, rs[i].nv, .int .i64 t.cost]]) t.needs.length 0 (by omega)
    ⟨rfl, rfl⟩ ?_
  rintro k E K' hk2 ⟨rfl, rfl⟩
  have Wk : IntKind.i64.wrap ((k : Int) + 1) = ((k + 1 : Nat) : Int) := i64e (by omega) (by omega)
  simp (maxSteps := 4000000) (disch := omega) only [ah, am, Nat.reduceEqDiff, reduceCtorEq, Nat.reduceAdd, Nat.reduceLeDiff, Nat.reduceMul, Nat.reduceLT, if_true, if_false, true_and, and_true, and_self, Nat.reduceBEq, QOp.loads, boxO, bslO, buildO, cutL, fillV, putL, w44, v44]
  refine stepI.split (fun hp => ?_) (fun hp => ?_)
  · have hk3 : k < t.needs.length := by omega
    have hb := fold_b hbd (t.needs.take k) ((t.kind * 1000003 + t.value).tmod 1000000007) (tmod_b (by omega))
    rw [List.take_succ_eq_append_getElem hk3, List.foldl_append, List.foldl_cons, List.foldl_nil]
    generalize (t.needs.take k).foldl (fun h n => stp h (acc.getD n.toNat 0)) ((t.kind * 1000003 + t.value).tmod 1000000007) = hh at hb ⊢
    obtain ⟨n, hn⟩ : ∃ n : Nat, t.needs[k] = (n : Int) := ⟨t.needs[k].toNat, by have := b4 _ (List.getElem_mem hk3); omega⟩
    have hni : n < i := by have := b4 _ (List.getElem_mem hk3); omega
    have hg : acc[n] = acc.getD n 0 := by simp [List.getD, List.getElem?_eq_getElem (show n < acc.length by omega)]
    have hgb := getD_b hbd n
    simp (maxSteps := 4000000) (disch := omega) only [ah, am, Nat.reduceEqDiff, reduceCtorEq, Nat.reduceAdd, Nat.reduceLeDiff, Nat.reduceMul, Nat.reduceLT, if_true, if_false, true_and, and_true, and_self, Nat.reduceBEq, QOp.loads, boxO, bslO, buildO, cutL, fillV, putL, w44, v44, R, Rn, Ro, encT, encI, hn, hg, Wk]
    refine stepC.of (stepped_ok _ _ _ hb hgb) ?_
    rintro _ Hx ⟨hx, rfl⟩; rw [hx]; clear hx Hx
    simp (maxSteps := 4000000) (disch := omega) only [ah, am, Nat.reduceEqDiff, reduceCtorEq, Nat.reduceAdd, Nat.reduceLeDiff, Nat.reduceMul, Nat.reduceLT, if_true, if_false, true_and, and_true, and_self, Nat.reduceBEq, QOp.loads, boxO, bslO, buildO, cutL, fillV, putL, w44, v44, Wk]
    exact hk3
  · simp (maxSteps := 4000000) (disch := omega) only [ah, am, Nat.reduceEqDiff, reduceCtorEq, Nat.reduceAdd, Nat.reduceLeDiff, Nat.reduceMul, Nat.reduceLT, if_true, if_false, true_and, and_true, and_self, Nat.reduceBEq, QOp.loads, boxO, bslO, buildO, cutL, fillV, putL, w44, v44]
    obtain rfl : k = t.needs.length := by omega
    rw [List.take_length]
    obtain ⟨v2, K3, ea, F3⟩ := G.app1 (resV acc t) (bytes := 8) (by omega)
    simp only [more_more, size_more, encI, resV, List.cons_append, List.nil_append, List.length_cons, List.length_nil, Nat.zero_add] at ea
    simp (maxSteps := 4000000) (disch := omega) only [ah, am, Nat.reduceEqDiff, reduceCtorEq, Nat.reduceAdd, Nat.reduceLeDiff, Nat.reduceMul, Nat.reduceLT, if_true, if_false, true_and, and_true, and_self, Nat.reduceBEq, QOp.loads, boxO, bslO, buildO, cutL, fillV, putL, w44, v44, ea, W]
    refine ⟨hi2, v2, rfl, ?_⟩
    rw [hstep]; exact F3
noncomputable def resultsF (l : List Task) : List Int := if jobOk l then resF l else []
theorem specResults_ok (h : Heap) (v : Value) (l : List Task) (hj : JobAt h v l) (hl : l.length ≤ 1048576) : ACall Try.prog 30 [v] h fun r h' => Fresh h h' encI 1 r (resultsF l) := by
  refine ACall.of Try.func30 s30 (of_decide_eq_true rfl) ?_
  simp (maxSteps := 4000000) (disch := omega) only [ah, am, Nat.reduceEqDiff, reduceCtorEq, Nat.reduceAdd, Nat.reduceLeDiff, Nat.reduceMul, Nat.reduceLT, if_true, if_false, true_and, and_true, and_self, Nat.reduceBEq, QOp.loads, boxO, bslO, buildO, cutL, fillV, putL, w30, v30]
  refine stepC.of (specJobOk_ok _ v l hj (by omega)) ?_
  rintro _ H1 ⟨e1, rfl⟩
  by_cases c1 : jobOk l
  · simp (maxSteps := 4000000) (disch := omega) only [ah, am, Nat.reduceEqDiff, reduceCtorEq, Nat.reduceAdd, Nat.reduceLeDiff, Nat.reduceMul, Nat.reduceLT, if_true, if_false, true_and, and_true, and_self, Nat.reduceBEq, QOp.loads, boxO, bslO, buildO, cutL, fillV, putL, w30, v30, decide_eq_true c1, Bool.not_true]
    refine stepC.of (l16Results_ok _ v l (hj.ext e1) hl c1.in) ?_
    intro r H2 F
    simp (maxSteps := 4000000) (disch := omega) only [ah, am, Nat.reduceEqDiff, reduceCtorEq, Nat.reduceAdd, Nat.reduceLeDiff, Nat.reduceMul, Nat.reduceLT, if_true, if_false, true_and, and_true, and_self, Nat.reduceBEq, QOp.loads, boxO, bslO, buildO, cutL, fillV, putL, w30, v30]
    rw [resultsF, if_pos c1]; exact F.mono e1
  · simp (maxSteps := 4000000) (disch := omega) only [ah, am, Nat.reduceEqDiff, reduceCtorEq, Nat.reduceAdd, Nat.reduceLeDiff, Nat.reduceMul, Nat.reduceLT, if_true, if_false, true_and, and_true, and_self, Nat.reduceBEq, QOp.loads, boxO, bslO, buildO, cutL, fillV, putL, w30, v30, decide_eq_false c1, Bool.not_false]
    rw [resultsF, if_neg c1]
    exact (Fresh.new0 H1 encI_len (by omega)).mono e1
theorem Results_ok (h : Heap) (v : Value) (l : List Task) (hj : JobAt h v l) (hl : l.length ≤ 1048576) : ACall Try.prog 29 [v] h fun r h' => Fresh h h' encI 1 r (resultsF l) := by
  refine ACall.of Try.func29 s29 (of_decide_eq_true rfl) ?_
  simp (maxSteps := 4000000) (disch := omega) only [ah, am, Nat.reduceEqDiff, reduceCtorEq, Nat.reduceAdd, Nat.reduceLeDiff, Nat.reduceMul, Nat.reduceLT, if_true, if_false, true_and, and_true, and_self, Nat.reduceBEq, QOp.loads, boxO, bslO, buildO, cutL, fillV, putL, w29, v29]
  refine stepC.of (implJobOk_ok _ v l hj (by omega)) ?_
  rintro _ H1 ⟨e1, rfl⟩
  by_cases c1 : jobOk l
  · simp (maxSteps := 4000000) (disch := omega) only [ah, am, Nat.reduceEqDiff, reduceCtorEq, Nat.reduceAdd, Nat.reduceLeDiff, Nat.reduceMul, Nat.reduceLT, if_true, if_false, true_and, and_true, and_self, Nat.reduceBEq, QOp.loads, boxO, bslO, buildO, cutL, fillV, putL, w29, v29, decide_eq_true c1, Bool.not_true]
    refine stepC.of (results_ok _ v l (hj.ext e1) hl c1.in) ?_
    intro r H2 F
    simp (maxSteps := 4000000) (disch := omega) only [ah, am, Nat.reduceEqDiff, reduceCtorEq, Nat.reduceAdd, Nat.reduceLeDiff, Nat.reduceMul, Nat.reduceLT, if_true, if_false, true_and, and_true, and_self, Nat.reduceBEq, QOp.loads, boxO, bslO, buildO, cutL, fillV, putL, w29, v29]
    rw [resultsF, if_pos c1]; exact F.mono e1
  · simp (maxSteps := 4000000) (disch := omega) only [ah, am, Nat.reduceEqDiff, reduceCtorEq, Nat.reduceAdd, Nat.reduceLeDiff, Nat.reduceMul, Nat.reduceLT, if_true, if_false, true_and, and_true, and_self, Nat.reduceBEq, QOp.loads, boxO, bslO, buildO, cutL, fillV, putL, w29, v29, decide_eq_false c1, Bool.not_false]
    rw [resultsF, if_neg c1]
    exact (Fresh.nil H1 encI_len (by omega)).mono e1
/-! ### What a job takes behind another -/
def costV (there : List Int) (t : Task) (h : Int) : Int := if h ∈ there then 0 else t.cost
def reusedL (old new : List Task) : List Int := List.zipWith (costV (resF old)) new (resF new)
noncomputable def reusedF (old new : List Task) : List Int := if jobOk old ∧ jobOk new then reusedL old new else []
theorem reusedL_length (old new : List Task) : (reusedL old new).length = new.length := by simp [reusedL, resF_length]
theorem reusedF_length (old new : List Task) : (reusedF old new).length ≤ 200 := by
  unfold reusedF; split
  · rename_i h; rw [reusedL_length]; exact h.2.1
  · simp
theorem reusedL_step (old new : List Task) (i : Nat) (hi : i < new.length) : (reusedL old new).take (i + 1) = (reusedL old new).take i ++ [costV (resF old) new[i] ((resF new)[i]'(by rw [resF_length]; exact hi))] := by
  rw [List.take_succ_eq_append_getElem (by rw [reusedL_length]; exact hi)]; simp [reusedL]
theorem Reused_ok (h : Heap) (v w : Value) (l m : List Task) (hj : JobAt h v l) (hj' : JobAt h w m) (hl : l.length ≤ 1048576) (hm : m.length ≤ 1048576) :
    ACall Try.prog 19 [v, w] h fun r h' => Fresh h h' encI 1 r (reusedF l m) := by
  refine ACall.of Try.func19 s19 (of_decide_eq_true rfl) ?_
  simp (maxSteps := 4000000) (disch := omega) only [ah, am, Nat.reduceEqDiff, reduceCtorEq, Nat.reduceAdd, Nat.reduceLeDiff, Nat.reduceMul, Nat.reduceLT, if_true, if_false, true_and, and_true, and_self, Nat.reduceBEq, QOp.loads, boxO, bslO, buildO, cutL, fillV, putL, w19, v19]
  refine stepC.of (implJobOk_ok _ v l hj (by omega)) ?_
  rintro _ H1 ⟨e1, rfl⟩
  have nil0 : ∀ {H : Heap}, Ext h H → Fresh h H encI 1 (.slice none 0 0) ([] : List Int) := fun {H} e => (Fresh.nil H encI_len (by omega)).mono e
  by_cases c1 : jobOk l
  rotate_left
  · simp (maxSteps := 4000000) (disch := omega) only [ah, am, Nat.reduceEqDiff, reduceCtorEq, Nat.reduceAdd, Nat.reduceLeDiff, Nat.reduceMul, Nat.reduceLT, if_true, if_false, true_and, and_true, and_self, Nat.reduceBEq, QOp.loads, boxO, bslO, buildO, cutL, fillV, putL, w19, v19, decide_eq_false c1, Bool.not_false]
    rw [show reusedF l m = [] from if_neg fun q => c1 q.1]; exact nil0 e1
  simp (maxSteps := 4000000) (disch := omega) only [ah, am, Nat.reduceEqDiff, reduceCtorEq, Nat.reduceAdd, Nat.reduceLeDiff, Nat.reduceMul, Nat.reduceLT, if_true, if_false, true_and, and_true, and_self, Nat.reduceBEq, QOp.loads, boxO, bslO, buildO, cutL, fillV, putL, w19, v19, decide_eq_true c1, Bool.not_true]
  refine stepC.of (implJobOk_ok _ w m (hj'.ext e1) (by omega)) ?_
  rintro _ H2 ⟨e2, rfl⟩
  have E2 := e1.trans e2
  by_cases c2 : jobOk m
  rotate_left
  · simp (maxSteps := 4000000) (disch := omega) only [ah, am, Nat.reduceEqDiff, reduceCtorEq, Nat.reduceAdd, Nat.reduceLeDiff, Nat.reduceMul, Nat.reduceLT, if_true, if_false, true_and, and_true, and_self, Nat.reduceBEq, QOp.loads, boxO, bslO, buildO, cutL, fillV, putL, w19, v19, decide_eq_false c2, Bool.not_false]
    rw [show reusedF l m = [] from if_neg fun q => c2 q.2]; exact nil0 E2
  simp (maxSteps := 4000000) (disch := omega) only [ah, am, Nat.reduceEqDiff, reduceCtorEq, Nat.reduceAdd, Nat.reduceLeDiff, Nat.reduceMul, Nat.reduceLT, if_true, if_false, true_and, and_true, and_self, Nat.reduceBEq, QOp.loads, boxO, bslO, buildO, cutL, fillV, putL, w19, v19, decide_eq_true c2, Bool.not_true]
  rw [show reusedF l m = reusedL l m from if_pos ⟨c1, c2⟩]
  refine stepC.of (results_ok _ v l (hj.ext E2) hl c1.in) ?_
  intro tv H3 F3
  simp (maxSteps := 4000000) (disch := omega) only [ah, am, Nat.reduceEqDiff, reduceCtorEq, Nat.reduceAdd, Nat.reduceLeDiff, Nat.reduceMul, Nat.reduceLT, if_true, if_false, true_and, and_true, and_self, Nat.reduceBEq, QOp.loads, boxO, bslO, buildO, cutL, fillV, putL, w19, v19]
  have E3 := E2.trans F3.1
  refine stepC.of (results_ok _ w m (hj'.ext (E3.trans (Ext.more _ _))) hm c2.in) ?_
  intro nv H4 F4
  have hrl := resF_length m
  have Rr := F4.slt.rulesN
  simp only [hrl] at Rr
  simp (maxSteps := 4000000) (disch := omega) only [ah, am, Nat.reduceEqDiff, reduceCtorEq, Nat.reduceAdd, Nat.reduceLeDiff, Nat.reduceMul, Nat.reduceLT, if_true, if_false, true_and, and_true, and_self, Nat.reduceBEq, QOp.loads, boxO, bslO, buildO, cutL, fillV, putL, w19, v19, Rr]
  have T0 := Tw.of (Fk.of (X := []) (Fresh.new0 H3 encI_len (by omega))) F4
  generalize (H3.more [[]]).size = ta at T0
  generalize H4.size = tb at T0
  obtain ⟨rs, s, hlen, Hr⟩ := id hj'
  refine SW_loop_up (fun i E K => ∃ ov, E = [(1, w), (5, tv), (6, ov), (22, nv), (23, .int .i64 m.length), (24, .int .i64 i)] ∧ Tw ta tb H3 K encI 1 ov ((reusedL l m).take i) [] encI 1 nv (resF m)) m.length 0 (by omega)
    ⟨_, rfl, T0⟩ ?_
  rintro i E K hi ⟨ov, rfl, T⟩
  have EK := E3.trans T.ext
  have R := (s.ext EK).rulesN
  simp only [hlen] at R
  have Rn := T.mine.slt.rulesN
  simp only [hrl] at Rn
  have W : IntKind.i64.wrap ((i : Int) + 1) = ((i + 1 : Nat) : Int) := i64e (by omega) (by omega)
  simp (maxSteps := 4000000) (disch := omega) only [ah, am, Nat.reduceEqDiff, reduceCtorEq, Nat.reduceAdd, Nat.reduceLeDiff, Nat.reduceMul, Nat.reduceLT, if_true, if_false, true_and, and_true, and_self, Nat.reduceBEq, QOp.loads, boxO, bslO, buildO, cutL, fillV, putL, w19, v19, R, W]
  refine stepI.split (fun hp => ?_) (fun hp => ?_)
  rotate_left
  · simp (maxSteps := 4000000) (disch := omega) only [ah, am, Nat.reduceEqDiff, reduceCtorEq, Nat.reduceAdd, Nat.reduceLeDiff, Nat.reduceMul, Nat.reduceLT, if_true, if_false, true_and, and_true, and_self, Nat.reduceBEq, QOp.loads, boxO, bslO, buildO, cutL, fillV, putL, w19, v19]
    obtain rfl : i = m.length := by omega
    rw [List.take_of_length_le (by rw [reusedL_length]; exact Nat.le_refl _)] at T
    exact T.fk.fresh.mono E3
  have hi2 : i < m.length := by omega
  obtain ⟨k1, k2, k3, sn⟩ := Hr i (by omega) hi2
  have hstep := reusedL_step l m i hi2
  have htl : ((reusedL l m).take i).length ≤ 200 := by have := reusedL_length l m; have := c2.1; simp; omega
  simp (maxSteps := 4000000) (disch := omega) only [ah, am, Nat.reduceEqDiff, reduceCtorEq, Nat.reduceAdd, Nat.reduceLeDiff, Nat.reduceMul, Nat.reduceLT, if_true, if_false, true_and, and_true, and_self, Nat.reduceBEq, QOp.loads, boxO, bslO, buildO, cutL, fillV, putL, w19, v19, R, Rn, encT, encI, k3]
  refine stepC.of (ContainsI_ok _ tv (resF l) _ (F3.slt.ext T.ext) (by rw [resF_length]; omega)) ?_
  rintro _ Hx ⟨hx, rfl⟩; rw [hx]; clear hx Hx
  have fin : ∀ x, costV (resF l) m[i] ((resF m)[i]'(by rw [resF_length]; exact hi2)) = x → ∃ v2 K2, appV (K.more [[.int .i64 x]]) 8 1 ov (.slice (some ⟨K.size, 0, none⟩) 1 1) = some (v2, K2) ∧ Tw ta tb H3 K2 encI 1 v2 ((reusedL l m).take (i + 1)) [] encI 1 nv (resF m) := by
    intro x hx
    obtain ⟨v2, K2, ea, T2⟩ := T.app1 [] x (bytes := 8) (by omega)
    simp only [List.nil_append, List.length_nil, Nat.add_zero, encI] at ea
    exact ⟨v2, K2, ea, by rw [hstep, hx]; exact T2⟩
  by_cases hm2 : (resF m)[i]'(by rw [resF_length]; exact hi2) ∈ resF l
  · obtain ⟨v2, K2, ea, T2⟩ := fin 0 (if_pos hm2)
    simp (maxSteps := 4000000) (disch := omega) only [ah, am, Nat.reduceEqDiff, reduceCtorEq, Nat.reduceAdd, Nat.reduceLeDiff, Nat.reduceMul, Nat.reduceLT, if_true, if_false, true_and, and_true, and_self, Nat.reduceBEq, QOp.loads, boxO, bslO, buildO, cutL, fillV, putL, w19, v19, decide_eq_true hm2, ea, W]
    exact ⟨hi2, v2, rfl, T2⟩
  · obtain ⟨v2, K2, ea, T2⟩ := fin m[i].cost (if_neg hm2)
    simp (maxSteps := 4000000) (disch := omega) only [ah, am, Nat.reduceEqDiff, reduceCtorEq, Nat.reduceAdd, Nat.reduceLeDiff, Nat.reduceMul, Nat.reduceLT, if_true, if_false, true_and, and_true, and_self, Nat.reduceBEq, QOp.loads, boxO, bslO, buildO, cutL, fillV, putL, w19, v19, decide_eq_false hm2, ea, W]
    exact ⟨hi2, v2, rfl, T2⟩
theorem specReused_ok (h : Heap) (v w : Value) (l m : List Task) (hj : JobAt h v l) (hj' : JobAt h w m) (hl : l.length ≤ 1048576) (hm : m.length ≤ 1048576) :
    ACall Try.prog 18 [v, w] h fun r h' => Fresh h h' encI 1 r (reusedF l m) := by
  refine ACall.of Try.func18 s18 (of_decide_eq_true rfl) ?_
  simp (maxSteps := 4000000) (disch := omega) only [ah, am, Nat.reduceEqDiff, reduceCtorEq, Nat.reduceAdd, Nat.reduceLeDiff, Nat.reduceMul, Nat.reduceLT, if_true, if_false, true_and, and_true, and_self, Nat.reduceBEq, QOp.loads, boxO, bslO, buildO, cutL, fillV, putL, w18, v18]
  refine stepC.of (specJobOk_ok _ v l (hj.ext (Ext.more _ _)) (by omega)) ?_
  rintro _ H1 ⟨e1, rfl⟩
  have G1 : Fresh h H1 encI 1 (.slice (some ⟨h.size, 0, none⟩) 0 1) [] := (Fresh.new0 h encI_len (by omega)).ext e1
  by_cases c1 : jobOk l
  rotate_left
  · simp (maxSteps := 4000000) (disch := omega) only [ah, am, Nat.reduceEqDiff, reduceCtorEq, Nat.reduceAdd, Nat.reduceLeDiff, Nat.reduceMul, Nat.reduceLT, if_true, if_false, true_and, and_true, and_self, Nat.reduceBEq, QOp.loads, boxO, bslO, buildO, cutL, fillV, putL, w18, v18, decide_eq_false c1, Bool.not_false]
    rw [show reusedF l m = [] from if_neg fun q => c1 q.1]; exact G1
  simp (maxSteps := 4000000) (disch := omega) only [ah, am, Nat.reduceEqDiff, reduceCtorEq, Nat.reduceAdd, Nat.reduceLeDiff, Nat.reduceMul, Nat.reduceLT, if_true, if_false, true_and, and_true, and_self, Nat.reduceBEq, QOp.loads, boxO, bslO, buildO, cutL, fillV, putL, w18, v18, decide_eq_true c1, Bool.not_true]
  refine stepC.of (specJobOk_ok _ w m (hj'.ext G1.1) (by omega)) ?_
  rintro _ H2 ⟨e2, rfl⟩
  have G2 := G1.ext e2
  by_cases c2 : jobOk m
  rotate_left
  · simp (maxSteps := 4000000) (disch := omega) only [ah, am, Nat.reduceEqDiff, reduceCtorEq, Nat.reduceAdd, Nat.reduceLeDiff, Nat.reduceMul, Nat.reduceLT, if_true, if_false, true_and, and_true, and_self, Nat.reduceBEq, QOp.loads, boxO, bslO, buildO, cutL, fillV, putL, w18, v18, decide_eq_false c2, Bool.not_false]
    rw [show reusedF l m = [] from if_neg fun q => c2 q.2]; exact G2
  simp (maxSteps := 4000000) (disch := omega) only [ah, am, Nat.reduceEqDiff, reduceCtorEq, Nat.reduceAdd, Nat.reduceLeDiff, Nat.reduceMul, Nat.reduceLT, if_true, if_false, true_and, and_true, and_self, Nat.reduceBEq, QOp.loads, boxO, bslO, buildO, cutL, fillV, putL, w18, v18, decide_eq_true c2, Bool.not_true]
  rw [show reusedF l m = reusedL l m from if_pos ⟨c1, c2⟩]
  refine stepC.of (l16Results_ok _ v l (hj.ext G2.1) hl c1.in) ?_
  intro tv H3 F3
  simp (maxSteps := 4000000) (disch := omega) only [ah, am, Nat.reduceEqDiff, reduceCtorEq, Nat.reduceAdd, Nat.reduceLeDiff, Nat.reduceMul, Nat.reduceLT, if_true, if_false, true_and, and_true, and_self, Nat.reduceBEq, QOp.loads, boxO, bslO, buildO, cutL, fillV, putL, w18, v18]
  have E3 := G2.1.trans F3.1
  refine stepC.of (l16Results_ok _ w m (hj'.ext E3) hm c2.in) ?_
  intro nv H4 F4
  have hrl := resF_length m
  have hrl2 := resF_length l
  simp (maxSteps := 4000000) (disch := omega) only [ah, am, Nat.reduceEqDiff, reduceCtorEq, Nat.reduceAdd, Nat.reduceLeDiff, Nat.reduceMul, Nat.reduceLT, if_true, if_false, true_and, and_true, and_self, Nat.reduceBEq, QOp.loads, boxO, bslO, buildO, cutL, fillV, putL, w18, v18]
  have T1 := (Tw.of (Fk.of (X := []) G2) F3).step F4.1
  have T2 := Tw.of (Fk.of (X := []) (G2.ext F3.1)) F4
  generalize H2.size = ta at T1
  generalize H3.size = tb at T1 T2
  generalize H4.size = tc at T2
  obtain ⟨rs, s, hlen, Hr⟩ := id hj'
  refine SW_loop_up (fun i E K => ∃ ov, E = [(1, w), (5, ov), (6, tv), (7, nv), (8, .int .i64 i)] ∧ Tw ta tb h K encI 1 ov ((reusedL l m).take i) [] encI 1 tv (resF l) ∧ Tw tb tc h K encI 1 ov ((reusedL l m).take i) [] encI 1 nv (resF m)) m.length 0 (by omega)
    ⟨_, rfl, T1, T2⟩ ?_
  rintro i E K hi ⟨ov, rfl, T1, T2⟩
  have R := (s.ext T1.ext).rulesN
  simp only [hlen] at R
  have Rn := T2.mine.slt.rulesN
  simp only [hrl] at Rn
  have Rl := T1.mine.slt.rulesN
  simp only [hrl2] at Rl
  have W : IntKind.i64.wrap ((i : Int) + 1) = ((i + 1 : Nat) : Int) := i64e (by omega) (by omega)
  simp (maxSteps := 4000000) (disch := omega) only [ah, am, Nat.reduceEqDiff, reduceCtorEq, Nat.reduceAdd, Nat.reduceLeDiff, Nat.reduceMul, Nat.reduceLT, if_true, if_false, true_and, and_true, and_self, Nat.reduceBEq, QOp.loads, boxO, bslO, buildO, cutL, fillV, putL, w18, v18, Rn, W]
  refine stepI.split (fun hp => ?_) (fun hp => ?_)
  rotate_left
  · simp (maxSteps := 4000000) (disch := omega) only [ah, am, Nat.reduceEqDiff, reduceCtorEq, Nat.reduceAdd, Nat.reduceLeDiff, Nat.reduceMul, Nat.reduceLT, if_true, if_false, true_and, and_true, and_self, Nat.reduceBEq, QOp.loads, boxO, bslO, buildO, cutL, fillV, putL, w18, v18]
    obtain rfl : i = m.length := by omega
    rw [List.take_of_length_le (by rw [reusedL_length]; exact Nat.le_refl _)] at T1
    exact T1.fk.fresh
  have hi2 : i < m.length := by omega
  obtain ⟨k1, k2, k3, sn⟩ := Hr i (by omega) hi2
  have hstep := reusedL_step l m i hi2
  have htl : ((reusedL l m).take i).length ≤ 200 := by have := reusedL_length l m; have := c2.1; simp; omega
  simp (maxSteps := 4000000) (disch := omega) only [ah, am, Nat.reduceEqDiff, reduceCtorEq, Nat.reduceAdd, Nat.reduceLeDiff, Nat.reduceMul, Nat.reduceLT, if_true, if_false, true_and, and_true, and_self, Nat.reduceBEq, QOp.loads, boxO, bslO, buildO, cutL, fillV, putL, w18, v18, R, encT, k3]
  refine SW_loop_up (fun k E K' => E = [(1, w), (5, ov), (6, tv), (7, nv), (8, .int .i64 i), (9, .int .i64 (if (resF m)[i]'(by rw [resF_length]; exact hi2) ∈ (resF l).take k then 0 else m[i].cost)), (10, .int .i64 k)] ∧ K' = K) l.length 0 (by omega)
    ⟨by simp, rfl⟩ ?_
  rintro k E K' hk2 ⟨rfl, rfl⟩
  have Wk : IntKind.i64.wrap ((k : Int) + 1) = ((k + 1 : Nat) : Int) := i64e (by omega) (by omega)
  simp (maxSteps := 4000000) (disch := omega) only [ah, am, Nat.reduceEqDiff, reduceCtorEq, Nat.reduceAdd, Nat.reduceLeDiff, Nat.reduceMul, Nat.reduceLT, if_true, if_false, true_and, and_true, and_self, Nat.reduceBEq, QOp.loads, boxO, bslO, buildO, cutL, fillV, putL, w18, v18, Rl, Wk]
  refine stepI.split (fun hp => ?_) (fun hp => ?_)
  · have hk3 : k < l.length := by omega
    rw [List.take_succ_eq_append_getElem (by omega)]
    simp (maxSteps := 4000000) (disch := omega) only [ah, am, Nat.reduceEqDiff, reduceCtorEq, Nat.reduceAdd, Nat.reduceLeDiff, Nat.reduceMul, Nat.reduceLT, if_true, if_false, true_and, and_true, and_self, Nat.reduceBEq, QOp.loads, boxO, bslO, buildO, cutL, fillV, putL, w18, v18, Rl, Rn, encI]
    refine stepI.split (fun hq => ?_) (fun hq => ?_)
    · simp (maxSteps := 4000000) (disch := omega) only [ah, am, Nat.reduceEqDiff, reduceCtorEq, Nat.reduceAdd, Nat.reduceLeDiff, Nat.reduceMul, Nat.reduceLT, if_true, if_false, true_and, and_true, and_self, Nat.reduceBEq, QOp.loads, boxO, bslO, buildO, cutL, fillV, putL, w18, v18, Wk]
      refine ⟨hk3, ?_⟩
      rw [if_pos (by simp [hq])]
    · simp (maxSteps := 4000000) (disch := omega) only [ah, am, Nat.reduceEqDiff, reduceCtorEq, Nat.reduceAdd, Nat.reduceLeDiff, Nat.reduceMul, Nat.reduceLT, if_true, if_false, true_and, and_true, and_self, Nat.reduceBEq, QOp.loads, boxO, bslO, buildO, cutL, fillV, putL, w18, v18, Wk]
      refine ⟨hk3, ?_⟩
      simp only [List.mem_append, List.mem_singleton, show ¬ (resF m)[i]'(by rw [resF_length]; exact hi2) = (resF l)[k]'(by omega) from fun q => hq q.symm, or_false]
  · obtain rfl : k = l.length := by omega
    rw [List.take_of_length_le (by omega : (resF l).length ≤ l.length)]
    obtain ⟨v2, K2, ea, T1'⟩ := T1.app1 [] (costV (resF l) m[i] ((resF m)[i]'(by rw [resF_length]; exact hi2))) (bytes := 8) (by omega)
    obtain ⟨v3, K3, ea', T2'⟩ := T2.app1 [] (costV (resF l) m[i] ((resF m)[i]'(by rw [resF_length]; exact hi2))) (bytes := 8) (by omega)
    rw [ea] at ea'
    simp only [Option.some.injEq, Prod.mk.injEq] at ea'
    obtain ⟨rfl, rfl⟩ := ea'
    simp only [List.nil_append, List.length_nil, Nat.add_zero, encI, costV] at ea
    simp (maxSteps := 4000000) (disch := omega) only [ah, am, Nat.reduceEqDiff, reduceCtorEq, Nat.reduceAdd, Nat.reduceLeDiff, Nat.reduceMul, Nat.reduceLT, if_true, if_false, true_and, and_true, and_self, Nat.reduceBEq, QOp.loads, boxO, bslO, buildO, cutL, fillV, putL, w18, v18, ea, W]
    rw [hstep]
    exact ⟨hi2, v2, rfl, T1', T2'⟩
end Go.Proofs.Ytbnkpligdcponaa
