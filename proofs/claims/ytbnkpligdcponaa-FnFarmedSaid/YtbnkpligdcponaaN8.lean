import Derived.Test.YtbnkpligdcponaaN7
namespace Go.Proofs.Ytbnkpligdcponaa
open Go Go.Ah
set_option linter.unusedSimpArgs false
set_option linter.unusedVariables false
set_option maxRecDepth 10000
set_option maxHeartbeats 4000000
/-! 61 (*loop.example/g00066/impl.crew).firstReady: parameters 2, live [0, 1], slots [0:c, 1:now, 2:c, 3:now, 5:i, 6:t] -/
def c61_0 : List SOper := [⟨some 2, .a (.box (.t 0)), none⟩, ⟨some 3, .a (.box (.t 1)), none⟩, ⟨some 4, .q (.mv (.c (.int .i64 0))), none⟩]
def c61_1 : List SOper := [⟨some 7, .q (.ld (.t 2)), none⟩, ⟨some 8, .q (.nil (.t 7)), none⟩, ⟨some 9, .q (.fa 0 (.t 8)), none⟩, ⟨some 10, .q (.ld (.t 9)), none⟩, ⟨some 11, .q (.len (.t 10)), none⟩, ⟨some 12, .q (.mv (.c (.int .i64 0))), none⟩]
def c61_2 : List SOper := [⟨some 13, .q (.bin .lss (.t 12) (.t 11)), none⟩]
def c61_3 : SCode := .cond (.t 13) .skip (.exit 0)
def c61_4 : List SOper := [⟨some 14, .q (.mv (.t 12)), none⟩, ⟨some 15, .q (.ia 4 (.t 10) (.t 12)), none⟩, ⟨some 16, .q (.ldn 4 (.t 15)), none⟩, ⟨some 6, .a (.new [(.int .i64 0), (.int .i64 0), (.slice none 0 0), (.int .i64 0)]), none⟩, ⟨some 5, .q (.mv (.t 14)), none⟩, ⟨none, .e (.st 4 (.t 6) (.t 16)), none⟩]
def c61_5 : List SOper := [⟨some 17, .q (.ld (.t 2)), none⟩, ⟨some 18, .q (.nil (.t 17)), none⟩, ⟨some 19, .q (.fa 2 (.t 18)), none⟩, ⟨some 20, .q (.ld (.t 19)), none⟩, ⟨some 21, .q (.mv (.t 5)), none⟩, ⟨some 22, .q (.ia 1 (.t 20) (.t 21)), none⟩, ⟨some 23, .q (.ld (.t 22)), none⟩, ⟨some 24, .q (.bin .lss (.t 23) (.c (.int .i64 0))), none⟩, ⟨some 25, .q (.mv (.t 24)), none⟩, ⟨some 26, .q (.fa 2 (.t 6)), some (25, true)⟩, ⟨some 27, .q (.ld (.t 26)), some (25, true)⟩, ⟨some 28, .q (.mkf 65 [(.t 2), (.t 3)]), some (25, true)⟩, ⟨some 29, .e (.call 37 [(.t 27), (.t 28)]), some (25, true)⟩, ⟨some 30, .q (.not (.t 29)), some (25, true)⟩, ⟨some 31, .q (.pick (.t 25) (.t 30) (.c (.bool false))), none⟩]
def c61_6 : List SOper := [⟨some 32, .q (.mv (.t 5)), none⟩, ⟨some 4, .q (.mv (.t 32)), none⟩]
def c61_7 : SCode := .seq (.region c61_6 [4]) .ret
def c61_8 : SCode := .cond (.t 31) c61_7 .skip
def c61_9 : SCode := .seq (.region c61_5 [2, 3, 5, 10, 11, 12, 31]) c61_8
def c61_10 : SCode := .seq (.region c61_4 [2, 3, 5, 6, 10, 11, 12]) c61_9
def c61_11 : SCode := .block 1 c61_10
def c61_12 : List SOper := [⟨some 33, .q (.bin .add (.t 12) (.c (.int .i64 1))), none⟩, ⟨some 12, .q (.mv (.t 33)), none⟩]
def c61_13 : SCode := .seq c61_11 (.region c61_12 [2, 3, 10, 11, 12])
def c61_14 : SCode := .seq c61_3 c61_13
def c61_15 : SCode := .seq (.region c61_2 [2, 3, 10, 11, 12, 13]) c61_14
def c61_16 : SCode := .loop c61_15
def c61_17 : SCode := .block 0 c61_16
def c61_18 : SCode := .seq (.region c61_1 [2, 3, 10, 11, 12]) c61_17
def c61_19 : List SOper := [⟨some 4, .q (.mv (.c (.int .i64 (-1)))), none⟩]
def c61_20 : SCode := .seq (.region c61_19 [4]) .ret
def c61_21 : SCode := .seq c61_18 c61_20
def c61_22 : SCode := .seq (.region c61_0 [2, 3]) c61_21
def c61 : SCode := c61_22
theorem w61 : type_of% (And.intro (uR Try.prog c61_0.eq_1) (And.intro (uR Try.prog c61_1.eq_1) (And.intro (uR Try.prog c61_2.eq_1) (And.intro (uC Try.prog c61_3.eq_1) (And.intro (uR Try.prog c61_4.eq_1) (And.intro (uR Try.prog c61_5.eq_1) (And.intro (uR Try.prog c61_6.eq_1) (And.intro (uC Try.prog c61_7.eq_1) (And.intro (uC Try.prog c61_8.eq_1) (And.intro (uC Try.prog c61_9.eq_1) (And.intro (uC Try.prog c61_10.eq_1) (And.intro (uC Try.prog c61_11.eq_1) (And.intro (uR Try.prog c61_12.eq_1) (And.intro (uC Try.prog c61_13.eq_1) (And.intro (uC Try.prog c61_14.eq_1) (And.intro (uC Try.prog c61_15.eq_1) (And.intro (uC Try.prog c61_16.eq_1) (And.intro (uC Try.prog c61_17.eq_1) (And.intro (uC Try.prog c61_18.eq_1) (And.intro (uR Try.prog c61_19.eq_1) (And.intro (uC Try.prog c61_20.eq_1) (And.intro (uC Try.prog c61_21.eq_1) (And.intro (uC Try.prog c61_22.eq_1) (uC Try.prog c61.eq_1)))))))))))))))))))))))) := (And.intro (uR Try.prog c61_0.eq_1) (And.intro (uR Try.prog c61_1.eq_1) (And.intro (uR Try.prog c61_2.eq_1) (And.intro (uC Try.prog c61_3.eq_1) (And.intro (uR Try.prog c61_4.eq_1) (And.intro (uR Try.prog c61_5.eq_1) (And.intro (uR Try.prog c61_6.eq_1) (And.intro (uC Try.prog c61_7.eq_1) (And.intro (uC Try.prog c61_8.eq_1) (And.intro (uC Try.prog c61_9.eq_1) (And.intro (uC Try.prog c61_10.eq_1) (And.intro (uC Try.prog c61_11.eq_1) (And.intro (uR Try.prog c61_12.eq_1) (And.intro (uC Try.prog c61_13.eq_1) (And.intro (uC Try.prog c61_14.eq_1) (And.intro (uC Try.prog c61_15.eq_1) (And.intro (uC Try.prog c61_16.eq_1) (And.intro (uC Try.prog c61_17.eq_1) (And.intro (uC Try.prog c61_18.eq_1) (And.intro (uR Try.prog c61_19.eq_1) (And.intro (uC Try.prog c61_20.eq_1) (And.intro (uC Try.prog c61_21.eq_1) (And.intro (uC Try.prog c61_22.eq_1) (uC Try.prog c61.eq_1))))))))))))))))))))))))
def v61 : List RV := [.t 4]
theorem s61 : slimF Try.prog Try.f61 = some (c61.bare, v61) := by kernel_rfl
/-! 65 (*loop.example/g00066/impl.crew).firstReady$1: parameters 1, live [0, 1, 2], slots [0:n, 3:n] -/
def c65_0 : List SOper := [⟨some 4, .q (.mv (.c (.bool false))), none⟩]
def c65_1 : List SOper := [⟨some 5, .q (.ld (.t 1)), none⟩, ⟨some 6, .q (.nil (.t 5)), none⟩, ⟨some 7, .q (.fa 2 (.t 6)), none⟩, ⟨some 8, .q (.ld (.t 7)), none⟩, ⟨some 9, .q (.mv (.t 0)), none⟩, ⟨some 10, .q (.ia 1 (.t 8) (.t 9)), none⟩, ⟨some 11, .q (.ld (.t 10)), none⟩, ⟨some 12, .q (.bin .lss (.t 11) (.c (.int .i64 0))), none⟩, ⟨some 13, .q (.mv (.t 12)), none⟩, ⟨some 14, .q (.ld (.t 1)), some (13, false)⟩, ⟨some 15, .q (.nil (.t 14)), some (13, false)⟩, ⟨some 16, .q (.fa 2 (.t 15)), some (13, false)⟩, ⟨some 17, .q (.ld (.t 16)), some (13, false)⟩, ⟨some 18, .q (.mv (.t 0)), some (13, false)⟩, ⟨some 19, .q (.ia 1 (.t 17) (.t 18)), some (13, false)⟩, ⟨some 20, .q (.ld (.t 19)), some (13, false)⟩, ⟨some 21, .q (.ld (.t 2)), some (13, false)⟩, ⟨some 22, .q (.bin .gtr (.t 20) (.t 21)), some (13, false)⟩, ⟨some 23, .q (.pick (.t 13) (.c (.bool true)) (.t 22)), none⟩, ⟨some 4, .q (.mv (.t 23)), none⟩]
def c65_2 : SCode := .seq (.region c65_1 [4]) .ret
def c65_3 : SCode := .seq (.region c65_0 [0, 1, 2]) c65_2
def c65 : SCode := c65_3
theorem w65 : type_of% (And.intro (uR Try.prog c65_0.eq_1) (And.intro (uR Try.prog c65_1.eq_1) (And.intro (uC Try.prog c65_2.eq_1) (And.intro (uC Try.prog c65_3.eq_1) (uC Try.prog c65.eq_1))))) := (And.intro (uR Try.prog c65_0.eq_1) (And.intro (uR Try.prog c65_1.eq_1) (And.intro (uC Try.prog c65_2.eq_1) (And.intro (uC Try.prog c65_3.eq_1) (uC Try.prog c65.eq_1)))))
def v65 : List RV := [.t 4]
theorem s65 : slimF Try.prog Try.f65 = some (c65.bare, v65) := by kernel_rfl
/-! 50 (*loop.example/g00066/impl.crew).take: parameters 2, live [0, 1], slots [0:c, 1:now, 2:c, 3:now, 4:w, 5:until, 6:i] -/
def c50_0 : List SOper := [⟨some 7, .q (.mv (.t 0)), none⟩, ⟨some 8, .q (.nil (.t 7)), none⟩, ⟨some 9, .q (.fa 1 (.t 8)), none⟩, ⟨some 10, .q (.ld (.t 9)), none⟩, ⟨some 11, .q (.len (.t 10)), none⟩, ⟨some 12, .q (.mv (.c (.int .i64 0))), none⟩]
def c50_1 : List SOper := [⟨some 13, .q (.bin .lss (.t 12) (.t 11)), none⟩]
def c50_2 : SCode := .cond (.t 13) .skip (.exit 0)
def c50_3 : List SOper := [⟨some 14, .q (.mv (.t 12)), none⟩, ⟨some 15, .q (.ia 1 (.t 10) (.t 12)), none⟩, ⟨some 16, .q (.ld (.t 15)), none⟩, ⟨some 4, .q (.mv (.t 14)), none⟩, ⟨some 5, .q (.mv (.t 16)), none⟩]
def c50_4 : List SOper := [⟨some 17, .q (.mv (.t 5)), none⟩, ⟨some 18, .q (.mv (.t 1)), none⟩, ⟨some 19, .q (.bin .gtr (.t 17) (.t 18)), none⟩]
def c50_5 : SCode := .cond (.t 19) (.exit 1) .skip
def c50_6 : SCode := .seq (.region c50_4 [0, 1, 4, 10, 11, 12, 19]) c50_5
def c50_7 : List SOper := [⟨some 20, .q (.mv (.t 0)), none⟩, ⟨some 21, .q (.mv (.t 1)), none⟩, ⟨some 22, .e (.call 61 [(.t 20), (.t 21)]), none⟩, ⟨some 6, .q (.mv (.t 22)), none⟩]
def c50_8 : List SOper := [⟨some 23, .q (.mv (.t 6)), none⟩, ⟨some 24, .q (.bin .lss (.t 23) (.c (.int .i64 0))), none⟩]
def c50_9 : SCode := .cond (.t 24) .ret .skip
def c50_10 : SCode := .seq (.region c50_8 [0, 1, 4, 6, 10, 11, 12, 24]) c50_9
def c50_11 : List SOper := [⟨some 25, .q (.mv (.t 0)), none⟩, ⟨some 26, .q (.nil (.t 25)), none⟩, ⟨some 27, .q (.fa 2 (.t 26)), none⟩, ⟨some 28, .q (.ld (.t 27)), none⟩, ⟨some 29, .q (.mv (.t 6)), none⟩, ⟨some 30, .q (.mv (.t 1)), none⟩, ⟨some 31, .q (.mv (.t 0)), none⟩, ⟨some 32, .q (.nil (.t 31)), none⟩, ⟨some 33, .q (.fa 0 (.t 32)), none⟩, ⟨some 34, .q (.ld (.t 33)), none⟩, ⟨some 35, .q (.mv (.t 6)), none⟩, ⟨some 36, .q (.ia 4 (.t 34) (.t 35)), none⟩, ⟨some 37, .q (.fa 3 (.t 36)), none⟩, ⟨some 38, .q (.ld (.t 37)), none⟩, ⟨some 39, .q (.bin .add (.t 30) (.t 38)), none⟩, ⟨some 40, .q (.ia 1 (.t 28) (.t 29)), none⟩, ⟨none, .e (.st 1 (.t 40) (.t 39)), none⟩]
def c50_12 : List SOper := [⟨some 41, .q (.mv (.t 0)), none⟩, ⟨some 42, .q (.nil (.t 41)), none⟩, ⟨some 43, .q (.fa 1 (.t 42)), none⟩, ⟨some 44, .q (.ld (.t 43)), none⟩, ⟨some 45, .q (.mv (.t 4)), none⟩, ⟨some 46, .q (.mv (.t 0)), none⟩, ⟨some 47, .q (.nil (.t 46)), none⟩, ⟨some 48, .q (.fa 2 (.t 47)), none⟩, ⟨some 49, .q (.ld (.t 48)), none⟩, ⟨some 50, .q (.mv (.t 6)), none⟩, ⟨some 51, .q (.ia 1 (.t 49) (.t 50)), none⟩, ⟨some 52, .q (.ld (.t 51)), none⟩, ⟨some 53, .q (.ia 1 (.t 44) (.t 45)), none⟩, ⟨none, .e (.st 1 (.t 53) (.t 52)), none⟩]
def c50_13 : List SOper := [⟨some 54, .q (.mv (.t 0)), none⟩, ⟨some 55, .q (.mv (.t 0)), none⟩, ⟨some 56, .q (.nil (.t 55)), none⟩, ⟨some 57, .q (.fa 3 (.t 56)), none⟩, ⟨some 58, .q (.ld (.t 57)), none⟩, ⟨some 59, .q (.mv (.t 6)), none⟩, ⟨some 60, .q (.mv (.t 4)), none⟩, ⟨some 61, .q (.mv (.t 1)), none⟩, ⟨some 62, .q (.mv (.t 0)), none⟩, ⟨some 63, .q (.nil (.t 62)), none⟩, ⟨some 64, .q (.fa 2 (.t 63)), none⟩, ⟨some 65, .q (.ld (.t 64)), none⟩, ⟨some 66, .q (.mv (.t 6)), none⟩, ⟨some 67, .q (.ia 1 (.t 65) (.t 66)), none⟩, ⟨some 68, .q (.ld (.t 67)), none⟩, ⟨some 69, .q (.build [(.int .i64 0), (.int .i64 0), (.int .i64 0), (.int .i64 0)] [(0, 1, (.t 59)), (1, 1, (.t 60)), (2, 1, (.t 61)), (3, 1, (.t 68))]), none⟩, ⟨some 70, .a (.bsl 1 4 [(.int .i64 0), (.int .i64 0), (.int .i64 0), (.int .i64 0)] [(0, 4, (.t 69))]), none⟩, ⟨some 71, .e (.app 32 4 (.t 58) (.t 70)), none⟩, ⟨some 72, .q (.nil (.t 54)), none⟩, ⟨some 73, .q (.fa 3 (.t 72)), none⟩, ⟨none, .e (.st 1 (.t 73) (.t 71)), none⟩]
def c50_14 : SCode := .seq (.region c50_12 [0, 1, 4, 6, 10, 11, 12]) (.region c50_13 [0, 1, 10, 11, 12])
def c50_15 : SCode := .seq (.region c50_11 [0, 1, 4, 6, 10, 11, 12]) c50_14
def c50_16 : SCode := .seq c50_10 c50_15
def c50_17 : SCode := .seq (.region c50_7 [0, 1, 4, 6, 10, 11, 12]) c50_16
def c50_18 : SCode := .seq c50_6 c50_17
def c50_19 : SCode := .seq (.region c50_3 [0, 1, 4, 5, 10, 11, 12]) c50_18
def c50_20 : SCode := .block 1 c50_19
def c50_21 : List SOper := [⟨some 74, .q (.bin .add (.t 12) (.c (.int .i64 1))), none⟩, ⟨some 12, .q (.mv (.t 74)), none⟩]
def c50_22 : SCode := .seq c50_20 (.region c50_21 [0, 1, 10, 11, 12])
def c50_23 : SCode := .seq c50_2 c50_22
def c50_24 : SCode := .seq (.region c50_1 [0, 1, 10, 11, 12, 13]) c50_23
def c50_25 : SCode := .loop c50_24
def c50_26 : SCode := .block 0 c50_25
def c50_27 : SCode := .seq (.region c50_0 [0, 1, 10, 11, 12]) c50_26
def c50 : SCode := c50_27
theorem w50 : type_of% (And.intro (uR Try.prog c50_0.eq_1) (And.intro (uR Try.prog c50_1.eq_1) (And.intro (uC Try.prog c50_2.eq_1) (And.intro (uR Try.prog c50_3.eq_1) (And.intro (uR Try.prog c50_4.eq_1) (And.intro (uC Try.prog c50_5.eq_1) (And.intro (uC Try.prog c50_6.eq_1) (And.intro (uR Try.prog c50_7.eq_1) (And.intro (uR Try.prog c50_8.eq_1) (And.intro (uC Try.prog c50_9.eq_1) (And.intro (uC Try.prog c50_10.eq_1) (And.intro (uR Try.prog c50_11.eq_1) (And.intro (uR Try.prog c50_12.eq_1) (And.intro (uR Try.prog c50_13.eq_1) (And.intro (uC Try.prog c50_14.eq_1) (And.intro (uC Try.prog c50_15.eq_1) (And.intro (uC Try.prog c50_16.eq_1) (And.intro (uC Try.prog c50_17.eq_1) (And.intro (uC Try.prog c50_18.eq_1) (And.intro (uC Try.prog c50_19.eq_1) (And.intro (uC Try.prog c50_20.eq_1) (And.intro (uR Try.prog c50_21.eq_1) (And.intro (uC Try.prog c50_22.eq_1) (And.intro (uC Try.prog c50_23.eq_1) (And.intro (uC Try.prog c50_24.eq_1) (And.intro (uC Try.prog c50_25.eq_1) (And.intro (uC Try.prog c50_26.eq_1) (And.intro (uC Try.prog c50_27.eq_1) (uC Try.prog c50.eq_1))))))))))))))))))))))))))))) := (And.intro (uR Try.prog c50_0.eq_1) (And.intro (uR Try.prog c50_1.eq_1) (And.intro (uC Try.prog c50_2.eq_1) (And.intro (uR Try.prog c50_3.eq_1) (And.intro (uR Try.prog c50_4.eq_1) (And.intro (uC Try.prog c50_5.eq_1) (And.intro (uC Try.prog c50_6.eq_1) (And.intro (uR Try.prog c50_7.eq_1) (And.intro (uR Try.prog c50_8.eq_1) (And.intro (uC Try.prog c50_9.eq_1) (And.intro (uC Try.prog c50_10.eq_1) (And.intro (uR Try.prog c50_11.eq_1) (And.intro (uR Try.prog c50_12.eq_1) (And.intro (uR Try.prog c50_13.eq_1) (And.intro (uC Try.prog c50_14.eq_1) (And.intro (uC Try.prog c50_15.eq_1) (And.intro (uC Try.prog c50_16.eq_1) (And.intro (uC Try.prog c50_17.eq_1) (And.intro (uC Try.prog c50_18.eq_1) (And.intro (uC Try.prog c50_19.eq_1) (And.intro (uC Try.prog c50_20.eq_1) (And.intro (uR Try.prog c50_21.eq_1) (And.intro (uC Try.prog c50_22.eq_1) (And.intro (uC Try.prog c50_23.eq_1) (And.intro (uC Try.prog c50_24.eq_1) (And.intro (uC Try.prog c50_25.eq_1) (And.intro (uC Try.prog c50_26.eq_1) (And.intro (uC Try.prog c50_27.eq_1) (uC Try.prog c50.eq_1)))))))))))))))))))))))))))))
def v50 : List RV := []
theorem s50 : slimF Try.prog Try.f50 = some (c50.bare, v50) := by kernel_rfl
/-! 22 loop.example/g00066/impl.Farm: parameters 2, live [0, 1], slots [0:job, 1:workers, 2:job, 3:workers, 5:c, 6:now, 7:next, 8:_, 9:end] -/
def c22_0 : List SOper := [⟨some 4, .q (.mv (.c (.slice none 0 0))), none⟩]
def c22_1 : List SOper := [⟨some 10, .q (.mv (.t 0)), none⟩, ⟨some 11, .e (.call 36 [(.t 10)]), none⟩, ⟨some 12, .q (.not (.t 11)), none⟩, ⟨some 13, .q (.mv (.t 12)), none⟩, ⟨some 14, .q (.mv (.t 1)), some (13, false)⟩, ⟨some 15, .e (.call 39 [(.t 14), (.c (.int .i64 1)), (.c (.int .i64 50))]), some (13, false)⟩, ⟨some 16, .q (.not (.t 15)), some (13, false)⟩, ⟨some 17, .q (.pick (.t 13) (.c (.bool true)) (.t 16)), none⟩]
def c22_2 : List SOper := [⟨some 4, .q (.mv (.c (.slice none 0 0))), none⟩]
def c22_3 : SCode := .seq (.region c22_2 [4]) .ret
def c22_4 : SCode := .cond (.t 17) c22_3 .skip
def c22_5 : SCode := .seq (.region c22_1 [0, 1, 17]) c22_4
def c22_6 : List SOper := [⟨some 18, .q (.mv (.t 0)), none⟩, ⟨some 19, .q (.mv (.t 1)), none⟩, ⟨some 20, .a (.mks 8 1 [(.int .i64 0)] (.t 19) (.t 19)), none⟩, ⟨some 21, .a (.bsl 1 1 [(.int .i64 0)] [(0, 1, (.c (.int .i64 (-1))))]), none⟩, ⟨some 22, .q (.mv (.t 0)), none⟩, ⟨some 23, .q (.len (.t 22)), none⟩, ⟨some 5, .a (.new [(.slice none 0 0), (.slice none 0 0), (.slice none 0 0), (.slice none 0 0)]), none⟩, ⟨some 24, .e (.call 49 [(.t 21), (.t 23)]), none⟩, ⟨some 25, .q (.build [(.slice none 0 0), (.slice none 0 0), (.slice none 0 0), (.slice none 0 0)] [(0, 1, (.t 18)), (1, 1, (.t 20)), (2, 1, (.t 24))]), none⟩, ⟨none, .e (.st 4 (.t 5) (.t 25)), none⟩]
def c22_7 : List SOper := [⟨some 6, .q (.mv (.c (.int .i64 0))), none⟩]
def c22_8 : List SOper := [⟨some 26, .q (.mv (.t 6)), none⟩, ⟨some 27, .e (.call 50 [(.t 5), (.t 26)]), none⟩]
def c22_9 : List SOper := [⟨some 7, .q (.mv (.c (.int .i64 (-1)))), none⟩]
def c22_10 : List SOper := [⟨some 28, .q (.fa 2 (.t 5)), none⟩, ⟨some 29, .q (.ld (.t 28)), none⟩, ⟨some 30, .q (.len (.t 29)), none⟩, ⟨some 31, .q (.mv (.c (.int .i64 0))), none⟩]
def c22_11 : List SOper := [⟨some 32, .q (.bin .lss (.t 31) (.t 30)), none⟩]
def c22_12 : SCode := .cond (.t 32) .skip (.exit 2)
def c22_13 : List SOper := [⟨some 33, .q (.ia 1 (.t 29) (.t 31)), none⟩, ⟨some 34, .q (.ld (.t 33)), none⟩, ⟨some 9, .q (.mv (.t 34)), none⟩]
def c22_14 : List SOper := [⟨some 35, .q (.mv (.t 9)), none⟩, ⟨some 36, .q (.mv (.t 6)), none⟩, ⟨some 37, .q (.bin .gtr (.t 35) (.t 36)), none⟩, ⟨some 38, .q (.mv (.t 37)), none⟩, ⟨some 39, .q (.mv (.t 7)), some (38, true)⟩, ⟨some 40, .q (.bin .lss (.t 39) (.c (.int .i64 0))), some (38, true)⟩, ⟨some 41, .q (.mv (.t 40)), some (38, true)⟩, ⟨some 42, .q (.mv (.t 9)), some (41, false)⟩, ⟨some 43, .q (.mv (.t 7)), some (41, false)⟩, ⟨some 44, .q (.bin .lss (.t 42) (.t 43)), some (41, false)⟩, ⟨some 45, .q (.pick (.t 41) (.c (.bool true)) (.t 44)), some (38, true)⟩, ⟨some 46, .q (.pick (.t 38) (.t 45) (.c (.bool false))), none⟩]
def c22_15 : List SOper := [⟨some 47, .q (.mv (.t 9)), none⟩, ⟨some 7, .q (.mv (.t 47)), none⟩]
def c22_16 : SCode := .cond (.t 46) (.region c22_15 [5, 6, 7, 29, 30, 31]) .skip
def c22_17 : SCode := .seq (.region c22_14 [5, 6, 7, 9, 29, 30, 31, 46]) c22_16
def c22_18 : SCode := .seq (.region c22_13 [5, 6, 7, 9, 29, 30, 31]) c22_17
def c22_19 : SCode := .block 3 c22_18
def c22_20 : List SOper := [⟨some 48, .q (.bin .add (.t 31) (.c (.int .i64 1))), none⟩, ⟨some 31, .q (.mv (.t 48)), none⟩]
def c22_21 : SCode := .seq c22_19 (.region c22_20 [5, 6, 7, 29, 30, 31])
def c22_22 : SCode := .seq c22_12 c22_21
def c22_23 : SCode := .seq (.region c22_11 [5, 6, 7, 29, 30, 31, 32]) c22_22
def c22_24 : SCode := .loop c22_23
def c22_25 : SCode := .block 2 c22_24
def c22_26 : SCode := .seq (.region c22_10 [5, 6, 7, 29, 30, 31]) c22_25
def c22_27 : List SOper := [⟨some 49, .q (.mv (.t 7)), none⟩, ⟨some 50, .q (.bin .lss (.t 49) (.c (.int .i64 0))), none⟩]
def c22_28 : List SOper := [⟨some 51, .q (.fa 3 (.t 5)), none⟩, ⟨some 52, .q (.ld (.t 51)), none⟩, ⟨some 4, .q (.mv (.t 52)), none⟩]
def c22_29 : SCode := .seq (.region c22_28 [4]) .ret
def c22_30 : SCode := .cond (.t 50) c22_29 .skip
def c22_31 : SCode := .seq (.region c22_27 [5, 7, 50]) c22_30
def c22_32 : List SOper := [⟨some 53, .q (.mv (.t 7)), none⟩, ⟨some 6, .q (.mv (.t 53)), none⟩]
def c22_33 : SCode := .seq c22_31 (.region c22_32 [5, 6])
def c22_34 : SCode := .seq c22_26 c22_33
def c22_35 : SCode := .seq (.region c22_9 [5, 6, 7]) c22_34
def c22_36 : SCode := .seq (.region c22_8 [5, 6]) c22_35
def c22_37 : SCode := .block 1 c22_36
def c22_38 : SCode := .loop c22_37
def c22_39 : SCode := .block 0 c22_38
def c22_40 : SCode := .seq (.region c22_7 [5, 6]) c22_39
def c22_41 : SCode := .seq (.region c22_6 [5]) c22_40
def c22_42 : SCode := .seq c22_5 c22_41
def c22_43 : SCode := .seq (.region c22_0 [0, 1]) c22_42
def c22 : SCode := c22_43
theorem w22 : type_of% (And.intro (uR Try.prog c22_0.eq_1) (And.intro (uR Try.prog c22_1.eq_1) (And.intro (uR Try.prog c22_2.eq_1) (And.intro (uC Try.prog c22_3.eq_1) (And.intro (uC Try.prog c22_4.eq_1) (And.intro (uC Try.prog c22_5.eq_1) (And.intro (uR Try.prog c22_6.eq_1) (And.intro (uR Try.prog c22_7.eq_1) (And.intro (uR Try.prog c22_8.eq_1) (And.intro (uR Try.prog c22_9.eq_1) (And.intro (uR Try.prog c22_10.eq_1) (And.intro (uR Try.prog c22_11.eq_1) (And.intro (uC Try.prog c22_12.eq_1) (And.intro (uR Try.prog c22_13.eq_1) (And.intro (uR Try.prog c22_14.eq_1) (And.intro (uR Try.prog c22_15.eq_1) (And.intro (uC Try.prog c22_16.eq_1) (And.intro (uC Try.prog c22_17.eq_1) (And.intro (uC Try.prog c22_18.eq_1) (And.intro (uC Try.prog c22_19.eq_1) (And.intro (uR Try.prog c22_20.eq_1) (And.intro (uC Try.prog c22_21.eq_1) (And.intro (uC Try.prog c22_22.eq_1) (And.intro (uC Try.prog c22_23.eq_1) (And.intro (uC Try.prog c22_24.eq_1) (And.intro (uC Try.prog c22_25.eq_1) (And.intro (uC Try.prog c22_26.eq_1) (And.intro (uR Try.prog c22_27.eq_1) (And.intro (uR Try.prog c22_28.eq_1) (And.intro (uC Try.prog c22_29.eq_1) (And.intro (uC Try.prog c22_30.eq_1) (And.intro (uC Try.prog c22_31.eq_1) (And.intro (uR Try.prog c22_32.eq_1) (And.intro (uC Try.prog c22_33.eq_1) (And.intro (uC Try.prog c22_34.eq_1) (And.intro (uC Try.prog c22_35.eq_1) (And.intro (uC Try.prog c22_36.eq_1) (And.intro (uC Try.prog c22_37.eq_1) (And.intro (uC Try.prog c22_38.eq_1) (And.intro (uC Try.prog c22_39.eq_1) (And.intro (uC Try.prog c22_40.eq_1) (And.intro (uC Try.prog c22_41.eq_1) (And.intro (uC Try.prog c22_42.eq_1) (And.intro (uC Try.prog c22_43.eq_1) (uC Try.prog c22.eq_1))))))))))))))))))))))))))))))))))))))))))))) := (And.intro (uR Try.prog c22_0.eq_1) (And.intro (uR Try.prog c22_1.eq_1) (And.intro (uR Try.prog c22_2.eq_1) (And.intro (uC Try.prog c22_3.eq_1) (And.intro (uC Try.prog c22_4.eq_1) (And.intro (uC Try.prog c22_5.eq_1) (And.intro (uR Try.prog c22_6.eq_1) (And.intro (uR Try.prog c22_7.eq_1) (And.intro (uR Try.prog c22_8.eq_1) (And.intro (uR Try.prog c22_9.eq_1) (And.intro (uR Try.prog c22_10.eq_1) (And.intro (uR Try.prog c22_11.eq_1) (And.intro (uC Try.prog c22_12.eq_1) (And.intro (uR Try.prog c22_13.eq_1) (And.intro (uR Try.prog c22_14.eq_1) (And.intro (uR Try.prog c22_15.eq_1) (And.intro (uC Try.prog c22_16.eq_1) (And.intro (uC Try.prog c22_17.eq_1) (And.intro (uC Try.prog c22_18.eq_1) (And.intro (uC Try.prog c22_19.eq_1) (And.intro (uR Try.prog c22_20.eq_1) (And.intro (uC Try.prog c22_21.eq_1) (And.intro (uC Try.prog c22_22.eq_1) (And.intro (uC Try.prog c22_23.eq_1) (And.intro (uC Try.prog c22_24.eq_1) (And.intro (uC Try.prog c22_25.eq_1) (And.intro (uC Try.prog c22_26.eq_1) (And.intro (uR Try.prog c22_27.eq_1) (And.intro (uR Try.prog c22_28.eq_1) (And.intro (uC Try.prog c22_29.eq_1) (And.intro (uC Try.prog c22_30.eq_1) (And.intro (uC Try.prog c22_31.eq_1) (And.intro (uR Try.prog c22_32.eq_1) (And.intro (uC Try.prog c22_33.eq_1) (And.intro (uC Try.prog c22_34.eq_1) (And.intro (uC Try.prog c22_35.eq_1) (And.intro (uC Try.prog c22_36.eq_1) (And.intro (uC Try.prog c22_37.eq_1) (And.intro (uC Try.prog c22_38.eq_1) (And.intro (uC Try.prog c22_39.eq_1) (And.intro (uC Try.prog c22_40.eq_1) (And.intro (uC Try.prog c22_41.eq_1) (And.intro (uC Try.prog c22_42.eq_1) (And.intro (uC Try.prog c22_43.eq_1) (uC Try.prog c22.eq_1)))))))))))))))))))))))))))))))))))))))))))))
def v22 : List RV := [.t 4]
theorem s22 : slimF Try.prog Try.f22 = some (c22.bare, v22) := by kernel_rfl

/-! ### Four slices of our own -/
structure FS {β : Type} (h0 h : Heap) (ov : Value) (runs : List Run) (fv : Value) (fr : List Int) (ev : Value) (es : List Int) (encb : β → List Value) (szb : Nat) (tv : Value) (tk : List β) : Prop where
  ext : Ext h0 h
  own : ∃ go gf ge gt, h0.size ≤ go ∧ h0.size ≤ gf ∧ h0.size ≤ ge ∧ h0.size ≤ gt ∧ go ≠ gf ∧ go ≠ ge ∧ go ≠ gt ∧ gf ≠ ge ∧ gf ≠ gt ∧ ge ≠ gt ∧ gf < h.size ∧ ge < h.size ∧ gt < h.size ∧
    OwnT go h encRun 4 ov runs ∧ OwnT gf h encI 1 fv fr ∧ OwnT ge h encI 1 ev es ∧ OwnT gt h encb szb tv tk
section
variable {β : Type} {h0 h h' : Heap} {ov : Value} {runs : List Run} {fv : Value} {fr : List Int} {ev : Value} {es : List Int} {encb : β → List Value} {szb : Nat} {tv : Value} {tk : List β}
theorem FS.step (F : FS h0 h ov runs fv fr ev es encb szb tv tk) (e : Ext h h') : FS h0 h' ov runs fv fr ev es encb szb tv tk := by
  obtain ⟨go, gf, ge, gt, a1, a2, a3, a4, b1, b2, b3, b4, b5, b6, c1, c2, c3, o1, o2, o3, o4⟩ := F.own
  have := e.1
  exact ⟨F.ext.trans e, go, gf, ge, gt, a1, a2, a3, a4, b1, b2, b3, b4, b5, b6, by omega, by omega, by omega, o1.ext e, o2.ext e, o3.ext e, o4.ext e⟩
theorem FS.so (F : FS h0 h ov runs fv fr ev es encb szb tv tk) : SlT h encRun 4 ov runs := by obtain ⟨_, _, _, _, _, _, _, _, _, _, _, _, _, _, _, _, _, o1, _⟩ := F.own; exact o1.slt
theorem FS.sf (F : FS h0 h ov runs fv fr ev es encb szb tv tk) : SlT h encI 1 fv fr := by obtain ⟨_, _, _, _, _, _, _, _, _, _, _, _, _, _, _, _, _, _, o1, _⟩ := F.own; exact o1.slt
theorem FS.se (F : FS h0 h ov runs fv fr ev es encb szb tv tk) : SlT h encI 1 ev es := by obtain ⟨_, _, _, _, _, _, _, _, _, _, _, _, _, _, _, _, _, _, _, o1, _⟩ := F.own; exact o1.slt
theorem FS.st (F : FS h0 h ov runs fv fr ev es encb szb tv tk) : SlT h encb szb tv tk := by obtain ⟨_, _, _, _, _, _, _, _, _, _, _, _, _, _, _, _, _, _, _, _, o1⟩ := F.own; exact o1.slt
theorem FS.fresh (F : FS h0 h ov runs fv fr ev es encb szb tv tk) : Fresh h0 h encRun 4 ov runs := by
  obtain ⟨go, _, _, _, a1, _, _, _, _, _, _, _, _, _, _, _, _, o1, _⟩ := F.own; exact ⟨F.ext, go, a1, o1⟩
theorem FS.setF (F : FS h0 h ov runs fv fr ev es encb szb tv tk) {j : Nat} (hj : j < fr.length) (x : Int) :
    ∃ h2, stV h 1 (ptrAt fv j) (.int .i64 x) = some h2 ∧ FS h0 h2 ov runs fv (fr.set j x) ev es encb szb tv tk := by
  obtain ⟨go, gf, ge, gt, a1, a2, a3, a4, b1, b2, b3, b4, b5, b6, c1, c2, c3, o1, o2, o3, o4⟩ := F.own
  obtain ⟨h2, e, O, G, S⟩ := o2.setF (j := j) (f := 0) (n := 1) (x := x) (y := .int .i64 x) hj rfl (by omega) rfl (by omega) rfl
  simp only [Nat.mul_one, Nat.add_zero] at e
  exact ⟨h2, e, G.ext F.ext a2, go, gf, ge, gt, a1, a2, a3, a4, b1, b2, b3, b4, b5, b6, by omega, by omega, by omega, o1.extG G b1, O, o3.extG G (Ne.symm b4), o4.extG G (Ne.symm b5)⟩
theorem FS.setE (F : FS h0 h ov runs fv fr ev es encb szb tv tk) {j : Nat} (hj : j < es.length) (x : Int) :
    ∃ h2, stV h 1 (ptrAt ev j) (.int .i64 x) = some h2 ∧ FS h0 h2 ov runs fv fr ev (es.set j x) encb szb tv tk := by
  obtain ⟨go, gf, ge, gt, a1, a2, a3, a4, b1, b2, b3, b4, b5, b6, c1, c2, c3, o1, o2, o3, o4⟩ := F.own
  obtain ⟨h2, e, O, G, S⟩ := o3.setF (j := j) (f := 0) (n := 1) (x := x) (y := .int .i64 x) hj rfl (by omega) rfl (by omega) rfl
  simp only [Nat.mul_one, Nat.add_zero] at e
  exact ⟨h2, e, G.ext F.ext a3, go, gf, ge, gt, a1, a2, a3, a4, b1, b2, b3, b4, b5, b6, by omega, by omega, by omega, o1.extG G b2, o2.extG G b4, O, o4.extG G (Ne.symm b6)⟩
theorem FS.setT (F : FS h0 h ov runs fv fr ev es encb szb tv tk) {j f n : Nat} (hj : j < tk.length) {x : β} {y : Value} (hx : splice (encb tk[j]) f y.cells.toList = encb x) (hn : 0 < n) (hy : y.cells.size = n) (hf : f + n ≤ szb) (h1 : oneB y.cells.toList = true) :
    ∃ h2, stV h n (ptrAt tv (j * szb + f)) y = some h2 ∧ FS h0 h2 ov runs fv fr ev es encb szb tv (tk.set j x) := by
  obtain ⟨go, gf, ge, gt, a1, a2, a3, a4, b1, b2, b3, b4, b5, b6, c1, c2, c3, o1, o2, o3, o4⟩ := F.own
  obtain ⟨h2, e, O, G, S⟩ := o4.setF hj hx hn hy hf h1
  exact ⟨h2, e, G.ext F.ext a4, go, gf, ge, gt, a1, a2, a3, a4, b1, b2, b3, b4, b5, b6, by omega, by omega, by omega, o1.extG G b3, o2.extG G b5, o3.extG G b6, O⟩
theorem FS.app (F : FS h0 h ov runs fv fr ev es encb szb tv tk) (x : Run) (hr : runs.length ≤ 1000000) :
    ∃ v' h2, appV (h.more [encRun x]) 32 4 ov (.slice (some ⟨h.size, 0, none⟩) 1 4) = some (v', h2) ∧ FS h0 h2 v' (runs ++ [x]) fv fr ev es encb szb tv tk := by
  obtain ⟨go, gf, ge, gt, a1, a2, a3, a4, b1, b2, b3, b4, b5, b6, c1, c2, c3, o1, o2, o3, o4⟩ := F.own
  have e1 := Ext.more h [encRun x]
  have s : SlT (h.more [encRun x]) encRun 4 (.slice (some ⟨h.size, 0, none⟩) 1 4) [x] := by
    have := (OwnT.new h [x] encRun_len (by omega)).slt
    simpa using this
  obtain ⟨v', h2, g', e, O, G, hg'⟩ := (o1.ext e1).app s (bytes := 32) (by simp; omega)
  have hs := e1.1
  refine ⟨v', h2, e, G.ext (F.ext.trans e1) a1, g', gf, ge, gt, ?_, a2, a3, a4, ?_, ?_, ?_, b4, b5, b6, ?_, ?_, ?_, O, (o2.ext e1).extG G (Ne.symm b1), (o3.ext e1).extG G (Ne.symm b2), (o4.ext e1).extG G (Ne.symm b3)⟩
  · rcases hg' with rfl | rfl
    · exact a1
    · have := F.ext.1; omega
  · rcases hg' with rfl | rfl
    · exact b1
    · omega
  · rcases hg' with rfl | rfl
    · exact b2
    · omega
  · rcases hg' with rfl | rfl
    · exact b3
    · omega
  · have := G.1; omega
  · have := G.1; omega
  · have := G.1; omega
end
/-- A crew in memory: the box c holds the job and the crew's three slices. -/
def CrewM (h0 h : Heap) (c : Nat) (vj fv ev : Value) (cr : Crew) : Prop := ∃ ov, FS h0 h ov cr.runs fv cr.busy ev cr.ends encV 1 (.slice (some ⟨c, 0, none⟩) 4 1) [vj, fv, ev, ov]
theorem ptr4 (c : Nat) (o : Nat) : ptrAt (.slice (some ⟨c, 0, none⟩) 4 1) o = .pointer (some ⟨c, o, none⟩) := by simp [ptrAt, Addr.add]
/-- What the box of a crew holds. -/
theorem FS.box {h0 h : Heap} {ov : Value} {runs : List Run} {fv : Value} {fr : List Int} {ev : Value} {es : List Int} {c : Nat} {a b d e : Value} (F : FS h0 h ov runs fv fr ev es encV 1 (.slice (some ⟨c, 0, none⟩) 4 1) [a, b, d, e]) :
    ldV h (.pointer (some ⟨c, 0, none⟩)) = some a ∧ ldV h (.pointer (some ⟨c, 1, none⟩)) = some b ∧ ldV h (.pointer (some ⟨c, 2, none⟩)) = some d ∧ ldV h (.pointer (some ⟨c, 3, none⟩)) = some e := by
  have R := F.st.rulesN.2.2.2.2.1
  refine ⟨?_, ?_, ?_, ?_⟩
  · have := R 0 (by simp); simpa [ptr4, encV] using this
  · have := R 1 (by simp); simpa [ptr4, encV] using this
  · have := R 2 (by simp); simpa [ptr4, encV] using this
  · have := R 3 (by simp); simpa [ptr4, encV] using this
theorem firstReady1_ok (h : Heap) (bc bn c : Nat) (ev : Value) (es : List Int) (n now : Int) (s : SlT h encI 1 ev es) (h1 : ldV h (.pointer (some ⟨bc, 0, none⟩)) = some (.pointer (some ⟨c, 0, none⟩)))
    (h2 : ldV h (.pointer (some ⟨bn, 0, none⟩)) = some (.int .i64 now)) (h3 : ldV h (.pointer (some ⟨c, 2, none⟩)) = some ev) (hn : 0 ≤ n ∧ n < es.length) :
    ACall Try.prog 65 [.int .i64 n, .pointer (some ⟨bc, 0, none⟩), .pointer (some ⟨bn, 0, none⟩)] h fun r h' => Ext h h' ∧ r = .bool (decide (es.getD n.toNat 0 < 0) || decide (now < es.getD n.toNat 0)) := by
  obtain ⟨k, rfl⟩ : ∃ k : Nat, n = (k : Int) := ⟨n.toNat, by omega⟩
  have hk : k < es.length := by omega
  have hg : es.getD (k : Int).toNat 0 = es[k] := by simp [List.getD, List.getElem?_eq_getElem hk]
  rw [hg]
  have R := s.rulesN
  refine ACall.of Try.func65 s65 (of_decide_eq_true rfl) ?_
  simp (maxSteps := 4000000) (disch := omega) only [ah, am, Nat.reduceEqDiff, reduceCtorEq, Nat.reduceAdd, Nat.reduceLeDiff, Nat.reduceMul, Nat.reduceLT, if_true, if_false, true_and, and_true, and_self, Nat.reduceBEq, QOp.loads, boxO, bslO, buildO, cutL, fillV, putL, w65, v65, h1, h2, h3, R, encI]
  by_cases hq : es[k] < 0
  · simp (maxSteps := 4000000) (disch := omega) only [ah, am, Nat.reduceEqDiff, reduceCtorEq, Nat.reduceAdd, Nat.reduceLeDiff, Nat.reduceMul, Nat.reduceLT, if_true, if_false, true_and, and_true, and_self, Nat.reduceBEq, QOp.loads, boxO, bslO, buildO, cutL, fillV, putL, w65, v65, decide_eq_true hq, Bool.true_or]
    exact Ext.refl _
  · simp (maxSteps := 4000000) (disch := omega) only [ah, am, Nat.reduceEqDiff, reduceCtorEq, Nat.reduceAdd, Nat.reduceLeDiff, Nat.reduceMul, Nat.reduceLT, if_true, if_false, true_and, and_true, and_self, Nat.reduceBEq, QOp.loads, boxO, bslO, buildO, cutL, fillV, putL, w65, v65, decide_eq_false hq, Bool.false_or, h1, h2, h3, R, encI]
    exact Ext.refl _
theorem firstReady_ok (h0 h : Heap) (c : Nat) (vj fv ev : Value) (cr : Crew) (now : Int) (job : List Task) (m : CrewM h0 h c vj fv ev cr) (hj : JobAt h0 vj job) (hk : jobIn job) (hl : job.length ≤ 200) (he : cr.ends.length = job.length) :
    ACall Try.prog 61 [.pointer (some ⟨c, 0, none⟩), .int .i64 now] h fun r h' => Ext h h' ∧ r = .int .i64 (match firstR job cr.ends now with | some i => (i : Int) | none => -1) := by
  obtain ⟨ov, F⟩ := m
  obtain ⟨rs, s, hlen, Hr⟩ := id hj
  have X := F.box
  refine ACall.of Try.func61 s61 (of_decide_eq_true rfl) ?_
  have X' := (F.step (Ext.more h [[.pointer (some ⟨c, 0, none⟩)], [.int .i64 now]])).box
  have R := (s.ext F.ext).rulesN
  simp only [hlen] at R
  simp (maxSteps := 4000000) (disch := omega) only [ah, am, Nat.reduceEqDiff, reduceCtorEq, Nat.reduceAdd, Nat.reduceLeDiff, Nat.reduceMul, Nat.reduceLT, if_true, if_false, true_and, and_true, and_self, Nat.reduceBEq, QOp.loads, boxO, bslO, buildO, cutL, fillV, putL, w61, v61, X', R]
  refine SW_loop_up (fun i E K => E = [(2, .pointer (some ⟨h.size, 0, none⟩)), (3, .pointer (some ⟨h.size + 1, 0, none⟩)), (10, vj), (11, .int .i64 job.length), (12, .int .i64 i)] ∧ Ext (h.more [[.pointer (some ⟨c, 0, none⟩)], [.int .i64 now]]) K ∧
      ∀ j, j < i → canB job cr.ends now j = false) job.length 0 (by omega)
    ⟨rfl, .refl _, fun j hj => absurd hj (by omega)⟩ ?_
  rintro i E K hi ⟨rfl, e, G⟩
  have E1 := (Ext.more h [[.pointer (some ⟨c, 0, none⟩)], [.int .i64 now]]).trans e
  have FK := F.step E1
  have R := (s.ext FK.ext).rulesN
  simp only [hlen] at R
  have W : IntKind.i64.wrap ((i : Int) + 1) = ((i + 1 : Nat) : Int) := i64e (by omega) (by omega)
  simp (maxSteps := 4000000) (disch := omega) only [ah, am, Nat.reduceEqDiff, reduceCtorEq, Nat.reduceAdd, Nat.reduceLeDiff, Nat.reduceMul, Nat.reduceLT, if_true, if_false, true_and, and_true, and_self, Nat.reduceBEq, QOp.loads, boxO, bslO, buildO, cutL, fillV, putL, w61, v61, R, W]
  refine stepI.split (fun hp => ?_) (fun hp => ?_)
  rotate_left
  · simp (maxSteps := 4000000) (disch := omega) only [ah, am, Nat.reduceEqDiff, reduceCtorEq, Nat.reduceAdd, Nat.reduceLeDiff, Nat.reduceMul, Nat.reduceLT, if_true, if_false, true_and, and_true, and_self, Nat.reduceBEq, QOp.loads, boxO, bslO, buildO, cutL, fillV, putL, w61, v61]
    refine ⟨E1, ?_⟩
    rw [firstR_none.mpr fun j hj => G j (by omega)]
  have hi2 : i < job.length := by omega
  have A := (Hr i (by omega) hi2)
  obtain ⟨k1, k2, k3, sn⟩ := A
  have p1 := cells_slT sn; have p2 := oneB_slT sn
  have e2 := e.trans (Ext.more K [encT rs[i]])
  have E2 := E1.trans (Ext.more K [encT rs[i]])
  have F2 := F.step E2
  have Y := F2.box
  have Y0 := (e2.ldk 0 rfl).1
  have Y1 := (e2.ldk 1 rfl).1
  simp only [Nat.add_zero] at Y0
  have Re := F2.se.rulesN
  simp only [he] at Re
  have hie : i < cr.ends.length := by omega
  have hgi : cr.ends.getD i 0 = cr.ends[i] := by simp [List.getD, List.getElem?_eq_getElem hie]
  simp only [encT] at Y Y0 Y1 Re
  simp (maxSteps := 4000000) (disch := omega) only [ah, am, Nat.reduceEqDiff, reduceCtorEq, Nat.reduceAdd, Nat.reduceLeDiff, Nat.reduceMul, Nat.reduceLT, if_true, if_false, true_and, and_true, and_self, Nat.reduceBEq, QOp.loads, boxO, bslO, buildO, cutL, fillV, putL, w61, v61, R, W, encT, p1, p2, Y, Y0, Y1, Re, encI]
  have hcan : canB job cr.ends now i = (decide (cr.ends[i] < 0) && readyB cr.ends now job[i].needs) := by unfold canB; rw [hgi, needsAt_eq hi2]
  by_cases hq : cr.ends[i] < 0
  rotate_left
  · simp (maxSteps := 4000000) (disch := omega) only [ah, am, Nat.reduceEqDiff, reduceCtorEq, Nat.reduceAdd, Nat.reduceLeDiff, Nat.reduceMul, Nat.reduceLT, if_true, if_false, true_and, and_true, and_self, Nat.reduceBEq, QOp.loads, boxO, bslO, buildO, cutL, fillV, putL, w61, v61, decide_eq_false hq, W]
    refine ⟨hi2, e.trans (Ext.more _ _), fun j hj => ?_⟩
    by_cases hji : j = i
    · subst hji; rw [hcan, decide_eq_false hq, Bool.false_and]
    · exact G j (by omega)
  simp (maxSteps := 4000000) (disch := omega) only [ah, am, Nat.reduceEqDiff, reduceCtorEq, Nat.reduceAdd, Nat.reduceLeDiff, Nat.reduceMul, Nat.reduceLT, if_true, if_false, true_and, and_true, and_self, Nat.reduceBEq, QOp.loads, boxO, bslO, buildO, cutL, fillV, putL, w61, v61, decide_eq_true hq, R, encT]
  refine stepC.of (ContainsFuncI_ok _ rs[i].nv job[i].needs 65 _ (fun n => decide (cr.ends.getD n.toNat 0 < 0) || decide (now < cr.ends.getD n.toNat 0)) (sn.ext F2.ext) (by have := (hk i hi2).2.2.1; omega) ⟨_, Try.func65, rfl, by decide⟩
    (fun h' k e' hk' => firstReady1_ok h' h.size (h.size + 1) c ev cr.ends k now ((F2.step e').se) (by have := ((e2.trans e').ldk 0 rfl).1 0; simpa using this) (by have := ((e2.trans e').ldk 1 rfl).1 0; simpa using this) (F2.step e').box.2.2.1
      (by have := (hk i hi2).2.2.2.1 k hk'; omega))) ?_
  rintro _ K2 ⟨e3, rfl⟩
  have E3 := (e.trans (Ext.more K [encT rs[i]])).trans e3
  cases hany : job[i].needs.any (fun n => decide (cr.ends.getD n.toNat 0 < 0) || decide (now < cr.ends.getD n.toNat 0)) with
  | true =>
    simp (maxSteps := 4000000) (disch := omega) only [ah, am, Nat.reduceEqDiff, reduceCtorEq, Nat.reduceAdd, Nat.reduceLeDiff, Nat.reduceMul, Nat.reduceLT, if_true, if_false, true_and, and_true, and_self, Nat.reduceBEq, QOp.loads, boxO, bslO, buildO, cutL, fillV, putL, w61, v61, W, Bool.not_true]
    refine ⟨hi2, E3, fun j hj => ?_⟩
    by_cases hji : j = i
    · subst hji; rw [hcan]; unfold readyB; rw [hany]; simp
    · exact G j (by omega)
  | false =>
    simp (maxSteps := 4000000) (disch := omega) only [ah, am, Nat.reduceEqDiff, reduceCtorEq, Nat.reduceAdd, Nat.reduceLeDiff, Nat.reduceMul, Nat.reduceLT, if_true, if_false, true_and, and_true, and_self, Nat.reduceBEq, QOp.loads, boxO, bslO, buildO, cutL, fillV, putL, w61, v61, W, Bool.not_false]
    refine ⟨E1.trans ((Ext.more K [encT rs[i]]).trans e3), ?_⟩
    have hfr : firstR job cr.ends now = some i := by
      unfold firstR
      rw [List.find?_range_eq_some]
      refine ⟨?_, by simpa using hi2, fun j hj => by rw [G j hj]; rfl⟩
      rw [hcan, decide_eq_true hq]; unfold readyB; rw [hany]; rfl
    rw [hfr]
theorem take_ok (h0 h : Heap) (c : Nat) (vj fv ev : Value) (cr : Crew) (now : Int) (job : List Task) (m : CrewM h0 h c vj fv ev cr) (hj : JobAt h0 vj job) (hk : jobIn job) (hl : job.length ≤ 200) (ok : CrewOk job now cr) (hb : cr.busy.length ≤ 50) (hnow : now ≤ 1000000) :
    ACall Try.prog 50 [.pointer (some ⟨c, 0, none⟩), .int .i64 now] h fun r h' => CrewM h0 h' c vj fv ev (after job now cr) := by
  obtain ⟨rs, s, hlen, Hr⟩ := id hj
  obtain ⟨ov, F⟩ := m
  refine ACall.of Try.func50 s50 (of_decide_eq_true rfl) ?_
  have X := F.box
  have Rb := F.sf.rulesN
  simp (maxSteps := 4000000) (disch := omega) only [ah, am, Nat.reduceEqDiff, reduceCtorEq, Nat.reduceAdd, Nat.reduceLeDiff, Nat.reduceMul, Nat.reduceLT, if_true, if_false, true_and, and_true, and_self, Nat.reduceBEq, QOp.loads, boxO, bslO, buildO, cutL, fillV, putL, w50, v50, X, Rb]
  refine SW_loop_up (fun w E K => E = [(0, .pointer (some ⟨c, 0, none⟩)), (1, .int .i64 now), (10, fv), (11, .int .i64 cr.busy.length), (12, .int .i64 w)] ∧ CrewM h0 K c vj fv ev (takeN job now cr w)) cr.busy.length 0 (by omega)
    ⟨rfl, ov, F⟩ ?_
  rintro w E K hi ⟨rfl, M⟩
  have okw := (ok.takeN hk w).1
  have hbw := takeN_busy (job := job) (now := now) (c := cr) w
  have hn0 := okw.now0
  obtain ⟨cw, hcw⟩ : ∃ cw, cw = takeN job now cr w := ⟨_, rfl⟩
  rw [← hcw] at M okw hbw
  have hsucc : takeN job now cr (w + 1) = takeAt job now cw w := by rw [takeN_succ, hcw]
  obtain ⟨ov, F⟩ := id M
  have X := F.box
  have Rb := F.sf.rulesN
  simp only [hbw] at Rb
  have W : IntKind.i64.wrap ((w : Int) + 1) = ((w + 1 : Nat) : Int) := i64e (by omega) (by omega)
  simp (maxSteps := 4000000) (disch := omega) only [ah, am, Nat.reduceEqDiff, reduceCtorEq, Nat.reduceAdd, Nat.reduceLeDiff, Nat.reduceMul, Nat.reduceLT, if_true, if_false, true_and, and_true, and_self, Nat.reduceBEq, QOp.loads, boxO, bslO, buildO, cutL, fillV, putL, w50, v50, W]
  refine stepI.split (fun hp => ?_) (fun hp => ?_)
  rotate_left
  · simp (maxSteps := 4000000) (disch := omega) only [ah, am, Nat.reduceEqDiff, reduceCtorEq, Nat.reduceAdd, Nat.reduceLeDiff, Nat.reduceMul, Nat.reduceLT, if_true, if_false, true_and, and_true, and_self, Nat.reduceBEq, QOp.loads, boxO, bslO, buildO, cutL, fillV, putL, w50, v50]
    have hwb : w = cr.busy.length := by omega
    rw [show after job now cr = cw by rw [hcw, hwb]; rfl]; exact M
  have hw2 : w < cr.busy.length := by omega
  have hwc : w < cw.busy.length := by omega
  have hgw : cw.busy.getD w 0 = cw.busy[w] := by simp [List.getD, List.getElem?_eq_getElem hwc]
  simp (maxSteps := 4000000) (disch := omega) only [ah, am, Nat.reduceEqDiff, reduceCtorEq, Nat.reduceAdd, Nat.reduceLeDiff, Nat.reduceMul, Nat.reduceLT, if_true, if_false, true_and, and_true, and_self, Nat.reduceBEq, QOp.loads, boxO, bslO, buildO, cutL, fillV, putL, w50, v50, Rb, encI]
  by_cases hbig : now < cw.busy[w]
  · simp (maxSteps := 4000000) (disch := omega) only [ah, am, Nat.reduceEqDiff, reduceCtorEq, Nat.reduceAdd, Nat.reduceLeDiff, Nat.reduceMul, Nat.reduceLT, if_true, if_false, true_and, and_true, and_self, Nat.reduceBEq, QOp.loads, boxO, bslO, buildO, cutL, fillV, putL, w50, v50, decide_eq_true hbig, W]
    refine ⟨hw2, ?_⟩
    rw [hsucc]; unfold takeAt; rw [hgw, if_pos hbig]; exact M
  simp (maxSteps := 4000000) (disch := omega) only [ah, am, Nat.reduceEqDiff, reduceCtorEq, Nat.reduceAdd, Nat.reduceLeDiff, Nat.reduceMul, Nat.reduceLT, if_true, if_false, true_and, and_true, and_self, Nat.reduceBEq, QOp.loads, boxO, bslO, buildO, cutL, fillV, putL, w50, v50, decide_eq_false hbig]
  refine stepC.of (firstReady_ok h0 K c vj fv ev cw now job M hj hk hl okw.le) ?_
  rintro _ K1 ⟨e1, rfl⟩
  have hta : takeAt job now cw w = match firstR job cw.ends now with | none => cw | some i => giveTo job now cw w i := by unfold takeAt; rw [hgw, if_neg hbig]; cases firstR job cw.ends now <;> rfl
  have F1 := F.step e1
  cases hf : firstR job cw.ends now with
  | none =>
    simp (maxSteps := 4000000) (disch := omega) only [ah, am, Nat.reduceEqDiff, reduceCtorEq, Nat.reduceAdd, Nat.reduceLeDiff, Nat.reduceMul, Nat.reduceLT, if_true, if_false, true_and, and_true, and_self, Nat.reduceBEq, QOp.loads, boxO, bslO, buildO, cutL, fillV, putL, w50, v50, show decide ((-1 : Int) < 0) = true from rfl]
    have hst := takeN_stop (job := job) (now := now) (c := cr) (w := w) (by rw [← hcw]; exact hf) (cr.busy.length - w)
    rw [show w + (cr.busy.length - w) = cr.busy.length by omega, ← hcw] at hst
    unfold after; rw [hst]; exact ⟨ov, F1⟩
  | some i =>
    obtain ⟨g1, g2, _⟩ := firstR_some hf
    have hie : i < cw.ends.length := by rw [okw.le]; exact g1
    have hcost := (hk i g1).2.2.2.2
    have hca := costAt_eq g1
    obtain ⟨k1, k2, k3, sn⟩ := Hr i (by omega) g1
    have X1 := F1.box
    have R1 := (s.ext F1.ext).rulesN
    simp only [hlen] at R1
    have Re := F1.se.rulesN
    simp only [okw.le] at Re
    obtain ⟨K2, es, F2⟩ := F1.setE hie (now + job[i].cost)
    have X2 := F2.box
    have Re2 := F2.se.rulesN
    simp only [List.length_set, okw.le] at Re2
    have Rb2 := F2.sf.rulesN
    simp only [hbw] at Rb2
    obtain ⟨K3, es3, F3⟩ := F2.setF hwc (now + job[i].cost)
    have X3 := F3.box
    have Re3 := F3.se.rulesN
    simp only [List.length_set, okw.le] at Re3
    have hcr : cw.runs.length ≤ 200 := by have := okw.cnt; omega
    obtain ⟨v2, K4, ea, F4⟩ := F3.app ⟨i, w, now, now + job[i].cost⟩ (by omega)
    have cv := cells_slT F4.so; have ov2 := oneB_slT F4.so
    obtain ⟨K5, es5, F5⟩ := F4.setT (j := 3) (f := 0) (n := 1) (x := v2) (y := v2) (by simp) (by rw [cv]; rfl) (by omega) (by rw [cv]; rfl) (by omega) (by rw [cv]; simp [ov2, oneB_nil])
    simp only [Nat.mul_one, Nat.add_zero] at Re Re2 Re3 Rb2 es5
    rw [ptr4] at es5
    simp only [encRun] at ea
    have W2 : IntKind.i64.wrap (now + job[i].cost) = now + job[i].cost := i64w (by omega)
    simp (maxSteps := 4000000) (disch := omega) only [ah, am, Nat.reduceEqDiff, reduceCtorEq, Nat.reduceAdd, Nat.reduceLeDiff, Nat.reduceMul, Nat.reduceLT, if_true, if_false, true_and, and_true, and_self, Nat.reduceBEq, QOp.loads, boxO, bslO, buildO, cutL, fillV, putL, w50, v50, show decide ((i : Int) < 0) = false from decide_eq_false (by omega), X1, R1, Re, encT, k3, W2, es]
    simp (maxSteps := 4000000) (disch := omega) only [ah, am, Nat.reduceEqDiff, reduceCtorEq, Nat.reduceAdd, Nat.reduceLeDiff, Nat.reduceMul, Nat.reduceLT, if_true, if_false, true_and, and_true, and_self, Nat.reduceBEq, QOp.loads, boxO, bslO, buildO, cutL, fillV, putL, w50, v50, X2, Re2, encI, List.getElem_set_self, Rb2, es3]
    simp (maxSteps := 4000000) (disch := omega) only [ah, am, Nat.reduceEqDiff, reduceCtorEq, Nat.reduceAdd, Nat.reduceLeDiff, Nat.reduceMul, Nat.reduceLT, if_true, if_false, true_and, and_true, and_self, Nat.reduceBEq, QOp.loads, boxO, bslO, buildO, cutL, fillV, putL, w50, v50, X3, Re3, encI, List.getElem_set_self, ea, es5, W]
    refine ⟨hw2, ?_⟩
    rw [hsucc, hta, hf]
    refine ⟨v2, ?_⟩
    simp only [giveTo, hca]
    exact F5
theorem Bx_own {α : Type} {K : Heap} {c : Nat} {cs : List Value} (b : Bx K c cs) {enc : α → List Value} {sz : Nat} (l : List α) (hs : ∀ x, (enc x).length = sz) (pos : 0 < sz) (hl : cs = l.flatMap enc) :
    OwnT c K enc sz (.slice (some ⟨c, 0, none⟩) l.length sz) l := by
  refine ⟨.inr ⟨c, 0, l.length, _, rfl, b, rfl, ?_, ?_, rfl, rfl⟩, hs, pos⟩
  · simp only; rw [hl, flat_len hs]; omega
  · simp only [List.drop_zero]; rw [hl, List.take_of_length_le]; rw [flat_len hs]; omega
theorem Farm_ok (h : Heap) (v : Value) (job : List Task) (wk : Int) (hj : JobAt h v job) (hl : job.length ≤ 1048576) :
    ACall Try.prog 22 [v, .int .i64 wk] h fun r h' => Fresh h h' encRun 4 r (farmF job wk) := by
  obtain ⟨rs, s, hlen, Hr⟩ := id hj
  refine ACall.of Try.func22 s22 (of_decide_eq_true rfl) ?_
  simp (maxSteps := 4000000) (disch := omega) only [ah, am, Nat.reduceEqDiff, reduceCtorEq, Nat.reduceAdd, Nat.reduceLeDiff, Nat.reduceMul, Nat.reduceLT, if_true, if_false, true_and, and_true, and_self, Nat.reduceBEq, QOp.loads, boxO, bslO, buildO, cutL, fillV, putL, w22, v22]
  refine stepC.of (implJobOk_ok _ v job hj (by omega)) ?_
  rintro _ H1 ⟨e1, rfl⟩
  have nil0 : ∀ {H : Heap}, Ext h H → Fresh h H encRun 4 (.slice none 0 0) ([] : List Run) := fun {H} e => (Fresh.nil H encRun_len (by omega)).mono e
  by_cases c1 : jobOk job
  rotate_left
  · simp (maxSteps := 4000000) (disch := omega) only [ah, am, Nat.reduceEqDiff, reduceCtorEq, Nat.reduceAdd, Nat.reduceLeDiff, Nat.reduceMul, Nat.reduceLT, if_true, if_false, true_and, and_true, and_self, Nat.reduceBEq, QOp.loads, boxO, bslO, buildO, cutL, fillV, putL, w22, v22, decide_eq_false c1, Bool.not_false]
    rw [show farmF job wk = [] from if_neg fun q => c1 q.1]; exact nil0 e1
  simp (maxSteps := 4000000) (disch := omega) only [ah, am, Nat.reduceEqDiff, reduceCtorEq, Nat.reduceAdd, Nat.reduceLeDiff, Nat.reduceMul, Nat.reduceLT, if_true, if_false, true_and, and_true, and_self, Nat.reduceBEq, QOp.loads, boxO, bslO, buildO, cutL, fillV, putL, w22, v22, decide_eq_true c1, Bool.not_true]
  refine stepC.of (in_ok _ _ _ _) ?_
  rintro _ Hx ⟨hx, rfl⟩; rw [hx]; clear hx Hx
  by_cases c2 : 1 ≤ wk ∧ wk ≤ 50
  rotate_left
  · simp (maxSteps := 4000000) (disch := omega) only [ah, am, Nat.reduceEqDiff, reduceCtorEq, Nat.reduceAdd, Nat.reduceLeDiff, Nat.reduceMul, Nat.reduceLT, if_true, if_false, true_and, and_true, and_self, Nat.reduceBEq, QOp.loads, boxO, bslO, buildO, cutL, fillV, putL, w22, v22, decide_eq_false c2, Bool.not_false]
    rw [show farmF job wk = [] from if_neg fun q => c2 q.2]; exact nil0 e1
  rw [show farmF job wk = farmL job job.length (crew0 job wk) 0 from if_pos ⟨c1, c2⟩]
  obtain ⟨k, rfl⟩ : ∃ k : Nat, wk = (k : Int) := ⟨wk.toNat, by omega⟩
  have hL := c1.1
  have hk := c1.in
  have R := (s.ext e1).rulesN
  simp only [hlen] at R
  simp (maxSteps := 4000000) (disch := omega) only [ah, am, Nat.reduceEqDiff, reduceCtorEq, Nat.reduceAdd, Nat.reduceLeDiff, Nat.reduceMul, Nat.reduceLT, if_true, if_false, true_and, and_true, and_self, Nat.reduceBEq, QOp.loads, boxO, bslO, buildO, cutL, fillV, putL, w22, v22, decide_eq_true c2, Bool.not_true, mksV_nat, R]
  have sm1 : SlT (H1.more [(List.replicate k [.int .i64 0]).flatten, [.int .i64 (-1)], [.slice none 0 0, .slice none 0 0, .slice none 0 0, .slice none 0 0]]) encI 1 (.slice (some ⟨H1.size + 1, 0, none⟩) 1 1) [-1] := by
    have b : Bx (H1.more [(List.replicate k [.int .i64 0]).flatten, [.int .i64 (-1)], [.slice none 0 0, .slice none 0 0, .slice none 0 0, .slice none 0 0]]) (H1.size + 1) [.int .i64 (-1)] := by
      unfold Bx; rw [get_more]; rfl
    exact (Bx_own b (enc := encI) (sz := 1) [-1] encI_len (by omega) rfl).slt
  refine stepC.of (RepeatI_ok _ _ (-1) job.length sm1 (by omega)) ?_
  intro ev H2 F
  have G := Fk.ofMore F
  simp only [boxesAt] at G
  have cv := cells_slT s; have ob := oneB_slT s
  have ce := cells_slT F.slt; have oe := oneB_slT F.slt
  obtain ⟨K, es, G1, -⟩ := G.put (i := H1.size + 1 + 1) (o := 0) (n := 4) (y := .agg #[v, .slice (some ⟨H1.size, 0, none⟩) k 1, ev, .slice none 0 0]) (cs := [.slice none 0 0, .slice none 0 0, .slice none 0 0, .slice none 0 0]) (by simp) rfl (by simp) (by simp [cells_agg, ob, oe, oneB_slice, oneB_nil])
  simp only [cells_agg, splice, List.take_succ_cons, List.take_zero, List.length_cons, List.length_nil, List.drop_succ_cons, List.drop_zero, List.cons_append, List.nil_append, List.drop_nil] at G1
  obtain ⟨c, hc⟩ : ∃ c, c = H1.size + 2 := ⟨_, rfl⟩
  obtain ⟨fv, hfv⟩ : ∃ fv : Value, fv = .slice (some ⟨H1.size, 0, none⟩) k 1 := ⟨_, rfl⟩
  have M0 : CrewM h K c v fv ev (crew0 job k) := by
    have b0 : Bx K H1.size ((List.replicate k (0 : Int)).flatMap encI) := by
      have := (G1.box (H1.size, (List.replicate k [.int .i64 0]).flatten) (List.mem_cons_of_mem _ (List.mem_filter.mpr ⟨List.mem_cons_self, by simp; omega⟩))).2
      rw [show (List.replicate k (0 : Int)).flatMap encI = (List.replicate k [.int .i64 0]).flatten by rw [show ([.int .i64 0] : List Value) = encI 0 from rfl, flat_rep]]
      exact this
    have bc : Bx K c [v, fv, ev, .slice none 0 0] := by
      rw [hc, hfv]; exact (G1.box (H1.size + 1 + 1, _) (List.mem_cons_self)).2
    have o2 := Bx_own b0 (enc := encI) (sz := 1) (List.replicate k 0) encI_len (by omega) rfl
    have o4 := Bx_own bc (enc := encV) (sz := 1) [v, fv, ev, .slice none 0 0] encV_len (by omega) rfl
    simp only [List.length_replicate] at o2
    have hc2 := Heap.get_lt bc
    have hE : Ext h K := e1.trans G1.ext.ext
    have hs := e1.1
    have hge : ∃ ge, H1.size ≤ ge ∧ ge ≠ H1.size ∧ ge ≠ c ∧ ge < K.size ∧ OwnT ge K encI 1 ev (List.replicate job.length (-1)) := by
      obtain ⟨g, g1, g2, g3⟩ := G1.own
      rcases g2.own with ⟨rfl, h2⟩ | ⟨i, off, n, ob, rfl, h2, h3⟩
      · exact ⟨H1.size + 1, by omega, by omega, by omega, by omega, ⟨.inl ⟨rfl, h2⟩, g2.hs, g2.pos⟩⟩
      · have q1 := Heap.get_lt h2; have q2 := Heap.grp_le h2
        have q3 : ob.grp = g := h3.2.2.2.2
        refine ⟨g, g1, fun q => g3 (H1.size, (List.replicate k [.int .i64 0]).flatten) (List.mem_cons_of_mem _ (List.mem_filter.mpr ⟨List.mem_cons_self, by simp; omega⟩)) q.symm, fun q => ?_, by omega, g2⟩
        exact g3 (H1.size + 1 + 1, _) (List.mem_cons_self) (by rw [q, hc])
    obtain ⟨ge, p1, p2, p3, p4, p5⟩ := hge
    refine ⟨.slice none 0 0, hE, K.size, H1.size, ge, c, ?_, hs, by omega, by omega, by omega, by omega, by omega, fun q => p2 q.symm, by omega, p3, by omega, p4, hc2, OwnT.nil _ _ encRun_len (by omega), ?_, p5, o4⟩
    · have := hE.1; omega
    · rw [hfv]; simpa [crew0] using o2
  rw [← hfv, show H1.size + 1 + 1 = c by rw [hc]] at es
  simp only [← hfv, ← hc]
  have cf : fv.cells = #[fv] := by rw [hfv]; rfl
  simp (maxSteps := 4000000) (disch := omega) only [ah, am, Nat.reduceEqDiff, reduceCtorEq, Nat.reduceAdd, Nat.reduceLeDiff, Nat.reduceMul, Nat.reduceLT, if_true, if_false, true_and, and_true, and_self, Nat.reduceBEq, QOp.loads, boxO, bslO, buildO, cutL, fillV, putL, w22, v22, ob, oe, ce, cv, cf, oneB_slice, cells_slice, es]
  obtain ⟨RR, hRR⟩ : ∃ RR, RR = farmL job job.length (crew0 job k) 0 := ⟨_, rfl⟩
  rw [← hRR]
  refine ⟨fun n E K => ∃ cr now, E = [(5, .pointer (some ⟨c, 0, none⟩)), (6, .int .i64 now)] ∧ CrewM h K c v fv ev cr ∧ CrewOk job now cr ∧ cr.busy.length = k ∧ mu cr.ends now ≤ n ∧ farmL job n cr now = RR ∧ now ≤ 1000 * ((job.length : Int) - n) ∧ n ≤ job.length,
    ⟨job.length, crew0 job k, 0, rfl, M0, crew0_ok job k, by simp [crew0], by have := mu_le (now := 0) (crew0 job k).ends; simpa [crew0] using this, hRR.symm, by omega, by omega⟩, ?_⟩
  rintro n E K2 ⟨cr, now, rfl, M, ok, hbl, hmu, hR, hnow, hnl⟩
  simp (maxSteps := 4000000) (disch := omega) only [ah, am, Nat.reduceEqDiff, reduceCtorEq, Nat.reduceAdd, Nat.reduceLeDiff, Nat.reduceMul, Nat.reduceLT, if_true, if_false, true_and, and_true, and_self, Nat.reduceBEq, QOp.loads, boxO, bslO, buildO, cutL, fillV, putL, w22, v22]
  refine stepC.of (take_ok h K2 c v fv ev cr now job M hj hk hL ok (by omega) (by omega)) ?_
  intro _ K3 M3
  have ok3 := (ok.takeN hk cr.busy.length).1
  have hmu3 := (ok.takeN hk cr.busy.length).2
  have hbl3 : (after job now cr).busy.length = k := by unfold after; rw [takeN_busy]; exact hbl
  have hdef : after job now cr = takeN job now cr cr.busy.length := rfl
  rw [← hdef] at ok3 hmu3
  obtain ⟨c3, hc3⟩ : ∃ c3, c3 = after job now cr := ⟨_, rfl⟩
  rw [← hc3] at M3 ok3 hmu3 hbl3
  obtain ⟨ov, F3⟩ := id M3
  have X3 := F3.box
  have Re := F3.se.rulesN
  simp only [ok3.le] at Re
  have hn0 := ok3.now0
  simp (maxSteps := 4000000) (disch := omega) only [ah, am, Nat.reduceEqDiff, reduceCtorEq, Nat.reduceAdd, Nat.reduceLeDiff, Nat.reduceMul, Nat.reduceLT, if_true, if_false, true_and, and_true, and_self, Nat.reduceBEq, QOp.loads, boxO, bslO, buildO, cutL, fillV, putL, w22, v22, X3, Re]
  refine SW_loop_up (fun i E K => E = [(5, .pointer (some ⟨c, 0, none⟩)), (6, .int .i64 now), (7, .int .i64 ((c3.ends.take i).foldl (nextS now) (-1))), (29, ev), (30, .int .i64 job.length), (31, .int .i64 i)] ∧ K = K3) job.length 0 (by omega)
    ⟨rfl, rfl⟩ ?_
  rintro i E K hi ⟨rfl, rfl⟩
  have W : IntKind.i64.wrap ((i : Int) + 1) = ((i + 1 : Nat) : Int) := i64e (by omega) (by omega)
  simp (maxSteps := 4000000) (disch := omega) only [ah, am, Nat.reduceEqDiff, reduceCtorEq, Nat.reduceAdd, Nat.reduceLeDiff, Nat.reduceMul, Nat.reduceLT, if_true, if_false, true_and, and_true, and_self, Nat.reduceBEq, QOp.loads, boxO, bslO, buildO, cutL, fillV, putL, w22, v22]
  refine stepI.split (fun hp => ?_) (fun hp => ?_)
  · have hi2 : i < job.length := by omega
    have hie : i < c3.ends.length := by rw [ok3.le]; exact hi2
    rw [List.take_succ_eq_append_getElem hie, List.foldl_append, List.foldl_cons, List.foldl_nil]
    generalize (c3.ends.take i).foldl (nextS now) (-1) = nx
    by_cases d1 : now < c3.ends[i]
    · by_cases d2 : nx < 0
      · simp (maxSteps := 4000000) (disch := omega) only [ah, am, Nat.reduceEqDiff, reduceCtorEq, Nat.reduceAdd, Nat.reduceLeDiff, Nat.reduceMul, Nat.reduceLT, if_true, if_false, true_and, and_true, and_self, Nat.reduceBEq, QOp.loads, boxO, bslO, buildO, cutL, fillV, putL, w22, v22, Re, encI, decide_eq_true d1, decide_eq_true d2, W]
        exact ⟨hi2, by unfold nextS; rw [if_pos ⟨d1, .inl d2⟩]⟩
      · by_cases d3 : c3.ends[i] < nx
        · simp (maxSteps := 4000000) (disch := omega) only [ah, am, Nat.reduceEqDiff, reduceCtorEq, Nat.reduceAdd, Nat.reduceLeDiff, Nat.reduceMul, Nat.reduceLT, if_true, if_false, true_and, and_true, and_self, Nat.reduceBEq, QOp.loads, boxO, bslO, buildO, cutL, fillV, putL, w22, v22, Re, encI, decide_eq_true d1, decide_eq_false d2, decide_eq_true d3, W]
          exact ⟨hi2, by unfold nextS; rw [if_pos ⟨d1, .inr d3⟩]⟩
        · simp (maxSteps := 4000000) (disch := omega) only [ah, am, Nat.reduceEqDiff, reduceCtorEq, Nat.reduceAdd, Nat.reduceLeDiff, Nat.reduceMul, Nat.reduceLT, if_true, if_false, true_and, and_true, and_self, Nat.reduceBEq, QOp.loads, boxO, bslO, buildO, cutL, fillV, putL, w22, v22, Re, encI, decide_eq_true d1, decide_eq_false d2, decide_eq_false d3, W]
          exact ⟨hi2, by unfold nextS; rw [if_neg (fun q => by rcases q.2 with q | q; exact d2 q; exact d3 q)]⟩
    · simp (maxSteps := 4000000) (disch := omega) only [ah, am, Nat.reduceEqDiff, reduceCtorEq, Nat.reduceAdd, Nat.reduceLeDiff, Nat.reduceMul, Nat.reduceLT, if_true, if_false, true_and, and_true, and_self, Nat.reduceBEq, QOp.loads, boxO, bslO, buildO, cutL, fillV, putL, w22, v22, Re, encI, decide_eq_false d1, W]
      exact ⟨hi2, by unfold nextS; rw [if_neg (fun q => d1 q.1)]⟩
  obtain rfl : i = job.length := by omega
  simp (maxSteps := 4000000) (disch := omega) only [ah, am, Nat.reduceEqDiff, reduceCtorEq, Nat.reduceAdd, Nat.reduceLeDiff, Nat.reduceMul, Nat.reduceLT, if_true, if_false, true_and, and_true, and_self, Nat.reduceBEq, QOp.loads, boxO, bslO, buildO, cutL, fillV, putL, w22, v22]
  rw [List.take_of_length_le (show c3.ends.length ≤ job.length by rw [ok3.le]; exact Nat.le_refl _)]
  have hnx : c3.ends.foldl (nextS now) (-1) = nextEnd c3.ends now := rfl
  rw [hnx]
  by_cases hneg : nextEnd c3.ends now < 0
  · simp (maxSteps := 4000000) (disch := omega) only [ah, am, Nat.reduceEqDiff, reduceCtorEq, Nat.reduceAdd, Nat.reduceLeDiff, Nat.reduceMul, Nat.reduceLT, if_true, if_false, true_and, and_true, and_self, Nat.reduceBEq, QOp.loads, boxO, bslO, buildO, cutL, fillV, putL, w22, v22, decide_eq_true hneg, X3]
    have : RR = c3.runs := by
      rw [← hR]
      cases n with
      | zero => simp only [farmL]; rw [← hc3]
      | succ n => simp only [farmL]; rw [← hc3, if_pos hneg]
    rw [this]; exact F3.fresh
  · simp (maxSteps := 4000000) (disch := omega) only [ah, am, Nat.reduceEqDiff, reduceCtorEq, Nat.reduceAdd, Nat.reduceLeDiff, Nat.reduceMul, Nat.reduceLT, if_true, if_false, true_and, and_true, and_self, Nat.reduceBEq, QOp.loads, boxO, bslO, buildO, cutL, fillV, putL, w22, v22, decide_eq_false hneg]
    rcases nextEnd_spec (now := now) c3.ends ok3.now0 with ⟨q, _⟩ | ⟨q1, q2, _⟩
    · omega
    have hlt := mu_next (now := now) ok3.now0 q1 q2
    have hb := ok3.bnd _ q2
    cases n with
    | zero => omega
    | succ n =>
      refine ⟨n, by omega, c3, nextEnd c3.ends now, rfl, M3, ok3.later (by omega), hbl3, by omega, ?_, by omega, by omega⟩
      rw [← hR]; simp only [farmL]; rw [← hc3, if_neg hneg]
end Go.Proofs.Ytbnkpligdcponaa
