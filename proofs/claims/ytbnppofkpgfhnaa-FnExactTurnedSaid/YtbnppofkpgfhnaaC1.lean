import Derived.Test.YtbnppofkpgfhnaaC0
import Derived.Test.YtbnppofkpgfhnaaAhY
namespace Go.Proofs.Ytbnppofkpgfhnaa
open Go Go.Ah
set_option linter.unusedSimpArgs false
set_option linter.unusedVariables false
set_option maxRecDepth 10000
set_option maxHeartbeats 4000000
/-! 88 loop.example/g00066/spec.l5Change: parameters 1, live [0], slots [0:x, 1:x] -/
def c88_0 : List SOper := [⟨some 1, .a (.box (.t 0)), none⟩, ⟨some 2, .q (.mv (.c (.bool false))), none⟩]
def c88_1 : List SOper := [⟨some 3, .q (.fa 0 (.t 1)), none⟩, ⟨some 4, .q (.ld (.t 3)), none⟩]
def c88_2 : List SOper := [⟨some 6, .q (.bin .eql (.t 4) (.c (.int .i64 1))), none⟩, ⟨some 5, .q (.mv (.t 6)), none⟩]
def c88_3 : List SOper := [⟨some 7, .q (.bin .eql (.t 4) (.c (.int .i64 2))), none⟩, ⟨some 5, .q (.mv (.t 7)), none⟩]
def c88_4 : SCode := .cond (.t 5) .skip (.region c88_3 [1, 4, 5])
def c88_5 : SCode := .seq (.region c88_2 [1, 4, 5]) c88_4
def c88_6 : List SOper := [⟨some 8, .q (.fa 1 (.t 1)), none⟩, ⟨some 9, .q (.ld (.t 8)), none⟩, ⟨some 10, .q (.bin .eql (.t 9) (.c (.int .i64 0))), none⟩, ⟨some 11, .q (.mv (.t 10)), none⟩, ⟨some 12, .q (.fa 2 (.t 1)), some (11, true)⟩, ⟨some 13, .q (.ld (.t 12)), some (11, true)⟩, ⟨some 14, .q (.bin .eql (.t 13) (.c (.int .i64 0))), some (11, true)⟩, ⟨some 15, .q (.pick (.t 11) (.t 14) (.c (.bool false))), none⟩, ⟨some 16, .q (.mv (.t 15)), none⟩, ⟨some 17, .q (.fa 3 (.t 1)), some (16, true)⟩, ⟨some 18, .q (.ld (.t 17)), some (16, true)⟩, ⟨some 19, .e (.call 82 [(.t 18), (.c (.int .i64 1)), (.c (.int .i64 10000000))]), some (16, true)⟩, ⟨some 20, .q (.pick (.t 16) (.t 19) (.c (.bool false))), none⟩, ⟨some 2, .q (.mv (.t 20)), none⟩]
def c88_7 : SCode := .seq (.region c88_6 [2]) .ret
def c88_8 : List SOper := [⟨some 22, .q (.bin .eql (.t 4) (.c (.int .i64 3))), none⟩, ⟨some 21, .q (.mv (.t 22)), none⟩]
def c88_9 : List SOper := [⟨some 23, .q (.fa 1 (.t 1)), none⟩, ⟨some 24, .q (.ld (.t 23)), none⟩, ⟨some 25, .q (.fa 2 (.t 1)), none⟩, ⟨some 26, .q (.ld (.t 25)), none⟩, ⟨some 27, .q (.fa 3 (.t 1)), none⟩, ⟨some 28, .q (.ld (.t 27)), none⟩, ⟨some 29, .q (.build [(.int .i64 0), (.int .i64 0), (.int .i64 0)] [(0, 1, (.t 24)), (1, 1, (.t 26)), (2, 1, (.t 28))]), none⟩, ⟨some 30, .e (.call 54 [(.t 29)]), none⟩, ⟨some 2, .q (.mv (.t 30)), none⟩]
def c88_10 : SCode := .seq (.region c88_9 [2]) .ret
def c88_11 : SCode := .cond (.t 21) c88_10 .skip
def c88_12 : SCode := .seq (.region c88_8 [1, 21]) c88_11
def c88_13 : SCode := .cond (.t 5) c88_7 c88_12
def c88_14 : SCode := .seq c88_5 c88_13
def c88_15 : SCode := .block 0 c88_14
def c88_16 : SCode := .seq (.region c88_1 [1, 4]) c88_15
def c88_17 : List SOper := [⟨some 2, .q (.mv (.c (.bool false))), none⟩]
def c88_18 : SCode := .seq (.region c88_17 [2]) .ret
def c88_19 : SCode := .seq c88_16 c88_18
def c88_20 : SCode := .seq (.region c88_0 [1]) c88_19
def c88 : SCode := c88_20
theorem w88 : type_of% (And.intro (uR Try.prog c88_0.eq_1) (And.intro (uR Try.prog c88_1.eq_1) (And.intro (uR Try.prog c88_2.eq_1) (And.intro (uR Try.prog c88_3.eq_1) (And.intro (uC Try.prog c88_4.eq_1) (And.intro (uC Try.prog c88_5.eq_1) (And.intro (uR Try.prog c88_6.eq_1) (And.intro (uC Try.prog c88_7.eq_1) (And.intro (uR Try.prog c88_8.eq_1) (And.intro (uR Try.prog c88_9.eq_1) (And.intro (uC Try.prog c88_10.eq_1) (And.intro (uC Try.prog c88_11.eq_1) (And.intro (uC Try.prog c88_12.eq_1) (And.intro (uC Try.prog c88_13.eq_1) (And.intro (uC Try.prog c88_14.eq_1) (And.intro (uC Try.prog c88_15.eq_1) (And.intro (uC Try.prog c88_16.eq_1) (And.intro (uR Try.prog c88_17.eq_1) (And.intro (uC Try.prog c88_18.eq_1) (And.intro (uC Try.prog c88_19.eq_1) (And.intro (uC Try.prog c88_20.eq_1) (uC Try.prog c88.eq_1)))))))))))))))))))))) := (And.intro (uR Try.prog c88_0.eq_1) (And.intro (uR Try.prog c88_1.eq_1) (And.intro (uR Try.prog c88_2.eq_1) (And.intro (uR Try.prog c88_3.eq_1) (And.intro (uC Try.prog c88_4.eq_1) (And.intro (uC Try.prog c88_5.eq_1) (And.intro (uR Try.prog c88_6.eq_1) (And.intro (uC Try.prog c88_7.eq_1) (And.intro (uR Try.prog c88_8.eq_1) (And.intro (uR Try.prog c88_9.eq_1) (And.intro (uC Try.prog c88_10.eq_1) (And.intro (uC Try.prog c88_11.eq_1) (And.intro (uC Try.prog c88_12.eq_1) (And.intro (uC Try.prog c88_13.eq_1) (And.intro (uC Try.prog c88_14.eq_1) (And.intro (uC Try.prog c88_15.eq_1) (And.intro (uC Try.prog c88_16.eq_1) (And.intro (uR Try.prog c88_17.eq_1) (And.intro (uC Try.prog c88_18.eq_1) (And.intro (uC Try.prog c88_19.eq_1) (And.intro (uC Try.prog c88_20.eq_1) (uC Try.prog c88.eq_1))))))))))))))))))))))
def v88 : List RV := [.t 2]
theorem s88 : slimF Try.prog Try.f88 = some (c88.bare, v88) := by kernel_rfl
/-! 61 loop.example/g00066/spec.l5List: parameters 1, live [0], slots [0:list, 1:list, 3:i] -/
def c61_0 : List SOper := [⟨some 2, .q (.mv (.c (.bool false))), none⟩]
def c61_1 : List SOper := [⟨some 4, .q (.mv (.t 0)), none⟩, ⟨some 5, .q (.len (.t 4)), none⟩, ⟨some 6, .q (.bin .gtr (.t 5) (.c (.int .i64 300))), none⟩]
def c61_2 : List SOper := [⟨some 2, .q (.mv (.c (.bool false))), none⟩]
def c61_3 : SCode := .seq (.region c61_2 [2]) .ret
def c61_4 : SCode := .cond (.t 6) c61_3 .skip
def c61_5 : SCode := .seq (.region c61_1 [0, 6]) c61_4
def c61_6 : List SOper := [⟨some 3, .q (.mv (.c (.int .i64 0))), none⟩]
def c61_7 : List SOper := [⟨some 7, .q (.mv (.t 3)), none⟩, ⟨some 8, .q (.mv (.t 0)), none⟩, ⟨some 9, .q (.len (.t 8)), none⟩, ⟨some 10, .q (.bin .lss (.t 7) (.t 9)), none⟩]
def c61_8 : SCode := .cond (.t 10) .skip (.exit 0)
def c61_9 : SCode := .seq (.region c61_7 [0, 3, 10]) c61_8
def c61_10 : List SOper := [⟨some 13, .q (.mv (.t 0)), none⟩, ⟨some 14, .q (.mv (.t 3)), none⟩, ⟨some 15, .q (.ia 4 (.t 13) (.t 14)), none⟩, ⟨some 16, .q (.ldn 4 (.t 15)), none⟩, ⟨some 17, .e (.call 88 [(.t 16)]), none⟩, ⟨some 18, .q (.not (.t 17)), none⟩]
def c61_11 : List SOper := [⟨some 2, .q (.mv (.c (.bool false))), none⟩]
def c61_12 : SCode := .seq (.region c61_11 [2]) .ret
def c61_13 : SCode := .cond (.t 18) c61_12 .skip
def c61_14 : SCode := .seq (.region c61_10 [0, 3, 18]) c61_13
def c61_15 : SCode := .block 1 c61_14
def c61_16 : List SOper := [⟨some 11, .q (.mv (.t 3)), none⟩, ⟨some 12, .q (.bin .add (.t 11) (.c (.int .i64 1))), none⟩, ⟨some 3, .q (.mv (.t 12)), none⟩]
def c61_17 : SCode := .seq c61_15 (.region c61_16 [0, 3])
def c61_18 : SCode := .seq c61_9 c61_17
def c61_19 : SCode := .loop c61_18
def c61_20 : SCode := .block 0 c61_19
def c61_21 : SCode := .seq (.region c61_6 [0, 3]) c61_20
def c61_22 : List SOper := [⟨some 2, .q (.mv (.c (.bool true))), none⟩]
def c61_23 : SCode := .seq (.region c61_22 [2]) .ret
def c61_24 : SCode := .seq c61_21 c61_23
def c61_25 : SCode := .seq c61_5 c61_24
def c61_26 : SCode := .seq (.region c61_0 [0]) c61_25
def c61 : SCode := c61_26
theorem w61 : type_of% (And.intro (uR Try.prog c61_0.eq_1) (And.intro (uR Try.prog c61_1.eq_1) (And.intro (uR Try.prog c61_2.eq_1) (And.intro (uC Try.prog c61_3.eq_1) (And.intro (uC Try.prog c61_4.eq_1) (And.intro (uC Try.prog c61_5.eq_1) (And.intro (uR Try.prog c61_6.eq_1) (And.intro (uR Try.prog c61_7.eq_1) (And.intro (uC Try.prog c61_8.eq_1) (And.intro (uC Try.prog c61_9.eq_1) (And.intro (uR Try.prog c61_10.eq_1) (And.intro (uR Try.prog c61_11.eq_1) (And.intro (uC Try.prog c61_12.eq_1) (And.intro (uC Try.prog c61_13.eq_1) (And.intro (uC Try.prog c61_14.eq_1) (And.intro (uC Try.prog c61_15.eq_1) (And.intro (uR Try.prog c61_16.eq_1) (And.intro (uC Try.prog c61_17.eq_1) (And.intro (uC Try.prog c61_18.eq_1) (And.intro (uC Try.prog c61_19.eq_1) (And.intro (uC Try.prog c61_20.eq_1) (And.intro (uC Try.prog c61_21.eq_1) (And.intro (uR Try.prog c61_22.eq_1) (And.intro (uC Try.prog c61_23.eq_1) (And.intro (uC Try.prog c61_24.eq_1) (And.intro (uC Try.prog c61_25.eq_1) (And.intro (uC Try.prog c61_26.eq_1) (uC Try.prog c61.eq_1)))))))))))))))))))))))))))) := (And.intro (uR Try.prog c61_0.eq_1) (And.intro (uR Try.prog c61_1.eq_1) (And.intro (uR Try.prog c61_2.eq_1) (And.intro (uC Try.prog c61_3.eq_1) (And.intro (uC Try.prog c61_4.eq_1) (And.intro (uC Try.prog c61_5.eq_1) (And.intro (uR Try.prog c61_6.eq_1) (And.intro (uR Try.prog c61_7.eq_1) (And.intro (uC Try.prog c61_8.eq_1) (And.intro (uC Try.prog c61_9.eq_1) (And.intro (uR Try.prog c61_10.eq_1) (And.intro (uR Try.prog c61_11.eq_1) (And.intro (uC Try.prog c61_12.eq_1) (And.intro (uC Try.prog c61_13.eq_1) (And.intro (uC Try.prog c61_14.eq_1) (And.intro (uC Try.prog c61_15.eq_1) (And.intro (uR Try.prog c61_16.eq_1) (And.intro (uC Try.prog c61_17.eq_1) (And.intro (uC Try.prog c61_18.eq_1) (And.intro (uC Try.prog c61_19.eq_1) (And.intro (uC Try.prog c61_20.eq_1) (And.intro (uC Try.prog c61_21.eq_1) (And.intro (uR Try.prog c61_22.eq_1) (And.intro (uC Try.prog c61_23.eq_1) (And.intro (uC Try.prog c61_24.eq_1) (And.intro (uC Try.prog c61_25.eq_1) (And.intro (uC Try.prog c61_26.eq_1) (uC Try.prog c61.eq_1))))))))))))))))))))))))))))
def v61 : List RV := [.t 2]
theorem s61 : slimF Try.prog Try.f61 = some (c61.bare, v61) := by kernel_rfl
/-! 22 loop.example/g00066/spec.Apply: parameters 2, live [0, 1], slots [0:a, 1:list, 2:a, 3:list, 6:out, 7:at, 8:i, 9:x] -/
def c22_0 : List SOper := [⟨some 4, .q (.mv (.c (.slice none 0 0))), none⟩, ⟨some 5, .q (.mv (.c (.bool false))), none⟩]
def c22_1 : List SOper := [⟨some 10, .q (.mv (.t 0)), none⟩, ⟨some 11, .e (.call 12 [(.t 10)]), none⟩, ⟨some 12, .q (.not (.t 11)), none⟩, ⟨some 13, .q (.mv (.t 12)), none⟩, ⟨some 14, .q (.mv (.t 1)), some (13, false)⟩, ⟨some 15, .e (.call 61 [(.t 14)]), some (13, false)⟩, ⟨some 16, .q (.not (.t 15)), some (13, false)⟩, ⟨some 17, .q (.pick (.t 13) (.c (.bool true)) (.t 16)), none⟩]
def c22_2 : List SOper := [⟨some 18, .a (.bsl 0 3 [] []), none⟩, ⟨some 4, .q (.mv (.t 18)), none⟩, ⟨some 5, .q (.mv (.c (.bool false))), none⟩]
def c22_3 : SCode := .seq (.region c22_2 [4, 5]) .ret
def c22_4 : SCode := .cond (.t 17) c22_3 .skip
def c22_5 : SCode := .seq (.region c22_1 [0, 1, 17]) c22_4
def c22_6 : List SOper := [⟨some 19, .a (.bsl 0 3 [] []), none⟩, ⟨some 6, .q (.mv (.t 19)), none⟩]
def c22_7 : List SOper := [⟨some 7, .q (.mv (.c (.int .i64 0))), none⟩]
def c22_8 : List SOper := [⟨some 8, .q (.mv (.c (.int .i64 0))), none⟩]
def c22_9 : List SOper := [⟨some 20, .q (.mv (.t 8)), none⟩, ⟨some 21, .q (.mv (.t 1)), none⟩, ⟨some 22, .q (.len (.t 21)), none⟩, ⟨some 23, .q (.bin .lss (.t 20) (.t 22)), none⟩]
def c22_10 : SCode := .cond (.t 23) .skip (.exit 0)
def c22_11 : SCode := .seq (.region c22_9 [0, 1, 6, 7, 8, 23]) c22_10
def c22_12 : List SOper := [⟨some 26, .q (.mv (.t 1)), none⟩, ⟨some 27, .q (.mv (.t 8)), none⟩, ⟨some 28, .q (.ia 4 (.t 26) (.t 27)), none⟩, ⟨some 29, .q (.ldn 4 (.t 28)), none⟩, ⟨some 9, .a (.new [(.int .i64 0), (.int .i64 0), (.int .i64 0), (.int .i64 0)]), none⟩, ⟨none, .e (.st 4 (.t 9) (.t 29)), none⟩]
def c22_13 : List SOper := [⟨some 30, .q (.fa 0 (.t 9)), none⟩, ⟨some 31, .q (.ld (.t 30)), none⟩, ⟨some 32, .q (.bin .eql (.t 31) (.c (.int .i64 3))), none⟩]
def c22_14 : List SOper := [⟨some 33, .q (.mv (.t 6)), none⟩, ⟨some 34, .q (.fa 1 (.t 9)), none⟩, ⟨some 35, .q (.ld (.t 34)), none⟩, ⟨some 36, .q (.fa 2 (.t 9)), none⟩, ⟨some 37, .q (.ld (.t 36)), none⟩, ⟨some 38, .q (.fa 3 (.t 9)), none⟩, ⟨some 39, .q (.ld (.t 38)), none⟩, ⟨some 40, .q (.build [(.int .i64 0), (.int .i64 0), (.int .i64 0)] [(0, 1, (.t 35)), (1, 1, (.t 37)), (2, 1, (.t 39))]), none⟩, ⟨some 41, .a (.bsl 1 3 [(.int .i64 0), (.int .i64 0), (.int .i64 0)] [(0, 3, (.t 40))]), none⟩, ⟨some 42, .e (.app 24 3 (.t 33) (.t 41)), none⟩, ⟨some 6, .q (.mv (.t 42)), none⟩]
def c22_15 : SCode := .seq (.region c22_14 [0, 1, 6, 7, 8]) (.exit 1)
def c22_16 : SCode := .cond (.t 32) c22_15 .skip
def c22_17 : SCode := .seq (.region c22_13 [0, 1, 6, 7, 8, 9, 32]) c22_16
def c22_18 : List SOper := [⟨some 43, .q (.fa 0 (.t 9)), none⟩, ⟨some 44, .q (.ld (.t 43)), none⟩, ⟨some 45, .q (.bin .eql (.t 44) (.c (.int .i64 1))), none⟩]
def c22_19 : List SOper := [⟨some 46, .q (.mv (.t 6)), none⟩, ⟨some 47, .q (.mv (.t 0)), none⟩, ⟨some 48, .q (.mv (.t 7)), none⟩, ⟨some 49, .q (.mv (.t 7)), none⟩, ⟨some 50, .q (.fa 3 (.t 9)), none⟩, ⟨some 51, .q (.ld (.t 50)), none⟩, ⟨some 52, .q (.bin .add (.t 49) (.t 51)), none⟩, ⟨some 53, .e (.call 53 [(.t 47), (.t 48), (.t 52)]), none⟩, ⟨some 54, .e (.app 24 3 (.t 46) (.t 53)), none⟩, ⟨some 6, .q (.mv (.t 54)), none⟩]
def c22_20 : SCode := .cond (.t 45) (.region c22_19 [0, 1, 6, 7, 8, 9]) .skip
def c22_21 : SCode := .seq (.region c22_18 [0, 1, 6, 7, 8, 9, 45]) c22_20
def c22_22 : List SOper := [⟨some 55, .q (.mv (.t 7)), none⟩, ⟨some 56, .q (.fa 3 (.t 9)), none⟩, ⟨some 57, .q (.ld (.t 56)), none⟩, ⟨some 58, .q (.bin .add (.t 55) (.t 57)), none⟩, ⟨some 7, .q (.mv (.t 58)), none⟩]
def c22_23 : SCode := .seq c22_21 (.region c22_22 [0, 1, 6, 7, 8])
def c22_24 : SCode := .seq c22_17 c22_23
def c22_25 : SCode := .seq (.region c22_12 [0, 1, 6, 7, 8, 9]) c22_24
def c22_26 : SCode := .block 1 c22_25
def c22_27 : List SOper := [⟨some 24, .q (.mv (.t 8)), none⟩, ⟨some 25, .q (.bin .add (.t 24) (.c (.int .i64 1))), none⟩, ⟨some 8, .q (.mv (.t 25)), none⟩]
def c22_28 : SCode := .seq c22_26 (.region c22_27 [0, 1, 6, 7, 8])
def c22_29 : SCode := .seq c22_11 c22_28
def c22_30 : SCode := .loop c22_29
def c22_31 : SCode := .block 0 c22_30
def c22_32 : SCode := .seq (.region c22_8 [0, 1, 6, 7, 8]) c22_31
def c22_33 : List SOper := [⟨some 59, .q (.mv (.t 7)), none⟩, ⟨some 60, .q (.mv (.t 0)), none⟩, ⟨some 61, .e (.call 48 [(.t 60)]), none⟩, ⟨some 62, .q (.bin .neq (.t 59) (.t 61)), none⟩]
def c22_34 : List SOper := [⟨some 63, .a (.bsl 0 3 [] []), none⟩, ⟨some 4, .q (.mv (.t 63)), none⟩, ⟨some 5, .q (.mv (.c (.bool false))), none⟩]
def c22_35 : SCode := .seq (.region c22_34 [4, 5]) .ret
def c22_36 : SCode := .cond (.t 62) c22_35 .skip
def c22_37 : SCode := .seq (.region c22_33 [6, 62]) c22_36
def c22_38 : List SOper := [⟨some 64, .q (.mv (.t 6)), none⟩, ⟨some 65, .e (.call 62 [(.t 64)]), none⟩, ⟨some 66, .q (.ext (.t 65) 0), none⟩, ⟨some 67, .q (.ext (.t 65) 1), none⟩, ⟨some 4, .q (.mv (.t 66)), none⟩, ⟨some 5, .q (.mv (.t 67)), none⟩]
def c22_39 : SCode := .seq (.region c22_38 [4, 5]) .ret
def c22_40 : SCode := .seq c22_37 c22_39
def c22_41 : SCode := .seq c22_32 c22_40
def c22_42 : SCode := .seq (.region c22_7 [0, 1, 6, 7]) c22_41
def c22_43 : SCode := .seq (.region c22_6 [0, 1, 6]) c22_42
def c22_44 : SCode := .seq c22_5 c22_43
def c22_45 : SCode := .seq (.region c22_0 [0, 1]) c22_44
def c22 : SCode := c22_45
theorem w22 : type_of% (And.intro (uR Try.prog c22_0.eq_1) (And.intro (uR Try.prog c22_1.eq_1) (And.intro (uR Try.prog c22_2.eq_1) (And.intro (uC Try.prog c22_3.eq_1) (And.intro (uC Try.prog c22_4.eq_1) (And.intro (uC Try.prog c22_5.eq_1) (And.intro (uR Try.prog c22_6.eq_1) (And.intro (uR Try.prog c22_7.eq_1) (And.intro (uR Try.prog c22_8.eq_1) (And.intro (uR Try.prog c22_9.eq_1) (And.intro (uC Try.prog c22_10.eq_1) (And.intro (uC Try.prog c22_11.eq_1) (And.intro (uR Try.prog c22_12.eq_1) (And.intro (uR Try.prog c22_13.eq_1) (And.intro (uR Try.prog c22_14.eq_1) (And.intro (uC Try.prog c22_15.eq_1) (And.intro (uC Try.prog c22_16.eq_1) (And.intro (uC Try.prog c22_17.eq_1) (And.intro (uR Try.prog c22_18.eq_1) (And.intro (uR Try.prog c22_19.eq_1) (And.intro (uC Try.prog c22_20.eq_1) (And.intro (uC Try.prog c22_21.eq_1) (And.intro (uR Try.prog c22_22.eq_1) (And.intro (uC Try.prog c22_23.eq_1) (And.intro (uC Try.prog c22_24.eq_1) (And.intro (uC Try.prog c22_25.eq_1) (And.intro (uC Try.prog c22_26.eq_1) (And.intro (uR Try.prog c22_27.eq_1) (And.intro (uC Try.prog c22_28.eq_1) (And.intro (uC Try.prog c22_29.eq_1) (And.intro (uC Try.prog c22_30.eq_1) (And.intro (uC Try.prog c22_31.eq_1) (And.intro (uC Try.prog c22_32.eq_1) (And.intro (uR Try.prog c22_33.eq_1) (And.intro (uR Try.prog c22_34.eq_1) (And.intro (uC Try.prog c22_35.eq_1) (And.intro (uC Try.prog c22_36.eq_1) (And.intro (uC Try.prog c22_37.eq_1) (And.intro (uR Try.prog c22_38.eq_1) (And.intro (uC Try.prog c22_39.eq_1) (And.intro (uC Try.prog c22_40.eq_1) (And.intro (uC Try.prog c22_41.eq_1) (And.intro (uC Try.prog c22_42.eq_1) (And.intro (uC Try.prog c22_43.eq_1) (And.intro (uC Try.prog c22_44.eq_1) (And.intro (uC Try.prog c22_45.eq_1) (uC Try.prog c22.eq_1))))))))))))))))))))))))))))))))))))))))))))))) := (And.intro (uR Try.prog c22_0.eq_1) (And.intro (uR Try.prog c22_1.eq_1) (And.intro (uR Try.prog c22_2.eq_1) (And.intro (uC Try.prog c22_3.eq_1) (And.intro (uC Try.prog c22_4.eq_1) (And.intro (uC Try.prog c22_5.eq_1) (And.intro (uR Try.prog c22_6.eq_1) (And.intro (uR Try.prog c22_7.eq_1) (And.intro (uR Try.prog c22_8.eq_1) (And.intro (uR Try.prog c22_9.eq_1) (And.intro (uC Try.prog c22_10.eq_1) (And.intro (uC Try.prog c22_11.eq_1) (And.intro (uR Try.prog c22_12.eq_1) (And.intro (uR Try.prog c22_13.eq_1) (And.intro (uR Try.prog c22_14.eq_1) (And.intro (uC Try.prog c22_15.eq_1) (And.intro (uC Try.prog c22_16.eq_1) (And.intro (uC Try.prog c22_17.eq_1) (And.intro (uR Try.prog c22_18.eq_1) (And.intro (uR Try.prog c22_19.eq_1) (And.intro (uC Try.prog c22_20.eq_1) (And.intro (uC Try.prog c22_21.eq_1) (And.intro (uR Try.prog c22_22.eq_1) (And.intro (uC Try.prog c22_23.eq_1) (And.intro (uC Try.prog c22_24.eq_1) (And.intro (uC Try.prog c22_25.eq_1) (And.intro (uC Try.prog c22_26.eq_1) (And.intro (uR Try.prog c22_27.eq_1) (And.intro (uC Try.prog c22_28.eq_1) (And.intro (uC Try.prog c22_29.eq_1) (And.intro (uC Try.prog c22_30.eq_1) (And.intro (uC Try.prog c22_31.eq_1) (And.intro (uC Try.prog c22_32.eq_1) (And.intro (uR Try.prog c22_33.eq_1) (And.intro (uR Try.prog c22_34.eq_1) (And.intro (uC Try.prog c22_35.eq_1) (And.intro (uC Try.prog c22_36.eq_1) (And.intro (uC Try.prog c22_37.eq_1) (And.intro (uR Try.prog c22_38.eq_1) (And.intro (uC Try.prog c22_39.eq_1) (And.intro (uC Try.prog c22_40.eq_1) (And.intro (uC Try.prog c22_41.eq_1) (And.intro (uC Try.prog c22_42.eq_1) (And.intro (uC Try.prog c22_43.eq_1) (And.intro (uC Try.prog c22_44.eq_1) (And.intro (uC Try.prog c22_45.eq_1) (uC Try.prog c22.eq_1)))))))))))))))))))))))))))))))))))))))))))))))
def v22 : List RV := [.t 4, .t 5]
theorem s22 : slimF Try.prog Try.f22 = some (c22.bare, v22) := by kernel_rfl

theorem l5Change_ok (h : Heap) (c : Change) : ACall Try.prog 88 [.agg (encChange c).toArray] h fun r h' => Ext h h' ∧ r = .bool (decide (changeOk c)) := by
  obtain ⟨a, b, d, e⟩ := c
  refine ACall.of Try.func88 s88 (of_decide_eq_true rfl) ?_
  by_cases k1 : a = 1
  · subst k1
    simp (maxSteps := 4000000) (disch := omega) only [ah, am, Nat.reduceEqDiff, reduceCtorEq, Nat.reduceAdd, Nat.reduceLeDiff, Nat.reduceMul, Nat.reduceLT, if_true, if_false, true_and, and_true, and_self, Nat.reduceBEq, QOp.loads, boxO, bslO, buildO, cutL, fillV, putL, w88, v88, encChange]
    (repeat' first
    | (refine stepC.of (l1In_ok _ _ _ _) ?_; rintro _ _ ⟨rfl, rfl⟩; simp (maxSteps := 4000000) (disch := omega) only [ah, am, Nat.reduceEqDiff, reduceCtorEq, Nat.reduceAdd, Nat.reduceLeDiff, Nat.reduceMul, Nat.reduceLT, if_true, if_false, true_and, and_true, and_self, Nat.reduceBEq, QOp.loads, boxO, bslO, buildO, cutL, fillV, putL, i64w, w88, v88])
    | (refine stepG.cases (fun _ hp => ?_) (fun _ hp => ?_) <;> simp (maxSteps := 4000000) (disch := omega) only [hp, ah, am, Nat.reduceEqDiff, reduceCtorEq, Nat.reduceAdd, Nat.reduceLeDiff, Nat.reduceMul, Nat.reduceLT, if_true, if_false, true_and, and_true, and_self, Nat.reduceBEq, QOp.loads, boxO, bslO, buildO, cutL, fillV, putL, i64w, w88, v88])
    | (refine stepI.cases (fun _ hp => ?_) (fun _ hp => ?_) <;> simp (maxSteps := 4000000) (disch := omega) only [hp, ah, am, Nat.reduceEqDiff, reduceCtorEq, Nat.reduceAdd, Nat.reduceLeDiff, Nat.reduceMul, Nat.reduceLT, if_true, if_false, true_and, and_true, and_self, Nat.reduceBEq, QOp.loads, boxO, bslO, buildO, cutL, fillV, putL, i64w, w88, v88]))
    all_goals (refine ⟨Ext.more _ _, ?_⟩; refine bool_dec ?_; try simp only [decide_eq_true_eq, Bool.false_eq_true, false_and, and_false, true_and, and_true, false_iff, iff_false, true_iff, iff_true, not_false_eq_true, false_or, or_false, true_or, or_true, changeOk, clipOf]; first | done | omega | (refine Iff.intro (fun hq => ?_) (fun hq => ?_) <;> omega))
  have k1' : decide (a = 1) = false := decide_eq_false k1
  by_cases k2 : a = 2
  · subst k2
    simp (maxSteps := 4000000) (disch := omega) only [ah, am, Nat.reduceEqDiff, reduceCtorEq, Nat.reduceAdd, Nat.reduceLeDiff, Nat.reduceMul, Nat.reduceLT, if_true, if_false, true_and, and_true, and_self, Nat.reduceBEq, QOp.loads, boxO, bslO, buildO, cutL, fillV, putL, w88, v88, encChange, k1']
    (repeat' first
    | (refine stepC.of (l1In_ok _ _ _ _) ?_; rintro _ _ ⟨rfl, rfl⟩; simp (maxSteps := 4000000) (disch := omega) only [ah, am, Nat.reduceEqDiff, reduceCtorEq, Nat.reduceAdd, Nat.reduceLeDiff, Nat.reduceMul, Nat.reduceLT, if_true, if_false, true_and, and_true, and_self, Nat.reduceBEq, QOp.loads, boxO, bslO, buildO, cutL, fillV, putL, i64w, w88, v88, k1'])
    | (refine stepG.cases (fun _ hp => ?_) (fun _ hp => ?_) <;> simp (maxSteps := 4000000) (disch := omega) only [hp, ah, am, Nat.reduceEqDiff, reduceCtorEq, Nat.reduceAdd, Nat.reduceLeDiff, Nat.reduceMul, Nat.reduceLT, if_true, if_false, true_and, and_true, and_self, Nat.reduceBEq, QOp.loads, boxO, bslO, buildO, cutL, fillV, putL, i64w, w88, v88, k1'])
    | (refine stepI.cases (fun _ hp => ?_) (fun _ hp => ?_) <;> simp (maxSteps := 4000000) (disch := omega) only [hp, ah, am, Nat.reduceEqDiff, reduceCtorEq, Nat.reduceAdd, Nat.reduceLeDiff, Nat.reduceMul, Nat.reduceLT, if_true, if_false, true_and, and_true, and_self, Nat.reduceBEq, QOp.loads, boxO, bslO, buildO, cutL, fillV, putL, i64w, w88, v88, k1']))
    all_goals (refine ⟨Ext.more _ _, ?_⟩; refine bool_dec ?_; try simp only [decide_eq_true_eq, Bool.false_eq_true, false_and, and_false, true_and, and_true, false_iff, iff_false, true_iff, iff_true, not_false_eq_true, false_or, or_false, true_or, or_true, changeOk, clipOf]; first | done | omega | (refine Iff.intro (fun hq => ?_) (fun hq => ?_) <;> omega))
  have k2' : decide (a = 2) = false := decide_eq_false k2
  by_cases k3 : a = 3
  · subst k3
    have lc := l4Clip_ok (h.more [[.int .i64 3, .int .i64 b, .int .i64 d, .int .i64 e]]) ⟨b, d, e⟩
    simp only [encClip] at lc
    simp (maxSteps := 4000000) (disch := omega) only [ah, am, Nat.reduceEqDiff, reduceCtorEq, Nat.reduceAdd, Nat.reduceLeDiff, Nat.reduceMul, Nat.reduceLT, if_true, if_false, true_and, and_true, and_self, Nat.reduceBEq, QOp.loads, boxO, bslO, buildO, cutL, fillV, putL, w88, v88, encChange, k1', k2']
    refine stepC.of lc ?_
    rintro _ H1 ⟨e1, rfl⟩
    simp (maxSteps := 4000000) (disch := omega) only [ah, am, Nat.reduceEqDiff, reduceCtorEq, Nat.reduceAdd, Nat.reduceLeDiff, Nat.reduceMul, Nat.reduceLT, if_true, if_false, true_and, and_true, and_self, Nat.reduceBEq, QOp.loads, boxO, bslO, buildO, cutL, fillV, putL, w88, v88]
    refine ⟨(Ext.more _ _).trans e1, ?_⟩
    refine bool_dec ?_
    simp only [decide_eq_true_eq, changeOk, clipOf]
    exact ⟨fun q => .inl ⟨trivial, q⟩, fun q => by rcases q with q | q; exact q.2; omega⟩
  have k3' : decide (a = 3) = false := decide_eq_false k3
  simp (maxSteps := 4000000) (disch := omega) only [ah, am, Nat.reduceEqDiff, reduceCtorEq, Nat.reduceAdd, Nat.reduceLeDiff, Nat.reduceMul, Nat.reduceLT, if_true, if_false, true_and, and_true, and_self, Nat.reduceBEq, QOp.loads, boxO, bslO, buildO, cutL, fillV, putL, w88, v88, encChange, k1', k2', k3']
  refine ⟨Ext.more _ _, ?_⟩
  rw [decide_eq_false (by simp only [changeOk]; omega)]
theorem l5List_ok (h : Heap) (v : Value) (l : List Change) (s : SlT h encChange 4 v l) (hl : l.length ≤ 281474976710656) : ACall Try.prog 61 [v] h fun r h' => Ext h h' ∧ r = .bool (decide (changesOk l)) := by
  refine ACall.of Try.func61 s61 (of_decide_eq_true rfl) ?_
  have R := s.rulesN
  by_cases h1 : 300 < l.length
  · have h1' : decide (300 < (l.length : Int)) = true := decide_eq_true (by omega)
    simp (maxSteps := 4000000) (disch := omega) only [ah, am, Nat.reduceEqDiff, reduceCtorEq, Nat.reduceAdd, Nat.reduceLeDiff, Nat.reduceMul, Nat.reduceLT, if_true, if_false, true_and, and_true, and_self, Nat.reduceBEq, QOp.loads, boxO, bslO, buildO, cutL, fillV, putL, w61, v61, R, h1']
    rw [show decide (changesOk l) = false from decide_eq_false fun q => by have := q.1; omega]
    exact ⟨Ext.refl h, rfl⟩
  have h1' : decide (300 < (l.length : Int)) = false := decide_eq_false (by omega)
  simp (maxSteps := 4000000) (disch := omega) only [ah, am, Nat.reduceEqDiff, reduceCtorEq, Nat.reduceAdd, Nat.reduceLeDiff, Nat.reduceMul, Nat.reduceLT, if_true, if_false, true_and, and_true, and_self, Nat.reduceBEq, QOp.loads, boxO, bslO, buildO, cutL, fillV, putL, w61, v61, R, h1']
  refine SW_loop_up (fun i E H => E = [(0, v), (3, .int .i64 i)] ∧ Ext h H ∧ ∀ c ∈ l.take i, changeOk c) l.length 0 (by omega) ⟨rfl, Ext.refl h, by simp⟩ ?_
  rintro i E H hi ⟨rfl, e, F⟩
  have R := (s.ext e).rulesN
  have W : IntKind.i64.wrap ((i : Int) + 1) = ((i + 1 : Nat) : Int) := i64e (by omega) (by omega)
  simp (maxSteps := 4000000) (disch := omega) only [ah, am, Nat.reduceEqDiff, reduceCtorEq, Nat.reduceAdd, Nat.reduceLeDiff, Nat.reduceMul, Nat.reduceLT, if_true, if_false, true_and, and_true, and_self, Nat.reduceBEq, QOp.loads, boxO, bslO, buildO, cutL, fillV, putL, w61, v61, R]
  refine stepI.split (fun hp => ?_) (fun hp => ?_)
  · have hi' : i < l.length := by omega
    simp (maxSteps := 4000000) (disch := omega) only [ah, am, Nat.reduceEqDiff, reduceCtorEq, Nat.reduceAdd, Nat.reduceLeDiff, Nat.reduceMul, Nat.reduceLT, if_true, if_false, true_and, and_true, and_self, Nat.reduceBEq, QOp.loads, boxO, bslO, buildO, cutL, fillV, putL, w61, v61, R]
    refine stepC.of (l5Change_ok _ _) ?_
    rintro _ H1 ⟨e1, rfl⟩
    simp (maxSteps := 4000000) (disch := omega) only [ah, am, Nat.reduceEqDiff, reduceCtorEq, Nat.reduceAdd, Nat.reduceLeDiff, Nat.reduceMul, Nat.reduceLT, if_true, if_false, true_and, and_true, and_self, Nat.reduceBEq, QOp.loads, boxO, bslO, buildO, cutL, fillV, putL, w61, v61]
    refine stepI.split (fun hk => ?_) (fun hk => ?_)
    · simp (maxSteps := 4000000) (disch := omega) only [ah, am, Nat.reduceEqDiff, reduceCtorEq, Nat.reduceAdd, Nat.reduceLeDiff, Nat.reduceMul, Nat.reduceLT, if_true, if_false, true_and, and_true, and_self, Nat.reduceBEq, QOp.loads, boxO, bslO, buildO, cutL, fillV, putL, w61, v61, W]
      exact ⟨hi', e.trans e1, changes_take hi' F hk⟩
    · simp (maxSteps := 4000000) (disch := omega) only [ah, am, Nat.reduceEqDiff, reduceCtorEq, Nat.reduceAdd, Nat.reduceLeDiff, Nat.reduceMul, Nat.reduceLT, if_true, if_false, true_and, and_true, and_self, Nat.reduceBEq, QOp.loads, boxO, bslO, buildO, cutL, fillV, putL, w61, v61]
      refine ⟨e.trans e1, ?_⟩
      rw [decide_eq_false fun q => hk (q.2 _ (List.getElem_mem hi'))]
  · simp (maxSteps := 4000000) (disch := omega) only [ah, am, Nat.reduceEqDiff, reduceCtorEq, Nat.reduceAdd, Nat.reduceLeDiff, Nat.reduceMul, Nat.reduceLT, if_true, if_false, true_and, and_true, and_self, Nat.reduceBEq, QOp.loads, boxO, bslO, buildO, cutL, fillV, putL, w61, v61, R, W]
    obtain rfl : i = l.length := by omega
    rw [List.take_length] at F
    have hcs : changesOk l := ⟨by omega, F⟩
    exact ⟨e, by rw [decide_eq_true hcs]⟩
theorem specApply_ok (h : Heap) (v w : Value) (l : List Clip) (m : List Change) (s : SlT h encClip 3 v l) (sw : SlT h encChange 4 w m) (hl : l.length ≤ 1100000) (hm : m.length ≤ 1100000) :
    ACall Try.prog 22 [v, w] h fun r h' => Pair h h' r (applyF l m) := by
  refine ACall.of Try.func22 s22 (of_decide_eq_true rfl) ?_
  simp (maxSteps := 4000000) (disch := omega) only [ah, am, Nat.reduceEqDiff, reduceCtorEq, Nat.reduceAdd, Nat.reduceLeDiff, Nat.reduceMul, Nat.reduceLT, if_true, if_false, true_and, and_true, and_self, Nat.reduceBEq, QOp.loads, boxO, bslO, buildO, cutL, fillV, putL, w22, v22]
  refine stepC.of (TrackOk_ok _ _ _ s (by omega)) ?_
  rintro _ H1 ⟨e1, rfl⟩
  by_cases ht : trackOk l
  rotate_left
  · have ht' : decide (trackOk l) = false := decide_eq_false ht
    simp (maxSteps := 4000000) (disch := omega) only [ah, am, Nat.reduceEqDiff, reduceCtorEq, Nat.reduceAdd, Nat.reduceLeDiff, Nat.reduceMul, Nat.reduceLT, if_true, if_false, true_and, and_true, and_self, Nat.reduceBEq, QOp.loads, boxO, bslO, buildO, cutL, fillV, putL, w22, v22, ht']
    rw [show applyF l m = ([], false) from if_neg fun q => ht q.1]
    exact ⟨_, rfl, (Fresh.new0 _ encClip_len (by omega)).mono e1⟩
  have ht' : decide (trackOk l) = true := decide_eq_true ht
  simp (maxSteps := 4000000) (disch := omega) only [ah, am, Nat.reduceEqDiff, reduceCtorEq, Nat.reduceAdd, Nat.reduceLeDiff, Nat.reduceMul, Nat.reduceLT, if_true, if_false, true_and, and_true, and_self, Nat.reduceBEq, QOp.loads, boxO, bslO, buildO, cutL, fillV, putL, w22, v22, ht']
  refine stepC.of (l5List_ok _ _ _ (sw.ext e1) (by omega)) ?_
  rintro _ H2 ⟨e2, rfl⟩
  by_cases hc : changesOk m
  rotate_left
  · have hc' : decide (changesOk m) = false := decide_eq_false hc
    simp (maxSteps := 4000000) (disch := omega) only [ah, am, Nat.reduceEqDiff, reduceCtorEq, Nat.reduceAdd, Nat.reduceLeDiff, Nat.reduceMul, Nat.reduceLT, if_true, if_false, true_and, and_true, and_self, Nat.reduceBEq, QOp.loads, boxO, bslO, buildO, cutL, fillV, putL, w22, v22, ht', hc']
    rw [show applyF l m = ([], false) from if_neg fun q => hc q.2.1]
    exact ⟨_, rfl, (Fresh.new0 _ encClip_len (by omega)).mono (e1.trans e2)⟩
  have hc' : decide (changesOk m) = true := decide_eq_true hc
  have hlen := ht.1; have hok := ht.2.1; have hmlen := hc.1; have hmok := hc.2
  simp (maxSteps := 4000000) (disch := omega) only [ah, am, Nat.reduceEqDiff, reduceCtorEq, Nat.reduceAdd, Nat.reduceLeDiff, Nat.reduceMul, Nat.reduceLT, if_true, if_false, true_and, and_true, and_self, Nat.reduceBEq, QOp.loads, boxO, bslO, buildO, cutL, fillV, putL, w22, v22, ht', hc']
  refine SW_loop_up (fun i E H => ∃ ov, E = [(0, v), (1, w), (6, ov), (7, .int .i64 (applyL l (m.take i)).2), (8, .int .i64 i)] ∧ Fresh H2 H encClip 3 ov (applyL l (m.take i)).1) m.length 0 (by omega)
    ⟨.slice (some ⟨H2.size, 0, none⟩) 0 3, by simp [applyL], by simpa [applyL] using Fresh.new0 H2 encClip_len (by omega)⟩ ?_
  rintro i E H hi ⟨ov, rfl, F⟩
  have E0 := (e1.trans e2).trans F.1
  have R := (sw.ext E0).rulesN
  have W : IntKind.i64.wrap ((i : Int) + 1) = ((i + 1 : Nat) : Int) := i64e (by omega) (by omega)
  have B := applyL_bound l (m.take i) (fun c hc => hmok c (List.mem_of_mem_take hc)) hlen
  have hti : (m.take i).length ≤ 300 := by simp; omega
  simp (maxSteps := 4000000) (disch := omega) only [ah, am, Nat.reduceEqDiff, reduceCtorEq, Nat.reduceAdd, Nat.reduceLeDiff, Nat.reduceMul, Nat.reduceLT, if_true, if_false, true_and, and_true, and_self, Nat.reduceBEq, QOp.loads, boxO, bslO, buildO, cutL, fillV, putL, w22, v22, R]
  refine stepI.split (fun hp => ?_) (fun hp => ?_)
  · have hi' : i < m.length := by omega
    have J := applyL_take l m i hi'
    have cl := changeOk_len (hmok _ (List.getElem_mem hi'))
    have hk3 : m[i].kind = 3 ∨ m[i].kind = 1 ∨ m[i].kind = 2 := by have := hmok _ (List.getElem_mem hi'); simp only [changeOk] at this; omega
    rw [J]
    generalize applyL l (m.take i) = st at *
    obtain ⟨out, pos⟩ := st
    simp only at B F ⊢
    have F0 : Fk [] H2 (H.more [encChange m[i]]) encClip 3 ov out [(H.size, encChange m[i])] := (Fk.of F).more [encChange m[i]]
    by_cases h3 : m[i].kind = 3
    · have h3' : decide (m[i].kind = 3) = true := decide_eq_true h3
      obtain ⟨v2, H3, ea, F3⟩ := (Fk.of (X := []) F).app1 [encChange m[i]] (clipOf m[i]) (bytes := 24) (by omega)
      simp only [boxesAt, List.cons_append, List.append_nil, List.nil_append, List.length_nil, List.length_cons, Nat.zero_add, Nat.add_zero, encClip, clipOf, encChange] at ea
      simp (maxSteps := 4000000) (disch := omega) only [ah, am, Nat.reduceEqDiff, reduceCtorEq, Nat.reduceAdd, Nat.reduceLeDiff, Nat.reduceMul, Nat.reduceLT, if_true, if_false, true_and, and_true, and_self, Nat.reduceBEq, QOp.loads, boxO, bslO, buildO, cutL, fillV, putL, w22, v22, R, encChange, h3', ea, W]
      refine ⟨hi', v2, by simp only [applyStep, if_pos h3], ?_⟩
      simp only [applyStep, if_pos h3]; exact F3.fresh
    · have h3' : decide (m[i].kind = 3) = false := decide_eq_false h3
      have W2 : IntKind.i64.wrap (pos + m[i].len) = pos + m[i].len := i64w (by omega)
      by_cases h1 : m[i].kind = 1
      · have h1' : decide (m[i].kind = 1) = true := decide_eq_true h1
        have pa := l4Part_ok (H.more [encChange m[i]]) v l pos (pos + m[i].len) (s.ext (E0.trans (Ext.more H _))) hlen hok (by omega) (by omega)
        simp only [encChange] at pa
        simp (maxSteps := 4000000) (disch := omega) only [ah, am, Nat.reduceEqDiff, reduceCtorEq, Nat.reduceAdd, Nat.reduceLeDiff, Nat.reduceMul, Nat.reduceLT, if_true, if_false, true_and, and_true, and_self, Nat.reduceBEq, QOp.loads, boxO, bslO, buildO, cutL, fillV, putL, w22, v22, R, encChange, h3', h1', W2]
        refine stepC.of pa ?_
        intro pv H3 F3
        have F4 := F0.step F3.1
        have X4 := F4.ld (i := H.size) (cs := encChange m[i]) (by simp)
        have pl := partS_length pos (pos + m[i].len) l 0
        obtain ⟨v2, H5, ea, F5⟩ := F4.app F3.slt (bytes := 24) (by omega)
        have X5 := F5.ld (i := H.size) (cs := encChange m[i]) (by simp)
        simp only [encChange] at X4 X5
        simp (maxSteps := 4000000) (disch := omega) only [ah, am, Nat.reduceEqDiff, reduceCtorEq, Nat.reduceAdd, Nat.reduceLeDiff, Nat.reduceMul, Nat.reduceLT, if_true, if_false, true_and, and_true, and_self, Nat.reduceBEq, QOp.loads, boxO, bslO, buildO, cutL, fillV, putL, w22, v22, X4, X5, ea, W, W2]
        refine ⟨hi', v2, by simp only [applyStep, if_neg h3, if_pos h1], ?_⟩
        simp only [applyStep, if_neg h3, if_pos h1]; exact F5.fresh
      · have h1' : decide (m[i].kind = 1) = false := decide_eq_false h1
        simp (maxSteps := 4000000) (disch := omega) only [ah, am, Nat.reduceEqDiff, reduceCtorEq, Nat.reduceAdd, Nat.reduceLeDiff, Nat.reduceMul, Nat.reduceLT, if_true, if_false, true_and, and_true, and_self, Nat.reduceBEq, QOp.loads, boxO, bslO, buildO, cutL, fillV, putL, w22, v22, R, encChange, h3', h1', W, W2]
        refine ⟨hi', ov, by simp only [applyStep, if_neg h3, if_neg h1], ?_⟩
        simp only [applyStep, if_neg h3, if_neg h1]; exact F0.fresh
  · simp (maxSteps := 4000000) (disch := omega) only [ah, am, Nat.reduceEqDiff, reduceCtorEq, Nat.reduceAdd, Nat.reduceLeDiff, Nat.reduceMul, Nat.reduceLT, if_true, if_false, true_and, and_true, and_self, Nat.reduceBEq, QOp.loads, boxO, bslO, buildO, cutL, fillV, putL, w22, v22, R, W]
    obtain rfl : i = m.length := by omega
    rw [List.take_length] at F B ⊢
    refine stepC.of (l4Length_ok _ _ _ (s.ext E0) hlen hok) ?_
    rintro _ Hx ⟨hx, rfl⟩; rw [hx]; clear hx Hx
    by_cases hs : (applyL l m).2 = sumLen l
    · have hs' : decide ((applyL l m).2 = sumLen l) = true := decide_eq_true hs
      simp (maxSteps := 4000000) (disch := omega) only [ah, am, Nat.reduceEqDiff, reduceCtorEq, Nat.reduceAdd, Nat.reduceLeDiff, Nat.reduceMul, Nat.reduceLT, if_true, if_false, true_and, and_true, and_self, Nat.reduceBEq, QOp.loads, boxO, bslO, buildO, cutL, fillV, putL, w22, v22, hs']
      refine stepC.of (l4Edit_ok _ _ _ F.slt (by omega)) ?_
      rintro _ H4 ⟨rv, rfl, F4⟩
      simp (maxSteps := 4000000) (disch := omega) only [ah, am, Nat.reduceEqDiff, reduceCtorEq, Nat.reduceAdd, Nat.reduceLeDiff, Nat.reduceMul, Nat.reduceLT, if_true, if_false, true_and, and_true, and_self, Nat.reduceBEq, QOp.loads, boxO, bslO, buildO, cutL, fillV, putL, w22, v22]
      rw [show applyF l m = editF (applyL l m).1 from if_pos ⟨ht, hc, hs⟩]
      exact ⟨rv, rfl, F4.mono E0⟩
    · have hs' : decide ((applyL l m).2 = sumLen l) = false := decide_eq_false hs
      simp (maxSteps := 4000000) (disch := omega) only [ah, am, Nat.reduceEqDiff, reduceCtorEq, Nat.reduceAdd, Nat.reduceLeDiff, Nat.reduceMul, Nat.reduceLT, if_true, if_false, true_and, and_true, and_self, Nat.reduceBEq, QOp.loads, boxO, bslO, buildO, cutL, fillV, putL, w22, v22, hs']
      rw [show applyF l m = ([], false) from if_neg fun q => hs q.2.2]
      exact ⟨_, rfl, (Fresh.new0 _ encClip_len (by omega)).mono E0⟩
end Go.Proofs.Ytbnppofkpgfhnaa
