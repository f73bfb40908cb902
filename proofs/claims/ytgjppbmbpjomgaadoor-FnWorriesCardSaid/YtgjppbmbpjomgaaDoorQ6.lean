import Derived.Test.YtgjppbmbpjomgaaDoorQ5
import Derived.Test.YtgjppbmbpjomgaaDoorAhZ
namespace Go.Proofs.YtgjppbmbpjomgaaDoor
open Go Go.Ah
set_option linter.unusedSimpArgs false
set_option linter.unusedVariables false
set_option maxRecDepth 10000
set_option maxHeartbeats 4000000
/-! 7 loop.example/g00066/impl.Unread: parameters 2, live [0, 1], slots [0:list, 1:s, 2:list, 3:s, 5:out, 6:i, 7:k, 8:wrong] -/
def c7_0 : List SOper := [⟨some 3, .a (.box (.t 1)), none⟩, ⟨some 4, .q (.mv (.c (.slice none 0 0))), none⟩]
def c7_1 : List SOper := [⟨some 9, .q (.mv (.t 0)), none⟩, ⟨some 10, .e (.call 23 [(.t 9)]), none⟩, ⟨some 11, .q (.not (.t 10)), none⟩, ⟨some 12, .q (.mv (.t 11)), none⟩, ⟨some 13, .q (.ldn 5 (.t 3)), some (12, false)⟩, ⟨some 14, .e (.call 24 [(.t 13)]), some (12, false)⟩, ⟨some 15, .q (.not (.t 14)), some (12, false)⟩, ⟨some 16, .q (.pick (.t 12) (.c (.bool true)) (.t 15)), none⟩]
def c7_2 : List SOper := [⟨some 4, .q (.mv (.c (.slice none 0 0))), none⟩]
def c7_3 : SCode := .seq (.region c7_2 [4]) .ret
def c7_4 : SCode := .cond (.t 16) c7_3 .skip
def c7_5 : SCode := .seq (.region c7_1 [0, 3, 16]) c7_4
def c7_6 : List SOper := [⟨some 17, .a (.bsl 0 2 [] []), none⟩, ⟨some 5, .q (.mv (.t 17)), none⟩]
def c7_7 : List SOper := [⟨some 18, .q (.mv (.t 0)), none⟩, ⟨some 19, .q (.len (.t 18)), none⟩, ⟨some 20, .q (.mv (.c (.int .i64 0))), none⟩]
def c7_8 : List SOper := [⟨some 21, .q (.bin .lss (.t 20) (.t 19)), none⟩]
def c7_9 : SCode := .cond (.t 21) .skip (.exit 0)
def c7_10 : List SOper := [⟨some 22, .q (.mv (.t 20)), none⟩, ⟨some 6, .q (.mv (.t 22)), none⟩]
def c7_11 : List SOper := [⟨some 23, .q (.ldn 5 (.t 3)), none⟩, ⟨some 24, .q (.mv (.t 0)), none⟩, ⟨some 25, .q (.mv (.t 6)), none⟩, ⟨some 26, .e (.call 25 [(.t 23), (.t 24), (.t 25)]), none⟩, ⟨some 27, .q (.len (.t 26)), none⟩, ⟨some 28, .q (.mv (.c (.int .i64 0))), none⟩]
def c7_12 : List SOper := [⟨some 29, .q (.bin .lss (.t 28) (.t 27)), none⟩]
def c7_13 : SCode := .cond (.t 29) .skip (.exit 2)
def c7_14 : List SOper := [⟨some 30, .q (.mv (.t 28)), none⟩, ⟨some 31, .q (.ia 1 (.t 26) (.t 28)), none⟩, ⟨some 32, .q (.ld (.t 31)), none⟩, ⟨some 7, .q (.mv (.t 30)), none⟩, ⟨some 8, .q (.mv (.t 32)), none⟩]
def c7_15 : List SOper := [⟨some 33, .q (.mv (.t 8)), none⟩]
def c7_16 : List SOper := [⟨some 34, .q (.mv (.t 5)), none⟩, ⟨some 35, .q (.mv (.t 6)), none⟩, ⟨some 36, .q (.mv (.t 7)), none⟩, ⟨some 37, .q (.bin .add (.t 36) (.c (.int .i64 1))), none⟩, ⟨some 38, .q (.build [(.int .i64 0), (.int .i64 0)] [(0, 1, (.t 35)), (1, 1, (.t 37))]), none⟩, ⟨some 39, .a (.bsl 1 2 [(.int .i64 0), (.int .i64 0)] [(0, 2, (.t 38))]), none⟩, ⟨some 40, .e (.app 16 2 (.t 34) (.t 39)), none⟩, ⟨some 5, .q (.mv (.t 40)), none⟩]
def c7_17 : SCode := .cond (.t 33) (.region c7_16 [0, 3, 5, 6, 19, 20, 26, 27, 28]) .skip
def c7_18 : SCode := .seq (.region c7_15 [0, 3, 5, 6, 7, 19, 20, 26, 27, 28, 33]) c7_17
def c7_19 : SCode := .seq (.region c7_14 [0, 3, 5, 6, 7, 8, 19, 20, 26, 27, 28]) c7_18
def c7_20 : SCode := .block 3 c7_19
def c7_21 : List SOper := [⟨some 41, .q (.bin .add (.t 28) (.c (.int .i64 1))), none⟩, ⟨some 28, .q (.mv (.t 41)), none⟩]
def c7_22 : SCode := .seq c7_20 (.region c7_21 [0, 3, 5, 6, 19, 20, 26, 27, 28])
def c7_23 : SCode := .seq c7_13 c7_22
def c7_24 : SCode := .seq (.region c7_12 [0, 3, 5, 6, 19, 20, 26, 27, 28, 29]) c7_23
def c7_25 : SCode := .loop c7_24
def c7_26 : SCode := .block 2 c7_25
def c7_27 : SCode := .seq (.region c7_11 [0, 3, 5, 6, 19, 20, 26, 27, 28]) c7_26
def c7_28 : SCode := .seq (.region c7_10 [0, 3, 5, 6, 19, 20]) c7_27
def c7_29 : SCode := .block 1 c7_28
def c7_30 : List SOper := [⟨some 42, .q (.bin .add (.t 20) (.c (.int .i64 1))), none⟩, ⟨some 20, .q (.mv (.t 42)), none⟩]
def c7_31 : SCode := .seq c7_29 (.region c7_30 [0, 3, 5, 19, 20])
def c7_32 : SCode := .seq c7_9 c7_31
def c7_33 : SCode := .seq (.region c7_8 [0, 3, 5, 19, 20, 21]) c7_32
def c7_34 : SCode := .loop c7_33
def c7_35 : SCode := .block 0 c7_34
def c7_36 : SCode := .seq (.region c7_7 [0, 3, 5, 19, 20]) c7_35
def c7_37 : List SOper := [⟨some 43, .q (.mv (.t 5)), none⟩, ⟨some 4, .q (.mv (.t 43)), none⟩]
def c7_38 : SCode := .seq (.region c7_37 [4]) .ret
def c7_39 : SCode := .seq c7_36 c7_38
def c7_40 : SCode := .seq (.region c7_6 [0, 3, 5]) c7_39
def c7_41 : SCode := .seq c7_5 c7_40
def c7_42 : SCode := .seq (.region c7_0 [0, 3]) c7_41
def c7 : SCode := c7_42
theorem w7 : type_of% (And.intro (uR Tryd.prog c7_0.eq_1) (And.intro (uR Tryd.prog c7_1.eq_1) (And.intro (uR Tryd.prog c7_2.eq_1) (And.intro (uC Tryd.prog c7_3.eq_1) (And.intro (uC Tryd.prog c7_4.eq_1) (And.intro (uC Tryd.prog c7_5.eq_1) (And.intro (uR Tryd.prog c7_6.eq_1) (And.intro (uR Tryd.prog c7_7.eq_1) (And.intro (uR Tryd.prog c7_8.eq_1) (And.intro (uC Tryd.prog c7_9.eq_1) (And.intro (uR Tryd.prog c7_10.eq_1) (And.intro (uR Tryd.prog c7_11.eq_1) (And.intro (uR Tryd.prog c7_12.eq_1) (And.intro (uC Tryd.prog c7_13.eq_1) (And.intro (uR Tryd.prog c7_14.eq_1) (And.intro (uR Tryd.prog c7_15.eq_1) (And.intro (uR Tryd.prog c7_16.eq_1) (And.intro (uC Tryd.prog c7_17.eq_1) (And.intro (uC Tryd.prog c7_18.eq_1) (And.intro (uC Tryd.prog c7_19.eq_1) (And.intro (uC Tryd.prog c7_20.eq_1) (And.intro (uR Tryd.prog c7_21.eq_1) (And.intro (uC Tryd.prog c7_22.eq_1) (And.intro (uC Tryd.prog c7_23.eq_1) (And.intro (uC Tryd.prog c7_24.eq_1) (And.intro (uC Tryd.prog c7_25.eq_1) (And.intro (uC Tryd.prog c7_26.eq_1) (And.intro (uC Tryd.prog c7_27.eq_1) (And.intro (uC Tryd.prog c7_28.eq_1) (And.intro (uC Tryd.prog c7_29.eq_1) (And.intro (uR Tryd.prog c7_30.eq_1) (And.intro (uC Tryd.prog c7_31.eq_1) (And.intro (uC Tryd.prog c7_32.eq_1) (And.intro (uC Tryd.prog c7_33.eq_1) (And.intro (uC Tryd.prog c7_34.eq_1) (And.intro (uC Tryd.prog c7_35.eq_1) (And.intro (uC Tryd.prog c7_36.eq_1) (And.intro (uR Tryd.prog c7_37.eq_1) (And.intro (uC Tryd.prog c7_38.eq_1) (And.intro (uC Tryd.prog c7_39.eq_1) (And.intro (uC Tryd.prog c7_40.eq_1) (And.intro (uC Tryd.prog c7_41.eq_1) (And.intro (uC Tryd.prog c7_42.eq_1) (uC Tryd.prog c7.eq_1)))))))))))))))))))))))))))))))))))))))))))) := (And.intro (uR Tryd.prog c7_0.eq_1) (And.intro (uR Tryd.prog c7_1.eq_1) (And.intro (uR Tryd.prog c7_2.eq_1) (And.intro (uC Tryd.prog c7_3.eq_1) (And.intro (uC Tryd.prog c7_4.eq_1) (And.intro (uC Tryd.prog c7_5.eq_1) (And.intro (uR Tryd.prog c7_6.eq_1) (And.intro (uR Tryd.prog c7_7.eq_1) (And.intro (uR Tryd.prog c7_8.eq_1) (And.intro (uC Tryd.prog c7_9.eq_1) (And.intro (uR Tryd.prog c7_10.eq_1) (And.intro (uR Tryd.prog c7_11.eq_1) (And.intro (uR Tryd.prog c7_12.eq_1) (And.intro (uC Tryd.prog c7_13.eq_1) (And.intro (uR Tryd.prog c7_14.eq_1) (And.intro (uR Tryd.prog c7_15.eq_1) (And.intro (uR Tryd.prog c7_16.eq_1) (And.intro (uC Tryd.prog c7_17.eq_1) (And.intro (uC Tryd.prog c7_18.eq_1) (And.intro (uC Tryd.prog c7_19.eq_1) (And.intro (uC Tryd.prog c7_20.eq_1) (And.intro (uR Tryd.prog c7_21.eq_1) (And.intro (uC Tryd.prog c7_22.eq_1) (And.intro (uC Tryd.prog c7_23.eq_1) (And.intro (uC Tryd.prog c7_24.eq_1) (And.intro (uC Tryd.prog c7_25.eq_1) (And.intro (uC Tryd.prog c7_26.eq_1) (And.intro (uC Tryd.prog c7_27.eq_1) (And.intro (uC Tryd.prog c7_28.eq_1) (And.intro (uC Tryd.prog c7_29.eq_1) (And.intro (uR Tryd.prog c7_30.eq_1) (And.intro (uC Tryd.prog c7_31.eq_1) (And.intro (uC Tryd.prog c7_32.eq_1) (And.intro (uC Tryd.prog c7_33.eq_1) (And.intro (uC Tryd.prog c7_34.eq_1) (And.intro (uC Tryd.prog c7_35.eq_1) (And.intro (uC Tryd.prog c7_36.eq_1) (And.intro (uR Tryd.prog c7_37.eq_1) (And.intro (uC Tryd.prog c7_38.eq_1) (And.intro (uC Tryd.prog c7_39.eq_1) (And.intro (uC Tryd.prog c7_40.eq_1) (And.intro (uC Tryd.prog c7_41.eq_1) (And.intro (uC Tryd.prog c7_42.eq_1) (uC Tryd.prog c7.eq_1))))))))))))))))))))))))))))))))))))))))))))
def v7 : List RV := [.t 4]
theorem s7 : slimF Tryd.prog Tryd.f7 = some (c7.bare, v7) := by kernel_rfl
/-! 25 (loop.example/g00066/impl.Style).worries: parameters 3, live [0, 1, 2], slots [0:s, 1:list, 2:i, 3:s, 4:list, 5:i, 7:t, 8:lines, 9:wide, 10:_, 11:line] -/
def c25_0 : List SOper := [⟨some 3, .a (.box (.t 0)), none⟩, ⟨some 6, .q (.mv (.c (.slice none 0 0))), none⟩]
def c25_1 : List SOper := [⟨some 12, .q (.mv (.t 1)), none⟩, ⟨some 13, .q (.mv (.t 2)), none⟩, ⟨some 14, .q (.ia 3 (.t 12) (.t 13)), none⟩, ⟨some 15, .q (.ldn 3 (.t 14)), none⟩, ⟨some 7, .a (.new [(.int .i64 0), (.int .i64 0), (.string ⟨#[]⟩)]), none⟩, ⟨none, .e (.st 3 (.t 7) (.t 15)), none⟩]
def c25_2 : List SOper := [⟨some 16, .q (.fa 2 (.t 7)), none⟩, ⟨some 17, .q (.ld (.t 16)), none⟩, ⟨some 18, .e (.call 39 [(.t 17), (.c (.string ⟨#[10]⟩))]), none⟩, ⟨some 8, .q (.mv (.t 18)), none⟩, ⟨some 9, .q (.mv (.c (.bool false))), none⟩]
def c25_3 : List SOper := [⟨some 19, .q (.mv (.t 8)), none⟩, ⟨some 20, .q (.len (.t 19)), none⟩, ⟨some 21, .q (.mv (.c (.int .i64 0))), none⟩]
def c25_4 : List SOper := [⟨some 22, .q (.bin .lss (.t 21) (.t 20)), none⟩]
def c25_5 : SCode := .cond (.t 22) .skip (.exit 0)
def c25_6 : List SOper := [⟨some 23, .q (.ia 1 (.t 19) (.t 21)), none⟩, ⟨some 24, .q (.ld (.t 23)), none⟩, ⟨some 11, .q (.mv (.t 24)), none⟩]
def c25_7 : List DOper := [⟨0, ⟨some 25, .q (.mv (.t 9)), none⟩, [], []⟩, ⟨1, ⟨some 26, .q (.mv (.t 25)), none⟩, [], []⟩, ⟨2, ⟨some 27, .q (.mv (.t 11)), some (26, false)⟩, [], []⟩, ⟨4, ⟨some 29, .q (.fa 4 (.t 3)), some (26, false)⟩, [], []⟩, ⟨5, ⟨some 30, .q (.ld (.t 29)), some (26, false)⟩, [], []⟩, ⟨3, ⟨some 28, .e (.call 40 [(.t 27)]), some (26, false)⟩, [], [5]⟩, ⟨6, ⟨some 31, .q (.bin .gtr (.t 28) (.t 30)), some (26, false)⟩, [], []⟩, ⟨7, ⟨some 32, .q (.pick (.t 26) (.c (.bool true)) (.t 31)), none⟩, [], []⟩, ⟨8, ⟨some 9, .q (.mv (.t 32)), none⟩, [], []⟩]
def c25_8 : SCode := .seq (.region c25_6 [1, 2, 3, 7, 8, 9, 11, 19, 20, 21]) (.dregion c25_7 [1, 2, 3, 7, 8, 9, 19, 20, 21])
def c25_9 : SCode := .block 1 c25_8
def c25_10 : List SOper := [⟨some 33, .q (.bin .add (.t 21) (.c (.int .i64 1))), none⟩, ⟨some 21, .q (.mv (.t 33)), none⟩]
def c25_11 : SCode := .seq c25_9 (.region c25_10 [1, 2, 3, 7, 8, 9, 19, 20, 21])
def c25_12 : SCode := .seq c25_5 c25_11
def c25_13 : SCode := .seq (.region c25_4 [1, 2, 3, 7, 8, 9, 19, 20, 21, 22]) c25_12
def c25_14 : SCode := .loop c25_13
def c25_15 : SCode := .block 0 c25_14
def c25_16 : SCode := .seq (.region c25_3 [1, 2, 3, 7, 8, 9, 19, 20, 21]) c25_15
def c25_17 : List DOper := [⟨0, ⟨some 34, .q (.fa 1 (.t 7)), none⟩, [], []⟩, ⟨1, ⟨some 35, .q (.ld (.t 34)), none⟩, [], []⟩, ⟨2, ⟨some 36, .q (.fa 0 (.t 7)), none⟩, [], []⟩, ⟨3, ⟨some 37, .q (.ld (.t 36)), none⟩, [], []⟩, ⟨4, ⟨some 38, .q (.bin .sub (.t 35) (.t 37)), none⟩, [], []⟩, ⟨5, ⟨some 39, .q (.fa 0 (.t 3)), none⟩, [], []⟩, ⟨6, ⟨some 40, .q (.ld (.t 39)), none⟩, [], []⟩, ⟨7, ⟨some 41, .q (.bin .lss (.t 38) (.t 40)), none⟩, [], []⟩, ⟨8, ⟨some 42, .q (.mv (.t 2)), none⟩, [], []⟩, ⟨9, ⟨some 43, .q (.bin .gtr (.t 42) (.c (.int .i64 0))), none⟩, [], []⟩, ⟨10, ⟨some 44, .q (.mv (.t 43)), none⟩, [], []⟩, ⟨11, ⟨some 45, .q (.fa 0 (.t 7)), some (44, true)⟩, [], []⟩, ⟨12, ⟨some 46, .q (.ld (.t 45)), some (44, true)⟩, [], []⟩, ⟨13, ⟨some 47, .q (.mv (.t 1)), some (44, true)⟩, [], []⟩, ⟨14, ⟨some 48, .q (.mv (.t 2)), some (44, true)⟩, [], []⟩, ⟨15, ⟨some 49, .q (.bin .sub (.t 48) (.c (.int .i64 1))), some (44, true)⟩, [], []⟩, ⟨16, ⟨some 50, .q (.mx (.t 49) (.c (.int .i64 0))), some (44, true)⟩, [], []⟩, ⟨17, ⟨some 51, .q (.ia 3 (.t 47) (.t 50)), some (44, true)⟩, [], []⟩, ⟨18, ⟨some 52, .q (.fa 1 (.t 51)), some (44, true)⟩, [], []⟩, ⟨19, ⟨some 53, .q (.ld (.t 52)), some (44, true)⟩, [], []⟩, ⟨20, ⟨some 54, .q (.bin .sub (.t 46) (.t 53)), some (44, true)⟩, [], []⟩, ⟨21, ⟨some 55, .q (.fa 1 (.t 3)), some (44, true)⟩, [], []⟩, ⟨22, ⟨some 56, .q (.ld (.t 55)), some (44, true)⟩, [], []⟩, ⟨23, ⟨some 57, .q (.bin .lss (.t 54) (.t 56)), some (44, true)⟩, [], []⟩, ⟨24, ⟨some 58, .q (.pick (.t 44) (.t 57) (.c (.bool false))), none⟩, [], []⟩, ⟨25, ⟨some 59, .q (.fa 2 (.t 7)), none⟩, [], []⟩, ⟨26, ⟨some 60, .q (.ld (.t 59)), none⟩, [], []⟩, ⟨29, ⟨some 63, .q (.fa 2 (.t 3)), none⟩, [], []⟩, ⟨30, ⟨some 64, .q (.ld (.t 63)), none⟩, [], []⟩, ⟨31, ⟨some 65, .q (.fa 1 (.t 7)), none⟩, [], []⟩, ⟨32, ⟨some 66, .q (.ld (.t 65)), none⟩, [], []⟩, ⟨33, ⟨some 67, .q (.fa 0 (.t 7)), none⟩, [], []⟩, ⟨34, ⟨some 68, .q (.ld (.t 67)), none⟩, [], []⟩, ⟨35, ⟨some 69, .q (.bin .sub (.t 66) (.t 68)), none⟩, [], []⟩, ⟨36, ⟨some 70, .q (.bin .mul (.t 64) (.t 69)), none⟩, [], []⟩, ⟨38, ⟨some 72, .q (.mv (.t 8)), none⟩, [], []⟩, ⟨39, ⟨some 73, .q (.len (.t 72)), none⟩, [], []⟩, ⟨40, ⟨some 74, .q (.fa 3 (.t 3)), none⟩, [], []⟩, ⟨41, ⟨some 75, .q (.ld (.t 74)), none⟩, [], []⟩, ⟨42, ⟨some 76, .q (.bin .gtr (.t 73) (.t 75)), none⟩, [], []⟩, ⟨43, ⟨some 77, .q (.mv (.t 9)), none⟩, [], []⟩, ⟨27, ⟨some 61, .e (.call 40 [(.t 60)]), none⟩, [], [41, 34, 32, 30, 22, 19, 12, 6, 3, 1]⟩, ⟨28, ⟨some 62, .q (.bin .mul (.t 61) (.c (.int .i64 1000))), none⟩, [], []⟩, ⟨37, ⟨some 71, .q (.bin .gtr (.t 62) (.t 70)), none⟩, [], []⟩, ⟨44, ⟨some 78, .a (.bsl 5 1 [(.bool false), (.bool false), (.bool false), (.bool false), (.bool false)] [(0, 1, (.t 41)), (1, 1, (.t 58)), (2, 1, (.t 71)), (3, 1, (.t 76)), (4, 1, (.t 77))]), none⟩, [], []⟩, ⟨45, ⟨some 6, .q (.mv (.t 78)), none⟩, [], []⟩]
def c25_18 : SCode := .seq (.dregion c25_17 [6]) .ret
def c25_19 : SCode := .seq c25_16 c25_18
def c25_20 : SCode := .seq (.region c25_2 [1, 2, 3, 7, 8, 9]) c25_19
def c25_21 : SCode := .seq (.region c25_1 [1, 2, 3, 7]) c25_20
def c25_22 : SCode := .seq (.region c25_0 [1, 2, 3]) c25_21
def c25 : SCode := c25_22
theorem w25 : type_of% (And.intro (uR Tryd.prog c25_0.eq_1) (And.intro (uR Tryd.prog c25_1.eq_1) (And.intro (uR Tryd.prog c25_2.eq_1) (And.intro (uR Tryd.prog c25_3.eq_1) (And.intro (uR Tryd.prog c25_4.eq_1) (And.intro (uC Tryd.prog c25_5.eq_1) (And.intro (uR Tryd.prog c25_6.eq_1) (And.intro (uD Tryd.prog c25_7.eq_1) (And.intro (uC Tryd.prog c25_8.eq_1) (And.intro (uC Tryd.prog c25_9.eq_1) (And.intro (uR Tryd.prog c25_10.eq_1) (And.intro (uC Tryd.prog c25_11.eq_1) (And.intro (uC Tryd.prog c25_12.eq_1) (And.intro (uC Tryd.prog c25_13.eq_1) (And.intro (uC Tryd.prog c25_14.eq_1) (And.intro (uC Tryd.prog c25_15.eq_1) (And.intro (uC Tryd.prog c25_16.eq_1) (And.intro (uD Tryd.prog c25_17.eq_1) (And.intro (uC Tryd.prog c25_18.eq_1) (And.intro (uC Tryd.prog c25_19.eq_1) (And.intro (uC Tryd.prog c25_20.eq_1) (And.intro (uC Tryd.prog c25_21.eq_1) (And.intro (uC Tryd.prog c25_22.eq_1) (uC Tryd.prog c25.eq_1)))))))))))))))))))))))) := (And.intro (uR Tryd.prog c25_0.eq_1) (And.intro (uR Tryd.prog c25_1.eq_1) (And.intro (uR Tryd.prog c25_2.eq_1) (And.intro (uR Tryd.prog c25_3.eq_1) (And.intro (uR Tryd.prog c25_4.eq_1) (And.intro (uC Tryd.prog c25_5.eq_1) (And.intro (uR Tryd.prog c25_6.eq_1) (And.intro (uD Tryd.prog c25_7.eq_1) (And.intro (uC Tryd.prog c25_8.eq_1) (And.intro (uC Tryd.prog c25_9.eq_1) (And.intro (uR Tryd.prog c25_10.eq_1) (And.intro (uC Tryd.prog c25_11.eq_1) (And.intro (uC Tryd.prog c25_12.eq_1) (And.intro (uC Tryd.prog c25_13.eq_1) (And.intro (uC Tryd.prog c25_14.eq_1) (And.intro (uC Tryd.prog c25_15.eq_1) (And.intro (uC Tryd.prog c25_16.eq_1) (And.intro (uD Tryd.prog c25_17.eq_1) (And.intro (uC Tryd.prog c25_18.eq_1) (And.intro (uC Tryd.prog c25_19.eq_1) (And.intro (uC Tryd.prog c25_20.eq_1) (And.intro (uC Tryd.prog c25_21.eq_1) (And.intro (uC Tryd.prog c25_22.eq_1) (uC Tryd.prog c25.eq_1))))))))))))))))))))))))
def v25 : List RV := [.t 6]
theorem s25 : slimF Tryd.prog Tryd.f25 = some (c25.bare, v25) := by kernel_rfl

def encQ (b : Bool) : List Value := [.bool b]
theorem encQ_len (b : Bool) : (encQ b).length = 1 := rfl
theorem worries_ok (h : Heap) (s : Style) (v : Value) (l : List Title) (i : Nat) (hs : SlT h encTitle 3 v l) (hi : i < l.length) (hT : titlesOk l) (hS : styleOk s) :
    ACall Tryd.prog 25 [.agg (encStyle s).toArray, v, .int .i64 (i : Int)] h fun r h' => Fresh h h' encQ 1 r (worriesF s l i) := by
  obtain ⟨hl200, hT⟩ := hT
  obtain ⟨t1, t2, t3⟩ := hT i hi
  obtain ⟨s1, s2, s3, s4, s5⟩ := hS
  have X : tAt l i = l[i] := tAt_eq hi
  obtain ⟨x, hx⟩ : ∃ x, x = l[i]'hi := ⟨_, rfl⟩
  rw [X, ← hx] at t1 t2 t3
  have hsz : x.tx.size ≤ 200 := t2.1.2
  have hs1 := hs.ext (Ext.more h [[.int .i64 s.least, .int .i64 s.gap, .int .i64 s.rate, .int .i64 s.rows, .int .i64 s.wide]])
  have R := hs1.rulesN
  have LN : ldnV (h.more [[.int .i64 s.least, .int .i64 s.gap, .int .i64 s.rate, .int .i64 s.rows, .int .i64 s.wide]]) 3 (ptrAt v (i * 3)) = some (.agg (encTitle x).toArray) := by rw [hx]; exact R.2.2.2.2.2 i hi
  have AV := R.2.1 .i64 i hi
  refine ACall.of Tryd.func25 s25 (of_decide_eq_true rfl) ?_
  simp (maxSteps := 4000000) (disch := omega) only [ah, am, Nat.reduceEqDiff, reduceCtorEq, Nat.reduceAdd, Nat.reduceLeDiff, Nat.reduceMul, Nat.reduceLT, if_true, if_false, true_and, and_true, and_self, Nat.reduceBEq, QOp.loads, boxO, bslO, buildO, cutL, fillV, putL, w25, v25, encStyle, AV, LN, encTitle]
  refine stepC.of (Split_ok _ x.tx hsz) ?_
  rintro r H1 ⟨ps, F, hps⟩
  have hn : ps.length = (spl x.tx.data.toList).length := by rw [← hps, List.length_map]
  have B1 := ((Bx.new h [.int .i64 s.least, .int .i64 s.gap, .int .i64 s.rate, .int .i64 s.rows, .int .i64 s.wide] [[.int .i64 x.fr, .int .i64 x.to, .string x.tx]]).ext F.1)
  have RL := F.slt.rulesN
  have D1 := B1.ld
  have hxl : x.tx.data.toList.length ≤ 200 := by rw [size_list]; omega
  have hpn : ps.length ≤ 201 := by have := spl_len x.tx.data.toList; have := List.count_le_length (a := (10 : UInt8)) (l := x.tx.data.toList); omega
  have hp200 : ∀ p ∈ ps, p.size ≤ 200 := fun p hp => by
    have := spl_piece x.tx.data.toList p.data.toList (by rw [← hps]; exact List.mem_map_of_mem hp)
    rw [size_list] at this; omega
  have eM : Ext (h.more [[.int .i64 s.least, .int .i64 s.gap, .int .i64 s.rate, .int .i64 s.rows, .int .i64 s.wide]]) (h.more [[.int .i64 s.least, .int .i64 s.gap, .int .i64 s.rate, .int .i64 s.rows, .int .i64 s.wide], [.int .i64 x.fr, .int .i64 x.to, .string x.tx]]) := by
    have := Ext.more (h.more [[.int .i64 s.least, .int .i64 s.gap, .int .i64 s.rate, .int .i64 s.rows, .int .i64 s.wide]]) [[.int .i64 x.fr, .int .i64 x.to, .string x.tx]]
    rw [more_more] at this; exact this
  have e1 : Ext h H1 := ((Ext.more _ _).trans eM).trans F.1
  have B2 : Bx H1 (h.size + 1) [.int .i64 x.fr, .int .i64 x.to, .string x.tx] := by
    have := (Bx.new (h.more [[.int .i64 s.least, .int .i64 s.gap, .int .i64 s.rate, .int .i64 s.rows, .int .i64 s.wide]]) [.int .i64 x.fr, .int .i64 x.to, .string x.tx] [])
    rw [more_more, size_more] at this; exact this.ext F.1
  have D2 := B2.ld
  unfold timeOk at t1
  have wl : IntKind.i64.wrap (x.to - x.fr) = x.to - x.fr := i64e (by omega) (by omega)
  have wm : IntKind.i64.wrap (s.rate * (x.to - x.fr)) = s.rate * (x.to - x.fr) := by
    have p1 : 0 ≤ s.rate * (x.to - x.fr) := Int.mul_nonneg (by omega) (by omega)
    have p2 : s.rate * (x.to - x.fr) ≤ 359999999 * 359999999 := Int.mul_le_mul (by omega) (by omega) (by omega) (by omega)
    exact i64e (by omega) (by omega)
  have hsg := sgL_le x.tx.data.toList
  have ws : IntKind.i64.wrap ((sgL x.tx.data.toList : Int) * 1000) = (sgL x.tx.data.toList : Int) * 1000 := i64e (by omega) (by omega)
  have ANY : (ps.any fun p => decide (s.wide < (sgL p.data.toList : Int))) = ((spl x.tx.data.toList).any fun p => decide (s.wide < (sgL p : Int))) := by
    rw [← hps, List.any_map]; rfl
  have R1 := (hs.ext e1).rulesN
  simp (maxSteps := 4000000) (disch := omega) only [ah, am, Nat.reduceEqDiff, reduceCtorEq, Nat.reduceAdd, Nat.reduceLeDiff, Nat.reduceMul, Nat.reduceLT, if_true, if_false, true_and, and_true, and_self, Nat.reduceBEq, QOp.loads, boxO, bslO, buildO, cutL, fillV, putL, w25, v25, RL.1]
  refine SW_loop_up (fun j E K => K = H1 ∧ E = [(1, v), (2, .int .i64 (i : Int)), (3, .pointer (some ⟨h.size, 0, none⟩)), (7, .pointer (some ⟨h.size + 1, 0, none⟩)), (8, r), (9, .bool ((ps.take j).any fun p => decide (s.wide < (sgL p.data.toList : Int)))), (19, r), (20, .int .i64 (ps.length : Int)), (21, .int .i64 (j : Int))]) ps.length 0 (by omega) ⟨rfl, rfl⟩ ?_
  rintro j E K hj ⟨rfl, rfl⟩
  have W : IntKind.i64.wrap ((j : Int) + 1) = ((j + 1 : Nat) : Int) := i64e (by omega) (by omega)
  simp (maxSteps := 4000000) (disch := omega) only [ah, am, Nat.reduceEqDiff, reduceCtorEq, Nat.reduceAdd, Nat.reduceLeDiff, Nat.reduceMul, Nat.reduceLT, if_true, if_false, true_and, and_true, and_self, Nat.reduceBEq, QOp.loads, boxO, bslO, buildO, cutL, fillV, putL, w25, v25]
  refine stepI.split (fun hp => ?_) (fun hp => ?_)
  · have hj2 : j < ps.length := by omega
    have LP : ldV K (ptrAt r (j * 1)) = some (.string ps[j]) := RL.2.2.2.2.1 j hj2
    have IA := RL.2.1 .i64 j hj2
    have any1 : ((ps.take (j + 1)).any fun p => decide (s.wide < (sgL p.data.toList : Int))) = (((ps.take j).any fun p => decide (s.wide < (sgL p.data.toList : Int))) || decide (s.wide < (sgL (ps[j]).data.toList : Int))) := by
      rw [List.take_succ_eq_append_getElem hj2, List.any_append]; simp
    by_cases c : ((ps.take j).any fun p => decide (s.wide < (sgL p.data.toList : Int))) = true
    · rw [c] at any1 ⊢
      simp (maxSteps := 4000000) (disch := omega) only [ah, am, Nat.reduceEqDiff, reduceCtorEq, Nat.reduceAdd, Nat.reduceLeDiff, Nat.reduceMul, Nat.reduceLT, if_true, if_false, true_and, and_true, and_self, Nat.reduceBEq, QOp.loads, boxO, bslO, buildO, cutL, fillV, putL, w25, v25, IA, LP, W]
      exact ⟨hj2, by rw [any1, Bool.true_or]⟩
    · rw [Bool.not_eq_true] at c
      rw [c] at any1 ⊢
      simp (maxSteps := 4000000) (disch := omega) only [ah, am, Nat.reduceEqDiff, reduceCtorEq, Nat.reduceAdd, Nat.reduceLeDiff, Nat.reduceMul, Nat.reduceLT, if_true, if_false, true_and, and_true, and_self, Nat.reduceBEq, QOp.loads, boxO, bslO, buildO, cutL, fillV, putL, w25, v25, IA, LP, D1, W]
      refine stepC.of (signs_ok _ _ (by have := hp200 _ (List.getElem_mem hj2); omega)) ?_
      rintro _ _ ⟨rfl, rfl⟩
      simp (maxSteps := 4000000) (disch := omega) only [ah, am, Nat.reduceEqDiff, reduceCtorEq, Nat.reduceAdd, Nat.reduceLeDiff, Nat.reduceMul, Nat.reduceLT, if_true, if_false, true_and, and_true, and_self, Nat.reduceBEq, QOp.loads, boxO, bslO, buildO, cutL, fillV, putL, w25, v25, rechk_cons, rechk_end, chkV_some, chkV_false, D1, W]
      exact ⟨hj2, by rw [any1, Bool.false_or]⟩
  · have hj : j = ps.length := by omega
    subst hj
    rw [List.take_length]
    have fin : ∀ b : Bool, b = (decide ((0 : Int) < (i : Int)) && decide ((tAt l i).fr - (tAt l (i - 1)).to < s.gap)) → 
        Fresh h (K.more [[.bool (decide (x.to - x.fr < s.least)), .bool b, .bool (decide (s.rate * (x.to - x.fr) < (sgL x.tx.data.toList : Int) * 1000)), .bool (decide (s.rows < (ps.length : Int))), .bool (ps.any fun p => decide (s.wide < (sgL p.data.toList : Int)))]]) encQ 1 (.slice (some ⟨K.size, 0, none⟩) 5 1) (worriesF s l i) := by
      rintro b rfl
      have := (Fresh.new K (worriesF s l i) encQ_len (by omega)).mono e1
      rw [ANY, hn]
      unfold worriesF at this ⊢
      rw [X, ← hx] at this ⊢
      exact this
    by_cases c3 : (0 : Int) < i
    · have hi3 : i - 1 < l.length := by omega
      have wi : IntKind.i64.wrap ((i : Int) - 1) = ((i - 1 : Nat) : Int) := i64e (by omega) (by omega)
      have LT : ldV K (ptrAt v ((i - 1) * 3 + 1)) = some (.int .i64 (tAt l (i - 1)).to) := by rw [tAt_eq hi3]; exact R1.2.2.2.1 (i - 1) 1 hi3 (by omega)
      have AV := R1.2.1 .i64 (i - 1) hi3
      have FV := R1.2.2.1 1 ((i - 1) * 3) (by omega)
      have mx0 : (if ((i - 1 : Nat) : Int) < 0 then (0 : Int) else ((i - 1 : Nat) : Int)) = ((i - 1 : Nat) : Int) := if_neg (by omega)
      have wg : IntKind.i64.wrap (x.fr - (tAt l (i - 1)).to) = x.fr - (tAt l (i - 1)).to := i64e (by have := t3 (by omega); omega) (by have := (hT (i - 1) hi3).1; unfold timeOk at this; omega)
      simp (maxSteps := 4000000) (disch := omega) only [ah, am, Nat.reduceEqDiff, reduceCtorEq, Nat.reduceAdd, Nat.reduceLeDiff, Nat.reduceMul, Nat.reduceLT, if_true, if_false, true_and, and_true, and_self, Nat.reduceBEq, QOp.loads, boxO, bslO, buildO, cutL, fillV, putL, w25, v25, D1, D2, decide_eq_true c3, wi, mx0, AV, FV, LT, RL.1, wl, wm, wg]
      refine stepC.of (signs_ok _ _ (by omega)) ?_
      rintro _ _ ⟨rfl, rfl⟩
      simp (maxSteps := 4000000) (disch := omega) only [ah, am, Nat.reduceEqDiff, reduceCtorEq, Nat.reduceAdd, Nat.reduceLeDiff, Nat.reduceMul, Nat.reduceLT, if_true, if_false, true_and, and_true, and_self, Nat.reduceBEq, QOp.loads, boxO, bslO, buildO, cutL, fillV, putL, w25, v25, rechk_cons, rechk_end, chkV_some, chkV_false, D1, D2, decide_eq_true c3, wi, mx0, AV, FV, LT, RL.1, wl, wm, wg, ws]
      exact fin _ (by rw [decide_eq_true c3, X, ← hx, Bool.true_and])
    · simp (maxSteps := 4000000) (disch := omega) only [ah, am, Nat.reduceEqDiff, reduceCtorEq, Nat.reduceAdd, Nat.reduceLeDiff, Nat.reduceMul, Nat.reduceLT, if_true, if_false, true_and, and_true, and_self, Nat.reduceBEq, QOp.loads, boxO, bslO, buildO, cutL, fillV, putL, w25, v25, D1, D2, decide_eq_false c3, RL.1, wl, wm]
      refine stepC.of (signs_ok _ _ (by omega)) ?_
      rintro _ _ ⟨rfl, rfl⟩
      simp (maxSteps := 4000000) (disch := omega) only [ah, am, Nat.reduceEqDiff, reduceCtorEq, Nat.reduceAdd, Nat.reduceLeDiff, Nat.reduceMul, Nat.reduceLT, if_true, if_false, true_and, and_true, and_self, Nat.reduceBEq, QOp.loads, boxO, bslO, buildO, cutL, fillV, putL, w25, v25, rechk_cons, rechk_end, chkV_some, chkV_false, D1, D2, decide_eq_false c3, RL.1, wl, wm, ws]
      exact fin _ (by rw [decide_eq_false c3, Bool.false_and])
theorem Unread_ok (h : Heap) (v : Value) (l : List Title) (s : Style) (hs : SlT h encTitle 3 v l) (hl : l.length ≤ 281474976710656) (hn : ∀ t ∈ l, t.tx.size ≤ 9223372036854775807) :
    ACall Tryd.prog 7 [v, .agg (encStyle s).toArray] h fun r h' => Fresh h h' encWorry 2 r (unreadF l s) := by
  have eM := Ext.more h [[.int .i64 s.least, .int .i64 s.gap, .int .i64 s.rate, .int .i64 s.rows, .int .i64 s.wide]]
  have B0 := Bx.new h [.int .i64 s.least, .int .i64 s.gap, .int .i64 s.rate, .int .i64 s.rows, .int .i64 s.wide] []
  refine ACall.of Tryd.func7 s7 (of_decide_eq_true rfl) ?_
  simp (maxSteps := 4000000) (disch := omega) only [ah, am, Nat.reduceEqDiff, reduceCtorEq, Nat.reduceAdd, Nat.reduceLeDiff, Nat.reduceMul, Nat.reduceLT, if_true, if_false, true_and, and_true, and_self, Nat.reduceBEq, QOp.loads, boxO, bslO, buildO, cutL, fillV, putL, w7, v7, encStyle]
  refine stepC.of (TitlesOk_ok _ v l (hs.ext eM) hl hn) ?_
  rintro _ H1 ⟨e1, rfl⟩
  have D1 := (B0.ext e1).ld
  by_cases c1 : titlesOk l
  rotate_left
  · simp (maxSteps := 4000000) (disch := omega) only [ah, am, Nat.reduceEqDiff, reduceCtorEq, Nat.reduceAdd, Nat.reduceLeDiff, Nat.reduceMul, Nat.reduceLT, if_true, if_false, true_and, and_true, and_self, Nat.reduceBEq, QOp.loads, boxO, bslO, buildO, cutL, fillV, putL, w7, v7, decide_eq_false c1]
    rw [show unreadF l s = [] from if_neg fun q => c1 q.1]
    exact (Fresh.nil _ encWorry_len (by omega)).mono (eM.trans e1)
  have sk := Styleok_ok H1 s
  simp only [encStyle] at sk
  simp (maxSteps := 4000000) (disch := omega) only [ah, am, Nat.reduceEqDiff, reduceCtorEq, Nat.reduceAdd, Nat.reduceLeDiff, Nat.reduceMul, Nat.reduceLT, if_true, if_false, true_and, and_true, and_self, Nat.reduceBEq, QOp.loads, boxO, bslO, buildO, cutL, fillV, putL, w7, v7, decide_eq_true c1, D1]
  refine stepC.of sk ?_
  rintro _ H2 ⟨e2, rfl⟩
  have B2 := (B0.ext e1).ext e2
  by_cases c2 : styleOk s
  rotate_left
  · simp (maxSteps := 4000000) (disch := omega) only [ah, am, Nat.reduceEqDiff, reduceCtorEq, Nat.reduceAdd, Nat.reduceLeDiff, Nat.reduceMul, Nat.reduceLT, if_true, if_false, true_and, and_true, and_self, Nat.reduceBEq, QOp.loads, boxO, bslO, buildO, cutL, fillV, putL, w7, v7, decide_eq_false c2]
    rw [show unreadF l s = [] from if_neg fun q => c2 q.2]
    exact (Fresh.nil _ encWorry_len (by omega)).mono ((eM.trans e1).trans e2)
  have hu : unreadF l s = unreadL l s l.length := if_pos ⟨c1, c2⟩
  have E2 := (eM.trans e1).trans e2
  have hs2 := hs.ext E2
  have R := hs2.rulesN
  simp (maxSteps := 4000000) (disch := omega) only [ah, am, Nat.reduceEqDiff, reduceCtorEq, Nat.reduceAdd, Nat.reduceLeDiff, Nat.reduceMul, Nat.reduceLT, if_true, if_false, true_and, and_true, and_self, Nat.reduceBEq, QOp.loads, boxO, bslO, buildO, cutL, fillV, putL, w7, v7, decide_eq_true c2, R.1]
  refine SW_loop_up (fun i E K => ∃ w, Fk [] H2 K encWorry 2 w (unreadL l s i) [] ∧ E = [(0, v), (3, .pointer (some ⟨h.size, 0, none⟩)), (5, w), (19, .int .i64 (l.length : Int)), (20, .int .i64 (i : Int))]) l.length 0 (by omega) ⟨_, Fk.of (Fresh.new0 H2 encWorry_len (by omega)), rfl⟩ ?_
  rintro i E K hi ⟨w, F, rfl⟩
  have W : IntKind.i64.wrap ((i : Int) + 1) = ((i + 1 : Nat) : Int) := i64e (by have := c1.1; omega) (by have := c1.1; omega)
  simp (maxSteps := 4000000) (disch := omega) only [ah, am, Nat.reduceEqDiff, reduceCtorEq, Nat.reduceAdd, Nat.reduceLeDiff, Nat.reduceMul, Nat.reduceLT, if_true, if_false, true_and, and_true, and_self, Nat.reduceBEq, QOp.loads, boxO, bslO, buildO, cutL, fillV, putL, w7, v7]
  refine stepI.split (fun hp => ?_) (fun hp => ?_)
  rotate_left
  · simp (maxSteps := 4000000) (disch := omega) only [ah, am, Nat.reduceEqDiff, reduceCtorEq, Nat.reduceAdd, Nat.reduceLeDiff, Nat.reduceMul, Nat.reduceLT, if_true, if_false, true_and, and_true, and_self, Nat.reduceBEq, QOp.loads, boxO, bslO, buildO, cutL, fillV, putL, w7, v7]
    rw [hu, show l.length = i from by omega]
    exact F.fresh.mono E2
  have hi2 : i < l.length := by omega
  have DK := (B2.ext F.ext.ext).ld
  have wk := worries_ok K s v l i (hs2.ext F.ext.ext) hi2 c1 c2
  simp only [encStyle] at wk
  simp (maxSteps := 4000000) (disch := omega) only [ah, am, Nat.reduceEqDiff, reduceCtorEq, Nat.reduceAdd, Nat.reduceLeDiff, Nat.reduceMul, Nat.reduceLT, if_true, if_false, true_and, and_true, and_self, Nat.reduceBEq, QOp.loads, boxO, bslO, buildO, cutL, fillV, putL, w7, v7, DK]
  refine stepC.of wk ?_
  rintro u K1 G
  have RB := G.slt.rulesN
  simp (maxSteps := 4000000) (disch := omega) only [ah, am, Nat.reduceEqDiff, reduceCtorEq, Nat.reduceAdd, Nat.reduceLeDiff, Nat.reduceMul, Nat.reduceLT, if_true, if_false, true_and, and_true, and_self, Nat.reduceBEq, QOp.loads, boxO, bslO, buildO, cutL, fillV, putL, w7, v7, RB.1]
  have hb5 : (worriesF s l i).length = 5 := rfl
  refine SW_loop_up (fun k E K' => ∃ w', Tw K.size K1.size H2 K' encWorry 2 w' (unreadL l s i ++ worL i ((worriesF s l i).take k)) [] encQ 1 u (worriesF s l i) ∧ E = [(0, v), (3, .pointer (some ⟨h.size, 0, none⟩)), (5, w'), (6, .int .i64 (i : Int)),
      (19, .int .i64 (l.length : Int)), (20, .int .i64 (i : Int)), (26, u), (27, .int .i64 ((worriesF s l i).length : Int)), (28, .int .i64 (k : Int))]) 5 0 (by omega) ⟨w, by
        rw [show unreadL l s i ++ worL i ((worriesF s l i).take 0) = unreadL l s i from List.append_nil _]; exact Tw.of F G, rfl⟩ ?_
  rintro k E K' hk ⟨w', T, rfl⟩
  have Wk : IntKind.i64.wrap ((k : Int) + 1) = ((k + 1 : Nat) : Int) := i64e (by omega) (by omega)
  have RB := T.mine.slt.rulesN
  simp (maxSteps := 4000000) (disch := omega) only [ah, am, Nat.reduceEqDiff, reduceCtorEq, Nat.reduceAdd, Nat.reduceLeDiff, Nat.reduceMul, Nat.reduceLT, if_true, if_false, true_and, and_true, and_self, Nat.reduceBEq, QOp.loads, boxO, bslO, buildO, cutL, fillV, putL, w7, v7]
  refine stepI.split (fun hp => ?_) (fun hp => ?_)
  rotate_left
  · have hk5 : k = 5 := by omega
    subst hk5
    simp (maxSteps := 4000000) (disch := omega) only [ah, am, Nat.reduceEqDiff, reduceCtorEq, Nat.reduceAdd, Nat.reduceLeDiff, Nat.reduceMul, Nat.reduceLT, if_true, if_false, true_and, and_true, and_self, Nat.reduceBEq, QOp.loads, boxO, bslO, buildO, cutL, fillV, putL, w7, v7, W]
    refine ⟨hi2, _, ?_, rfl⟩
    rw [unread_succ]
    exact T.fk
  have hk2 : k < (worriesF s l i).length := by omega
  have IA := RB.2.1 .i64 k hk2
  have LB : ldV K' (ptrAt u (k * 1)) = some (.bool (worriesF s l i)[k]) := RB.2.2.2.2.1 k hk2
  have et := worL_take i (worriesF s l i) hk2
  simp (maxSteps := 4000000) (disch := omega) only [ah, am, Nat.reduceEqDiff, reduceCtorEq, Nat.reduceAdd, Nat.reduceLeDiff, Nat.reduceMul, Nat.reduceLT, if_true, if_false, true_and, and_true, and_self, Nat.reduceBEq, QOp.loads, boxO, bslO, buildO, cutL, fillV, putL, w7, v7, IA, LB]
  by_cases cb : (worriesF s l i)[k] = true
  · rw [if_pos cb] at et
    have hlen : (unreadL l s i ++ worL i ((worriesF s l i).take k)).length ≤ 1005 := by
      rw [List.length_append]
      have q1 := unread_len l s i
      have q2 := worL_len i ((worriesF s l i).take k)
      have := c1.1
      rw [List.length_take] at q2
      omega
    obtain ⟨w2, H3, ap, T2⟩ := T.app1 [] (⟨i, ((k + 1 : Nat) : Int)⟩ : Worry) (bytes := 16) (by omega)
    simp only [List.nil_append, List.length_nil, Nat.add_zero, encWorry] at ap
    simp (maxSteps := 4000000) (disch := omega) only [ah, am, Nat.reduceEqDiff, reduceCtorEq, Nat.reduceAdd, Nat.reduceLeDiff, Nat.reduceMul, Nat.reduceLT, if_true, if_false, true_and, and_true, and_self, Nat.reduceBEq, QOp.loads, boxO, bslO, buildO, cutL, fillV, putL, w7, v7, cb, ap, Wk]
    exact ⟨by omega, _, by rw [et, ← List.append_assoc]; exact T2, rfl⟩
  · rw [if_neg cb, List.append_nil] at et
    rw [Bool.not_eq_true] at cb
    simp (maxSteps := 4000000) (disch := omega) only [ah, am, Nat.reduceEqDiff, reduceCtorEq, Nat.reduceAdd, Nat.reduceLeDiff, Nat.reduceMul, Nat.reduceLT, if_true, if_false, true_and, and_true, and_self, Nat.reduceBEq, QOp.loads, boxO, bslO, buildO, cutL, fillV, putL, w7, v7, cb, Wk]
    exact ⟨by omega, w', by rw [et]; exact T, rfl⟩
end Go.Proofs.YtgjppbmbpjomgaaDoor
