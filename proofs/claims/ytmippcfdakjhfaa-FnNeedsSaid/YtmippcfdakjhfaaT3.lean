import Derived.Test.YtmippcfdakjhfaaT2
namespace Go.Proofs.Ytmippcfdakjhfaa
open Go Go.Ah
set_option linter.unusedSimpArgs false
set_option linter.unusedVariables false
set_option maxRecDepth 10000
set_option maxHeartbeats 4000000
/-! 21 loop.example/g00066/impl.Needs: parameters 2, live [0, 1], slots [0:tracks, 1:handle, 2:tracks, 3:handle, 5:out, 6:_, 7:t, 8:_, 9:c] -/
def c21_0 : List SOper := [⟨some 4, .q (.mv (.c (.slice none 0 0))), none⟩]
def c21_1 : List SOper := [⟨some 10, .q (.mv (.t 0)), none⟩, ⟨some 11, .q (.len (.t 10)), none⟩, ⟨some 12, .q (.bin .gtr (.t 11) (.c (.int .i64 50))), none⟩, ⟨some 13, .q (.mv (.t 12)), none⟩, ⟨some 14, .q (.mv (.t 1)), some (13, false)⟩, ⟨some 15, .e (.call 39 [(.t 14), (.c (.int .i64 0)), (.c (.int .i64 1000))]), some (13, false)⟩, ⟨some 16, .q (.not (.t 15)), some (13, false)⟩, ⟨some 17, .q (.pick (.t 13) (.c (.bool true)) (.t 16)), none⟩]
def c21_2 : List SOper := [⟨some 4, .q (.mv (.c (.slice none 0 0))), none⟩]
def c21_3 : SCode := .seq (.region c21_2 [4]) .ret
def c21_4 : SCode := .cond (.t 17) c21_3 .skip
def c21_5 : SCode := .seq (.region c21_1 [0, 1, 17]) c21_4
def c21_6 : List SOper := [⟨some 18, .a (.bsl 0 3 [] []), none⟩, ⟨some 5, .q (.mv (.t 18)), none⟩]
def c21_7 : List SOper := [⟨some 19, .q (.mv (.t 0)), none⟩, ⟨some 20, .q (.len (.t 19)), none⟩, ⟨some 21, .q (.mv (.c (.int .i64 0))), none⟩]
def c21_8 : List SOper := [⟨some 22, .q (.bin .lss (.t 21) (.t 20)), none⟩]
def c21_9 : SCode := .cond (.t 22) .skip (.exit 0)
def c21_10 : List SOper := [⟨some 23, .q (.ia 1 (.t 19) (.t 21)), none⟩, ⟨some 24, .q (.ld (.t 23)), none⟩, ⟨some 7, .q (.mv (.t 24)), none⟩]
def c21_11 : List SOper := [⟨some 25, .q (.mv (.t 7)), none⟩, ⟨some 26, .e (.call 40 [(.t 25)]), none⟩, ⟨some 27, .q (.not (.t 26)), none⟩]
def c21_12 : List SOper := [⟨some 4, .q (.mv (.c (.slice none 0 0))), none⟩]
def c21_13 : SCode := .seq (.region c21_12 [4]) .ret
def c21_14 : SCode := .cond (.t 27) c21_13 .skip
def c21_15 : SCode := .seq (.region c21_11 [1, 5, 7, 19, 20, 21, 27]) c21_14
def c21_16 : List SOper := [⟨some 28, .q (.mv (.t 7)), none⟩, ⟨some 29, .q (.len (.t 28)), none⟩, ⟨some 30, .q (.mv (.c (.int .i64 0))), none⟩]
def c21_17 : List SOper := [⟨some 31, .q (.bin .lss (.t 30) (.t 29)), none⟩]
def c21_18 : SCode := .cond (.t 31) .skip (.exit 2)
def c21_19 : List SOper := [⟨some 32, .q (.ia 3 (.t 28) (.t 30)), none⟩, ⟨some 33, .q (.ldn 3 (.t 32)), none⟩, ⟨some 9, .a (.new [(.int .i64 0), (.int .i64 0), (.int .i64 0)]), none⟩, ⟨none, .e (.st 3 (.t 9) (.t 33)), none⟩]
def c21_20 : List SOper := [⟨some 34, .q (.ldn 3 (.t 9)), none⟩, ⟨some 35, .e (.call 41 [(.t 34)]), none⟩, ⟨some 36, .q (.not (.t 35)), none⟩]
def c21_21 : List SOper := [⟨some 37, .q (.mv (.t 5)), none⟩, ⟨some 38, .q (.fa 0 (.t 9)), none⟩, ⟨some 39, .q (.ld (.t 38)), none⟩, ⟨some 40, .q (.fa 1 (.t 9)), none⟩, ⟨some 41, .q (.ld (.t 40)), none⟩, ⟨some 42, .q (.mv (.t 1)), none⟩, ⟨some 43, .q (.bin .sub (.t 41) (.t 42)), none⟩, ⟨some 44, .q (.mx (.t 43) (.c (.int .i64 0))), none⟩, ⟨some 45, .q (.fa 1 (.t 9)), none⟩, ⟨some 46, .q (.ld (.t 45)), none⟩, ⟨some 47, .q (.fa 2 (.t 9)), none⟩, ⟨some 48, .q (.ld (.t 47)), none⟩, ⟨some 49, .q (.bin .add (.t 46) (.t 48)), none⟩, ⟨some 50, .q (.mv (.t 1)), none⟩, ⟨some 51, .q (.bin .add (.t 49) (.t 50)), none⟩, ⟨some 52, .q (.mn (.t 51) (.c (.int .i64 10000000))), none⟩, ⟨some 53, .q (.build [(.int .i64 0), (.int .i64 0), (.int .i64 0)] [(0, 1, (.t 39)), (1, 1, (.t 44)), (2, 1, (.t 52))]), none⟩, ⟨some 54, .a (.bsl 1 3 [(.int .i64 0), (.int .i64 0), (.int .i64 0)] [(0, 3, (.t 53))]), none⟩, ⟨some 55, .e (.app 24 3 (.t 37) (.t 54)), none⟩, ⟨some 5, .q (.mv (.t 55)), none⟩]
def c21_22 : SCode := .cond (.t 36) (.region c21_21 [1, 5, 19, 20, 21, 28, 29, 30]) .skip
def c21_23 : SCode := .seq (.region c21_20 [1, 5, 9, 19, 20, 21, 28, 29, 30, 36]) c21_22
def c21_24 : SCode := .seq (.region c21_19 [1, 5, 9, 19, 20, 21, 28, 29, 30]) c21_23
def c21_25 : SCode := .block 3 c21_24
def c21_26 : List SOper := [⟨some 56, .q (.bin .add (.t 30) (.c (.int .i64 1))), none⟩, ⟨some 30, .q (.mv (.t 56)), none⟩]
def c21_27 : SCode := .seq c21_25 (.region c21_26 [1, 5, 19, 20, 21, 28, 29, 30])
def c21_28 : SCode := .seq c21_18 c21_27
def c21_29 : SCode := .seq (.region c21_17 [1, 5, 19, 20, 21, 28, 29, 30, 31]) c21_28
def c21_30 : SCode := .loop c21_29
def c21_31 : SCode := .block 2 c21_30
def c21_32 : SCode := .seq (.region c21_16 [1, 5, 19, 20, 21, 28, 29, 30]) c21_31
def c21_33 : SCode := .seq c21_15 c21_32
def c21_34 : SCode := .seq (.region c21_10 [1, 5, 7, 19, 20, 21]) c21_33
def c21_35 : SCode := .block 1 c21_34
def c21_36 : List SOper := [⟨some 57, .q (.bin .add (.t 21) (.c (.int .i64 1))), none⟩, ⟨some 21, .q (.mv (.t 57)), none⟩]
def c21_37 : SCode := .seq c21_35 (.region c21_36 [1, 5, 19, 20, 21])
def c21_38 : SCode := .seq c21_9 c21_37
def c21_39 : SCode := .seq (.region c21_8 [1, 5, 19, 20, 21, 22]) c21_38
def c21_40 : SCode := .loop c21_39
def c21_41 : SCode := .block 0 c21_40
def c21_42 : SCode := .seq (.region c21_7 [1, 5, 19, 20, 21]) c21_41
def c21_43 : List SOper := [⟨some 58, .q (.mv (.t 5)), none⟩, ⟨some 59, .e (.call 32 [(.t 58)]), none⟩, ⟨some 4, .q (.mv (.t 59)), none⟩]
def c21_44 : SCode := .seq (.region c21_43 [4]) .ret
def c21_45 : SCode := .seq c21_42 c21_44
def c21_46 : SCode := .seq (.region c21_6 [0, 1, 5]) c21_45
def c21_47 : SCode := .seq c21_5 c21_46
def c21_48 : SCode := .seq (.region c21_0 [0, 1]) c21_47
def c21 : SCode := c21_48
theorem w21 : type_of% (And.intro (uR Try.prog c21_0.eq_1) (And.intro (uR Try.prog c21_1.eq_1) (And.intro (uR Try.prog c21_2.eq_1) (And.intro (uC Try.prog c21_3.eq_1) (And.intro (uC Try.prog c21_4.eq_1) (And.intro (uC Try.prog c21_5.eq_1) (And.intro (uR Try.prog c21_6.eq_1) (And.intro (uR Try.prog c21_7.eq_1) (And.intro (uR Try.prog c21_8.eq_1) (And.intro (uC Try.prog c21_9.eq_1) (And.intro (uR Try.prog c21_10.eq_1) (And.intro (uR Try.prog c21_11.eq_1) (And.intro (uR Try.prog c21_12.eq_1) (And.intro (uC Try.prog c21_13.eq_1) (And.intro (uC Try.prog c21_14.eq_1) (And.intro (uC Try.prog c21_15.eq_1) (And.intro (uR Try.prog c21_16.eq_1) (And.intro (uR Try.prog c21_17.eq_1) (And.intro (uC Try.prog c21_18.eq_1) (And.intro (uR Try.prog c21_19.eq_1) (And.intro (uR Try.prog c21_20.eq_1) (And.intro (uR Try.prog c21_21.eq_1) (And.intro (uC Try.prog c21_22.eq_1) (And.intro (uC Try.prog c21_23.eq_1) (And.intro (uC Try.prog c21_24.eq_1) (And.intro (uC Try.prog c21_25.eq_1) (And.intro (uR Try.prog c21_26.eq_1) (And.intro (uC Try.prog c21_27.eq_1) (And.intro (uC Try.prog c21_28.eq_1) (And.intro (uC Try.prog c21_29.eq_1) (And.intro (uC Try.prog c21_30.eq_1) (And.intro (uC Try.prog c21_31.eq_1) (And.intro (uC Try.prog c21_32.eq_1) (And.intro (uC Try.prog c21_33.eq_1) (And.intro (uC Try.prog c21_34.eq_1) (And.intro (uC Try.prog c21_35.eq_1) (And.intro (uR Try.prog c21_36.eq_1) (And.intro (uC Try.prog c21_37.eq_1) (And.intro (uC Try.prog c21_38.eq_1) (And.intro (uC Try.prog c21_39.eq_1) (And.intro (uC Try.prog c21_40.eq_1) (And.intro (uC Try.prog c21_41.eq_1) (And.intro (uC Try.prog c21_42.eq_1) (And.intro (uR Try.prog c21_43.eq_1) (And.intro (uC Try.prog c21_44.eq_1) (And.intro (uC Try.prog c21_45.eq_1) (And.intro (uC Try.prog c21_46.eq_1) (And.intro (uC Try.prog c21_47.eq_1) (And.intro (uC Try.prog c21_48.eq_1) (uC Try.prog c21.eq_1)))))))))))))))))))))))))))))))))))))))))))))))))) := (And.intro (uR Try.prog c21_0.eq_1) (And.intro (uR Try.prog c21_1.eq_1) (And.intro (uR Try.prog c21_2.eq_1) (And.intro (uC Try.prog c21_3.eq_1) (And.intro (uC Try.prog c21_4.eq_1) (And.intro (uC Try.prog c21_5.eq_1) (And.intro (uR Try.prog c21_6.eq_1) (And.intro (uR Try.prog c21_7.eq_1) (And.intro (uR Try.prog c21_8.eq_1) (And.intro (uC Try.prog c21_9.eq_1) (And.intro (uR Try.prog c21_10.eq_1) (And.intro (uR Try.prog c21_11.eq_1) (And.intro (uR Try.prog c21_12.eq_1) (And.intro (uC Try.prog c21_13.eq_1) (And.intro (uC Try.prog c21_14.eq_1) (And.intro (uC Try.prog c21_15.eq_1) (And.intro (uR Try.prog c21_16.eq_1) (And.intro (uR Try.prog c21_17.eq_1) (And.intro (uC Try.prog c21_18.eq_1) (And.intro (uR Try.prog c21_19.eq_1) (And.intro (uR Try.prog c21_20.eq_1) (And.intro (uR Try.prog c21_21.eq_1) (And.intro (uC Try.prog c21_22.eq_1) (And.intro (uC Try.prog c21_23.eq_1) (And.intro (uC Try.prog c21_24.eq_1) (And.intro (uC Try.prog c21_25.eq_1) (And.intro (uR Try.prog c21_26.eq_1) (And.intro (uC Try.prog c21_27.eq_1) (And.intro (uC Try.prog c21_28.eq_1) (And.intro (uC Try.prog c21_29.eq_1) (And.intro (uC Try.prog c21_30.eq_1) (And.intro (uC Try.prog c21_31.eq_1) (And.intro (uC Try.prog c21_32.eq_1) (And.intro (uC Try.prog c21_33.eq_1) (And.intro (uC Try.prog c21_34.eq_1) (And.intro (uC Try.prog c21_35.eq_1) (And.intro (uR Try.prog c21_36.eq_1) (And.intro (uC Try.prog c21_37.eq_1) (And.intro (uC Try.prog c21_38.eq_1) (And.intro (uC Try.prog c21_39.eq_1) (And.intro (uC Try.prog c21_40.eq_1) (And.intro (uC Try.prog c21_41.eq_1) (And.intro (uC Try.prog c21_42.eq_1) (And.intro (uR Try.prog c21_43.eq_1) (And.intro (uC Try.prog c21_44.eq_1) (And.intro (uC Try.prog c21_45.eq_1) (And.intro (uC Try.prog c21_46.eq_1) (And.intro (uC Try.prog c21_47.eq_1) (And.intro (uC Try.prog c21_48.eq_1) (uC Try.prog c21.eq_1))))))))))))))))))))))))))))))))))))))))))))))))))
def v21 : List RV := [.t 4]
theorem s21 : slimF Try.prog Try.f21 = some (c21.bare, v21) := by kernel_rfl
/-! 22 loop.example/g00066/spec.Needs: parameters 2, live [0, 1], slots [0:tracks, 1:handle, 2:tracks, 3:handle, 5:in, 6:i, 7:k, 8:x] -/
def c22_0 : List SOper := [⟨some 4, .q (.mv (.c (.slice none 0 0))), none⟩]
def c22_1 : List SOper := [⟨some 9, .q (.mv (.t 0)), none⟩, ⟨some 10, .q (.len (.t 9)), none⟩, ⟨some 11, .q (.bin .gtr (.t 10) (.c (.int .i64 50))), none⟩, ⟨some 12, .q (.mv (.t 11)), none⟩, ⟨some 13, .q (.mv (.t 1)), some (12, false)⟩, ⟨some 14, .e (.call 42 [(.t 13), (.c (.int .i64 0)), (.c (.int .i64 1000))]), some (12, false)⟩, ⟨some 15, .q (.not (.t 14)), some (12, false)⟩, ⟨some 16, .q (.pick (.t 12) (.c (.bool true)) (.t 15)), none⟩]
def c22_2 : List SOper := [⟨some 17, .a (.bsl 0 3 [] []), none⟩, ⟨some 4, .q (.mv (.t 17)), none⟩]
def c22_3 : SCode := .seq (.region c22_2 [4]) .ret
def c22_4 : SCode := .cond (.t 16) c22_3 .skip
def c22_5 : SCode := .seq (.region c22_1 [0, 1, 16]) c22_4
def c22_6 : List SOper := [⟨some 18, .a (.bsl 0 3 [] []), none⟩, ⟨some 5, .q (.mv (.t 18)), none⟩]
def c22_7 : List SOper := [⟨some 6, .q (.mv (.c (.int .i64 0))), none⟩]
def c22_8 : List SOper := [⟨some 19, .q (.mv (.t 6)), none⟩, ⟨some 20, .q (.mv (.t 0)), none⟩, ⟨some 21, .q (.len (.t 20)), none⟩, ⟨some 22, .q (.bin .lss (.t 19) (.t 21)), none⟩]
def c22_9 : SCode := .cond (.t 22) .skip (.exit 0)
def c22_10 : SCode := .seq (.region c22_8 [0, 1, 5, 6, 22]) c22_9
def c22_11 : List SOper := [⟨some 25, .q (.mv (.t 0)), none⟩, ⟨some 26, .q (.mv (.t 6)), none⟩, ⟨some 27, .q (.ia 1 (.t 25) (.t 26)), none⟩, ⟨some 28, .q (.ld (.t 27)), none⟩, ⟨some 29, .e (.call 43 [(.t 28)]), none⟩, ⟨some 30, .q (.not (.t 29)), none⟩]
def c22_12 : List SOper := [⟨some 31, .a (.bsl 0 3 [] []), none⟩, ⟨some 4, .q (.mv (.t 31)), none⟩]
def c22_13 : SCode := .seq (.region c22_12 [4]) .ret
def c22_14 : SCode := .cond (.t 30) c22_13 .skip
def c22_15 : SCode := .seq (.region c22_11 [0, 1, 5, 6, 30]) c22_14
def c22_16 : List SOper := [⟨some 7, .q (.mv (.c (.int .i64 0))), none⟩]
def c22_17 : List SOper := [⟨some 32, .q (.mv (.t 7)), none⟩, ⟨some 33, .q (.mv (.t 0)), none⟩, ⟨some 34, .q (.mv (.t 6)), none⟩, ⟨some 35, .q (.ia 1 (.t 33) (.t 34)), none⟩, ⟨some 36, .q (.ld (.t 35)), none⟩, ⟨some 37, .q (.len (.t 36)), none⟩, ⟨some 38, .q (.bin .lss (.t 32) (.t 37)), none⟩]
def c22_18 : SCode := .cond (.t 38) .skip (.exit 2)
def c22_19 : SCode := .seq (.region c22_17 [0, 1, 5, 6, 7, 38]) c22_18
def c22_20 : List SOper := [⟨some 41, .q (.mv (.t 0)), none⟩, ⟨some 42, .q (.mv (.t 6)), none⟩, ⟨some 43, .q (.ia 1 (.t 41) (.t 42)), none⟩, ⟨some 44, .q (.ld (.t 43)), none⟩, ⟨some 45, .q (.mv (.t 7)), none⟩, ⟨some 46, .q (.ia 3 (.t 44) (.t 45)), none⟩, ⟨some 47, .q (.ldn 3 (.t 46)), none⟩, ⟨some 8, .a (.new [(.int .i64 0), (.int .i64 0), (.int .i64 0)]), none⟩, ⟨none, .e (.st 3 (.t 8) (.t 47)), none⟩]
def c22_21 : List SOper := [⟨some 48, .q (.fa 0 (.t 8)), none⟩, ⟨some 49, .q (.ld (.t 48)), none⟩, ⟨some 50, .q (.bin .gtr (.t 49) (.c (.int .i64 0))), none⟩]
def c22_22 : List DOper := [⟨0, ⟨some 51, .q (.mv (.t 5)), none⟩, [], []⟩, ⟨1, ⟨some 52, .q (.fa 0 (.t 8)), none⟩, [], []⟩, ⟨2, ⟨some 53, .q (.ld (.t 52)), none⟩, [], []⟩, ⟨3, ⟨some 54, .q (.fa 1 (.t 8)), none⟩, [], []⟩, ⟨4, ⟨some 55, .q (.ld (.t 54)), none⟩, [], []⟩, ⟨5, ⟨some 56, .q (.mv (.t 1)), none⟩, [], []⟩, ⟨6, ⟨some 57, .q (.bin .sub (.t 55) (.t 56)), none⟩, [], []⟩, ⟨8, ⟨some 59, .q (.fa 1 (.t 8)), none⟩, [], []⟩, ⟨9, ⟨some 60, .q (.ld (.t 59)), none⟩, [], []⟩, ⟨10, ⟨some 61, .q (.fa 2 (.t 8)), none⟩, [], []⟩, ⟨11, ⟨some 62, .q (.ld (.t 61)), none⟩, [], []⟩, ⟨12, ⟨some 63, .q (.bin .add (.t 60) (.t 62)), none⟩, [], []⟩, ⟨13, ⟨some 64, .q (.mv (.t 1)), none⟩, [], []⟩, ⟨14, ⟨some 65, .q (.bin .add (.t 63) (.t 64)), none⟩, [], []⟩, ⟨7, ⟨some 58, .e (.call 44 [(.c (.int .i64 0)), (.t 57)]), none⟩, [], [11, 9, 2]⟩, ⟨15, ⟨some 66, .e (.call 45 [(.c (.int .i64 10000000)), (.t 65)]), none⟩, [], [2]⟩, ⟨16, ⟨some 67, .q (.build [(.int .i64 0), (.int .i64 0), (.int .i64 0)] [(0, 1, (.t 53)), (1, 1, (.t 58)), (2, 1, (.t 66))]), none⟩, [], []⟩, ⟨17, ⟨some 68, .a (.bsl 1 3 [(.int .i64 0), (.int .i64 0), (.int .i64 0)] [(0, 3, (.t 67))]), none⟩, [], []⟩, ⟨18, ⟨some 69, .e (.app 24 3 (.t 51) (.t 68)), none⟩, [], []⟩, ⟨19, ⟨some 5, .q (.mv (.t 69)), none⟩, [], []⟩]
def c22_23 : SCode := .cond (.t 50) (.dregion c22_22 [0, 1, 5, 6, 7]) .skip
def c22_24 : SCode := .seq (.region c22_21 [0, 1, 5, 6, 7, 8, 50]) c22_23
def c22_25 : SCode := .seq (.region c22_20 [0, 1, 5, 6, 7, 8]) c22_24
def c22_26 : SCode := .block 3 c22_25
def c22_27 : List SOper := [⟨some 39, .q (.mv (.t 7)), none⟩, ⟨some 40, .q (.bin .add (.t 39) (.c (.int .i64 1))), none⟩, ⟨some 7, .q (.mv (.t 40)), none⟩]
def c22_28 : SCode := .seq c22_26 (.region c22_27 [0, 1, 5, 6, 7])
def c22_29 : SCode := .seq c22_19 c22_28
def c22_30 : SCode := .loop c22_29
def c22_31 : SCode := .block 2 c22_30
def c22_32 : SCode := .seq (.region c22_16 [0, 1, 5, 6, 7]) c22_31
def c22_33 : SCode := .seq c22_15 c22_32
def c22_34 : SCode := .block 1 c22_33
def c22_35 : List SOper := [⟨some 23, .q (.mv (.t 6)), none⟩, ⟨some 24, .q (.bin .add (.t 23) (.c (.int .i64 1))), none⟩, ⟨some 6, .q (.mv (.t 24)), none⟩]
def c22_36 : SCode := .seq c22_34 (.region c22_35 [0, 1, 5, 6])
def c22_37 : SCode := .seq c22_10 c22_36
def c22_38 : SCode := .loop c22_37
def c22_39 : SCode := .block 0 c22_38
def c22_40 : SCode := .seq (.region c22_7 [0, 1, 5, 6]) c22_39
def c22_41 : List SOper := [⟨some 70, .q (.mv (.t 5)), none⟩, ⟨some 71, .e (.call 31 [(.t 70)]), none⟩, ⟨some 4, .q (.mv (.t 71)), none⟩]
def c22_42 : SCode := .seq (.region c22_41 [4]) .ret
def c22_43 : SCode := .seq c22_40 c22_42
def c22_44 : SCode := .seq (.region c22_6 [0, 1, 5]) c22_43
def c22_45 : SCode := .seq c22_5 c22_44
def c22_46 : SCode := .seq (.region c22_0 [0, 1]) c22_45
def c22 : SCode := c22_46
theorem w22 : type_of% (And.intro (uR Try.prog c22_0.eq_1) (And.intro (uR Try.prog c22_1.eq_1) (And.intro (uR Try.prog c22_2.eq_1) (And.intro (uC Try.prog c22_3.eq_1) (And.intro (uC Try.prog c22_4.eq_1) (And.intro (uC Try.prog c22_5.eq_1) (And.intro (uR Try.prog c22_6.eq_1) (And.intro (uR Try.prog c22_7.eq_1) (And.intro (uR Try.prog c22_8.eq_1) (And.intro (uC Try.prog c22_9.eq_1) (And.intro (uC Try.prog c22_10.eq_1) (And.intro (uR Try.prog c22_11.eq_1) (And.intro (uR Try.prog c22_12.eq_1) (And.intro (uC Try.prog c22_13.eq_1) (And.intro (uC Try.prog c22_14.eq_1) (And.intro (uC Try.prog c22_15.eq_1) (And.intro (uR Try.prog c22_16.eq_1) (And.intro (uR Try.prog c22_17.eq_1) (And.intro (uC Try.prog c22_18.eq_1) (And.intro (uC Try.prog c22_19.eq_1) (And.intro (uR Try.prog c22_20.eq_1) (And.intro (uR Try.prog c22_21.eq_1) (And.intro (uD Try.prog c22_22.eq_1) (And.intro (uC Try.prog c22_23.eq_1) (And.intro (uC Try.prog c22_24.eq_1) (And.intro (uC Try.prog c22_25.eq_1) (And.intro (uC Try.prog c22_26.eq_1) (And.intro (uR Try.prog c22_27.eq_1) (And.intro (uC Try.prog c22_28.eq_1) (And.intro (uC Try.prog c22_29.eq_1) (And.intro (uC Try.prog c22_30.eq_1) (And.intro (uC Try.prog c22_31.eq_1) (And.intro (uC Try.prog c22_32.eq_1) (And.intro (uC Try.prog c22_33.eq_1) (And.intro (uC Try.prog c22_34.eq_1) (And.intro (uR Try.prog c22_35.eq_1) (And.intro (uC Try.prog c22_36.eq_1) (And.intro (uC Try.prog c22_37.eq_1) (And.intro (uC Try.prog c22_38.eq_1) (And.intro (uC Try.prog c22_39.eq_1) (And.intro (uC Try.prog c22_40.eq_1) (And.intro (uR Try.prog c22_41.eq_1) (And.intro (uC Try.prog c22_42.eq_1) (And.intro (uC Try.prog c22_43.eq_1) (And.intro (uC Try.prog c22_44.eq_1) (And.intro (uC Try.prog c22_45.eq_1) (And.intro (uC Try.prog c22_46.eq_1) (uC Try.prog c22.eq_1)))))))))))))))))))))))))))))))))))))))))))))))) := (And.intro (uR Try.prog c22_0.eq_1) (And.intro (uR Try.prog c22_1.eq_1) (And.intro (uR Try.prog c22_2.eq_1) (And.intro (uC Try.prog c22_3.eq_1) (And.intro (uC Try.prog c22_4.eq_1) (And.intro (uC Try.prog c22_5.eq_1) (And.intro (uR Try.prog c22_6.eq_1) (And.intro (uR Try.prog c22_7.eq_1) (And.intro (uR Try.prog c22_8.eq_1) (And.intro (uC Try.prog c22_9.eq_1) (And.intro (uC Try.prog c22_10.eq_1) (And.intro (uR Try.prog c22_11.eq_1) (And.intro (uR Try.prog c22_12.eq_1) (And.intro (uC Try.prog c22_13.eq_1) (And.intro (uC Try.prog c22_14.eq_1) (And.intro (uC Try.prog c22_15.eq_1) (And.intro (uR Try.prog c22_16.eq_1) (And.intro (uR Try.prog c22_17.eq_1) (And.intro (uC Try.prog c22_18.eq_1) (And.intro (uC Try.prog c22_19.eq_1) (And.intro (uR Try.prog c22_20.eq_1) (And.intro (uR Try.prog c22_21.eq_1) (And.intro (uD Try.prog c22_22.eq_1) (And.intro (uC Try.prog c22_23.eq_1) (And.intro (uC Try.prog c22_24.eq_1) (And.intro (uC Try.prog c22_25.eq_1) (And.intro (uC Try.prog c22_26.eq_1) (And.intro (uR Try.prog c22_27.eq_1) (And.intro (uC Try.prog c22_28.eq_1) (And.intro (uC Try.prog c22_29.eq_1) (And.intro (uC Try.prog c22_30.eq_1) (And.intro (uC Try.prog c22_31.eq_1) (And.intro (uC Try.prog c22_32.eq_1) (And.intro (uC Try.prog c22_33.eq_1) (And.intro (uC Try.prog c22_34.eq_1) (And.intro (uR Try.prog c22_35.eq_1) (And.intro (uC Try.prog c22_36.eq_1) (And.intro (uC Try.prog c22_37.eq_1) (And.intro (uC Try.prog c22_38.eq_1) (And.intro (uC Try.prog c22_39.eq_1) (And.intro (uC Try.prog c22_40.eq_1) (And.intro (uR Try.prog c22_41.eq_1) (And.intro (uC Try.prog c22_42.eq_1) (And.intro (uC Try.prog c22_43.eq_1) (And.intro (uC Try.prog c22_44.eq_1) (And.intro (uC Try.prog c22_45.eq_1) (And.intro (uC Try.prog c22_46.eq_1) (uC Try.prog c22.eq_1))))))))))))))))))))))))))))))))))))))))))))))))
def v22 : List RV := [.t 4]
theorem s22 : slimF Try.prog Try.f22 = some (c22.bare, v22) := by kernel_rfl

def reelC (n : Int) (k : Clip) : Reel := ⟨k.src, max (k.inn - n) 0, min (k.inn + k.len + n) 10000000⟩
def needC (n : Int) (t : List Clip) : List Reel := (t.filter fun k => decide (k.src ≠ 0)).map (reelC n)
def needL (n : Int) (ts : List (List Clip)) : List Reel := ts.flatMap (needC n)
def needsOk (ts : List (List Clip)) (n : Int) : Prop := ts.length ≤ 50 ∧ (0 ≤ n ∧ n ≤ 1000) ∧ ∀ t ∈ ts, trackOk t
instance (ts : List (List Clip)) (n : Int) : Decidable (needsOk ts n) := by unfold needsOk; infer_instance
def needsF (ts : List (List Clip)) (n : Int) : List Reel := if needsOk ts n then toldF (needL n ts) else []
theorem needC_take (n : Int) (t : List Clip) {k : Nat} (hk : k < t.length) : needC n (t.take (k + 1)) = needC n (t.take k) ++ (if t[k].src = 0 then [] else [reelC n t[k]]) := by
  unfold needC
  rw [List.take_succ_eq_append_getElem hk, List.filter_append, List.map_append]
  congr 1
  by_cases h : t[k].src = 0 <;> simp [h]
theorem needL_take (n : Int) (ts : List (List Clip)) {i : Nat} (hi : i < ts.length) : needL n (ts.take (i + 1)) = needL n (ts.take i) ++ needC n ts[i] := by
  unfold needL
  rw [List.take_succ_eq_append_getElem hi, List.flatMap_append]; simp
theorem needC_len (n : Int) (t : List Clip) : (needC n t).length ≤ t.length := by
  unfold needC; rw [List.length_map]; exact List.length_filter_le _ _
theorem needL_len (n : Int) : ∀ ts : List (List Clip), (∀ t ∈ ts, trackOk t) → (needL n ts).length ≤ 300 * ts.length := by
  intro ts
  induction ts with
  | nil => intro _; simp [needL]
  | cons t ts ih =>
    intro h
    have h1 := ih (fun x hx => h x (List.mem_cons_of_mem _ hx))
    have h2 := (h t List.mem_cons_self).1
    have h3 := needC_len n t
    unfold needL at h1 ⊢
    rw [List.flatMap_cons, List.length_append, List.length_cons]
    omega
theorem reelC_ok {n : Int} {k : Clip} (h : clipOk k) (hn : 0 ≤ n) : 0 ≤ (reelC n k).fr ∧ (reelC n k).fr < (reelC n k).to ∧ (reelC n k).to ≤ 10000000 := by
  unfold clipOk at h
  unfold reelC
  simp only
  omega
theorem needL_ok {n : Int} {ts : List (List Clip)} (h : ∀ t ∈ ts, trackOk t) (hn : 0 ≤ n) : ∀ r ∈ needL n ts, reelOk r := by
  intro r hr
  unfold needL at hr
  obtain ⟨t, ht, hr⟩ := List.mem_flatMap.mp hr
  unfold needC at hr
  obtain ⟨k, hk, rfl⟩ := List.mem_map.mp hr
  obtain ⟨hk, hs⟩ := List.mem_filter.mp hk
  have hc := (h t ht).2.1 k hk
  have h2 := reelC_ok hc hn
  have hs := of_decide_eq_true hs
  refine ⟨?_, h2⟩
  unfold clipOk at hc
  unfold reelC
  simp only
  omega
theorem Needs_ok (h : Heap) (v : Value) (ts : List (List Clip)) (n : Int) (hj : TracksAt h v ts) (hl : ts.length ≤ 1100000) (hn : ∀ t ∈ ts, t.length ≤ 1100000) :
    ACall Try.prog 21 [v, .int .i64 n] h fun r h' => Fresh h h' encReel 3 r (needsF ts n) := by
  obtain ⟨rs, s, hln, Hr⟩ := hj
  refine ACall.of Try.func21 s21 (of_decide_eq_true rfl) ?_
  have R := s.rulesN
  simp only [hln] at R
  by_cases c1 : (50 : Int) < ts.length
  · simp (maxSteps := 4000000) (disch := omega) only [ah, am, Nat.reduceEqDiff, reduceCtorEq, Nat.reduceAdd, Nat.reduceLeDiff, Nat.reduceMul, Nat.reduceLT, if_true, if_false, true_and, and_true, and_self, Nat.reduceBEq, QOp.loads, boxO, bslO, buildO, cutL, fillV, putL, w21, v21, R.1, decide_eq_true c1]
    rw [needsF, if_neg (fun q => by have := q.1; omega)]
    exact Fresh.nil h encReel_len (by omega)
  simp (maxSteps := 4000000) (disch := omega) only [ah, am, Nat.reduceEqDiff, reduceCtorEq, Nat.reduceAdd, Nat.reduceLeDiff, Nat.reduceMul, Nat.reduceLT, if_true, if_false, true_and, and_true, and_self, Nat.reduceBEq, QOp.loads, boxO, bslO, buildO, cutL, fillV, putL, w21, v21, R.1, decide_eq_false c1]
  refine stepC.of (in_ok _ _ _ _) ?_
  rintro _ Hx ⟨hx, rfl⟩; rw [hx]; clear hx Hx
  by_cases c2 : 0 ≤ n ∧ n ≤ 1000
  rotate_left
  · simp (maxSteps := 4000000) (disch := omega) only [ah, am, Nat.reduceEqDiff, reduceCtorEq, Nat.reduceAdd, Nat.reduceLeDiff, Nat.reduceMul, Nat.reduceLT, if_true, if_false, true_and, and_true, and_self, Nat.reduceBEq, QOp.loads, boxO, bslO, buildO, cutL, fillV, putL, w21, v21, decide_eq_false c2, Bool.not_false]
    rw [needsF, if_neg (fun q => c2 q.2.1)]
    exact Fresh.nil h encReel_len (by omega)
  have e0 := Ext.more h [[]]
  have R0 := (s.ext e0).rulesN
  simp only [hln] at R0
  simp (maxSteps := 4000000) (disch := omega) only [ah, am, Nat.reduceEqDiff, reduceCtorEq, Nat.reduceAdd, Nat.reduceLeDiff, Nat.reduceMul, Nat.reduceLT, if_true, if_false, true_and, and_true, and_self, Nat.reduceBEq, QOp.loads, boxO, bslO, buildO, cutL, fillV, putL, w21, v21, decide_eq_true c2, Bool.not_true, R0.1]
  have F0 : Fk [] h (h.more [[]]) encReel 3 (.slice (some ⟨h.size, 0, none⟩) 0 3) (needL n (ts.take 0)) [] := Fk.of (Fresh.new0 h encReel_len (by omega))
  generalize h.more [[]] = K0 at F0 ⊢
  generalize (Value.slice (some ⟨h.size, 0, none⟩) 0 3) = ov0 at F0 ⊢
  refine SW_loop_up (fun i E K => ∃ ov, E = [(1, .int .i64 n), (5, ov), (19, v), (20, .int .i64 (ts.length : Int)), (21, .int .i64 (i : Int))] ∧ Fk [] h K encReel 3 ov (needL n (ts.take i)) [] ∧ ∀ t ∈ ts.take i, trackOk t) ts.length 0 (by omega)
    ⟨ov0, rfl, F0, by simp⟩ ?_
  clear F0 R0 R e0
  rintro i E K hi ⟨ov, rfl, F, A⟩
  have R := (s.ext F.ext.ext).rulesN
  simp only [hln] at R
  simp (maxSteps := 4000000) (disch := omega) only [ah, am, Nat.reduceEqDiff, reduceCtorEq, Nat.reduceAdd, Nat.reduceLeDiff, Nat.reduceMul, Nat.reduceLT, if_true, if_false, true_and, and_true, and_self, Nat.reduceBEq, QOp.loads, boxO, bslO, buildO, cutL, fillV, putL, w21, v21]
  refine stepI.split (fun hp => ?_) (fun hp => ?_)
  rotate_left
  · simp (maxSteps := 4000000) (disch := omega) only [ah, am, Nat.reduceEqDiff, reduceCtorEq, Nat.reduceAdd, Nat.reduceLeDiff, Nat.reduceMul, Nat.reduceLT, if_true, if_false, true_and, and_true, and_self, Nat.reduceBEq, QOp.loads, boxO, bslO, buildO, cutL, fillV, putL, w21, v21]
    have : i = ts.length := by omega
    subst this
    rw [List.take_length] at F A
    have hlen := needL_len n ts A
    refine stepC.of (told_ok _ _ _ F.slt (by omega) (fun x hx => (needL_ok A c2.1 x hx).2.2.1)) ?_
    intro tv K2 G
    simp (maxSteps := 4000000) (disch := omega) only [ah, am, Nat.reduceEqDiff, reduceCtorEq, Nat.reduceAdd, Nat.reduceLeDiff, Nat.reduceMul, Nat.reduceLT, if_true, if_false, true_and, and_true, and_self, Nat.reduceBEq, QOp.loads, boxO, bslO, buildO, cutL, fillV, putL, w21, v21]
    rw [needsF, if_pos ⟨by omega, c2, A⟩]
    exact G.mono F.ext.ext
  have hi2 : i < ts.length := by omega
  have W : IntKind.i64.wrap ((i : Int) + 1) = ((i + 1 : Nat) : Int) := i64e (by omega) (by omega)
  have LV : ldV K (ptrAt v (i * 1)) = some rs[i] := R.2.2.2.2.1 i hi2
  have sc0 := Hr i (by omega) hi2
  have sc := sc0.ext F.ext.ext
  have p1 := cells_slT sc
  simp (maxSteps := 4000000) (disch := omega) only [ah, am, Nat.reduceEqDiff, reduceCtorEq, Nat.reduceAdd, Nat.reduceLeDiff, Nat.reduceMul, Nat.reduceLT, if_true, if_false, true_and, and_true, and_self, Nat.reduceBEq, QOp.loads, boxO, bslO, buildO, cutL, fillV, putL, w21, v21, R.2.1, LV]
  refine stepC.of (implTrackOk_ok _ _ _ sc (hn _ (List.getElem_mem hi2))) ?_
  rintro _ K1 ⟨e1, rfl⟩
  by_cases c3 : trackOk ts[i]
  rotate_left
  · simp (maxSteps := 4000000) (disch := omega) only [ah, am, Nat.reduceEqDiff, reduceCtorEq, Nat.reduceAdd, Nat.reduceLeDiff, Nat.reduceMul, Nat.reduceLT, if_true, if_false, true_and, and_true, and_self, Nat.reduceBEq, QOp.loads, boxO, bslO, buildO, cutL, fillV, putL, w21, v21, decide_eq_false c3, Bool.not_false]
    rw [needsF, if_neg (fun q => c3 (q.2.2 _ (List.getElem_mem hi2)))]
    exact (Fresh.nil K1 encReel_len (by omega)).mono (F.ext.ext.trans e1)
  have F1 := F.step e1
  have sc := sc.ext e1
  have Rc := sc.rulesN
  have A2 : ∀ t ∈ ts.take (i + 1), trackOk t := by
    intro t ht
    rw [List.take_succ_eq_append_getElem hi2] at ht
    rcases List.mem_append.mp ht with ht | ht
    · exact A t ht
    · rw [List.mem_singleton] at ht; rw [ht]; exact c3
  have hlen := needL_len n (ts.take i) A
  rw [List.length_take] at hlen
  have hcl := c3.1
  rw [needL_take n ts hi2]
  simp (maxSteps := 4000000) (disch := omega) only [ah, am, Nat.reduceEqDiff, reduceCtorEq, Nat.reduceAdd, Nat.reduceLeDiff, Nat.reduceMul, Nat.reduceLT, if_true, if_false, true_and, and_true, and_self, Nat.reduceBEq, QOp.loads, boxO, bslO, buildO, cutL, fillV, putL, w21, v21, decide_eq_true c3, Bool.not_true, Rc.1]
  generalize hrs : rs[i] = tv at sc sc0 Rc p1
  generalize ht : ts[i] = t at sc sc0 Rc c3 hcl ⊢
  generalize needL n (ts.take i) = base at F1 hlen ⊢
  refine SW_loop_to 2 (fun E K => ∃ ov, (∃ q, E = (1, .int .i64 n) :: (5, ov) :: (19, v) :: (20, .int .i64 (ts.length : Int)) :: (21, .int .i64 (i : Int)) :: q) ∧ Fk [] h K encReel 3 ov (base ++ needC n t) []) ?_ ?_
  rotate_left
  · rintro E K2 ⟨ov2, ⟨q, rfl⟩, F2⟩
    simp (maxSteps := 4000000) (disch := omega) only [ah, am, Nat.reduceEqDiff, reduceCtorEq, Nat.reduceAdd, Nat.reduceLeDiff, Nat.reduceMul, Nat.reduceLT, if_true, if_false, true_and, and_true, and_self, Nat.reduceBEq, QOp.loads, boxO, bslO, buildO, cutL, fillV, putL, w21, v21, W]
    exact ⟨hi2, _, rfl, F2, A2⟩
  refine SW_loop_up (fun k E K2 => ∃ ov, E = [(1, .int .i64 n), (5, ov), (19, v), (20, .int .i64 (ts.length : Int)), (21, .int .i64 (i : Int)), (28, tv), (29, .int .i64 (t.length : Int)), (30, .int .i64 (k : Int))] ∧ Fk [] h K2 encReel 3 ov (base ++ needC n (t.take k)) []) t.length 0 (by omega)
    ⟨ov, rfl, by simpa [needC] using F1⟩ ?_
  clear F F1 R LV Rc
  rintro k E K2 hk ⟨ov, rfl, F⟩
  have Rc := (sc0.ext F.ext.ext).rulesN
  have Wk : IntKind.i64.wrap ((k : Int) + 1) = ((k + 1 : Nat) : Int) := i64e (by omega) (by omega)
  simp (maxSteps := 4000000) (disch := omega) only [ah, am, Nat.reduceEqDiff, reduceCtorEq, Nat.reduceAdd, Nat.reduceLeDiff, Nat.reduceMul, Nat.reduceLT, if_true, if_false, true_and, and_true, and_self, Nat.reduceBEq, QOp.loads, boxO, bslO, buildO, cutL, fillV, putL, w21, v21]
  refine stepI.split (fun hq => ?_) (fun hq => ?_)
  rotate_left
  · simp (maxSteps := 4000000) (disch := omega) only [ah, am, Nat.reduceEqDiff, reduceCtorEq, Nat.reduceAdd, Nat.reduceLeDiff, Nat.reduceMul, Nat.reduceLT, if_true, if_false, true_and, and_true, and_self, Nat.reduceBEq, QOp.loads, boxO, bslO, buildO, cutL, fillV, putL, w21, v21]
    have : k = t.length := by omega
    subst this
    rw [List.take_length] at F
    exact ⟨_, ⟨_, rfl⟩, F⟩
  have hk2 : k < t.length := by omega
  have hck := c3.2.1 _ (List.getElem_mem hk2)
  rw [needC_take n t hk2]
  have hnc := needC_len n (t.take k)
  rw [List.length_take] at hnc
  obtain ⟨x, hx⟩ : ∃ x, x = t[k]'hk2 := ⟨_, rfl⟩
  have LN : ldnV K2 3 (ptrAt tv (k * 3)) = some (.agg (encClip x).toArray) := by rw [hx]; exact Rc.2.2.2.2.2 k hk2
  rw [← hx] at hck ⊢
  clear hx
  unfold clipOk at hck
  simp (maxSteps := 4000000) (disch := omega) only [ah, am, Nat.reduceEqDiff, reduceCtorEq, Nat.reduceAdd, Nat.reduceLeDiff, Nat.reduceMul, Nat.reduceLT, if_true, if_false, true_and, and_true, and_self, Nat.reduceBEq, QOp.loads, boxO, bslO, buildO, cutL, fillV, putL, w21, v21, Rc.2.1, LN, encClip]
  refine stepC.of (isGap_ok' _ _ _ _) ?_
  rintro _ _ ⟨rfl, rfl⟩
  by_cases c4 : x.src = 0
  · rw [if_pos c4, List.append_nil]
    simp (maxSteps := 4000000) (disch := omega) only [ah, am, Nat.reduceEqDiff, reduceCtorEq, Nat.reduceAdd, Nat.reduceLeDiff, Nat.reduceMul, Nat.reduceLT, if_true, if_false, true_and, and_true, and_self, Nat.reduceBEq, QOp.loads, boxO, bslO, buildO, cutL, fillV, putL, w21, v21, decide_eq_true c4, Bool.not_true, Wk]
    exact ⟨hk2, _, rfl, F.step (Ext.more _ _)⟩
  · rw [if_neg c4]
    obtain ⟨v2, K3, ea, F3⟩ := F.app1 [[.int .i64 x.src, .int .i64 x.inn, .int .i64 x.len], [.int .i64 x.src, .int .i64 x.inn, .int .i64 x.len]] (reelC n x) (bytes := 24) (by rw [List.length_append]; omega)
    have m1 : (if x.inn - n < 0 then 0 else x.inn - n) = max (x.inn - n) 0 := by split <;> omega
    have m2 : (if 10000000 < x.inn + x.len + n then 10000000 else x.inn + x.len + n) = min (x.inn + x.len + n) 10000000 := by split <;> omega
    have w1 : IntKind.i64.wrap (x.inn - n) = x.inn - n := i64w (by omega)
    have w2 : IntKind.i64.wrap (x.inn + x.len) = x.inn + x.len := i64w (by omega)
    have w3 : IntKind.i64.wrap (x.inn + x.len + n) = x.inn + x.len + n := i64w (by omega)
    simp only [encReel, reelC, List.cons_append, List.nil_append, List.length_cons, List.length_nil, Nat.reduceAdd] at ea
    simp (maxSteps := 4000000) (disch := omega) only [ah, am, Nat.reduceEqDiff, reduceCtorEq, Nat.reduceAdd, Nat.reduceLeDiff, Nat.reduceMul, Nat.reduceLT, if_true, if_false, true_and, and_true, and_self, Nat.reduceBEq, QOp.loads, boxO, bslO, buildO, cutL, fillV, putL, w21, v21, decide_eq_false c4, Bool.not_false, w1, w2, w3, m1, m2, ea, Wk]
    refine ⟨hk2, _, rfl, ?_⟩
    rw [← List.append_assoc]; exact F3.bare
theorem specNeeds_ok (h : Heap) (v : Value) (ts : List (List Clip)) (n : Int) (hj : TracksAt h v ts) (hl : ts.length ≤ 1100000) (hn : ∀ t ∈ ts, t.length ≤ 1100000) :
    ACall Try.prog 22 [v, .int .i64 n] h fun r h' => Fresh h h' encReel 3 r (needsF ts n) := by
  obtain ⟨rs, s, hln, Hr⟩ := hj
  refine ACall.of Try.func22 s22 (of_decide_eq_true rfl) ?_
  have R := s.rulesN
  simp only [hln] at R
  by_cases c1 : (50 : Int) < ts.length
  · simp (maxSteps := 4000000) (disch := omega) only [ah, am, Nat.reduceEqDiff, reduceCtorEq, Nat.reduceAdd, Nat.reduceLeDiff, Nat.reduceMul, Nat.reduceLT, if_true, if_false, true_and, and_true, and_self, Nat.reduceBEq, QOp.loads, boxO, bslO, buildO, cutL, fillV, putL, w22, v22, R.1, decide_eq_true c1]
    rw [needsF, if_neg (fun q => by have := q.1; omega)]
    exact Fresh.new0 h encReel_len (by omega)
  simp (maxSteps := 4000000) (disch := omega) only [ah, am, Nat.reduceEqDiff, reduceCtorEq, Nat.reduceAdd, Nat.reduceLeDiff, Nat.reduceMul, Nat.reduceLT, if_true, if_false, true_and, and_true, and_self, Nat.reduceBEq, QOp.loads, boxO, bslO, buildO, cutL, fillV, putL, w22, v22, R.1, decide_eq_false c1]
  refine stepC.of (l1In_ok _ _ _ _) ?_
  rintro _ Hx ⟨hx, rfl⟩; rw [hx]; clear hx Hx
  by_cases c2 : 0 ≤ n ∧ n ≤ 1000
  rotate_left
  · simp (maxSteps := 4000000) (disch := omega) only [ah, am, Nat.reduceEqDiff, reduceCtorEq, Nat.reduceAdd, Nat.reduceLeDiff, Nat.reduceMul, Nat.reduceLT, if_true, if_false, true_and, and_true, and_self, Nat.reduceBEq, QOp.loads, boxO, bslO, buildO, cutL, fillV, putL, w22, v22, decide_eq_false c2, Bool.not_false]
    rw [needsF, if_neg (fun q => c2 q.2.1)]
    exact Fresh.new0 h encReel_len (by omega)
  simp (maxSteps := 4000000) (disch := omega) only [ah, am, Nat.reduceEqDiff, reduceCtorEq, Nat.reduceAdd, Nat.reduceLeDiff, Nat.reduceMul, Nat.reduceLT, if_true, if_false, true_and, and_true, and_self, Nat.reduceBEq, QOp.loads, boxO, bslO, buildO, cutL, fillV, putL, w22, v22, decide_eq_true c2, Bool.not_true]
  have F0 : Fk [] h (h.more [[]]) encReel 3 (.slice (some ⟨h.size, 0, none⟩) 0 3) (needL n (ts.take 0)) [] := Fk.of (Fresh.new0 h encReel_len (by omega))
  generalize h.more [[]] = K0 at F0 ⊢
  generalize (Value.slice (some ⟨h.size, 0, none⟩) 0 3) = ov0 at F0 ⊢
  refine SW_loop_up (fun i E K => ∃ ov, E = [(0, v), (1, .int .i64 n), (5, ov), (6, .int .i64 (i : Int))] ∧ Fk [] h K encReel 3 ov (needL n (ts.take i)) [] ∧ ∀ t ∈ ts.take i, trackOk t) ts.length 0 (by omega)
    ⟨ov0, rfl, F0, by simp⟩ ?_
  clear F0 R
  rintro i E K hi ⟨ov, rfl, F, A⟩
  have R := (s.ext F.ext.ext).rulesN
  simp only [hln] at R
  simp (maxSteps := 4000000) (disch := omega) only [ah, am, Nat.reduceEqDiff, reduceCtorEq, Nat.reduceAdd, Nat.reduceLeDiff, Nat.reduceMul, Nat.reduceLT, if_true, if_false, true_and, and_true, and_self, Nat.reduceBEq, QOp.loads, boxO, bslO, buildO, cutL, fillV, putL, w22, v22, R.1]
  refine stepI.split (fun hp => ?_) (fun hp => ?_)
  rotate_left
  · simp (maxSteps := 4000000) (disch := omega) only [ah, am, Nat.reduceEqDiff, reduceCtorEq, Nat.reduceAdd, Nat.reduceLeDiff, Nat.reduceMul, Nat.reduceLT, if_true, if_false, true_and, and_true, and_self, Nat.reduceBEq, QOp.loads, boxO, bslO, buildO, cutL, fillV, putL, w22, v22]
    have : i = ts.length := by omega
    subst this
    rw [List.take_length] at F A
    have hlen := needL_len n ts A
    refine stepC.of (l7Tell_ok _ _ _ F.slt (by omega)) ?_
    intro tv K2 G
    simp (maxSteps := 4000000) (disch := omega) only [ah, am, Nat.reduceEqDiff, reduceCtorEq, Nat.reduceAdd, Nat.reduceLeDiff, Nat.reduceMul, Nat.reduceLT, if_true, if_false, true_and, and_true, and_self, Nat.reduceBEq, QOp.loads, boxO, bslO, buildO, cutL, fillV, putL, w22, v22]
    rw [needsF, if_pos ⟨by omega, c2, A⟩]
    exact G.mono F.ext.ext
  have hi2 : i < ts.length := by omega
  have W : IntKind.i64.wrap ((i : Int) + 1) = ((i + 1 : Nat) : Int) := i64e (by omega) (by omega)
  have LV : ldV K (ptrAt v (i * 1)) = some rs[i] := R.2.2.2.2.1 i hi2
  have sc0 := Hr i (by omega) hi2
  have sc := sc0.ext F.ext.ext
  simp (maxSteps := 4000000) (disch := omega) only [ah, am, Nat.reduceEqDiff, reduceCtorEq, Nat.reduceAdd, Nat.reduceLeDiff, Nat.reduceMul, Nat.reduceLT, if_true, if_false, true_and, and_true, and_self, Nat.reduceBEq, QOp.loads, boxO, bslO, buildO, cutL, fillV, putL, w22, v22, R.2.1, LV]
  have hnt := hn _ (List.getElem_mem hi2)
  refine stepC.of (TrackOk_ok _ _ _ sc (by omega)) ?_
  rintro _ K1 ⟨e1, rfl⟩
  by_cases c3 : trackOk ts[i]
  rotate_left
  · simp (maxSteps := 4000000) (disch := omega) only [ah, am, Nat.reduceEqDiff, reduceCtorEq, Nat.reduceAdd, Nat.reduceLeDiff, Nat.reduceMul, Nat.reduceLT, if_true, if_false, true_and, and_true, and_self, Nat.reduceBEq, QOp.loads, boxO, bslO, buildO, cutL, fillV, putL, w22, v22, decide_eq_false c3, Bool.not_false]
    rw [needsF, if_neg (fun q => c3 (q.2.2 _ (List.getElem_mem hi2)))]
    exact (Fresh.new0 K1 encReel_len (by omega)).mono (F.ext.ext.trans e1)
  have F1 := F.step e1
  have A2 : ∀ t ∈ ts.take (i + 1), trackOk t := by
    intro t ht
    rw [List.take_succ_eq_append_getElem hi2] at ht
    rcases List.mem_append.mp ht with ht | ht
    · exact A t ht
    · rw [List.mem_singleton] at ht; rw [ht]; exact c3
  have hlen := needL_len n (ts.take i) A
  rw [List.length_take] at hlen
  have hcl := c3.1
  rw [needL_take n ts hi2]
  simp (maxSteps := 4000000) (disch := omega) only [ah, am, Nat.reduceEqDiff, reduceCtorEq, Nat.reduceAdd, Nat.reduceLeDiff, Nat.reduceMul, Nat.reduceLT, if_true, if_false, true_and, and_true, and_self, Nat.reduceBEq, QOp.loads, boxO, bslO, buildO, cutL, fillV, putL, w22, v22, decide_eq_true c3, Bool.not_true]
  have LV : ∀ {K : Heap}, Ext h K → ldV K (ptrAt v (i * 1)) = some rs[i] := by
    intro K e
    have R := (s.ext e).rulesN
    simp only [hln] at R
    exact R.2.2.2.2.1 i hi2
  have AV := R.2.1 .i64 i hi2
  generalize hrs : rs[i] = tv at sc sc0 LV
  generalize ht : ts[i] = t at sc sc0 c3 hcl ⊢
  generalize needL n (ts.take i) = base at F1 hlen ⊢
  refine SW_loop_to 2 (fun E K => ∃ ov, (∃ q, E = (0, v) :: (1, .int .i64 n) :: (5, ov) :: (6, .int .i64 (i : Int)) :: q) ∧ Fk [] h K encReel 3 ov (base ++ needC n t) []) ?_ ?_
  rotate_left
  · rintro E K2 ⟨ov2, ⟨q, rfl⟩, F2⟩
    simp (maxSteps := 4000000) (disch := omega) only [ah, am, Nat.reduceEqDiff, reduceCtorEq, Nat.reduceAdd, Nat.reduceLeDiff, Nat.reduceMul, Nat.reduceLT, if_true, if_false, true_and, and_true, and_self, Nat.reduceBEq, QOp.loads, boxO, bslO, buildO, cutL, fillV, putL, w22, v22, W]
    exact ⟨hi2, _, rfl, F2, A2⟩
  refine SW_loop_up (fun k E K2 => ∃ ov, E = [(0, v), (1, .int .i64 n), (5, ov), (6, .int .i64 (i : Int)), (7, .int .i64 (k : Int))] ∧ Fk [] h K2 encReel 3 ov (base ++ needC n (t.take k)) []) t.length 0 (by omega)
    ⟨ov, rfl, by simpa [needC] using F1⟩ ?_
  clear F F1 R
  rintro k E K2 hk ⟨ov, rfl, F⟩
  have Rc := (sc0.ext F.ext.ext).rulesN
  have LV2 := LV F.ext.ext
  have Wk : IntKind.i64.wrap ((k : Int) + 1) = ((k + 1 : Nat) : Int) := i64e (by omega) (by omega)
  simp (maxSteps := 4000000) (disch := omega) only [ah, am, Nat.reduceEqDiff, reduceCtorEq, Nat.reduceAdd, Nat.reduceLeDiff, Nat.reduceMul, Nat.reduceLT, if_true, if_false, true_and, and_true, and_self, Nat.reduceBEq, QOp.loads, boxO, bslO, buildO, cutL, fillV, putL, w22, v22, AV, LV2, Rc.1]
  refine stepI.split (fun hq => ?_) (fun hq => ?_)
  rotate_left
  · simp (maxSteps := 4000000) (disch := omega) only [ah, am, Nat.reduceEqDiff, reduceCtorEq, Nat.reduceAdd, Nat.reduceLeDiff, Nat.reduceMul, Nat.reduceLT, if_true, if_false, true_and, and_true, and_self, Nat.reduceBEq, QOp.loads, boxO, bslO, buildO, cutL, fillV, putL, w22, v22]
    have : k = t.length := by omega
    subst this
    rw [List.take_length] at F
    exact ⟨_, ⟨_, rfl⟩, F⟩
  have hk2 : k < t.length := by omega
  have hck := c3.2.1 _ (List.getElem_mem hk2)
  rw [needC_take n t hk2]
  have hnc := needC_len n (t.take k)
  rw [List.length_take] at hnc
  obtain ⟨x, hx⟩ : ∃ x, x = t[k]'hk2 := ⟨_, rfl⟩
  have LN : ldnV K2 3 (ptrAt tv (k * 3)) = some (.agg (encClip x).toArray) := by rw [hx]; exact Rc.2.2.2.2.2 k hk2
  rw [← hx] at hck ⊢
  clear hx
  unfold clipOk at hck
  by_cases c4 : x.src = 0
  · rw [if_pos c4, List.append_nil]
    have d4 : decide (0 < x.src) = false := decide_eq_false (by omega)
    simp (maxSteps := 4000000) (disch := omega) only [ah, am, Nat.reduceEqDiff, reduceCtorEq, Nat.reduceAdd, Nat.reduceLeDiff, Nat.reduceMul, Nat.reduceLT, if_true, if_false, true_and, and_true, and_self, Nat.reduceBEq, QOp.loads, boxO, bslO, buildO, cutL, fillV, putL, w22, v22, AV, LV2, Rc.2.1, LN, encClip, d4, Wk]
    exact ⟨hk2, _, rfl, F.step (Ext.more _ _)⟩
  · rw [if_neg c4]
    have d4 : decide (0 < x.src) = true := decide_eq_true (by omega)
    obtain ⟨v2, K3, ea, F3⟩ := F.app1 [[.int .i64 x.src, .int .i64 x.inn, .int .i64 x.len]] (reelC n x) (bytes := 24) (by rw [List.length_append]; omega)
    have m1 : max 0 (x.inn - n) = max (x.inn - n) 0 := by omega
    have m2 : min 10000000 (x.inn + x.len + n) = min (x.inn + x.len + n) 10000000 := by omega
    have w1 : IntKind.i64.wrap (x.inn - n) = x.inn - n := i64w (by omega)
    have w2 : IntKind.i64.wrap (x.inn + x.len) = x.inn + x.len := i64w (by omega)
    have w3 : IntKind.i64.wrap (x.inn + x.len + n) = x.inn + x.len + n := i64w (by omega)
    simp only [encReel, reelC, List.cons_append, List.nil_append, List.length_cons, List.length_nil, Nat.reduceAdd] at ea
    simp (maxSteps := 4000000) (disch := omega) only [ah, am, Nat.reduceEqDiff, reduceCtorEq, Nat.reduceAdd, Nat.reduceLeDiff, Nat.reduceMul, Nat.reduceLT, if_true, if_false, true_and, and_true, and_self, Nat.reduceBEq, QOp.loads, boxO, bslO, buildO, cutL, fillV, putL, w22, v22, AV, LV2, Rc.2.1, LN, encClip, d4, w1, w2, w3]
    refine stepC.of (l1Max_ok _ _ _) ?_
    rintro _ Hx ⟨hx, rfl⟩; rw [hx]; clear hx Hx
    simp (maxSteps := 4000000) (disch := omega) only [ah, am, Nat.reduceEqDiff, reduceCtorEq, Nat.reduceAdd, Nat.reduceLeDiff, Nat.reduceMul, Nat.reduceLT, if_true, if_false, true_and, and_true, and_self, Nat.reduceBEq, QOp.loads, boxO, bslO, buildO, cutL, fillV, putL, w22, v22, chkV_some, chkV_false]
    refine stepC.of (l1Min_ok _ _ _) ?_
    rintro _ Hx ⟨hx, rfl⟩; rw [hx]; clear hx Hx
    simp (maxSteps := 4000000) (disch := omega) only [ah, am, Nat.reduceEqDiff, reduceCtorEq, Nat.reduceAdd, Nat.reduceLeDiff, Nat.reduceMul, Nat.reduceLT, if_true, if_false, true_and, and_true, and_self, Nat.reduceBEq, QOp.loads, boxO, bslO, buildO, cutL, fillV, putL, w22, v22, m1, m2, ea, Wk]
    refine ⟨hk2, _, rfl, ?_⟩
    rw [← List.append_assoc]; exact F3.bare
end Go.Proofs.Ytmippcfdakjhfaa
