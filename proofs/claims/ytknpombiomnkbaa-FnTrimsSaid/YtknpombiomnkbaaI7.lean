import Derived.Test.YtknpombiomnkbaaI6
import Derived.Test.YtknpombiomnkbaaS6
namespace Go.Proofs.Ytknpombiomnkbaa
open Go Go.Ah
set_option linter.unusedSimpArgs false
set_option linter.unusedVariables false
set_option maxRecDepth 10000
set_option maxHeartbeats 4000000
/-! 37 loop.example/g00066/impl.Roll: parameters 3, live [0, 1, 2], slots [0:track, 1:i, 2:n, 3:track, 4:i, 5:n] -/
def c37_0 : List SOper := [⟨some 6, .q (.mv (.c (.slice none 0 0))), none⟩, ⟨some 7, .q (.mv (.c (.bool false))), none⟩]
def c37_1 : List SOper := [⟨some 8, .q (.mv (.t 1)), none⟩, ⟨some 9, .q (.mv (.t 0)), none⟩, ⟨some 10, .q (.len (.t 9)), none⟩, ⟨some 11, .q (.bin .sub (.t 10) (.c (.int .i64 2))), none⟩, ⟨some 12, .e (.call 51 [(.t 8), (.c (.int .i64 0)), (.t 11)]), none⟩, ⟨some 13, .q (.not (.t 12)), none⟩]
def c37_2 : List SOper := [⟨some 6, .q (.mv (.c (.slice none 0 0))), none⟩, ⟨some 7, .q (.mv (.c (.bool false))), none⟩]
def c37_3 : SCode := .seq (.region c37_2 [6, 7]) .ret
def c37_4 : SCode := .cond (.t 13) c37_3 .skip
def c37_5 : SCode := .seq (.region c37_1 [0, 1, 2, 13]) c37_4
def c37_6 : List SOper := [⟨some 14, .q (.mv (.t 0)), none⟩, ⟨some 15, .q (.mv (.t 1)), none⟩, ⟨some 16, .q (.mv (.t 1)), none⟩, ⟨some 17, .q (.bin .add (.t 16) (.c (.int .i64 1))), none⟩, ⟨some 18, .q (.mv (.t 2)), none⟩, ⟨some 19, .e (.call 83 [(.t 14), (.t 15), (.t 17), (.t 18)]), none⟩, ⟨some 20, .q (.ext (.t 19) 0), none⟩, ⟨some 21, .q (.ext (.t 19) 1), none⟩, ⟨some 6, .q (.mv (.t 20)), none⟩, ⟨some 7, .q (.mv (.t 21)), none⟩]
def c37_7 : SCode := .seq (.region c37_6 [6, 7]) .ret
def c37_8 : SCode := .seq c37_5 c37_7
def c37_9 : SCode := .seq (.region c37_0 [0, 1, 2]) c37_8
def c37 : SCode := c37_9
theorem w37 : type_of% (And.intro (uR Try.prog c37_0.eq_1) (And.intro (uR Try.prog c37_1.eq_1) (And.intro (uR Try.prog c37_2.eq_1) (And.intro (uC Try.prog c37_3.eq_1) (And.intro (uC Try.prog c37_4.eq_1) (And.intro (uC Try.prog c37_5.eq_1) (And.intro (uR Try.prog c37_6.eq_1) (And.intro (uC Try.prog c37_7.eq_1) (And.intro (uC Try.prog c37_8.eq_1) (And.intro (uC Try.prog c37_9.eq_1) (uC Try.prog c37.eq_1))))))))))) := (And.intro (uR Try.prog c37_0.eq_1) (And.intro (uR Try.prog c37_1.eq_1) (And.intro (uR Try.prog c37_2.eq_1) (And.intro (uC Try.prog c37_3.eq_1) (And.intro (uC Try.prog c37_4.eq_1) (And.intro (uC Try.prog c37_5.eq_1) (And.intro (uR Try.prog c37_6.eq_1) (And.intro (uC Try.prog c37_7.eq_1) (And.intro (uC Try.prog c37_8.eq_1) (And.intro (uC Try.prog c37_9.eq_1) (uC Try.prog c37.eq_1)))))))))))
def v37 : List RV := [.t 6, .t 7]
theorem s37 : slimF Try.prog Try.f37 = some (c37.bare, v37) := by kernel_rfl
/-! 41 loop.example/g00066/impl.Slide: parameters 3, live [0, 1, 2], slots [0:track, 1:i, 2:n, 3:track, 4:i, 5:n] -/
def c41_0 : List SOper := [⟨some 6, .q (.mv (.c (.slice none 0 0))), none⟩, ⟨some 7, .q (.mv (.c (.bool false))), none⟩]
def c41_1 : List SOper := [⟨some 8, .q (.mv (.t 1)), none⟩, ⟨some 9, .q (.mv (.t 0)), none⟩, ⟨some 10, .q (.len (.t 9)), none⟩, ⟨some 11, .q (.bin .sub (.t 10) (.c (.int .i64 2))), none⟩, ⟨some 12, .e (.call 51 [(.t 8), (.c (.int .i64 1)), (.t 11)]), none⟩, ⟨some 13, .q (.not (.t 12)), none⟩, ⟨some 14, .q (.mv (.t 13)), none⟩, ⟨some 15, .q (.mv (.t 0)), some (14, false)⟩, ⟨some 16, .q (.mv (.t 1)), some (14, false)⟩, ⟨some 17, .q (.ia 3 (.t 15) (.t 16)), some (14, false)⟩, ⟨some 18, .q (.ldn 3 (.t 17)), some (14, false)⟩, ⟨some 19, .e (.call 87 [(.t 18)]), some (14, false)⟩, ⟨some 20, .q (.pick (.t 14) (.c (.bool true)) (.t 19)), none⟩]
def c41_2 : List SOper := [⟨some 6, .q (.mv (.c (.slice none 0 0))), none⟩, ⟨some 7, .q (.mv (.c (.bool false))), none⟩]
def c41_3 : SCode := .seq (.region c41_2 [6, 7]) .ret
def c41_4 : SCode := .cond (.t 20) c41_3 .skip
def c41_5 : SCode := .seq (.region c41_1 [0, 1, 2, 20]) c41_4
def c41_6 : List SOper := [⟨some 21, .q (.mv (.t 0)), none⟩, ⟨some 22, .q (.mv (.t 1)), none⟩, ⟨some 23, .q (.bin .sub (.t 22) (.c (.int .i64 1))), none⟩, ⟨some 24, .q (.mv (.t 1)), none⟩, ⟨some 25, .q (.bin .add (.t 24) (.c (.int .i64 1))), none⟩, ⟨some 26, .q (.mv (.t 2)), none⟩, ⟨some 27, .e (.call 83 [(.t 21), (.t 23), (.t 25), (.t 26)]), none⟩, ⟨some 28, .q (.ext (.t 27) 0), none⟩, ⟨some 29, .q (.ext (.t 27) 1), none⟩, ⟨some 6, .q (.mv (.t 28)), none⟩, ⟨some 7, .q (.mv (.t 29)), none⟩]
def c41_7 : SCode := .seq (.region c41_6 [6, 7]) .ret
def c41_8 : SCode := .seq c41_5 c41_7
def c41_9 : SCode := .seq (.region c41_0 [0, 1, 2]) c41_8
def c41 : SCode := c41_9
theorem w41 : type_of% (And.intro (uR Try.prog c41_0.eq_1) (And.intro (uR Try.prog c41_1.eq_1) (And.intro (uR Try.prog c41_2.eq_1) (And.intro (uC Try.prog c41_3.eq_1) (And.intro (uC Try.prog c41_4.eq_1) (And.intro (uC Try.prog c41_5.eq_1) (And.intro (uR Try.prog c41_6.eq_1) (And.intro (uC Try.prog c41_7.eq_1) (And.intro (uC Try.prog c41_8.eq_1) (And.intro (uC Try.prog c41_9.eq_1) (uC Try.prog c41.eq_1))))))))))) := (And.intro (uR Try.prog c41_0.eq_1) (And.intro (uR Try.prog c41_1.eq_1) (And.intro (uR Try.prog c41_2.eq_1) (And.intro (uC Try.prog c41_3.eq_1) (And.intro (uC Try.prog c41_4.eq_1) (And.intro (uC Try.prog c41_5.eq_1) (And.intro (uR Try.prog c41_6.eq_1) (And.intro (uC Try.prog c41_7.eq_1) (And.intro (uC Try.prog c41_8.eq_1) (And.intro (uC Try.prog c41_9.eq_1) (uC Try.prog c41.eq_1)))))))))))
def v41 : List RV := [.t 6, .t 7]
theorem s41 : slimF Try.prog Try.f41 = some (c41.bare, v41) := by kernel_rfl
/-! 83 loop.example/g00066/impl.moved: parameters 4, live [0, 1, 2, 3], slots [0:track, 1:ahead, 2:behind, 3:n, 4:track, 5:ahead, 6:behind, 7:n, 10:out] -/
def c83_0 : List SOper := [⟨some 8, .q (.mv (.c (.slice none 0 0))), none⟩, ⟨some 9, .q (.mv (.c (.bool false))), none⟩]
def c83_1 : List SOper := [⟨some 11, .q (.mv (.t 0)), none⟩, ⟨some 12, .e (.call 50 [(.t 11)]), none⟩, ⟨some 13, .q (.not (.t 12)), none⟩, ⟨some 14, .q (.mv (.t 13)), none⟩, ⟨some 15, .q (.mv (.t 1)), some (14, false)⟩, ⟨some 16, .q (.mv (.t 0)), some (14, false)⟩, ⟨some 17, .q (.len (.t 16)), some (14, false)⟩, ⟨some 18, .q (.bin .sub (.t 17) (.c (.int .i64 1))), some (14, false)⟩, ⟨some 19, .e (.call 51 [(.t 15), (.c (.int .i64 0)), (.t 18)]), some (14, false)⟩, ⟨some 20, .q (.not (.t 19)), some (14, false)⟩, ⟨some 21, .q (.pick (.t 14) (.c (.bool true)) (.t 20)), none⟩, ⟨some 22, .q (.mv (.t 21)), none⟩, ⟨some 23, .q (.mv (.t 2)), some (22, false)⟩, ⟨some 24, .q (.mv (.t 0)), some (22, false)⟩, ⟨some 25, .q (.len (.t 24)), some (22, false)⟩, ⟨some 26, .q (.bin .sub (.t 25) (.c (.int .i64 1))), some (22, false)⟩, ⟨some 27, .e (.call 51 [(.t 23), (.c (.int .i64 0)), (.t 26)]), some (22, false)⟩, ⟨some 28, .q (.not (.t 27)), some (22, false)⟩, ⟨some 29, .q (.pick (.t 22) (.c (.bool true)) (.t 28)), none⟩, ⟨some 30, .q (.mv (.t 29)), none⟩, ⟨some 31, .q (.mv (.t 3)), some (30, false)⟩, ⟨some 32, .e (.call 51 [(.t 31), (.c (.int .i64 (-10000000))), (.c (.int .i64 10000000))]), some (30, false)⟩, ⟨some 33, .q (.not (.t 32)), some (30, false)⟩, ⟨some 34, .q (.pick (.t 30) (.c (.bool true)) (.t 33)), none⟩]
def c83_2 : List SOper := [⟨some 8, .q (.mv (.c (.slice none 0 0))), none⟩, ⟨some 9, .q (.mv (.c (.bool false))), none⟩]
def c83_3 : SCode := .seq (.region c83_2 [8, 9]) .ret
def c83_4 : SCode := .cond (.t 34) c83_3 .skip
def c83_5 : SCode := .seq (.region c83_1 [0, 1, 2, 3, 34]) c83_4
def c83_6 : List SOper := [⟨some 35, .q (.mv (.t 0)), none⟩, ⟨some 36, .q (.mv (.t 1)), none⟩, ⟨some 37, .q (.ia 3 (.t 35) (.t 36)), none⟩, ⟨some 38, .q (.ldn 3 (.t 37)), none⟩, ⟨some 39, .e (.call 87 [(.t 38)]), none⟩, ⟨some 40, .q (.mv (.t 39)), none⟩, ⟨some 41, .q (.mv (.t 0)), some (40, false)⟩, ⟨some 42, .q (.mv (.t 2)), some (40, false)⟩, ⟨some 43, .q (.ia 3 (.t 41) (.t 42)), some (40, false)⟩, ⟨some 44, .q (.ldn 3 (.t 43)), some (40, false)⟩, ⟨some 45, .e (.call 87 [(.t 44)]), some (40, false)⟩, ⟨some 46, .q (.pick (.t 40) (.c (.bool true)) (.t 45)), none⟩]
def c83_7 : List SOper := [⟨some 8, .q (.mv (.c (.slice none 0 0))), none⟩, ⟨some 9, .q (.mv (.c (.bool false))), none⟩]
def c83_8 : SCode := .seq (.region c83_7 [8, 9]) .ret
def c83_9 : SCode := .cond (.t 46) c83_8 .skip
def c83_10 : SCode := .seq (.region c83_6 [0, 1, 2, 3, 46]) c83_9
def c83_11 : List SOper := [⟨some 47, .q (.mv (.t 0)), none⟩, ⟨some 48, .e (.call 52 [(.t 47)]), none⟩, ⟨some 10, .q (.mv (.t 48)), none⟩]
def c83_12 : List DOper := [⟨0, ⟨some 49, .q (.mv (.t 10)), none⟩, [], []⟩, ⟨1, ⟨some 50, .q (.mv (.t 1)), none⟩, [], []⟩, ⟨2, ⟨some 51, .q (.mv (.t 10)), none⟩, [], []⟩, ⟨3, ⟨some 52, .q (.mv (.t 2)), none⟩, [], []⟩, ⟨4, ⟨some 53, .q (.mv (.t 0)), none⟩, [], []⟩, ⟨5, ⟨some 54, .q (.mv (.t 1)), none⟩, [], []⟩, ⟨6, ⟨some 55, .q (.ia 3 (.t 53) (.t 54)), none⟩, [], []⟩, ⟨7, ⟨some 56, .q (.ldn 3 (.t 55)), none⟩, [], []⟩, ⟨8, ⟨some 57, .q (.mv (.t 3)), none⟩, [], []⟩, ⟨10, ⟨some 59, .q (.mv (.t 0)), none⟩, [], []⟩, ⟨11, ⟨some 60, .q (.mv (.t 2)), none⟩, [], []⟩, ⟨12, ⟨some 61, .q (.ia 3 (.t 59) (.t 60)), none⟩, [], []⟩, ⟨13, ⟨some 62, .q (.ldn 3 (.t 61)), none⟩, [], []⟩, ⟨14, ⟨some 63, .q (.mv (.t 3)), none⟩, [], []⟩, ⟨9, ⟨some 58, .e (.call 89 [(.t 56), (.t 57)]), none⟩, [], [13]⟩, ⟨15, ⟨some 64, .e (.call 101 [(.t 62), (.t 63)]), none⟩, [], []⟩, ⟨16, ⟨some 65, .q (.ia 3 (.t 49) (.t 50)), none⟩, [], []⟩, ⟨17, ⟨none, .e (.st 3 (.t 65) (.t 58)), none⟩, [], []⟩, ⟨18, ⟨some 66, .q (.ia 3 (.t 51) (.t 52)), none⟩, [], []⟩, ⟨19, ⟨none, .e (.st 3 (.t 66) (.t 64)), none⟩, [], []⟩]
def c83_13 : List SOper := [⟨some 67, .q (.mv (.t 10)), none⟩, ⟨some 68, .q (.mv (.t 1)), none⟩, ⟨some 69, .q (.ia 3 (.t 67) (.t 68)), none⟩, ⟨some 70, .q (.ldn 3 (.t 69)), none⟩, ⟨some 71, .e (.call 53 [(.t 70)]), none⟩, ⟨some 72, .q (.not (.t 71)), none⟩, ⟨some 73, .q (.mv (.t 72)), none⟩, ⟨some 74, .q (.mv (.t 10)), some (73, false)⟩, ⟨some 75, .q (.mv (.t 2)), some (73, false)⟩, ⟨some 76, .q (.ia 3 (.t 74) (.t 75)), some (73, false)⟩, ⟨some 77, .q (.ldn 3 (.t 76)), some (73, false)⟩, ⟨some 78, .e (.call 53 [(.t 77)]), some (73, false)⟩, ⟨some 79, .q (.not (.t 78)), some (73, false)⟩, ⟨some 80, .q (.pick (.t 73) (.c (.bool true)) (.t 79)), none⟩]
def c83_14 : List SOper := [⟨some 8, .q (.mv (.c (.slice none 0 0))), none⟩, ⟨some 9, .q (.mv (.c (.bool false))), none⟩]
def c83_15 : SCode := .seq (.region c83_14 [8, 9]) .ret
def c83_16 : SCode := .cond (.t 80) c83_15 .skip
def c83_17 : SCode := .seq (.region c83_13 [10, 80]) c83_16
def c83_18 : List SOper := [⟨some 81, .q (.mv (.t 10)), none⟩, ⟨some 82, .a (.bsl 1 1 [(.slice none 0 0)] [(0, 1, (.t 81))]), none⟩, ⟨some 83, .e (.call 54 [(.t 82)]), none⟩, ⟨some 84, .q (.ext (.t 83) 0), none⟩, ⟨some 85, .q (.ext (.t 83) 1), none⟩, ⟨some 8, .q (.mv (.t 84)), none⟩, ⟨some 9, .q (.mv (.t 85)), none⟩]
def c83_19 : SCode := .seq (.region c83_18 [8, 9]) .ret
def c83_20 : SCode := .seq c83_17 c83_19
def c83_21 : SCode := .seq (.dregion c83_12 [1, 2, 10]) c83_20
def c83_22 : SCode := .seq (.region c83_11 [0, 1, 2, 3, 10]) c83_21
def c83_23 : SCode := .seq c83_10 c83_22
def c83_24 : SCode := .seq c83_5 c83_23
def c83_25 : SCode := .seq (.region c83_0 [0, 1, 2, 3]) c83_24
def c83 : SCode := c83_25
theorem w83 : type_of% (And.intro (uR Try.prog c83_0.eq_1) (And.intro (uR Try.prog c83_1.eq_1) (And.intro (uR Try.prog c83_2.eq_1) (And.intro (uC Try.prog c83_3.eq_1) (And.intro (uC Try.prog c83_4.eq_1) (And.intro (uC Try.prog c83_5.eq_1) (And.intro (uR Try.prog c83_6.eq_1) (And.intro (uR Try.prog c83_7.eq_1) (And.intro (uC Try.prog c83_8.eq_1) (And.intro (uC Try.prog c83_9.eq_1) (And.intro (uC Try.prog c83_10.eq_1) (And.intro (uR Try.prog c83_11.eq_1) (And.intro (uD Try.prog c83_12.eq_1) (And.intro (uR Try.prog c83_13.eq_1) (And.intro (uR Try.prog c83_14.eq_1) (And.intro (uC Try.prog c83_15.eq_1) (And.intro (uC Try.prog c83_16.eq_1) (And.intro (uC Try.prog c83_17.eq_1) (And.intro (uR Try.prog c83_18.eq_1) (And.intro (uC Try.prog c83_19.eq_1) (And.intro (uC Try.prog c83_20.eq_1) (And.intro (uC Try.prog c83_21.eq_1) (And.intro (uC Try.prog c83_22.eq_1) (And.intro (uC Try.prog c83_23.eq_1) (And.intro (uC Try.prog c83_24.eq_1) (And.intro (uC Try.prog c83_25.eq_1) (uC Try.prog c83.eq_1))))))))))))))))))))))))))) := (And.intro (uR Try.prog c83_0.eq_1) (And.intro (uR Try.prog c83_1.eq_1) (And.intro (uR Try.prog c83_2.eq_1) (And.intro (uC Try.prog c83_3.eq_1) (And.intro (uC Try.prog c83_4.eq_1) (And.intro (uC Try.prog c83_5.eq_1) (And.intro (uR Try.prog c83_6.eq_1) (And.intro (uR Try.prog c83_7.eq_1) (And.intro (uC Try.prog c83_8.eq_1) (And.intro (uC Try.prog c83_9.eq_1) (And.intro (uC Try.prog c83_10.eq_1) (And.intro (uR Try.prog c83_11.eq_1) (And.intro (uD Try.prog c83_12.eq_1) (And.intro (uR Try.prog c83_13.eq_1) (And.intro (uR Try.prog c83_14.eq_1) (And.intro (uC Try.prog c83_15.eq_1) (And.intro (uC Try.prog c83_16.eq_1) (And.intro (uC Try.prog c83_17.eq_1) (And.intro (uR Try.prog c83_18.eq_1) (And.intro (uC Try.prog c83_19.eq_1) (And.intro (uC Try.prog c83_20.eq_1) (And.intro (uC Try.prog c83_21.eq_1) (And.intro (uC Try.prog c83_22.eq_1) (And.intro (uC Try.prog c83_23.eq_1) (And.intro (uC Try.prog c83_24.eq_1) (And.intro (uC Try.prog c83_25.eq_1) (uC Try.prog c83.eq_1)))))))))))))))))))))))))))
def v83 : List RV := [.t 8, .t 9]
theorem s83 : slimF Try.prog Try.f83 = some (c83.bare, v83) := by kernel_rfl
/-! 101 (loop.example/g00066/impl.Clip).later: parameters 2, live [0, 1], slots [0:c, 1:n, 2:c, 3:n] -/
def c101_0 : List SOper := [⟨some 2, .a (.box (.t 0)), none⟩, ⟨some 4, .a (.new [(.int .i64 0), (.int .i64 0), (.int .i64 0)]), none⟩]
def c101_1 : List SOper := [⟨some 5, .q (.fa 1 (.t 2)), none⟩, ⟨some 6, .q (.ld (.t 5)), none⟩, ⟨some 7, .q (.mv (.t 1)), none⟩, ⟨some 8, .q (.bin .add (.t 6) (.t 7)), none⟩, ⟨some 9, .q (.fa 2 (.t 2)), none⟩, ⟨some 10, .q (.ld (.t 9)), none⟩, ⟨some 11, .q (.mv (.t 1)), none⟩, ⟨some 12, .q (.bin .sub (.t 10) (.t 11)), none⟩, ⟨some 13, .q (.fa 1 (.t 2)), none⟩, ⟨none, .e (.st 1 (.t 13) (.t 8)), none⟩, ⟨some 14, .q (.fa 2 (.t 2)), none⟩, ⟨none, .e (.st 1 (.t 14) (.t 12)), none⟩]
def c101_2 : List SOper := [⟨some 15, .q (.ldn 3 (.t 2)), none⟩, ⟨none, .e (.st 3 (.t 4) (.t 15)), none⟩]
def c101_3 : SCode := .seq (.region c101_2 [4]) .ret
def c101_4 : SCode := .seq (.region c101_1 [2, 4]) c101_3
def c101_5 : SCode := .seq (.region c101_0 [1, 2, 4]) c101_4
def c101 : SCode := c101_5
theorem w101 : type_of% (And.intro (uR Try.prog c101_0.eq_1) (And.intro (uR Try.prog c101_1.eq_1) (And.intro (uR Try.prog c101_2.eq_1) (And.intro (uC Try.prog c101_3.eq_1) (And.intro (uC Try.prog c101_4.eq_1) (And.intro (uC Try.prog c101_5.eq_1) (uC Try.prog c101.eq_1))))))) := (And.intro (uR Try.prog c101_0.eq_1) (And.intro (uR Try.prog c101_1.eq_1) (And.intro (uR Try.prog c101_2.eq_1) (And.intro (uC Try.prog c101_3.eq_1) (And.intro (uC Try.prog c101_4.eq_1) (And.intro (uC Try.prog c101_5.eq_1) (uC Try.prog c101.eq_1)))))))
def v101 : List RV := [.c 4 (some 3)]
theorem s101 : slimF Try.prog Try.f101 = some (c101.bare, v101) := by kernel_rfl

theorem later_ok (h : Heap) (k : Clip) (n : Int) (hk : clipOk k) (hn : -10000000 ≤ n ∧ n ≤ 10000000) :
    ACall Try.prog 101 [.agg (encClip k).toArray, .int .i64 n] h fun r h' => h' = h.more [encClip ⟨k.src, k.inn + n, k.len - n⟩, encClip ⟨k.src, k.inn + n, k.len - n⟩] ∧ r = .agg (encClip ⟨k.src, k.inn + n, k.len - n⟩).toArray := by
  obtain ⟨a, b, c⟩ := k
  simp only [clipOk] at hk
  refine ACall.of Try.func101 s101 (of_decide_eq_true rfl) ?_
  simp (maxSteps := 4000000) (disch := omega) only [ah, am, Nat.reduceEqDiff, reduceCtorEq, Nat.reduceAdd, Nat.reduceLeDiff, Nat.reduceMul, Nat.reduceLT, if_true, if_false, true_and, and_true, and_self, Nat.reduceBEq, QOp.loads, boxO, bslO, buildO, cutL, fillV, putL, w101, v101, encClip, i64w]
theorem moved_ok (h : Heap) (v : Value) (l : List Clip) (a b n : Int) (s : SlT h encClip 3 v l) (hl : l.length ≤ 1100000) (hab : a ≠ b) :
    ACall Try.prog 83 [v, .int .i64 a, .int .i64 b, .int .i64 n] h fun r h' => Pair h h' r (moveF l a b n) := by
  refine ACall.of Try.func83 s83 (of_decide_eq_true rfl) ?_
  simp (maxSteps := 4000000) (disch := omega) only [ah, am, Nat.reduceEqDiff, reduceCtorEq, Nat.reduceAdd, Nat.reduceLeDiff, Nat.reduceMul, Nat.reduceLT, if_true, if_false, true_and, and_true, and_self, Nat.reduceBEq, QOp.loads, boxO, bslO, buildO, cutL, fillV, putL, w83, v83]
  refine stepC.of (implTrackOk_ok _ _ _ s hl) ?_
  rintro _ H1 ⟨e1, rfl⟩
  have S1 := s.ext e1
  have R := S1.rules
  by_cases hc : trackOk l ∧ (-10000000 ≤ n ∧ n ≤ 10000000) ∧ realAt l a ∧ realAt l b
  · obtain ⟨ht, hn, hr, hr2⟩ := hc
    have hlen := ht.1
    have hia : a.toNat < l.length := by have := hr.1; have := hr.2.1; omega
    have hib : b.toNat < l.length := by have := hr2.1; have := hr2.2.1; omega
    have ha : 0 ≤ a ∧ a ≤ (l.length : Int) - 1 := ⟨hr.1, by have := hr.2.1; omega⟩
    have hb : 0 ≤ b ∧ b ≤ (l.length : Int) - 1 := ⟨hr2.1, by have := hr2.2.1; omega⟩
    have hne : a.toNat ≠ b.toNat := by omega
    have C := cAt_eq l a hia
    have C2 := cAt_eq l b hib
    have K := ht.2.1 _ (List.getElem_mem hia)
    have K2 := ht.2.1 _ (List.getElem_mem hib)
    rw [← C] at K; rw [← C2] at K2
    have ht' : decide (trackOk l) = true := decide_eq_true ht
    have ha' : decide (0 ≤ a ∧ a ≤ (l.length : Int) - 1) = true := decide_eq_true ha
    have hb' : decide (0 ≤ b ∧ b ≤ (l.length : Int) - 1) = true := decide_eq_true hb
    have hn' : decide (-10000000 ≤ n ∧ n ≤ 10000000) = true := decide_eq_true hn
    have hga : decide ((cAt l a).src = 0) = false := decide_eq_false hr.2.2
    have hgb : decide ((cAt l b).src = 0) = false := decide_eq_false hr2.2.2
    have hT : moveF l a b n = editF ((l.set a.toNat ⟨(cAt l a).src, (cAt l a).inn, (cAt l a).len + n⟩).set b.toNat ⟨(cAt l b).src, (cAt l b).inn + n, (cAt l b).len - n⟩) := if_pos ⟨ht, hn, hr, hr2⟩
    have ga : ∀ hj : a.toNat < l.length, l[a.toNat]'hj = cAt l a := fun _ => C.symm
    have gb : ∀ hj : b.toNat < l.length, l[b.toNat]'hj = cAt l b := fun _ => C2.symm
    simp (maxSteps := 4000000) (disch := omega) only [ah, am, Nat.reduceEqDiff, reduceCtorEq, Nat.reduceAdd, Nat.reduceLeDiff, Nat.reduceMul, Nat.reduceLT, if_true, if_false, true_and, and_true, and_self, Nat.reduceBEq, QOp.loads, boxO, bslO, buildO, cutL, fillV, putL, w83, v83, R, ht', i64w]
    refine stepC.of (in_ok _ _ _ _) ?_
    rintro _ Hx ⟨hx, rfl⟩; rw [hx]; clear hx Hx
    simp (maxSteps := 4000000) (disch := omega) only [ah, am, Nat.reduceEqDiff, reduceCtorEq, Nat.reduceAdd, Nat.reduceLeDiff, Nat.reduceMul, Nat.reduceLT, if_true, if_false, true_and, and_true, and_self, Nat.reduceBEq, QOp.loads, boxO, bslO, buildO, cutL, fillV, putL, w83, v83, R, ht', ha', i64w]
    refine stepC.of (in_ok _ _ _ _) ?_
    rintro _ Hx ⟨hx, rfl⟩; rw [hx]; clear hx Hx
    simp (maxSteps := 4000000) (disch := omega) only [ah, am, Nat.reduceEqDiff, reduceCtorEq, Nat.reduceAdd, Nat.reduceLeDiff, Nat.reduceMul, Nat.reduceLT, if_true, if_false, true_and, and_true, and_self, Nat.reduceBEq, QOp.loads, boxO, bslO, buildO, cutL, fillV, putL, w83, v83, R, ht', ha', hb', i64w]
    refine stepC.of (in_ok _ _ _ _) ?_
    rintro _ Hx ⟨hx, rfl⟩; rw [hx]; clear hx Hx
    simp (maxSteps := 4000000) (disch := omega) only [ah, am, Nat.reduceEqDiff, reduceCtorEq, Nat.reduceAdd, Nat.reduceLeDiff, Nat.reduceMul, Nat.reduceLT, if_true, if_false, true_and, and_true, and_self, Nat.reduceBEq, QOp.loads, boxO, bslO, buildO, cutL, fillV, putL, w83, v83, R, ht', ha', hb', hn', ga, i64w]
    refine stepC.of (isGap_ok _ _) ?_
    rintro _ Hx ⟨hx, rfl⟩; rw [hx]; clear hx Hx
    have S2 := S1.ext (Ext.more H1 [encClip (cAt l a)])
    have R2 := S2.rules
    simp (maxSteps := 4000000) (disch := omega) only [ah, am, Nat.reduceEqDiff, reduceCtorEq, Nat.reduceAdd, Nat.reduceLeDiff, Nat.reduceMul, Nat.reduceLT, if_true, if_false, true_and, and_true, and_self, Nat.reduceBEq, QOp.loads, boxO, bslO, buildO, cutL, fillV, putL, w83, v83, R2, hga, gb, i64w]
    refine stepC.of (isGap_ok _ _) ?_
    rintro _ Hx ⟨hx, rfl⟩; rw [hx]; clear hx Hx
    have S3 := S1.ext (Ext.more H1 [encClip (cAt l a), encClip (cAt l b)])
    have E0 : Ext h (H1.more [encClip (cAt l a), encClip (cAt l b)]) := e1.trans (Ext.more _ _)
    simp (maxSteps := 4000000) (disch := omega) only [ah, am, Nat.reduceEqDiff, reduceCtorEq, Nat.reduceAdd, Nat.reduceLeDiff, Nat.reduceMul, Nat.reduceLT, if_true, if_false, true_and, and_true, and_self, Nat.reduceBEq, QOp.loads, boxO, bslO, buildO, cutL, fillV, putL, w83, v83, hgb, i64w]
    refine stepC.of (Clone_ok _ _ _ S3 hl) ?_
    intro v2 H2 F2
    have S4 := S3.ext F2.1
    have R4 := S4.rules
    simp (maxSteps := 4000000) (disch := omega) only [ah, am, Nat.reduceEqDiff, reduceCtorEq, Nat.reduceAdd, Nat.reduceLeDiff, Nat.reduceMul, Nat.reduceLT, if_true, if_false, true_and, and_true, and_self, Nat.reduceBEq, QOp.loads, boxO, bslO, buildO, cutL, fillV, putL, w83, v83, R4, ga, gb, i64w]
    refine stepC.of (longer_ok _ _ _ K hn) ?_
    rintro _ Hx ⟨hx, rfl⟩; rw [hx]; clear hx Hx
    have S5 := S4.ext (Ext.more H2 [encClip ⟨(cAt l a).src, (cAt l a).inn, (cAt l a).len + n⟩, encClip ⟨(cAt l a).src, (cAt l a).inn, (cAt l a).len + n⟩])
    have R5 := S5.rules
    simp (maxSteps := 4000000) (disch := omega) only [ah, am, Nat.reduceEqDiff, reduceCtorEq, Nat.reduceAdd, Nat.reduceLeDiff, Nat.reduceMul, Nat.reduceLT, if_true, if_false, true_and, and_true, and_self, Nat.reduceBEq, QOp.loads, boxO, bslO, buildO, cutL, fillV, putL, w83, v83, R5, ga, gb, i64w, rechk, List.mem_cons, List.not_mem_nil, or_false, false_imp_iff, forall_const, true_imp_iff]
    refine stepC.of (later_ok _ _ _ K2 hn) ?_
    rintro _ Hx ⟨hx, rfl⟩; rw [hx]; clear hx Hx
    rw [more_more]
    generalize hX : (⟨(cAt l a).src, (cAt l a).inn, (cAt l a).len + n⟩ : Clip) = X at *
    generalize hY : (⟨(cAt l b).src, (cAt l b).inn + n, (cAt l b).len - n⟩ : Clip) = Y at *
    have F3 := F2.ext (Ext.more H2 ([encClip X, encClip X] ++ [encClip Y, encClip Y]))
    have E3 := E0.trans F3.1
    obtain ⟨H3, es, F4, -⟩ := F3.set (j := a.toNat) hia X rfl
    obtain ⟨H4, es2, F5, -⟩ := F4.set (j := b.toNat) (by simpa using hib) Y rfl
    have R6 := F3.slt.rules
    have R7 := F5.slt.rules
    simp only [List.length_set] at R7
    simp only [List.cons_append, List.nil_append] at es
    have gx : ∀ hj : a.toNat < ((l.set a.toNat X).set b.toNat Y).length, ((l.set a.toNat X).set b.toNat Y)[a.toNat]'hj = X := by
      intro hj; rw [List.getElem_set_ne (by omega), List.getElem_set_self]
    have gy : ∀ hj : b.toNat < ((l.set a.toNat X).set b.toNat Y).length, ((l.set a.toNat X).set b.toNat Y)[b.toNat]'hj = Y := by
      intro hj; rw [List.getElem_set_self]
    simp (maxSteps := 4000000) (disch := omega) only [ah, am, Nat.reduceEqDiff, reduceCtorEq, Nat.reduceAdd, Nat.reduceLeDiff, Nat.reduceMul, Nat.reduceLT, if_true, if_false, true_and, and_true, and_self, Nat.reduceBEq, QOp.loads, boxO, bslO, buildO, cutL, fillV, putL, w83, v83, R6, es, es2, R7, gx, gy, i64w]
    refine stepC.of (ok_ok _ _) ?_
    rintro _ H5 ⟨e5, rfl⟩
    have F6 := F5.ext e5
    by_cases hq : clipOk X
    · have hq' : decide (clipOk X) = true := decide_eq_true hq
      have R8 := F6.slt.rules
      simp only [List.length_set] at R8
      simp (maxSteps := 4000000) (disch := omega) only [ah, am, Nat.reduceEqDiff, reduceCtorEq, Nat.reduceAdd, Nat.reduceLeDiff, Nat.reduceMul, Nat.reduceLT, if_true, if_false, true_and, and_true, and_self, Nat.reduceBEq, QOp.loads, boxO, bslO, buildO, cutL, fillV, putL, w83, v83, hq', R8, gy, i64w]
      refine stepC.of (ok_ok _ _) ?_
      rintro _ H6 ⟨e6, rfl⟩
      have F7 := F6.ext e6
      by_cases hp : clipOk Y
      · have hp' : decide (clipOk Y) = true := decide_eq_true hp
        have A := set_all (i := b.toNat) (set_all (i := a.toNat) ht.2.1 hq) hp
        have ro := Rows.one F7.slt
        have o1 := one_slice _ _ _ F7.slt
        have c1 := cells_sl F7.slt
        simp (maxSteps := 4000000) (disch := omega) only [ah, am, Nat.reduceEqDiff, reduceCtorEq, Nat.reduceAdd, Nat.reduceLeDiff, Nat.reduceMul, Nat.reduceLT, if_true, if_false, true_and, and_true, and_self, Nat.reduceBEq, QOp.loads, boxO, bslO, buildO, cutL, fillV, putL, w83, v83, hp', o1, c1, size_mk, List.reduceReplicate]
        refine stepC.of (edited_ok _ _ _ ro (by simp) (by simpa using hl) (fun k hk => (A k (by simpa using hk)).in)) ?_
        rintro _ H8 ⟨rv, rfl, F8⟩
        simp (maxSteps := 4000000) (disch := omega) only [ah, am, Nat.reduceEqDiff, reduceCtorEq, Nat.reduceAdd, Nat.reduceLeDiff, Nat.reduceMul, Nat.reduceLT, if_true, if_false, true_and, and_true, and_self, Nat.reduceBEq, QOp.loads, boxO, bslO, buildO, cutL, fillV, putL, w83, v83]
        have hE : editI [(l.set a.toNat X).set b.toNat Y].flatten = editF ((l.set a.toNat X).set b.toNat Y) := by
          rw [List.flatten_cons, List.flatten_nil, List.append_nil]
          unfold editI editF
          by_cases hj : trackOk (join ((l.set a.toNat X).set b.toNat Y))
          · rw [if_pos hj, if_pos ⟨A, hj⟩]
          · rw [if_neg hj, if_neg fun q => hj q.2]
        rw [hE] at F8 ⊢
        rw [hT]
        exact ⟨rv, rfl, F8.mono (E0.trans (F7.1.trans (Ext.more _ _)))⟩
      · have hp' : decide (clipOk Y) = false := decide_eq_false hp
        have hE : editF ((l.set a.toNat X).set b.toNat Y) = ([], false) := if_neg fun q => hp (q.1 _ (List.mem_set (by simpa using hib) _))
        simp (maxSteps := 4000000) (disch := omega) only [ah, am, Nat.reduceEqDiff, reduceCtorEq, Nat.reduceAdd, Nat.reduceLeDiff, Nat.reduceMul, Nat.reduceLT, if_true, if_false, true_and, and_true, and_self, Nat.reduceBEq, QOp.loads, boxO, bslO, buildO, cutL, fillV, putL, w83, v83, hp']
        rw [hT, hE]
        exact ⟨_, rfl, (Fresh.nil _ encClip_len (by omega)).mono (E0.trans F7.1)⟩
    · have hq' : decide (clipOk X) = false := decide_eq_false hq
      have hE : editF ((l.set a.toNat X).set b.toNat Y) = ([], false) := if_neg fun q => hq (q.1 _ (by
        have hm : X ∈ ((l.set a.toNat X).set b.toNat Y) := by
          have q := List.getElem_mem (l := (l.set a.toNat X).set b.toNat Y) (n := a.toNat) (by simpa using hia)
          rw [gx] at q; exact q
        exact hm))
      simp (maxSteps := 4000000) (disch := omega) only [ah, am, Nat.reduceEqDiff, reduceCtorEq, Nat.reduceAdd, Nat.reduceLeDiff, Nat.reduceMul, Nat.reduceLT, if_true, if_false, true_and, and_true, and_self, Nat.reduceBEq, QOp.loads, boxO, bslO, buildO, cutL, fillV, putL, w83, v83, hq']
      rw [hT, hE]
      exact ⟨_, rfl, (Fresh.nil _ encClip_len (by omega)).mono (E0.trans F6.1)⟩
  · have hT : moveF l a b n = ([], false) := if_neg hc
    rw [hT]
    have hlen : trackOk l → l.length ≤ 300 := fun q => q.1
    by_cases ht : trackOk l
    · have ht' : decide (trackOk l) = true := decide_eq_true ht
      have hlen := ht.1
      simp (maxSteps := 4000000) (disch := omega) only [ah, am, Nat.reduceEqDiff, reduceCtorEq, Nat.reduceAdd, Nat.reduceLeDiff, Nat.reduceMul, Nat.reduceLT, if_true, if_false, true_and, and_true, and_self, Nat.reduceBEq, QOp.loads, boxO, bslO, buildO, cutL, fillV, putL, w83, v83, R, ht', i64w]
      have R2 := fun L => (S1.ext (Ext.more H1 L)).rules
      (repeat' first
    | (refine stepC.of (in_ok _ _ _ _) ?_; rintro _ _ ⟨rfl, rfl⟩; simp (maxSteps := 4000000) (disch := omega) only [ah, am, Nat.reduceEqDiff, reduceCtorEq, Nat.reduceAdd, Nat.reduceLeDiff, Nat.reduceMul, Nat.reduceLT, if_true, if_false, true_and, and_true, and_self, Nat.reduceBEq, QOp.loads, boxO, bslO, buildO, cutL, fillV, putL, i64w, w83, v83, R, R2, ht'])
    | (refine stepC.of (isGap_ok _ _) ?_; rintro _ _ ⟨rfl, rfl⟩; simp (maxSteps := 4000000) (disch := omega) only [ah, am, Nat.reduceEqDiff, reduceCtorEq, Nat.reduceAdd, Nat.reduceLeDiff, Nat.reduceMul, Nat.reduceLT, if_true, if_false, true_and, and_true, and_self, Nat.reduceBEq, QOp.loads, boxO, bslO, buildO, cutL, fillV, putL, i64w, w83, v83, R, R2, ht'])
    | (refine stepG.cases (fun _ hp => ?_) (fun _ hp => ?_) <;> simp (maxSteps := 4000000) (disch := omega) only [hp, ah, am, Nat.reduceEqDiff, reduceCtorEq, Nat.reduceAdd, Nat.reduceLeDiff, Nat.reduceMul, Nat.reduceLT, if_true, if_false, true_and, and_true, and_self, Nat.reduceBEq, QOp.loads, boxO, bslO, buildO, cutL, fillV, putL, i64w, w83, v83, R, R2, ht'])
    | (refine stepI.cases (fun _ hp => ?_) (fun _ hp => ?_) <;> simp (maxSteps := 4000000) (disch := omega) only [hp, ah, am, Nat.reduceEqDiff, reduceCtorEq, Nat.reduceAdd, Nat.reduceLeDiff, Nat.reduceMul, Nat.reduceLT, if_true, if_false, true_and, and_true, and_self, Nat.reduceBEq, QOp.loads, boxO, bslO, buildO, cutL, fillV, putL, i64w, w83, v83, R, R2, ht']))
      all_goals first
        | exact ⟨_, rfl, (Fresh.nil _ encClip_len (by omega)).mono e1⟩
        | exact ⟨_, rfl, (Fresh.nil _ encClip_len (by omega)).mono (e1.trans (Ext.more _ _))⟩
        | (exfalso; apply hc; refine ⟨ht, by assumption, ⟨by omega, by omega, ?_⟩, ⟨by omega, by omega, ?_⟩⟩ <;> (rw [cAt_eq _ _ (by omega)]; assumption))
    · have ht' : decide (trackOk l) = false := decide_eq_false ht
      simp (maxSteps := 4000000) (disch := omega) only [ah, am, Nat.reduceEqDiff, reduceCtorEq, Nat.reduceAdd, Nat.reduceLeDiff, Nat.reduceMul, Nat.reduceLT, if_true, if_false, true_and, and_true, and_self, Nat.reduceBEq, QOp.loads, boxO, bslO, buildO, cutL, fillV, putL, w83, v83, R, ht', i64w]
      exact ⟨_, rfl, (Fresh.nil _ encClip_len (by omega)).mono e1⟩
theorem Roll_ok (h : Heap) (v : Value) (l : List Clip) (i n : Int) (s : SlT h encClip 3 v l) (hl : l.length ≤ 1100000) :
    ACall Try.prog 37 [v, .int .i64 i, .int .i64 n] h fun r h' => Pair h h' r (moveF l i (i + 1) n) := by
  refine ACall.of Try.func37 s37 (of_decide_eq_true rfl) ?_
  have R := s.rules
  simp (maxSteps := 4000000) (disch := omega) only [ah, am, Nat.reduceEqDiff, reduceCtorEq, Nat.reduceAdd, Nat.reduceLeDiff, Nat.reduceMul, Nat.reduceLT, if_true, if_false, true_and, and_true, and_self, Nat.reduceBEq, QOp.loads, boxO, bslO, buildO, cutL, fillV, putL, w37, v37, R, i64w]
  refine stepC.of (in_ok _ _ _ _) ?_
  rintro _ Hx ⟨hx, rfl⟩; rw [hx]; clear hx Hx
  by_cases hi : 0 ≤ i ∧ i ≤ (l.length : Int) - 2
  · have hi' : decide (0 ≤ i ∧ i ≤ (l.length : Int) - 2) = true := decide_eq_true hi
    simp (maxSteps := 4000000) (disch := omega) only [ah, am, Nat.reduceEqDiff, reduceCtorEq, Nat.reduceAdd, Nat.reduceLeDiff, Nat.reduceMul, Nat.reduceLT, if_true, if_false, true_and, and_true, and_self, Nat.reduceBEq, QOp.loads, boxO, bslO, buildO, cutL, fillV, putL, w37, v37, hi', i64w]
    refine stepC.of (moved_ok _ _ _ _ _ _ s hl (by omega)) ?_
    rintro _ H ⟨rv, rfl, F⟩
    simp (maxSteps := 4000000) (disch := omega) only [ah, am, Nat.reduceEqDiff, reduceCtorEq, Nat.reduceAdd, Nat.reduceLeDiff, Nat.reduceMul, Nat.reduceLT, if_true, if_false, true_and, and_true, and_self, Nat.reduceBEq, QOp.loads, boxO, bslO, buildO, cutL, fillV, putL, w37, v37]
    exact ⟨rv, rfl, F⟩
  · have hi' : decide (0 ≤ i ∧ i ≤ (l.length : Int) - 2) = false := decide_eq_false hi
    have hT : moveF l i (i + 1) n = ([], false) := if_neg fun q => hi ⟨q.2.2.1.1, by have := q.2.2.2.2.1; omega⟩
    simp (maxSteps := 4000000) (disch := omega) only [ah, am, Nat.reduceEqDiff, reduceCtorEq, Nat.reduceAdd, Nat.reduceLeDiff, Nat.reduceMul, Nat.reduceLT, if_true, if_false, true_and, and_true, and_self, Nat.reduceBEq, QOp.loads, boxO, bslO, buildO, cutL, fillV, putL, w37, v37, hi']
    rw [hT]
    exact ⟨_, rfl, Fresh.nil h encClip_len (by omega)⟩
theorem Slide_ok (h : Heap) (v : Value) (l : List Clip) (i n : Int) (s : SlT h encClip 3 v l) (hl : l.length ≤ 1100000) :
    ACall Try.prog 41 [v, .int .i64 i, .int .i64 n] h fun r h' => Pair h h' r (slideF l i n) := by
  refine ACall.of Try.func41 s41 (of_decide_eq_true rfl) ?_
  have R := s.rules
  simp (maxSteps := 4000000) (disch := omega) only [ah, am, Nat.reduceEqDiff, reduceCtorEq, Nat.reduceAdd, Nat.reduceLeDiff, Nat.reduceMul, Nat.reduceLT, if_true, if_false, true_and, and_true, and_self, Nat.reduceBEq, QOp.loads, boxO, bslO, buildO, cutL, fillV, putL, w41, v41, R, i64w]
  refine stepC.of (in_ok _ _ _ _) ?_
  rintro _ Hx ⟨hx, rfl⟩; rw [hx]; clear hx Hx
  by_cases hi : 1 ≤ i ∧ i ≤ (l.length : Int) - 2
  · have hi' : decide (1 ≤ i ∧ i ≤ (l.length : Int) - 2) = true := decide_eq_true hi
    have C := cAt_eq l i (by omega)
    simp (maxSteps := 4000000) (disch := omega) only [ah, am, Nat.reduceEqDiff, reduceCtorEq, Nat.reduceAdd, Nat.reduceLeDiff, Nat.reduceMul, Nat.reduceLT, if_true, if_false, true_and, and_true, and_self, Nat.reduceBEq, QOp.loads, boxO, bslO, buildO, cutL, fillV, putL, w41, v41, R, hi', i64w]
    rw [← C]
    refine stepC.of (isGap_ok _ _) ?_
    rintro _ Hx ⟨hx, rfl⟩; rw [hx]; clear hx Hx
    by_cases hg : (cAt l i).src = 0
    · have hg' : decide ((cAt l i).src = 0) = true := decide_eq_true hg
      have hT : slideF l i n = ([], false) := if_neg fun q => q.2.2.2 hg
      simp (maxSteps := 4000000) (disch := omega) only [ah, am, Nat.reduceEqDiff, reduceCtorEq, Nat.reduceAdd, Nat.reduceLeDiff, Nat.reduceMul, Nat.reduceLT, if_true, if_false, true_and, and_true, and_self, Nat.reduceBEq, QOp.loads, boxO, bslO, buildO, cutL, fillV, putL, w41, v41, hg', hi', i64w]
      rw [hT]
      exact ⟨_, rfl, (Fresh.nil _ encClip_len (by omega)).mono (Ext.more _ _)⟩
    · have hg' : decide ((cAt l i).src = 0) = false := decide_eq_false hg
      have hT : slideF l i n = moveF l (i - 1) (i + 1) n := if_pos ⟨hi.1, by omega, by omega, hg⟩
      simp (maxSteps := 4000000) (disch := omega) only [ah, am, Nat.reduceEqDiff, reduceCtorEq, Nat.reduceAdd, Nat.reduceLeDiff, Nat.reduceMul, Nat.reduceLT, if_true, if_false, true_and, and_true, and_self, Nat.reduceBEq, QOp.loads, boxO, bslO, buildO, cutL, fillV, putL, w41, v41, hg', hi', i64w]
      refine stepC.of (moved_ok _ _ _ _ _ _ (s.ext (Ext.more _ _)) hl (by omega)) ?_
      rintro _ H ⟨rv, rfl, F⟩
      simp (maxSteps := 4000000) (disch := omega) only [ah, am, Nat.reduceEqDiff, reduceCtorEq, Nat.reduceAdd, Nat.reduceLeDiff, Nat.reduceMul, Nat.reduceLT, if_true, if_false, true_and, and_true, and_self, Nat.reduceBEq, QOp.loads, boxO, bslO, buildO, cutL, fillV, putL, w41, v41]
      rw [hT]
      exact ⟨rv, rfl, F.mono (Ext.more _ _)⟩
  · have hi' : decide (1 ≤ i ∧ i ≤ (l.length : Int) - 2) = false := decide_eq_false hi
    have hT : slideF l i n = ([], false) := by
      unfold slideF; split
      · rename_i q; exact if_neg fun q2 => hi ⟨q.1, by have := q2.2.2.2.2.1; omega⟩
      · rfl
    simp (maxSteps := 4000000) (disch := omega) only [ah, am, Nat.reduceEqDiff, reduceCtorEq, Nat.reduceAdd, Nat.reduceLeDiff, Nat.reduceMul, Nat.reduceLT, if_true, if_false, true_and, and_true, and_self, Nat.reduceBEq, QOp.loads, boxO, bslO, buildO, cutL, fillV, putL, w41, v41, hi']
    rw [hT]
    exact ⟨_, rfl, Fresh.nil h encClip_len (by omega)⟩
end Go.Proofs.Ytknpombiomnkbaa
