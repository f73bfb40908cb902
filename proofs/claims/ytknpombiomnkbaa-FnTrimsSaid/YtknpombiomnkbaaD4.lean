import Derived.Test.YtknpombiomnkbaaD3
import Derived.Test.YtknpombiomnkbaaS6
namespace Go.Proofs.Ytknpombiomnkbaa
open Go Go.Ah
set_option linter.unusedSimpArgs false
set_option linter.unusedVariables false
set_option maxRecDepth 10000
set_option maxHeartbeats 4000000
/-! 80 loop.example/g00066/spec.l4DrawAt: parameters 2, live [0, 1], slots [0:c, 1:t, 2:c, 3:t, 5:n] -/
def c80_0 : List SOper := [⟨some 4, .q (.mv (.c (.int .i64 0))), none⟩]
def c80_1 : List SOper := [⟨some 5, .q (.mv (.c (.int .i64 10))), none⟩]
def c80_2 : List SOper := [⟨some 6, .q (.mv (.t 1)), none⟩, ⟨some 7, .e (.call 55 [(.t 6)]), none⟩]
def c80_3 : List SOper := [⟨some 8, .q (.mv (.t 1)), none⟩, ⟨some 9, .e (.call 63 [(.t 8)]), none⟩, ⟨some 5, .q (.mv (.t 9)), none⟩]
def c80_4 : SCode := .cond (.t 7) (.region c80_3 [0, 5]) .skip
def c80_5 : SCode := .seq (.region c80_2 [0, 1, 5, 7]) c80_4
def c80_6 : List SOper := [⟨some 10, .q (.mv (.t 0)), none⟩, ⟨some 11, .e (.call 49 [(.t 10), (.c (.int .i64 16))]), none⟩]
def c80_7 : List SOper := [⟨some 12, .q (.mv (.t 5)), none⟩, ⟨some 13, .q (.mv (.t 5)), none⟩, ⟨some 14, .q (.bin .add (.t 13) (.c (.int .i64 1))), none⟩, ⟨some 15, .a (.bsl 4 1 [(.int .i64 0), (.int .i64 0), (.int .i64 0), (.int .i64 0)] [(0, 1, (.c (.int .i64 (-1)))), (1, 1, (.t 12)), (2, 1, (.t 14)), (3, 1, (.c (.int .i64 4611686018427387904)))]), none⟩, ⟨some 16, .q (.mv (.t 0)), none⟩, ⟨some 17, .e (.call 47 [(.t 16), (.c (.int .i64 4))]), none⟩, ⟨some 18, .q (.ia 1 (.t 15) (.t 17)), none⟩, ⟨some 19, .q (.ld (.t 18)), none⟩, ⟨some 4, .q (.mv (.t 19)), none⟩]
def c80_8 : SCode := .seq (.region c80_7 [4]) .ret
def c80_9 : SCode := .cond (.t 11) c80_8 .skip
def c80_10 : SCode := .seq (.region c80_6 [0, 5, 11]) c80_9
def c80_11 : List SOper := [⟨some 20, .q (.mv (.t 0)), none⟩, ⟨some 21, .q (.mv (.t 5)), none⟩, ⟨some 22, .q (.bin .add (.t 21) (.c (.int .i64 1))), none⟩, ⟨some 23, .e (.call 47 [(.t 20), (.t 22)]), none⟩, ⟨some 4, .q (.mv (.t 23)), none⟩]
def c80_12 : SCode := .seq (.region c80_11 [4]) .ret
def c80_13 : SCode := .seq c80_10 c80_12
def c80_14 : SCode := .seq c80_5 c80_13
def c80_15 : SCode := .seq (.region c80_1 [0, 1, 5]) c80_14
def c80_16 : SCode := .seq (.region c80_0 [0, 1]) c80_15
def c80 : SCode := c80_16
theorem w80 : type_of% (And.intro (uR Try.prog c80_0.eq_1) (And.intro (uR Try.prog c80_1.eq_1) (And.intro (uR Try.prog c80_2.eq_1) (And.intro (uR Try.prog c80_3.eq_1) (And.intro (uC Try.prog c80_4.eq_1) (And.intro (uC Try.prog c80_5.eq_1) (And.intro (uR Try.prog c80_6.eq_1) (And.intro (uR Try.prog c80_7.eq_1) (And.intro (uC Try.prog c80_8.eq_1) (And.intro (uC Try.prog c80_9.eq_1) (And.intro (uC Try.prog c80_10.eq_1) (And.intro (uR Try.prog c80_11.eq_1) (And.intro (uC Try.prog c80_12.eq_1) (And.intro (uC Try.prog c80_13.eq_1) (And.intro (uC Try.prog c80_14.eq_1) (And.intro (uC Try.prog c80_15.eq_1) (And.intro (uC Try.prog c80_16.eq_1) (uC Try.prog c80.eq_1)))))))))))))))))) := (And.intro (uR Try.prog c80_0.eq_1) (And.intro (uR Try.prog c80_1.eq_1) (And.intro (uR Try.prog c80_2.eq_1) (And.intro (uR Try.prog c80_3.eq_1) (And.intro (uC Try.prog c80_4.eq_1) (And.intro (uC Try.prog c80_5.eq_1) (And.intro (uR Try.prog c80_6.eq_1) (And.intro (uR Try.prog c80_7.eq_1) (And.intro (uC Try.prog c80_8.eq_1) (And.intro (uC Try.prog c80_9.eq_1) (And.intro (uC Try.prog c80_10.eq_1) (And.intro (uR Try.prog c80_11.eq_1) (And.intro (uC Try.prog c80_12.eq_1) (And.intro (uC Try.prog c80_13.eq_1) (And.intro (uC Try.prog c80_14.eq_1) (And.intro (uC Try.prog c80_15.eq_1) (And.intro (uC Try.prog c80_16.eq_1) (uC Try.prog c80.eq_1))))))))))))))))))
def v80 : List RV := [.t 4]
theorem s80 : slimF Try.prog Try.f80 = some (c80.bare, v80) := by kernel_rfl

/-! 11 loop.example/g00066/spec.DrawRelink: parameters 1, live [0], slots [0:code, 1:code, 6:c, 7:t, 8:a, 9:b, 10:n] -/
def c11_0 : List SOper := [⟨some 2, .q (.mv (.c (.slice none 0 0))), none⟩, ⟨some 3, .q (.mv (.c (.int .i64 0))), none⟩, ⟨some 4, .q (.mv (.c (.int .i64 0))), none⟩, ⟨some 5, .q (.mv (.c (.int .i64 0))), none⟩]
def c11_1 : List SOper := [⟨some 11, .q (.mv (.t 0)), none⟩, ⟨some 12, .e (.call 45 [(.t 11)]), none⟩, ⟨some 6, .q (.mv (.t 12)), none⟩]
def c11_2 : List SOper := [⟨some 13, .q (.mv (.t 6)), none⟩, ⟨some 14, .e (.call 46 [(.t 13)]), none⟩, ⟨some 7, .q (.mv (.t 14)), none⟩]
def c11_3 : List SOper := [⟨some 15, .q (.mv (.t 6)), none⟩, ⟨some 16, .e (.call 47 [(.t 15), (.c (.int .i64 3))]), none⟩, ⟨some 17, .q (.bin .add (.c (.int .i64 1)) (.t 16)), none⟩, ⟨some 8, .q (.mv (.t 17)), none⟩]
def c11_4 : List SOper := [⟨some 18, .q (.mv (.t 6)), none⟩, ⟨some 19, .e (.call 47 [(.t 18), (.c (.int .i64 5))]), none⟩, ⟨some 20, .q (.bin .add (.c (.int .i64 1)) (.t 19)), none⟩, ⟨some 9, .q (.mv (.t 20)), none⟩]
def c11_5 : List SOper := [⟨some 21, .q (.mv (.t 6)), none⟩, ⟨some 22, .e (.call 48 [(.t 21), (.c (.int .i64 (-5))), (.c (.int .i64 20))]), none⟩, ⟨some 10, .q (.mv (.t 22)), none⟩]
def c11_6 : List SOper := [⟨some 23, .q (.mv (.t 6)), none⟩, ⟨some 24, .e (.call 49 [(.t 23), (.c (.int .i64 16))]), none⟩]
def c11_7 : List SOper := [⟨some 25, .a (.bsl 3 1 [(.int .i64 0), (.int .i64 0), (.int .i64 0)] [(0, 1, (.c (.int .i64 0))), (1, 1, (.c (.int .i64 500))), (2, 1, (.c (.int .i64 501)))]), none⟩, ⟨some 26, .q (.mv (.t 6)), none⟩, ⟨some 27, .e (.call 47 [(.t 26), (.c (.int .i64 3))]), none⟩, ⟨some 28, .q (.ia 1 (.t 25) (.t 27)), none⟩, ⟨some 29, .q (.ld (.t 28)), none⟩, ⟨some 8, .q (.mv (.t 29)), none⟩]
def c11_8 : List SOper := [⟨some 30, .a (.bsl 4 1 [(.int .i64 0), (.int .i64 0), (.int .i64 0), (.int .i64 0)] [(0, 1, (.c (.int .i64 (-9223372036854775808)))), (1, 1, (.c (.int .i64 10000000))), (2, 1, (.c (.int .i64 4611686018427387904))), (3, 1, (.c (.int .i64 0)))]), none⟩, ⟨some 31, .q (.mv (.t 6)), none⟩, ⟨some 32, .e (.call 47 [(.t 31), (.c (.int .i64 4))]), none⟩, ⟨some 33, .q (.ia 1 (.t 30) (.t 32)), none⟩, ⟨some 34, .q (.ld (.t 33)), none⟩, ⟨some 10, .q (.mv (.t 34)), none⟩]
def c11_9 : SCode := .seq (.region c11_7 [6, 7, 8, 9]) (.region c11_8 [6, 7, 8, 9, 10])
def c11_10 : SCode := .cond (.t 24) c11_9 .skip
def c11_11 : SCode := .seq (.region c11_6 [6, 7, 8, 9, 10, 24]) c11_10
def c11_12 : List SOper := [⟨some 35, .q (.mv (.t 6)), none⟩, ⟨some 36, .e (.call 49 [(.t 35), (.c (.int .i64 16))]), none⟩]
def c11_13 : List SOper := [⟨some 37, .a (.bsl 3 1 [(.int .i64 0), (.int .i64 0), (.int .i64 0)] [(0, 1, (.c (.int .i64 0))), (1, 1, (.c (.int .i64 500))), (2, 1, (.c (.int .i64 501)))]), none⟩, ⟨some 38, .q (.mv (.t 6)), none⟩, ⟨some 39, .e (.call 47 [(.t 38), (.c (.int .i64 3))]), none⟩, ⟨some 40, .q (.ia 1 (.t 37) (.t 39)), none⟩, ⟨some 41, .q (.ld (.t 40)), none⟩, ⟨some 9, .q (.mv (.t 41)), none⟩]
def c11_14 : SCode := .cond (.t 36) (.region c11_13 [7, 8, 9, 10]) .skip
def c11_15 : SCode := .seq (.region c11_12 [6, 7, 8, 9, 10, 36]) c11_14
def c11_16 : List SOper := [⟨some 42, .q (.mv (.t 7)), none⟩, ⟨some 43, .q (.mv (.t 8)), none⟩, ⟨some 44, .q (.mv (.t 9)), none⟩, ⟨some 45, .q (.mv (.t 10)), none⟩, ⟨some 2, .q (.mv (.t 42)), none⟩, ⟨some 3, .q (.mv (.t 43)), none⟩, ⟨some 4, .q (.mv (.t 44)), none⟩, ⟨some 5, .q (.mv (.t 45)), none⟩]
def c11_17 : SCode := .seq (.region c11_16 [2, 3, 4, 5]) .ret
def c11_18 : SCode := .seq c11_15 c11_17
def c11_19 : SCode := .seq c11_11 c11_18
def c11_20 : SCode := .seq (.region c11_5 [6, 7, 8, 9, 10]) c11_19
def c11_21 : SCode := .seq (.region c11_4 [6, 7, 8, 9]) c11_20
def c11_22 : SCode := .seq (.region c11_3 [6, 7, 8]) c11_21
def c11_23 : SCode := .seq (.region c11_2 [6, 7]) c11_22
def c11_24 : SCode := .seq (.region c11_1 [6]) c11_23
def c11_25 : SCode := .seq (.region c11_0 [0]) c11_24
def c11 : SCode := c11_25
theorem w11 : type_of% (And.intro (uR Try.prog c11_0.eq_1) (And.intro (uR Try.prog c11_1.eq_1) (And.intro (uR Try.prog c11_2.eq_1) (And.intro (uR Try.prog c11_3.eq_1) (And.intro (uR Try.prog c11_4.eq_1) (And.intro (uR Try.prog c11_5.eq_1) (And.intro (uR Try.prog c11_6.eq_1) (And.intro (uR Try.prog c11_7.eq_1) (And.intro (uR Try.prog c11_8.eq_1) (And.intro (uC Try.prog c11_9.eq_1) (And.intro (uC Try.prog c11_10.eq_1) (And.intro (uC Try.prog c11_11.eq_1) (And.intro (uR Try.prog c11_12.eq_1) (And.intro (uR Try.prog c11_13.eq_1) (And.intro (uC Try.prog c11_14.eq_1) (And.intro (uC Try.prog c11_15.eq_1) (And.intro (uR Try.prog c11_16.eq_1) (And.intro (uC Try.prog c11_17.eq_1) (And.intro (uC Try.prog c11_18.eq_1) (And.intro (uC Try.prog c11_19.eq_1) (And.intro (uC Try.prog c11_20.eq_1) (And.intro (uC Try.prog c11_21.eq_1) (And.intro (uC Try.prog c11_22.eq_1) (And.intro (uC Try.prog c11_23.eq_1) (And.intro (uC Try.prog c11_24.eq_1) (And.intro (uC Try.prog c11_25.eq_1) (uC Try.prog c11.eq_1))))))))))))))))))))))))))) := (And.intro (uR Try.prog c11_0.eq_1) (And.intro (uR Try.prog c11_1.eq_1) (And.intro (uR Try.prog c11_2.eq_1) (And.intro (uR Try.prog c11_3.eq_1) (And.intro (uR Try.prog c11_4.eq_1) (And.intro (uR Try.prog c11_5.eq_1) (And.intro (uR Try.prog c11_6.eq_1) (And.intro (uR Try.prog c11_7.eq_1) (And.intro (uR Try.prog c11_8.eq_1) (And.intro (uC Try.prog c11_9.eq_1) (And.intro (uC Try.prog c11_10.eq_1) (And.intro (uC Try.prog c11_11.eq_1) (And.intro (uR Try.prog c11_12.eq_1) (And.intro (uR Try.prog c11_13.eq_1) (And.intro (uC Try.prog c11_14.eq_1) (And.intro (uC Try.prog c11_15.eq_1) (And.intro (uR Try.prog c11_16.eq_1) (And.intro (uC Try.prog c11_17.eq_1) (And.intro (uC Try.prog c11_18.eq_1) (And.intro (uC Try.prog c11_19.eq_1) (And.intro (uC Try.prog c11_20.eq_1) (And.intro (uC Try.prog c11_21.eq_1) (And.intro (uC Try.prog c11_22.eq_1) (And.intro (uC Try.prog c11_23.eq_1) (And.intro (uC Try.prog c11_24.eq_1) (And.intro (uC Try.prog c11_25.eq_1) (uC Try.prog c11.eq_1)))))))))))))))))))))))))))
def v11 : List RV := [.t 2, .t 3, .t 4, .t 5]
theorem s11 : slimF Try.prog Try.f11 = some (c11.bare, v11) := by kernel_rfl

/-! 17 loop.example/g00066/spec.DrawReverse: parameters 1, live [0], slots [0:code, 1:code, 3:c, 4:t] -/
def c17_0 : List SOper := [⟨some 2, .q (.mv (.c (.slice none 0 0))), none⟩]
def c17_1 : List SOper := [⟨some 5, .q (.mv (.t 0)), none⟩, ⟨some 6, .e (.call 45 [(.t 5)]), none⟩, ⟨some 3, .q (.mv (.t 6)), none⟩]
def c17_2 : List SOper := [⟨some 7, .q (.mv (.t 3)), none⟩, ⟨some 8, .e (.call 46 [(.t 7)]), none⟩, ⟨some 4, .q (.mv (.t 8)), none⟩]
def c17_3 : List SOper := [⟨some 9, .q (.mv (.t 3)), none⟩, ⟨some 10, .e (.call 49 [(.t 9), (.c (.int .i64 20))]), none⟩]
def c17_4 : List SOper := [⟨some 11, .q (.mv (.t 4)), none⟩, ⟨some 12, .a (.bsl 5 1 [(.int .i64 0), (.int .i64 0), (.int .i64 0), (.int .i64 0), (.int .i64 0)] [(0, 1, (.c (.int .i64 2000))), (1, 1, (.c (.int .i64 250))), (2, 1, (.c (.int .i64 280))), (3, 1, (.c (.int .i64 299))), (4, 1, (.c (.int .i64 300)))]), none⟩, ⟨some 13, .q (.mv (.t 3)), none⟩, ⟨some 14, .e (.call 47 [(.t 13), (.c (.int .i64 5))]), none⟩, ⟨some 15, .q (.ia 1 (.t 12) (.t 14)), none⟩, ⟨some 16, .q (.ld (.t 15)), none⟩, ⟨some 17, .q (.build [(.int .i64 0), (.int .i64 0), (.int .i64 0)] [(0, 1, (.c (.int .i64 2))), (2, 1, (.t 16))]), none⟩, ⟨some 18, .a (.bsl 1 3 [(.int .i64 0), (.int .i64 0), (.int .i64 0)] [(0, 3, (.t 17))]), none⟩, ⟨some 19, .e (.app 24 3 (.t 11) (.t 18)), none⟩, ⟨some 4, .q (.mv (.t 19)), none⟩]
def c17_5 : SCode := .cond (.t 10) (.region c17_4 [4]) .skip
def c17_6 : SCode := .seq (.region c17_3 [3, 4, 10]) c17_5
def c17_7 : List SOper := [⟨some 20, .q (.mv (.t 4)), none⟩, ⟨some 2, .q (.mv (.t 20)), none⟩]
def c17_8 : SCode := .seq (.region c17_7 [2]) .ret
def c17_9 : SCode := .seq c17_6 c17_8
def c17_10 : SCode := .seq (.region c17_2 [3, 4]) c17_9
def c17_11 : SCode := .seq (.region c17_1 [3]) c17_10
def c17_12 : SCode := .seq (.region c17_0 [0]) c17_11
def c17 : SCode := c17_12
theorem w17 : type_of% (And.intro (uR Try.prog c17_0.eq_1) (And.intro (uR Try.prog c17_1.eq_1) (And.intro (uR Try.prog c17_2.eq_1) (And.intro (uR Try.prog c17_3.eq_1) (And.intro (uR Try.prog c17_4.eq_1) (And.intro (uC Try.prog c17_5.eq_1) (And.intro (uC Try.prog c17_6.eq_1) (And.intro (uR Try.prog c17_7.eq_1) (And.intro (uC Try.prog c17_8.eq_1) (And.intro (uC Try.prog c17_9.eq_1) (And.intro (uC Try.prog c17_10.eq_1) (And.intro (uC Try.prog c17_11.eq_1) (And.intro (uC Try.prog c17_12.eq_1) (uC Try.prog c17.eq_1)))))))))))))) := (And.intro (uR Try.prog c17_0.eq_1) (And.intro (uR Try.prog c17_1.eq_1) (And.intro (uR Try.prog c17_2.eq_1) (And.intro (uR Try.prog c17_3.eq_1) (And.intro (uR Try.prog c17_4.eq_1) (And.intro (uC Try.prog c17_5.eq_1) (And.intro (uC Try.prog c17_6.eq_1) (And.intro (uR Try.prog c17_7.eq_1) (And.intro (uC Try.prog c17_8.eq_1) (And.intro (uC Try.prog c17_9.eq_1) (And.intro (uC Try.prog c17_10.eq_1) (And.intro (uC Try.prog c17_11.eq_1) (And.intro (uC Try.prog c17_12.eq_1) (uC Try.prog c17.eq_1))))))))))))))
def v17 : List RV := [.t 2]
theorem s17 : slimF Try.prog Try.f17 = some (c17.bare, v17) := by kernel_rfl

/-! 31 loop.example/g00066/spec.DrawInsert: parameters 1, live [0], slots [0:code, 1:code, 5:c, 6:t, 7:k] -/
def c31_0 : List SOper := [⟨some 2, .q (.mv (.c (.slice none 0 0))), none⟩, ⟨some 3, .q (.mv (.c (.int .i64 0))), none⟩, ⟨some 4, .a (.new [(.int .i64 0), (.int .i64 0), (.int .i64 0)]), none⟩]
def c31_1 : List SOper := [⟨some 8, .q (.mv (.t 0)), none⟩, ⟨some 9, .e (.call 45 [(.t 8)]), none⟩, ⟨some 5, .q (.mv (.t 9)), none⟩]
def c31_2 : List SOper := [⟨some 10, .q (.mv (.t 5)), none⟩, ⟨some 11, .e (.call 46 [(.t 10)]), none⟩, ⟨some 6, .q (.mv (.t 11)), none⟩]
def c31_3 : List SOper := [⟨some 12, .q (.mv (.t 5)), none⟩, ⟨some 13, .e (.call 79 [(.t 12)]), none⟩, ⟨some 7, .a (.new [(.int .i64 0), (.int .i64 0), (.int .i64 0)]), none⟩, ⟨none, .e (.st 3 (.t 7) (.t 13)), none⟩]
def c31_4 : List DOper := [⟨0, ⟨some 14, .q (.mv (.t 6)), none⟩, [], []⟩, ⟨1, ⟨some 15, .q (.mv (.t 5)), none⟩, [], []⟩, ⟨2, ⟨some 16, .q (.mv (.t 6)), none⟩, [], []⟩, ⟨4, ⟨some 18, .q (.ldn 3 (.t 7)), none⟩, [], []⟩, ⟨3, ⟨some 17, .e (.call 80 [(.t 15), (.t 16)]), none⟩, [], [4]⟩, ⟨5, ⟨some 2, .q (.mv (.t 14)), none⟩, [], []⟩, ⟨6, ⟨some 3, .q (.mv (.t 17)), none⟩, [], []⟩, ⟨7, ⟨none, .e (.st 3 (.t 4) (.t 18)), none⟩, [], []⟩]
def c31_5 : SCode := .seq (.dregion c31_4 [2, 3, 4]) .ret
def c31_6 : SCode := .seq (.region c31_3 [4, 5, 6, 7]) c31_5
def c31_7 : SCode := .seq (.region c31_2 [4, 5, 6]) c31_6
def c31_8 : SCode := .seq (.region c31_1 [4, 5]) c31_7
def c31_9 : SCode := .seq (.region c31_0 [0, 4]) c31_8
def c31 : SCode := c31_9
theorem w31 : type_of% (And.intro (uR Try.prog c31_0.eq_1) (And.intro (uR Try.prog c31_1.eq_1) (And.intro (uR Try.prog c31_2.eq_1) (And.intro (uR Try.prog c31_3.eq_1) (And.intro (uD Try.prog c31_4.eq_1) (And.intro (uC Try.prog c31_5.eq_1) (And.intro (uC Try.prog c31_6.eq_1) (And.intro (uC Try.prog c31_7.eq_1) (And.intro (uC Try.prog c31_8.eq_1) (And.intro (uC Try.prog c31_9.eq_1) (uC Try.prog c31.eq_1))))))))))) := (And.intro (uR Try.prog c31_0.eq_1) (And.intro (uR Try.prog c31_1.eq_1) (And.intro (uR Try.prog c31_2.eq_1) (And.intro (uR Try.prog c31_3.eq_1) (And.intro (uD Try.prog c31_4.eq_1) (And.intro (uC Try.prog c31_5.eq_1) (And.intro (uC Try.prog c31_6.eq_1) (And.intro (uC Try.prog c31_7.eq_1) (And.intro (uC Try.prog c31_8.eq_1) (And.intro (uC Try.prog c31_9.eq_1) (uC Try.prog c31.eq_1)))))))))))
def v31 : List RV := [.t 2, .t 3, .c 4 (some 3)]
theorem s31 : slimF Try.prog Try.f31 = some (c31.bare, v31) := by kernel_rfl

/-! 21 loop.example/g00066/spec.DrawOverwrite: parameters 1, live [0], slots [0:code, 1:code] -/
def c21_0 : List SOper := [⟨some 2, .q (.mv (.c (.slice none 0 0))), none⟩, ⟨some 3, .q (.mv (.c (.int .i64 0))), none⟩, ⟨some 4, .a (.new [(.int .i64 0), (.int .i64 0), (.int .i64 0)]), none⟩]
def c21_1 : List SOper := [⟨some 5, .q (.mv (.t 0)), none⟩, ⟨some 6, .e (.call 31 [(.t 5)]), none⟩, ⟨some 7, .q (.ext (.t 6) 0), none⟩, ⟨some 8, .q (.ext (.t 6) 1), none⟩, ⟨some 9, .q (.ext (.t 6) 2), none⟩, ⟨some 2, .q (.mv (.t 7)), none⟩, ⟨some 3, .q (.mv (.t 8)), none⟩, ⟨none, .e (.st 3 (.t 4) (.t 9)), none⟩]
def c21_2 : SCode := .seq (.region c21_1 [2, 3, 4]) .ret
def c21_3 : SCode := .seq (.region c21_0 [0, 4]) c21_2
def c21 : SCode := c21_3
theorem w21 : type_of% (And.intro (uR Try.prog c21_0.eq_1) (And.intro (uR Try.prog c21_1.eq_1) (And.intro (uC Try.prog c21_2.eq_1) (And.intro (uC Try.prog c21_3.eq_1) (uC Try.prog c21.eq_1))))) := (And.intro (uR Try.prog c21_0.eq_1) (And.intro (uR Try.prog c21_1.eq_1) (And.intro (uC Try.prog c21_2.eq_1) (And.intro (uC Try.prog c21_3.eq_1) (uC Try.prog c21.eq_1)))))
def v21 : List RV := [.t 2, .t 3, .c 4 (some 3)]
theorem s21 : slimF Try.prog Try.f21 = some (c21.bare, v21) := by kernel_rfl

/-! 76 loop.example/g00066/spec.DrawExtract: parameters 1, live [0], slots [0:code, 1:code, 5:c, 6:t, 7:a, 8:n] -/
def c76_0 : List SOper := [⟨some 2, .q (.mv (.c (.slice none 0 0))), none⟩, ⟨some 3, .q (.mv (.c (.int .i64 0))), none⟩, ⟨some 4, .q (.mv (.c (.int .i64 0))), none⟩]
def c76_1 : List SOper := [⟨some 9, .q (.mv (.t 0)), none⟩, ⟨some 10, .e (.call 45 [(.t 9)]), none⟩, ⟨some 5, .q (.mv (.t 10)), none⟩]
def c76_2 : List SOper := [⟨some 11, .q (.mv (.t 5)), none⟩, ⟨some 12, .e (.call 46 [(.t 11)]), none⟩, ⟨some 6, .q (.mv (.t 12)), none⟩]
def c76_3 : List SOper := [⟨some 13, .q (.mv (.t 5)), none⟩, ⟨some 14, .q (.mv (.t 6)), none⟩, ⟨some 15, .e (.call 80 [(.t 13), (.t 14)]), none⟩, ⟨some 7, .q (.mv (.t 15)), none⟩]
def c76_4 : List SOper := [⟨some 16, .q (.mv (.t 5)), none⟩, ⟨some 17, .e (.call 47 [(.t 16), (.c (.int .i64 20))]), none⟩, ⟨some 18, .q (.bin .add (.c (.int .i64 1)) (.t 17)), none⟩, ⟨some 8, .q (.mv (.t 18)), none⟩]
def c76_5 : List SOper := [⟨some 19, .q (.mv (.t 5)), none⟩, ⟨some 20, .e (.call 49 [(.t 19), (.c (.int .i64 12))]), none⟩]
def c76_6 : List SOper := [⟨some 21, .a (.bsl 4 1 [(.int .i64 0), (.int .i64 0), (.int .i64 0), (.int .i64 0)] [(0, 1, (.c (.int .i64 0))), (1, 1, (.c (.int .i64 (-1)))), (2, 1, (.c (.int .i64 4611686018427387904))), (3, 1, (.c (.int .i64 10000000)))]), none⟩, ⟨some 22, .q (.mv (.t 5)), none⟩, ⟨some 23, .e (.call 47 [(.t 22), (.c (.int .i64 4))]), none⟩, ⟨some 24, .q (.ia 1 (.t 21) (.t 23)), none⟩, ⟨some 25, .q (.ld (.t 24)), none⟩, ⟨some 8, .q (.mv (.t 25)), none⟩]
def c76_7 : SCode := .cond (.t 20) (.region c76_6 [6, 7, 8]) .skip
def c76_8 : SCode := .seq (.region c76_5 [5, 6, 7, 8, 20]) c76_7
def c76_9 : List SOper := [⟨some 26, .q (.mv (.t 6)), none⟩, ⟨some 27, .q (.mv (.t 7)), none⟩, ⟨some 28, .q (.mv (.t 8)), none⟩, ⟨some 2, .q (.mv (.t 26)), none⟩, ⟨some 3, .q (.mv (.t 27)), none⟩, ⟨some 4, .q (.mv (.t 28)), none⟩]
def c76_10 : SCode := .seq (.region c76_9 [2, 3, 4]) .ret
def c76_11 : SCode := .seq c76_8 c76_10
def c76_12 : SCode := .seq (.region c76_4 [5, 6, 7, 8]) c76_11
def c76_13 : SCode := .seq (.region c76_3 [5, 6, 7]) c76_12
def c76_14 : SCode := .seq (.region c76_2 [5, 6]) c76_13
def c76_15 : SCode := .seq (.region c76_1 [5]) c76_14
def c76_16 : SCode := .seq (.region c76_0 [0]) c76_15
def c76 : SCode := c76_16
theorem w76 : type_of% (And.intro (uR Try.prog c76_0.eq_1) (And.intro (uR Try.prog c76_1.eq_1) (And.intro (uR Try.prog c76_2.eq_1) (And.intro (uR Try.prog c76_3.eq_1) (And.intro (uR Try.prog c76_4.eq_1) (And.intro (uR Try.prog c76_5.eq_1) (And.intro (uR Try.prog c76_6.eq_1) (And.intro (uC Try.prog c76_7.eq_1) (And.intro (uC Try.prog c76_8.eq_1) (And.intro (uR Try.prog c76_9.eq_1) (And.intro (uC Try.prog c76_10.eq_1) (And.intro (uC Try.prog c76_11.eq_1) (And.intro (uC Try.prog c76_12.eq_1) (And.intro (uC Try.prog c76_13.eq_1) (And.intro (uC Try.prog c76_14.eq_1) (And.intro (uC Try.prog c76_15.eq_1) (And.intro (uC Try.prog c76_16.eq_1) (uC Try.prog c76.eq_1)))))))))))))))))) := (And.intro (uR Try.prog c76_0.eq_1) (And.intro (uR Try.prog c76_1.eq_1) (And.intro (uR Try.prog c76_2.eq_1) (And.intro (uR Try.prog c76_3.eq_1) (And.intro (uR Try.prog c76_4.eq_1) (And.intro (uR Try.prog c76_5.eq_1) (And.intro (uR Try.prog c76_6.eq_1) (And.intro (uC Try.prog c76_7.eq_1) (And.intro (uC Try.prog c76_8.eq_1) (And.intro (uR Try.prog c76_9.eq_1) (And.intro (uC Try.prog c76_10.eq_1) (And.intro (uC Try.prog c76_11.eq_1) (And.intro (uC Try.prog c76_12.eq_1) (And.intro (uC Try.prog c76_13.eq_1) (And.intro (uC Try.prog c76_14.eq_1) (And.intro (uC Try.prog c76_15.eq_1) (And.intro (uC Try.prog c76_16.eq_1) (uC Try.prog c76.eq_1))))))))))))))))))
def v76 : List RV := [.t 2, .t 3, .t 4]
theorem s76 : slimF Try.prog Try.f76 = some (c76.bare, v76) := by kernel_rfl

/-! 28 loop.example/g00066/spec.DrawLift: parameters 1, live [0], slots [0:code, 1:code] -/
def c28_0 : List SOper := [⟨some 2, .q (.mv (.c (.slice none 0 0))), none⟩, ⟨some 3, .q (.mv (.c (.int .i64 0))), none⟩, ⟨some 4, .q (.mv (.c (.int .i64 0))), none⟩]
def c28_1 : List SOper := [⟨some 5, .q (.mv (.t 0)), none⟩, ⟨some 6, .e (.call 76 [(.t 5)]), none⟩, ⟨some 7, .q (.ext (.t 6) 0), none⟩, ⟨some 8, .q (.ext (.t 6) 1), none⟩, ⟨some 9, .q (.ext (.t 6) 2), none⟩, ⟨some 2, .q (.mv (.t 7)), none⟩, ⟨some 3, .q (.mv (.t 8)), none⟩, ⟨some 4, .q (.mv (.t 9)), none⟩]
def c28_2 : SCode := .seq (.region c28_1 [2, 3, 4]) .ret
def c28_3 : SCode := .seq (.region c28_0 [0]) c28_2
def c28 : SCode := c28_3
theorem w28 : type_of% (And.intro (uR Try.prog c28_0.eq_1) (And.intro (uR Try.prog c28_1.eq_1) (And.intro (uC Try.prog c28_2.eq_1) (And.intro (uC Try.prog c28_3.eq_1) (uC Try.prog c28.eq_1))))) := (And.intro (uR Try.prog c28_0.eq_1) (And.intro (uR Try.prog c28_1.eq_1) (And.intro (uC Try.prog c28_2.eq_1) (And.intro (uC Try.prog c28_3.eq_1) (uC Try.prog c28.eq_1)))))
def v28 : List RV := [.t 2, .t 3, .t 4]
theorem s28 : slimF Try.prog Try.f28 = some (c28.bare, v28) := by kernel_rfl

theorem l4DrawAt_ok {h0 : Heap} (h : Heap) (c : Nat) (v : Value) (l : List Clip) (F : Fk [c] h0 h encClip 3 v l []) (hc : c < h0.size) (k : Cur h c) (hl : l.length ≤ 1000) :
    ACall Try.prog 80 [.pointer (some ⟨c, 0, none⟩), v] h fun r h' => ∃ x, r = .int .i64 x ∧ Drew c h h' := by
  refine ACall.of Try.func80 s80 (of_decide_eq_true rfl) ?_
  have hm : c ∈ [c] := by simp
  have rest : ∀ (H : Heap) (E : Env) (n : Int), Cur H c → Ext h H → E.get 0 = some (.pointer (some ⟨c, 0, none⟩)) → E.get 5 = some (.int .i64 n) →
      SW Try.prog c80_13 (retQ [RV.t 4] fun r h' => ∃ x, r = .int .i64 x ∧ Drew c h h') E H := by
    intro H E n kH e E0 E5
    have hcH := kH.lt
    simp (maxSteps := 4000000) (disch := omega) only [ah, am, Nat.reduceEqDiff, reduceCtorEq, Nat.reduceAdd, Nat.reduceLeDiff, Nat.reduceMul, Nat.reduceLT, if_true, if_false, true_and, and_true, and_self, Nat.reduceBEq, QOp.loads, boxO, bslO, buildO, cutL, fillV, putL, w80, v80, E0, E5]
    refine stepC.of (l1Once_ok _ _ _ kH) ?_
    rintro _ H2 ⟨b, rfl, g2, k2⟩
    cases b with
    | true =>
      have hc2 := k2.lt
      simp (maxSteps := 4000000) (disch := omega) only [ah, am, Nat.reduceEqDiff, reduceCtorEq, Nat.reduceAdd, Nat.reduceLeDiff, Nat.reduceMul, Nat.reduceLT, if_true, if_false, true_and, and_true, and_self, Nat.reduceBEq, QOp.loads, boxO, bslO, buildO, cutL, fillV, putL, w80, v80, E0, E5]
      refine stepC.of (l1Below_ok _ _ _ (k2.ext (Ext.more H2 _))) ?_
      rintro _ H3 ⟨z, rfl, z1, z2, _, g3, k3⟩
      have z3 : z < 4 := z2 (by omega)
      obtain ⟨w, hw⟩ := pick_lits g3 hc2 z1 (by simpa using z3) rfl
      simp (maxSteps := 4000000) (disch := omega) only [ah, am, Nat.reduceEqDiff, reduceCtorEq, Nat.reduceAdd, Nat.reduceLeDiff, Nat.reduceMul, Nat.reduceLT, if_true, if_false, true_and, and_true, and_self, Nat.reduceBEq, QOp.loads, boxO, bslO, buildO, cutL, fillV, putL, w80, v80, Nat.mul_one, hw]
      exact ⟨w, rfl, ((e.toG.trans g2).trans (Ext.more H2 _).toG).trans g3, k3⟩
    | false =>
      simp (maxSteps := 4000000) (disch := omega) only [ah, am, Nat.reduceEqDiff, reduceCtorEq, Nat.reduceAdd, Nat.reduceLeDiff, Nat.reduceMul, Nat.reduceLT, if_true, if_false, true_and, and_true, and_self, Nat.reduceBEq, QOp.loads, boxO, bslO, buildO, cutL, fillV, putL, w80, v80, E0, E5]
      refine stepC.of (l1Below_ok _ _ _ k2) ?_
      rintro _ H3 ⟨z, rfl, z1, z2, _, g3, k3⟩
      simp (maxSteps := 4000000) (disch := omega) only [ah, am, Nat.reduceEqDiff, reduceCtorEq, Nat.reduceAdd, Nat.reduceLeDiff, Nat.reduceMul, Nat.reduceLT, if_true, if_false, true_and, and_true, and_self, Nat.reduceBEq, QOp.loads, boxO, bslO, buildO, cutL, fillV, putL, w80, v80]
      exact ⟨z, rfl, (e.toG.trans g2).trans g3, k3⟩
  simp (maxSteps := 4000000) (disch := omega) only [ah, am, Nat.reduceEqDiff, reduceCtorEq, Nat.reduceAdd, Nat.reduceLeDiff, Nat.reduceMul, Nat.reduceLT, if_true, if_false, true_and, and_true, and_self, Nat.reduceBEq, QOp.loads, boxO, bslO, buildO, cutL, fillV, putL, w80, v80]
  refine stepC.of (TrackOk_ok _ _ _ F.slt (by omega)) ?_
  rintro _ H1 ⟨e1, rfl⟩
  by_cases ht : trackOk l
  · have ht' : decide (trackOk l) = true := decide_eq_true ht
    simp (maxSteps := 4000000) (disch := omega) only [ah, am, Nat.reduceEqDiff, reduceCtorEq, Nat.reduceAdd, Nat.reduceLeDiff, Nat.reduceMul, Nat.reduceLT, if_true, if_false, true_and, and_true, and_self, Nat.reduceBEq, QOp.loads, boxO, bslO, buildO, cutL, fillV, putL, w80, v80, ht']
    refine stepC.of (l4Length_ok _ _ _ (F.slt.ext e1) ht.1 ht.2.1) ?_
    rintro _ Hx ⟨hx, rfl⟩; rw [hx]; clear hx Hx
    generalize c80_13 = fc at rest ⊢
    simp (maxSteps := 4000000) (disch := omega) only [ah, am, Nat.reduceEqDiff, reduceCtorEq, Nat.reduceAdd, Nat.reduceLeDiff, Nat.reduceMul, Nat.reduceLT, if_true, if_false, true_and, and_true, and_self, Nat.reduceBEq, QOp.loads, boxO, bslO, buildO, cutL, fillV, putL, w80, v80]
    exact rest H1 _ _ (k.ext e1) e1 rfl rfl
  · have ht' : decide (trackOk l) = false := decide_eq_false ht
    generalize c80_13 = fc at rest ⊢
    simp (maxSteps := 4000000) (disch := omega) only [ah, am, Nat.reduceEqDiff, reduceCtorEq, Nat.reduceAdd, Nat.reduceLeDiff, Nat.reduceMul, Nat.reduceLT, if_true, if_false, true_and, and_true, and_self, Nat.reduceBEq, QOp.loads, boxO, bslO, buildO, cutL, fillV, putL, w80, v80, ht']
    exact rest H1 _ _ (k.ext e1) e1 rfl rfl
theorem ext_3 (a b c d : Value) (l : List Value) : extV 3 (.tuple (a :: b :: c :: d :: l).toArray) = some d := rfl
theorem DrawRelink_ok (h : Heap) (v : Value) (code : List Int) (s : SlT h encByte 1 v code) (hl : code.length ≤ 4096) :
    ACall Try.prog 11 [v] h fun r h' => ∃ tv l, ∃ a b n : Int, r = .tuple #[tv, .int .i64 a, .int .i64 b, .int .i64 n] ∧ Fresh h h' encClip 3 tv l ∧ drawnL l := by
  refine ACall.of Try.func11 s11 (of_decide_eq_true rfl) ?_
  simp (maxSteps := 4000000) (disch := omega) only [ah, am, Nat.reduceEqDiff, reduceCtorEq, Nat.reduceAdd, Nat.reduceLeDiff, Nat.reduceMul, Nat.reduceLT, if_true, if_false, true_and, and_true, and_self, Nat.reduceBEq, QOp.loads, boxO, bslO, buildO, cutL, fillV, putL, w11, v11]
  refine stepC.of (l1New_ok _ _ _ s hl) ?_
  rintro _ H1 ⟨e1, rfl, k1⟩
  have hc := k1.lt
  have hm : h.size ∈ [h.size] := by simp
  simp (maxSteps := 4000000) (disch := omega) only [ah, am, Nat.reduceEqDiff, reduceCtorEq, Nat.reduceAdd, Nat.reduceLeDiff, Nat.reduceMul, Nat.reduceLT, if_true, if_false, true_and, and_true, and_self, Nat.reduceBEq, QOp.loads, boxO, bslO, buildO, cutL, fillV, putL, w11, v11]
  refine stepC.of (l4DrawTrack_ok _ _ k1) ?_
  rintro tv H2 ⟨l, F, k, D⟩
  simp (maxSteps := 4000000) (disch := omega) only [ah, am, Nat.reduceEqDiff, reduceCtorEq, Nat.reduceAdd, Nat.reduceLeDiff, Nat.reduceMul, Nat.reduceLT, if_true, if_false, true_and, and_true, and_self, Nat.reduceBEq, QOp.loads, boxO, bslO, buildO, cutL, fillV, putL, w11, v11]
  refine stepC.of (l1Below_ok _ _ _ k) ?_
  rintro _ H3 ⟨x3, rfl, _, _, _, g, k⟩
  have F := F.stepG g hm hc
  simp (maxSteps := 4000000) (disch := omega) only [ah, am, Nat.reduceEqDiff, reduceCtorEq, Nat.reduceAdd, Nat.reduceLeDiff, Nat.reduceMul, Nat.reduceLT, if_true, if_false, true_and, and_true, and_self, Nat.reduceBEq, QOp.loads, boxO, bslO, buildO, cutL, fillV, putL, w11, v11]
  refine stepC.of (l1Below_ok _ _ _ k) ?_
  rintro _ H4 ⟨x4, rfl, _, _, _, g, k⟩
  have F := F.stepG g hm hc
  simp (maxSteps := 4000000) (disch := omega) only [ah, am, Nat.reduceEqDiff, reduceCtorEq, Nat.reduceAdd, Nat.reduceLeDiff, Nat.reduceMul, Nat.reduceLT, if_true, if_false, true_and, and_true, and_self, Nat.reduceBEq, QOp.loads, boxO, bslO, buildO, cutL, fillV, putL, w11, v11]
  refine stepC.of (l1From_ok _ _ _ _ k (by omega) (by omega) (by omega)) ?_
  rintro _ H5 ⟨x5, rfl, _, g, k⟩
  have F := F.stepG g hm hc
  simp (maxSteps := 4000000) (disch := omega) only [ah, am, Nat.reduceEqDiff, reduceCtorEq, Nat.reduceAdd, Nat.reduceLeDiff, Nat.reduceMul, Nat.reduceLT, if_true, if_false, true_and, and_true, and_self, Nat.reduceBEq, QOp.loads, boxO, bslO, buildO, cutL, fillV, putL, w11, v11]
  refine stepC.of (l1Once_ok _ _ _ k) ?_
  rintro _ H6 ⟨b6, rfl, g, k⟩
  have F := F.stepG g hm hc
  have rest : ∀ (H : Heap) (E : Env) (a b n : Int), Cur H h.size → Fk [h.size] H1 H encClip 3 tv l [] → E.get 6 = some (.pointer (some ⟨h.size, 0, none⟩)) → E.get 7 = some tv → E.get 8 = some (.int .i64 a) → E.get 9 = some (.int .i64 b) → E.get 10 = some (.int .i64 n) →
      SW Try.prog c11_18 (retQ [RV.t 2, RV.t 3, RV.t 4, RV.t 5] fun r h' => ∃ tv l, ∃ a b n : Int, r = .tuple #[tv, .int .i64 a, .int .i64 b, .int .i64 n] ∧ Fresh h h' encClip 3 tv l ∧ drawnL l) E H := by
    intro H E a b n k F E6 E7 E8 E9 E10
    simp (maxSteps := 4000000) (disch := omega) only [ah, am, Nat.reduceEqDiff, reduceCtorEq, Nat.reduceAdd, Nat.reduceLeDiff, Nat.reduceMul, Nat.reduceLT, if_true, if_false, true_and, and_true, and_self, Nat.reduceBEq, QOp.loads, boxO, bslO, buildO, cutL, fillV, putL, w11, v11, E6, E7, E8, E9, E10]
    refine stepC.of (l1Once_ok _ _ _ k) ?_
    rintro _ H7 ⟨b7, rfl, g, k⟩
    have F := F.stepG g hm hc
    cases b7 with
    | false =>
      simp (maxSteps := 4000000) (disch := omega) only [ah, am, Nat.reduceEqDiff, reduceCtorEq, Nat.reduceAdd, Nat.reduceLeDiff, Nat.reduceMul, Nat.reduceLT, if_true, if_false, true_and, and_true, and_self, Nat.reduceBEq, QOp.loads, boxO, bslO, buildO, cutL, fillV, putL, w11, v11, E6, E7, E8, E9, E10]
      exact ⟨tv, l, a, b, n, rfl, F.out' e1 (Nat.le_refl _), D⟩
    | true =>
      have hc2 := k.lt
      have F := F.step (Ext.more H7 [[.int .i64 0, .int .i64 500, .int .i64 501]])
      simp (maxSteps := 4000000) (disch := omega) only [ah, am, Nat.reduceEqDiff, reduceCtorEq, Nat.reduceAdd, Nat.reduceLeDiff, Nat.reduceMul, Nat.reduceLT, if_true, if_false, true_and, and_true, and_self, Nat.reduceBEq, QOp.loads, boxO, bslO, buildO, cutL, fillV, putL, w11, v11, E6, E7, E8, E9, E10]
      refine stepC.of (l1Below_ok _ _ _ (k.ext (Ext.more H7 _))) ?_
      rintro _ H8 ⟨z, rfl, z1, z2, _, g, k⟩
      have F := F.stepG g hm hc
      have z3 : z < 3 := z2 (by omega)
      obtain ⟨w, hw⟩ := pick_lits g hc2 z1 (by simpa using z3) rfl
      simp (maxSteps := 4000000) (disch := omega) only [ah, am, Nat.reduceEqDiff, reduceCtorEq, Nat.reduceAdd, Nat.reduceLeDiff, Nat.reduceMul, Nat.reduceLT, if_true, if_false, true_and, and_true, and_self, Nat.reduceBEq, QOp.loads, boxO, bslO, buildO, cutL, fillV, putL, w11, v11, Nat.mul_one, hw]
      exact ⟨tv, l, a, w, n, rfl, F.out' e1 (Nat.le_refl _), D⟩
  generalize c11_18 = fc at rest ⊢
  cases b6 with
  | false =>
    simp (maxSteps := 4000000) (disch := omega) only [ah, am, Nat.reduceEqDiff, reduceCtorEq, Nat.reduceAdd, Nat.reduceLeDiff, Nat.reduceMul, Nat.reduceLT, if_true, if_false, true_and, and_true, and_self, Nat.reduceBEq, QOp.loads, boxO, bslO, buildO, cutL, fillV, putL, w11, v11]
    exact rest _ _ _ _ _ k F rfl rfl rfl rfl rfl
  | true =>
    have hc2 := k.lt
    have F := F.step (Ext.more H6 [[.int .i64 0, .int .i64 500, .int .i64 501]])
    simp (maxSteps := 4000000) (disch := omega) only [ah, am, Nat.reduceEqDiff, reduceCtorEq, Nat.reduceAdd, Nat.reduceLeDiff, Nat.reduceMul, Nat.reduceLT, if_true, if_false, true_and, and_true, and_self, Nat.reduceBEq, QOp.loads, boxO, bslO, buildO, cutL, fillV, putL, w11, v11]
    refine stepC.of (l1Below_ok _ _ _ (k.ext (Ext.more H6 _))) ?_
    rintro _ H8 ⟨z, rfl, z1, z2, _, g, k⟩
    have F := F.stepG g hm hc
    have z3 : z < 3 := z2 (by omega)
    obtain ⟨w, hw⟩ := pick_lits g hc2 z1 (by simpa using z3) rfl
    have hc3 := k.lt
    have F := F.step (Ext.more H8 [[.int .i64 (-9223372036854775808), .int .i64 10000000, .int .i64 4611686018427387904, .int .i64 0]])
    simp (maxSteps := 4000000) (disch := omega) only [ah, am, Nat.reduceEqDiff, reduceCtorEq, Nat.reduceAdd, Nat.reduceLeDiff, Nat.reduceMul, Nat.reduceLT, if_true, if_false, true_and, and_true, and_self, Nat.reduceBEq, QOp.loads, boxO, bslO, buildO, cutL, fillV, putL, w11, v11, Nat.mul_one, hw]
    refine stepC.of (l1Below_ok _ _ _ (k.ext (Ext.more H8 _))) ?_
    rintro _ H9 ⟨y, rfl, y1, y2, _, g, k⟩
    have F := F.stepG g hm hc
    have y3 : y < 4 := y2 (by omega)
    obtain ⟨w2, hw2⟩ := pick_lits g hc3 y1 (by simpa using y3) rfl
    simp (maxSteps := 4000000) (disch := omega) only [ah, am, Nat.reduceEqDiff, reduceCtorEq, Nat.reduceAdd, Nat.reduceLeDiff, Nat.reduceMul, Nat.reduceLT, if_true, if_false, true_and, and_true, and_self, Nat.reduceBEq, QOp.loads, boxO, bslO, buildO, cutL, fillV, putL, w11, v11, Nat.mul_one, hw2]
    exact rest _ _ _ _ _ k F rfl rfl rfl rfl rfl
end Go.Proofs.Ytknpombiomnkbaa
