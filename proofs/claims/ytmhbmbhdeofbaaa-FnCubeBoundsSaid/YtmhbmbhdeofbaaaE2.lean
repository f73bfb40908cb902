import Derived.Test.YtmhbmbhdeofbaaaE1
namespace Go.Proofs.Ytmhbmbhdeofbaaa
open Go Go.Ah
set_option linter.unusedSimpArgs false
set_option linter.unusedVariables false
set_option maxRecDepth 10000
set_option maxHeartbeats 4000000
/-! 21 loop.example/g00066/spec.l1In: parameters 3, live [0, 1, 2], slots [0:x, 1:lo, 2:hi, 3:x, 4:lo, 5:hi] -/
def c21_0 : List SOper := [⟨some 6, .q (.mv (.c (.bool false))), none⟩]
def c21_1 : List SOper := [⟨some 7, .q (.mv (.t 0)), none⟩, ⟨some 8, .q (.mv (.t 1)), none⟩, ⟨some 9, .q (.bin .geq (.t 7) (.t 8)), none⟩, ⟨some 10, .q (.mv (.t 9)), none⟩, ⟨some 11, .q (.mv (.t 0)), some (10, true)⟩, ⟨some 12, .q (.mv (.t 2)), some (10, true)⟩, ⟨some 13, .q (.bin .leq (.t 11) (.t 12)), some (10, true)⟩, ⟨some 14, .q (.pick (.t 10) (.t 13) (.c (.bool false))), none⟩, ⟨some 6, .q (.mv (.t 14)), none⟩]
def c21_2 : SCode := .seq (.region c21_1 [6]) .ret
def c21_3 : SCode := .seq (.region c21_0 [0, 1, 2]) c21_2
def c21 : SCode := c21_3
theorem w21 : type_of% (And.intro (uR Try.prog c21_0.eq_1) (And.intro (uR Try.prog c21_1.eq_1) (And.intro (uC Try.prog c21_2.eq_1) (And.intro (uC Try.prog c21_3.eq_1) (uC Try.prog c21.eq_1))))) := (And.intro (uR Try.prog c21_0.eq_1) (And.intro (uR Try.prog c21_1.eq_1) (And.intro (uC Try.prog c21_2.eq_1) (And.intro (uC Try.prog c21_3.eq_1) (uC Try.prog c21.eq_1)))))
def v21 : List RV := [.t 6]
theorem s21 : slimF Try.prog Try.f21 = some (c21.bare, v21) := by kernel_rfl
/-! 47 loop.example/g00066/spec.l9In: parameters 1, live [0], slots [0:v, 1:v] -/
def c47_0 : List SOper := [⟨some 2, .q (.mv (.c (.bool false))), none⟩]
def c47_1 : List SOper := [⟨some 3, .q (.mv (.t 0)), none⟩, ⟨some 4, .e (.call 21 [(.t 3), (.c (.int .i64 0)), (.c (.int .i64 65535))]), none⟩, ⟨some 2, .q (.mv (.t 4)), none⟩]
def c47_2 : SCode := .seq (.region c47_1 [2]) .ret
def c47_3 : SCode := .seq (.region c47_0 [0]) c47_2
def c47 : SCode := c47_3
theorem w47 : type_of% (And.intro (uR Try.prog c47_0.eq_1) (And.intro (uR Try.prog c47_1.eq_1) (And.intro (uC Try.prog c47_2.eq_1) (And.intro (uC Try.prog c47_3.eq_1) (uC Try.prog c47.eq_1))))) := (And.intro (uR Try.prog c47_0.eq_1) (And.intro (uR Try.prog c47_1.eq_1) (And.intro (uC Try.prog c47_2.eq_1) (And.intro (uC Try.prog c47_3.eq_1) (uC Try.prog c47.eq_1)))))
def v47 : List RV := [.t 2]
theorem s47 : slimF Try.prog Try.f47 = some (c47.bare, v47) := by kernel_rfl
/-! 22 loop.example/g00066/spec.l9Rgb: parameters 1, live [0], slots [0:c, 1:c] -/
def c22_0 : List SOper := [⟨some 1, .a (.box (.t 0)), none⟩, ⟨some 2, .q (.mv (.c (.bool false))), none⟩]
def c22_1 : List SOper := [⟨some 3, .q (.fa 0 (.t 1)), none⟩, ⟨some 4, .q (.ld (.t 3)), none⟩, ⟨some 5, .e (.call 47 [(.t 4)]), none⟩, ⟨some 6, .q (.mv (.t 5)), none⟩, ⟨some 7, .q (.fa 1 (.t 1)), some (6, true)⟩, ⟨some 8, .q (.ld (.t 7)), some (6, true)⟩, ⟨some 9, .e (.call 47 [(.t 8)]), some (6, true)⟩, ⟨some 10, .q (.pick (.t 6) (.t 9) (.c (.bool false))), none⟩, ⟨some 11, .q (.mv (.t 10)), none⟩, ⟨some 12, .q (.fa 2 (.t 1)), some (11, true)⟩, ⟨some 13, .q (.ld (.t 12)), some (11, true)⟩, ⟨some 14, .e (.call 47 [(.t 13)]), some (11, true)⟩, ⟨some 15, .q (.pick (.t 11) (.t 14) (.c (.bool false))), none⟩, ⟨some 2, .q (.mv (.t 15)), none⟩]
def c22_2 : SCode := .seq (.region c22_1 [2]) .ret
def c22_3 : SCode := .seq (.region c22_0 [1]) c22_2
def c22 : SCode := c22_3
theorem w22 : type_of% (And.intro (uR Try.prog c22_0.eq_1) (And.intro (uR Try.prog c22_1.eq_1) (And.intro (uC Try.prog c22_2.eq_1) (And.intro (uC Try.prog c22_3.eq_1) (uC Try.prog c22.eq_1))))) := (And.intro (uR Try.prog c22_0.eq_1) (And.intro (uR Try.prog c22_1.eq_1) (And.intro (uC Try.prog c22_2.eq_1) (And.intro (uC Try.prog c22_3.eq_1) (uC Try.prog c22.eq_1)))))
def v22 : List RV := [.t 2]
theorem s22 : slimF Try.prog Try.f22 = some (c22.bare, v22) := by kernel_rfl
/-! 23 loop.example/g00066/spec.l9Place: parameters 2, live [0, 1], slots [0:v, 1:n, 2:v, 3:n, 6:i] -/
def c23_0 : List SOper := [⟨some 4, .q (.mv (.c (.int .i64 0))), none⟩, ⟨some 5, .q (.mv (.c (.int .i64 0))), none⟩]
def c23_1 : List SOper := [⟨some 7, .q (.mv (.t 1)), none⟩, ⟨some 8, .q (.bin .sub (.t 7) (.c (.int .i64 1))), none⟩, ⟨some 9, .q (.mv (.t 0)), none⟩, ⟨some 10, .q (.mv (.t 1)), none⟩, ⟨some 11, .q (.bin .mul (.t 9) (.t 10)), none⟩, ⟨some 12, .q (.bin .quo (.t 11) (.c (.int .i64 65535))), none⟩, ⟨some 13, .e (.call 42 [(.t 8), (.t 12)]), none⟩, ⟨some 6, .q (.mv (.t 13)), none⟩]
def c23_2 : List SOper := [⟨some 14, .q (.mv (.t 6)), none⟩, ⟨some 15, .q (.mv (.t 0)), none⟩, ⟨some 16, .q (.mv (.t 1)), none⟩, ⟨some 17, .q (.bin .mul (.t 15) (.t 16)), none⟩, ⟨some 18, .q (.mv (.t 6)), none⟩, ⟨some 19, .q (.bin .mul (.t 18) (.c (.int .i64 65535))), none⟩, ⟨some 20, .q (.bin .sub (.t 17) (.t 19)), none⟩, ⟨some 4, .q (.mv (.t 14)), none⟩, ⟨some 5, .q (.mv (.t 20)), none⟩]
def c23_3 : SCode := .seq (.region c23_2 [4, 5]) .ret
def c23_4 : SCode := .seq (.region c23_1 [0, 1, 6]) c23_3
def c23_5 : SCode := .seq (.region c23_0 [0, 1]) c23_4
def c23 : SCode := c23_5
theorem w23 : type_of% (And.intro (uR Try.prog c23_0.eq_1) (And.intro (uR Try.prog c23_1.eq_1) (And.intro (uR Try.prog c23_2.eq_1) (And.intro (uC Try.prog c23_3.eq_1) (And.intro (uC Try.prog c23_4.eq_1) (And.intro (uC Try.prog c23_5.eq_1) (uC Try.prog c23.eq_1))))))) := (And.intro (uR Try.prog c23_0.eq_1) (And.intro (uR Try.prog c23_1.eq_1) (And.intro (uR Try.prog c23_2.eq_1) (And.intro (uC Try.prog c23_3.eq_1) (And.intro (uC Try.prog c23_4.eq_1) (And.intro (uC Try.prog c23_5.eq_1) (uC Try.prog c23.eq_1)))))))
def v23 : List RV := [.t 4, .t 5]
theorem s23 : slimF Try.prog Try.f23 = some (c23.bare, v23) := by kernel_rfl
/-! 24 loop.example/g00066/spec.l9Round: parameters 2, live [0, 1], slots [0:a, 1:b, 2:a, 3:b] -/
def c24_0 : List SOper := [⟨some 4, .q (.mv (.c (.int .i64 0))), none⟩]
def c24_1 : List SOper := [⟨some 5, .q (.mv (.t 0)), none⟩, ⟨some 6, .q (.bin .mul (.c (.int .i64 2)) (.t 5)), none⟩, ⟨some 7, .q (.mv (.t 1)), none⟩, ⟨some 8, .q (.bin .add (.t 6) (.t 7)), none⟩, ⟨some 9, .q (.mv (.t 1)), none⟩, ⟨some 10, .q (.bin .mul (.c (.int .i64 2)) (.t 9)), none⟩, ⟨some 11, .e (.call 48 [(.t 8), (.t 10)]), none⟩, ⟨some 4, .q (.mv (.t 11)), none⟩]
def c24_2 : SCode := .seq (.region c24_1 [4]) .ret
def c24_3 : SCode := .seq (.region c24_0 [0, 1]) c24_2
def c24 : SCode := c24_3
theorem w24 : type_of% (And.intro (uR Try.prog c24_0.eq_1) (And.intro (uR Try.prog c24_1.eq_1) (And.intro (uC Try.prog c24_2.eq_1) (And.intro (uC Try.prog c24_3.eq_1) (uC Try.prog c24.eq_1))))) := (And.intro (uR Try.prog c24_0.eq_1) (And.intro (uR Try.prog c24_1.eq_1) (And.intro (uC Try.prog c24_2.eq_1) (And.intro (uC Try.prog c24_3.eq_1) (uC Try.prog c24.eq_1)))))
def v24 : List RV := [.t 4]
theorem s24 : slimF Try.prog Try.f24 = some (c24.bare, v24) := by kernel_rfl
/-! 48 loop.example/g00066/spec.l8Down: parameters 2, live [0, 1], slots [0:a, 1:b, 2:a, 3:b, 5:q] -/
def c48_0 : List SOper := [⟨some 4, .q (.mv (.c (.int .i64 0))), none⟩]
def c48_1 : List SOper := [⟨some 6, .q (.mv (.t 0)), none⟩, ⟨some 7, .q (.mv (.t 1)), none⟩, ⟨some 8, .q (.bin .quo (.t 6) (.t 7)), none⟩, ⟨some 5, .q (.mv (.t 8)), none⟩]
def c48_2 : List SOper := [⟨some 9, .q (.mv (.t 0)), none⟩, ⟨some 10, .q (.mv (.t 1)), none⟩, ⟨some 11, .q (.bin .rem (.t 9) (.t 10)), none⟩, ⟨some 12, .q (.bin .lss (.t 11) (.c (.int .i64 0))), none⟩]
def c48_3 : List SOper := [⟨some 13, .q (.mv (.t 5)), none⟩, ⟨some 14, .q (.bin .sub (.t 13) (.c (.int .i64 1))), none⟩, ⟨some 5, .q (.mv (.t 14)), none⟩]
def c48_4 : SCode := .cond (.t 12) (.region c48_3 [5]) .skip
def c48_5 : SCode := .seq (.region c48_2 [5, 12]) c48_4
def c48_6 : List SOper := [⟨some 15, .q (.mv (.t 5)), none⟩, ⟨some 4, .q (.mv (.t 15)), none⟩]
def c48_7 : SCode := .seq (.region c48_6 [4]) .ret
def c48_8 : SCode := .seq c48_5 c48_7
def c48_9 : SCode := .seq (.region c48_1 [0, 1, 5]) c48_8
def c48_10 : SCode := .seq (.region c48_0 [0, 1]) c48_9
def c48 : SCode := c48_10
theorem w48 : type_of% (And.intro (uR Try.prog c48_0.eq_1) (And.intro (uR Try.prog c48_1.eq_1) (And.intro (uR Try.prog c48_2.eq_1) (And.intro (uR Try.prog c48_3.eq_1) (And.intro (uC Try.prog c48_4.eq_1) (And.intro (uC Try.prog c48_5.eq_1) (And.intro (uR Try.prog c48_6.eq_1) (And.intro (uC Try.prog c48_7.eq_1) (And.intro (uC Try.prog c48_8.eq_1) (And.intro (uC Try.prog c48_9.eq_1) (And.intro (uC Try.prog c48_10.eq_1) (uC Try.prog c48.eq_1)))))))))))) := (And.intro (uR Try.prog c48_0.eq_1) (And.intro (uR Try.prog c48_1.eq_1) (And.intro (uR Try.prog c48_2.eq_1) (And.intro (uR Try.prog c48_3.eq_1) (And.intro (uC Try.prog c48_4.eq_1) (And.intro (uC Try.prog c48_5.eq_1) (And.intro (uR Try.prog c48_6.eq_1) (And.intro (uC Try.prog c48_7.eq_1) (And.intro (uC Try.prog c48_8.eq_1) (And.intro (uC Try.prog c48_9.eq_1) (And.intro (uC Try.prog c48_10.eq_1) (uC Try.prog c48.eq_1))))))))))))
def v48 : List RV := [.t 4]
theorem s48 : slimF Try.prog Try.f48 = some (c48.bare, v48) := by kernel_rfl
/-! 42 loop.example/g00066/spec.l1Min: parameters 2, live [0, 1], slots [0:a, 1:b, 2:a, 3:b] -/
def c42_0 : List SOper := [⟨some 4, .q (.mv (.c (.int .i64 0))), none⟩]
def c42_1 : List SOper := [⟨some 5, .q (.mv (.t 0)), none⟩, ⟨some 6, .q (.mv (.t 1)), none⟩, ⟨some 7, .q (.bin .lss (.t 5) (.t 6)), none⟩]
def c42_2 : List SOper := [⟨some 8, .q (.mv (.t 0)), none⟩, ⟨some 4, .q (.mv (.t 8)), none⟩]
def c42_3 : SCode := .seq (.region c42_2 [4]) .ret
def c42_4 : SCode := .cond (.t 7) c42_3 .skip
def c42_5 : SCode := .seq (.region c42_1 [0, 1, 7]) c42_4
def c42_6 : List SOper := [⟨some 9, .q (.mv (.t 1)), none⟩, ⟨some 4, .q (.mv (.t 9)), none⟩]
def c42_7 : SCode := .seq (.region c42_6 [4]) .ret
def c42_8 : SCode := .seq c42_5 c42_7
def c42_9 : SCode := .seq (.region c42_0 [0, 1]) c42_8
def c42 : SCode := c42_9
theorem w42 : type_of% (And.intro (uR Try.prog c42_0.eq_1) (And.intro (uR Try.prog c42_1.eq_1) (And.intro (uR Try.prog c42_2.eq_1) (And.intro (uC Try.prog c42_3.eq_1) (And.intro (uC Try.prog c42_4.eq_1) (And.intro (uC Try.prog c42_5.eq_1) (And.intro (uR Try.prog c42_6.eq_1) (And.intro (uC Try.prog c42_7.eq_1) (And.intro (uC Try.prog c42_8.eq_1) (And.intro (uC Try.prog c42_9.eq_1) (uC Try.prog c42.eq_1))))))))))) := (And.intro (uR Try.prog c42_0.eq_1) (And.intro (uR Try.prog c42_1.eq_1) (And.intro (uR Try.prog c42_2.eq_1) (And.intro (uC Try.prog c42_3.eq_1) (And.intro (uC Try.prog c42_4.eq_1) (And.intro (uC Try.prog c42_5.eq_1) (And.intro (uR Try.prog c42_6.eq_1) (And.intro (uC Try.prog c42_7.eq_1) (And.intro (uC Try.prog c42_8.eq_1) (And.intro (uC Try.prog c42_9.eq_1) (uC Try.prog c42.eq_1)))))))))))
def v42 : List RV := [.t 4]
theorem s42 : slimF Try.prog Try.f42 = some (c42.bare, v42) := by kernel_rfl
/-! 43 loop.example/g00066/spec.l1Max: parameters 2, live [0, 1], slots [0:a, 1:b, 2:a, 3:b] -/
def c43_0 : List SOper := [⟨some 4, .q (.mv (.c (.int .i64 0))), none⟩]
def c43_1 : List SOper := [⟨some 5, .q (.mv (.t 0)), none⟩, ⟨some 6, .q (.mv (.t 1)), none⟩, ⟨some 7, .q (.bin .gtr (.t 5) (.t 6)), none⟩]
def c43_2 : List SOper := [⟨some 8, .q (.mv (.t 0)), none⟩, ⟨some 4, .q (.mv (.t 8)), none⟩]
def c43_3 : SCode := .seq (.region c43_2 [4]) .ret
def c43_4 : SCode := .cond (.t 7) c43_3 .skip
def c43_5 : SCode := .seq (.region c43_1 [0, 1, 7]) c43_4
def c43_6 : List SOper := [⟨some 9, .q (.mv (.t 1)), none⟩, ⟨some 4, .q (.mv (.t 9)), none⟩]
def c43_7 : SCode := .seq (.region c43_6 [4]) .ret
def c43_8 : SCode := .seq c43_5 c43_7
def c43_9 : SCode := .seq (.region c43_0 [0, 1]) c43_8
def c43 : SCode := c43_9
theorem w43 : type_of% (And.intro (uR Try.prog c43_0.eq_1) (And.intro (uR Try.prog c43_1.eq_1) (And.intro (uR Try.prog c43_2.eq_1) (And.intro (uC Try.prog c43_3.eq_1) (And.intro (uC Try.prog c43_4.eq_1) (And.intro (uC Try.prog c43_5.eq_1) (And.intro (uR Try.prog c43_6.eq_1) (And.intro (uC Try.prog c43_7.eq_1) (And.intro (uC Try.prog c43_8.eq_1) (And.intro (uC Try.prog c43_9.eq_1) (uC Try.prog c43.eq_1))))))))))) := (And.intro (uR Try.prog c43_0.eq_1) (And.intro (uR Try.prog c43_1.eq_1) (And.intro (uR Try.prog c43_2.eq_1) (And.intro (uC Try.prog c43_3.eq_1) (And.intro (uC Try.prog c43_4.eq_1) (And.intro (uC Try.prog c43_5.eq_1) (And.intro (uR Try.prog c43_6.eq_1) (And.intro (uC Try.prog c43_7.eq_1) (And.intro (uC Try.prog c43_8.eq_1) (And.intro (uC Try.prog c43_9.eq_1) (uC Try.prog c43.eq_1)))))))))))
def v43 : List RV := [.t 4]
theorem s43 : slimF Try.prog Try.f43 = some (c43.bare, v43) := by kernel_rfl
/-! 25 loop.example/g00066/impl.in: parameters 3, live [0, 1, 2], slots [0:x, 1:least, 2:most, 3:x, 4:least, 5:most] -/
def c25_0 : List SOper := [⟨some 6, .q (.mv (.c (.bool false))), none⟩]
def c25_1 : List SOper := [⟨some 7, .q (.mv (.t 1)), none⟩, ⟨some 8, .q (.mv (.t 0)), none⟩, ⟨some 9, .q (.bin .leq (.t 7) (.t 8)), none⟩, ⟨some 10, .q (.mv (.t 9)), none⟩, ⟨some 11, .q (.mv (.t 0)), some (10, true)⟩, ⟨some 12, .q (.mv (.t 2)), some (10, true)⟩, ⟨some 13, .q (.bin .leq (.t 11) (.t 12)), some (10, true)⟩, ⟨some 14, .q (.pick (.t 10) (.t 13) (.c (.bool false))), none⟩, ⟨some 6, .q (.mv (.t 14)), none⟩]
def c25_2 : SCode := .seq (.region c25_1 [6]) .ret
def c25_3 : SCode := .seq (.region c25_0 [0, 1, 2]) c25_2
def c25 : SCode := c25_3
theorem w25 : type_of% (And.intro (uR Try.prog c25_0.eq_1) (And.intro (uR Try.prog c25_1.eq_1) (And.intro (uC Try.prog c25_2.eq_1) (And.intro (uC Try.prog c25_3.eq_1) (uC Try.prog c25.eq_1))))) := (And.intro (uR Try.prog c25_0.eq_1) (And.intro (uR Try.prog c25_1.eq_1) (And.intro (uC Try.prog c25_2.eq_1) (And.intro (uC Try.prog c25_3.eq_1) (uC Try.prog c25.eq_1)))))
def v25 : List RV := [.t 6]
theorem s25 : slimF Try.prog Try.f25 = some (c25.bare, v25) := by kernel_rfl
/-! 44 loop.example/g00066/impl.isValue: parameters 1, live [0], slots [0:n, 1:n] -/
def c44_0 : List SOper := [⟨some 2, .q (.mv (.c (.bool false))), none⟩]
def c44_1 : List SOper := [⟨some 3, .q (.mv (.t 0)), none⟩, ⟨some 4, .e (.call 25 [(.t 3), (.c (.int .i64 0)), (.c (.int .i64 65535))]), none⟩, ⟨some 2, .q (.mv (.t 4)), none⟩]
def c44_2 : SCode := .seq (.region c44_1 [2]) .ret
def c44_3 : SCode := .seq (.region c44_0 [0]) c44_2
def c44 : SCode := c44_3
theorem w44 : type_of% (And.intro (uR Try.prog c44_0.eq_1) (And.intro (uR Try.prog c44_1.eq_1) (And.intro (uC Try.prog c44_2.eq_1) (And.intro (uC Try.prog c44_3.eq_1) (uC Try.prog c44.eq_1))))) := (And.intro (uR Try.prog c44_0.eq_1) (And.intro (uR Try.prog c44_1.eq_1) (And.intro (uC Try.prog c44_2.eq_1) (And.intro (uC Try.prog c44_3.eq_1) (uC Try.prog c44.eq_1)))))
def v44 : List RV := [.t 2]
theorem s44 : slimF Try.prog Try.f44 = some (c44.bare, v44) := by kernel_rfl
/-! 26 (loop.example/g00066/impl.Rgb).ok: parameters 1, live [0], slots [0:c, 1:c] -/
def c26_0 : List SOper := [⟨some 1, .a (.box (.t 0)), none⟩, ⟨some 2, .q (.mv (.c (.bool false))), none⟩]
def c26_1 : List SOper := [⟨some 3, .q (.fa 0 (.t 1)), none⟩, ⟨some 4, .q (.ld (.t 3)), none⟩, ⟨some 5, .e (.call 44 [(.t 4)]), none⟩, ⟨some 6, .q (.mv (.t 5)), none⟩, ⟨some 7, .q (.fa 1 (.t 1)), some (6, true)⟩, ⟨some 8, .q (.ld (.t 7)), some (6, true)⟩, ⟨some 9, .e (.call 44 [(.t 8)]), some (6, true)⟩, ⟨some 10, .q (.pick (.t 6) (.t 9) (.c (.bool false))), none⟩, ⟨some 11, .q (.mv (.t 10)), none⟩, ⟨some 12, .q (.fa 2 (.t 1)), some (11, true)⟩, ⟨some 13, .q (.ld (.t 12)), some (11, true)⟩, ⟨some 14, .e (.call 44 [(.t 13)]), some (11, true)⟩, ⟨some 15, .q (.pick (.t 11) (.t 14) (.c (.bool false))), none⟩, ⟨some 2, .q (.mv (.t 15)), none⟩]
def c26_2 : SCode := .seq (.region c26_1 [2]) .ret
def c26_3 : SCode := .seq (.region c26_0 [1]) c26_2
def c26 : SCode := c26_3
theorem w26 : type_of% (And.intro (uR Try.prog c26_0.eq_1) (And.intro (uR Try.prog c26_1.eq_1) (And.intro (uC Try.prog c26_2.eq_1) (And.intro (uC Try.prog c26_3.eq_1) (uC Try.prog c26.eq_1))))) := (And.intro (uR Try.prog c26_0.eq_1) (And.intro (uR Try.prog c26_1.eq_1) (And.intro (uC Try.prog c26_2.eq_1) (And.intro (uC Try.prog c26_3.eq_1) (uC Try.prog c26.eq_1)))))
def v26 : List RV := [.t 2]
theorem s26 : slimF Try.prog Try.f26 = some (c26.bare, v26) := by kernel_rfl
/-! 28 loop.example/g00066/impl.Cube$1: parameters 1, live [0], slots [0:x, 1:x] -/
def c28_0 : List SOper := [⟨some 1, .a (.box (.t 0)), none⟩, ⟨some 2, .q (.mv (.c (.bool false))), none⟩]
def c28_1 : List SOper := [⟨some 3, .q (.ldn 3 (.t 1)), none⟩, ⟨some 4, .e (.call 26 [(.t 3)]), none⟩, ⟨some 5, .q (.not (.t 4)), none⟩, ⟨some 2, .q (.mv (.t 5)), none⟩]
def c28_2 : SCode := .seq (.region c28_1 [2]) .ret
def c28_3 : SCode := .seq (.region c28_0 [1]) c28_2
def c28 : SCode := c28_3
theorem w28 : type_of% (And.intro (uR Try.prog c28_0.eq_1) (And.intro (uR Try.prog c28_1.eq_1) (And.intro (uC Try.prog c28_2.eq_1) (And.intro (uC Try.prog c28_3.eq_1) (uC Try.prog c28.eq_1))))) := (And.intro (uR Try.prog c28_0.eq_1) (And.intro (uR Try.prog c28_1.eq_1) (And.intro (uC Try.prog c28_2.eq_1) (And.intro (uC Try.prog c28_3.eq_1) (uC Try.prog c28.eq_1)))))
def v28 : List RV := [.t 2]
theorem s28 : slimF Try.prog Try.f28 = some (c28.bare, v28) := by kernel_rfl
/-! 49 slices.IndexFunc[[]loop.example/g00066/impl.Rgb,loop.example/g00066/impl.Rgb]: parameters 2, live [0, 1], slots [0:s, 1:f, 2:s, 3:f, 5:i] -/
def c49_0 : List SOper := [⟨some 4, .q (.mv (.c (.int .i64 0))), none⟩]
def c49_1 : List SOper := [⟨some 6, .q (.mv (.t 0)), none⟩, ⟨some 7, .q (.len (.t 6)), none⟩, ⟨some 8, .q (.mv (.c (.int .i64 0))), none⟩]
def c49_2 : List SOper := [⟨some 9, .q (.bin .lss (.t 8) (.t 7)), none⟩]
def c49_3 : SCode := .cond (.t 9) .skip (.exit 0)
def c49_4 : List SOper := [⟨some 10, .q (.mv (.t 8)), none⟩, ⟨some 5, .q (.mv (.t 10)), none⟩]
def c49_5 : List SOper := [⟨some 11, .q (.mv (.t 1)), none⟩, ⟨some 12, .q (.mv (.t 0)), none⟩, ⟨some 13, .q (.mv (.t 5)), none⟩, ⟨some 14, .q (.ia 3 (.t 12) (.t 13)), none⟩, ⟨some 15, .q (.ldn 3 (.t 14)), none⟩, ⟨some 16, .e (.callv (.t 11) [(.t 15)]), none⟩]
def c49_6 : List SOper := [⟨some 17, .q (.mv (.t 5)), none⟩, ⟨some 4, .q (.mv (.t 17)), none⟩]
def c49_7 : SCode := .seq (.region c49_6 [4]) .ret
def c49_8 : SCode := .cond (.t 16) c49_7 .skip
def c49_9 : SCode := .seq (.region c49_5 [0, 1, 5, 7, 8, 16]) c49_8
def c49_10 : SCode := .seq (.region c49_4 [0, 1, 5, 7, 8]) c49_9
def c49_11 : SCode := .block 1 c49_10
def c49_12 : List SOper := [⟨some 18, .q (.bin .add (.t 8) (.c (.int .i64 1))), none⟩, ⟨some 8, .q (.mv (.t 18)), none⟩]
def c49_13 : SCode := .seq c49_11 (.region c49_12 [0, 1, 7, 8])
def c49_14 : SCode := .seq c49_3 c49_13
def c49_15 : SCode := .seq (.region c49_2 [0, 1, 7, 8, 9]) c49_14
def c49_16 : SCode := .loop c49_15
def c49_17 : SCode := .block 0 c49_16
def c49_18 : SCode := .seq (.region c49_1 [0, 1, 7, 8]) c49_17
def c49_19 : List SOper := [⟨some 4, .q (.mv (.c (.int .i64 (-1)))), none⟩]
def c49_20 : SCode := .seq (.region c49_19 [4]) .ret
def c49_21 : SCode := .seq c49_18 c49_20
def c49_22 : SCode := .seq (.region c49_0 [0, 1]) c49_21
def c49 : SCode := c49_22
theorem w49 : type_of% (And.intro (uR Try.prog c49_0.eq_1) (And.intro (uR Try.prog c49_1.eq_1) (And.intro (uR Try.prog c49_2.eq_1) (And.intro (uC Try.prog c49_3.eq_1) (And.intro (uR Try.prog c49_4.eq_1) (And.intro (uR Try.prog c49_5.eq_1) (And.intro (uR Try.prog c49_6.eq_1) (And.intro (uC Try.prog c49_7.eq_1) (And.intro (uC Try.prog c49_8.eq_1) (And.intro (uC Try.prog c49_9.eq_1) (And.intro (uC Try.prog c49_10.eq_1) (And.intro (uC Try.prog c49_11.eq_1) (And.intro (uR Try.prog c49_12.eq_1) (And.intro (uC Try.prog c49_13.eq_1) (And.intro (uC Try.prog c49_14.eq_1) (And.intro (uC Try.prog c49_15.eq_1) (And.intro (uC Try.prog c49_16.eq_1) (And.intro (uC Try.prog c49_17.eq_1) (And.intro (uC Try.prog c49_18.eq_1) (And.intro (uR Try.prog c49_19.eq_1) (And.intro (uC Try.prog c49_20.eq_1) (And.intro (uC Try.prog c49_21.eq_1) (And.intro (uC Try.prog c49_22.eq_1) (uC Try.prog c49.eq_1)))))))))))))))))))))))) := (And.intro (uR Try.prog c49_0.eq_1) (And.intro (uR Try.prog c49_1.eq_1) (And.intro (uR Try.prog c49_2.eq_1) (And.intro (uC Try.prog c49_3.eq_1) (And.intro (uR Try.prog c49_4.eq_1) (And.intro (uR Try.prog c49_5.eq_1) (And.intro (uR Try.prog c49_6.eq_1) (And.intro (uC Try.prog c49_7.eq_1) (And.intro (uC Try.prog c49_8.eq_1) (And.intro (uC Try.prog c49_9.eq_1) (And.intro (uC Try.prog c49_10.eq_1) (And.intro (uC Try.prog c49_11.eq_1) (And.intro (uR Try.prog c49_12.eq_1) (And.intro (uC Try.prog c49_13.eq_1) (And.intro (uC Try.prog c49_14.eq_1) (And.intro (uC Try.prog c49_15.eq_1) (And.intro (uC Try.prog c49_16.eq_1) (And.intro (uC Try.prog c49_17.eq_1) (And.intro (uC Try.prog c49_18.eq_1) (And.intro (uR Try.prog c49_19.eq_1) (And.intro (uC Try.prog c49_20.eq_1) (And.intro (uC Try.prog c49_21.eq_1) (And.intro (uC Try.prog c49_22.eq_1) (uC Try.prog c49.eq_1))))))))))))))))))))))))
def v49 : List RV := [.t 4]
theorem s49 : slimF Try.prog Try.f49 = some (c49.bare, v49) := by kernel_rfl
/-! 27 slices.ContainsFunc[[]loop.example/g00066/impl.Rgb,loop.example/g00066/impl.Rgb]: parameters 2, live [0, 1], slots [0:s, 1:f, 2:s, 3:f] -/
def c27_0 : List SOper := [⟨some 4, .q (.mv (.c (.bool false))), none⟩]
def c27_1 : List SOper := [⟨some 5, .q (.mv (.t 0)), none⟩, ⟨some 6, .q (.mv (.t 1)), none⟩, ⟨some 7, .e (.call 49 [(.t 5), (.t 6)]), none⟩, ⟨some 8, .q (.bin .geq (.t 7) (.c (.int .i64 0))), none⟩, ⟨some 4, .q (.mv (.t 8)), none⟩]
def c27_2 : SCode := .seq (.region c27_1 [4]) .ret
def c27_3 : SCode := .seq (.region c27_0 [0, 1]) c27_2
def c27 : SCode := c27_3
theorem w27 : type_of% (And.intro (uR Try.prog c27_0.eq_1) (And.intro (uR Try.prog c27_1.eq_1) (And.intro (uC Try.prog c27_2.eq_1) (And.intro (uC Try.prog c27_3.eq_1) (uC Try.prog c27.eq_1))))) := (And.intro (uR Try.prog c27_0.eq_1) (And.intro (uR Try.prog c27_1.eq_1) (And.intro (uC Try.prog c27_2.eq_1) (And.intro (uC Try.prog c27_3.eq_1) (uC Try.prog c27.eq_1)))))
def v27 : List RV := [.t 4]
theorem s27 : slimF Try.prog Try.f27 = some (c27.bare, v27) := by kernel_rfl
/-! 33 loop.example/g00066/impl.near: parameters 2, live [0, 1], slots [0:a, 1:b, 2:a, 3:b] -/
def c33_0 : List SOper := [⟨some 4, .q (.mv (.c (.int .i64 0))), none⟩]
def c33_1 : List SOper := [⟨some 5, .q (.mv (.t 0)), none⟩, ⟨some 6, .q (.bin .mul (.c (.int .i64 2)) (.t 5)), none⟩, ⟨some 7, .q (.mv (.t 1)), none⟩, ⟨some 8, .q (.bin .add (.t 6) (.t 7)), none⟩, ⟨some 9, .q (.mv (.t 1)), none⟩, ⟨some 10, .q (.bin .mul (.c (.int .i64 2)) (.t 9)), none⟩, ⟨some 11, .e (.call 51 [(.t 8), (.t 10)]), none⟩, ⟨some 4, .q (.mv (.t 11)), none⟩]
def c33_2 : SCode := .seq (.region c33_1 [4]) .ret
def c33_3 : SCode := .seq (.region c33_0 [0, 1]) c33_2
def c33 : SCode := c33_3
theorem w33 : type_of% (And.intro (uR Try.prog c33_0.eq_1) (And.intro (uR Try.prog c33_1.eq_1) (And.intro (uC Try.prog c33_2.eq_1) (And.intro (uC Try.prog c33_3.eq_1) (uC Try.prog c33.eq_1))))) := (And.intro (uR Try.prog c33_0.eq_1) (And.intro (uR Try.prog c33_1.eq_1) (And.intro (uC Try.prog c33_2.eq_1) (And.intro (uC Try.prog c33_3.eq_1) (uC Try.prog c33.eq_1)))))
def v33 : List RV := [.t 4]
theorem s33 : slimF Try.prog Try.f33 = some (c33.bare, v33) := by kernel_rfl
/-! 51 loop.example/g00066/impl.down: parameters 2, live [0, 1], slots [0:a, 1:b, 2:a, 3:b, 5:q] -/
def c51_0 : List SOper := [⟨some 4, .q (.mv (.c (.int .i64 0))), none⟩]
def c51_1 : List SOper := [⟨some 6, .q (.mv (.t 0)), none⟩, ⟨some 7, .q (.mv (.t 1)), none⟩, ⟨some 8, .q (.bin .quo (.t 6) (.t 7)), none⟩, ⟨some 5, .q (.mv (.t 8)), none⟩]
def c51_2 : List SOper := [⟨some 9, .q (.mv (.t 0)), none⟩, ⟨some 10, .q (.mv (.t 1)), none⟩, ⟨some 11, .q (.bin .rem (.t 9) (.t 10)), none⟩, ⟨some 12, .q (.bin .lss (.t 11) (.c (.int .i64 0))), none⟩]
def c51_3 : List SOper := [⟨some 13, .q (.mv (.t 5)), none⟩, ⟨some 14, .q (.bin .sub (.t 13) (.c (.int .i64 1))), none⟩, ⟨some 5, .q (.mv (.t 14)), none⟩]
def c51_4 : SCode := .cond (.t 12) (.region c51_3 [5]) .skip
def c51_5 : SCode := .seq (.region c51_2 [5, 12]) c51_4
def c51_6 : List SOper := [⟨some 15, .q (.mv (.t 5)), none⟩, ⟨some 4, .q (.mv (.t 15)), none⟩]
def c51_7 : SCode := .seq (.region c51_6 [4]) .ret
def c51_8 : SCode := .seq c51_5 c51_7
def c51_9 : SCode := .seq (.region c51_1 [0, 1, 5]) c51_8
def c51_10 : SCode := .seq (.region c51_0 [0, 1]) c51_9
def c51 : SCode := c51_10
theorem w51 : type_of% (And.intro (uR Try.prog c51_0.eq_1) (And.intro (uR Try.prog c51_1.eq_1) (And.intro (uR Try.prog c51_2.eq_1) (And.intro (uR Try.prog c51_3.eq_1) (And.intro (uC Try.prog c51_4.eq_1) (And.intro (uC Try.prog c51_5.eq_1) (And.intro (uR Try.prog c51_6.eq_1) (And.intro (uC Try.prog c51_7.eq_1) (And.intro (uC Try.prog c51_8.eq_1) (And.intro (uC Try.prog c51_9.eq_1) (And.intro (uC Try.prog c51_10.eq_1) (uC Try.prog c51.eq_1)))))))))))) := (And.intro (uR Try.prog c51_0.eq_1) (And.intro (uR Try.prog c51_1.eq_1) (And.intro (uR Try.prog c51_2.eq_1) (And.intro (uR Try.prog c51_3.eq_1) (And.intro (uC Try.prog c51_4.eq_1) (And.intro (uC Try.prog c51_5.eq_1) (And.intro (uR Try.prog c51_6.eq_1) (And.intro (uC Try.prog c51_7.eq_1) (And.intro (uC Try.prog c51_8.eq_1) (And.intro (uC Try.prog c51_9.eq_1) (And.intro (uC Try.prog c51_10.eq_1) (uC Try.prog c51.eq_1))))))))))))
def v51 : List RV := [.t 4]
theorem s51 : slimF Try.prog Try.f51 = some (c51.bare, v51) := by kernel_rfl
/-! 30 loop.example/g00066/impl.cut: parameters 2, live [0, 1], slots [0:v, 1:n, 2:v, 3:n, 6:i] -/
def c30_0 : List SOper := [⟨some 4, .q (.mv (.c (.int .i64 0))), none⟩, ⟨some 5, .q (.mv (.c (.int .i64 0))), none⟩]
def c30_1 : List SOper := [⟨some 7, .q (.mv (.t 0)), none⟩, ⟨some 8, .q (.mv (.t 1)), none⟩, ⟨some 9, .q (.bin .mul (.t 7) (.t 8)), none⟩, ⟨some 10, .q (.bin .quo (.t 9) (.c (.int .i64 65535))), none⟩, ⟨some 11, .q (.mv (.t 1)), none⟩, ⟨some 12, .q (.bin .sub (.t 11) (.c (.int .i64 1))), none⟩, ⟨some 13, .q (.mn (.t 10) (.t 12)), none⟩, ⟨some 6, .q (.mv (.t 13)), none⟩]
def c30_2 : List SOper := [⟨some 14, .q (.mv (.t 6)), none⟩, ⟨some 15, .q (.mv (.t 0)), none⟩, ⟨some 16, .q (.mv (.t 1)), none⟩, ⟨some 17, .q (.bin .mul (.t 15) (.t 16)), none⟩, ⟨some 18, .q (.mv (.t 6)), none⟩, ⟨some 19, .q (.bin .mul (.t 18) (.c (.int .i64 65535))), none⟩, ⟨some 20, .q (.bin .sub (.t 17) (.t 19)), none⟩, ⟨some 4, .q (.mv (.t 14)), none⟩, ⟨some 5, .q (.mv (.t 20)), none⟩]
def c30_3 : SCode := .seq (.region c30_2 [4, 5]) .ret
def c30_4 : SCode := .seq (.region c30_1 [0, 1, 6]) c30_3
def c30_5 : SCode := .seq (.region c30_0 [0, 1]) c30_4
def c30 : SCode := c30_5
theorem w30 : type_of% (And.intro (uR Try.prog c30_0.eq_1) (And.intro (uR Try.prog c30_1.eq_1) (And.intro (uR Try.prog c30_2.eq_1) (And.intro (uC Try.prog c30_3.eq_1) (And.intro (uC Try.prog c30_4.eq_1) (And.intro (uC Try.prog c30_5.eq_1) (uC Try.prog c30.eq_1))))))) := (And.intro (uR Try.prog c30_0.eq_1) (And.intro (uR Try.prog c30_1.eq_1) (And.intro (uR Try.prog c30_2.eq_1) (And.intro (uC Try.prog c30_3.eq_1) (And.intro (uC Try.prog c30_4.eq_1) (And.intro (uC Try.prog c30_5.eq_1) (uC Try.prog c30.eq_1)))))))
def v30 : List RV := [.t 4, .t 5]
theorem s30 : slimF Try.prog Try.f30 = some (c30.bare, v30) := by kernel_rfl
/-! 29 (loop.example/g00066/impl.Rgb).parts: parameters 1, live [0], slots [0:c, 1:c] -/
def c29_0 : List SOper := [⟨some 1, .a (.box (.t 0)), none⟩, ⟨some 2, .a (.new [(.int .i64 0), (.int .i64 0), (.int .i64 0)]), none⟩]
def c29_1 : List SOper := [⟨some 3, .q (.fa 0 (.t 1)), none⟩, ⟨some 4, .q (.ld (.t 3)), none⟩, ⟨some 5, .q (.fa 1 (.t 1)), none⟩, ⟨some 6, .q (.ld (.t 5)), none⟩, ⟨some 7, .q (.fa 2 (.t 1)), none⟩, ⟨some 8, .q (.ld (.t 7)), none⟩, ⟨some 9, .q (.build [(.int .i64 0), (.int .i64 0), (.int .i64 0)] [(0, 1, (.t 4)), (1, 1, (.t 6)), (2, 1, (.t 8))]), none⟩, ⟨none, .e (.st 3 (.t 2) (.t 9)), none⟩]
def c29_2 : SCode := .seq (.region c29_1 [2]) .ret
def c29_3 : SCode := .seq (.region c29_0 [1, 2]) c29_2
def c29 : SCode := c29_3
theorem w29 : type_of% (And.intro (uR Try.prog c29_0.eq_1) (And.intro (uR Try.prog c29_1.eq_1) (And.intro (uC Try.prog c29_2.eq_1) (And.intro (uC Try.prog c29_3.eq_1) (uC Try.prog c29.eq_1))))) := (And.intro (uR Try.prog c29_0.eq_1) (And.intro (uR Try.prog c29_1.eq_1) (And.intro (uC Try.prog c29_2.eq_1) (And.intro (uC Try.prog c29_3.eq_1) (uC Try.prog c29.eq_1)))))
def v29 : List RV := [.c 2 (some 3)]
theorem s29 : slimF Try.prog Try.f29 = some (c29.bare, v29) := by kernel_rfl
/-! 34 loop.example/g00066/impl.rgbOf: parameters 1, live [0], slots [0:p, 1:p] -/
def c34_0 : List SOper := [⟨some 1, .a (.box (.t 0)), none⟩, ⟨some 2, .a (.new [(.int .i64 0), (.int .i64 0), (.int .i64 0)]), none⟩]
def c34_1 : List SOper := [⟨some 3, .q (.iaa 3 1 (.t 1) (.c (.int .i64 0))), none⟩, ⟨some 4, .q (.ld (.t 3)), none⟩, ⟨some 5, .q (.iaa 3 1 (.t 1) (.c (.int .i64 1))), none⟩, ⟨some 6, .q (.ld (.t 5)), none⟩, ⟨some 7, .q (.iaa 3 1 (.t 1) (.c (.int .i64 2))), none⟩, ⟨some 8, .q (.ld (.t 7)), none⟩, ⟨some 9, .q (.build [(.int .i64 0), (.int .i64 0), (.int .i64 0)] [(0, 1, (.t 4)), (1, 1, (.t 6)), (2, 1, (.t 8))]), none⟩, ⟨none, .e (.st 3 (.t 2) (.t 9)), none⟩]
def c34_2 : SCode := .seq (.region c34_1 [2]) .ret
def c34_3 : SCode := .seq (.region c34_0 [1, 2]) c34_2
def c34 : SCode := c34_3
theorem w34 : type_of% (And.intro (uR Try.prog c34_0.eq_1) (And.intro (uR Try.prog c34_1.eq_1) (And.intro (uC Try.prog c34_2.eq_1) (And.intro (uC Try.prog c34_3.eq_1) (uC Try.prog c34.eq_1))))) := (And.intro (uR Try.prog c34_0.eq_1) (And.intro (uR Try.prog c34_1.eq_1) (And.intro (uC Try.prog c34_2.eq_1) (And.intro (uC Try.prog c34_3.eq_1) (uC Try.prog c34.eq_1)))))
def v34 : List RV := [.c 2 (some 3)]
theorem s34 : slimF Try.prog Try.f34 = some (c34.bare, v34) := by kernel_rfl
/-! 32 loop.example/g00066/impl.Cube$2: parameters 2, live [0, 1, 2], slots [0:a, 1:b, 3:a, 4:b] -/
def c32_0 : List SOper := [⟨some 5, .q (.mv (.c (.int .i64 0))), none⟩]
def c32_1 : List SOper := [⟨some 6, .q (.mv (.t 1)), none⟩, ⟨some 7, .q (.iaa 3 1 (.t 2) (.t 6)), none⟩, ⟨some 8, .q (.ld (.t 7)), none⟩, ⟨some 9, .q (.mv (.t 0)), none⟩, ⟨some 10, .q (.iaa 3 1 (.t 2) (.t 9)), none⟩, ⟨some 11, .q (.ld (.t 10)), none⟩, ⟨some 12, .q (.bin .sub (.t 8) (.t 11)), none⟩, ⟨some 5, .q (.mv (.t 12)), none⟩]
def c32_2 : SCode := .seq (.region c32_1 [5]) .ret
def c32_3 : SCode := .seq (.region c32_0 [0, 1, 2]) c32_2
def c32 : SCode := c32_3
theorem w32 : type_of% (And.intro (uR Try.prog c32_0.eq_1) (And.intro (uR Try.prog c32_1.eq_1) (And.intro (uC Try.prog c32_2.eq_1) (And.intro (uC Try.prog c32_3.eq_1) (uC Try.prog c32.eq_1))))) := (And.intro (uR Try.prog c32_0.eq_1) (And.intro (uR Try.prog c32_1.eq_1) (And.intro (uC Try.prog c32_2.eq_1) (And.intro (uC Try.prog c32_3.eq_1) (uC Try.prog c32.eq_1)))))
def v32 : List RV := [.t 5]
theorem s32 : slimF Try.prog Try.f32 = some (c32.bare, v32) := by kernel_rfl
/-! 31 slices.SortStableFunc[[]int,int]: parameters 2, live [0, 1], slots [0:x, 1:cmp, 2:x, 3:cmp] -/
def c31_0 : List SOper := [⟨some 4, .q (.mv (.t 0)), none⟩, ⟨some 5, .q (.mv (.t 0)), none⟩, ⟨some 6, .q (.len (.t 5)), none⟩, ⟨some 7, .q (.mv (.t 1)), none⟩, ⟨some 8, .e (.call 50 [(.t 4), (.t 6), (.t 7)]), none⟩]
def c31 : SCode := (.region c31_0 [])
theorem w31 : type_of% (And.intro (uR Try.prog c31_0.eq_1) (uC Try.prog c31.eq_1)) := (And.intro (uR Try.prog c31_0.eq_1) (uC Try.prog c31.eq_1))
def v31 : List RV := []
theorem s31 : slimF Try.prog Try.f31 = some (c31.bare, v31) := by kernel_rfl
/-! 50 slices.stableCmpFunc[int]: parameters 3, live [0, 1, 2], slots [0:data, 1:n, 2:cmp, 3:data, 4:n, 5:cmp, 6:blockSize, 7:a, 8:b, 9:m] -/
def c50_0 : List SOper := [⟨some 6, .q (.mv (.c (.int .i64 20))), none⟩]
def c50_1 : List SOper := [⟨some 10, .q (.mv (.t 6)), none⟩, ⟨some 7, .q (.mv (.c (.int .i64 0))), none⟩, ⟨some 8, .q (.mv (.t 10)), none⟩]
def c50_2 : List SOper := [⟨some 11, .q (.mv (.t 8)), none⟩, ⟨some 12, .q (.mv (.t 1)), none⟩, ⟨some 13, .q (.bin .leq (.t 11) (.t 12)), none⟩]
def c50_3 : SCode := .cond (.t 13) .skip (.exit 0)
def c50_4 : SCode := .seq (.region c50_2 [0, 1, 2, 6, 7, 8, 13]) c50_3
def c50_5 : List SOper := [⟨some 14, .q (.mv (.t 0)), none⟩, ⟨some 15, .q (.mv (.t 7)), none⟩, ⟨some 16, .q (.mv (.t 8)), none⟩, ⟨some 17, .q (.mv (.t 2)), none⟩, ⟨some 18, .e (.call 56 [(.t 14), (.t 15), (.t 16), (.t 17)]), none⟩]
def c50_6 : List SOper := [⟨some 19, .q (.mv (.t 8)), none⟩, ⟨some 7, .q (.mv (.t 19)), none⟩]
def c50_7 : List SOper := [⟨some 20, .q (.mv (.t 8)), none⟩, ⟨some 21, .q (.mv (.t 6)), none⟩, ⟨some 22, .q (.bin .add (.t 20) (.t 21)), none⟩, ⟨some 8, .q (.mv (.t 22)), none⟩]
def c50_8 : SCode := .seq (.region c50_6 [0, 1, 2, 6, 7, 8]) (.region c50_7 [0, 1, 2, 6, 7, 8])
def c50_9 : SCode := .seq (.region c50_5 [0, 1, 2, 6, 8]) c50_8
def c50_10 : SCode := .block 1 c50_9
def c50_11 : SCode := .seq c50_4 c50_10
def c50_12 : SCode := .loop c50_11
def c50_13 : SCode := .block 0 c50_12
def c50_14 : List SOper := [⟨some 23, .q (.mv (.t 0)), none⟩, ⟨some 24, .q (.mv (.t 7)), none⟩, ⟨some 25, .q (.mv (.t 1)), none⟩, ⟨some 26, .q (.mv (.t 2)), none⟩, ⟨some 27, .e (.call 56 [(.t 23), (.t 24), (.t 25), (.t 26)]), none⟩]
def c50_15 : List SOper := [⟨some 28, .q (.mv (.t 6)), none⟩, ⟨some 29, .q (.mv (.t 1)), none⟩, ⟨some 30, .q (.bin .lss (.t 28) (.t 29)), none⟩]
def c50_16 : SCode := .cond (.t 30) .skip (.exit 2)
def c50_17 : SCode := .seq (.region c50_15 [0, 1, 2, 6, 30]) c50_16
def c50_18 : List SOper := [⟨some 31, .q (.mv (.t 6)), none⟩, ⟨some 32, .q (.bin .mul (.c (.int .i64 2)) (.t 31)), none⟩, ⟨some 7, .q (.mv (.c (.int .i64 0))), none⟩, ⟨some 8, .q (.mv (.t 32)), none⟩]
def c50_19 : List SOper := [⟨some 33, .q (.mv (.t 8)), none⟩, ⟨some 34, .q (.mv (.t 1)), none⟩, ⟨some 35, .q (.bin .leq (.t 33) (.t 34)), none⟩]
def c50_20 : SCode := .cond (.t 35) .skip (.exit 4)
def c50_21 : SCode := .seq (.region c50_19 [0, 1, 2, 6, 7, 8, 35]) c50_20
def c50_22 : List SOper := [⟨some 36, .q (.mv (.t 0)), none⟩, ⟨some 37, .q (.mv (.t 7)), none⟩, ⟨some 38, .q (.mv (.t 7)), none⟩, ⟨some 39, .q (.mv (.t 6)), none⟩, ⟨some 40, .q (.bin .add (.t 38) (.t 39)), none⟩, ⟨some 41, .q (.mv (.t 8)), none⟩, ⟨some 42, .q (.mv (.t 2)), none⟩, ⟨some 43, .e (.call 57 [(.t 36), (.t 37), (.t 40), (.t 41), (.t 42)]), none⟩]
def c50_23 : List SOper := [⟨some 44, .q (.mv (.t 8)), none⟩, ⟨some 7, .q (.mv (.t 44)), none⟩]
def c50_24 : List SOper := [⟨some 45, .q (.mv (.t 8)), none⟩, ⟨some 46, .q (.mv (.t 6)), none⟩, ⟨some 47, .q (.bin .mul (.c (.int .i64 2)) (.t 46)), none⟩, ⟨some 48, .q (.bin .add (.t 45) (.t 47)), none⟩, ⟨some 8, .q (.mv (.t 48)), none⟩]
def c50_25 : SCode := .seq (.region c50_23 [0, 1, 2, 6, 7, 8]) (.region c50_24 [0, 1, 2, 6, 7, 8])
def c50_26 : SCode := .seq (.region c50_22 [0, 1, 2, 6, 8]) c50_25
def c50_27 : SCode := .block 5 c50_26
def c50_28 : SCode := .seq c50_21 c50_27
def c50_29 : SCode := .loop c50_28
def c50_30 : SCode := .block 4 c50_29
def c50_31 : List SOper := [⟨some 49, .q (.mv (.t 7)), none⟩, ⟨some 50, .q (.mv (.t 6)), none⟩, ⟨some 51, .q (.bin .add (.t 49) (.t 50)), none⟩, ⟨some 9, .q (.mv (.t 51)), none⟩]
def c50_32 : List SOper := [⟨some 52, .q (.mv (.t 9)), none⟩, ⟨some 53, .q (.mv (.t 1)), none⟩, ⟨some 54, .q (.bin .lss (.t 52) (.t 53)), none⟩]
def c50_33 : List SOper := [⟨some 55, .q (.mv (.t 0)), none⟩, ⟨some 56, .q (.mv (.t 7)), none⟩, ⟨some 57, .q (.mv (.t 9)), none⟩, ⟨some 58, .q (.mv (.t 1)), none⟩, ⟨some 59, .q (.mv (.t 2)), none⟩, ⟨some 60, .e (.call 57 [(.t 55), (.t 56), (.t 57), (.t 58), (.t 59)]), none⟩]
def c50_34 : SCode := .cond (.t 54) (.region c50_33 [0, 1, 2, 6]) .skip
def c50_35 : SCode := .seq (.region c50_32 [0, 1, 2, 6, 7, 9, 54]) c50_34
def c50_36 : SCode := .seq (.region c50_31 [0, 1, 2, 6, 7, 9]) c50_35
def c50_37 : List SOper := [⟨some 61, .q (.mv (.t 6)), none⟩, ⟨some 62, .q (.bin .mul (.t 61) (.c (.int .i64 2))), none⟩, ⟨some 6, .q (.mv (.t 62)), none⟩]
def c50_38 : SCode := .seq c50_36 (.region c50_37 [0, 1, 2, 6])
def c50_39 : SCode := .seq c50_30 c50_38
def c50_40 : SCode := .seq (.region c50_18 [0, 1, 2, 6, 7, 8]) c50_39
def c50_41 : SCode := .block 3 c50_40
def c50_42 : SCode := .seq c50_17 c50_41
def c50_43 : SCode := .loop c50_42
def c50_44 : SCode := .block 2 c50_43
def c50_45 : SCode := .seq (.region c50_14 [0, 1, 2, 6]) c50_44
def c50_46 : SCode := .seq c50_13 c50_45
def c50_47 : SCode := .seq (.region c50_1 [0, 1, 2, 6, 7, 8]) c50_46
def c50_48 : SCode := .seq (.region c50_0 [0, 1, 2, 6]) c50_47
def c50 : SCode := c50_48
theorem w50 : type_of% (And.intro (uR Try.prog c50_0.eq_1) (And.intro (uR Try.prog c50_1.eq_1) (And.intro (uR Try.prog c50_2.eq_1) (And.intro (uC Try.prog c50_3.eq_1) (And.intro (uC Try.prog c50_4.eq_1) (And.intro (uR Try.prog c50_5.eq_1) (And.intro (uR Try.prog c50_6.eq_1) (And.intro (uR Try.prog c50_7.eq_1) (And.intro (uC Try.prog c50_8.eq_1) (And.intro (uC Try.prog c50_9.eq_1) (And.intro (uC Try.prog c50_10.eq_1) (And.intro (uC Try.prog c50_11.eq_1) (And.intro (uC Try.prog c50_12.eq_1) (And.intro (uC Try.prog c50_13.eq_1) (And.intro (uR Try.prog c50_14.eq_1) (And.intro (uR Try.prog c50_15.eq_1) (And.intro (uC Try.prog c50_16.eq_1) (And.intro (uC Try.prog c50_17.eq_1) (And.intro (uR Try.prog c50_18.eq_1) (And.intro (uR Try.prog c50_19.eq_1) (And.intro (uC Try.prog c50_20.eq_1) (And.intro (uC Try.prog c50_21.eq_1) (And.intro (uR Try.prog c50_22.eq_1) (And.intro (uR Try.prog c50_23.eq_1) (And.intro (uR Try.prog c50_24.eq_1) (And.intro (uC Try.prog c50_25.eq_1) (And.intro (uC Try.prog c50_26.eq_1) (And.intro (uC Try.prog c50_27.eq_1) (And.intro (uC Try.prog c50_28.eq_1) (And.intro (uC Try.prog c50_29.eq_1) (And.intro (uC Try.prog c50_30.eq_1) (And.intro (uR Try.prog c50_31.eq_1) (And.intro (uR Try.prog c50_32.eq_1) (And.intro (uR Try.prog c50_33.eq_1) (And.intro (uC Try.prog c50_34.eq_1) (And.intro (uC Try.prog c50_35.eq_1) (And.intro (uC Try.prog c50_36.eq_1) (And.intro (uR Try.prog c50_37.eq_1) (And.intro (uC Try.prog c50_38.eq_1) (And.intro (uC Try.prog c50_39.eq_1) (And.intro (uC Try.prog c50_40.eq_1) (And.intro (uC Try.prog c50_41.eq_1) (And.intro (uC Try.prog c50_42.eq_1) (And.intro (uC Try.prog c50_43.eq_1) (And.intro (uC Try.prog c50_44.eq_1) (And.intro (uC Try.prog c50_45.eq_1) (And.intro (uC Try.prog c50_46.eq_1) (And.intro (uC Try.prog c50_47.eq_1) (And.intro (uC Try.prog c50_48.eq_1) (uC Try.prog c50.eq_1)))))))))))))))))))))))))))))))))))))))))))))))))) := (And.intro (uR Try.prog c50_0.eq_1) (And.intro (uR Try.prog c50_1.eq_1) (And.intro (uR Try.prog c50_2.eq_1) (And.intro (uC Try.prog c50_3.eq_1) (And.intro (uC Try.prog c50_4.eq_1) (And.intro (uR Try.prog c50_5.eq_1) (And.intro (uR Try.prog c50_6.eq_1) (And.intro (uR Try.prog c50_7.eq_1) (And.intro (uC Try.prog c50_8.eq_1) (And.intro (uC Try.prog c50_9.eq_1) (And.intro (uC Try.prog c50_10.eq_1) (And.intro (uC Try.prog c50_11.eq_1) (And.intro (uC Try.prog c50_12.eq_1) (And.intro (uC Try.prog c50_13.eq_1) (And.intro (uR Try.prog c50_14.eq_1) (And.intro (uR Try.prog c50_15.eq_1) (And.intro (uC Try.prog c50_16.eq_1) (And.intro (uC Try.prog c50_17.eq_1) (And.intro (uR Try.prog c50_18.eq_1) (And.intro (uR Try.prog c50_19.eq_1) (And.intro (uC Try.prog c50_20.eq_1) (And.intro (uC Try.prog c50_21.eq_1) (And.intro (uR Try.prog c50_22.eq_1) (And.intro (uR Try.prog c50_23.eq_1) (And.intro (uR Try.prog c50_24.eq_1) (And.intro (uC Try.prog c50_25.eq_1) (And.intro (uC Try.prog c50_26.eq_1) (And.intro (uC Try.prog c50_27.eq_1) (And.intro (uC Try.prog c50_28.eq_1) (And.intro (uC Try.prog c50_29.eq_1) (And.intro (uC Try.prog c50_30.eq_1) (And.intro (uR Try.prog c50_31.eq_1) (And.intro (uR Try.prog c50_32.eq_1) (And.intro (uR Try.prog c50_33.eq_1) (And.intro (uC Try.prog c50_34.eq_1) (And.intro (uC Try.prog c50_35.eq_1) (And.intro (uC Try.prog c50_36.eq_1) (And.intro (uR Try.prog c50_37.eq_1) (And.intro (uC Try.prog c50_38.eq_1) (And.intro (uC Try.prog c50_39.eq_1) (And.intro (uC Try.prog c50_40.eq_1) (And.intro (uC Try.prog c50_41.eq_1) (And.intro (uC Try.prog c50_42.eq_1) (And.intro (uC Try.prog c50_43.eq_1) (And.intro (uC Try.prog c50_44.eq_1) (And.intro (uC Try.prog c50_45.eq_1) (And.intro (uC Try.prog c50_46.eq_1) (And.intro (uC Try.prog c50_47.eq_1) (And.intro (uC Try.prog c50_48.eq_1) (uC Try.prog c50.eq_1))))))))))))))))))))))))))))))))))))))))))))))))))
def v50 : List RV := []
theorem s50 : slimF Try.prog Try.f50 = some (c50.bare, v50) := by kernel_rfl
/-! 56 slices.insertionSortCmpFunc[int]: parameters 4, live [0, 1, 2, 3], slots [0:data, 1:a, 2:b, 3:cmp, 4:data, 5:a, 6:b, 7:cmp, 8:i, 9:j] -/
def c56_0 : List SOper := [⟨some 10, .q (.mv (.t 1)), none⟩, ⟨some 11, .q (.bin .add (.t 10) (.c (.int .i64 1))), none⟩, ⟨some 8, .q (.mv (.t 11)), none⟩]
def c56_1 : List SOper := [⟨some 12, .q (.mv (.t 8)), none⟩, ⟨some 13, .q (.mv (.t 2)), none⟩, ⟨some 14, .q (.bin .lss (.t 12) (.t 13)), none⟩]
def c56_2 : SCode := .cond (.t 14) .skip (.exit 0)
def c56_3 : SCode := .seq (.region c56_1 [0, 1, 2, 3, 8, 14]) c56_2
def c56_4 : List SOper := [⟨some 17, .q (.mv (.t 8)), none⟩, ⟨some 9, .q (.mv (.t 17)), none⟩]
def c56_5 : List SOper := [⟨some 18, .q (.mv (.t 9)), none⟩, ⟨some 19, .q (.mv (.t 1)), none⟩, ⟨some 20, .q (.bin .gtr (.t 18) (.t 19)), none⟩, ⟨some 21, .q (.mv (.t 20)), none⟩, ⟨some 22, .q (.mv (.t 3)), some (21, true)⟩, ⟨some 23, .q (.mv (.t 0)), some (21, true)⟩, ⟨some 24, .q (.mv (.t 9)), some (21, true)⟩, ⟨some 25, .q (.ia 1 (.t 23) (.t 24)), some (21, true)⟩, ⟨some 26, .q (.ld (.t 25)), some (21, true)⟩, ⟨some 27, .q (.mv (.t 0)), some (21, true)⟩, ⟨some 28, .q (.mv (.t 9)), some (21, true)⟩, ⟨some 29, .q (.bin .sub (.t 28) (.c (.int .i64 1))), some (21, true)⟩, ⟨some 30, .q (.ia 1 (.t 27) (.t 29)), some (21, true)⟩, ⟨some 31, .q (.ld (.t 30)), some (21, true)⟩, ⟨some 32, .e (.callv (.t 22) [(.t 26), (.t 31)]), some (21, true)⟩, ⟨some 33, .q (.bin .lss (.t 32) (.c (.int .i64 0))), some (21, true)⟩, ⟨some 34, .q (.pick (.t 21) (.t 33) (.c (.bool false))), none⟩]
def c56_6 : SCode := .cond (.t 34) .skip (.exit 2)
def c56_7 : SCode := .seq (.region c56_5 [0, 1, 2, 3, 8, 9, 34]) c56_6
def c56_8 : List SOper := [⟨some 37, .q (.mv (.t 0)), none⟩, ⟨some 38, .q (.mv (.t 9)), none⟩, ⟨some 39, .q (.mv (.t 0)), none⟩, ⟨some 40, .q (.mv (.t 9)), none⟩, ⟨some 41, .q (.bin .sub (.t 40) (.c (.int .i64 1))), none⟩, ⟨some 42, .q (.mv (.t 0)), none⟩, ⟨some 43, .q (.mv (.t 9)), none⟩, ⟨some 44, .q (.bin .sub (.t 43) (.c (.int .i64 1))), none⟩, ⟨some 45, .q (.ia 1 (.t 42) (.t 44)), none⟩, ⟨some 46, .q (.ld (.t 45)), none⟩, ⟨some 47, .q (.mv (.t 0)), none⟩, ⟨some 48, .q (.mv (.t 9)), none⟩, ⟨some 49, .q (.ia 1 (.t 47) (.t 48)), none⟩, ⟨some 50, .q (.ld (.t 49)), none⟩, ⟨some 51, .q (.ia 1 (.t 37) (.t 38)), none⟩, ⟨none, .e (.st 1 (.t 51) (.t 46)), none⟩, ⟨some 52, .q (.ia 1 (.t 39) (.t 41)), none⟩, ⟨none, .e (.st 1 (.t 52) (.t 50)), none⟩]
def c56_9 : SCode := .block 3 (.region c56_8 [0, 1, 2, 3, 8, 9])
def c56_10 : List SOper := [⟨some 35, .q (.mv (.t 9)), none⟩, ⟨some 36, .q (.bin .sub (.t 35) (.c (.int .i64 1))), none⟩, ⟨some 9, .q (.mv (.t 36)), none⟩]
def c56_11 : SCode := .seq c56_9 (.region c56_10 [0, 1, 2, 3, 8, 9])
def c56_12 : SCode := .seq c56_7 c56_11
def c56_13 : SCode := .loop c56_12
def c56_14 : SCode := .block 2 c56_13
def c56_15 : SCode := .seq (.region c56_4 [0, 1, 2, 3, 8, 9]) c56_14
def c56_16 : SCode := .block 1 c56_15
def c56_17 : List SOper := [⟨some 15, .q (.mv (.t 8)), none⟩, ⟨some 16, .q (.bin .add (.t 15) (.c (.int .i64 1))), none⟩, ⟨some 8, .q (.mv (.t 16)), none⟩]
def c56_18 : SCode := .seq c56_16 (.region c56_17 [0, 1, 2, 3, 8])
def c56_19 : SCode := .seq c56_3 c56_18
def c56_20 : SCode := .loop c56_19
def c56_21 : SCode := .block 0 c56_20
def c56_22 : SCode := .seq (.region c56_0 [0, 1, 2, 3, 8]) c56_21
def c56 : SCode := c56_22
theorem w56 : type_of% (And.intro (uR Try.prog c56_0.eq_1) (And.intro (uR Try.prog c56_1.eq_1) (And.intro (uC Try.prog c56_2.eq_1) (And.intro (uC Try.prog c56_3.eq_1) (And.intro (uR Try.prog c56_4.eq_1) (And.intro (uR Try.prog c56_5.eq_1) (And.intro (uC Try.prog c56_6.eq_1) (And.intro (uC Try.prog c56_7.eq_1) (And.intro (uR Try.prog c56_8.eq_1) (And.intro (uC Try.prog c56_9.eq_1) (And.intro (uR Try.prog c56_10.eq_1) (And.intro (uC Try.prog c56_11.eq_1) (And.intro (uC Try.prog c56_12.eq_1) (And.intro (uC Try.prog c56_13.eq_1) (And.intro (uC Try.prog c56_14.eq_1) (And.intro (uC Try.prog c56_15.eq_1) (And.intro (uC Try.prog c56_16.eq_1) (And.intro (uR Try.prog c56_17.eq_1) (And.intro (uC Try.prog c56_18.eq_1) (And.intro (uC Try.prog c56_19.eq_1) (And.intro (uC Try.prog c56_20.eq_1) (And.intro (uC Try.prog c56_21.eq_1) (And.intro (uC Try.prog c56_22.eq_1) (uC Try.prog c56.eq_1)))))))))))))))))))))))) := (And.intro (uR Try.prog c56_0.eq_1) (And.intro (uR Try.prog c56_1.eq_1) (And.intro (uC Try.prog c56_2.eq_1) (And.intro (uC Try.prog c56_3.eq_1) (And.intro (uR Try.prog c56_4.eq_1) (And.intro (uR Try.prog c56_5.eq_1) (And.intro (uC Try.prog c56_6.eq_1) (And.intro (uC Try.prog c56_7.eq_1) (And.intro (uR Try.prog c56_8.eq_1) (And.intro (uC Try.prog c56_9.eq_1) (And.intro (uR Try.prog c56_10.eq_1) (And.intro (uC Try.prog c56_11.eq_1) (And.intro (uC Try.prog c56_12.eq_1) (And.intro (uC Try.prog c56_13.eq_1) (And.intro (uC Try.prog c56_14.eq_1) (And.intro (uC Try.prog c56_15.eq_1) (And.intro (uC Try.prog c56_16.eq_1) (And.intro (uR Try.prog c56_17.eq_1) (And.intro (uC Try.prog c56_18.eq_1) (And.intro (uC Try.prog c56_19.eq_1) (And.intro (uC Try.prog c56_20.eq_1) (And.intro (uC Try.prog c56_21.eq_1) (And.intro (uC Try.prog c56_22.eq_1) (uC Try.prog c56.eq_1))))))))))))))))))))))))
def v56 : List RV := []
theorem s56 : slimF Try.prog Try.f56 = some (c56.bare, v56) := by kernel_rfl

/-! ### Colours: the small functions -/
def rgbOk (c : Rgb) : Prop := (0 ≤ c.r ∧ c.r ≤ 65535) ∧ (0 ≤ c.g ∧ c.g ≤ 65535) ∧ (0 ≤ c.b ∧ c.b ≤ 65535)
instance (c : Rgb) : Decidable (rgbOk c) := by unfold rgbOk; infer_instance
def near (a b : Int) : Int := (2 * a + b) / (2 * b)
def placeI (v n : Int) : Int := min (v * n / 65535) (n - 1)
def placeR (v n : Int) : Int := v * n - placeI v n * 65535
theorem l1In_ok (h : Heap) (x lo hi : Int) : ACall Try.prog 21 [.int .i64 x, .int .i64 lo, .int .i64 hi] h fun r h' => h' = h ∧ r = .bool (decide (lo ≤ x ∧ x ≤ hi)) := by
  refine ACall.of Try.func21 s21 (of_decide_eq_true rfl) ?_
  simp (maxSteps := 4000000) (disch := omega) only [ah, am, Nat.reduceEqDiff, reduceCtorEq, Nat.reduceAdd, Nat.reduceLeDiff, Nat.reduceMul, Nat.reduceLT, if_true, if_false, true_and, and_true, and_self, Nat.reduceBEq, QOp.loads, boxO, bslO, buildO, cutL, fillV, putL, w21, v21]
  (repeat' first
    | (refine stepG.cases (fun _ hp => ?_) (fun _ hp => ?_) <;> simp (maxSteps := 4000000) (disch := omega) only [hp, ah, am, Nat.reduceEqDiff, reduceCtorEq, Nat.reduceAdd, Nat.reduceLeDiff, Nat.reduceMul, Nat.reduceLT, if_true, if_false, true_and, and_true, and_self, Nat.reduceBEq, QOp.loads, boxO, bslO, buildO, cutL, fillV, putL, i64w, w21, v21])
    | (refine stepI.cases (fun _ hp => ?_) (fun _ hp => ?_) <;> simp (maxSteps := 4000000) (disch := omega) only [hp, ah, am, Nat.reduceEqDiff, reduceCtorEq, Nat.reduceAdd, Nat.reduceLeDiff, Nat.reduceMul, Nat.reduceLT, if_true, if_false, true_and, and_true, and_self, Nat.reduceBEq, QOp.loads, boxO, bslO, buildO, cutL, fillV, putL, i64w, w21, v21]))
  all_goals (refine bool_dec ?_; try simp only [decide_eq_true_eq, Bool.false_eq_true, false_and, and_false, true_and, and_true, false_iff, iff_false, true_iff, iff_true, not_false_eq_true, false_or, or_false, true_or, or_true]; first | done | omega | (refine Iff.intro (fun hq => ?_) (fun hq => ?_) <;> omega))
theorem in_ok (h : Heap) (x lo hi : Int) : ACall Try.prog 25 [.int .i64 x, .int .i64 lo, .int .i64 hi] h fun r h' => h' = h ∧ r = .bool (decide (lo ≤ x ∧ x ≤ hi)) := by
  refine ACall.of Try.func25 s25 (of_decide_eq_true rfl) ?_
  simp (maxSteps := 4000000) (disch := omega) only [ah, am, Nat.reduceEqDiff, reduceCtorEq, Nat.reduceAdd, Nat.reduceLeDiff, Nat.reduceMul, Nat.reduceLT, if_true, if_false, true_and, and_true, and_self, Nat.reduceBEq, QOp.loads, boxO, bslO, buildO, cutL, fillV, putL, w25, v25]
  (repeat' first
    | (refine stepG.cases (fun _ hp => ?_) (fun _ hp => ?_) <;> simp (maxSteps := 4000000) (disch := omega) only [hp, ah, am, Nat.reduceEqDiff, reduceCtorEq, Nat.reduceAdd, Nat.reduceLeDiff, Nat.reduceMul, Nat.reduceLT, if_true, if_false, true_and, and_true, and_self, Nat.reduceBEq, QOp.loads, boxO, bslO, buildO, cutL, fillV, putL, i64w, w25, v25])
    | (refine stepI.cases (fun _ hp => ?_) (fun _ hp => ?_) <;> simp (maxSteps := 4000000) (disch := omega) only [hp, ah, am, Nat.reduceEqDiff, reduceCtorEq, Nat.reduceAdd, Nat.reduceLeDiff, Nat.reduceMul, Nat.reduceLT, if_true, if_false, true_and, and_true, and_self, Nat.reduceBEq, QOp.loads, boxO, bslO, buildO, cutL, fillV, putL, i64w, w25, v25]))
  all_goals (refine bool_dec ?_; try simp only [decide_eq_true_eq, Bool.false_eq_true, false_and, and_false, true_and, and_true, false_iff, iff_false, true_iff, iff_true, not_false_eq_true, false_or, or_false, true_or, or_true]; first | done | omega | (refine Iff.intro (fun hq => ?_) (fun hq => ?_) <;> omega))
theorem l9In_ok (h : Heap) (x : Int) : ACall Try.prog 47 [.int .i64 x] h fun r h' => h' = h ∧ r = .bool (decide (0 ≤ x ∧ x ≤ 65535)) := by
  refine ACall.of Try.func47 s47 (of_decide_eq_true rfl) ?_
  simp (maxSteps := 4000000) (disch := omega) only [ah, am, Nat.reduceEqDiff, reduceCtorEq, Nat.reduceAdd, Nat.reduceLeDiff, Nat.reduceMul, Nat.reduceLT, if_true, if_false, true_and, and_true, and_self, Nat.reduceBEq, QOp.loads, boxO, bslO, buildO, cutL, fillV, putL, w47, v47]
  refine stepC.of (l1In_ok _ _ _ _) ?_
  rintro _ Hx ⟨hx, rfl⟩; rw [hx]; clear hx Hx
  simp (maxSteps := 4000000) (disch := omega) only [ah, am, Nat.reduceEqDiff, reduceCtorEq, Nat.reduceAdd, Nat.reduceLeDiff, Nat.reduceMul, Nat.reduceLT, if_true, if_false, true_and, and_true, and_self, Nat.reduceBEq, QOp.loads, boxO, bslO, buildO, cutL, fillV, putL, w47, v47]
theorem isValue_ok (h : Heap) (x : Int) : ACall Try.prog 44 [.int .i64 x] h fun r h' => h' = h ∧ r = .bool (decide (0 ≤ x ∧ x ≤ 65535)) := by
  refine ACall.of Try.func44 s44 (of_decide_eq_true rfl) ?_
  simp (maxSteps := 4000000) (disch := omega) only [ah, am, Nat.reduceEqDiff, reduceCtorEq, Nat.reduceAdd, Nat.reduceLeDiff, Nat.reduceMul, Nat.reduceLT, if_true, if_false, true_and, and_true, and_self, Nat.reduceBEq, QOp.loads, boxO, bslO, buildO, cutL, fillV, putL, w44, v44]
  refine stepC.of (in_ok _ _ _ _) ?_
  rintro _ Hx ⟨hx, rfl⟩; rw [hx]; clear hx Hx
  simp (maxSteps := 4000000) (disch := omega) only [ah, am, Nat.reduceEqDiff, reduceCtorEq, Nat.reduceAdd, Nat.reduceLeDiff, Nat.reduceMul, Nat.reduceLT, if_true, if_false, true_and, and_true, and_self, Nat.reduceBEq, QOp.loads, boxO, bslO, buildO, cutL, fillV, putL, w44, v44]
theorem l9Rgb_ok (h : Heap) (k : Rgb) : ACall Try.prog 22 [.agg (encRgb k).toArray] h fun r h' => Ext h h' ∧ r = .bool (decide (rgbOk k)) := by
  obtain ⟨a, b, c⟩ := k
  refine ACall.of Try.func22 s22 (of_decide_eq_true rfl) ?_
  simp (maxSteps := 4000000) (disch := omega) only [ah, am, Nat.reduceEqDiff, reduceCtorEq, Nat.reduceAdd, Nat.reduceLeDiff, Nat.reduceMul, Nat.reduceLT, if_true, if_false, true_and, and_true, and_self, Nat.reduceBEq, QOp.loads, boxO, bslO, buildO, cutL, fillV, putL, w22, v22, encRgb]
  (repeat' first
    | (refine stepC.of (l9In_ok _ _) ?_; rintro _ _ ⟨rfl, rfl⟩; simp (maxSteps := 4000000) (disch := omega) only [ah, am, Nat.reduceEqDiff, reduceCtorEq, Nat.reduceAdd, Nat.reduceLeDiff, Nat.reduceMul, Nat.reduceLT, if_true, if_false, true_and, and_true, and_self, Nat.reduceBEq, QOp.loads, boxO, bslO, buildO, cutL, fillV, putL, i64w, w22, v22, encRgb])
    | (refine stepG.cases (fun _ hp => ?_) (fun _ hp => ?_) <;> simp (maxSteps := 4000000) (disch := omega) only [hp, ah, am, Nat.reduceEqDiff, reduceCtorEq, Nat.reduceAdd, Nat.reduceLeDiff, Nat.reduceMul, Nat.reduceLT, if_true, if_false, true_and, and_true, and_self, Nat.reduceBEq, QOp.loads, boxO, bslO, buildO, cutL, fillV, putL, i64w, w22, v22, encRgb])
    | (refine stepI.cases (fun _ hp => ?_) (fun _ hp => ?_) <;> simp (maxSteps := 4000000) (disch := omega) only [hp, ah, am, Nat.reduceEqDiff, reduceCtorEq, Nat.reduceAdd, Nat.reduceLeDiff, Nat.reduceMul, Nat.reduceLT, if_true, if_false, true_and, and_true, and_self, Nat.reduceBEq, QOp.loads, boxO, bslO, buildO, cutL, fillV, putL, i64w, w22, v22, encRgb]))
  all_goals (refine ⟨Ext.more _ _, ?_⟩; refine bool_dec ?_; try simp only [decide_eq_true_eq, Bool.false_eq_true, false_and, and_false, true_and, and_true, false_iff, iff_false, true_iff, iff_true, not_false_eq_true, false_or, or_false, true_or, or_true, rgbOk]; first | done | omega | (refine Iff.intro (fun hq => ?_) (fun hq => ?_) <;> omega))
theorem Rgbok_ok (h : Heap) (k : Rgb) : ACall Try.prog 26 [.agg (encRgb k).toArray] h fun r h' => Ext h h' ∧ r = .bool (decide (rgbOk k)) := by
  obtain ⟨a, b, c⟩ := k
  refine ACall.of Try.func26 s26 (of_decide_eq_true rfl) ?_
  simp (maxSteps := 4000000) (disch := omega) only [ah, am, Nat.reduceEqDiff, reduceCtorEq, Nat.reduceAdd, Nat.reduceLeDiff, Nat.reduceMul, Nat.reduceLT, if_true, if_false, true_and, and_true, and_self, Nat.reduceBEq, QOp.loads, boxO, bslO, buildO, cutL, fillV, putL, w26, v26, encRgb]
  (repeat' first
    | (refine stepC.of (isValue_ok _ _) ?_; rintro _ _ ⟨rfl, rfl⟩; simp (maxSteps := 4000000) (disch := omega) only [ah, am, Nat.reduceEqDiff, reduceCtorEq, Nat.reduceAdd, Nat.reduceLeDiff, Nat.reduceMul, Nat.reduceLT, if_true, if_false, true_and, and_true, and_self, Nat.reduceBEq, QOp.loads, boxO, bslO, buildO, cutL, fillV, putL, i64w, w26, v26, encRgb])
    | (refine stepG.cases (fun _ hp => ?_) (fun _ hp => ?_) <;> simp (maxSteps := 4000000) (disch := omega) only [hp, ah, am, Nat.reduceEqDiff, reduceCtorEq, Nat.reduceAdd, Nat.reduceLeDiff, Nat.reduceMul, Nat.reduceLT, if_true, if_false, true_and, and_true, and_self, Nat.reduceBEq, QOp.loads, boxO, bslO, buildO, cutL, fillV, putL, i64w, w26, v26, encRgb])
    | (refine stepI.cases (fun _ hp => ?_) (fun _ hp => ?_) <;> simp (maxSteps := 4000000) (disch := omega) only [hp, ah, am, Nat.reduceEqDiff, reduceCtorEq, Nat.reduceAdd, Nat.reduceLeDiff, Nat.reduceMul, Nat.reduceLT, if_true, if_false, true_and, and_true, and_self, Nat.reduceBEq, QOp.loads, boxO, bslO, buildO, cutL, fillV, putL, i64w, w26, v26, encRgb]))
  all_goals (refine ⟨Ext.more _ _, ?_⟩; refine bool_dec ?_; try simp only [decide_eq_true_eq, Bool.false_eq_true, false_and, and_false, true_and, and_true, false_iff, iff_false, true_iff, iff_true, not_false_eq_true, false_or, or_false, true_or, or_true, rgbOk]; first | done | omega | (refine Iff.intro (fun hq => ?_) (fun hq => ?_) <;> omega))
theorem Cube1_ok (h : Heap) (k : Rgb) : ACall Try.prog 28 [.agg (encRgb k).toArray] h fun r h' => Ext h h' ∧ r = .bool (!decide (rgbOk k)) := by
  have g := Rgbok_ok (h.more [encRgb k]) k
  obtain ⟨a, b, c⟩ := k
  refine ACall.of Try.func28 s28 (of_decide_eq_true rfl) ?_
  simp (maxSteps := 4000000) (disch := omega) only [ah, am, Nat.reduceEqDiff, reduceCtorEq, Nat.reduceAdd, Nat.reduceLeDiff, Nat.reduceMul, Nat.reduceLT, if_true, if_false, true_and, and_true, and_self, Nat.reduceBEq, QOp.loads, boxO, bslO, buildO, cutL, fillV, putL, w28, v28, encRgb]
  refine stepC.of g ?_
  rintro _ H ⟨e, rfl⟩
  simp (maxSteps := 4000000) (disch := omega) only [ah, am, Nat.reduceEqDiff, reduceCtorEq, Nat.reduceAdd, Nat.reduceLeDiff, Nat.reduceMul, Nat.reduceLT, if_true, if_false, true_and, and_true, and_self, Nat.reduceBEq, QOp.loads, boxO, bslO, buildO, cutL, fillV, putL, w28, v28]
  exact (Ext.more h _).trans e
theorem IndexFuncR_ok (h : Heap) (v : Value) (l : List Rgb) (n : Nat) (cap : Array Value) (p : Rgb → Bool) (s : SlT h encRgb 3 v l) (hl : l.length ≤ 1100000)
    (hf : ∃ fn, Try.prog.funcs[n]? = some fn ∧ fn.body.isSome = true ∧ fn.name ≠ "runtime.NumGoroutine")
    (H : ∀ h' k, Ext h h' → k ∈ l → ACall Try.prog n ([.agg (encRgb k).toArray] ++ cap.toList) h' fun r h2 => Ext h' h2 ∧ r = .bool (p k)) :
    ACall Try.prog 49 [v, .func (.func n) #[] cap] h fun r h' => Ext h h' ∧ r = .int .i64 (match l.findIdx? p with | some j => (j : Int) | none => -1) := by
  obtain ⟨fn, hf1, hf2, hf3⟩ := hf
  refine ACall.of Try.func49 s49 (of_decide_eq_true rfl) ?_
  have R := s.rulesN
  simp (maxSteps := 4000000) (disch := omega) only [ah, am, Nat.reduceEqDiff, reduceCtorEq, Nat.reduceAdd, Nat.reduceLeDiff, Nat.reduceMul, Nat.reduceLT, if_true, if_false, true_and, and_true, and_self, Nat.reduceBEq, QOp.loads, boxO, bslO, buildO, cutL, fillV, putL, w49, v49, R]
  refine SW_loop_up (fun i E H => E = [(0, v), (1, .func (.func n) #[] cap), (7, .int .i64 l.length), (8, .int .i64 i)] ∧ Ext h H ∧ ∀ j (hj : j < l.length), j < i → p l[j] = false) l.length 0 (by omega)
    ⟨rfl, Ext.refl h, fun j _ hj => absurd hj (by omega)⟩ ?_
  rintro i E H1 hi ⟨rfl, e, F⟩
  have R := (s.ext e).rulesN
  have W : IntKind.i64.wrap ((i : Int) + 1) = ((i + 1 : Nat) : Int) := i64e (by omega) (by omega)
  simp (maxSteps := 4000000) (disch := omega) only [ah, am, Nat.reduceEqDiff, reduceCtorEq, Nat.reduceAdd, Nat.reduceLeDiff, Nat.reduceMul, Nat.reduceLT, if_true, if_false, true_and, and_true, and_self, Nat.reduceBEq, QOp.loads, boxO, bslO, buildO, cutL, fillV, putL, w49, v49, R]
  refine stepI.split (fun hp => ?_) (fun hp => ?_)
  · have hi' : i < l.length := by omega
    simp (maxSteps := 4000000) (disch := omega) only [ah, am, Nat.reduceEqDiff, reduceCtorEq, Nat.reduceAdd, Nat.reduceLeDiff, Nat.reduceMul, Nat.reduceLT, if_true, if_false, true_and, and_true, and_self, Nat.reduceBEq, QOp.loads, boxO, bslO, buildO, cutL, fillV, putL, w49, v49, R, nilV_func]
    refine stepV.of hf1 hf2 hf3 (H H1 _ e (List.getElem_mem hi')) ?_
    rintro _ H2 ⟨e2, rfl⟩
    simp (maxSteps := 4000000) (disch := omega) only [ah, am, Nat.reduceEqDiff, reduceCtorEq, Nat.reduceAdd, Nat.reduceLeDiff, Nat.reduceMul, Nat.reduceLT, if_true, if_false, true_and, and_true, and_self, Nat.reduceBEq, QOp.loads, boxO, bslO, buildO, cutL, fillV, putL, w49, v49, W]
    refine stepI.splitB (fun hk => ?_) (fun hk => ?_)
    · simp (maxSteps := 4000000) (disch := omega) only [ah, am, Nat.reduceEqDiff, reduceCtorEq, Nat.reduceAdd, Nat.reduceLeDiff, Nat.reduceMul, Nat.reduceLT, if_true, if_false, true_and, and_true, and_self, Nat.reduceBEq, QOp.loads, boxO, bslO, buildO, cutL, fillV, putL, w49, v49, W]
      refine ⟨e.trans e2, ?_⟩
      have : l.findIdx? p = some i := by
        rw [List.findIdx?_eq_some_iff_getElem]
        exact ⟨hi', hk, fun j hj => by rw [F j (by omega) hj]; decide⟩
      rw [this]
    · simp (maxSteps := 4000000) (disch := omega) only [ah, am, Nat.reduceEqDiff, reduceCtorEq, Nat.reduceAdd, Nat.reduceLeDiff, Nat.reduceMul, Nat.reduceLT, if_true, if_false, true_and, and_true, and_self, Nat.reduceBEq, QOp.loads, boxO, bslO, buildO, cutL, fillV, putL, w49, v49, W]
      refine ⟨hi', e.trans e2, fun j hj hj2 => ?_⟩
      by_cases hji : j = i
      · subst hji; exact hk
      · exact F j hj (by omega)
  · simp (maxSteps := 4000000) (disch := omega) only [ah, am, Nat.reduceEqDiff, reduceCtorEq, Nat.reduceAdd, Nat.reduceLeDiff, Nat.reduceMul, Nat.reduceLT, if_true, if_false, true_and, and_true, and_self, Nat.reduceBEq, QOp.loads, boxO, bslO, buildO, cutL, fillV, putL, w49, v49, R, W]
    obtain rfl : i = l.length := by omega
    refine ⟨e, ?_⟩
    have : l.findIdx? p = none := by
      rw [List.findIdx?_eq_none_iff]
      intro x hx
      obtain ⟨j, hj, rfl⟩ := List.getElem_of_mem hx
      exact F j hj hj
    rw [this]
theorem ContainsFuncR_ok (h : Heap) (v : Value) (l : List Rgb) (n : Nat) (cap : Array Value) (p : Rgb → Bool) (s : SlT h encRgb 3 v l) (hl : l.length ≤ 1100000)
    (hf : ∃ fn, Try.prog.funcs[n]? = some fn ∧ fn.body.isSome = true ∧ fn.name ≠ "runtime.NumGoroutine")
    (H : ∀ h' k, Ext h h' → k ∈ l → ACall Try.prog n ([.agg (encRgb k).toArray] ++ cap.toList) h' fun r h2 => Ext h' h2 ∧ r = .bool (p k)) :
    ACall Try.prog 27 [v, .func (.func n) #[] cap] h fun r h' => Ext h h' ∧ r = .bool (l.any p) := by
  refine ACall.of Try.func27 s27 (of_decide_eq_true rfl) ?_
  simp (maxSteps := 4000000) (disch := omega) only [ah, am, Nat.reduceEqDiff, reduceCtorEq, Nat.reduceAdd, Nat.reduceLeDiff, Nat.reduceMul, Nat.reduceLT, if_true, if_false, true_and, and_true, and_self, Nat.reduceBEq, QOp.loads, boxO, bslO, buildO, cutL, fillV, putL, w27, v27]
  refine stepC.of (IndexFuncR_ok h v l n cap p s hl hf H) ?_
  rintro _ H1 ⟨e, rfl⟩
  simp (maxSteps := 4000000) (disch := omega) only [ah, am, Nat.reduceEqDiff, reduceCtorEq, Nat.reduceAdd, Nat.reduceLeDiff, Nat.reduceMul, Nat.reduceLT, if_true, if_false, true_and, and_true, and_self, Nat.reduceBEq, QOp.loads, boxO, bslO, buildO, cutL, fillV, putL, w27, v27]
  refine ⟨e, ?_⟩
  cases hq : l.findIdx? p with
  | none =>
    rw [List.findIdx?_eq_none_iff] at hq
    have : l.any p = false := by rw [List.any_eq_false]; intro x hx; rw [hq x hx]; decide
    rw [this]; rfl
  | some j =>
    rw [List.findIdx?_eq_some_iff_getElem] at hq
    obtain ⟨hj, hp, _⟩ := hq
    have : l.any p = true := List.any_eq_true.mpr ⟨_, List.getElem_mem hj, hp⟩
    rw [this]
    congr 1
theorem down_eq (a b : Int) (hb : 0 < b) : (if a.tmod b < 0 then a.tdiv b - 1 else a.tdiv b) = a / b := by
  have h1 := Int.mul_tdiv_add_tmod a b
  have h2 : a.tmod b < b := by have := Int.tmod_lt_of_pos a hb; exact this
  have h3 : -b < a.tmod b := by have := Int.lt_tmod_of_pos a hb; exact this
  split
  · rename_i h
    symm
    have := (Int.ediv_emod_unique (a := a) (b := b) (r := a.tmod b + b) (q := a.tdiv b - 1) hb).mpr ⟨by rw [Int.mul_sub]; omega, by omega, by omega⟩
    exact this.1
  · rename_i h
    symm
    have := (Int.ediv_emod_unique (a := a) (b := b) (r := a.tmod b) (q := a.tdiv b) hb).mpr ⟨by omega, by omega, by omega⟩
    exact this.1
theorem div_bound {x d M : Int} (hd : 1 ≤ d) (h1 : -M ≤ x) (h2 : x ≤ M) : -M ≤ x / d ∧ x / d ≤ M := by
  have hM : 0 ≤ M := by omega
  have hq : M ≤ M * d := by have := Int.mul_le_mul_of_nonneg_left hd hM; simpa using this
  refine ⟨Int.le_ediv_of_mul_le (by omega) ?_, Int.ediv_le_of_le_mul (by omega) (by omega)⟩
  rw [Int.neg_mul]; omega
theorem mul_bound {x y M N : Int} (h0 : 0 ≤ x) (h1 : x ≤ M) (h2 : -N ≤ y) (h3 : y ≤ N) : -(M * N) ≤ x * y ∧ x * y ≤ M * N := by
  have hN : 0 ≤ N := by omega
  have a := Int.mul_le_mul_of_nonneg_left h3 h0
  have b := Int.mul_le_mul_of_nonneg_left h2 h0
  have c := Int.mul_le_mul_of_nonneg_right h1 hN
  rw [Int.mul_neg] at b
  omega
theorem l8Down_ok (h : Heap) (a b : Int) (hb : 0 < b) (ha : -1000000000000000 ≤ a ∧ a ≤ 1000000000000000) : ACall Try.prog 48 [.int .i64 a, .int .i64 b] h fun r h' => h' = h ∧ r = .int .i64 (a / b) := by
  refine ACall.of Try.func48 s48 (of_decide_eq_true rfl) ?_
  have hb' : b ≠ 0 := by omega
  have D := down_eq a b hb
  have B := div_bound (x := a) (d := b) (M := 1000000000000000) (by omega) ha.1 ha.2
  by_cases hc : a.tmod b < 0
  · have hc' : decide (a.tmod b < 0) = true := decide_eq_true hc
    rw [if_pos hc] at D
    simp (maxSteps := 4000000) (disch := omega) only [ah, am, Nat.reduceEqDiff, reduceCtorEq, Nat.reduceAdd, Nat.reduceLeDiff, Nat.reduceMul, Nat.reduceLT, if_true, if_false, true_and, and_true, and_self, Nat.reduceBEq, QOp.loads, boxO, bslO, buildO, cutL, fillV, putL, w48, v48, hb', ne_eq, i64w, hc']
    rw [D]
  · have hc' : decide (a.tmod b < 0) = false := decide_eq_false hc
    rw [if_neg hc] at D
    simp (maxSteps := 4000000) (disch := omega) only [ah, am, Nat.reduceEqDiff, reduceCtorEq, Nat.reduceAdd, Nat.reduceLeDiff, Nat.reduceMul, Nat.reduceLT, if_true, if_false, true_and, and_true, and_self, Nat.reduceBEq, QOp.loads, boxO, bslO, buildO, cutL, fillV, putL, w48, v48, hb', ne_eq, i64w, hc']
    rw [D]
theorem down_ok (h : Heap) (a b : Int) (hb : 0 < b) (ha : -1000000000000000 ≤ a ∧ a ≤ 1000000000000000) : ACall Try.prog 51 [.int .i64 a, .int .i64 b] h fun r h' => h' = h ∧ r = .int .i64 (a / b) := by
  refine ACall.of Try.func51 s51 (of_decide_eq_true rfl) ?_
  have hb' : b ≠ 0 := by omega
  have D := down_eq a b hb
  have B := div_bound (x := a) (d := b) (M := 1000000000000000) (by omega) ha.1 ha.2
  by_cases hc : a.tmod b < 0
  · have hc' : decide (a.tmod b < 0) = true := decide_eq_true hc
    rw [if_pos hc] at D
    simp (maxSteps := 4000000) (disch := omega) only [ah, am, Nat.reduceEqDiff, reduceCtorEq, Nat.reduceAdd, Nat.reduceLeDiff, Nat.reduceMul, Nat.reduceLT, if_true, if_false, true_and, and_true, and_self, Nat.reduceBEq, QOp.loads, boxO, bslO, buildO, cutL, fillV, putL, w51, v51, hb', ne_eq, i64w, hc']
    rw [D]
  · have hc' : decide (a.tmod b < 0) = false := decide_eq_false hc
    rw [if_neg hc] at D
    simp (maxSteps := 4000000) (disch := omega) only [ah, am, Nat.reduceEqDiff, reduceCtorEq, Nat.reduceAdd, Nat.reduceLeDiff, Nat.reduceMul, Nat.reduceLT, if_true, if_false, true_and, and_true, and_self, Nat.reduceBEq, QOp.loads, boxO, bslO, buildO, cutL, fillV, putL, w51, v51, hb', ne_eq, i64w, hc']
    rw [D]
theorem near_ok (h : Heap) (a b : Int) (hb : 0 < b ∧ b ≤ 1000000) (ha : -100000000000000 ≤ a ∧ a ≤ 100000000000000) : ACall Try.prog 33 [.int .i64 a, .int .i64 b] h fun r h' => h' = h ∧ r = .int .i64 (near a b) := by
  refine ACall.of Try.func33 s33 (of_decide_eq_true rfl) ?_
  simp (maxSteps := 4000000) (disch := omega) only [ah, am, Nat.reduceEqDiff, reduceCtorEq, Nat.reduceAdd, Nat.reduceLeDiff, Nat.reduceMul, Nat.reduceLT, if_true, if_false, true_and, and_true, and_self, Nat.reduceBEq, QOp.loads, boxO, bslO, buildO, cutL, fillV, putL, w33, v33, i64w]
  refine stepC.of (down_ok _ _ _ (by omega) (by omega)) ?_
  rintro _ Hx ⟨hx, rfl⟩; rw [hx]; clear hx Hx
  simp (maxSteps := 4000000) (disch := omega) only [ah, am, Nat.reduceEqDiff, reduceCtorEq, Nat.reduceAdd, Nat.reduceLeDiff, Nat.reduceMul, Nat.reduceLT, if_true, if_false, true_and, and_true, and_self, Nat.reduceBEq, QOp.loads, boxO, bslO, buildO, cutL, fillV, putL, w33, v33]
  rfl
theorem l9Round_ok (h : Heap) (a b : Int) (hb : 0 < b ∧ b ≤ 1000000) (ha : -100000000000000 ≤ a ∧ a ≤ 100000000000000) : ACall Try.prog 24 [.int .i64 a, .int .i64 b] h fun r h' => h' = h ∧ r = .int .i64 (near a b) := by
  refine ACall.of Try.func24 s24 (of_decide_eq_true rfl) ?_
  simp (maxSteps := 4000000) (disch := omega) only [ah, am, Nat.reduceEqDiff, reduceCtorEq, Nat.reduceAdd, Nat.reduceLeDiff, Nat.reduceMul, Nat.reduceLT, if_true, if_false, true_and, and_true, and_self, Nat.reduceBEq, QOp.loads, boxO, bslO, buildO, cutL, fillV, putL, w24, v24, i64w]
  refine stepC.of (l8Down_ok _ _ _ (by omega) (by omega)) ?_
  rintro _ Hx ⟨hx, rfl⟩; rw [hx]; clear hx Hx
  simp (maxSteps := 4000000) (disch := omega) only [ah, am, Nat.reduceEqDiff, reduceCtorEq, Nat.reduceAdd, Nat.reduceLeDiff, Nat.reduceMul, Nat.reduceLT, if_true, if_false, true_and, and_true, and_self, Nat.reduceBEq, QOp.loads, boxO, bslO, buildO, cutL, fillV, putL, w24, v24]
  rfl
theorem l1Min_ok (h : Heap) (a b : Int) : ACall Try.prog 42 [.int .i64 a, .int .i64 b] h fun r h' => h' = h ∧ r = .int .i64 (min a b) := by
  refine ACall.of Try.func42 s42 (of_decide_eq_true rfl) ?_
  simp (maxSteps := 4000000) (disch := omega) only [ah, am, Nat.reduceEqDiff, reduceCtorEq, Nat.reduceAdd, Nat.reduceLeDiff, Nat.reduceMul, Nat.reduceLT, if_true, if_false, true_and, and_true, and_self, Nat.reduceBEq, QOp.loads, boxO, bslO, buildO, cutL, fillV, putL, w42, v42, stepI_dec]
  split
  · rw [Int.min_eq_left (by omega)]
  · rw [Int.min_eq_right (by omega)]
theorem l1Max_ok (h : Heap) (a b : Int) : ACall Try.prog 43 [.int .i64 a, .int .i64 b] h fun r h' => h' = h ∧ r = .int .i64 (max a b) := by
  refine ACall.of Try.func43 s43 (of_decide_eq_true rfl) ?_
  simp (maxSteps := 4000000) (disch := omega) only [ah, am, Nat.reduceEqDiff, reduceCtorEq, Nat.reduceAdd, Nat.reduceLeDiff, Nat.reduceMul, Nat.reduceLT, if_true, if_false, true_and, and_true, and_self, Nat.reduceBEq, QOp.loads, boxO, bslO, buildO, cutL, fillV, putL, w43, v43, stepI_dec]
  split
  · rw [Int.max_eq_left (by omega)]
  · rw [Int.max_eq_right (by omega)]
theorem vn_bound {v n : Int} (hv : 0 ≤ v ∧ v ≤ 65535) (hn : 1 ≤ n ∧ n ≤ 256) : 0 ≤ v * n ∧ v * n ≤ 16776960 := by
  have h1 := Int.mul_nonneg hv.1 (show 0 ≤ n by omega)
  have h2 := Int.mul_le_mul hv.2 hn.2 (by omega) (by omega)
  omega
theorem place_b {v n : Int} (hv : 0 ≤ v ∧ v ≤ 65535) (hn : 1 ≤ n ∧ n ≤ 256) : (0 ≤ placeI v n ∧ placeI v n ≤ n - 1) ∧ (0 ≤ placeR v n ∧ placeR v n ≤ 65535) := by
  have hb := vn_bound hv hn
  have h3 : v * n ≤ 65535 * n := Int.mul_le_mul_of_nonneg_right hv.2 (by omega)
  unfold placeR placeI
  omega
theorem cut_ok (h : Heap) (v n : Int) (hv : 0 ≤ v ∧ v ≤ 65535) (hn : 1 ≤ n ∧ n ≤ 256) : ACall Try.prog 30 [.int .i64 v, .int .i64 n] h fun r h' => h' = h ∧ r = .tuple #[.int .i64 (placeI v n), .int .i64 (placeR v n)] := by
  refine ACall.of Try.func30 s30 (of_decide_eq_true rfl) ?_
  have hb := vn_bound hv hn
  have hp := place_b hv hn
  have W1 : IntKind.i64.wrap (v * n) = v * n := i64w (by omega)
  have D : (v * n).tdiv 65535 = v * n / 65535 := Int.tdiv_eq_ediv_of_nonneg hb.1
  have W2 : IntKind.i64.wrap (v * n / 65535) = v * n / 65535 := i64w (by omega)
  have W3 : IntKind.i64.wrap (n - 1) = n - 1 := i64w (by omega)
  have M : (if n - 1 < v * n / 65535 then n - 1 else v * n / 65535) = placeI v n := by
    unfold placeI; split <;> omega
  have W4 : IntKind.i64.wrap (placeI v n * 65535) = placeI v n * 65535 := i64w (by omega)
  have W5 : IntKind.i64.wrap (v * n - placeI v n * 65535) = placeR v n := i64e rfl (by have := hp.2; omega)
  simp (maxSteps := 4000000) (disch := omega) only [ah, am, Nat.reduceEqDiff, reduceCtorEq, Nat.reduceAdd, Nat.reduceLeDiff, Nat.reduceMul, Nat.reduceLT, if_true, if_false, true_and, and_true, and_self, Nat.reduceBEq, QOp.loads, boxO, bslO, buildO, cutL, fillV, putL, w30, v30, W1, D, W2, W3, M, W4, W5, ne_eq, not_false_eq_true]
theorem l9Place_ok (h : Heap) (v n : Int) (hv : 0 ≤ v ∧ v ≤ 65535) (hn : 1 ≤ n ∧ n ≤ 256) : ACall Try.prog 23 [.int .i64 v, .int .i64 n] h fun r h' => h' = h ∧ r = .tuple #[.int .i64 (placeI v n), .int .i64 (placeR v n)] := by
  refine ACall.of Try.func23 s23 (of_decide_eq_true rfl) ?_
  have hb := vn_bound hv hn
  have hp := place_b hv hn
  have W1 : IntKind.i64.wrap (v * n) = v * n := i64w (by omega)
  have D : (v * n).tdiv 65535 = v * n / 65535 := Int.tdiv_eq_ediv_of_nonneg hb.1
  have W2 : IntKind.i64.wrap (v * n / 65535) = v * n / 65535 := i64w (by omega)
  have W3 : IntKind.i64.wrap (n - 1) = n - 1 := i64w (by omega)
  have M : min (n - 1) (v * n / 65535) = placeI v n := by unfold placeI; omega
  have W4 : IntKind.i64.wrap (placeI v n * 65535) = placeI v n * 65535 := i64w (by omega)
  have W5 : IntKind.i64.wrap (v * n - placeI v n * 65535) = placeR v n := i64e rfl (by have := hp.2; omega)
  simp (maxSteps := 4000000) (disch := omega) only [ah, am, Nat.reduceEqDiff, reduceCtorEq, Nat.reduceAdd, Nat.reduceLeDiff, Nat.reduceMul, Nat.reduceLT, if_true, if_false, true_and, and_true, and_self, Nat.reduceBEq, QOp.loads, boxO, bslO, buildO, cutL, fillV, putL, w23, v23, W1, D, W2, W3, ne_eq, not_false_eq_true]
  refine stepC.of (l1Min_ok _ _ _) ?_
  rintro _ Hx ⟨hx, rfl⟩; rw [hx]; clear hx Hx
  simp (maxSteps := 4000000) (disch := omega) only [ah, am, Nat.reduceEqDiff, reduceCtorEq, Nat.reduceAdd, Nat.reduceLeDiff, Nat.reduceMul, Nat.reduceLT, if_true, if_false, true_and, and_true, and_self, Nat.reduceBEq, QOp.loads, boxO, bslO, buildO, cutL, fillV, putL, w23, v23, M, W1, W4, W5]
theorem parts_ok (h : Heap) (k : Rgb) : ACall Try.prog 29 [.agg (encRgb k).toArray] h fun r h' => Ext h h' ∧ r = .agg (encRgb k).toArray := by
  refine ACall.of Try.func29 s29 (of_decide_eq_true rfl) ?_
  simp (maxSteps := 4000000) (disch := omega) only [ah, am, Nat.reduceEqDiff, reduceCtorEq, Nat.reduceAdd, Nat.reduceLeDiff, Nat.reduceMul, Nat.reduceLT, if_true, if_false, true_and, and_true, and_self, Nat.reduceBEq, QOp.loads, boxO, bslO, buildO, cutL, fillV, putL, w29, v29, encRgb]
  exact Ext.more _ _
theorem rgbOf_ok (h : Heap) (k : Rgb) : ACall Try.prog 34 [.agg (encRgb k).toArray] h fun r h' => Ext h h' ∧ r = .agg (encRgb k).toArray := by
  refine ACall.of Try.func34 s34 (of_decide_eq_true rfl) ?_
  have t0 : Int.toNat 0 = 0 := rfl
  have t1 : Int.toNat 1 = 1 := rfl
  have t2 : Int.toNat 2 = 2 := rfl
  simp (maxSteps := 4000000) (disch := omega) only [ah, am, Nat.reduceEqDiff, reduceCtorEq, Nat.reduceAdd, Nat.reduceLeDiff, Nat.reduceMul, Nat.reduceLT, if_true, if_false, true_and, and_true, and_self, Nat.reduceBEq, QOp.loads, boxO, bslO, buildO, cutL, fillV, putL, w34, v34, encRgb, t0, t1, t2, Nat.mul_one]
  exact Ext.more _ _
/-! ### Three places put in order -/
/-- One value sinks to its place. -/
def sink (lt : Int → Int → Bool) : Nat → List Int → List Int
  | 0, l => l
  | j + 1, l => if lt (l.getD (j + 1) 0) (l.getD j 0) = true then sink lt j ((l.set (j + 1) (l.getD j 0)).set j (l.getD (j + 1) 0)) else l
theorem sink_length (lt : Int → Int → Bool) : ∀ j l, (sink lt j l).length = l.length := by
  intro j
  induction j with
  | zero => intro l; rfl
  | succ j ih => intro l; unfold sink; split
                 · rw [ih]; simp
                 · rfl
theorem sink_mem (lt : Int → Int → Bool) (P : Int → Prop) : ∀ j (l : List Int), j < l.length → (∀ x ∈ l, P x) → ∀ x ∈ sink lt j l, P x := by
  intro j
  induction j with
  | zero => intro l _ h; exact h
  | succ j ih =>
    intro l hj h
    unfold sink
    split
    · refine ih _ (by simp; omega) fun x hx => ?_
      rcases List.mem_or_eq_of_mem_set hx with hx | rfl
      · rcases List.mem_or_eq_of_mem_set hx with hx | rfl
        · exact h x hx
        · exact h _ (by simp [List.getD, List.getElem?_eq_getElem (show j < l.length by omega)])
      · exact h _ (by simp [List.getD, List.getElem?_eq_getElem hj])
    · exact h
theorem getD_atE {α : Type} {l : List α} {i : Nat} (h : i < l.length) (d : α) : l.getD i d = l[i] := by simp [List.getD, List.getElem?_eq_getElem h]
theorem insertionI_ok (h : Heap) (g : Nat) (v : Value) (l : List Int) (n : Nat) (cap : Array Value) (cm : Int → Int → Int) (lt : Int → Int → Bool) (o : OwnT g h encI 1 v l) (P : Int → Prop) (hP : ∀ x ∈ l, P x) (hl : l.length ≤ 1000)
    (hlt : ∀ x y, lt x y = decide (cm x y < 0))
    (hf : ∃ fn, Try.prog.funcs[n]? = some fn ∧ fn.body.isSome = true ∧ fn.name ≠ "runtime.NumGoroutine")
    (H : ∀ h' x y, ExtG g h h' → P x → P y → ACall Try.prog n ([.int .i64 x, .int .i64 y] ++ cap.toList) h' fun r h2 => h2 = h' ∧ r = .int .i64 (cm x y)) :
    ACall Try.prog 56 [v, .int .i64 0, .int .i64 l.length, .func (.func n) #[] cap] h
      fun r h' => ExtG g h h' ∧ OwnT g h' encI 1 v ((List.range l.length).foldl (fun l i => sink lt i l) l) := by
  obtain ⟨fn, hf1, hf2, hf3⟩ := hf
  refine ACall.of Try.func56 s56 (of_decide_eq_true rfl) ?_
  have W01 : IntKind.i64.wrap (0 + 1) = ((1 : Nat) : Int) := by decide
  simp (maxSteps := 4000000) (disch := omega) only [ah, am, Nat.reduceEqDiff, reduceCtorEq, Nat.reduceAdd, Nat.reduceLeDiff, Nat.reduceMul, Nat.reduceLT, if_true, if_false, true_and, and_true, and_self, Nat.reduceBEq, QOp.loads, boxO, bslO, buildO, cutL, fillV, putL, w56, v56, W01]
  have fl : ∀ k, ((List.range k).foldl (fun l i => sink lt i l) l).length = l.length := by
    intro k
    induction k with
    | zero => rfl
    | succ k ih => rw [List.range_succ, List.foldl_append]; simp only [List.foldl_cons, List.foldl_nil]; rw [sink_length, ih]
  have fP : ∀ k, k ≤ l.length → ∀ x ∈ (List.range k).foldl (fun l i => sink lt i l) l, P x := by
    intro k
    induction k with
    | zero => intro _; exact hP
    | succ k ih =>
      intro hk
      rw [List.range_succ, List.foldl_append]; simp only [List.foldl_cons, List.foldl_nil]
      exact sink_mem lt P k _ (by rw [fl]; omega) (ih (by omega))
  by_cases hl0 : l.length = 0
  · refine SW_loop_up (fun i E K => E = [(0, v), (1, .int .i64 0), (2, .int .i64 l.length), (3, .func (.func n) #[] cap), (8, .int .i64 1)] ∧ K = h) 0 0 (by omega) ⟨rfl, rfl⟩ ?_
    rintro i E K hi ⟨rfl, rfl⟩
    simp (maxSteps := 4000000) (disch := omega) only [ah, am, Nat.reduceEqDiff, reduceCtorEq, Nat.reduceAdd, Nat.reduceLeDiff, Nat.reduceMul, Nat.reduceLT, if_true, if_false, true_and, and_true, and_self, Nat.reduceBEq, QOp.loads, boxO, bslO, buildO, cutL, fillV, putL, w56, v56, decide_eq_false (show ¬ ((1 : Int) < l.length) by omega)]
    have hnil : l = [] := List.eq_nil_of_length_eq_zero hl0
    subst hnil
    exact ⟨ExtG.refl g K, o⟩
  refine SW_loop_up (fun i E K => E = [(0, v), (1, .int .i64 0), (2, .int .i64 l.length), (3, .func (.func n) #[] cap), (8, .int .i64 i)] ∧ ExtG g h K ∧ OwnT g K encI 1 v ((List.range i).foldl (fun l i => sink lt i l) l)) l.length 1 (by omega)
    ⟨rfl, ExtG.refl g h, by simpa [sink] using o⟩ ?_
  rintro i E K hi ⟨rfl, G, O⟩
  have W : IntKind.i64.wrap ((i : Int) + 1) = ((i + 1 : Nat) : Int) := i64e (by omega) (by omega)
  have hfl := fl i
  have hfP := fP i hi
  have hst : (List.range (i + 1)).foldl (fun l i => sink lt i l) l = sink lt i ((List.range i).foldl (fun l i => sink lt i l) l) := by rw [List.range_succ, List.foldl_append]; rfl
  obtain ⟨m, hm⟩ : ∃ m, m = (List.range i).foldl (fun l i => sink lt i l) l := ⟨_, rfl⟩
  rw [← hm] at O hfl hfP hst
  simp (maxSteps := 4000000) (disch := omega) only [ah, am, Nat.reduceEqDiff, reduceCtorEq, Nat.reduceAdd, Nat.reduceLeDiff, Nat.reduceMul, Nat.reduceLT, if_true, if_false, true_and, and_true, and_self, Nat.reduceBEq, QOp.loads, boxO, bslO, buildO, cutL, fillV, putL, w56, v56]
  refine stepI.split (fun hp => ?_) (fun hp => ?_)
  rotate_left
  · obtain rfl : i = l.length := by omega
    simp (maxSteps := 4000000) (disch := omega) only [ah, am, Nat.reduceEqDiff, reduceCtorEq, Nat.reduceAdd, Nat.reduceLeDiff, Nat.reduceMul, Nat.reduceLT, if_true, if_false, true_and, and_true, and_self, Nat.reduceBEq, QOp.loads, boxO, bslO, buildO, cutL, fillV, putL, w56, v56]
    rw [← hm]; exact ⟨G, O⟩
  have hi2 : i < l.length := by omega
  simp (maxSteps := 4000000) (disch := omega) only [ah, am, Nat.reduceEqDiff, reduceCtorEq, Nat.reduceAdd, Nat.reduceLeDiff, Nat.reduceMul, Nat.reduceLT, if_true, if_false, true_and, and_true, and_self, Nat.reduceBEq, QOp.loads, boxO, bslO, buildO, cutL, fillV, putL, w56, v56]
  refine ⟨fun j E K => ∃ q, E = [(0, v), (1, .int .i64 0), (2, .int .i64 l.length), (3, .func (.func n) #[] cap), (8, .int .i64 i), (9, .int .i64 j)] ∧ ExtG g h K ∧ OwnT g K encI 1 v q ∧ q.length = l.length ∧ (∀ x ∈ q, P x) ∧ j < l.length ∧ sink lt j q = sink lt i m,
    ⟨i, m, rfl, G, O, hfl, hfP, hi2, rfl⟩, ?_⟩
  rintro j E K ⟨q, rfl, G, O, hql, hqP, hj, hq⟩
  have R := O.slt.rulesN
  simp only [hql] at R
  simp (maxSteps := 4000000) (disch := omega) only [ah, am, Nat.reduceEqDiff, reduceCtorEq, Nat.reduceAdd, Nat.reduceLeDiff, Nat.reduceMul, Nat.reduceLT, if_true, if_false, true_and, and_true, and_self, Nat.reduceBEq, QOp.loads, boxO, bslO, buildO, cutL, fillV, putL, w56, v56]
  cases j with
  | zero =>
    simp (maxSteps := 4000000) (disch := omega) only [ah, am, Nat.reduceEqDiff, reduceCtorEq, Nat.reduceAdd, Nat.reduceLeDiff, Nat.reduceMul, Nat.reduceLT, if_true, if_false, true_and, and_true, and_self, Nat.reduceBEq, QOp.loads, boxO, bslO, buildO, cutL, fillV, putL, w56, v56, show decide ((0 : Int) < ((0 : Nat) : Int)) = false from rfl, W]
    refine ⟨hi2, G, ?_⟩
    rw [hst, ← hq]; exact O
  | succ j =>
    have W2 : IntKind.i64.wrap (((j + 1 : Nat) : Int) - 1) = (j : Int) := i64e (by omega) (by omega)
    have a1 : q.getD (j + 1) 0 = q[j + 1] := getD_atE (by omega) _
    have a0 : q.getD j 0 = q[j] := getD_atE (by omega) _
    simp only [sink] at hq
    rw [a1, a0, hlt] at hq
    simp (maxSteps := 4000000) (disch := omega) only [ah, am, Nat.reduceEqDiff, reduceCtorEq, Nat.reduceAdd, Nat.reduceLeDiff, Nat.reduceMul, Nat.reduceLT, if_true, if_false, true_and, and_true, and_self, Nat.reduceBEq, QOp.loads, boxO, bslO, buildO, cutL, fillV, putL, w56, v56, decide_eq_true (show (0 : Int) < ((j + 1 : Nat) : Int) by omega), R, W2, encI, nilV_func]
    refine stepV.of hf1 hf2 hf3 (H K _ _ G (hqP _ (List.getElem_mem (by omega))) (hqP _ (List.getElem_mem (by omega)))) ?_
    rintro _ Hx ⟨hx, rfl⟩; rw [hx]; clear hx Hx
    simp (maxSteps := 4000000) (disch := omega) only [ah, am, Nat.reduceEqDiff, reduceCtorEq, Nat.reduceAdd, Nat.reduceLeDiff, Nat.reduceMul, Nat.reduceLT, if_true, if_false, true_and, and_true, and_self, Nat.reduceBEq, QOp.loads, boxO, bslO, buildO, cutL, fillV, putL, w56, v56]
    by_cases hc : cm q[j + 1] q[j] < 0
    · rw [if_pos (decide_eq_true hc)] at hq
      obtain ⟨K2, es, O2, G2, _⟩ := O.setF (j := j + 1) (f := 0) (n := 1) (x := q[j]) (y := .int .i64 q[j]) (by omega) rfl (by omega) rfl (by omega) rfl
      obtain ⟨K3, es3, O3, G3, _⟩ := O2.setF (j := j) (f := 0) (n := 1) (x := q[j + 1]) (y := .int .i64 q[j + 1]) (by simp; omega) rfl (by omega) rfl (by omega) rfl
      simp only [Nat.add_zero, Nat.mul_one] at es es3 R
      simp (maxSteps := 4000000) (disch := omega) only [ah, am, Nat.reduceEqDiff, reduceCtorEq, Nat.reduceAdd, Nat.reduceLeDiff, Nat.reduceMul, Nat.reduceLT, if_true, if_false, true_and, and_true, and_self, Nat.reduceBEq, QOp.loads, boxO, bslO, buildO, cutL, fillV, putL, w56, v56, decide_eq_true hc, R, encI, W2, es, es3]
      refine ⟨j, by omega, _, rfl, (G.trans G2).trans G3, O3, by simpa using hql, fun x hx => ?_, by omega, hq⟩
      rcases List.mem_or_eq_of_mem_set hx with hx | rfl
      · rcases List.mem_or_eq_of_mem_set hx with hx | rfl
        · exact hqP x hx
        · exact hqP _ (List.getElem_mem _)
      · exact hqP _ (List.getElem_mem _)
    · rw [if_neg (by simpa using hc)] at hq
      simp (maxSteps := 4000000) (disch := omega) only [ah, am, Nat.reduceEqDiff, reduceCtorEq, Nat.reduceAdd, Nat.reduceLeDiff, Nat.reduceMul, Nat.reduceLT, if_true, if_false, true_and, and_true, and_self, Nat.reduceBEq, QOp.loads, boxO, bslO, buildO, cutL, fillV, putL, w56, v56, decide_eq_false hc, W]
      refine ⟨hi2, G, ?_⟩
      rw [hst, ← hq]; exact O
end Go.Proofs.Ytmhbmbhdeofbaaa
