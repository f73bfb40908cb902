import Derived.Test.YtdagajblnlemaaaProg
import Derived.Test.YtdagajblnlemaaaAhY
import Derived.Test.YtdagajblnlemaaaAhU
import Derived.Test.YtdagajblnlemaaaF1
namespace Go.Proofs.Ytdagajblnlemaaa
open Go Go.Ah
set_option linter.unusedSimpArgs false
set_option linter.unusedVariables false
set_option maxRecDepth 10000
set_option maxHeartbeats 4000000
/-! 9 loop.example/g00066/laws.szNodeS: parameters 2, live [0, 1], slots [0:a, 1:left, 2:a, 3:left] -/
def c9_0 : List SOper := [⟨some 4, .q (.mv (.c (.int .i64 0))), none⟩]
def c9_1 : List SOper := [⟨some 5, .q (.mv (.t 1)), none⟩, ⟨some 6, .q (.mv (.t 0)), none⟩, ⟨some 7, .q (.len (.t 6)), none⟩, ⟨some 8, .q (.bin .sub (.t 5) (.t 7)), none⟩, ⟨some 1, .q (.mv (.t 8)), none⟩]
def c9_2 : List SOper := [⟨some 9, .q (.mv (.t 1)), none⟩, ⟨some 10, .q (.bin .lss (.t 9) (.c (.int .i64 0))), none⟩]
def c9_3 : List SOper := [⟨some 4, .q (.mv (.c (.int .i64 (-1)))), none⟩]
def c9_4 : SCode := .seq (.region c9_3 [4]) .ret
def c9_5 : SCode := .cond (.t 10) c9_4 .skip
def c9_6 : SCode := .seq (.region c9_2 [1, 10]) c9_5
def c9_7 : List SOper := [⟨some 11, .q (.mv (.t 1)), none⟩, ⟨some 4, .q (.mv (.t 11)), none⟩]
def c9_8 : SCode := .seq (.region c9_7 [4]) .ret
def c9_9 : SCode := .seq c9_6 c9_8
def c9_10 : SCode := .seq (.region c9_1 [1]) c9_9
def c9_11 : SCode := .seq (.region c9_0 [0, 1]) c9_10
def c9 : SCode := c9_11
theorem w9 : type_of% (And.intro (uR Try.prog c9_0.eq_1) (And.intro (uR Try.prog c9_1.eq_1) (And.intro (uR Try.prog c9_2.eq_1) (And.intro (uR Try.prog c9_3.eq_1) (And.intro (uC Try.prog c9_4.eq_1) (And.intro (uC Try.prog c9_5.eq_1) (And.intro (uC Try.prog c9_6.eq_1) (And.intro (uR Try.prog c9_7.eq_1) (And.intro (uC Try.prog c9_8.eq_1) (And.intro (uC Try.prog c9_9.eq_1) (And.intro (uC Try.prog c9_10.eq_1) (And.intro (uC Try.prog c9_11.eq_1) (uC Try.prog c9.eq_1))))))))))))) := (And.intro (uR Try.prog c9_0.eq_1) (And.intro (uR Try.prog c9_1.eq_1) (And.intro (uR Try.prog c9_2.eq_1) (And.intro (uR Try.prog c9_3.eq_1) (And.intro (uC Try.prog c9_4.eq_1) (And.intro (uC Try.prog c9_5.eq_1) (And.intro (uC Try.prog c9_6.eq_1) (And.intro (uR Try.prog c9_7.eq_1) (And.intro (uC Try.prog c9_8.eq_1) (And.intro (uC Try.prog c9_9.eq_1) (And.intro (uC Try.prog c9_10.eq_1) (And.intro (uC Try.prog c9_11.eq_1) (uC Try.prog c9.eq_1)))))))))))))
def v9 : List RV := [.t 4]
theorem s9 : slimF Try.prog Try.f9 = some (c9.bare, v9) := by kernel_rfl
/-! 37 loop.example/g00066/laws.toNode: parameters 1, live [0], slots [0:a, 1:a, 3:out] -/
def c37_0 : List SOper := [⟨some 1, .a (.box (.t 0)), none⟩, ⟨some 2, .a (.new [(.int .i64 0), (.int .i64 0), (.int .i64 0), (.float .f64 0)]), none⟩]
def c37_1 : List SOper := [⟨some 3, .a (.new [(.int .i64 0), (.int .i64 0), (.int .i64 0), (.float .f64 0)]), none⟩]
def c37_2 : List SOper := [⟨some 4, .q (.fa 0 (.t 1)), none⟩, ⟨some 5, .q (.ld (.t 4)), none⟩, ⟨some 6, .q (.fa 0 (.t 3)), none⟩, ⟨none, .e (.st 1 (.t 6) (.t 5)), none⟩]
def c37_3 : List SOper := [⟨some 7, .q (.fa 1 (.t 1)), none⟩, ⟨some 8, .q (.ld (.t 7)), none⟩, ⟨some 9, .q (.fa 1 (.t 3)), none⟩, ⟨none, .e (.st 1 (.t 9) (.t 8)), none⟩]
def c37_4 : List SOper := [⟨some 10, .q (.fa 2 (.t 1)), none⟩, ⟨some 11, .q (.ld (.t 10)), none⟩, ⟨some 12, .q (.fa 2 (.t 3)), none⟩, ⟨none, .e (.st 1 (.t 12) (.t 11)), none⟩]
def c37_5 : List SOper := [⟨some 13, .q (.fa 3 (.t 1)), none⟩, ⟨some 14, .q (.ld (.t 13)), none⟩, ⟨some 15, .q (.fa 3 (.t 3)), none⟩, ⟨none, .e (.st 1 (.t 15) (.t 14)), none⟩]
def c37_6 : List SOper := [⟨some 16, .q (.ldn 4 (.t 3)), none⟩, ⟨none, .e (.st 4 (.t 2) (.t 16)), none⟩]
def c37_7 : SCode := .seq (.region c37_6 [2]) .ret
def c37_8 : SCode := .seq (.region c37_5 [2, 3]) c37_7
def c37_9 : SCode := .seq (.region c37_4 [1, 2, 3]) c37_8
def c37_10 : SCode := .seq (.region c37_3 [1, 2, 3]) c37_9
def c37_11 : SCode := .seq (.region c37_2 [1, 2, 3]) c37_10
def c37_12 : SCode := .seq (.region c37_1 [1, 2, 3]) c37_11
def c37_13 : SCode := .seq (.region c37_0 [1, 2]) c37_12
def c37 : SCode := c37_13
theorem w37 : type_of% (And.intro (uR Try.prog c37_0.eq_1) (And.intro (uR Try.prog c37_1.eq_1) (And.intro (uR Try.prog c37_2.eq_1) (And.intro (uR Try.prog c37_3.eq_1) (And.intro (uR Try.prog c37_4.eq_1) (And.intro (uR Try.prog c37_5.eq_1) (And.intro (uR Try.prog c37_6.eq_1) (And.intro (uC Try.prog c37_7.eq_1) (And.intro (uC Try.prog c37_8.eq_1) (And.intro (uC Try.prog c37_9.eq_1) (And.intro (uC Try.prog c37_10.eq_1) (And.intro (uC Try.prog c37_11.eq_1) (And.intro (uC Try.prog c37_12.eq_1) (And.intro (uC Try.prog c37_13.eq_1) (uC Try.prog c37.eq_1))))))))))))))) := (And.intro (uR Try.prog c37_0.eq_1) (And.intro (uR Try.prog c37_1.eq_1) (And.intro (uR Try.prog c37_2.eq_1) (And.intro (uR Try.prog c37_3.eq_1) (And.intro (uR Try.prog c37_4.eq_1) (And.intro (uR Try.prog c37_5.eq_1) (And.intro (uR Try.prog c37_6.eq_1) (And.intro (uC Try.prog c37_7.eq_1) (And.intro (uC Try.prog c37_8.eq_1) (And.intro (uC Try.prog c37_9.eq_1) (And.intro (uC Try.prog c37_10.eq_1) (And.intro (uC Try.prog c37_11.eq_1) (And.intro (uC Try.prog c37_12.eq_1) (And.intro (uC Try.prog c37_13.eq_1) (uC Try.prog c37.eq_1)))))))))))))))
def v37 : List RV := [.c 2 (some 4)]
theorem s37 : slimF Try.prog Try.f37 = some (c37.bare, v37) := by kernel_rfl
/-! 11 loop.example/g00066/laws.toNodeS: parameters 1, live [0], slots [0:a, 1:a, 3:out, 4:i] -/
def c11_0 : List SOper := [⟨some 2, .q (.mv (.c (.slice none 0 0))), none⟩]
def c11_1 : List SOper := [⟨some 5, .q (.mv (.t 0)), none⟩, ⟨some 6, .q (.len (.t 5)), none⟩, ⟨some 7, .a (.mks 32 4 [(.int .i64 0), (.int .i64 0), (.int .i64 0), (.float .f64 0)] (.t 6) (.t 6)), none⟩, ⟨some 3, .q (.mv (.t 7)), none⟩]
def c11_2 : List SOper := [⟨some 4, .q (.mv (.c (.int .i64 0))), none⟩]
def c11_3 : List SOper := [⟨some 8, .q (.mv (.t 4)), none⟩, ⟨some 9, .q (.mv (.t 0)), none⟩, ⟨some 10, .q (.len (.t 9)), none⟩, ⟨some 11, .q (.bin .lss (.t 8) (.t 10)), none⟩]
def c11_4 : SCode := .cond (.t 11) .skip (.exit 0)
def c11_5 : SCode := .seq (.region c11_3 [0, 3, 4, 11]) c11_4
def c11_6 : List SOper := [⟨some 14, .q (.mv (.t 3)), none⟩, ⟨some 15, .q (.mv (.t 4)), none⟩, ⟨some 16, .q (.mv (.t 0)), none⟩, ⟨some 17, .q (.mv (.t 4)), none⟩, ⟨some 18, .q (.ia 4 (.t 16) (.t 17)), none⟩, ⟨some 19, .q (.ldn 4 (.t 18)), none⟩, ⟨some 20, .e (.call 37 [(.t 19)]), none⟩, ⟨some 21, .q (.ia 4 (.t 14) (.t 15)), none⟩, ⟨none, .e (.st 4 (.t 21) (.t 20)), none⟩]
def c11_7 : SCode := .block 1 (.region c11_6 [0, 3, 4])
def c11_8 : List SOper := [⟨some 12, .q (.mv (.t 4)), none⟩, ⟨some 13, .q (.bin .add (.t 12) (.c (.int .i64 1))), none⟩, ⟨some 4, .q (.mv (.t 13)), none⟩]
def c11_9 : SCode := .seq c11_7 (.region c11_8 [0, 3, 4])
def c11_10 : SCode := .seq c11_5 c11_9
def c11_11 : SCode := .loop c11_10
def c11_12 : SCode := .block 0 c11_11
def c11_13 : SCode := .seq (.region c11_2 [0, 3, 4]) c11_12
def c11_14 : List SOper := [⟨some 22, .q (.mv (.t 3)), none⟩, ⟨some 2, .q (.mv (.t 22)), none⟩]
def c11_15 : SCode := .seq (.region c11_14 [2]) .ret
def c11_16 : SCode := .seq c11_13 c11_15
def c11_17 : SCode := .seq (.region c11_1 [0, 3]) c11_16
def c11_18 : SCode := .seq (.region c11_0 [0]) c11_17
def c11 : SCode := c11_18
theorem w11 : type_of% (And.intro (uR Try.prog c11_0.eq_1) (And.intro (uR Try.prog c11_1.eq_1) (And.intro (uR Try.prog c11_2.eq_1) (And.intro (uR Try.prog c11_3.eq_1) (And.intro (uC Try.prog c11_4.eq_1) (And.intro (uC Try.prog c11_5.eq_1) (And.intro (uR Try.prog c11_6.eq_1) (And.intro (uC Try.prog c11_7.eq_1) (And.intro (uR Try.prog c11_8.eq_1) (And.intro (uC Try.prog c11_9.eq_1) (And.intro (uC Try.prog c11_10.eq_1) (And.intro (uC Try.prog c11_11.eq_1) (And.intro (uC Try.prog c11_12.eq_1) (And.intro (uC Try.prog c11_13.eq_1) (And.intro (uR Try.prog c11_14.eq_1) (And.intro (uC Try.prog c11_15.eq_1) (And.intro (uC Try.prog c11_16.eq_1) (And.intro (uC Try.prog c11_17.eq_1) (And.intro (uC Try.prog c11_18.eq_1) (uC Try.prog c11.eq_1)))))))))))))))))))) := (And.intro (uR Try.prog c11_0.eq_1) (And.intro (uR Try.prog c11_1.eq_1) (And.intro (uR Try.prog c11_2.eq_1) (And.intro (uR Try.prog c11_3.eq_1) (And.intro (uC Try.prog c11_4.eq_1) (And.intro (uC Try.prog c11_5.eq_1) (And.intro (uR Try.prog c11_6.eq_1) (And.intro (uC Try.prog c11_7.eq_1) (And.intro (uR Try.prog c11_8.eq_1) (And.intro (uC Try.prog c11_9.eq_1) (And.intro (uC Try.prog c11_10.eq_1) (And.intro (uC Try.prog c11_11.eq_1) (And.intro (uC Try.prog c11_12.eq_1) (And.intro (uC Try.prog c11_13.eq_1) (And.intro (uR Try.prog c11_14.eq_1) (And.intro (uC Try.prog c11_15.eq_1) (And.intro (uC Try.prog c11_16.eq_1) (And.intro (uC Try.prog c11_17.eq_1) (And.intro (uC Try.prog c11_18.eq_1) (uC Try.prog c11.eq_1))))))))))))))))))))
def v11 : List RV := [.t 2]
theorem s11 : slimF Try.prog Try.f11 = some (c11.bare, v11) := by kernel_rfl
/-! 48 loop.example/g00066/laws.sameFloat: parameters 2, live [0, 1], slots [0:a, 1:b, 2:a, 3:b] -/
def c48_0 : List SOper := [⟨some 4, .q (.mv (.c (.bool false))), none⟩]
def c48_1 : List SOper := [⟨some 5, .q (.mv (.t 0)), none⟩, ⟨some 6, .q (.mv (.t 0)), none⟩, ⟨some 7, .q (.bin .neq (.t 5) (.t 6)), none⟩, ⟨some 8, .q (.mv (.t 7)), none⟩, ⟨some 9, .q (.mv (.t 1)), some (8, false)⟩, ⟨some 10, .q (.mv (.t 1)), some (8, false)⟩, ⟨some 11, .q (.bin .neq (.t 9) (.t 10)), some (8, false)⟩, ⟨some 12, .q (.pick (.t 8) (.c (.bool true)) (.t 11)), none⟩]
def c48_2 : List SOper := [⟨some 13, .q (.mv (.t 0)), none⟩, ⟨some 14, .q (.mv (.t 0)), none⟩, ⟨some 15, .q (.bin .neq (.t 13) (.t 14)), none⟩, ⟨some 16, .q (.mv (.t 15)), none⟩, ⟨some 17, .q (.mv (.t 1)), some (16, true)⟩, ⟨some 18, .q (.mv (.t 1)), some (16, true)⟩, ⟨some 19, .q (.bin .neq (.t 17) (.t 18)), some (16, true)⟩, ⟨some 20, .q (.pick (.t 16) (.t 19) (.c (.bool false))), none⟩, ⟨some 4, .q (.mv (.t 20)), none⟩]
def c48_3 : SCode := .seq (.region c48_2 [4]) .ret
def c48_4 : SCode := .cond (.t 12) c48_3 .skip
def c48_5 : SCode := .seq (.region c48_1 [0, 1, 12]) c48_4
def c48_6 : List SOper := [⟨some 21, .q (.mv (.t 0)), none⟩, ⟨some 22, .q (.bin .eql (.t 21) (.c (.float .f64 0))), none⟩, ⟨some 23, .q (.mv (.t 22)), none⟩, ⟨some 24, .q (.mv (.t 1)), some (23, true)⟩, ⟨some 25, .q (.bin .eql (.t 24) (.c (.float .f64 0))), some (23, true)⟩, ⟨some 26, .q (.pick (.t 23) (.t 25) (.c (.bool false))), none⟩]
def c48_7 : List SOper := [⟨some 27, .q (.mv (.t 0)), none⟩, ⟨some 28, .q (.bin .quo (.c (.float .f64 4607182418800017408)) (.t 27)), none⟩, ⟨some 29, .q (.bin .gtr (.t 28) (.c (.float .f64 0))), none⟩, ⟨some 30, .q (.mv (.t 1)), none⟩, ⟨some 31, .q (.bin .quo (.c (.float .f64 4607182418800017408)) (.t 30)), none⟩, ⟨some 32, .q (.bin .gtr (.t 31) (.c (.float .f64 0))), none⟩, ⟨some 33, .q (.eqb false (.t 29) (.t 32)), none⟩, ⟨some 4, .q (.mv (.t 33)), none⟩]
def c48_8 : SCode := .seq (.region c48_7 [4]) .ret
def c48_9 : SCode := .cond (.t 26) c48_8 .skip
def c48_10 : SCode := .seq (.region c48_6 [0, 1, 26]) c48_9
def c48_11 : List SOper := [⟨some 34, .q (.mv (.t 0)), none⟩, ⟨some 35, .q (.mv (.t 1)), none⟩, ⟨some 36, .q (.bin .eql (.t 34) (.t 35)), none⟩, ⟨some 4, .q (.mv (.t 36)), none⟩]
def c48_12 : SCode := .seq (.region c48_11 [4]) .ret
def c48_13 : SCode := .seq c48_10 c48_12
def c48_14 : SCode := .seq c48_5 c48_13
def c48_15 : SCode := .seq (.region c48_0 [0, 1]) c48_14
def c48 : SCode := c48_15
theorem w48 : type_of% (And.intro (uR Try.prog c48_0.eq_1) (And.intro (uR Try.prog c48_1.eq_1) (And.intro (uR Try.prog c48_2.eq_1) (And.intro (uC Try.prog c48_3.eq_1) (And.intro (uC Try.prog c48_4.eq_1) (And.intro (uC Try.prog c48_5.eq_1) (And.intro (uR Try.prog c48_6.eq_1) (And.intro (uR Try.prog c48_7.eq_1) (And.intro (uC Try.prog c48_8.eq_1) (And.intro (uC Try.prog c48_9.eq_1) (And.intro (uC Try.prog c48_10.eq_1) (And.intro (uR Try.prog c48_11.eq_1) (And.intro (uC Try.prog c48_12.eq_1) (And.intro (uC Try.prog c48_13.eq_1) (And.intro (uC Try.prog c48_14.eq_1) (And.intro (uC Try.prog c48_15.eq_1) (uC Try.prog c48.eq_1))))))))))))))))) := (And.intro (uR Try.prog c48_0.eq_1) (And.intro (uR Try.prog c48_1.eq_1) (And.intro (uR Try.prog c48_2.eq_1) (And.intro (uC Try.prog c48_3.eq_1) (And.intro (uC Try.prog c48_4.eq_1) (And.intro (uC Try.prog c48_5.eq_1) (And.intro (uR Try.prog c48_6.eq_1) (And.intro (uR Try.prog c48_7.eq_1) (And.intro (uC Try.prog c48_8.eq_1) (And.intro (uC Try.prog c48_9.eq_1) (And.intro (uC Try.prog c48_10.eq_1) (And.intro (uR Try.prog c48_11.eq_1) (And.intro (uC Try.prog c48_12.eq_1) (And.intro (uC Try.prog c48_13.eq_1) (And.intro (uC Try.prog c48_14.eq_1) (And.intro (uC Try.prog c48_15.eq_1) (uC Try.prog c48.eq_1)))))))))))))))))
def v48 : List RV := [.t 4]
theorem s48 : slimF Try.prog Try.f48 = some (c48.bare, v48) := by kernel_rfl
/-! 41 loop.example/g00066/laws.eqNode: parameters 2, live [0, 1], slots [0:a, 1:b, 2:a, 3:b] -/
def c41_0 : List SOper := [⟨some 2, .a (.box (.t 0)), none⟩, ⟨some 3, .a (.box (.t 1)), none⟩, ⟨some 4, .q (.mv (.c (.bool false))), none⟩]
def c41_1 : List SOper := [⟨some 5, .q (.fa 0 (.t 2)), none⟩, ⟨some 6, .q (.ld (.t 5)), none⟩, ⟨some 7, .q (.fa 0 (.t 3)), none⟩, ⟨some 8, .q (.ld (.t 7)), none⟩, ⟨some 9, .q (.bin .neq (.t 6) (.t 8)), none⟩]
def c41_2 : List SOper := [⟨some 4, .q (.mv (.c (.bool false))), none⟩]
def c41_3 : SCode := .seq (.region c41_2 [4]) .ret
def c41_4 : SCode := .cond (.t 9) c41_3 .skip
def c41_5 : SCode := .seq (.region c41_1 [2, 3, 9]) c41_4
def c41_6 : List SOper := [⟨some 10, .q (.fa 1 (.t 2)), none⟩, ⟨some 11, .q (.ld (.t 10)), none⟩, ⟨some 12, .q (.fa 1 (.t 3)), none⟩, ⟨some 13, .q (.ld (.t 12)), none⟩, ⟨some 14, .q (.bin .neq (.t 11) (.t 13)), none⟩]
def c41_7 : List SOper := [⟨some 4, .q (.mv (.c (.bool false))), none⟩]
def c41_8 : SCode := .seq (.region c41_7 [4]) .ret
def c41_9 : SCode := .cond (.t 14) c41_8 .skip
def c41_10 : SCode := .seq (.region c41_6 [2, 3, 14]) c41_9
def c41_11 : List SOper := [⟨some 15, .q (.fa 2 (.t 2)), none⟩, ⟨some 16, .q (.ld (.t 15)), none⟩, ⟨some 17, .q (.fa 2 (.t 3)), none⟩, ⟨some 18, .q (.ld (.t 17)), none⟩, ⟨some 19, .q (.bin .neq (.t 16) (.t 18)), none⟩]
def c41_12 : List SOper := [⟨some 4, .q (.mv (.c (.bool false))), none⟩]
def c41_13 : SCode := .seq (.region c41_12 [4]) .ret
def c41_14 : SCode := .cond (.t 19) c41_13 .skip
def c41_15 : SCode := .seq (.region c41_11 [2, 3, 19]) c41_14
def c41_16 : List SOper := [⟨some 20, .q (.fa 3 (.t 2)), none⟩, ⟨some 21, .q (.ld (.t 20)), none⟩, ⟨some 22, .q (.fa 3 (.t 3)), none⟩, ⟨some 23, .q (.ld (.t 22)), none⟩, ⟨some 24, .e (.call 48 [(.t 21), (.t 23)]), none⟩, ⟨some 25, .q (.not (.t 24)), none⟩]
def c41_17 : List SOper := [⟨some 4, .q (.mv (.c (.bool false))), none⟩]
def c41_18 : SCode := .seq (.region c41_17 [4]) .ret
def c41_19 : SCode := .cond (.t 25) c41_18 .skip
def c41_20 : SCode := .seq (.region c41_16 [25]) c41_19
def c41_21 : List SOper := [⟨some 4, .q (.mv (.c (.bool true))), none⟩]
def c41_22 : SCode := .seq (.region c41_21 [4]) .ret
def c41_23 : SCode := .seq c41_20 c41_22
def c41_24 : SCode := .seq c41_15 c41_23
def c41_25 : SCode := .seq c41_10 c41_24
def c41_26 : SCode := .seq c41_5 c41_25
def c41_27 : SCode := .seq (.region c41_0 [2, 3]) c41_26
def c41 : SCode := c41_27
theorem w41 : type_of% (And.intro (uR Try.prog c41_0.eq_1) (And.intro (uR Try.prog c41_1.eq_1) (And.intro (uR Try.prog c41_2.eq_1) (And.intro (uC Try.prog c41_3.eq_1) (And.intro (uC Try.prog c41_4.eq_1) (And.intro (uC Try.prog c41_5.eq_1) (And.intro (uR Try.prog c41_6.eq_1) (And.intro (uR Try.prog c41_7.eq_1) (And.intro (uC Try.prog c41_8.eq_1) (And.intro (uC Try.prog c41_9.eq_1) (And.intro (uC Try.prog c41_10.eq_1) (And.intro (uR Try.prog c41_11.eq_1) (And.intro (uR Try.prog c41_12.eq_1) (And.intro (uC Try.prog c41_13.eq_1) (And.intro (uC Try.prog c41_14.eq_1) (And.intro (uC Try.prog c41_15.eq_1) (And.intro (uR Try.prog c41_16.eq_1) (And.intro (uR Try.prog c41_17.eq_1) (And.intro (uC Try.prog c41_18.eq_1) (And.intro (uC Try.prog c41_19.eq_1) (And.intro (uC Try.prog c41_20.eq_1) (And.intro (uR Try.prog c41_21.eq_1) (And.intro (uC Try.prog c41_22.eq_1) (And.intro (uC Try.prog c41_23.eq_1) (And.intro (uC Try.prog c41_24.eq_1) (And.intro (uC Try.prog c41_25.eq_1) (And.intro (uC Try.prog c41_26.eq_1) (And.intro (uC Try.prog c41_27.eq_1) (uC Try.prog c41.eq_1))))))))))))))))))))))))))))) := (And.intro (uR Try.prog c41_0.eq_1) (And.intro (uR Try.prog c41_1.eq_1) (And.intro (uR Try.prog c41_2.eq_1) (And.intro (uC Try.prog c41_3.eq_1) (And.intro (uC Try.prog c41_4.eq_1) (And.intro (uC Try.prog c41_5.eq_1) (And.intro (uR Try.prog c41_6.eq_1) (And.intro (uR Try.prog c41_7.eq_1) (And.intro (uC Try.prog c41_8.eq_1) (And.intro (uC Try.prog c41_9.eq_1) (And.intro (uC Try.prog c41_10.eq_1) (And.intro (uR Try.prog c41_11.eq_1) (And.intro (uR Try.prog c41_12.eq_1) (And.intro (uC Try.prog c41_13.eq_1) (And.intro (uC Try.prog c41_14.eq_1) (And.intro (uC Try.prog c41_15.eq_1) (And.intro (uR Try.prog c41_16.eq_1) (And.intro (uR Try.prog c41_17.eq_1) (And.intro (uC Try.prog c41_18.eq_1) (And.intro (uC Try.prog c41_19.eq_1) (And.intro (uC Try.prog c41_20.eq_1) (And.intro (uR Try.prog c41_21.eq_1) (And.intro (uC Try.prog c41_22.eq_1) (And.intro (uC Try.prog c41_23.eq_1) (And.intro (uC Try.prog c41_24.eq_1) (And.intro (uC Try.prog c41_25.eq_1) (And.intro (uC Try.prog c41_26.eq_1) (And.intro (uC Try.prog c41_27.eq_1) (uC Try.prog c41.eq_1)))))))))))))))))))))))))))))
def v41 : List RV := [.t 4]
theorem s41 : slimF Try.prog Try.f41 = some (c41.bare, v41) := by kernel_rfl
/-! 13 loop.example/g00066/laws.eqNodeS: parameters 2, live [0, 1], slots [0:a, 1:b, 2:a, 3:b, 5:i] -/
def c13_0 : List SOper := [⟨some 4, .q (.mv (.c (.bool false))), none⟩]
def c13_1 : List SOper := [⟨some 6, .q (.mv (.t 0)), none⟩, ⟨some 7, .q (.len (.t 6)), none⟩, ⟨some 8, .q (.mv (.t 1)), none⟩, ⟨some 9, .q (.len (.t 8)), none⟩, ⟨some 10, .q (.bin .neq (.t 7) (.t 9)), none⟩]
def c13_2 : List SOper := [⟨some 4, .q (.mv (.c (.bool false))), none⟩]
def c13_3 : SCode := .seq (.region c13_2 [4]) .ret
def c13_4 : SCode := .cond (.t 10) c13_3 .skip
def c13_5 : SCode := .seq (.region c13_1 [0, 1, 10]) c13_4
def c13_6 : List SOper := [⟨some 5, .q (.mv (.c (.int .i64 0))), none⟩]
def c13_7 : List SOper := [⟨some 11, .q (.mv (.t 5)), none⟩, ⟨some 12, .q (.mv (.t 0)), none⟩, ⟨some 13, .q (.len (.t 12)), none⟩, ⟨some 14, .q (.bin .lss (.t 11) (.t 13)), none⟩]
def c13_8 : SCode := .cond (.t 14) .skip (.exit 0)
def c13_9 : SCode := .seq (.region c13_7 [0, 1, 5, 14]) c13_8
def c13_10 : List SOper := [⟨some 17, .q (.mv (.t 0)), none⟩, ⟨some 18, .q (.mv (.t 5)), none⟩, ⟨some 19, .q (.ia 4 (.t 17) (.t 18)), none⟩, ⟨some 20, .q (.ldn 4 (.t 19)), none⟩, ⟨some 21, .q (.mv (.t 1)), none⟩, ⟨some 22, .q (.mv (.t 5)), none⟩, ⟨some 23, .q (.ia 4 (.t 21) (.t 22)), none⟩, ⟨some 24, .q (.ldn 4 (.t 23)), none⟩, ⟨some 25, .e (.call 41 [(.t 20), (.t 24)]), none⟩, ⟨some 26, .q (.not (.t 25)), none⟩]
def c13_11 : List SOper := [⟨some 4, .q (.mv (.c (.bool false))), none⟩]
def c13_12 : SCode := .seq (.region c13_11 [4]) .ret
def c13_13 : SCode := .cond (.t 26) c13_12 .skip
def c13_14 : SCode := .seq (.region c13_10 [0, 1, 5, 26]) c13_13
def c13_15 : SCode := .block 1 c13_14
def c13_16 : List SOper := [⟨some 15, .q (.mv (.t 5)), none⟩, ⟨some 16, .q (.bin .add (.t 15) (.c (.int .i64 1))), none⟩, ⟨some 5, .q (.mv (.t 16)), none⟩]
def c13_17 : SCode := .seq c13_15 (.region c13_16 [0, 1, 5])
def c13_18 : SCode := .seq c13_9 c13_17
def c13_19 : SCode := .loop c13_18
def c13_20 : SCode := .block 0 c13_19
def c13_21 : SCode := .seq (.region c13_6 [0, 1, 5]) c13_20
def c13_22 : List SOper := [⟨some 4, .q (.mv (.c (.bool true))), none⟩]
def c13_23 : SCode := .seq (.region c13_22 [4]) .ret
def c13_24 : SCode := .seq c13_21 c13_23
def c13_25 : SCode := .seq c13_5 c13_24
def c13_26 : SCode := .seq (.region c13_0 [0, 1]) c13_25
def c13 : SCode := c13_26
theorem w13 : type_of% (And.intro (uR Try.prog c13_0.eq_1) (And.intro (uR Try.prog c13_1.eq_1) (And.intro (uR Try.prog c13_2.eq_1) (And.intro (uC Try.prog c13_3.eq_1) (And.intro (uC Try.prog c13_4.eq_1) (And.intro (uC Try.prog c13_5.eq_1) (And.intro (uR Try.prog c13_6.eq_1) (And.intro (uR Try.prog c13_7.eq_1) (And.intro (uC Try.prog c13_8.eq_1) (And.intro (uC Try.prog c13_9.eq_1) (And.intro (uR Try.prog c13_10.eq_1) (And.intro (uR Try.prog c13_11.eq_1) (And.intro (uC Try.prog c13_12.eq_1) (And.intro (uC Try.prog c13_13.eq_1) (And.intro (uC Try.prog c13_14.eq_1) (And.intro (uC Try.prog c13_15.eq_1) (And.intro (uR Try.prog c13_16.eq_1) (And.intro (uC Try.prog c13_17.eq_1) (And.intro (uC Try.prog c13_18.eq_1) (And.intro (uC Try.prog c13_19.eq_1) (And.intro (uC Try.prog c13_20.eq_1) (And.intro (uC Try.prog c13_21.eq_1) (And.intro (uR Try.prog c13_22.eq_1) (And.intro (uC Try.prog c13_23.eq_1) (And.intro (uC Try.prog c13_24.eq_1) (And.intro (uC Try.prog c13_25.eq_1) (And.intro (uC Try.prog c13_26.eq_1) (uC Try.prog c13.eq_1)))))))))))))))))))))))))))) := (And.intro (uR Try.prog c13_0.eq_1) (And.intro (uR Try.prog c13_1.eq_1) (And.intro (uR Try.prog c13_2.eq_1) (And.intro (uC Try.prog c13_3.eq_1) (And.intro (uC Try.prog c13_4.eq_1) (And.intro (uC Try.prog c13_5.eq_1) (And.intro (uR Try.prog c13_6.eq_1) (And.intro (uR Try.prog c13_7.eq_1) (And.intro (uC Try.prog c13_8.eq_1) (And.intro (uC Try.prog c13_9.eq_1) (And.intro (uR Try.prog c13_10.eq_1) (And.intro (uR Try.prog c13_11.eq_1) (And.intro (uC Try.prog c13_12.eq_1) (And.intro (uC Try.prog c13_13.eq_1) (And.intro (uC Try.prog c13_14.eq_1) (And.intro (uC Try.prog c13_15.eq_1) (And.intro (uR Try.prog c13_16.eq_1) (And.intro (uC Try.prog c13_17.eq_1) (And.intro (uC Try.prog c13_18.eq_1) (And.intro (uC Try.prog c13_19.eq_1) (And.intro (uC Try.prog c13_20.eq_1) (And.intro (uC Try.prog c13_21.eq_1) (And.intro (uR Try.prog c13_22.eq_1) (And.intro (uC Try.prog c13_23.eq_1) (And.intro (uC Try.prog c13_24.eq_1) (And.intro (uC Try.prog c13_25.eq_1) (And.intro (uC Try.prog c13_26.eq_1) (uC Try.prog c13.eq_1))))))))))))))))))))))))))))
def v13 : List RV := [.t 4]
theorem s13 : slimF Try.prog Try.f13 = some (c13.bare, v13) := by kernel_rfl
/-! 14 loop.example/g00066/laws.markNodeS: parameters 2, live [0, 1], slots [0:a, 1:k, 2:a, 3:k, 5:i] -/
def c14_0 : List SOper := [⟨some 4, .q (.mv (.c (.int .i64 0))), none⟩]
def c14_1 : List SOper := [⟨some 5, .q (.mv (.c (.int .i64 0))), none⟩]
def c14_2 : List SOper := [⟨some 6, .q (.mv (.t 5)), none⟩, ⟨some 7, .q (.mv (.t 0)), none⟩, ⟨some 8, .q (.len (.t 7)), none⟩, ⟨some 9, .q (.bin .lss (.t 6) (.t 8)), none⟩]
def c14_3 : SCode := .cond (.t 9) .skip (.exit 0)
def c14_4 : SCode := .seq (.region c14_2 [0, 1, 5, 9]) c14_3
def c14_5 : List SOper := [⟨some 12, .q (.mv (.t 0)), none⟩, ⟨some 13, .q (.mv (.t 5)), none⟩, ⟨some 14, .q (.mv (.t 1)), none⟩, ⟨some 15, .q (.ia 4 (.t 12) (.t 13)), none⟩, ⟨some 16, .q (.fa 0 (.t 15)), none⟩, ⟨none, .e (.st 1 (.t 16) (.t 14)), none⟩]
def c14_6 : List SOper := [⟨some 17, .q (.mv (.t 1)), none⟩, ⟨some 18, .q (.bin .add (.t 17) (.c (.int .i64 1))), none⟩, ⟨some 1, .q (.mv (.t 18)), none⟩]
def c14_7 : List SOper := [⟨some 19, .q (.mv (.t 0)), none⟩, ⟨some 20, .q (.mv (.t 5)), none⟩, ⟨some 21, .q (.mv (.t 1)), none⟩, ⟨some 22, .q (.ia 4 (.t 19) (.t 20)), none⟩, ⟨some 23, .q (.fa 1 (.t 22)), none⟩, ⟨none, .e (.st 1 (.t 23) (.t 21)), none⟩]
def c14_8 : List SOper := [⟨some 24, .q (.mv (.t 1)), none⟩, ⟨some 25, .q (.bin .add (.t 24) (.c (.int .i64 1))), none⟩, ⟨some 1, .q (.mv (.t 25)), none⟩]
def c14_9 : List SOper := [⟨some 26, .q (.mv (.t 0)), none⟩, ⟨some 27, .q (.mv (.t 5)), none⟩, ⟨some 28, .q (.mv (.t 1)), none⟩, ⟨some 29, .q (.ia 4 (.t 26) (.t 27)), none⟩, ⟨some 30, .q (.fa 2 (.t 29)), none⟩, ⟨none, .e (.st 1 (.t 30) (.t 28)), none⟩]
def c14_10 : List SOper := [⟨some 31, .q (.mv (.t 1)), none⟩, ⟨some 32, .q (.bin .add (.t 31) (.c (.int .i64 1))), none⟩, ⟨some 1, .q (.mv (.t 32)), none⟩]
def c14_11 : List SOper := [⟨some 33, .q (.mv (.t 0)), none⟩, ⟨some 34, .q (.mv (.t 5)), none⟩, ⟨some 35, .q (.mv (.t 1)), none⟩, ⟨some 36, .q (.cvf .f64 (.t 35)), none⟩, ⟨some 37, .q (.ia 4 (.t 33) (.t 34)), none⟩, ⟨some 38, .q (.fa 3 (.t 37)), none⟩, ⟨none, .e (.st 1 (.t 38) (.t 36)), none⟩]
def c14_12 : List SOper := [⟨some 39, .q (.mv (.t 1)), none⟩, ⟨some 40, .q (.bin .add (.t 39) (.c (.int .i64 1))), none⟩, ⟨some 1, .q (.mv (.t 40)), none⟩]
def c14_13 : SCode := .seq (.region c14_11 [0, 1, 5]) (.region c14_12 [0, 1, 5])
def c14_14 : SCode := .seq (.region c14_10 [0, 1, 5]) c14_13
def c14_15 : SCode := .seq (.region c14_9 [0, 1, 5]) c14_14
def c14_16 : SCode := .seq (.region c14_8 [0, 1, 5]) c14_15
def c14_17 : SCode := .seq (.region c14_7 [0, 1, 5]) c14_16
def c14_18 : SCode := .seq (.region c14_6 [0, 1, 5]) c14_17
def c14_19 : SCode := .seq (.region c14_5 [0, 1, 5]) c14_18
def c14_20 : SCode := .block 1 c14_19
def c14_21 : List SOper := [⟨some 10, .q (.mv (.t 5)), none⟩, ⟨some 11, .q (.bin .add (.t 10) (.c (.int .i64 1))), none⟩, ⟨some 5, .q (.mv (.t 11)), none⟩]
def c14_22 : SCode := .seq c14_20 (.region c14_21 [0, 1, 5])
def c14_23 : SCode := .seq c14_4 c14_22
def c14_24 : SCode := .loop c14_23
def c14_25 : SCode := .block 0 c14_24
def c14_26 : SCode := .seq (.region c14_1 [0, 1, 5]) c14_25
def c14_27 : List SOper := [⟨some 41, .q (.mv (.t 1)), none⟩, ⟨some 4, .q (.mv (.t 41)), none⟩]
def c14_28 : SCode := .seq (.region c14_27 [4]) .ret
def c14_29 : SCode := .seq c14_26 c14_28
def c14_30 : SCode := .seq (.region c14_0 [0, 1]) c14_29
def c14 : SCode := c14_30
theorem w14 : type_of% (And.intro (uR Try.prog c14_0.eq_1) (And.intro (uR Try.prog c14_1.eq_1) (And.intro (uR Try.prog c14_2.eq_1) (And.intro (uC Try.prog c14_3.eq_1) (And.intro (uC Try.prog c14_4.eq_1) (And.intro (uR Try.prog c14_5.eq_1) (And.intro (uR Try.prog c14_6.eq_1) (And.intro (uR Try.prog c14_7.eq_1) (And.intro (uR Try.prog c14_8.eq_1) (And.intro (uR Try.prog c14_9.eq_1) (And.intro (uR Try.prog c14_10.eq_1) (And.intro (uR Try.prog c14_11.eq_1) (And.intro (uR Try.prog c14_12.eq_1) (And.intro (uC Try.prog c14_13.eq_1) (And.intro (uC Try.prog c14_14.eq_1) (And.intro (uC Try.prog c14_15.eq_1) (And.intro (uC Try.prog c14_16.eq_1) (And.intro (uC Try.prog c14_17.eq_1) (And.intro (uC Try.prog c14_18.eq_1) (And.intro (uC Try.prog c14_19.eq_1) (And.intro (uC Try.prog c14_20.eq_1) (And.intro (uR Try.prog c14_21.eq_1) (And.intro (uC Try.prog c14_22.eq_1) (And.intro (uC Try.prog c14_23.eq_1) (And.intro (uC Try.prog c14_24.eq_1) (And.intro (uC Try.prog c14_25.eq_1) (And.intro (uC Try.prog c14_26.eq_1) (And.intro (uR Try.prog c14_27.eq_1) (And.intro (uC Try.prog c14_28.eq_1) (And.intro (uC Try.prog c14_29.eq_1) (And.intro (uC Try.prog c14_30.eq_1) (uC Try.prog c14.eq_1)))))))))))))))))))))))))))))))) := (And.intro (uR Try.prog c14_0.eq_1) (And.intro (uR Try.prog c14_1.eq_1) (And.intro (uR Try.prog c14_2.eq_1) (And.intro (uC Try.prog c14_3.eq_1) (And.intro (uC Try.prog c14_4.eq_1) (And.intro (uR Try.prog c14_5.eq_1) (And.intro (uR Try.prog c14_6.eq_1) (And.intro (uR Try.prog c14_7.eq_1) (And.intro (uR Try.prog c14_8.eq_1) (And.intro (uR Try.prog c14_9.eq_1) (And.intro (uR Try.prog c14_10.eq_1) (And.intro (uR Try.prog c14_11.eq_1) (And.intro (uR Try.prog c14_12.eq_1) (And.intro (uC Try.prog c14_13.eq_1) (And.intro (uC Try.prog c14_14.eq_1) (And.intro (uC Try.prog c14_15.eq_1) (And.intro (uC Try.prog c14_16.eq_1) (And.intro (uC Try.prog c14_17.eq_1) (And.intro (uC Try.prog c14_18.eq_1) (And.intro (uC Try.prog c14_19.eq_1) (And.intro (uC Try.prog c14_20.eq_1) (And.intro (uR Try.prog c14_21.eq_1) (And.intro (uC Try.prog c14_22.eq_1) (And.intro (uC Try.prog c14_23.eq_1) (And.intro (uC Try.prog c14_24.eq_1) (And.intro (uC Try.prog c14_25.eq_1) (And.intro (uC Try.prog c14_26.eq_1) (And.intro (uR Try.prog c14_27.eq_1) (And.intro (uC Try.prog c14_28.eq_1) (And.intro (uC Try.prog c14_29.eq_1) (And.intro (uC Try.prog c14_30.eq_1) (uC Try.prog c14.eq_1))))))))))))))))))))))))))))))))
def v14 : List RV := [.t 4]
theorem s14 : slimF Try.prog Try.f14 = some (c14.bare, v14) := by kernel_rfl
/-! 15 loop.example/g00066/laws.heldNodeS: parameters 2, live [0, 1], slots [0:a, 1:k, 2:a, 3:k, 5:i] -/
def c15_0 : List SOper := [⟨some 4, .q (.mv (.c (.int .i64 0))), none⟩]
def c15_1 : List SOper := [⟨some 5, .q (.mv (.c (.int .i64 0))), none⟩]
def c15_2 : List SOper := [⟨some 6, .q (.mv (.t 5)), none⟩, ⟨some 7, .q (.mv (.t 0)), none⟩, ⟨some 8, .q (.len (.t 7)), none⟩, ⟨some 9, .q (.bin .lss (.t 6) (.t 8)), none⟩]
def c15_3 : SCode := .cond (.t 9) .skip (.exit 0)
def c15_4 : SCode := .seq (.region c15_2 [0, 1, 5, 9]) c15_3
def c15_5 : List SOper := [⟨some 12, .q (.mv (.t 0)), none⟩, ⟨some 13, .q (.mv (.t 5)), none⟩, ⟨some 14, .q (.ia 4 (.t 12) (.t 13)), none⟩, ⟨some 15, .q (.fa 0 (.t 14)), none⟩, ⟨some 16, .q (.ld (.t 15)), none⟩, ⟨some 17, .q (.mv (.t 1)), none⟩, ⟨some 18, .q (.bin .neq (.t 16) (.t 17)), none⟩]
def c15_6 : List SOper := [⟨some 4, .q (.mv (.c (.int .i64 (-1)))), none⟩]
def c15_7 : SCode := .seq (.region c15_6 [4]) .ret
def c15_8 : SCode := .cond (.t 18) c15_7 .skip
def c15_9 : SCode := .seq (.region c15_5 [0, 1, 5, 18]) c15_8
def c15_10 : List SOper := [⟨some 19, .q (.mv (.t 1)), none⟩, ⟨some 20, .q (.bin .add (.t 19) (.c (.int .i64 1))), none⟩, ⟨some 1, .q (.mv (.t 20)), none⟩]
def c15_11 : List SOper := [⟨some 21, .q (.mv (.t 0)), none⟩, ⟨some 22, .q (.mv (.t 5)), none⟩, ⟨some 23, .q (.ia 4 (.t 21) (.t 22)), none⟩, ⟨some 24, .q (.fa 1 (.t 23)), none⟩, ⟨some 25, .q (.ld (.t 24)), none⟩, ⟨some 26, .q (.mv (.t 1)), none⟩, ⟨some 27, .q (.bin .neq (.t 25) (.t 26)), none⟩]
def c15_12 : List SOper := [⟨some 4, .q (.mv (.c (.int .i64 (-1)))), none⟩]
def c15_13 : SCode := .seq (.region c15_12 [4]) .ret
def c15_14 : SCode := .cond (.t 27) c15_13 .skip
def c15_15 : SCode := .seq (.region c15_11 [0, 1, 5, 27]) c15_14
def c15_16 : List SOper := [⟨some 28, .q (.mv (.t 1)), none⟩, ⟨some 29, .q (.bin .add (.t 28) (.c (.int .i64 1))), none⟩, ⟨some 1, .q (.mv (.t 29)), none⟩]
def c15_17 : List SOper := [⟨some 30, .q (.mv (.t 0)), none⟩, ⟨some 31, .q (.mv (.t 5)), none⟩, ⟨some 32, .q (.ia 4 (.t 30) (.t 31)), none⟩, ⟨some 33, .q (.fa 2 (.t 32)), none⟩, ⟨some 34, .q (.ld (.t 33)), none⟩, ⟨some 35, .q (.mv (.t 1)), none⟩, ⟨some 36, .q (.bin .neq (.t 34) (.t 35)), none⟩]
def c15_18 : List SOper := [⟨some 4, .q (.mv (.c (.int .i64 (-1)))), none⟩]
def c15_19 : SCode := .seq (.region c15_18 [4]) .ret
def c15_20 : SCode := .cond (.t 36) c15_19 .skip
def c15_21 : SCode := .seq (.region c15_17 [0, 1, 5, 36]) c15_20
def c15_22 : List SOper := [⟨some 37, .q (.mv (.t 1)), none⟩, ⟨some 38, .q (.bin .add (.t 37) (.c (.int .i64 1))), none⟩, ⟨some 1, .q (.mv (.t 38)), none⟩]
def c15_23 : List SOper := [⟨some 39, .q (.mv (.t 0)), none⟩, ⟨some 40, .q (.mv (.t 5)), none⟩, ⟨some 41, .q (.ia 4 (.t 39) (.t 40)), none⟩, ⟨some 42, .q (.fa 3 (.t 41)), none⟩, ⟨some 43, .q (.ld (.t 42)), none⟩, ⟨some 44, .q (.mv (.t 1)), none⟩, ⟨some 45, .q (.cvf .f64 (.t 44)), none⟩, ⟨some 46, .q (.bin .neq (.t 43) (.t 45)), none⟩]
def c15_24 : List SOper := [⟨some 4, .q (.mv (.c (.int .i64 (-1)))), none⟩]
def c15_25 : SCode := .seq (.region c15_24 [4]) .ret
def c15_26 : SCode := .cond (.t 46) c15_25 .skip
def c15_27 : SCode := .seq (.region c15_23 [0, 1, 5, 46]) c15_26
def c15_28 : List SOper := [⟨some 47, .q (.mv (.t 1)), none⟩, ⟨some 48, .q (.bin .add (.t 47) (.c (.int .i64 1))), none⟩, ⟨some 1, .q (.mv (.t 48)), none⟩]
def c15_29 : SCode := .seq c15_27 (.region c15_28 [0, 1, 5])
def c15_30 : SCode := .seq (.region c15_22 [0, 1, 5]) c15_29
def c15_31 : SCode := .seq c15_21 c15_30
def c15_32 : SCode := .seq (.region c15_16 [0, 1, 5]) c15_31
def c15_33 : SCode := .seq c15_15 c15_32
def c15_34 : SCode := .seq (.region c15_10 [0, 1, 5]) c15_33
def c15_35 : SCode := .seq c15_9 c15_34
def c15_36 : SCode := .block 1 c15_35
def c15_37 : List SOper := [⟨some 10, .q (.mv (.t 5)), none⟩, ⟨some 11, .q (.bin .add (.t 10) (.c (.int .i64 1))), none⟩, ⟨some 5, .q (.mv (.t 11)), none⟩]
def c15_38 : SCode := .seq c15_36 (.region c15_37 [0, 1, 5])
def c15_39 : SCode := .seq c15_4 c15_38
def c15_40 : SCode := .loop c15_39
def c15_41 : SCode := .block 0 c15_40
def c15_42 : SCode := .seq (.region c15_1 [0, 1, 5]) c15_41
def c15_43 : List SOper := [⟨some 49, .q (.mv (.t 1)), none⟩, ⟨some 4, .q (.mv (.t 49)), none⟩]
def c15_44 : SCode := .seq (.region c15_43 [4]) .ret
def c15_45 : SCode := .seq c15_42 c15_44
def c15_46 : SCode := .seq (.region c15_0 [0, 1]) c15_45
def c15 : SCode := c15_46
theorem w15 : type_of% (And.intro (uR Try.prog c15_0.eq_1) (And.intro (uR Try.prog c15_1.eq_1) (And.intro (uR Try.prog c15_2.eq_1) (And.intro (uC Try.prog c15_3.eq_1) (And.intro (uC Try.prog c15_4.eq_1) (And.intro (uR Try.prog c15_5.eq_1) (And.intro (uR Try.prog c15_6.eq_1) (And.intro (uC Try.prog c15_7.eq_1) (And.intro (uC Try.prog c15_8.eq_1) (And.intro (uC Try.prog c15_9.eq_1) (And.intro (uR Try.prog c15_10.eq_1) (And.intro (uR Try.prog c15_11.eq_1) (And.intro (uR Try.prog c15_12.eq_1) (And.intro (uC Try.prog c15_13.eq_1) (And.intro (uC Try.prog c15_14.eq_1) (And.intro (uC Try.prog c15_15.eq_1) (And.intro (uR Try.prog c15_16.eq_1) (And.intro (uR Try.prog c15_17.eq_1) (And.intro (uR Try.prog c15_18.eq_1) (And.intro (uC Try.prog c15_19.eq_1) (And.intro (uC Try.prog c15_20.eq_1) (And.intro (uC Try.prog c15_21.eq_1) (And.intro (uR Try.prog c15_22.eq_1) (And.intro (uR Try.prog c15_23.eq_1) (And.intro (uR Try.prog c15_24.eq_1) (And.intro (uC Try.prog c15_25.eq_1) (And.intro (uC Try.prog c15_26.eq_1) (And.intro (uC Try.prog c15_27.eq_1) (And.intro (uR Try.prog c15_28.eq_1) (And.intro (uC Try.prog c15_29.eq_1) (And.intro (uC Try.prog c15_30.eq_1) (And.intro (uC Try.prog c15_31.eq_1) (And.intro (uC Try.prog c15_32.eq_1) (And.intro (uC Try.prog c15_33.eq_1) (And.intro (uC Try.prog c15_34.eq_1) (And.intro (uC Try.prog c15_35.eq_1) (And.intro (uC Try.prog c15_36.eq_1) (And.intro (uR Try.prog c15_37.eq_1) (And.intro (uC Try.prog c15_38.eq_1) (And.intro (uC Try.prog c15_39.eq_1) (And.intro (uC Try.prog c15_40.eq_1) (And.intro (uC Try.prog c15_41.eq_1) (And.intro (uC Try.prog c15_42.eq_1) (And.intro (uR Try.prog c15_43.eq_1) (And.intro (uC Try.prog c15_44.eq_1) (And.intro (uC Try.prog c15_45.eq_1) (And.intro (uC Try.prog c15_46.eq_1) (uC Try.prog c15.eq_1)))))))))))))))))))))))))))))))))))))))))))))))) := (And.intro (uR Try.prog c15_0.eq_1) (And.intro (uR Try.prog c15_1.eq_1) (And.intro (uR Try.prog c15_2.eq_1) (And.intro (uC Try.prog c15_3.eq_1) (And.intro (uC Try.prog c15_4.eq_1) (And.intro (uR Try.prog c15_5.eq_1) (And.intro (uR Try.prog c15_6.eq_1) (And.intro (uC Try.prog c15_7.eq_1) (And.intro (uC Try.prog c15_8.eq_1) (And.intro (uC Try.prog c15_9.eq_1) (And.intro (uR Try.prog c15_10.eq_1) (And.intro (uR Try.prog c15_11.eq_1) (And.intro (uR Try.prog c15_12.eq_1) (And.intro (uC Try.prog c15_13.eq_1) (And.intro (uC Try.prog c15_14.eq_1) (And.intro (uC Try.prog c15_15.eq_1) (And.intro (uR Try.prog c15_16.eq_1) (And.intro (uR Try.prog c15_17.eq_1) (And.intro (uR Try.prog c15_18.eq_1) (And.intro (uC Try.prog c15_19.eq_1) (And.intro (uC Try.prog c15_20.eq_1) (And.intro (uC Try.prog c15_21.eq_1) (And.intro (uR Try.prog c15_22.eq_1) (And.intro (uR Try.prog c15_23.eq_1) (And.intro (uR Try.prog c15_24.eq_1) (And.intro (uC Try.prog c15_25.eq_1) (And.intro (uC Try.prog c15_26.eq_1) (And.intro (uC Try.prog c15_27.eq_1) (And.intro (uR Try.prog c15_28.eq_1) (And.intro (uC Try.prog c15_29.eq_1) (And.intro (uC Try.prog c15_30.eq_1) (And.intro (uC Try.prog c15_31.eq_1) (And.intro (uC Try.prog c15_32.eq_1) (And.intro (uC Try.prog c15_33.eq_1) (And.intro (uC Try.prog c15_34.eq_1) (And.intro (uC Try.prog c15_35.eq_1) (And.intro (uC Try.prog c15_36.eq_1) (And.intro (uR Try.prog c15_37.eq_1) (And.intro (uC Try.prog c15_38.eq_1) (And.intro (uC Try.prog c15_39.eq_1) (And.intro (uC Try.prog c15_40.eq_1) (And.intro (uC Try.prog c15_41.eq_1) (And.intro (uC Try.prog c15_42.eq_1) (And.intro (uR Try.prog c15_43.eq_1) (And.intro (uC Try.prog c15_44.eq_1) (And.intro (uC Try.prog c15_45.eq_1) (And.intro (uC Try.prog c15_46.eq_1) (uC Try.prog c15.eq_1))))))))))))))))))))))))))))))))))))))))))))))))
def v15 : List RV := [.t 4]
theorem s15 : slimF Try.prog Try.f15 = some (c15.bare, v15) := by kernel_rfl

/-! ### Floats in a walk -/
theorem flt_eql (a b : Nat) : binV .eql (.float .f64 a) (.float .f64 b) = some (.bool (decide (ordF a b = some .eq))) := by
  rw [bin_flt]
  show some (Value.bool (ordF a b == some .eq)) = _
  cases ordF a b with
  | none => rfl
  | some o => cases o <;> rfl
theorem flt_neq (a b : Nat) : binV .neq (.float .f64 a) (.float .f64 b) = some (.bool (!decide (ordF a b = some .eq))) := by
  rw [bin_flt]
  show some (Value.bool (ordF a b != some .eq)) = _
  cases ordF a b with
  | none => rfl
  | some o => cases o <;> rfl
theorem flt_gtr (a b : Nat) : binV .gtr (.float .f64 a) (.float .f64 b) = some (.bool (decide (ordF a b = some .gt))) := by
  rw [bin_flt]
  show some (Value.bool (ordF a b == some .gt)) = _
  cases ordF a b with
  | none => rfl
  | some o => cases o <;> rfl
theorem flt_inv {x : Nat} (h : ¬ nanF x) : binV .quo (.float .f64 4607182418800017408) (.float .f64 x) = some (.float .f64 (invF x)) := by
  rw [bin_flt]
  show (dbl.div oneF x).map (Value.float .f64) = _
  rw [(div_one h).1]; rfl
theorem oneB_flt (k : FloatKind) (b : Nat) (L : List Value) : oneB (.float k b :: L) = oneB L := rfl
theorem cells_flt (k : FloatKind) (b : Nat) : (Value.float k b).cells = #[.float k b] := rfl
theorem fl : type_of% (And.intro @oneB_flt @cells_flt) := And.intro @oneB_flt @cells_flt
/-! ### Nodes -/
structure Node where
  kind : Int
  inn : Int
  in2 : Int
  v : Nat
  deriving DecidableEq
def zNode : Node := ⟨0, 0, 0, 0⟩
def encNode (k : Node) : List Value := [.int .i64 k.kind, .int .i64 k.inn, .int .i64 k.in2, .float .f64 k.v]
theorem encNode_len (k : Node) : (encNode k).length = 4 := rfl
theorem take_set_rep {α : Type} (l : List α) (z : α) (i : Nat) (hi : i < l.length) : (l.take i ++ List.replicate (l.length - i) z).set i l[i] = l.take (i + 1) ++ List.replicate (l.length - (i + 1)) z := by
  have hlen : (l.take i).length = i := by simp; omega
  rw [show l.length - i = (l.length - (i + 1)) + 1 by omega, List.replicate_succ, List.set_append_right _ _ (by omega), hlen, Nat.sub_self, List.set_cons_zero,
    List.take_succ_eq_append_getElem hi, List.append_assoc]
  rfl
theorem toNode_ok (h : Heap) (k : Node) : ACall Try.prog 37 [.agg (encNode k).toArray] h fun r h' => Ext h h' ∧ r = .agg (encNode k).toArray := by
  refine ACall.of Try.func37 s37 (of_decide_eq_true rfl) ?_
  simp (maxSteps := 4000000) (disch := omega) only [ah, am, Nat.reduceEqDiff, reduceCtorEq, Nat.reduceAdd, Nat.reduceLeDiff, Nat.reduceMul, Nat.reduceLT, if_true, if_false, true_and, and_true, and_self, Nat.reduceBEq, QOp.loads, boxO, bslO, buildO, cutL, fillV, putL, w37, v37, encNode, fl]
  exact Ext.more _ _
theorem sameFloat_ok (h : Heap) (x : Nat) : ACall Try.prog 48 [.float .f64 x, .float .f64 x] h fun r h' => h' = h ∧ r = .bool true := by
  refine ACall.of Try.func48 s48 (of_decide_eq_true rfl) ?_
  by_cases n : nanF x
  · have o := (ordF_nan n x).1
    simp (maxSteps := 4000000) (disch := omega) only [ah, am, Nat.reduceEqDiff, reduceCtorEq, Nat.reduceAdd, Nat.reduceLeDiff, Nat.reduceMul, Nat.reduceLT, if_true, if_false, true_and, and_true, and_self, Nat.reduceBEq, QOp.loads, boxO, bslO, buildO, cutL, fillV, putL, w48, v48, flt_neq, o, decide_false, Bool.not_false]
  · have o := ordF_self n
    by_cases z : ordF x 0 = some .eq
    · simp (maxSteps := 4000000) (disch := omega) only [ah, am, Nat.reduceEqDiff, reduceCtorEq, Nat.reduceAdd, Nat.reduceLeDiff, Nat.reduceMul, Nat.reduceLT, if_true, if_false, true_and, and_true, and_self, Nat.reduceBEq, QOp.loads, boxO, bslO, buildO, cutL, fillV, putL, w48, v48, flt_neq, flt_eql, o, z, eq_self, decide_true, Bool.not_true, flt_inv n, flt_gtr, eqbV_bool', beq_self_eq_true]
    · simp (maxSteps := 4000000) (disch := omega) only [ah, am, Nat.reduceEqDiff, reduceCtorEq, Nat.reduceAdd, Nat.reduceLeDiff, Nat.reduceMul, Nat.reduceLT, if_true, if_false, true_and, and_true, and_self, Nat.reduceBEq, QOp.loads, boxO, bslO, buildO, cutL, fillV, putL, w48, v48, flt_neq, flt_eql, o, decide_eq_false z, eq_self, decide_true, Bool.not_true]
theorem eqNode_ok (h : Heap) (k : Node) : ACall Try.prog 41 [.agg (encNode k).toArray, .agg (encNode k).toArray] h
    fun r h' => Ext h h' ∧ r = .bool true := by
  obtain ⟨a, b, c, d⟩ := k
  refine ACall.of Try.func41 s41 (of_decide_eq_true rfl) ?_
  simp (maxSteps := 4000000) (disch := omega) only [ah, am, Nat.reduceEqDiff, reduceCtorEq, Nat.reduceAdd, Nat.reduceLeDiff, Nat.reduceMul, Nat.reduceLT, if_true, if_false, true_and, and_true, and_self, Nat.reduceBEq, QOp.loads, boxO, bslO, buildO, cutL, fillV, putL, w41, v41, encNode, fl, eq_self, decide_true, Bool.not_true]
  refine stepC.of (sameFloat_ok _ d) ?_
  rintro _ Hx ⟨hx, rfl⟩; rw [hx]; clear hx Hx
  simp (maxSteps := 4000000) (disch := omega) only [ah, am, Nat.reduceEqDiff, reduceCtorEq, Nat.reduceAdd, Nat.reduceLeDiff, Nat.reduceMul, Nat.reduceLT, if_true, if_false, true_and, and_true, and_self, Nat.reduceBEq, QOp.loads, boxO, bslO, buildO, cutL, fillV, putL, w41, v41, Bool.not_true]
  exact Ext.more _ _
theorem szNodeS_ok (h : Heap) (v : Value) (l : List Node) (left : Int) (hs : SlT h encNode 4 v l) (h0 : 0 ≤ left) (h1 : left ≤ 1048576) (hl : l.length ≤ 9223372036854775807) :
    ACall Try.prog 9 [v, .int .i64 left] h fun r h' => h' = h ∧ r = .int .i64 (if left - l.length < 0 then -1 else left - l.length) := by
  refine ACall.of Try.func9 s9 (of_decide_eq_true rfl) ?_
  have R := hs.rules
  have W : IntKind.i64.wrap (left - l.length) = left - l.length := i64e (by omega) (by omega)
  simp (maxSteps := 4000000) (disch := omega) only [ah, am, Nat.reduceEqDiff, reduceCtorEq, Nat.reduceAdd, Nat.reduceLeDiff, Nat.reduceMul, Nat.reduceLT, if_true, if_false, true_and, and_true, and_self, Nat.reduceBEq, QOp.loads, boxO, bslO, buildO, cutL, fillV, putL, w9, v9, R, W, stepI_dec]
  split <;> simp
theorem toNodeS_ok (h : Heap) (v : Value) (l : List Node) (hs : SlT h encNode 4 v l) (hl : l.length ≤ 1048576) :
    ACall Try.prog 11 [v] h fun r h' => Fresh h h' encNode 4 r l := by
  refine ACall.of Try.func11 s11 (of_decide_eq_true rfl) ?_
  have R := hs.rulesN
  simp (maxSteps := 4000000) (disch := omega) only [ah, am, Nat.reduceEqDiff, reduceCtorEq, Nat.reduceAdd, Nat.reduceLeDiff, Nat.reduceMul, Nat.reduceLT, if_true, if_false, true_and, and_true, and_self, Nat.reduceBEq, QOp.loads, boxO, bslO, buildO, cutL, fillV, putL, w11, v11, R, mksV_nat]
  refine SW_loop_up (fun i E H => ∃ ov, E = [(0, v), (3, ov), (4, .int .i64 i)] ∧ Fresh h H encNode 4 ov (l.take i ++ List.replicate (l.length - i) zNode)) l.length 0 (by omega)
    ⟨_, rfl, by have := Fresh.newR (sz := 4) h l.length zNode encNode_len (by omega); simpa [encNode, zNode] using this⟩ ?_
  rintro i E H hi ⟨ov, rfl, F⟩
  have R := (hs.ext F.1).rulesN
  have W : IntKind.i64.wrap ((i : Int) + 1) = ((i + 1 : Nat) : Int) := i64e (by omega) (by omega)
  simp (maxSteps := 4000000) (disch := omega) only [ah, am, Nat.reduceEqDiff, reduceCtorEq, Nat.reduceAdd, Nat.reduceLeDiff, Nat.reduceMul, Nat.reduceLT, if_true, if_false, true_and, and_true, and_self, Nat.reduceBEq, QOp.loads, boxO, bslO, buildO, cutL, fillV, putL, w11, v11, R, W]
  refine stepI.split (fun hp => ?_) (fun hp => ?_)
  · simp (maxSteps := 4000000) (disch := omega) only [ah, am, Nat.reduceEqDiff, reduceCtorEq, Nat.reduceAdd, Nat.reduceLeDiff, Nat.reduceMul, Nat.reduceLT, if_true, if_false, true_and, and_true, and_self, Nat.reduceBEq, QOp.loads, boxO, bslO, buildO, cutL, fillV, putL, w11, v11, R, W]
    refine stepC.of (toNode_ok _ _) ?_
    rintro r H1 ⟨e1, rfl⟩
    have F1 := F.ext e1
    obtain ⟨H2, es, F2, hsz⟩ := F1.set (j := i) (by simp; omega) l[i] rfl
    have R2 := F1.slt.rulesN
    simp only [List.length_append, List.length_take, List.length_replicate] at R2
    simp (maxSteps := 4000000) (disch := omega) only [ah, am, Nat.reduceEqDiff, reduceCtorEq, Nat.reduceAdd, Nat.reduceLeDiff, Nat.reduceMul, Nat.reduceLT, if_true, if_false, true_and, and_true, and_self, Nat.reduceBEq, QOp.loads, boxO, bslO, buildO, cutL, fillV, putL, w11, v11, R2, es, W]
    refine ⟨by omega, _, rfl, ?_⟩
    rw [show List.take (i + 1) l ++ List.replicate (l.length - (i + 1)) zNode = (l.take i ++ List.replicate (l.length - i) zNode).set i l[i] from (take_set_rep l zNode i (by omega)).symm]
    exact F2
  · simp (maxSteps := 4000000) (disch := omega) only [ah, am, Nat.reduceEqDiff, reduceCtorEq, Nat.reduceAdd, Nat.reduceLeDiff, Nat.reduceMul, Nat.reduceLT, if_true, if_false, true_and, and_true, and_self, Nat.reduceBEq, QOp.loads, boxO, bslO, buildO, cutL, fillV, putL, w11, v11, R, W]
    obtain rfl : i = l.length := by omega
    simpa using F
theorem eqNodeS_ok (h : Heap) (v v' : Value) (l : List Node) (hs : SlT h encNode 4 v l) (hs' : SlT h encNode 4 v' l) (hl : l.length ≤ 281474976710656) :
    ACall Try.prog 13 [v, v'] h fun r h' => Ext h h' ∧ r = .bool true := by
  refine ACall.of Try.func13 s13 (of_decide_eq_true rfl) ?_
  have R := hs.rulesN
  have R' := hs'.rulesN
  simp (maxSteps := 4000000) (disch := omega) only [ah, am, Nat.reduceEqDiff, reduceCtorEq, Nat.reduceAdd, Nat.reduceLeDiff, Nat.reduceMul, Nat.reduceLT, if_true, if_false, true_and, and_true, and_self, Nat.reduceBEq, QOp.loads, boxO, bslO, buildO, cutL, fillV, putL, w13, v13, R, R', eq_self, decide_true, Bool.not_true]
  refine SW_loop_up (fun i E H => E = [(0, v), (1, v'), (5, .int .i64 i)] ∧ Ext h H) l.length 0 (by omega) ⟨rfl, .refl h⟩ ?_
  rintro i E H hi ⟨rfl, e⟩
  have R := (hs.ext e).rulesN
  have R' := (hs'.ext e).rulesN
  have W : IntKind.i64.wrap ((i : Int) + 1) = ((i + 1 : Nat) : Int) := i64e (by omega) (by omega)
  simp (maxSteps := 4000000) (disch := omega) only [ah, am, Nat.reduceEqDiff, reduceCtorEq, Nat.reduceAdd, Nat.reduceLeDiff, Nat.reduceMul, Nat.reduceLT, if_true, if_false, true_and, and_true, and_self, Nat.reduceBEq, QOp.loads, boxO, bslO, buildO, cutL, fillV, putL, w13, v13, R, R', W]
  refine stepI.split (fun hp => ?_) (fun hp => ?_)
  · simp (maxSteps := 4000000) (disch := omega) only [ah, am, Nat.reduceEqDiff, reduceCtorEq, Nat.reduceAdd, Nat.reduceLeDiff, Nat.reduceMul, Nat.reduceLT, if_true, if_false, true_and, and_true, and_self, Nat.reduceBEq, QOp.loads, boxO, bslO, buildO, cutL, fillV, putL, w13, v13, R, R', W]
    refine stepC.of (eqNode_ok _ _) ?_
    rintro r H1 ⟨e1, rfl⟩
    simp (maxSteps := 4000000) (disch := omega) only [ah, am, Nat.reduceEqDiff, reduceCtorEq, Nat.reduceAdd, Nat.reduceLeDiff, Nat.reduceMul, Nat.reduceLT, if_true, if_false, true_and, and_true, and_self, Nat.reduceBEq, QOp.loads, boxO, bslO, buildO, cutL, fillV, putL, w13, v13, Bool.not_true, W]
    exact ⟨by omega, e.trans e1⟩
  · simp (maxSteps := 4000000) (disch := omega) only [ah, am, Nat.reduceEqDiff, reduceCtorEq, Nat.reduceAdd, Nat.reduceLeDiff, Nat.reduceMul, Nat.reduceLT, if_true, if_false, true_and, and_true, and_self, Nat.reduceBEq, QOp.loads, boxO, bslO, buildO, cutL, fillV, putL, w13, v13, R, W]
    exact e
def markN (k : Int) (i : Nat) : Node := ⟨k + 4 * (i : Int), k + 4 * (i : Int) + 1, k + 4 * (i : Int) + 2, FloatKind.nearest .f64 (k + 4 * (i : Int) + 3)⟩
def markNode (k : Int) (n : Nat) : List Node := (List.range n).map (markN k)
theorem mark_step {α : Type} (f : Nat → α) (l : List α) (i : Nat) (hi : i < l.length) : ((List.range i).map f ++ l.drop i).set i (f i) = (List.range (i + 1)).map f ++ l.drop (i + 1) := by
  rw [List.set_append_right _ _ (by simp), List.length_map, List.length_range, Nat.sub_self, List.drop_eq_getElem_cons hi, List.set_cons_zero, List.range_succ, List.map_append, List.append_assoc]
  rfl
theorem markNodeS_ok (h : Heap) (g : Nat) (v : Value) (l : List Node) (k : Int) (o : OwnT g h encNode 4 v l) (hl : l.length ≤ 1000000000) (hk : 0 ≤ k ∧ k ≤ 1000000000000) :
    ACall Try.prog 14 [v, .int .i64 k] h fun r h' => ExtG g h h' ∧ OwnT g h' encNode 4 v (markNode k l.length) ∧ r = .int .i64 (k + 4 * l.length) := by
  refine ACall.of Try.func14 s14 (of_decide_eq_true rfl) ?_
  have R := o.slt.rulesN
  simp (maxSteps := 4000000) (disch := omega) only [ah, am, Nat.reduceEqDiff, reduceCtorEq, Nat.reduceAdd, Nat.reduceLeDiff, Nat.reduceMul, Nat.reduceLT, if_true, if_false, true_and, and_true, and_self, Nat.reduceBEq, QOp.loads, boxO, bslO, buildO, cutL, fillV, putL, w14, v14, R]
  refine SW_loop_up (fun i E H => E = [(0, v), (1, .int .i64 (k + 4 * i)), (5, .int .i64 i)] ∧ ExtG g h H ∧ OwnT g H encNode 4 v (markNode k i ++ l.drop i)) l.length 0 (by omega)
    ⟨by simp, ExtG.refl g h, by simpa [markNode] using o⟩ ?_
  rintro i E H hi ⟨rfl, e, O⟩
  have hlen : (markNode k i ++ l.drop i).length = l.length := by simp [markNode]; omega
  have R := O.slt.rulesN
  simp only [hlen] at R
  have W : IntKind.i64.wrap ((i : Int) + 1) = ((i + 1 : Nat) : Int) := i64e (by omega) (by omega)
  have W1 : IntKind.i64.wrap (k + 4 * (i : Int) + 1) = k + 4 * (i : Int) + 1 := i64e (by omega) (by omega)
  have W2 : IntKind.i64.wrap (k + 4 * (i : Int) + 1 + 1) = k + 4 * (i : Int) + 2 := i64e (by omega) (by omega)
  have W3 : IntKind.i64.wrap (k + 4 * (i : Int) + 2 + 1) = k + 4 * (i : Int) + 3 := i64e (by omega) (by omega)
  have W4 : IntKind.i64.wrap (k + 4 * (i : Int) + 3 + 1) = k + 4 * ((i + 1 : Nat) : Int) := i64e (by omega) (by omega)
  simp (maxSteps := 4000000) (disch := omega) only [ah, am, Nat.reduceEqDiff, reduceCtorEq, Nat.reduceAdd, Nat.reduceLeDiff, Nat.reduceMul, Nat.reduceLT, if_true, if_false, true_and, and_true, and_self, Nat.reduceBEq, QOp.loads, boxO, bslO, buildO, cutL, fillV, putL, w14, v14, R, W]
  refine stepI.split (fun hp => ?_) (fun hp => ?_)
  · have hj : i < (markNode k i ++ l.drop i).length := by omega
    obtain ⟨H1, es1, O1, G1, -⟩ := O.setF (j := i) (f := 0) (n := 1) (y := .int .i64 (k + 4 * i)) (x := ⟨k + 4 * i, ((markNode k i ++ l.drop i)[i]).inn, ((markNode k i ++ l.drop i)[i]).in2, ((markNode k i ++ l.drop i)[i]).v⟩) hj rfl (by omega) rfl (by omega) rfl
    obtain ⟨H2, es2, O2, G2, -⟩ := O1.setF (j := i) (f := 1) (n := 1) (y := .int .i64 (k + 4 * i + 1)) (x := ⟨k + 4 * i, k + 4 * i + 1, ((markNode k i ++ l.drop i)[i]).in2, ((markNode k i ++ l.drop i)[i]).v⟩) (by simpa using hj) (by simp [encNode, splice, cells_int]) (by omega) rfl (by omega) rfl
    obtain ⟨H3, es3, O3, G3, -⟩ := O2.setF (j := i) (f := 2) (n := 1) (y := .int .i64 (k + 4 * i + 2)) (x := ⟨k + 4 * i, k + 4 * i + 1, k + 4 * i + 2, ((markNode k i ++ l.drop i)[i]).v⟩) (by simpa using hj) (by simp [encNode, splice, cells_int]) (by omega) rfl (by omega) rfl
    obtain ⟨H4, es4, O4, G4, -⟩ := O3.setF (j := i) (f := 3) (n := 1) (y := .float .f64 (FloatKind.nearest .f64 (k + 4 * i + 3))) (x := markN k i) (by simpa using hj) (by simp [encNode, markN, splice, Value.cells]) (by omega) rfl (by omega) rfl
    rw [List.set_set, List.set_set, List.set_set] at O4
    simp only [Nat.add_zero] at es1
    simp (maxSteps := 4000000) (disch := omega) only [ah, am, Nat.reduceEqDiff, reduceCtorEq, Nat.reduceAdd, Nat.reduceLeDiff, Nat.reduceMul, Nat.reduceLT, if_true, if_false, true_and, and_true, and_self, Nat.reduceBEq, QOp.loads, boxO, bslO, buildO, cutL, fillV, putL, w14, v14, R, es1, es2, es3, ev_cvf, cvfV_int, es4, W, W1, W2, W3, W4]
    refine ⟨by omega, (((e.trans G1).trans G2).trans G3).trans G4, ?_⟩
    have := mark_step (markN k) l i (by omega)
    unfold markNode at O4 ⊢
    rw [← this]; exact O4
  · simp (maxSteps := 4000000) (disch := omega) only [ah, am, Nat.reduceEqDiff, reduceCtorEq, Nat.reduceAdd, Nat.reduceLeDiff, Nat.reduceMul, Nat.reduceLT, if_true, if_false, true_and, and_true, and_self, Nat.reduceBEq, QOp.loads, boxO, bslO, buildO, cutL, fillV, putL, w14, v14]
    obtain rfl : i = l.length := by omega
    exact ⟨e, by simpa using O, rfl⟩
theorem heldNodeS_ok (h : Heap) (v : Value) (n : Nat) (k : Int) (s : SlT h encNode 4 v (markNode k n)) (hl : n ≤ 1000000000) (hk : 0 ≤ k ∧ k ≤ 1000000000000) :
    ACall Try.prog 15 [v, .int .i64 k] h fun r h' => h' = h ∧ r = .int .i64 (k + 4 * n) := by
  refine ACall.of Try.func15 s15 (of_decide_eq_true rfl) ?_
  have R := s.rulesN
  have hn : (markNode k n).length = n := by simp [markNode]
  simp only [hn] at R
  simp (maxSteps := 4000000) (disch := omega) only [ah, am, Nat.reduceEqDiff, reduceCtorEq, Nat.reduceAdd, Nat.reduceLeDiff, Nat.reduceMul, Nat.reduceLT, if_true, if_false, true_and, and_true, and_self, Nat.reduceBEq, QOp.loads, boxO, bslO, buildO, cutL, fillV, putL, w15, v15, R]
  refine SW_loop_up (fun i E H => E = [(0, v), (1, .int .i64 (k + 4 * i)), (5, .int .i64 i)] ∧ H = h) n 0 (by omega) ⟨by simp, rfl⟩ ?_
  rintro i E H hi ⟨rfl, rfl⟩
  have W : IntKind.i64.wrap ((i : Int) + 1) = ((i + 1 : Nat) : Int) := i64e (by omega) (by omega)
  have W1 : IntKind.i64.wrap (k + 4 * (i : Int) + 1) = k + 4 * (i : Int) + 1 := i64e (by omega) (by omega)
  have W2 : IntKind.i64.wrap (k + 4 * (i : Int) + 1 + 1) = k + 4 * (i : Int) + 2 := i64e (by omega) (by omega)
  have W3 : IntKind.i64.wrap (k + 4 * (i : Int) + 2 + 1) = k + 4 * (i : Int) + 3 := i64e (by omega) (by omega)
  have W4 : IntKind.i64.wrap (k + 4 * (i : Int) + 3 + 1) = k + 4 * ((i + 1 : Nat) : Int) := i64e (by omega) (by omega)
  have of := ordF_self (nearest_int (k + 4 * (i : Int) + 3))
  simp (maxSteps := 4000000) (disch := omega) only [ah, am, Nat.reduceEqDiff, reduceCtorEq, Nat.reduceAdd, Nat.reduceLeDiff, Nat.reduceMul, Nat.reduceLT, if_true, if_false, true_and, and_true, and_self, Nat.reduceBEq, QOp.loads, boxO, bslO, buildO, cutL, fillV, putL, w15, v15, R, W]
  refine stepI.split (fun hp => ?_) (fun hp => ?_)
  · have g : ∀ (hj : i < (markNode k n).length), encNode (markNode k n)[i] = [.int .i64 (k + 4 * i), .int .i64 (k + 4 * i + 1), .int .i64 (k + 4 * i + 2), .float .f64 (FloatKind.nearest .f64 (k + 4 * (i : Int) + 3))] := by
      intro hj; simp [markNode, markN, encNode]
    simp (maxSteps := 4000000) (disch := omega) only [ah, am, Nat.reduceEqDiff, reduceCtorEq, Nat.reduceAdd, Nat.reduceLeDiff, Nat.reduceMul, Nat.reduceLT, if_true, if_false, true_and, and_true, and_self, Nat.reduceBEq, QOp.loads, boxO, bslO, buildO, cutL, fillV, putL, w15, v15, R, g, W, W1, W2, W3, W4, ev_cvf, cvfV_int, flt_neq, of, eq_self, decide_true, Bool.not_true, stepI_true]
    omega
  · simp (maxSteps := 4000000) (disch := omega) only [ah, am, Nat.reduceEqDiff, reduceCtorEq, Nat.reduceAdd, Nat.reduceLeDiff, Nat.reduceMul, Nat.reduceLT, if_true, if_false, true_and, and_true, and_self, Nat.reduceBEq, QOp.loads, boxO, bslO, buildO, cutL, fillV, putL, w15, v15]
    obtain rfl : i = n := by omega
    rfl
theorem markNodeS_mine {a b : Nat} {h : Heap} {v : Value} {l : List Node} (k : Int) (m : Mine a b h encNode 4 v l) (hl : l.length ≤ 1000000000) (hk : 0 ≤ k ∧ k ≤ 1000000000000) :
    ACall Try.prog 14 [v, .int .i64 k] h fun r h' => Chg a b h h' ∧ Mine a b h' encNode 4 v (markNode k l.length) ∧ r = .int .i64 (k + 4 * l.length) :=
  ACall.mine m (fun g o => markNodeS_ok h g v l k o hl hk) (fun e => by rw [e]; rfl)
end Go.Proofs.Ytdagajblnlemaaa
