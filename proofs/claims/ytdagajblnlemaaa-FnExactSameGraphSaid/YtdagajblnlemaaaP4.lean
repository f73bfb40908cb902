import Derived.Test.YtdagajblnlemaaaP3
import Derived.Laws.Externs
namespace Go.Proofs.Ytdagajblnlemaaa
open Go Go.Ah
set_option linter.unusedSimpArgs false
set_option linter.unusedVariables false
set_option maxRecDepth 10000
set_option maxHeartbeats 4000000
/-! 42 loop.example/g00066/spec.l10Same: parameters 2, live [0, 1], slots [0:a, 1:b, 2:a, 3:b] -/
def c42_0 : List SOper := [⟨some 4, .q (.mv (.c (.bool false))), none⟩]
def c42_1 : List SOper := [⟨some 5, .q (.mv (.t 0)), none⟩, ⟨some 6, .q (.mv (.t 0)), none⟩, ⟨some 7, .q (.bin .neq (.t 5) (.t 6)), none⟩, ⟨some 8, .q (.mv (.t 7)), none⟩, ⟨some 9, .q (.mv (.t 1)), some (8, false)⟩, ⟨some 10, .q (.mv (.t 1)), some (8, false)⟩, ⟨some 11, .q (.bin .neq (.t 9) (.t 10)), some (8, false)⟩, ⟨some 12, .q (.pick (.t 8) (.c (.bool true)) (.t 11)), none⟩]
def c42_2 : List SOper := [⟨some 13, .q (.mv (.t 0)), none⟩, ⟨some 14, .q (.mv (.t 0)), none⟩, ⟨some 15, .q (.bin .neq (.t 13) (.t 14)), none⟩, ⟨some 16, .q (.mv (.t 15)), none⟩, ⟨some 17, .q (.mv (.t 1)), some (16, true)⟩, ⟨some 18, .q (.mv (.t 1)), some (16, true)⟩, ⟨some 19, .q (.bin .neq (.t 17) (.t 18)), some (16, true)⟩, ⟨some 20, .q (.pick (.t 16) (.t 19) (.c (.bool false))), none⟩, ⟨some 4, .q (.mv (.t 20)), none⟩]
def c42_3 : SCode := .seq (.region c42_2 [4]) .ret
def c42_4 : SCode := .cond (.t 12) c42_3 .skip
def c42_5 : SCode := .seq (.region c42_1 [0, 1, 12]) c42_4
def c42_6 : List SOper := [⟨some 21, .q (.mv (.t 0)), none⟩, ⟨some 22, .q (.mv (.t 1)), none⟩, ⟨some 23, .q (.bin .eql (.t 21) (.t 22)), none⟩, ⟨some 24, .q (.mv (.t 23)), none⟩, ⟨some 25, .q (.mv (.t 0)), some (24, true)⟩, ⟨some 26, .q (.bin .quo (.c (.float .f64 4607182418800017408)) (.t 25)), some (24, true)⟩, ⟨some 27, .q (.mv (.t 1)), some (24, true)⟩, ⟨some 28, .q (.bin .quo (.c (.float .f64 4607182418800017408)) (.t 27)), some (24, true)⟩, ⟨some 29, .q (.bin .eql (.t 26) (.t 28)), some (24, true)⟩, ⟨some 30, .q (.pick (.t 24) (.t 29) (.c (.bool false))), none⟩, ⟨some 4, .q (.mv (.t 30)), none⟩]
def c42_7 : SCode := .seq (.region c42_6 [4]) .ret
def c42_8 : SCode := .seq c42_5 c42_7
def c42_9 : SCode := .seq (.region c42_0 [0, 1]) c42_8
def c42 : SCode := c42_9
theorem w42 : type_of% (And.intro (uR Try.prog c42_0.eq_1) (And.intro (uR Try.prog c42_1.eq_1) (And.intro (uR Try.prog c42_2.eq_1) (And.intro (uC Try.prog c42_3.eq_1) (And.intro (uC Try.prog c42_4.eq_1) (And.intro (uC Try.prog c42_5.eq_1) (And.intro (uR Try.prog c42_6.eq_1) (And.intro (uC Try.prog c42_7.eq_1) (And.intro (uC Try.prog c42_8.eq_1) (And.intro (uC Try.prog c42_9.eq_1) (uC Try.prog c42.eq_1))))))))))) := (And.intro (uR Try.prog c42_0.eq_1) (And.intro (uR Try.prog c42_1.eq_1) (And.intro (uR Try.prog c42_2.eq_1) (And.intro (uC Try.prog c42_3.eq_1) (And.intro (uC Try.prog c42_4.eq_1) (And.intro (uC Try.prog c42_5.eq_1) (And.intro (uR Try.prog c42_6.eq_1) (And.intro (uC Try.prog c42_7.eq_1) (And.intro (uC Try.prog c42_8.eq_1) (And.intro (uC Try.prog c42_9.eq_1) (uC Try.prog c42.eq_1)))))))))))
def v42 : List RV := [.t 4]
theorem s42 : slimF Try.prog Try.f42 = some (c42.bare, v42) := by kernel_rfl
/-! 16 loop.example/g00066/spec.SameGraph: parameters 2, live [0, 1], slots [0:a, 1:b, 2:a, 3:b, 5:x, 6:y, 7:i] -/
def c16_0 : List SOper := [⟨some 4, .q (.mv (.c (.bool false))), none⟩]
def c16_1 : List SOper := [⟨some 8, .q (.mv (.t 0)), none⟩, ⟨some 9, .e (.call 10 [(.t 8)]), none⟩, ⟨some 5, .q (.mv (.t 9)), none⟩]
def c16_2 : List SOper := [⟨some 10, .q (.mv (.t 1)), none⟩, ⟨some 11, .e (.call 10 [(.t 10)]), none⟩, ⟨some 6, .q (.mv (.t 11)), none⟩]
def c16_3 : List SOper := [⟨some 12, .q (.mv (.t 5)), none⟩, ⟨some 13, .q (.len (.t 12)), none⟩, ⟨some 14, .q (.bin .eql (.t 13) (.c (.int .i64 0))), none⟩, ⟨some 15, .q (.mv (.t 14)), none⟩, ⟨some 16, .q (.mv (.t 5)), some (15, false)⟩, ⟨some 17, .q (.len (.t 16)), some (15, false)⟩, ⟨some 18, .q (.mv (.t 6)), some (15, false)⟩, ⟨some 19, .q (.len (.t 18)), some (15, false)⟩, ⟨some 20, .q (.bin .neq (.t 17) (.t 19)), some (15, false)⟩, ⟨some 21, .q (.pick (.t 15) (.c (.bool true)) (.t 20)), none⟩]
def c16_4 : List SOper := [⟨some 4, .q (.mv (.c (.bool false))), none⟩]
def c16_5 : SCode := .seq (.region c16_4 [4]) .ret
def c16_6 : SCode := .cond (.t 21) c16_5 .skip
def c16_7 : SCode := .seq (.region c16_3 [5, 6, 21]) c16_6
def c16_8 : List SOper := [⟨some 7, .q (.mv (.c (.int .i64 0))), none⟩]
def c16_9 : List SOper := [⟨some 22, .q (.mv (.t 7)), none⟩, ⟨some 23, .q (.mv (.t 5)), none⟩, ⟨some 24, .q (.len (.t 23)), none⟩, ⟨some 25, .q (.bin .lss (.t 22) (.t 24)), none⟩]
def c16_10 : SCode := .cond (.t 25) .skip (.exit 0)
def c16_11 : SCode := .seq (.region c16_9 [5, 6, 7, 25]) c16_10
def c16_12 : List SOper := [⟨some 28, .q (.mv (.t 5)), none⟩, ⟨some 29, .q (.mv (.t 7)), none⟩, ⟨some 30, .q (.ia 4 (.t 28) (.t 29)), none⟩, ⟨some 31, .q (.fa 0 (.t 30)), none⟩, ⟨some 32, .q (.ld (.t 31)), none⟩, ⟨some 33, .q (.mv (.t 6)), none⟩, ⟨some 34, .q (.mv (.t 7)), none⟩, ⟨some 35, .q (.ia 4 (.t 33) (.t 34)), none⟩, ⟨some 36, .q (.fa 0 (.t 35)), none⟩, ⟨some 37, .q (.ld (.t 36)), none⟩, ⟨some 38, .q (.bin .neq (.t 32) (.t 37)), none⟩, ⟨some 39, .q (.mv (.t 38)), none⟩, ⟨some 40, .q (.mv (.t 5)), some (39, false)⟩, ⟨some 41, .q (.mv (.t 7)), some (39, false)⟩, ⟨some 42, .q (.ia 4 (.t 40) (.t 41)), some (39, false)⟩, ⟨some 43, .q (.fa 1 (.t 42)), some (39, false)⟩, ⟨some 44, .q (.ld (.t 43)), some (39, false)⟩, ⟨some 45, .q (.mv (.t 6)), some (39, false)⟩, ⟨some 46, .q (.mv (.t 7)), some (39, false)⟩, ⟨some 47, .q (.ia 4 (.t 45) (.t 46)), some (39, false)⟩, ⟨some 48, .q (.fa 1 (.t 47)), some (39, false)⟩, ⟨some 49, .q (.ld (.t 48)), some (39, false)⟩, ⟨some 50, .q (.bin .neq (.t 44) (.t 49)), some (39, false)⟩, ⟨some 51, .q (.pick (.t 39) (.c (.bool true)) (.t 50)), none⟩, ⟨some 52, .q (.mv (.t 51)), none⟩, ⟨some 53, .q (.mv (.t 5)), some (52, false)⟩, ⟨some 54, .q (.mv (.t 7)), some (52, false)⟩, ⟨some 55, .q (.ia 4 (.t 53) (.t 54)), some (52, false)⟩, ⟨some 56, .q (.fa 2 (.t 55)), some (52, false)⟩, ⟨some 57, .q (.ld (.t 56)), some (52, false)⟩, ⟨some 58, .q (.mv (.t 6)), some (52, false)⟩, ⟨some 59, .q (.mv (.t 7)), some (52, false)⟩, ⟨some 60, .q (.ia 4 (.t 58) (.t 59)), some (52, false)⟩, ⟨some 61, .q (.fa 2 (.t 60)), some (52, false)⟩, ⟨some 62, .q (.ld (.t 61)), some (52, false)⟩, ⟨some 63, .q (.bin .neq (.t 57) (.t 62)), some (52, false)⟩, ⟨some 64, .q (.pick (.t 52) (.c (.bool true)) (.t 63)), none⟩, ⟨some 65, .q (.mv (.t 64)), none⟩, ⟨some 66, .q (.mv (.t 5)), some (65, false)⟩, ⟨some 67, .q (.mv (.t 7)), some (65, false)⟩, ⟨some 68, .q (.ia 4 (.t 66) (.t 67)), some (65, false)⟩, ⟨some 69, .q (.fa 3 (.t 68)), some (65, false)⟩, ⟨some 70, .q (.ld (.t 69)), some (65, false)⟩, ⟨some 71, .q (.mv (.t 6)), some (65, false)⟩, ⟨some 72, .q (.mv (.t 7)), some (65, false)⟩, ⟨some 73, .q (.ia 4 (.t 71) (.t 72)), some (65, false)⟩, ⟨some 74, .q (.fa 3 (.t 73)), some (65, false)⟩, ⟨some 75, .q (.ld (.t 74)), some (65, false)⟩, ⟨some 76, .e (.call 42 [(.t 70), (.t 75)]), some (65, false)⟩, ⟨some 77, .q (.not (.t 76)), some (65, false)⟩, ⟨some 78, .q (.pick (.t 65) (.c (.bool true)) (.t 77)), none⟩]
def c16_13 : List SOper := [⟨some 4, .q (.mv (.c (.bool false))), none⟩]
def c16_14 : SCode := .seq (.region c16_13 [4]) .ret
def c16_15 : SCode := .cond (.t 78) c16_14 .skip
def c16_16 : SCode := .seq (.region c16_12 [5, 6, 7, 78]) c16_15
def c16_17 : SCode := .block 1 c16_16
def c16_18 : List SOper := [⟨some 26, .q (.mv (.t 7)), none⟩, ⟨some 27, .q (.bin .add (.t 26) (.c (.int .i64 1))), none⟩, ⟨some 7, .q (.mv (.t 27)), none⟩]
def c16_19 : SCode := .seq c16_17 (.region c16_18 [5, 6, 7])
def c16_20 : SCode := .seq c16_11 c16_19
def c16_21 : SCode := .loop c16_20
def c16_22 : SCode := .block 0 c16_21
def c16_23 : SCode := .seq (.region c16_8 [5, 6, 7]) c16_22
def c16_24 : List SOper := [⟨some 4, .q (.mv (.c (.bool true))), none⟩]
def c16_25 : SCode := .seq (.region c16_24 [4]) .ret
def c16_26 : SCode := .seq c16_23 c16_25
def c16_27 : SCode := .seq c16_7 c16_26
def c16_28 : SCode := .seq (.region c16_2 [5, 6]) c16_27
def c16_29 : SCode := .seq (.region c16_1 [1, 5]) c16_28
def c16_30 : SCode := .seq (.region c16_0 [0, 1]) c16_29
def c16 : SCode := c16_30
theorem w16 : type_of% (And.intro (uR Try.prog c16_0.eq_1) (And.intro (uR Try.prog c16_1.eq_1) (And.intro (uR Try.prog c16_2.eq_1) (And.intro (uR Try.prog c16_3.eq_1) (And.intro (uR Try.prog c16_4.eq_1) (And.intro (uC Try.prog c16_5.eq_1) (And.intro (uC Try.prog c16_6.eq_1) (And.intro (uC Try.prog c16_7.eq_1) (And.intro (uR Try.prog c16_8.eq_1) (And.intro (uR Try.prog c16_9.eq_1) (And.intro (uC Try.prog c16_10.eq_1) (And.intro (uC Try.prog c16_11.eq_1) (And.intro (uR Try.prog c16_12.eq_1) (And.intro (uR Try.prog c16_13.eq_1) (And.intro (uC Try.prog c16_14.eq_1) (And.intro (uC Try.prog c16_15.eq_1) (And.intro (uC Try.prog c16_16.eq_1) (And.intro (uC Try.prog c16_17.eq_1) (And.intro (uR Try.prog c16_18.eq_1) (And.intro (uC Try.prog c16_19.eq_1) (And.intro (uC Try.prog c16_20.eq_1) (And.intro (uC Try.prog c16_21.eq_1) (And.intro (uC Try.prog c16_22.eq_1) (And.intro (uC Try.prog c16_23.eq_1) (And.intro (uR Try.prog c16_24.eq_1) (And.intro (uC Try.prog c16_25.eq_1) (And.intro (uC Try.prog c16_26.eq_1) (And.intro (uC Try.prog c16_27.eq_1) (And.intro (uC Try.prog c16_28.eq_1) (And.intro (uC Try.prog c16_29.eq_1) (And.intro (uC Try.prog c16_30.eq_1) (uC Try.prog c16.eq_1)))))))))))))))))))))))))))))))) := (And.intro (uR Try.prog c16_0.eq_1) (And.intro (uR Try.prog c16_1.eq_1) (And.intro (uR Try.prog c16_2.eq_1) (And.intro (uR Try.prog c16_3.eq_1) (And.intro (uR Try.prog c16_4.eq_1) (And.intro (uC Try.prog c16_5.eq_1) (And.intro (uC Try.prog c16_6.eq_1) (And.intro (uC Try.prog c16_7.eq_1) (And.intro (uR Try.prog c16_8.eq_1) (And.intro (uR Try.prog c16_9.eq_1) (And.intro (uC Try.prog c16_10.eq_1) (And.intro (uC Try.prog c16_11.eq_1) (And.intro (uR Try.prog c16_12.eq_1) (And.intro (uR Try.prog c16_13.eq_1) (And.intro (uC Try.prog c16_14.eq_1) (And.intro (uC Try.prog c16_15.eq_1) (And.intro (uC Try.prog c16_16.eq_1) (And.intro (uC Try.prog c16_17.eq_1) (And.intro (uR Try.prog c16_18.eq_1) (And.intro (uC Try.prog c16_19.eq_1) (And.intro (uC Try.prog c16_20.eq_1) (And.intro (uC Try.prog c16_21.eq_1) (And.intro (uC Try.prog c16_22.eq_1) (And.intro (uC Try.prog c16_23.eq_1) (And.intro (uR Try.prog c16_24.eq_1) (And.intro (uC Try.prog c16_25.eq_1) (And.intro (uC Try.prog c16_26.eq_1) (And.intro (uC Try.prog c16_27.eq_1) (And.intro (uC Try.prog c16_28.eq_1) (And.intro (uC Try.prog c16_29.eq_1) (And.intro (uC Try.prog c16_30.eq_1) (uC Try.prog c16.eq_1))))))))))))))))))))))))))))))))
def v16 : List RV := [.t 4]
theorem s16 : slimF Try.prog Try.f16 = some (c16.bare, v16) := by kernel_rfl
/-! 60 math.IsNaN: parameters 1, live [0], slots [0:f, 1:f, 2:is] -/
def c60_0 : List SOper := [⟨some 2, .q (.mv (.c (.bool false))), none⟩]
def c60_1 : List SOper := [⟨some 3, .q (.mv (.t 0)), none⟩, ⟨some 4, .q (.mv (.t 0)), none⟩, ⟨some 5, .q (.bin .neq (.t 3) (.t 4)), none⟩, ⟨some 2, .q (.mv (.t 5)), none⟩]
def c60_2 : SCode := .seq (.region c60_1 [2]) .ret
def c60_3 : SCode := .seq (.region c60_0 [0]) c60_2
def c60 : SCode := c60_3
theorem w60 : type_of% (And.intro (uR Try.prog c60_0.eq_1) (And.intro (uR Try.prog c60_1.eq_1) (And.intro (uC Try.prog c60_2.eq_1) (And.intro (uC Try.prog c60_3.eq_1) (uC Try.prog c60.eq_1))))) := (And.intro (uR Try.prog c60_0.eq_1) (And.intro (uR Try.prog c60_1.eq_1) (And.intro (uC Try.prog c60_2.eq_1) (And.intro (uC Try.prog c60_3.eq_1) (uC Try.prog c60.eq_1)))))
def v60 : List RV := [.t 2]
theorem s60 : slimF Try.prog Try.f60 = some (c60.bare, v60) := by kernel_rfl
/-! 59 math.Signbit: parameters 1, live [0], slots [0:x, 1:x] -/
def c59_0 : List SOper := [⟨some 2, .q (.mv (.c (.bool false))), none⟩]
def c59_1 : List SOper := [⟨some 3, .q (.mv (.t 0)), none⟩, ⟨some 4, .e (.xt 70 [(.t 3)]), none⟩, ⟨some 5, .q (.cvi .i64 (.t 4)), none⟩, ⟨some 6, .q (.bin .lss (.t 5) (.c (.int .i64 0))), none⟩, ⟨some 2, .q (.mv (.t 6)), none⟩]
def c59_2 : SCode := .seq (.region c59_1 [2]) .ret
def c59_3 : SCode := .seq (.region c59_0 [0]) c59_2
def c59 : SCode := c59_3
theorem w59 : type_of% (And.intro (uR Try.prog c59_0.eq_1) (And.intro (uR Try.prog c59_1.eq_1) (And.intro (uC Try.prog c59_2.eq_1) (And.intro (uC Try.prog c59_3.eq_1) (uC Try.prog c59.eq_1))))) := (And.intro (uR Try.prog c59_0.eq_1) (And.intro (uR Try.prog c59_1.eq_1) (And.intro (uC Try.prog c59_2.eq_1) (And.intro (uC Try.prog c59_3.eq_1) (uC Try.prog c59.eq_1)))))
def v59 : List RV := [.t 2]
theorem s59 : slimF Try.prog Try.f59 = some (c59.bare, v59) := by kernel_rfl
/-! 69 loop.example/g00066/impl.plainNought: parameters 1, live [0], slots [0:x, 1:x] -/
def c69_0 : List SOper := [⟨some 2, .q (.mv (.c (.bool false))), none⟩]
def c69_1 : List SOper := [⟨some 3, .q (.mv (.t 0)), none⟩, ⟨some 4, .q (.bin .eql (.t 3) (.c (.float .f64 0))), none⟩, ⟨some 5, .q (.mv (.t 4)), none⟩, ⟨some 6, .q (.mv (.t 0)), some (5, true)⟩, ⟨some 7, .e (.call 59 [(.t 6)]), some (5, true)⟩, ⟨some 8, .q (.not (.t 7)), some (5, true)⟩, ⟨some 9, .q (.pick (.t 5) (.t 8) (.c (.bool false))), none⟩, ⟨some 2, .q (.mv (.t 9)), none⟩]
def c69_2 : SCode := .seq (.region c69_1 [2]) .ret
def c69_3 : SCode := .seq (.region c69_0 [0]) c69_2
def c69 : SCode := c69_3
theorem w69 : type_of% (And.intro (uR Try.prog c69_0.eq_1) (And.intro (uR Try.prog c69_1.eq_1) (And.intro (uC Try.prog c69_2.eq_1) (And.intro (uC Try.prog c69_3.eq_1) (uC Try.prog c69.eq_1))))) := (And.intro (uR Try.prog c69_0.eq_1) (And.intro (uR Try.prog c69_1.eq_1) (And.intro (uC Try.prog c69_2.eq_1) (And.intro (uC Try.prog c69_3.eq_1) (uC Try.prog c69.eq_1)))))
def v69 : List RV := [.t 2]
theorem s69 : slimF Try.prog Try.f69 = some (c69.bare, v69) := by kernel_rfl
/-! 45 loop.example/g00066/impl.alikeFloats: parameters 2, live [0, 1], slots [0:x, 1:y, 2:x, 3:y] -/
def c45_0 : List SOper := [⟨some 4, .q (.mv (.c (.bool false))), none⟩]
def c45_1 : List SOper := [⟨some 5, .q (.mv (.t 0)), none⟩, ⟨some 6, .q (.mv (.t 1)), none⟩, ⟨some 7, .q (.bin .eql (.t 5) (.t 6)), none⟩, ⟨some 8, .q (.mv (.t 7)), none⟩, ⟨some 9, .q (.mv (.t 0)), some (8, true)⟩, ⟨some 10, .e (.call 59 [(.t 9)]), some (8, true)⟩, ⟨some 11, .q (.mv (.t 1)), some (8, true)⟩, ⟨some 12, .e (.call 59 [(.t 11)]), some (8, true)⟩, ⟨some 13, .q (.eqb false (.t 10) (.t 12)), some (8, true)⟩, ⟨some 14, .q (.pick (.t 8) (.t 13) (.c (.bool false))), none⟩, ⟨some 15, .q (.mv (.t 14)), none⟩, ⟨some 16, .q (.mv (.t 0)), some (15, false)⟩, ⟨some 17, .e (.call 60 [(.t 16)]), some (15, false)⟩, ⟨some 18, .q (.mv (.t 17)), some (15, false)⟩, ⟨some 19, .q (.mv (.t 1)), some (18, true)⟩, ⟨some 20, .e (.call 60 [(.t 19)]), some (18, true)⟩, ⟨some 21, .q (.pick (.t 18) (.t 20) (.c (.bool false))), some (15, false)⟩, ⟨some 22, .q (.pick (.t 15) (.c (.bool true)) (.t 21)), none⟩, ⟨some 4, .q (.mv (.t 22)), none⟩]
def c45_2 : SCode := .seq (.region c45_1 [4]) .ret
def c45_3 : SCode := .seq (.region c45_0 [0, 1]) c45_2
def c45 : SCode := c45_3
theorem w45 : type_of% (And.intro (uR Try.prog c45_0.eq_1) (And.intro (uR Try.prog c45_1.eq_1) (And.intro (uC Try.prog c45_2.eq_1) (And.intro (uC Try.prog c45_3.eq_1) (uC Try.prog c45.eq_1))))) := (And.intro (uR Try.prog c45_0.eq_1) (And.intro (uR Try.prog c45_1.eq_1) (And.intro (uC Try.prog c45_2.eq_1) (And.intro (uC Try.prog c45_3.eq_1) (uC Try.prog c45.eq_1)))))
def v45 : List RV := [.t 4]
theorem s45 : slimF Try.prog Try.f45 = some (c45.bare, v45) := by kernel_rfl
/-! 56 loop.example/g00066/impl.in: parameters 3, live [0, 1, 2], slots [0:x, 1:least, 2:most, 3:x, 4:least, 5:most] -/
def c56_0 : List SOper := [⟨some 6, .q (.mv (.c (.bool false))), none⟩]
def c56_1 : List SOper := [⟨some 7, .q (.mv (.t 1)), none⟩, ⟨some 8, .q (.mv (.t 0)), none⟩, ⟨some 9, .q (.bin .leq (.t 7) (.t 8)), none⟩, ⟨some 10, .q (.mv (.t 9)), none⟩, ⟨some 11, .q (.mv (.t 0)), some (10, true)⟩, ⟨some 12, .q (.mv (.t 2)), some (10, true)⟩, ⟨some 13, .q (.bin .leq (.t 11) (.t 12)), some (10, true)⟩, ⟨some 14, .q (.pick (.t 10) (.t 13) (.c (.bool false))), none⟩, ⟨some 6, .q (.mv (.t 14)), none⟩]
def c56_2 : SCode := .seq (.region c56_1 [6]) .ret
def c56_3 : SCode := .seq (.region c56_0 [0, 1, 2]) c56_2
def c56 : SCode := c56_3
theorem w56 : type_of% (And.intro (uR Try.prog c56_0.eq_1) (And.intro (uR Try.prog c56_1.eq_1) (And.intro (uC Try.prog c56_2.eq_1) (And.intro (uC Try.prog c56_3.eq_1) (uC Try.prog c56.eq_1))))) := (And.intro (uR Try.prog c56_0.eq_1) (And.intro (uR Try.prog c56_1.eq_1) (And.intro (uC Try.prog c56_2.eq_1) (And.intro (uC Try.prog c56_3.eq_1) (uC Try.prog c56.eq_1)))))
def v56 : List RV := [.t 6]
theorem s56 : slimF Try.prog Try.f56 = some (c56.bare, v56) := by kernel_rfl
/-! 40 (loop.example/g00066/impl.Node).takes: parameters 1, live [0], slots [0:n, 1:n] -/
def c40_0 : List SOper := [⟨some 1, .a (.box (.t 0)), none⟩, ⟨some 2, .q (.mv (.c (.bool false))), none⟩, ⟨some 3, .q (.mv (.c (.bool false))), none⟩, ⟨some 4, .q (.mv (.c (.bool false))), none⟩]
def c40_1 : List SOper := [⟨some 5, .q (.fa 0 (.t 1)), none⟩, ⟨some 6, .q (.ld (.t 5)), none⟩]
def c40_2 : List SOper := [⟨some 8, .q (.bin .eql (.t 6) (.c (.int .i64 1))), none⟩, ⟨some 7, .q (.mv (.t 8)), none⟩]
def c40_3 : List SOper := [⟨some 2, .q (.mv (.c (.bool false))), none⟩, ⟨some 3, .q (.mv (.c (.bool false))), none⟩, ⟨some 4, .q (.mv (.c (.bool false))), none⟩]
def c40_4 : SCode := .seq (.region c40_3 [2, 3, 4]) .ret
def c40_5 : List SOper := [⟨some 10, .q (.bin .eql (.t 6) (.c (.int .i64 4))), none⟩, ⟨some 9, .q (.mv (.t 10)), none⟩]
def c40_6 : List SOper := [⟨some 2, .q (.mv (.c (.bool true))), none⟩, ⟨some 3, .q (.mv (.c (.bool true))), none⟩, ⟨some 4, .q (.mv (.c (.bool true))), none⟩]
def c40_7 : SCode := .seq (.region c40_6 [2, 3, 4]) .ret
def c40_8 : List SOper := [⟨some 12, .q (.bin .eql (.t 6) (.c (.int .i64 6))), none⟩, ⟨some 11, .q (.mv (.t 12)), none⟩]
def c40_9 : List SOper := [⟨some 13, .q (.bin .eql (.t 6) (.c (.int .i64 7))), none⟩, ⟨some 11, .q (.mv (.t 13)), none⟩]
def c40_10 : SCode := .cond (.t 11) .skip (.region c40_9 [11])
def c40_11 : SCode := .seq (.region c40_8 [6, 11]) c40_10
def c40_12 : List SOper := [⟨some 2, .q (.mv (.c (.bool true))), none⟩, ⟨some 3, .q (.mv (.c (.bool false))), none⟩, ⟨some 4, .q (.mv (.c (.bool false))), none⟩]
def c40_13 : SCode := .seq (.region c40_12 [2, 3, 4]) .ret
def c40_14 : SCode := .cond (.t 11) c40_13 .skip
def c40_15 : SCode := .seq c40_11 c40_14
def c40_16 : SCode := .cond (.t 9) c40_7 c40_15
def c40_17 : SCode := .seq (.region c40_5 [6, 9]) c40_16
def c40_18 : SCode := .cond (.t 7) c40_4 c40_17
def c40_19 : SCode := .seq (.region c40_2 [6, 7]) c40_18
def c40_20 : SCode := .block 0 c40_19
def c40_21 : SCode := .seq (.region c40_1 [6]) c40_20
def c40_22 : List SOper := [⟨some 2, .q (.mv (.c (.bool true))), none⟩, ⟨some 3, .q (.mv (.c (.bool false))), none⟩, ⟨some 4, .q (.mv (.c (.bool true))), none⟩]
def c40_23 : SCode := .seq (.region c40_22 [2, 3, 4]) .ret
def c40_24 : SCode := .seq c40_21 c40_23
def c40_25 : SCode := .seq (.region c40_0 [1]) c40_24
def c40 : SCode := c40_25
theorem w40 : type_of% (And.intro (uR Try.prog c40_0.eq_1) (And.intro (uR Try.prog c40_1.eq_1) (And.intro (uR Try.prog c40_2.eq_1) (And.intro (uR Try.prog c40_3.eq_1) (And.intro (uC Try.prog c40_4.eq_1) (And.intro (uR Try.prog c40_5.eq_1) (And.intro (uR Try.prog c40_6.eq_1) (And.intro (uC Try.prog c40_7.eq_1) (And.intro (uR Try.prog c40_8.eq_1) (And.intro (uR Try.prog c40_9.eq_1) (And.intro (uC Try.prog c40_10.eq_1) (And.intro (uC Try.prog c40_11.eq_1) (And.intro (uR Try.prog c40_12.eq_1) (And.intro (uC Try.prog c40_13.eq_1) (And.intro (uC Try.prog c40_14.eq_1) (And.intro (uC Try.prog c40_15.eq_1) (And.intro (uC Try.prog c40_16.eq_1) (And.intro (uC Try.prog c40_17.eq_1) (And.intro (uC Try.prog c40_18.eq_1) (And.intro (uC Try.prog c40_19.eq_1) (And.intro (uC Try.prog c40_20.eq_1) (And.intro (uC Try.prog c40_21.eq_1) (And.intro (uR Try.prog c40_22.eq_1) (And.intro (uC Try.prog c40_23.eq_1) (And.intro (uC Try.prog c40_24.eq_1) (And.intro (uC Try.prog c40_25.eq_1) (uC Try.prog c40.eq_1))))))))))))))))))))))))))) := (And.intro (uR Try.prog c40_0.eq_1) (And.intro (uR Try.prog c40_1.eq_1) (And.intro (uR Try.prog c40_2.eq_1) (And.intro (uR Try.prog c40_3.eq_1) (And.intro (uC Try.prog c40_4.eq_1) (And.intro (uR Try.prog c40_5.eq_1) (And.intro (uR Try.prog c40_6.eq_1) (And.intro (uC Try.prog c40_7.eq_1) (And.intro (uR Try.prog c40_8.eq_1) (And.intro (uR Try.prog c40_9.eq_1) (And.intro (uC Try.prog c40_10.eq_1) (And.intro (uC Try.prog c40_11.eq_1) (And.intro (uR Try.prog c40_12.eq_1) (And.intro (uC Try.prog c40_13.eq_1) (And.intro (uC Try.prog c40_14.eq_1) (And.intro (uC Try.prog c40_15.eq_1) (And.intro (uC Try.prog c40_16.eq_1) (And.intro (uC Try.prog c40_17.eq_1) (And.intro (uC Try.prog c40_18.eq_1) (And.intro (uC Try.prog c40_19.eq_1) (And.intro (uC Try.prog c40_20.eq_1) (And.intro (uC Try.prog c40_21.eq_1) (And.intro (uR Try.prog c40_22.eq_1) (And.intro (uC Try.prog c40_23.eq_1) (And.intro (uC Try.prog c40_24.eq_1) (And.intro (uC Try.prog c40_25.eq_1) (uC Try.prog c40.eq_1)))))))))))))))))))))))))))
def v40 : List RV := [.t 2, .t 3, .t 4]
theorem s40 : slimF Try.prog Try.f40 = some (c40.bare, v40) := by kernel_rfl

/-! ### The sign of a float -/
theorem bits_ok (h : Heap) {x : Nat} (n : ¬ nanF x) : AExt Try.prog 70 [.float .f64 x] h fun v _ => v = .int .u64 x := by
  intro W0 m w args' r va
  obtain ⟨v', rfl, hv⟩ : ∃ v', args' = [v'] ∧ VR m (.float .f64 x) v' := by
    match args', va with
    | [], va => exact absurd va.1 (by simp)
    | [u], va => obtain ⟨u', e1, e2⟩ := va.2 0 _ rfl; simp at e1; subst e1; exact ⟨_, rfl, e2⟩
    | _ :: _ :: _, va => exact absurd va.1 (by simp)
  cases hv with
  | float _ _ b' e =>
    have : x = b' := by
      rcases e with e | e
      · exact e
      · have := ordF_self n; unfold ordF at this; have e1 : dbl.order x x = none := e.1; rw [e1] at this; cases this
    subst this
    refine ⟨.int .u64 x, .int .u64 x, ?_, .int _ _, rfl⟩
    rw [run_callFunc_extern Try.func70 (by rfl) (by rfl) (by rfl) (e := Extern.MathFloatBits.float64bits) (by rfl)]; rfl
theorem sign_wrap (x : Nat) : decide (IntKind.i64.wrap (x : Int) < 0) = signF x := by
  unfold signF
  have : IntKind.i64.wrap (x : Int) = ((x : Int) + 9223372036854775808) % 18446744073709551616 - 9223372036854775808 := by
    simp [IntKind.wrap, IntKind.signed, IntKind.bits, IntKind.min, IntKind.max]
    split <;> omega
  rw [this, Bool.eq_iff_iff, decide_eq_true_eq, beq_iff_eq]
  omega
theorem stepXt.of {P : Program} {K : Env → Heap → Prop} {E : Env} {h : Heap} {f : FuncId} {vs : List Value} {d : Option Nat} {R : Value → Heap → Prop} (H : AExt P f vs h R) (k : ∀ v, R v h → K (putD d v E) h) : stepXt P f (some vs) d K E h := by
  intro W0 m w args' r va
  obtain ⟨v', v, h1, h2, h3⟩ := H W0 m w args' r va
  exact ⟨v', v, h1, h2, k v h3⟩
theorem signbit_ok (h : Heap) {x : Nat} (n : ¬ nanF x) : ACall Try.prog 59 [.float .f64 x] h fun r h' => h' = h ∧ r = .bool (signF x) := by
  refine ACall.of Try.func59 s59 (of_decide_eq_true rfl) ?_
  simp (maxSteps := 4000000) (disch := omega) only [ah, am, Nat.reduceEqDiff, reduceCtorEq, Nat.reduceAdd, Nat.reduceLeDiff, Nat.reduceMul, Nat.reduceLT, if_true, if_false, true_and, and_true, and_self, Nat.reduceBEq, QOp.loads, boxO, bslO, buildO, cutL, fillV, putL, w59, v59, AOne_xt]
  refine stepXt.of (bits_ok h n) ?_
  rintro _ rfl
  simp (maxSteps := 4000000) (disch := omega) only [ah, am, Nat.reduceEqDiff, reduceCtorEq, Nat.reduceAdd, Nat.reduceLeDiff, Nat.reduceMul, Nat.reduceLT, if_true, if_false, true_and, and_true, and_self, Nat.reduceBEq, QOp.loads, boxO, bslO, buildO, cutL, fillV, putL, w59, v59, sign_wrap]
theorem isnan_ok (h : Heap) (x : Nat) : ACall Try.prog 60 [.float .f64 x] h fun r h' => h' = h ∧ r = .bool (decide (nanF x)) := by
  refine ACall.of Try.func60 s60 (of_decide_eq_true rfl) ?_
  by_cases n : nanF x
  · simp (maxSteps := 4000000) (disch := omega) only [ah, am, Nat.reduceEqDiff, reduceCtorEq, Nat.reduceAdd, Nat.reduceLeDiff, Nat.reduceMul, Nat.reduceLT, if_true, if_false, true_and, and_true, and_self, Nat.reduceBEq, QOp.loads, boxO, bslO, buildO, cutL, fillV, putL, w60, v60, flt_neq, (ordF_nan n x).1, decide_false, Bool.not_false, decide_eq_true n]
  · simp (maxSteps := 4000000) (disch := omega) only [ah, am, Nat.reduceEqDiff, reduceCtorEq, Nat.reduceAdd, Nat.reduceLeDiff, Nat.reduceMul, Nat.reduceLT, if_true, if_false, true_and, and_true, and_self, Nat.reduceBEq, QOp.loads, boxO, bslO, buildO, cutL, fillV, putL, w60, v60, flt_neq, ordF_self n, decide_true, Bool.not_true, decide_eq_false n]
theorem plainNought_ok (h : Heap) (x : Nat) : ACall Try.prog 69 [.float .f64 x] h fun r h' => h' = h ∧ r = .bool (decide (plainF x)) := by
  refine ACall.of Try.func69 s69 (of_decide_eq_true rfl) ?_
  by_cases z : zeroF x
  · simp (maxSteps := 4000000) (disch := omega) only [ah, am, Nat.reduceEqDiff, reduceCtorEq, Nat.reduceAdd, Nat.reduceLeDiff, Nat.reduceMul, Nat.reduceLT, if_true, if_false, true_and, and_true, and_self, Nat.reduceBEq, QOp.loads, boxO, bslO, buildO, cutL, fillV, putL, w69, v69, flt_eql, decide_eq_true (ordF_zero.mpr z)]
    refine stepC.of (signbit_ok h (zero_nan z)) ?_
    rintro _ Hx ⟨hx, rfl⟩; rw [hx]; clear hx Hx
    simp (maxSteps := 4000000) (disch := omega) only [ah, am, Nat.reduceEqDiff, reduceCtorEq, Nat.reduceAdd, Nat.reduceLeDiff, Nat.reduceMul, Nat.reduceLT, if_true, if_false, true_and, and_true, and_self, Nat.reduceBEq, QOp.loads, boxO, bslO, buildO, cutL, fillV, putL, w69, v69]
    unfold plainF; simp [z]
  · simp (maxSteps := 4000000) (disch := omega) only [ah, am, Nat.reduceEqDiff, reduceCtorEq, Nat.reduceAdd, Nat.reduceLeDiff, Nat.reduceMul, Nat.reduceLT, if_true, if_false, true_and, and_true, and_self, Nat.reduceBEq, QOp.loads, boxO, bslO, buildO, cutL, fillV, putL, w69, v69, flt_eql, decide_eq_false (fun q => z (ordF_zero.mp q))]
    unfold plainF; simp [z]
def sameF (a b : Nat) : Prop := (nanF a ∧ nanF b) ∨ (ordF a b = some .eq ∧ signF a = signF b)
instance (a b : Nat) : Decidable (sameF a b) := by unfold sameF; infer_instance
theorem alike_ok (h : Heap) (x y : Nat) : ACall Try.prog 45 [.float .f64 x, .float .f64 y] h fun r h' => h' = h ∧ r = .bool (decide (sameF x y)) := by
  refine ACall.of Try.func45 s45 (of_decide_eq_true rfl) ?_
  by_cases o : ordF x y = some .eq
  · have nx : ¬ nanF x := fun q => by rw [(ordF_nan q y).1] at o; cases o
    have ny : ¬ nanF y := fun q => by rw [(ordF_nan q x).2] at o; cases o
    simp (maxSteps := 4000000) (disch := omega) only [ah, am, Nat.reduceEqDiff, reduceCtorEq, Nat.reduceAdd, Nat.reduceLeDiff, Nat.reduceMul, Nat.reduceLT, if_true, if_false, true_and, and_true, and_self, Nat.reduceBEq, QOp.loads, boxO, bslO, buildO, cutL, fillV, putL, w45, v45, flt_eql, decide_eq_true o]
    refine stepC.of (signbit_ok h nx) ?_
    rintro _ Hx ⟨hx, rfl⟩; rw [hx]; clear hx Hx
    simp (maxSteps := 4000000) (disch := omega) only [ah, am, Nat.reduceEqDiff, reduceCtorEq, Nat.reduceAdd, Nat.reduceLeDiff, Nat.reduceMul, Nat.reduceLT, if_true, if_false, true_and, and_true, and_self, Nat.reduceBEq, QOp.loads, boxO, bslO, buildO, cutL, fillV, putL, w45, v45]
    refine stepC.of (signbit_ok h ny) ?_
    rintro _ Hx ⟨hx, rfl⟩; rw [hx]; clear hx Hx
    by_cases s : signF x = signF y
    · simp (maxSteps := 4000000) (disch := omega) only [ah, am, Nat.reduceEqDiff, reduceCtorEq, Nat.reduceAdd, Nat.reduceLeDiff, Nat.reduceMul, Nat.reduceLT, if_true, if_false, true_and, and_true, and_self, Nat.reduceBEq, QOp.loads, boxO, bslO, buildO, cutL, fillV, putL, w45, v45, eqbV_bool', s, beq_self_eq_true]
      unfold sameF; simp [o, s]
    · simp (maxSteps := 4000000) (disch := omega) only [ah, am, Nat.reduceEqDiff, reduceCtorEq, Nat.reduceAdd, Nat.reduceLeDiff, Nat.reduceMul, Nat.reduceLT, if_true, if_false, true_and, and_true, and_self, Nat.reduceBEq, QOp.loads, boxO, bslO, buildO, cutL, fillV, putL, w45, v45, eqbV_bool', beq_eq_false_iff_ne.mpr s]
      refine stepC.of (isnan_ok h x) ?_
      rintro _ Hx ⟨hx, rfl⟩; rw [hx]; clear hx Hx
      simp (maxSteps := 4000000) (disch := omega) only [ah, am, Nat.reduceEqDiff, reduceCtorEq, Nat.reduceAdd, Nat.reduceLeDiff, Nat.reduceMul, Nat.reduceLT, if_true, if_false, true_and, and_true, and_self, Nat.reduceBEq, QOp.loads, boxO, bslO, buildO, cutL, fillV, putL, w45, v45, decide_eq_false nx]
      unfold sameF; simp [s, nx]
  · simp (maxSteps := 4000000) (disch := omega) only [ah, am, Nat.reduceEqDiff, reduceCtorEq, Nat.reduceAdd, Nat.reduceLeDiff, Nat.reduceMul, Nat.reduceLT, if_true, if_false, true_and, and_true, and_self, Nat.reduceBEq, QOp.loads, boxO, bslO, buildO, cutL, fillV, putL, w45, v45, flt_eql, decide_eq_false o]
    refine stepC.of (isnan_ok h x) ?_
    rintro _ Hx ⟨hx, rfl⟩; rw [hx]; clear hx Hx
    by_cases nx : nanF x
    · simp (maxSteps := 4000000) (disch := omega) only [ah, am, Nat.reduceEqDiff, reduceCtorEq, Nat.reduceAdd, Nat.reduceLeDiff, Nat.reduceMul, Nat.reduceLT, if_true, if_false, true_and, and_true, and_self, Nat.reduceBEq, QOp.loads, boxO, bslO, buildO, cutL, fillV, putL, w45, v45, decide_eq_true nx]
      refine stepC.of (isnan_ok h y) ?_
      rintro _ Hx ⟨hx, rfl⟩; rw [hx]; clear hx Hx
      simp (maxSteps := 4000000) (disch := omega) only [ah, am, Nat.reduceEqDiff, reduceCtorEq, Nat.reduceAdd, Nat.reduceLeDiff, Nat.reduceMul, Nat.reduceLT, if_true, if_false, true_and, and_true, and_self, Nat.reduceBEq, QOp.loads, boxO, bslO, buildO, cutL, fillV, putL, w45, v45]
      unfold sameF; simp [o, nx]
    · simp (maxSteps := 4000000) (disch := omega) only [ah, am, Nat.reduceEqDiff, reduceCtorEq, Nat.reduceAdd, Nat.reduceLeDiff, Nat.reduceMul, Nat.reduceLT, if_true, if_false, true_and, and_true, and_self, Nat.reduceBEq, QOp.loads, boxO, bslO, buildO, cutL, fillV, putL, w45, v45, decide_eq_false nx]
      unfold sameF; simp [o, nx]
theorem l10Same_ok (h : Heap) (a b : Nat) : ACall Try.prog 42 [.float .f64 a, .float .f64 b] h fun r h' => h' = h ∧ r = .bool (decide (sameF a b)) := by
  refine ACall.of Try.func42 s42 (of_decide_eq_true rfl) ?_
  by_cases na : nanF a
  · by_cases nb : nanF b
    · simp (maxSteps := 4000000) (disch := omega) only [ah, am, Nat.reduceEqDiff, reduceCtorEq, Nat.reduceAdd, Nat.reduceLeDiff, Nat.reduceMul, Nat.reduceLT, if_true, if_false, true_and, and_true, and_self, Nat.reduceBEq, QOp.loads, boxO, bslO, buildO, cutL, fillV, putL, w42, v42, flt_neq, (ordF_nan na a).1, (ordF_nan nb b).1, decide_false, Bool.not_false, reduceCtorEq]
      unfold sameF; simp [na, nb]
    · simp (maxSteps := 4000000) (disch := omega) only [ah, am, Nat.reduceEqDiff, reduceCtorEq, Nat.reduceAdd, Nat.reduceLeDiff, Nat.reduceMul, Nat.reduceLT, if_true, if_false, true_and, and_true, and_self, Nat.reduceBEq, QOp.loads, boxO, bslO, buildO, cutL, fillV, putL, w42, v42, flt_neq, (ordF_nan na a).1, ordF_self nb, decide_false, decide_true, Bool.not_false, Bool.not_true, reduceCtorEq]
      have o := (ordF_nan na b).1
      unfold sameF; simp [na, nb, o]
  · by_cases nb : nanF b
    · simp (maxSteps := 4000000) (disch := omega) only [ah, am, Nat.reduceEqDiff, reduceCtorEq, Nat.reduceAdd, Nat.reduceLeDiff, Nat.reduceMul, Nat.reduceLT, if_true, if_false, true_and, and_true, and_self, Nat.reduceBEq, QOp.loads, boxO, bslO, buildO, cutL, fillV, putL, w42, v42, flt_neq, ordF_self na, (ordF_nan nb b).1, decide_false, decide_true, Bool.not_false, Bool.not_true, reduceCtorEq]
      have o := (ordF_nan nb a).2
      unfold sameF; simp [na, nb, o]
    · by_cases o : ordF a b = some .eq
      · simp (maxSteps := 4000000) (disch := omega) only [ah, am, Nat.reduceEqDiff, reduceCtorEq, Nat.reduceAdd, Nat.reduceLeDiff, Nat.reduceMul, Nat.reduceLT, if_true, if_false, true_and, and_true, and_self, Nat.reduceBEq, QOp.loads, boxO, bslO, buildO, cutL, fillV, putL, w42, v42, flt_neq, flt_eql, flt_inv na, flt_inv nb, ordF_self na, ordF_self nb, decide_true, Bool.not_true, decide_eq_true o, o]
        unfold sameF; simp [na, nb, o, inv_sign o]
      · simp (maxSteps := 4000000) (disch := omega) only [ah, am, Nat.reduceEqDiff, reduceCtorEq, Nat.reduceAdd, Nat.reduceLeDiff, Nat.reduceMul, Nat.reduceLT, if_true, if_false, true_and, and_true, and_self, Nat.reduceBEq, QOp.loads, boxO, bslO, buildO, cutL, fillV, putL, w42, v42, flt_neq, flt_eql, ordF_self na, ordF_self nb, decide_true, Bool.not_true, decide_eq_false o]
        unfold sameF; simp [na, nb, o]
theorem in_ok (h : Heap) (x a b : Int) : ACall Try.prog 56 [.int .i64 x, .int .i64 a, .int .i64 b] h fun r h' => h' = h ∧ r = .bool (decide (a ≤ x ∧ x ≤ b)) := by
  refine ACall.of Try.func56 s56 (of_decide_eq_true rfl) ?_
  simp (maxSteps := 4000000) (disch := omega) only [ah, am, Nat.reduceEqDiff, reduceCtorEq, Nat.reduceAdd, Nat.reduceLeDiff, Nat.reduceMul, Nat.reduceLT, if_true, if_false, true_and, and_true, and_self, Nat.reduceBEq, QOp.loads, boxO, bslO, buildO, cutL, fillV, putL, w56, v56]
  (repeat' first
    | (refine stepG.cases (fun _ hp => ?_) (fun _ hp => ?_) <;> simp (maxSteps := 4000000) (disch := omega) only [hp, ah, am, Nat.reduceEqDiff, reduceCtorEq, Nat.reduceAdd, Nat.reduceLeDiff, Nat.reduceMul, Nat.reduceLT, if_true, if_false, true_and, and_true, and_self, Nat.reduceBEq, QOp.loads, boxO, bslO, buildO, cutL, fillV, putL, i64w, w56, v56])
    | (refine stepI.cases (fun _ hp => ?_) (fun _ hp => ?_) <;> simp (maxSteps := 4000000) (disch := omega) only [hp, ah, am, Nat.reduceEqDiff, reduceCtorEq, Nat.reduceAdd, Nat.reduceLeDiff, Nat.reduceMul, Nat.reduceLT, if_true, if_false, true_and, and_true, and_self, Nat.reduceBEq, QOp.loads, boxO, bslO, buildO, cutL, fillV, putL, i64w, w56, v56]))
  all_goals refine bool_dec ?_; try simp only [decide_eq_true_eq, Bool.false_eq_true, false_and, and_false, true_and, and_true, false_iff, iff_false, true_iff, iff_true, not_false_eq_true, false_or, or_false, true_or, or_true]; first | done | omega | (refine Iff.intro (fun hq => ?_) (fun hq => ?_) <;> omega)
def has1 (k : Int) : Bool := decide (k ≠ 1)
def has2 (k : Int) : Bool := decide (k = 4)
def hasV (k : Int) : Bool := decide (k ≠ 1 ∧ k ≠ 6 ∧ k ≠ 7)
theorem takes_ok (h : Heap) (x : Node) : ACall Try.prog 40 [.agg (encNode x).toArray] h fun r h' => Ext h h' ∧ r = .tuple #[.bool (has1 x.kind), .bool (has2 x.kind), .bool (hasV x.kind)] := by
  obtain ⟨k, a, b, v⟩ := x
  refine ACall.of Try.func40 s40 (of_decide_eq_true rfl) ?_
  simp (maxSteps := 4000000) (disch := omega) only [ah, am, Nat.reduceEqDiff, reduceCtorEq, Nat.reduceAdd, Nat.reduceLeDiff, Nat.reduceMul, Nat.reduceLT, if_true, if_false, true_and, and_true, and_self, Nat.reduceBEq, QOp.loads, boxO, bslO, buildO, cutL, fillV, putL, w40, v40, encNode, fl]
  (repeat' first
    | (refine stepG.cases (fun _ hp => ?_) (fun _ hp => ?_) <;> simp (maxSteps := 4000000) (disch := omega) only [hp, ah, am, Nat.reduceEqDiff, reduceCtorEq, Nat.reduceAdd, Nat.reduceLeDiff, Nat.reduceMul, Nat.reduceLT, if_true, if_false, true_and, and_true, and_self, Nat.reduceBEq, QOp.loads, boxO, bslO, buildO, cutL, fillV, putL, i64w, w40, v40, fl])
    | (refine stepI.cases (fun _ hp => ?_) (fun _ hp => ?_) <;> simp (maxSteps := 4000000) (disch := omega) only [hp, ah, am, Nat.reduceEqDiff, reduceCtorEq, Nat.reduceAdd, Nat.reduceLeDiff, Nat.reduceMul, Nat.reduceLT, if_true, if_false, true_and, and_true, and_self, Nat.reduceBEq, QOp.loads, boxO, bslO, buildO, cutL, fillV, putL, i64w, w40, v40, fl]))
  all_goals (refine ⟨Ext.more _ _, ?_⟩; simp_all [has1, has2, hasV])
end Go.Proofs.Ytdagajblnlemaaa
