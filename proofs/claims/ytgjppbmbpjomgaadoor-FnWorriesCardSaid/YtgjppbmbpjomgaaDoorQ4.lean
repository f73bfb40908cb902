import Derived.Test.YtgjppbmbpjomgaaDoorQ3
namespace Go.Proofs.YtgjppbmbpjomgaaDoor
open Go Go.Ah
set_option linter.unusedSimpArgs false
set_option linter.unusedVariables false
set_option maxRecDepth 10000
set_option maxHeartbeats 4000000
/-! 30 (loop.example/g00066/impl.Title).timesOk: parameters 1, live [0], slots [0:t, 1:t] -/
def c30_0 : List SOper := [⟨some 1, .a (.box (.t 0)), none⟩, ⟨some 2, .q (.mv (.c (.bool false))), none⟩]
def c30_1 : List SOper := [⟨some 3, .q (.fa 0 (.t 1)), none⟩, ⟨some 4, .q (.ld (.t 3)), none⟩, ⟨some 5, .q (.bin .leq (.c (.int .i64 0)) (.t 4)), none⟩, ⟨some 6, .q (.mv (.t 5)), none⟩, ⟨some 7, .q (.fa 0 (.t 1)), some (6, true)⟩, ⟨some 8, .q (.ld (.t 7)), some (6, true)⟩, ⟨some 9, .q (.fa 1 (.t 1)), some (6, true)⟩, ⟨some 10, .q (.ld (.t 9)), some (6, true)⟩, ⟨some 11, .q (.bin .lss (.t 8) (.t 10)), some (6, true)⟩, ⟨some 12, .q (.pick (.t 6) (.t 11) (.c (.bool false))), none⟩, ⟨some 13, .q (.mv (.t 12)), none⟩, ⟨some 14, .q (.fa 1 (.t 1)), some (13, true)⟩, ⟨some 15, .q (.ld (.t 14)), some (13, true)⟩, ⟨some 16, .q (.bin .leq (.t 15) (.c (.int .i64 359999999))), some (13, true)⟩, ⟨some 17, .q (.pick (.t 13) (.t 16) (.c (.bool false))), none⟩, ⟨some 2, .q (.mv (.t 17)), none⟩]
def c30_2 : SCode := .seq (.region c30_1 [2]) .ret
def c30_3 : SCode := .seq (.region c30_0 [1]) c30_2
def c30 : SCode := c30_3
theorem w30 : type_of% (And.intro (uR Tryd.prog c30_0.eq_1) (And.intro (uR Tryd.prog c30_1.eq_1) (And.intro (uC Tryd.prog c30_2.eq_1) (And.intro (uC Tryd.prog c30_3.eq_1) (uC Tryd.prog c30.eq_1))))) := (And.intro (uR Tryd.prog c30_0.eq_1) (And.intro (uR Tryd.prog c30_1.eq_1) (And.intro (uC Tryd.prog c30_2.eq_1) (And.intro (uC Tryd.prog c30_3.eq_1) (uC Tryd.prog c30.eq_1)))))
def v30 : List RV := [.t 2]
theorem s30 : slimF Tryd.prog Tryd.f30 = some (c30.bare, v30) := by kernel_rfl
/-! 24 (loop.example/g00066/impl.Style).ok: parameters 1, live [0], slots [0:s, 1:s] -/
def c24_0 : List SOper := [⟨some 1, .a (.box (.t 0)), none⟩, ⟨some 2, .q (.mv (.c (.bool false))), none⟩]
def c24_1 : List SOper := [⟨some 3, .q (.fa 0 (.t 1)), none⟩, ⟨some 4, .q (.ld (.t 3)), none⟩, ⟨some 5, .e (.call 29 [(.t 4), (.c (.int .i64 1)), (.c (.int .i64 359999999))]), none⟩, ⟨some 6, .q (.mv (.t 5)), none⟩, ⟨some 7, .q (.fa 1 (.t 1)), some (6, true)⟩, ⟨some 8, .q (.ld (.t 7)), some (6, true)⟩, ⟨some 9, .e (.call 29 [(.t 8), (.c (.int .i64 0)), (.c (.int .i64 359999999))]), some (6, true)⟩, ⟨some 10, .q (.pick (.t 6) (.t 9) (.c (.bool false))), none⟩, ⟨some 11, .q (.mv (.t 10)), none⟩, ⟨some 12, .q (.fa 2 (.t 1)), some (11, true)⟩, ⟨some 13, .q (.ld (.t 12)), some (11, true)⟩, ⟨some 14, .e (.call 29 [(.t 13), (.c (.int .i64 1)), (.c (.int .i64 359999999))]), some (11, true)⟩, ⟨some 15, .q (.pick (.t 11) (.t 14) (.c (.bool false))), none⟩, ⟨some 16, .q (.mv (.t 15)), none⟩, ⟨some 17, .q (.fa 3 (.t 1)), some (16, true)⟩, ⟨some 18, .q (.ld (.t 17)), some (16, true)⟩, ⟨some 19, .e (.call 29 [(.t 18), (.c (.int .i64 1)), (.c (.int .i64 359999999))]), some (16, true)⟩, ⟨some 20, .q (.pick (.t 16) (.t 19) (.c (.bool false))), none⟩, ⟨some 21, .q (.mv (.t 20)), none⟩, ⟨some 22, .q (.fa 4 (.t 1)), some (21, true)⟩, ⟨some 23, .q (.ld (.t 22)), some (21, true)⟩, ⟨some 24, .e (.call 29 [(.t 23), (.c (.int .i64 1)), (.c (.int .i64 359999999))]), some (21, true)⟩, ⟨some 25, .q (.pick (.t 21) (.t 24) (.c (.bool false))), none⟩, ⟨some 2, .q (.mv (.t 25)), none⟩]
def c24_2 : SCode := .seq (.region c24_1 [2]) .ret
def c24_3 : SCode := .seq (.region c24_0 [1]) c24_2
def c24 : SCode := c24_3
theorem w24 : type_of% (And.intro (uR Tryd.prog c24_0.eq_1) (And.intro (uR Tryd.prog c24_1.eq_1) (And.intro (uC Tryd.prog c24_2.eq_1) (And.intro (uC Tryd.prog c24_3.eq_1) (uC Tryd.prog c24.eq_1))))) := (And.intro (uR Tryd.prog c24_0.eq_1) (And.intro (uR Tryd.prog c24_1.eq_1) (And.intro (uC Tryd.prog c24_2.eq_1) (And.intro (uC Tryd.prog c24_3.eq_1) (uC Tryd.prog c24.eq_1)))))
def v24 : List RV := [.t 2]
theorem s24 : slimF Tryd.prog Tryd.f24 = some (c24.bare, v24) := by kernel_rfl
/-! 23 loop.example/g00066/impl.TitlesOk: parameters 1, live [0], slots [0:list, 1:list, 3:i, 4:t] -/
def c23_0 : List SOper := [⟨some 2, .q (.mv (.c (.bool false))), none⟩]
def c23_1 : List SOper := [⟨some 5, .q (.mv (.t 0)), none⟩, ⟨some 6, .q (.len (.t 5)), none⟩, ⟨some 7, .q (.mv (.c (.int .i64 0))), none⟩]
def c23_2 : List SOper := [⟨some 8, .q (.bin .lss (.t 7) (.t 6)), none⟩]
def c23_3 : SCode := .cond (.t 8) .skip (.exit 0)
def c23_4 : List SOper := [⟨some 9, .q (.mv (.t 7)), none⟩, ⟨some 10, .q (.ia 3 (.t 5) (.t 7)), none⟩, ⟨some 11, .q (.ldn 3 (.t 10)), none⟩, ⟨some 4, .a (.new [(.int .i64 0), (.int .i64 0), (.string ⟨#[]⟩)]), none⟩, ⟨some 3, .q (.mv (.t 9)), none⟩, ⟨none, .e (.st 3 (.t 4) (.t 11)), none⟩]
def c23_5 : List SOper := [⟨some 12, .q (.ldn 3 (.t 4)), none⟩, ⟨some 13, .e (.call 30 [(.t 12)]), none⟩, ⟨some 14, .q (.not (.t 13)), none⟩, ⟨some 15, .q (.mv (.t 14)), none⟩, ⟨some 16, .q (.fa 2 (.t 4)), some (15, false)⟩, ⟨some 17, .q (.ld (.t 16)), some (15, false)⟩, ⟨some 18, .e (.call 38 [(.t 17)]), some (15, false)⟩, ⟨some 19, .q (.not (.t 18)), some (15, false)⟩, ⟨some 20, .q (.pick (.t 15) (.c (.bool true)) (.t 19)), none⟩, ⟨some 21, .q (.mv (.t 20)), none⟩, ⟨some 22, .q (.mv (.t 3)), some (21, false)⟩, ⟨some 23, .q (.bin .gtr (.t 22) (.c (.int .i64 0))), some (21, false)⟩, ⟨some 24, .q (.mv (.t 23)), some (21, false)⟩, ⟨some 25, .q (.fa 0 (.t 4)), some (24, true)⟩, ⟨some 26, .q (.ld (.t 25)), some (24, true)⟩, ⟨some 27, .q (.mv (.t 0)), some (24, true)⟩, ⟨some 28, .q (.mv (.t 3)), some (24, true)⟩, ⟨some 29, .q (.bin .sub (.t 28) (.c (.int .i64 1))), some (24, true)⟩, ⟨some 30, .q (.ia 3 (.t 27) (.t 29)), some (24, true)⟩, ⟨some 31, .q (.fa 1 (.t 30)), some (24, true)⟩, ⟨some 32, .q (.ld (.t 31)), some (24, true)⟩, ⟨some 33, .q (.bin .lss (.t 26) (.t 32)), some (24, true)⟩, ⟨some 34, .q (.pick (.t 24) (.t 33) (.c (.bool false))), some (21, false)⟩, ⟨some 35, .q (.pick (.t 21) (.c (.bool true)) (.t 34)), none⟩]
def c23_6 : List SOper := [⟨some 2, .q (.mv (.c (.bool false))), none⟩]
def c23_7 : SCode := .seq (.region c23_6 [2]) .ret
def c23_8 : SCode := .cond (.t 35) c23_7 .skip
def c23_9 : SCode := .seq (.region c23_5 [0, 5, 6, 7, 35]) c23_8
def c23_10 : SCode := .seq (.region c23_4 [0, 3, 4, 5, 6, 7]) c23_9
def c23_11 : SCode := .block 1 c23_10
def c23_12 : List SOper := [⟨some 36, .q (.bin .add (.t 7) (.c (.int .i64 1))), none⟩, ⟨some 7, .q (.mv (.t 36)), none⟩]
def c23_13 : SCode := .seq c23_11 (.region c23_12 [0, 5, 6, 7])
def c23_14 : SCode := .seq c23_3 c23_13
def c23_15 : SCode := .seq (.region c23_2 [0, 5, 6, 7, 8]) c23_14
def c23_16 : SCode := .loop c23_15
def c23_17 : SCode := .block 0 c23_16
def c23_18 : SCode := .seq (.region c23_1 [0, 5, 6, 7]) c23_17
def c23_19 : List SOper := [⟨some 37, .q (.mv (.t 0)), none⟩, ⟨some 38, .q (.len (.t 37)), none⟩, ⟨some 39, .q (.bin .leq (.t 38) (.c (.int .i64 200))), none⟩, ⟨some 2, .q (.mv (.t 39)), none⟩]
def c23_20 : SCode := .seq (.region c23_19 [2]) .ret
def c23_21 : SCode := .seq c23_18 c23_20
def c23_22 : SCode := .seq (.region c23_0 [0]) c23_21
def c23 : SCode := c23_22
theorem w23 : type_of% (And.intro (uR Tryd.prog c23_0.eq_1) (And.intro (uR Tryd.prog c23_1.eq_1) (And.intro (uR Tryd.prog c23_2.eq_1) (And.intro (uC Tryd.prog c23_3.eq_1) (And.intro (uR Tryd.prog c23_4.eq_1) (And.intro (uR Tryd.prog c23_5.eq_1) (And.intro (uR Tryd.prog c23_6.eq_1) (And.intro (uC Tryd.prog c23_7.eq_1) (And.intro (uC Tryd.prog c23_8.eq_1) (And.intro (uC Tryd.prog c23_9.eq_1) (And.intro (uC Tryd.prog c23_10.eq_1) (And.intro (uC Tryd.prog c23_11.eq_1) (And.intro (uR Tryd.prog c23_12.eq_1) (And.intro (uC Tryd.prog c23_13.eq_1) (And.intro (uC Tryd.prog c23_14.eq_1) (And.intro (uC Tryd.prog c23_15.eq_1) (And.intro (uC Tryd.prog c23_16.eq_1) (And.intro (uC Tryd.prog c23_17.eq_1) (And.intro (uC Tryd.prog c23_18.eq_1) (And.intro (uR Tryd.prog c23_19.eq_1) (And.intro (uC Tryd.prog c23_20.eq_1) (And.intro (uC Tryd.prog c23_21.eq_1) (And.intro (uC Tryd.prog c23_22.eq_1) (uC Tryd.prog c23.eq_1)))))))))))))))))))))))) := (And.intro (uR Tryd.prog c23_0.eq_1) (And.intro (uR Tryd.prog c23_1.eq_1) (And.intro (uR Tryd.prog c23_2.eq_1) (And.intro (uC Tryd.prog c23_3.eq_1) (And.intro (uR Tryd.prog c23_4.eq_1) (And.intro (uR Tryd.prog c23_5.eq_1) (And.intro (uR Tryd.prog c23_6.eq_1) (And.intro (uC Tryd.prog c23_7.eq_1) (And.intro (uC Tryd.prog c23_8.eq_1) (And.intro (uC Tryd.prog c23_9.eq_1) (And.intro (uC Tryd.prog c23_10.eq_1) (And.intro (uC Tryd.prog c23_11.eq_1) (And.intro (uR Tryd.prog c23_12.eq_1) (And.intro (uC Tryd.prog c23_13.eq_1) (And.intro (uC Tryd.prog c23_14.eq_1) (And.intro (uC Tryd.prog c23_15.eq_1) (And.intro (uC Tryd.prog c23_16.eq_1) (And.intro (uC Tryd.prog c23_17.eq_1) (And.intro (uC Tryd.prog c23_18.eq_1) (And.intro (uR Tryd.prog c23_19.eq_1) (And.intro (uC Tryd.prog c23_20.eq_1) (And.intro (uC Tryd.prog c23_21.eq_1) (And.intro (uC Tryd.prog c23_22.eq_1) (uC Tryd.prog c23.eq_1))))))))))))))))))))))))
def v23 : List RV := [.t 2]
theorem s23 : slimF Tryd.prog Tryd.f23 = some (c23.bare, v23) := by kernel_rfl
/-! 26 loop.example/g00066/spec.TitlesOk: parameters 1, live [0], slots [0:list, 1:list, 3:i, 4:t] -/
def c26_0 : List SOper := [⟨some 2, .q (.mv (.c (.bool false))), none⟩]
def c26_1 : List SOper := [⟨some 5, .q (.mv (.t 0)), none⟩, ⟨some 6, .q (.len (.t 5)), none⟩, ⟨some 7, .q (.bin .gtr (.t 6) (.c (.int .i64 200))), none⟩]
def c26_2 : List SOper := [⟨some 2, .q (.mv (.c (.bool false))), none⟩]
def c26_3 : SCode := .seq (.region c26_2 [2]) .ret
def c26_4 : SCode := .cond (.t 7) c26_3 .skip
def c26_5 : SCode := .seq (.region c26_1 [0, 7]) c26_4
def c26_6 : List SOper := [⟨some 3, .q (.mv (.c (.int .i64 0))), none⟩]
def c26_7 : List SOper := [⟨some 8, .q (.mv (.t 3)), none⟩, ⟨some 9, .q (.mv (.t 0)), none⟩, ⟨some 10, .q (.len (.t 9)), none⟩, ⟨some 11, .q (.bin .lss (.t 8) (.t 10)), none⟩]
def c26_8 : SCode := .cond (.t 11) .skip (.exit 0)
def c26_9 : SCode := .seq (.region c26_7 [0, 3, 11]) c26_8
def c26_10 : List SOper := [⟨some 14, .q (.mv (.t 0)), none⟩, ⟨some 15, .q (.mv (.t 3)), none⟩, ⟨some 16, .q (.ia 3 (.t 14) (.t 15)), none⟩, ⟨some 17, .q (.ldn 3 (.t 16)), none⟩, ⟨some 4, .a (.new [(.int .i64 0), (.int .i64 0), (.string ⟨#[]⟩)]), none⟩, ⟨none, .e (.st 3 (.t 4) (.t 17)), none⟩]
def c26_11 : List SOper := [⟨some 18, .q (.fa 0 (.t 4)), none⟩, ⟨some 19, .q (.ld (.t 18)), none⟩, ⟨some 20, .q (.bin .lss (.t 19) (.c (.int .i64 0))), none⟩, ⟨some 21, .q (.mv (.t 20)), none⟩, ⟨some 22, .q (.fa 0 (.t 4)), some (21, false)⟩, ⟨some 23, .q (.ld (.t 22)), some (21, false)⟩, ⟨some 24, .q (.fa 1 (.t 4)), some (21, false)⟩, ⟨some 25, .q (.ld (.t 24)), some (21, false)⟩, ⟨some 26, .q (.bin .geq (.t 23) (.t 25)), some (21, false)⟩, ⟨some 27, .q (.pick (.t 21) (.c (.bool true)) (.t 26)), none⟩, ⟨some 28, .q (.mv (.t 27)), none⟩, ⟨some 29, .q (.fa 1 (.t 4)), some (28, false)⟩, ⟨some 30, .q (.ld (.t 29)), some (28, false)⟩, ⟨some 31, .q (.bin .gtr (.t 30) (.c (.int .i64 359999999))), some (28, false)⟩, ⟨some 32, .q (.pick (.t 28) (.c (.bool true)) (.t 31)), none⟩, ⟨some 33, .q (.mv (.t 32)), none⟩, ⟨some 34, .q (.fa 2 (.t 4)), some (33, false)⟩, ⟨some 35, .q (.ld (.t 34)), some (33, false)⟩, ⟨some 36, .e (.call 41 [(.t 35)]), some (33, false)⟩, ⟨some 37, .q (.not (.t 36)), some (33, false)⟩, ⟨some 38, .q (.pick (.t 33) (.c (.bool true)) (.t 37)), none⟩, ⟨some 39, .q (.mv (.t 38)), none⟩, ⟨some 40, .q (.mv (.t 3)), some (39, false)⟩, ⟨some 41, .q (.bin .gtr (.t 40) (.c (.int .i64 0))), some (39, false)⟩, ⟨some 42, .q (.mv (.t 41)), some (39, false)⟩, ⟨some 43, .q (.fa 0 (.t 4)), some (42, true)⟩, ⟨some 44, .q (.ld (.t 43)), some (42, true)⟩, ⟨some 45, .q (.mv (.t 0)), some (42, true)⟩, ⟨some 46, .q (.mv (.t 3)), some (42, true)⟩, ⟨some 47, .q (.bin .sub (.t 46) (.c (.int .i64 1))), some (42, true)⟩, ⟨some 48, .q (.ia 3 (.t 45) (.t 47)), some (42, true)⟩, ⟨some 49, .q (.fa 1 (.t 48)), some (42, true)⟩, ⟨some 50, .q (.ld (.t 49)), some (42, true)⟩, ⟨some 51, .q (.bin .lss (.t 44) (.t 50)), some (42, true)⟩, ⟨some 52, .q (.pick (.t 42) (.t 51) (.c (.bool false))), some (39, false)⟩, ⟨some 53, .q (.pick (.t 39) (.c (.bool true)) (.t 52)), none⟩]
def c26_12 : List SOper := [⟨some 2, .q (.mv (.c (.bool false))), none⟩]
def c26_13 : SCode := .seq (.region c26_12 [2]) .ret
def c26_14 : SCode := .cond (.t 53) c26_13 .skip
def c26_15 : SCode := .seq (.region c26_11 [0, 3, 53]) c26_14
def c26_16 : SCode := .seq (.region c26_10 [0, 3, 4]) c26_15
def c26_17 : SCode := .block 1 c26_16
def c26_18 : List SOper := [⟨some 12, .q (.mv (.t 3)), none⟩, ⟨some 13, .q (.bin .add (.t 12) (.c (.int .i64 1))), none⟩, ⟨some 3, .q (.mv (.t 13)), none⟩]
def c26_19 : SCode := .seq c26_17 (.region c26_18 [0, 3])
def c26_20 : SCode := .seq c26_9 c26_19
def c26_21 : SCode := .loop c26_20
def c26_22 : SCode := .block 0 c26_21
def c26_23 : SCode := .seq (.region c26_6 [0, 3]) c26_22
def c26_24 : List SOper := [⟨some 2, .q (.mv (.c (.bool true))), none⟩]
def c26_25 : SCode := .seq (.region c26_24 [2]) .ret
def c26_26 : SCode := .seq c26_23 c26_25
def c26_27 : SCode := .seq c26_5 c26_26
def c26_28 : SCode := .seq (.region c26_0 [0]) c26_27
def c26 : SCode := c26_28
theorem w26 : type_of% (And.intro (uR Tryd.prog c26_0.eq_1) (And.intro (uR Tryd.prog c26_1.eq_1) (And.intro (uR Tryd.prog c26_2.eq_1) (And.intro (uC Tryd.prog c26_3.eq_1) (And.intro (uC Tryd.prog c26_4.eq_1) (And.intro (uC Tryd.prog c26_5.eq_1) (And.intro (uR Tryd.prog c26_6.eq_1) (And.intro (uR Tryd.prog c26_7.eq_1) (And.intro (uC Tryd.prog c26_8.eq_1) (And.intro (uC Tryd.prog c26_9.eq_1) (And.intro (uR Tryd.prog c26_10.eq_1) (And.intro (uR Tryd.prog c26_11.eq_1) (And.intro (uR Tryd.prog c26_12.eq_1) (And.intro (uC Tryd.prog c26_13.eq_1) (And.intro (uC Tryd.prog c26_14.eq_1) (And.intro (uC Tryd.prog c26_15.eq_1) (And.intro (uC Tryd.prog c26_16.eq_1) (And.intro (uC Tryd.prog c26_17.eq_1) (And.intro (uR Tryd.prog c26_18.eq_1) (And.intro (uC Tryd.prog c26_19.eq_1) (And.intro (uC Tryd.prog c26_20.eq_1) (And.intro (uC Tryd.prog c26_21.eq_1) (And.intro (uC Tryd.prog c26_22.eq_1) (And.intro (uC Tryd.prog c26_23.eq_1) (And.intro (uR Tryd.prog c26_24.eq_1) (And.intro (uC Tryd.prog c26_25.eq_1) (And.intro (uC Tryd.prog c26_26.eq_1) (And.intro (uC Tryd.prog c26_27.eq_1) (And.intro (uC Tryd.prog c26_28.eq_1) (uC Tryd.prog c26.eq_1)))))))))))))))))))))))))))))) := (And.intro (uR Tryd.prog c26_0.eq_1) (And.intro (uR Tryd.prog c26_1.eq_1) (And.intro (uR Tryd.prog c26_2.eq_1) (And.intro (uC Tryd.prog c26_3.eq_1) (And.intro (uC Tryd.prog c26_4.eq_1) (And.intro (uC Tryd.prog c26_5.eq_1) (And.intro (uR Tryd.prog c26_6.eq_1) (And.intro (uR Tryd.prog c26_7.eq_1) (And.intro (uC Tryd.prog c26_8.eq_1) (And.intro (uC Tryd.prog c26_9.eq_1) (And.intro (uR Tryd.prog c26_10.eq_1) (And.intro (uR Tryd.prog c26_11.eq_1) (And.intro (uR Tryd.prog c26_12.eq_1) (And.intro (uC Tryd.prog c26_13.eq_1) (And.intro (uC Tryd.prog c26_14.eq_1) (And.intro (uC Tryd.prog c26_15.eq_1) (And.intro (uC Tryd.prog c26_16.eq_1) (And.intro (uC Tryd.prog c26_17.eq_1) (And.intro (uR Tryd.prog c26_18.eq_1) (And.intro (uC Tryd.prog c26_19.eq_1) (And.intro (uC Tryd.prog c26_20.eq_1) (And.intro (uC Tryd.prog c26_21.eq_1) (And.intro (uC Tryd.prog c26_22.eq_1) (And.intro (uC Tryd.prog c26_23.eq_1) (And.intro (uR Tryd.prog c26_24.eq_1) (And.intro (uC Tryd.prog c26_25.eq_1) (And.intro (uC Tryd.prog c26_26.eq_1) (And.intro (uC Tryd.prog c26_27.eq_1) (And.intro (uC Tryd.prog c26_28.eq_1) (uC Tryd.prog c26.eq_1))))))))))))))))))))))))))))))
def v26 : List RV := [.t 2]
theorem s26 : slimF Tryd.prog Tryd.f26 = some (c26.bare, v26) := by kernel_rfl
/-! 27 loop.example/g00066/spec.l12Style: parameters 1, live [0], slots [0:s, 1:s] -/
def c27_0 : List SOper := [⟨some 1, .a (.box (.t 0)), none⟩, ⟨some 2, .q (.mv (.c (.bool false))), none⟩]
def c27_1 : List SOper := [⟨some 3, .q (.fa 0 (.t 1)), none⟩, ⟨some 4, .q (.ld (.t 3)), none⟩, ⟨some 5, .e (.call 31 [(.t 4), (.c (.int .i64 1)), (.c (.int .i64 359999999))]), none⟩, ⟨some 6, .q (.mv (.t 5)), none⟩, ⟨some 7, .q (.fa 1 (.t 1)), some (6, true)⟩, ⟨some 8, .q (.ld (.t 7)), some (6, true)⟩, ⟨some 9, .e (.call 31 [(.t 8), (.c (.int .i64 0)), (.c (.int .i64 359999999))]), some (6, true)⟩, ⟨some 10, .q (.pick (.t 6) (.t 9) (.c (.bool false))), none⟩, ⟨some 11, .q (.mv (.t 10)), none⟩, ⟨some 12, .q (.fa 2 (.t 1)), some (11, true)⟩, ⟨some 13, .q (.ld (.t 12)), some (11, true)⟩, ⟨some 14, .e (.call 31 [(.t 13), (.c (.int .i64 1)), (.c (.int .i64 359999999))]), some (11, true)⟩, ⟨some 15, .q (.pick (.t 11) (.t 14) (.c (.bool false))), none⟩, ⟨some 16, .q (.mv (.t 15)), none⟩, ⟨some 17, .q (.fa 3 (.t 1)), some (16, true)⟩, ⟨some 18, .q (.ld (.t 17)), some (16, true)⟩, ⟨some 19, .e (.call 31 [(.t 18), (.c (.int .i64 1)), (.c (.int .i64 359999999))]), some (16, true)⟩, ⟨some 20, .q (.pick (.t 16) (.t 19) (.c (.bool false))), none⟩, ⟨some 21, .q (.mv (.t 20)), none⟩, ⟨some 22, .q (.fa 4 (.t 1)), some (21, true)⟩, ⟨some 23, .q (.ld (.t 22)), some (21, true)⟩, ⟨some 24, .e (.call 31 [(.t 23), (.c (.int .i64 1)), (.c (.int .i64 359999999))]), some (21, true)⟩, ⟨some 25, .q (.pick (.t 21) (.t 24) (.c (.bool false))), none⟩, ⟨some 2, .q (.mv (.t 25)), none⟩]
def c27_2 : SCode := .seq (.region c27_1 [2]) .ret
def c27_3 : SCode := .seq (.region c27_0 [1]) c27_2
def c27 : SCode := c27_3
theorem w27 : type_of% (And.intro (uR Tryd.prog c27_0.eq_1) (And.intro (uR Tryd.prog c27_1.eq_1) (And.intro (uC Tryd.prog c27_2.eq_1) (And.intro (uC Tryd.prog c27_3.eq_1) (uC Tryd.prog c27.eq_1))))) := (And.intro (uR Tryd.prog c27_0.eq_1) (And.intro (uR Tryd.prog c27_1.eq_1) (And.intro (uC Tryd.prog c27_2.eq_1) (And.intro (uC Tryd.prog c27_3.eq_1) (uC Tryd.prog c27.eq_1)))))
def v27 : List RV := [.t 2]
theorem s27 : slimF Tryd.prog Tryd.f27 = some (c27.bare, v27) := by kernel_rfl

def timeOk (t : Title) : Prop := 0 ≤ t.fr ∧ t.fr < t.to ∧ t.to ≤ 359999999
instance (t : Title) : Decidable (timeOk t) := by unfold timeOk; infer_instance
def styleOk (s : Style) : Prop := (1 ≤ s.least ∧ s.least ≤ 359999999) ∧ (0 ≤ s.gap ∧ s.gap ≤ 359999999) ∧ (1 ≤ s.rate ∧ s.rate ≤ 359999999) ∧ (1 ≤ s.rows ∧ s.rows ≤ 359999999) ∧ (1 ≤ s.wide ∧ s.wide ≤ 359999999)
instance (s : Style) : Decidable (styleOk s) := by unfold styleOk; infer_instance
def tAt (l : List Title) (i : Nat) : Title := l.getD i zTitle
theorem tAt_eq {l : List Title} {i : Nat} (hi : i < l.length) : tAt l i = l[i] := by simp [tAt, List.getD, List.getElem?_eq_getElem hi]
def titleAt (l : List Title) (i : Nat) : Prop := timeOk (tAt l i) ∧ tOk (tAt l i).tx ∧ (0 < i → (tAt l (i - 1)).to ≤ (tAt l i).fr)
def titlesOk (l : List Title) : Prop := l.length ≤ 200 ∧ ∀ i, i < l.length → titleAt l i
noncomputable instance (l : List Title) : Decidable (titlesOk l) := Classical.propDecidable _
theorem timesOk_ok (h : Heap) (t : Title) : ACall Tryd.prog 30 [.agg (encTitle t).toArray] h fun r h' => Ext h h' ∧ r = .bool (decide (timeOk t)) := by
  refine ACall.of Tryd.func30 s30 (of_decide_eq_true rfl) ?_
  have X := (Bx.new h [.int .i64 t.fr, .int .i64 t.to, .string t.tx] []).ld
  by_cases q1 : 0 ≤ t.fr
  · by_cases q2 : t.fr < t.to
    · simp (maxSteps := 4000000) (disch := omega) only [ah, am, Nat.reduceEqDiff, reduceCtorEq, Nat.reduceAdd, Nat.reduceLeDiff, Nat.reduceMul, Nat.reduceLT, if_true, if_false, true_and, and_true, and_self, Nat.reduceBEq, QOp.loads, boxO, bslO, buildO, cutL, fillV, putL, w30, v30, encTitle, decide_eq_true q1, decide_eq_true q2]
      exact ⟨Ext.more _ _, by rw [show decide (timeOk t) = decide (t.to ≤ 359999999) from decide_eq_decide.mpr ⟨fun h => h.2.2, fun h => ⟨q1, q2, h⟩⟩]⟩
    · simp (maxSteps := 4000000) (disch := omega) only [ah, am, Nat.reduceEqDiff, reduceCtorEq, Nat.reduceAdd, Nat.reduceLeDiff, Nat.reduceMul, Nat.reduceLT, if_true, if_false, true_and, and_true, and_self, Nat.reduceBEq, QOp.loads, boxO, bslO, buildO, cutL, fillV, putL, w30, v30, encTitle, decide_eq_true q1, decide_eq_false q2]
      exact ⟨Ext.more _ _, by rw [decide_eq_false fun h => q2 h.2.1]⟩
  · simp (maxSteps := 4000000) (disch := omega) only [ah, am, Nat.reduceEqDiff, reduceCtorEq, Nat.reduceAdd, Nat.reduceLeDiff, Nat.reduceMul, Nat.reduceLT, if_true, if_false, true_and, and_true, and_self, Nat.reduceBEq, QOp.loads, boxO, bslO, buildO, cutL, fillV, putL, w30, v30, encTitle, decide_eq_false q1]
    exact ⟨Ext.more _ _, by rw [decide_eq_false fun h => q1 h.1]⟩
theorem Styleok_ok (h : Heap) (s : Style) : ACall Tryd.prog 24 [.agg (encStyle s).toArray] h fun r h' => Ext h h' ∧ r = .bool (decide (styleOk s)) := by
  refine ACall.of Tryd.func24 s24 (of_decide_eq_true rfl) ?_
  have e : Ext h (h.more [[.int .i64 s.least, .int .i64 s.gap, .int .i64 s.rate, .int .i64 s.rows, .int .i64 s.wide]]) := Ext.more _ _
  simp (maxSteps := 4000000) (disch := omega) only [ah, am, Nat.reduceEqDiff, reduceCtorEq, Nat.reduceAdd, Nat.reduceLeDiff, Nat.reduceMul, Nat.reduceLT, if_true, if_false, true_and, and_true, and_self, Nat.reduceBEq, QOp.loads, boxO, bslO, buildO, cutL, fillV, putL, w24, v24, encStyle]
  refine stepC.of (in_ok _ _ _ _) ?_
  rintro _ Hx ⟨hx, rfl⟩; rw [hx]; clear hx Hx
  by_cases q1 : 1 ≤ s.least ∧ s.least ≤ 359999999
  rotate_left
  · simp (maxSteps := 4000000) (disch := omega) only [ah, am, Nat.reduceEqDiff, reduceCtorEq, Nat.reduceAdd, Nat.reduceLeDiff, Nat.reduceMul, Nat.reduceLT, if_true, if_false, true_and, and_true, and_self, Nat.reduceBEq, QOp.loads, boxO, bslO, buildO, cutL, fillV, putL, w24, v24, decide_eq_false q1]
    exact ⟨e, by rw [decide_eq_false fun h => q1 h.1]⟩
  simp (maxSteps := 4000000) (disch := omega) only [ah, am, Nat.reduceEqDiff, reduceCtorEq, Nat.reduceAdd, Nat.reduceLeDiff, Nat.reduceMul, Nat.reduceLT, if_true, if_false, true_and, and_true, and_self, Nat.reduceBEq, QOp.loads, boxO, bslO, buildO, cutL, fillV, putL, w24, v24, decide_eq_true q1]
  refine stepC.of (in_ok _ _ _ _) ?_
  rintro _ Hx ⟨hx, rfl⟩; rw [hx]; clear hx Hx
  by_cases q2 : 0 ≤ s.gap ∧ s.gap ≤ 359999999
  rotate_left
  · simp (maxSteps := 4000000) (disch := omega) only [ah, am, Nat.reduceEqDiff, reduceCtorEq, Nat.reduceAdd, Nat.reduceLeDiff, Nat.reduceMul, Nat.reduceLT, if_true, if_false, true_and, and_true, and_self, Nat.reduceBEq, QOp.loads, boxO, bslO, buildO, cutL, fillV, putL, w24, v24, decide_eq_false q2]
    exact ⟨e, by rw [decide_eq_false fun h => q2 h.2.1]⟩
  simp (maxSteps := 4000000) (disch := omega) only [ah, am, Nat.reduceEqDiff, reduceCtorEq, Nat.reduceAdd, Nat.reduceLeDiff, Nat.reduceMul, Nat.reduceLT, if_true, if_false, true_and, and_true, and_self, Nat.reduceBEq, QOp.loads, boxO, bslO, buildO, cutL, fillV, putL, w24, v24, decide_eq_true q2]
  refine stepC.of (in_ok _ _ _ _) ?_
  rintro _ Hx ⟨hx, rfl⟩; rw [hx]; clear hx Hx
  by_cases q3 : 1 ≤ s.rate ∧ s.rate ≤ 359999999
  rotate_left
  · simp (maxSteps := 4000000) (disch := omega) only [ah, am, Nat.reduceEqDiff, reduceCtorEq, Nat.reduceAdd, Nat.reduceLeDiff, Nat.reduceMul, Nat.reduceLT, if_true, if_false, true_and, and_true, and_self, Nat.reduceBEq, QOp.loads, boxO, bslO, buildO, cutL, fillV, putL, w24, v24, decide_eq_false q3]
    exact ⟨e, by rw [decide_eq_false fun h => q3 h.2.2.1]⟩
  simp (maxSteps := 4000000) (disch := omega) only [ah, am, Nat.reduceEqDiff, reduceCtorEq, Nat.reduceAdd, Nat.reduceLeDiff, Nat.reduceMul, Nat.reduceLT, if_true, if_false, true_and, and_true, and_self, Nat.reduceBEq, QOp.loads, boxO, bslO, buildO, cutL, fillV, putL, w24, v24, decide_eq_true q3]
  refine stepC.of (in_ok _ _ _ _) ?_
  rintro _ Hx ⟨hx, rfl⟩; rw [hx]; clear hx Hx
  by_cases q4 : 1 ≤ s.rows ∧ s.rows ≤ 359999999
  rotate_left
  · simp (maxSteps := 4000000) (disch := omega) only [ah, am, Nat.reduceEqDiff, reduceCtorEq, Nat.reduceAdd, Nat.reduceLeDiff, Nat.reduceMul, Nat.reduceLT, if_true, if_false, true_and, and_true, and_self, Nat.reduceBEq, QOp.loads, boxO, bslO, buildO, cutL, fillV, putL, w24, v24, decide_eq_false q4]
    exact ⟨e, by rw [decide_eq_false fun h => q4 h.2.2.2.1]⟩
  simp (maxSteps := 4000000) (disch := omega) only [ah, am, Nat.reduceEqDiff, reduceCtorEq, Nat.reduceAdd, Nat.reduceLeDiff, Nat.reduceMul, Nat.reduceLT, if_true, if_false, true_and, and_true, and_self, Nat.reduceBEq, QOp.loads, boxO, bslO, buildO, cutL, fillV, putL, w24, v24, decide_eq_true q4]
  refine stepC.of (in_ok _ _ _ _) ?_
  rintro _ Hx ⟨hx, rfl⟩; rw [hx]; clear hx Hx
  simp (maxSteps := 4000000) (disch := omega) only [ah, am, Nat.reduceEqDiff, reduceCtorEq, Nat.reduceAdd, Nat.reduceLeDiff, Nat.reduceMul, Nat.reduceLT, if_true, if_false, true_and, and_true, and_self, Nat.reduceBEq, QOp.loads, boxO, bslO, buildO, cutL, fillV, putL, w24, v24]
  exact ⟨e, by rw [show decide (styleOk s) = decide (1 ≤ s.wide ∧ s.wide ≤ 359999999) from decide_eq_decide.mpr ⟨fun h => h.2.2.2.2, fun h => ⟨q1, q2, q3, q4, h⟩⟩]⟩
theorem l12Style_ok (h : Heap) (s : Style) : ACall Tryd.prog 27 [.agg (encStyle s).toArray] h fun r h' => Ext h h' ∧ r = .bool (decide (styleOk s)) := by
  refine ACall.of Tryd.func27 s27 (of_decide_eq_true rfl) ?_
  have e : Ext h (h.more [[.int .i64 s.least, .int .i64 s.gap, .int .i64 s.rate, .int .i64 s.rows, .int .i64 s.wide]]) := Ext.more _ _
  simp (maxSteps := 4000000) (disch := omega) only [ah, am, Nat.reduceEqDiff, reduceCtorEq, Nat.reduceAdd, Nat.reduceLeDiff, Nat.reduceMul, Nat.reduceLT, if_true, if_false, true_and, and_true, and_self, Nat.reduceBEq, QOp.loads, boxO, bslO, buildO, cutL, fillV, putL, w27, v27, encStyle]
  refine stepC.of (l1In_ok _ _ _ _) ?_
  rintro _ Hx ⟨hx, rfl⟩; rw [hx]; clear hx Hx
  by_cases q1 : 1 ≤ s.least ∧ s.least ≤ 359999999
  rotate_left
  · simp (maxSteps := 4000000) (disch := omega) only [ah, am, Nat.reduceEqDiff, reduceCtorEq, Nat.reduceAdd, Nat.reduceLeDiff, Nat.reduceMul, Nat.reduceLT, if_true, if_false, true_and, and_true, and_self, Nat.reduceBEq, QOp.loads, boxO, bslO, buildO, cutL, fillV, putL, w27, v27, decide_eq_false q1]
    exact ⟨e, by rw [decide_eq_false fun h => q1 h.1]⟩
  simp (maxSteps := 4000000) (disch := omega) only [ah, am, Nat.reduceEqDiff, reduceCtorEq, Nat.reduceAdd, Nat.reduceLeDiff, Nat.reduceMul, Nat.reduceLT, if_true, if_false, true_and, and_true, and_self, Nat.reduceBEq, QOp.loads, boxO, bslO, buildO, cutL, fillV, putL, w27, v27, decide_eq_true q1]
  refine stepC.of (l1In_ok _ _ _ _) ?_
  rintro _ Hx ⟨hx, rfl⟩; rw [hx]; clear hx Hx
  by_cases q2 : 0 ≤ s.gap ∧ s.gap ≤ 359999999
  rotate_left
  · simp (maxSteps := 4000000) (disch := omega) only [ah, am, Nat.reduceEqDiff, reduceCtorEq, Nat.reduceAdd, Nat.reduceLeDiff, Nat.reduceMul, Nat.reduceLT, if_true, if_false, true_and, and_true, and_self, Nat.reduceBEq, QOp.loads, boxO, bslO, buildO, cutL, fillV, putL, w27, v27, decide_eq_false q2]
    exact ⟨e, by rw [decide_eq_false fun h => q2 h.2.1]⟩
  simp (maxSteps := 4000000) (disch := omega) only [ah, am, Nat.reduceEqDiff, reduceCtorEq, Nat.reduceAdd, Nat.reduceLeDiff, Nat.reduceMul, Nat.reduceLT, if_true, if_false, true_and, and_true, and_self, Nat.reduceBEq, QOp.loads, boxO, bslO, buildO, cutL, fillV, putL, w27, v27, decide_eq_true q2]
  refine stepC.of (l1In_ok _ _ _ _) ?_
  rintro _ Hx ⟨hx, rfl⟩; rw [hx]; clear hx Hx
  by_cases q3 : 1 ≤ s.rate ∧ s.rate ≤ 359999999
  rotate_left
  · simp (maxSteps := 4000000) (disch := omega) only [ah, am, Nat.reduceEqDiff, reduceCtorEq, Nat.reduceAdd, Nat.reduceLeDiff, Nat.reduceMul, Nat.reduceLT, if_true, if_false, true_and, and_true, and_self, Nat.reduceBEq, QOp.loads, boxO, bslO, buildO, cutL, fillV, putL, w27, v27, decide_eq_false q3]
    exact ⟨e, by rw [decide_eq_false fun h => q3 h.2.2.1]⟩
  simp (maxSteps := 4000000) (disch := omega) only [ah, am, Nat.reduceEqDiff, reduceCtorEq, Nat.reduceAdd, Nat.reduceLeDiff, Nat.reduceMul, Nat.reduceLT, if_true, if_false, true_and, and_true, and_self, Nat.reduceBEq, QOp.loads, boxO, bslO, buildO, cutL, fillV, putL, w27, v27, decide_eq_true q3]
  refine stepC.of (l1In_ok _ _ _ _) ?_
  rintro _ Hx ⟨hx, rfl⟩; rw [hx]; clear hx Hx
  by_cases q4 : 1 ≤ s.rows ∧ s.rows ≤ 359999999
  rotate_left
  · simp (maxSteps := 4000000) (disch := omega) only [ah, am, Nat.reduceEqDiff, reduceCtorEq, Nat.reduceAdd, Nat.reduceLeDiff, Nat.reduceMul, Nat.reduceLT, if_true, if_false, true_and, and_true, and_self, Nat.reduceBEq, QOp.loads, boxO, bslO, buildO, cutL, fillV, putL, w27, v27, decide_eq_false q4]
    exact ⟨e, by rw [decide_eq_false fun h => q4 h.2.2.2.1]⟩
  simp (maxSteps := 4000000) (disch := omega) only [ah, am, Nat.reduceEqDiff, reduceCtorEq, Nat.reduceAdd, Nat.reduceLeDiff, Nat.reduceMul, Nat.reduceLT, if_true, if_false, true_and, and_true, and_self, Nat.reduceBEq, QOp.loads, boxO, bslO, buildO, cutL, fillV, putL, w27, v27, decide_eq_true q4]
  refine stepC.of (l1In_ok _ _ _ _) ?_
  rintro _ Hx ⟨hx, rfl⟩; rw [hx]; clear hx Hx
  simp (maxSteps := 4000000) (disch := omega) only [ah, am, Nat.reduceEqDiff, reduceCtorEq, Nat.reduceAdd, Nat.reduceLeDiff, Nat.reduceMul, Nat.reduceLT, if_true, if_false, true_and, and_true, and_self, Nat.reduceBEq, QOp.loads, boxO, bslO, buildO, cutL, fillV, putL, w27, v27]
  exact ⟨e, by rw [show decide (styleOk s) = decide (1 ≤ s.wide ∧ s.wide ≤ 359999999) from decide_eq_decide.mpr ⟨fun h => h.2.2.2.2, fun h => ⟨q1, q2, q3, q4, h⟩⟩]⟩
theorem TitlesOk_ok (h : Heap) (v : Value) (l : List Title) (s : SlT h encTitle 3 v l) (hl : l.length ≤ 281474976710656) (hn : ∀ t ∈ l, t.tx.size ≤ 9223372036854775807) :
    ACall Tryd.prog 23 [v] h fun r h' => Ext h h' ∧ r = .bool (decide (titlesOk l)) := by
  refine ACall.of Tryd.func23 s23 (of_decide_eq_true rfl) ?_
  have R := s.rulesN
  simp (maxSteps := 4000000) (disch := omega) only [ah, am, Nat.reduceEqDiff, reduceCtorEq, Nat.reduceAdd, Nat.reduceLeDiff, Nat.reduceMul, Nat.reduceLT, if_true, if_false, true_and, and_true, and_self, Nat.reduceBEq, QOp.loads, boxO, bslO, buildO, cutL, fillV, putL, w23, v23, R.1]
  refine SW_loop_up (fun i E K => Ext h K ∧ (∀ j, j < i → titleAt l j) ∧ E = [(0, v), (5, v), (6, .int .i64 (l.length : Int)), (7, .int .i64 (i : Int))]) l.length 0 (by omega) ⟨Ext.refl h, fun j hj => by omega, rfl⟩ ?_
  rintro i E K hi ⟨e, F, rfl⟩
  have R := (s.ext e).rulesN
  have W : IntKind.i64.wrap ((i : Int) + 1) = ((i + 1 : Nat) : Int) := i64e (by omega) (by omega)
  simp (maxSteps := 4000000) (disch := omega) only [ah, am, Nat.reduceEqDiff, reduceCtorEq, Nat.reduceAdd, Nat.reduceLeDiff, Nat.reduceMul, Nat.reduceLT, if_true, if_false, true_and, and_true, and_self, Nat.reduceBEq, QOp.loads, boxO, bslO, buildO, cutL, fillV, putL, w23, v23]
  refine stepI.split (fun hp => ?_) (fun hp => ?_)
  rotate_left
  · simp (maxSteps := 4000000) (disch := omega) only [ah, am, Nat.reduceEqDiff, reduceCtorEq, Nat.reduceAdd, Nat.reduceLeDiff, Nat.reduceMul, Nat.reduceLT, if_true, if_false, true_and, and_true, and_self, Nat.reduceBEq, QOp.loads, boxO, bslO, buildO, cutL, fillV, putL, w23, v23, R.1]
    exact ⟨e, by rw [show decide (titlesOk l) = decide ((l.length : Int) ≤ 200) from decide_eq_decide.mpr ⟨fun q => by have := q.1; omega, fun q => ⟨by omega, fun j hj => F j (by omega)⟩⟩]⟩
  have hi2 : i < l.length := by omega
  obtain ⟨x, hx⟩ : ∃ x, x = l[i]'hi2 := ⟨_, rfl⟩
  have hxa : tAt l i = x := by rw [tAt_eq hi2, hx]
  have hsz := hn x (by rw [hx]; exact List.getElem_mem _)
  have LN : ldnV K 3 (ptrAt v (i * 3)) = some (.agg (encTitle x).toArray) := by rw [hx]; exact R.2.2.2.2.2 i hi2
  have bad : ¬ titleAt l i → decide (titlesOk l) = false := fun q => decide_eq_false fun t => q (t.2 i hi2)
  have done : titleAt l i → ∀ j, j < i + 1 → titleAt l j := fun q j hj => by
    by_cases e : j = i
    · rw [e]; exact q
    · exact F j (by omega)
  have eM : Ext K (K.more [[.int .i64 x.fr, .int .i64 x.to, .string x.tx]]) := Ext.more _ _
  have tk := timesOk_ok (K.more [[.int .i64 x.fr, .int .i64 x.to, .string x.tx]]) x
  simp only [encTitle] at tk
  simp (maxSteps := 4000000) (disch := omega) only [ah, am, Nat.reduceEqDiff, reduceCtorEq, Nat.reduceAdd, Nat.reduceLeDiff, Nat.reduceMul, Nat.reduceLT, if_true, if_false, true_and, and_true, and_self, Nat.reduceBEq, QOp.loads, boxO, bslO, buildO, cutL, fillV, putL, w23, v23, R.2.1, LN, encTitle]
  refine stepC.of tk ?_
  rintro _ H1 ⟨e1, rfl⟩
  have X := (((Bx.new K [.int .i64 x.fr, .int .i64 x.to, .string x.tx] []).ext e1)).ld
  have E1 := (e.trans eM).trans e1
  by_cases c1 : timeOk x
  rotate_left
  · simp (maxSteps := 4000000) (disch := omega) only [ah, am, Nat.reduceEqDiff, reduceCtorEq, Nat.reduceAdd, Nat.reduceLeDiff, Nat.reduceMul, Nat.reduceLT, if_true, if_false, true_and, and_true, and_self, Nat.reduceBEq, QOp.loads, boxO, bslO, buildO, cutL, fillV, putL, w23, v23, decide_eq_false c1, Bool.not_false]
    exact ⟨E1, by rw [bad (fun t => c1 (by rw [← hxa]; exact t.1))]⟩
  simp (maxSteps := 4000000) (disch := omega) only [ah, am, Nat.reduceEqDiff, reduceCtorEq, Nat.reduceAdd, Nat.reduceLeDiff, Nat.reduceMul, Nat.reduceLT, if_true, if_false, true_and, and_true, and_self, Nat.reduceBEq, QOp.loads, boxO, bslO, buildO, cutL, fillV, putL, w23, v23, decide_eq_true c1, Bool.not_true, X]
  refine stepC.of (textOk_ok _ x.tx hsz) ?_
  rintro _ Hx ⟨hx, rfl⟩; rw [hx]; clear hx Hx
  by_cases c2 : tOk x.tx
  rotate_left
  · simp (maxSteps := 4000000) (disch := omega) only [ah, am, Nat.reduceEqDiff, reduceCtorEq, Nat.reduceAdd, Nat.reduceLeDiff, Nat.reduceMul, Nat.reduceLT, if_true, if_false, true_and, and_true, and_self, Nat.reduceBEq, QOp.loads, boxO, bslO, buildO, cutL, fillV, putL, w23, v23, decide_eq_false c2, Bool.not_false]
    exact ⟨E1, by rw [bad (fun t => c2 (by rw [← hxa]; exact t.2.1))]⟩
  by_cases c3 : (0 : Int) < i
  rotate_left
  · simp (maxSteps := 4000000) (disch := omega) only [ah, am, Nat.reduceEqDiff, reduceCtorEq, Nat.reduceAdd, Nat.reduceLeDiff, Nat.reduceMul, Nat.reduceLT, if_true, if_false, true_and, and_true, and_self, Nat.reduceBEq, QOp.loads, boxO, bslO, buildO, cutL, fillV, putL, w23, v23, decide_eq_true c2, Bool.not_true, decide_eq_false c3, W]
    exact ⟨hi2, E1, done ⟨by rw [hxa]; exact c1, by rw [hxa]; exact c2, fun q => by omega⟩⟩
  have hi3 : i - 1 < l.length := by omega
  have R1 := (s.ext E1).rulesN
  have wi : IntKind.i64.wrap ((i : Int) - 1) = ((i - 1 : Nat) : Int) := i64e (by omega) (by omega)
  have LT : ldV H1 (ptrAt v ((i - 1) * 3 + 1)) = some (.int .i64 (tAt l (i - 1)).to) := by rw [tAt_eq hi3]; exact R1.2.2.2.1 (i - 1) 1 hi3 (by omega)
  have AV := R1.2.1 .i64 (i - 1) hi3
  have FV := R1.2.2.1 1 ((i - 1) * 3) (by omega)
  by_cases c4 : x.fr < (tAt l (i - 1)).to
  · simp (maxSteps := 4000000) (disch := omega) only [ah, am, Nat.reduceEqDiff, reduceCtorEq, Nat.reduceAdd, Nat.reduceLeDiff, Nat.reduceMul, Nat.reduceLT, if_true, if_false, true_and, and_true, and_self, Nat.reduceBEq, QOp.loads, boxO, bslO, buildO, cutL, fillV, putL, w23, v23, decide_eq_true c2, Bool.not_true, decide_eq_true c3, X, wi, AV, FV, LT, decide_eq_true c4]
    exact ⟨E1, by rw [bad (fun t => by have := t.2.2 (by omega); rw [hxa] at this; omega)]⟩
  · simp (maxSteps := 4000000) (disch := omega) only [ah, am, Nat.reduceEqDiff, reduceCtorEq, Nat.reduceAdd, Nat.reduceLeDiff, Nat.reduceMul, Nat.reduceLT, if_true, if_false, true_and, and_true, and_self, Nat.reduceBEq, QOp.loads, boxO, bslO, buildO, cutL, fillV, putL, w23, v23, decide_eq_true c2, Bool.not_true, decide_eq_true c3, X, wi, AV, FV, LT, decide_eq_false c4, W]
    exact ⟨hi2, E1, done ⟨by rw [hxa]; exact c1, by rw [hxa]; exact c2, fun q => by rw [hxa]; omega⟩⟩
theorem specTitlesOk_ok (h : Heap) (v : Value) (l : List Title) (s : SlT h encTitle 3 v l) (hl : l.length ≤ 281474976710656) (hn : ∀ t ∈ l, t.tx.size ≤ 9223372036854775807) :
    ACall Tryd.prog 26 [v] h fun r h' => Ext h h' ∧ r = .bool (decide (titlesOk l)) := by
  refine ACall.of Tryd.func26 s26 (of_decide_eq_true rfl) ?_
  have R := s.rulesN
  by_cases c0 : (200 : Int) < l.length
  · simp (maxSteps := 4000000) (disch := omega) only [ah, am, Nat.reduceEqDiff, reduceCtorEq, Nat.reduceAdd, Nat.reduceLeDiff, Nat.reduceMul, Nat.reduceLT, if_true, if_false, true_and, and_true, and_self, Nat.reduceBEq, QOp.loads, boxO, bslO, buildO, cutL, fillV, putL, w26, v26, R.1, decide_eq_true c0]
    exact ⟨Ext.refl h, by rw [decide_eq_false]; rintro ⟨q, _⟩; omega⟩
  simp (maxSteps := 4000000) (disch := omega) only [ah, am, Nat.reduceEqDiff, reduceCtorEq, Nat.reduceAdd, Nat.reduceLeDiff, Nat.reduceMul, Nat.reduceLT, if_true, if_false, true_and, and_true, and_self, Nat.reduceBEq, QOp.loads, boxO, bslO, buildO, cutL, fillV, putL, w26, v26, R.1, decide_eq_false c0]
  refine SW_loop_up (fun i E K => Ext h K ∧ (∀ j, j < i → titleAt l j) ∧ E = [(0, v), (3, .int .i64 (i : Int))]) l.length 0 (by omega) ⟨Ext.refl h, fun j hj => by omega, rfl⟩ ?_
  rintro i E K hi ⟨e, F, rfl⟩
  have R := (s.ext e).rulesN
  have W : IntKind.i64.wrap ((i : Int) + 1) = ((i + 1 : Nat) : Int) := i64e (by omega) (by omega)
  simp (maxSteps := 4000000) (disch := omega) only [ah, am, Nat.reduceEqDiff, reduceCtorEq, Nat.reduceAdd, Nat.reduceLeDiff, Nat.reduceMul, Nat.reduceLT, if_true, if_false, true_and, and_true, and_self, Nat.reduceBEq, QOp.loads, boxO, bslO, buildO, cutL, fillV, putL, w26, v26, R.1]
  refine stepI.split (fun hp => ?_) (fun hp => ?_)
  rotate_left
  · simp (maxSteps := 4000000) (disch := omega) only [ah, am, Nat.reduceEqDiff, reduceCtorEq, Nat.reduceAdd, Nat.reduceLeDiff, Nat.reduceMul, Nat.reduceLT, if_true, if_false, true_and, and_true, and_self, Nat.reduceBEq, QOp.loads, boxO, bslO, buildO, cutL, fillV, putL, w26, v26]
    exact ⟨e, by rw [decide_eq_true ⟨by omega, fun j hj => F j (by omega)⟩]⟩
  have hi2 : i < l.length := by omega
  obtain ⟨x, hx⟩ : ∃ x, x = l[i]'hi2 := ⟨_, rfl⟩
  have hxa : tAt l i = x := by rw [tAt_eq hi2, hx]
  have hsz := hn x (by rw [hx]; exact List.getElem_mem _)
  have LN : ldnV K 3 (ptrAt v (i * 3)) = some (.agg (encTitle x).toArray) := by rw [hx]; exact R.2.2.2.2.2 i hi2
  have bad : ¬ titleAt l i → decide (titlesOk l) = false := fun q => decide_eq_false fun t => q (t.2 i hi2)
  have done : titleAt l i → ∀ j, j < i + 1 → titleAt l j := fun q j hj => by
    by_cases e : j = i
    · rw [e]; exact q
    · exact F j (by omega)
  have eM : Ext K (K.more [[.int .i64 x.fr, .int .i64 x.to, .string x.tx]]) := Ext.more _ _
  have E1 := e.trans eM
  have badt : ¬ timeOk x → decide (titlesOk l) = false := fun q => bad (fun t => q (by rw [← hxa]; exact t.1))
  by_cases q1 : x.fr < 0
  · simp (maxSteps := 4000000) (disch := omega) only [ah, am, Nat.reduceEqDiff, reduceCtorEq, Nat.reduceAdd, Nat.reduceLeDiff, Nat.reduceMul, Nat.reduceLT, if_true, if_false, true_and, and_true, and_self, Nat.reduceBEq, QOp.loads, boxO, bslO, buildO, cutL, fillV, putL, w26, v26, R.2.1, LN, encTitle, decide_eq_true q1]
    exact ⟨E1, by rw [badt (by unfold timeOk; omega)]⟩
  by_cases q2 : x.to ≤ x.fr
  · simp (maxSteps := 4000000) (disch := omega) only [ah, am, Nat.reduceEqDiff, reduceCtorEq, Nat.reduceAdd, Nat.reduceLeDiff, Nat.reduceMul, Nat.reduceLT, if_true, if_false, true_and, and_true, and_self, Nat.reduceBEq, QOp.loads, boxO, bslO, buildO, cutL, fillV, putL, w26, v26, R.2.1, LN, encTitle, decide_eq_false q1, decide_eq_true q2]
    exact ⟨E1, by rw [badt (by unfold timeOk; omega)]⟩
  by_cases q3 : 359999999 < x.to
  · simp (maxSteps := 4000000) (disch := omega) only [ah, am, Nat.reduceEqDiff, reduceCtorEq, Nat.reduceAdd, Nat.reduceLeDiff, Nat.reduceMul, Nat.reduceLT, if_true, if_false, true_and, and_true, and_self, Nat.reduceBEq, QOp.loads, boxO, bslO, buildO, cutL, fillV, putL, w26, v26, R.2.1, LN, encTitle, decide_eq_false q1, decide_eq_false q2, decide_eq_true q3]
    exact ⟨E1, by rw [badt (by unfold timeOk; omega)]⟩
  have c1 : timeOk x := by unfold timeOk; omega
  simp (maxSteps := 4000000) (disch := omega) only [ah, am, Nat.reduceEqDiff, reduceCtorEq, Nat.reduceAdd, Nat.reduceLeDiff, Nat.reduceMul, Nat.reduceLT, if_true, if_false, true_and, and_true, and_self, Nat.reduceBEq, QOp.loads, boxO, bslO, buildO, cutL, fillV, putL, w26, v26, R.2.1, LN, encTitle, decide_eq_false q1, decide_eq_false q2, decide_eq_false q3]
  refine stepC.of (l12Text_ok _ x.tx hsz) ?_
  rintro _ Hx ⟨hx, rfl⟩; rw [hx]; clear hx Hx
  by_cases c2 : tOk x.tx
  rotate_left
  · simp (maxSteps := 4000000) (disch := omega) only [ah, am, Nat.reduceEqDiff, reduceCtorEq, Nat.reduceAdd, Nat.reduceLeDiff, Nat.reduceMul, Nat.reduceLT, if_true, if_false, true_and, and_true, and_self, Nat.reduceBEq, QOp.loads, boxO, bslO, buildO, cutL, fillV, putL, w26, v26, decide_eq_false c2, Bool.not_false]
    exact ⟨E1, by rw [bad (fun t => c2 (by rw [← hxa]; exact t.2.1))]⟩
  by_cases c3 : (0 : Int) < i
  rotate_left
  · simp (maxSteps := 4000000) (disch := omega) only [ah, am, Nat.reduceEqDiff, reduceCtorEq, Nat.reduceAdd, Nat.reduceLeDiff, Nat.reduceMul, Nat.reduceLT, if_true, if_false, true_and, and_true, and_self, Nat.reduceBEq, QOp.loads, boxO, bslO, buildO, cutL, fillV, putL, w26, v26, decide_eq_true c2, Bool.not_true, decide_eq_false c3, W]
    exact ⟨hi2, E1, done ⟨by rw [hxa]; exact c1, by rw [hxa]; exact c2, fun q => by omega⟩⟩
  have hi3 : i - 1 < l.length := by omega
  have R1 := (s.ext E1).rulesN
  have wi : IntKind.i64.wrap ((i : Int) - 1) = ((i - 1 : Nat) : Int) := i64e (by omega) (by omega)
  have LT : ldV (K.more [[.int .i64 x.fr, .int .i64 x.to, .string x.tx]]) (ptrAt v ((i - 1) * 3 + 1)) = some (.int .i64 (tAt l (i - 1)).to) := by rw [tAt_eq hi3]; exact R1.2.2.2.1 (i - 1) 1 hi3 (by omega)
  have AV := R1.2.1 .i64 (i - 1) hi3
  have FV := R1.2.2.1 1 ((i - 1) * 3) (by omega)
  by_cases c4 : x.fr < (tAt l (i - 1)).to
  · simp (maxSteps := 4000000) (disch := omega) only [ah, am, Nat.reduceEqDiff, reduceCtorEq, Nat.reduceAdd, Nat.reduceLeDiff, Nat.reduceMul, Nat.reduceLT, if_true, if_false, true_and, and_true, and_self, Nat.reduceBEq, QOp.loads, boxO, bslO, buildO, cutL, fillV, putL, w26, v26, decide_eq_true c2, Bool.not_true, decide_eq_true c3, wi, AV, FV, LT, decide_eq_true c4]
    exact ⟨E1, by rw [bad (fun t => by have := t.2.2 (by omega); rw [hxa] at this; omega)]⟩
  · simp (maxSteps := 4000000) (disch := omega) only [ah, am, Nat.reduceEqDiff, reduceCtorEq, Nat.reduceAdd, Nat.reduceLeDiff, Nat.reduceMul, Nat.reduceLT, if_true, if_false, true_and, and_true, and_self, Nat.reduceBEq, QOp.loads, boxO, bslO, buildO, cutL, fillV, putL, w26, v26, decide_eq_true c2, Bool.not_true, decide_eq_true c3, wi, AV, FV, LT, decide_eq_false c4, W]
    exact ⟨hi2, E1, done ⟨by rw [hxa]; exact c1, by rw [hxa]; exact c2, fun q => by rw [hxa]; omega⟩⟩
end Go.Proofs.YtgjppbmbpjomgaaDoor
