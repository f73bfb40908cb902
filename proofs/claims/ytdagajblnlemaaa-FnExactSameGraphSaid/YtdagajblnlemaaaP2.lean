import Derived.Test.YtdagajblnlemaaaP1
namespace Go.Proofs.Ytdagajblnlemaaa
open Go Go.Ah
set_option linter.unusedSimpArgs false
set_option linter.unusedVariables false
set_option maxRecDepth 10000
set_option maxHeartbeats 4000000
/-! 55 loop.example/g00066/spec.l10Node: parameters 2, live [0, 1], slots [0:x, 1:i, 2:x, 3:i, 5:in, 6:zero] -/
def c55_0 : List SOper := [⟨some 2, .a (.box (.t 0)), none⟩, ⟨some 4, .q (.mv (.c (.bool false))), none⟩]
def c55_1 : List SOper := [⟨some 7, .q (.fa 1 (.t 2)), none⟩, ⟨some 8, .q (.ld (.t 7)), none⟩, ⟨some 9, .q (.bin .geq (.t 8) (.c (.int .i64 0))), none⟩, ⟨some 10, .q (.mv (.t 9)), none⟩, ⟨some 11, .q (.fa 1 (.t 2)), some (10, true)⟩, ⟨some 12, .q (.ld (.t 11)), some (10, true)⟩, ⟨some 13, .q (.mv (.t 1)), some (10, true)⟩, ⟨some 14, .q (.bin .lss (.t 12) (.t 13)), some (10, true)⟩, ⟨some 15, .q (.pick (.t 10) (.t 14) (.c (.bool false))), none⟩, ⟨some 5, .q (.mv (.t 15)), none⟩]
def c55_2 : List SOper := [⟨some 16, .q (.fa 3 (.t 2)), none⟩, ⟨some 17, .q (.ld (.t 16)), none⟩, ⟨some 18, .q (.bin .eql (.t 17) (.c (.float .f64 0))), none⟩, ⟨some 19, .q (.mv (.t 18)), none⟩, ⟨some 20, .q (.fa 3 (.t 2)), some (19, true)⟩, ⟨some 21, .q (.ld (.t 20)), some (19, true)⟩, ⟨some 22, .q (.bin .quo (.c (.float .f64 4607182418800017408)) (.t 21)), some (19, true)⟩, ⟨some 23, .q (.bin .gtr (.t 22) (.c (.float .f64 0))), some (19, true)⟩, ⟨some 24, .q (.pick (.t 19) (.t 23) (.c (.bool false))), none⟩, ⟨some 6, .q (.mv (.t 24)), none⟩]
def c55_3 : List SOper := [⟨some 25, .q (.fa 0 (.t 2)), none⟩, ⟨some 26, .q (.ld (.t 25)), none⟩]
def c55_4 : List SOper := [⟨some 28, .q (.bin .eql (.t 26) (.c (.int .i64 1))), none⟩, ⟨some 27, .q (.mv (.t 28)), none⟩]
def c55_5 : List SOper := [⟨some 29, .q (.fa 1 (.t 2)), none⟩, ⟨some 30, .q (.ld (.t 29)), none⟩, ⟨some 31, .q (.bin .eql (.t 30) (.c (.int .i64 0))), none⟩, ⟨some 32, .q (.mv (.t 31)), none⟩, ⟨some 33, .q (.fa 2 (.t 2)), some (32, true)⟩, ⟨some 34, .q (.ld (.t 33)), some (32, true)⟩, ⟨some 35, .q (.bin .eql (.t 34) (.c (.int .i64 0))), some (32, true)⟩, ⟨some 36, .q (.pick (.t 32) (.t 35) (.c (.bool false))), none⟩, ⟨some 37, .q (.mv (.t 36)), none⟩, ⟨some 38, .q (.mv (.t 6)), some (37, true)⟩, ⟨some 39, .q (.pick (.t 37) (.t 38) (.c (.bool false))), none⟩, ⟨some 4, .q (.mv (.t 39)), none⟩]
def c55_6 : SCode := .seq (.region c55_5 [4]) .ret
def c55_7 : List SOper := [⟨some 41, .q (.bin .eql (.t 26) (.c (.int .i64 2))), none⟩, ⟨some 40, .q (.mv (.t 41)), none⟩]
def c55_8 : List SOper := [⟨some 42, .q (.bin .eql (.t 26) (.c (.int .i64 3))), none⟩, ⟨some 40, .q (.mv (.t 42)), none⟩]
def c55_9 : List SOper := [⟨some 43, .q (.bin .eql (.t 26) (.c (.int .i64 5))), none⟩, ⟨some 40, .q (.mv (.t 43)), none⟩]
def c55_10 : SCode := .cond (.t 40) .skip (.region c55_9 [1, 2, 5, 6, 26, 40])
def c55_11 : SCode := .seq (.region c55_8 [1, 2, 5, 6, 26, 40]) c55_10
def c55_12 : SCode := .cond (.t 40) .skip c55_11
def c55_13 : SCode := .seq (.region c55_7 [1, 2, 5, 6, 26, 40]) c55_12
def c55_14 : List SOper := [⟨some 44, .q (.mv (.t 5)), none⟩, ⟨some 45, .q (.mv (.t 44)), none⟩, ⟨some 46, .q (.fa 2 (.t 2)), some (45, true)⟩, ⟨some 47, .q (.ld (.t 46)), some (45, true)⟩, ⟨some 48, .q (.bin .eql (.t 47) (.c (.int .i64 0))), some (45, true)⟩, ⟨some 49, .q (.pick (.t 45) (.t 48) (.c (.bool false))), none⟩, ⟨some 4, .q (.mv (.t 49)), none⟩]
def c55_15 : SCode := .seq (.region c55_14 [4]) .ret
def c55_16 : List SOper := [⟨some 51, .q (.bin .eql (.t 26) (.c (.int .i64 4))), none⟩, ⟨some 50, .q (.mv (.t 51)), none⟩]
def c55_17 : List SOper := [⟨some 52, .q (.mv (.t 5)), none⟩, ⟨some 53, .q (.mv (.t 52)), none⟩, ⟨some 54, .q (.fa 2 (.t 2)), some (53, true)⟩, ⟨some 55, .q (.ld (.t 54)), some (53, true)⟩, ⟨some 56, .q (.bin .geq (.t 55) (.c (.int .i64 0))), some (53, true)⟩, ⟨some 57, .q (.pick (.t 53) (.t 56) (.c (.bool false))), none⟩, ⟨some 58, .q (.mv (.t 57)), none⟩, ⟨some 59, .q (.fa 2 (.t 2)), some (58, true)⟩, ⟨some 60, .q (.ld (.t 59)), some (58, true)⟩, ⟨some 61, .q (.mv (.t 1)), some (58, true)⟩, ⟨some 62, .q (.bin .lss (.t 60) (.t 61)), some (58, true)⟩, ⟨some 63, .q (.pick (.t 58) (.t 62) (.c (.bool false))), none⟩, ⟨some 4, .q (.mv (.t 63)), none⟩]
def c55_18 : SCode := .seq (.region c55_17 [4]) .ret
def c55_19 : List SOper := [⟨some 65, .q (.bin .eql (.t 26) (.c (.int .i64 6))), none⟩, ⟨some 64, .q (.mv (.t 65)), none⟩]
def c55_20 : List SOper := [⟨some 66, .q (.bin .eql (.t 26) (.c (.int .i64 7))), none⟩, ⟨some 64, .q (.mv (.t 66)), none⟩]
def c55_21 : SCode := .cond (.t 64) .skip (.region c55_20 [2, 5, 6, 64])
def c55_22 : SCode := .seq (.region c55_19 [2, 5, 6, 26, 64]) c55_21
def c55_23 : List SOper := [⟨some 67, .q (.mv (.t 5)), none⟩, ⟨some 68, .q (.mv (.t 67)), none⟩, ⟨some 69, .q (.fa 2 (.t 2)), some (68, true)⟩, ⟨some 70, .q (.ld (.t 69)), some (68, true)⟩, ⟨some 71, .q (.bin .eql (.t 70) (.c (.int .i64 0))), some (68, true)⟩, ⟨some 72, .q (.pick (.t 68) (.t 71) (.c (.bool false))), none⟩, ⟨some 73, .q (.mv (.t 72)), none⟩, ⟨some 74, .q (.mv (.t 6)), some (73, true)⟩, ⟨some 75, .q (.pick (.t 73) (.t 74) (.c (.bool false))), none⟩, ⟨some 4, .q (.mv (.t 75)), none⟩]
def c55_24 : SCode := .seq (.region c55_23 [4]) .ret
def c55_25 : SCode := .cond (.t 64) c55_24 .skip
def c55_26 : SCode := .seq c55_22 c55_25
def c55_27 : SCode := .cond (.t 50) c55_18 c55_26
def c55_28 : SCode := .seq (.region c55_16 [1, 2, 5, 6, 26, 50]) c55_27
def c55_29 : SCode := .cond (.t 40) c55_15 c55_28
def c55_30 : SCode := .seq c55_13 c55_29
def c55_31 : SCode := .cond (.t 27) c55_6 c55_30
def c55_32 : SCode := .seq (.region c55_4 [1, 2, 5, 6, 26, 27]) c55_31
def c55_33 : SCode := .block 0 c55_32
def c55_34 : SCode := .seq (.region c55_3 [1, 2, 5, 6, 26]) c55_33
def c55_35 : List SOper := [⟨some 4, .q (.mv (.c (.bool false))), none⟩]
def c55_36 : SCode := .seq (.region c55_35 [4]) .ret
def c55_37 : SCode := .seq c55_34 c55_36
def c55_38 : SCode := .seq (.region c55_2 [1, 2, 5, 6]) c55_37
def c55_39 : SCode := .seq (.region c55_1 [1, 2, 5]) c55_38
def c55_40 : SCode := .seq (.region c55_0 [1, 2]) c55_39
def c55 : SCode := c55_40
theorem w55 : type_of% (And.intro (uR Try.prog c55_0.eq_1) (And.intro (uR Try.prog c55_1.eq_1) (And.intro (uR Try.prog c55_2.eq_1) (And.intro (uR Try.prog c55_3.eq_1) (And.intro (uR Try.prog c55_4.eq_1) (And.intro (uR Try.prog c55_5.eq_1) (And.intro (uC Try.prog c55_6.eq_1) (And.intro (uR Try.prog c55_7.eq_1) (And.intro (uR Try.prog c55_8.eq_1) (And.intro (uR Try.prog c55_9.eq_1) (And.intro (uC Try.prog c55_10.eq_1) (And.intro (uC Try.prog c55_11.eq_1) (And.intro (uC Try.prog c55_12.eq_1) (And.intro (uC Try.prog c55_13.eq_1) (And.intro (uR Try.prog c55_14.eq_1) (And.intro (uC Try.prog c55_15.eq_1) (And.intro (uR Try.prog c55_16.eq_1) (And.intro (uR Try.prog c55_17.eq_1) (And.intro (uC Try.prog c55_18.eq_1) (And.intro (uR Try.prog c55_19.eq_1) (And.intro (uR Try.prog c55_20.eq_1) (And.intro (uC Try.prog c55_21.eq_1) (And.intro (uC Try.prog c55_22.eq_1) (And.intro (uR Try.prog c55_23.eq_1) (And.intro (uC Try.prog c55_24.eq_1) (And.intro (uC Try.prog c55_25.eq_1) (And.intro (uC Try.prog c55_26.eq_1) (And.intro (uC Try.prog c55_27.eq_1) (And.intro (uC Try.prog c55_28.eq_1) (And.intro (uC Try.prog c55_29.eq_1) (And.intro (uC Try.prog c55_30.eq_1) (And.intro (uC Try.prog c55_31.eq_1) (And.intro (uC Try.prog c55_32.eq_1) (And.intro (uC Try.prog c55_33.eq_1) (And.intro (uC Try.prog c55_34.eq_1) (And.intro (uR Try.prog c55_35.eq_1) (And.intro (uC Try.prog c55_36.eq_1) (And.intro (uC Try.prog c55_37.eq_1) (And.intro (uC Try.prog c55_38.eq_1) (And.intro (uC Try.prog c55_39.eq_1) (And.intro (uC Try.prog c55_40.eq_1) (uC Try.prog c55.eq_1)))))))))))))))))))))))))))))))))))))))))) := (And.intro (uR Try.prog c55_0.eq_1) (And.intro (uR Try.prog c55_1.eq_1) (And.intro (uR Try.prog c55_2.eq_1) (And.intro (uR Try.prog c55_3.eq_1) (And.intro (uR Try.prog c55_4.eq_1) (And.intro (uR Try.prog c55_5.eq_1) (And.intro (uC Try.prog c55_6.eq_1) (And.intro (uR Try.prog c55_7.eq_1) (And.intro (uR Try.prog c55_8.eq_1) (And.intro (uR Try.prog c55_9.eq_1) (And.intro (uC Try.prog c55_10.eq_1) (And.intro (uC Try.prog c55_11.eq_1) (And.intro (uC Try.prog c55_12.eq_1) (And.intro (uC Try.prog c55_13.eq_1) (And.intro (uR Try.prog c55_14.eq_1) (And.intro (uC Try.prog c55_15.eq_1) (And.intro (uR Try.prog c55_16.eq_1) (And.intro (uR Try.prog c55_17.eq_1) (And.intro (uC Try.prog c55_18.eq_1) (And.intro (uR Try.prog c55_19.eq_1) (And.intro (uR Try.prog c55_20.eq_1) (And.intro (uC Try.prog c55_21.eq_1) (And.intro (uC Try.prog c55_22.eq_1) (And.intro (uR Try.prog c55_23.eq_1) (And.intro (uC Try.prog c55_24.eq_1) (And.intro (uC Try.prog c55_25.eq_1) (And.intro (uC Try.prog c55_26.eq_1) (And.intro (uC Try.prog c55_27.eq_1) (And.intro (uC Try.prog c55_28.eq_1) (And.intro (uC Try.prog c55_29.eq_1) (And.intro (uC Try.prog c55_30.eq_1) (And.intro (uC Try.prog c55_31.eq_1) (And.intro (uC Try.prog c55_32.eq_1) (And.intro (uC Try.prog c55_33.eq_1) (And.intro (uC Try.prog c55_34.eq_1) (And.intro (uR Try.prog c55_35.eq_1) (And.intro (uC Try.prog c55_36.eq_1) (And.intro (uC Try.prog c55_37.eq_1) (And.intro (uC Try.prog c55_38.eq_1) (And.intro (uC Try.prog c55_39.eq_1) (And.intro (uC Try.prog c55_40.eq_1) (uC Try.prog c55.eq_1))))))))))))))))))))))))))))))))))))))))))
def v55 : List RV := [.t 4]
theorem s55 : slimF Try.prog Try.f55 = some (c55.bare, v55) := by kernel_rfl
/-! 35 loop.example/g00066/spec.GraphOk: parameters 1, live [0], slots [0:nodes, 1:nodes, 3:i] -/
def c35_0 : List SOper := [⟨some 2, .q (.mv (.c (.bool false))), none⟩]
def c35_1 : List SOper := [⟨some 4, .q (.mv (.t 0)), none⟩, ⟨some 5, .q (.len (.t 4)), none⟩, ⟨some 6, .q (.bin .lss (.t 5) (.c (.int .i64 1))), none⟩, ⟨some 7, .q (.mv (.t 6)), none⟩, ⟨some 8, .q (.mv (.t 0)), some (7, false)⟩, ⟨some 9, .q (.len (.t 8)), some (7, false)⟩, ⟨some 10, .q (.bin .gtr (.t 9) (.c (.int .i64 40))), some (7, false)⟩, ⟨some 11, .q (.pick (.t 7) (.c (.bool true)) (.t 10)), none⟩]
def c35_2 : List SOper := [⟨some 2, .q (.mv (.c (.bool false))), none⟩]
def c35_3 : SCode := .seq (.region c35_2 [2]) .ret
def c35_4 : SCode := .cond (.t 11) c35_3 .skip
def c35_5 : SCode := .seq (.region c35_1 [0, 11]) c35_4
def c35_6 : List SOper := [⟨some 3, .q (.mv (.c (.int .i64 0))), none⟩]
def c35_7 : List SOper := [⟨some 12, .q (.mv (.t 3)), none⟩, ⟨some 13, .q (.mv (.t 0)), none⟩, ⟨some 14, .q (.len (.t 13)), none⟩, ⟨some 15, .q (.bin .lss (.t 12) (.t 14)), none⟩]
def c35_8 : SCode := .cond (.t 15) .skip (.exit 0)
def c35_9 : SCode := .seq (.region c35_7 [0, 3, 15]) c35_8
def c35_10 : List SOper := [⟨some 18, .q (.mv (.t 0)), none⟩, ⟨some 19, .q (.mv (.t 3)), none⟩, ⟨some 20, .q (.ia 4 (.t 18) (.t 19)), none⟩, ⟨some 21, .q (.ldn 4 (.t 20)), none⟩, ⟨some 22, .q (.mv (.t 3)), none⟩, ⟨some 23, .e (.call 55 [(.t 21), (.t 22)]), none⟩, ⟨some 24, .q (.not (.t 23)), none⟩]
def c35_11 : List SOper := [⟨some 2, .q (.mv (.c (.bool false))), none⟩]
def c35_12 : SCode := .seq (.region c35_11 [2]) .ret
def c35_13 : SCode := .cond (.t 24) c35_12 .skip
def c35_14 : SCode := .seq (.region c35_10 [0, 3, 24]) c35_13
def c35_15 : SCode := .block 1 c35_14
def c35_16 : List SOper := [⟨some 16, .q (.mv (.t 3)), none⟩, ⟨some 17, .q (.bin .add (.t 16) (.c (.int .i64 1))), none⟩, ⟨some 3, .q (.mv (.t 17)), none⟩]
def c35_17 : SCode := .seq c35_15 (.region c35_16 [0, 3])
def c35_18 : SCode := .seq c35_9 c35_17
def c35_19 : SCode := .loop c35_18
def c35_20 : SCode := .block 0 c35_19
def c35_21 : SCode := .seq (.region c35_6 [0, 3]) c35_20
def c35_22 : List SOper := [⟨some 2, .q (.mv (.c (.bool true))), none⟩]
def c35_23 : SCode := .seq (.region c35_22 [2]) .ret
def c35_24 : SCode := .seq c35_21 c35_23
def c35_25 : SCode := .seq c35_5 c35_24
def c35_26 : SCode := .seq (.region c35_0 [0]) c35_25
def c35 : SCode := c35_26
theorem w35 : type_of% (And.intro (uR Try.prog c35_0.eq_1) (And.intro (uR Try.prog c35_1.eq_1) (And.intro (uR Try.prog c35_2.eq_1) (And.intro (uC Try.prog c35_3.eq_1) (And.intro (uC Try.prog c35_4.eq_1) (And.intro (uC Try.prog c35_5.eq_1) (And.intro (uR Try.prog c35_6.eq_1) (And.intro (uR Try.prog c35_7.eq_1) (And.intro (uC Try.prog c35_8.eq_1) (And.intro (uC Try.prog c35_9.eq_1) (And.intro (uR Try.prog c35_10.eq_1) (And.intro (uR Try.prog c35_11.eq_1) (And.intro (uC Try.prog c35_12.eq_1) (And.intro (uC Try.prog c35_13.eq_1) (And.intro (uC Try.prog c35_14.eq_1) (And.intro (uC Try.prog c35_15.eq_1) (And.intro (uR Try.prog c35_16.eq_1) (And.intro (uC Try.prog c35_17.eq_1) (And.intro (uC Try.prog c35_18.eq_1) (And.intro (uC Try.prog c35_19.eq_1) (And.intro (uC Try.prog c35_20.eq_1) (And.intro (uC Try.prog c35_21.eq_1) (And.intro (uR Try.prog c35_22.eq_1) (And.intro (uC Try.prog c35_23.eq_1) (And.intro (uC Try.prog c35_24.eq_1) (And.intro (uC Try.prog c35_25.eq_1) (And.intro (uC Try.prog c35_26.eq_1) (uC Try.prog c35.eq_1)))))))))))))))))))))))))))) := (And.intro (uR Try.prog c35_0.eq_1) (And.intro (uR Try.prog c35_1.eq_1) (And.intro (uR Try.prog c35_2.eq_1) (And.intro (uC Try.prog c35_3.eq_1) (And.intro (uC Try.prog c35_4.eq_1) (And.intro (uC Try.prog c35_5.eq_1) (And.intro (uR Try.prog c35_6.eq_1) (And.intro (uR Try.prog c35_7.eq_1) (And.intro (uC Try.prog c35_8.eq_1) (And.intro (uC Try.prog c35_9.eq_1) (And.intro (uR Try.prog c35_10.eq_1) (And.intro (uR Try.prog c35_11.eq_1) (And.intro (uC Try.prog c35_12.eq_1) (And.intro (uC Try.prog c35_13.eq_1) (And.intro (uC Try.prog c35_14.eq_1) (And.intro (uC Try.prog c35_15.eq_1) (And.intro (uR Try.prog c35_16.eq_1) (And.intro (uC Try.prog c35_17.eq_1) (And.intro (uC Try.prog c35_18.eq_1) (And.intro (uC Try.prog c35_19.eq_1) (And.intro (uC Try.prog c35_20.eq_1) (And.intro (uC Try.prog c35_21.eq_1) (And.intro (uR Try.prog c35_22.eq_1) (And.intro (uC Try.prog c35_23.eq_1) (And.intro (uC Try.prog c35_24.eq_1) (And.intro (uC Try.prog c35_25.eq_1) (And.intro (uC Try.prog c35_26.eq_1) (uC Try.prog c35.eq_1))))))))))))))))))))))))))))
def v35 : List RV := [.t 2]
theorem s35 : slimF Try.prog Try.f35 = some (c35.bare, v35) := by kernel_rfl
/-! 36 loop.example/g00066/spec.l10Two: parameters 1, live [0], slots [0:kind, 1:kind] -/
def c36_0 : List SOper := [⟨some 2, .q (.mv (.c (.bool false))), none⟩]
def c36_1 : List SOper := [⟨some 3, .q (.mv (.t 0)), none⟩, ⟨some 4, .q (.bin .eql (.t 3) (.c (.int .i64 4))), none⟩, ⟨some 2, .q (.mv (.t 4)), none⟩]
def c36_2 : SCode := .seq (.region c36_1 [2]) .ret
def c36_3 : SCode := .seq (.region c36_0 [0]) c36_2
def c36 : SCode := c36_3
theorem w36 : type_of% (And.intro (uR Try.prog c36_0.eq_1) (And.intro (uR Try.prog c36_1.eq_1) (And.intro (uC Try.prog c36_2.eq_1) (And.intro (uC Try.prog c36_3.eq_1) (uC Try.prog c36.eq_1))))) := (And.intro (uR Try.prog c36_0.eq_1) (And.intro (uR Try.prog c36_1.eq_1) (And.intro (uC Try.prog c36_2.eq_1) (And.intro (uC Try.prog c36_3.eq_1) (uC Try.prog c36.eq_1)))))
def v36 : List RV := [.t 2]
theorem s36 : slimF Try.prog Try.f36 = some (c36.bare, v36) := by kernel_rfl

/-- A nought without a minus. -/
def plainF (x : Nat) : Prop := zeroF x ∧ signF x = false
instance (x : Nat) : Decidable (plainF x) := by unfold plainF; infer_instance
def nodeOk (x : Node) (i : Int) : Prop :=
  (x.kind = 1 ∧ x.inn = 0 ∧ x.in2 = 0 ∧ plainF x.v) ∨ ((x.kind = 2 ∨ x.kind = 3 ∨ x.kind = 5) ∧ (0 ≤ x.inn ∧ x.inn < i) ∧ x.in2 = 0) ∨
  (x.kind = 4 ∧ (0 ≤ x.inn ∧ x.inn < i) ∧ 0 ≤ x.in2 ∧ x.in2 < i) ∨ ((x.kind = 6 ∨ x.kind = 7) ∧ (0 ≤ x.inn ∧ x.inn < i) ∧ x.in2 = 0 ∧ plainF x.v)
instance (x : Node) (i : Int) : Decidable (nodeOk x i) := by unfold nodeOk; infer_instance
theorem plain_cases (x : Nat) : (ordF x 0 = some .eq ∧ ¬ nanF x ∧ ordF (invF x) 0 = some .gt ∧ plainF x) ∨ (ordF x 0 = some .eq ∧ ¬ nanF x ∧ ¬ ordF (invF x) 0 = some .gt ∧ ¬ plainF x) ∨ (¬ ordF x 0 = some .eq ∧ ¬ plainF x) := by
  by_cases z : zeroF x
  · have o := ordF_zero.mpr z
    have n := zero_nan z
    by_cases g : ordF (invF x) 0 = some .gt
    · exact .inl ⟨o, n, g, z, (inv_pos z).mp g⟩
    · exact .inr (.inl ⟨o, n, g, fun q => g ((inv_pos z).mpr q.2)⟩)
  · exact .inr (.inr ⟨fun q => z (ordF_zero.mp q), fun q => z q.1⟩)
theorem l10Node_ok (h : Heap) (x : Node) (i : Int) : ACall Try.prog 55 [.agg (encNode x).toArray, .int .i64 i] h fun r h' => Ext h h' ∧ r = .bool (decide (nodeOk x i)) := by
  obtain ⟨k, a, b, v⟩ := x
  have plc := plain_cases v
  refine ACall.of Try.func55 s55 (of_decide_eq_true rfl) ?_
  rcases plc with ⟨o, n, g, pl⟩ | ⟨o, n, g, pl⟩ | ⟨o, pl⟩
  · have o' := decide_eq_true o
    have g' := decide_eq_true g
    have inv := flt_inv n
    have hpl : plainF v = True := eq_true pl
    simp (maxSteps := 4000000) (disch := omega) only [ah, am, Nat.reduceEqDiff, reduceCtorEq, Nat.reduceAdd, Nat.reduceLeDiff, Nat.reduceMul, Nat.reduceLT, if_true, if_false, true_and, and_true, and_self, Nat.reduceBEq, QOp.loads, boxO, bslO, buildO, cutL, fillV, putL, w55, v55, encNode, fl, flt_eql, flt_gtr, o', inv, g']
    (repeat' first
    | (refine stepG.cases (fun _ hp => ?_) (fun _ hp => ?_) <;> simp (maxSteps := 4000000) (disch := omega) only [hp, ah, am, Nat.reduceEqDiff, reduceCtorEq, Nat.reduceAdd, Nat.reduceLeDiff, Nat.reduceMul, Nat.reduceLT, if_true, if_false, true_and, and_true, and_self, Nat.reduceBEq, QOp.loads, boxO, bslO, buildO, cutL, fillV, putL, i64w, w55, v55, flt_eql, flt_gtr, o', inv, g', fl])
    | (refine stepI.cases (fun _ hp => ?_) (fun _ hp => ?_) <;> simp (maxSteps := 4000000) (disch := omega) only [hp, ah, am, Nat.reduceEqDiff, reduceCtorEq, Nat.reduceAdd, Nat.reduceLeDiff, Nat.reduceMul, Nat.reduceLT, if_true, if_false, true_and, and_true, and_self, Nat.reduceBEq, QOp.loads, boxO, bslO, buildO, cutL, fillV, putL, i64w, w55, v55, flt_eql, flt_gtr, o', inv, g', fl]))
    all_goals (refine ⟨Ext.more _ _, ?_⟩; refine bool_dec ?_; try simp only [decide_eq_true_eq, Bool.false_eq_true, false_and, and_false, true_and, and_true, false_iff, iff_false, true_iff, iff_true, not_false_eq_true, false_or, or_false, true_or, or_true, nodeOk, hpl]; first | done | omega | (refine Iff.intro (fun hq => ?_) (fun hq => ?_) <;> omega))
  · have o' := decide_eq_true o
    have g' := decide_eq_false g
    have inv := flt_inv n
    have hpl : plainF v = False := eq_false pl
    simp (maxSteps := 4000000) (disch := omega) only [ah, am, Nat.reduceEqDiff, reduceCtorEq, Nat.reduceAdd, Nat.reduceLeDiff, Nat.reduceMul, Nat.reduceLT, if_true, if_false, true_and, and_true, and_self, Nat.reduceBEq, QOp.loads, boxO, bslO, buildO, cutL, fillV, putL, w55, v55, encNode, fl, flt_eql, flt_gtr, o', inv, g']
    (repeat' first
    | (refine stepG.cases (fun _ hp => ?_) (fun _ hp => ?_) <;> simp (maxSteps := 4000000) (disch := omega) only [hp, ah, am, Nat.reduceEqDiff, reduceCtorEq, Nat.reduceAdd, Nat.reduceLeDiff, Nat.reduceMul, Nat.reduceLT, if_true, if_false, true_and, and_true, and_self, Nat.reduceBEq, QOp.loads, boxO, bslO, buildO, cutL, fillV, putL, i64w, w55, v55, flt_eql, flt_gtr, o', inv, g', fl])
    | (refine stepI.cases (fun _ hp => ?_) (fun _ hp => ?_) <;> simp (maxSteps := 4000000) (disch := omega) only [hp, ah, am, Nat.reduceEqDiff, reduceCtorEq, Nat.reduceAdd, Nat.reduceLeDiff, Nat.reduceMul, Nat.reduceLT, if_true, if_false, true_and, and_true, and_self, Nat.reduceBEq, QOp.loads, boxO, bslO, buildO, cutL, fillV, putL, i64w, w55, v55, flt_eql, flt_gtr, o', inv, g', fl]))
    all_goals (refine ⟨Ext.more _ _, ?_⟩; refine bool_dec ?_; try simp only [decide_eq_true_eq, Bool.false_eq_true, false_and, and_false, true_and, and_true, false_iff, iff_false, true_iff, iff_true, not_false_eq_true, false_or, or_false, true_or, or_true, nodeOk, hpl]; first | done | omega | (refine Iff.intro (fun hq => ?_) (fun hq => ?_) <;> omega))
  · have o' := decide_eq_false o
    have hpl : plainF v = False := eq_false pl
    simp (maxSteps := 4000000) (disch := omega) only [ah, am, Nat.reduceEqDiff, reduceCtorEq, Nat.reduceAdd, Nat.reduceLeDiff, Nat.reduceMul, Nat.reduceLT, if_true, if_false, true_and, and_true, and_self, Nat.reduceBEq, QOp.loads, boxO, bslO, buildO, cutL, fillV, putL, w55, v55, encNode, fl, flt_eql, flt_gtr, o']
    (repeat' first
    | (refine stepG.cases (fun _ hp => ?_) (fun _ hp => ?_) <;> simp (maxSteps := 4000000) (disch := omega) only [hp, ah, am, Nat.reduceEqDiff, reduceCtorEq, Nat.reduceAdd, Nat.reduceLeDiff, Nat.reduceMul, Nat.reduceLT, if_true, if_false, true_and, and_true, and_self, Nat.reduceBEq, QOp.loads, boxO, bslO, buildO, cutL, fillV, putL, i64w, w55, v55, flt_eql, flt_gtr, o', fl])
    | (refine stepI.cases (fun _ hp => ?_) (fun _ hp => ?_) <;> simp (maxSteps := 4000000) (disch := omega) only [hp, ah, am, Nat.reduceEqDiff, reduceCtorEq, Nat.reduceAdd, Nat.reduceLeDiff, Nat.reduceMul, Nat.reduceLT, if_true, if_false, true_and, and_true, and_self, Nat.reduceBEq, QOp.loads, boxO, bslO, buildO, cutL, fillV, putL, i64w, w55, v55, flt_eql, flt_gtr, o', fl]))
    all_goals (refine ⟨Ext.more _ _, ?_⟩; refine bool_dec ?_; try simp only [decide_eq_true_eq, Bool.false_eq_true, false_and, and_false, true_and, and_true, false_iff, iff_false, true_iff, iff_true, not_false_eq_true, false_or, or_false, true_or, or_true, nodeOk, hpl]; first | done | omega | (refine Iff.intro (fun hq => ?_) (fun hq => ?_) <;> omega))
def graphOk (l : List Node) : Prop := (1 ≤ (l.length : Int) ∧ (l.length : Int) ≤ 40) ∧ ∀ i (hi : i < l.length), nodeOk l[i] i
instance (l : List Node) : Decidable (graphOk l) := by unfold graphOk; infer_instance
theorem specGraphOk_ok (h : Heap) (v : Value) (l : List Node) (s : SlT h encNode 4 v l) (hl : l.length ≤ 281474976710656) : ACall Try.prog 35 [v] h fun r h' => Ext h h' ∧ r = .bool (decide (graphOk l)) := by
  refine ACall.of Try.func35 s35 (of_decide_eq_true rfl) ?_
  have R := s.rulesN
  by_cases h1 : (l.length : Int) < 1
  · simp (maxSteps := 4000000) (disch := omega) only [ah, am, Nat.reduceEqDiff, reduceCtorEq, Nat.reduceAdd, Nat.reduceLeDiff, Nat.reduceMul, Nat.reduceLT, if_true, if_false, true_and, and_true, and_self, Nat.reduceBEq, QOp.loads, boxO, bslO, buildO, cutL, fillV, putL, w35, v35, R.1, decide_eq_true h1]
    exact ⟨Ext.refl _, by rw [decide_eq_false]; intro q; have := q.1.1; omega⟩
  by_cases h2 : (40 : Int) < l.length
  · simp (maxSteps := 4000000) (disch := omega) only [ah, am, Nat.reduceEqDiff, reduceCtorEq, Nat.reduceAdd, Nat.reduceLeDiff, Nat.reduceMul, Nat.reduceLT, if_true, if_false, true_and, and_true, and_self, Nat.reduceBEq, QOp.loads, boxO, bslO, buildO, cutL, fillV, putL, w35, v35, R.1, decide_eq_false h1, decide_eq_true h2]
    exact ⟨Ext.refl _, by rw [decide_eq_false]; intro q; have := q.1.2; omega⟩
  simp (maxSteps := 4000000) (disch := omega) only [ah, am, Nat.reduceEqDiff, reduceCtorEq, Nat.reduceAdd, Nat.reduceLeDiff, Nat.reduceMul, Nat.reduceLT, if_true, if_false, true_and, and_true, and_self, Nat.reduceBEq, QOp.loads, boxO, bslO, buildO, cutL, fillV, putL, w35, v35, R.1, decide_eq_false h1, decide_eq_false h2]
  refine SW_loop_up (fun i E H => E = [(0, v), (3, .int .i64 i)] ∧ Ext h H ∧ ∀ j (h1 : j < i) (h2 : j < l.length), nodeOk l[j] j) l.length 0 (by omega) ⟨rfl, .refl h, fun j h1 => absurd h1 (by omega)⟩ ?_
  rintro i E H hi ⟨rfl, e, F⟩
  have R := (s.ext e).rulesN
  have W : IntKind.i64.wrap ((i : Int) + 1) = ((i + 1 : Nat) : Int) := i64e (by omega) (by omega)
  simp (maxSteps := 4000000) (disch := omega) only [ah, am, Nat.reduceEqDiff, reduceCtorEq, Nat.reduceAdd, Nat.reduceLeDiff, Nat.reduceMul, Nat.reduceLT, if_true, if_false, true_and, and_true, and_self, Nat.reduceBEq, QOp.loads, boxO, bslO, buildO, cutL, fillV, putL, w35, v35, R.1]
  refine stepI.split (fun hp => ?_) (fun hp => ?_)
  · have hi2 : i < l.length := by omega
    have IA := R.2.1 .i64 i hi2
    have LN : ldnV H 4 (ptrAt v (i * 4)) = some (.agg (encNode l[i]).toArray) := R.2.2.2.2.2 i hi2
    simp (maxSteps := 4000000) (disch := omega) only [ah, am, Nat.reduceEqDiff, reduceCtorEq, Nat.reduceAdd, Nat.reduceLeDiff, Nat.reduceMul, Nat.reduceLT, if_true, if_false, true_and, and_true, and_self, Nat.reduceBEq, QOp.loads, boxO, bslO, buildO, cutL, fillV, putL, w35, v35, IA, LN]
    refine stepC.of (l10Node_ok H l[i] (i : Int)) ?_
    rintro _ H2 ⟨e2, rfl⟩
    by_cases ok : nodeOk l[i] (i : Int)
    · simp (maxSteps := 4000000) (disch := omega) only [ah, am, Nat.reduceEqDiff, reduceCtorEq, Nat.reduceAdd, Nat.reduceLeDiff, Nat.reduceMul, Nat.reduceLT, if_true, if_false, true_and, and_true, and_self, Nat.reduceBEq, QOp.loads, boxO, bslO, buildO, cutL, fillV, putL, w35, v35, decide_eq_true ok, Bool.not_true, W]
      refine ⟨by omega, e.trans e2, fun j h1 h2 => ?_⟩
      by_cases q : j = i
      · subst q; exact ok
      · exact F j (by omega) h2
    · simp (maxSteps := 4000000) (disch := omega) only [ah, am, Nat.reduceEqDiff, reduceCtorEq, Nat.reduceAdd, Nat.reduceLeDiff, Nat.reduceMul, Nat.reduceLT, if_true, if_false, true_and, and_true, and_self, Nat.reduceBEq, QOp.loads, boxO, bslO, buildO, cutL, fillV, putL, w35, v35, decide_eq_false ok, Bool.not_false]
      exact ⟨e.trans e2, by rw [decide_eq_false]; intro q; exact ok (q.2 i hi2)⟩
  · simp (maxSteps := 4000000) (disch := omega) only [ah, am, Nat.reduceEqDiff, reduceCtorEq, Nat.reduceAdd, Nat.reduceLeDiff, Nat.reduceMul, Nat.reduceLT, if_true, if_false, true_and, and_true, and_self, Nat.reduceBEq, QOp.loads, boxO, bslO, buildO, cutL, fillV, putL, w35, v35]
    exact ⟨e, by rw [decide_eq_true]; exact ⟨by omega, fun j hj => F j (by omega) hj⟩⟩
end Go.Proofs.Ytdagajblnlemaaa
