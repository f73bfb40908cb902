import Derived.Test.YtdagajblnlemaaaP4
namespace Go.Proofs.Ytdagajblnlemaaa
open Go Go.Ah
set_option linter.unusedSimpArgs false
set_option linter.unusedVariables false
set_option maxRecDepth 10000
set_option maxHeartbeats 4000000
/-! 68 (loop.example/g00066/impl.Node).ok$1: parameters 2, live [0, 1, 2], slots [0:has, 1:to, 3:has, 4:to] -/
def c68_0 : List SOper := [⟨some 5, .q (.mv (.c (.bool false))), none⟩]
def c68_1 : List SOper := [⟨some 6, .q (.mv (.t 0)), none⟩, ⟨some 7, .q (.mv (.t 6)), none⟩, ⟨some 8, .q (.mv (.t 1)), some (7, true)⟩, ⟨some 9, .q (.ld (.t 2)), some (7, true)⟩, ⟨some 10, .q (.bin .sub (.t 9) (.c (.int .i64 1))), some (7, true)⟩, ⟨some 11, .e (.call 56 [(.t 8), (.c (.int .i64 0)), (.t 10)]), some (7, true)⟩, ⟨some 12, .q (.pick (.t 7) (.t 11) (.c (.bool false))), none⟩, ⟨some 13, .q (.mv (.t 12)), none⟩, ⟨some 14, .q (.mv (.t 0)), some (13, false)⟩, ⟨some 15, .q (.not (.t 14)), some (13, false)⟩, ⟨some 16, .q (.mv (.t 15)), some (13, false)⟩, ⟨some 17, .q (.mv (.t 1)), some (16, true)⟩, ⟨some 18, .q (.bin .eql (.t 17) (.c (.int .i64 0))), some (16, true)⟩, ⟨some 19, .q (.pick (.t 16) (.t 18) (.c (.bool false))), some (13, false)⟩, ⟨some 20, .q (.pick (.t 13) (.c (.bool true)) (.t 19)), none⟩, ⟨some 5, .q (.mv (.t 20)), none⟩]
def c68_2 : SCode := .seq (.region c68_1 [5]) .ret
def c68_3 : SCode := .seq (.region c68_0 [0, 1, 2]) c68_2
def c68 : SCode := c68_3
theorem w68 : type_of% (And.intro (uR Try.prog c68_0.eq_1) (And.intro (uR Try.prog c68_1.eq_1) (And.intro (uC Try.prog c68_2.eq_1) (And.intro (uC Try.prog c68_3.eq_1) (uC Try.prog c68.eq_1))))) := (And.intro (uR Try.prog c68_0.eq_1) (And.intro (uR Try.prog c68_1.eq_1) (And.intro (uC Try.prog c68_2.eq_1) (And.intro (uC Try.prog c68_3.eq_1) (uC Try.prog c68.eq_1)))))
def v68 : List RV := [.t 5]
theorem s68 : slimF Try.prog Try.f68 = some (c68.bare, v68) := by kernel_rfl
/-! 57 (loop.example/g00066/impl.Node).ok: parameters 2, live [0, 1], slots [0:n, 1:ahead, 2:n, 3:ahead, 5:one, 6:two, 7:value, 8:points] -/
def c57_0 : List SOper := [⟨some 2, .a (.box (.t 0)), none⟩, ⟨some 3, .a (.box (.t 1)), none⟩, ⟨some 4, .q (.mv (.c (.bool false))), none⟩]
def c57_1 : List SOper := [⟨some 9, .q (.fa 0 (.t 2)), none⟩, ⟨some 10, .q (.ld (.t 9)), none⟩, ⟨some 11, .e (.call 56 [(.t 10), (.c (.int .i64 1)), (.c (.int .i64 7))]), none⟩, ⟨some 12, .q (.not (.t 11)), none⟩]
def c57_2 : List SOper := [⟨some 4, .q (.mv (.c (.bool false))), none⟩]
def c57_3 : SCode := .seq (.region c57_2 [4]) .ret
def c57_4 : SCode := .cond (.t 12) c57_3 .skip
def c57_5 : SCode := .seq (.region c57_1 [2, 3, 12]) c57_4
def c57_6 : List SOper := [⟨some 14, .q (.ldn 4 (.t 2)), none⟩, ⟨some 15, .e (.call 40 [(.t 14)]), none⟩, ⟨some 13, .q (.mv (.t 15)), none⟩, ⟨some 16, .q (.ext (.t 13) 0), none⟩, ⟨some 17, .q (.ext (.t 13) 1), none⟩, ⟨some 18, .q (.ext (.t 13) 2), none⟩, ⟨some 5, .q (.mv (.t 16)), none⟩, ⟨some 6, .q (.mv (.t 17)), none⟩, ⟨some 7, .q (.mv (.t 18)), none⟩]
def c57_7 : List SOper := [⟨some 19, .q (.mkf 68 [(.t 3)]), none⟩, ⟨some 8, .q (.mv (.t 19)), none⟩]
def c57_8 : List SOper := [⟨some 20, .q (.mv (.t 8)), none⟩, ⟨some 21, .q (.mv (.t 5)), none⟩, ⟨some 22, .q (.fa 1 (.t 2)), none⟩, ⟨some 23, .q (.ld (.t 22)), none⟩, ⟨some 24, .e (.callv (.t 20) [(.t 21), (.t 23)]), none⟩, ⟨some 25, .q (.mv (.t 24)), none⟩, ⟨some 26, .q (.mv (.t 8)), some (25, true)⟩, ⟨some 27, .q (.mv (.t 6)), some (25, true)⟩, ⟨some 28, .q (.fa 2 (.t 2)), some (25, true)⟩, ⟨some 29, .q (.ld (.t 28)), some (25, true)⟩, ⟨some 30, .e (.callv (.t 26) [(.t 27), (.t 29)]), some (25, true)⟩, ⟨some 31, .q (.pick (.t 25) (.t 30) (.c (.bool false))), none⟩, ⟨some 32, .q (.mv (.t 31)), none⟩, ⟨some 33, .q (.mv (.t 7)), some (32, true)⟩, ⟨some 34, .q (.mv (.t 33)), some (32, true)⟩, ⟨some 35, .q (.fa 3 (.t 2)), some (34, false)⟩, ⟨some 36, .q (.ld (.t 35)), some (34, false)⟩, ⟨some 37, .e (.call 69 [(.t 36)]), some (34, false)⟩, ⟨some 38, .q (.pick (.t 34) (.c (.bool true)) (.t 37)), some (32, true)⟩, ⟨some 39, .q (.pick (.t 32) (.t 38) (.c (.bool false))), none⟩, ⟨some 4, .q (.mv (.t 39)), none⟩]
def c57_9 : SCode := .seq (.region c57_8 [4]) .ret
def c57_10 : SCode := .seq (.region c57_7 [2, 5, 6, 7, 8]) c57_9
def c57_11 : SCode := .seq (.region c57_6 [2, 3, 5, 6, 7]) c57_10
def c57_12 : SCode := .seq c57_5 c57_11
def c57_13 : SCode := .seq (.region c57_0 [2, 3]) c57_12
def c57 : SCode := c57_13
theorem w57 : type_of% (And.intro (uR Try.prog c57_0.eq_1) (And.intro (uR Try.prog c57_1.eq_1) (And.intro (uR Try.prog c57_2.eq_1) (And.intro (uC Try.prog c57_3.eq_1) (And.intro (uC Try.prog c57_4.eq_1) (And.intro (uC Try.prog c57_5.eq_1) (And.intro (uR Try.prog c57_6.eq_1) (And.intro (uR Try.prog c57_7.eq_1) (And.intro (uR Try.prog c57_8.eq_1) (And.intro (uC Try.prog c57_9.eq_1) (And.intro (uC Try.prog c57_10.eq_1) (And.intro (uC Try.prog c57_11.eq_1) (And.intro (uC Try.prog c57_12.eq_1) (And.intro (uC Try.prog c57_13.eq_1) (uC Try.prog c57.eq_1))))))))))))))) := (And.intro (uR Try.prog c57_0.eq_1) (And.intro (uR Try.prog c57_1.eq_1) (And.intro (uR Try.prog c57_2.eq_1) (And.intro (uC Try.prog c57_3.eq_1) (And.intro (uC Try.prog c57_4.eq_1) (And.intro (uC Try.prog c57_5.eq_1) (And.intro (uR Try.prog c57_6.eq_1) (And.intro (uR Try.prog c57_7.eq_1) (And.intro (uR Try.prog c57_8.eq_1) (And.intro (uC Try.prog c57_9.eq_1) (And.intro (uC Try.prog c57_10.eq_1) (And.intro (uC Try.prog c57_11.eq_1) (And.intro (uC Try.prog c57_12.eq_1) (And.intro (uC Try.prog c57_13.eq_1) (uC Try.prog c57.eq_1)))))))))))))))
def v57 : List RV := [.t 4]
theorem s57 : slimF Try.prog Try.f57 = some (c57.bare, v57) := by kernel_rfl
/-! 38 loop.example/g00066/impl.GraphOk: parameters 1, live [0], slots [0:nodes, 1:nodes, 3:i, 4:n] -/
def c38_0 : List SOper := [⟨some 2, .q (.mv (.c (.bool false))), none⟩]
def c38_1 : List SOper := [⟨some 5, .q (.mv (.t 0)), none⟩, ⟨some 6, .q (.len (.t 5)), none⟩, ⟨some 7, .e (.call 56 [(.t 6), (.c (.int .i64 1)), (.c (.int .i64 40))]), none⟩, ⟨some 8, .q (.not (.t 7)), none⟩]
def c38_2 : List SOper := [⟨some 2, .q (.mv (.c (.bool false))), none⟩]
def c38_3 : SCode := .seq (.region c38_2 [2]) .ret
def c38_4 : SCode := .cond (.t 8) c38_3 .skip
def c38_5 : SCode := .seq (.region c38_1 [0, 8]) c38_4
def c38_6 : List SOper := [⟨some 9, .q (.mv (.t 0)), none⟩, ⟨some 10, .q (.len (.t 9)), none⟩, ⟨some 11, .q (.mv (.c (.int .i64 0))), none⟩]
def c38_7 : List SOper := [⟨some 12, .q (.bin .lss (.t 11) (.t 10)), none⟩]
def c38_8 : SCode := .cond (.t 12) .skip (.exit 0)
def c38_9 : List SOper := [⟨some 13, .q (.mv (.t 11)), none⟩, ⟨some 14, .q (.ia 4 (.t 9) (.t 11)), none⟩, ⟨some 15, .q (.ldn 4 (.t 14)), none⟩, ⟨some 4, .a (.new [(.int .i64 0), (.int .i64 0), (.int .i64 0), (.float .f64 0)]), none⟩, ⟨some 3, .q (.mv (.t 13)), none⟩, ⟨none, .e (.st 4 (.t 4) (.t 15)), none⟩]
def c38_10 : List SOper := [⟨some 16, .q (.ldn 4 (.t 4)), none⟩, ⟨some 17, .q (.mv (.t 3)), none⟩, ⟨some 18, .e (.call 57 [(.t 16), (.t 17)]), none⟩, ⟨some 19, .q (.not (.t 18)), none⟩]
def c38_11 : List SOper := [⟨some 2, .q (.mv (.c (.bool false))), none⟩]
def c38_12 : SCode := .seq (.region c38_11 [2]) .ret
def c38_13 : SCode := .cond (.t 19) c38_12 .skip
def c38_14 : SCode := .seq (.region c38_10 [9, 10, 11, 19]) c38_13
def c38_15 : SCode := .seq (.region c38_9 [3, 4, 9, 10, 11]) c38_14
def c38_16 : SCode := .block 1 c38_15
def c38_17 : List SOper := [⟨some 20, .q (.bin .add (.t 11) (.c (.int .i64 1))), none⟩, ⟨some 11, .q (.mv (.t 20)), none⟩]
def c38_18 : SCode := .seq c38_16 (.region c38_17 [9, 10, 11])
def c38_19 : SCode := .seq c38_8 c38_18
def c38_20 : SCode := .seq (.region c38_7 [9, 10, 11, 12]) c38_19
def c38_21 : SCode := .loop c38_20
def c38_22 : SCode := .block 0 c38_21
def c38_23 : SCode := .seq (.region c38_6 [9, 10, 11]) c38_22
def c38_24 : List SOper := [⟨some 2, .q (.mv (.c (.bool true))), none⟩]
def c38_25 : SCode := .seq (.region c38_24 [2]) .ret
def c38_26 : SCode := .seq c38_23 c38_25
def c38_27 : SCode := .seq c38_5 c38_26
def c38_28 : SCode := .seq (.region c38_0 [0]) c38_27
def c38 : SCode := c38_28
theorem w38 : type_of% (And.intro (uR Try.prog c38_0.eq_1) (And.intro (uR Try.prog c38_1.eq_1) (And.intro (uR Try.prog c38_2.eq_1) (And.intro (uC Try.prog c38_3.eq_1) (And.intro (uC Try.prog c38_4.eq_1) (And.intro (uC Try.prog c38_5.eq_1) (And.intro (uR Try.prog c38_6.eq_1) (And.intro (uR Try.prog c38_7.eq_1) (And.intro (uC Try.prog c38_8.eq_1) (And.intro (uR Try.prog c38_9.eq_1) (And.intro (uR Try.prog c38_10.eq_1) (And.intro (uR Try.prog c38_11.eq_1) (And.intro (uC Try.prog c38_12.eq_1) (And.intro (uC Try.prog c38_13.eq_1) (And.intro (uC Try.prog c38_14.eq_1) (And.intro (uC Try.prog c38_15.eq_1) (And.intro (uC Try.prog c38_16.eq_1) (And.intro (uR Try.prog c38_17.eq_1) (And.intro (uC Try.prog c38_18.eq_1) (And.intro (uC Try.prog c38_19.eq_1) (And.intro (uC Try.prog c38_20.eq_1) (And.intro (uC Try.prog c38_21.eq_1) (And.intro (uC Try.prog c38_22.eq_1) (And.intro (uC Try.prog c38_23.eq_1) (And.intro (uR Try.prog c38_24.eq_1) (And.intro (uC Try.prog c38_25.eq_1) (And.intro (uC Try.prog c38_26.eq_1) (And.intro (uC Try.prog c38_27.eq_1) (And.intro (uC Try.prog c38_28.eq_1) (uC Try.prog c38.eq_1)))))))))))))))))))))))))))))) := (And.intro (uR Try.prog c38_0.eq_1) (And.intro (uR Try.prog c38_1.eq_1) (And.intro (uR Try.prog c38_2.eq_1) (And.intro (uC Try.prog c38_3.eq_1) (And.intro (uC Try.prog c38_4.eq_1) (And.intro (uC Try.prog c38_5.eq_1) (And.intro (uR Try.prog c38_6.eq_1) (And.intro (uR Try.prog c38_7.eq_1) (And.intro (uC Try.prog c38_8.eq_1) (And.intro (uR Try.prog c38_9.eq_1) (And.intro (uR Try.prog c38_10.eq_1) (And.intro (uR Try.prog c38_11.eq_1) (And.intro (uC Try.prog c38_12.eq_1) (And.intro (uC Try.prog c38_13.eq_1) (And.intro (uC Try.prog c38_14.eq_1) (And.intro (uC Try.prog c38_15.eq_1) (And.intro (uC Try.prog c38_16.eq_1) (And.intro (uR Try.prog c38_17.eq_1) (And.intro (uC Try.prog c38_18.eq_1) (And.intro (uC Try.prog c38_19.eq_1) (And.intro (uC Try.prog c38_20.eq_1) (And.intro (uC Try.prog c38_21.eq_1) (And.intro (uC Try.prog c38_22.eq_1) (And.intro (uC Try.prog c38_23.eq_1) (And.intro (uR Try.prog c38_24.eq_1) (And.intro (uC Try.prog c38_25.eq_1) (And.intro (uC Try.prog c38_26.eq_1) (And.intro (uC Try.prog c38_27.eq_1) (And.intro (uC Try.prog c38_28.eq_1) (uC Try.prog c38.eq_1))))))))))))))))))))))))))))))
def v38 : List RV := [.t 2]
theorem s38 : slimF Try.prog Try.f38 = some (c38.bare, v38) := by kernel_rfl
/-! 44 loop.example/g00066/impl.SameGraph$1: parameters 2, live [0, 1], slots [0:x, 1:y, 2:x, 3:y] -/
def c44_0 : List SOper := [⟨some 2, .a (.box (.t 0)), none⟩, ⟨some 3, .a (.box (.t 1)), none⟩, ⟨some 4, .q (.mv (.c (.bool false))), none⟩]
def c44_1 : List SOper := [⟨some 5, .q (.fa 0 (.t 2)), none⟩, ⟨some 6, .q (.ld (.t 5)), none⟩, ⟨some 7, .q (.fa 0 (.t 3)), none⟩, ⟨some 8, .q (.ld (.t 7)), none⟩, ⟨some 9, .q (.bin .eql (.t 6) (.t 8)), none⟩, ⟨some 10, .q (.mv (.t 9)), none⟩, ⟨some 11, .q (.fa 1 (.t 2)), some (10, true)⟩, ⟨some 12, .q (.ld (.t 11)), some (10, true)⟩, ⟨some 13, .q (.fa 1 (.t 3)), some (10, true)⟩, ⟨some 14, .q (.ld (.t 13)), some (10, true)⟩, ⟨some 15, .q (.bin .eql (.t 12) (.t 14)), some (10, true)⟩, ⟨some 16, .q (.pick (.t 10) (.t 15) (.c (.bool false))), none⟩, ⟨some 17, .q (.mv (.t 16)), none⟩, ⟨some 18, .q (.fa 2 (.t 2)), some (17, true)⟩, ⟨some 19, .q (.ld (.t 18)), some (17, true)⟩, ⟨some 20, .q (.fa 2 (.t 3)), some (17, true)⟩, ⟨some 21, .q (.ld (.t 20)), some (17, true)⟩, ⟨some 22, .q (.bin .eql (.t 19) (.t 21)), some (17, true)⟩, ⟨some 23, .q (.pick (.t 17) (.t 22) (.c (.bool false))), none⟩, ⟨some 24, .q (.mv (.t 23)), none⟩, ⟨some 25, .q (.fa 3 (.t 2)), some (24, true)⟩, ⟨some 26, .q (.ld (.t 25)), some (24, true)⟩, ⟨some 27, .q (.fa 3 (.t 3)), some (24, true)⟩, ⟨some 28, .q (.ld (.t 27)), some (24, true)⟩, ⟨some 29, .e (.call 45 [(.t 26), (.t 28)]), some (24, true)⟩, ⟨some 30, .q (.pick (.t 24) (.t 29) (.c (.bool false))), none⟩, ⟨some 4, .q (.mv (.t 30)), none⟩]
def c44_2 : SCode := .seq (.region c44_1 [4]) .ret
def c44_3 : SCode := .seq (.region c44_0 [2, 3]) c44_2
def c44 : SCode := c44_3
theorem w44 : type_of% (And.intro (uR Try.prog c44_0.eq_1) (And.intro (uR Try.prog c44_1.eq_1) (And.intro (uC Try.prog c44_2.eq_1) (And.intro (uC Try.prog c44_3.eq_1) (uC Try.prog c44.eq_1))))) := (And.intro (uR Try.prog c44_0.eq_1) (And.intro (uR Try.prog c44_1.eq_1) (And.intro (uC Try.prog c44_2.eq_1) (And.intro (uC Try.prog c44_3.eq_1) (uC Try.prog c44.eq_1)))))
def v44 : List RV := [.t 4]
theorem s44 : slimF Try.prog Try.f44 = some (c44.bare, v44) := by kernel_rfl

theorem points_ok (h : Heap) (b : Bool) (t : Int) (p : Value) (a : Int) (hp : ldV h p = some (.int .i64 a)) (ha : 0 ≤ a ∧ a ≤ 281474976710656) :
    ACall Try.prog 68 [.bool b, .int .i64 t, p] h fun r h' => h' = h ∧ r = .bool (if b then decide (0 ≤ t ∧ t < a) else decide (t = 0)) := by
  refine ACall.of Try.func68 s68 (of_decide_eq_true rfl) ?_
  have W : IntKind.i64.wrap (a - 1) = a - 1 := i64w (by omega)
  cases b
  · simp (maxSteps := 4000000) (disch := omega) only [ah, am, Nat.reduceEqDiff, reduceCtorEq, Nat.reduceAdd, Nat.reduceLeDiff, Nat.reduceMul, Nat.reduceLT, if_true, if_false, true_and, and_true, and_self, Nat.reduceBEq, QOp.loads, boxO, bslO, buildO, cutL, fillV, putL, w68, v68, hp, W]
  · simp (maxSteps := 4000000) (disch := omega) only [ah, am, Nat.reduceEqDiff, reduceCtorEq, Nat.reduceAdd, Nat.reduceLeDiff, Nat.reduceMul, Nat.reduceLT, if_true, if_false, true_and, and_true, and_self, Nat.reduceBEq, QOp.loads, boxO, bslO, buildO, cutL, fillV, putL, w68, v68, hp, W]
    refine stepC.of (in_ok h t 0 (a - 1)) ?_
    rintro _ Hx ⟨hx, rfl⟩; rw [hx]; clear hx Hx
    by_cases q : 0 ≤ t ∧ t ≤ a - 1
    · simp (maxSteps := 4000000) (disch := omega) only [ah, am, Nat.reduceEqDiff, reduceCtorEq, Nat.reduceAdd, Nat.reduceLeDiff, Nat.reduceMul, Nat.reduceLT, if_true, if_false, true_and, and_true, and_self, Nat.reduceBEq, QOp.loads, boxO, bslO, buildO, cutL, fillV, putL, w68, v68, decide_eq_true q]
      rw [decide_eq_true]; omega
    · simp (maxSteps := 4000000) (disch := omega) only [ah, am, Nat.reduceEqDiff, reduceCtorEq, Nat.reduceAdd, Nat.reduceLeDiff, Nat.reduceMul, Nat.reduceLT, if_true, if_false, true_and, and_true, and_self, Nat.reduceBEq, QOp.loads, boxO, bslO, buildO, cutL, fillV, putL, w68, v68, decide_eq_false q]
      rw [decide_eq_false]; omega
theorem nodeOk_iff (x : Node) (a : Int) : nodeOk x a ↔ (1 ≤ x.kind ∧ x.kind ≤ 7) ∧ (if x.kind ≠ 1 then 0 ≤ x.inn ∧ x.inn < a else x.inn = 0) ∧ (if x.kind = 4 then 0 ≤ x.in2 ∧ x.in2 < a else x.in2 = 0) ∧ ((x.kind ≠ 1 ∧ x.kind ≠ 6 ∧ x.kind ≠ 7) ∨ plainF x.v) := by
  unfold nodeOk
  by_cases pl : plainF x.v <;> simp only [pl, and_true, and_false, or_true, or_false, true_and, false_or] <;> split <;> split <;> omega
theorem nodeOkI_ok (h : Heap) (x : Node) (a : Int) (ha : 0 ≤ a ∧ a ≤ 281474976710656) : ACall Try.prog 57 [.agg (encNode x).toArray, .int .i64 a] h fun r h' => Ext h h' ∧ r = .bool (decide (nodeOk x a)) := by
  obtain ⟨k, i, j, v⟩ := x
  refine ACall.of Try.func57 s57 (of_decide_eq_true rfl) ?_
  simp (maxSteps := 4000000) (disch := omega) only [ah, am, Nat.reduceEqDiff, reduceCtorEq, Nat.reduceAdd, Nat.reduceLeDiff, Nat.reduceMul, Nat.reduceLT, if_true, if_false, true_and, and_true, and_self, Nat.reduceBEq, QOp.loads, boxO, bslO, buildO, cutL, fillV, putL, w57, v57, encNode, fl]
  refine stepC.of (in_ok _ k 1 7) ?_
  rintro _ Hx ⟨hx, rfl⟩; rw [hx]; clear hx Hx
  by_cases hk : 1 ≤ k ∧ k ≤ 7
  rotate_left
  · simp (maxSteps := 4000000) (disch := omega) only [ah, am, Nat.reduceEqDiff, reduceCtorEq, Nat.reduceAdd, Nat.reduceLeDiff, Nat.reduceMul, Nat.reduceLT, if_true, if_false, true_and, and_true, and_self, Nat.reduceBEq, QOp.loads, boxO, bslO, buildO, cutL, fillV, putL, w57, v57, decide_eq_false hk, Bool.not_false]
    refine ⟨Ext.more _ _, ?_⟩
    rw [decide_eq_false]; unfold nodeOk; simp only; omega
  simp (maxSteps := 4000000) (disch := omega) only [ah, am, Nat.reduceEqDiff, reduceCtorEq, Nat.reduceAdd, Nat.reduceLeDiff, Nat.reduceMul, Nat.reduceLT, if_true, if_false, true_and, and_true, and_self, Nat.reduceBEq, QOp.loads, boxO, bslO, buildO, cutL, fillV, putL, w57, v57, decide_eq_true hk, Bool.not_true, fl]
  refine stepC.of (takes_ok _ ⟨k, i, j, v⟩) ?_
  rintro _ K ⟨e, rfl⟩
  simp only
  have X := e.ldk 0 rfl
  have A := (e.ldk 1 rfl).1
  have hf1 := Try.func68
  have hf2 : Try.f68.body.isSome = true := by rfl
  have hf3 : Try.f68.name ≠ "runtime.NumGoroutine" := by decide
  have e' := (Ext.more h [[Value.int IntKind.i64 k, Value.int IntKind.i64 i, Value.int IntKind.i64 j, Value.float FloatKind.f64 v], [Value.int IntKind.i64 a]]).trans e
  have q := nodeOk_iff ⟨k, i, j, v⟩ a
  simp only at q
  have X1 := X.1
  simp only [Nat.add_zero] at X1
  simp (maxSteps := 4000000) (disch := omega) only [ah, am, Nat.reduceEqDiff, reduceCtorEq, Nat.reduceAdd, Nat.reduceLeDiff, Nat.reduceMul, Nat.reduceLT, if_true, if_false, true_and, and_true, and_self, Nat.reduceBEq, QOp.loads, boxO, bslO, buildO, cutL, fillV, putL, w57, v57, has1, has2, hasV, X1]
  refine stepV.of hf1 hf2 hf3 (points_ok K _ i _ a (A 0) ha) ?_
  rintro _ Hx ⟨hx, rfl⟩; rw [hx]; clear hx Hx
  by_cases p1 : (if k ≠ 1 then 0 ≤ i ∧ i < a else i = 0)
  rotate_left
  · have r1 : (if decide (k ≠ 1) = true then decide (0 ≤ i ∧ i < a) else decide (i = 0)) = false := by split at p1 <;> simp_all
    simp (maxSteps := 4000000) (disch := omega) only [ah, am, Nat.reduceEqDiff, reduceCtorEq, Nat.reduceAdd, Nat.reduceLeDiff, Nat.reduceMul, Nat.reduceLT, if_true, if_false, true_and, and_true, and_self, Nat.reduceBEq, QOp.loads, boxO, bslO, buildO, cutL, fillV, putL, w57, v57, r1]
    exact ⟨e', by rw [decide_eq_false]; rw [q]; exact fun z => p1 z.2.1⟩
  have r1 : (if decide (k ≠ 1) = true then decide (0 ≤ i ∧ i < a) else decide (i = 0)) = true := by split at p1 <;> simp_all
  simp (maxSteps := 4000000) (disch := omega) only [ah, am, Nat.reduceEqDiff, reduceCtorEq, Nat.reduceAdd, Nat.reduceLeDiff, Nat.reduceMul, Nat.reduceLT, if_true, if_false, true_and, and_true, and_self, Nat.reduceBEq, QOp.loads, boxO, bslO, buildO, cutL, fillV, putL, w57, v57, r1, X1]
  refine stepV.of hf1 hf2 hf3 (points_ok K _ j _ a (A 0) ha) ?_
  rintro _ Hx ⟨hx, rfl⟩; rw [hx]; clear hx Hx
  by_cases p2 : (if k = 4 then 0 ≤ j ∧ j < a else j = 0)
  rotate_left
  · have r2 : (if decide (k = 4) = true then decide (0 ≤ j ∧ j < a) else decide (j = 0)) = false := by split at p2 <;> simp_all
    simp (maxSteps := 4000000) (disch := omega) only [ah, am, Nat.reduceEqDiff, reduceCtorEq, Nat.reduceAdd, Nat.reduceLeDiff, Nat.reduceMul, Nat.reduceLT, if_true, if_false, true_and, and_true, and_self, Nat.reduceBEq, QOp.loads, boxO, bslO, buildO, cutL, fillV, putL, w57, v57, r2]
    exact ⟨e', by rw [decide_eq_false]; rw [q]; exact fun z => p2 z.2.2.1⟩
  have r2 : (if decide (k = 4) = true then decide (0 ≤ j ∧ j < a) else decide (j = 0)) = true := by split at p2 <;> simp_all
  by_cases p3 : (k ≠ 1 ∧ k ≠ 6 ∧ k ≠ 7)
  · have r3 := decide_eq_true p3
    simp (maxSteps := 4000000) (disch := omega) only [ah, am, Nat.reduceEqDiff, reduceCtorEq, Nat.reduceAdd, Nat.reduceLeDiff, Nat.reduceMul, Nat.reduceLT, if_true, if_false, true_and, and_true, and_self, Nat.reduceBEq, QOp.loads, boxO, bslO, buildO, cutL, fillV, putL, w57, v57, r2, r3, X1]
    exact ⟨e', by rw [decide_eq_true]; rw [q]; exact ⟨hk, p1, p2, .inl p3⟩⟩
  · have r3 := decide_eq_false p3
    simp (maxSteps := 4000000) (disch := omega) only [ah, am, Nat.reduceEqDiff, reduceCtorEq, Nat.reduceAdd, Nat.reduceLeDiff, Nat.reduceMul, Nat.reduceLT, if_true, if_false, true_and, and_true, and_self, Nat.reduceBEq, QOp.loads, boxO, bslO, buildO, cutL, fillV, putL, w57, v57, r2, r3, X1]
    refine stepC.of (plainNought_ok K v) ?_
    rintro _ Hx ⟨hx, rfl⟩; rw [hx]; clear hx Hx
    by_cases pl : plainF v
    · simp (maxSteps := 4000000) (disch := omega) only [ah, am, Nat.reduceEqDiff, reduceCtorEq, Nat.reduceAdd, Nat.reduceLeDiff, Nat.reduceMul, Nat.reduceLT, if_true, if_false, true_and, and_true, and_self, Nat.reduceBEq, QOp.loads, boxO, bslO, buildO, cutL, fillV, putL, w57, v57, decide_eq_true pl]
      exact ⟨e', by rw [decide_eq_true]; rw [q]; exact ⟨hk, p1, p2, .inr pl⟩⟩
    · simp (maxSteps := 4000000) (disch := omega) only [ah, am, Nat.reduceEqDiff, reduceCtorEq, Nat.reduceAdd, Nat.reduceLeDiff, Nat.reduceMul, Nat.reduceLT, if_true, if_false, true_and, and_true, and_self, Nat.reduceBEq, QOp.loads, boxO, bslO, buildO, cutL, fillV, putL, w57, v57, decide_eq_false pl]
      exact ⟨e', by rw [decide_eq_false]; rw [q]; exact fun z => z.2.2.2.elim p3 pl⟩
theorem same1_ok (h : Heap) (x y : Node) : ACall Try.prog 44 [.agg (encNode x).toArray, .agg (encNode y).toArray] h fun r h' => Ext h h' ∧ r = .bool (decide (x.kind = y.kind ∧ x.inn = y.inn ∧ x.in2 = y.in2 ∧ sameF x.v y.v)) := by
  obtain ⟨k, i, j, v⟩ := x
  obtain ⟨k', i', j', v'⟩ := y
  refine ACall.of Try.func44 s44 (of_decide_eq_true rfl) ?_
  simp (maxSteps := 4000000) (disch := omega) only [ah, am, Nat.reduceEqDiff, reduceCtorEq, Nat.reduceAdd, Nat.reduceLeDiff, Nat.reduceMul, Nat.reduceLT, if_true, if_false, true_and, and_true, and_self, Nat.reduceBEq, QOp.loads, boxO, bslO, buildO, cutL, fillV, putL, w44, v44, encNode, fl]
  (repeat' first
    | (refine stepC.of (alike_ok _ v v') ?_; rintro _ _ ⟨rfl, rfl⟩; simp (maxSteps := 4000000) (disch := omega) only [ah, am, Nat.reduceEqDiff, reduceCtorEq, Nat.reduceAdd, Nat.reduceLeDiff, Nat.reduceMul, Nat.reduceLT, if_true, if_false, true_and, and_true, and_self, Nat.reduceBEq, QOp.loads, boxO, bslO, buildO, cutL, fillV, putL, i64w, w44, v44, fl])
    | (refine stepG.cases (fun _ hp => ?_) (fun _ hp => ?_) <;> simp (maxSteps := 4000000) (disch := omega) only [hp, ah, am, Nat.reduceEqDiff, reduceCtorEq, Nat.reduceAdd, Nat.reduceLeDiff, Nat.reduceMul, Nat.reduceLT, if_true, if_false, true_and, and_true, and_self, Nat.reduceBEq, QOp.loads, boxO, bslO, buildO, cutL, fillV, putL, i64w, w44, v44, fl])
    | (refine stepI.cases (fun _ hp => ?_) (fun _ hp => ?_) <;> simp (maxSteps := 4000000) (disch := omega) only [hp, ah, am, Nat.reduceEqDiff, reduceCtorEq, Nat.reduceAdd, Nat.reduceLeDiff, Nat.reduceMul, Nat.reduceLT, if_true, if_false, true_and, and_true, and_self, Nat.reduceBEq, QOp.loads, boxO, bslO, buildO, cutL, fillV, putL, i64w, w44, v44, fl]))
  all_goals (refine ⟨Ext.more _ _, ?_⟩; first | (simp_all; done) | refine bool_dec ?_; try simp only [decide_eq_true_eq, Bool.false_eq_true, false_and, and_false, true_and, and_true, false_iff, iff_false, true_iff, iff_true, not_false_eq_true, false_or, or_false, true_or, or_true]; first | done | omega | (refine Iff.intro (fun hq => ?_) (fun hq => ?_) <;> omega))
theorem implGraphOk_ok (h : Heap) (v : Value) (l : List Node) (s : SlT h encNode 4 v l) (hl : l.length ≤ 281474976710656) : ACall Try.prog 38 [v] h fun r h' => Ext h h' ∧ r = .bool (decide (graphOk l)) := by
  refine ACall.of Try.func38 s38 (of_decide_eq_true rfl) ?_
  have R := s.rulesN
  simp (maxSteps := 4000000) (disch := omega) only [ah, am, Nat.reduceEqDiff, reduceCtorEq, Nat.reduceAdd, Nat.reduceLeDiff, Nat.reduceMul, Nat.reduceLT, if_true, if_false, true_and, and_true, and_self, Nat.reduceBEq, QOp.loads, boxO, bslO, buildO, cutL, fillV, putL, w38, v38, R.1]
  refine stepC.of (in_ok _ (l.length : Int) 1 40) ?_
  rintro _ Hx ⟨hx, rfl⟩; rw [hx]; clear hx Hx
  by_cases hn : 1 ≤ (l.length : Int) ∧ (l.length : Int) ≤ 40
  rotate_left
  · simp (maxSteps := 4000000) (disch := omega) only [ah, am, Nat.reduceEqDiff, reduceCtorEq, Nat.reduceAdd, Nat.reduceLeDiff, Nat.reduceMul, Nat.reduceLT, if_true, if_false, true_and, and_true, and_self, Nat.reduceBEq, QOp.loads, boxO, bslO, buildO, cutL, fillV, putL, w38, v38, decide_eq_false hn, Bool.not_false]
    exact ⟨Ext.refl _, by rw [decide_eq_false]; exact fun q => hn q.1⟩
  simp (maxSteps := 4000000) (disch := omega) only [ah, am, Nat.reduceEqDiff, reduceCtorEq, Nat.reduceAdd, Nat.reduceLeDiff, Nat.reduceMul, Nat.reduceLT, if_true, if_false, true_and, and_true, and_self, Nat.reduceBEq, QOp.loads, boxO, bslO, buildO, cutL, fillV, putL, w38, v38, decide_eq_true hn, Bool.not_true, R.1]
  refine SW_loop_up (fun i E H => E = [(9, v), (10, .int .i64 l.length), (11, .int .i64 i)] ∧ Ext h H ∧ ∀ j (h1 : j < i) (h2 : j < l.length), nodeOk l[j] j) l.length 0 (by omega) ⟨rfl, .refl h, fun j h1 => absurd h1 (by omega)⟩ ?_
  rintro i E H hi ⟨rfl, e, F⟩
  have R := (s.ext e).rulesN
  have W : IntKind.i64.wrap ((i : Int) + 1) = ((i + 1 : Nat) : Int) := i64e (by omega) (by omega)
  simp (maxSteps := 4000000) (disch := omega) only [ah, am, Nat.reduceEqDiff, reduceCtorEq, Nat.reduceAdd, Nat.reduceLeDiff, Nat.reduceMul, Nat.reduceLT, if_true, if_false, true_and, and_true, and_self, Nat.reduceBEq, QOp.loads, boxO, bslO, buildO, cutL, fillV, putL, w38, v38, R.1]
  refine stepI.split (fun hp => ?_) (fun hp => ?_)
  · have hi2 : i < l.length := by omega
    have IA := R.2.1 .i64 i hi2
    have LN : ldnV H 4 (ptrAt v (i * 4)) = some (.agg (encNode l[i]).toArray) := R.2.2.2.2.2 i hi2
    simp (maxSteps := 4000000) (disch := omega) only [ah, am, Nat.reduceEqDiff, reduceCtorEq, Nat.reduceAdd, Nat.reduceLeDiff, Nat.reduceMul, Nat.reduceLT, if_true, if_false, true_and, and_true, and_self, Nat.reduceBEq, QOp.loads, boxO, bslO, buildO, cutL, fillV, putL, w38, v38, IA, LN, encNode, fl]
    refine stepC.of (nodeOkI_ok _ l[i] (i : Int) (by omega)) ?_
    rintro _ H2 ⟨e2, rfl⟩
    have e3 := (e.trans (Ext.more _ _)).trans e2
    by_cases ok : nodeOk l[i] (i : Int)
    · simp (maxSteps := 4000000) (disch := omega) only [ah, am, Nat.reduceEqDiff, reduceCtorEq, Nat.reduceAdd, Nat.reduceLeDiff, Nat.reduceMul, Nat.reduceLT, if_true, if_false, true_and, and_true, and_self, Nat.reduceBEq, QOp.loads, boxO, bslO, buildO, cutL, fillV, putL, w38, v38, decide_eq_true ok, Bool.not_true, W]
      refine ⟨by omega, e3, fun j h1 h2 => ?_⟩
      by_cases q : j = i
      · subst q; exact ok
      · exact F j (by omega) h2
    · simp (maxSteps := 4000000) (disch := omega) only [ah, am, Nat.reduceEqDiff, reduceCtorEq, Nat.reduceAdd, Nat.reduceLeDiff, Nat.reduceMul, Nat.reduceLT, if_true, if_false, true_and, and_true, and_self, Nat.reduceBEq, QOp.loads, boxO, bslO, buildO, cutL, fillV, putL, w38, v38, decide_eq_false ok, Bool.not_false]
      exact ⟨e3, by rw [decide_eq_false]; intro q; exact ok (q.2 i hi2)⟩
  · simp (maxSteps := 4000000) (disch := omega) only [ah, am, Nat.reduceEqDiff, reduceCtorEq, Nat.reduceAdd, Nat.reduceLeDiff, Nat.reduceMul, Nat.reduceLT, if_true, if_false, true_and, and_true, and_self, Nat.reduceBEq, QOp.loads, boxO, bslO, buildO, cutL, fillV, putL, w38, v38]
    exact ⟨e, by rw [decide_eq_true]; exact ⟨hn, fun j hj => F j (by omega) hj⟩⟩
end Go.Proofs.Ytdagajblnlemaaa
