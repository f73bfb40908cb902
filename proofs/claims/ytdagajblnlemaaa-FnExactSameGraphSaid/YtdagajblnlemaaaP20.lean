import Derived.Test.YtdagajblnlemaaaP18
import Derived.Test.YtdagajblnlemaaaP19
namespace Go.Proofs.Ytdagajblnlemaaa
open Go Go.Ah
set_option linter.unusedSimpArgs false
set_option linter.unusedVariables false
set_option maxRecDepth 10000
set_option maxHeartbeats 4000000
/-! 17 loop.example/g00066/impl.SameGraph: parameters 2, live [0, 1], slots [0:a, 1:b, 2:a, 3:b] -/
def c17_0 : List SOper := [⟨some 4, .q (.mv (.c (.bool false))), none⟩]
def c17_1 : List SOper := [⟨some 5, .q (.mv (.t 0)), none⟩, ⟨some 6, .e (.call 38 [(.t 5)]), none⟩, ⟨some 7, .q (.not (.t 6)), none⟩, ⟨some 8, .q (.mv (.t 7)), none⟩, ⟨some 9, .q (.mv (.t 1)), some (8, false)⟩, ⟨some 10, .e (.call 38 [(.t 9)]), some (8, false)⟩, ⟨some 11, .q (.not (.t 10)), some (8, false)⟩, ⟨some 12, .q (.pick (.t 8) (.c (.bool true)) (.t 11)), none⟩]
def c17_2 : List SOper := [⟨some 4, .q (.mv (.c (.bool false))), none⟩]
def c17_3 : SCode := .seq (.region c17_2 [4]) .ret
def c17_4 : SCode := .cond (.t 12) c17_3 .skip
def c17_5 : SCode := .seq (.region c17_1 [0, 1, 12]) c17_4
def c17_6 : List SOper := [⟨some 13, .q (.mv (.t 0)), none⟩, ⟨some 14, .e (.call 12 [(.t 13)]), none⟩, ⟨some 15, .q (.mv (.t 1)), none⟩, ⟨some 16, .e (.call 12 [(.t 15)]), none⟩, ⟨some 17, .e (.call 43 [(.t 14), (.t 16), (.f 44)]), none⟩, ⟨some 4, .q (.mv (.t 17)), none⟩]
def c17_7 : SCode := .seq (.region c17_6 [4]) .ret
def c17_8 : SCode := .seq c17_5 c17_7
def c17_9 : SCode := .seq (.region c17_0 [0, 1]) c17_8
def c17 : SCode := c17_9
theorem w17 : type_of% (And.intro (uR Try.prog c17_0.eq_1) (And.intro (uR Try.prog c17_1.eq_1) (And.intro (uR Try.prog c17_2.eq_1) (And.intro (uC Try.prog c17_3.eq_1) (And.intro (uC Try.prog c17_4.eq_1) (And.intro (uC Try.prog c17_5.eq_1) (And.intro (uR Try.prog c17_6.eq_1) (And.intro (uC Try.prog c17_7.eq_1) (And.intro (uC Try.prog c17_8.eq_1) (And.intro (uC Try.prog c17_9.eq_1) (uC Try.prog c17.eq_1))))))))))) := (And.intro (uR Try.prog c17_0.eq_1) (And.intro (uR Try.prog c17_1.eq_1) (And.intro (uR Try.prog c17_2.eq_1) (And.intro (uC Try.prog c17_3.eq_1) (And.intro (uC Try.prog c17_4.eq_1) (And.intro (uC Try.prog c17_5.eq_1) (And.intro (uR Try.prog c17_6.eq_1) (And.intro (uC Try.prog c17_7.eq_1) (And.intro (uC Try.prog c17_8.eq_1) (And.intro (uC Try.prog c17_9.eq_1) (uC Try.prog c17.eq_1)))))))))))
def v17 : List RV := [.t 4]
theorem s17 : slimF Try.prog Try.f17 = some (c17.bare, v17) := by kernel_rfl
/-! 43 slices.EqualFunc[[]loop.example/g00066/impl.Node,[]loop.example/g00066/impl.Node,loop.example/g00066/impl.Node,loop.example/g00066/impl.Node]: parameters 3, live [0, 1, 2], slots [0:s1, 1:s2, 2:eq, 3:s1, 4:s2, 5:eq, 7:i, 8:v1, 9:v2] -/
def c43_0 : List SOper := [⟨some 6, .q (.mv (.c (.bool false))), none⟩]
def c43_1 : List SOper := [⟨some 10, .q (.mv (.t 0)), none⟩, ⟨some 11, .q (.len (.t 10)), none⟩, ⟨some 12, .q (.mv (.t 1)), none⟩, ⟨some 13, .q (.len (.t 12)), none⟩, ⟨some 14, .q (.bin .neq (.t 11) (.t 13)), none⟩]
def c43_2 : List SOper := [⟨some 6, .q (.mv (.c (.bool false))), none⟩]
def c43_3 : SCode := .seq (.region c43_2 [6]) .ret
def c43_4 : SCode := .cond (.t 14) c43_3 .skip
def c43_5 : SCode := .seq (.region c43_1 [0, 1, 2, 14]) c43_4
def c43_6 : List SOper := [⟨some 15, .q (.mv (.t 0)), none⟩, ⟨some 16, .q (.len (.t 15)), none⟩, ⟨some 17, .q (.mv (.c (.int .i64 0))), none⟩]
def c43_7 : List SOper := [⟨some 18, .q (.bin .lss (.t 17) (.t 16)), none⟩]
def c43_8 : SCode := .cond (.t 18) .skip (.exit 0)
def c43_9 : List SOper := [⟨some 19, .q (.mv (.t 17)), none⟩, ⟨some 20, .q (.ia 4 (.t 15) (.t 17)), none⟩, ⟨some 21, .q (.ldn 4 (.t 20)), none⟩, ⟨some 8, .a (.new [(.int .i64 0), (.int .i64 0), (.int .i64 0), (.float .f64 0)]), none⟩, ⟨some 7, .q (.mv (.t 19)), none⟩, ⟨none, .e (.st 4 (.t 8) (.t 21)), none⟩]
def c43_10 : List SOper := [⟨some 22, .q (.mv (.t 1)), none⟩, ⟨some 23, .q (.mv (.t 7)), none⟩, ⟨some 24, .q (.ia 4 (.t 22) (.t 23)), none⟩, ⟨some 25, .q (.ldn 4 (.t 24)), none⟩, ⟨some 9, .a (.new [(.int .i64 0), (.int .i64 0), (.int .i64 0), (.float .f64 0)]), none⟩, ⟨none, .e (.st 4 (.t 9) (.t 25)), none⟩]
def c43_11 : List SOper := [⟨some 26, .q (.mv (.t 2)), none⟩, ⟨some 27, .q (.ldn 4 (.t 8)), none⟩, ⟨some 28, .q (.ldn 4 (.t 9)), none⟩, ⟨some 29, .e (.callv (.t 26) [(.t 27), (.t 28)]), none⟩, ⟨some 30, .q (.not (.t 29)), none⟩]
def c43_12 : List SOper := [⟨some 6, .q (.mv (.c (.bool false))), none⟩]
def c43_13 : SCode := .seq (.region c43_12 [6]) .ret
def c43_14 : SCode := .cond (.t 30) c43_13 .skip
def c43_15 : SCode := .seq (.region c43_11 [1, 2, 15, 16, 17, 30]) c43_14
def c43_16 : SCode := .seq (.region c43_10 [1, 2, 8, 9, 15, 16, 17]) c43_15
def c43_17 : SCode := .seq (.region c43_9 [1, 2, 7, 8, 15, 16, 17]) c43_16
def c43_18 : SCode := .block 1 c43_17
def c43_19 : List SOper := [⟨some 31, .q (.bin .add (.t 17) (.c (.int .i64 1))), none⟩, ⟨some 17, .q (.mv (.t 31)), none⟩]
def c43_20 : SCode := .seq c43_18 (.region c43_19 [1, 2, 15, 16, 17])
def c43_21 : SCode := .seq c43_8 c43_20
def c43_22 : SCode := .seq (.region c43_7 [1, 2, 15, 16, 17, 18]) c43_21
def c43_23 : SCode := .loop c43_22
def c43_24 : SCode := .block 0 c43_23
def c43_25 : SCode := .seq (.region c43_6 [1, 2, 15, 16, 17]) c43_24
def c43_26 : List SOper := [⟨some 6, .q (.mv (.c (.bool true))), none⟩]
def c43_27 : SCode := .seq (.region c43_26 [6]) .ret
def c43_28 : SCode := .seq c43_25 c43_27
def c43_29 : SCode := .seq c43_5 c43_28
def c43_30 : SCode := .seq (.region c43_0 [0, 1, 2]) c43_29
def c43 : SCode := c43_30
theorem w43 : type_of% (And.intro (uR Try.prog c43_0.eq_1) (And.intro (uR Try.prog c43_1.eq_1) (And.intro (uR Try.prog c43_2.eq_1) (And.intro (uC Try.prog c43_3.eq_1) (And.intro (uC Try.prog c43_4.eq_1) (And.intro (uC Try.prog c43_5.eq_1) (And.intro (uR Try.prog c43_6.eq_1) (And.intro (uR Try.prog c43_7.eq_1) (And.intro (uC Try.prog c43_8.eq_1) (And.intro (uR Try.prog c43_9.eq_1) (And.intro (uR Try.prog c43_10.eq_1) (And.intro (uR Try.prog c43_11.eq_1) (And.intro (uR Try.prog c43_12.eq_1) (And.intro (uC Try.prog c43_13.eq_1) (And.intro (uC Try.prog c43_14.eq_1) (And.intro (uC Try.prog c43_15.eq_1) (And.intro (uC Try.prog c43_16.eq_1) (And.intro (uC Try.prog c43_17.eq_1) (And.intro (uC Try.prog c43_18.eq_1) (And.intro (uR Try.prog c43_19.eq_1) (And.intro (uC Try.prog c43_20.eq_1) (And.intro (uC Try.prog c43_21.eq_1) (And.intro (uC Try.prog c43_22.eq_1) (And.intro (uC Try.prog c43_23.eq_1) (And.intro (uC Try.prog c43_24.eq_1) (And.intro (uC Try.prog c43_25.eq_1) (And.intro (uR Try.prog c43_26.eq_1) (And.intro (uC Try.prog c43_27.eq_1) (And.intro (uC Try.prog c43_28.eq_1) (And.intro (uC Try.prog c43_29.eq_1) (And.intro (uC Try.prog c43_30.eq_1) (uC Try.prog c43.eq_1)))))))))))))))))))))))))))))))) := (And.intro (uR Try.prog c43_0.eq_1) (And.intro (uR Try.prog c43_1.eq_1) (And.intro (uR Try.prog c43_2.eq_1) (And.intro (uC Try.prog c43_3.eq_1) (And.intro (uC Try.prog c43_4.eq_1) (And.intro (uC Try.prog c43_5.eq_1) (And.intro (uR Try.prog c43_6.eq_1) (And.intro (uR Try.prog c43_7.eq_1) (And.intro (uC Try.prog c43_8.eq_1) (And.intro (uR Try.prog c43_9.eq_1) (And.intro (uR Try.prog c43_10.eq_1) (And.intro (uR Try.prog c43_11.eq_1) (And.intro (uR Try.prog c43_12.eq_1) (And.intro (uC Try.prog c43_13.eq_1) (And.intro (uC Try.prog c43_14.eq_1) (And.intro (uC Try.prog c43_15.eq_1) (And.intro (uC Try.prog c43_16.eq_1) (And.intro (uC Try.prog c43_17.eq_1) (And.intro (uC Try.prog c43_18.eq_1) (And.intro (uR Try.prog c43_19.eq_1) (And.intro (uC Try.prog c43_20.eq_1) (And.intro (uC Try.prog c43_21.eq_1) (And.intro (uC Try.prog c43_22.eq_1) (And.intro (uC Try.prog c43_23.eq_1) (And.intro (uC Try.prog c43_24.eq_1) (And.intro (uC Try.prog c43_25.eq_1) (And.intro (uR Try.prog c43_26.eq_1) (And.intro (uC Try.prog c43_27.eq_1) (And.intro (uC Try.prog c43_28.eq_1) (And.intro (uC Try.prog c43_29.eq_1) (And.intro (uC Try.prog c43_30.eq_1) (uC Try.prog c43.eq_1))))))))))))))))))))))))))))))))
def v43 : List RV := [.t 6]
theorem s43 : slimF Try.prog Try.f43 = some (c43.bare, v43) := by kernel_rfl

theorem EqualFuncN_ok (h : Heap) (x y : Value) (p q : List Node) (sx : SlT h encNode 4 x p) (sy : SlT h encNode 4 y q) (hp : p.length ≤ 281474976710656) (hq : q.length ≤ 281474976710656) :
    ACall Try.prog 43 [x, y, .func (.func 44) #[] #[]] h fun r h' => Ext h h' ∧ r = .bool (decide (sameL p q)) := by
  have hf1 := Try.func44
  have hf2 : Try.f44.body.isSome = true := by rfl
  have hf3 : Try.f44.name ≠ "runtime.NumGoroutine" := by decide
  refine ACall.of Try.func43 s43 (of_decide_eq_true rfl) ?_
  have Rx := sx.rulesN
  have Ry := sy.rulesN
  by_cases h1 : ((p.length : Int) = q.length)
  rotate_left
  · simp (maxSteps := 4000000) (disch := omega) only [ah, am, Nat.reduceEqDiff, reduceCtorEq, Nat.reduceAdd, Nat.reduceLeDiff, Nat.reduceMul, Nat.reduceLT, if_true, if_false, true_and, and_true, and_self, Nat.reduceBEq, QOp.loads, boxO, bslO, buildO, cutL, fillV, putL, w43, v43, Rx.1, Ry.1, decide_eq_false h1, Bool.not_false]
    exact ⟨Ext.refl h, by rw [decide_eq_false]; intro z; exact h1 (by rw [z.1])⟩
  simp (maxSteps := 4000000) (disch := omega) only [ah, am, Nat.reduceEqDiff, reduceCtorEq, Nat.reduceAdd, Nat.reduceLeDiff, Nat.reduceMul, Nat.reduceLT, if_true, if_false, true_and, and_true, and_self, Nat.reduceBEq, QOp.loads, boxO, bslO, buildO, cutL, fillV, putL, w43, v43, Rx.1, Ry.1, decide_eq_true h1, Bool.not_true]
  refine SW_loop_up (fun i E H => E = [(1, y), (2, .func (.func 44) #[] #[]), (15, x), (16, .int .i64 p.length), (17, .int .i64 i)] ∧ Ext h H ∧ ∀ j, j < i → sameN (nd p j) (nd q j)) p.length 0 (by omega)
    ⟨rfl, Ext.refl h, fun j h1 => absurd h1 (by omega)⟩ ?_
  rintro i E H hi ⟨rfl, e, F⟩
  have W : IntKind.i64.wrap ((i : Int) + 1) = ((i + 1 : Nat) : Int) := i64e (by omega) (by omega)
  by_cases c0 : i < p.length
  rotate_left
  · simp (maxSteps := 4000000) (disch := omega) only [ah, am, Nat.reduceEqDiff, reduceCtorEq, Nat.reduceAdd, Nat.reduceLeDiff, Nat.reduceMul, Nat.reduceLT, if_true, if_false, true_and, and_true, and_self, Nat.reduceBEq, QOp.loads, boxO, bslO, buildO, cutL, fillV, putL, w43, v43, decide_eq_false (show ¬ ((i : Int) < (p.length : Int)) by omega)]
    exact ⟨e, by rw [decide_eq_true]; exact ⟨by omega, fun j hj => F j (by omega)⟩⟩
  have c1 : i < q.length := by omega
  have lt1 : decide ((i : Int) < (p.length : Int)) = true := decide_eq_true (by omega)
  have nx := nd_eq c0
  have ny := nd_eq c1
  have RX := (sx.ext e).rulesN
  have IX := RX.2.1 .i64 i c0
  have LX : ldnV H 4 (ptrAt x (i * 4)) = some (.agg (encNode p[i]).toArray) := RX.2.2.2.2.2 i c0
  have e1 := Ext.more H [encNode p[i]]
  have RY := (sy.ext (e.trans e1)).rulesN
  have IY := RY.2.1 .i64 i c1
  have LY : ldnV (H.more [encNode p[i]]) 4 (ptrAt y (i * 4)) = some (.agg (encNode q[i]).toArray) := RY.2.2.2.2.2 i c1
  have LY' := LY
  have LX' := LX
  generalize hx : p[i] = a at *
  generalize hy : q[i] = b at *
  have sm := same1_ok ((H.more [encNode a]).more [encNode b]) a b
  obtain ⟨k, u, w, f⟩ := a
  obtain ⟨k', u', w', f'⟩ := b
  simp only [encNode] at LX LY sm
  simp (maxSteps := 4000000) (disch := omega) only [ah, am, Nat.reduceEqDiff, reduceCtorEq, Nat.reduceAdd, Nat.reduceLeDiff, Nat.reduceMul, Nat.reduceLT, if_true, if_false, true_and, and_true, and_self, Nat.reduceBEq, QOp.loads, boxO, bslO, buildO, cutL, fillV, putL, w43, v43, lt1, Rx.1, IX, LX, IY, LY, fl, nilV_func]
  refine stepV.of hf1 hf2 hf3 sm ?_
  rintro _ H2 ⟨e2, rfl⟩
  have e3 : Ext h H2 := (((e.trans e1).trans (Ext.more _ _)).trans e2)
  by_cases sn : (k = k' ∧ u = u' ∧ w = w' ∧ sameF f f')
  · simp (maxSteps := 4000000) (disch := omega) only [ah, am, Nat.reduceEqDiff, reduceCtorEq, Nat.reduceAdd, Nat.reduceLeDiff, Nat.reduceMul, Nat.reduceLT, if_true, if_false, true_and, and_true, and_self, Nat.reduceBEq, QOp.loads, boxO, bslO, buildO, cutL, fillV, putL, w43, v43, decide_eq_true sn, Bool.not_true, W]
    refine ⟨c0, e3, fun j hj => ?_⟩
    by_cases z : j = i
    · subst z; rw [nx, ny]; exact sn
    · exact F j (by omega)
  · simp (maxSteps := 4000000) (disch := omega) only [ah, am, Nat.reduceEqDiff, reduceCtorEq, Nat.reduceAdd, Nat.reduceLeDiff, Nat.reduceMul, Nat.reduceLT, if_true, if_false, true_and, and_true, and_self, Nat.reduceBEq, QOp.loads, boxO, bslO, buildO, cutL, fillV, putL, w43, v43, decide_eq_false sn, Bool.not_false]
    refine ⟨e3, ?_⟩
    rw [decide_eq_false]; intro z; have := z.2 i c0; rw [nx, ny] at this; exact sn this
theorem implSameGraph_ok (h : Heap) (va vb : Value) (a b : List Node) (sa : SlT h encNode 4 va a) (sb : SlT h encNode 4 vb b) (hla : a.length ≤ 281474976710656) (hlb : b.length ≤ 281474976710656) :
    ACall Try.prog 17 [va, vb] h fun r h' => Ext h h' ∧ r = .bool (decide (sameG a b)) := by
  refine ACall.of Try.func17 s17 (of_decide_eq_true rfl) ?_
  simp (maxSteps := 4000000) (disch := omega) only [ah, am, Nat.reduceEqDiff, reduceCtorEq, Nat.reduceAdd, Nat.reduceLeDiff, Nat.reduceMul, Nat.reduceLT, if_true, if_false, true_and, and_true, and_self, Nat.reduceBEq, QOp.loads, boxO, bslO, buildO, cutL, fillV, putL, w17, v17]
  refine stepC.of (implGraphOk_ok h va a sa hla) ?_
  rintro _ H1 ⟨e1, rfl⟩
  by_cases oka : graphOk a
  rotate_left
  · simp (maxSteps := 4000000) (disch := omega) only [ah, am, Nat.reduceEqDiff, reduceCtorEq, Nat.reduceAdd, Nat.reduceLeDiff, Nat.reduceMul, Nat.reduceLT, if_true, if_false, true_and, and_true, and_self, Nat.reduceBEq, QOp.loads, boxO, bslO, buildO, cutL, fillV, putL, w17, v17, decide_eq_false oka, Bool.not_false]
    exact ⟨e1, by rw [decide_eq_false]; exact fun z => oka z.1⟩
  simp (maxSteps := 4000000) (disch := omega) only [ah, am, Nat.reduceEqDiff, reduceCtorEq, Nat.reduceAdd, Nat.reduceLeDiff, Nat.reduceMul, Nat.reduceLT, if_true, if_false, true_and, and_true, and_self, Nat.reduceBEq, QOp.loads, boxO, bslO, buildO, cutL, fillV, putL, w17, v17, decide_eq_true oka, Bool.not_true]
  refine stepC.of (implGraphOk_ok H1 vb b (sb.ext e1) hlb) ?_
  rintro _ H2 ⟨e2, rfl⟩
  by_cases okb : graphOk b
  rotate_left
  · simp (maxSteps := 4000000) (disch := omega) only [ah, am, Nat.reduceEqDiff, reduceCtorEq, Nat.reduceAdd, Nat.reduceLeDiff, Nat.reduceMul, Nat.reduceLT, if_true, if_false, true_and, and_true, and_self, Nat.reduceBEq, QOp.loads, boxO, bslO, buildO, cutL, fillV, putL, w17, v17, decide_eq_false okb, Bool.not_false]
    exact ⟨e1.trans e2, by rw [decide_eq_false]; exact fun z => okb z.2.1⟩
  simp (maxSteps := 4000000) (disch := omega) only [ah, am, Nat.reduceEqDiff, reduceCtorEq, Nat.reduceAdd, Nat.reduceLeDiff, Nat.reduceMul, Nat.reduceLT, if_true, if_false, true_and, and_true, and_self, Nat.reduceBEq, QOp.loads, boxO, bslO, buildO, cutL, fillV, putL, w17, v17, decide_eq_true okb, Bool.not_true]
  refine stepC.of (implPruned_ok H2 va a (sa.ext (e1.trans e2)) hla) ?_
  intro x H3 Fx
  simp (maxSteps := 4000000) (disch := omega) only [ah, am, Nat.reduceEqDiff, reduceCtorEq, Nat.reduceAdd, Nat.reduceLeDiff, Nat.reduceMul, Nat.reduceLT, if_true, if_false, true_and, and_true, and_self, Nat.reduceBEq, QOp.loads, boxO, bslO, buildO, cutL, fillV, putL, w17, v17]
  refine stepC.of (implPruned_ok H3 vb b (sb.ext ((e1.trans e2).trans Fx.1)) hlb) ?_
  intro y H4 Fy
  have h1 := pruned_len a
  have h2 := pruned_len b
  simp (maxSteps := 4000000) (disch := omega) only [ah, am, Nat.reduceEqDiff, reduceCtorEq, Nat.reduceAdd, Nat.reduceLeDiff, Nat.reduceMul, Nat.reduceLT, if_true, if_false, true_and, and_true, and_self, Nat.reduceBEq, QOp.loads, boxO, bslO, buildO, cutL, fillV, putL, w17, v17]
  refine stepC.of (EqualFuncN_ok H4 x y _ _ (Fx.ext Fy.1).slt Fy.slt (by omega) (by omega)) ?_
  rintro _ H5 ⟨e5, rfl⟩
  simp (maxSteps := 4000000) (disch := omega) only [ah, am, Nat.reduceEqDiff, reduceCtorEq, Nat.reduceAdd, Nat.reduceLeDiff, Nat.reduceMul, Nat.reduceLT, if_true, if_false, true_and, and_true, and_self, Nat.reduceBEq, QOp.loads, boxO, bslO, buildO, cutL, fillV, putL, w17, v17]
  refine ⟨((((e1.trans e2).trans Fx.1).trans Fy.1).trans e5), ?_⟩
  congr 2
  exact propext ⟨fun z => ⟨oka, okb, z⟩, fun z => z.2.2⟩
end Go.Proofs.Ytdagajblnlemaaa
