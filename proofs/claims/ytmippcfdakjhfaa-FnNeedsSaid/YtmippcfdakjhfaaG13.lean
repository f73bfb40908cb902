import Derived.Test.YtmippcfdakjhfaaG12
namespace Go.Proofs.Ytmippcfdakjhfaa
open Go Go.Ah
set_option linter.unusedSimpArgs false
set_option linter.unusedVariables false
set_option maxRecDepth 10000
set_option maxHeartbeats 4000000
theorem missF_len (a b : List Reel) : (missF a b).length ≤ 300 * 301 := by
  unfold missF
  split
  · rename_i h
    have h1 := toldF_len a
    have h2 := toldF_len b
    have := h.1.1
    have := h.2.1
    exact Nat.le_trans (miss_len _ _) (Nat.mul_le_mul (by omega) (by omega))
  · simp
def covF (a b : List Reel) : Prop := reelsF a ∧ reelsF b ∧ missF a b = []
instance (a b : List Reel) : Decidable (covF a b) := by unfold covF; infer_instance
theorem Covered_ok (h : Heap) (va vb : Value) (a b : List Reel) (sa : SlT h encReel 3 va a) (sb : SlT h encReel 3 vb b) : ACall Try.prog 11 [va, vb] h fun r h' => Ext h h' ∧ r = .bool (decide (covF a b)) := by
  refine ACall.of Try.func11 s11 (of_decide_eq_true rfl) ?_
  simp (maxSteps := 4000000) (disch := omega) only [ah, am, Nat.reduceEqDiff, reduceCtorEq, Nat.reduceAdd, Nat.reduceLeDiff, Nat.reduceMul, Nat.reduceLT, if_true, if_false, true_and, and_true, and_self, Nat.reduceBEq, QOp.loads, boxO, bslO, buildO, cutL, fillV, putL, w11, v11]
  refine stepC.of (reelsOk_ok _ va a sa) ?_
  rintro _ H1 ⟨e1, rfl⟩
  by_cases c1 : reelsF a
  rotate_left
  · simp (maxSteps := 4000000) (disch := omega) only [ah, am, Nat.reduceEqDiff, reduceCtorEq, Nat.reduceAdd, Nat.reduceLeDiff, Nat.reduceMul, Nat.reduceLT, if_true, if_false, true_and, and_true, and_self, Nat.reduceBEq, QOp.loads, boxO, bslO, buildO, cutL, fillV, putL, w11, v11, decide_eq_false c1]
    exact ⟨e1, by rw [decide_eq_false fun q => c1 q.1]⟩
  simp (maxSteps := 4000000) (disch := omega) only [ah, am, Nat.reduceEqDiff, reduceCtorEq, Nat.reduceAdd, Nat.reduceLeDiff, Nat.reduceMul, Nat.reduceLT, if_true, if_false, true_and, and_true, and_self, Nat.reduceBEq, QOp.loads, boxO, bslO, buildO, cutL, fillV, putL, w11, v11, decide_eq_true c1]
  refine stepC.of (reelsOk_ok _ vb b (sb.ext e1)) ?_
  rintro _ H2 ⟨e2, rfl⟩
  have E2 := e1.trans e2
  by_cases c2 : reelsF b
  rotate_left
  · simp (maxSteps := 4000000) (disch := omega) only [ah, am, Nat.reduceEqDiff, reduceCtorEq, Nat.reduceAdd, Nat.reduceLeDiff, Nat.reduceMul, Nat.reduceLT, if_true, if_false, true_and, and_true, and_self, Nat.reduceBEq, QOp.loads, boxO, bslO, buildO, cutL, fillV, putL, w11, v11, decide_eq_false c2]
    exact ⟨E2, by rw [decide_eq_false fun q => c2 q.2.1]⟩
  simp (maxSteps := 4000000) (disch := omega) only [ah, am, Nat.reduceEqDiff, reduceCtorEq, Nat.reduceAdd, Nat.reduceLeDiff, Nat.reduceMul, Nat.reduceLT, if_true, if_false, true_and, and_true, and_self, Nat.reduceBEq, QOp.loads, boxO, bslO, buildO, cutL, fillV, putL, w11, v11, decide_eq_true c2]
  refine stepC.of (Missing_ok _ va vb a b (sa.ext E2) (sb.ext E2)) ?_
  intro mv H3 F
  have E3 := E2.trans F.1
  have hl := missF_len a b
  have R := F.slt.rulesN
  simp (maxSteps := 4000000) (disch := omega) only [ah, am, Nat.reduceEqDiff, reduceCtorEq, Nat.reduceAdd, Nat.reduceLeDiff, Nat.reduceMul, Nat.reduceLT, if_true, if_false, true_and, and_true, and_self, Nat.reduceBEq, QOp.loads, boxO, bslO, buildO, cutL, fillV, putL, w11, v11, R.1]
  refine ⟨E3, ?_⟩
  rw [show decide (covF a b) = decide (((missF a b).length : Int) = 0) from decide_eq_decide.mpr ⟨fun q => by rw [q.2.2]; rfl, fun q => ⟨c1, c2, List.eq_nil_of_length_eq_zero (by omega)⟩⟩]
theorem specCovered_ok (h : Heap) (va vb : Value) (a b : List Reel) (sa : SlT h encReel 3 va a) (sb : SlT h encReel 3 vb b) : ACall Try.prog 9 [va, vb] h fun r h' => Ext h h' ∧ r = .bool (decide (covF a b)) := by
  refine ACall.of Try.func9 s9 (of_decide_eq_true rfl) ?_
  simp (maxSteps := 4000000) (disch := omega) only [ah, am, Nat.reduceEqDiff, reduceCtorEq, Nat.reduceAdd, Nat.reduceLeDiff, Nat.reduceMul, Nat.reduceLT, if_true, if_false, true_and, and_true, and_self, Nat.reduceBEq, QOp.loads, boxO, bslO, buildO, cutL, fillV, putL, w9, v9]
  refine stepC.of (l7Reels_ok _ va a sa) ?_
  rintro _ H1 ⟨e1, rfl⟩
  by_cases c1 : reelsF a
  rotate_left
  · simp (maxSteps := 4000000) (disch := omega) only [ah, am, Nat.reduceEqDiff, reduceCtorEq, Nat.reduceAdd, Nat.reduceLeDiff, Nat.reduceMul, Nat.reduceLT, if_true, if_false, true_and, and_true, and_self, Nat.reduceBEq, QOp.loads, boxO, bslO, buildO, cutL, fillV, putL, w9, v9, decide_eq_false c1]
    exact ⟨e1, by rw [decide_eq_false fun q => c1 q.1]⟩
  simp (maxSteps := 4000000) (disch := omega) only [ah, am, Nat.reduceEqDiff, reduceCtorEq, Nat.reduceAdd, Nat.reduceLeDiff, Nat.reduceMul, Nat.reduceLT, if_true, if_false, true_and, and_true, and_self, Nat.reduceBEq, QOp.loads, boxO, bslO, buildO, cutL, fillV, putL, w9, v9, decide_eq_true c1]
  refine stepC.of (l7Reels_ok _ vb b (sb.ext e1)) ?_
  rintro _ H2 ⟨e2, rfl⟩
  have E2 := e1.trans e2
  by_cases c2 : reelsF b
  rotate_left
  · simp (maxSteps := 4000000) (disch := omega) only [ah, am, Nat.reduceEqDiff, reduceCtorEq, Nat.reduceAdd, Nat.reduceLeDiff, Nat.reduceMul, Nat.reduceLT, if_true, if_false, true_and, and_true, and_self, Nat.reduceBEq, QOp.loads, boxO, bslO, buildO, cutL, fillV, putL, w9, v9, decide_eq_false c2]
    exact ⟨E2, by rw [decide_eq_false fun q => c2 q.2.1]⟩
  simp (maxSteps := 4000000) (disch := omega) only [ah, am, Nat.reduceEqDiff, reduceCtorEq, Nat.reduceAdd, Nat.reduceLeDiff, Nat.reduceMul, Nat.reduceLT, if_true, if_false, true_and, and_true, and_self, Nat.reduceBEq, QOp.loads, boxO, bslO, buildO, cutL, fillV, putL, w9, v9, decide_eq_true c2]
  refine stepC.of (specMissing_ok _ va vb a b (sa.ext E2) (sb.ext E2)) ?_
  intro mv H3 F
  have E3 := E2.trans F.1
  have hl := missF_len a b
  have R := F.slt.rulesN
  simp (maxSteps := 4000000) (disch := omega) only [ah, am, Nat.reduceEqDiff, reduceCtorEq, Nat.reduceAdd, Nat.reduceLeDiff, Nat.reduceMul, Nat.reduceLT, if_true, if_false, true_and, and_true, and_self, Nat.reduceBEq, QOp.loads, boxO, bslO, buildO, cutL, fillV, putL, w9, v9, R.1]
  refine ⟨E3, ?_⟩
  rw [show decide (covF a b) = decide (((missF a b).length : Int) = 0) from decide_eq_decide.mpr ⟨fun q => by rw [q.2.2]; rfl, fun q => ⟨c1, c2, List.eq_nil_of_length_eq_zero (by omega)⟩⟩]
end Go.Proofs.Ytmippcfdakjhfaa
