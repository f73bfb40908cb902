import Derived.Test.YtbnppofkpgfhnaaS4
namespace Go.Proofs.Ytbnppofkpgfhnaa
open Go Go.Ah
set_option linter.unusedSimpArgs false
set_option linter.unusedVariables false
set_option maxRecDepth 10000
set_option maxHeartbeats 4000000

/-- A pair of a list and a bool, as a call answers it. -/
def Pair (h h' : Heap) (r : Value) (p : List Clip × Bool) : Prop := ∃ rv, r = .tuple #[rv, .bool p.2] ∧ Fresh h h' encClip 3 rv p.1
def editF (l : List Clip) : List Clip × Bool := if (∀ k ∈ l, clipOk k) ∧ trackOk (join l) then (join l, true) else ([], false)
theorem Pair.mono {h0 h h' : Heap} {r : Value} {p : List Clip × Bool} (f : Pair h h' r p) (e : Ext h0 h) : Pair h0 h' r p := by
  obtain ⟨rv, e1, f⟩ := f; exact ⟨rv, e1, f.mono e⟩
theorem l4Edit_ok (h : Heap) (v : Value) (l : List Clip) (s : SlT h encClip 3 v l) (hl : l.length ≤ 1100000) : ACall Try.prog 62 [v] h fun r h' => Pair h h' r (editF l) := by
  refine ACall.of Try.func62 s62 (of_decide_eq_true rfl) ?_
  simp (maxSteps := 4000000) (disch := omega) only [ah, am, Nat.reduceEqDiff, reduceCtorEq, Nat.reduceAdd, Nat.reduceLeDiff, Nat.reduceMul, Nat.reduceLT, if_true, if_false, true_and, and_true, and_self, Nat.reduceBEq, QOp.loads, boxO, bslO, buildO, cutL, fillV, putL, w62, v62]
  refine SW_loop_up (fun i E H => E = [(0, v), (4, .int .i64 i)] ∧ Ext h H ∧ ∀ k ∈ l.take i, clipOk k) l.length 0 (by omega) ⟨rfl, Ext.refl h, by simp⟩ ?_
  rintro i E H hi ⟨rfl, e, F⟩
  have R := (s.ext e).rulesN
  have W : IntKind.i64.wrap ((i : Int) + 1) = ((i + 1 : Nat) : Int) := i64e (by omega) (by omega)
  simp (maxSteps := 4000000) (disch := omega) only [ah, am, Nat.reduceEqDiff, reduceCtorEq, Nat.reduceAdd, Nat.reduceLeDiff, Nat.reduceMul, Nat.reduceLT, if_true, if_false, true_and, and_true, and_self, Nat.reduceBEq, QOp.loads, boxO, bslO, buildO, cutL, fillV, putL, w62, v62, R]
  refine stepI.split (fun hp => ?_) (fun hp => ?_)
  · simp (maxSteps := 4000000) (disch := omega) only [ah, am, Nat.reduceEqDiff, reduceCtorEq, Nat.reduceAdd, Nat.reduceLeDiff, Nat.reduceMul, Nat.reduceLT, if_true, if_false, true_and, and_true, and_self, Nat.reduceBEq, QOp.loads, boxO, bslO, buildO, cutL, fillV, putL, w62, v62, R, W]
    refine stepC.of (l4Clip_ok _ _) ?_
    rintro r H1 ⟨e1, rfl⟩
    simp (maxSteps := 4000000) (disch := omega) only [ah, am, Nat.reduceEqDiff, reduceCtorEq, Nat.reduceAdd, Nat.reduceLeDiff, Nat.reduceMul, Nat.reduceLT, if_true, if_false, true_and, and_true, and_self, Nat.reduceBEq, QOp.loads, boxO, bslO, buildO, cutL, fillV, putL, w62, v62, R, W]
    refine stepI.split (fun hk => ?_) (fun hk => ?_)
    · simp (maxSteps := 4000000) (disch := omega) only [ah, am, Nat.reduceEqDiff, reduceCtorEq, Nat.reduceAdd, Nat.reduceLeDiff, Nat.reduceMul, Nat.reduceLT, if_true, if_false, true_and, and_true, and_self, Nat.reduceBEq, QOp.loads, boxO, bslO, buildO, cutL, fillV, putL, w62, v62, R, W]
      exact ⟨by omega, e.trans e1, all_take (by omega) F hk⟩
    · simp (maxSteps := 4000000) (disch := omega) only [ah, am, Nat.reduceEqDiff, reduceCtorEq, Nat.reduceAdd, Nat.reduceLeDiff, Nat.reduceMul, Nat.reduceLT, if_true, if_false, true_and, and_true, and_self, Nat.reduceBEq, QOp.loads, boxO, bslO, buildO, cutL, fillV, putL, w62, v62]
      have hn : editF l = ([], false) := if_neg fun q => hk (q.1 _ (List.getElem_mem _))
      exact ⟨_, by rw [hn], by rw [hn]; exact (Fresh.new0 H1 encClip_len (by omega)).mono (e.trans e1)⟩
  · simp (maxSteps := 4000000) (disch := omega) only [ah, am, Nat.reduceEqDiff, reduceCtorEq, Nat.reduceAdd, Nat.reduceLeDiff, Nat.reduceMul, Nat.reduceLT, if_true, if_false, true_and, and_true, and_self, Nat.reduceBEq, QOp.loads, boxO, bslO, buildO, cutL, fillV, putL, w62, v62, R, W]
    obtain rfl : i = l.length := by omega
    rw [List.take_length] at F
    refine stepC.of (l4Join_ok _ _ _ (s.ext e) hl (fun k hk => (F k hk).in)) ?_
    intro r H1 F1
    simp (maxSteps := 4000000) (disch := omega) only [ah, am, Nat.reduceEqDiff, reduceCtorEq, Nat.reduceAdd, Nat.reduceLeDiff, Nat.reduceMul, Nat.reduceLT, if_true, if_false, true_and, and_true, and_self, Nat.reduceBEq, QOp.loads, boxO, bslO, buildO, cutL, fillV, putL, w62, v62]
    refine stepC.of (TrackOk_ok _ _ _ F1.slt (by have := join_length l; omega)) ?_
    rintro _ H2 ⟨e2, rfl⟩
    simp (maxSteps := 4000000) (disch := omega) only [ah, am, Nat.reduceEqDiff, reduceCtorEq, Nat.reduceAdd, Nat.reduceLeDiff, Nat.reduceMul, Nat.reduceLT, if_true, if_false, true_and, and_true, and_self, Nat.reduceBEq, QOp.loads, boxO, bslO, buildO, cutL, fillV, putL, w62, v62]
    refine stepI.split (fun hk => ?_) (fun hk => ?_)
    · simp (maxSteps := 4000000) (disch := omega) only [ah, am, Nat.reduceEqDiff, reduceCtorEq, Nat.reduceAdd, Nat.reduceLeDiff, Nat.reduceMul, Nat.reduceLT, if_true, if_false, true_and, and_true, and_self, Nat.reduceBEq, QOp.loads, boxO, bslO, buildO, cutL, fillV, putL, w62, v62]
      have hn : editF l = (join l, true) := if_pos ⟨F, hk⟩
      exact ⟨_, by rw [hn], by rw [hn]; exact (F1.ext e2).mono e⟩
    · simp (maxSteps := 4000000) (disch := omega) only [ah, am, Nat.reduceEqDiff, reduceCtorEq, Nat.reduceAdd, Nat.reduceLeDiff, Nat.reduceMul, Nat.reduceLT, if_true, if_false, true_and, and_true, and_self, Nat.reduceBEq, QOp.loads, boxO, bslO, buildO, cutL, fillV, putL, w62, v62]
      have hn : editF l = ([], false) := if_neg fun q => hk q.2
      exact ⟨_, by rw [hn], by rw [hn]; exact (Fresh.new0 H2 encClip_len (by omega)).mono (e.trans (F1.1.trans e2))⟩
def cAt (l : List Clip) (i : Int) : Clip := l.getD i.toNat zClip
def realAt (l : List Clip) (i : Int) : Prop := 0 ≤ i ∧ i < l.length ∧ (cAt l i).src ≠ 0
instance (l : List Clip) (i : Int) : Decidable (realAt l i) := by unfold realAt; infer_instance
theorem cAt_eq (l : List Clip) (i : Int) (hi : i.toNat < l.length) : cAt l i = l[i.toNat] := by
  simp only [cAt, List.getD_eq_getElem?_getD, List.getElem?_eq_getElem hi, Option.getD_some]
/-- A clip that is no gap turned into another one. -/
def turnF (l : List Clip) (i n : Int) (f : Clip → Clip) : List Clip × Bool :=
  if trackOk l ∧ (-10000000 ≤ n ∧ n ≤ 10000000) ∧ realAt l i then editF (l.set i.toNat (f (cAt l i))) else ([], false)
end Go.Proofs.Ytbnppofkpgfhnaa
