import Derived.Test.YtknpombiomnkbaaI6
import Derived.Test.YtknpombiomnkbaaS12
namespace Go.Proofs.Ytknpombiomnkbaa
open Go Go.Ah
set_option linter.unusedSimpArgs false
set_option linter.unusedVariables false
set_option maxRecDepth 10000
set_option maxHeartbeats 4000000
/-! 62 slices.Reverse[[]loop.example/g00066/impl.Clip,loop.example/g00066/impl.Clip]: parameters 1, live [0], slots [0:s, 1:s, 2:i, 3:j] -/
def c62_0 : List SOper := [⟨some 4, .q (.mv (.t 0)), none⟩, ⟨some 5, .q (.len (.t 4)), none⟩, ⟨some 6, .q (.bin .sub (.t 5) (.c (.int .i64 1))), none⟩, ⟨some 2, .q (.mv (.c (.int .i64 0))), none⟩, ⟨some 3, .q (.mv (.t 6)), none⟩]
def c62_1 : List SOper := [⟨some 7, .q (.mv (.t 2)), none⟩, ⟨some 8, .q (.mv (.t 3)), none⟩, ⟨some 9, .q (.bin .lss (.t 7) (.t 8)), none⟩]
def c62_2 : SCode := .cond (.t 9) .skip (.exit 0)
def c62_3 : SCode := .seq (.region c62_1 [0, 2, 3, 9]) c62_2
def c62_4 : List SOper := [⟨some 14, .q (.mv (.t 0)), none⟩, ⟨some 15, .q (.mv (.t 2)), none⟩, ⟨some 16, .q (.mv (.t 0)), none⟩, ⟨some 17, .q (.mv (.t 3)), none⟩, ⟨some 18, .q (.mv (.t 0)), none⟩, ⟨some 19, .q (.mv (.t 3)), none⟩, ⟨some 20, .q (.ia 3 (.t 18) (.t 19)), none⟩, ⟨some 21, .q (.ldn 3 (.t 20)), none⟩, ⟨some 22, .q (.mv (.t 0)), none⟩, ⟨some 23, .q (.mv (.t 2)), none⟩, ⟨some 24, .q (.ia 3 (.t 22) (.t 23)), none⟩, ⟨some 25, .q (.ldn 3 (.t 24)), none⟩, ⟨some 26, .q (.ia 3 (.t 14) (.t 15)), none⟩, ⟨none, .e (.st 3 (.t 26) (.t 21)), none⟩, ⟨some 27, .q (.ia 3 (.t 16) (.t 17)), none⟩, ⟨none, .e (.st 3 (.t 27) (.t 25)), none⟩]
def c62_5 : SCode := .block 1 (.region c62_4 [0, 2, 3])
def c62_6 : List SOper := [⟨some 10, .q (.mv (.t 2)), none⟩, ⟨some 11, .q (.bin .add (.t 10) (.c (.int .i64 1))), none⟩, ⟨some 12, .q (.mv (.t 3)), none⟩, ⟨some 13, .q (.bin .sub (.t 12) (.c (.int .i64 1))), none⟩, ⟨some 2, .q (.mv (.t 11)), none⟩, ⟨some 3, .q (.mv (.t 13)), none⟩]
def c62_7 : SCode := .seq c62_5 (.region c62_6 [0, 2, 3])
def c62_8 : SCode := .seq c62_3 c62_7
def c62_9 : SCode := .loop c62_8
def c62_10 : SCode := .block 0 c62_9
def c62_11 : SCode := .seq (.region c62_0 [0, 2, 3]) c62_10
def c62 : SCode := c62_11
theorem w62 : type_of% (And.intro (uR Try.prog c62_0.eq_1) (And.intro (uR Try.prog c62_1.eq_1) (And.intro (uC Try.prog c62_2.eq_1) (And.intro (uC Try.prog c62_3.eq_1) (And.intro (uR Try.prog c62_4.eq_1) (And.intro (uC Try.prog c62_5.eq_1) (And.intro (uR Try.prog c62_6.eq_1) (And.intro (uC Try.prog c62_7.eq_1) (And.intro (uC Try.prog c62_8.eq_1) (And.intro (uC Try.prog c62_9.eq_1) (And.intro (uC Try.prog c62_10.eq_1) (And.intro (uC Try.prog c62_11.eq_1) (uC Try.prog c62.eq_1))))))))))))) := (And.intro (uR Try.prog c62_0.eq_1) (And.intro (uR Try.prog c62_1.eq_1) (And.intro (uC Try.prog c62_2.eq_1) (And.intro (uC Try.prog c62_3.eq_1) (And.intro (uR Try.prog c62_4.eq_1) (And.intro (uC Try.prog c62_5.eq_1) (And.intro (uR Try.prog c62_6.eq_1) (And.intro (uC Try.prog c62_7.eq_1) (And.intro (uC Try.prog c62_8.eq_1) (And.intro (uC Try.prog c62_9.eq_1) (And.intro (uC Try.prog c62_10.eq_1) (And.intro (uC Try.prog c62_11.eq_1) (uC Try.prog c62.eq_1)))))))))))))
def v62 : List RV := []
theorem s62 : slimF Try.prog Try.f62 = some (c62.bare, v62) := by kernel_rfl

/-- Turned round as far as i from both ends. -/
def turnAt {α : Type} (l : List α) (i : Nat) (L : List α) : Prop := L.length = l.length ∧ ∀ k, k < l.length → L[k]? = if k < i ∨ l.length ≤ k + i then l[l.length - 1 - k]? else l[k]?
theorem turnAt.zero {α : Type} (l : List α) : turnAt l 0 l := ⟨rfl, fun k hk => by rw [if_neg (by omega)]⟩
theorem turnAt.succ {α : Type} {l L : List α} {i : Nat} (t : turnAt l i L) (hi : i < l.length - 1 - i) (h1 : i < L.length) (h2 : l.length - 1 - i < L.length) :
    turnAt l (i + 1) ((L.set i L[l.length - 1 - i]).set (l.length - 1 - i) L[i]) := by
  obtain ⟨hl, t⟩ := t
  have g1 : some L[l.length - 1 - i] = l[l.length - 1 - i]? := by rw [← List.getElem?_eq_getElem h2, t _ (by omega), if_neg (by omega)]
  have g2 : some L[i] = l[i]? := by rw [← List.getElem?_eq_getElem h1, t _ (by omega), if_neg (by omega)]
  refine ⟨by simp [hl], fun k hk => ?_⟩
  rw [List.getElem?_set, List.getElem?_set]
  by_cases hk1 : l.length - 1 - i = k
  · subst hk1
    rw [if_pos rfl, if_pos (by simp; omega), if_pos (by omega), g2]; congr 1; omega
  · rw [if_neg hk1]
    by_cases hk2 : i = k
    · subst hk2
      rw [if_pos rfl, if_pos h1, if_pos (by omega), g1]
    · rw [if_neg hk2, t k hk]
      by_cases hc : k < i ∨ l.length ≤ k + i
      · rw [if_pos hc, if_pos (by omega)]
      · rw [if_neg hc, if_neg (by omega)]
theorem turnAt.fin {α : Type} {l L : List α} {i : Nat} (t : turnAt l i L) (hi : l.length ≤ 2 * i + 1) : L = l.reverse := by
  obtain ⟨hl, t⟩ := t
  apply List.ext_getElem?
  intro k
  by_cases hk : k < l.length
  · rw [t k hk, List.getElem?_reverse hk]
    by_cases hc : k < i ∨ l.length ≤ k + i
    · rw [if_pos hc]
    · rw [if_neg hc, show l.length - 1 - k = k by omega]
  · rw [List.getElem?_eq_none (by omega), List.getElem?_eq_none (by simp; omega)]
theorem slReverse_ok (h0 h : Heap) (v : Value) (l : List Clip) (F : Fresh h0 h encClip 3 v l) (hl : l.length ≤ 1100000) :
    ACall Try.prog 62 [v] h fun r h' => Fresh h0 h' encClip 3 v l.reverse := by
  refine ACall.of Try.func62 s62 (of_decide_eq_true rfl) ?_
  have R := F.slt.rulesN
  simp (maxSteps := 4000000) (disch := omega) only [ah, am, Nat.reduceEqDiff, reduceCtorEq, Nat.reduceAdd, Nat.reduceLeDiff, Nat.reduceMul, Nat.reduceLT, if_true, if_false, true_and, and_true, and_self, Nat.reduceBEq, QOp.loads, boxO, bslO, buildO, cutL, fillV, putL, w62, v62, R, i64w]
  refine SW_loop_up (fun i E H => E = [(0, v), (2, .int .i64 i), (3, .int .i64 ((l.length : Int) - 1 - i))] ∧ ∃ L, Fresh h0 H encClip 3 v L ∧ turnAt l i L) l.length 0 (by omega) ⟨by simp, l, F, .zero l⟩ ?_
  rintro i E H hi ⟨rfl, L, F, T⟩
  have R := F.slt.rulesN
  have hL := T.1
  have W : IntKind.i64.wrap ((i : Int) + 1) = ((i + 1 : Nat) : Int) := i64e (by omega) (by omega)
  have W2 : IntKind.i64.wrap ((l.length : Int) - 1 - i - 1) = (l.length : Int) - 1 - ((i + 1 : Nat) : Int) := i64e (by omega) (by omega)
  simp (maxSteps := 4000000) (disch := omega) only [ah, am, Nat.reduceEqDiff, reduceCtorEq, Nat.reduceAdd, Nat.reduceLeDiff, Nat.reduceMul, Nat.reduceLT, if_true, if_false, true_and, and_true, and_self, Nat.reduceBEq, QOp.loads, boxO, bslO, buildO, cutL, fillV, putL, w62, v62, R]
  refine stepI.split (fun hp => ?_) (fun hp => ?_)
  · have hjj : (l.length : Int) - 1 - (i : Int) = ((l.length - 1 - i : Nat) : Int) := by omega
    have h1 : i < L.length := by omega
    have h2 : l.length - 1 - i < L.length := by omega
    have T2 := T.succ (by omega) h1 h2
    obtain ⟨H2, es1, F2, -⟩ := F.set (j := i) h1 L[l.length - 1 - i] rfl
    have R2 := F2.slt.rulesN
    obtain ⟨H3, es2, F3, -⟩ := F2.set (j := l.length - 1 - i) (by simp; omega) L[i] rfl
    simp only [List.length_set] at R2
    rw [hjj] at W2 ⊢
    simp (maxSteps := 4000000) (disch := omega) only [ah, am, Nat.reduceEqDiff, reduceCtorEq, Nat.reduceAdd, Nat.reduceLeDiff, Nat.reduceMul, Nat.reduceLT, if_true, if_false, true_and, and_true, and_self, Nat.reduceBEq, QOp.loads, boxO, bslO, buildO, cutL, fillV, putL, w62, v62, R, R2, W, W2, es1, es2]
    exact ⟨by omega, _, F3, T2⟩
  · simp (maxSteps := 4000000) (disch := omega) only [ah, am, Nat.reduceEqDiff, reduceCtorEq, Nat.reduceAdd, Nat.reduceLeDiff, Nat.reduceMul, Nat.reduceLT, if_true, if_false, true_and, and_true, and_self, Nat.reduceBEq, QOp.loads, boxO, bslO, buildO, cutL, fillV, putL, w62, v62]
    rw [← T.fin (by omega)]; exact F
end Go.Proofs.Ytknpombiomnkbaa
