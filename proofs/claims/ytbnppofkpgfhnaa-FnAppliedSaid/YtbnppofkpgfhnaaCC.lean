import Derived.Test.YtbnppofkpgfhnaaI6
import Derived.Test.YtbnppofkpgfhnaaCB
namespace Go.Proofs.Ytbnppofkpgfhnaa
open Go Go.Ah
set_option linter.unusedSimpArgs false
set_option linter.unusedVariables false
set_option maxRecDepth 10000
set_option maxHeartbeats 4000000
/-! 79 slices.Reverse[[]loop.example/g00066/impl.Clip,loop.example/g00066/impl.Clip]: parameters 1, live [0], slots [0:s, 1:s, 2:i, 3:j] -/
def c79_0 : List SOper := [⟨some 4, .q (.mv (.t 0)), none⟩, ⟨some 5, .q (.len (.t 4)), none⟩, ⟨some 6, .q (.bin .sub (.t 5) (.c (.int .i64 1))), none⟩, ⟨some 2, .q (.mv (.c (.int .i64 0))), none⟩, ⟨some 3, .q (.mv (.t 6)), none⟩]
def c79_1 : List SOper := [⟨some 7, .q (.mv (.t 2)), none⟩, ⟨some 8, .q (.mv (.t 3)), none⟩, ⟨some 9, .q (.bin .lss (.t 7) (.t 8)), none⟩]
def c79_2 : SCode := .cond (.t 9) .skip (.exit 0)
def c79_3 : SCode := .seq (.region c79_1 [0, 2, 3, 9]) c79_2
def c79_4 : List SOper := [⟨some 14, .q (.mv (.t 0)), none⟩, ⟨some 15, .q (.mv (.t 2)), none⟩, ⟨some 16, .q (.mv (.t 0)), none⟩, ⟨some 17, .q (.mv (.t 3)), none⟩, ⟨some 18, .q (.mv (.t 0)), none⟩, ⟨some 19, .q (.mv (.t 3)), none⟩, ⟨some 20, .q (.ia 3 (.t 18) (.t 19)), none⟩, ⟨some 21, .q (.ldn 3 (.t 20)), none⟩, ⟨some 22, .q (.mv (.t 0)), none⟩, ⟨some 23, .q (.mv (.t 2)), none⟩, ⟨some 24, .q (.ia 3 (.t 22) (.t 23)), none⟩, ⟨some 25, .q (.ldn 3 (.t 24)), none⟩, ⟨some 26, .q (.ia 3 (.t 14) (.t 15)), none⟩, ⟨none, .e (.st 3 (.t 26) (.t 21)), none⟩, ⟨some 27, .q (.ia 3 (.t 16) (.t 17)), none⟩, ⟨none, .e (.st 3 (.t 27) (.t 25)), none⟩]
def c79_5 : SCode := .block 1 (.region c79_4 [0, 2, 3])
def c79_6 : List SOper := [⟨some 10, .q (.mv (.t 2)), none⟩, ⟨some 11, .q (.bin .add (.t 10) (.c (.int .i64 1))), none⟩, ⟨some 12, .q (.mv (.t 3)), none⟩, ⟨some 13, .q (.bin .sub (.t 12) (.c (.int .i64 1))), none⟩, ⟨some 2, .q (.mv (.t 11)), none⟩, ⟨some 3, .q (.mv (.t 13)), none⟩]
def c79_7 : SCode := .seq c79_5 (.region c79_6 [0, 2, 3])
def c79_8 : SCode := .seq c79_3 c79_7
def c79_9 : SCode := .loop c79_8
def c79_10 : SCode := .block 0 c79_9
def c79_11 : SCode := .seq (.region c79_0 [0, 2, 3]) c79_10
def c79 : SCode := c79_11
theorem w79 : type_of% (And.intro (uR Try.prog c79_0.eq_1) (And.intro (uR Try.prog c79_1.eq_1) (And.intro (uC Try.prog c79_2.eq_1) (And.intro (uC Try.prog c79_3.eq_1) (And.intro (uR Try.prog c79_4.eq_1) (And.intro (uC Try.prog c79_5.eq_1) (And.intro (uR Try.prog c79_6.eq_1) (And.intro (uC Try.prog c79_7.eq_1) (And.intro (uC Try.prog c79_8.eq_1) (And.intro (uC Try.prog c79_9.eq_1) (And.intro (uC Try.prog c79_10.eq_1) (And.intro (uC Try.prog c79_11.eq_1) (uC Try.prog c79.eq_1))))))))))))) := (And.intro (uR Try.prog c79_0.eq_1) (And.intro (uR Try.prog c79_1.eq_1) (And.intro (uC Try.prog c79_2.eq_1) (And.intro (uC Try.prog c79_3.eq_1) (And.intro (uR Try.prog c79_4.eq_1) (And.intro (uC Try.prog c79_5.eq_1) (And.intro (uR Try.prog c79_6.eq_1) (And.intro (uC Try.prog c79_7.eq_1) (And.intro (uC Try.prog c79_8.eq_1) (And.intro (uC Try.prog c79_9.eq_1) (And.intro (uC Try.prog c79_10.eq_1) (And.intro (uC Try.prog c79_11.eq_1) (uC Try.prog c79.eq_1)))))))))))))
def v79 : List RV := []
theorem s79 : slimF Try.prog Try.f79 = some (c79.bare, v79) := by kernel_rfl

/-- Turned round as far as i from both ends. -/
def turnAt {α : Type} (l : List α) (i : Nat) (L : List α) : Prop := L.length = l.length ∧ ∀ k, k < l.length → L[k]? = if k < i ∨ l.length ≤ k + i then l[l.length - 1 - k]? else l[k]?
theorem turnAt.zero {α : Type} (l : List α) : turnAt l 0 l := ⟨rfl, fun k hk => by rw [if_neg (by omega)]⟩
theorem turnAt.succ {α : Type} {l L : List α} {i : Nat} (t : turnAt l i L) (hi : i < l.length - 1 - i) (h1 : i < L.length) (h2 : l.length - 1 - i < L.length) :
    turnAt l (i + 1) ((L.set i L[l.length - 1 - i]).set (l.length - 1 - i) L[i]) := by
  obtain ⟨hl, t⟩ := t
  have g1 : some L[l.length - 1 - i] = l[l.length - 1 - i]? := by rw [← List.getElem?_eq_getElem h2, t _ (by omega), if_neg (by omega)]
  have g2 : some L[i] = l[i]? := by rw [← List.getElem?_eq_getElem h1, t _ (by omega), if_neg (by omega)]
  refine ⟨by simp [hl], fun k hk => ?_⟩
  rw [List.getElem?_set, List.getElem?_set]
  by_cases hk1 : l.length - 1 - i = k
  · subst hk1
    rw [if_pos rfl, if_pos (by simp; omega), if_pos (by omega), g2]; congr 1; omega
  · rw [if_neg hk1]
    by_cases hk2 : i = k
    · subst hk2
      rw [if_pos rfl, if_pos h1, if_pos (by omega), g1]
    · rw [if_neg hk2, t k hk]
      by_cases hc : k < i ∨ l.length ≤ k + i
      · rw [if_pos hc, if_pos (by omega)]
      · rw [if_neg hc, if_neg (by omega)]
theorem turnAt.fin {α : Type} {l L : List α} {i : Nat} (t : turnAt l i L) (hi : l.length ≤ 2 * i + 1) : L = l.reverse := by
  obtain ⟨hl, t⟩ := t
  apply List.ext_getElem?
  intro k
  by_cases hk : k < l.length
  · rw [t k hk, List.getElem?_reverse hk]
    by_cases hc : k < i ∨ l.length ≤ k + i
    · rw [if_pos hc]
    · rw [if_neg hc, show l.length - 1 - k = k by omega]
  · rw [List.getElem?_eq_none (by omega), List.getElem?_eq_none (by simp; omega)]
theorem slReverse_ok (h0 h : Heap) (v : Value) (l : List Clip) (F : Fresh h0 h encClip 3 v l) (hl : l.length ≤ 1100000) :
    ACall Try.prog 79 [v] h fun r h' => Fresh h0 h' encClip 3 v l.reverse := by
  refine ACall.of Try.func79 s79 (of_decide_eq_true rfl) ?_
  have R := F.slt.rulesN
  simp (maxSteps := 4000000) (disch := omega) only [ah, am, Nat.reduceEqDiff, reduceCtorEq, Nat.reduceAdd, Nat.reduceLeDiff, Nat.reduceMul, Nat.reduceLT, if_true, if_false, true_and, and_true, and_self, Nat.reduceBEq, QOp.loads, boxO, bslO, buildO, cutL, fillV, putL, w79, v79, R, i64w]
  refine SW_loop_up (fun i E H => E = [(0, v), (2, .int .i64 i), (3, .int .i64 ((l.length : Int) - 1 - i))] ∧ ∃ L, Fresh h0 H encClip 3 v L ∧ turnAt l i L) l.length 0 (by omega) ⟨by simp, l, F, .zero l⟩ ?_
  rintro i E H hi ⟨rfl, L, F, T⟩
  have R := F.slt.rulesN
  have hL := T.1
  have W : IntKind.i64.wrap ((i : Int) + 1) = ((i + 1 : Nat) : Int) := i64e (by omega) (by omega)
  have W2 : IntKind.i64.wrap ((l.length : Int) - 1 - i - 1) = (l.length : Int) - 1 - ((i + 1 : Nat) : Int) := i64e (by omega) (by omega)
  simp (maxSteps := 4000000) (disch := omega) only [ah, am, Nat.reduceEqDiff, reduceCtorEq, Nat.reduceAdd, Nat.reduceLeDiff, Nat.reduceMul, Nat.reduceLT, if_true, if_false, true_and, and_true, and_self, Nat.reduceBEq, QOp.loads, boxO, bslO, buildO, cutL, fillV, putL, w79, v79, R]
  refine stepI.split (fun hp => ?_) (fun hp => ?_)
  · have hjj : (l.length : Int) - 1 - (i : Int) = ((l.length - 1 - i : Nat) : Int) := by omega
    have h1 : i < L.length := by omega
    have h2 : l.length - 1 - i < L.length := by omega
    have T2 := T.succ (by omega) h1 h2
    obtain ⟨H2, es1, F2, -⟩ := F.set (j := i) h1 L[l.length - 1 - i] rfl
    have R2 := F2.slt.rulesN
    obtain ⟨H3, es2, F3, -⟩ := F2.set (j := l.length - 1 - i) (by simp; omega) L[i] rfl
    simp only [List.length_set] at R2
    rw [hjj] at W2 ⊢
    simp (maxSteps := 4000000) (disch := omega) only [ah, am, Nat.reduceEqDiff, reduceCtorEq, Nat.reduceAdd, Nat.reduceLeDiff, Nat.reduceMul, Nat.reduceLT, if_true, if_false, true_and, and_true, and_self, Nat.reduceBEq, QOp.loads, boxO, bslO, buildO, cutL, fillV, putL, w79, v79, R, R2, W, W2, es1, es2]
    exact ⟨by omega, _, F3, T2⟩
  · simp (maxSteps := 4000000) (disch := omega) only [ah, am, Nat.reduceEqDiff, reduceCtorEq, Nat.reduceAdd, Nat.reduceLeDiff, Nat.reduceMul, Nat.reduceLT, if_true, if_false, true_and, and_true, and_self, Nat.reduceBEq, QOp.loads, boxO, bslO, buildO, cutL, fillV, putL, w79, v79]
    rw [← T.fin (by omega)]; exact F
end Go.Proofs.Ytbnppofkpgfhnaa

namespace Go.Proofs.Ytbnppofkpgfhnaa
open Go Go.Ah
set_option linter.unusedSimpArgs false
set_option linter.unusedVariables false
set_option maxRecDepth 10000
set_option maxHeartbeats 4000000
/-! 77 loop.example/g00066/impl.passed: parameters 3, live [0, 1, 2], slots [0:list, 1:i, 2:n, 3:list, 4:i, 5:n] -/
def c77_0 : List SOper := [⟨some 6, .q (.mv (.c (.int .i64 0))), none⟩]
def c77_1 : List SOper := [⟨some 7, .q (.mv (.t 0)), none⟩, ⟨some 8, .q (.mv (.t 1)), none⟩, ⟨some 9, .q (.ia 3 (.t 7) (.t 8)), none⟩, ⟨some 10, .q (.fa 2 (.t 9)), none⟩, ⟨some 11, .q (.ld (.t 10)), none⟩, ⟨some 12, .q (.mv (.t 2)), none⟩, ⟨some 13, .q (.bin .eql (.t 11) (.t 12)), none⟩]
def c77_2 : List SOper := [⟨some 14, .q (.mv (.t 1)), none⟩, ⟨some 15, .q (.bin .add (.t 14) (.c (.int .i64 1))), none⟩, ⟨some 6, .q (.mv (.t 15)), none⟩]
def c77_3 : SCode := .seq (.region c77_2 [6]) .ret
def c77_4 : SCode := .cond (.t 13) c77_3 .skip
def c77_5 : SCode := .seq (.region c77_1 [0, 1, 2, 13]) c77_4
def c77_6 : List SOper := [⟨some 16, .q (.mv (.t 0)), none⟩, ⟨some 17, .q (.mv (.t 1)), none⟩, ⟨some 18, .q (.mv (.t 0)), none⟩, ⟨some 19, .q (.mv (.t 1)), none⟩, ⟨some 20, .q (.ia 3 (.t 18) (.t 19)), none⟩, ⟨some 21, .q (.ldn 3 (.t 20)), none⟩, ⟨some 22, .q (.mv (.t 2)), none⟩, ⟨some 23, .e (.call 59 [(.t 21), (.t 22)]), none⟩, ⟨some 24, .q (.ia 3 (.t 16) (.t 17)), none⟩, ⟨none, .e (.st 3 (.t 24) (.t 23)), none⟩]
def c77_7 : List SOper := [⟨some 25, .q (.mv (.t 1)), none⟩, ⟨some 6, .q (.mv (.t 25)), none⟩]
def c77_8 : SCode := .seq (.region c77_7 [6]) .ret
def c77_9 : SCode := .seq (.region c77_6 [1]) c77_8
def c77_10 : SCode := .seq c77_5 c77_9
def c77_11 : SCode := .seq (.region c77_0 [0, 1, 2]) c77_10
def c77 : SCode := c77_11
theorem w77 : type_of% (And.intro (uR Try.prog c77_0.eq_1) (And.intro (uR Try.prog c77_1.eq_1) (And.intro (uR Try.prog c77_2.eq_1) (And.intro (uC Try.prog c77_3.eq_1) (And.intro (uC Try.prog c77_4.eq_1) (And.intro (uC Try.prog c77_5.eq_1) (And.intro (uR Try.prog c77_6.eq_1) (And.intro (uR Try.prog c77_7.eq_1) (And.intro (uC Try.prog c77_8.eq_1) (And.intro (uC Try.prog c77_9.eq_1) (And.intro (uC Try.prog c77_10.eq_1) (And.intro (uC Try.prog c77_11.eq_1) (uC Try.prog c77.eq_1))))))))))))) := (And.intro (uR Try.prog c77_0.eq_1) (And.intro (uR Try.prog c77_1.eq_1) (And.intro (uR Try.prog c77_2.eq_1) (And.intro (uC Try.prog c77_3.eq_1) (And.intro (uC Try.prog c77_4.eq_1) (And.intro (uC Try.prog c77_5.eq_1) (And.intro (uR Try.prog c77_6.eq_1) (And.intro (uR Try.prog c77_7.eq_1) (And.intro (uC Try.prog c77_8.eq_1) (And.intro (uC Try.prog c77_9.eq_1) (And.intro (uC Try.prog c77_10.eq_1) (And.intro (uC Try.prog c77_11.eq_1) (uC Try.prog c77.eq_1)))))))))))))
def v77 : List RV := [.t 6]
theorem s77 : slimF Try.prog Try.f77 = some (c77.bare, v77) := by kernel_rfl
/-! 40 loop.example/g00066/impl.alike: parameters 3, live [0, 1, 2], slots [0:a, 1:b, 2:most, 3:a, 4:b, 5:most, 7:out, 8:i, 9:k, 10:n] -/
def c40_0 : List SOper := [⟨some 6, .q (.mv (.c (.int .i64 0))), none⟩]
def c40_1 : List SOper := [⟨some 7, .q (.mv (.c (.int .i64 0))), none⟩]
def c40_2 : List SOper := [⟨some 8, .q (.mv (.c (.int .i64 0))), none⟩, ⟨some 9, .q (.mv (.c (.int .i64 0))), none⟩]
def c40_3 : List SOper := [⟨some 11, .q (.mv (.t 7)), none⟩, ⟨some 12, .q (.mv (.t 2)), none⟩, ⟨some 13, .q (.bin .lss (.t 11) (.t 12)), none⟩, ⟨some 14, .q (.mv (.t 13)), none⟩, ⟨some 15, .q (.mv (.t 8)), some (14, true)⟩, ⟨some 16, .q (.mv (.t 0)), some (14, true)⟩, ⟨some 17, .q (.len (.t 16)), some (14, true)⟩, ⟨some 18, .q (.bin .lss (.t 15) (.t 17)), some (14, true)⟩, ⟨some 19, .q (.pick (.t 14) (.t 18) (.c (.bool false))), none⟩, ⟨some 20, .q (.mv (.t 19)), none⟩, ⟨some 21, .q (.mv (.t 9)), some (20, true)⟩, ⟨some 22, .q (.mv (.t 1)), some (20, true)⟩, ⟨some 23, .q (.len (.t 22)), some (20, true)⟩, ⟨some 24, .q (.bin .lss (.t 21) (.t 23)), some (20, true)⟩, ⟨some 25, .q (.pick (.t 20) (.t 24) (.c (.bool false))), none⟩]
def c40_4 : SCode := .cond (.t 25) .skip (.exit 0)
def c40_5 : SCode := .seq (.region c40_3 [0, 1, 2, 7, 8, 9, 25]) c40_4
def c40_6 : List SOper := [⟨some 26, .q (.mv (.t 0)), none⟩, ⟨some 27, .q (.mv (.t 8)), none⟩, ⟨some 28, .q (.ia 3 (.t 26) (.t 27)), none⟩, ⟨some 29, .q (.fa 0 (.t 28)), none⟩, ⟨some 30, .q (.ld (.t 29)), none⟩, ⟨some 31, .q (.mv (.t 1)), none⟩, ⟨some 32, .q (.mv (.t 9)), none⟩, ⟨some 33, .q (.ia 3 (.t 31) (.t 32)), none⟩, ⟨some 34, .q (.fa 0 (.t 33)), none⟩, ⟨some 35, .q (.ld (.t 34)), none⟩, ⟨some 36, .q (.bin .neq (.t 30) (.t 35)), none⟩, ⟨some 37, .q (.mv (.t 36)), none⟩, ⟨some 38, .q (.mv (.t 0)), some (37, false)⟩, ⟨some 39, .q (.mv (.t 8)), some (37, false)⟩, ⟨some 40, .q (.ia 3 (.t 38) (.t 39)), some (37, false)⟩, ⟨some 41, .q (.fa 1 (.t 40)), some (37, false)⟩, ⟨some 42, .q (.ld (.t 41)), some (37, false)⟩, ⟨some 43, .q (.mv (.t 1)), some (37, false)⟩, ⟨some 44, .q (.mv (.t 9)), some (37, false)⟩, ⟨some 45, .q (.ia 3 (.t 43) (.t 44)), some (37, false)⟩, ⟨some 46, .q (.fa 1 (.t 45)), some (37, false)⟩, ⟨some 47, .q (.ld (.t 46)), some (37, false)⟩, ⟨some 48, .q (.bin .neq (.t 42) (.t 47)), some (37, false)⟩, ⟨some 49, .q (.pick (.t 37) (.c (.bool true)) (.t 48)), none⟩]
def c40_7 : SCode := .cond (.t 49) (.exit 0) .skip
def c40_8 : SCode := .seq (.region c40_6 [0, 1, 2, 7, 8, 9, 49]) c40_7
def c40_9 : List SOper := [⟨some 50, .q (.mv (.t 0)), none⟩, ⟨some 51, .q (.mv (.t 8)), none⟩, ⟨some 52, .q (.ia 3 (.t 50) (.t 51)), none⟩, ⟨some 53, .q (.fa 2 (.t 52)), none⟩, ⟨some 54, .q (.ld (.t 53)), none⟩, ⟨some 55, .q (.mv (.t 1)), none⟩, ⟨some 56, .q (.mv (.t 9)), none⟩, ⟨some 57, .q (.ia 3 (.t 55) (.t 56)), none⟩, ⟨some 58, .q (.fa 2 (.t 57)), none⟩, ⟨some 59, .q (.ld (.t 58)), none⟩, ⟨some 60, .q (.mn (.t 54) (.t 59)), none⟩, ⟨some 10, .q (.mv (.t 60)), none⟩]
def c40_10 : List SOper := [⟨some 61, .q (.mv (.t 7)), none⟩, ⟨some 62, .q (.mv (.t 10)), none⟩, ⟨some 63, .q (.bin .add (.t 61) (.t 62)), none⟩, ⟨some 7, .q (.mv (.t 63)), none⟩]
def c40_11 : List SOper := [⟨some 64, .q (.mv (.t 0)), none⟩, ⟨some 65, .q (.mv (.t 8)), none⟩, ⟨some 66, .q (.mv (.t 10)), none⟩, ⟨some 67, .e (.call 77 [(.t 64), (.t 65), (.t 66)]), none⟩, ⟨some 68, .q (.mv (.t 1)), none⟩, ⟨some 69, .q (.mv (.t 9)), none⟩, ⟨some 70, .q (.mv (.t 10)), none⟩, ⟨some 71, .e (.call 77 [(.t 68), (.t 69), (.t 70)]), none⟩, ⟨some 8, .q (.mv (.t 67)), none⟩, ⟨some 9, .q (.mv (.t 71)), none⟩]
def c40_12 : SCode := .seq (.region c40_10 [0, 1, 2, 7, 8, 9, 10]) (.region c40_11 [0, 1, 2, 7, 8, 9])
def c40_13 : SCode := .seq (.region c40_9 [0, 1, 2, 7, 8, 9, 10]) c40_12
def c40_14 : SCode := .seq c40_8 c40_13
def c40_15 : SCode := .block 1 c40_14
def c40_16 : SCode := .seq c40_5 c40_15
def c40_17 : SCode := .loop c40_16
def c40_18 : SCode := .block 0 c40_17
def c40_19 : SCode := .seq (.region c40_2 [0, 1, 2, 7, 8, 9]) c40_18
def c40_20 : List SOper := [⟨some 72, .q (.mv (.t 7)), none⟩, ⟨some 73, .q (.mv (.t 2)), none⟩, ⟨some 74, .q (.mn (.t 72) (.t 73)), none⟩, ⟨some 6, .q (.mv (.t 74)), none⟩]
def c40_21 : SCode := .seq (.region c40_20 [6]) .ret
def c40_22 : SCode := .seq c40_19 c40_21
def c40_23 : SCode := .seq (.region c40_1 [0, 1, 2, 7]) c40_22
def c40_24 : SCode := .seq (.region c40_0 [0, 1, 2]) c40_23
def c40 : SCode := c40_24
theorem w40 : type_of% (And.intro (uR Try.prog c40_0.eq_1) (And.intro (uR Try.prog c40_1.eq_1) (And.intro (uR Try.prog c40_2.eq_1) (And.intro (uR Try.prog c40_3.eq_1) (And.intro (uC Try.prog c40_4.eq_1) (And.intro (uC Try.prog c40_5.eq_1) (And.intro (uR Try.prog c40_6.eq_1) (And.intro (uC Try.prog c40_7.eq_1) (And.intro (uC Try.prog c40_8.eq_1) (And.intro (uR Try.prog c40_9.eq_1) (And.intro (uR Try.prog c40_10.eq_1) (And.intro (uR Try.prog c40_11.eq_1) (And.intro (uC Try.prog c40_12.eq_1) (And.intro (uC Try.prog c40_13.eq_1) (And.intro (uC Try.prog c40_14.eq_1) (And.intro (uC Try.prog c40_15.eq_1) (And.intro (uC Try.prog c40_16.eq_1) (And.intro (uC Try.prog c40_17.eq_1) (And.intro (uC Try.prog c40_18.eq_1) (And.intro (uC Try.prog c40_19.eq_1) (And.intro (uR Try.prog c40_20.eq_1) (And.intro (uC Try.prog c40_21.eq_1) (And.intro (uC Try.prog c40_22.eq_1) (And.intro (uC Try.prog c40_23.eq_1) (And.intro (uC Try.prog c40_24.eq_1) (uC Try.prog c40.eq_1)))))))))))))))))))))))))) := (And.intro (uR Try.prog c40_0.eq_1) (And.intro (uR Try.prog c40_1.eq_1) (And.intro (uR Try.prog c40_2.eq_1) (And.intro (uR Try.prog c40_3.eq_1) (And.intro (uC Try.prog c40_4.eq_1) (And.intro (uC Try.prog c40_5.eq_1) (And.intro (uR Try.prog c40_6.eq_1) (And.intro (uC Try.prog c40_7.eq_1) (And.intro (uC Try.prog c40_8.eq_1) (And.intro (uR Try.prog c40_9.eq_1) (And.intro (uR Try.prog c40_10.eq_1) (And.intro (uR Try.prog c40_11.eq_1) (And.intro (uC Try.prog c40_12.eq_1) (And.intro (uC Try.prog c40_13.eq_1) (And.intro (uC Try.prog c40_14.eq_1) (And.intro (uC Try.prog c40_15.eq_1) (And.intro (uC Try.prog c40_16.eq_1) (And.intro (uC Try.prog c40_17.eq_1) (And.intro (uC Try.prog c40_18.eq_1) (And.intro (uC Try.prog c40_19.eq_1) (And.intro (uR Try.prog c40_20.eq_1) (And.intro (uC Try.prog c40_21.eq_1) (And.intro (uC Try.prog c40_22.eq_1) (And.intro (uC Try.prog c40_23.eq_1) (And.intro (uC Try.prog c40_24.eq_1) (uC Try.prog c40.eq_1))))))))))))))))))))))))))
def v40 : List RV := [.t 6]
theorem s40 : slimF Try.prog Try.f40 = some (c40.bare, v40) := by kernel_rfl

theorem two_own {h0 h1 h2 : Heap} {v w : Value} {a b : List Clip} (F : Fresh h0 h1 encClip 3 v a) (G : Fresh h1 h2 encClip 3 w b) :
    ∃ g1 g2, g1 ≠ g2 ∧ h0.size ≤ g1 ∧ h0.size ≤ g2 ∧ OwnT g1 h2 encClip 3 v a ∧ OwnT g2 h2 encClip 3 w b := by
  obtain ⟨g1, a1, a2, a3, _⟩ := (Fk.of (X := []) F).grp h2.size G.1.1
  obtain ⟨g2, b1, b2, b3, _⟩ := (Fk.of (X := []) G).grp (h2.size + 1) (by omega)
  have := F.1.1; have := G.1.1
  exact ⟨g1, g2, by omega, a1, by omega, a3.ext G.1, b3⟩
theorem clipOk_cutC {k : Clip} {m : Int} (h : clipOk k) (h0 : 0 ≤ m) (h1 : m < k.len) : clipOk (cutC k m) := by
  simp only [clipOk, cutC] at *
  split <;> omega
theorem cut_drop {A : List Clip} {i : Nat} (hi : i < A.length) (m : Int) :
    (if A[i].len = m then A else A.set i (cutC A[i] m)).drop (if A[i].len = m then i + 1 else i) = cutL1 A[i] m (A.drop (i + 1)) := by
  unfold cutL1
  split
  · rfl
  · rw [List.drop_eq_getElem_cons (by simpa using hi), List.getElem_set_self, List.drop_set_of_lt (Nat.lt_succ_self i)]
theorem passed_facts {A : List Clip} {i : Nat} {M : Int} (hi : i < A.length) (ok : ∀ c ∈ A, clipOk c) (h0 : 1 ≤ M) (h1 : M ≤ A[i].len) :
    (if A[i].len = M then A else A.set i (cutC A[i] M)).length = A.length ∧ (if A[i].len = M then i + 1 else i) ≤ A.length ∧ i ≤ (if A[i].len = M then i + 1 else i) ∧ ∀ c ∈ (if A[i].len = M then A else A.set i (cutC A[i] M)), clipOk c := by
  by_cases hc : A[i].len = M
  · simp only [if_pos hc]; exact ⟨trivial, by omega, by omega, ok⟩
  · simp only [if_neg hc]
    refine ⟨by simp, by omega, by omega, fun c hm => ?_⟩
    rcases List.mem_or_eq_of_mem_set hm with hm | rfl
    · exact ok c hm
    · exact clipOk_cutC (ok _ (List.getElem_mem hi)) (by omega) (by omega)
theorem passed_ok (h : Heap) (g : Nat) (v : Value) (l : List Clip) (i : Nat) (n : Int) (o : OwnT g h encClip 3 v l) (hi : i < l.length) (hk : clipOk l[i]) (hn : 0 ≤ n ∧ n ≤ 10000000) (hl : l.length ≤ 300) :
    ACall Try.prog 77 [v, .int .i64 i, .int .i64 n] h fun r h' => ExtG g h h' ∧ OwnT g h' encClip 3 v (if l[i].len = n then l else l.set i (cutC l[i] n)) ∧ r = .int .i64 (if l[i].len = n then i + 1 else i : Nat) := by
  refine ACall.of Try.func77 s77 (of_decide_eq_true rfl) ?_
  have R := o.slt.rulesN
  have R' := o.slt.rules
  have W : IntKind.i64.wrap ((i : Int) + 1) = ((i + 1 : Nat) : Int) := i64e (by omega) (by omega)
  by_cases hc : l[i].len = n
  · have hc' : decide (l[i].len = n) = true := decide_eq_true hc
    simp only [if_pos hc]
    simp (maxSteps := 4000000) (disch := omega) only [ah, am, Nat.reduceEqDiff, reduceCtorEq, Nat.reduceAdd, Nat.reduceLeDiff, Nat.reduceMul, Nat.reduceLT, if_true, if_false, true_and, and_true, and_self, Nat.reduceBEq, QOp.loads, boxO, bslO, buildO, cutL, fillV, putL, w77, v77, R', encClip, hc', W]
    exact ⟨ExtG.refl g h, o⟩
  · have hc' : decide (l[i].len = n) = false := decide_eq_false hc
    simp only [if_neg hc]
    have fo := from_ok h l[i] n hk (by omega)
    simp only [encClip] at fo
    simp (maxSteps := 4000000) (disch := omega) only [ah, am, Nat.reduceEqDiff, reduceCtorEq, Nat.reduceAdd, Nat.reduceLeDiff, Nat.reduceMul, Nat.reduceLT, if_true, if_false, true_and, and_true, and_self, Nat.reduceBEq, QOp.loads, boxO, bslO, buildO, cutL, fillV, putL, w77, v77, R, encClip, hc', W]
    refine stepC.of fo ?_
    rintro _ H2 ⟨e2, rfl⟩
    obtain ⟨H3, es, O3, G3, -⟩ := (o.ext e2).set hi (cutC l[i] n) rfl
    have R2 := (o.ext e2).slt.rulesN
    simp only [encClip, cutC] at es
    simp (maxSteps := 4000000) (disch := omega) only [ah, am, Nat.reduceEqDiff, reduceCtorEq, Nat.reduceAdd, Nat.reduceLeDiff, Nat.reduceMul, Nat.reduceLT, if_true, if_false, true_and, and_true, and_self, Nat.reduceBEq, QOp.loads, boxO, bslO, buildO, cutL, fillV, putL, w77, v77, R2, encClip, fromC, es]
    exact ⟨e2.toG.trans G3, O3⟩
theorem alike_ok (h0 h : Heap) (g1 g2 : Nat) (v w : Value) (a b : List Clip) (most : Int) (oa : OwnT g1 h encClip 3 v a) (ob : OwnT g2 h encClip 3 w b) (hg : g1 ≠ g2) (p1 : h0.size ≤ g1) (p2 : h0.size ≤ g2) (e0 : Ext h0 h)
    (la : a.length ≤ 300) (lb : b.length ≤ 300) (ha : ∀ k ∈ a, clipOk k) (hb : ∀ k ∈ b, clipOk k) (hsum : (ex a).length ≤ 10000000) (hm : 0 ≤ most ∧ most ≤ 100000000000) :
    ACall Try.prog 40 [v, w, .int .i64 most] h fun r h' => Ext h0 h' ∧ r = .int .i64 (min most (lcp (ex a) (ex b) : Int)) := by
  refine ACall.of Try.func40 s40 (of_decide_eq_true rfl) ?_
  simp (maxSteps := 4000000) (disch := omega) only [ah, am, Nat.reduceEqDiff, reduceCtorEq, Nat.reduceAdd, Nat.reduceLeDiff, Nat.reduceMul, Nat.reduceLT, if_true, if_false, true_and, and_true, and_self, Nat.reduceBEq, QOp.loads, boxO, bslO, buildO, cutL, fillV, putL, w40, v40]
  refine ⟨fun N E H => ∃ (A B : List Clip) (i k : Nat) (n : Int) (tl : Env), E = (0, v) :: (1, w) :: (2, .int .i64 most) :: (7, .int .i64 n) :: (8, .int .i64 i) :: (9, .int .i64 k) :: tl ∧ Ext h0 H ∧ OwnT g1 H encClip 3 v A ∧ OwnT g2 H encClip 3 w B ∧
      A.length = a.length ∧ B.length = b.length ∧ i ≤ A.length ∧ k ≤ B.length ∧ (∀ c ∈ A, clipOk c) ∧ (∀ c ∈ B, clipOk c) ∧ 0 ≤ n ∧ Go2 (ex a) (ex b) (A.drop i) (B.drop k) n ∧ N = (A.length - i) + (B.length - k),
    ⟨_, a, b, 0, 0, 0, [], rfl, e0, oa, ob, rfl, rfl, by omega, by omega, ha, hb, by omega, ⟨fun k hk => (ha k hk).wf, fun k hk => (hb k hk).wf, [], rfl, rfl, rfl⟩, rfl⟩, ?_⟩
  clear oa ob
  rintro N E H ⟨A, B, i, k, n, tl, rfl, e, oa, ob, lA, lB, il, kl, hA, hB, n0, g, rfl⟩
  have R := oa.slt.rules
  have Rw := ob.slt.rules
  have W1 : IntKind.i64.wrap ((i : Int) + 1) = ((i + 1 : Nat) : Int) := i64e (by omega) (by omega)
  have W2 : IntKind.i64.wrap ((k : Int) + 1) = ((k + 1 : Nat) : Int) := i64e (by omega) (by omega)
  have hge := g.ge
  have hle := (lcp_le (ex a) (ex b)).1
  have mn1 : (if most < n then most else n) = min n most := by omega
  have mn2 : (if n < most then n else most) = min n most := by omega
  by_cases hn : n < most
  rotate_left
  · have hn' : decide (n < most) = false := decide_eq_false hn
    have fin : min n most = min most (lcp (ex a) (ex b) : Int) := by omega
    simp (maxSteps := 4000000) (disch := omega) only [ah, am, Nat.reduceEqDiff, reduceCtorEq, Nat.reduceAdd, Nat.reduceLeDiff, Nat.reduceMul, Nat.reduceLT, if_true, if_false, true_and, and_true, and_self, Nat.reduceBEq, QOp.loads, boxO, bslO, buildO, cutL, fillV, putL, w40, v40, R, Rw, hn', mn1, mn2]
    exact ⟨e, by rw [fin]⟩
  have hn' : decide (n < most) = true := decide_eq_true hn
  by_cases hi : i < A.length
  rotate_left
  · have hi' : decide ((i : Int) < A.length) = false := decide_eq_false (by omega)
    have fin : min n most = min most (lcp (ex a) (ex b) : Int) := by have := g.stop (.inl (List.drop_eq_nil_of_le (by omega))); omega
    simp (maxSteps := 4000000) (disch := omega) only [ah, am, Nat.reduceEqDiff, reduceCtorEq, Nat.reduceAdd, Nat.reduceLeDiff, Nat.reduceMul, Nat.reduceLT, if_true, if_false, true_and, and_true, and_self, Nat.reduceBEq, QOp.loads, boxO, bslO, buildO, cutL, fillV, putL, w40, v40, R, Rw, hn', hi', mn1, mn2]
    exact ⟨e, by rw [fin]⟩
  have hi' : decide ((i : Int) < A.length) = true := decide_eq_true (by omega)
  by_cases hk : k < B.length
  rotate_left
  · have hk' : decide ((k : Int) < B.length) = false := decide_eq_false (by omega)
    have fin : min n most = min most (lcp (ex a) (ex b) : Int) := by have := g.stop (.inr (.inl (List.drop_eq_nil_of_le (by omega)))); omega
    simp (maxSteps := 4000000) (disch := omega) only [ah, am, Nat.reduceEqDiff, reduceCtorEq, Nat.reduceAdd, Nat.reduceLeDiff, Nat.reduceMul, Nat.reduceLT, if_true, if_false, true_and, and_true, and_self, Nat.reduceBEq, QOp.loads, boxO, bslO, buildO, cutL, fillV, putL, w40, v40, R, Rw, hn', hi', hk', mn1, mn2]
    exact ⟨e, by rw [fin]⟩
  have hk' : decide ((k : Int) < B.length) = true := decide_eq_true (by omega)
  have o1 := hA _ (List.getElem_mem hi); have o2 := hB _ (List.getElem_mem hk)
  have dA := List.drop_eq_getElem_cons hi
  have dB := List.drop_eq_getElem_cons hk
  have o1' := o1; have o2' := o2
  simp only [clipOk] at o1' o2'
  by_cases hs : A[i].src = B[k].src
  rotate_left
  · have hs' : decide (A[i].src = B[k].src) = false := decide_eq_false hs
    have fin : min n most = min most (lcp (ex a) (ex b) : Int) := by have := g.stop (.inr (.inr ⟨_, _, _, _, dA, dB, .inl hs⟩)); omega
    simp (maxSteps := 4000000) (disch := omega) only [ah, am, Nat.reduceEqDiff, reduceCtorEq, Nat.reduceAdd, Nat.reduceLeDiff, Nat.reduceMul, Nat.reduceLT, if_true, if_false, true_and, and_true, and_self, Nat.reduceBEq, QOp.loads, boxO, bslO, buildO, cutL, fillV, putL, w40, v40, R, Rw, hn', hi', hk', encClip, hs', mn1, mn2]
    exact ⟨e, by rw [fin]⟩
  have hs' : decide (A[i].src = B[k].src) = true := decide_eq_true hs
  by_cases hz : A[i].inn = B[k].inn
  rotate_left
  · have hz' : decide (A[i].inn = B[k].inn) = false := decide_eq_false hz
    have fin : min n most = min most (lcp (ex a) (ex b) : Int) := by have := g.stop (.inr (.inr ⟨_, _, _, _, dA, dB, .inr ⟨by omega, hz⟩⟩)); omega
    simp (maxSteps := 4000000) (disch := omega) only [ah, am, Nat.reduceEqDiff, reduceCtorEq, Nat.reduceAdd, Nat.reduceLeDiff, Nat.reduceMul, Nat.reduceLT, if_true, if_false, true_and, and_true, and_self, Nat.reduceBEq, QOp.loads, boxO, bslO, buildO, cutL, fillV, putL, w40, v40, R, Rw, hn', hi', hk', encClip, hs', hz', mn1, mn2]
    exact ⟨e, by rw [fin]⟩
  have hz' : decide (A[i].inn = B[k].inn) = true := decide_eq_true hz
  obtain ⟨M, hM⟩ : ∃ M, M = min A[i].len B[k].len := ⟨_, rfl⟩
  have mx1 : (if B[k].len < A[i].len then B[k].len else A[i].len) = M := by omega
  have mx2 : (if A[i].len < B[k].len then A[i].len else B[k].len) = M := by omega
  have V6 : IntKind.i64.wrap (n + M) = n + M := i64w (by omega)
  have G := g
  rw [dA, dB] at G
  have G := G.step M (by omega) (by omega) (by omega) hs (.inr hz)
  rw [← cut_drop hi, ← cut_drop hk] at G
  simp (maxSteps := 4000000) (disch := omega) only [ah, am, Nat.reduceEqDiff, reduceCtorEq, Nat.reduceAdd, Nat.reduceLeDiff, Nat.reduceMul, Nat.reduceLT, if_true, if_false, true_and, and_true, and_self, Nat.reduceBEq, QOp.loads, boxO, bslO, buildO, cutL, fillV, putL, w40, v40, R, Rw, hn', hi', hk', encClip, hs', hz', mx1, mx2, V6]
  refine stepC.of (passed_ok H g1 v A i M oa hi o1 (by omega) (by omega)) ?_
  rintro _ H2 ⟨G2, oa2, rfl⟩
  have ob2 := ob.extG G2 (Ne.symm hg)
  simp (maxSteps := 4000000) (disch := omega) only [ah, am, Nat.reduceEqDiff, reduceCtorEq, Nat.reduceAdd, Nat.reduceLeDiff, Nat.reduceMul, Nat.reduceLT, if_true, if_false, true_and, and_true, and_self, Nat.reduceBEq, QOp.loads, boxO, bslO, buildO, cutL, fillV, putL, w40, v40]
  refine stepC.of (passed_ok H2 g2 w B k M ob2 hk o2 (by omega) (by omega)) ?_
  rintro _ H3 ⟨G3, ob3, rfl⟩
  have oa3 := oa2.extG G3 hg
  simp (maxSteps := 4000000) (disch := omega) only [ah, am, Nat.reduceEqDiff, reduceCtorEq, Nat.reduceAdd, Nat.reduceLeDiff, Nat.reduceMul, Nat.reduceLT, if_true, if_false, true_and, and_true, and_self, Nat.reduceBEq, QOp.loads, boxO, bslO, buildO, cutL, fillV, putL, w40, v40]
  obtain ⟨q1, q2, q3, q4⟩ := passed_facts hi hA (M := M) (by omega) (by omega)
  obtain ⟨r1, r2, r3, r4⟩ := passed_facts hk hB (M := M) (by omega) (by omega)
  have hlt : A[i].len = M ∨ B[k].len = M := by omega
  refine ⟨_, ?_, _, _, _, _, _, _, rfl, G3.ext (G2.ext e p1) p2, oa3, ob3, by rw [q1, lA], by rw [r1, lB], by rw [q1]; exact q2, by rw [r1]; exact r2, q4, r4, by omega, G, rfl⟩
  rw [q1, r1]
  rcases hlt with c | c
  · rw [if_pos c]; omega
  · rw [if_pos c]; omega
end Go.Proofs.Ytbnppofkpgfhnaa

namespace Go.Proofs.Ytbnppofkpgfhnaa
open Go Go.Ah
set_option linter.unusedSimpArgs false
set_option linter.unusedVariables false
set_option maxRecDepth 10000
set_option maxHeartbeats 4000000
/-! 42 loop.example/g00066/impl.alikeAtEnd: parameters 3, live [0, 1, 2], slots [0:a, 1:b, 2:most, 3:a, 4:b, 5:most, 7:out, 8:i, 9:k, 10:x, 11:y, 12:n] -/
def c42_0 : List SOper := [⟨some 6, .q (.mv (.c (.int .i64 0))), none⟩]
def c42_1 : List SOper := [⟨some 7, .q (.mv (.c (.int .i64 0))), none⟩]
def c42_2 : List SOper := [⟨some 8, .q (.mv (.c (.int .i64 0))), none⟩, ⟨some 9, .q (.mv (.c (.int .i64 0))), none⟩]
def c42_3 : List SOper := [⟨some 13, .q (.mv (.t 7)), none⟩, ⟨some 14, .q (.mv (.t 2)), none⟩, ⟨some 15, .q (.bin .lss (.t 13) (.t 14)), none⟩, ⟨some 16, .q (.mv (.t 15)), none⟩, ⟨some 17, .q (.mv (.t 8)), some (16, true)⟩, ⟨some 18, .q (.mv (.t 0)), some (16, true)⟩, ⟨some 19, .q (.len (.t 18)), some (16, true)⟩, ⟨some 20, .q (.bin .lss (.t 17) (.t 19)), some (16, true)⟩, ⟨some 21, .q (.pick (.t 16) (.t 20) (.c (.bool false))), none⟩, ⟨some 22, .q (.mv (.t 21)), none⟩, ⟨some 23, .q (.mv (.t 9)), some (22, true)⟩, ⟨some 24, .q (.mv (.t 1)), some (22, true)⟩, ⟨some 25, .q (.len (.t 24)), some (22, true)⟩, ⟨some 26, .q (.bin .lss (.t 23) (.t 25)), some (22, true)⟩, ⟨some 27, .q (.pick (.t 22) (.t 26) (.c (.bool false))), none⟩]
def c42_4 : SCode := .cond (.t 27) .skip (.exit 0)
def c42_5 : SCode := .seq (.region c42_3 [0, 1, 2, 7, 8, 9, 27]) c42_4
def c42_6 : List DOper := [⟨0, ⟨some 28, .q (.mv (.t 0)), none⟩, [], []⟩, ⟨1, ⟨some 29, .q (.mv (.t 8)), none⟩, [], []⟩, ⟨2, ⟨some 30, .q (.ia 3 (.t 28) (.t 29)), none⟩, [], []⟩, ⟨3, ⟨some 31, .q (.ldn 3 (.t 30)), none⟩, [], []⟩, ⟨4, ⟨some 32, .q (.mv (.t 1)), none⟩, [], []⟩, ⟨5, ⟨some 33, .q (.mv (.t 9)), none⟩, [], []⟩, ⟨6, ⟨some 34, .q (.ia 3 (.t 32) (.t 33)), none⟩, [], []⟩, ⟨7, ⟨some 35, .q (.ldn 3 (.t 34)), none⟩, [], []⟩, ⟨8, ⟨some 10, .a (.new [(.int .i64 0), (.int .i64 0), (.int .i64 0)]), none⟩, [], []⟩, ⟨9, ⟨some 11, .a (.new [(.int .i64 0), (.int .i64 0), (.int .i64 0)]), none⟩, [], []⟩, ⟨10, ⟨none, .e (.st 3 (.t 10) (.t 31)), none⟩, [], [7]⟩, ⟨11, ⟨none, .e (.st 3 (.t 11) (.t 35)), none⟩, [], []⟩]
def c42_7 : List SOper := [⟨some 36, .q (.fa 0 (.t 10)), none⟩, ⟨some 37, .q (.ld (.t 36)), none⟩, ⟨some 38, .q (.fa 0 (.t 11)), none⟩, ⟨some 39, .q (.ld (.t 38)), none⟩, ⟨some 40, .q (.bin .neq (.t 37) (.t 39)), none⟩, ⟨some 41, .q (.mv (.t 40)), none⟩, ⟨some 42, .q (.ldn 3 (.t 10)), some (41, false)⟩, ⟨some 43, .e (.call 78 [(.t 42)]), some (41, false)⟩, ⟨some 44, .q (.not (.t 43)), some (41, false)⟩, ⟨some 45, .q (.mv (.t 44)), some (41, false)⟩, ⟨some 46, .q (.fa 1 (.t 10)), some (45, true)⟩, ⟨some 47, .q (.ld (.t 46)), some (45, true)⟩, ⟨some 48, .q (.fa 2 (.t 10)), some (45, true)⟩, ⟨some 49, .q (.ld (.t 48)), some (45, true)⟩, ⟨some 50, .q (.bin .add (.t 47) (.t 49)), some (45, true)⟩, ⟨some 51, .q (.fa 1 (.t 11)), some (45, true)⟩, ⟨some 52, .q (.ld (.t 51)), some (45, true)⟩, ⟨some 53, .q (.fa 2 (.t 11)), some (45, true)⟩, ⟨some 54, .q (.ld (.t 53)), some (45, true)⟩, ⟨some 55, .q (.bin .add (.t 52) (.t 54)), some (45, true)⟩, ⟨some 56, .q (.bin .neq (.t 50) (.t 55)), some (45, true)⟩, ⟨some 57, .q (.pick (.t 45) (.t 56) (.c (.bool false))), some (41, false)⟩, ⟨some 58, .q (.pick (.t 41) (.c (.bool true)) (.t 57)), none⟩]
def c42_8 : SCode := .cond (.t 58) (.exit 0) .skip
def c42_9 : SCode := .seq (.region c42_7 [0, 1, 2, 7, 8, 9, 10, 11, 58]) c42_8
def c42_10 : List SOper := [⟨some 59, .q (.fa 2 (.t 10)), none⟩, ⟨some 60, .q (.ld (.t 59)), none⟩, ⟨some 61, .q (.fa 2 (.t 11)), none⟩, ⟨some 62, .q (.ld (.t 61)), none⟩, ⟨some 63, .q (.mn (.t 60) (.t 62)), none⟩, ⟨some 12, .q (.mv (.t 63)), none⟩]
def c42_11 : List SOper := [⟨some 64, .q (.mv (.t 7)), none⟩, ⟨some 65, .q (.mv (.t 12)), none⟩, ⟨some 66, .q (.bin .add (.t 64) (.t 65)), none⟩, ⟨some 7, .q (.mv (.t 66)), none⟩]
def c42_12 : List DOper := [⟨0, ⟨some 67, .q (.mv (.t 0)), none⟩, [], []⟩, ⟨1, ⟨some 68, .q (.mv (.t 8)), none⟩, [], []⟩, ⟨2, ⟨some 69, .q (.mv (.t 1)), none⟩, [], []⟩, ⟨3, ⟨some 70, .q (.mv (.t 9)), none⟩, [], []⟩, ⟨4, ⟨some 71, .q (.fa 2 (.t 10)), none⟩, [], []⟩, ⟨5, ⟨some 72, .q (.ld (.t 71)), none⟩, [], []⟩, ⟨6, ⟨some 73, .q (.mv (.t 12)), none⟩, [], []⟩, ⟨7, ⟨some 74, .q (.bin .sub (.t 72) (.t 73)), none⟩, [], []⟩, ⟨8, ⟨some 75, .q (.fa 2 (.t 11)), none⟩, [], []⟩, ⟨9, ⟨some 76, .q (.ld (.t 75)), none⟩, [], []⟩, ⟨10, ⟨some 77, .q (.mv (.t 12)), none⟩, [], []⟩, ⟨11, ⟨some 78, .q (.bin .sub (.t 76) (.t 77)), none⟩, [], []⟩, ⟨12, ⟨some 79, .q (.ia 3 (.t 67) (.t 68)), none⟩, [], []⟩, ⟨13, ⟨some 80, .q (.fa 2 (.t 79)), none⟩, [], []⟩, ⟨14, ⟨none, .e (.st 1 (.t 80) (.t 74)), none⟩, [], [9]⟩, ⟨15, ⟨some 81, .q (.ia 3 (.t 69) (.t 70)), none⟩, [], []⟩, ⟨16, ⟨some 82, .q (.fa 2 (.t 81)), none⟩, [], []⟩, ⟨17, ⟨none, .e (.st 1 (.t 82) (.t 78)), none⟩, [], []⟩]
def c42_13 : List SOper := [⟨some 83, .q (.mv (.t 0)), none⟩, ⟨some 84, .q (.mv (.t 8)), none⟩, ⟨some 85, .q (.ia 3 (.t 83) (.t 84)), none⟩, ⟨some 86, .q (.fa 2 (.t 85)), none⟩, ⟨some 87, .q (.ld (.t 86)), none⟩, ⟨some 88, .q (.bin .eql (.t 87) (.c (.int .i64 0))), none⟩]
def c42_14 : List SOper := [⟨some 89, .q (.mv (.t 8)), none⟩, ⟨some 90, .q (.bin .add (.t 89) (.c (.int .i64 1))), none⟩, ⟨some 8, .q (.mv (.t 90)), none⟩]
def c42_15 : SCode := .cond (.t 88) (.region c42_14 [0, 1, 2, 7, 8, 9]) .skip
def c42_16 : SCode := .seq (.region c42_13 [0, 1, 2, 7, 8, 9, 88]) c42_15
def c42_17 : List SOper := [⟨some 91, .q (.mv (.t 1)), none⟩, ⟨some 92, .q (.mv (.t 9)), none⟩, ⟨some 93, .q (.ia 3 (.t 91) (.t 92)), none⟩, ⟨some 94, .q (.fa 2 (.t 93)), none⟩, ⟨some 95, .q (.ld (.t 94)), none⟩, ⟨some 96, .q (.bin .eql (.t 95) (.c (.int .i64 0))), none⟩]
def c42_18 : List SOper := [⟨some 97, .q (.mv (.t 9)), none⟩, ⟨some 98, .q (.bin .add (.t 97) (.c (.int .i64 1))), none⟩, ⟨some 9, .q (.mv (.t 98)), none⟩]
def c42_19 : SCode := .cond (.t 96) (.region c42_18 [0, 1, 2, 7, 8, 9]) .skip
def c42_20 : SCode := .seq (.region c42_17 [0, 1, 2, 7, 8, 9, 96]) c42_19
def c42_21 : SCode := .seq c42_16 c42_20
def c42_22 : SCode := .seq (.dregion c42_12 [0, 1, 2, 7, 8, 9]) c42_21
def c42_23 : SCode := .seq (.region c42_11 [0, 1, 2, 7, 8, 9, 10, 11, 12]) c42_22
def c42_24 : SCode := .seq (.region c42_10 [0, 1, 2, 7, 8, 9, 10, 11, 12]) c42_23
def c42_25 : SCode := .seq c42_9 c42_24
def c42_26 : SCode := .seq (.dregion c42_6 [0, 1, 2, 7, 8, 9, 10, 11]) c42_25
def c42_27 : SCode := .block 1 c42_26
def c42_28 : SCode := .seq c42_5 c42_27
def c42_29 : SCode := .loop c42_28
def c42_30 : SCode := .block 0 c42_29
def c42_31 : SCode := .seq (.region c42_2 [0, 1, 2, 7, 8, 9]) c42_30
def c42_32 : List SOper := [⟨some 99, .q (.mv (.t 7)), none⟩, ⟨some 100, .q (.mv (.t 2)), none⟩, ⟨some 101, .q (.mn (.t 99) (.t 100)), none⟩, ⟨some 6, .q (.mv (.t 101)), none⟩]
def c42_33 : SCode := .seq (.region c42_32 [6]) .ret
def c42_34 : SCode := .seq c42_31 c42_33
def c42_35 : SCode := .seq (.region c42_1 [0, 1, 2, 7]) c42_34
def c42_36 : SCode := .seq (.region c42_0 [0, 1, 2]) c42_35
def c42 : SCode := c42_36
theorem w42 : type_of% (And.intro (uR Try.prog c42_0.eq_1) (And.intro (uR Try.prog c42_1.eq_1) (And.intro (uR Try.prog c42_2.eq_1) (And.intro (uR Try.prog c42_3.eq_1) (And.intro (uC Try.prog c42_4.eq_1) (And.intro (uC Try.prog c42_5.eq_1) (And.intro (uD Try.prog c42_6.eq_1) (And.intro (uR Try.prog c42_7.eq_1) (And.intro (uC Try.prog c42_8.eq_1) (And.intro (uC Try.prog c42_9.eq_1) (And.intro (uR Try.prog c42_10.eq_1) (And.intro (uR Try.prog c42_11.eq_1) (And.intro (uD Try.prog c42_12.eq_1) (And.intro (uR Try.prog c42_13.eq_1) (And.intro (uR Try.prog c42_14.eq_1) (And.intro (uC Try.prog c42_15.eq_1) (And.intro (uC Try.prog c42_16.eq_1) (And.intro (uR Try.prog c42_17.eq_1) (And.intro (uR Try.prog c42_18.eq_1) (And.intro (uC Try.prog c42_19.eq_1) (And.intro (uC Try.prog c42_20.eq_1) (And.intro (uC Try.prog c42_21.eq_1) (And.intro (uC Try.prog c42_22.eq_1) (And.intro (uC Try.prog c42_23.eq_1) (And.intro (uC Try.prog c42_24.eq_1) (And.intro (uC Try.prog c42_25.eq_1) (And.intro (uC Try.prog c42_26.eq_1) (And.intro (uC Try.prog c42_27.eq_1) (And.intro (uC Try.prog c42_28.eq_1) (And.intro (uC Try.prog c42_29.eq_1) (And.intro (uC Try.prog c42_30.eq_1) (And.intro (uC Try.prog c42_31.eq_1) (And.intro (uR Try.prog c42_32.eq_1) (And.intro (uC Try.prog c42_33.eq_1) (And.intro (uC Try.prog c42_34.eq_1) (And.intro (uC Try.prog c42_35.eq_1) (And.intro (uC Try.prog c42_36.eq_1) (uC Try.prog c42.eq_1)))))))))))))))))))))))))))))))))))))) := (And.intro (uR Try.prog c42_0.eq_1) (And.intro (uR Try.prog c42_1.eq_1) (And.intro (uR Try.prog c42_2.eq_1) (And.intro (uR Try.prog c42_3.eq_1) (And.intro (uC Try.prog c42_4.eq_1) (And.intro (uC Try.prog c42_5.eq_1) (And.intro (uD Try.prog c42_6.eq_1) (And.intro (uR Try.prog c42_7.eq_1) (And.intro (uC Try.prog c42_8.eq_1) (And.intro (uC Try.prog c42_9.eq_1) (And.intro (uR Try.prog c42_10.eq_1) (And.intro (uR Try.prog c42_11.eq_1) (And.intro (uD Try.prog c42_12.eq_1) (And.intro (uR Try.prog c42_13.eq_1) (And.intro (uR Try.prog c42_14.eq_1) (And.intro (uC Try.prog c42_15.eq_1) (And.intro (uC Try.prog c42_16.eq_1) (And.intro (uR Try.prog c42_17.eq_1) (And.intro (uR Try.prog c42_18.eq_1) (And.intro (uC Try.prog c42_19.eq_1) (And.intro (uC Try.prog c42_20.eq_1) (And.intro (uC Try.prog c42_21.eq_1) (And.intro (uC Try.prog c42_22.eq_1) (And.intro (uC Try.prog c42_23.eq_1) (And.intro (uC Try.prog c42_24.eq_1) (And.intro (uC Try.prog c42_25.eq_1) (And.intro (uC Try.prog c42_26.eq_1) (And.intro (uC Try.prog c42_27.eq_1) (And.intro (uC Try.prog c42_28.eq_1) (And.intro (uC Try.prog c42_29.eq_1) (And.intro (uC Try.prog c42_30.eq_1) (And.intro (uC Try.prog c42_31.eq_1) (And.intro (uR Try.prog c42_32.eq_1) (And.intro (uC Try.prog c42_33.eq_1) (And.intro (uC Try.prog c42_34.eq_1) (And.intro (uC Try.prog c42_35.eq_1) (And.intro (uC Try.prog c42_36.eq_1) (uC Try.prog c42.eq_1))))))))))))))))))))))))))))))))))))))
def v42 : List RV := [.t 6]
theorem s42 : slimF Try.prog Try.f42 = some (c42.bare, v42) := by kernel_rfl

theorem cutB_drop {A : List Clip} {i : Nat} (hi : i < A.length) (m : Int) :
    (A.set i ⟨A[i].src, A[i].inn, A[i].len - m⟩).drop (if A[i].len = m then i + 1 else i) = cutB1 A[i] m (A.drop (i + 1)) := by
  unfold cutB1
  split
  · rw [List.drop_set_of_lt (Nat.lt_succ_self i)]
  · rw [List.drop_eq_getElem_cons (by simpa using hi), List.getElem_set_self, List.drop_set_of_lt (Nat.lt_succ_self i)]
theorem end_facts {A : List Clip} {i : Nat} {M : Int} (hi : i < A.length) (ok : ∀ c ∈ A.drop i, clipOk c) (h0 : 1 ≤ M) (h1 : M ≤ A[i].len) :
    (if A[i].len = M then i + 1 else i) ≤ A.length ∧ i ≤ (if A[i].len = M then i + 1 else i) ∧ ∀ c ∈ (A.set i ⟨A[i].src, A[i].inn, A[i].len - M⟩).drop (if A[i].len = M then i + 1 else i), clipOk c := by
  refine ⟨by split <;> omega, by split <;> omega, fun c hm => ?_⟩
  rw [cutB_drop hi] at hm
  have dA := List.drop_eq_getElem_cons hi
  rw [dA] at ok
  unfold cutB1 at hm
  split at hm
  · exact ok c (List.mem_cons_of_mem _ hm)
  · rcases List.mem_cons.mp hm with rfl | hm
    · have := ok A[i] List.mem_cons_self
      simp only [clipOk] at this ⊢; omega
    · exact ok c (List.mem_cons_of_mem _ hm)
theorem own_lt {g : Nat} {h : Heap} {v : Value} {l : List Clip} (o : OwnT g h encClip 3 v l) (hl : 0 < l.length) : g < h.size := by
  rcases o.own with ⟨rfl, h2⟩ | ⟨i, off, n, ob, rfl, h2, h3⟩
  · cases l with
    | nil => simp at hl
    | cons a l => simp [encClip] at h2
  · have := Heap.get_lt h2; have := Heap.grp_le h2
    have : ob.grp = g := h3.2.2.2.2
    omega
theorem alikeAtEnd_ok (h0 h : Heap) (g1 g2 : Nat) (v w : Value) (a b : List Clip) (most : Int) (oa : OwnT g1 h encClip 3 v a) (ob : OwnT g2 h encClip 3 w b) (hg : g1 ≠ g2) (p1 : h0.size ≤ g1) (p2 : h0.size ≤ g2) (e0 : Ext h0 h)
    (la : a.length ≤ 300) (lb : b.length ≤ 300) (ha : ∀ k ∈ a, clipOk k) (hb : ∀ k ∈ b, clipOk k) (hsum : (exr a).length ≤ 10000000) (hm : 0 ≤ most ∧ most ≤ 100000000000) :
    ACall Try.prog 42 [v, w, .int .i64 most] h fun r h' => Ext h0 h' ∧ r = .int .i64 (min most (lcp (exr a) (exr b) : Int)) := by
  refine ACall.of Try.func42 s42 (of_decide_eq_true rfl) ?_
  simp (maxSteps := 4000000) (disch := omega) only [ah, am, Nat.reduceEqDiff, reduceCtorEq, Nat.reduceAdd, Nat.reduceLeDiff, Nat.reduceMul, Nat.reduceLT, if_true, if_false, true_and, and_true, and_self, Nat.reduceBEq, QOp.loads, boxO, bslO, buildO, cutL, fillV, putL, w42, v42]
  refine ⟨fun N E H => ∃ (A B : List Clip) (i k : Nat) (n : Int) (tl : Env), E = (0, v) :: (1, w) :: (2, .int .i64 most) :: (7, .int .i64 n) :: (8, .int .i64 i) :: (9, .int .i64 k) :: tl ∧ Ext h0 H ∧ OwnT g1 H encClip 3 v A ∧ OwnT g2 H encClip 3 w B ∧
      A.length = a.length ∧ B.length = b.length ∧ i ≤ A.length ∧ k ≤ B.length ∧ (∀ c ∈ A.drop i, clipOk c) ∧ (∀ c ∈ B.drop k, clipOk c) ∧ 0 ≤ n ∧ Go3 (exr a) (exr b) (A.drop i) (B.drop k) n ∧ N = (A.length - i) + (B.length - k),
    ⟨_, a, b, 0, 0, 0, [], rfl, e0, oa, ob, rfl, rfl, by omega, by omega, ha, hb, by omega, ⟨fun k hk => (ha k hk).wf, fun k hk => (hb k hk).wf, [], rfl, rfl, rfl⟩, rfl⟩, ?_⟩
  clear oa ob
  rintro N E H ⟨A, B, i, k, n, tl, rfl, e, oa, ob, lA, lB, il, kl, hA, hB, n0, g, rfl⟩
  have R := oa.slt.rulesN
  have Rw := ob.slt.rulesN
  have W1 : IntKind.i64.wrap ((i : Int) + 1) = ((i + 1 : Nat) : Int) := i64e (by omega) (by omega)
  have W2 : IntKind.i64.wrap ((k : Int) + 1) = ((k + 1 : Nat) : Int) := i64e (by omega) (by omega)
  have hge := g.ge
  have hle := (lcp_le (exr a) (exr b)).1
  have mn1 : (if most < n then most else n) = min n most := by omega
  by_cases hn : n < most
  rotate_left
  · have hn' : decide (n < most) = false := decide_eq_false hn
    have fin : min n most = min most (lcp (exr a) (exr b) : Int) := by omega
    simp (maxSteps := 4000000) (disch := omega) only [ah, am, Nat.reduceEqDiff, reduceCtorEq, Nat.reduceAdd, Nat.reduceLeDiff, Nat.reduceMul, Nat.reduceLT, if_true, if_false, true_and, and_true, and_self, Nat.reduceBEq, QOp.loads, boxO, bslO, buildO, cutL, fillV, putL, w42, v42, R, Rw, hn', mn1]
    exact ⟨e, by rw [fin]⟩
  have hn' : decide (n < most) = true := decide_eq_true hn
  by_cases hi : i < A.length
  rotate_left
  · have hi' : decide ((i : Int) < A.length) = false := decide_eq_false (by omega)
    have fin : min n most = min most (lcp (exr a) (exr b) : Int) := by have := g.stop (.inl (List.drop_eq_nil_of_le (by omega))); omega
    simp (maxSteps := 4000000) (disch := omega) only [ah, am, Nat.reduceEqDiff, reduceCtorEq, Nat.reduceAdd, Nat.reduceLeDiff, Nat.reduceMul, Nat.reduceLT, if_true, if_false, true_and, and_true, and_self, Nat.reduceBEq, QOp.loads, boxO, bslO, buildO, cutL, fillV, putL, w42, v42, R, Rw, hn', hi', mn1]
    exact ⟨e, by rw [fin]⟩
  have hi' : decide ((i : Int) < A.length) = true := decide_eq_true (by omega)
  by_cases hk : k < B.length
  rotate_left
  · have hk' : decide ((k : Int) < B.length) = false := decide_eq_false (by omega)
    have fin : min n most = min most (lcp (exr a) (exr b) : Int) := by have := g.stop (.inr (.inl (List.drop_eq_nil_of_le (by omega)))); omega
    simp (maxSteps := 4000000) (disch := omega) only [ah, am, Nat.reduceEqDiff, reduceCtorEq, Nat.reduceAdd, Nat.reduceLeDiff, Nat.reduceMul, Nat.reduceLT, if_true, if_false, true_and, and_true, and_self, Nat.reduceBEq, QOp.loads, boxO, bslO, buildO, cutL, fillV, putL, w42, v42, R, Rw, hn', hi', hk', mn1]
    exact ⟨e, by rw [fin]⟩
  have hk' : decide ((k : Int) < B.length) = true := decide_eq_true (by omega)
  have dA := List.drop_eq_getElem_cons hi
  have dB := List.drop_eq_getElem_cons hk
  have o1 := hA A[i] (by rw [dA]; exact List.mem_cons_self); have o2 := hB B[k] (by rw [dB]; exact List.mem_cons_self)
  have o1' := o1; have o2' := o2
  simp only [clipOk] at o1' o2'
  have e2 : Ext H (H.more [encClip A[i], encClip B[k]]) := Ext.more _ _
  simp only [encClip] at e2
  have e3 : ∀ L, Ext H ((H.more [encClip A[i], encClip B[k]]).more L) := fun L => (Ext.more _ _).trans (Ext.more _ _)
  simp only [encClip] at e3
  have Rw2 := (ob.slt.ext (Ext.more H [encClip A[i], [.int .i64 0, .int .i64 0, .int .i64 0]])).rulesN
  simp only [encClip] at Rw2
  by_cases hs : A[i].src = B[k].src
  rotate_left
  · have hs' : decide (A[i].src = B[k].src) = false := decide_eq_false hs
    have fin : min n most = min most (lcp (exr a) (exr b) : Int) := by have := g.stop (.inr (.inr ⟨_, _, _, _, dA, dB, .inl hs⟩)); omega
    simp (maxSteps := 4000000) (disch := omega) only [ah, am, Nat.reduceEqDiff, reduceCtorEq, Nat.reduceAdd, Nat.reduceLeDiff, Nat.reduceMul, Nat.reduceLT, if_true, if_false, true_and, and_true, and_self, Nat.reduceBEq, QOp.loads, boxO, bslO, buildO, cutL, fillV, putL, w42, v42, R, Rw, Rw2, hn', hi', hk', encClip, hs', mn1]
    exact ⟨e.trans e2, by rw [fin]⟩
  have hs' : decide (A[i].src = B[k].src) = true := decide_eq_true hs
  simp (maxSteps := 4000000) (disch := omega) only [ah, am, Nat.reduceEqDiff, reduceCtorEq, Nat.reduceAdd, Nat.reduceLeDiff, Nat.reduceMul, Nat.reduceLT, if_true, if_false, true_and, and_true, and_self, Nat.reduceBEq, QOp.loads, boxO, bslO, buildO, cutL, fillV, putL, w42, v42, R, Rw, Rw2, hn', hi', hk', encClip, hs']
  refine stepC.of (isGap_ok' _ _ _ _) ?_
  rintro _ _ ⟨rfl, rfl⟩
  have V1a : IntKind.i64.wrap (A[i].inn + A[i].len) = A[i].inn + A[i].len := i64w (by omega)
  have V2a : IntKind.i64.wrap (B[k].inn + B[k].len) = B[k].inn + B[k].len := i64w (by omega)
  by_cases hz : A[i].src ≠ 0 ∧ A[i].inn + A[i].len ≠ B[k].inn + B[k].len
  · have hz1 : decide (A[i].src = 0) = false := decide_eq_false hz.1
    have hz2 : decide (A[i].inn + A[i].len = B[k].inn + B[k].len) = false := decide_eq_false hz.2
    have fin : min n most = min most (lcp (exr a) (exr b) : Int) := by have := g.stop (.inr (.inr ⟨_, _, _, _, dA, dB, .inr hz⟩)); omega
    simp (maxSteps := 4000000) (disch := omega) only [ah, am, Nat.reduceEqDiff, reduceCtorEq, Nat.reduceAdd, Nat.reduceLeDiff, Nat.reduceMul, Nat.reduceLT, if_true, if_false, true_and, and_true, and_self, Nat.reduceBEq, QOp.loads, boxO, bslO, buildO, cutL, fillV, putL, w42, v42, R, Rw, hn', hi', hk', encClip, hs', hz1, hz2, V1a, V2a, mn1]
    have e4 := e3 [[.int .i64 A[i].src, .int .i64 A[i].inn, .int .i64 A[i].len]]
    simp only [more_more, List.cons_append, List.nil_append] at e4
    exact ⟨e.trans e4, by rw [fin]⟩
  have h2 : A[i].src = 0 ∨ A[i].inn + A[i].len = B[k].inn + B[k].len := by omega
  obtain ⟨M, hM⟩ : ∃ M, M = min A[i].len B[k].len := ⟨_, rfl⟩
  have mx1 : (if B[k].len < A[i].len then B[k].len else A[i].len) = M := by omega
  have V6 : IntKind.i64.wrap (n + M) = n + M := i64w (by omega)
  have V7 : IntKind.i64.wrap (A[i].len - M) = A[i].len - M := i64w (by omega)
  have V8 : IntKind.i64.wrap (B[k].len - M) = B[k].len - M := i64w (by omega)
  have G := g
  rw [dA, dB] at G
  have G := G.step M (by omega) (by omega) (by omega) hs h2
  rw [← cutB_drop hi, ← cutB_drop hk] at G
  have e4 := e3 [[.int .i64 A[i].src, .int .i64 A[i].inn, .int .i64 A[i].len]]
  have l1 := own_lt oa (by omega); have l2 := own_lt ob (by omega)
  have X := (Fk.of (X := []) (Fresh.new0 H encClip_len (by omega)))
  obtain ⟨H2, es1, oa2, G2, -⟩ := (oa.ext e4).setF (j := i) (f := 2) (n := 1) hi (x := ⟨A[i].src, A[i].inn, A[i].len - M⟩) (y := .int .i64 (A[i].len - M)) (by simp [encClip, splice, cells_int]) (by omega) rfl (by omega) rfl
  have ob2 := (ob.ext e4).extG G2 (Ne.symm hg)
  have by0 : Bx ((H.more [[.int .i64 A[i].src, .int .i64 A[i].inn, .int .i64 A[i].len]]).more [[.int .i64 B[k].src, .int .i64 B[k].inn, .int .i64 B[k].len], [.int .i64 A[i].src, .int .i64 A[i].inn, .int .i64 A[i].len]]) (H.size + 1) [.int .i64 B[k].src, .int .i64 B[k].inn, .int .i64 B[k].len] := by
    have := Bx.new (H.more [[.int .i64 A[i].src, .int .i64 A[i].inn, .int .i64 A[i].len]]) [.int .i64 B[k].src, .int .i64 B[k].inn, .int .i64 B[k].len] [[.int .i64 A[i].src, .int .i64 A[i].inn, .int .i64 A[i].len]]
    simpa only [size_more, List.length_cons, List.length_nil, Nat.zero_add] using this
  simp only [more_more, List.cons_append, List.nil_append] at by0 es1 G2 e4
  have by2 := by0.step G2 (by omega)
  have Xy := by2.ld
  obtain ⟨H3, es2, ob3, G3, -⟩ := ob2.setF (j := k) (f := 2) (n := 1) hk (x := ⟨B[k].src, B[k].inn, B[k].len - M⟩) (y := .int .i64 (B[k].len - M)) (by simp [encClip, splice, cells_int]) (by omega) rfl (by omega) rfl
  have oa3 := oa2.extG G3 hg
  have R3 := oa3.slt.rules
  have Rw3 := ob3.slt.rules
  simp only [List.length_set] at R3 Rw3
  obtain ⟨q2, q3, q4⟩ := end_facts hi hA (M := M) (by omega) (by omega)
  obtain ⟨r2, r3, r4⟩ := end_facts hk hB (M := M) (by omega) (by omega)
  have hlt : A[i].len = M ∨ B[k].len = M := by omega
  have fin : ∀ (tl : Env), ∃ n', n' < (A.length - i) + (B.length - k) ∧ ∃ (A' B' : List Clip) (i' k' : Nat) (n2 : Int) (tl' : Env),
      (0, v) :: (1, w) :: (2, Value.int .i64 most) :: (7, .int .i64 (n + M)) :: (8, .int .i64 (if A[i].len = M then i + 1 else i : Nat)) :: (9, .int .i64 (if B[k].len = M then k + 1 else k : Nat)) :: tl =
      (0, v) :: (1, w) :: (2, Value.int .i64 most) :: (7, .int .i64 n2) :: (8, .int .i64 i') :: (9, .int .i64 k') :: tl' ∧ Ext h0 H3 ∧ OwnT g1 H3 encClip 3 v A' ∧ OwnT g2 H3 encClip 3 w B' ∧
      A'.length = a.length ∧ B'.length = b.length ∧ i' ≤ A'.length ∧ k' ≤ B'.length ∧ (∀ c ∈ A'.drop i', clipOk c) ∧ (∀ c ∈ B'.drop k', clipOk c) ∧ 0 ≤ n2 ∧ Go3 (exr a) (exr b) (A'.drop i') (B'.drop k') n2 ∧ n' = (A'.length - i') + (B'.length - k') := by
    intro tl
    refine ⟨_, ?_, _, _, _, _, _, tl, rfl, G3.ext (G2.ext (e.trans e4) p1) p2, oa3, ob3, by rw [List.length_set, lA], by rw [List.length_set, lB], by rw [List.length_set]; exact q2, by rw [List.length_set]; exact r2, q4, r4, by omega, G, rfl⟩
    rw [List.length_set, List.length_set]
    rcases hlt with c | c
    · rw [if_pos c]; omega
    · rw [if_pos c]; omega
  have walkOn : (decide (A[i].src = 0) = true ∨ (decide (A[i].src = 0) = false ∧ decide (A[i].inn + A[i].len = B[k].inn + B[k].len) = true)) := by
    by_cases hz : A[i].src = 0
    · exact .inl (decide_eq_true hz)
    · exact .inr ⟨decide_eq_false hz, decide_eq_true (by omega)⟩
  clear G q2 q3 q4 r2 r3 r4 g hA hB
  have cA : decide (A[i].len - M = 0) = decide (A[i].len = M) := by by_cases q : A[i].len = M <;> simp [q] <;> omega
  have dA : decide (B[k].len - M = 0) = decide (B[k].len = M) := by by_cases q : B[k].len = M <;> simp [q] <;> omega
  obtain ⟨ca, cc⟩ : ∃ ca, decide (A[i].len - M = 0) = ca := ⟨_, rfl⟩
  obtain ⟨da, dd⟩ : ∃ da, decide (B[k].len - M = 0) = da := ⟨_, rfl⟩
  rw [cc] at cA; rw [dd] at dA
  have cI : A[i].len = M ↔ ca = true := by rw [cA]; simp
  have dI : B[k].len = M ↔ da = true := by rw [dA]; simp
  simp only [cI, dI] at fin
  clear hlt cI dI cA dA
  rcases walkOn with hz1 | ⟨hz1, hz2⟩
  · cases ca <;> cases da <;> simp only [if_true, if_false, Bool.false_eq_true] at fin
    · simp (maxSteps := 4000000) (disch := omega) only [ah, am, Nat.reduceEqDiff, reduceCtorEq, Nat.reduceAdd, Nat.reduceLeDiff, Nat.reduceMul, Nat.reduceLT, if_true, if_false, true_and, and_true, and_self, Nat.reduceBEq, QOp.loads, boxO, bslO, buildO, cutL, fillV, putL, w42, v42, R, Rw, hn', hi', hk', encClip, hs', hz1, V1a, V2a, mx1, V6, V7, V8, es1, es2, Xy, R3, Rw3, List.getElem_set_self, W1, W2, cc, dd]
      exact fin _
    · simp (maxSteps := 4000000) (disch := omega) only [ah, am, Nat.reduceEqDiff, reduceCtorEq, Nat.reduceAdd, Nat.reduceLeDiff, Nat.reduceMul, Nat.reduceLT, if_true, if_false, true_and, and_true, and_self, Nat.reduceBEq, QOp.loads, boxO, bslO, buildO, cutL, fillV, putL, w42, v42, R, Rw, hn', hi', hk', encClip, hs', hz1, V1a, V2a, mx1, V6, V7, V8, es1, es2, Xy, R3, Rw3, List.getElem_set_self, W1, W2, cc, dd]
      exact fin _
    · simp (maxSteps := 4000000) (disch := omega) only [ah, am, Nat.reduceEqDiff, reduceCtorEq, Nat.reduceAdd, Nat.reduceLeDiff, Nat.reduceMul, Nat.reduceLT, if_true, if_false, true_and, and_true, and_self, Nat.reduceBEq, QOp.loads, boxO, bslO, buildO, cutL, fillV, putL, w42, v42, R, Rw, hn', hi', hk', encClip, hs', hz1, V1a, V2a, mx1, V6, V7, V8, es1, es2, Xy, R3, Rw3, List.getElem_set_self, W1, W2, cc, dd]
      exact fin _
    · simp (maxSteps := 4000000) (disch := omega) only [ah, am, Nat.reduceEqDiff, reduceCtorEq, Nat.reduceAdd, Nat.reduceLeDiff, Nat.reduceMul, Nat.reduceLT, if_true, if_false, true_and, and_true, and_self, Nat.reduceBEq, QOp.loads, boxO, bslO, buildO, cutL, fillV, putL, w42, v42, R, Rw, hn', hi', hk', encClip, hs', hz1, V1a, V2a, mx1, V6, V7, V8, es1, es2, Xy, R3, Rw3, List.getElem_set_self, W1, W2, cc, dd]
      exact fin _
  · cases ca <;> cases da <;> simp only [if_true, if_false, Bool.false_eq_true] at fin
    · simp (maxSteps := 4000000) (disch := omega) only [ah, am, Nat.reduceEqDiff, reduceCtorEq, Nat.reduceAdd, Nat.reduceLeDiff, Nat.reduceMul, Nat.reduceLT, if_true, if_false, true_and, and_true, and_self, Nat.reduceBEq, QOp.loads, boxO, bslO, buildO, cutL, fillV, putL, w42, v42, R, Rw, hn', hi', hk', encClip, hs', hz1, hz2, V1a, V2a, mx1, V6, V7, V8, es1, es2, Xy, R3, Rw3, List.getElem_set_self, W1, W2, cc, dd]
      exact fin _
    · simp (maxSteps := 4000000) (disch := omega) only [ah, am, Nat.reduceEqDiff, reduceCtorEq, Nat.reduceAdd, Nat.reduceLeDiff, Nat.reduceMul, Nat.reduceLT, if_true, if_false, true_and, and_true, and_self, Nat.reduceBEq, QOp.loads, boxO, bslO, buildO, cutL, fillV, putL, w42, v42, R, Rw, hn', hi', hk', encClip, hs', hz1, hz2, V1a, V2a, mx1, V6, V7, V8, es1, es2, Xy, R3, Rw3, List.getElem_set_self, W1, W2, cc, dd]
      exact fin _
    · simp (maxSteps := 4000000) (disch := omega) only [ah, am, Nat.reduceEqDiff, reduceCtorEq, Nat.reduceAdd, Nat.reduceLeDiff, Nat.reduceMul, Nat.reduceLT, if_true, if_false, true_and, and_true, and_self, Nat.reduceBEq, QOp.loads, boxO, bslO, buildO, cutL, fillV, putL, w42, v42, R, Rw, hn', hi', hk', encClip, hs', hz1, hz2, V1a, V2a, mx1, V6, V7, V8, es1, es2, Xy, R3, Rw3, List.getElem_set_self, W1, W2, cc, dd]
      exact fin _
    · simp (maxSteps := 4000000) (disch := omega) only [ah, am, Nat.reduceEqDiff, reduceCtorEq, Nat.reduceAdd, Nat.reduceLeDiff, Nat.reduceMul, Nat.reduceLT, if_true, if_false, true_and, and_true, and_self, Nat.reduceBEq, QOp.loads, boxO, bslO, buildO, cutL, fillV, putL, w42, v42, R, Rw, hn', hi', hk', encClip, hs', hz1, hz2, V1a, V2a, mx1, V6, V7, V8, es1, es2, Xy, R3, Rw3, List.getElem_set_self, W1, W2, cc, dd]
      exact fin _
end Go.Proofs.Ytbnppofkpgfhnaa

namespace Go.Proofs.Ytbnppofkpgfhnaa
open Go Go.Ah
set_option linter.unusedSimpArgs false
set_option linter.unusedVariables false
set_option maxRecDepth 10000
set_option maxHeartbeats 4000000
/-! 43 loop.example/g00066/impl.mirrored: parameters 1, live [0], slots [0:track, 1:track, 3:out] -/
def c43_0 : List SOper := [⟨some 2, .q (.mv (.c (.slice none 0 0))), none⟩]
def c43_1 : List SOper := [⟨some 4, .q (.mv (.t 0)), none⟩, ⟨some 5, .e (.call 41 [(.t 4)]), none⟩, ⟨some 3, .q (.mv (.t 5)), none⟩]
def c43_2 : List SOper := [⟨some 6, .q (.mv (.t 3)), none⟩, ⟨some 7, .e (.call 79 [(.t 6)]), none⟩]
def c43_3 : List SOper := [⟨some 8, .q (.mv (.t 3)), none⟩, ⟨some 2, .q (.mv (.t 8)), none⟩]
def c43_4 : SCode := .seq (.region c43_3 [2]) .ret
def c43_5 : SCode := .seq (.region c43_2 [3]) c43_4
def c43_6 : SCode := .seq (.region c43_1 [3]) c43_5
def c43_7 : SCode := .seq (.region c43_0 [0]) c43_6
def c43 : SCode := c43_7
theorem w43 : type_of% (And.intro (uR Try.prog c43_0.eq_1) (And.intro (uR Try.prog c43_1.eq_1) (And.intro (uR Try.prog c43_2.eq_1) (And.intro (uR Try.prog c43_3.eq_1) (And.intro (uC Try.prog c43_4.eq_1) (And.intro (uC Try.prog c43_5.eq_1) (And.intro (uC Try.prog c43_6.eq_1) (And.intro (uC Try.prog c43_7.eq_1) (uC Try.prog c43.eq_1))))))))) := (And.intro (uR Try.prog c43_0.eq_1) (And.intro (uR Try.prog c43_1.eq_1) (And.intro (uR Try.prog c43_2.eq_1) (And.intro (uR Try.prog c43_3.eq_1) (And.intro (uC Try.prog c43_4.eq_1) (And.intro (uC Try.prog c43_5.eq_1) (And.intro (uC Try.prog c43_6.eq_1) (And.intro (uC Try.prog c43_7.eq_1) (uC Try.prog c43.eq_1)))))))))
def v43 : List RV := [.t 2]
theorem s43 : slimF Try.prog Try.f43 = some (c43.bare, v43) := by kernel_rfl
/-! 45 loop.example/g00066/impl.keeping: parameters 2, live [0, 1], slots [0:kind, 1:n, 2:kind, 3:n] -/
def c45_0 : List SOper := [⟨some 4, .q (.mv (.c (.slice none 0 0))), none⟩]
def c45_1 : List SOper := [⟨some 5, .q (.mv (.t 1)), none⟩, ⟨some 6, .q (.bin .eql (.t 5) (.c (.int .i64 0))), none⟩]
def c45_2 : List SOper := [⟨some 4, .q (.mv (.c (.slice none 0 0))), none⟩]
def c45_3 : SCode := .seq (.region c45_2 [4]) .ret
def c45_4 : SCode := .cond (.t 6) c45_3 .skip
def c45_5 : SCode := .seq (.region c45_1 [0, 1, 6]) c45_4
def c45_6 : List SOper := [⟨some 7, .q (.mv (.t 0)), none⟩, ⟨some 8, .q (.mv (.t 1)), none⟩, ⟨some 9, .q (.build [(.int .i64 0), (.int .i64 0), (.int .i64 0), (.int .i64 0)] [(0, 1, (.t 7)), (3, 1, (.t 8))]), none⟩, ⟨some 10, .a (.bsl 1 4 [(.int .i64 0), (.int .i64 0), (.int .i64 0), (.int .i64 0)] [(0, 4, (.t 9))]), none⟩, ⟨some 4, .q (.mv (.t 10)), none⟩]
def c45_7 : SCode := .seq (.region c45_6 [4]) .ret
def c45_8 : SCode := .seq c45_5 c45_7
def c45_9 : SCode := .seq (.region c45_0 [0, 1]) c45_8
def c45 : SCode := c45_9
theorem w45 : type_of% (And.intro (uR Try.prog c45_0.eq_1) (And.intro (uR Try.prog c45_1.eq_1) (And.intro (uR Try.prog c45_2.eq_1) (And.intro (uC Try.prog c45_3.eq_1) (And.intro (uC Try.prog c45_4.eq_1) (And.intro (uC Try.prog c45_5.eq_1) (And.intro (uR Try.prog c45_6.eq_1) (And.intro (uC Try.prog c45_7.eq_1) (And.intro (uC Try.prog c45_8.eq_1) (And.intro (uC Try.prog c45_9.eq_1) (uC Try.prog c45.eq_1))))))))))) := (And.intro (uR Try.prog c45_0.eq_1) (And.intro (uR Try.prog c45_1.eq_1) (And.intro (uR Try.prog c45_2.eq_1) (And.intro (uC Try.prog c45_3.eq_1) (And.intro (uC Try.prog c45_4.eq_1) (And.intro (uC Try.prog c45_5.eq_1) (And.intro (uR Try.prog c45_6.eq_1) (And.intro (uC Try.prog c45_7.eq_1) (And.intro (uC Try.prog c45_8.eq_1) (And.intro (uC Try.prog c45_9.eq_1) (uC Try.prog c45.eq_1)))))))))))
def v45 : List RV := [.t 4]
theorem s45 : slimF Try.prog Try.f45 = some (c45.bare, v45) := by kernel_rfl
/-! 80 slices.Grow[[]loop.example/g00066/impl.Change,loop.example/g00066/impl.Change]: parameters 2, live [0, 1], slots [0:s, 1:n, 2:s, 3:n] -/
def c80_0 : List SOper := [⟨some 4, .q (.mv (.c (.slice none 0 0))), none⟩]
def c80_1 : List SOper := [⟨some 5, .q (.mv (.t 1)), none⟩, ⟨some 6, .q (.bin .lss (.t 5) (.c (.int .i64 0))), none⟩]
def c80_2 : List SOper := [⟨some 7, .q (.bad), none⟩, ⟨none, .q (.bad), none⟩]
def c80_3 : SCode := .cond (.t 6) (.region c80_2 [0, 1]) .skip
def c80_4 : SCode := .seq (.region c80_1 [0, 1, 6]) c80_3
def c80_5 : List SOper := [⟨some 8, .q (.mv (.t 1)), none⟩, ⟨some 9, .q (.mv (.t 0)), none⟩, ⟨some 10, .q (.cap (.t 9)), none⟩, ⟨some 11, .q (.mv (.t 0)), none⟩, ⟨some 12, .q (.len (.t 11)), none⟩, ⟨some 13, .q (.bin .sub (.t 10) (.t 12)), none⟩, ⟨some 14, .q (.bin .sub (.t 8) (.t 13)), none⟩, ⟨some 1, .q (.mv (.t 14)), none⟩]
def c80_6 : List SOper := [⟨some 15, .q (.mv (.t 1)), none⟩, ⟨some 16, .q (.bin .gtr (.t 15) (.c (.int .i64 0))), none⟩]
def c80_7 : List SOper := [⟨some 17, .q (.mv (.t 0)), none⟩, ⟨some 18, .q (.mv (.t 0)), none⟩, ⟨some 19, .q (.cap (.t 18)), none⟩, ⟨some 20, .q (.slc 4 (.t 17) none (some (.t 19))), none⟩, ⟨some 21, .q (.mv (.t 1)), none⟩, ⟨some 22, .a (.gro 32 4 (.t 20) (.t 21)), none⟩, ⟨some 23, .q (.mv (.t 0)), none⟩, ⟨some 24, .q (.len (.t 23)), none⟩, ⟨some 25, .q (.slc 4 (.t 22) none (some (.t 24))), none⟩, ⟨some 0, .q (.mv (.t 25)), none⟩]
def c80_8 : SCode := .cond (.t 16) (.region c80_7 [0]) .skip
def c80_9 : SCode := .seq (.region c80_6 [0, 1, 16]) c80_8
def c80_10 : SCode := .seq (.region c80_5 [0, 1]) c80_9
def c80_11 : List SOper := [⟨some 26, .q (.mv (.t 0)), none⟩, ⟨some 4, .q (.mv (.t 26)), none⟩]
def c80_12 : SCode := .seq (.region c80_11 [4]) .ret
def c80_13 : SCode := .seq c80_10 c80_12
def c80_14 : SCode := .seq c80_4 c80_13
def c80_15 : SCode := .seq (.region c80_0 [0, 1]) c80_14
def c80 : SCode := c80_15
theorem w80 : type_of% (And.intro (uR Try.prog c80_0.eq_1) (And.intro (uR Try.prog c80_1.eq_1) (And.intro (uR Try.prog c80_2.eq_1) (And.intro (uC Try.prog c80_3.eq_1) (And.intro (uC Try.prog c80_4.eq_1) (And.intro (uR Try.prog c80_5.eq_1) (And.intro (uR Try.prog c80_6.eq_1) (And.intro (uR Try.prog c80_7.eq_1) (And.intro (uC Try.prog c80_8.eq_1) (And.intro (uC Try.prog c80_9.eq_1) (And.intro (uC Try.prog c80_10.eq_1) (And.intro (uR Try.prog c80_11.eq_1) (And.intro (uC Try.prog c80_12.eq_1) (And.intro (uC Try.prog c80_13.eq_1) (And.intro (uC Try.prog c80_14.eq_1) (And.intro (uC Try.prog c80_15.eq_1) (uC Try.prog c80.eq_1))))))))))))))))) := (And.intro (uR Try.prog c80_0.eq_1) (And.intro (uR Try.prog c80_1.eq_1) (And.intro (uR Try.prog c80_2.eq_1) (And.intro (uC Try.prog c80_3.eq_1) (And.intro (uC Try.prog c80_4.eq_1) (And.intro (uR Try.prog c80_5.eq_1) (And.intro (uR Try.prog c80_6.eq_1) (And.intro (uR Try.prog c80_7.eq_1) (And.intro (uC Try.prog c80_8.eq_1) (And.intro (uC Try.prog c80_9.eq_1) (And.intro (uC Try.prog c80_10.eq_1) (And.intro (uR Try.prog c80_11.eq_1) (And.intro (uC Try.prog c80_12.eq_1) (And.intro (uC Try.prog c80_13.eq_1) (And.intro (uC Try.prog c80_14.eq_1) (And.intro (uC Try.prog c80_15.eq_1) (uC Try.prog c80.eq_1)))))))))))))))))
def v80 : List RV := [.t 4]
theorem s80 : slimF Try.prog Try.f80 = some (c80.bare, v80) := by kernel_rfl
/-! 44 slices.Concat[[]loop.example/g00066/impl.Change,loop.example/g00066/impl.Change]: parameters 1, live [0], slots [0:slices, 1:slices, 3:size, 4:_, 5:s, 6:newslice, 7:_, 8:s] -/
def c44_0 : List SOper := [⟨some 2, .q (.mv (.c (.slice none 0 0))), none⟩]
def c44_1 : List SOper := [⟨some 3, .q (.mv (.c (.int .i64 0))), none⟩]
def c44_2 : List SOper := [⟨some 9, .q (.mv (.t 0)), none⟩, ⟨some 10, .q (.len (.t 9)), none⟩, ⟨some 11, .q (.mv (.c (.int .i64 0))), none⟩]
def c44_3 : List SOper := [⟨some 12, .q (.bin .lss (.t 11) (.t 10)), none⟩]
def c44_4 : SCode := .cond (.t 12) .skip (.exit 0)
def c44_5 : List SOper := [⟨some 13, .q (.ia 1 (.t 9) (.t 11)), none⟩, ⟨some 14, .q (.ld (.t 13)), none⟩, ⟨some 5, .q (.mv (.t 14)), none⟩]
def c44_6 : List SOper := [⟨some 15, .q (.mv (.t 3)), none⟩, ⟨some 16, .q (.mv (.t 5)), none⟩, ⟨some 17, .q (.len (.t 16)), none⟩, ⟨some 18, .q (.bin .add (.t 15) (.t 17)), none⟩, ⟨some 3, .q (.mv (.t 18)), none⟩]
def c44_7 : List SOper := [⟨some 19, .q (.mv (.t 3)), none⟩, ⟨some 20, .q (.bin .lss (.t 19) (.c (.int .i64 0))), none⟩]
def c44_8 : List SOper := [⟨some 21, .q (.bad), none⟩, ⟨none, .q (.bad), none⟩]
def c44_9 : SCode := .cond (.t 20) (.region c44_8 [0, 3, 9, 10, 11]) .skip
def c44_10 : SCode := .seq (.region c44_7 [0, 3, 9, 10, 11, 20]) c44_9
def c44_11 : SCode := .seq (.region c44_6 [0, 3, 9, 10, 11]) c44_10
def c44_12 : SCode := .seq (.region c44_5 [0, 3, 5, 9, 10, 11]) c44_11
def c44_13 : SCode := .block 1 c44_12
def c44_14 : List SOper := [⟨some 22, .q (.bin .add (.t 11) (.c (.int .i64 1))), none⟩, ⟨some 11, .q (.mv (.t 22)), none⟩]
def c44_15 : SCode := .seq c44_13 (.region c44_14 [0, 3, 9, 10, 11])
def c44_16 : SCode := .seq c44_4 c44_15
def c44_17 : SCode := .seq (.region c44_3 [0, 3, 9, 10, 11, 12]) c44_16
def c44_18 : SCode := .loop c44_17
def c44_19 : SCode := .block 0 c44_18
def c44_20 : SCode := .seq (.region c44_2 [0, 3, 9, 10, 11]) c44_19
def c44_21 : List SOper := [⟨some 23, .q (.mv (.t 3)), none⟩, ⟨some 24, .e (.call 80 [(.c (.slice none 0 0)), (.t 23)]), none⟩, ⟨some 6, .q (.mv (.t 24)), none⟩]
def c44_22 : List SOper := [⟨some 25, .q (.mv (.t 0)), none⟩, ⟨some 26, .q (.len (.t 25)), none⟩, ⟨some 27, .q (.mv (.c (.int .i64 0))), none⟩]
def c44_23 : List SOper := [⟨some 28, .q (.bin .lss (.t 27) (.t 26)), none⟩]
def c44_24 : SCode := .cond (.t 28) .skip (.exit 2)
def c44_25 : List SOper := [⟨some 29, .q (.ia 1 (.t 25) (.t 27)), none⟩, ⟨some 30, .q (.ld (.t 29)), none⟩, ⟨some 8, .q (.mv (.t 30)), none⟩]
def c44_26 : List SOper := [⟨some 31, .q (.mv (.t 6)), none⟩, ⟨some 32, .q (.mv (.t 8)), none⟩, ⟨some 33, .e (.app 32 4 (.t 31) (.t 32)), none⟩, ⟨some 6, .q (.mv (.t 33)), none⟩]
def c44_27 : SCode := .seq (.region c44_25 [6, 8, 25, 26, 27]) (.region c44_26 [6, 25, 26, 27])
def c44_28 : SCode := .block 3 c44_27
def c44_29 : List SOper := [⟨some 34, .q (.bin .add (.t 27) (.c (.int .i64 1))), none⟩, ⟨some 27, .q (.mv (.t 34)), none⟩]
def c44_30 : SCode := .seq c44_28 (.region c44_29 [6, 25, 26, 27])
def c44_31 : SCode := .seq c44_24 c44_30
def c44_32 : SCode := .seq (.region c44_23 [6, 25, 26, 27, 28]) c44_31
def c44_33 : SCode := .loop c44_32
def c44_34 : SCode := .block 2 c44_33
def c44_35 : SCode := .seq (.region c44_22 [6, 25, 26, 27]) c44_34
def c44_36 : List SOper := [⟨some 35, .q (.mv (.t 6)), none⟩, ⟨some 2, .q (.mv (.t 35)), none⟩]
def c44_37 : SCode := .seq (.region c44_36 [2]) .ret
def c44_38 : SCode := .seq c44_35 c44_37
def c44_39 : SCode := .seq (.region c44_21 [0, 6]) c44_38
def c44_40 : SCode := .seq c44_20 c44_39
def c44_41 : SCode := .seq (.region c44_1 [0, 3]) c44_40
def c44_42 : SCode := .seq (.region c44_0 [0]) c44_41
def c44 : SCode := c44_42
theorem w44 : type_of% (And.intro (uR Try.prog c44_0.eq_1) (And.intro (uR Try.prog c44_1.eq_1) (And.intro (uR Try.prog c44_2.eq_1) (And.intro (uR Try.prog c44_3.eq_1) (And.intro (uC Try.prog c44_4.eq_1) (And.intro (uR Try.prog c44_5.eq_1) (And.intro (uR Try.prog c44_6.eq_1) (And.intro (uR Try.prog c44_7.eq_1) (And.intro (uR Try.prog c44_8.eq_1) (And.intro (uC Try.prog c44_9.eq_1) (And.intro (uC Try.prog c44_10.eq_1) (And.intro (uC Try.prog c44_11.eq_1) (And.intro (uC Try.prog c44_12.eq_1) (And.intro (uC Try.prog c44_13.eq_1) (And.intro (uR Try.prog c44_14.eq_1) (And.intro (uC Try.prog c44_15.eq_1) (And.intro (uC Try.prog c44_16.eq_1) (And.intro (uC Try.prog c44_17.eq_1) (And.intro (uC Try.prog c44_18.eq_1) (And.intro (uC Try.prog c44_19.eq_1) (And.intro (uC Try.prog c44_20.eq_1) (And.intro (uR Try.prog c44_21.eq_1) (And.intro (uR Try.prog c44_22.eq_1) (And.intro (uR Try.prog c44_23.eq_1) (And.intro (uC Try.prog c44_24.eq_1) (And.intro (uR Try.prog c44_25.eq_1) (And.intro (uR Try.prog c44_26.eq_1) (And.intro (uC Try.prog c44_27.eq_1) (And.intro (uC Try.prog c44_28.eq_1) (And.intro (uR Try.prog c44_29.eq_1) (And.intro (uC Try.prog c44_30.eq_1) (And.intro (uC Try.prog c44_31.eq_1) (And.intro (uC Try.prog c44_32.eq_1) (And.intro (uC Try.prog c44_33.eq_1) (And.intro (uC Try.prog c44_34.eq_1) (And.intro (uC Try.prog c44_35.eq_1) (And.intro (uR Try.prog c44_36.eq_1) (And.intro (uC Try.prog c44_37.eq_1) (And.intro (uC Try.prog c44_38.eq_1) (And.intro (uC Try.prog c44_39.eq_1) (And.intro (uC Try.prog c44_40.eq_1) (And.intro (uC Try.prog c44_41.eq_1) (And.intro (uC Try.prog c44_42.eq_1) (uC Try.prog c44.eq_1)))))))))))))))))))))))))))))))))))))))))))) := (And.intro (uR Try.prog c44_0.eq_1) (And.intro (uR Try.prog c44_1.eq_1) (And.intro (uR Try.prog c44_2.eq_1) (And.intro (uR Try.prog c44_3.eq_1) (And.intro (uC Try.prog c44_4.eq_1) (And.intro (uR Try.prog c44_5.eq_1) (And.intro (uR Try.prog c44_6.eq_1) (And.intro (uR Try.prog c44_7.eq_1) (And.intro (uR Try.prog c44_8.eq_1) (And.intro (uC Try.prog c44_9.eq_1) (And.intro (uC Try.prog c44_10.eq_1) (And.intro (uC Try.prog c44_11.eq_1) (And.intro (uC Try.prog c44_12.eq_1) (And.intro (uC Try.prog c44_13.eq_1) (And.intro (uR Try.prog c44_14.eq_1) (And.intro (uC Try.prog c44_15.eq_1) (And.intro (uC Try.prog c44_16.eq_1) (And.intro (uC Try.prog c44_17.eq_1) (And.intro (uC Try.prog c44_18.eq_1) (And.intro (uC Try.prog c44_19.eq_1) (And.intro (uC Try.prog c44_20.eq_1) (And.intro (uR Try.prog c44_21.eq_1) (And.intro (uR Try.prog c44_22.eq_1) (And.intro (uR Try.prog c44_23.eq_1) (And.intro (uC Try.prog c44_24.eq_1) (And.intro (uR Try.prog c44_25.eq_1) (And.intro (uR Try.prog c44_26.eq_1) (And.intro (uC Try.prog c44_27.eq_1) (And.intro (uC Try.prog c44_28.eq_1) (And.intro (uR Try.prog c44_29.eq_1) (And.intro (uC Try.prog c44_30.eq_1) (And.intro (uC Try.prog c44_31.eq_1) (And.intro (uC Try.prog c44_32.eq_1) (And.intro (uC Try.prog c44_33.eq_1) (And.intro (uC Try.prog c44_34.eq_1) (And.intro (uC Try.prog c44_35.eq_1) (And.intro (uR Try.prog c44_36.eq_1) (And.intro (uC Try.prog c44_37.eq_1) (And.intro (uC Try.prog c44_38.eq_1) (And.intro (uC Try.prog c44_39.eq_1) (And.intro (uC Try.prog c44_40.eq_1) (And.intro (uC Try.prog c44_41.eq_1) (And.intro (uC Try.prog c44_42.eq_1) (uC Try.prog c44.eq_1))))))))))))))))))))))))))))))))))))))))))))
def v44 : List RV := [.t 2]
theorem s44 : slimF Try.prog Try.f44 = some (c44.bare, v44) := by kernel_rfl
/-! 10 loop.example/g00066/impl.Changes: parameters 2, live [0, 1], slots [0:a, 1:b, 2:a, 3:b, 5:la, 6:lb, 7:p, 8:q] -/
def c10_0 : List SOper := [⟨some 4, .q (.mv (.c (.slice none 0 0))), none⟩]
def c10_1 : List SOper := [⟨some 9, .q (.mv (.t 0)), none⟩, ⟨some 10, .e (.call 37 [(.t 9)]), none⟩, ⟨some 11, .q (.not (.t 10)), none⟩, ⟨some 12, .q (.mv (.t 11)), none⟩, ⟨some 13, .q (.mv (.t 1)), some (12, false)⟩, ⟨some 14, .e (.call 37 [(.t 13)]), some (12, false)⟩, ⟨some 15, .q (.not (.t 14)), some (12, false)⟩, ⟨some 16, .q (.pick (.t 12) (.c (.bool true)) (.t 15)), none⟩]
def c10_2 : List SOper := [⟨some 4, .q (.mv (.c (.slice none 0 0))), none⟩]
def c10_3 : SCode := .seq (.region c10_2 [4]) .ret
def c10_4 : SCode := .cond (.t 16) c10_3 .skip
def c10_5 : SCode := .seq (.region c10_1 [0, 1, 16]) c10_4
def c10_6 : List SOper := [⟨some 17, .q (.mv (.t 0)), none⟩, ⟨some 18, .e (.call 38 [(.t 17)]), none⟩, ⟨some 19, .q (.mv (.t 1)), none⟩, ⟨some 20, .e (.call 38 [(.t 19)]), none⟩, ⟨some 0, .q (.mv (.t 18)), none⟩, ⟨some 1, .q (.mv (.t 20)), none⟩]
def c10_7 : List SOper := [⟨some 21, .q (.mv (.t 0)), none⟩, ⟨some 22, .e (.call 39 [(.t 21)]), none⟩, ⟨some 23, .q (.mv (.t 1)), none⟩, ⟨some 24, .e (.call 39 [(.t 23)]), none⟩, ⟨some 5, .q (.mv (.t 22)), none⟩, ⟨some 6, .q (.mv (.t 24)), none⟩]
def c10_8 : List SOper := [⟨some 25, .q (.mv (.t 0)), none⟩, ⟨some 26, .e (.call 41 [(.t 25)]), none⟩, ⟨some 27, .q (.mv (.t 1)), none⟩, ⟨some 28, .e (.call 41 [(.t 27)]), none⟩, ⟨some 29, .q (.mv (.t 5)), none⟩, ⟨some 30, .q (.mv (.t 6)), none⟩, ⟨some 31, .q (.mn (.t 29) (.t 30)), none⟩, ⟨some 32, .e (.call 40 [(.t 26), (.t 28), (.t 31)]), none⟩, ⟨some 7, .q (.mv (.t 32)), none⟩]
def c10_9 : List SOper := [⟨some 33, .q (.mv (.t 0)), none⟩, ⟨some 34, .e (.call 43 [(.t 33)]), none⟩, ⟨some 35, .q (.mv (.t 1)), none⟩, ⟨some 36, .e (.call 43 [(.t 35)]), none⟩, ⟨some 37, .q (.mv (.t 5)), none⟩, ⟨some 38, .q (.mv (.t 6)), none⟩, ⟨some 39, .q (.mn (.t 37) (.t 38)), none⟩, ⟨some 40, .q (.mv (.t 7)), none⟩, ⟨some 41, .q (.bin .sub (.t 39) (.t 40)), none⟩, ⟨some 42, .e (.call 42 [(.t 34), (.t 36), (.t 41)]), none⟩, ⟨some 8, .q (.mv (.t 42)), none⟩]
def c10_10 : List SOper := [⟨some 43, .q (.mv (.t 7)), none⟩, ⟨some 44, .e (.call 45 [(.c (.int .i64 1)), (.t 43)]), none⟩, ⟨some 45, .q (.mv (.t 5)), none⟩, ⟨some 46, .q (.mv (.t 7)), none⟩, ⟨some 47, .q (.bin .sub (.t 45) (.t 46)), none⟩, ⟨some 48, .q (.mv (.t 8)), none⟩, ⟨some 49, .q (.bin .sub (.t 47) (.t 48)), none⟩, ⟨some 50, .e (.call 45 [(.c (.int .i64 2)), (.t 49)]), none⟩, ⟨some 51, .q (.mv (.t 1)), none⟩, ⟨some 52, .q (.mv (.t 7)), none⟩, ⟨some 53, .q (.mv (.t 6)), none⟩, ⟨some 54, .q (.mv (.t 8)), none⟩, ⟨some 55, .q (.bin .sub (.t 53) (.t 54)), none⟩, ⟨some 56, .e (.call 47 [(.t 51), (.t 52), (.t 55)]), none⟩, ⟨some 57, .e (.call 38 [(.t 56)]), none⟩, ⟨some 58, .e (.call 46 [(.t 57)]), none⟩, ⟨some 59, .q (.mv (.t 8)), none⟩, ⟨some 60, .e (.call 45 [(.c (.int .i64 1)), (.t 59)]), none⟩, ⟨some 61, .a (.bsl 4 1 [(.slice none 0 0), (.slice none 0 0), (.slice none 0 0), (.slice none 0 0)] [(0, 1, (.t 44)), (1, 1, (.t 50)), (2, 1, (.t 58)), (3, 1, (.t 60))]), none⟩, ⟨some 62, .e (.call 44 [(.t 61)]), none⟩, ⟨some 4, .q (.mv (.t 62)), none⟩]
def c10_11 : SCode := .seq (.region c10_10 [4]) .ret
def c10_12 : SCode := .seq (.region c10_9 [1, 5, 6, 7, 8]) c10_11
def c10_13 : SCode := .seq (.region c10_8 [0, 1, 5, 6, 7]) c10_12
def c10_14 : SCode := .seq (.region c10_7 [0, 1, 5, 6]) c10_13
def c10_15 : SCode := .seq (.region c10_6 [0, 1]) c10_14
def c10_16 : SCode := .seq c10_5 c10_15
def c10_17 : SCode := .seq (.region c10_0 [0, 1]) c10_16
def c10 : SCode := c10_17
theorem w10 : type_of% (And.intro (uR Try.prog c10_0.eq_1) (And.intro (uR Try.prog c10_1.eq_1) (And.intro (uR Try.prog c10_2.eq_1) (And.intro (uC Try.prog c10_3.eq_1) (And.intro (uC Try.prog c10_4.eq_1) (And.intro (uC Try.prog c10_5.eq_1) (And.intro (uR Try.prog c10_6.eq_1) (And.intro (uR Try.prog c10_7.eq_1) (And.intro (uR Try.prog c10_8.eq_1) (And.intro (uR Try.prog c10_9.eq_1) (And.intro (uR Try.prog c10_10.eq_1) (And.intro (uC Try.prog c10_11.eq_1) (And.intro (uC Try.prog c10_12.eq_1) (And.intro (uC Try.prog c10_13.eq_1) (And.intro (uC Try.prog c10_14.eq_1) (And.intro (uC Try.prog c10_15.eq_1) (And.intro (uC Try.prog c10_16.eq_1) (And.intro (uC Try.prog c10_17.eq_1) (uC Try.prog c10.eq_1))))))))))))))))))) := (And.intro (uR Try.prog c10_0.eq_1) (And.intro (uR Try.prog c10_1.eq_1) (And.intro (uR Try.prog c10_2.eq_1) (And.intro (uC Try.prog c10_3.eq_1) (And.intro (uC Try.prog c10_4.eq_1) (And.intro (uC Try.prog c10_5.eq_1) (And.intro (uR Try.prog c10_6.eq_1) (And.intro (uR Try.prog c10_7.eq_1) (And.intro (uR Try.prog c10_8.eq_1) (And.intro (uR Try.prog c10_9.eq_1) (And.intro (uR Try.prog c10_10.eq_1) (And.intro (uC Try.prog c10_11.eq_1) (And.intro (uC Try.prog c10_12.eq_1) (And.intro (uC Try.prog c10_13.eq_1) (And.intro (uC Try.prog c10_14.eq_1) (And.intro (uC Try.prog c10_15.eq_1) (And.intro (uC Try.prog c10_16.eq_1) (And.intro (uC Try.prog c10_17.eq_1) (uC Try.prog c10.eq_1)))))))))))))))))))
def v10 : List RV := [.t 4]
theorem s10 : slimF Try.prog Try.f10 = some (c10.bare, v10) := by kernel_rfl

theorem flatC_take (ls : List (List Change)) (i : Nat) (hi : i < ls.length) : (ls.take (i + 1)).flatten = (ls.take i).flatten ++ ls[i] := by
  rw [List.take_succ_eq_append_getElem hi, List.flatten_append]; simp
theorem flatC_take_le (ls : List (List Change)) (i : Nat) : (ls.take i).flatten.length ≤ ls.flatten.length := by
  conv => rhs; rw [← List.take_append_drop i ls]
  rw [List.flatten_append, List.length_append]; omega
theorem GrowC_ok (h : Heap) (n : Int) (hn : 0 ≤ n ∧ n ≤ 1000000000) : ACall Try.prog 80 [.slice none 0 0, .int .i64 n] h fun r h' => Fresh h h' encChange 4 r [] := by
  refine ACall.of Try.func80 s80 (of_decide_eq_true rfl) ?_
  have W : IntKind.i64.wrap (0 - ((0 : Nat) : Int)) = 0 := i64e (by omega) (by omega)
  have W2 : IntKind.i64.wrap (n - 0) = n := i64e (by omega) (by omega)
  have W3 : IntKind.i64.wrap (0 - 0) = 0 := i64e (by omega) (by omega)
  simp (maxSteps := 4000000) (disch := omega) only [ah, am, Nat.reduceEqDiff, reduceCtorEq, Nat.reduceAdd, Nat.reduceLeDiff, Nat.reduceMul, Nat.reduceLT, if_true, if_false, true_and, and_true, and_self, Nat.reduceBEq, QOp.loads, boxO, bslO, buildO, cutL, fillV, putL, w80, v80, lenV_slice, W, W2, W3]
  refine stepI.split (fun hk => ?_) (fun hk => ?_)
  · omega
  · simp (maxSteps := 4000000) (disch := omega) only [ah, am, Nat.reduceEqDiff, reduceCtorEq, Nat.reduceAdd, Nat.reduceLeDiff, Nat.reduceMul, Nat.reduceLT, if_true, if_false, true_and, and_true, and_self, Nat.reduceBEq, QOp.loads, boxO, bslO, buildO, cutL, fillV, putL, w80, v80, lenV_slice, W, W2, W3, Int.natCast_zero]
    refine stepI.split (fun hk => ?_) (fun hk => ?_)
    · simp (maxSteps := 4000000) (disch := omega) only [ah, am, Nat.reduceEqDiff, reduceCtorEq, Nat.reduceAdd, Nat.reduceLeDiff, Nat.reduceMul, Nat.reduceLT, if_true, if_false, true_and, and_true, and_self, Nat.reduceBEq, QOp.loads, boxO, bslO, buildO, cutL, fillV, putL, w80, v80, lenV_slice, W, groV_ok, slc_nil, slc_to0, Int.natCast_zero]
      exact Fresh.new0 h encChange_len (by omega)
    · simp (maxSteps := 4000000) (disch := omega) only [ah, am, Nat.reduceEqDiff, reduceCtorEq, Nat.reduceAdd, Nat.reduceLeDiff, Nat.reduceMul, Nat.reduceLT, if_true, if_false, true_and, and_true, and_self, Nat.reduceBEq, QOp.loads, boxO, bslO, buildO, cutL, fillV, putL, w80, v80]
      exact Fresh.nil h encChange_len (by omega)
/-- A row of slices. -/
structure RowsC (h : Heap) (v : Value) (ls : List (List Change)) : Prop where
  rows : ∃ vs : List Value, SlT h encV 1 v vs ∧ vs.length = ls.length ∧ ∀ i (h1 : i < vs.length) (h2 : i < ls.length), SlT h encChange 4 vs[i] ls[i]
theorem ConcatC_ok (h : Heap) (v : Value) (ls : List (List Change)) (s : RowsC h v ls) (hn : ls.length ≤ 1100000) (hl : ls.flatten.length ≤ 1100000) :
    ACall Try.prog 44 [v] h fun r h' => Fresh h h' encChange 4 r ls.flatten := by
  obtain ⟨vs, s, hvl, hs⟩ := s
  refine ACall.of Try.func44 s44 (of_decide_eq_true rfl) ?_
  have R := s.rulesN
  simp (maxSteps := 4000000) (disch := omega) only [ah, am, Nat.reduceEqDiff, reduceCtorEq, Nat.reduceAdd, Nat.reduceLeDiff, Nat.reduceMul, Nat.reduceLT, if_true, if_false, true_and, and_true, and_self, Nat.reduceBEq, QOp.loads, boxO, bslO, buildO, cutL, fillV, putL, w44, v44, R]
  refine SW_loop_up (fun i E H => E = [(0, v), (3, .int .i64 ((ls.take i).flatten.length : Nat)), (9, v), (10, .int .i64 vs.length), (11, .int .i64 i)] ∧ H = h) vs.length 0 (by omega) ⟨by simp, rfl⟩ ?_
  rintro i E H hi ⟨rfl, rfl⟩
  have W : IntKind.i64.wrap ((i : Int) + 1) = ((i + 1 : Nat) : Int) := i64e (by omega) (by omega)
  simp (maxSteps := 4000000) (disch := omega) only [ah, am, Nat.reduceEqDiff, reduceCtorEq, Nat.reduceAdd, Nat.reduceLeDiff, Nat.reduceMul, Nat.reduceLT, if_true, if_false, true_and, and_true, and_self, Nat.reduceBEq, QOp.loads, boxO, bslO, buildO, cutL, fillV, putL, w44, v44, R]
  refine stepI.split (fun hp => ?_) (fun hp => ?_)
  · have hi1 : i < vs.length := by omega
    have hi2 : i < ls.length := by omega
    have R2 := (hs i hi1 hi2).rules
    have B := flatC_take_le ls (i + 1)
    rw [flatC_take ls i hi2, List.length_append] at B
    have W2 : IntKind.i64.wrap (((ls.take i).flatten.length : Nat) + (ls[i].length : Nat)) = ((ls.take (i + 1)).flatten.length : Nat) := by rw [flatC_take ls i hi2, List.length_append]; exact i64e (by omega) (by omega)
    simp (maxSteps := 4000000) (disch := omega) only [ah, am, Nat.reduceEqDiff, reduceCtorEq, Nat.reduceAdd, Nat.reduceLeDiff, Nat.reduceMul, Nat.reduceLT, if_true, if_false, true_and, and_true, and_self, Nat.reduceBEq, QOp.loads, boxO, bslO, buildO, cutL, fillV, putL, w44, v44, R, W, R2, encV, W2]
    refine stepI.split (fun hk => ?_) (fun hk => ?_)
    · omega
    · simp (maxSteps := 4000000) (disch := omega) only [ah, am, Nat.reduceEqDiff, reduceCtorEq, Nat.reduceAdd, Nat.reduceLeDiff, Nat.reduceMul, Nat.reduceLT, if_true, if_false, true_and, and_true, and_self, Nat.reduceBEq, QOp.loads, boxO, bslO, buildO, cutL, fillV, putL, w44, v44, W]
      exact hi1
  · simp (maxSteps := 4000000) (disch := omega) only [ah, am, Nat.reduceEqDiff, reduceCtorEq, Nat.reduceAdd, Nat.reduceLeDiff, Nat.reduceMul, Nat.reduceLT, if_true, if_false, true_and, and_true, and_self, Nat.reduceBEq, QOp.loads, boxO, bslO, buildO, cutL, fillV, putL, w44, v44, R, W]
    obtain rfl : i = vs.length := by omega
    rw [hvl, List.take_length]
    refine stepC.of (GrowC_ok H _ (by omega)) ?_
    intro r H1 F1
    have R := (s.ext F1.1).rulesN
    simp (maxSteps := 4000000) (disch := omega) only [ah, am, Nat.reduceEqDiff, reduceCtorEq, Nat.reduceAdd, Nat.reduceLeDiff, Nat.reduceMul, Nat.reduceLT, if_true, if_false, true_and, and_true, and_self, Nat.reduceBEq, QOp.loads, boxO, bslO, buildO, cutL, fillV, putL, w44, v44, R]
    refine SW_loop_up (fun i E H2 => ∃ ov, E = [(6, ov), (25, v), (26, .int .i64 vs.length), (27, .int .i64 i)] ∧ Fresh H H2 encChange 4 ov (ls.take i).flatten) vs.length 0 (by omega) ⟨r, by simp [hvl], by simpa using F1⟩ ?_
    rintro i E H2 hi ⟨ov, rfl, F⟩
    have R := (s.ext F.1).rulesN
    have W : IntKind.i64.wrap ((i : Int) + 1) = ((i + 1 : Nat) : Int) := i64e (by omega) (by omega)
    simp (maxSteps := 4000000) (disch := omega) only [ah, am, Nat.reduceEqDiff, reduceCtorEq, Nat.reduceAdd, Nat.reduceLeDiff, Nat.reduceMul, Nat.reduceLT, if_true, if_false, true_and, and_true, and_self, Nat.reduceBEq, QOp.loads, boxO, bslO, buildO, cutL, fillV, putL, w44, v44, R]
    refine stepI.split (fun hp => ?_) (fun hp => ?_)
    · have hi1 : i < vs.length := by omega
      have hi2 : i < ls.length := by omega
      have B := flatC_take_le ls (i + 1)
      rw [flatC_take ls i hi2, List.length_append] at B
      obtain ⟨v2, H3, ea, F2⟩ := F.app ((hs i hi1 hi2).ext F.1) (bytes := 32) (by omega)
      simp (maxSteps := 4000000) (disch := omega) only [ah, am, Nat.reduceEqDiff, reduceCtorEq, Nat.reduceAdd, Nat.reduceLeDiff, Nat.reduceMul, Nat.reduceLT, if_true, if_false, true_and, and_true, and_self, Nat.reduceBEq, QOp.loads, boxO, bslO, buildO, cutL, fillV, putL, w44, v44, R, W, encV, ea]
      exact ⟨hi1, _, rfl, by rw [flatC_take ls i hi2]; exact F2⟩
    · simp (maxSteps := 4000000) (disch := omega) only [ah, am, Nat.reduceEqDiff, reduceCtorEq, Nat.reduceAdd, Nat.reduceLeDiff, Nat.reduceMul, Nat.reduceLT, if_true, if_false, true_and, and_true, and_self, Nat.reduceBEq, QOp.loads, boxO, bslO, buildO, cutL, fillV, putL, w44, v44, R, W]
      obtain rfl : i = vs.length := by omega
      rw [hvl, List.take_length] at F
      exact F
theorem RowsC.four {h : Heap} {v1 v2 v3 v4 : Value} {l1 l2 l3 l4 : List Change} (s1 : SlT h encChange 4 v1 l1) (s2 : SlT h encChange 4 v2 l2) (s3 : SlT h encChange 4 v3 l3) (s4 : SlT h encChange 4 v4 l4) :
    RowsC (h.more [[v1, v2, v3, v4]]) (.slice (some ⟨h.size, 0, none⟩) 4 1) [l1, l2, l3, l4] := by
  have := (OwnT.new h [v1, v2, v3, v4] encV_len (by omega)).slt
  refine ⟨[v1, v2, v3, v4], this, rfl, fun i h1 h2 => ?_⟩
  simp only [List.length_cons, List.length_nil] at h1
  rcases (show i = 0 ∨ i = 1 ∨ i = 2 ∨ i = 3 by omega) with rfl | rfl | rfl | rfl
  · exact s1.ext (Ext.more h _)
  · exact s2.ext (Ext.more h _)
  · exact s3.ext (Ext.more h _)
  · exact s4.ext (Ext.more h _)
theorem oneB_slC {h : Heap} {v : Value} {l : List Change} (s : SlT h encChange 4 v l) (L : List Value) : oneB (v :: L) = oneB L := by
  rcases s.sl with ⟨rfl, _⟩ | ⟨rfl, _⟩ | ⟨i, o, n, ob, rfl, _⟩ <;> rfl
theorem cells_slC {h : Heap} {v : Value} {l : List Change} (s : SlT h encChange 4 v l) : v.cells = #[v] := by
  rcases s.sl with ⟨rfl, _⟩ | ⟨rfl, _⟩ | ⟨i, o, n, ob, rfl, _⟩ <;> rfl
theorem mirrored_ok (h : Heap) (v : Value) (l : List Clip) (s : SlT h encClip 3 v l) (hl : l.length ≤ 1100000) : ACall Try.prog 43 [v] h fun r h' => Fresh h h' encClip 3 r l.reverse := by
  refine ACall.of Try.func43 s43 (of_decide_eq_true rfl) ?_
  simp (maxSteps := 4000000) (disch := omega) only [ah, am, Nat.reduceEqDiff, reduceCtorEq, Nat.reduceAdd, Nat.reduceLeDiff, Nat.reduceMul, Nat.reduceLT, if_true, if_false, true_and, and_true, and_self, Nat.reduceBEq, QOp.loads, boxO, bslO, buildO, cutL, fillV, putL, w43, v43]
  refine stepC.of (Clone_ok _ _ _ s hl) ?_
  intro cv H1 F1
  simp (maxSteps := 4000000) (disch := omega) only [ah, am, Nat.reduceEqDiff, reduceCtorEq, Nat.reduceAdd, Nat.reduceLeDiff, Nat.reduceMul, Nat.reduceLT, if_true, if_false, true_and, and_true, and_self, Nat.reduceBEq, QOp.loads, boxO, bslO, buildO, cutL, fillV, putL, w43, v43]
  refine stepC.of (slReverse_ok h H1 cv l F1 hl) ?_
  intro r H2 F2
  simp (maxSteps := 4000000) (disch := omega) only [ah, am, Nat.reduceEqDiff, reduceCtorEq, Nat.reduceAdd, Nat.reduceLeDiff, Nat.reduceMul, Nat.reduceLT, if_true, if_false, true_and, and_true, and_self, Nat.reduceBEq, QOp.loads, boxO, bslO, buildO, cutL, fillV, putL, w43, v43]
  exact F2
theorem keeping_ok (h : Heap) (k n : Int) (hn : 0 ≤ n) : ACall Try.prog 45 [.int .i64 k, .int .i64 n] h fun r h' => Fresh h h' encChange 4 r (keepF k n) := by
  refine ACall.of Try.func45 s45 (of_decide_eq_true rfl) ?_
  by_cases hc : n = 0
  · have hc' : decide (n = 0) = true := decide_eq_true hc
    simp (maxSteps := 4000000) (disch := omega) only [ah, am, Nat.reduceEqDiff, reduceCtorEq, Nat.reduceAdd, Nat.reduceLeDiff, Nat.reduceMul, Nat.reduceLT, if_true, if_false, true_and, and_true, and_self, Nat.reduceBEq, QOp.loads, boxO, bslO, buildO, cutL, fillV, putL, w45, v45, hc']
    rw [show keepF k n = [] from if_neg (by omega)]
    exact Fresh.nil h encChange_len (by omega)
  · have hc' : decide (n = 0) = false := decide_eq_false hc
    have N := Fresh.new h [(⟨k, 0, 0, n⟩ : Change)] encChange_len (by omega)
    simp only [List.flatMap_cons, List.flatMap_nil, List.append_nil, List.length_cons, List.length_nil, Nat.zero_add, encChange] at N
    simp (maxSteps := 4000000) (disch := omega) only [ah, am, Nat.reduceEqDiff, reduceCtorEq, Nat.reduceAdd, Nat.reduceLeDiff, Nat.reduceMul, Nat.reduceLT, if_true, if_false, true_and, and_true, and_self, Nat.reduceBEq, QOp.loads, boxO, bslO, buildO, cutL, fillV, putL, w45, v45, hc']
    rw [show keepF k n = [⟨k, 0, 0, n⟩] from if_pos (by omega)]
    exact N
theorem Changes_ok (h : Heap) (v w : Value) (a b : List Clip) (s : SlT h encClip 3 v a) (sw : SlT h encClip 3 w b) (la : a.length ≤ 1100000) (lb : b.length ≤ 1100000) :
    ACall Try.prog 10 [v, w] h fun r h' => Fresh h h' encChange 4 r (changesF a b) := by
  refine ACall.of Try.func10 s10 (of_decide_eq_true rfl) ?_
  by_cases ha : trackOk a
  rotate_left
  · have ha' : decide (trackOk a) = false := decide_eq_false ha
    simp (maxSteps := 4000000) (disch := omega) only [ah, am, Nat.reduceEqDiff, reduceCtorEq, Nat.reduceAdd, Nat.reduceLeDiff, Nat.reduceMul, Nat.reduceLT, if_true, if_false, true_and, and_true, and_self, Nat.reduceBEq, QOp.loads, boxO, bslO, buildO, cutL, fillV, putL, w10, v10]
    refine stepC.of (implTrackOk_ok _ _ _ s (by omega)) ?_
    rintro _ H1 ⟨e1, rfl⟩
    simp (maxSteps := 4000000) (disch := omega) only [ah, am, Nat.reduceEqDiff, reduceCtorEq, Nat.reduceAdd, Nat.reduceLeDiff, Nat.reduceMul, Nat.reduceLT, if_true, if_false, true_and, and_true, and_self, Nat.reduceBEq, QOp.loads, boxO, bslO, buildO, cutL, fillV, putL, w10, v10, ha']
    rw [show changesF a b = [] from if_neg fun q => ha q.1]
    exact (Fresh.nil _ encChange_len (by omega)).mono e1
  by_cases hb : trackOk b
  rotate_left
  · have ha' : decide (trackOk a) = true := decide_eq_true ha
    have hb' : decide (trackOk b) = false := decide_eq_false hb
    simp (maxSteps := 4000000) (disch := omega) only [ah, am, Nat.reduceEqDiff, reduceCtorEq, Nat.reduceAdd, Nat.reduceLeDiff, Nat.reduceMul, Nat.reduceLT, if_true, if_false, true_and, and_true, and_self, Nat.reduceBEq, QOp.loads, boxO, bslO, buildO, cutL, fillV, putL, w10, v10]
    refine stepC.of (implTrackOk_ok _ _ _ s (by omega)) ?_
    rintro _ H1 ⟨e1, rfl⟩
    simp (maxSteps := 4000000) (disch := omega) only [ah, am, Nat.reduceEqDiff, reduceCtorEq, Nat.reduceAdd, Nat.reduceLeDiff, Nat.reduceMul, Nat.reduceLT, if_true, if_false, true_and, and_true, and_self, Nat.reduceBEq, QOp.loads, boxO, bslO, buildO, cutL, fillV, putL, w10, v10, ha']
    refine stepC.of (implTrackOk_ok _ _ _ (sw.ext e1) (by omega)) ?_
    rintro _ H2 ⟨e2, rfl⟩
    simp (maxSteps := 4000000) (disch := omega) only [ah, am, Nat.reduceEqDiff, reduceCtorEq, Nat.reduceAdd, Nat.reduceLeDiff, Nat.reduceMul, Nat.reduceLT, if_true, if_false, true_and, and_true, and_self, Nat.reduceBEq, QOp.loads, boxO, bslO, buildO, cutL, fillV, putL, w10, v10, hb']
    rw [show changesF a b = [] from if_neg fun q => hb q.2]
    exact (Fresh.nil _ encChange_len (by omega)).mono (e1.trans e2)
  rw [show changesF a b = changesL a b from if_pos ⟨ha, hb⟩]
  have ha' : decide (trackOk a) = true := decide_eq_true ha
  have hb' : decide (trackOk b) = true := decide_eq_true hb
  have alen := ha.1; have aok := ha.2.1; have asum := ha.2.2; have blen := hb.1; have bok := hb.2.1; have bsum := hb.2.2
  have B := chPQ ha hb
  obtain ⟨-, -, ja, xa, sa⟩ := editF_facts (editF_of aok ha rfl)
  obtain ⟨-, -, jb, xb, sb⟩ := editF_facts (editF_of bok hb rfl)
  have jalen := ja.1; have jaok := ja.2.1; have jblen := jb.1; have jbok := jb.2.1
  have hsa := sumLen_bound jaok; have hsb := sumLen_bound jbok
  have xal := sum_ex ja
  simp (maxSteps := 4000000) (disch := omega) only [ah, am, Nat.reduceEqDiff, reduceCtorEq, Nat.reduceAdd, Nat.reduceLeDiff, Nat.reduceMul, Nat.reduceLT, if_true, if_false, true_and, and_true, and_self, Nat.reduceBEq, QOp.loads, boxO, bslO, buildO, cutL, fillV, putL, w10, v10]
  refine stepC.of (implTrackOk_ok _ _ _ s (by omega)) ?_
  rintro _ H1 ⟨e1, rfl⟩
  simp (maxSteps := 4000000) (disch := omega) only [ah, am, Nat.reduceEqDiff, reduceCtorEq, Nat.reduceAdd, Nat.reduceLeDiff, Nat.reduceMul, Nat.reduceLT, if_true, if_false, true_and, and_true, and_self, Nat.reduceBEq, QOp.loads, boxO, bslO, buildO, cutL, fillV, putL, w10, v10, ha']
  refine stepC.of (implTrackOk_ok _ _ _ (sw.ext e1) (by omega)) ?_
  rintro _ H2 ⟨e2, rfl⟩
  simp (maxSteps := 4000000) (disch := omega) only [ah, am, Nat.reduceEqDiff, reduceCtorEq, Nat.reduceAdd, Nat.reduceLeDiff, Nat.reduceMul, Nat.reduceLT, if_true, if_false, true_and, and_true, and_self, Nat.reduceBEq, QOp.loads, boxO, bslO, buildO, cutL, fillV, putL, w10, v10, hb']
  have e12 := e1.trans e2
  refine stepC.of (joined_ok _ _ _ (s.ext e12) (by omega) (fun k hk => (aok k hk).in)) ?_
  intro jv H3 FA
  simp (maxSteps := 4000000) (disch := omega) only [ah, am, Nat.reduceEqDiff, reduceCtorEq, Nat.reduceAdd, Nat.reduceLeDiff, Nat.reduceMul, Nat.reduceLT, if_true, if_false, true_and, and_true, and_self, Nat.reduceBEq, QOp.loads, boxO, bslO, buildO, cutL, fillV, putL, w10, v10]
  have e13 := e12.trans FA.1
  refine stepC.of (joined_ok _ _ _ (sw.ext e13) (by omega) (fun k hk => (bok k hk).in)) ?_
  intro jw H4 FB
  have e14 := e13.trans FB.1
  have SA := FA.slt.ext FB.1
  have SB := FB.slt
  clear FA FB
  simp (maxSteps := 4000000) (disch := omega) only [ah, am, Nat.reduceEqDiff, reduceCtorEq, Nat.reduceAdd, Nat.reduceLeDiff, Nat.reduceMul, Nat.reduceLT, if_true, if_false, true_and, and_true, and_self, Nat.reduceBEq, QOp.loads, boxO, bslO, buildO, cutL, fillV, putL, w10, v10]
  refine stepC.of (long_ok _ _ _ SA jalen jaok) ?_
  rintro _ H5 ⟨e5, rfl⟩
  simp (maxSteps := 4000000) (disch := omega) only [ah, am, Nat.reduceEqDiff, reduceCtorEq, Nat.reduceAdd, Nat.reduceLeDiff, Nat.reduceMul, Nat.reduceLT, if_true, if_false, true_and, and_true, and_self, Nat.reduceBEq, QOp.loads, boxO, bslO, buildO, cutL, fillV, putL, w10, v10]
  refine stepC.of (long_ok _ _ _ (SB.ext e5) jblen jbok) ?_
  rintro _ H6 ⟨e6, rfl⟩
  simp (maxSteps := 4000000) (disch := omega) only [ah, am, Nat.reduceEqDiff, reduceCtorEq, Nat.reduceAdd, Nat.reduceLeDiff, Nat.reduceMul, Nat.reduceLT, if_true, if_false, true_and, and_true, and_self, Nat.reduceBEq, QOp.loads, boxO, bslO, buildO, cutL, fillV, putL, w10, v10]
  have e46 := e5.trans e6
  refine stepC.of (Clone_ok _ _ _ (SA.ext e46) (by omega)) ?_
  intro ca H7 F7
  simp (maxSteps := 4000000) (disch := omega) only [ah, am, Nat.reduceEqDiff, reduceCtorEq, Nat.reduceAdd, Nat.reduceLeDiff, Nat.reduceMul, Nat.reduceLT, if_true, if_false, true_and, and_true, and_self, Nat.reduceBEq, QOp.loads, boxO, bslO, buildO, cutL, fillV, putL, w10, v10]
  refine stepC.of (Clone_ok _ _ _ (SB.ext (e46.trans F7.1)) (by omega)) ?_
  intro cb H8 F8
  have mn : (if sumLen (join b) < sumLen (join a) then sumLen (join b) else sumLen (join a)) = min (sumLen a) (sumLen b) := by rw [sa, sb]; omega
  obtain ⟨g1, g2, hg, p1, p2, o1, o2⟩ := two_own F7 F8
  simp (maxSteps := 4000000) (disch := omega) only [ah, am, Nat.reduceEqDiff, reduceCtorEq, Nat.reduceAdd, Nat.reduceLeDiff, Nat.reduceMul, Nat.reduceLT, if_true, if_false, true_and, and_true, and_self, Nat.reduceBEq, QOp.loads, boxO, bslO, buildO, cutL, fillV, putL, w10, v10, mn]
  refine stepC.of (alike_ok H6 H8 g1 g2 ca cb _ _ _ o1 o2 hg p1 p2 (F7.1.trans F8.1) jalen jblen jaok jbok (by omega) (by omega)) ?_
  rintro _ H9 ⟨e9, rfl⟩
  rw [xa, xb, show min (min (sumLen a) (sumLen b)) (lcp (ex a) (ex b) : Int) = chP a b from rfl]
  have e49 := e46.trans e9
  clear F7 F8 o1 o2 p1 p2 hg
  simp (maxSteps := 4000000) (disch := omega) only [ah, am, Nat.reduceEqDiff, reduceCtorEq, Nat.reduceAdd, Nat.reduceLeDiff, Nat.reduceMul, Nat.reduceLT, if_true, if_false, true_and, and_true, and_self, Nat.reduceBEq, QOp.loads, boxO, bslO, buildO, cutL, fillV, putL, w10, v10]
  refine stepC.of (mirrored_ok _ _ _ (SA.ext e49) (by omega)) ?_
  intro ca2 H10 F10
  simp (maxSteps := 4000000) (disch := omega) only [ah, am, Nat.reduceEqDiff, reduceCtorEq, Nat.reduceAdd, Nat.reduceLeDiff, Nat.reduceMul, Nat.reduceLT, if_true, if_false, true_and, and_true, and_self, Nat.reduceBEq, QOp.loads, boxO, bslO, buildO, cutL, fillV, putL, w10, v10]
  refine stepC.of (mirrored_ok _ _ _ (SB.ext (e49.trans F10.1)) (by omega)) ?_
  intro cb2 H11 F11
  obtain ⟨g1, g2, hg, p1, p2, o1, o2⟩ := two_own F10 F11
  have W1 : IntKind.i64.wrap (min (sumLen a) (sumLen b) - chP a b) = min (sumLen a) (sumLen b) - chP a b := i64w (by omega)
  have xrl : (exr (join a).reverse).length = (ex (join a)).length := by rw [exr_reverse, List.length_reverse]
  simp (maxSteps := 4000000) (disch := omega) only [ah, am, Nat.reduceEqDiff, reduceCtorEq, Nat.reduceAdd, Nat.reduceLeDiff, Nat.reduceMul, Nat.reduceLT, if_true, if_false, true_and, and_true, and_self, Nat.reduceBEq, QOp.loads, boxO, bslO, buildO, cutL, fillV, putL, w10, v10, mn, W1]
  refine stepC.of (alikeAtEnd_ok H9 H11 g1 g2 ca2 cb2 _ _ _ o1 o2 hg p1 p2 (F10.1.trans F11.1) (by simpa using jalen) (by simpa using jblen) (by simpa using jaok) (by simpa using jbok) (by omega) (by omega)) ?_
  rintro _ H12 ⟨e12', rfl⟩
  rw [exr_reverse, exr_reverse, xa, xb, show min (min (sumLen a) (sumLen b) - chP a b) (lcp (ex a).reverse (ex b).reverse : Int) = chQ a b from rfl]
  have e412 := e49.trans e12'
  clear F10 F11 o1 o2 p1 p2 hg
  have W2 : IntKind.i64.wrap (sumLen a - chP a b) = sumLen a - chP a b := i64w (by omega)
  have W3 : IntKind.i64.wrap (sumLen a - chP a b - chQ a b) = sumLen a - chP a b - chQ a b := i64w (by omega)
  have W4 : IntKind.i64.wrap (sumLen b - chQ a b) = sumLen b - chQ a b := i64w (by omega)
  simp (maxSteps := 4000000) (disch := omega) only [ah, am, Nat.reduceEqDiff, reduceCtorEq, Nat.reduceAdd, Nat.reduceLeDiff, Nat.reduceMul, Nat.reduceLT, if_true, if_false, true_and, and_true, and_self, Nat.reduceBEq, QOp.loads, boxO, bslO, buildO, cutL, fillV, putL, w10, v10, sa, sb]
  refine stepC.of (keeping_ok _ 1 _ B.1) ?_
  intro k1 H13 F13
  simp (maxSteps := 4000000) (disch := omega) only [ah, am, Nat.reduceEqDiff, reduceCtorEq, Nat.reduceAdd, Nat.reduceLeDiff, Nat.reduceMul, Nat.reduceLT, if_true, if_false, true_and, and_true, and_self, Nat.reduceBEq, QOp.loads, boxO, bslO, buildO, cutL, fillV, putL, w10, v10, sa, sb, W2, W3]
  refine stepC.of (keeping_ok _ 2 _ (by omega)) ?_
  intro k2 H14 F14
  have e414 := (e412.trans F13.1).trans F14.1
  simp (maxSteps := 4000000) (disch := omega) only [ah, am, Nat.reduceEqDiff, reduceCtorEq, Nat.reduceAdd, Nat.reduceLeDiff, Nat.reduceMul, Nat.reduceLT, if_true, if_false, true_and, and_true, and_self, Nat.reduceBEq, QOp.loads, boxO, bslO, buildO, cutL, fillV, putL, w10, v10, sa, sb, W4]
  refine stepC.of (part_ok _ _ (join b) _ _ (SB.ext e414) jblen jbok (by omega) (by omega) (by omega)) ?_
  intro pv H15 F15
  have Q1 : partI (chP a b) (sumLen b - chQ a b) (join b) = partS (chP a b) (sumLen b - chQ a b) 0 (join b) := by have := part_eq (chP a b) (sumLen b - chQ a b) (join b) 0 jbok; simpa using this
  rw [Q1] at F15
  have hpl := partS_length (chP a b) (sumLen b - chQ a b) (join b) 0
  simp (maxSteps := 4000000) (disch := omega) only [ah, am, Nat.reduceEqDiff, reduceCtorEq, Nat.reduceAdd, Nat.reduceLeDiff, Nat.reduceMul, Nat.reduceLT, if_true, if_false, true_and, and_true, and_self, Nat.reduceBEq, QOp.loads, boxO, bslO, buildO, cutL, fillV, putL, w10, v10]
  refine stepC.of (joined_ok _ _ _ F15.slt (by omega) (fun k hk => (partS_mem _ _ _ _ jbok k hk).in)) ?_
  intro qv H16 F16
  have hjl := join_length (partS (chP a b) (sumLen b - chQ a b) 0 (join b))
  have hJ : join (partS (chP a b) (sumLen b - chQ a b) 0 (join b)) = join (partS (chP a b) (sumLen b - chQ a b) 0 b) := by
    refine join_eq_of_ex (fun k hk => (partS_mem _ _ _ _ jbok k hk).wf) (fun k hk => (partS_mem _ _ _ _ bok k hk).wf) ?_
    rw [ex_partS _ _ _ _ (fun k hk => (jbok k hk).wf), ex_partS _ _ _ _ (fun k hk => (bok k hk).wf), xb]
  simp (maxSteps := 4000000) (disch := omega) only [ah, am, Nat.reduceEqDiff, reduceCtorEq, Nat.reduceAdd, Nat.reduceLeDiff, Nat.reduceMul, Nat.reduceLT, if_true, if_false, true_and, and_true, and_self, Nat.reduceBEq, QOp.loads, boxO, bslO, buildO, cutL, fillV, putL, w10, v10]
  refine stepC.of (adding_ok _ _ _ F16.slt (by omega)) ?_
  intro k3 H17 F17
  simp (maxSteps := 4000000) (disch := omega) only [ah, am, Nat.reduceEqDiff, reduceCtorEq, Nat.reduceAdd, Nat.reduceLeDiff, Nat.reduceMul, Nat.reduceLT, if_true, if_false, true_and, and_true, and_self, Nat.reduceBEq, QOp.loads, boxO, bslO, buildO, cutL, fillV, putL, w10, v10]
  refine stepC.of (keeping_ok _ 1 _ B.2.1) ?_
  intro k4 H18 F18
  have S1 := ((((F13.slt.ext F14.1).ext F15.1).ext F16.1).ext F17.1).ext F18.1
  have S2 := (((F14.slt.ext F15.1).ext F16.1).ext F17.1).ext F18.1
  have S3 := F17.slt.ext F18.1
  have S4 := F18.slt
  have b1 := oneB_slC S1; have b2 := oneB_slC S2; have b3 := oneB_slC S3; have b4 := oneB_slC S4
  have c1 := cells_slC S1; have c2 := cells_slC S2; have c3 := cells_slC S3; have c4 := cells_slC S4
  have l1 := keepF_length 1 (chP a b); have l2 := keepF_length 2 (sumLen a - chP a b - chQ a b); have l4 := keepF_length 1 (chQ a b)
  simp (maxSteps := 4000000) (disch := omega) only [ah, am, Nat.reduceEqDiff, reduceCtorEq, Nat.reduceAdd, Nat.reduceLeDiff, Nat.reduceMul, Nat.reduceLT, if_true, if_false, true_and, and_true, and_self, Nat.reduceBEq, QOp.loads, boxO, bslO, buildO, cutL, fillV, putL, w10, v10, b1, b2, b3, b4, c1, c2, c3, c4, size_mk]
  refine stepC.of (ConcatC_ok _ _ _ (RowsC.four S1 S2 S3 S4) (by simp) (by simp only [List.flatten_cons, List.flatten_nil, List.append_nil, List.length_append, List.length_map]; omega)) ?_
  intro r H19 F19
  simp (maxSteps := 4000000) (disch := omega) only [ah, am, Nat.reduceEqDiff, reduceCtorEq, Nat.reduceAdd, Nat.reduceLeDiff, Nat.reduceMul, Nat.reduceLT, if_true, if_false, true_and, and_true, and_self, Nat.reduceBEq, QOp.loads, boxO, bslO, buildO, cutL, fillV, putL, w10, v10]
  rw [hJ] at F19
  have hfl : [keepF 1 (chP a b), keepF 2 (sumLen a - chP a b - chQ a b), (join (partS (chP a b) (sumLen b - chQ a b) 0 b)).map addOf, keepF 1 (chQ a b)].flatten = changesL a b := by
    simp only [List.flatten_cons, List.flatten_nil, List.append_nil, changesL, List.append_assoc]
  rw [hfl] at F19
  exact F19.mono (((((((e14.trans e412).trans F13.1).trans F14.1).trans F15.1).trans F16.1).trans F17.1).trans (F18.1.trans (Ext.more _ _)))
end Go.Proofs.Ytbnppofkpgfhnaa
