import Derived.Test.YtmhbmbhdeofbaaaE2
namespace Go.Proofs.Ytmhbmbhdeofbaaa
open Go Go.Ah
set_option linter.unusedSimpArgs false
set_option linter.unusedVariables false
set_option maxRecDepth 10000
set_option maxHeartbeats 4000000
theorem sortStable_ok (h : Heap) (g : Nat) (v : Value) (l : List Int) (n : Nat) (cap : Array Value) (cm : Int → Int → Int) (lt : Int → Int → Bool) (o : OwnT g h encI 1 v l) (P : Int → Prop) (hP : ∀ x ∈ l, P x) (hl : l.length ≤ 19)
    (hlt : ∀ x y, lt x y = decide (cm x y < 0))
    (hf : ∃ fn, Try.prog.funcs[n]? = some fn ∧ fn.body.isSome = true ∧ fn.name ≠ "runtime.NumGoroutine")
    (H : ∀ h' x y, ExtG g h h' → P x → P y → ACall Try.prog n ([.int .i64 x, .int .i64 y] ++ cap.toList) h' fun r h2 => h2 = h' ∧ r = .int .i64 (cm x y)) :
    ACall Try.prog 31 [v, .func (.func n) #[] cap] h
      fun r h' => ExtG g h h' ∧ OwnT g h' encI 1 v ((List.range l.length).foldl (fun l i => sink lt i l) l) := by
  have key : ACall Try.prog 50 [v, .int .i64 l.length, .func (.func n) #[] cap] h
      fun r h' => ExtG g h h' ∧ OwnT g h' encI 1 v ((List.range l.length).foldl (fun l i => sink lt i l) l) := by
    refine ACall.of Try.func50 s50 (of_decide_eq_true rfl) ?_
    simp (maxSteps := 4000000) (disch := omega) only [ah, am, Nat.reduceEqDiff, reduceCtorEq, Nat.reduceAdd, Nat.reduceLeDiff, Nat.reduceMul, Nat.reduceLT, if_true, if_false, true_and, and_true, and_self, Nat.reduceBEq, QOp.loads, boxO, bslO, buildO, cutL, fillV, putL, w50, v50]
    refine SW_loop_up (fun i E K => E = [(0, v), (1, .int .i64 l.length), (2, .func (.func n) #[] cap), (6, .int .i64 20), (7, .int .i64 0), (8, .int .i64 20)] ∧ K = h) 0 0 (by omega) ⟨rfl, rfl⟩ ?_
    rintro i E K hi ⟨rfl, rfl⟩
    simp (maxSteps := 4000000) (disch := omega) only [ah, am, Nat.reduceEqDiff, reduceCtorEq, Nat.reduceAdd, Nat.reduceLeDiff, Nat.reduceMul, Nat.reduceLT, if_true, if_false, true_and, and_true, and_self, Nat.reduceBEq, QOp.loads, boxO, bslO, buildO, cutL, fillV, putL, w50, v50, decide_eq_false (show ¬ ((20 : Int) ≤ l.length) by omega)]
    refine stepC.of (insertionI_ok K g v l n cap cm lt o P hP (by omega) hlt hf H) ?_
    rintro r K2 ⟨G, O⟩
    simp (maxSteps := 4000000) (disch := omega) only [ah, am, Nat.reduceEqDiff, reduceCtorEq, Nat.reduceAdd, Nat.reduceLeDiff, Nat.reduceMul, Nat.reduceLT, if_true, if_false, true_and, and_true, and_self, Nat.reduceBEq, QOp.loads, boxO, bslO, buildO, cutL, fillV, putL, w50, v50]
    refine SW_loop_up (fun i E K => E = [(0, v), (1, .int .i64 l.length), (2, .func (.func n) #[] cap), (6, .int .i64 20)] ∧ K = K2) 0 0 (by omega) ⟨rfl, rfl⟩ ?_
    rintro i E K3 hi ⟨rfl, rfl⟩
    simp (maxSteps := 4000000) (disch := omega) only [ah, am, Nat.reduceEqDiff, reduceCtorEq, Nat.reduceAdd, Nat.reduceLeDiff, Nat.reduceMul, Nat.reduceLT, if_true, if_false, true_and, and_true, and_self, Nat.reduceBEq, QOp.loads, boxO, bslO, buildO, cutL, fillV, putL, w50, v50, decide_eq_false (show ¬ ((20 : Int) < l.length) by omega)]
    exact ⟨G, O⟩
  refine ACall.of Try.func31 s31 (of_decide_eq_true rfl) ?_
  have R := o.slt.rulesN
  simp (maxSteps := 4000000) (disch := omega) only [ah, am, Nat.reduceEqDiff, reduceCtorEq, Nat.reduceAdd, Nat.reduceLeDiff, Nat.reduceMul, Nat.reduceLT, if_true, if_false, true_and, and_true, and_self, Nat.reduceBEq, QOp.loads, boxO, bslO, buildO, cutL, fillV, putL, w31, v31, R]
  refine stepC.of key ?_
  rintro r K ⟨G, O⟩
  simp (maxSteps := 4000000) (disch := omega) only [ah, am, Nat.reduceEqDiff, reduceCtorEq, Nat.reduceAdd, Nat.reduceLeDiff, Nat.reduceMul, Nat.reduceLT, if_true, if_false, true_and, and_true, and_self, Nat.reduceBEq, QOp.loads, boxO, bslO, buildO, cutL, fillV, putL, w31, v31]
  exact ⟨G, O⟩
/-! ### What a cube gives -/
def ordF (r : List Int) : List Int := (List.range 3).foldl (fun l i => sink (fun x y => decide (r.getD y.toNat 0 - r.getD x.toNat 0 < 0)) i l) [0, 1, 2]
def stF (n : Int) : List Int := [n * n, n, 1]
def nxtF (r : List Int) (k : Nat) : Int := if k < 3 then r.getD ((ordF r).getD k 0).toNat 0 else 0
def lftF (r : List Int) (k : Nat) : Int := if k = 0 then 65535 else nxtF r (k - 1)
def idxF (n : Int) (a r : List Int) : Nat → Int
  | 0 => a.getD 0 0 * (n * n) + a.getD 1 0 * n + a.getD 2 0
  | k + 1 => idxF n a r k + (stF n).getD ((ordF r).getD k 0).toNat 0
def sumF (n : Int) (a r : List Int) (t : List Rgb) (f : Rgb → Int) : Nat → Int
  | 0 => 0
  | k + 1 => sumF n a r t f k + f (t.getD (idxF n a r k).toNat zRgb) * (lftF r k - nxtF r k)
def cubeOk (n : Int) (t : List Rgb) (c : Rgb) : Prop := (2 ≤ n ∧ n ≤ 9) ∧ (t.length : Int) = n * n * n ∧ rgbOk c ∧ ∀ x ∈ t, rgbOk x
instance (n : Int) (t : List Rgb) (c : Rgb) : Decidable (cubeOk n t c) := by unfold cubeOk; infer_instance
def atF (n : Int) (c : Rgb) : List Int := [placeI c.r (n - 1), placeI c.g (n - 1), placeI c.b (n - 1)]
def restF (n : Int) (c : Rgb) : List Int := [placeR c.r (n - 1), placeR c.g (n - 1), placeR c.b (n - 1)]
def cubeL (n : Int) (t : List Rgb) (c : Rgb) : Rgb := ⟨near (sumF n (atF n c) (restF n c) t (·.r) 4) 65535, near (sumF n (atF n c) (restF n c) t (·.g) 4) 65535, near (sumF n (atF n c) (restF n c) t (·.b) 4) 65535⟩
def cubeF (n : Int) (t : List Rgb) (c : Rgb) : Rgb := if cubeOk n t c then cubeL n t c else zRgb
/-- The orders of three. -/
theorem ordF_cases (r0 r1 r2 : Int) :
    (ordF [r0, r1, r2] = [0, 1, 2] ∧ r1 ≤ r0 ∧ r2 ≤ r1) ∨ (ordF [r0, r1, r2] = [0, 2, 1] ∧ r2 ≤ r0 ∧ r1 < r2) ∨ (ordF [r0, r1, r2] = [1, 0, 2] ∧ r0 < r1 ∧ r2 ≤ r0) ∨
    (ordF [r0, r1, r2] = [1, 2, 0] ∧ r2 ≤ r1 ∧ r0 < r2) ∨ (ordF [r0, r1, r2] = [2, 0, 1] ∧ r0 < r2 ∧ r1 ≤ r0) ∨ (ordF [r0, r1, r2] = [2, 1, 0] ∧ r1 < r2 ∧ r0 < r1) := by
  have e : ordF [r0, r1, r2] = sink (fun x y => decide (([r0, r1, r2] : List Int).getD y.toNat 0 - ([r0, r1, r2] : List Int).getD x.toNat 0 < 0)) 2 (sink (fun x y => decide (([r0, r1, r2] : List Int).getD y.toNat 0 - ([r0, r1, r2] : List Int).getD x.toNat 0 < 0)) 1 [0, 1, 2]) := rfl
  by_cases h1 : r0 - r1 < 0
  · have s1 : sink (fun x y => decide (([r0, r1, r2] : List Int).getD y.toNat 0 - ([r0, r1, r2] : List Int).getD x.toNat 0 < 0)) 1 [0, 1, 2] = [1, 0, 2] := by
      simp [sink, List.getD, h1]
    rw [s1] at e
    by_cases h2 : r0 - r2 < 0
    · by_cases h3 : r1 - r2 < 0
      · have : ordF [r0, r1, r2] = [2, 1, 0] := by rw [e]; simp [sink, List.getD, h2, h3]
        right; right; right; right; right; exact ⟨this, by omega, by omega⟩
      · have : ordF [r0, r1, r2] = [1, 2, 0] := by rw [e]; simp [sink, List.getD, h2, h3]
        right; right; right; left; exact ⟨this, by omega, by omega⟩
    · have : ordF [r0, r1, r2] = [1, 0, 2] := by rw [e]; simp [sink, List.getD, h2]
      right; right; left; exact ⟨this, by omega, by omega⟩
  · have s1 : sink (fun x y => decide (([r0, r1, r2] : List Int).getD y.toNat 0 - ([r0, r1, r2] : List Int).getD x.toNat 0 < 0)) 1 [0, 1, 2] = [0, 1, 2] := by
      simp [sink, List.getD, h1]
    rw [s1] at e
    by_cases h2 : r1 - r2 < 0
    · by_cases h3 : r0 - r2 < 0
      · have : ordF [r0, r1, r2] = [2, 0, 1] := by rw [e]; simp [sink, List.getD, h2, h3]
        right; right; right; right; left; exact ⟨this, by omega, by omega⟩
      · have : ordF [r0, r1, r2] = [0, 2, 1] := by rw [e]; simp [sink, List.getD, h2, h3]
        right; left; exact ⟨this, by omega, by omega⟩
    · have : ordF [r0, r1, r2] = [0, 1, 2] := by rw [e]; simp [sink, List.getD, h2]
      left; exact ⟨this, by omega, by omega⟩
/-- What is known of the way through a cell. -/
structure Way (n : Int) (a r : List Int) : Prop where
  ol : (ordF r).length = 3
  om : ∀ x ∈ ordF r, 0 ≤ x ∧ x < 3
  ix : ∀ k, k ≤ 3 → 0 ≤ idxF n a r k ∧ idxF n a r k < n * n * n
  wt : ∀ k, k ≤ 3 → (0 ≤ nxtF r k ∧ nxtF r k ≤ 65535) ∧ (0 ≤ lftF r k - nxtF r k ∧ lftF r k - nxtF r k ≤ 65535)
  tot : (lftF r 0 - nxtF r 0) + (lftF r 1 - nxtF r 1) + (lftF r 2 - nxtF r 2) + (lftF r 3 - nxtF r 3) = 65535
theorem way {n : Int} (hn : 2 ≤ n ∧ n ≤ 9) {a0 a1 a2 r0 r1 r2 : Int} (b0 : 0 ≤ a0 ∧ a0 ≤ n - 2) (b1 : 0 ≤ a1 ∧ a1 ≤ n - 2) (b2 : 0 ≤ a2 ∧ a2 ≤ n - 2) (q0 : 0 ≤ r0 ∧ r0 ≤ 65535) (q1 : 0 ≤ r1 ∧ r1 ≤ 65535) (q2 : 0 ≤ r2 ∧ r2 ≤ 65535) :
    Way n [a0, a1, a2] [r0, r1, r2] := by
  have k4 : ∀ k, k ≤ 3 → k = 0 ∨ k = 1 ∨ k = 2 ∨ k = 3 := by omega
  have hn8 : n = 2 ∨ n = 3 ∨ n = 4 ∨ n = 5 ∨ n = 6 ∨ n = 7 ∨ n = 8 ∨ n = 9 := by omega
  rcases ordF_cases r0 r1 r2 with ⟨e, c1, c2⟩ | ⟨e, c1, c2⟩ | ⟨e, c1, c2⟩ | ⟨e, c1, c2⟩ | ⟨e, c1, c2⟩ | ⟨e, c1, c2⟩
  all_goals
    refine ⟨by rw [e]; rfl, by rw [e]; decide, fun k hk => ?_, fun k hk => ?_, ?_⟩
    · rcases k4 k hk with rfl | rfl | rfl | rfl <;> simp only [idxF, stF, e, List.getD, List.getElem?_cons_zero, List.getElem?_cons_succ, Option.getD_some] <;>
        (first | simp only [show Int.toNat 0 = 0 from rfl, show Int.toNat 1 = 1 from rfl, show Int.toNat 2 = 2 from rfl, List.getElem?_cons_zero, List.getElem?_cons_succ, Option.getD_some] | skip) <;>
        rcases hn8 with rfl | rfl | rfl | rfl | rfl | rfl | rfl | rfl <;> omega
    · rcases k4 k hk with rfl | rfl | rfl | rfl <;> simp [nxtF, lftF, e, List.getD] <;> omega
    · simp [nxtF, lftF, e, List.getD]; try omega
end Go.Proofs.Ytmhbmbhdeofbaaa
