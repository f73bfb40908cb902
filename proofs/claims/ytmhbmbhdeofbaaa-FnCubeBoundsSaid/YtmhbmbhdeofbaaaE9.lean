import Derived.Test.YtmhbmbhdeofbaaaE8
namespace Go.Proofs.Ytmhbmbhdeofbaaa
open Go Go.Ah
set_option linter.unusedSimpArgs false
set_option linter.unusedVariables false
set_option maxRecDepth 10000
set_option maxHeartbeats 4000000
theorem Curve_ok (h : Heap) (v : Value) (p q x : Int) (s : SlT h encI 1 v [p, q]) (hp : 0 ≤ p ∧ p ≤ 65535) (hq : 0 ≤ q ∧ q ≤ 65535) (hx : 0 ≤ x ∧ x ≤ 65535) : ACall Try.prog 19 [v, .int .i64 x] h
    fun r h' => Ext h h' ∧ r = .int .i64 (p + near ((q - p) * x) 65535) := by
  refine ACall.of Try.func19 s19 (of_decide_eq_true rfl) ?_
  have R := s.rulesN
  have R0 := rdS s (i := 0) (by simp)
  have R1 := rdS s (i := 1) (by simp)
  rw [show ((0 : Nat) : Int) = 0 from rfl, show ([p, q] : List Int).getD 0 0 = p from rfl] at R0
  rw [show ((1 : Nat) : Int) = 1 from rfl, show ([p, q] : List Int).getD 1 0 = q from rfl] at R1
  have hlen : (([p, q] : List Int).length : Int) = 2 := rfl
  simp (maxSteps := 4000000) (disch := omega) only [ah, am, Nat.reduceEqDiff, reduceCtorEq, Nat.reduceAdd, Nat.reduceLeDiff, Nat.reduceMul, Nat.reduceLT, if_true, if_false, true_and, and_true, and_self, Nat.reduceBEq, QOp.loads, boxO, bslO, buildO, cutL, fillV, putL, w19, v19, R.1, hlen, i64w]
  refine stepC.of (in_ok _ _ _ _) ?_
  rintro _ Hx ⟨hx, rfl⟩; rw [hx]; clear hx Hx
  have D : decide ((1 : Int) ≤ ((2 : Nat) : Int) - 1 ∧ ((2 : Nat) : Int) - 1 ≤ 256) = true := by decide
  simp (maxSteps := 4000000) (disch := omega) only [ah, am, Nat.reduceEqDiff, reduceCtorEq, Nat.reduceAdd, Nat.reduceLeDiff, Nat.reduceMul, Nat.reduceLT, if_true, if_false, true_and, and_true, and_self, Nat.reduceBEq, QOp.loads, boxO, bslO, buildO, cutL, fillV, putL, w19, v19, D, Bool.not_true]
  refine stepC.of (isValue_ok _ _) ?_
  rintro _ Hx ⟨hx, rfl⟩; rw [hx]; clear hx Hx
  simp (maxSteps := 4000000) (disch := omega) only [ah, am, Nat.reduceEqDiff, reduceCtorEq, Nat.reduceAdd, Nat.reduceLeDiff, Nat.reduceMul, Nat.reduceLT, if_true, if_false, true_and, and_true, and_self, Nat.reduceBEq, QOp.loads, boxO, bslO, buildO, cutL, fillV, putL, w19, v19, decide_eq_true hx, Bool.not_true]
  refine stepC.of (ContainsFuncI_ok _ v [p, q] 45 #[] (fun x => !decide (0 ≤ x ∧ x ≤ 65535)) s (by simp) ⟨_, Try.func45, rfl, by decide⟩ (fun h' k _ _ => Curve1_ok h' k)) ?_
  rintro _ H1 ⟨e1, rfl⟩
  have hany : ([p, q] : List Int).any (fun x => !decide (0 ≤ x ∧ x ≤ 65535)) = false := by simp [hp, hq]
  simp (maxSteps := 4000000) (disch := omega) only [ah, am, Nat.reduceEqDiff, reduceCtorEq, Nat.reduceAdd, Nat.reduceLeDiff, Nat.reduceMul, Nat.reduceLT, if_true, if_false, true_and, and_true, and_self, Nat.reduceBEq, QOp.loads, boxO, bslO, buildO, cutL, fillV, putL, w19, v19, hany]
  refine stepC.of (cut_ok _ x 1 hx (by omega)) ?_
  rintro _ Hx ⟨hx, rfl⟩; rw [hx]; clear hx Hx
  have p1 : placeI x 1 = 0 := by unfold placeI; omega
  have p2 : placeR x 1 = x := by unfold placeR; rw [p1]; omega
  have R0 : iaV 1 v (.int .i64 0) = some (ptrAt v 0) ∧ ldV H1 (ptrAt v 0) = some (.int .i64 p) := by
    have := rdS (s.ext e1) (i := 0) (by simp); exact this
  have R1 : iaV 1 v (.int .i64 1) = some (ptrAt v 1) ∧ ldV H1 (ptrAt v 1) = some (.int .i64 q) := by
    have := rdS (s.ext e1) (i := 1) (by simp); exact this
  have b := mul_bound hx.1 hx.2 (N := 65535) (y := q - p) (by omega) (by omega)
  rw [Int.mul_comm x (q - p)] at b
  have w1 : IntKind.i64.wrap (q - p) = q - p := i64w (by omega)
  have w2 : IntKind.i64.wrap ((q - p) * x) = (q - p) * x := i64w (by omega)
  have w3 : IntKind.i64.wrap ((0 : Int) + 1) = 1 := rfl
  simp (maxSteps := 4000000) (disch := omega) only [ah, am, Nat.reduceEqDiff, reduceCtorEq, Nat.reduceAdd, Nat.reduceLeDiff, Nat.reduceMul, Nat.reduceLT, if_true, if_false, true_and, and_true, and_self, Nat.reduceBEq, QOp.loads, boxO, bslO, buildO, cutL, fillV, putL, w19, v19, p1, p2, R0, R1, w1, w2, w3]
  refine stepC.of (near_ok _ _ _ (by omega) (by omega)) ?_
  rintro _ Hx ⟨hx, rfl⟩; rw [hx]; clear hx Hx
  have w4 : IntKind.i64.wrap (p + near ((q - p) * x) 65535) = p + near ((q - p) * x) 65535 := i64w (by unfold near; omega)
  simp (maxSteps := 4000000) (disch := omega) only [ah, am, Nat.reduceEqDiff, reduceCtorEq, Nat.reduceAdd, Nat.reduceLeDiff, Nat.reduceMul, Nat.reduceLT, if_true, if_false, true_and, and_true, and_self, Nat.reduceBEq, QOp.loads, boxO, bslO, buildO, cutL, fillV, putL, w19, v19, R0, R1, w4]
  exact e1
/-! ### A cube that is plain -/
theorem near_b {p n : Int} (hn : 2 ≤ n ∧ n ≤ 9) (hp : 0 ≤ p ∧ p ≤ n - 1) : (0 ≤ near (p * 65535) (n - 1) ∧ near (p * 65535) (n - 1) ≤ 65535) := by
  have hn8 : n = 2 ∨ n = 3 ∨ n = 4 ∨ n = 5 ∨ n = 6 ∨ n = 7 ∨ n = 8 ∨ n = 9 := by omega
  unfold near
  rcases hn8 with rfl | rfl | rfl | rfl | rfl | rfl | rfl | rfl <;> omega
theorem lin {n a r c : Int} (hn : 2 ≤ n ∧ n ≤ 9) (ha : 0 ≤ a) (hr : 0 ≤ r ∧ r ≤ 65535) (hc : a * 65535 + r = c * (n - 1)) :
    c - 1 ≤ near (near (a * 65535) (n - 1) * (65535 - r) + near ((a + 1) * 65535) (n - 1) * r) 65535 ∧ near (near (a * 65535) (n - 1) * (65535 - r) + near ((a + 1) * 65535) (n - 1) * r) 65535 ≤ c + 1 := by
  have hn8 : n = 2 ∨ n = 3 ∨ n = 4 ∨ n = 5 ∨ n = 6 ∨ n = 7 ∨ n = 8 ∨ n = 9 := by omega
  obtain ⟨N1, h1⟩ : ∃ N, N = near (a * 65535) (n - 1) := ⟨_, rfl⟩
  obtain ⟨N2, h2⟩ : ∃ N, N = near ((a + 1) * 65535) (n - 1) := ⟨_, rfl⟩
  rw [← h1, ← h2]
  obtain ⟨w, hw⟩ : ∃ w, w = 65535 - r := ⟨_, rfl⟩
  rw [← hw]
  have hw0 : 0 ≤ w := by omega
  have hwr : w + r = 65535 := by omega
  have haw := Int.mul_add a w r
  rw [hwr] at haw
  unfold near at h1 h2 ⊢
  clear hw
  rcases hn8 with rfl | rfl | rfl | rfl | rfl | rfl | rfl | rfl
  · have k1 : 2 * N1 * w ≤ (131070 * a + 1) * w := Int.mul_le_mul_of_nonneg_right (by omega) hw0
    have k2 : (131070 * a - 1) * w ≤ 2 * N1 * w := Int.mul_le_mul_of_nonneg_right (by omega) hw0
    have k3 : 2 * N2 * r ≤ (131070 * a + 131071) * r := Int.mul_le_mul_of_nonneg_right (by omega) hr.1
    have k4 : (131070 * a + 131069) * r ≤ 2 * N2 * r := Int.mul_le_mul_of_nonneg_right (by omega) hr.1
    simp only [Int.add_mul, Int.sub_mul, Int.mul_assoc] at k1 k2 k3 k4
    clear h1 h2
    omega
  · have k1 : 4 * N1 * w ≤ (131070 * a + 2) * w := Int.mul_le_mul_of_nonneg_right (by omega) hw0
    have k2 : (131070 * a - 2) * w ≤ 4 * N1 * w := Int.mul_le_mul_of_nonneg_right (by omega) hw0
    have k3 : 4 * N2 * r ≤ (131070 * a + 131072) * r := Int.mul_le_mul_of_nonneg_right (by omega) hr.1
    have k4 : (131070 * a + 131068) * r ≤ 4 * N2 * r := Int.mul_le_mul_of_nonneg_right (by omega) hr.1
    simp only [Int.add_mul, Int.sub_mul, Int.mul_assoc] at k1 k2 k3 k4
    clear h1 h2
    omega
  · have k1 : 6 * N1 * w ≤ (131070 * a + 3) * w := Int.mul_le_mul_of_nonneg_right (by omega) hw0
    have k2 : (131070 * a - 3) * w ≤ 6 * N1 * w := Int.mul_le_mul_of_nonneg_right (by omega) hw0
    have k3 : 6 * N2 * r ≤ (131070 * a + 131073) * r := Int.mul_le_mul_of_nonneg_right (by omega) hr.1
    have k4 : (131070 * a + 131067) * r ≤ 6 * N2 * r := Int.mul_le_mul_of_nonneg_right (by omega) hr.1
    simp only [Int.add_mul, Int.sub_mul, Int.mul_assoc] at k1 k2 k3 k4
    clear h1 h2
    omega
  · have k1 : 8 * N1 * w ≤ (131070 * a + 4) * w := Int.mul_le_mul_of_nonneg_right (by omega) hw0
    have k2 : (131070 * a - 4) * w ≤ 8 * N1 * w := Int.mul_le_mul_of_nonneg_right (by omega) hw0
    have k3 : 8 * N2 * r ≤ (131070 * a + 131074) * r := Int.mul_le_mul_of_nonneg_right (by omega) hr.1
    have k4 : (131070 * a + 131066) * r ≤ 8 * N2 * r := Int.mul_le_mul_of_nonneg_right (by omega) hr.1
    simp only [Int.add_mul, Int.sub_mul, Int.mul_assoc] at k1 k2 k3 k4
    clear h1 h2
    omega
  · have k1 : 10 * N1 * w ≤ (131070 * a + 5) * w := Int.mul_le_mul_of_nonneg_right (by omega) hw0
    have k2 : (131070 * a - 5) * w ≤ 10 * N1 * w := Int.mul_le_mul_of_nonneg_right (by omega) hw0
    have k3 : 10 * N2 * r ≤ (131070 * a + 131075) * r := Int.mul_le_mul_of_nonneg_right (by omega) hr.1
    have k4 : (131070 * a + 131065) * r ≤ 10 * N2 * r := Int.mul_le_mul_of_nonneg_right (by omega) hr.1
    simp only [Int.add_mul, Int.sub_mul, Int.mul_assoc] at k1 k2 k3 k4
    clear h1 h2
    omega
  · have k1 : 12 * N1 * w ≤ (131070 * a + 6) * w := Int.mul_le_mul_of_nonneg_right (by omega) hw0
    have k2 : (131070 * a - 6) * w ≤ 12 * N1 * w := Int.mul_le_mul_of_nonneg_right (by omega) hw0
    have k3 : 12 * N2 * r ≤ (131070 * a + 131076) * r := Int.mul_le_mul_of_nonneg_right (by omega) hr.1
    have k4 : (131070 * a + 131064) * r ≤ 12 * N2 * r := Int.mul_le_mul_of_nonneg_right (by omega) hr.1
    simp only [Int.add_mul, Int.sub_mul, Int.mul_assoc] at k1 k2 k3 k4
    clear h1 h2
    omega
  · have k1 : 14 * N1 * w ≤ (131070 * a + 7) * w := Int.mul_le_mul_of_nonneg_right (by omega) hw0
    have k2 : (131070 * a - 7) * w ≤ 14 * N1 * w := Int.mul_le_mul_of_nonneg_right (by omega) hw0
    have k3 : 14 * N2 * r ≤ (131070 * a + 131077) * r := Int.mul_le_mul_of_nonneg_right (by omega) hr.1
    have k4 : (131070 * a + 131063) * r ≤ 14 * N2 * r := Int.mul_le_mul_of_nonneg_right (by omega) hr.1
    simp only [Int.add_mul, Int.sub_mul, Int.mul_assoc] at k1 k2 k3 k4
    clear h1 h2
    omega
  · have k1 : 16 * N1 * w ≤ (131070 * a + 8) * w := Int.mul_le_mul_of_nonneg_right (by omega) hw0
    have k2 : (131070 * a - 8) * w ≤ 16 * N1 * w := Int.mul_le_mul_of_nonneg_right (by omega) hw0
    have k3 : 16 * N2 * r ≤ (131070 * a + 131078) * r := Int.mul_le_mul_of_nonneg_right (by omega) hr.1
    have k4 : (131070 * a + 131062) * r ≤ 16 * N2 * r := Int.mul_le_mul_of_nonneg_right (by omega) hr.1
    simp only [Int.add_mul, Int.sub_mul, Int.mul_assoc] at k1 k2 k3 k4
    clear h1 h2
    omega
theorem coordsOf {n x y z : Int} (hn : 2 ≤ n ∧ n ≤ 9) (hx : 0 ≤ x ∧ x ≤ n - 1) (hy : 0 ≤ y ∧ y ≤ n - 1) (hz : 0 ≤ z ∧ z ≤ n - 1) :
    ((x * n + y) * n + z) / (n * n) = x ∧ ((x * n + y) * n + z) / n % n = y ∧ ((x * n + y) * n + z) % n = z := by
  have hn8 : n = 2 ∨ n = 3 ∨ n = 4 ∨ n = 5 ∨ n = 6 ∨ n = 7 ∨ n = 8 ∨ n = 9 := by omega
  rcases hn8 with rfl | rfl | rfl | rfl | rfl | rfl | rfl | rfl <;> omega
theorem plain_sum (n a0 a1 a2 r0 r1 r2 : Int) (t : List Rgb) (f : Rgb → Int) (g : Int → Int) (j : Nat) (hj : j < 3)
    (H : ∀ k, k ≤ 3 → f (t.getD (idxF n [a0, a1, a2] [r0, r1, r2] k).toNat zRgb) = g ((apF [a0, a1, a2] [r0, r1, r2] k).getD j 0)) :
    sumF n [a0, a1, a2] [r0, r1, r2] t f 4 = g (([a0, a1, a2] : List Int).getD j 0) * (65535 - ([r0, r1, r2] : List Int).getD j 0) + g (([a0, a1, a2] : List Int).getD j 0 + 1) * ([r0, r1, r2] : List Int).getD j 0 := by
  have j3 : j = 0 ∨ j = 1 ∨ j = 2 := by omega
  have e4 : sumF n [a0, a1, a2] [r0, r1, r2] t f 4 = 0 + f (t.getD (idxF n [a0, a1, a2] [r0, r1, r2] 0).toNat zRgb) * (lftF [r0, r1, r2] 0 - nxtF [r0, r1, r2] 0) + f (t.getD (idxF n [a0, a1, a2] [r0, r1, r2] 1).toNat zRgb) * (lftF [r0, r1, r2] 1 - nxtF [r0, r1, r2] 1) +
    f (t.getD (idxF n [a0, a1, a2] [r0, r1, r2] 2).toNat zRgb) * (lftF [r0, r1, r2] 2 - nxtF [r0, r1, r2] 2) + f (t.getD (idxF n [a0, a1, a2] [r0, r1, r2] 3).toNat zRgb) * (lftF [r0, r1, r2] 3 - nxtF [r0, r1, r2] 3) := rfl
  rw [e4, H 0 (by omega), H 1 (by omega), H 2 (by omega), H 3 (by omega)]
  clear e4 H
  rcases ordF_cases r0 r1 r2 with ⟨e, c1, c2⟩ | ⟨e, c1, c2⟩ | ⟨e, c1, c2⟩ | ⟨e, c1, c2⟩ | ⟨e, c1, c2⟩ | ⟨e, c1, c2⟩
  all_goals
    rcases j3 with rfl | rfl | rfl
    all_goals
      simp [apF, nxtF, lftF, e, List.getD, Int.mul_sub]
      try omega
theorem plainF_length {n : Int} (c1 : 2 ≤ n ∧ n ≤ 9) : (plainF n).length = (n * n * n).toNat := by rw [plainF, if_pos c1]; simp
theorem plainF_at {n : Int} (c1 : 2 ≤ n ∧ n ≤ 9) {i : Nat} (hi : (i : Int) < n * n * n) : (plainF n).getD i zRgb = nodeF n i := by
  have hl := plainF_length c1
  rw [getD_atE (by omega)]
  simp only [plainF, if_pos c1, List.getElem_map, List.getElem_range]
theorem plainF_ok {n : Int} (c1 : 2 ≤ n ∧ n ≤ 9) : ∀ x ∈ plainF n, rgbOk x := by
  intro x hx
  obtain ⟨i, hi, rfl⟩ := List.getElem_of_mem hx
  have hl := plainF_length c1
  have hi2 : (i : Int) < n * n * n := by omega
  rw [← getD_atE hi zRgb, plainF_at c1 hi2]
  obtain ⟨b0, b1, b2, _⟩ := coords c1 hi2
  exact ⟨near_b c1 b0, near_b c1 b1, near_b c1 b2⟩
theorem plain_near {n : Int} (c1 : 2 ≤ n ∧ n ≤ 9) {c : Rgb} (hc : rgbOk c) :
    (-1 ≤ (cubeF n (plainF n) c).r - c.r ∧ (cubeF n (plainF n) c).r - c.r ≤ 1) ∧ (-1 ≤ (cubeF n (plainF n) c).g - c.g ∧ (cubeF n (plainF n) c).g - c.g ≤ 1) ∧ (-1 ≤ (cubeF n (plainF n) c).b - c.b ∧ (cubeF n (plainF n) c).b - c.b ≤ 1) := by
  obtain ⟨hnn, hnnn⟩ := cubes c1
  have hl := plainF_length c1
  rw [show cubeF n (plainF n) c = cubeL n (plainF n) c from if_pos ⟨c1, by omega, hc, plainF_ok c1⟩]
  obtain ⟨u1, u2, u3⟩ := id hc
  have P0 := place_b (v := c.r) (n := n - 1) u1 (by omega)
  have P1 := place_b (v := c.g) (n := n - 1) u2 (by omega)
  have P2 := place_b (v := c.b) (n := n - 1) u3 (by omega)
  have q0 : placeI c.r (n - 1) * 65535 + placeR c.r (n - 1) = c.r * (n - 1) := by unfold placeR; omega
  have q1 : placeI c.g (n - 1) * 65535 + placeR c.g (n - 1) = c.g * (n - 1) := by unfold placeR; omega
  have q2 : placeI c.b (n - 1) * 65535 + placeR c.b (n - 1) = c.b * (n - 1) := by unfold placeR; omega
  have hw : Way n (atF n c) (restF n c) := way c1 (by omega) (by omega) (by omega) P0.2 P1.2 P2.2
  have hix : ∀ k, k ≤ 3 → _ := fun k hk => (best (a0 := placeI c.r (n - 1)) (a1 := placeI c.g (n - 1)) (a2 := placeI c.b (n - 1)) (r0 := placeR c.r (n - 1)) (r1 := placeR c.g (n - 1)) (r2 := placeR c.b (n - 1)) (n := n) k hk).2
  have apb : ∀ k, (0 ≤ (apF (atF n c) (restF n c) k).getD 0 0 ∧ (apF (atF n c) (restF n c) k).getD 0 0 ≤ n - 1) ∧ (0 ≤ (apF (atF n c) (restF n c) k).getD 1 0 ∧ (apF (atF n c) (restF n c) k).getD 1 0 ≤ n - 1) ∧ (0 ≤ (apF (atF n c) (restF n c) k).getD 2 0 ∧ (apF (atF n c) (restF n c) k).getD 2 0 ≤ n - 1) := by
    intro k
    refine ⟨?_, ?_, ?_⟩
    · change 0 ≤ placeI c.r (n - 1) + _ ∧ placeI c.r (n - 1) + _ ≤ n - 1; split <;> omega
    · change 0 ≤ placeI c.g (n - 1) + _ ∧ placeI c.g (n - 1) + _ ≤ n - 1; split <;> omega
    · change 0 ≤ placeI c.b (n - 1) + _ ∧ placeI c.b (n - 1) + _ ≤ n - 1; split <;> omega
  have node : ∀ k, k ≤ 3 → (plainF n).getD (idxF n (atF n c) (restF n c) k).toNat zRgb = ⟨near ((apF (atF n c) (restF n c) k).getD 0 0 * 65535) (n - 1), near ((apF (atF n c) (restF n c) k).getD 1 0 * 65535) (n - 1), near ((apF (atF n c) (restF n c) k).getD 2 0 * 65535) (n - 1)⟩ := by
    intro k hk
    obtain ⟨x1, x2⟩ := hw.ix k hk
    obtain ⟨b0, b1, b2⟩ := apb k
    obtain ⟨d0, d1, d2⟩ := coordsOf c1 b0 b1 b2
    have e : ((idxF n (atF n c) (restF n c) k).toNat : Int) = ((apF (atF n c) (restF n c) k).getD 0 0 * n + (apF (atF n c) (restF n c) k).getD 1 0) * n + (apF (atF n c) (restF n c) k).getD 2 0 := by
      rw [Int.toNat_of_nonneg x1]; exact (hix k hk).symm
    rw [plainF_at c1 (by omega), nodeF, e, d0, d1, d2]
  have l0 := lin c1 P0.1.1 P0.2 q0
  have l1 := lin c1 P1.1.1 P1.2 q1
  have l2 := lin c1 P2.1.1 P2.2 q2
  have s0 := plain_sum n (placeI c.r (n - 1)) (placeI c.g (n - 1)) (placeI c.b (n - 1)) (placeR c.r (n - 1)) (placeR c.g (n - 1)) (placeR c.b (n - 1)) (plainF n) (·.r) (fun p => near (p * 65535) (n - 1)) 0 (by omega) (fun k hk => congrArg Rgb.r (node k hk))
  have s1 := plain_sum n (placeI c.r (n - 1)) (placeI c.g (n - 1)) (placeI c.b (n - 1)) (placeR c.r (n - 1)) (placeR c.g (n - 1)) (placeR c.b (n - 1)) (plainF n) (·.g) (fun p => near (p * 65535) (n - 1)) 1 (by omega) (fun k hk => congrArg Rgb.g (node k hk))
  have s2 := plain_sum n (placeI c.r (n - 1)) (placeI c.g (n - 1)) (placeI c.b (n - 1)) (placeR c.r (n - 1)) (placeR c.g (n - 1)) (placeR c.b (n - 1)) (plainF n) (·.b) (fun p => near (p * 65535) (n - 1)) 2 (by omega) (fun k hk => congrArg Rgb.b (node k hk))
  refine ⟨?_, ?_, ?_⟩
  · change -1 ≤ near (sumF n _ _ (plainF n) (·.r) 4) 65535 - c.r ∧ near (sumF n _ _ (plainF n) (·.r) 4) 65535 - c.r ≤ 1
    rw [show sumF n (atF n c) (restF n c) (plainF n) (·.r) 4 = _ from s0]
    simp only [List.getD, List.getElem?_cons_zero, List.getElem?_cons_succ, Option.getD_some]
    omega
  · change -1 ≤ near (sumF n _ _ (plainF n) (·.g) 4) 65535 - c.g ∧ near (sumF n _ _ (plainF n) (·.g) 4) 65535 - c.g ≤ 1
    rw [show sumF n (atF n c) (restF n c) (plainF n) (·.g) 4 = _ from s1]
    simp only [List.getD, List.getElem?_cons_zero, List.getElem?_cons_succ, Option.getD_some]
    omega
  · change -1 ≤ near (sumF n _ _ (plainF n) (·.b) 4) 65535 - c.b ∧ near (sumF n _ _ (plainF n) (·.b) 4) 65535 - c.b ≤ 1
    rw [show sumF n (atF n c) (restF n c) (plainF n) (·.b) 4 = _ from s2]
    simp only [List.getD, List.getElem?_cons_zero, List.getElem?_cons_succ, Option.getD_some]
    omega
theorem mat_one {c : Rgb} (hc : rgbOk c) : matF [4096, 0, 0, 0, 4096, 0, 0, 0, 4096] c = c := by
  obtain ⟨⟨u1, v1⟩, ⟨u2, v2⟩, u3, v3⟩ := id hc
  rw [matF, if_pos ⟨hc, rfl, by decide⟩]
  obtain ⟨r, g, b⟩ := c
  simp only at u1 v1 u2 v2 u3 v3
  have e0 : mrF [4096, 0, 0, 0, 4096, 0, 0, 0, 4096] ⟨r, g, b⟩ 0 = r := by
    change min (max (near (4096 * r + 0 * g + 0 * b) 4096) 0) 65535 = r
    unfold near; omega
  have e1 : mrF [4096, 0, 0, 0, 4096, 0, 0, 0, 4096] ⟨r, g, b⟩ 1 = g := by
    change min (max (near (0 * r + 4096 * g + 0 * b) 4096) 0) 65535 = g
    unfold near; omega
  have e2 : mrF [4096, 0, 0, 0, 4096, 0, 0, 0, 4096] ⟨r, g, b⟩ 2 = b := by
    change min (max (near (0 * r + 0 * g + 4096 * b) 4096) 0) 65535 = b
    unfold near; omega
  rw [e0, e1, e2]
end Go.Proofs.Ytmhbmbhdeofbaaa
