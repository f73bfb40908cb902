import Derived.Test.YtmippcfdakjhfaaG6
namespace Go.Proofs.Ytmippcfdakjhfaa
open Go Go.Ah
open Go.Sort (swp PermIn SortedIn permIn_trans permIn_refl)
set_option linter.unusedSimpArgs false
set_option linter.unusedVariables false
set_option maxRecDepth 10000
set_option maxHeartbeats 4000000
theorem pdq_ok (g : Nat) (v : Value) : ∀ (n : Nat) (h : Heap) (d : Array Reel) (a b limit : Nat), b - a ≤ n → OwnT g h encReel 3 v d.toList → a ≤ b → b ≤ d.size → d.size ≤ 1000000 → limit ≤ 100 → Go.Sort.Below ltR a b d →
    ACall Try.prog 70 [v, .int .i64 (a : Int), .int .i64 (b : Int), .int .i64 (limit : Int), .func (.func 56) #[] #[]] h
      fun r h' => ∃ d' : Array Reel, PermIn a b d d' ∧ SortedIn ltR a b d' ∧ ExtG g h h' ∧ OwnT g h' encReel 3 v d'.toList := by
  intro n
  induction n using Nat.strongRecOn with
  | _ n IH =>
  intro h d a b limit hn o hab hb hl hlim hB
  obtain ⟨fn, hf1, hf2, hf3⟩ := fv_ok
  have W : ∀ i : Nat, i ≤ 1000000000001 → IntKind.i64.wrap ((i : Int) + 1) = ((i + 1 : Nat) : Int) := fun i hi => i64e (by omega) (by omega)
  have Ws : ∀ i j : Nat, i ≤ 1000000000001 → j ≤ i → IntKind.i64.wrap ((i : Int) - (j : Int)) = ((i - j : Nat) : Int) := fun i j hi hj => i64e (by omega) (by omega)
  have W1 : ∀ i : Nat, i ≤ 1000000000001 → 1 ≤ i → IntKind.i64.wrap ((i : Int) - 1) = ((i - 1 : Nat) : Int) := fun i hi hj => i64e (by omega) (by omega)
  refine ACall.of Try.func70 s70 (of_decide_eq_true rfl) ?_
  simp (maxSteps := 4000000) (disch := omega) only [ah, am, Nat.reduceEqDiff, reduceCtorEq, Nat.reduceAdd, Nat.reduceLeDiff, Nat.reduceMul, Nat.reduceLT, if_true, if_false, true_and, and_true, and_self, Nat.reduceBEq, QOp.loads, boxO, bslO, buildO, cutL, fillV, putL, w70, v70]
  refine ⟨fun m E K => ∃ (a' b' lim : Nat) (wb wp : Bool) (d' : Array Reel), m = b' - a' ∧ m ≤ n ∧ a' ≤ b' ∧ b' ≤ d.size ∧ d'.size = d.size ∧ lim ≤ 100 ∧ Go.Sort.Below ltR a' b' d' ∧
    (∀ R, PermIn a' b' d' R → SortedIn ltR a' b' R → PermIn a b d R ∧ SortedIn ltR a b R) ∧ ExtG g h K ∧ OwnT g K encReel 3 v d'.toList ∧
    E = [(0, v), (1, .int .i64 (a' : Int)), (2, .int .i64 (b' : Int)), (3, .int .i64 (lim : Int)), (4, .func (.func 56) #[] #[]), (10, .bool wb), (11, .bool wp)],
    ⟨b - a, a, b, limit, true, true, d, rfl, hn, hab, hb, rfl, hlim, hB, fun R p q => ⟨p, q⟩, ExtG.refl _ _, o, rfl⟩, ?_⟩
  clear hB o hlim hn hab
  rintro m E K ⟨a', b', lim, wb, wp, d', rfl, hn, hab, hb', hs, hlim, hB, back, G, O, rfl⟩
  have w0 := Ws b' a' (by omega) hab
  by_cases h12 : b' - a' ≤ 12
  · simp (maxSteps := 4000000) (disch := omega) only [ah, am, Nat.reduceEqDiff, reduceCtorEq, Nat.reduceAdd, Nat.reduceLeDiff, Nat.reduceMul, Nat.reduceLT, if_true, if_false, true_and, and_true, and_self, Nat.reduceBEq, QOp.loads, boxO, bslO, buildO, cutL, fillV, putL, w70, v70, w0, decide_eq_true (show ((b' - a' : Nat) : Int) ≤ 12 by omega)]
    refine stepC.of (insertion_ok K g v d' a' b' O hab (by omega) (by omega)) ?_
    rintro _ K2 ⟨G2, O2⟩
    have z := Go.Sort.insertionSort_holds (lt := ltR) ltR_swo d' a' b' hab (by omega)
    have y := back _ z.1 z.2
    simp (maxSteps := 4000000) (disch := omega) only [ah, am, Nat.reduceEqDiff, reduceCtorEq, Nat.reduceAdd, Nat.reduceLeDiff, Nat.reduceMul, Nat.reduceLT, if_true, if_false, true_and, and_true, and_self, Nat.reduceBEq, QOp.loads, boxO, bslO, buildO, cutL, fillV, putL, w70, v70]
    exact ⟨_, y.1, y.2, G.trans G2, O2⟩
  by_cases h0 : lim = 0
  · simp (maxSteps := 4000000) (disch := omega) only [ah, am, Nat.reduceEqDiff, reduceCtorEq, Nat.reduceAdd, Nat.reduceLeDiff, Nat.reduceMul, Nat.reduceLT, if_true, if_false, true_and, and_true, and_self, Nat.reduceBEq, QOp.loads, boxO, bslO, buildO, cutL, fillV, putL, w70, v70, w0, decide_eq_false (show ¬ ((b' - a' : Nat) : Int) ≤ 12 by omega), decide_eq_true (show (lim : Int) = 0 by omega)]
    refine stepC.of (heapSort_ok K g v d' a' b' O hab (by omega) (by omega)) ?_
    rintro _ K2 ⟨G2, O2⟩
    have z := Go.Sort.heapSort_holds (lt := ltR) ltR_swo d' a' b' hab (by omega)
    have y := back _ z.1 z.2
    simp (maxSteps := 4000000) (disch := omega) only [ah, am, Nat.reduceEqDiff, reduceCtorEq, Nat.reduceAdd, Nat.reduceLeDiff, Nat.reduceMul, Nat.reduceLT, if_true, if_false, true_and, and_true, and_self, Nat.reduceBEq, QOp.loads, boxO, bslO, buildO, cutL, fillV, putL, w70, v70]
    exact ⟨_, y.1, y.2, G.trans G2, O2⟩
  simp (maxSteps := 4000000) (disch := omega) only [ah, am, Nat.reduceEqDiff, reduceCtorEq, Nat.reduceAdd, Nat.reduceLeDiff, Nat.reduceMul, Nat.reduceLT, if_true, if_false, true_and, and_true, and_self, Nat.reduceBEq, QOp.loads, boxO, bslO, buildO, cutL, fillV, putL, w70, v70, w0, decide_eq_false (show ¬ ((b' - a' : Nat) : Int) ≤ 12 by omega), decide_eq_false (show ¬ (lim : Int) = 0 by omega)]
  refine SW_ifN (fun E K => ∃ (lim : Nat) (d1 : Array Reel), lim ≤ 100 ∧ PermIn a' b' d' d1 ∧ ExtG g h K ∧ OwnT g K encReel 3 v d1.toList ∧ ∃ t, E = (0, v) :: (1, .int .i64 (a' : Int)) :: (2, .int .i64 (b' : Int)) :: (3, .int .i64 (lim : Int)) :: (4, .func (.func 56) #[] #[]) :: (10, .bool wb) :: (11, .bool wp) :: (12, .int .i64 ((b' - a' : Nat) : Int)) :: t) (fun hw => ?_) (fun hw => ?_) ?_
  · simp (maxSteps := 4000000) (disch := omega) only [ah, am, Nat.reduceEqDiff, reduceCtorEq, Nat.reduceAdd, Nat.reduceLeDiff, Nat.reduceMul, Nat.reduceLT, if_true, if_false, true_and, and_true, and_self, Nat.reduceBEq, QOp.loads, boxO, bslO, buildO, cutL, fillV, putL, w70, v70]
    refine stepC.of (break_ok K g v d' a' b' O (by omega) (by omega) (by omega)) ?_
    rintro _ K2 ⟨d1, P1, G2, O2⟩
    simp (maxSteps := 4000000) (disch := omega) only [ah, am, Nat.reduceEqDiff, reduceCtorEq, Nat.reduceAdd, Nat.reduceLeDiff, Nat.reduceMul, Nat.reduceLT, if_true, if_false, true_and, and_true, and_self, Nat.reduceBEq, QOp.loads, boxO, bslO, buildO, cutL, fillV, putL, w70, v70, W1 lim (by omega) (by omega)]
    exact ⟨lim - 1, d1, by omega, P1, G.trans G2, O2, _, rfl⟩
  · exact ⟨lim, d', hlim, permIn_refl _ _ _, G, O, _, rfl⟩
  clear G O hlim h0
  rintro E K ⟨lim, d1, hlim, P, G, O, t, rfl⟩
  have hs1 : d1.size = d.size := P.1.trans hs
  simp (maxSteps := 4000000) (disch := omega) only [ah, am, Nat.reduceEqDiff, reduceCtorEq, Nat.reduceAdd, Nat.reduceLeDiff, Nat.reduceMul, Nat.reduceLT, if_true, if_false, true_and, and_true, and_self, Nat.reduceBEq, QOp.loads, boxO, bslO, buildO, cutL, fillV, putL, w70, v70]
  refine stepC.of (choosePivot_ok K g v d1 a' b' O (by omega) (by omega) (by omega)) ?_
  rintro _ K2 ⟨p, hint, rfl, hp, e2, O⟩
  have G := G.trans e2.toG
  have q1 := W1 b' (by omega) (by omega)
  have q2 := Ws p a' (by omega) hp.1
  have q3 := Ws (b' - 1) (p - a') (by omega) (by omega)
  simp (maxSteps := 4000000) (disch := omega) only [ah, am, Nat.reduceEqDiff, reduceCtorEq, Nat.reduceAdd, Nat.reduceLeDiff, Nat.reduceMul, Nat.reduceLT, if_true, if_false, true_and, and_true, and_self, Nat.reduceBEq, QOp.loads, boxO, bslO, buildO, cutL, fillV, putL, w70, v70]
  refine SW_if (fun E K => ∃ (p : Nat) (hint : Int) (d1 : Array Reel), (a' ≤ p ∧ p < b') ∧ PermIn a' b' d' d1 ∧ ExtG g h K ∧ OwnT g K encReel 3 v d1.toList ∧ ∃ t, E = (0, v) :: (1, .int .i64 (a' : Int)) :: (2, .int .i64 (b' : Int)) :: (3, .int .i64 (lim : Int)) :: (4, .func (.func 56) #[] #[]) :: (10, .bool wb) :: (11, .bool wp) :: (12, .int .i64 ((b' - a' : Nat) : Int)) :: (13, .int .i64 (p : Int)) :: (14, .int .i64 hint) :: t) (fun hw => ?_) (fun hw => ?_) ?_
  · simp (maxSteps := 4000000) (disch := omega) only [ah, am, Nat.reduceEqDiff, reduceCtorEq, Nat.reduceAdd, Nat.reduceLeDiff, Nat.reduceMul, Nat.reduceLT, if_true, if_false, true_and, and_true, and_self, Nat.reduceBEq, QOp.loads, boxO, bslO, buildO, cutL, fillV, putL, w70, v70]
    refine stepC.of (reverse_ok K2 g v d1 a' b' O (by omega) (by omega) (by omega)) ?_
    rintro _ K3 ⟨G3, O3⟩
    simp (maxSteps := 4000000) (disch := omega) only [ah, am, Nat.reduceEqDiff, reduceCtorEq, Nat.reduceAdd, Nat.reduceLeDiff, Nat.reduceMul, Nat.reduceLT, if_true, if_false, true_and, and_true, and_self, Nat.reduceBEq, QOp.loads, boxO, bslO, buildO, cutL, fillV, putL, w70, v70, q1, q2, q3]
    exact ⟨b' - 1 - (p - a'), 1, _, by omega, permIn_trans _ _ _ _ _ P (Go.Sort.reverseRange_holds d1 a' b' (by omega) (by omega)), G.trans G3, O3, _, rfl⟩
  · exact ⟨p, hint, d1, hp, P, G, O, _, rfl⟩
  clear P G O q2 q3 hs1 hp
  rintro E K ⟨p, hint, d1, hp, P, G, O, t, rfl⟩
  have hs1 : d1.size = d.size := P.1.trans hs
  rw [thenQ_normal, c70_63.eq_1]
  refine SW_seq_to (fun E K => ∃ (d1 : Array Reel), PermIn a' b' d' d1 ∧ ExtG g h K ∧ OwnT g K encReel 3 v d1.toList ∧ ∃ t, E = (0, v) :: (1, .int .i64 (a' : Int)) :: (2, .int .i64 (b' : Int)) :: (3, .int .i64 (lim : Int)) :: (4, .func (.func 56) #[] #[]) :: (10, .bool wb) :: (11, .bool wp) :: (12, .int .i64 ((b' - a' : Nat) : Int)) :: (13, .int .i64 (p : Int)) :: t) ?_ ?_
  · cases wb with
    | false =>
      simp (maxSteps := 4000000) (disch := omega) only [ah, am, Nat.reduceEqDiff, reduceCtorEq, Nat.reduceAdd, Nat.reduceLeDiff, Nat.reduceMul, Nat.reduceLT, if_true, if_false, true_and, and_true, and_self, Nat.reduceBEq, QOp.loads, boxO, bslO, buildO, cutL, fillV, putL, w70, v70]
      exact .inl ⟨d1, P, G, O, _, rfl⟩
    | true =>
      cases wp with
      | false =>
        simp (maxSteps := 4000000) (disch := omega) only [ah, am, Nat.reduceEqDiff, reduceCtorEq, Nat.reduceAdd, Nat.reduceLeDiff, Nat.reduceMul, Nat.reduceLT, if_true, if_false, true_and, and_true, and_self, Nat.reduceBEq, QOp.loads, boxO, bslO, buildO, cutL, fillV, putL, w70, v70]
        exact .inl ⟨d1, P, G, O, _, rfl⟩
      | true =>
        by_cases hh : hint = 1
        · simp (maxSteps := 4000000) (disch := omega) only [ah, am, Nat.reduceEqDiff, reduceCtorEq, Nat.reduceAdd, Nat.reduceLeDiff, Nat.reduceMul, Nat.reduceLT, if_true, if_false, true_and, and_true, and_self, Nat.reduceBEq, QOp.loads, boxO, bslO, buildO, cutL, fillV, putL, w70, v70, decide_eq_true hh]
          refine stepC.of (partialIns_ok K g v d1 a' b' O (by omega) (by omega) (by omega)) ?_
          rintro _ K3 ⟨rfl, G3, O3⟩
          have z := Go.Sort.partialInsertionSort_holds (lt := ltR) ltR_swo d1 a' b' (by omega) (by omega) (hB.perm (by omega) P)
          generalize Go.Sort.partialInsertionSort ltR d1 a' b' = pr at z O3 ⊢
          obtain ⟨d2, ok⟩ := pr
          cases ok with
          | true =>
            have y := back d2 (permIn_trans _ _ _ _ _ P z.1) (z.2 rfl)
            simp (maxSteps := 4000000) (disch := omega) only [ah, am, Nat.reduceEqDiff, reduceCtorEq, Nat.reduceAdd, Nat.reduceLeDiff, Nat.reduceMul, Nat.reduceLT, if_true, if_false, true_and, and_true, and_self, Nat.reduceBEq, QOp.loads, boxO, bslO, buildO, cutL, fillV, putL, w70, v70]
            exact .inr ⟨by simp, d2, y.1, y.2, G.trans G3, O3⟩
          | false =>
            simp (maxSteps := 4000000) (disch := omega) only [ah, am, Nat.reduceEqDiff, reduceCtorEq, Nat.reduceAdd, Nat.reduceLeDiff, Nat.reduceMul, Nat.reduceLT, if_true, if_false, true_and, and_true, and_self, Nat.reduceBEq, QOp.loads, boxO, bslO, buildO, cutL, fillV, putL, w70, v70]
            exact .inl ⟨d2, permIn_trans _ _ _ _ _ P z.1, G.trans G3, O3, _, rfl⟩
        · simp (maxSteps := 4000000) (disch := omega) only [ah, am, Nat.reduceEqDiff, reduceCtorEq, Nat.reduceAdd, Nat.reduceLeDiff, Nat.reduceMul, Nat.reduceLT, if_true, if_false, true_and, and_true, and_self, Nat.reduceBEq, QOp.loads, boxO, bslO, buildO, cutL, fillV, putL, w70, v70, decide_eq_false hh]
          exact .inl ⟨d1, P, G, O, _, rfl⟩
  clear P G O hs1
  rintro E K ⟨d1, P, G, O, t, rfl⟩
  have hs1 : d1.size = d.size := P.1.trans hs
  have hB1 := hB.perm (by omega) P
  rw [c70_62.eq_1]
  refine SW_seq_to (fun E K2 => ExtG g K K2 ∧ OwnT g K2 encReel 3 v d1.toList ∧ ∃ t, E = (0, v) :: (1, .int .i64 (a' : Int)) :: (2, .int .i64 (b' : Int)) :: (3, .int .i64 (lim : Int)) :: (4, .func (.func 56) #[] #[]) :: (10, .bool wb) :: (11, .bool wp) :: (12, .int .i64 ((b' - a' : Nat) : Int)) :: (13, .int .i64 (p : Int)) :: t) ?_ ?_
  · by_cases ha0 : a' = 0
    · simp (maxSteps := 4000000) (disch := omega) only [ah, am, Nat.reduceEqDiff, reduceCtorEq, Nat.reduceAdd, Nat.reduceLeDiff, Nat.reduceMul, Nat.reduceLT, if_true, if_false, true_and, and_true, and_self, Nat.reduceBEq, QOp.loads, boxO, bslO, buildO, cutL, fillV, putL, w70, v70, decide_eq_false (show ¬ (0 : Int) < (a' : Int) by omega)]
      exact .inl ⟨ExtG.refl _ _, O, _, rfl⟩
    · have R1 := rdA O (i := a' - 1) (by omega)
      have R2 := rdA O (i := p) (by omega)
      simp (maxSteps := 4000000) (disch := omega) only [ah, am, Nat.reduceEqDiff, reduceCtorEq, Nat.reduceAdd, Nat.reduceLeDiff, Nat.reduceMul, Nat.reduceLT, if_true, if_false, true_and, and_true, and_self, Nat.reduceBEq, QOp.loads, boxO, bslO, buildO, cutL, fillV, putL, w70, v70, decide_eq_true (show (0 : Int) < (a' : Int) by omega), W1 a' (by omega) (by omega), R1, R2]
      refine stepV.of hf1 hf2 hf3 (told1_ok _ _ _) ?_
      rintro _ K2 ⟨e, rfl⟩
      have O := O.ext e
      cases hb2 : ltR d1[a' - 1]! d1[p]! with
      | true =>
        simp (maxSteps := 4000000) (disch := omega) only [ah, am, Nat.reduceEqDiff, reduceCtorEq, Nat.reduceAdd, Nat.reduceLeDiff, Nat.reduceMul, Nat.reduceLT, if_true, if_false, true_and, and_true, and_self, Nat.reduceBEq, QOp.loads, boxO, bslO, buildO, cutL, fillV, putL, w70, v70, ltd, hb2, Bool.not_true]
        exact .inl ⟨e.toG, O, _, rfl⟩
      | false =>
        simp (maxSteps := 4000000) (disch := omega) only [ah, am, Nat.reduceEqDiff, reduceCtorEq, Nat.reduceAdd, Nat.reduceLeDiff, Nat.reduceMul, Nat.reduceLT, if_true, if_false, true_and, and_true, and_self, Nat.reduceBEq, QOp.loads, boxO, bslO, buildO, cutL, fillV, putL, w70, v70, ltd, hb2, Bool.not_false]
        refine stepC.of (partitionEqual_ok K2 g v d1 a' b' p O hp.1 hp.2 (by omega) (by omega)) ?_
        rintro _ K3 ⟨rfl, G3, O3⟩
        obtain ⟨mid, d4, hx⟩ : ∃ mid d4, Go.Sort.partitionEqual ltR d1 a' b' p = (mid, d4) := ⟨_, _, rfl⟩
        have z := Go.Sort.round_eq ltR_swo (Go.Sort.partitionEqual_holds ltR) (by omega) hp.1 hp.2 (by omega) hB1 hb2 hx
        rw [hx] at O3 ⊢
        obtain ⟨z1, z2, z3, z4, z5⟩ := z
        simp (maxSteps := 4000000) (disch := omega) only [ah, am, Nat.reduceEqDiff, reduceCtorEq, Nat.reduceAdd, Nat.reduceLeDiff, Nat.reduceMul, Nat.reduceLT, if_true, if_false, true_and, and_true, and_self, Nat.reduceBEq, QOp.loads, boxO, bslO, buildO, cutL, fillV, putL, w70, v70]
        exact .inr ⟨by simp, b' - mid, by omega, mid, b', lim, wb, wp, d4, rfl, by omega, by omega, by omega, by rw [z3]; exact hs1, hlim, z4, fun R pR sR => by obtain ⟨r1, r2⟩ := z5 R pR sR; exact back R (permIn_trans _ _ _ _ _ P r1) r2, (G.trans e.toG).trans G3, O3, rfl⟩
  rintro E K2 ⟨g2, O, t, rfl⟩
  have G := G.trans g2
  simp (maxSteps := 4000000) (disch := omega) only [ah, am, Nat.reduceEqDiff, reduceCtorEq, Nat.reduceAdd, Nat.reduceLeDiff, Nat.reduceMul, Nat.reduceLT, if_true, if_false, true_and, and_true, and_self, Nat.reduceBEq, QOp.loads, boxO, bslO, buildO, cutL, fillV, putL, w70, v70]
  refine stepC.of (partition_ok K2 g v d1 a' b' p O hp.1 hp.2 (by omega) (by omega)) ?_
  rintro _ K3 ⟨rfl, G3, O3⟩
  obtain ⟨mid, ap, d4, hx⟩ : ∃ mid ap d4, Go.Sort.partition ltR d1 a' b' p = (mid, ap, d4) := ⟨_, _, _, rfl⟩
  have z := Go.Sort.round_part ltR_swo (Go.Sort.partition_holds ltR) hp.1 hp.2 (by omega) hB1 hx
  rw [hx] at O3 ⊢
  obtain ⟨z1, z2, z3, z4, z5, z6, z7⟩ := z
  have G := G.trans G3
  have n8 : (8 : Int) ≠ 0 := by decide
  have q8 : ((b' - a' : Nat) : Int).tdiv 8 = (((b' - a') / 8 : Nat) : Int) := by rw [Int.tdiv_eq_ediv_of_nonneg (by omega)]; omega
  have w8 : IntKind.i64.wrap (((b' - a') / 8 : Nat) : Int) = (((b' - a') / 8 : Nat) : Int) := i64w (by omega)
  have w9 := Ws mid a' (by omega) z1
  have w10 := Ws b' mid (by omega) (by omega)
  simp only at O3
  simp (maxSteps := 4000000) (disch := omega) only [ah, am, Nat.reduceEqDiff, reduceCtorEq, Nat.reduceAdd, Nat.reduceLeDiff, Nat.reduceMul, Nat.reduceLT, if_true, if_false, true_and, and_true, and_self, Nat.reduceBEq, QOp.loads, boxO, bslO, buildO, cutL, fillV, putL, w70, v70, q8, n8, ne_eq, w8, w9, w10]
  refine stepI.split (fun hc => ?_) (fun hc => ?_)
  · simp (maxSteps := 4000000) (disch := omega) only [ah, am, Nat.reduceEqDiff, reduceCtorEq, Nat.reduceAdd, Nat.reduceLeDiff, Nat.reduceMul, Nat.reduceLT, if_true, if_false, true_and, and_true, and_self, Nat.reduceBEq, QOp.loads, boxO, bslO, buildO, cutL, fillV, putL, w70, v70]
    refine stepC.of (IH (mid - a') (by omega) K3 d4 a' mid lim (Nat.le_refl _) O3 z1 (by omega) (by omega) hlim z4) ?_
    rintro _ K4 ⟨L, pL, sL, G4, O4⟩
    obtain ⟨y1, y2⟩ := z6 L pL sL
    simp (maxSteps := 4000000) (disch := omega) only [ah, am, Nat.reduceEqDiff, reduceCtorEq, Nat.reduceAdd, Nat.reduceLeDiff, Nat.reduceMul, Nat.reduceLT, if_true, if_false, true_and, and_true, and_self, Nat.reduceBEq, QOp.loads, boxO, bslO, buildO, cutL, fillV, putL, w70, v70, W mid (by omega)]
    exact ⟨b' - (mid + 1), by omega, mid + 1, b', lim, _, _, L, rfl, by omega, by omega, by omega, pL.1.trans (z3.trans hs1), hlim, y1, fun R pR sR => by obtain ⟨r1, r2⟩ := y2 R pR sR; exact back R (permIn_trans _ _ _ _ _ P r1) r2, G.trans G4, O4, rfl⟩
  · simp (maxSteps := 4000000) (disch := omega) only [ah, am, Nat.reduceEqDiff, reduceCtorEq, Nat.reduceAdd, Nat.reduceLeDiff, Nat.reduceMul, Nat.reduceLT, if_true, if_false, true_and, and_true, and_self, Nat.reduceBEq, QOp.loads, boxO, bslO, buildO, cutL, fillV, putL, w70, v70, W mid (by omega)]
    refine stepC.of (IH (b' - (mid + 1)) (by omega) K3 d4 (mid + 1) b' lim (Nat.le_refl _) O3 (by omega) (by omega) (by omega) hlim z5) ?_
    rintro _ K4 ⟨L, pL, sL, G4, O4⟩
    obtain ⟨y1, y2⟩ := z7 L pL sL
    simp (maxSteps := 4000000) (disch := omega) only [ah, am, Nat.reduceEqDiff, reduceCtorEq, Nat.reduceAdd, Nat.reduceLeDiff, Nat.reduceMul, Nat.reduceLT, if_true, if_false, true_and, and_true, and_self, Nat.reduceBEq, QOp.loads, boxO, bslO, buildO, cutL, fillV, putL, w70, v70]
    exact ⟨mid - a', by omega, a', mid, lim, _, _, L, rfl, by omega, by omega, by omega, pL.1.trans (z3.trans hs1), hlim, y1, fun R pR sR => by obtain ⟨r1, r2⟩ := y2 R pR sR; exact back R (permIn_trans _ _ _ _ _ P r1) r2, G.trans G4, O4, rfl⟩
theorem SortFunc_ok (h : Heap) (g : Nat) (v : Value) (l : List Reel) (o : OwnT g h encReel 3 v l) (hl : l.length ≤ 1000000) :
    ACall Try.prog 55 [v, .func (.func 56) #[] #[]] h
      fun r h' => ∃ l' : List Reel, l'.Perm l ∧ (∀ i j (hi : i < l'.length) (hj : j < l'.length), i < j → ltR l'[j] l'[i] = false) ∧ ExtG g h h' ∧ OwnT g h' encReel 3 v l' := by
  refine ACall.of Try.func55 s55 (of_decide_eq_true rfl) ?_
  have R := o.slt.rulesN
  have wu := u64w' (n := (l.length : Int)) (by omega)
  simp (maxSteps := 4000000) (disch := omega) only [ah, am, Nat.reduceEqDiff, reduceCtorEq, Nat.reduceAdd, Nat.reduceLeDiff, Nat.reduceMul, Nat.reduceLT, if_true, if_false, true_and, and_true, and_self, Nat.reduceBEq, QOp.loads, boxO, bslO, buildO, cutL, fillV, putL, w55, v55, R.1, wu]
  refine stepC.of (Len_ok h l.length hl) ?_
  rintro _ Hx ⟨hx, n, rfl, h2, h3⟩; rw [hx]; clear hx Hx
  simp (maxSteps := 4000000) (disch := omega) only [ah, am, Nat.reduceEqDiff, reduceCtorEq, Nat.reduceAdd, Nat.reduceLeDiff, Nat.reduceMul, Nat.reduceLT, if_true, if_false, true_and, and_true, and_self, Nat.reduceBEq, QOp.loads, boxO, bslO, buildO, cutL, fillV, putL, w55, v55]
  have o2 : OwnT g h encReel 3 v l.toArray.toList := by simpa using o
  refine stepC.of (pdq_ok g v l.length h l.toArray 0 l.length n (by omega) o2 (by omega) (by simp) (by simp; exact hl) (by omega) (.inl rfl)) ?_
  rintro _ K ⟨d', P, S, G, O⟩
  simp (maxSteps := 4000000) (disch := omega) only [ah, am, Nat.reduceEqDiff, reduceCtorEq, Nat.reduceAdd, Nat.reduceLeDiff, Nat.reduceMul, Nat.reduceLT, if_true, if_false, true_and, and_true, and_self, Nat.reduceBEq, QOp.loads, boxO, bslO, buildO, cutL, fillV, putL, w55, v55]
  have hs : d'.size = l.length := by have := P.1; simpa using this
  refine ⟨d'.toList, ?_, fun i j hi hj hij => ?_, G, O⟩
  · have := P.2.2
    rw [show (d'.extract 0 l.length).toList = d'.toList by rw [← hs]; simp, show (l.toArray.extract 0 l.length).toList = l by simp] at this
    exact this
  · simp only [Array.length_toList] at hi hj
    have := S i j (by omega) hij (by omega)
    rw [getElem!_pos d' i hi, getElem!_pos d' j hj] at this
    simpa using this
end Go.Proofs.Ytmippcfdakjhfaa
