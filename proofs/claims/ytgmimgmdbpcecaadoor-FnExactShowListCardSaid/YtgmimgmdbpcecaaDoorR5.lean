import Derived.Test.YtgmimgmdbpcecaaDoorR4
namespace Go.Proofs.YtgmimgmdbpcecaaDoor
open Go Go.Ah
set_option linter.unusedSimpArgs false
set_option linter.unusedVariables false
set_option maxRecDepth 10000
set_option maxHeartbeats 4000000
theorem told_ok (h : Heap) (r : Rate) (f : Nat) (hr : rateOk r) (hf : f ≤ 10000000) : ACall Tryd.prog 47 [.agg (encRate r).toArray, .int .i64 (f : Int)] h fun x h' => Ext h h' ∧ x = .int .i64 (toldN r f : Int) := by
  have B := Bx.new h (encRate r) []
  have eM := Ext.more h [encRate r]
  obtain ⟨b1, b2, b3⟩ := base_bd hr
  have hl := left_le r
  have e := base_ok (h.more [encRate r]) r hr
  simp only [encRate] at B eM e
  unfold toldN
  obtain ⟨b, hb⟩ : ∃ b, b = baseN r := ⟨_, rfl⟩
  obtain ⟨l, hll⟩ : ∃ l, l = leftN r := ⟨_, rfl⟩
  have LO := fun (K : Heap) => left_ok K r
  simp only [encRate] at LO
  rw [← hb] at b2 b3 e ⊢
  rw [← hll] at hl ⊢
  simp only [← hll] at LO
  obtain ⟨t, ht⟩ : ∃ t, t = 10 * (60 * b) - 9 * l := ⟨_, rfl⟩
  rw [← ht]
  have t0 : 0 < t := by omega
  have w1 : IntKind.i64.wrap (60 * (b : Int)) = ((60 * b : Nat) : Int) := i64e (by omega) (by omega)
  have w2 : IntKind.i64.wrap (10 * ((60 * b : Nat) : Int)) = ((10 * (60 * b) : Nat) : Int) := i64e (by omega) (by omega)
  have w3 : IntKind.i64.wrap (9 * (l : Int)) = ((9 * l : Nat) : Int) := i64e (by omega) (by omega)
  have w4 : IntKind.i64.wrap (((10 * (60 * b) : Nat) : Int) - ((9 * l : Nat) : Int)) = (t : Int) := i64e (by omega) (by omega)
  have hq : f / t ≤ f := Nat.div_le_self _ _
  have hm : f % t < t := Nat.mod_lt _ t0
  obtain ⟨qn, hqn⟩ : ∃ q, q = f / t := ⟨_, rfl⟩
  obtain ⟨rn, hrn⟩ : ∃ q, q = f % t := ⟨_, rfl⟩
  have q1 : (f : Int).tdiv (t : Int) = (qn : Int) := by rw [Int.tdiv_eq_ediv_of_nonneg (by omega), hqn]; rfl
  have r1 : (f : Int).tmod (t : Int) = (rn : Int) := by rw [Int.tmod_eq_emod_of_nonneg (by omega), hrn]; rfl
  rw [← hqn] at hq ⊢
  rw [← hrn] at hm ⊢
  have q2 : IntKind.i64.wrap (qn : Int) = (qn : Int) := i64e rfl (by omega)
  have r2 : IntKind.i64.wrap (rn : Int) = (rn : Int) := i64e rfl (by omega)
  have pm : (9 * l) * qn ≤ 36 * 10000000 := Nat.mul_le_mul (by omega) (by omega)
  obtain ⟨pn, hpn⟩ : ∃ q, q = (9 * l) * qn := ⟨_, rfl⟩
  rw [← hpn] at pm ⊢
  have w5 : IntKind.i64.wrap (((9 * l : Nat) : Int) * (qn : Int)) = (pn : Int) := i64e (by rw [hpn, Int.natCast_mul (9 * l)]) (by omega)
  have w6 : IntKind.i64.wrap ((f : Int) + (pn : Int)) = ((f + pn : Nat) : Int) := i64e (by omega) (by omega)
  have tn : (t : Int) ≠ 0 := by omega
  refine ACall.of Tryd.func47 s47 (of_decide_eq_true rfl) ?_
  simp (maxSteps := 4000000) (disch := omega) only [ah, am, Nat.reduceEqDiff, reduceCtorEq, Nat.reduceAdd, Nat.reduceLeDiff, Nat.reduceMul, Nat.reduceLT, if_true, if_false, true_and, and_true, and_self, Nat.reduceBEq, QOp.loads, boxO, bslO, buildO, cutL, fillV, putL, w47, v47, encRate, B.ld]
  refine stepC.of e ?_
  rintro _ H1 ⟨e1, rfl⟩
  simp (maxSteps := 4000000) (disch := omega) only [ah, am, Nat.reduceEqDiff, reduceCtorEq, Nat.reduceAdd, Nat.reduceLeDiff, Nat.reduceMul, Nat.reduceLT, if_true, if_false, true_and, and_true, and_self, Nat.reduceBEq, QOp.loads, boxO, bslO, buildO, cutL, fillV, putL, w47, v47, (B.ext e1).ld, w1, w2]
  refine stepC.of (LO H1) ?_
  rintro _ H2 ⟨e2, rfl⟩
  have B2 := (B.ext e1).ext e2
  simp (maxSteps := 4000000) (disch := omega) only [ah, am, Nat.reduceEqDiff, reduceCtorEq, Nat.reduceAdd, Nat.reduceLeDiff, Nat.reduceMul, Nat.reduceLT, if_true, if_false, true_and, and_true, and_self, Nat.reduceBEq, QOp.loads, boxO, bslO, buildO, cutL, fillV, putL, w47, v47, B2.ld, w3, w4, tn, ne_eq, not_false_eq_true, q1, q2, r1, r2]
  refine stepC.of (LO H2) ?_
  rintro _ H3 ⟨e3, rfl⟩
  have B3 := B2.ext e3
  have E3 := ((eM.trans e1).trans e2).trans e3
  cases hd : r.drop with
  | false =>
    rw [hd] at B3
    simp (maxSteps := 4000000) (disch := omega) only [ah, am, Nat.reduceEqDiff, reduceCtorEq, Nat.reduceAdd, Nat.reduceLeDiff, Nat.reduceMul, Nat.reduceLT, if_true, if_false, true_and, and_true, and_self, Nat.reduceBEq, QOp.loads, boxO, bslO, buildO, cutL, fillV, putL, w47, v47, B3.ld, w3, w5, w6]
    exact ⟨E3, by simp⟩
  | true =>
    rw [hd] at B3
    rw [hd] at LO
    by_cases c : 60 * b ≤ rn
    · have c' : decide (((60 * b : Nat) : Int) ≤ (rn : Int)) = true := decide_eq_true (by omega)
      have w7 : IntKind.i64.wrap ((rn : Int) - ((60 * b : Nat) : Int)) = ((rn - 60 * b : Nat) : Int) := i64e (by omega) (by omega)
      simp (maxSteps := 4000000) (disch := omega) only [ah, am, Nat.reduceEqDiff, reduceCtorEq, Nat.reduceAdd, Nat.reduceLeDiff, Nat.reduceMul, Nat.reduceLT, if_true, if_false, true_and, and_true, and_self, Nat.reduceBEq, QOp.loads, boxO, bslO, buildO, cutL, fillV, putL, w47, v47, B3.ld, w3, w5, w6, c', w7]
      refine stepC.of (LO H3) ?_
      rintro _ H4 ⟨e4, rfl⟩
      have B4 := B3.ext e4
      simp (maxSteps := 4000000) (disch := omega) only [ah, am, Nat.reduceEqDiff, reduceCtorEq, Nat.reduceAdd, Nat.reduceLeDiff, Nat.reduceMul, Nat.reduceLT, if_true, if_false, true_and, and_true, and_self, Nat.reduceBEq, QOp.loads, boxO, bslO, buildO, cutL, fillV, putL, w47, v47, rechk_cons, rechk_end, chkV_some, chkV_false, B4.ld, w7]
      refine stepC.of (LO H4) ?_
      rintro _ H5 ⟨e5, rfl⟩
      obtain ⟨dn, hdn⟩ : ∃ q, q = (rn - 60 * b) / (60 * b - l) := ⟨_, rfl⟩
      have hdq : dn ≤ rn - 60 * b := by rw [hdn]; exact Nat.div_le_self _ _
      have w8 : IntKind.i64.wrap (((60 * b : Nat) : Int) - (l : Int)) = ((60 * b - l : Nat) : Int) := i64e (by omega) (by omega)
      have n8 : ((60 * b - l : Nat) : Int) ≠ 0 := by omega
      have q8 : (((rn - 60 * b : Nat) : Int)).tdiv ((60 * b - l : Nat) : Int) = (dn : Int) := by rw [Int.tdiv_eq_ediv_of_nonneg (by omega), hdn]; rfl
      have w9 : IntKind.i64.wrap (dn : Int) = (dn : Int) := i64e rfl (by omega)
      have w10 : IntKind.i64.wrap (1 + (dn : Int)) = ((1 + dn : Nat) : Int) := i64e (by omega) (by omega)
      have pm2 : l * (1 + dn) ≤ 4 * 10000001 := Nat.mul_le_mul (by omega) (by omega)
      obtain ⟨sn, hsn⟩ : ∃ q, q = l * (1 + dn) := ⟨_, rfl⟩
      rw [← hsn] at pm2
      have w11 : IntKind.i64.wrap ((l : Int) * ((1 + dn : Nat) : Int)) = (sn : Int) := i64e (by rw [hsn, Int.natCast_mul l]) (by omega)
      have w12 : IntKind.i64.wrap (((f + pn : Nat) : Int) + (sn : Int)) = ((f + pn + sn : Nat) : Int) := i64e (by omega) (by omega)
      simp (maxSteps := 4000000) (disch := omega) only [ah, am, Nat.reduceEqDiff, reduceCtorEq, Nat.reduceAdd, Nat.reduceLeDiff, Nat.reduceMul, Nat.reduceLT, if_true, if_false, true_and, and_true, and_self, Nat.reduceBEq, QOp.loads, boxO, bslO, buildO, cutL, fillV, putL, w47, v47, w8, n8, ne_eq, not_false_eq_true, q8, w9, w10, w11, w12]
      refine ⟨(E3.trans e4).trans e5, ?_⟩
      rw [if_pos c, ← hdn, ← hsn]
    · have c' : decide (((60 * b : Nat) : Int) ≤ (rn : Int)) = false := decide_eq_false (by omega)
      simp (maxSteps := 4000000) (disch := omega) only [ah, am, Nat.reduceEqDiff, reduceCtorEq, Nat.reduceAdd, Nat.reduceLeDiff, Nat.reduceMul, Nat.reduceLT, if_true, if_false, true_and, and_true, and_self, Nat.reduceBEq, QOp.loads, boxO, bslO, buildO, cutL, fillV, putL, w47, v47, B3.ld, w3, w5, w6, c']
      exact ⟨E3, by rw [if_neg c]; rfl⟩
end Go.Proofs.YtgmimgmdbpcecaaDoor
