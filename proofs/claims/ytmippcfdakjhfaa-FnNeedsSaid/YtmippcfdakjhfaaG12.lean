import Derived.Test.YtmippcfdakjhfaaG11
namespace Go.Proofs.Ytmippcfdakjhfaa
open Go Go.Ah
set_option linter.unusedSimpArgs false
set_option linter.unusedVariables false
set_option maxRecDepth 10000
set_option maxHeartbeats 4000000
theorem toldF_len (l : List Reel) : (toldF l).length ≤ l.length := by
  have := tell_len (isort l); rw [isort_len] at this; exact this
theorem without_len (r : Reel) (b : List Reel) : (withoutF r b []).length ≤ b.length + 1 := by
  have := outS_len r.src r.to b ([], r.fr)
  simp only [List.length_nil] at this
  unfold withoutF withoutS
  split
  · simp; omega
  · omega
theorem miss_take (a b : List Reel) {i : Nat} (hi : i < a.length) : missL (a.take (i + 1)) b = missL (a.take i) b ++ withoutF a[i] b [] := by
  unfold missL
  rw [List.take_add_one, List.getElem?_eq_getElem hi, Option.toList_some, List.foldl_append, List.foldl_cons, List.foldl_nil, without_app]
theorem miss_len (b : List Reel) : ∀ a : List Reel, (missL a b).length ≤ a.length * (b.length + 1) := by
  have key : ∀ (a s : List Reel), (a.foldl (fun s r => withoutF r b s) s).length ≤ s.length + a.length * (b.length + 1) := by
    intro a
    induction a with
    | nil => intro s; simp
    | cons r a ih =>
      intro s
      have h1 := ih (withoutF r b s)
      have h2 := without_len r b
      rw [without_app, List.length_append] at h1
      simp only [List.foldl_cons, List.length_cons, Nat.succ_mul]
      rw [without_app]
      omega
  intro a; have := key a []; rw [List.length_nil, Nat.zero_add] at this; exact this
theorem reels_valid {l : List Reel} (h : reelsF l) : ∀ x ∈ l, x.fr < x.to := fun x hx => (h.2 x hx).2.2.1
theorem mine_wide {α : Type} {a b a' b' : Nat} {h : Heap} {enc : α → List Value} {sz : Nat} {v : Value} {l : List α} (m : Mine a b h enc sz v l) (ha : a' ≤ a) (hb : b ≤ b') : Mine a' b' h enc sz v l := by
  obtain ⟨s, m | ⟨g, h1, h2, o⟩⟩ := m
  · exact ⟨s, .inl m⟩
  · exact ⟨s, .inr ⟨g, by omega, by omega, o⟩⟩
theorem Missing_ok (h : Heap) (va vb : Value) (a b : List Reel) (sa : SlT h encReel 3 va a) (sb : SlT h encReel 3 vb b) : ACall Try.prog 14 [va, vb] h fun r h' => Fresh h h' encReel 3 r (missF a b) := by
  refine ACall.of Try.func14 s14 (of_decide_eq_true rfl) ?_
  simp (maxSteps := 4000000) (disch := omega) only [ah, am, Nat.reduceEqDiff, reduceCtorEq, Nat.reduceAdd, Nat.reduceLeDiff, Nat.reduceMul, Nat.reduceLT, if_true, if_false, true_and, and_true, and_self, Nat.reduceBEq, QOp.loads, boxO, bslO, buildO, cutL, fillV, putL, w14, v14]
  refine stepC.of (reelsOk_ok _ va a sa) ?_
  rintro _ H1 ⟨e1, rfl⟩
  by_cases c1 : reelsF a
  rotate_left
  · simp (maxSteps := 4000000) (disch := omega) only [ah, am, Nat.reduceEqDiff, reduceCtorEq, Nat.reduceAdd, Nat.reduceLeDiff, Nat.reduceMul, Nat.reduceLT, if_true, if_false, true_and, and_true, and_self, Nat.reduceBEq, QOp.loads, boxO, bslO, buildO, cutL, fillV, putL, w14, v14, decide_eq_false c1, Bool.not_false]
    rw [missF, if_neg (fun q => c1 q.1)]
    exact (Fresh.nil H1 encReel_len (by omega)).mono e1
  simp (maxSteps := 4000000) (disch := omega) only [ah, am, Nat.reduceEqDiff, reduceCtorEq, Nat.reduceAdd, Nat.reduceLeDiff, Nat.reduceMul, Nat.reduceLT, if_true, if_false, true_and, and_true, and_self, Nat.reduceBEq, QOp.loads, boxO, bslO, buildO, cutL, fillV, putL, w14, v14, decide_eq_true c1, Bool.not_true]
  refine stepC.of (reelsOk_ok _ vb b (sb.ext e1)) ?_
  rintro _ H2 ⟨e2, rfl⟩
  have E2 := e1.trans e2
  by_cases c2 : reelsF b
  rotate_left
  · simp (maxSteps := 4000000) (disch := omega) only [ah, am, Nat.reduceEqDiff, reduceCtorEq, Nat.reduceAdd, Nat.reduceLeDiff, Nat.reduceMul, Nat.reduceLT, if_true, if_false, true_and, and_true, and_self, Nat.reduceBEq, QOp.loads, boxO, bslO, buildO, cutL, fillV, putL, w14, v14, decide_eq_false c2, Bool.not_false]
    rw [missF, if_neg (fun q => c2 q.2)]
    exact (Fresh.nil H2 encReel_len (by omega)).mono E2
  simp (maxSteps := 4000000) (disch := omega) only [ah, am, Nat.reduceEqDiff, reduceCtorEq, Nat.reduceAdd, Nat.reduceLeDiff, Nat.reduceMul, Nat.reduceLT, if_true, if_false, true_and, and_true, and_self, Nat.reduceBEq, QOp.loads, boxO, bslO, buildO, cutL, fillV, putL, w14, v14, decide_eq_true c2, Bool.not_true]
  have E3 := E2.trans (Ext.more H2 [[]])
  refine stepC.of (told_ok _ vb b (sb.ext E3) (by have := c2.1; omega) (reels_valid c2)) ?_
  intro tb H3 Fb
  have E4 := E3.trans Fb.1
  simp (maxSteps := 4000000) (disch := omega) only [ah, am, Nat.reduceEqDiff, reduceCtorEq, Nat.reduceAdd, Nat.reduceLeDiff, Nat.reduceMul, Nat.reduceLT, if_true, if_false, true_and, and_true, and_self, Nat.reduceBEq, QOp.loads, boxO, bslO, buildO, cutL, fillV, putL, w14, v14]
  refine stepC.of (told_ok _ va a (sa.ext E4) (by have := c1.1; omega) (reels_valid c1)) ?_
  intro ta H4 Fa
  have E5 := E4.trans Fa.1
  have la := toldF_len a
  have lb := toldF_len b
  have ca := c1.1
  have cb := c2.1
  rw [missF, if_pos ⟨c1, c2⟩]
  generalize toldF a = A at Fa la ⊢
  generalize toldF b = B at Fb lb ⊢
  have ml := fun i => miss_len B (A.take i)
  have Rn := Fa.slt.rulesN.1
  have sz2 : (H2.more [[]]).size = H2.size + 1 := size_more _ _
  have sz3 := Fb.1.1
  have sz4 := Fa.1.1
  simp (maxSteps := 4000000) (disch := omega) only [ah, am, Nat.reduceEqDiff, reduceCtorEq, Nat.reduceAdd, Nat.reduceLeDiff, Nat.reduceMul, Nat.reduceLT, if_true, if_false, true_and, and_true, and_self, Nat.reduceBEq, QOp.loads, boxO, bslO, buildO, cutL, fillV, putL, w14, v14, Rn]
  refine SW_loop_up (fun i E K => ∃ ov g, OwnT g K encReel 3 ov (missL (A.take i) B) ∧ h.size ≤ g ∧ (g < H2.size + 1 ∨ H4.size ≤ g) ∧ Mine (H2.size + 1) H4.size K encReel 3 tb B ∧
    Mine (H2.size + 1) H4.size K encReel 3 ta A ∧ Ext h K ∧ H4.size ≤ K.size ∧ E = [(5, ov), (6, tb), (21, ta), (22, .int .i64 (A.length : Int)), (23, .int .i64 (i : Int))]) A.length 0 (by omega) ?_ ?_
  · refine ⟨_, H2.size, ((OwnT.new0 H2 encReel_len (by omega)).ext Fb.1).ext Fa.1, E2.1, .inl (by omega), ?_, ?_, E5, Nat.le_refl _, rfl⟩
    · exact mine_wide (Fb.mine.ext Fa.1) (by omega) sz4
    · exact mine_wide Fa.mine (by omega) (Nat.le_refl _)
  rintro i E K hi ⟨ov, g, O, g1, g2, Mb, Ma, EK, hK, rfl⟩
  simp (maxSteps := 4000000) (disch := omega) only [ah, am, Nat.reduceEqDiff, reduceCtorEq, Nat.reduceAdd, Nat.reduceLeDiff, Nat.reduceMul, Nat.reduceLT, if_true, if_false, true_and, and_true, and_self, Nat.reduceBEq, QOp.loads, boxO, bslO, buildO, cutL, fillV, putL, w14, v14]
  refine stepI.split (fun hp => ?_) (fun hp => ?_)
  · have hi2 : i < A.length := by omega
    have W : IntKind.i64.wrap ((i : Int) + 1) = ((i + 1 : Nat) : Int) := i64e (by omega) (by omega)
    rw [miss_take A B hi2]
    have R := Ma.slt.rulesN
    have hml : (missL (A.take i) B).length ≤ 300 * 301 := by
      refine Nat.le_trans (ml i) (Nat.mul_le_mul (by rw [List.length_take]; omega) (by omega))
    obtain ⟨x, hx⟩ : ∃ x, x = A[i]'hi2 := ⟨_, rfl⟩
    have LN : ldnV K 3 (ptrAt ta (i * 3)) = some (.agg (encReel x).toArray) := by rw [hx]; exact R.2.2.2.2.2 i hi2
    rw [← hx]
    generalize missL (A.take i) B = cur at O hml ⊢
    have hw := without_len x B
    simp (maxSteps := 4000000) (disch := omega) only [ah, am, Nat.reduceEqDiff, reduceCtorEq, Nat.reduceAdd, Nat.reduceLeDiff, Nat.reduceMul, Nat.reduceLT, if_true, if_false, true_and, and_true, and_self, Nat.reduceBEq, QOp.loads, boxO, bslO, buildO, cutL, fillV, putL, w14, v14, R.2.1, LN, encReel]
    have eM : Ext K (K.more [[.int .i64 x.src, .int .i64 x.fr, .int .i64 x.to]]) := Ext.more _ _
    have wo := without_ok (K.more [[.int .i64 x.src, .int .i64 x.fr, .int .i64 x.to]]) tb B x (Mb.slt.ext eM) (by omega)
    simp only [encReel] at wo
    refine stepC.of wo ?_
    intro wv K2 Fw
    have e2 := eM.trans Fw.1
    obtain ⟨v2, K3, g3, ea, O3, G3, hg3⟩ := (O.ext e2).app Fw.slt (bytes := 24) (by omega)
    simp (maxSteps := 4000000) (disch := omega) only [ah, am, Nat.reduceEqDiff, reduceCtorEq, Nat.reduceAdd, Nat.reduceLeDiff, Nat.reduceMul, Nat.reduceLT, if_true, if_false, true_and, and_true, and_self, Nat.reduceBEq, QOp.loads, boxO, bslO, buildO, cutL, fillV, putL, w14, v14, ea, W]
    have c3 : Chg g (g + 1) K2 K3 := G3.chg (Nat.le_refl _) (Nat.lt_succ_self _)
    have hs2 := e2.1
    have hs3 := G3.1
    refine ⟨hi2, v2, g3, O3, ?_, ?_, (Mb.ext e2).chg c3 (by omega), (Ma.ext e2).chg c3 (by omega), G3.ext (EK.trans e2) g1, by omega, rfl⟩
    · have := EK.1; rcases hg3 with rfl | rfl <;> omega
    · rcases hg3 with rfl | rfl <;> omega
  · simp (maxSteps := 4000000) (disch := omega) only [ah, am, Nat.reduceEqDiff, reduceCtorEq, Nat.reduceAdd, Nat.reduceLeDiff, Nat.reduceMul, Nat.reduceLT, if_true, if_false, true_and, and_true, and_self, Nat.reduceBEq, QOp.loads, boxO, bslO, buildO, cutL, fillV, putL, w14, v14]
    have : i = A.length := by omega
    subst this
    rw [List.take_length] at O
    exact ⟨EK, g, g1, O⟩
theorem specMissing_ok (h : Heap) (va vb : Value) (a b : List Reel) (sa : SlT h encReel 3 va a) (sb : SlT h encReel 3 vb b) : ACall Try.prog 13 [va, vb] h fun r h' => Fresh h h' encReel 3 r (missF a b) := by
  refine ACall.of Try.func13 s13 (of_decide_eq_true rfl) ?_
  simp (maxSteps := 4000000) (disch := omega) only [ah, am, Nat.reduceEqDiff, reduceCtorEq, Nat.reduceAdd, Nat.reduceLeDiff, Nat.reduceMul, Nat.reduceLT, if_true, if_false, true_and, and_true, and_self, Nat.reduceBEq, QOp.loads, boxO, bslO, buildO, cutL, fillV, putL, w13, v13]
  have E0 : Ext h (h.more [[]]) := Ext.more _ _
  have F0 := Fresh.new0 h encReel_len (by omega)
  refine stepC.of (l7Reels_ok _ va a (sa.ext E0)) ?_
  rintro _ H1 ⟨e1, rfl⟩
  by_cases c1 : reelsF a
  rotate_left
  · simp (maxSteps := 4000000) (disch := omega) only [ah, am, Nat.reduceEqDiff, reduceCtorEq, Nat.reduceAdd, Nat.reduceLeDiff, Nat.reduceMul, Nat.reduceLT, if_true, if_false, true_and, and_true, and_self, Nat.reduceBEq, QOp.loads, boxO, bslO, buildO, cutL, fillV, putL, w13, v13, decide_eq_false c1, Bool.not_false]
    rw [missF, if_neg (fun q => c1 q.1)]
    exact F0.ext e1
  simp (maxSteps := 4000000) (disch := omega) only [ah, am, Nat.reduceEqDiff, reduceCtorEq, Nat.reduceAdd, Nat.reduceLeDiff, Nat.reduceMul, Nat.reduceLT, if_true, if_false, true_and, and_true, and_self, Nat.reduceBEq, QOp.loads, boxO, bslO, buildO, cutL, fillV, putL, w13, v13, decide_eq_true c1, Bool.not_true]
  refine stepC.of (l7Reels_ok _ vb b (sb.ext (E0.trans e1))) ?_
  rintro _ H2 ⟨e2, rfl⟩
  have E2 := e1.trans e2
  by_cases c2 : reelsF b
  rotate_left
  · simp (maxSteps := 4000000) (disch := omega) only [ah, am, Nat.reduceEqDiff, reduceCtorEq, Nat.reduceAdd, Nat.reduceLeDiff, Nat.reduceMul, Nat.reduceLT, if_true, if_false, true_and, and_true, and_self, Nat.reduceBEq, QOp.loads, boxO, bslO, buildO, cutL, fillV, putL, w13, v13, decide_eq_false c2, Bool.not_false]
    rw [missF, if_neg (fun q => c2 q.2)]
    exact F0.ext E2
  simp (maxSteps := 4000000) (disch := omega) only [ah, am, Nat.reduceEqDiff, reduceCtorEq, Nat.reduceAdd, Nat.reduceLeDiff, Nat.reduceMul, Nat.reduceLT, if_true, if_false, true_and, and_true, and_self, Nat.reduceBEq, QOp.loads, boxO, bslO, buildO, cutL, fillV, putL, w13, v13, decide_eq_true c2, Bool.not_true]
  refine stepC.of (l7Tell_ok _ va a (sa.ext (E0.trans E2)) (by have := c1.1; omega)) ?_
  intro ta H3 Fa
  have E3 := E2.trans Fa.1
  simp (maxSteps := 4000000) (disch := omega) only [ah, am, Nat.reduceEqDiff, reduceCtorEq, Nat.reduceAdd, Nat.reduceLeDiff, Nat.reduceMul, Nat.reduceLT, if_true, if_false, true_and, and_true, and_self, Nat.reduceBEq, QOp.loads, boxO, bslO, buildO, cutL, fillV, putL, w13, v13]
  refine stepC.of (l7Tell_ok _ vb b (sb.ext (E0.trans E3)) (by have := c2.1; omega)) ?_
  intro tb H4 Fb
  have E4 := E3.trans Fb.1
  simp (maxSteps := 4000000) (disch := omega) only [ah, am, Nat.reduceEqDiff, reduceCtorEq, Nat.reduceAdd, Nat.reduceLeDiff, Nat.reduceMul, Nat.reduceLT, if_true, if_false, true_and, and_true, and_self, Nat.reduceBEq, QOp.loads, boxO, bslO, buildO, cutL, fillV, putL, w13, v13]
  have la := toldF_len a
  have lb := toldF_len b
  have ca := c1.1
  have cb := c2.1
  rw [missF, if_pos ⟨c1, c2⟩]
  generalize toldF a = A at Fa la ⊢
  generalize toldF b = B at Fb lb ⊢
  have ml := fun i => miss_len B (A.take i)
  have sz2 := E2.1
  have sz3 := Fa.1.1
  have sz4 := Fb.1.1
  simp only [size_more, List.length_cons, List.length_nil] at sz2
  -- what is kept in both loops
  have keep : ∀ {K K2 K3 : Heap} {g g3 : Nat} {ov : Value} {cur : List Reel}, OwnT g K encReel 3 ov cur → h.size ≤ g → (g < H2.size ∨ H4.size ≤ g) → Mine H2.size H4.size K encReel 3 tb B → Mine H2.size H4.size K encReel 3 ta A → Ext h K → H4.size ≤ K.size →
      Ext K K2 → ExtG g K2 K3 → (g3 = g ∨ g3 = K2.size) → h.size ≤ g3 ∧ (g3 < H2.size ∨ H4.size ≤ g3) ∧ Mine H2.size H4.size K3 encReel 3 tb B ∧ Mine H2.size H4.size K3 encReel 3 ta A ∧ Ext h K3 ∧ H4.size ≤ K3.size := by
    intro K K2 K3 g g3 ov cur O g1 g2 Mb Ma EK hK e2 G3 hg3
    have c3 : Chg g (g + 1) K2 K3 := G3.chg (Nat.le_refl _) (Nat.lt_succ_self _)
    have hs2 := e2.1
    have hs3 := G3.1
    have := EK.1
    exact ⟨by rcases hg3 with rfl | rfl <;> omega, by rcases hg3 with rfl | rfl <;> omega, (Mb.ext e2).chg c3 (by omega), (Ma.ext e2).chg c3 (by omega), G3.ext (EK.trans e2) g1, by omega⟩
  have app1 : ∀ {K : Heap} {g : Nat} {ov : Value} {cur : List Reel} (x : Reel), OwnT g K encReel 3 ov cur → cur.length ≤ 1000000 → ∃ v2 K3 g3, appV (K.more [encReel x]) 24 3 ov (.slice (some ⟨K.size, 0, none⟩) 1 3) = some (v2, K3) ∧ OwnT g3 K3 encReel 3 v2 (cur ++ [x]) ∧
      ExtG g (K.more [encReel x]) K3 ∧ (g3 = g ∨ g3 = (K.more [encReel x]).size) := by
    intro K g ov cur x O hl
    have s := (OwnT.new K [x] encReel_len (by omega)).slt
    simp only [List.flatMap_cons, List.flatMap_nil, List.append_nil, List.length_cons, List.length_nil, Nat.zero_add] at s
    obtain ⟨v2, K3, g3, ea, O3, G3, hg3⟩ := (O.ext (Ext.more K [encReel x])).app s (bytes := 24) (by simp; omega)
    exact ⟨v2, K3, g3, ea, O3, G3, hg3⟩
  refine SW_loop_up (fun i E K => ∃ ov g, OwnT g K encReel 3 ov (missL (A.take i) B) ∧ h.size ≤ g ∧ (g < H2.size ∨ H4.size ≤ g) ∧ Mine H2.size H4.size K encReel 3 tb B ∧
    Mine H2.size H4.size K encReel 3 ta A ∧ Ext h K ∧ H4.size ≤ K.size ∧ E = [(5, ov), (6, ta), (7, tb), (8, .int .i64 (i : Int))]) A.length 0 (by omega) ?_ ?_
  · refine ⟨_, h.size, (OwnT.new0 h encReel_len (by omega)).ext E4, Nat.le_refl _, .inl (by omega), ?_, ?_, E0.trans E4, Nat.le_refl _, rfl⟩
    · exact mine_wide Fb.mine sz3 (Nat.le_refl _)
    · exact mine_wide (Fa.mine.ext Fb.1) (Nat.le_refl _) sz4
  rintro i E K hi ⟨ov, g, O, g1, g2, Mb, Ma, EK, hK, rfl⟩
  have R := Ma.slt.rulesN
  simp (maxSteps := 4000000) (disch := omega) only [ah, am, Nat.reduceEqDiff, reduceCtorEq, Nat.reduceAdd, Nat.reduceLeDiff, Nat.reduceMul, Nat.reduceLT, if_true, if_false, true_and, and_true, and_self, Nat.reduceBEq, QOp.loads, boxO, bslO, buildO, cutL, fillV, putL, w13, v13, R.1]
  refine stepI.split (fun hp => ?_) (fun hp => ?_)
  rotate_left
  · simp (maxSteps := 4000000) (disch := omega) only [ah, am, Nat.reduceEqDiff, reduceCtorEq, Nat.reduceAdd, Nat.reduceLeDiff, Nat.reduceMul, Nat.reduceLT, if_true, if_false, true_and, and_true, and_self, Nat.reduceBEq, QOp.loads, boxO, bslO, buildO, cutL, fillV, putL, w13, v13]
    have : i = A.length := by omega
    subst this
    rw [List.take_length] at O
    exact ⟨EK, g, g1, O⟩
  have hi2 : i < A.length := by omega
  have W : IntKind.i64.wrap ((i : Int) + 1) = ((i + 1 : Nat) : Int) := i64e (by omega) (by omega)
  rw [miss_take A B hi2, ← without_app]
  have hml : (missL (A.take i) B).length ≤ 300 * 301 := by
    refine Nat.le_trans (ml i) (Nat.mul_le_mul (by rw [List.length_take]; omega) (by omega))
  obtain ⟨x, hx⟩ : ∃ x, x = A[i]'hi2 := ⟨_, rfl⟩
  have ldx : ∀ {K : Heap}, SlT K encReel 3 ta A → ldV K (ptrAt ta (i * 3)) = some (.int .i64 x.src) ∧ ldV K (ptrAt ta (i * 3 + 1)) = some (.int .i64 x.fr) ∧ ldV K (ptrAt ta (i * 3 + 2)) = some (.int .i64 x.to) := by
    intro K s
    have R := s.rulesN
    rw [hx]
    exact ⟨R.2.2.2.2.1 i hi2, R.2.2.2.1 i 1 hi2 (by omega), R.2.2.2.1 i 2 hi2 (by omega)⟩
  rw [← hx]
  generalize missL (A.take i) B = cur at O hml ⊢
  have L := ldx Ma.slt
  have FA := R.2.2.1
  simp (maxSteps := 4000000) (disch := omega) only [ah, am, Nat.reduceEqDiff, reduceCtorEq, Nat.reduceAdd, Nat.reduceLeDiff, Nat.reduceMul, Nat.reduceLT, if_true, if_false, true_and, and_true, and_self, Nat.reduceBEq, QOp.loads, boxO, bslO, buildO, cutL, fillV, putL, w13, v13, R.2.1, FA, L]
  have hos := fun k => outS_len x.src x.to (B.take k) (cur, x.fr)
  refine SW_loop_to 2 (fun E K => ∃ ov g, OwnT g K encReel 3 ov (withoutS x B cur).1 ∧ h.size ≤ g ∧ (g < H2.size ∨ H4.size ≤ g) ∧ Mine H2.size H4.size K encReel 3 tb B ∧
    Mine H2.size H4.size K encReel 3 ta A ∧ Ext h K ∧ H4.size ≤ K.size ∧ ∃ t, E = (5, ov) :: (6, ta) :: (7, tb) :: (8, .int .i64 (i : Int)) :: (9, .int .i64 (withoutS x B cur).2) :: t) ?_ ?_
  · refine SW_loop_up (fun k E K => ∃ ov g, OwnT g K encReel 3 ov (withoutS x (B.take k) cur).1 ∧ h.size ≤ g ∧ (g < H2.size ∨ H4.size ≤ g) ∧ Mine H2.size H4.size K encReel 3 tb B ∧
      Mine H2.size H4.size K encReel 3 ta A ∧ Ext h K ∧ H4.size ≤ K.size ∧ E = [(5, ov), (6, ta), (7, tb), (8, .int .i64 (i : Int)), (9, .int .i64 (withoutS x (B.take k) cur).2), (10, .int .i64 (k : Int))]) B.length 0 (by omega) ?_ ?_
    · exact ⟨ov, g, O, g1, g2, Mb, Ma, EK, hK, rfl⟩
    clear O g1 g2 Mb Ma EK hK L R FA
    rintro k E K hk ⟨ov, g, O, g1, g2, Mb, Ma, EK, hK, rfl⟩
    have Q := Mb.slt.rulesN
    have R := Ma.slt.rulesN
    have FA := R.2.2.1
    have FB := Q.2.2.1
    have L := ldx Ma.slt
    simp (maxSteps := 4000000) (disch := omega) only [ah, am, Nat.reduceEqDiff, reduceCtorEq, Nat.reduceAdd, Nat.reduceLeDiff, Nat.reduceMul, Nat.reduceLT, if_true, if_false, true_and, and_true, and_self, Nat.reduceBEq, QOp.loads, boxO, bslO, buildO, cutL, fillV, putL, w13, v13, Q.1]
    refine stepI.split (fun hp => ?_) (fun hp => ?_)
    rotate_left
    · simp (maxSteps := 4000000) (disch := omega) only [ah, am, Nat.reduceEqDiff, reduceCtorEq, Nat.reduceAdd, Nat.reduceLeDiff, Nat.reduceMul, Nat.reduceLT, if_true, if_false, true_and, and_true, and_self, Nat.reduceBEq, QOp.loads, boxO, bslO, buildO, cutL, fillV, putL, w13, v13]
      have : k = B.length := by omega
      subst this
      rw [List.take_length] at O ⊢
      exact ⟨ov, g, O, g1, g2, Mb, Ma, EK, hK, _, rfl⟩
    have hk2 : k < B.length := by omega
    have Wk : IntKind.i64.wrap ((k : Int) + 1) = ((k + 1 : Nat) : Int) := i64e (by omega) (by omega)
    obtain ⟨y, hy⟩ : ∃ y, y = B[k]'hk2 := ⟨_, rfl⟩
    have hl := hos k
    simp only [List.length_take] at hl
    have e : withoutS x (B.take (k + 1)) cur = outStep x.src x.to (withoutS x (B.take k) cur) y := by
      unfold withoutS; rw [List.take_add_one, List.getElem?_eq_getElem hk2, Option.toList_some, List.foldl_append, hy]; rfl
    rw [e]
    change (withoutS x (B.take k) cur).1.length ≤ _ at hl
    generalize withoutS x (B.take k) cur = st at O hl ⊢
    obtain ⟨out, f⟩ := st
    simp only at O hl ⊢
    have L2 : ldV K (ptrAt tb (k * 3)) = some (.int .i64 y.src) ∧ ldV K (ptrAt tb (k * 3 + 1)) = some (.int .i64 y.fr) ∧ ldV K (ptrAt tb (k * 3 + 2)) = some (.int .i64 y.to) := by
      rw [hy]; exact ⟨Q.2.2.2.2.1 k hk2, Q.2.2.2.1 k 1 hk2 (by omega), Q.2.2.2.1 k 2 hk2 (by omega)⟩
    by_cases h1 : y.src = x.src
    rotate_left
    · rw [show outStep x.src x.to (out, f) y = (out, f) from if_pos (Or.inl h1)]
      simp (maxSteps := 4000000) (disch := omega) only [ah, am, Nat.reduceEqDiff, reduceCtorEq, Nat.reduceAdd, Nat.reduceLeDiff, Nat.reduceMul, Nat.reduceLT, if_true, if_false, true_and, and_true, and_self, Nat.reduceBEq, QOp.loads, boxO, bslO, buildO, cutL, fillV, putL, w13, v13, R.2.1, Q.2.1, FA, FB, L, L2, decide_eq_false h1, Bool.not_false, Wk]
      exact ⟨hk2, ov, g, O, g1, g2, Mb, Ma, EK, hK, rfl⟩
    by_cases h2 : y.to ≤ f
    · rw [show outStep x.src x.to (out, f) y = (out, f) from if_pos (Or.inr (Or.inl h2))]
      simp (maxSteps := 4000000) (disch := omega) only [ah, am, Nat.reduceEqDiff, reduceCtorEq, Nat.reduceAdd, Nat.reduceLeDiff, Nat.reduceMul, Nat.reduceLT, if_true, if_false, true_and, and_true, and_self, Nat.reduceBEq, QOp.loads, boxO, bslO, buildO, cutL, fillV, putL, w13, v13, R.2.1, Q.2.1, FA, FB, L, L2, decide_eq_true h1, decide_eq_true h2, Bool.not_true, Wk]
      exact ⟨hk2, ov, g, O, g1, g2, Mb, Ma, EK, hK, rfl⟩
    by_cases h3 : x.to ≤ y.fr
    · rw [show outStep x.src x.to (out, f) y = (out, f) from if_pos (Or.inr (Or.inr h3))]
      simp (maxSteps := 4000000) (disch := omega) only [ah, am, Nat.reduceEqDiff, reduceCtorEq, Nat.reduceAdd, Nat.reduceLeDiff, Nat.reduceMul, Nat.reduceLT, if_true, if_false, true_and, and_true, and_self, Nat.reduceBEq, QOp.loads, boxO, bslO, buildO, cutL, fillV, putL, w13, v13, R.2.1, Q.2.1, FA, FB, L, L2, decide_eq_true h1, decide_eq_false h2, decide_eq_true h3, Bool.not_true, Wk]
      exact ⟨hk2, ov, g, O, g1, g2, Mb, Ma, EK, hK, rfl⟩
    rw [show outStep x.src x.to (out, f) y = ((if f < y.fr then out ++ [⟨x.src, f, y.fr⟩] else out), y.to) from if_neg (fun q => by rcases q with q | q | q; exact q h1; exact h2 q; exact h3 q)]
    by_cases h4 : f < y.fr
    · rw [if_pos h4]
      obtain ⟨v2, K3, g3, ea, O3, G3, hg3⟩ := app1 ⟨x.src, f, y.fr⟩ O (by omega)
      obtain ⟨k1, k2, k3, k4, k5, k6⟩ := keep O g1 g2 Mb Ma EK hK (Ext.more K [encReel ⟨x.src, f, y.fr⟩]) G3 hg3
      have Q3 := k3.slt.rulesN
      have FB3 := Q3.2.2.1
      have L3 : ldV K3 (ptrAt tb (k * 3 + 2)) = some (.int .i64 y.to) := by rw [hy]; exact Q3.2.2.2.1 k 2 hk2 (by omega)
      simp only [encReel] at ea
      simp (maxSteps := 4000000) (disch := omega) only [ah, am, Nat.reduceEqDiff, reduceCtorEq, Nat.reduceAdd, Nat.reduceLeDiff, Nat.reduceMul, Nat.reduceLT, if_true, if_false, true_and, and_true, and_self, Nat.reduceBEq, QOp.loads, boxO, bslO, buildO, cutL, fillV, putL, w13, v13, R.2.1, Q.2.1, FA, FB, L, L2, decide_eq_true h1, decide_eq_false h2, decide_eq_false h3, decide_eq_true h4, Bool.not_true, ea, Q3.2.1, L3, Wk]
      exact ⟨hk2, v2, g3, O3, k1, k2, k3, k4, k5, k6, rfl⟩
    · rw [if_neg h4]
      simp (maxSteps := 4000000) (disch := omega) only [ah, am, Nat.reduceEqDiff, reduceCtorEq, Nat.reduceAdd, Nat.reduceLeDiff, Nat.reduceMul, Nat.reduceLT, if_true, if_false, true_and, and_true, and_self, Nat.reduceBEq, QOp.loads, boxO, bslO, buildO, cutL, fillV, putL, w13, v13, R.2.1, Q.2.1, FA, FB, L, L2, decide_eq_true h1, decide_eq_false h2, decide_eq_false h3, decide_eq_false h4, Bool.not_true, Wk]
      exact ⟨hk2, ov, g, O, g1, g2, Mb, Ma, EK, hK, rfl⟩
  · clear O g1 g2 Mb Ma EK hK L R FA
    rintro E K ⟨ov, g, O, g1, g2, Mb, Ma, EK, hK, t, rfl⟩
    have R := Ma.slt.rulesN
    have FA := R.2.2.1
    have L := ldx Ma.slt
    have hl := hos B.length
    rw [List.take_length] at hl
    change (withoutS x B cur).1.length ≤ _ at hl
    rw [show withoutF x B cur = if (withoutS x B cur).2 < x.to then (withoutS x B cur).1 ++ [⟨x.src, (withoutS x B cur).2, x.to⟩] else (withoutS x B cur).1 from rfl]
    generalize withoutS x B cur = st at O hl ⊢
    obtain ⟨out, f⟩ := st
    simp only at O hl ⊢
    by_cases h5 : f < x.to
    · rw [if_pos h5]
      obtain ⟨v2, K3, g3, ea, O3, G3, hg3⟩ := app1 ⟨x.src, f, x.to⟩ O (by omega)
      obtain ⟨k1, k2, k3, k4, k5, k6⟩ := keep O g1 g2 Mb Ma EK hK (Ext.more K [encReel ⟨x.src, f, x.to⟩]) G3 hg3
      simp only [encReel] at ea
      simp (maxSteps := 4000000) (disch := omega) only [ah, am, Nat.reduceEqDiff, reduceCtorEq, Nat.reduceAdd, Nat.reduceLeDiff, Nat.reduceMul, Nat.reduceLT, if_true, if_false, true_and, and_true, and_self, Nat.reduceBEq, QOp.loads, boxO, bslO, buildO, cutL, fillV, putL, w13, v13, R.2.1, FA, L, decide_eq_true h5, ea, W]
      exact ⟨hi2, v2, g3, O3, k1, k2, k3, k4, k5, k6, rfl⟩
    · rw [if_neg h5]
      simp (maxSteps := 4000000) (disch := omega) only [ah, am, Nat.reduceEqDiff, reduceCtorEq, Nat.reduceAdd, Nat.reduceLeDiff, Nat.reduceMul, Nat.reduceLT, if_true, if_false, true_and, and_true, and_self, Nat.reduceBEq, QOp.loads, boxO, bslO, buildO, cutL, fillV, putL, w13, v13, R.2.1, FA, L, decide_eq_false h5, W]
      exact ⟨hi2, ov, g, O, g1, g2, Mb, Ma, EK, hK, rfl⟩
end Go.Proofs.Ytmippcfdakjhfaa
