import Derived.Test.YtknpombiomnkbaaD4
namespace Go.Proofs.Ytknpombiomnkbaa
open Go Go.Ah
set_option linter.unusedSimpArgs false
set_option linter.unusedVariables false
set_option maxRecDepth 10000
set_option maxHeartbeats 4000000
theorem DrawReverse_ok (h : Heap) (v : Value) (code : List Int) (s : SlT h encByte 1 v code) (hl : code.length ≤ 4096) :
    ACall Try.prog 17 [v] h fun r h' => ∃ l, Fresh h h' encClip 3 r l ∧ l.length ≤ 302 := by
  refine ACall.of Try.func17 s17 (of_decide_eq_true rfl) ?_
  simp (maxSteps := 4000000) (disch := omega) only [ah, am, Nat.reduceEqDiff, reduceCtorEq, Nat.reduceAdd, Nat.reduceLeDiff, Nat.reduceMul, Nat.reduceLT, if_true, if_false, true_and, and_true, and_self, Nat.reduceBEq, QOp.loads, boxO, bslO, buildO, cutL, fillV, putL, w17, v17]
  refine stepC.of (l1New_ok _ _ _ s hl) ?_
  rintro _ H1 ⟨e1, rfl, k1⟩
  have hc := k1.lt
  have hm : h.size ∈ [h.size] := by simp
  simp (maxSteps := 4000000) (disch := omega) only [ah, am, Nat.reduceEqDiff, reduceCtorEq, Nat.reduceAdd, Nat.reduceLeDiff, Nat.reduceMul, Nat.reduceLT, if_true, if_false, true_and, and_true, and_self, Nat.reduceBEq, QOp.loads, boxO, bslO, buildO, cutL, fillV, putL, w17, v17]
  refine stepC.of (l4DrawTrack_ok _ _ k1) ?_
  rintro tv H2 ⟨l, F, k, D⟩
  have hD := D.2
  simp (maxSteps := 4000000) (disch := omega) only [ah, am, Nat.reduceEqDiff, reduceCtorEq, Nat.reduceAdd, Nat.reduceLeDiff, Nat.reduceMul, Nat.reduceLT, if_true, if_false, true_and, and_true, and_self, Nat.reduceBEq, QOp.loads, boxO, bslO, buildO, cutL, fillV, putL, w17, v17]
  refine stepC.of (l1Once_ok _ _ _ k) ?_
  rintro _ H3 ⟨b, rfl, g, k⟩
  have F := F.stepG g hm hc
  cases b with
  | false =>
    simp (maxSteps := 4000000) (disch := omega) only [ah, am, Nat.reduceEqDiff, reduceCtorEq, Nat.reduceAdd, Nat.reduceLeDiff, Nat.reduceMul, Nat.reduceLT, if_true, if_false, true_and, and_true, and_self, Nat.reduceBEq, QOp.loads, boxO, bslO, buildO, cutL, fillV, putL, w17, v17]
    exact ⟨l, F.out' e1 (Nat.le_refl _), by omega⟩
  | true =>
    have hc2 := k.lt
    have F := F.step (Ext.more H3 [[.int .i64 2000, .int .i64 250, .int .i64 280, .int .i64 299, .int .i64 300]])
    simp (maxSteps := 4000000) (disch := omega) only [ah, am, Nat.reduceEqDiff, reduceCtorEq, Nat.reduceAdd, Nat.reduceLeDiff, Nat.reduceMul, Nat.reduceLT, if_true, if_false, true_and, and_true, and_self, Nat.reduceBEq, QOp.loads, boxO, bslO, buildO, cutL, fillV, putL, w17, v17]
    refine stepC.of (l1Below_ok _ _ _ (k.ext (Ext.more H3 _))) ?_
    rintro _ H4 ⟨z, rfl, z1, z2, _, g, k⟩
    have F := F.stepG g hm hc
    have z3 : z < 5 := z2 (by omega)
    obtain ⟨w, hw⟩ := pick_lits g hc2 z1 (by simpa using z3) rfl
    obtain ⟨v2, H5, ea, F5⟩ := F.app1 [] ⟨2, 0, w⟩ (bytes := 24) (by omega)
    simp only [boxesAt, List.cons_append, List.append_nil, List.nil_append, List.length_nil, List.length_cons, Nat.zero_add, Nat.add_zero, encClip] at ea
    simp (maxSteps := 4000000) (disch := omega) only [ah, am, Nat.reduceEqDiff, reduceCtorEq, Nat.reduceAdd, Nat.reduceLeDiff, Nat.reduceMul, Nat.reduceLT, if_true, if_false, true_and, and_true, and_self, Nat.reduceBEq, QOp.loads, boxO, bslO, buildO, cutL, fillV, putL, w17, v17, Nat.mul_one, hw, ea]
    exact ⟨l ++ [⟨2, 0, w⟩], F5.out' e1 (Nat.le_refl _), by simp; omega⟩
theorem DrawExtract_ok (h : Heap) (v : Value) (code : List Int) (s : SlT h encByte 1 v code) (hl : code.length ≤ 4096) :
    ACall Try.prog 76 [v] h fun r h' => ∃ tv l, ∃ a n : Int, r = .tuple #[tv, .int .i64 a, .int .i64 n] ∧ Fresh h h' encClip 3 tv l ∧ l.length ≤ 302 := by
  refine ACall.of Try.func76 s76 (of_decide_eq_true rfl) ?_
  simp (maxSteps := 4000000) (disch := omega) only [ah, am, Nat.reduceEqDiff, reduceCtorEq, Nat.reduceAdd, Nat.reduceLeDiff, Nat.reduceMul, Nat.reduceLT, if_true, if_false, true_and, and_true, and_self, Nat.reduceBEq, QOp.loads, boxO, bslO, buildO, cutL, fillV, putL, w76, v76]
  refine stepC.of (l1New_ok _ _ _ s hl) ?_
  rintro _ H1 ⟨e1, rfl, k1⟩
  have hc := k1.lt
  have hm : h.size ∈ [h.size] := by simp
  simp (maxSteps := 4000000) (disch := omega) only [ah, am, Nat.reduceEqDiff, reduceCtorEq, Nat.reduceAdd, Nat.reduceLeDiff, Nat.reduceMul, Nat.reduceLT, if_true, if_false, true_and, and_true, and_self, Nat.reduceBEq, QOp.loads, boxO, bslO, buildO, cutL, fillV, putL, w76, v76]
  refine stepC.of (l4DrawTrack_ok _ _ k1) ?_
  rintro tv H2 ⟨l, F, k, D⟩
  have hD := D.2
  simp (maxSteps := 4000000) (disch := omega) only [ah, am, Nat.reduceEqDiff, reduceCtorEq, Nat.reduceAdd, Nat.reduceLeDiff, Nat.reduceMul, Nat.reduceLT, if_true, if_false, true_and, and_true, and_self, Nat.reduceBEq, QOp.loads, boxO, bslO, buildO, cutL, fillV, putL, w76, v76]
  refine stepC.of (l4DrawAt_ok _ _ _ l F hc k (by omega)) ?_
  rintro _ H3 ⟨a, rfl, g, k⟩
  have F := F.stepG g hm hc
  simp (maxSteps := 4000000) (disch := omega) only [ah, am, Nat.reduceEqDiff, reduceCtorEq, Nat.reduceAdd, Nat.reduceLeDiff, Nat.reduceMul, Nat.reduceLT, if_true, if_false, true_and, and_true, and_self, Nat.reduceBEq, QOp.loads, boxO, bslO, buildO, cutL, fillV, putL, w76, v76]
  refine stepC.of (l1Below_ok _ _ _ k) ?_
  rintro _ H4 ⟨x, rfl, _, _, _, g, k⟩
  have F := F.stepG g hm hc
  simp (maxSteps := 4000000) (disch := omega) only [ah, am, Nat.reduceEqDiff, reduceCtorEq, Nat.reduceAdd, Nat.reduceLeDiff, Nat.reduceMul, Nat.reduceLT, if_true, if_false, true_and, and_true, and_self, Nat.reduceBEq, QOp.loads, boxO, bslO, buildO, cutL, fillV, putL, w76, v76]
  refine stepC.of (l1Once_ok _ _ _ k) ?_
  rintro _ H5 ⟨b, rfl, g, k⟩
  have F := F.stepG g hm hc
  cases b with
  | false =>
    simp (maxSteps := 4000000) (disch := omega) only [ah, am, Nat.reduceEqDiff, reduceCtorEq, Nat.reduceAdd, Nat.reduceLeDiff, Nat.reduceMul, Nat.reduceLT, if_true, if_false, true_and, and_true, and_self, Nat.reduceBEq, QOp.loads, boxO, bslO, buildO, cutL, fillV, putL, w76, v76]
    exact ⟨_, l, _, _, rfl, F.out' e1 (Nat.le_refl _), by omega⟩
  | true =>
    have hc2 := k.lt
    have F := F.step (Ext.more H5 [[.int .i64 0, .int .i64 (-1), .int .i64 4611686018427387904, .int .i64 10000000]])
    simp (maxSteps := 4000000) (disch := omega) only [ah, am, Nat.reduceEqDiff, reduceCtorEq, Nat.reduceAdd, Nat.reduceLeDiff, Nat.reduceMul, Nat.reduceLT, if_true, if_false, true_and, and_true, and_self, Nat.reduceBEq, QOp.loads, boxO, bslO, buildO, cutL, fillV, putL, w76, v76]
    refine stepC.of (l1Below_ok _ _ _ (k.ext (Ext.more H5 _))) ?_
    rintro _ H6 ⟨z, rfl, z1, z2, _, g, k⟩
    have F := F.stepG g hm hc
    have z3 : z < 4 := z2 (by omega)
    obtain ⟨w, hw⟩ := pick_lits g hc2 z1 (by simpa using z3) rfl
    simp (maxSteps := 4000000) (disch := omega) only [ah, am, Nat.reduceEqDiff, reduceCtorEq, Nat.reduceAdd, Nat.reduceLeDiff, Nat.reduceMul, Nat.reduceLT, if_true, if_false, true_and, and_true, and_self, Nat.reduceBEq, QOp.loads, boxO, bslO, buildO, cutL, fillV, putL, w76, v76, Nat.mul_one, hw]
    exact ⟨_, l, _, _, rfl, F.out' e1 (Nat.le_refl _), by omega⟩
theorem DrawLift_ok (h : Heap) (v : Value) (code : List Int) (s : SlT h encByte 1 v code) (hl : code.length ≤ 4096) :
    ACall Try.prog 28 [v] h fun r h' => ∃ tv l, ∃ a n : Int, r = .tuple #[tv, .int .i64 a, .int .i64 n] ∧ Fresh h h' encClip 3 tv l ∧ l.length ≤ 302 := by
  refine ACall.of Try.func28 s28 (of_decide_eq_true rfl) ?_
  simp (maxSteps := 4000000) (disch := omega) only [ah, am, Nat.reduceEqDiff, reduceCtorEq, Nat.reduceAdd, Nat.reduceLeDiff, Nat.reduceMul, Nat.reduceLT, if_true, if_false, true_and, and_true, and_self, Nat.reduceBEq, QOp.loads, boxO, bslO, buildO, cutL, fillV, putL, w28, v28]
  refine stepC.of (DrawExtract_ok _ _ _ s hl) ?_
  rintro _ H1 ⟨tv, l, a, n, rfl, F, D⟩
  simp (maxSteps := 4000000) (disch := omega) only [ah, am, Nat.reduceEqDiff, reduceCtorEq, Nat.reduceAdd, Nat.reduceLeDiff, Nat.reduceMul, Nat.reduceLT, if_true, if_false, true_and, and_true, and_self, Nat.reduceBEq, QOp.loads, boxO, bslO, buildO, cutL, fillV, putL, w28, v28]
  exact ⟨tv, l, a, n, rfl, F, D⟩
theorem DrawInsert_ok (h : Heap) (v : Value) (code : List Int) (s : SlT h encByte 1 v code) (hl : code.length ≤ 4096) :
    ACall Try.prog 31 [v] h fun r h' => ∃ tv l, ∃ a : Int, ∃ k : Clip, r = .tuple #[tv, .int .i64 a, .agg (encClip k).toArray] ∧ Fresh h h' encClip 3 tv l ∧ l.length ≤ 302 := by
  refine ACall.of Try.func31 s31 (of_decide_eq_true rfl) ?_
  simp (maxSteps := 4000000) (disch := omega) only [ah, am, Nat.reduceEqDiff, reduceCtorEq, Nat.reduceAdd, Nat.reduceLeDiff, Nat.reduceMul, Nat.reduceLT, if_true, if_false, true_and, and_true, and_self, Nat.reduceBEq, QOp.loads, boxO, bslO, buildO, cutL, fillV, putL, w31, v31]
  have e0 := Ext.more h [[.int .i64 0, .int .i64 0, .int .i64 0]]
  refine stepC.of (l1New_ok _ _ _ (s.ext e0) hl) ?_
  rintro _ H1 ⟨e1, rfl, k1⟩
  rw [size_more] at k1
  have hc := k1.lt
  simp only [List.length_cons, List.length_nil, Nat.zero_add] at hc k1
  have hm : h.size + 1 ∈ [h.size + 1] := by simp
  have b0 := (Bx.new h [.int .i64 0, .int .i64 0, .int .i64 0] []).ext e1
  simp (maxSteps := 4000000) (disch := omega) only [ah, am, Nat.reduceEqDiff, reduceCtorEq, Nat.reduceAdd, Nat.reduceLeDiff, Nat.reduceMul, Nat.reduceLT, if_true, if_false, true_and, and_true, and_self, Nat.reduceBEq, QOp.loads, boxO, bslO, buildO, cutL, fillV, putL, w31, v31]
  refine stepC.of (l4DrawTrack_ok _ _ k1) ?_
  rintro tv H2 ⟨l, F, k, D⟩
  have hD := D.2
  have b0 : Bx H2 h.size [.int .i64 0, .int .i64 0, .int .i64 0] := by
    unfold Bx at b0 ⊢
    exact F.ext.2 _ _ b0 (by simp)
  simp (maxSteps := 4000000) (disch := omega) only [ah, am, Nat.reduceEqDiff, reduceCtorEq, Nat.reduceAdd, Nat.reduceLeDiff, Nat.reduceMul, Nat.reduceLT, if_true, if_false, true_and, and_true, and_self, Nat.reduceBEq, QOp.loads, boxO, bslO, buildO, cutL, fillV, putL, w31, v31]
  refine stepC.of (l4DrawClip_ok _ _ k) ?_
  rintro _ H3 ⟨a, rfl, da, g, k⟩
  have F := F.stepG g hm hc
  have b0 := b0.step g (by omega)
  have bk := Bx.new H3 (encClip a) []
  have F4 := F.step (Ext.more H3 [encClip a])
  have k4 := k.ext (Ext.more H3 [encClip a])
  have la := l4DrawAt_ok _ _ _ l F4 hc k4 (by omega)
  simp only [encClip] at la
  simp (maxSteps := 4000000) (disch := omega) only [ah, am, Nat.reduceEqDiff, reduceCtorEq, Nat.reduceAdd, Nat.reduceLeDiff, Nat.reduceMul, Nat.reduceLT, if_true, if_false, true_and, and_true, and_self, Nat.reduceBEq, QOp.loads, boxO, bslO, buildO, cutL, fillV, putL, w31, v31, encClip]
  refine stepC.of la ?_
  rintro _ H4 ⟨x, rfl, g4, k⟩
  have h3 := k.lt
  have h3' := k4.lt
  rw [size_more] at h3'
  have b0 := (b0.ext (Ext.more H3 [encClip a])).step g4 (by omega)
  have hcl : h.size + 1 < H3.size := by
    have := F.ext.1; omega
  have bk := bk.step g4 (by omega)
  have X := bk.ld
  simp only [encClip] at X
  obtain ⟨H5, es, b5, g5⟩ := b0.put (o := 0) (n := 3) (y := .agg [.int .i64 a.src, .int .i64 a.inn, .int .i64 a.len].toArray) rfl (by simp) rfl
  have X5 := b5.ld
  simp only [splice, cells_agg, List.take_zero, List.nil_append, List.length_cons, List.length_nil, Nat.zero_add, Nat.reduceAdd, List.drop_succ_cons, List.drop_zero, List.append_nil, List.drop_nil] at X5
  have F5 := F4.stepG g4 hm hc
  simp (maxSteps := 4000000) (disch := omega) only [ah, am, Nat.reduceEqDiff, reduceCtorEq, Nat.reduceAdd, Nat.reduceLeDiff, Nat.reduceMul, Nat.reduceLT, if_true, if_false, true_and, and_true, and_self, Nat.reduceBEq, QOp.loads, boxO, bslO, buildO, cutL, fillV, putL, w31, v31, X, es, X5, encClip]
  refine ⟨tv, l, x, a, rfl, ?_, by omega⟩
  have E4 := (F5.out' (e0.trans e1) (by omega)).1
  have E5 := g5.ext E4 (Nat.le_refl _)
  obtain ⟨g6, q1, q2, _⟩ := F5.own
  have hs := e1.1
  rw [size_more] at hs
  simp only [List.length_cons, List.length_nil, Nat.zero_add] at hs
  exact ⟨E5, g6, by omega, q2.extG g5 (by omega)⟩
theorem DrawOverwrite_ok (h : Heap) (v : Value) (code : List Int) (s : SlT h encByte 1 v code) (hl : code.length ≤ 4096) :
    ACall Try.prog 21 [v] h fun r h' => ∃ tv l, ∃ a : Int, ∃ k : Clip, r = .tuple #[tv, .int .i64 a, .agg (encClip k).toArray] ∧ Fresh h h' encClip 3 tv l ∧ l.length ≤ 302 := by
  refine ACall.of Try.func21 s21 (of_decide_eq_true rfl) ?_
  simp (maxSteps := 4000000) (disch := omega) only [ah, am, Nat.reduceEqDiff, reduceCtorEq, Nat.reduceAdd, Nat.reduceLeDiff, Nat.reduceMul, Nat.reduceLT, if_true, if_false, true_and, and_true, and_self, Nat.reduceBEq, QOp.loads, boxO, bslO, buildO, cutL, fillV, putL, w21, v21]
  have e0 := Ext.more h [[.int .i64 0, .int .i64 0, .int .i64 0]]
  have b0 := Bx.new h [.int .i64 0, .int .i64 0, .int .i64 0] []
  refine stepC.of (DrawInsert_ok _ _ _ (s.ext e0) hl) ?_
  rintro _ H1 ⟨tv, l, a, k, rfl, F, D⟩
  have b1 := b0.ext F.1
  obtain ⟨H5, es, b5, g5⟩ := b1.put (o := 0) (n := 3) (y := .agg (encClip k).toArray) rfl (by simp) rfl
  have X5 := b5.ld
  simp only [encClip] at es
  simp only [encClip, splice, cells_agg, List.take_zero, List.nil_append, List.length_cons, List.length_nil, Nat.zero_add, Nat.reduceAdd, List.drop_succ_cons, List.drop_zero, List.append_nil, List.drop_nil] at X5
  simp (maxSteps := 4000000) (disch := omega) only [ah, am, Nat.reduceEqDiff, reduceCtorEq, Nat.reduceAdd, Nat.reduceLeDiff, Nat.reduceMul, Nat.reduceLT, if_true, if_false, true_and, and_true, and_self, Nat.reduceBEq, QOp.loads, boxO, bslO, buildO, cutL, fillV, putL, w21, v21, es, X5, encClip]
  refine ⟨tv, l, a, k, rfl, ?_, D⟩
  have E1 := e0.trans F.1
  have E5 := g5.ext E1 (Nat.le_refl _)
  obtain ⟨_, g6, q1, q2⟩ := F
  rw [size_more] at q1
  simp only [List.length_cons, List.length_nil, Nat.zero_add] at q1
  exact ⟨E5, g6, by omega, q2.extG g5 (by omega)⟩
end Go.Proofs.Ytknpombiomnkbaa
