import Derived.Test.YtknpombiomnkbaaI13
namespace Go.Proofs.Ytknpombiomnkbaa
open Go Go.Ah
set_option linter.unusedSimpArgs false
set_option linter.unusedVariables false
set_option maxRecDepth 10000
set_option maxHeartbeats 4000000
theorem editFI'' (l : List Clip) (h : ∀ k ∈ l, clipOk k) : editI [l].flatten = editF l := by
  rw [List.flatten_cons, List.flatten_nil, List.append_nil]
  unfold editI editF
  by_cases hj : trackOk (join l)
  · rw [if_pos hj, if_pos ⟨h, hj⟩]
  · rw [if_neg hj, if_neg fun q => hj q.2]
theorem Retime_ok (h : Heap) (v : Value) (l : List Key) (src n : Int) (s : SlT h encKey 2 v l) (hl : l.length ≤ 1100000) :
    ACall Try.prog 25 [v, .int .i64 src, .int .i64 n] h fun r h' => Pair h h' r (retF l src n) := by
  refine ACall.of Try.func25 s25 (of_decide_eq_true rfl) ?_
  simp (maxSteps := 4000000) (disch := omega) only [ah, am, Nat.reduceEqDiff, reduceCtorEq, Nat.reduceAdd, Nat.reduceLeDiff, Nat.reduceMul, Nat.reduceLT, if_true, if_false, true_and, and_true, and_self, Nat.reduceBEq, QOp.loads, boxO, bslO, buildO, cutL, fillV, putL, w25, v25]
  refine stepC.of (KeysOk_ok _ _ _ s (by omega)) ?_
  rintro _ H1 ⟨e1, rfl⟩
  by_cases hc : retOk l src n
  · have hT : retF l src n = editF (retL l src n) := if_pos hc
    obtain ⟨hk, hs, hn⟩ := hc
    simp only [hk, hs, hn, decide_true, and_self]
    simp (maxSteps := 4000000) (disch := omega) only [ah, am, Nat.reduceEqDiff, reduceCtorEq, Nat.reduceAdd, Nat.reduceLeDiff, Nat.reduceMul, Nat.reduceLT, if_true, if_false, true_and, and_true, and_self, Nat.reduceBEq, QOp.loads, boxO, bslO, buildO, cutL, fillV, putL, w25, v25]
    refine stepC.of (in_ok _ _ _ _) ?_
    rintro _ Hx ⟨hx, rfl⟩; rw [hx]; clear hx Hx
    simp (maxSteps := 4000000) (disch := omega) only [ah, am, Nat.reduceEqDiff, reduceCtorEq, Nat.reduceAdd, Nat.reduceLeDiff, Nat.reduceMul, Nat.reduceLT, if_true, if_false, true_and, and_true, and_self, Nat.reduceBEq, QOp.loads, boxO, bslO, buildO, cutL, fillV, putL, w25, v25, hs]
    refine stepC.of (in_ok _ _ _ _) ?_
    rintro _ Hx ⟨hx, rfl⟩; rw [hx]; clear hx Hx
    simp (maxSteps := 4000000) (disch := omega) only [ah, am, Nat.reduceEqDiff, reduceCtorEq, Nat.reduceAdd, Nat.reduceLeDiff, Nat.reduceMul, Nat.reduceLT, if_true, if_false, true_and, and_true, and_self, Nat.reduceBEq, QOp.loads, boxO, bslO, buildO, cutL, fillV, putL, w25, v25, hn]
    refine SW_loop_up (fun i E H => ∃ ov, E = [(0, v), (1, .int .i64 src), (8, ov), (28, .int .i64 n), (29, .int .i64 i)] ∧ Fresh H1 H encClip 3 ov ((List.range i).map (retC l src)) ∧ ∀ j, j < i → clipOk (retC l src j)) n.toNat 0 (by omega)
      ⟨.slice (some ⟨H1.size, 0, none⟩) 0 3, by simp, by simpa using Fresh.new0 H1 encClip_len (by omega), fun j hj => absurd hj (by omega)⟩ ?_
    rintro i E H hi ⟨ov, rfl, F, A⟩
    have W : IntKind.i64.wrap ((i : Int) + 1) = ((i + 1 : Nat) : Int) := i64e (by omega) (by omega)
    simp (maxSteps := 4000000) (disch := omega) only [ah, am, Nat.reduceEqDiff, reduceCtorEq, Nat.reduceAdd, Nat.reduceLeDiff, Nat.reduceMul, Nat.reduceLT, if_true, if_false, true_and, and_true, and_self, Nat.reduceBEq, QOp.loads, boxO, bslO, buildO, cutL, fillV, putL, w25, v25]
    refine stepI.split (fun hp => ?_) (fun hp => ?_)
    · simp (maxSteps := 4000000) (disch := omega) only [ah, am, Nat.reduceEqDiff, reduceCtorEq, Nat.reduceAdd, Nat.reduceLeDiff, Nat.reduceMul, Nat.reduceLT, if_true, if_false, true_and, and_true, and_self, Nat.reduceBEq, QOp.loads, boxO, bslO, buildO, cutL, fillV, putL, w25, v25]
      refine stepC.of (between_ok _ _ _ _ (s.ext (e1.trans F.1)) hk (by omega)) ?_
      rintro _ H2 ⟨e2, a, b, rfl⟩
      have ok1 := ok_ok (H2.more [encClip (retC l src i)]) (retC l src i)
      simp only [encClip, retC] at ok1
      simp (maxSteps := 4000000) (disch := omega) only [ah, am, Nat.reduceEqDiff, reduceCtorEq, Nat.reduceAdd, Nat.reduceLeDiff, Nat.reduceMul, Nat.reduceLT, if_true, if_false, true_and, and_true, and_self, Nat.reduceBEq, QOp.loads, boxO, bslO, buildO, cutL, fillV, putL, w25, v25]
      refine stepC.of ok1 ?_
      rintro _ H3 ⟨e3, rfl⟩
      have e4 : Ext H H3 := e2.trans ((Ext.more H2 _).trans e3)
      have X := e3.ld0
      simp (maxSteps := 4000000) (disch := omega) only [ah, am, Nat.reduceEqDiff, reduceCtorEq, Nat.reduceAdd, Nat.reduceLeDiff, Nat.reduceMul, Nat.reduceLT, if_true, if_false, true_and, and_true, and_self, Nat.reduceBEq, QOp.loads, boxO, bslO, buildO, cutL, fillV, putL, w25, v25]
      refine stepI.split (fun hq => ?_) (fun hq => ?_)
      · obtain ⟨v2, H4, ea, F4⟩ := (F.ext e4).app1 (retC l src i) (bytes := 24) (by simp; omega)
        simp only [encClip, retC] at ea
        simp (maxSteps := 4000000) (disch := omega) only [ah, am, Nat.reduceEqDiff, reduceCtorEq, Nat.reduceAdd, Nat.reduceLeDiff, Nat.reduceMul, Nat.reduceLT, if_true, if_false, true_and, and_true, and_self, Nat.reduceBEq, QOp.loads, boxO, bslO, buildO, cutL, fillV, putL, w25, v25, X, ea, W]
        refine ⟨by omega, _, rfl, ?_, fun j hj => ?_⟩
        · rw [List.range_succ, List.map_append]; exact F4
        · by_cases hji : j = i
          · subst hji; exact hq
          · exact A j (by omega)
      · simp (maxSteps := 4000000) (disch := omega) only [ah, am, Nat.reduceEqDiff, reduceCtorEq, Nat.reduceAdd, Nat.reduceLeDiff, Nat.reduceMul, Nat.reduceLT, if_true, if_false, true_and, and_true, and_self, Nat.reduceBEq, QOp.loads, boxO, bslO, buildO, cutL, fillV, putL, w25, v25]
        have hE : editF (retL l src n) = ([], false) := if_neg fun q => hq (q.1 (retC l src i) (by simp only [retL, List.mem_map, List.mem_range]; exact ⟨i, by omega, rfl⟩))
        rw [hT, hE]
        exact ⟨_, rfl, (Fresh.nil _ encClip_len (by omega)).mono (e1.trans (F.1.trans e4))⟩
    · simp (maxSteps := 4000000) (disch := omega) only [ah, am, Nat.reduceEqDiff, reduceCtorEq, Nat.reduceAdd, Nat.reduceLeDiff, Nat.reduceMul, Nat.reduceLT, if_true, if_false, true_and, and_true, and_self, Nat.reduceBEq, QOp.loads, boxO, bslO, buildO, cutL, fillV, putL, w25, v25]
      obtain rfl : i = n.toNat := by omega
      have A2 : ∀ k ∈ (List.range n.toNat).map (retC l src), clipOk k := by
        intro k hk
        simp only [List.mem_map, List.mem_range] at hk
        obtain ⟨j, hj, rfl⟩ := hk
        exact A j hj
      have o1 := one_slice _ _ _ F.slt
      have c1 := cells_sl F.slt
      simp (maxSteps := 4000000) (disch := omega) only [ah, am, Nat.reduceEqDiff, reduceCtorEq, Nat.reduceAdd, Nat.reduceLeDiff, Nat.reduceMul, Nat.reduceLT, if_true, if_false, true_and, and_true, and_self, Nat.reduceBEq, QOp.loads, boxO, bslO, buildO, cutL, fillV, putL, w25, v25, o1, c1, size_mk, List.reduceReplicate]
      refine stepC.of (edited_ok _ _ _ (Rows.one F.slt) (by simp) (by simp; omega) (fun k hk => (A2 k (by simpa using hk)).in)) ?_
      rintro _ H6 ⟨rv, rfl, F6⟩
      simp (maxSteps := 4000000) (disch := omega) only [ah, am, Nat.reduceEqDiff, reduceCtorEq, Nat.reduceAdd, Nat.reduceLeDiff, Nat.reduceMul, Nat.reduceLT, if_true, if_false, true_and, and_true, and_self, Nat.reduceBEq, QOp.loads, boxO, bslO, buildO, cutL, fillV, putL, w25, v25]
      rw [editFI'' _ A2] at F6 ⊢
      rw [hT]
      exact ⟨rv, rfl, F6.mono (e1.trans (F.1.trans (Ext.more _ _)))⟩
  · have hT : retF l src n = ([], false) := if_neg hc
    rw [hT]
    simp (maxSteps := 4000000) (disch := omega) only [ah, am, Nat.reduceEqDiff, reduceCtorEq, Nat.reduceAdd, Nat.reduceLeDiff, Nat.reduceMul, Nat.reduceLT, if_true, if_false, true_and, and_true, and_self, Nat.reduceBEq, QOp.loads, boxO, bslO, buildO, cutL, fillV, putL, w25, v25]
    (repeat' first
    | (refine stepC.of (in_ok _ _ _ _) ?_; rintro _ _ ⟨rfl, rfl⟩; simp (maxSteps := 4000000) (disch := omega) only [ah, am, Nat.reduceEqDiff, reduceCtorEq, Nat.reduceAdd, Nat.reduceLeDiff, Nat.reduceMul, Nat.reduceLT, if_true, if_false, true_and, and_true, and_self, Nat.reduceBEq, QOp.loads, boxO, bslO, buildO, cutL, fillV, putL, i64w, w25, v25])
    | (refine stepG.cases (fun _ hp => ?_) (fun _ hp => ?_) <;> simp (maxSteps := 4000000) (disch := omega) only [hp, ah, am, Nat.reduceEqDiff, reduceCtorEq, Nat.reduceAdd, Nat.reduceLeDiff, Nat.reduceMul, Nat.reduceLT, if_true, if_false, true_and, and_true, and_self, Nat.reduceBEq, QOp.loads, boxO, bslO, buildO, cutL, fillV, putL, i64w, w25, v25])
    | (refine stepI.cases (fun _ hp => ?_) (fun _ hp => ?_) <;> simp (maxSteps := 4000000) (disch := omega) only [hp, ah, am, Nat.reduceEqDiff, reduceCtorEq, Nat.reduceAdd, Nat.reduceLeDiff, Nat.reduceMul, Nat.reduceLT, if_true, if_false, true_and, and_true, and_self, Nat.reduceBEq, QOp.loads, boxO, bslO, buildO, cutL, fillV, putL, i64w, w25, v25]))
    all_goals first
      | exact ⟨_, rfl, (Fresh.nil _ encClip_len (by omega)).mono e1⟩
      | exact (hc ⟨by assumption, by assumption, by assumption⟩).elim
end Go.Proofs.Ytknpombiomnkbaa
