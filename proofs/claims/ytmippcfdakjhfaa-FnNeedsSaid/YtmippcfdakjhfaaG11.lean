import Derived.Test.YtmippcfdakjhfaaG10
namespace Go.Proofs.Ytmippcfdakjhfaa
open Go Go.Ah
set_option linter.unusedSimpArgs false
set_option linter.unusedVariables false
set_option maxRecDepth 10000
set_option maxHeartbeats 4000000
theorem Bx_own {α : Type} {K : Heap} {c : Nat} {cs : List Value} (b : Bx K c cs) {enc : α → List Value} {sz : Nat} (l : List α) (hs : ∀ x, (enc x).length = sz) (pos : 0 < sz) (hl : cs = l.flatMap enc) :
    OwnT c K enc sz (.slice (some ⟨c, 0, none⟩) l.length sz) l := by
  refine ⟨.inr ⟨c, 0, l.length, _, rfl, b, rfl, ?_, ?_, rfl, rfl⟩, hs, pos⟩
  · simp only; rw [hl, flat_len hs]; omega
  · simp only [List.drop_zero]; rw [hl, List.take_of_length_le]; rw [flat_len hs]; omega
theorem outS_len (src to : Int) : ∀ (b : List Reel) (st : List Reel × Int), (b.foldl (outStep src to) st).1.length ≤ st.1.length + b.length := by
  intro b
  induction b with
  | nil => intro st; simp
  | cons q b ih =>
    intro st
    have := ih (outStep src to st q)
    have h2 : (outStep src to st q).1.length ≤ st.1.length + 1 := by
      unfold outStep; split
      · omega
      · simp only; split <;> simp
    simp only [List.foldl_cons, List.length_cons]; omega
theorem without_ok (h : Heap) (v : Value) (b : List Reel) (r : Reel) (s : SlT h encReel 3 v b) (hb : b.length ≤ 100000) : ACall Try.prog 33 [.agg (encReel r).toArray, v] h fun x h' => Fresh h h' encReel 3 x (withoutF r b []) := by
  refine ACall.of Try.func33 s33 (of_decide_eq_true rfl) ?_
  have R := s.rulesN
  simp (maxSteps := 4000000) (disch := omega) only [ah, am, Nat.reduceEqDiff, reduceCtorEq, Nat.reduceAdd, Nat.reduceLeDiff, Nat.reduceMul, Nat.reduceLT, if_true, if_false, true_and, and_true, and_self, Nat.reduceBEq, QOp.loads, boxO, bslO, buildO, cutL, fillV, putL, w33, v33, encReel, R.1]
  have F0 : Fk [] h (h.more [[.int .i64 r.src, .int .i64 r.fr, .int .i64 r.to], []]) encReel 3 (.slice (some ⟨h.size + 1, 0, none⟩) 0 3) [] [(h.size, [.int .i64 r.src, .int .i64 r.fr, .int .i64 r.to])] := by
    have B0 : Bx (h.more [[.int .i64 r.src, .int .i64 r.fr, .int .i64 r.to], []]) h.size [.int .i64 r.src, .int .i64 r.fr, .int .i64 r.to] := Bx.new _ _ _
    have B1 : Bx (h.more [[.int .i64 r.src, .int .i64 r.fr, .int .i64 r.to], []]) (h.size + 1) [] := by unfold Bx; rw [get_more]; rfl
    refine ⟨(Ext.more h _).toX, ⟨h.size + 1, by omega, Bx_own B1 (enc := encReel) (sz := 3) [] encReel_len (by omega) rfl, fun p hp => ?_⟩, fun p hp => ?_⟩
    · rw [List.mem_singleton] at hp; subst hp; simp
    · rw [List.mem_singleton] at hp; subst hp; exact ⟨Nat.le_refl _, B0⟩
  have lenS : ∀ i, (withoutS r (b.take i) []).1.length ≤ b.length := fun i => by
    have := outS_len r.src r.to (b.take i) ([], r.fr)
    simp only [List.length_take, List.length_nil] at this
    unfold withoutS; omega
  generalize h.more [[.int .i64 r.src, .int .i64 r.fr, .int .i64 r.to], []] = M at F0 ⊢
  obtain ⟨ov0, hov⟩ : ∃ ov0 : Value, ov0 = .slice (some ⟨h.size + 1, 0, none⟩) 0 3 := ⟨_, rfl⟩
  rw [← hov] at F0 ⊢
  refine SW_loop_up (fun i E K => ∃ ov, Fk [] h K encReel 3 ov (withoutS r (b.take i) []).1 [(h.size, [.int .i64 r.src, .int .i64 (withoutS r (b.take i) []).2, .int .i64 r.to])] ∧
    E = [(2, .pointer (some ⟨h.size, 0, none⟩)), (5, ov), (9, v), (10, .int .i64 (b.length : Int)), (11, .int .i64 (i : Int))]) b.length 0 (by omega) ⟨_, F0, rfl⟩ ?_
  rintro i E K hi ⟨ov, F, rfl⟩
  simp (maxSteps := 4000000) (disch := omega) only [ah, am, Nat.reduceEqDiff, reduceCtorEq, Nat.reduceAdd, Nat.reduceLeDiff, Nat.reduceMul, Nat.reduceLT, if_true, if_false, true_and, and_true, and_self, Nat.reduceBEq, QOp.loads, boxO, bslO, buildO, cutL, fillV, putL, w33, v33]
  refine stepI.split (fun hp => ?_) (fun hp => ?_)
  · have hi2 : i < b.length := by omega
    have hl := lenS i
    have R := (s.ext F.ext.ext).rulesN
    obtain ⟨x, hx⟩ : ∃ x, x = b[i]'hi2 := ⟨_, rfl⟩
    have LN : ldnV K 3 (ptrAt v (i * 3)) = some (.agg (encReel x).toArray) := by rw [hx]; exact R.2.2.2.2.2 i hi2
    have e : withoutS r (b.take (i + 1)) [] = outStep r.src r.to (withoutS r (b.take i) []) x := by
      unfold withoutS; rw [List.take_add_one, List.getElem?_eq_getElem hi2, Option.toList_some, List.foldl_append, hx]; rfl
    rw [e]
    generalize withoutS r (b.take i) [] = st at F hl ⊢
    obtain ⟨out, f⟩ := st
    simp only at F hl ⊢
    have W : IntKind.i64.wrap ((i : Int) + 1) = ((i + 1 : Nat) : Int) := i64e (by omega) (by omega)
    have F1 := F.more [[.int .i64 x.src, .int .i64 x.fr, .int .i64 x.to]]
    simp only [boxesAt, List.singleton_append] at F1
    have X0 := F1.ld (i := h.size) (List.mem_cons_self)
    have X1 := F1.ld (i := K.size) (List.mem_cons_of_mem _ (List.mem_cons_self))
    have D : ∀ c : Prop, c → outStep r.src r.to (out, f) x = outStep r.src r.to (out, f) x := fun _ _ => rfl
    by_cases h1 : x.src = r.src
    · by_cases h2 : x.to ≤ f
      · simp (maxSteps := 4000000) (disch := omega) only [ah, am, Nat.reduceEqDiff, reduceCtorEq, Nat.reduceAdd, Nat.reduceLeDiff, Nat.reduceMul, Nat.reduceLT, if_true, if_false, true_and, and_true, and_self, Nat.reduceBEq, QOp.loads, boxO, bslO, buildO, cutL, fillV, putL, w33, v33, R.2.1, LN, encReel, X0, X1, decide_eq_true h1, decide_eq_true h2, Bool.not_true, W]
        rw [show outStep r.src r.to (out, f) x = (out, f) from if_pos (Or.inr (Or.inl h2))]
        exact ⟨hi2, _, F1.sub (fun p hp => by rw [List.mem_singleton] at hp; rw [hp]; exact List.mem_cons_self), rfl⟩
      · by_cases h3 : r.to ≤ x.fr
        · simp (maxSteps := 4000000) (disch := omega) only [ah, am, Nat.reduceEqDiff, reduceCtorEq, Nat.reduceAdd, Nat.reduceLeDiff, Nat.reduceMul, Nat.reduceLT, if_true, if_false, true_and, and_true, and_self, Nat.reduceBEq, QOp.loads, boxO, bslO, buildO, cutL, fillV, putL, w33, v33, R.2.1, LN, encReel, X0, X1, decide_eq_true h1, decide_eq_false h2, decide_eq_true h3, Bool.not_true, W]
          rw [show outStep r.src r.to (out, f) x = (out, f) from if_pos (Or.inr (Or.inr h3))]
          exact ⟨hi2, _, F1.sub (fun p hp => by rw [List.mem_singleton] at hp; rw [hp]; exact List.mem_cons_self), rfl⟩
        · rw [show outStep r.src r.to (out, f) x = ((if f < x.fr then out ++ [⟨r.src, f, x.fr⟩] else out), x.to) from if_neg (fun q => by rcases q with q | q | q; exact q h1; exact h2 q; exact h3 q)]
          by_cases h4 : f < x.fr
          · rw [if_pos h4]
            obtain ⟨v2, H3, ea, F3⟩ := F.app1 [[.int .i64 x.src, .int .i64 x.fr, .int .i64 x.to]] ⟨r.src, f, x.fr⟩ (bytes := 24) (by omega)
            simp only [encReel, List.cons_append, List.nil_append, List.length_cons, List.length_nil, Nat.zero_add, boxesAt] at ea F3
            have Y1 := F3.ld (i := K.size) (List.mem_cons_of_mem _ (List.mem_cons_self))
            obtain ⟨K5, es, F5, -⟩ := F3.put (i := h.size) (List.mem_cons_self) (o := 1) (n := 1) (y := .int .i64 x.to) rfl (by simp) rfl
            simp (maxSteps := 4000000) (disch := omega) only [ah, am, Nat.reduceEqDiff, reduceCtorEq, Nat.reduceAdd, Nat.reduceLeDiff, Nat.reduceMul, Nat.reduceLT, if_true, if_false, true_and, and_true, and_self, Nat.reduceBEq, QOp.loads, boxO, bslO, buildO, cutL, fillV, putL, w33, v33, R.2.1, LN, encReel, X0, X1, decide_eq_true h1, decide_eq_false h2, decide_eq_false h3, decide_eq_true h4, Bool.not_true, ea, Y1, es, W]
            exact ⟨hi2, _, F5.sub (fun p hp => by rw [List.mem_singleton] at hp; rw [hp]; exact List.mem_cons_self), rfl⟩
          · rw [if_neg h4]
            obtain ⟨K5, es, F5, -⟩ := F1.put (i := h.size) (List.mem_cons_self) (o := 1) (n := 1) (y := .int .i64 x.to) rfl (by simp) rfl
            simp (maxSteps := 4000000) (disch := omega) only [ah, am, Nat.reduceEqDiff, reduceCtorEq, Nat.reduceAdd, Nat.reduceLeDiff, Nat.reduceMul, Nat.reduceLT, if_true, if_false, true_and, and_true, and_self, Nat.reduceBEq, QOp.loads, boxO, bslO, buildO, cutL, fillV, putL, w33, v33, R.2.1, LN, encReel, X0, X1, decide_eq_true h1, decide_eq_false h2, decide_eq_false h3, decide_eq_false h4, Bool.not_true, es, W]
            exact ⟨hi2, _, F5.sub (fun p hp => by rw [List.mem_singleton] at hp; rw [hp]; exact List.mem_cons_self), rfl⟩
    · simp (maxSteps := 4000000) (disch := omega) only [ah, am, Nat.reduceEqDiff, reduceCtorEq, Nat.reduceAdd, Nat.reduceLeDiff, Nat.reduceMul, Nat.reduceLT, if_true, if_false, true_and, and_true, and_self, Nat.reduceBEq, QOp.loads, boxO, bslO, buildO, cutL, fillV, putL, w33, v33, R.2.1, LN, encReel, X0, X1, decide_eq_false h1, Bool.not_false, W]
      rw [show outStep r.src r.to (out, f) x = (out, f) from if_pos (Or.inl h1)]
      exact ⟨hi2, _, F1.sub (fun p hp => by rw [List.mem_singleton] at hp; rw [hp]; exact List.mem_cons_self), rfl⟩
  · have : i = b.length := by omega
    subst this
    rw [List.take_length] at F
    have hl := lenS b.length
    rw [List.take_length] at hl
    rw [show withoutF r b [] = if (withoutS r b []).2 < r.to then (withoutS r b []).1 ++ [⟨r.src, (withoutS r b []).2, r.to⟩] else (withoutS r b []).1 from rfl]
    generalize withoutS r b [] = st at F hl ⊢
    obtain ⟨out, f⟩ := st
    simp only at F hl ⊢
    have X0 := F.ld (i := h.size) (List.mem_cons_self)
    by_cases h5 : f < r.to
    · rw [if_pos h5]
      obtain ⟨v2, H3, ea, F3⟩ := F.app1 [] ⟨r.src, f, r.to⟩ (bytes := 24) (by omega)
      simp only [encReel, List.nil_append, List.length_nil, Nat.add_zero, boxesAt, List.append_nil] at ea F3
      simp (maxSteps := 4000000) (disch := omega) only [ah, am, Nat.reduceEqDiff, reduceCtorEq, Nat.reduceAdd, Nat.reduceLeDiff, Nat.reduceMul, Nat.reduceLT, if_true, if_false, true_and, and_true, and_self, Nat.reduceBEq, QOp.loads, boxO, bslO, buildO, cutL, fillV, putL, w33, v33, X0, decide_eq_true h5, ea]
      exact F3.bare.fresh
    · rw [if_neg h5]
      simp (maxSteps := 4000000) (disch := omega) only [ah, am, Nat.reduceEqDiff, reduceCtorEq, Nat.reduceAdd, Nat.reduceLeDiff, Nat.reduceMul, Nat.reduceLT, if_true, if_false, true_and, and_true, and_self, Nat.reduceBEq, QOp.loads, boxO, bslO, buildO, cutL, fillV, putL, w33, v33, X0, decide_eq_false h5]
      exact F.bare.fresh
end Go.Proofs.Ytmippcfdakjhfaa
