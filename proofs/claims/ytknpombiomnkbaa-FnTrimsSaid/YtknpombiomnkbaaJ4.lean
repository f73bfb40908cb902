import Derived.Test.YtknpombiomnkbaaJ1
import Derived.Test.YtknpombiomnkbaaS6
namespace Go.Proofs.Ytknpombiomnkbaa
open Go Go.Ah
set_option linter.unusedSimpArgs false
set_option linter.unusedVariables false
set_option maxRecDepth 10000
set_option maxHeartbeats 4000000
/-! Trims that come back -/
theorem joinStep_len (out : List Clip) (k : Clip) : joinStep out k = out ++ [k] ∨ (joinStep out k).length = out.length := by
  rcases snoc_cases out with rfl | ⟨o, a, rfl⟩
  · exact .inl rfl
  · rw [joinStep_snoc]; split
    · right; simp
    · left; rfl
theorem join_same {l : List Clip} (h : (join l).length = l.length) : join l = l := by
  have le : ∀ (l out : List Clip), (l.foldl joinStep out).length ≤ out.length + l.length := by
    intro l; induction l with
    | nil => intro out; simp
    | cons k l ih => intro out; have h1 := joinStep_length out k; have h2 := ih (joinStep out k); simp only [List.foldl_cons, List.length_cons]; omega
  have key : ∀ (l out : List Clip), (l.foldl joinStep out).length = out.length + l.length → l.foldl joinStep out = out ++ l := by
    intro l
    induction l with
    | nil => intro out _; simp
    | cons k l ih =>
      intro out h
      rw [List.foldl_cons] at h ⊢
      rcases joinStep_len out k with h1 | h1
      · rw [h1] at h ⊢
        rw [ih (out ++ [k]) (by simp at h ⊢; omega)]; simp
      · have := le l (joinStep out k)
        simp only [List.length_cons] at h; omega
  simpa [join] using key l [] (by simpa [join] using h)
theorem sumLen_cons2 (k : Clip) (l : List Clip) : sumLen (k :: l) = k.len + sumLen l := by simp [sumLen]
theorem sumLen_set (l : List Clip) (i : Nat) (hi : i < l.length) (x : Clip) : sumLen (l.set i x) = sumLen l - l[i].len + x.len := by
  have h1 : sumLen l = sumLen (l.take i) + l[i].len + sumLen (l.drop (i + 1)) := by
    have : l = l.take i ++ (l[i] :: l.drop (i + 1)) := by rw [← List.drop_eq_getElem_cons hi, List.take_append_drop]
    exact (congrArg sumLen this).trans (by rw [sumLen_append, sumLen_cons2]; omega)
  rw [List.set_eq_take_append_cons_drop, if_pos hi, sumLen_append, h1, sumLen_cons2]
  omega
/-- Trims of one track: what comes of them, and the way back. -/
theorem edit_same {l t u : List Clip} (h : editF l = (u, true)) (hl : u.length = t.length) (hlt : l.length = t.length) : u = l ∧ trackOk u := by
  obtain ⟨h1, h2, h3, _, _⟩ := editF_facts h
  subst h2
  exact ⟨join_same (by rw [hl, hlt]), h3⟩
theorem edit_back {t : List Clip} (ht : trackOk t) (hj : join t = t) : editF t = (t, true) := by
  unfold editF
  rw [hj, if_pos ⟨ht.2.1, ht⟩]
theorem cAt_set_same (l : List Clip) (i : Int) (hi : i.toNat < l.length) (x : Clip) : cAt (l.set i.toNat x) i = x := by
  rw [cAt_eq _ _ (by simpa using hi), List.getElem_set_self]
theorem cAt_set_ne (l : List Clip) (i j : Int) (hi : i.toNat < l.length) (hne : i.toNat ≠ j.toNat) (x : Clip) : cAt (l.set j.toNat x) i = cAt l i := by
  rw [cAt_eq _ _ (by simpa using hi), cAt_eq _ _ hi, List.getElem_set_ne (Ne.symm hne)]
theorem turn_back {t u : List Clip} {i n : Int} {f g : Clip → Clip} (hj : join t = t) (hgf : ∀ k, g (f k) = k) (hs : ∀ k, (f k).src = k.src) (h : turnF t i n f = (u, true)) (hl : u.length = t.length) :
    trackOk t ∧ trackOk u ∧ (-10000000 ≤ n ∧ n ≤ 10000000) ∧ u = t.set i.toNat (f (cAt t i)) ∧ i.toNat < t.length ∧ turnF u i (-n) g = (t, true) := by
  unfold turnF at h
  split at h
  · rename_i hc
    obtain ⟨ht, hn, hr⟩ := hc
    have hi : i.toNat < t.length := by have := hr.1; have := hr.2.1; omega
    obtain ⟨h1, h2⟩ := edit_same h hl (by simp)
    have hc1 : cAt u i = f (cAt t i) := by rw [h1]; exact cAt_set_same t i hi _
    have hr2 : realAt u i := ⟨hr.1, by rw [hl]; exact hr.2.1, by rw [hc1, hs]; exact hr.2.2⟩
    refine ⟨ht, h2, hn, h1, hi, ?_⟩
    rw [show turnF u i (-n) g = editF (u.set i.toNat (g (cAt u i))) from if_pos ⟨h2, by omega, hr2⟩, hc1, hgf, h1, List.set_set, cAt_eq t i hi, List.set_getElem_self]
    exact edit_back ht hj
  · cases h
theorem move_back {t u : List Clip} {a b n : Int} (hj : join t = t) (hab : a.toNat ≠ b.toNat) (h : moveF t a b n = (u, true)) (hl : u.length = t.length) :
    trackOk t ∧ trackOk u ∧ (-10000000 ≤ n ∧ n ≤ 10000000) ∧ u = (t.set a.toNat ⟨(cAt t a).src, (cAt t a).inn, (cAt t a).len + n⟩).set b.toNat ⟨(cAt t b).src, (cAt t b).inn + n, (cAt t b).len - n⟩ ∧
      a.toNat < t.length ∧ b.toNat < t.length ∧ moveF u a b (-n) = (t, true) ∧ sumLen u = sumLen t := by
  unfold moveF at h
  split at h
  · rename_i hc
    obtain ⟨ht, hn, hra, hrb⟩ := hc
    have ha : a.toNat < t.length := by have := hra.1; have := hra.2.1; omega
    have hb : b.toNat < t.length := by have := hrb.1; have := hrb.2.1; omega
    obtain ⟨h1, h2⟩ := edit_same h hl (by simp)
    have ca : cAt u a = ⟨(cAt t a).src, (cAt t a).inn, (cAt t a).len + n⟩ := by
      rw [h1, cAt_set_ne _ a b (by simpa using ha) hab, cAt_set_same t a ha]
    have cb : cAt u b = ⟨(cAt t b).src, (cAt t b).inn + n, (cAt t b).len - n⟩ := by
      rw [h1]; exact cAt_set_same _ b (by simpa using hb) _
    have ra : realAt u a := ⟨hra.1, by rw [hl]; exact hra.2.1, by rw [ca]; exact hra.2.2⟩
    have rb : realAt u b := ⟨hrb.1, by rw [hl]; exact hrb.2.1, by rw [cb]; exact hrb.2.2⟩
    refine ⟨ht, h2, hn, h1, ha, hb, ?_, ?_⟩
    · rw [show moveF u a b (-n) = editF ((u.set a.toNat ⟨(cAt u a).src, (cAt u a).inn, (cAt u a).len + -n⟩).set b.toNat ⟨(cAt u b).src, (cAt u b).inn + -n, (cAt u b).len - -n⟩) from if_pos ⟨h2, by omega, ra, rb⟩]
      have hA : (⟨(cAt u a).src, (cAt u a).inn, (cAt u a).len + -n⟩ : Clip) = t[a.toNat] := by
        rw [ca, ← cAt_eq t a ha]
        generalize cAt t a = q
        obtain ⟨q1, q2, q3⟩ := q
        simp only [Clip.mk.injEq, true_and]; omega
      have hB : (⟨(cAt u b).src, (cAt u b).inn + -n, (cAt u b).len - -n⟩ : Clip) = t[b.toNat] := by
        rw [cb, ← cAt_eq t b hb]
        generalize cAt t b = q
        obtain ⟨q1, q2, q3⟩ := q
        simp only [Clip.mk.injEq, true_and]; omega
      rw [hA, hB, h1]
      have : (((t.set a.toNat ⟨(cAt t a).src, (cAt t a).inn, (cAt t a).len + n⟩).set b.toNat ⟨(cAt t b).src, (cAt t b).inn + n, (cAt t b).len - n⟩).set a.toNat t[a.toNat]).set b.toNat t[b.toNat] = t := by
        apply List.ext_getElem?
        intro j
        simp only [List.getElem?_set, List.length_set]
        by_cases hjb : b.toNat = j
        · subst hjb; simp [hb]
        · by_cases hja : a.toNat = j
          · subst hja; simp [hjb, ha]
          · simp [hjb, hja]
      rw [this]
      exact edit_back ht hj
    · rw [h1, sumLen_set _ _ (by simpa using hb), List.getElem_set_ne hab, sumLen_set _ _ ha, cAt_eq t a ha, cAt_eq t b hb]
      simp only; omega
  · cases h
theorem slide_back {t u : List Clip} {i n : Int} (hj : join t = t) (h : slideF t i n = (u, true)) (hl : u.length = t.length) :
    trackOk t ∧ trackOk u ∧ (-10000000 ≤ n ∧ n ≤ 10000000) ∧ slideF u i (-n) = (t, true) ∧ 1 ≤ i ∧ i < t.length ∧ u[i.toNat]? = t[i.toNat]? := by
  unfold slideF at h
  split at h
  · rename_i hc
    obtain ⟨h1, hr⟩ := hc
    obtain ⟨ht, hu, hn, he, ha, hb, hm, _⟩ := move_back hj (by omega) h hl
    have hg : u[i.toNat]? = t[i.toNat]? := by
      rw [he, List.getElem?_set_ne (by omega), List.getElem?_set_ne (by omega)]
    have hi : i.toNat < t.length := by have := hr.2.1; omega
    have hc2 : cAt u i = cAt t i := by
      simp only [cAt, List.getD_eq_getElem?_getD, hg]
    refine ⟨ht, hu, hn, ?_, h1, hr.2.1, hg⟩
    rw [show slideF u i (-n) = moveF u (i - 1) (i + 1) (-n) from if_pos ⟨h1, hr.1, by rw [hl]; exact hr.2.1, by rw [hc2]; exact hr.2.2⟩]
    exact hm
  · cases h
theorem editF_len (l : List Clip) : (editF l).1.length ≤ 300 := by
  unfold editF; split
  · rename_i h; exact h.2.1
  · simp
theorem turnF_len (l : List Clip) (i n : Int) (f : Clip → Clip) : (turnF l i n f).1.length ≤ 300 := by
  unfold turnF; split
  · exact editF_len _
  · simp
theorem moveF_len (l : List Clip) (a b n : Int) : (moveF l a b n).1.length ≤ 300 := by
  unfold moveF; split
  · exact editF_len _
  · simp
theorem slideF_len (l : List Clip) (i n : Int) : (slideF l i n).1.length ≤ 300 := by
  unfold slideF; split
  · exact moveF_len _ _ _ _
  · simp
end Go.Proofs.Ytknpombiomnkbaa
