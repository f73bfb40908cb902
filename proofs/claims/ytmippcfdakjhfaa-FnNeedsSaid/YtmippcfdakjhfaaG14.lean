import Derived.Test.YtmippcfdakjhfaaG13
namespace Go.Proofs.Ytmippcfdakjhfaa
open Go Go.Ah
set_option linter.unusedSimpArgs false
set_option linter.unusedVariables false
set_option maxRecDepth 10000
set_option maxHeartbeats 4000000
/-! ### Which frames a list of reels covers -/
def cov (l : List Reel) (a f : Int) : Prop := ∃ r ∈ l, r.src = a ∧ r.fr ≤ f ∧ f < r.to
def ahd (x y : Reel) : Prop := x.src < y.src ∨ (x.src = y.src ∧ x.to < y.fr)
def toldP (l : List Reel) : Prop := l.Pairwise ahd ∧ ∀ r ∈ l, r.fr < r.to
theorem cov_nil (a f : Int) : ¬ cov [] a f := by rintro ⟨r, h, _⟩; cases h
theorem cov_cons (r : Reel) (l : List Reel) (a f : Int) : cov (r :: l) a f ↔ (r.src = a ∧ r.fr ≤ f ∧ f < r.to) ∨ cov l a f := by
  unfold cov; simp
theorem cov_append (l m : List Reel) (a f : Int) : cov (l ++ m) a f ↔ cov l a f ∨ cov m a f := by
  unfold cov; simp only [List.mem_append]
  constructor
  · rintro ⟨r, h | h, k⟩
    · exact .inl ⟨r, h, k⟩
    · exact .inr ⟨r, h, k⟩
  · rintro (⟨r, h, k⟩ | ⟨r, h, k⟩)
    · exact ⟨r, .inl h, k⟩
    · exact ⟨r, .inr h, k⟩
theorem cov_perm {l m : List Reel} (h : l.Perm m) (a f : Int) : cov l a f ↔ cov m a f := by
  unfold cov
  constructor <;> rintro ⟨r, hr, k⟩
  · exact ⟨r, h.mem_iff.mp hr, k⟩
  · exact ⟨r, h.mem_iff.mpr hr, k⟩
theorem toldP_nil : toldP [] := ⟨List.Pairwise.nil, fun r h => by cases h⟩
theorem tell_inv : ∀ (l s : List Reel), sortedR l → (∀ r ∈ l, r.fr < r.to) → toldP s → (∀ t p, s = t ++ [p] → ∀ r ∈ l, p.src < r.src ∨ (p.src = r.src ∧ p.fr ≤ r.fr)) →
    toldP (l.foldl tellStep s) ∧ ∀ a f, cov (l.foldl tellStep s) a f ↔ cov s a f ∨ cov l a f := by
  intro l
  induction l with
  | nil => intro s _ _ hs _; exact ⟨hs, fun a f => by simp [cov_nil]⟩
  | cons r l ih =>
    intro s h1 h2 hs hl
    obtain ⟨g1, g2⟩ := List.pairwise_cons.mp h1
    have hr := h2 r List.mem_cons_self
    rw [List.foldl_cons]
    rcases List.eq_nil_or_concat s with rfl | ⟨t, p, rfl⟩
    · have e : tellStep [] r = [r] := rfl
      rw [e]
      obtain ⟨a1, a2⟩ := ih [r] g2 (fun x hx => h2 x (List.mem_cons_of_mem _ hx)) ⟨List.pairwise_singleton _ _, fun x hx => by rw [List.mem_singleton] at hx; rw [hx]; exact hr⟩ (by
        intro t p e q hq
        have : p = r := by
          rcases List.eq_nil_or_concat t with rfl | ⟨t', p', rfl⟩
          · simpa using e.symm
          · have := congrArg List.length e; simp at this
        subst this
        have := g1 q hq
        rw [lt_false] at this; omega)
      refine ⟨a1, fun a f => ?_⟩
      rw [a2, cov_cons, cov_cons]
      have := cov_nil a f
      constructor
      · rintro ((h | h) | h)
        · exact .inr (.inl h)
        · exact absurd h this
        · exact .inr (.inr h)
      · rintro (h | h | h)
        · exact absurd h this
        · exact .inl (.inl h)
        · exact .inr h
    · rw [List.concat_eq_append] at hs hl ⊢
      have hp := hl t p rfl r List.mem_cons_self
      obtain ⟨s1, s2⟩ := hs
      obtain ⟨t1, t2, t3⟩ := List.pairwise_append.mp s1
      have hpp : p.fr < p.to := s2 p (by simp)
      rw [tell_snoc]
      by_cases hj : joins p r
      · rw [if_pos hj]
        obtain ⟨j1, j2⟩ := hj
        have hq : p.fr ≤ r.fr := by omega
        obtain ⟨a1, a2⟩ := ih (t ++ [⟨p.src, p.fr, max p.to r.to⟩]) g2 (fun x hx => h2 x (List.mem_cons_of_mem _ hx)) (by
          refine ⟨List.pairwise_append.mpr ⟨t1, List.pairwise_singleton _ _, fun x hx y hy => ?_⟩, fun x hx => ?_⟩
          · rw [List.mem_singleton] at hy; subst hy
            exact t3 x hx p (by simp)
          · rcases List.mem_append.mp hx with hx | hx
            · exact s2 x (by simp [hx])
            · rw [List.mem_singleton] at hx; subst hx; simp only; omega) (by
          intro t' p' e q hq'
          obtain ⟨-, e2⟩ := List.append_inj' e rfl
          have e2 : (⟨p.src, p.fr, max p.to r.to⟩ : Reel) = p' := by simpa using e2
          subst e2
          exact hl t p rfl q (List.mem_cons_of_mem _ hq'))
        refine ⟨a1, fun a f => ?_⟩
        rw [a2, cov_append, cov_append, cov_cons, cov_cons, cov_cons]
        simp only
        have hn := cov_nil a f
        constructor
        · rintro ((h | h | h) | h)
          · exact .inl (.inl h)
          · obtain ⟨c1, c2, c3⟩ := h
            by_cases hc : f < p.to
            · exact .inl (.inr (.inl ⟨c1, c2, hc⟩))
            · exact .inr (.inl ⟨by omega, by omega, by omega⟩)
          · exact absurd h hn
          · exact .inr (.inr h)
        · rintro ((h | h | h) | h | h)
          · exact .inl (.inl h)
          · exact .inl (.inr (.inl ⟨h.1, h.2.1, by omega⟩))
          · exact absurd h hn
          · exact .inl (.inr (.inl ⟨by omega, by omega, by omega⟩))
          · exact .inr h
      · rw [if_neg hj]
        have hj : p.src < r.src ∨ (p.src = r.src ∧ p.to < r.fr) := by
          rcases hp with h | ⟨h, h'⟩
          · exact .inl h
          · exact .inr ⟨h, by apply Int.lt_of_not_ge; intro q; exact hj ⟨h, q⟩⟩
        obtain ⟨a1, a2⟩ := ih (t ++ [p, r]) g2 (fun x hx => h2 x (List.mem_cons_of_mem _ hx)) (by
          refine ⟨List.pairwise_append.mpr ⟨t1, by simp [ahd]; exact hj, fun x hx y hy => ?_⟩, fun x hx => ?_⟩
          · have hxp := t3 x hx p (by simp)
            simp only [List.mem_cons, List.not_mem_nil, or_false] at hy
            rcases hy with rfl | rfl
            · exact hxp
            · unfold ahd at hxp ⊢; omega
          · simp only [List.mem_append, List.mem_cons, List.not_mem_nil, or_false] at hx
            rcases hx with hx | rfl | rfl
            · exact s2 x (by simp [hx])
            · exact hpp
            · exact hr) (by
          intro t' p' e q hq'
          have e : (t ++ [p]) ++ [r] = t' ++ [p'] := by simpa using e
          obtain ⟨-, e2⟩ := List.append_inj' e rfl
          have e2 : r = p' := by simpa using e2
          subst e2
          have := g1 q hq'
          rw [lt_false] at this; omega)
        refine ⟨a1, fun a f => ?_⟩
        rw [a2, cov_append, cov_append, cov_cons, cov_cons, cov_cons, cov_cons]
        have hn := cov_nil a f
        constructor
        · rintro ((h | h | h | h) | h)
          · exact .inl (.inl h)
          · exact .inl (.inr (.inl h))
          · exact .inr (.inl h)
          · exact absurd h hn
          · exact .inr (.inr h)
        · rintro ((h | h | h) | h | h)
          · exact .inl (.inl h)
          · exact .inl (.inr (.inl h))
          · exact absurd h hn
          · exact .inl (.inr (.inr (.inl h)))
          · exact .inr h
theorem told_told (l : List Reel) (hv : ∀ r ∈ l, r.fr < r.to) : toldP (toldF l) ∧ ∀ a f, cov (toldF l) a f ↔ cov l a f := by
  obtain ⟨h1, h2⟩ := isort_both l [] List.Pairwise.nil
  rw [List.append_nil] at h2
  have h2 : (isort l).Perm l := h2
  obtain ⟨a1, a2⟩ := tell_inv (isort l) [] h1 (fun r hr => hv r (h2.subset hr)) toldP_nil (by intro t p e; exact absurd e (by simp))
  refine ⟨a1, fun a f => ?_⟩
  have := a2 a f
  rw [show toldF l = (isort l).foldl tellStep [] from rfl, this]
  rw [cov_perm h2 a f]
  exact ⟨fun h => h.resolve_left (cov_nil a f), .inr⟩
/-- Told lists that cover the same are the same. -/
theorem told_eq : ∀ (A B : List Reel), toldP A → toldP B → (∀ a f, cov A a f ↔ cov B a f) → A = B := by
  have lead : ∀ (q : Reel) (B : List Reel) (r : Reel), toldP (q :: B) → r.fr < r.to → (∀ f, r.fr ≤ f → f < r.to → cov (q :: B) r.src f) → q.src < r.src ∨ (q.src = r.src ∧ q.fr ≤ r.fr) := by
    intro q B r hB hr h
    obtain ⟨e, he, e1, e2, e3⟩ := h r.fr (Int.le_refl _) hr
    have hq := hB.2 q List.mem_cons_self
    rcases List.mem_cons.mp he with rfl | he
    · exact .inr ⟨e1, e2⟩
    · have := (List.pairwise_cons.mp hB.1).1 e he
      unfold ahd at this; omega
  have last : ∀ (q : Reel) (B : List Reel) (r : Reel), toldP (q :: B) → (∀ f, r.fr ≤ f → f < r.to → cov (q :: B) r.src f) → q.src = r.src → q.fr = r.fr → r.to ≤ q.to := by
    intro q B r hB h h1 h2
    apply Int.le_of_not_gt
    intro hlt
    have hq := hB.2 q List.mem_cons_self
    obtain ⟨e, he, e1, e2, e3⟩ := h q.to (by omega) hlt
    rcases List.mem_cons.mp he with rfl | he
    · omega
    · have := (List.pairwise_cons.mp hB.1).1 e he
      unfold ahd at this; omega
  intro A
  induction A with
  | nil =>
    intro B _ hB h
    cases B with
    | nil => rfl
    | cons q B => exact absurd ((h q.src q.fr).mpr ⟨q, List.mem_cons_self, rfl, Int.le_refl _, hB.2 q List.mem_cons_self⟩) (cov_nil _ _)
  | cons r A ih =>
    intro B hA hB h
    cases B with
    | nil => exact absurd ((h r.src r.fr).mp ⟨r, List.mem_cons_self, rfl, Int.le_refl _, hA.2 r List.mem_cons_self⟩) (cov_nil _ _)
    | cons q B =>
      have hr := hA.2 r List.mem_cons_self
      have hq := hB.2 q List.mem_cons_self
      have c1 : ∀ f, r.fr ≤ f → f < r.to → cov (q :: B) r.src f := fun f f1 f2 => (h _ _).mp ⟨r, List.mem_cons_self, rfl, f1, f2⟩
      have c2 : ∀ f, q.fr ≤ f → f < q.to → cov (r :: A) q.src f := fun f f1 f2 => (h _ _).mpr ⟨q, List.mem_cons_self, rfl, f1, f2⟩
      have l1 := lead q B r hB hr c1
      have l2 := lead r A q hA hq c2
      have s1 : q.src = r.src := by omega
      have s2 : q.fr = r.fr := by omega
      have t1 := last q B r hB c1 s1 s2
      have t2 := last r A q hA c2 s1.symm s2.symm
      have e : r = q := by
        obtain ⟨r1, r2, r3⟩ := r
        obtain ⟨q1, q2, q3⟩ := q
        simp only at s1 s2 t1 t2
        rw [s1, s2, show r3 = q3 by omega]
      subst e
      congr 1
      have pA := List.pairwise_cons.mp hA.1
      have pB := List.pairwise_cons.mp hB.1
      refine ih B ⟨pA.2, fun x hx => hA.2 x (List.mem_cons_of_mem _ hx)⟩ ⟨pB.2, fun x hx => hB.2 x (List.mem_cons_of_mem _ hx)⟩ fun a f => ?_
      have hh := h a f
      rw [cov_cons, cov_cons] at hh
      have dis : ∀ (L : List Reel), (∀ x ∈ L, ahd r x) → (∀ x ∈ L, x.fr < x.to) → cov L a f → ¬ (r.src = a ∧ r.fr ≤ f ∧ f < r.to) := by
        rintro L hL hv ⟨x, hx, x1, x2, x3⟩ ⟨y1, y2, y3⟩
        have := hL x hx
        unfold ahd at this; omega
      constructor
      · intro k
        exact (hh.mp (.inr k)).resolve_left (dis A pA.1 (fun x hx => hA.2 x (List.mem_cons_of_mem _ hx)) k)
      · intro k
        exact (hh.mpr (.inr k)).resolve_left (dis B pB.1 (fun x hx => hB.2 x (List.mem_cons_of_mem _ hx)) k)
theorem told_same {l : List Reel} (h : toldP l) : toldF l = l := by
  obtain ⟨a, b⟩ := told_told l h.2
  exact told_eq _ _ a h b
/-! ### What is missing, as frames -/
theorem out_inv (src to lo : Int) : ∀ (b : List Reel), toldP b → ∀ (s : List Reel) (f : Int), (toldP s ∧ (∀ e ∈ s, e.src = src ∧ lo ≤ e.fr ∧ e.to < f ∧ e.to ≤ to) ∧ lo ≤ f) →
    let st := b.foldl (outStep src to) (s, f)
    (toldP st.1 ∧ (∀ e ∈ st.1, e.src = src ∧ lo ≤ e.fr ∧ e.to < st.2 ∧ e.to ≤ to) ∧ lo ≤ st.2) ∧
    ∀ a x, (cov st.1 a x ∨ (a = src ∧ st.2 ≤ x ∧ x < to)) ↔ cov s a x ∨ (a = src ∧ f ≤ x ∧ x < to ∧ ¬ cov b a x) := by
  intro b
  induction b with
  | nil =>
    intro _ s f h
    refine ⟨h, fun a x => ?_⟩
    have := cov_nil a x
    simp only [List.foldl_nil]
    constructor
    · rintro (k | k)
      · exact .inl k
      · exact .inr ⟨k.1, k.2.1, k.2.2, this⟩
    · rintro (k | k)
      · exact .inl k
      · exact .inr ⟨k.1, k.2.1, k.2.2.1⟩
  | cons q b ih =>
    intro hb s f ⟨h1, h2, h3⟩
    obtain ⟨p1, p2⟩ := List.pairwise_cons.mp hb.1
    have hb' : toldP b := ⟨p2, fun x hx => hb.2 x (List.mem_cons_of_mem _ hx)⟩
    have hq := hb.2 q List.mem_cons_self
    simp only [List.foldl_cons]
    by_cases hs : skips src f to q
    · rw [show outStep src to (s, f) q = (s, f) from if_pos hs]
      obtain ⟨a1, a2⟩ := ih hb' s f ⟨h1, h2, h3⟩
      refine ⟨a1, fun a x => (a2 a x).trans ?_⟩
      rw [cov_cons]
      unfold skips at hs
      constructor
      · rintro (k | ⟨k1, k2, k3, k4⟩)
        · exact .inl k
        · refine .inr ⟨k1, k2, k3, ?_⟩
          rintro (⟨m1, m2, m3⟩ | m)
          · omega
          · exact k4 m
      · rintro (k | ⟨k1, k2, k3, k4⟩)
        · exact .inl k
        · exact .inr ⟨k1, k2, k3, fun m => k4 (.inr m)⟩
    · have hs' : q.src = src ∧ f < q.to ∧ q.fr < to := by unfold skips at hs; omega
      obtain ⟨q1, q2, q3⟩ := hs'
      rw [show outStep src to (s, f) q = ((if f < q.fr then s ++ [⟨src, f, q.fr⟩] else s), q.to) from if_neg hs]
      have hinv : toldP (if f < q.fr then s ++ [⟨src, f, q.fr⟩] else s) ∧ (∀ e ∈ (if f < q.fr then s ++ [⟨src, f, q.fr⟩] else s), e.src = src ∧ lo ≤ e.fr ∧ e.to < q.to ∧ e.to ≤ to) ∧ lo ≤ q.to := by
        by_cases hf : f < q.fr
        · rw [if_pos hf]
          refine ⟨⟨List.pairwise_append.mpr ⟨h1.1, List.pairwise_singleton _ _, fun x hx y hy => ?_⟩, fun x hx => ?_⟩, fun e he => ?_, by omega⟩
          · rw [List.mem_singleton] at hy; subst hy
            have := h2 x hx
            exact .inr ⟨by simp only; omega, by simp only; omega⟩
          · rcases List.mem_append.mp hx with hx | hx
            · exact h1.2 x hx
            · rw [List.mem_singleton] at hx; subst hx; simp only; omega
          · rcases List.mem_append.mp he with he | he
            · have := h2 e he; omega
            · rw [List.mem_singleton] at he; subst he; exact ⟨rfl, h3, hq, by simp only; omega⟩
        · rw [if_neg hf]
          exact ⟨h1, fun e he => by have := h2 e he; omega, by omega⟩
      obtain ⟨a1, a2⟩ := ih hb' _ q.to hinv
      refine ⟨a1, fun a x => (a2 a x).trans ?_⟩
      have tl : x < q.to → a = src → ¬ cov b a x := by
        rintro hx rfl ⟨e, he, e1, e2, e3⟩
        have := p1 e he
        unfold ahd at this; omega
      rw [cov_cons]
      have hcov : cov (if f < q.fr then s ++ [⟨src, f, q.fr⟩] else s) a x ↔ cov s a x ∨ (a = src ∧ f ≤ x ∧ x < q.fr) := by
        by_cases hf : f < q.fr
        · rw [if_pos hf, cov_append, cov_cons]
          have := cov_nil a x
          simp only
          constructor
          · rintro (k | k | k)
            · exact .inl k
            · exact .inr ⟨k.1.symm, k.2⟩
            · exact absurd k this
          · rintro (k | k)
            · exact .inl k
            · exact .inr (.inl ⟨k.1.symm, k.2⟩)
        · rw [if_neg hf]
          exact ⟨.inl, fun k => k.resolve_right (by omega)⟩
      rw [hcov]
      constructor
      · rintro ((k | ⟨k1, k2, k3⟩) | ⟨k1, k2, k3, k4⟩)
        · exact .inl k
        · refine .inr ⟨k1, k2, by omega, ?_⟩
          rintro (⟨m1, m2, m3⟩ | m)
          · omega
          · exact tl (by omega) k1 m
        · refine .inr ⟨k1, by omega, k3, ?_⟩
          rintro (⟨m1, m2, m3⟩ | m)
          · omega
          · exact k4 m
      · rintro (k | ⟨k1, k2, k3, k4⟩)
        · exact .inl (.inl k)
        · by_cases hx : x < q.fr
          · exact .inl (.inr ⟨k1, k2, hx⟩)
          · refine .inr ⟨k1, ?_, k3, fun m => k4 (.inr m)⟩
            apply Int.le_of_not_gt
            intro hlt
            exact k4 (.inl ⟨by omega, by omega, hlt⟩)
theorem without_inv (r : Reel) (b : List Reel) (hb : toldP b) : toldP (withoutF r b []) ∧ (∀ e ∈ withoutF r b [], e.src = r.src ∧ r.fr ≤ e.fr ∧ e.to ≤ r.to) ∧
    ∀ a x, cov (withoutF r b []) a x ↔ a = r.src ∧ r.fr ≤ x ∧ x < r.to ∧ ¬ cov b a x := by
  obtain ⟨⟨a1, a2, a3⟩, a4⟩ := out_inv r.src r.to r.fr b hb [] r.fr ⟨toldP_nil, fun e he => (by cases he), Int.le_refl _⟩
  unfold withoutF withoutS
  generalize b.foldl (outStep r.src r.to) ([], r.fr) = st at a1 a2 a3 a4
  obtain ⟨s, f⟩ := st
  simp only at a1 a2 a3 a4 ⊢
  by_cases hf : f < r.to
  · rw [if_pos hf]
    refine ⟨⟨List.pairwise_append.mpr ⟨a1.1, List.pairwise_singleton _ _, fun x hx y hy => ?_⟩, fun x hx => ?_⟩, fun e he => ?_, fun a x => ?_⟩
    · rw [List.mem_singleton] at hy; subst hy
      have := a2 x hx
      exact .inr ⟨by simp only; omega, by simp only; omega⟩
    · rcases List.mem_append.mp hx with hx | hx
      · exact a1.2 x hx
      · rw [List.mem_singleton] at hx; subst hx; exact hf
    · rcases List.mem_append.mp he with he | he
      · have := a2 e he; omega
      · rw [List.mem_singleton] at he; subst he; exact ⟨rfl, a3, Int.le_refl _⟩
    · have := a4 a x
      have hn := cov_nil a x
      rw [cov_append, cov_cons]
      simp only
      constructor
      · rintro (k | k | k)
        · exact (this.mp (.inl k)).resolve_left hn
        · exact (this.mp (.inr ⟨k.1.symm, k.2⟩)).resolve_left hn
        · exact absurd k hn
      · intro k
        rcases this.mpr (.inr k) with k | k
        · exact .inl k
        · exact .inr (.inl ⟨k.1.symm, k.2⟩)
  · rw [if_neg hf]
    refine ⟨a1, fun e he => by have := a2 e he; omega, fun a x => ?_⟩
    have := a4 a x
    have hn := cov_nil a x
    constructor
    · intro k
      exact (this.mp (.inl k)).resolve_left hn
    · intro k
      rcases this.mpr (.inr k) with k | k
      · exact k
      · omega
theorem missL_flat (A B : List Reel) : missL A B = A.flatMap fun r => withoutF r B [] := by
  have key : ∀ (A s : List Reel), A.foldl (fun s r => withoutF r B s) s = s ++ A.flatMap fun r => withoutF r B [] := by
    intro A
    induction A with
    | nil => intro s; simp
    | cons r A ih => intro s; rw [List.foldl_cons, ih, without_app, List.flatMap_cons, List.append_assoc]
  exact key A []
theorem miss_cov (A B : List Reel) (hB : toldP B) (a f : Int) : cov (missL A B) a f ↔ cov A a f ∧ ¬ cov B a f := by
  rw [missL_flat]
  induction A with
  | nil => simp [cov_nil]
  | cons r A ih =>
    rw [List.flatMap_cons, cov_append, ih, cov_cons, (without_inv r B hB).2.2 a f]
    constructor
    · rintro (⟨h1, h2, h3, h4⟩ | ⟨h1, h2⟩)
      · exact ⟨.inl ⟨h1.symm, h2, h3⟩, h4⟩
      · exact ⟨.inr h1, h2⟩
    · rintro ⟨⟨h1, h2, h3⟩ | h, h4⟩
      · exact .inl ⟨h1.symm, h2, h3, h4⟩
      · exact .inr ⟨h, h4⟩
theorem miss_told (A B : List Reel) (hA : toldP A) (hB : toldP B) : toldP (missL A B) := by
  rw [missL_flat]
  induction A with
  | nil => exact toldP_nil
  | cons r A ih =>
    obtain ⟨p1, p2⟩ := List.pairwise_cons.mp hA.1
    obtain ⟨i1, i2⟩ := ih ⟨p2, fun x hx => hA.2 x (List.mem_cons_of_mem _ hx)⟩
    obtain ⟨w1, w2, w3⟩ := without_inv r B hB
    rw [List.flatMap_cons]
    refine ⟨List.pairwise_append.mpr ⟨w1.1, i1, fun x hx y hy => ?_⟩, fun x hx => ?_⟩
    · obtain ⟨q, hq, hy⟩ := List.mem_flatMap.mp hy
      have hx := w2 x hx
      have hy := (without_inv q B hB).2.1 y hy
      have := p1 q hq
      unfold ahd at this ⊢; omega
    · rcases List.mem_append.mp hx with hx | hx
      · exact w1.2 x hx
      · exact i2 x hx
end Go.Proofs.Ytmippcfdakjhfaa
