import Derived.Test.YtbnppofkpgfhnaaS5
namespace Go.Proofs.Ytbnppofkpgfhnaa
open Go Go.Ah
set_option linter.unusedSimpArgs false
set_option linter.unusedVariables false
set_option maxRecDepth 10000
set_option maxHeartbeats 4000000
/-! Tracks as rows of frames -/
def frameI (k : Clip) (d : Nat) : Clip := ⟨k.src, if k.src = 0 then k.inn else k.inn + d, 1⟩
def framesI (k : Clip) : List Clip := (List.range k.len.toNat).map (frameI k)
def ex (l : List Clip) : List Clip := l.flatMap framesI
def wfC (k : Clip) : Prop := 1 ≤ k.len ∧ (k.src = 0 → k.inn = 0)
theorem clipOk.wf {k : Clip} (h : clipOk k) : wfC k := by simp only [clipOk] at h; exact ⟨by omega, by omega⟩
theorem joinStep_nil (k : Clip) : joinStep [] k = [k] := rfl
theorem joinStep_snoc (out : List Clip) (a k : Clip) : joinStep (out ++ [a]) k = if a.src = k.src ∧ (k.src = 0 ∨ a.inn + a.len = k.inn) then out ++ [⟨a.src, a.inn, a.len + k.len⟩] else out ++ [a] ++ [k] := by
  unfold joinStep
  have hl : (out ++ [a]).length - 1 = out.length := by simp
  have hg : (out ++ [a])[(out ++ [a]).length - 1]'(by simp) = a := by simp
  rw [dif_pos (by simp), hg]
  split
  · rw [hl, List.set_append_right _ _ (Nat.le_refl _)]; simp
  · rfl
theorem snoc_cases {α : Type} (l : List α) : l = [] ∨ ∃ a b, l = a ++ [b] := by
  rcases List.eq_nil_or_concat l with h | ⟨a, b, h⟩
  · exact .inl h
  · exact .inr ⟨a, b, by simpa using h⟩
theorem framesI_ok (k : Clip) (hk : clipOk k) : ∀ a ∈ framesI k, clipOk a := by
  intro a ha
  simp only [framesI, List.mem_map, List.mem_range] at ha
  obtain ⟨d, hd, rfl⟩ := ha
  simp only [clipOk, frameI] at hk ⊢
  by_cases hg : k.src = 0
  · simp only [if_pos hg]; exact ⟨by omega, by omega, by omega, by omega, by omega, by omega, by omega, by omega⟩
  · simp only [if_neg hg]; exact ⟨by omega, by omega, by omega, by omega, by omega, by omega, by omega, Or.inl hg⟩
theorem framesI_add (a : Clip) (n : Int) (ha : 0 ≤ a.len) (hn : 0 ≤ n) : framesI ⟨a.src, a.inn, a.len + n⟩ = framesI a ++ framesI ⟨a.src, if a.src = 0 then a.inn else a.inn + a.len, n⟩ := by
  unfold framesI
  have : (a.len + n).toNat = a.len.toNat + n.toNat := by omega
  simp only [this, List.range_add, List.map_append, List.map_map]
  congr 1
  apply List.map_congr_left
  intro d _
  simp only [Function.comp, frameI]
  by_cases hg : a.src = 0
  · simp [hg]
  · simp only [hg, if_false, Clip.mk.injEq, true_and, and_true]; omega
theorem joinStep_merge (out : List Clip) (K K1 : Clip) (h1 : K.src = K1.src) (h2 : K1.src = 0 ∨ K.inn + K.len = K1.inn) : joinStep (joinStep out K) K1 = joinStep out ⟨K.src, K.inn, K.len + K1.len⟩ := by
  rcases snoc_cases out with rfl | ⟨o, a, rfl⟩
  · rw [joinStep_nil, joinStep_nil]
    have := joinStep_snoc [] K K1
    rw [if_pos ⟨h1, h2⟩] at this
    simpa using this
  · rw [joinStep_snoc, joinStep_snoc]
    by_cases hf : a.src = K.src ∧ (K.src = 0 ∨ a.inn + a.len = K.inn)
    · rw [if_pos hf, if_pos hf, joinStep_snoc, if_pos ⟨by simp only; omega, by simp only; omega⟩]
      simp only [Int.add_assoc]
    · rw [if_neg hf, if_neg hf, joinStep_snoc, if_pos ⟨h1, h2⟩]
theorem expl_join (n : Nat) : ∀ (s i : Int) (out : List Clip), (framesI ⟨s, i, (n : Int) + 1⟩).foldl joinStep out = joinStep out ⟨s, i, (n : Int) + 1⟩ := by
  induction n with
  | zero =>
    intro s i out
    have : framesI ⟨s, i, ((0 : Nat) : Int) + 1⟩ = [⟨s, i, 1⟩] := by simp [framesI, frameI, List.range_succ]
    rw [this]; simp
  | succ n ih =>
    intro s i out
    have h := framesI_add ⟨s, i, (n : Int) + 1⟩ 1 (by simp only; omega) (by omega)
    simp only at h
    have h1 : framesI ⟨s, if s = 0 then i else i + ((n : Int) + 1), 1⟩ = [⟨s, if s = 0 then i else i + ((n : Int) + 1), 1⟩] := by simp [framesI, frameI, List.range_succ]
    rw [show (((n + 1 : Nat) : Int) + 1) = (n : Int) + 1 + 1 by omega, h, h1, List.foldl_append, ih]
    simp only [List.foldl_cons, List.foldl_nil]
    refine joinStep_merge out ⟨s, i, (n : Int) + 1⟩ _ rfl ?_
    by_cases hs : s = 0
    · exact .inl hs
    · right; simp only [hs, if_false]
theorem clip_join (k : Clip) (hk : wfC k) (out : List Clip) : (framesI k).foldl joinStep out = joinStep out k := by
  obtain ⟨s, i, len⟩ := k
  have h1 := hk.1
  simp only at h1
  obtain ⟨n, rfl⟩ : ∃ n : Nat, len = (n : Int) + 1 := ⟨(len - 1).toNat, by omega⟩
  exact expl_join n s i out
theorem ex_join (l : List Clip) (hl : ∀ k ∈ l, wfC k) : join (ex l) = join l := by
  have key : ∀ (l : List Clip), (∀ k ∈ l, wfC k) → ∀ out, (l.flatMap framesI).foldl joinStep out = l.foldl joinStep out := by
    intro l
    induction l with
    | nil => intro _ out; rfl
    | cons k l ih =>
      intro h out
      rw [List.flatMap_cons, List.foldl_append, clip_join k (h k (by simp)), ih (fun a ha => h a (by simp [ha]))]; rfl
  exact key l hl []
theorem join_eq_of_ex {A B : List Clip} (hA : ∀ k ∈ A, wfC k) (hB : ∀ k ∈ B, wfC k) (h : ex A = ex B) : join A = join B := by
  rw [← ex_join A hA, ← ex_join B hB, h]
theorem ex_append (a b : List Clip) : ex (a ++ b) = ex a ++ ex b := by simp [ex]
theorem ex_one (k : Clip) : ex [k] = framesI k := by simp [ex]
theorem joinStep_wf {out : List Clip} {k : Clip} (ho : ∀ a ∈ out, wfC a) (hk : wfC k) : (∀ a ∈ joinStep out k, wfC a) ∧ ex (joinStep out k) = ex out ++ framesI k ∧ sumLen (joinStep out k) = sumLen out + k.len := by
  rcases snoc_cases out with rfl | ⟨o, a, rfl⟩
  · rw [joinStep_nil]
    exact ⟨fun b hb => by simp at hb; subst hb; exact hk, by simp [ex], by simp [sumLen]⟩
  · rw [joinStep_snoc]
    have ha := ho a (by simp)
    have h1 := ha.1; have h2 := hk.1
    split
    · rename_i hf
      refine ⟨fun b hb => ?_, ?_, ?_⟩
      · simp only [List.mem_append, List.mem_singleton] at hb
        rcases hb with hb | rfl
        · exact ho b (by simp [hb])
        · exact ⟨by simp only; omega, ha.2⟩
      · rw [ex_append, ex_append, ex_one, ex_one, List.append_assoc, framesI_add a k.len (by omega) (by omega)]
        congr 2
        obtain ⟨s, i, len⟩ := k
        simp only at hf
        congr 1
        simp only [Clip.mk.injEq, and_true]
        refine ⟨hf.1, ?_⟩
        by_cases hg : a.src = 0
        · rw [if_pos hg, ha.2 hg]; exact (hk.2 (by simp only; omega)).symm
        · rw [if_neg hg]; omega
      · rw [sumLen_append, sumLen_append]; simp [sumLen]; omega
    · refine ⟨fun b hb => ?_, by rw [ex_append, ex_one], by rw [sumLen_append]; simp [sumLen]⟩
      simp only [List.mem_append, List.mem_singleton] at hb
      rcases hb with hb | rfl
      · exact ho b (by simpa using hb)
      · exact hk
theorem join_facts (l : List Clip) (hl : ∀ k ∈ l, wfC k) : (∀ a ∈ join l, wfC a) ∧ ex (join l) = ex l ∧ sumLen (join l) = sumLen l := by
  have key : ∀ (l : List Clip), (∀ k ∈ l, wfC k) → ∀ out, (∀ a ∈ out, wfC a) → (∀ a ∈ l.foldl joinStep out, wfC a) ∧ ex (l.foldl joinStep out) = ex out ++ ex l ∧ sumLen (l.foldl joinStep out) = sumLen out + sumLen l := by
    intro l
    induction l with
    | nil => intro _ out ho; exact ⟨ho, by simp [ex], by simp [sumLen]⟩
    | cons k l ih =>
      intro h out ho
      obtain ⟨s1, s2, s3⟩ := joinStep_wf ho (h k (by simp))
      obtain ⟨t1, t2, t3⟩ := ih (fun a ha => h a (by simp [ha])) (joinStep out k) s1
      refine ⟨t1, by rw [List.foldl_cons, t2, s2]; simp [ex], ?_⟩
      rw [List.foldl_cons, t3, s3]; simp [sumLen]; omega
  have := key l hl [] (by simp)
  refine ⟨this.1, by have := this.2.1; simpa [ex, join] using this, by have := this.2.2; simpa [sumLen, join] using this⟩
theorem join_idem (l : List Clip) (hl : ∀ k ∈ l, wfC k) : join (join l) = join l := by
  obtain ⟨h1, h2, _⟩ := join_facts l hl
  exact join_eq_of_ex h1 hl h2
theorem len_ex (l : List Clip) (hl : ∀ k ∈ l, wfC k) : ((ex l).length : Int) = sumLen l := by
  induction l with
  | nil => rfl
  | cons k l ih =>
    have h1 := (hl k (by simp)).1
    have h2 := ih (fun a ha => hl a (by simp [ha]))
    have : ex (k :: l) = framesI k ++ ex l := by simp [ex]
    rw [this, List.length_append]
    have h3 : (framesI k).length = k.len.toNat := by simp [framesI]
    have h4 : sumLen (k :: l) = k.len + sumLen l := by simp [sumLen]
    rw [h3, h4]; omega
theorem clipOk_of_frames {k : Clip} (h1 : 1 ≤ k.len) (h2 : k.len ≤ 10000000) (h : ∀ a ∈ framesI k, clipOk a) : clipOk k := by
  have m : ∀ d : Nat, d < k.len.toNat → clipOk (frameI k d) := fun d hd => h _ (by simp only [framesI, List.mem_map, List.mem_range]; exact ⟨d, hd, rfl⟩)
  have a := m 0 (by omega)
  have b := m (k.len.toNat - 1) (by omega)
  simp only [clipOk, frameI] at a b ⊢
  by_cases hg : k.src = 0
  · simp only [if_pos hg] at a b; exact ⟨h1, h2, by omega, by omega, by omega, by omega, by omega, by omega⟩
  · simp only [if_neg hg] at a b; exact ⟨h1, h2, by omega, by omega, by omega, by omega, by omega, Or.inl hg⟩
theorem len_le_sum (l : List Clip) (hl : ∀ k ∈ l, wfC k) : ∀ k ∈ l, k.len ≤ sumLen l ∧ 0 ≤ sumLen l := by
  have pos : ∀ l : List Clip, (∀ k ∈ l, wfC k) → 0 ≤ sumLen l := by
    intro l h; rw [← len_ex l h]; omega
  induction l with
  | nil => intro k hk; cases hk
  | cons a l ih =>
    intro k hk
    have h1 := (hl a (by simp)).1
    have h4 : sumLen (a :: l) = a.len + sumLen l := by simp [sumLen]
    have h5 := pos l (fun b hb => hl b (by simp [hb]))
    rcases List.mem_cons.mp hk with rfl | hk
    · omega
    · have := ih (fun b hb => hl b (by simp [hb])) k hk; omega
theorem join_ok (l : List Clip) (hl : ∀ k ∈ l, clipOk k) (hs : sumLen l ≤ 10000000) : ∀ k ∈ join l, clipOk k := by
  obtain ⟨h1, h2, h3⟩ := join_facts l (fun k hk => (hl k hk).wf)
  intro k hk
  refine clipOk_of_frames (h1 k hk).1 (by have := len_le_sum _ h1 k hk; omega) fun a ha => ?_
  have : a ∈ ex (join l) := by simp only [ex, List.mem_flatMap]; exact ⟨k, hk, ha⟩
  rw [h2] at this
  simp only [ex, List.mem_flatMap] at this
  obtain ⟨b, hb, hab⟩ := this
  exact framesI_ok b (hl b hb) a hab
theorem trackOk_join {l : List Clip} (h : trackOk l) : trackOk (join l) :=
  ⟨Nat.le_trans (join_length l) h.1, join_ok l h.2.1 h.2.2, by rw [(join_facts l (fun k hk => (h.2.1 k hk).wf)).2.2]; exact h.2.2⟩
/-- What an edit answers: a track of the same frames. -/
theorem editF_facts {l u : List Clip} (h : editF l = (u, true)) : (∀ k ∈ l, clipOk k) ∧ u = join l ∧ trackOk u ∧ ex u = ex l ∧ sumLen u = sumLen l := by
  unfold editF at h
  split at h
  · rename_i hc
    obtain ⟨h1, h2⟩ := hc
    cases h
    obtain ⟨_, h4, h5⟩ := join_facts l (fun k hk => (h1 k hk).wf)
    exact ⟨h1, rfl, h2, h4, h5⟩
  · cases h
theorem editF_false {l u : List Clip} (h : editF l = (u, false)) : u = [] := by
  unfold editF at h
  split at h <;> cases h
  rfl
theorem editF_of {l m : List Clip} (hl : ∀ k ∈ l, clipOk k) (ht : trackOk m) (h : ex l = ex m) : editF l = (join m, true) := by
  have hj : join l = join m := join_eq_of_ex (fun k hk => (hl k hk).wf) (fun k hk => (ht.2.1 k hk).wf) h
  unfold editF
  rw [if_pos ⟨hl, by rw [hj]; exact trackOk_join ht⟩, hj]
end Go.Proofs.Ytbnppofkpgfhnaa
