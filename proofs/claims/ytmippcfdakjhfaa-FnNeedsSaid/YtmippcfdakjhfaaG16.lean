import Derived.Test.YtmippcfdakjhfaaG14
import Derived.Test.YtmippcfdakjhfaaT4
namespace Go.Proofs.Ytmippcfdakjhfaa
open Go Go.Ah
set_option linter.unusedSimpArgs false
set_option linter.unusedVariables false
set_option maxRecDepth 10000
set_option maxHeartbeats 4000000
/-! ### What is needed, plainly -/
theorem tell_reelOk : ∀ (l s : List Reel), (∀ r ∈ l, reelOk r) → (∀ r ∈ s, reelOk r) → ∀ r ∈ l.foldl tellStep s, reelOk r := by
  intro l
  induction l with
  | nil => intro s _ hs; exact hs
  | cons x l ih =>
    intro s hl hs
    rw [List.foldl_cons]
    refine ih _ (fun r hr => hl r (List.mem_cons_of_mem _ hr)) ?_
    have hx := hl x List.mem_cons_self
    rcases List.eq_nil_or_concat s with rfl | ⟨t, p, rfl⟩
    · intro r hr
      have : r ∈ [x] := hr
      rw [List.mem_singleton] at this; rw [this]; exact hx
    · rw [List.concat_eq_append] at hs ⊢
      have hp := hs p (by simp)
      rw [tell_snoc]
      intro r hr
      split at hr
      · rename_i hj
        rcases List.mem_append.mp hr with hr | hr
        · exact hs r (by simp [hr])
        · rw [List.mem_singleton] at hr; subst hr
          obtain ⟨j1, j2⟩ := hj
          unfold reelOk at hp hx ⊢
          simp only
          omega
      · simp only [List.mem_append, List.mem_cons, List.not_mem_nil, or_false] at hr
        rcases hr with hr | rfl | rfl
        · exact hs r (by simp [hr])
        · exact hp
        · exact hx
theorem told_reelOk {l : List Reel} (h : ∀ r ∈ l, reelOk r) : ∀ r ∈ toldF l, reelOk r := by
  have hp := (isort_both l [] List.Pairwise.nil).2
  rw [List.append_nil] at hp
  exact tell_reelOk (isort l) [] (fun r hr => h r (hp.subset hr)) (fun r hr => by cases hr)
theorem needs_facts {ts : List (List Clip)} {n : Int} (h : needsOk ts n) : toldP (needsF ts n) ∧ (∀ r ∈ needsF ts n, reelOk r) ∧ ∀ a f, cov (needsF ts n) a f ↔ cov (needL n ts) a f := by
  unfold needsF
  rw [if_pos h]
  have ok := needL_ok h.2.2 h.2.1.1
  obtain ⟨h1, h2⟩ := told_told (needL n ts) (fun r hr => (ok r hr).2.2.1)
  exact ⟨h1, told_reelOk ok, h2⟩
theorem cov_more {ts : List (List Clip)} {n : Int} (hn : 0 ≤ n) (a f : Int) : cov (needL 0 ts) a f → cov (needL n ts) a f := by
  rintro ⟨r, hr, h1, h2, h3⟩
  unfold needL at hr
  obtain ⟨t, ht, hr⟩ := List.mem_flatMap.mp hr
  unfold needC at hr
  obtain ⟨k, hk, rfl⟩ := List.mem_map.mp hr
  refine ⟨reelC n k, List.mem_flatMap.mpr ⟨t, ht, List.mem_map.mpr ⟨k, hk, rfl⟩⟩, ?_⟩
  unfold reelC at h1 h2 h3 ⊢
  simp only at h1 h2 h3 ⊢
  omega
theorem toldF_nil : toldF [] = [] := rfl
theorem needs_law {ts : List (List Clip)} {n : Int} (h : needsOk ts n) (h1 : (needsF ts n).length ≤ 300) (h2 : (needsF ts 0).length ≤ 300) :
    covF (needsF ts n) (needsF ts n) ∧ covF (needsF ts 0) (needsF ts n) ∧ missF (needsF ts 0) (needsF ts n) = [] ∧ missF (needsF ts n) [] = needsF ts n ∧
    missF (needsF ts n) (missF (needsF ts n) (needsF ts 0)) = missF (needsF ts 0) (missF (needsF ts n) (needsF ts 0)) := by
  have h0 : needsOk ts 0 := ⟨h.1, ⟨by omega, by omega⟩, h.2.2⟩
  obtain ⟨a1, a2, a3⟩ := needs_facts h
  obtain ⟨b1, b2, b3⟩ := needs_facts h0
  have sub : ∀ a f, cov (needsF ts 0) a f → cov (needsF ts n) a f := fun a f q => (a3 a f).mpr (cov_more h.2.1.1 a f ((b3 a f).mp q))
  generalize needsF ts n = l at h1 a1 a2 sub ⊢
  generalize needsF ts 0 = p at h2 b1 b2 sub ⊢
  clear a3 b3
  have rl : reelsF l := ⟨h1, a2⟩
  have rp : reelsF p := ⟨h2, b2⟩
  have r0 : reelsF [] := ⟨by simp, fun x hx => by cases hx⟩
  have m : ∀ {x y : List Reel}, reelsF x → reelsF y → toldP x → toldP y → missF x y = missL x y := by
    intro x y hx hy tx ty
    unfold missF
    rw [if_pos ⟨hx, hy⟩, told_same tx, told_same ty]
  have mll : missF l l = [] := by
    rw [m rl rl a1 a1]
    refine told_eq _ _ (miss_told l l a1 a1) toldP_nil fun a f => ?_
    rw [miss_cov l l a1]
    exact ⟨fun q => absurd q.1 q.2, fun q => absurd q (cov_nil a f)⟩
  have mpl : missF p l = [] := by
    rw [m rp rl b1 a1]
    refine told_eq _ _ (miss_told p l b1 a1) toldP_nil fun a f => ?_
    rw [miss_cov p l a1]
    exact ⟨fun q => absurd (sub a f q.1) q.2, fun q => absurd q (cov_nil a f)⟩
  refine ⟨⟨rl, rl, mll⟩, ⟨rp, rl, mpl⟩, mpl, ?_, ?_⟩
  · rw [m rl r0 a1 toldP_nil]
    refine told_eq _ _ (miss_told l [] a1 toldP_nil) a1 fun a f => ?_
    rw [miss_cov l [] toldP_nil]
    exact ⟨fun q => q.1, fun q => ⟨q, cov_nil a f⟩⟩
  · have hD : missF l p = missL l p := m rl rp a1 b1
    have tD := miss_told l p a1 b1
    have cD := miss_cov l p b1
    rw [hD]
    generalize missL l p = D at tD cD ⊢
    by_cases rD : reelsF D
    · rw [m rl rD a1 tD, m rp rD b1 tD]
      refine told_eq _ _ (miss_told l D a1 tD) (miss_told p D b1 tD) fun a f => ?_
      rw [miss_cov l D tD, miss_cov p D tD, cD]
      constructor
      · rintro ⟨q1, q2⟩
        by_cases q3 : cov p a f
        · exact ⟨q3, fun q => q.2 q3⟩
        · exact absurd ⟨q1, q3⟩ q2
      · rintro ⟨q1, q2⟩
        exact ⟨sub a f q1, q2⟩
    · unfold missF
      rw [if_neg (fun q => rD q.2), if_neg (fun q => rD q.2)]
end Go.Proofs.Ytmippcfdakjhfaa
