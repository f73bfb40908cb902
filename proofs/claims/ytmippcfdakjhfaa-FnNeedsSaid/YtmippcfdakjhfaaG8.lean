import Derived.Test.YtmippcfdakjhfaaG7
namespace Go.Proofs.Ytmippcfdakjhfaa
open Go Go.Ah
set_option linter.unusedSimpArgs false
set_option linter.unusedVariables false
set_option maxRecDepth 10000
set_option maxHeartbeats 4000000
/-! ### Reels told: any sorted permutations tell the same -/
def joins (p r : Reel) : Prop := p.src = r.src ∧ r.fr ≤ p.to
instance (p r : Reel) : Decidable (joins p r) := by unfold joins; infer_instance
def tellStep (out : List Reel) (r : Reel) : List Reel := match out.getLast? with
  | some p => if joins p r then out.dropLast ++ [⟨p.src, p.fr, max p.to r.to⟩] else out ++ [r]
  | none => [r]
def tellL (l : List Reel) : List Reel := l.foldl tellStep []
def sortedR (l : List Reel) : Prop := l.Pairwise fun x y => ltR y x = false
def sameKey (x y : Reel) : Prop := x.src = y.src ∧ x.fr = y.fr
theorem lt_false (x y : Reel) : ltR x y = false ↔ ¬ (x.src < y.src ∨ (x.src = y.src ∧ x.fr < y.fr)) := by rw [← ltR_iff]; cases ltR x y <;> simp
theorem tell_ne (s : List Reel) (r : Reel) : tellStep s r ≠ [] := by
  unfold tellStep; split
  · split <;> simp
  · simp
theorem tell_snoc (s : List Reel) (p r : Reel) : tellStep (s ++ [p]) r = if joins p r then s ++ [⟨p.src, p.fr, max p.to r.to⟩] else s ++ [p, r] := by
  unfold tellStep
  simp
theorem tell_swap (s : List Reel) (x y : Reel) (k : sameKey x y) (hx : x.fr < x.to) (hy : y.fr < y.to) : tellStep (tellStep s x) y = tellStep (tellStep s y) x := by
  obtain ⟨k1, k2⟩ := k
  rcases List.eq_nil_or_concat s with rfl | ⟨t, p, rfl⟩
  · have a : tellStep [] x = [] ++ [x] := rfl
    have b : tellStep [] y = [] ++ [y] := rfl
    rw [a, b, tell_snoc, tell_snoc, if_pos ⟨k1, by omega⟩, if_pos ⟨k1.symm, by omega⟩, k1, k2, Int.max_comm]
  · rw [List.concat_eq_append, tell_snoc, tell_snoc]
    by_cases h : joins p x
    · have h' : joins p y := ⟨h.1.trans k1, by have := h.2; omega⟩
      rw [if_pos h, if_pos h', tell_snoc, tell_snoc, if_pos ⟨h'.1, by have := h'.2; simp only; omega⟩, if_pos ⟨h.1, by have := h.2; simp only; omega⟩]
      simp only
      rw [show max (max p.to x.to) y.to = max (max p.to y.to) x.to by omega]
    · have h' : ¬ joins p y := fun q => h ⟨q.1.trans k1.symm, by have := q.2; omega⟩
      rw [if_neg h, if_neg h']
      rw [show t ++ [p, x] = (t ++ [p]) ++ [x] by simp, show t ++ [p, y] = (t ++ [p]) ++ [y] by simp, tell_snoc, tell_snoc, if_pos ⟨k1, by omega⟩, if_pos ⟨k1.symm, by omega⟩, k1, k2, Int.max_comm]
theorem tell_move (x : Reel) (hx : x.fr < x.to) : ∀ (p s : List Reel), (∀ y ∈ p, sameKey x y ∧ y.fr < y.to) → (p ++ [x]).foldl tellStep s = (x :: p).foldl tellStep s := by
  intro p
  induction p with
  | nil => intro s _; rfl
  | cons y p ih =>
    intro s h
    have hy := h y List.mem_cons_self
    rw [List.cons_append, List.foldl_cons, ih _ (fun z hz => h z (List.mem_cons_of_mem _ hz))]
    simp only [List.foldl_cons]
    rw [tell_swap s y x ⟨hy.1.1.symm, hy.1.2.symm⟩ hy.2 hx]
theorem tell_perm : ∀ (l1 l2 s : List Reel), l1.Perm l2 → sortedR l1 → sortedR l2 → (∀ x ∈ l1, x.fr < x.to) → l1.foldl tellStep s = l2.foldl tellStep s := by
  intro l1
  induction l1 with
  | nil => intro l2 s h _ _ _; rw [List.nil_perm.mp h]
  | cons x t ih =>
    intro l2 s h h1 h2 hv
    have hx : x ∈ l2 := h.subset List.mem_cons_self
    obtain ⟨p, q, rfl⟩ := List.append_of_mem hx
    have h3 : t.Perm (p ++ q) := (List.perm_cons x).mp (h.trans List.perm_middle)
    have hp : ∀ y ∈ p, sameKey x y ∧ y.fr < y.to := by
      intro y hy
      have hy1 : y ∈ t := h3.symm.subset (List.mem_append_left _ hy)
      have a := (List.pairwise_cons.mp h1).1 y hy1
      have b : ltR x y = false := by
        have := (List.pairwise_append.mp h2).2.2 y hy x List.mem_cons_self
        exact this
      rw [lt_false] at a b
      exact ⟨⟨by omega, by omega⟩, hv y (List.mem_cons_of_mem _ hy1)⟩
    have e : (p ++ x :: q).foldl tellStep s = (x :: (p ++ q)).foldl tellStep s := by
      rw [show p ++ x :: q = (p ++ [x]) ++ q by simp, List.foldl_append, tell_move x (hv x List.mem_cons_self) p s hp, ← List.foldl_append]
      rfl
    rw [e, List.foldl_cons, List.foldl_cons]
    refine ih _ _ h3 (List.pairwise_cons.mp h1).2 ?_ (fun y hy => hv y (List.mem_cons_of_mem _ hy))
    refine h2.sublist ?_
    exact List.Sublist.append (List.Sublist.refl _) (List.sublist_cons_self _ _)
/-- The insertion of one from the end. -/
def insPos (l : List Reel) (r : Reel) : Nat → Nat
  | 0 => 0
  | k + 1 => if ltR r (l.getD k zReel) then insPos l r k else k + 1
def insF (l : List Reel) (r : Reel) : List Reel := l.take (insPos l r l.length) ++ r :: l.drop (insPos l r l.length)
def isort (l : List Reel) : List Reel := l.foldl insF []
def toldF (l : List Reel) : List Reel := tellL (isort l)
theorem insPos_le (l : List Reel) (r : Reel) : ∀ k, insPos l r k ≤ k := by
  intro k
  induction k with
  | zero => exact Nat.le_refl _
  | succ k ih => simp only [insPos]; split <;> omega
theorem insF_perm (l : List Reel) (r : Reel) : (insF l r).Perm (r :: l) := by
  unfold insF
  refine List.perm_middle.trans ?_
  rw [List.take_append_drop]
theorem insPos_spec (l : List Reel) (r : Reel) : ∀ k, k ≤ l.length → (∀ j, insPos l r k ≤ j → j < k → ltR r (l.getD j zReel) = true) ∧ (∀ i, insPos l r k = i + 1 → ltR r (l.getD i zReel) = false) := by
  intro k
  induction k with
  | zero => intro _; exact ⟨fun j _ h => by omega, fun i h => by simp [insPos] at h⟩
  | succ k ih =>
    intro hk
    obtain ⟨a, b⟩ := ih (by omega)
    simp only [insPos]
    split
    · rename_i hlt
      refine ⟨fun j h1 h2 => ?_, b⟩
      by_cases hj : j = k
      · subst hj; exact hlt
      · exact a j h1 (by omega)
    · rename_i hlt
      refine ⟨fun j h1 h2 => by omega, fun i hi => ?_⟩
      rw [show i = k by omega]
      simpa using hlt
theorem insF_sorted (l : List Reel) (r : Reel) (h : sortedR l) : sortedR (insF l r) := by
  unfold insF
  obtain ⟨a, b⟩ := insPos_spec l r l.length (Nat.le_refl _)
  have hle := insPos_le l r l.length
  generalize insPos l r l.length = k at a b hle
  have hgd : ∀ i (hi : i < l.length), l.getD i zReel = l[i] := fun i hi => by simp [List.getD, List.getElem?_eq_getElem hi]
  have hs := List.pairwise_iff_getElem.mp h
  refine List.pairwise_append.mpr ⟨h.sublist (List.take_sublist _ _), List.pairwise_cons.mpr ⟨fun y hy => ?_, h.sublist (List.drop_sublist _ _)⟩, fun x hx y hy => ?_⟩
  · obtain ⟨j, hj, rfl⟩ := List.getElem_of_mem hy
    simp only [List.length_drop] at hj
    rw [List.getElem_drop]
    have := a (k + j) (by omega) (by omega)
    rw [hgd _ (by omega), ltR_iff] at this
    rw [lt_false]; omega
  · obtain ⟨i, hi, rfl⟩ := List.getElem_of_mem hx
    simp only [List.length_take] at hi
    rw [List.getElem_take]
    obtain ⟨m, rfl⟩ : ∃ m, k = m + 1 := ⟨k - 1, by omega⟩
    have hb := b m rfl
    rw [hgd m (by omega)] at hb
    have him : ltR l[m] l[i] = false := by
      by_cases e : i = m
      · subst e; exact ltR_swo.irrefl _
      · exact hs i m (by omega) (by omega) (by omega)
    rcases List.mem_cons.mp hy with rfl | hy
    · exact ltR_swo.ntrans _ _ _ hb him
    · obtain ⟨j, hj, rfl⟩ := List.getElem_of_mem hy
      simp only [List.length_drop] at hj
      rw [List.getElem_drop]
      exact hs i (m + 1 + j) (by omega) (by omega) (by omega)
theorem isort_both (l : List Reel) : ∀ s, sortedR s → sortedR (l.foldl insF s) ∧ (l.foldl insF s).Perm (l ++ s) := by
  induction l with
  | nil => intro s h; exact ⟨h, List.Perm.refl _⟩
  | cons x l ih =>
    intro s h
    obtain ⟨a, b⟩ := ih (insF s x) (insF_sorted s x h)
    refine ⟨a, b.trans ?_⟩
    refine (List.Perm.append_left l (insF_perm s x)).trans ?_
    exact List.perm_middle
/-- What any sorted permutation tells. -/
theorem told_any (l l' : List Reel) (hp : l'.Perm l) (hs : ∀ i j (hi : i < l'.length) (hj : j < l'.length), i < j → ltR l'[j] l'[i] = false) (hv : ∀ x ∈ l, x.fr < x.to) : tellL l' = toldF l := by
  obtain ⟨a, b⟩ := isort_both l [] List.Pairwise.nil
  rw [List.append_nil] at b
  exact tell_perm l' (isort l) [] (hp.trans b.symm) (List.pairwise_iff_getElem.mpr fun i j hi hj hij => hs i j hi hj hij) a (fun x hx => hv x (hp.subset hx))
end Go.Proofs.Ytmippcfdakjhfaa
