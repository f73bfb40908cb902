import Derived.Test.YtgjppbmbpjomgaaDoorQ10
namespace Go.Proofs.YtgjppbmbpjomgaaDoor
open Go Go.Ah
set_option linter.unusedSimpArgs false
set_option linter.unusedVariables false
/-! ### What is told stands in order, and each of it is so -/
def lx (a b : Worry) : Prop := a.pos < b.pos ∨ (a.pos = b.pos ∧ a.why < b.why)
theorem worL_mem (i : Nat) (bs : List Bool) : ∀ w ∈ worL i bs, w.pos = (i : Int) ∧ ∃ k, ∃ hk : k < bs.length, bs[k] = true ∧ w.why = (k : Int) + 1 := by
  intro w hw
  unfold worL at hw
  rw [List.mem_flatMap] at hw
  obtain ⟨k, hk, hw⟩ := hw
  rw [List.mem_range] at hk
  split at hw
  · rename_i hb
    rw [List.mem_singleton] at hw
    subst hw
    refine ⟨rfl, k, hk, ?_, rfl⟩
    rw [List.getD, List.getElem?_eq_getElem hk] at hb; exact hb
  · cases hw
theorem worL_pair (i : Nat) (bs : List Bool) : (worL i bs).Pairwise lx := by
  have key : ∀ n, n ≤ bs.length → (worL i (bs.take n)).Pairwise lx := by
    intro n
    induction n with
    | zero => intro _; simp [worL]
    | succ n ih =>
      intro hn
      rw [worL_take i bs (by omega), List.pairwise_append]
      refine ⟨ih (by omega), ?_, ?_⟩
      · split <;> simp
      · intro a ha b hb
        obtain ⟨a1, k, hk, a2, a3⟩ := worL_mem i _ a ha
        rw [List.length_take] at hk
        split at hb
        · rw [List.mem_singleton] at hb; subst hb
          exact .inr ⟨a1, by simp only; omega⟩
        · cases hb
  have := key bs.length (Nat.le_refl _)
  rw [List.take_length] at this; exact this
theorem unread_mem (l : List Title) (s : Style) (n : Nat) : ∀ w ∈ unreadL l s n, ∃ i, i < n ∧ w.pos = (i : Int) ∧ ∃ k, ∃ hk : k < (worriesF s l i).length, (worriesF s l i)[k] = true ∧ w.why = (k : Int) + 1 := by
  intro w hw
  unfold unreadL at hw
  rw [List.mem_flatMap] at hw
  obtain ⟨i, hi, hw⟩ := hw
  obtain ⟨h1, h2⟩ := worL_mem i _ w hw
  exact ⟨i, List.mem_range.mp hi, h1, h2⟩
theorem unread_pair (l : List Title) (s : Style) : ∀ n, (unreadL l s n).Pairwise lx := by
  intro n
  induction n with
  | zero => simp [unreadL]
  | succ n ih =>
    rw [unread_succ, List.pairwise_append]
    refine ⟨ih, worL_pair _ _, fun a ha b hb => ?_⟩
    obtain ⟨i, h1, h2, _⟩ := unread_mem l s n a ha
    obtain ⟨h3, _⟩ := worL_mem n _ b hb
    left; omega
/-- What the law asks of each thing told. -/
structure Told (l : List Title) (s : Style) (W : List Worry) (j : Nat) (w : Worry) (p : Nat) (x : Title) : Prop where
  pos : w.pos = (p : Int)
  lt : p < l.length
  at' : tAt l p = x
  tm : timeOk x
  short : w.why = 1 → x.to - x.fr < s.least
  gap : w.why = 2 → 0 < p ∧ x.fr - (tAt l (p - 1)).to < s.gap
  ok : titlesOk l
theorem told_at (l : List Title) (s : Style) {j : Nat} (hj : j < (unreadF l s).length) : ∃ p x, Told l s (unreadF l s) j (unreadF l s)[j] p x := by
  have hm := List.getElem_mem hj
  by_cases c : titlesOk l ∧ styleOk s
  · have e : unreadF l s = unreadL l s l.length := if_pos c
    obtain ⟨i, h1, h2, k, hk, h3, h4⟩ := unread_mem l s l.length _ (by rw [← e]; exact hm)
    refine ⟨i, tAt l i, h2, h1, rfl, (c.1.2 i h1).1, fun q => ?_, fun q => ?_, c.1⟩
    · have : k = 0 := by omega
      subst this
      have : decide ((tAt l i).to - (tAt l i).fr < s.least) = true := h3
      exact of_decide_eq_true this
    · have : k = 1 := by omega
      subst this
      have : (decide ((0 : Int) < (i : Int)) && decide ((tAt l i).fr - (tAt l (i - 1)).to < s.gap)) = true := h3
      rw [Bool.and_eq_true, decide_eq_true_eq, decide_eq_true_eq] at this
      exact ⟨by omega, this.2⟩
  · have e : unreadF l s = [] := if_neg c
    rw [e] at hj; simp at hj
theorem told_order (l : List Title) (s : Style) {j : Nat} (hj : j < (unreadF l s).length) (h0 : 0 < j) : lx ((unreadF l s)[j - 1]'(by omega)) (unreadF l s)[j] := by
  have hp : (unreadF l s).Pairwise lx := by
    unfold unreadF; split
    · exact unread_pair l s _
    · exact .nil
  exact List.pairwise_iff_getElem.mp hp (j - 1) j (by omega) hj (by omega)
theorem worries_shift (l : List Title) (s : Style) (b : Int) {i : Nat} (hi : i < l.length) : worriesF s (l.map (shT b)) i = worriesF s l i := by
  unfold worriesF
  have e1 := tAt_map l b hi
  have e2 := tAt_map l b (show i - 1 < l.length by omega)
  have a1 : (shT b (tAt l i)).to - (shT b (tAt l i)).fr = (tAt l i).to - (tAt l i).fr := by simp only [shT]; omega
  have a2 : (shT b (tAt l i)).fr - (shT b (tAt l (i - 1))).to = (tAt l i).fr - (tAt l (i - 1)).to := by simp only [shT]; omega
  have a3 : (shT b (tAt l i)).tx = (tAt l i).tx := rfl
  rw [e1, e2, a3]
  simp only [a1, a2]
theorem unread_shift (l : List Title) (s : Style) (b : Int) (h : dOk l b) : unreadF (l.map (shT b)) s = unreadF l s := by
  have h2 : titlesOk (l.map (shT b)) := (shift_ok h.1).mpr h.2.2
  by_cases c : styleOk s
  · rw [show unreadF (l.map (shT b)) s = unreadL (l.map (shT b)) s (l.map (shT b)).length from if_pos ⟨h2, c⟩, show unreadF l s = unreadL l s l.length from if_pos ⟨h.1, c⟩, List.length_map]
    unfold unreadL
    refine flat_congr fun i hi => ?_
    rw [List.mem_range] at hi
    rw [worries_shift l s b hi]
  · rw [show unreadF (l.map (shT b)) s = [] from if_neg fun q => c q.2, show unreadF l s = [] from if_neg fun q => c q.2]
end Go.Proofs.YtgjppbmbpjomgaaDoor
