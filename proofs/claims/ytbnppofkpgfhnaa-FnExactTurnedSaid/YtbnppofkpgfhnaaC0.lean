import Derived.Test.YtbnppofkpgfhnaaH3
import Derived.Test.YtbnppofkpgfhnaaS7
namespace Go.Proofs.Ytbnppofkpgfhnaa
open Go Go.Ah
set_option linter.unusedSimpArgs false
set_option linter.unusedVariables false
set_option maxRecDepth 10000
set_option maxHeartbeats 4000000
/-! Changes, as plain lists -/
def clipOf (c : Change) : Clip := ⟨c.src, c.inn, c.len⟩
def changeOk (c : Change) : Prop := (c.kind = 3 ∧ clipOk (clipOf c)) ∨ ((c.kind = 1 ∨ c.kind = 2) ∧ c.src = 0 ∧ c.inn = 0 ∧ 1 ≤ c.len ∧ c.len ≤ 10000000)
instance (c : Change) : Decidable (changeOk c) := by unfold changeOk; infer_instance
def changesOk (l : List Change) : Prop := l.length ≤ 300 ∧ ∀ c ∈ l, changeOk c
instance (l : List Change) : Decidable (changesOk l) := by unfold changesOk; infer_instance
def applyStep (a : List Clip) (s : List Clip × Int) (c : Change) : List Clip × Int :=
  if c.kind = 3 then (s.1 ++ [clipOf c], s.2) else if c.kind = 1 then (s.1 ++ partS s.2 (s.2 + c.len) 0 a, s.2 + c.len) else (s.1, s.2 + c.len)
def applyL (a : List Clip) (l : List Change) : List Clip × Int := l.foldl (applyStep a) ([], 0)
def applyF (a : List Clip) (l : List Change) : List Clip × Bool := if trackOk a ∧ changesOk l ∧ (applyL a l).2 = sumLen a then editF (applyL a l).1 else ([], false)
theorem applyL_take (a : List Clip) (l : List Change) (i : Nat) (hi : i < l.length) : applyL a (l.take (i + 1)) = applyStep a (applyL a (l.take i)) l[i] := by
  rw [List.take_succ_eq_append_getElem hi, applyL, List.foldl_append]; rfl
theorem changeOk_len {c : Change} (h : changeOk c) : 1 ≤ c.len ∧ c.len ≤ 10000000 := by
  simp only [changeOk, clipOk, clipOf] at h; omega
theorem applyL_bound (a : List Clip) (l : List Change) (hl : ∀ c ∈ l, changeOk c) (ha : a.length ≤ 300) : 0 ≤ (applyL a l).2 ∧ (applyL a l).2 ≤ 10000000 * l.length ∧ (applyL a l).1.length ≤ 300 * l.length := by
  have key : ∀ (l : List Change) (s : List Clip × Int), (∀ c ∈ l, changeOk c) → s.2 ≤ (l.foldl (applyStep a) s).2 ∧ (l.foldl (applyStep a) s).2 ≤ s.2 + 10000000 * l.length ∧ (l.foldl (applyStep a) s).1.length ≤ s.1.length + 300 * l.length := by
    intro l
    induction l with
    | nil => intro s _; simp
    | cons c l ih =>
      intro s h
      have hc := changeOk_len (h c (by simp))
      have := ih (applyStep a s c) (fun x hx => h x (by simp [hx]))
      have hp := partS_length s.2 (s.2 + c.len) a 0
      have st : s.2 ≤ (applyStep a s c).2 ∧ (applyStep a s c).2 ≤ s.2 + 10000000 ∧ (applyStep a s c).1.length ≤ s.1.length + 300 := by
        unfold applyStep
        split
        · simp; omega
        · split
          · simp only [List.length_append]; omega
          · simp only; omega
      simp only [List.foldl_cons, List.length_cons]; omega
  have := key l ([], 0) hl
  simpa [applyL] using this
theorem changes_take {l : List Change} {i : Nat} (hi : i < l.length) (h : ∀ k ∈ l.take i, changeOk k) (hk : changeOk l[i]) : ∀ k ∈ l.take (i + 1), changeOk k := by
  intro k hm
  rw [List.take_succ_eq_append_getElem hi] at hm
  simp only [List.mem_append, List.mem_singleton] at hm
  rcases hm with hm | rfl
  · exact h k hm
  · exact hk
end Go.Proofs.Ytbnppofkpgfhnaa
