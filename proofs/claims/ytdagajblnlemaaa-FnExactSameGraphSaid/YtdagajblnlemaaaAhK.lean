import Derived.Test.YtdagajblnlemaaaAhJ
set_option linter.unusedVariables false
set_option linter.unusedSimpArgs false
namespace Go.Ah
open Go Go.RowKit

section
variable {P : Program} {W0 : World} {N : Nat} {dl : List Deferred} {m0 : Map} {h0 : Heap}

theorem ops_sound (ops : Array Oper) (Q : Go.Exit → Act → World → Prop) {K : Env → Heap → Prop} (hK : ∀ m E h a w, At W0 N dl m0 h0 m E h a w → K E h → Q .normal a w) :
    ∀ (n k : Nat), k + n = ops.size → ∀ (sos : List SOper), slimList P N ops.toList (ops.toList.drop k) = some sos → ∀ (m : Map) (E : Env) (h : Heap) (a : Act) (w : World), At W0 N dl m0 h0 m E h a w →
      AOps P sos K E h → wpOps P ops Q (List.range' k n) a w := by
  intro n
  induction n with
  | zero =>
    intro k hk sos hs m E h a w A H
    rw [List.drop_eq_nil_of_le (by simp; omega)] at hs
    simp only [slimList, Option.some.injEq] at hs; subst hs
    exact hK m E h a w A H
  | succ n ih =>
    intro k hk sos hs m E h a w A H
    have hlt : k < ops.size := by omega
    rw [List.drop_eq_getElem_cons (by simpa using hlt)] at hs
    simp only [slimList] at hs
    replace hs := bind_some hs; obtain ⟨so, hso, hs⟩ := hs
    replace hs := bind_some hs; obtain ⟨l, hl, hs⟩ := hs
    cases hs
    rw [Array.getElem_toList] at hso
    simp only [List.range'_succ, wpOps, Array.getElem?_eq_getElem hlt]
    rcases one_sound hso A H Q (wpOps P ops Q (List.range' (k + 1) n)) (fun m' E' h' a' w' A' H' => ih (k + 1) (by omega) l hl m' E' h' a' w' A' H') with ⟨hw, hg⟩ | ⟨hw, hg⟩
    · rw [if_pos hw]; exact .inl hg
    · rw [if_neg (by simp [hw])]; exact hg

/-- A loop with a ghost that falls. -/
theorem wp_loop_ghost {c : Code} {Q : Go.Exit → Act → World → Prop} (I : Nat → Act → World → Prop) {n : Nat} {a : Act} {w : World} (h₀ : I n a w)
    (round : ∀ n a w, I n a w → c.wp P (Exit.then (fun a' w' => ∃ n', n' < n ∧ I n' a' w') Q) a w) : (Code.loop c).wp P Q a w := by
  intro b k cs
  have key : ∀ n a w, I n a w →
      ∃ e a' w', Q e a' w' ∧ Arrives P (lone (b.at a (.code c :: .inLoop c :: k)) cs w) b k cs e a' w' := by
    intro n
    induction n using Nat.strongRecOn with
    | _ n ih =>
      intro a w hI
      obtain ⟨e, a₁, w₁, hq, harr⟩ := round n a w hI b (.inLoop c :: k) cs
      cases e with
      | normal =>
        obtain ⟨n', hlt, hI₁⟩ := hq
        obtain ⟨e₂, a₂, w₂, hq₂, harr₂⟩ := ih n' hlt a₁ w₁ hI₁
        exact ⟨e₂, a₂, w₂, hq₂, .of_steps (Steps.trans harr (.one step_inLoop)) harr₂⟩
      | exit id => exact ⟨_, a₁, w₁, hq, .pass (x := .inLoop c) rfl (fun _ _ => .inl (by simp)) harr⟩
      | goto l => exact ⟨_, a₁, w₁, hq, .pass (x := .inLoop c) rfl (fun _ _ => .inl (by simp)) harr⟩
      | ret => exact ⟨_, a₁, w₁, hq, .pass (x := .inLoop c) rfl (fun _ _ => .inl (by simp)) harr⟩
      | panic ch => exact ⟨_, a₁, w₁, hq, .pass (x := .inLoop c) rfl (fun _ _ => .inl (by simp)) harr⟩
      | outgrown => exact ⟨_, a₁, w₁, hq, .pass (x := .inLoop c) rfl (fun _ _ => .inl (by simp)) harr⟩
  obtain ⟨e, a', w', hq, harr⟩ := key _ a w h₀
  exact ⟨e, a', w', hq, .of_steps (.one step_loop) harr⟩
end
end Go.Ah
