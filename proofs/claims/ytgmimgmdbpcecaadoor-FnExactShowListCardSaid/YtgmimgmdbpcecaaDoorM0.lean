import Derived.Test.YtgmimgmdbpcecaaDoorN0
namespace Go.Proofs.YtgmimgmdbpcecaaDoor
open Go Go.Ah
set_option linter.unusedSimpArgs false
set_option linter.unusedVariables false
theorem SW_mono {P : Program} : ∀ (c : SCode) (Q1 Q2 : Go.Exit → Env → Heap → Prop) (E : Env) (h : Heap), (∀ e E h, Q1 e E h → Q2 e E h) → SW P c Q1 E h → SW P c Q2 E h := by
    intro c
    induction c with
    | skip => intro Q1 Q2 E h k H; exact k _ _ _ H
    | region ops keep =>
      intro Q1 Q2 E h k H
      have am : ∀ (ops : List SOper) (K1 K2 : Env → Heap → Prop) (E : Env) (h : Heap), (∀ E h, K1 E h → K2 E h) → AOps P ops K1 E h → AOps P ops K2 E h := by
        intro ops
        induction ops with
        | nil => intro K1 K2 E h k H; exact k _ _ H
        | cons o os ih => intro K1 K2 E h k H; exact AOne_same (E := E) (E' := E) (fun _ _ => rfl) (fun v h' k' => ih _ _ _ _ k k') H
      exact am ops _ _ E h (fun E h => k _ _ _) H
    | dregion ops keep =>
      intro Q1 Q2 E h k H
      have dm : ∀ (ops : List DOper) (pend : List PE) (K1 K2 : Env → Heap → Prop) (E : Env) (h : Heap), (∀ E h, K1 E h → K2 E h) → DOps P ops pend K1 E h → DOps P ops pend K2 E h := by
        intro ops
        induction ops with
        | nil => intro pend K1 K2 E h k H; exact k _ _ H
        | cons d os ih =>
          intro pend K1 K2 E h k H
          simp only [DOps] at H ⊢
          split at H
          · exact H
          · exact ih _ _ _ _ _ k H
          · split at H
            · obtain ⟨v, h1, h2⟩ := H; exact ⟨v, h1, ih _ _ _ _ _ k h2⟩
            · obtain ⟨v, h1, h2⟩ := H; exact ⟨v, h1, ih _ _ _ _ _ k h2⟩
            · exact AOne_same (E := E) (E' := E) (fun _ _ => rfl) (fun v h' k' => ⟨k'.1, ih _ _ _ _ _ k k'.2⟩) H
      exact dm ops [] _ _ E h (fun E h => k _ _ _) H
    | seq a b iha ihb =>
      intro Q1 Q2 E h k H
      refine iha _ _ E h (fun e E h H => ?_) H
      cases e with
      | normal => exact ihb _ _ E h k H
      | _ => exact k _ _ _ H
    | cond c t e iht ihe =>
      intro Q1 Q2 E h k H
      obtain ⟨b, hb, h1, h2⟩ := H
      exact ⟨b, hb, fun x => iht _ _ _ _ k (h1 x), fun x => ihe _ _ _ _ k (h2 x)⟩
    | block i b ih =>
      intro Q1 Q2 E h k H
      refine ih _ _ E h (fun e E h H => ?_) H
      cases e with
      | exit j => simp only [blockQ] at H ⊢; split at H <;> (rename_i hj; simp only [hj, if_true, if_false]; exact k _ _ _ H)
      | _ => exact k _ _ _ H
    | loop b ih =>
      intro Q1 Q2 E h k H
      obtain ⟨I, hI, hr⟩ := H
      refine ⟨I, hI, fun n E h hn => ih _ _ E h (fun e E h H => ?_) (hr n E h hn)⟩
      cases e with
      | normal => exact H
      | _ => exact k _ _ _ H
    | exit i => intro Q1 Q2 E h k H; exact k _ _ _ H
    | ret => intro Q1 Q2 E h k H; exact k _ _ _ H

/-- Two ways that meet again. -/
theorem SW_if {P : Program} {A : SCode} {Q : Go.Exit → Env → Heap → Prop} {E : Env} {h : Heap} {b : Bool} (S : Env → Heap → Prop)
    (h1 : b = true → SW P A (fun e E h => e = .normal ∧ S E h) E h) (h2 : b = false → S E h) (h3 : ∀ E h, S E h → Q .normal E h) : stepI (some (.bool b)) (SW P A Q) (SW P .skip Q) E h := by
  refine stepI.splitB (fun hb => ?_) (fun hb => h3 _ _ (h2 hb))
  exact SW_mono A _ _ E h (fun e E h H => by obtain ⟨rfl, H⟩ := H; exact h3 _ _ H) (h1 hb)
theorem SW_ifN {P : Program} {A : SCode} {Q : Go.Exit → Env → Heap → Prop} {E : Env} {h : Heap} {b : Bool} (S : Env → Heap → Prop)
    (h1 : b = false → SW P A (fun e E h => e = .normal ∧ S E h) E h) (h2 : b = true → S E h) (h3 : ∀ E h, S E h → Q .normal E h) : stepI (some (.bool b)) (SW P .skip Q) (SW P A Q) E h := by
  refine stepI.splitB (fun hb => h3 _ _ (h2 hb)) (fun hb => ?_)
  exact SW_mono A _ _ E h (fun e E h H => by obtain ⟨rfl, H⟩ := H; exact h3 _ _ H) (h1 hb)
/-- A first part that goes on in one state, or leaves. -/
theorem SW_seq_to {P : Program} {A B : SCode} {Q : Go.Exit → Env → Heap → Prop} {E : Env} {h : Heap} (S : Env → Heap → Prop)
    (h1 : SW P A (fun e E h => (e = .normal ∧ S E h) ∨ (e ≠ .normal ∧ Q e E h)) E h) (h2 : ∀ E h, S E h → SW P B Q E h) : SW P (.seq A B) Q E h := by
  rw [SW_seq]
  refine SW_mono _ _ _ E h (fun e E h H => ?_) h1
  rcases H with ⟨rfl, H⟩ | ⟨hne, H⟩
  · exact h2 _ _ H
  · cases e with
    | normal => exact absurd rfl hne
    | _ => exact H
/-- A loop whose ways out meet again. -/
theorem SW_loop_to {P : Program} {b : SCode} {Q : Go.Exit → Env → Heap → Prop} {E : Env} {h : Heap} (i : Nat) (S : Env → Heap → Prop)
    (h1 : SW P (.loop b) (blockQ i fun e E h => e = .normal ∧ S E h) E h) (h2 : ∀ E h, S E h → Q .normal E h) : SW P (.loop b) (blockQ i Q) E h := by
  refine SW_mono _ _ _ E h (fun e E h H => ?_) h1
  cases e with
  | normal => obtain ⟨_, H⟩ := H; exact h2 _ _ H
  | exit j =>
    simp only [blockQ] at H ⊢
    split at H
    · rename_i hj; rw [if_pos hj]; exact h2 _ _ H.2
    · cases H.1
  | _ => cases H.1
theorem SlT_upTo {α : Type} {h : Heap} {enc : α → List Value} {sz : Nat} {v : Value} {l : List α} (s : SlT h enc sz v l) (k : Nat) (hk : k ≤ l.length) (h0 : 0 < l.length) :
    ∃ u, slcV sz v none (some (.int .i64 (k : Int))) = some u ∧ SlT h enc sz u (l.take k) := by
  have hlen := s.slLen
  rcases s.sl with ⟨rfl, h2⟩ | ⟨rfl, h2⟩ | ⟨i, o, n, ob, rfl, h2, h3, h4, h5⟩
  · simp [slLen] at hlen; omega
  · simp [slLen] at hlen; omega
  · simp only [slLen] at hlen
    have hkn : k * sz ≤ n * sz := Nat.mul_le_mul_right _ (by omega)
    refine ⟨.slice (some ⟨i, o, none⟩) k sz, ?_, ⟨.inr (.inr ⟨i, o, k, ob, rfl, h2, h3, by omega, ?_⟩), s.hs, s.pos⟩⟩
    · simp only [slcV, Option.map_none, Option.getD_none, Option.bind_some, Option.map_some, Option.getD_some, bndV]
      rw [if_pos ⟨by omega, by omega⟩]
      simp [Addr.add]
    · have : (l.take k).flatMap enc = (l.flatMap enc).take (k * sz) := by
        have hsp : l.flatMap enc = (l.take k).flatMap enc ++ (l.drop k).flatMap enc := by rw [← List.flatMap_append, List.take_append_drop]
        have hl1 : ((l.take k).flatMap enc).length = k * sz := by rw [flat_len s.hs, List.length_take, Nat.min_eq_left hk]
        rw [hsp, List.take_append_of_le_length (by omega)]
        exact (List.take_of_length_le (by omega)).symm
      rw [this, ← h5, List.take_take, Nat.min_eq_left hkn]
theorem SlT_from {α : Type} {h : Heap} {enc : α → List Value} {sz : Nat} {v : Value} {l : List α} (s : SlT h enc sz v l) (k : Nat) (hk : k ≤ l.length) (h0 : 0 < l.length) :
    ∃ u, slcV sz v (some (.int .i64 (k : Int))) none = some u ∧ SlT h enc sz u (l.drop k) := by
  have hlen := s.slLen
  rcases s.sl with ⟨rfl, h2⟩ | ⟨rfl, h2⟩ | ⟨i, o, n, ob, rfl, h2, h3, h4, h5⟩
  · simp [slLen] at hlen; omega
  · simp [slLen] at hlen; omega
  · simp only [slLen] at hlen
    have hkn : k * sz ≤ n * sz := Nat.mul_le_mul_right _ (by omega)
    have hsub : (n - k) * sz = n * sz - k * sz := Nat.sub_mul _ _ _
    refine ⟨.slice (some ⟨i, o + k * sz, none⟩) (n - k) sz, ?_, ⟨.inr (.inr ⟨i, o + k * sz, n - k, ob, rfl, h2, h3, by omega, ?_⟩), s.hs, s.pos⟩⟩
    · simp only [slcV, Option.map_none, Option.getD_none, Option.bind_some, Option.map_some, Option.getD_some, bndV]
      rw [if_pos ⟨by omega, by omega⟩]
      simp [Addr.add]
    · have : (l.drop k).flatMap enc = (l.flatMap enc).drop (k * sz) := by
        have hsp : l.flatMap enc = (l.take k).flatMap enc ++ (l.drop k).flatMap enc := by rw [← List.flatMap_append, List.take_append_drop]
        have hl1 : ((l.take k).flatMap enc).length = k * sz := by rw [flat_len s.hs, List.length_take, Nat.min_eq_left hk]
        have hd : List.drop (k * sz) ((l.take k).flatMap enc) = [] := List.drop_eq_nil_of_le (by omega)
        rw [hsp, List.drop_append_of_le_length (by omega), hd, List.nil_append]
      rw [this, ← h5, hsub, List.drop_take, List.drop_drop]
theorem OwnT_upTo {α : Type} {g : Nat} {h : Heap} {enc : α → List Value} {sz : Nat} {v : Value} {l : List α} (s : OwnT g h enc sz v l) (k : Nat) (hk : k ≤ l.length) (h0 : 0 < l.length) :
    ∃ u, slcV sz v none (some (.int .i64 (k : Int))) = some u ∧ OwnT g h enc sz u (l.take k) := by
  have hlen := s.slt.slLen
  rcases s.own with ⟨rfl, h2⟩ | ⟨i, o, n, ob, rfl, h2, h3, h4, h5, h6, h7⟩
  · simp [slLen] at hlen; omega
  · simp only [slLen] at hlen
    have hkn : k * sz ≤ n * sz := Nat.mul_le_mul_right _ (by omega)
    refine ⟨.slice (some ⟨i, o, none⟩) k sz, ?_, ⟨.inr ⟨i, o, k, ob, rfl, h2, h3, by omega, ?_, h6, h7⟩, s.hs, s.pos⟩⟩
    · simp only [slcV, Option.map_none, Option.getD_none, Option.bind_some, Option.map_some, Option.getD_some, bndV]
      rw [if_pos ⟨by omega, by omega⟩]
      simp [Addr.add]
    · have : (l.take k).flatMap enc = (l.flatMap enc).take (k * sz) := by
        have hsp : l.flatMap enc = (l.take k).flatMap enc ++ (l.drop k).flatMap enc := by rw [← List.flatMap_append, List.take_append_drop]
        have hl1 : ((l.take k).flatMap enc).length = k * sz := by rw [flat_len s.hs, List.length_take, Nat.min_eq_left hk]
        rw [hsp, List.take_append_of_le_length (by omega)]
        exact (List.take_of_length_le (by omega)).symm
      rw [this, ← h5, List.take_take, Nat.min_eq_left hkn]
theorem OwnT_from {α : Type} {g : Nat} {h : Heap} {enc : α → List Value} {sz : Nat} {v : Value} {l : List α} (s : OwnT g h enc sz v l) (k : Nat) (hk : k ≤ l.length) (h0 : 0 < l.length) :
    ∃ u, slcV sz v (some (.int .i64 (k : Int))) none = some u ∧ OwnT g h enc sz u (l.drop k) := by
  have hlen := s.slt.slLen
  rcases s.own with ⟨rfl, h2⟩ | ⟨i, o, n, ob, rfl, h2, h3, h4, h5, h6, h7⟩
  · simp [slLen] at hlen; omega
  · simp only [slLen] at hlen
    have hkn : k * sz ≤ n * sz := Nat.mul_le_mul_right _ (by omega)
    have hsub : (n - k) * sz = n * sz - k * sz := Nat.sub_mul _ _ _
    refine ⟨.slice (some ⟨i, o + k * sz, none⟩) (n - k) sz, ?_, ⟨.inr ⟨i, o + k * sz, n - k, ob, rfl, h2, h3, by omega, ?_, h6, h7⟩, s.hs, s.pos⟩⟩
    · simp only [slcV, Option.map_none, Option.getD_none, Option.bind_some, Option.map_some, Option.getD_some, bndV]
      rw [if_pos ⟨by omega, by omega⟩]
      simp [Addr.add]
    · have : (l.drop k).flatMap enc = (l.flatMap enc).drop (k * sz) := by
        have hsp : l.flatMap enc = (l.take k).flatMap enc ++ (l.drop k).flatMap enc := by rw [← List.flatMap_append, List.take_append_drop]
        have hl1 : ((l.take k).flatMap enc).length = k * sz := by rw [flat_len s.hs, List.length_take, Nat.min_eq_left hk]
        have hd : List.drop (k * sz) ((l.take k).flatMap enc) = [] := List.drop_eq_nil_of_le (by omega)
        rw [hsp, List.drop_append_of_le_length (by omega), hd, List.nil_append]
      rw [this, ← h5, hsub, List.drop_take, List.drop_drop]
end Go.Proofs.YtgmimgmdbpcecaaDoor
