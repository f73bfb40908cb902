import Derived.Test.YtdagajblnlemaaaAhU
set_option linter.unusedVariables false
set_option linter.unusedSimpArgs false
namespace Go.Ah
open Go Go.RowKit
section
variable {α : Type} {enc : α → List Value} {sz : Nat} {h H : Heap} {v : Value} {l : List α}
/-- One element appended, behind new boxes that stay as they are. -/
theorem Fresh.app1k (o : Fresh h H enc sz v l) (L : List (List Value)) (x : α) {bytes : Nat} (hr : (l.length + 1) * bytes ≤ 70368744177664) :
    ∃ v' h2, appV (H.more (L ++ [enc x])) bytes sz v (.slice (some ⟨H.size + L.length, 0, none⟩) 1 sz) = some (v', h2) ∧ Fresh h h2 enc sz v' (l ++ [x]) ∧
      ∀ k cs, L[k]? = some cs → (∀ off, ldV h2 (.pointer (some ⟨H.size + k, off, none⟩)) = cs[off]?) ∧ ∀ off n, ldnV h2 n (.pointer (some ⟨H.size + k, off, none⟩)) = cutL cs off n := by
  obtain ⟨e0, g0, hg0, o⟩ := o
  have hs := o.hs
  have pos := o.pos
  have key : ∃ g, h.size ≤ g ∧ (g < H.size ∨ H.size + L.length + 1 ≤ g) ∧ OwnT g H enc sz v l := by
    rcases o.own with ⟨rfl, h2⟩ | ⟨i, off, n, ob, rfl, h2, h3⟩
    · refine ⟨H.size + L.length + 1, by have := e0.1; omega, .inr (Nat.le_refl _), ⟨.inl ⟨rfl, h2⟩, hs, pos⟩⟩
    · have hlt := Heap.get_lt h2
      have hle := Heap.grp_le h2
      have hgr : ob.grp = g0 := h3.2.2.2.2
      exact ⟨g0, hg0, .inl (by omega), o⟩
  obtain ⟨g, hg, hgd, o⟩ := key
  have e1 : Ext H (H.more (L ++ [enc x])) := Ext.more H _
  have s : SlT (H.more (L ++ [enc x])) enc sz (.slice (some ⟨H.size + L.length, 0, none⟩) 1 sz) [x] := by
    have := (OwnT.new (H.more L) [x] hs pos).slt
    simp only [List.flatMap_cons, List.flatMap_nil, List.append_nil, List.length_cons, List.length_nil, Nat.zero_add, more_more, size_more] at this
    exact this
  obtain ⟨v', h2, g', e, O, G, hg'⟩ := (o.ext e1).app s (bytes := bytes) (by simpa using hr)
  refine ⟨v', h2, e, ⟨G.ext (e0.trans e1) hg, g', by have := e0.1; have := e1.1; omega, O⟩, fun k cs hk => ?_⟩
  have hlt := (List.getElem?_eq_some_iff.mp hk).1
  have hget := get_more H (L ++ [enc x]) k
  rw [List.getElem?_append_left hlt, hk] at hget
  have hget2 := G.2 _ _ hget (by simp only; omega)
  refine ⟨fun off => ?_, fun off n => ?_⟩
  · simp only [ldV, rd, hget2, if_true]
  · simp only [ldnV, rdn, hget2, cutL, true_and]
    split <;> rfl
end
end Go.Ah
namespace Go.Ah
open Go Go.RowKit
section
variable {α : Type} {enc : α → List Value} {sz : Nat} {h H H2 : Heap} {v : Value} {l : List α}
/-- One element appended, some calls later: boxes made since stay as they are. -/
theorem Fresh.app1e (o : Fresh h H enc sz v l) (e2 : Ext H H2) (L : List (List Value)) (x : α) {bytes : Nat} (hr : (l.length + 1) * bytes ≤ 70368744177664) :
    ∃ v' h2, appV (H2.more (L ++ [enc x])) bytes sz v (.slice (some ⟨H2.size + L.length, 0, none⟩) 1 sz) = some (v', h2) ∧ Fresh h h2 enc sz v' (l ++ [x]) ∧
      (∀ k cs, L[k]? = some cs → (∀ off, ldV h2 (.pointer (some ⟨H2.size + k, off, none⟩)) = cs[off]?) ∧ ∀ off n, ldnV h2 n (.pointer (some ⟨H2.size + k, off, none⟩)) = cutL cs off n) ∧
      ∀ L0 : List (List Value), Ext (H.more L0) H2 → ∀ k cs, L0[k]? = some cs → (∀ off, ldV h2 (.pointer (some ⟨H.size + k, off, none⟩)) = cs[off]?) ∧ ∀ off n, ldnV h2 n (.pointer (some ⟨H.size + k, off, none⟩)) = cutL cs off n := by
  obtain ⟨e0, g0, hg0, o⟩ := o
  have hs := o.hs
  have pos := o.pos
  have key : ∃ g, h.size ≤ g ∧ (g < H.size ∨ H2.size + L.length + 1 ≤ g) ∧ OwnT g H enc sz v l := by
    rcases o.own with ⟨rfl, h2⟩ | ⟨i, off, n, ob, rfl, h2, h3⟩
    · refine ⟨H2.size + L.length + 1, by have := e0.1; have := e2.1; omega, .inr (Nat.le_refl _), ⟨.inl ⟨rfl, h2⟩, hs, pos⟩⟩
    · have hlt := Heap.get_lt h2
      have hle := Heap.grp_le h2
      have hgr : ob.grp = g0 := h3.2.2.2.2
      exact ⟨g0, hg0, .inl (by omega), o⟩
  obtain ⟨g, hg, hgd, o⟩ := key
  have e1 : Ext H2 (H2.more (L ++ [enc x])) := Ext.more H2 _
  have s : SlT (H2.more (L ++ [enc x])) enc sz (.slice (some ⟨H2.size + L.length, 0, none⟩) 1 sz) [x] := by
    have := (OwnT.new (H2.more L) [x] hs pos).slt
    simp only [List.flatMap_cons, List.flatMap_nil, List.append_nil, List.length_cons, List.length_nil, Nat.zero_add, more_more, size_more] at this
    exact this
  obtain ⟨v', h2, g', e, O, G, hg'⟩ := (o.ext (e2.trans e1)).app s (bytes := bytes) (by simpa using hr)
  have fin : ∀ j cs gr, (H2.more (L ++ [enc x])).get j = some ⟨cs, gr, true, true⟩ → gr ≠ g → (∀ off, ldV h2 (.pointer (some ⟨j, off, none⟩)) = cs[off]?) ∧ ∀ off n, ldnV h2 n (.pointer (some ⟨j, off, none⟩)) = cutL cs off n := by
    intro j cs gr hj hne
    have hget2 := G.2 _ _ hj hne
    refine ⟨fun off => ?_, fun off n => ?_⟩
    · simp only [ldV, rd, hget2, if_true]
    · simp only [ldnV, rdn, hget2, cutL, true_and]
      split <;> rfl
  have hsz := e2.1
  refine ⟨v', h2, e, ⟨G.ext ((e0.trans e2).trans e1) hg, g', by have := e0.1; have := e1.1; omega, O⟩, fun k cs hk => ?_, fun L0 e3 k cs hk => ?_⟩
  · have hlt := (List.getElem?_eq_some_iff.mp hk).1
    have hget := get_more H2 (L ++ [enc x]) k
    rw [List.getElem?_append_left hlt, hk] at hget
    exact fin _ cs _ hget (by omega)
  · have hlt := (List.getElem?_eq_some_iff.mp hk).1
    have hget := get_more H L0 k
    rw [hk] at hget
    have hb : H.size + k < (H.more L0).size := by rw [size_more]; omega
    have hget3 : H2.get (H.size + k) = some ⟨cs, H.size + k, true, true⟩ := by rw [e3.2 _ hb, hget]; rfl
    have hlt2 := Heap.get_lt hget3
    have hget4 : (H2.more (L ++ [enc x])).get (H.size + k) = some ⟨cs, H.size + k, true, true⟩ := by rw [get_more_old _ _ hlt2]; exact hget3
    exact fin _ cs _ hget4 (by omega)
end
end Go.Ah
