import Derived.Test.YtdagajblnlemaaaAhT
set_option linter.unusedVariables false
set_option linter.unusedSimpArgs false
namespace Go.Ah
open Go Go.RowKit

/-! ### Slices of our own, and what changes them -/
/-- No other groups than those from a up to b changed. -/
def Chg (a b : Nat) (h h' : Heap) : Prop := h.size ≤ h'.size ∧ ∀ i ob, h.get i = some ob → ob.grp < a ∨ b ≤ ob.grp → h'.get i = some ob
/-- A slice of our own, of a group from a up to b, or nil. -/
def Mine {α : Type} (a b : Nat) (h : Heap) (enc : α → List Value) (sz : Nat) (v : Value) (l : List α) : Prop :=
  SlT h enc sz v l ∧ ((v = .slice none 0 0 ∧ l = []) ∨ ∃ g, a ≤ g ∧ g < b ∧ OwnT g h enc sz v l)
section
variable {α : Type} {enc : α → List Value} {sz a b : Nat} {h h' : Heap} {v : Value} {l : List α}
theorem Chg.ext {h0 : Heap} (c : Chg a b h h') (e : Ext h0 h) (ha : h0.size ≤ a) : Ext h0 h' := by
  refine ⟨Nat.le_trans e.1 c.1, fun i hi => ?_⟩
  obtain ⟨ob, hob⟩ := Heap.get_some (Nat.lt_of_lt_of_le hi e.1)
  have := Heap.grp_le hob
  rw [c.2 i ob hob (by omega), ← hob]; exact e.2 i hi
theorem Ext.chg (e : Ext h h') : Chg a b h h' := ⟨e.1, fun i ob hi _ => by rw [e.2 i (Heap.get_lt hi)]; exact hi⟩
theorem ExtG.chg {g : Nat} (e : ExtG g h h') (h1 : a ≤ g) (h2 : g < b) : Chg a b h h' := ⟨e.1, fun i ob hi hg => e.2 i ob hi (by omega)⟩
theorem ExtG.top {g : Nat} (e : ExtG g h h') (h1 : h.size ≤ g) : Ext h h' := by
  refine ⟨e.1, fun i hi => ?_⟩
  obtain ⟨ob, hob⟩ := Heap.get_some hi
  have := Heap.grp_le hob
  rw [e.2 i ob hob (by omega), hob]
theorem Fresh.mine (f : Fresh h h' enc sz v l) : Mine h.size h'.size h' enc sz v l := by
  refine ⟨f.slt, ?_⟩
  obtain ⟨e, g, hg, o⟩ := f
  rcases o.own with ⟨rfl, h2⟩ | ⟨i, off, n, ob, rfl, h2, h3⟩
  · left
    have := flat_len o.hs l
    rw [h2] at this
    rcases Nat.mul_eq_zero.mp this.symm with h3 | h3
    · exact ⟨rfl, List.eq_nil_of_length_eq_zero h3⟩
    · have := o.pos; omega
  · right
    have hlt := Heap.get_lt h2
    have hle := Heap.grp_le h2
    refine ⟨g, hg, ?_, o⟩
    have : ob.grp = g := h3.2.2.2.2
    omega
theorem Mine.slt (m : Mine a b h enc sz v l) : SlT h enc sz v l := m.1
theorem Mine.ext (m : Mine a b h enc sz v l) (e : Ext h h') : Mine a b h' enc sz v l := by
  refine ⟨m.1.ext e, ?_⟩
  rcases m.2 with m | ⟨g, h1, h2, o⟩
  · exact .inl m
  · exact .inr ⟨g, h1, h2, o.ext e⟩
theorem Mine.chg {a' b' : Nat} (m : Mine a b h enc sz v l) (c : Chg a' b' h h') (hd : b ≤ a' ∨ b' ≤ a) : Mine a b h' enc sz v l := by
  have key : ∀ g, a ≤ g → g < b → OwnT g h enc sz v l → OwnT g h' enc sz v l := by
    intro g h1 h2 o
    refine ⟨?_, o.hs, o.pos⟩
    rcases o.own with s | ⟨i, off, n, ob, q1, q2, q3, q4, q5, q6, q7⟩
    · exact .inl s
    · exact .inr ⟨i, off, n, ob, q1, c.2 i ob q2 (by omega), q3, q4, q5, q6, q7⟩
  rcases m.2 with ⟨rfl, rfl⟩ | ⟨g, h1, h2, o⟩
  · exact ⟨SlT.nil h' m.1.hs m.1.pos, .inl ⟨rfl, rfl⟩⟩
  · have := key g h1 h2 o
    exact ⟨this.slt, .inr ⟨g, h1, h2, this⟩⟩
/-- A call that marks a slice of our own, whatever its group is. -/
theorem ACall.mine {P : Program} {f : FuncId} {args : List Value} {l' : List α} {r : Value} (m : Mine a b h enc sz v l)
    (H : ∀ g, OwnT g h enc sz v l → ACall P f args h fun r' h' => ExtG g h h' ∧ OwnT g h' enc sz v l' ∧ r' = r) (hn : l = [] → l' = []) :
    ACall P f args h fun r' h' => Chg a b h h' ∧ Mine a b h' enc sz v l' ∧ r' = r := by
  rcases m.2 with ⟨rfl, rfl⟩ | ⟨g, h1, h2, o⟩
  · refine (H h.size (OwnT.nil _ h m.1.hs m.1.pos)).mono fun r' h' ⟨e, o, hr⟩ => ⟨(e.top (Nat.le_refl _)).chg, ⟨o.slt, .inl ⟨rfl, hn rfl⟩⟩, hr⟩
  · exact (H g o).mono fun r' h' ⟨e, o, hr⟩ => ⟨e.chg h1 h2, ⟨o.slt, .inr ⟨g, h1, h2, o⟩⟩, hr⟩
end
theorem eqbV_bool' (ng a b : Bool) : eqbV ng (.bool a) (.bool b) = some (.bool (if ng then !(a == b) else (a == b))) := rfl
end Go.Ah
