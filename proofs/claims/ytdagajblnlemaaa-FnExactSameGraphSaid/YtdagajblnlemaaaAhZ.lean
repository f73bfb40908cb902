import Derived.Test.YtdagajblnlemaaaAhY
namespace Go.Ah
open Go
set_option linter.unusedVariables false
/-! A slice that grows, beside another that does not. -/
structure Tw {α β : Type} (a b : Nat) (h0 h : Heap) (enc : α → List Value) (sz : Nat) (v : Value) (l : List α) (B : List (Nat × List Value)) (enc' : β → List Value) (sz' : Nat) (u : Value) (m : List β) : Prop where
  ext : Ext h0 h
  le : b ≤ h.size
  own : ∃ g, h0.size ≤ g ∧ (g < a ∨ b ≤ g) ∧ OwnT g h enc sz v l ∧ ∀ p, p ∈ B → p.1 ≠ g
  box : ∀ p, p ∈ B → h0.size ≤ p.1 ∧ h.get p.1 = some ⟨p.2, p.1, true, true⟩
  mine : Mine a b h enc' sz' u m
section
variable {α β : Type} {a b : Nat} {enc : α → List Value} {sz : Nat} {h0 h h' : Heap} {v : Value} {l : List α} {B : List (Nat × List Value)} {enc' : β → List Value} {sz' : Nat} {u : Value} {m : List β}
theorem Tw.fk (t : Tw a b h0 h enc sz v l B enc' sz' u m) : Fk [] h0 h enc sz v l B := by
  obtain ⟨g, g1, g2, g3, g4⟩ := t.own
  exact ⟨t.ext.toX, ⟨g, g1, g3, g4⟩, t.box⟩
theorem Tw.of {ha : Heap} (F : Fk [] h0 ha enc sz v l B) (G : Fresh ha h enc' sz' u m) : Tw ha.size h.size h0 h enc sz v l B enc' sz' u m := by
  obtain ⟨g, g1, g2, g3, g4⟩ := F.grp h.size G.1.1
  exact ⟨F.ext.ext.trans G.1, Nat.le_refl _, ⟨g, g1, by omega, g3.ext G.1, g4⟩, (F.step G.1).box, G.mine⟩
theorem Tw.step (t : Tw a b h0 h enc sz v l B enc' sz' u m) (e : Ext h h') : Tw a b h0 h' enc sz v l B enc' sz' u m := by
  obtain ⟨g, g1, g2, g3, g4⟩ := t.own
  exact ⟨t.ext.trans e, Nat.le_trans t.le e.1, ⟨g, g1, g2, g3.ext e, g4⟩, (t.fk.step e).box, t.mine.ext e⟩
theorem Tw.app1 (t : Tw a b h0 h enc sz v l B enc' sz' u m) (L : List (List Value)) (x : α) {bytes : Nat} (hr : (l.length + 1) * bytes ≤ 70368744177664) :
    ∃ v' h2, appV (h.more (L ++ [enc x])) bytes sz v (.slice (some ⟨h.size + L.length, 0, none⟩) 1 sz) = some (v', h2) ∧ Tw a b h0 h2 enc sz v' (l ++ [x]) B enc' sz' u m := by
  obtain ⟨g, g1, g2, g3, g4⟩ := t.own
  have hs := g3.hs
  have pos := g3.pos
  have s : SlT (h.more (L ++ [enc x])) enc sz (.slice (some ⟨h.size + L.length, 0, none⟩) 1 sz) [x] := by
    have := (OwnT.new (h.more L) [x] hs pos).slt
    simp only [List.flatMap_cons, List.flatMap_nil, List.append_nil, List.length_cons, List.length_nil, Nat.zero_add, more_more, size_more] at this
    exact this
  have t1 := t.step (Ext.more h (L ++ [enc x]))
  have key : ∃ g, h0.size ≤ g ∧ (g < a ∨ b ≤ g) ∧ (g < (h.more (L ++ [enc x])).size ∨ g = (h.more (L ++ [enc x])).size) ∧ OwnT g (h.more (L ++ [enc x])) enc sz v l ∧ ∀ p, p ∈ B → p.1 ≠ g := by
    have g3 := g3.ext (Ext.more h (L ++ [enc x]))
    rcases g3.own with ⟨rfl, h2⟩ | ⟨i, off, n, ob, rfl, h2, h3⟩
    · refine ⟨(h.more (L ++ [enc x])).size, t1.ext.1, .inr t1.le, .inr rfl, ⟨.inl ⟨rfl, h2⟩, hs, pos⟩, fun p hp => ?_⟩
      have := Heap.get_lt (t1.box p hp).2; omega
    · have := Heap.get_lt h2; have := Heap.grp_le h2
      have : ob.grp = g := h3.2.2.2.2
      exact ⟨g, g1, g2, .inl (by omega), g3, g4⟩
  obtain ⟨g, g1, g2, g5, g3, g4⟩ := key
  obtain ⟨v', h2, g', e, O, G, hg'⟩ := g3.app s (bytes := bytes) (by simpa using hr)
  have hsz := t1.ext.1
  have hle := t1.le
  refine ⟨v', h2, e, G.ext t1.ext g1, Nat.le_trans hle G.1, ⟨g', by omega, by omega, O, fun p hp => ?_⟩, fun p hp => ⟨(t1.box p hp).1, G.2 _ _ (t1.box p hp).2 (g4 p hp)⟩, t1.mine.chg (G.chg (Nat.le_refl g) (Nat.lt_succ_self g)) (by omega)⟩
  have h5 := Heap.get_lt (t1.box p hp).2
  rcases hg' with rfl | rfl
  · exact g4 p hp
  · omega
end
end Go.Ah
