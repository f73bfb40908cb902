import Derived.Test.YtdagajblnlemaaaAhZ
namespace Go.Ah
open Go
set_option linter.unusedVariables false
/-! Behind a cursor: a slice that is read, and an own one that grows and is written. -/
structure Dw {α β : Type} (c b : Nat) (h0 h : Heap) (enc : α → List Value) (sz : Nat) (v : Value) (l : List α) (enc' : β → List Value) (sz' : Nat) (u : Value) (m : List β) : Prop where
  ext : Ext h0 h
  c0 : h0.size ≤ c
  cb : c < b
  le : b ≤ h.size
  own : ∃ g, b ≤ g ∧ OwnT g h enc sz v l
  mine : Mine (c + 1) b h enc' sz' u m
theorem Mine.lo {α : Type} {a a' b : Nat} {h : Heap} {enc : α → List Value} {sz : Nat} {v : Value} {l : List α} (m : Mine a b h enc sz v l) (ha : a' ≤ a) : Mine a' b h enc sz v l := by
  obtain ⟨s, m | ⟨g, h1, h2, o⟩⟩ := m
  · exact ⟨s, .inl m⟩
  · exact ⟨s, .inr ⟨g, by omega, h2, o⟩⟩
theorem Fk.mine {α : Type} {X : List Nat} {h0 h : Heap} {enc : α → List Value} {sz : Nat} {v : Value} {l : List α} {B : List (Nat × List Value)} (f : Fk X h0 h enc sz v l B) : Mine h0.size h.size h enc sz v l := by
  refine ⟨f.slt, ?_⟩
  obtain ⟨g, hg, o, _⟩ := f.own
  rcases o.own with ⟨rfl, h2⟩ | ⟨i, off, n, ob, rfl, h2, h3⟩
  · left
    have := flat_len o.hs l
    rw [h2] at this
    rcases Nat.mul_eq_zero.mp this.symm with h3 | h3
    · exact ⟨rfl, List.eq_nil_of_length_eq_zero h3⟩
    · have := o.pos; omega
  · right
    have hlt := Heap.get_lt h2
    have hle := Heap.grp_le h2
    refine ⟨g, hg, ?_, o⟩
    have : ob.grp = g := h3.2.2.2.2
    omega
theorem nil_ptr {α : Type} {h : Heap} {enc : α → List Value} {sz : Nat} {v : Value} {l : List α} (s : SlT h enc sz v l) (hl : 0 < l.length) (o : Nat) : nilV (ptrAt v o) = some (ptrAt v o) := by
  have := s.slLen
  rcases s.sl with ⟨rfl, h2⟩ | ⟨rfl, h2⟩ | ⟨i, off, n, ob, rfl, h2⟩
  · simp [slLen] at this; omega
  · simp [slLen] at this; omega
  · rfl
section
variable {α β : Type} {c b : Nat} {enc : α → List Value} {sz : Nat} {h0 h h' : Heap} {v : Value} {l : List α} {enc' : β → List Value} {sz' : Nat} {u : Value} {m : List β}
theorem Dw.slt (t : Dw c b h0 h enc sz v l enc' sz' u m) : SlT h enc sz v l := by obtain ⟨g, _, o⟩ := t.own; exact o.slt
theorem Dw.step (t : Dw c b h0 h enc sz v l enc' sz' u m) (e : Ext h h') : Dw c b h0 h' enc sz v l enc' sz' u m := by
  obtain ⟨g, g1, g2⟩ := t.own
  exact ⟨t.ext.trans e, t.c0, t.cb, Nat.le_trans t.le e.1, ⟨g, g1, g2.ext e⟩, t.mine.ext e⟩
theorem Dw.stepG (t : Dw c b h0 h enc sz v l enc' sz' u m) (e : ExtG c h h') : Dw c b h0 h' enc sz v l enc' sz' u m := by
  obtain ⟨g, g1, g2⟩ := t.own
  have := t.cb
  exact ⟨e.ext t.ext t.c0, t.c0, t.cb, Nat.le_trans t.le e.1, ⟨g, g1, g2.extG e (by omega)⟩, t.mine.chg (e.chg (Nat.le_refl c) (Nat.lt_succ_self c)) (by omega)⟩
theorem Dw.setF (t : Dw c b h0 h enc sz v l enc' sz' u m) {j f n : Nat} (hj : j < l.length) {x : α} {y : Value} (hx : splice (enc l[j]) f y.cells.toList = enc x) (hn : 0 < n) (hy : y.cells.size = n) (hf : f + n ≤ sz) (h1 : oneB y.cells.toList = true) :
    ∃ h2, stV h n (ptrAt v (j * sz + f)) y = some h2 ∧ Dw c b h0 h2 enc sz v (l.set j x) enc' sz' u m ∧ ∃ g, c < g ∧ ExtG g h h2 := by
  obtain ⟨g, g1, g2⟩ := t.own
  have := t.cb; have := t.c0
  obtain ⟨h2, e, O, G, S⟩ := g2.setF hj hx hn hy hf h1
  exact ⟨h2, e, ⟨G.ext t.ext (by omega), t.c0, t.cb, Nat.le_trans t.le G.1, ⟨g, g1, O⟩, t.mine.chg (G.chg (Nat.le_refl g) (Nat.lt_succ_self g)) (by omega)⟩, g, by omega, G⟩
theorem Dw.app1 (t : Dw c b h0 h enc sz v l enc' sz' u m) (L : List (List Value)) (x : α) {bytes : Nat} (hr : (l.length + 1) * bytes ≤ 70368744177664) :
    ∃ v' h2, appV (h.more (L ++ [enc x])) bytes sz v (.slice (some ⟨h.size + L.length, 0, none⟩) 1 sz) = some (v', h2) ∧ Dw c b h0 h2 enc sz v' (l ++ [x]) enc' sz' u m ∧ ∃ g, c < g ∧ ExtG g (h.more (L ++ [enc x])) h2 := by
  obtain ⟨g, g1, g2⟩ := t.own
  have hcb := t.cb; have hc0 := t.c0
  have hs := g2.hs
  have pos := g2.pos
  have s : SlT (h.more (L ++ [enc x])) enc sz (.slice (some ⟨h.size + L.length, 0, none⟩) 1 sz) [x] := by
    have := (OwnT.new (h.more L) [x] hs pos).slt
    simp only [List.flatMap_cons, List.flatMap_nil, List.append_nil, List.length_cons, List.length_nil, Nat.zero_add, more_more, size_more] at this
    exact this
  have t1 := t.step (Ext.more h (L ++ [enc x]))
  have g3 := g2.ext (Ext.more h (L ++ [enc x]))
  obtain ⟨v', h2, g', e, O, G, hg'⟩ := g3.app s (bytes := bytes) (by simpa using hr)
  have hle := t1.le
  exact ⟨v', h2, e, ⟨G.ext t1.ext (by omega), t.c0, t.cb, Nat.le_trans hle G.1, ⟨g', by omega, O⟩, t1.mine.chg (G.chg (Nat.le_refl g) (Nat.lt_succ_self g)) (by omega)⟩, g, by omega, G⟩
end
end Go.Ah
