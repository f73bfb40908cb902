import Derived.Test.YtdagajblnlemaaaAhB
set_option linter.unusedVariables false
namespace Go.Ah
open Go Go.RowKit
section
variable {W0 : World} {m : Map} {h : Heap} {w : World}

theorem Rel.kill (r : Rel W0 m h w) (g : Nat) (p : Nat → Bool) : Rel W0 m (h.kill g p) w := by
  have key : ∀ k ok', (h.kill g p).get k = some ok' → ∃ ok, h.get k = some ok ∧ ok'.grp = ok.grp ∧ ok'.rw = ok.rw ∧ ok'.cells = ok.cells ∧ (ok'.live = true → ok.live = true) := by
    intro k ok' hk
    rw [Heap.get_kill] at hk
    cases hq : h.get k with
    | none => rw [hq] at hk; cases hk
    | some ok =>
      rw [hq] at hk; simp only [Option.map_some, Option.some.injEq] at hk
      refine ⟨ok, rfl, ?_⟩
      split at hk <;> subst hk <;> simp
  refine ⟨r.below, fun i x e => by rw [Heap.size_kill]; exact r.dom i x e, r.shape, ?_, ?_, ?_, ?_, ?_, r.same, ?_, r.gl⟩
  · intro i b o S obj e1 e2 e3
    obtain ⟨x, a1, a2, a3, a4, a5⟩ := key i obj e2
    rw [a4]; exact r.cells i b o S x e1 a1 (a5 e3)
  · intro i b o S obj e1 e2 e3
    obtain ⟨x, a1, a2, a3, a4, a5⟩ := key i obj e2
    rw [a4]; exact r.one i b o S x e1 a1 (a5 e3)
  · intro i b o S obj e1 e2 e3
    obtain ⟨x, a1, a2, a3, a4, a5⟩ := key i obj e2
    exact r.rw i b o S x e1 a1 (a3 ▸ e3)
  · intro i k b o S o' S' oi ok e1 e2 g1 g2 g3
    obtain ⟨x, a1, a2, a3, a4, a5⟩ := key i oi g1
    obtain ⟨y, b1, b2, b3, b4, b5⟩ := key k ok g2
    rw [a2, b2]; exact r.sep i k b o S o' S' x y e1 e2 a1 b1 (a3 ▸ g3)
  · intro i k b o S o' S' oi ok hik e1 e2 g1 g2 g3 g4 g5
    obtain ⟨x, a1, a2, a3, a4, a5⟩ := key i oi g1
    obtain ⟨y, b1, b2, b3, b4, b5⟩ := key k ok g2
    rw [a4, b4]; exact r.ord i k b o S o' S' x y hik e1 e2 a1 b1 (a5 g3) (b5 g4) (by rw [← a2, ← b2]; exact g5)
  · intro i k oi ok hik hk g1 g2
    obtain ⟨x, a1, a2, a3, a4, a5⟩ := key i oi g1
    obtain ⟨y, b1, b2, b3, b4, b5⟩ := key k ok g2
    rw [a2, b2]; exact r.fresh i k x y hik hk a1 b1

theorem Rel.storeFree (r : Rel W0 m h w) {b : Nat} {c : Array Value} {e : TypeId} {f : Nat × Nat} (hb : w.heap[b]? = some (.cells c e f)) (hW : W0.heap.size ≤ b)
    {c2 : List Value} (hl : c2.length = c.size)
    (hx : ∀ k o S ok, m k = some (b, o, S) → h.get k = some ok → ok.live = true → ∀ j, j < ok.cells.length → c2[o + j]? = c[o + j]?) : Rel W0 m h (withBlock w b c2 e f) := by
  have hbl := (Array.getElem?_eq_some_iff.mp hb).1
  have hother : ∀ k, k ≠ b → (withBlock w b c2 e f).heap[k]? = w.heap[k]? := fun k hk => withBlock_other hk
  have hthis : (withBlock w b c2 e f).heap[b]? = some (.cells c2.toArray e f) := withBlock_get hbl
  refine ⟨?_, r.dom, ?_, ?_, r.one, ?_, r.sep, r.ord, r.same, r.fresh, r.gl⟩
  · exact ⟨r.below.os, r.below.tape, r.below.output, by simp [withBlock]; exact r.below.size, fun k hk => by rw [hother k (by omega)]; exact r.below.block k hk⟩
  · intro k b' o' S' e1
    obtain ⟨c1, e1', f1, h1, h2⟩ := r.shape k b' o' S' e1
    by_cases hbb : b' = b
    · subst hbb; rw [hb] at h1; cases h1; exact ⟨_, _, _, hthis, by simp [hl]; exact h2⟩
    · rw [hother _ hbb]; exact ⟨c1, e1', f1, h1, h2⟩
  · intro k b' o' S' ok e1 e2 e3
    obtain ⟨a, d⟩ := r.cells k b' o' S' ok e1 e2 e3
    refine ⟨a, fun j v ej => ?_⟩
    by_cases hbb : b' = b
    · subst hbb
      obtain ⟨v', hv', rv⟩ := d j v ej
      refine ⟨v', ?_, rv⟩
      rw [cell_of_block hthis]; rw [cell_of_block hb] at hv'
      have hj : j < ok.cells.length := (List.getElem?_eq_some_iff.mp ej).1
      simp only [List.getElem?_toArray]
      rw [hx k o' S' ok e1 e2 e3 j hj]; exact hv'
    · rw [World.cell?_of_block (w := w) (hother b' hbb)]; exact d j v ej
  · intro k b' o' S' ok e1 e2 e3
    obtain ⟨a, c1, e1', f1', d, df⟩ := r.rw k b' o' S' ok e1 e2 e3
    refine ⟨a, ?_⟩
    by_cases hbb : b' = b
    · subst hbb; rw [hb] at d; cases d; exact ⟨_, _, _, hthis, by simp [hl]; exact df⟩
    · rw [hother _ hbb]; exact ⟨c1, e1', f1', d, df⟩

/-- The same cells, marked otherwise. -/
theorem Rel.refz (r : Rel W0 m h w) {b : Nat} {c : Array Value} {e : TypeId} {f : Nat × Nat} (hb : w.heap[b]? = some (.cells c e f)) (hW : W0.heap.size ≤ b)
    {f' : Nat × Nat} (hz : Fz c.size f → Fz c.size f') : Rel W0 m h (withBlock w b c.toList e f') := by
  have hbl := (Array.getElem?_eq_some_iff.mp hb).1
  have hother : ∀ k, k ≠ b → (withBlock w b c.toList e f').heap[k]? = w.heap[k]? := fun k hk => withBlock_other hk
  have hthis : (withBlock w b c.toList e f').heap[b]? = some (.cells c.toList.toArray e f') := withBlock_get hbl
  refine ⟨?_, r.dom, ?_, ?_, r.one, ?_, r.sep, r.ord, r.same, r.fresh, r.gl⟩
  · exact ⟨r.below.os, r.below.tape, r.below.output, by simp [withBlock]; exact r.below.size, fun k hk => by rw [hother k (by omega)]; exact r.below.block k hk⟩
  · intro k b' o' S' e1
    obtain ⟨c1, e1', f1, h1, h2⟩ := r.shape k b' o' S' e1
    by_cases hbb : b' = b
    · subst hbb; rw [hb] at h1; cases h1; exact ⟨_, _, _, hthis, by simpa using h2⟩
    · rw [hother _ hbb]; exact ⟨c1, e1', f1, h1, h2⟩
  · intro k b' o' S' ok e1 e2 e3
    obtain ⟨a, d⟩ := r.cells k b' o' S' ok e1 e2 e3
    refine ⟨a, fun j v ej => ?_⟩
    by_cases hbb : b' = b
    · subst hbb
      obtain ⟨v', hv', rv⟩ := d j v ej
      refine ⟨v', ?_, rv⟩
      rw [cell_of_block hthis]; rw [cell_of_block hb] at hv'
      simpa using hv'
    · rw [World.cell?_of_block (w := w) (hother b' hbb)]; exact d j v ej
  · intro k b' o' S' ok e1 e2 e3
    obtain ⟨a, c1, e1', f1', d, df⟩ := r.rw k b' o' S' ok e1 e2 e3
    refine ⟨a, ?_⟩
    by_cases hbb : b' = b
    · subst hbb; rw [hb] at d; cases d; exact ⟨_, _, _, hthis, by simpa using hz df⟩
    · rw [hother _ hbb]; exact ⟨c1, e1', f1', d, df⟩

theorem Rel.allocW (r : Rel W0 m h w) (o : Go.Obj) : Rel W0 m h (w.alloc o) := by
  have hold : ∀ k, k < w.heap.size → (w.alloc o).heap[k]? = w.heap[k]? := fun k hk => Below.heap_alloc _ _ _ hk
  refine ⟨r.below.alloc r.below.size _, r.dom, ?_, ?_, r.one, ?_, r.sep, r.ord, r.same, r.fresh, r.gl⟩
  · intro k b' o' S' e1; rw [hold _ (r.blt e1)]; exact r.shape k b' o' S' e1
  · intro k b' o' S' ok e1 e2 e3
    obtain ⟨a, d⟩ := r.cells k b' o' S' ok e1 e2 e3
    refine ⟨a, fun j v ej => ?_⟩
    rw [World.cell?_of_block (w := w) (hold b' (r.blt e1))]; exact d j v ej
  · intro k b' o' S' ok e1 e2 e3; rw [hold _ (r.blt e1)]; exact r.rw k b' o' S' ok e1 e2 e3

/-- An object more, at a place of a block that is there. -/
def Heap.add (h : Heap) (cells : List Value) (g : Nat) (hg : g ≤ h.size) : Heap where
  objs := h.objs ++ [⟨cells, g, true, true⟩]
  wf := by
    intro i o e
    rw [List.getElem?_append] at e
    split at e
    · exact h.wf i o e
    · rename_i hi
      cases hq : i - h.objs.length with
      | zero => rw [hq] at e; simp at e; subst e; simp; simp [Heap.size] at hg; omega
      | succ n => rw [hq] at e; simp at e
theorem Heap.size_add (h : Heap) (cs : List Value) (g : Nat) (hg : g ≤ h.size) : (h.add cs g hg).size = h.size + 1 := by simp [Heap.add, Heap.size]
theorem Heap.get_add_new (h : Heap) (cs : List Value) (g : Nat) (hg : g ≤ h.size) : (h.add cs g hg).get h.size = some ⟨cs, g, true, true⟩ := by
  simp [Heap.add, Heap.size, Heap.get]
theorem Heap.get_add_old (h : Heap) (cs : List Value) (g : Nat) (hg : g ≤ h.size) {i : Nat} (hi : i < h.size) : (h.add cs g hg).get i = h.get i := by
  simp only [Heap.add, Heap.get]; exact List.getElem?_append_left hi

theorem Rel.addAt (r : Rel W0 m h w) {cells : List Value} {g : Nat} (hg : g ≤ h.size) {b o S : Nat} {c : Array Value} {e : TypeId} {f : Nat × Nat}
    (hb : w.heap[b]? = some (.cells c e f)) (hf : Fz c.size f) (hS : c.size = S) (hW : W0.heap.size ≤ b) (ho : o + cells.length ≤ S)
    (hv : ∀ (j : Nat) v, cells[j]? = some v → ∃ v', c[o + j]? = some v' ∧ VR m v v') (h1 : ∀ (j : Nat) v, cells[j]? = some v → v.oneCell' = true)
    (hsep : ∀ k o' S' ok, m k = some (b, o', S') → h.get k = some ok → ok.grp = g)
    (hord : ∀ k o' S' ok, m k = some (b, o', S') → h.get k = some ok → ok.live = true → o' + ok.cells.length ≤ o + cells.length)
    (hfr : ∀ k ok, m k = none → h.get k = some ok → ok.grp ≠ g) :
    Rel W0 (m.set h.size (b, o, S)) (h.add cells g hg) w ∧ Step m h (m.set h.size (b, o, S)) (h.add cells g hg) := by
  have hn : m h.size = none := r.unm (Nat.le_refl _)
  have hle := Map.le_set (x := (b, o, S)) hn
  have hcase : ∀ k b' o' S', (m.set h.size (b, o, S)) k = some (b', o', S') → (k = h.size ∧ b' = b ∧ o' = o ∧ S' = S) ∨ (k < h.size ∧ m k = some (b', o', S')) := by
    intro k b' o' S' e1
    by_cases hk : k = h.size
    · subst hk; rw [Map.set_same] at e1; cases e1; exact .inl ⟨rfl, rfl, rfl, rfl⟩
    · rw [Map.set_other _ _ hk] at e1; exact .inr ⟨r.dom _ _ e1, e1⟩
  have gold : ∀ {k}, k < h.size → (h.add cells g hg).get k = h.get k := fun hk => Heap.get_add_old h cells g hg hk
  have gnew := Heap.get_add_new h cells g hg
  have hsame : ∀ k o' S', m k = some (b, o', S') → S' = S := by
    intro k o' S' e1; obtain ⟨c1, e1', f1, h1, h2⟩ := r.shape k b o' S' e1; rw [hb] at h1; cases h1; omega
  refine ⟨⟨r.below, ?_, ?_, ?_, ?_, ?_, ?_, ?_, ?_, ?_, r.gl⟩, ⟨by rw [Heap.size_add]; omega, fun i hi => Map.set_other _ _ (by omega), fun i hi _ => gold hi⟩⟩
  · intro k x e1
    by_cases hk : k = h.size
    · subst hk; rw [Heap.size_add]; omega
    · rw [Map.set_other _ _ hk] at e1; rw [Heap.size_add]; exact Nat.lt_succ_of_lt (r.dom _ _ e1)
  · intro k b' o' S' e1
    rcases hcase k b' o' S' e1 with ⟨rfl, rfl, rfl, rfl⟩ | ⟨hk, e1⟩
    · exact ⟨c, e, _, hb, hS⟩
    · exact r.shape k b' o' S' e1
  · intro k b' o' S' ob e1 e2 e3
    rcases hcase k b' o' S' e1 with ⟨rfl, rfl, rfl, rfl⟩ | ⟨hk, e1⟩
    · rw [gnew] at e2; cases e2
      refine ⟨ho, fun j v ej => ?_⟩
      obtain ⟨v', hv', rv⟩ := hv j v ej
      exact ⟨v', by rw [cell_of_block hb]; exact hv', rv.mono hle⟩
    · rw [gold hk] at e2
      obtain ⟨a, d⟩ := r.cells k b' o' S' ob e1 e2 e3
      refine ⟨a, fun j v ej => ?_⟩
      obtain ⟨v', hv', rv⟩ := d j v ej
      exact ⟨v', hv', rv.mono hle⟩
  · intro k b' o' S' ob e1 e2 e3
    rcases hcase k b' o' S' e1 with ⟨rfl, rfl, rfl, rfl⟩ | ⟨hk, e1⟩
    · rw [gnew] at e2; cases e2; exact h1
    · rw [gold hk] at e2; exact r.one k b' o' S' ob e1 e2 e3
  · intro k b' o' S' ob e1 e2 e3
    rcases hcase k b' o' S' e1 with ⟨rfl, rfl, rfl, rfl⟩ | ⟨hk, e1⟩
    · exact ⟨hW, c, e, f, hb, hf⟩
    · rw [gold hk] at e2; exact r.rw k b' o' S' ob e1 e2 e3
  · intro k l b' o1 S1 o2 S2 ok ol e1 e2 g1 g2 g3
    rcases hcase k b' o1 S1 e1 with ⟨rfl, rfl, rfl, rfl⟩ | ⟨hk, f1⟩ <;> rcases hcase l _ o2 S2 e2 with ⟨rfl, hx, rfl, rfl⟩ | ⟨hk2, f2⟩
    · rw [g1] at g2; cases g2; rfl
    · rw [gnew] at g1; cases g1; rw [gold hk2] at g2; exact (hsep l o2 S2 ol f2 g2).symm
    · subst hx; rw [gnew] at g2; cases g2; rw [gold hk] at g1; exact hsep k o1 S1 ok f1 g1
    · rw [gold hk] at g1; rw [gold hk2] at g2; exact r.sep k l b' o1 S1 o2 S2 ok ol f1 f2 g1 g2 g3
  · intro k l b' o1 S1 o2 S2 ok ol hkl e1 e2 g1 g2 g3 g4 g5
    rcases hcase k b' o1 S1 e1 with ⟨rfl, rfl, rfl, rfl⟩ | ⟨hk, f1⟩ <;> rcases hcase l _ o2 S2 e2 with ⟨rfl, hx, rfl, rfl⟩ | ⟨hk2, f2⟩
    · omega
    · omega
    · subst hx; rw [gnew] at g2; cases g2; rw [gold hk] at g1; exact hord k o1 S1 ok f1 g1 g3
    · rw [gold hk] at g1; rw [gold hk2] at g2; exact r.ord k l b' o1 S1 o2 S2 ok ol hkl f1 f2 g1 g2 g3 g4 g5
  · intro k l b' o1 S1 o2 S2 e1 e2
    rcases hcase k b' o1 S1 e1 with ⟨rfl, rfl, rfl, rfl⟩ | ⟨hk, f1⟩ <;> rcases hcase l _ o2 S2 e2 with ⟨rfl, hx, rfl, rfl⟩ | ⟨hk2, f2⟩
    · rfl
    · exact (hsame l o2 S2 f2).symm
    · subst hx; exact hsame k o1 S1 f1
    · exact r.same k l b' o1 S1 o2 S2 f1 f2
  · intro k l ok ol hkl hl2 g1 g2
    have hli : l ≠ h.size := by intro hx; subst hx; rw [Map.set_same] at hl2; cases hl2
    rw [Map.set_other _ _ hli] at hl2
    have hl3 : l < h.size := by have := Heap.get_lt g2; rw [Heap.size_add] at this; omega
    rw [gold hl3] at g2
    by_cases hk : k = h.size
    · subst hk; rw [gnew] at g1; cases g1; exact fun hx => hfr l ol hl2 g2 hx.symm
    · have hk3 : k < h.size := by have := Heap.get_lt g1; rw [Heap.size_add] at this; omega
      rw [gold hk3] at g1; exact r.fresh k l ok ol hkl hl2 g1 g2

end

/-! ### append, quietly -/
/-- The heap behind an append to a piece of object i (group g; full: the piece ends where the object does). -/
def Heap.push (h : Heap) (i g : Nat) (full : Bool) (cells : List Value) (hg : g ≤ h.size) : Heap :=
  (h.kill g fun k => decide (i < k) || !full).add cells g (by rw [Heap.size_kill]; exact hg)
theorem Heap.size_push (h : Heap) (i g : Nat) (full : Bool) (cs : List Value) (hg : g ≤ h.size) : (h.push i g full cs hg).size = h.size + 1 := by
  unfold Heap.push; rw [Heap.size_add, Heap.size_kill]
theorem Heap.get_push_new (h : Heap) (i g : Nat) (full : Bool) (cs : List Value) (hg : g ≤ h.size) : (h.push i g full cs hg).get h.size = some ⟨cs, g, true, true⟩ := by
  have key : ∀ n, n = (h.kill g fun k => decide (i < k) || !full).size → (h.push i g full cs hg).get n = some ⟨cs, g, true, true⟩ := by
    intro n hn; subst hn; exact Heap.get_add_new _ _ _ _
  exact key _ (Heap.size_kill _ _ _).symm
theorem Heap.get_push_old (h : Heap) (i g : Nat) (full : Bool) (cs : List Value) (hg : g ≤ h.size) {k : Nat} (hk : k < h.size) {o : Obj} (ho : h.get k = some o) :
    (h.push i g full cs hg).get k = some (if o.grp = g ∧ (decide (i < k) || !full) = true then { o with live := false } else o) := by
  unfold Heap.push
  rw [Heap.get_add_old _ _ _ _ (by rw [Heap.size_kill]; exact hk), Heap.get_kill, ho]; rfl

section
variable {W0 : World} {m : Map} {h : Heap} {w : World}

/-- Append within the room. -/
theorem Rel.appIn (r : Rel W0 m h w) {i b o S : Nat} {obj : Obj} (hm : m i = some (b, o, S)) (hi : h.get i = some obj) (hl : obj.live = true) (hrw : obj.rw = true)
    {c : Array Value} {e : TypeId} {f : Nat × Nat} (hb : w.heap[b]? = some (.cells c e f)) {off n : Nat} {vs vs' : List Value} (hv : VRs m vs vs') (h1 : ∀ (j : Nat) v, vs[j]? = some v → v.oneCell' = true)
    (hp : off + n ≤ obj.cells.length) (hroom : o + off + n + vs.length ≤ S) (hg : obj.grp ≤ h.size) :
    Rel W0 (m.set h.size (b, o + off, S)) (h.push i obj.grp (decide (off + n = obj.cells.length)) ((obj.cells.drop off).take n ++ vs) hg) (withBlock w b (splice c.toList (o + off + n) vs') e f) ∧
    Step m h (m.set h.size (b, o + off, S)) (h.push i obj.grp (decide (off + n = obj.cells.length)) ((obj.cells.drop off).take n ++ vs) hg) := by
  have hcS : c.size = S := by obtain ⟨c1, e1, f1, h1, h2⟩ := r.shape i b o S hm; rw [hb] at h1; cases h1; exact h2
  obtain ⟨hW, c9, e9, f9, hq9, hf⟩ := r.rw i b o S obj hm hi hrw
  rw [hb] at hq9; cases hq9
  obtain ⟨hoS, hcells⟩ := r.cells i b o S obj hm hi hl
  have hbl := r.blt hm
  have hlen : (splice c.toList (o + off + n) vs').length = c.size := by rw [length_splice _ _ _ (by simp [← hv.1]; omega)]; simp
  have hend : ∀ k o' S' ok, m k = some (b, o', S') → (h.kill obj.grp fun k => decide (i < k) || !(decide (off + n = obj.cells.length))).get k = some ok → ok.live = true → o' + ok.cells.length ≤ o + off + n := by
    intro k o' S' ok e1 e2 e3
    rw [Heap.get_kill] at e2
    cases hq : h.get k with
    | none => rw [hq] at e2; cases e2
    | some x =>
      rw [hq] at e2; simp only [Option.map_some, Option.some.injEq] at e2
      have hxg : x.grp = obj.grp := (r.sep i k b o S o' S' obj x hm e1 hi hq hrw).symm
      split at e2
      · subst e2; simp at e3
      · rename_i hno
        subst e2
        have hno' : ¬ ((decide (i < k) || !(decide (off + n = obj.cells.length))) = true) := fun hx => hno ⟨hxg, hx⟩
        simp at hno'
        obtain ⟨hk, hf⟩ := hno'
        by_cases hki : k = i
        · subst hki; rw [hi] at hq; cases hq; rw [hm] at e1; cases e1; omega
        · have := r.ord k i b o' S' o S x obj (by omega) e1 hm hq hi e3 hl hxg
          omega
  have r1 := r.kill obj.grp (fun k => decide (i < k) || !(decide (off + n = obj.cells.length)))
  have r2 := r1.storeFree hb hW hlen (by
    intro k o' S' ok e1 e2 e3 j hj
    have := hend k o' S' ok e1 e2 e3
    rw [get_splice_out _ _ _ (by simp [← hv.1]; omega) _ (.inl (by omega))]; simp)
  have hsz : (h.kill obj.grp fun k => decide (i < k) || !(decide (off + n = obj.cells.length))).size = h.size := Heap.size_kill _ _ _
  have hpl : ((obj.cells.drop off).take n).length = n := by simp; omega
  have hkey : ∀ k ok, (h.kill obj.grp fun k => decide (i < k) || !(decide (off + n = obj.cells.length))).get k = some ok → ∃ x, h.get k = some x ∧ ok.grp = x.grp := by
    intro k ok e2
    rw [Heap.get_kill] at e2
    cases hq : h.get k with
    | none => rw [hq] at e2; cases e2
    | some x => rw [hq] at e2; simp only [Option.map_some, Option.some.injEq] at e2; refine ⟨x, rfl, ?_⟩; split at e2 <;> subst e2 <;> rfl
  have r3 := r2.addAt (cells := (obj.cells.drop off).take n ++ vs) (g := obj.grp) (by rw [hsz]; exact hg) (b := b) (o := o + off) (S := S) (withBlock_get hbl) (by simp [hlen]; exact hf) (by simp [hlen]; exact hcS) hW
    (by simp only [List.length_append, hpl]; omega)
    (by
      intro j v ej
      simp only [List.getElem?_toArray]
      rw [List.getElem?_append] at ej
      split at ej
      · rename_i hj; rw [hpl] at hj
        rw [List.getElem?_take, if_pos hj, List.getElem?_drop] at ej
        obtain ⟨v', hv', rv⟩ := hcells _ v ej
        refine ⟨v', ?_, rv⟩
        rw [get_splice_out _ _ _ (by simp [← hv.1]; omega) _ (.inl (by omega))]
        rw [cell_of_block hb] at hv'; rw [Nat.add_assoc]; simpa using hv'
      · rename_i hj; rw [hpl] at hj ej
        obtain ⟨v', hv', rv⟩ := hv.2 _ v ej
        have hj2 := (List.getElem?_eq_some_iff.mp hv').1
        refine ⟨v', ?_, rv⟩
        obtain ⟨q, rfl⟩ : ∃ q, j = n + q := ⟨j - n, by omega⟩
        rw [show o + off + (n + q) = o + off + n + q by omega, get_splice_in _ _ _ (by simp [← hv.1]; omega) _ (by simpa using hj2)]
        simpa using hv')
    (by
      intro j v ej
      rw [List.getElem?_append] at ej
      split at ej
      · rename_i hj; rw [hpl] at hj
        rw [List.getElem?_take, if_pos hj, List.getElem?_drop] at ej
        exact r.one i b o S obj hm hi hl _ v ej
      · exact h1 _ v ej)
    (by intro k o' S' ok e1 e2; obtain ⟨x, hx, hgx⟩ := hkey k ok e2; rw [hgx]; exact (r.sep i k b o S o' S' obj x hm e1 hi hx hrw).symm)
    (by intro k o' S' ok e1 e2 e3; have := hend k o' S' ok e1 e2 e3; simp only [List.length_append, hpl]; omega)
    (by
      intro k ok e1 e2; obtain ⟨x, hx, hgx⟩ := hkey k ok e2; rw [hgx]
      have hki : i ≠ k := by intro hx; subst hx; rw [hm] at e1; cases e1
      exact fun hxx => r.fresh i k obj x hki e1 hi hx hxx.symm)
  have hmm : m.set (h.kill obj.grp fun k => decide (i < k) || !(decide (off + n = obj.cells.length))).size (b, o + off, S) = m.set h.size (b, o + off, S) := by rw [hsz]
  rw [hmm] at r3
  refine ⟨r3.1, ⟨by rw [Heap.size_push]; omega, fun k hk => Map.set_other _ _ (by omega), fun k hk hn => ?_⟩⟩
  obtain ⟨x, hx⟩ := Heap.get_some hk
  rw [Heap.get_push_old _ _ _ _ _ _ hk hx, hx]
  have hki : i ≠ k := by intro hx; subst hx; rw [hm] at hn; cases hn
  rw [if_neg (fun hxx => r.fresh i k obj x hki hn hi hx hxx.1.symm)]

/-- Append into a new row. -/
theorem Rel.appNew (r : Rel W0 m h w) {i b o S : Nat} {obj : Obj} (hm : m i = some (b, o, S)) (hi : h.get i = some obj)
    (full : Bool) (hg : obj.grp ≤ h.size) {cells : List Value} {c' : Array Value} (e : TypeId) (hl : cells.length ≤ c'.size)
    (hv : ∀ (j : Nat) v, cells[j]? = some v → ∃ v', c'[j]? = some v' ∧ VR m v v') (h1 : ∀ (j : Nat) v, cells[j]? = some v → v.oneCell' = true) :
    Rel W0 (m.set h.size (w.heap.size, 0, c'.size)) (h.push i obj.grp full cells hg) (w.alloc (.cells c' e)) ∧
    Step m h (m.set h.size (w.heap.size, 0, c'.size)) (h.push i obj.grp full cells hg) := by
  have hsz : (h.kill obj.grp fun k => decide (i < k) || !full).size = h.size := Heap.size_kill _ _ _
  have hkey : ∀ k ok, (h.kill obj.grp fun k => decide (i < k) || !full).get k = some ok → ∃ x, h.get k = some x ∧ ok.grp = x.grp := by
    intro k ok e2
    rw [Heap.get_kill] at e2
    cases hq : h.get k with
    | none => rw [hq] at e2; cases e2
    | some x => rw [hq] at e2; simp only [Option.map_some, Option.some.injEq] at e2; refine ⟨x, rfl, ?_⟩; split at e2 <;> subst e2 <;> rfl
  have hnew : (w.alloc (.cells c' e)).heap[w.heap.size]? = some (.cells c' e (0, 0)) := by show (w.heap.push _)[w.heap.size]? = _; simp
  have r2 := (r.kill obj.grp (fun k => decide (i < k) || !full)).allocW (.cells c' e)
  have r3 := r2.addAt (cells := cells) (g := obj.grp) (by rw [hsz]; exact hg) (b := w.heap.size) (o := 0) (S := c'.size) hnew (.inr ⟨rfl, rfl⟩) rfl r.below.size (by omega)
    (by intro j v ej; rw [Nat.zero_add]; exact hv j v ej) h1
    (by intro k o' S' ok e1 e2; have := r.blt e1; omega)
    (by intro k o' S' ok e1 e2 e3; have := r.blt e1; omega)
    (by
      intro k ok e1 e2; obtain ⟨x, hx, hgx⟩ := hkey k ok e2; rw [hgx]
      have hki : i ≠ k := by intro hx; subst hx; rw [hm] at e1; cases e1
      exact fun hxx => r.fresh i k obj x hki e1 hi hx hxx.symm)
  have hmm : m.set (h.kill obj.grp fun k => decide (i < k) || !full).size (w.heap.size, 0, c'.size) = m.set h.size (w.heap.size, 0, c'.size) := by rw [hsz]
  rw [hmm] at r3
  refine ⟨r3.1, ⟨by rw [Heap.size_push]; omega, fun k hk => Map.set_other _ _ (by omega), fun k hk hn => ?_⟩⟩
  obtain ⟨x, hx⟩ := Heap.get_some hk
  rw [Heap.get_push_old _ _ _ _ _ _ hk hx, hx]
  have hki : i ≠ k := by intro hx; subst hx; rw [hm] at hn; cases hn
  rw [if_neg (fun hxx => r.fresh i k obj x hki hn hi hx hxx.1.symm)]
end
end Go.Ah
