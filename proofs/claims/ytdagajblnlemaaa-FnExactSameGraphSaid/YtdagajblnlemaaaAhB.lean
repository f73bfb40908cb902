import Derived.Test.YtdagajblnlemaaaAhA
set_option linter.unusedVariables false
namespace Go.Ah
open Go Go.RowKit

/-! ### Cells of the machine's blocks -/
theorem cell_of_block {w : World} {b : Nat} {c : Array Value} {e : TypeId} {f : Nat × Nat} (h : w.heap[b]? = some (.cells c e f)) (o : Nat) :
    w.cell? ⟨b, o, none⟩ = c[o]? := by simp [World.cell?, h]
theorem frozen_of_block {w : World} {b : Nat} {c : Array Value} {e : TypeId} {f : Nat × Nat} (h : w.heap[b]? = some (.cells c e f)) (hf : Fz c.size f) (o : Nat) (ho : o < c.size) (s : Option Nat) :
    w.frozen? ⟨b, o, s⟩ = false := by
  simp only [World.frozen?, h]
  rcases hf with hf | hf <;> simp <;> omega

/-- A list with a piece written anew. -/
def splice (c : List Value) (o : Nat) (vs : List Value) : List Value := c.take o ++ vs ++ c.drop (o + vs.length)
theorem length_splice (c : List Value) (o : Nat) (vs : List Value) (h : o + vs.length ≤ c.length) : (splice c o vs).length = c.length := by
  simp [splice]; omega
theorem get_splice_in (c : List Value) (o : Nat) (vs : List Value) (h : o + vs.length ≤ c.length) (j : Nat) (hj : j < vs.length) : (splice c o vs)[o + j]? = vs[j]? := by
  unfold splice
  rw [List.append_assoc, List.getElem?_append_right (by simp; omega), List.getElem?_append_left (by simp; omega)]
  congr 1; simp; omega
theorem get_splice_out (c : List Value) (o : Nat) (vs : List Value) (h : o + vs.length ≤ c.length) (j : Nat) (hj : j < o ∨ o + vs.length ≤ j) : (splice c o vs)[j]? = c[j]? := by
  unfold splice
  rcases hj with hj | hj
  · rw [List.append_assoc, List.getElem?_append_left (by simp; omega), List.getElem?_take, if_pos hj]
  · rw [List.getElem?_append_right (by simp; omega), List.getElem?_drop]
    congr 1; simp; omega
theorem splice_nil (c : List Value) (o : Nat) : splice c o [] = c := by simp [splice]
theorem splice_cons (c : List Value) (o : Nat) (v : Value) (vs : List Value) (h : o + vs.length < c.length) : splice (c.set o v) (o + 1) vs = splice c o (v :: vs) := by
  apply List.ext_getElem?
  intro j
  by_cases h1 : j < o + 1
  · rw [get_splice_out _ _ _ (by simp; omega) _ (.inl h1)]
    by_cases h2 : j = o
    · subst h2
      have := get_splice_in c j (v :: vs) (by simp; omega) 0 (by simp)
      rw [Nat.add_zero] at this; rw [this, List.getElem?_set_self (by omega)]; rfl
    · rw [get_splice_out _ _ _ (by simp; omega) _ (.inl (by omega)), List.getElem?_set_ne (by omega)]
  · by_cases h2 : j < o + 1 + vs.length
    · obtain ⟨k, rfl⟩ : ∃ k, j = o + 1 + k := ⟨j - (o + 1), by omega⟩
      rw [get_splice_in _ _ _ (by simp; omega) _ (by omega)]
      have := get_splice_in c o (v :: vs) (by simp; omega) (k + 1) (by simp; omega)
      rw [show o + 1 + k = o + (k + 1) by omega, this]; simp
    · rw [get_splice_out _ _ _ (by simp; omega) _ (.inr (by omega)), get_splice_out _ _ _ (by simp; omega) _ (.inr (by simp; omega)), List.getElem?_set_ne (by omega)]

/-- The world with one block's cells written anew. -/
def withBlock (w : World) (b : Nat) (c : List Value) (e : TypeId) (f : Nat × Nat) : World := { w with heap := w.heap.setIfInBounds b (.cells c.toArray e f) }
theorem withBlock_same {w : World} {b : Nat} {c : Array Value} {e : TypeId} {f : Nat × Nat} (h : w.heap[b]? = some (.cells c e f)) : withBlock w b c.toList e f = w := by
  unfold withBlock
  obtain ⟨hb, hq⟩ := Array.getElem?_eq_some_iff.mp h
  have : w.heap.setIfInBounds b (.cells c.toList.toArray e f) = w.heap := by
    apply Array.ext_getElem?
    intro i
    rw [Array.getElem?_setIfInBounds]
    split
    · rename_i hi; subst hi; simp [hb, hq]
    · rfl
  rw [this]
theorem withBlock_get {w : World} {b : Nat} {c : List Value} {e : TypeId} {f : Nat × Nat} (hb : b < w.heap.size) : (withBlock w b c e f).heap[b]? = some (.cells c.toArray e f) := by
  simp [withBlock, hb]
theorem withBlock_other {w : World} {b k : Nat} {c : List Value} {e : TypeId} {f : Nat × Nat} (hk : k ≠ b) : (withBlock w b c e f).heap[k]? = w.heap[k]? := by
  simp only [withBlock]; exact Array.getElem?_setIfInBounds_ne (by omega)
theorem setCell_withBlock {w : World} {b o : Nat} {c : Array Value} {e : TypeId} {f : Nat × Nat} {v : Value} (h : w.heap[b]? = some (.cells c e f)) :
    w.setCell ⟨b, o, none⟩ v = withBlock w b (c.toList.set o v) e f := by
  obtain ⟨hb, hq⟩ := Array.getElem?_eq_some_iff.mp h
  unfold World.setCell withBlock
  congr 1
  apply Array.ext_getElem?
  intro i
  rw [Array.getElem?_modify, Array.getElem?_setIfInBounds]
  by_cases hi : b = i
  · subst hi
    simp only [if_true, h, Option.map_some, hb]
    simp
    apply Array.ext'
    simp [Array.toList_setIfInBounds]
  · simp [hi]

theorem add_addr (b o n : Nat) : (⟨b, o, none⟩ : Addr).add n = ⟨b, o + n, none⟩ := by
  unfold Addr.add; split
  · rename_i h; subst h; rfl
  · rfl

theorem run_storeCells (P : Program) (b : Nat) (e : TypeId) (f : Nat × Nat) : ∀ (vs : List Value) (w : World) (o i : Nat) (c : Array Value),
    w.heap[b]? = some (.cells c e f) → Fz c.size f → o + i + vs.length ≤ c.size → (∀ v ∈ vs, v.oneCell' = true) →
    (storeCells ⟨b, o, none⟩ vs i).run P w = .ok () (withBlock w b (splice c.toList (o + i) vs) e f) := by
  intro vs
  induction vs with
  | nil => intro w o i c h _ _ _; simp [storeCells, splice_nil, withBlock_same h]
  | cons v vs ih =>
    intro w o i c h hf hl h1
    have hb := (Array.getElem?_eq_some_iff.mp h).1
    simp at hl
    have hc : w.cell? ⟨b, o + i, none⟩ = some c[o + i] := by rw [cell_of_block h]; simp
    simp only [storeCells, Sem.run_bind, add_addr]
    rw [run_store P w _ v _ (h1 v (by simp)), hc]
    simp only [frozen_of_block h hf (o + i) (by omega), Bool.false_eq_true, if_false, Result.andThen_ok]
    rw [setCell_withBlock h]
    have := ih (withBlock w b (c.toList.set (o + i) v) e f) o (i + 1) (c.toList.set (o + i) v).toArray (withBlock_get hb) (by simpa using hf) (by simp; omega) (fun x hx => h1 x (by simp [hx]))
    rw [this]
    congr 1
    rw [← Nat.add_assoc, splice_cons _ _ _ _ (by simp; omega)]
    unfold withBlock
    congr 1
    apply Array.ext_getElem?
    intro k
    simp only [Array.getElem?_setIfInBounds, Array.size_setIfInBounds]
    by_cases hk : b = k <;> simp [hk]

theorem run_loadCellsFrom (P : Program) (w : World) (b : Nat) : ∀ (n o i : Nat) (acc : Array Value) (cs : List Value), cs.length = n →
    (∀ j v, cs[j]? = some v → w.cell? ⟨b, o + (i + j), none⟩ = some v) →
    (loadCellsFrom ⟨b, o, none⟩ i n acc).run P w = .ok (acc ++ cs.toArray) w := by
  intro n
  induction n with
  | zero => intro o i acc cs hl h; cases cs <;> simp_all [loadCellsFrom]
  | succ n ih =>
    intro o i acc cs hl h
    cases cs with
    | nil => simp at hl
    | cons v t =>
      have h0 := h 0 v (by simp)
      simp only [loadCellsFrom, Sem.run_bind, add_addr, run_load]
      rw [show o + i = o + (i + 0) by omega, h0]
      simp only [Result.andThen_ok]
      rw [ih o (i + 1) (acc.push v) t (by simpa using hl) (fun j u e => by have := h (j + 1) u (by simpa using e); rw [← this]; congr 2; omega)]
      simp
theorem run_loadCells (P : Program) (w : World) (b o n : Nat) (cs : List Value) (hl : cs.length = n)
    (h : ∀ j v, cs[j]? = some v → w.cell? ⟨b, o + j, none⟩ = some v) : (loadCells ⟨b, o, none⟩ n).run P w = .ok cs.toArray w := by
  unfold loadCells
  rw [run_loadCellsFrom P w b n o 0 #[] cs hl (fun j v e => by rw [Nat.zero_add]; exact h j v e)]
  simp

/-! ### Steps of the relation -/
def Map.set (m : Map) (i : Nat) (x : Nat × Nat × Nat) : Map := fun k => if k = i then some x else m k
theorem Map.set_same (m : Map) (i : Nat) (x : Nat × Nat × Nat) : (m.set i x) i = some x := by simp [Map.set]
theorem Map.set_other (m : Map) {i k : Nat} (x : Nat × Nat × Nat) (h : k ≠ i) : (m.set i x) k = m k := by simp [Map.set, h]
theorem Map.le_set {m : Map} {i : Nat} {x : Nat × Nat × Nat} (h : m i = none) : m.le (m.set i x) := by
  intro k y e; unfold Map.set; split
  · rename_i hk; subst hk; rw [h] at e; cases e
  · exact e

section
variable {W0 : World} {m : Map} {h : Heap} {w : World}

theorem Rel.blt (r : Rel W0 m h w) {i b o S : Nat} (e : m i = some (b, o, S)) : b < w.heap.size := by
  obtain ⟨c, t, f, hq, _⟩ := r.shape i b o S e
  exact (Array.getElem?_eq_some_iff.mp hq).1

/-- A new object that no name of the machine knows. -/
theorem Rel.moreAlloc (r : Rel W0 m h w) (cs : List Value) : Rel W0 m (h.alloc cs) w := by
  have hg : ∀ i, i < h.size → (h.alloc cs).get i = h.get i := fun i hi => Heap.get_alloc_old h cs hi
  refine ⟨r.below, fun i x e => ?_, r.shape, fun i b o S obj e1 e2 e3 => r.cells i b o S obj e1 (by rw [← hg i (r.dom _ _ e1)]; exact e2) e3,
    fun i b o S obj e1 e2 e3 => r.one i b o S obj e1 (by rw [← hg i (r.dom _ _ e1)]; exact e2) e3,
    fun i b o S obj e1 e2 e3 => r.rw i b o S obj e1 (by rw [← hg i (r.dom _ _ e1)]; exact e2) e3,
    fun i k b o S o' S' oi ok e1 e2 g1 g2 => r.sep i k b o S o' S' oi ok e1 e2 (by rw [← hg i (r.dom _ _ e1)]; exact g1) (by rw [← hg k (r.dom _ _ e2)]; exact g2),
    fun i k b o S o' S' oi ok hik e1 e2 g1 g2 => r.ord i k b o S o' S' oi ok hik e1 e2 (by rw [← hg i (r.dom _ _ e1)]; exact g1) (by rw [← hg k (r.dom _ _ e2)]; exact g2),
    r.same, fun i k oi ok hik hk g1 g2 => ?_, r.gl⟩
  · rw [Heap.size_alloc]; exact Nat.lt_succ_of_lt (r.dom i x e)
  · have hi1 := Heap.get_lt g1; have hk1 := Heap.get_lt g2; rw [Heap.size_alloc] at hi1 hk1
    by_cases hi2 : i = h.size
    · subst hi2; rw [Heap.get_alloc_new] at g1; cases g1
      rw [hg k (by omega)] at g2; have := Heap.grp_le g2; simp; omega
    · by_cases hk2 : k = h.size
      · subst hk2; rw [Heap.get_alloc_new] at g2; cases g2
        rw [hg i (by omega)] at g1; have := Heap.grp_le g1; simp; omega
      · rw [hg i (by omega)] at g1; rw [hg k (by omega)] at g2; exact r.fresh i k oi ok hik hk g1 g2

/-- A new block of the machine's for an object that had none. -/
theorem Rel.bind (r : Rel W0 m h w) {i : Nat} {obj : Obj} (hi : h.get i = some obj) (hm : m i = none) (hl : obj.live = true)
    {c' : Array Value} (e : TypeId) {f : Nat × Nat} (hf : Fz c'.size f) (hc : obj.cells.length ≤ c'.size) (hv : ∀ (j : Nat) v, obj.cells[j]? = some v → ∃ v', c'[j]? = some v' ∧ VR m v v')
    (h1 : ∀ (j : Nat) v, obj.cells[j]? = some v → v.oneCell' = true) :
    Rel W0 (m.set i (w.heap.size, 0, c'.size)) h (w.alloc (.cells c' e f)) := by
  have hle := Map.le_set (x := (w.heap.size, 0, c'.size)) hm
  have hold : ∀ k, k < w.heap.size → (w.alloc (.cells c' e f)).heap[k]? = w.heap[k]? := fun k hk => Below.heap_alloc _ _ _ hk
  have hnew : (w.alloc (.cells c' e f)).heap[w.heap.size]? = some (.cells c' e f) := by show (w.heap.push _)[w.heap.size]? = _; simp
  have hcase : ∀ k b o S, (m.set i (w.heap.size, 0, c'.size)) k = some (b, o, S) → (k = i ∧ b = w.heap.size ∧ o = 0 ∧ S = c'.size) ∨ (k ≠ i ∧ m k = some (b, o, S) ∧ b < w.heap.size) := by
    intro k b o S e1
    by_cases hk : k = i
    · subst hk; rw [Map.set_same] at e1; cases e1; exact .inl ⟨rfl, rfl, rfl, rfl⟩
    · rw [Map.set_other _ _ hk] at e1; exact .inr ⟨hk, e1, r.blt e1⟩
  refine ⟨r.below.alloc r.below.size _, ?_, ?_, ?_, ?_, ?_, ?_, ?_, ?_, ?_, r.gl⟩
  · intro k x e1
    by_cases hk : k = i
    · subst hk; exact Heap.get_lt hi
    · rw [Map.set_other _ _ hk] at e1; exact r.dom _ _ e1
  · intro k b o S e1
    rcases hcase k b o S e1 with ⟨rfl, rfl, rfl, rfl⟩ | ⟨_, e1, hb⟩
    · exact ⟨c', e, _, hnew, rfl⟩
    · rw [hold _ hb]; exact r.shape k b o S e1
  · intro k b o S ob e1 e2 e3
    rcases hcase k b o S e1 with ⟨rfl, rfl, rfl, rfl⟩ | ⟨_, e1, hb⟩
    · rw [hi] at e2; cases e2
      refine ⟨by omega, fun j v ej => ?_⟩
      obtain ⟨v', hv', rv⟩ := hv j v ej
      exact ⟨v', by rw [cell_of_block hnew, Nat.zero_add]; exact hv', rv.mono hle⟩
    · obtain ⟨a, d⟩ := r.cells k b o S ob e1 e2 e3
      refine ⟨a, fun j v ej => ?_⟩
      obtain ⟨v', hv', rv⟩ := d j v ej
      exact ⟨v', by rw [World.cell?_of_block (w := w) (hold b hb)]; exact hv', rv.mono hle⟩
  · intro k b o S ob e1 e2 e3
    rcases hcase k b o S e1 with ⟨rfl, rfl, rfl, rfl⟩ | ⟨_, e1, hb⟩
    · rw [hi] at e2; cases e2; exact h1
    · exact r.one k b o S ob e1 e2 e3
  · intro k b o S ob e1 e2 e3
    rcases hcase k b o S e1 with ⟨rfl, rfl, rfl, rfl⟩ | ⟨_, e1, hb⟩
    · exact ⟨r.below.size, c', e, f, hnew, hf⟩
    · rw [hold _ hb]; exact r.rw k b o S ob e1 e2 e3
  · intro k l b o S o' S' ok ol e1 e2 g1 g2 g3
    rcases hcase k b o S e1 with ⟨rfl, rfl, rfl, rfl⟩ | ⟨_, e1, hb⟩ <;> rcases hcase l _ o' S' e2 with ⟨rfl, hx, rfl, rfl⟩ | ⟨_, e2, hb'⟩
    · rw [g1] at g2; cases g2; rfl
    · omega
    · omega
    · exact r.sep k l b o S o' S' ok ol e1 e2 g1 g2 g3
  · intro k l b o S o' S' ok ol hkl e1 e2 g1 g2
    rcases hcase k b o S e1 with ⟨rfl, rfl, rfl, rfl⟩ | ⟨_, e1, hb⟩ <;> rcases hcase l _ o' S' e2 with ⟨rfl, hx, rfl, rfl⟩ | ⟨_, e2, hb'⟩
    · omega
    · omega
    · omega
    · exact r.ord k l b o S o' S' ok ol hkl e1 e2 g1 g2
  · intro k l b o S o' S' e1 e2
    rcases hcase k b o S e1 with ⟨rfl, rfl, rfl, rfl⟩ | ⟨_, e1, hb⟩ <;> rcases hcase l _ o' S' e2 with ⟨rfl, hx, rfl, rfl⟩ | ⟨_, e2, hb'⟩
    · rfl
    · omega
    · omega
    · exact r.same k l b o S o' S' e1 e2
  · intro k l ok ol hkl hl2 g1 g2
    have hli : l ≠ i := by intro hx; subst hx; rw [Map.set_same] at hl2; cases hl2
    rw [Map.set_other _ _ hli] at hl2
    exact r.fresh k l ok ol hkl hl2 g1 g2

theorem Rel.unm (r : Rel W0 m h w) {i : Nat} (hi : h.size ≤ i) : m i = none := by
  cases hq : m i with
  | none => rfl
  | some x => have := r.dom i x hq; omega

/-- A new object and its block. -/
theorem Rel.alloc (r : Rel W0 m h w) {cs : List Value} {c' : Array Value} (e : TypeId) {f : Nat × Nat} (hf : Fz c'.size f) (hc : cs.length ≤ c'.size)
    (hv : ∀ (j : Nat) v, cs[j]? = some v → ∃ v', c'[j]? = some v' ∧ VR m v v') (h1 : ∀ (j : Nat) v, cs[j]? = some v → v.oneCell' = true) :
    Rel W0 (m.set h.size (w.heap.size, 0, c'.size)) (h.alloc cs) (w.alloc (.cells c' e f)) ∧ Step m h (m.set h.size (w.heap.size, 0, c'.size)) (h.alloc cs) := by
  refine ⟨(r.moreAlloc cs).bind (Heap.get_alloc_new h cs) (r.unm (Nat.le_refl _)) rfl e hf hc hv h1, ⟨by rw [Heap.size_alloc]; omega, fun i hi => Map.set_other _ _ (by omega), fun i hi _ => Heap.get_alloc_old h cs hi⟩⟩

theorem Heap.get_upd (h : Heap) (i g : Nat) (cs : List Value) (k : Nat) :
    (h.upd i g cs).get k = (h.get k).map fun o => if k = i then { o with cells := cs } else if o.grp = g then { o with live := false } else o := by
  unfold Heap.upd
  rw [Heap.get_put, Heap.get_kill]
  cases h.get k with
  | none => rfl
  | some o =>
    simp only [Option.map_some, Option.some.injEq]
    by_cases hk : k = i
    · subst hk; simp
    · by_cases hg : o.grp = g <;> simp [hk, hg]
theorem Heap.size_upd (h : Heap) (i g : Nat) (cs : List Value) : (h.upd i g cs).size = h.size := by unfold Heap.upd; rw [Heap.size_put, Heap.size_kill]

/-- A store into an object of our own. -/
theorem Rel.store (r : Rel W0 m h w) {i b o S : Nat} {obj : Obj} (hm : m i = some (b, o, S)) (hi : h.get i = some obj) (hl : obj.live = true) (hrw : obj.rw = true)
    {c : Array Value} {e : TypeId} {f : Nat × Nat} (hb : w.heap[b]? = some (.cells c e f)) {p : Nat} {vs vs' : List Value} (hv : VRs m vs vs') (h1 : ∀ (j : Nat) v, vs[j]? = some v → v.oneCell' = true) (hp : p + vs.length ≤ obj.cells.length) :
    Rel W0 m (h.upd i obj.grp (splice obj.cells p vs)) (withBlock w b (splice c.toList (o + p) vs') e f) ∧ Step m h m (h.upd i obj.grp (splice obj.cells p vs)) := by
  have hbl := r.blt hm
  obtain ⟨hW, _⟩ := r.rw i b o S obj hm hi hrw
  have hcS : c.size = S := by obtain ⟨c1, e1, f1, h1, h2⟩ := r.shape i b o S hm; rw [hb] at h1; cases h1; exact h2
  obtain ⟨hoS, hcells⟩ := r.cells i b o S obj hm hi hl
  have hlen : (splice c.toList (o + p) vs').length = c.size := by rw [length_splice _ _ _ (by simp [← hv.1]; omega)]; simp
  have key : ∀ k ok', (h.upd i obj.grp (splice obj.cells p vs)).get k = some ok' → ∃ ok, h.get k = some ok ∧ ok'.grp = ok.grp ∧ ok'.rw = ok.rw ∧ ((k = i ∧ ok = obj ∧ ok'.live = true ∧ ok'.cells = splice obj.cells p vs) ∨ (k ≠ i ∧ ok'.cells = ok.cells ∧ (ok'.live = true → ok.live = true ∧ ok.grp ≠ obj.grp))) := by
    intro k ok' hk
    rw [Heap.get_upd] at hk
    cases hq : h.get k with
    | none => rw [hq] at hk; cases hk
    | some ok =>
      rw [hq] at hk; simp only [Option.map_some, Option.some.injEq] at hk
      refine ⟨ok, rfl, ?_⟩
      by_cases hki : k = i
      · subst hki; rw [hi] at hq; cases hq; simp at hk; subst hk; exact ⟨rfl, rfl, .inl ⟨rfl, rfl, hl, rfl⟩⟩
      · rw [if_neg hki] at hk
        split at hk
        · subst hk; exact ⟨rfl, rfl, .inr ⟨hki, rfl, by simp⟩⟩
        · rename_i hg; subst hk; exact ⟨rfl, rfl, .inr ⟨hki, rfl, fun hx => ⟨hx, hg⟩⟩⟩
  have hother : ∀ k, k ≠ b → (withBlock w b (splice c.toList (o + p) vs') e f).heap[k]? = w.heap[k]? := fun k hk => withBlock_other hk
  have hthis : (withBlock w b (splice c.toList (o + p) vs') e f).heap[b]? = some (.cells (splice c.toList (o + p) vs').toArray e f) := withBlock_get hbl
  refine ⟨⟨?_, ?_, ?_, ?_, ?_, ?_, ?_, ?_, r.same, ?_, r.gl⟩, ?_⟩
  · exact ⟨r.below.os, r.below.tape, r.below.output, by simp [withBlock]; exact r.below.size, fun k hk => by rw [hother k (by omega)]; exact r.below.block k hk⟩
  · intro k x e1; rw [Heap.size_upd]; exact r.dom k x e1
  · intro k b' o' S' e1
    by_cases hbb : b' = b
    · subst hbb; exact ⟨_, _, _, hthis, by have := r.same i k _ _ _ _ _ hm e1; simp [hlen]; omega⟩
    · rw [hother _ hbb]; exact r.shape k b' o' S' e1
  · intro k b' o' S' ok' e1 e2 e3
    obtain ⟨ok, g1, g2, g3, g4⟩ := key k ok' e2
    rcases g4 with ⟨rfl, rfl, _, hc4⟩ | ⟨hki, hc4, hl4⟩
    · rw [hm] at e1; cases e1
      rw [hc4]
      refine ⟨by rw [length_splice _ _ _ hp]; exact hoS, fun j v ej => ?_⟩
      rw [cell_of_block hthis]
      simp only [List.getElem?_toArray]
      by_cases hj : p ≤ j ∧ j < p + vs.length
      · obtain ⟨q, rfl⟩ : ∃ q, j = p + q := ⟨j - p, by omega⟩
        rw [get_splice_in _ _ _ hp _ (by omega)] at ej
        obtain ⟨v', e', rv⟩ := hv.2 q v ej
        refine ⟨v', ?_, rv⟩
        rw [← Nat.add_assoc, get_splice_in _ _ _ (by simp [← hv.1]; omega) _ (by rw [← hv.1]; omega)]; exact e'
      · rw [get_splice_out _ _ _ hp _ (by omega)] at ej
        obtain ⟨v', e', rv⟩ := hcells j v ej
        refine ⟨v', ?_, rv⟩
        rw [get_splice_out _ _ _ (by simp [← hv.1]; omega) _ (by rw [← hv.1]; omega)]
        rw [cell_of_block hb] at e'; simpa using e'
    · obtain ⟨hlk, hgk⟩ := hl4 e3
      have hbb : b' ≠ b := by intro hx; subst hx; exact hgk (r.sep i k b' o S o' S' obj ok hm e1 hi g1 hrw).symm
      obtain ⟨a, d⟩ := r.cells k b' o' S' ok e1 g1 hlk
      rw [hc4]
      refine ⟨a, fun j v ej => ?_⟩
      rw [World.cell?_of_block (w := w) (hother b' hbb)]
      exact d j v ej
  · intro k b' o' S' ok' e1 e2 e3 j v ej
    obtain ⟨ok, g1, g2, g3, g4⟩ := key k ok' e2
    rcases g4 with ⟨rfl, rfl, _, hc4⟩ | ⟨hki, hc4, hl4⟩
    · rw [hc4] at ej
      by_cases hj : p ≤ j ∧ j < p + vs.length
      · obtain ⟨q, rfl⟩ : ∃ q, j = p + q := ⟨j - p, by omega⟩
        rw [get_splice_in _ _ _ hp _ (by omega)] at ej
        exact h1 q v ej
      · rw [get_splice_out _ _ _ hp _ (by omega)] at ej
        exact r.one k b o S ok hm g1 hl j v ej
    · rw [hc4] at ej; exact r.one k b' o' S' ok e1 g1 (hl4 e3).1 j v ej
  · intro k b' o' S' ok' e1 e2 e3
    obtain ⟨ok, g1, g2, g3, g4⟩ := key k ok' e2
    obtain ⟨a, c1, e1', f1', d, df⟩ := r.rw k b' o' S' ok e1 g1 (g3 ▸ e3)
    refine ⟨a, ?_⟩
    by_cases hbb : b' = b
    · subst hbb; rw [hb] at d; cases d; exact ⟨_, _, _, hthis, by simp [hlen]; exact df⟩
    · rw [hother _ hbb]; exact ⟨c1, e1', f1', d, df⟩
  · intro k l b' o1 S1 o2 S2 ok ol e1 e2 g1 g2 g3
    obtain ⟨xk, a1, a2, a3, _⟩ := key k ok g1
    obtain ⟨xl, b1, b2, b3, _⟩ := key l ol g2
    rw [a2, b2]; exact r.sep k l b' o1 S1 o2 S2 xk xl e1 e2 a1 b1 (a3 ▸ g3)
  · intro k l b' o1 S1 o2 S2 ok ol hkl e1 e2 g1 g2 g3 g4 g5
    obtain ⟨xk, a1, a2, a3, a4⟩ := key k ok g1
    obtain ⟨xl, b1, b2, b3, b4⟩ := key l ol g2
    rcases a4 with ⟨rfl, rfl, _, ca⟩ | ⟨hka, ca, la⟩ <;> rcases b4 with ⟨rfl, rfl, _, cb⟩ | ⟨hlb, cb, lb⟩
    · omega
    · exact absurd (by rw [← b2, ← a2]; exact g5.symm) (lb g4).2
    · exact absurd (by rw [← b2, ← a2]; exact g5) (la g3).2
    · rw [ca, cb]; exact r.ord k l b' o1 S1 o2 S2 xk xl hkl e1 e2 a1 b1 (la g3).1 (lb g4).1 (by rw [← a2, ← b2]; exact g5)
  · intro k l ok ol hkl hl2 g1 g2
    obtain ⟨xk, a1, a2, a3, a4⟩ := key k ok g1
    obtain ⟨xl, b1, b2, b3, b4⟩ := key l ol g2
    rw [a2, b2]; exact r.fresh k l xk xl hkl hl2 a1 b1
  · refine ⟨by rw [Heap.size_upd]; exact Nat.le_refl _, fun _ _ => rfl, fun k hk hn => ?_⟩
    rw [Heap.get_upd]
    have hki : k ≠ i := by intro hx; subst hx; rw [hm] at hn; cases hn
    cases hq : h.get k with
    | none => rfl
    | some ok =>
      simp only [Option.map_some, Option.some.injEq, if_neg hki]
      rw [if_neg (fun hx => r.fresh i k obj ok (fun e => hki e.symm) hn hi hq hx.symm)]

end
end Go.Ah
