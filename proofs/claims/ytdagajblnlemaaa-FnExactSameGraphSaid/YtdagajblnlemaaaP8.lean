import Derived.Test.YtdagajblnlemaaaP7
import Derived.Test.YtdagajblnlemaaaAhBB
namespace Go.Proofs.Ytdagajblnlemaaa
open Go Go.Ah Go.RowKit Go.Shelf
/-! ### What a loop of the kit's keeps of the relation -/
section
variable {W0 : World} {m : Map} {K K' : Heap} {W W' : World} {P : Program}
/-- Blocks of cells lie as they lay, whatever the others do. -/
theorem relKept (r : Rel W0 m K W) (hc : ∀ (b : Nat) (c : Array Value) (e : TypeId) (f : Nat × Nat), W.heap[b]? = some (Go.Obj.cells c e f) → W'.heap[b]? = some (Go.Obj.cells c e f)) (hb : Below W0.heap.size W0 W') : Rel W0 m K W' where
  below := hb
  dom := r.dom
  shape := by intro i b o S e; obtain ⟨c, e', f, h1, h2⟩ := r.shape i b o S e; exact ⟨c, e', f, hc _ _ _ _ h1, h2⟩
  cells := by
    intro i b o S obj e1 e2 e3
    obtain ⟨a, c⟩ := r.cells i b o S obj e1 e2 e3
    refine ⟨a, fun j v e => ?_⟩
    obtain ⟨v', h1, h2⟩ := c j v e
    obtain ⟨_, cc, te, f, hb, _⟩ := cell_block h1
    exact ⟨v', by rw [World.cell?_of_block (w := W) ((hc _ _ _ _ hb).trans hb.symm)]; exact h1, h2⟩
  one := r.one
  rw := by intro i b o S obj e1 e2 e3; obtain ⟨a, c, e', f, h1, h2⟩ := r.rw i b o S obj e1 e2 e3; exact ⟨a, c, e', f, hc _ _ _ _ h1, h2⟩
  sep := r.sep
  ord := r.ord
  same := r.same
  fresh := r.fresh
  gl := r.gl
/-- A store of one cell. -/
theorem relPut (r : Rel W0 m K W) {i b o S j : Nat} (hm : m i = some (b, o, S)) {x x' : Value} (hst : stV K 1 (.pointer (some ⟨i, j, none⟩)) x = some K') (hx : VR m x x') (hc : x'.cells = #[x']) :
    Rel W0 m K' (W.setCell ⟨b, o + j, none⟩ x') ∧ Step m K m K' := by
  unfold stV at hst
  simp only at hst
  split at hst
  · rename_i ob hi
    split at hst
    · rename_i hcnd
      obtain ⟨hl, hrw, hsz, hlen, h1⟩ := hcnd
      cases hst
      obtain ⟨hW, c, e, f, hb, hf⟩ := r.rw i b o S ob hm hi hrw
      have hcS : c.size = S := by obtain ⟨c1, e1, f1, q1, q2⟩ := r.shape i b o S hm; rw [hb] at q1; cases q1; exact q2
      obtain ⟨hoS, _⟩ := r.cells i b o S ob hm hi hl
      have rv := hx.cells
      obtain ⟨R, T⟩ := r.store hm hi hl hrw hb (p := j) rv (oneB_get h1) (by simp; omega)
      rw [hc] at R
      rw [setCell_withBlock hb]
      have hln : x.cells.toList.length = 1 := by rw [rv.1, hc]; rfl
      have : splice c.toList (o + j) [x'] = c.toList.set (o + j) x' := by
        unfold splice
        rw [List.set_eq_take_append_cons_drop, if_pos (by simp; omega)]
        simp
      rw [← this]
      exact ⟨R, T⟩
    · cases hst
  · cases hst
/-- What is written is not frozen. -/
theorem relFree (r : Rel W0 m K W) {i b o S j : Nat} (hm : m i = some (b, o, S)) {cs : List Value} (B : Bx K i cs) (hj : j < cs.length) : W.frozen? ⟨b, o + j, none⟩ = false ∧ (W.cell? ⟨b, o + j, none⟩).isSome = true := by
  obtain ⟨hW, c, e, f, hb, hf⟩ := r.rw i b o S _ hm B rfl
  have hcS : c.size = S := by obtain ⟨c1, e1, f1, q1, q2⟩ := r.shape i b o S hm; rw [hb] at q1; cases q1; exact q2
  obtain ⟨hoS, _⟩ := r.cells i b o S _ hm B rfl
  simp only at hoS
  obtain ⟨lo, hi⟩ := f
  constructor
  · unfold World.frozen?
    rw [hb]
    unfold Fz at hf
    simp only at hf ⊢
    rcases hf with hf | ⟨h1, h2⟩
    · have : ¬ lo ≤ o + j := by omega
      simp [this]
    · subst h1; subst h2; simp
  · rw [cell_of_block hb]; simp; omega
end
end Go.Proofs.Ytdagajblnlemaaa
