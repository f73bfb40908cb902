import Derived.Test.YtdagajblnlemaaaAhBB
import Derived.Test.YtdagajblnlemaaaAhY
namespace Go.Proofs.Ytdagajblnlemaaa
open Go Go.Ah
/-! ### A row made behind a change of base, taken into the relation ahead of it -/
def scalB : Value → Bool
  | .int .. | .bool _ | .float .. | .string _ => true
  | _ => false
theorem scal_VR {m m' : Map} {v v' : Value} (h : VR m v v') (hs : scalB v = true) : VR m' v v' := by
  cases h with
  | bool b => exact .bool b
  | int k n => exact .int k n
  | float k b b' e => exact .float k b b' e
  | string s => exact .string s
  | _ => simp [scalB] at hs
theorem scal_one {v : Value} (hs : scalB v = true) : v.oneCell' = true := by cases v <;> first | rfl | (simp [scalB] at hs)
theorem adopt {W0 w1 w2 : World} {m m2 : Map} {K K2 : Heap} (R1 : Rel W0 m K w1) (R2 : Rel w1 m2 K2 w2) {α : Type} {enc : α → List Value} {sz g : Nat} {ov r' : Value} {out : List α}
    (hv : VR m2 ov r') (O : OwnT g K2 enc sz ov out) (hs : ∀ x, x ∈ out → ∀ v, v ∈ enc x → scalB v = true) :
    ∃ m' K' v, Rel W0 m' K' w2 ∧ Step m K m' K' ∧ VR m' v r' ∧ Fresh K K' enc sz v out := by
  have R := R1.belowW R2.below
  have hsc : ∀ v, v ∈ out.flatMap enc → scalB v = true := by
    intro v hv
    obtain ⟨x, hx, hv⟩ := List.mem_flatMap.mp hv
    exact hs x hx v hv
  obtain ⟨Ow, hlen, hpos⟩ := O
  rcases Ow with ⟨rfl, hL⟩ | ⟨i, o, n, ob, rfl, hg, hl, hle, hdt, hrw, hgr⟩
  · cases hv
    exact ⟨m, K, .slice none 0 0, R, Step.refl _ _, .snone, Ext.refl K, K.size, Nat.le_refl _, .inl ⟨rfl, hL⟩, hlen, hpos⟩
  · cases hv with
    | slice _ _ _ _ b base S a' cap hm hcap hcc =>
      obtain ⟨hW, c, e, f, hb, hf⟩ := R2.rw i b base S ob hm hg hrw
      have hcS : c.size = S := by obtain ⟨c1, e1, f1, q1, q2⟩ := R2.shape i b base S hm; rw [hb] at q1; cases q1; exact q2
      obtain ⟨hoS, hcells⟩ := R2.cells i b base S ob hm hg hl
      have hlen2 : (out.flatMap enc).length = n * sz := by rw [← hdt]; simp; omega
      have hget : ∀ (j : Nat) v, (out.flatMap enc)[j]? = some v → ob.cells[o + j]? = some v := by
        intro j v e
        rw [← hdt, List.getElem?_take] at e
        split at e
        · rw [List.getElem?_drop] at e; exact e
        · cases e
      have hnob : ∀ k o' S', m k ≠ some (b, o', S') := by
        intro k o' S' e
        have := R1.blt e; omega
      obtain ⟨R3, S3⟩ := R.addAt (cells := out.flatMap enc) (g := K.size) (Nat.le_refl _) (b := b) (o := base + o) hb hf hcS (Nat.le_trans R1.below.size hW) (by rw [hlen2]; omega)
        (fun j v e => by
          obtain ⟨v', h1, h2⟩ := hcells (o + j) v (hget j v e)
          rw [cell_of_block hb] at h1
          exact ⟨v', by rw [Nat.add_assoc]; exact h1, scal_VR h2 (hsc v (List.mem_of_getElem? e))⟩)
        (fun j v e => scal_one (hsc v (List.mem_of_getElem? e)))
        (fun k o' S' ok e _ => absurd e (hnob k o' S')) (fun k o' S' ok e _ _ => absurd e (hnob k o' S'))
        (fun k ok _ e => by have := Heap.grp_le e; have := Heap.get_lt e; omega)
      refine ⟨_, _, .slice (some ⟨K.size, 0, none⟩) n sz, R3, S3, .slice K.size 0 n sz b (base + o) S a' cap (Map.set_same _ _ _) hcap (by rcases hcc with h | ⟨h1, h2⟩; exact .inl h; exact .inr ⟨by omega, by omega⟩), ⟨?_, ?_⟩, K.size, Nat.le_refl _, .inr ⟨K.size, 0, n, _, rfl, Heap.get_add_new _ _ _ _, rfl, ?_, ?_, rfl, rfl⟩, hlen, hpos⟩
      · rw [Heap.size_add]; omega
      · intro k hk; exact Heap.get_add_old _ _ _ _ hk
      · simp only; rw [hlen2]; omega
      · simp only [List.drop_zero]; exact List.take_of_length_le (by rw [hlen2]; exact Nat.le_refl _)
end Go.Proofs.Ytdagajblnlemaaa
