import Derived.Test.YtdagajblnlemaaaP14
namespace Go.Proofs.Ytdagajblnlemaaa
open Go Go.Ah
set_option linter.unusedSimpArgs false
set_option linter.unusedVariables false
set_option maxRecDepth 100000
set_option maxHeartbeats 4000000
/-- A slice's value in the machine, its rows at hand. -/
theorem slc_at {W0 w : World} {m : Map} {K : Heap} (R : Rel W0 m K w) {i n sz : Nat} {o : Nat} {v' : Value} (hv : VR m (.slice (some ⟨i, o, none⟩) n sz) v') (hn : 0 < n) :
    ∃ b base S cap, m i = some (b, base, S) ∧ v' = .slice (some ⟨b, base + o, none⟩) n cap ∧ n ≤ cap ∧ base + o + cap * sz ≤ S := by
  cases hv with
  | slice _ _ _ _ b base S a' cap hm hc hh =>
    rcases hh with h | ⟨rfl, h⟩
    · omega
    · exact ⟨b, base, S, cap, hm, rfl, hc, h⟩
theorem box_at {W0 w : World} {m : Map} {K : Heap} (R : Rel W0 m K w) {i : Nat} {x v' : Value} (hv : VR m (.pointer (some ⟨i, 0, none⟩)) v') (B : Bx K i [x]) :
    ∃ b o S x', m i = some (b, o, S) ∧ v' = .pointer (some ⟨b, o, none⟩) ∧ w.cell? ⟨b, o, none⟩ = some x' ∧ VR m x x' ∧ o + 1 ≤ S := by
  cases hv with
  | ptr _ _ b base S hm =>
    obtain ⟨h1, h2⟩ := R.cells i b base S _ hm B rfl
    obtain ⟨x', a1, a2⟩ := h2 0 x rfl
    exact ⟨b, base, S, x', hm, rfl, a1, a2, h1⟩
/-- Own boxes are apart from whatever is of another group. -/
theorem apart_at {W0 w : World} {m : Map} {K : Heap} (R : Rel W0 m K w) {i k b o S b' o' S' : Nat} {cs : List Value} (B : Bx K i cs) (hi : m i = some (b, o, S)) (hk : m k = some (b', o', S')) {ob : Ah.Obj} (hg : K.get k = some ob) (hne : ob.grp ≠ i) : b' ≠ b := by
  rintro rfl
  exact hne (R.sep i k b' o S o' S' _ ob hi hk B hg rfl).symm
end Go.Proofs.Ytdagajblnlemaaa
