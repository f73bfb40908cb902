import Derived.Test.YtbnppofkpgfhnaaI5
namespace Go.Proofs.Ytbnppofkpgfhnaa
open Go Go.Ah
set_option linter.unusedSimpArgs false
set_option linter.unusedVariables false
set_option maxRecDepth 10000
set_option maxHeartbeats 4000000

theorem Rows.one {h : Heap} {v : Value} {l : List Clip} (s : SlT h encClip 3 v l) : Rows (h.more [[v]]) (.slice (some ⟨h.size, 0, none⟩) 1 1) [l] := by
  have := (OwnT.new h [v] encV_len (by omega)).slt
  refine ⟨[v], this, rfl, fun i h1 h2 => ?_⟩
  have hi : i = 0 := by simp at h1; omega
  subst hi
  exact s.ext (Ext.more h _)
theorem one_slice (h : Heap) (v : Value) (l : List Clip) (s : SlT h encClip 3 v l) : oneB [v] = true := by
  rcases s.sl with ⟨rfl, _⟩ | ⟨rfl, _⟩ | ⟨i, o, n, ob, rfl, _⟩ <;> rfl
theorem cells_sl {h : Heap} {v : Value} {l : List Clip} (s : SlT h encClip 3 v l) : v.cells = #[v] := by
  rcases s.sl with ⟨rfl, _⟩ | ⟨rfl, _⟩ | ⟨i, o, n, ob, rfl, _⟩ <;> rfl
theorem set_all {l : List Clip} {i : Nat} {x : Clip} (hl : ∀ k ∈ l, clipOk k) (hx : clipOk x) : ∀ k ∈ l.set i x, clipOk k := by
  intro k hk
  rcases List.mem_or_eq_of_mem_set hk with h | rfl
  · exact hl k h
  · exact hx
theorem mem_num {k : Int} (h : 0 ≤ k) : True := trivial
end Go.Proofs.Ytbnppofkpgfhnaa
