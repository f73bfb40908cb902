import Derived.Test.YtgmimgmdbpcecaaDoorProg
import Derived.Test.YtgmimgmdbpcecaaDoorAhAA
namespace Go.Proofs.YtgmimgmdbpcecaaDoor
open Go Go.Ah
set_option linter.unusedSimpArgs false
set_option linter.unusedVariables false
set_option maxRecDepth 10000
set_option maxHeartbeats 4000000
/-! ### Rows of whole numbers, and what lies in other rows -/
def encI (n : Int) : List Value := [.int .i64 n]
theorem encI_len (n : Int) : (encI n).length = 1 := rfl
def encB (b : Bool) : List Value := [.bool b]
theorem encB_len (b : Bool) : (encB b).length = 1 := rfl
section
variable {α : Type} {enc : α → List Value} {sz : Nat} {h h' H : Heap} {v : Value} {l : List α}
theorem oneB_slT (s : SlT h enc sz v l) (L : List Value) : oneB (v :: L) = oneB L := by
  rcases s.sl with ⟨rfl, _⟩ | ⟨rfl, _⟩ | ⟨i, o, n, ob, rfl, _⟩ <;> rfl
theorem cells_slT (s : SlT h enc sz v l) : v.cells = #[v] := by
  rcases s.sl with ⟨rfl, _⟩ | ⟨rfl, _⟩ | ⟨i, o, n, ob, rfl, _⟩ <;> rfl
/-- A new slice made behind new boxes. -/
theorem Fk.ofMore {L : List (List Value)} (F : Fresh (h.more L) H enc sz v l) : Fk [] h H enc sz v l (boxesAt h.size L) := by
  obtain ⟨e, g, g1, o⟩ := F
  have e0 := Ext.more h L
  refine ⟨(e0.trans e).toX, ⟨g, Nat.le_trans e0.1 g1, o, fun p hp => ?_⟩, fun p hp => ?_⟩
  · obtain ⟨k, k1, k2, _⟩ := mem_boxesAt hp; rw [size_more] at g1; omega
  · obtain ⟨k, k1, k2, k3⟩ := mem_boxesAt hp
    refine ⟨by omega, ?_⟩
    rw [e.2 _ (by rw [size_more]; omega), k2, get_more, k3]; rfl
end
theorem take_set_repG {α : Type} (l : List α) (z : α) (i : Nat) (hi : i < l.length) : (l.take i ++ List.replicate (l.length - i) z).set i l[i] = l.take (i + 1) ++ List.replicate (l.length - (i + 1)) z := by
  have hlen : (l.take i).length = i := by simp; omega
  rw [show l.length - i = (l.length - (i + 1)) + 1 by omega, List.replicate_succ, List.set_append_right _ _ (by omega), hlen, Nat.sub_self, List.set_cons_zero,
    List.take_succ_eq_append_getElem hi, List.append_assoc]
  rfl
theorem mark_stepG {α : Type} (f : Nat → α) (l : List α) (i : Nat) (hi : i < l.length) : ((List.range i).map f ++ l.drop i).set i (f i) = (List.range (i + 1)).map f ++ l.drop (i + 1) := by
  rw [List.set_append_right _ _ (by simp), List.length_map, List.length_range, Nat.sub_self, List.drop_eq_getElem_cons hi, List.set_cons_zero, List.range_succ, List.map_append, List.append_assoc]
  rfl
def markI (k : Int) (n : Nat) : List Int := (List.range n).map fun i : Nat => k + (i : Int)
end Go.Proofs.YtgmimgmdbpcecaaDoor
