import Derived.Test.YtknpombiomnkbaaProg
import Derived.Test.YtknpombiomnkbaaAhT
namespace Go.Proofs.Ytknpombiomnkbaa
open Go Go.Ah
set_option linter.unusedSimpArgs false
set_option linter.unusedVariables false
set_option maxRecDepth 10000
set_option maxHeartbeats 4000000
structure Clip where
  src : Int
  inn : Int
  len : Int
  deriving DecidableEq
def zClip : Clip := ⟨0, 0, 0⟩
def encClip (k : Clip) : List Value := [.int .i64 k.src, .int .i64 k.inn, .int .i64 k.len]
theorem encClip_len (k : Clip) : (encClip k).length = 3 := rfl
theorem take_set_rep {α : Type} (l : List α) (z : α) (i : Nat) (hi : i < l.length) : (l.take i ++ List.replicate (l.length - i) z).set i l[i] = l.take (i + 1) ++ List.replicate (l.length - (i + 1)) z := by
  have hlen : (l.take i).length = i := by simp; omega
  rw [show l.length - i = (l.length - (i + 1)) + 1 by omega, List.replicate_succ, List.set_append_right _ _ (by omega), hlen, Nat.sub_self, List.set_cons_zero,
    List.take_succ_eq_append_getElem hi, List.append_assoc]
  rfl
def markClip (k : Int) (n : Nat) : List Clip := (List.range n).map fun i : Nat => ⟨k + 3 * (i : Int), k + 3 * (i : Int) + 1, k + 3 * (i : Int) + 2⟩
theorem mark_step {α : Type} (f : Nat → α) (l : List α) (i : Nat) (hi : i < l.length) : ((List.range i).map f ++ l.drop i).set i (f i) = (List.range (i + 1)).map f ++ l.drop (i + 1) := by
  rw [List.set_append_right _ _ (by simp), List.length_map, List.length_range, Nat.sub_self, List.drop_eq_getElem_cons hi, List.set_cons_zero, List.range_succ, List.map_append, List.append_assoc]
  rfl
end Go.Proofs.Ytknpombiomnkbaa
