import Derived.Test.YtknpombiomnkbaaJ2
import Derived.Test.YtknpombiomnkbaaD6
namespace Go.Proofs.Ytknpombiomnkbaa
open Go Go.Ah
set_option linter.unusedSimpArgs false
set_option linter.unusedVariables false
set_option maxRecDepth 10000
set_option maxHeartbeats 4000000
theorem frameAt_opt {l : List Clip} {i : Int} (ht : trackOk l) (hi : 0 ≤ i) : frameAt l i = ((ex l)[i.toNat]?.map fun a => (a.src, a.inn)).getD (-1, -1) := by
  have hs := sum_ex ht
  unfold frameAt frameOf
  by_cases h : i < sumLen l
  · rw [if_pos ⟨ht, hi, h⟩, List.getD_eq_getElem?_getD, List.getElem?_eq_getElem (by omega)]; rfl
  · rw [if_neg fun q => h q.2.2, List.getElem?_eq_none (by omega)]; rfl
theorem frameAt_neg {l : List Clip} {i : Int} (hi : i < 0) : frameAt l i = (-1, -1) := if_neg fun q => by omega
theorem frameAt_eq {l u : List Clip} {i j : Int} (ht : trackOk l) (hu : trackOk u) (hi : 0 ≤ i) (hj : 0 ≤ j) (h : (ex u)[i.toNat]? = (ex l)[j.toNat]?) : frameAt u i = frameAt l j := by
  rw [frameAt_opt hu hi, frameAt_opt ht hj, h]
theorem mid_lt (e m : List Clip) (a b i : Nat) (ha : a ≤ e.length) (hi : i < a) : (e.take a ++ m ++ e.drop b)[i]? = e[i]? := by
  rw [List.append_assoc, List.getElem?_append_left (by simp; omega), List.getElem?_take, if_pos hi]
theorem mid_in (e m : List Clip) (a b i : Nat) (ha : a ≤ e.length) (h1 : a ≤ i) (h2 : i < a + m.length) : (e.take a ++ m ++ e.drop b)[i]? = m[i - a]? := by
  rw [List.append_assoc, List.getElem?_append_right (by simp; omega), List.getElem?_append_left (by simp; omega)]
  simp [Nat.min_eq_left ha]
theorem mid_ge (e m : List Clip) (a i : Nat) (ha : a ≤ e.length) (h : a + m.length ≤ i) : (e.take a ++ m ++ e.drop (a + m.length))[i]? = e[i]? := by
  rw [List.getElem?_append_right (by simp; omega), List.getElem?_drop]
  congr 1; simp; omega
/-- What is seen of a track of which a part is another one. -/
theorem frameAt_mid {l u : List Clip} {k : Clip} {pos : Int} (hk : wfC k) (ht : trackOk l) (hu : trackOk u) (hp : 0 ≤ pos) (hp2 : pos ≤ sumLen l)
    (he : ex u = (ex l).take pos.toNat ++ ex [k] ++ (ex l).drop (pos + k.len).toNat) (i : Int) :
    frameAt u i = if pos ≤ i ∧ i < pos + k.len then (k.src, if k.src = 0 then k.inn else k.inn + (i - pos)) else frameAt l i := by
  have hs := sum_ex ht
  have h1 := hk.1
  rw [ex_one] at he
  have hfl := framesI_len k
  have hb : (pos + k.len).toNat = pos.toNat + (framesI k).length := by omega
  by_cases hn : i < 0
  · rw [frameAt_neg hn, frameAt_neg hn, if_neg (by omega)]
  by_cases hc : pos ≤ i ∧ i < pos + k.len
  · rw [if_pos hc, frameAt_opt hu (by omega), he, mid_in _ _ _ _ _ (by omega) (by omega) (by omega), framesI_get, if_pos (by omega)]
    have : (((i.toNat - pos.toNat : Nat)) : Int) = i - pos := by omega
    simp only [Option.map_some, Option.getD_some, frameI, this]
  · rw [if_neg hc]
    refine frameAt_eq ht hu (by omega) (by omega) ?_
    by_cases hl : i < pos
    · rw [he, mid_lt _ _ _ _ _ (by omega) (by omega)]
    · rw [he, hb, mid_ge _ _ _ _ (by omega) (by omega)]
theorem sum_mid {l u : List Clip} {k : Clip} {pos : Int} (hk : wfC k) (ht : trackOk l) (hu : trackOk u) (hp : 0 ≤ pos) (hp2 : pos ≤ sumLen l)
    (he : ex u = (ex l).take pos.toNat ++ ex [k] ++ (ex l).drop (pos + k.len).toNat) : sumLen u = if pos + k.len > sumLen l then pos + k.len else sumLen l := by
  have hs := sum_ex ht
  have hs2 := sum_ex hu
  have h1 := hk.1
  rw [he, ex_one, List.length_append, List.length_append, List.length_take, List.length_drop, framesI_len] at hs2
  split <;> omega
end Go.Proofs.Ytknpombiomnkbaa
