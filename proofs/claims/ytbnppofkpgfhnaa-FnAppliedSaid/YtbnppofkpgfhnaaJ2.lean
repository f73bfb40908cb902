import Derived.Test.YtbnppofkpgfhnaaJ1
import Derived.Test.YtbnppofkpgfhnaaI9
namespace Go.Proofs.Ytbnppofkpgfhnaa
open Go Go.Ah
set_option linter.unusedSimpArgs false
set_option linter.unusedVariables false
set_option maxRecDepth 10000
set_option maxHeartbeats 4000000
/-! The frames of parts of a track -/
theorem framesI_get (k : Clip) (d : Nat) : (framesI k)[d]? = if d < k.len.toNat then some (frameI k d) else none := by
  unfold framesI
  by_cases h : d < k.len.toNat
  · rw [if_pos h, List.getElem?_map, List.getElem?_range h]; rfl
  · rw [if_neg h, List.getElem?_eq_none (by simp; omega)]
theorem framesI_len (k : Clip) : (framesI k).length = k.len.toNat := by simp [framesI]
theorem ex_piece (fr to pos : Int) (k : Clip) (hk : wfC k) : ex (pieceS fr to pos k) = ((framesI k).take (to - pos).toNat).drop (fr - pos).toNat := by
  obtain ⟨h1, h2⟩ := hk
  unfold pieceS
  split
  · rename_i hc
    rw [ex_one]
    apply List.ext_getElem?
    intro d
    rw [framesI_get, List.getElem?_drop, List.getElem?_take, framesI_get]
    simp only
    by_cases hd : d < (min to (pos + k.len) - max fr pos).toNat
    · rw [if_pos hd, if_pos (show (fr - pos).toNat + d < (to - pos).toNat by omega), if_pos (show (fr - pos).toNat + d < k.len.toNat by omega)]
      simp only [frameI, Option.some.injEq, Clip.mk.injEq, true_and, and_true]
      by_cases hg : k.src = 0
      · simp only [if_pos hg]; exact (h2 hg).symm
      · simp only [if_neg hg]; omega
    · rw [if_neg hd]
      by_cases hd2 : (fr - pos).toNat + d < (to - pos).toNat
      · rw [if_pos hd2, if_neg (by omega)]
      · rw [if_neg hd2]
  · rename_i hc
    symm
    apply List.eq_nil_of_length_eq_zero
    rw [List.length_drop, List.length_take, framesI_len]; omega
theorem ex_partS (fr to : Int) (l : List Clip) : ∀ (pos : Int), (∀ k ∈ l, wfC k) → ex (partS fr to pos l) = ((ex l).take (to - pos).toNat).drop (fr - pos).toNat := by
  induction l with
  | nil => intro pos _; simp [partS, ex]
  | cons k l ih =>
    intro pos h
    have hk := h k (by simp)
    have e1 : ex (k :: l) = framesI k ++ ex l := by simp [ex]
    have hl := framesI_len k
    have h1 := hk.1
    rw [partS, ex_append, ex_piece fr to pos k hk, ih (pos + k.len) (fun a ha => h a (by simp [ha])), e1, List.take_append, List.drop_append, hl, List.length_take, hl]
    congr 1
    by_cases hc : k.len ≤ to - pos
    · rw [show (to - (pos + k.len)).toNat = (to - pos).toNat - k.len.toNat by omega, show (fr - (pos + k.len)).toNat = (fr - pos).toNat - min (to - pos).toNat k.len.toNat by omega]
    · rw [show (to - (pos + k.len)).toNat = 0 by omega, show (to - pos).toNat - k.len.toNat = 0 by omega]; simp
theorem ex_put (l ins : List Clip) (to fr : Int) (hl : ∀ k ∈ l, wfC k) (hs : sumLen l ≤ 10000000) (hfr : 0 ≤ fr) : ex (partS 0 to 0 l ++ ins ++ partS fr 10000000 0 l) = (ex l).take to.toNat ++ ex ins ++ (ex l).drop fr.toNat := by
  have hlen := len_ex l hl
  rw [ex_append, ex_append, ex_partS 0 to l 0 hl, ex_partS fr 10000000 l 0 hl]
  simp only [Int.sub_zero, Int.toNat_zero, List.drop_zero]
  have h1 : (ex l).take (Int.toNat 10000000) = ex l := List.take_of_length_le (by omega)
  rw [h1]
theorem putS_facts {l ins u : List Clip} {to fr : Int} (hl : ∀ k ∈ l, clipOk k) (hs : sumLen l ≤ 10000000) (hfr : 0 ≤ fr) (h : putS l to ins fr = (u, true)) :
    trackOk u ∧ ex u = (ex l).take to.toNat ++ ex ins ++ (ex l).drop fr.toNat ∧ ∀ k ∈ ins, clipOk k := by
  obtain ⟨h1, h2, h3, h4, h5⟩ := editF_facts h
  exact ⟨h3, by rw [h4, ex_put l ins to fr (fun k hk => (hl k hk).wf) hs hfr], fun k hk => h1 k (by simp [hk])⟩
theorem putS_false {l ins u : List Clip} {to fr : Int} (h : putS l to ins fr = (u, false)) : u = [] := editF_false h
theorem putS_back {l ins m : List Clip} {to fr : Int} (hl : ∀ k ∈ l, clipOk k) (hs : sumLen l ≤ 10000000) (hfr : 0 ≤ fr) (hi : ∀ k ∈ ins, clipOk k) (hm : trackOk m)
    (he : (ex l).take to.toNat ++ ex ins ++ (ex l).drop fr.toNat = ex m) : putS l to ins fr = (join m, true) := by
  refine editF_of (fun k hk => ?_) hm (by rw [ex_put l ins to fr (fun k hk => (hl k hk).wf) hs hfr, he])
  simp only [List.mem_append] at hk
  rcases hk with (hk | hk) | hk
  · exact partS_mem _ _ _ _ hl k hk
  · exact hi k hk
  · exact partS_mem _ _ _ _ hl k hk
theorem trackOk_wf {l : List Clip} (h : trackOk l) : ∀ k ∈ l, wfC k := fun k hk => (h.2.1 k hk).wf
theorem sum_ex {l : List Clip} (h : trackOk l) : ((ex l).length : Int) = sumLen l := len_ex l (trackOk_wf h)
end Go.Proofs.Ytbnppofkpgfhnaa
