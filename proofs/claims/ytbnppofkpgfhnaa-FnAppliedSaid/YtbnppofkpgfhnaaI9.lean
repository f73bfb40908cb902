import Derived.Test.YtbnppofkpgfhnaaI8
import Derived.Test.YtbnppofkpgfhnaaS10
namespace Go.Proofs.Ytbnppofkpgfhnaa
open Go Go.Ah
set_option linter.unusedSimpArgs false
set_option linter.unusedVariables false
set_option maxRecDepth 10000
set_option maxHeartbeats 4000000

/-! the pure laws of parts -/
theorem piece_eq (fr to pos : Int) (k : Clip) (hk : clipOk k) : pieceI (fr - pos) (to - pos) k = pieceS fr to pos k := by
  simp only [clipOk] at hk
  unfold pieceI pieceS
  by_cases hc : max fr pos < min to (pos + k.len)
  · rw [if_pos hc, if_pos (by omega)]
    by_cases hg : k.src = 0
    · simp only [hg, if_true, List.cons.injEq, Clip.mk.injEq, and_true]; exact ⟨trivial, by omega, by omega⟩
    · simp only [hg, if_false, List.cons.injEq, Clip.mk.injEq, and_true]; exact ⟨trivial, by omega, by omega⟩
  · rw [if_neg hc, if_neg (by omega)]
theorem part_eq (fr to : Int) (l : List Clip) : ∀ (pos : Int), (∀ k ∈ l, clipOk k) → partI (fr - pos) (to - pos) l = partS fr to pos l := by
  induction l with
  | nil => intro pos _; rfl
  | cons k l ih =>
    intro pos h
    have := ih (pos + k.len) (fun a ha => h a (by simp [ha]))
    simp only [partI, partS, piece_eq fr to pos k (h k (by simp)), ← this, Int.sub_sub]
theorem sumLen_cons (k : Clip) (l : List Clip) : sumLen (k :: l) = k.len + sumLen l := by simp [sumLen]
theorem partS_end (fr : Int) (l : List Clip) : ∀ (pos : Int), (∀ k ∈ l, clipOk k) → pos + sumLen l ≤ 10000000 → partS fr (pos + sumLen l) pos l = partS fr 10000000 pos l := by
  induction l with
  | nil => intro pos _ _; rfl
  | cons k l ih =>
    intro pos h hs
    have h2 : ∀ a ∈ l, clipOk a := fun a ha => h a (by simp [ha])
    rw [sumLen_cons] at hs ⊢
    have := ih (pos + k.len) h2 (by omega)
    have hb := (sumLen_bound h2).1
    have hp : pieceS fr (pos + (k.len + sumLen l)) pos k = pieceS fr 10000000 pos k := by
      unfold pieceS
      rw [show min (pos + (k.len + sumLen l)) (pos + k.len) = pos + k.len by omega, show min 10000000 (pos + k.len) = pos + k.len by omega]
    simp only [partS, hp, ← this, Int.add_assoc]
theorem partS_mem (fr to : Int) (l : List Clip) : ∀ (pos : Int), (∀ k ∈ l, clipOk k) → ∀ a ∈ partS fr to pos l, clipOk a := by
  induction l with
  | nil => intro pos _ a ha; simp [partS] at ha
  | cons k l ih =>
    intro pos h a ha
    simp only [partS, List.mem_append] at ha
    rcases ha with ha | ha
    · have hk := h k (by simp)
      unfold pieceS at ha
      split at ha
      · simp only [List.mem_singleton] at ha
        subst ha
        simp only [clipOk] at hk ⊢
        by_cases hg : k.src = 0
        · simp only [if_pos hg]; exact ⟨by omega, by omega, by omega, by omega, by omega, by omega, by omega, Or.inr trivial⟩
        · simp only [if_neg hg]; exact ⟨by omega, by omega, by omega, by omega, by omega, by omega, by omega, Or.inl hg⟩
      · cases ha
    · exact ih _ (fun a ha => h a (by simp [ha])) a ha
theorem editFI (l : List Clip) (h : ∀ k ∈ l, clipOk k) : editI l = editF l := by
  unfold editI editF
  by_cases hj : trackOk (join l)
  · rw [if_pos hj, if_pos ⟨h, hj⟩]
  · rw [if_neg hj, if_neg fun q => hj q.2]
theorem Rows.three {h : Heap} {v1 v2 v3 : Value} {l1 l2 l3 : List Clip} (s1 : SlT h encClip 3 v1 l1) (s2 : SlT h encClip 3 v2 l2) (s3 : SlT h encClip 3 v3 l3) :
    Rows (h.more [[v1, v2, v3]]) (.slice (some ⟨h.size, 0, none⟩) 3 1) [l1, l2, l3] := by
  have := (OwnT.new h [v1, v2, v3] encV_len (by omega)).slt
  refine ⟨[v1, v2, v3], this, rfl, fun i h1 h2 => ?_⟩
  simp only [List.length_cons, List.length_nil] at h1
  rcases (show i = 0 ∨ i = 1 ∨ i = 2 by omega) with rfl | rfl | rfl
  · exact s1.ext (Ext.more h _)
  · exact s2.ext (Ext.more h _)
  · exact s3.ext (Ext.more h _)
theorem Rows.two {h : Heap} {v1 v2 : Value} {l1 l2 : List Clip} (s1 : SlT h encClip 3 v1 l1) (s2 : SlT h encClip 3 v2 l2) :
    Rows (h.more [[v1, v2]]) (.slice (some ⟨h.size, 0, none⟩) 2 1) [l1, l2] := by
  have := (OwnT.new h [v1, v2] encV_len (by omega)).slt
  refine ⟨[v1, v2], this, rfl, fun i h1 h2 => ?_⟩
  simp only [List.length_cons, List.length_nil] at h1
  rcases (show i = 0 ∨ i = 1 by omega) with rfl | rfl
  · exact s1.ext (Ext.more h _)
  · exact s2.ext (Ext.more h _)
theorem oneB_sl {h : Heap} {v : Value} {l : List Clip} (s : SlT h encClip 3 v l) (L : List Value) : oneB (v :: L) = oneB L := by
  rcases s.sl with ⟨rfl, _⟩ | ⟨rfl, _⟩ | ⟨i, o, n, ob, rfl, _⟩ <;> rfl
end Go.Proofs.Ytbnppofkpgfhnaa
