import Derived.Test.YtbnppofkpgfhnaaJ2
import Derived.Test.YtbnppofkpgfhnaaCA
namespace Go.Proofs.Ytbnppofkpgfhnaa
open Go Go.Ah
set_option linter.unusedSimpArgs false
set_option linter.unusedVariables false
set_option maxRecDepth 10000
set_option maxHeartbeats 4000000
/-! How far two tracks are alike -/
def lcp : List Clip → List Clip → Nat
  | a :: l, b :: m => if a = b then lcp l m + 1 else 0
  | _, _ => 0
theorem lcp_app (P A B : List Clip) : lcp (P ++ A) (P ++ B) = P.length + lcp A B := by
  induction P with
  | nil => simp
  | cons x P ih => simp only [List.cons_append, lcp, if_true, ih, List.length_cons]; omega
theorem lcp_nil_l (B : List Clip) : lcp [] B = 0 := by cases B <;> rfl
theorem lcp_nil_r (A : List Clip) : lcp A [] = 0 := by cases A <;> rfl
theorem lcp_le (A B : List Clip) : lcp A B ≤ A.length ∧ lcp A B ≤ B.length := by
  induction A generalizing B with
  | nil => simp [lcp_nil_l]
  | cons a A ih =>
    cases B with
    | nil => simp [lcp]
    | cons b B => unfold lcp; split <;> simp <;> (have := ih B; omega)
theorem lcp_take (A B : List Clip) : A.take (lcp A B) = B.take (lcp A B) := by
  induction A generalizing B with
  | nil => simp [lcp_nil_l]
  | cons a A ih =>
    cases B with
    | nil => simp [lcp]
    | cons b B =>
      unfold lcp; split
      · rename_i h; subst h; simp only [List.take_succ_cons, ih B]
      · simp
theorem framesI_head {k : Clip} (h : 1 ≤ k.len) : ∃ t, framesI k = ⟨k.src, k.inn, 1⟩ :: t := by
  obtain ⟨n, hn⟩ : ∃ n, k.len.toNat = n + 1 := ⟨k.len.toNat - 1, by omega⟩
  refine ⟨(List.range n).map fun d => frameI k (d + 1), ?_⟩
  unfold framesI
  rw [hn, List.range_succ_eq_map, List.map_cons, List.map_map]
  congr 1
  simp only [frameI]
  by_cases hs : k.src = 0 <;> simp [hs]
/-- Clips cut at a frame. -/
theorem framesI_cut (s i n m : Int) (h0 : 0 ≤ m) (h1 : m ≤ n) : framesI ⟨s, i, n⟩ = framesI ⟨s, i, m⟩ ++ framesI ⟨s, if s = 0 then i else i + m, n - m⟩ := by
  have := framesI_add ⟨s, i, m⟩ (n - m) h0 (by omega)
  simp only at this
  rw [show m + (n - m) = n by omega] at this
  exact this
theorem framesI_zero (s i n : Int) (h : n ≤ 0) : framesI ⟨s, i, n⟩ = [] := by
  unfold framesI
  simp only
  rw [show n.toNat = 0 by omega]; rfl
theorem ex_cons (k : Clip) (l : List Clip) : ex (k :: l) = framesI k ++ ex l := rfl
/-- The frames of a clip, the last first. -/
theorem framesB_cut (s i n m : Int) (h0 : 0 ≤ m) (h1 : m ≤ n) : (framesI ⟨s, i, n⟩).reverse = (framesI ⟨s, if s = 0 then i else i + (n - m), m⟩).reverse ++ (framesI ⟨s, i, n - m⟩).reverse := by
  rw [framesI_cut s i n (n - m) (by omega) (by omega), List.reverse_append, show n - (n - m) = m by omega]
theorem framesB_head {k : Clip} (h : 1 ≤ k.len) : ∃ t, (framesI k).reverse = ⟨k.src, if k.src = 0 then k.inn else k.inn + (k.len - 1), 1⟩ :: t := by
  obtain ⟨s, i, n⟩ := k
  simp only at h
  rw [framesB_cut s i n 1 (by omega) h]
  obtain ⟨t, ht⟩ := framesI_head (k := ⟨s, if s = 0 then i else i + (n - 1), 1⟩) (by simp)
  have hl := framesI_len ⟨s, if s = 0 then i else i + (n - 1), 1⟩
  rw [ht] at hl
  have : t = [] := List.eq_nil_of_length_eq_zero (by simpa using hl)
  rw [ht, this]
  exact ⟨_, rfl⟩
/-- The frames of a row of clips, each the last first. -/
def exr (l : List Clip) : List Clip := l.flatMap fun k => (framesI k).reverse
theorem exr_cons (k : Clip) (l : List Clip) : exr (k :: l) = (framesI k).reverse ++ exr l := rfl
theorem exr_reverse (l : List Clip) : exr l.reverse = (ex l).reverse := by
  unfold exr ex; rw [List.reverse_flatMap]; rfl
/-- Two rows of clips gone through: P frames are alike, A and B are left. -/
structure Go2 (A0 B0 : List Clip) (A B : List Clip) (n : Int) : Prop where
  wa : ∀ k ∈ A, wfC k
  wb : ∀ k ∈ B, wfC k
  eq : ∃ P : List Clip, A0 = P ++ ex A ∧ B0 = P ++ ex B ∧ (P.length : Int) = n
theorem Go2.stop {A0 B0 A B : List Clip} {n : Int} (g : Go2 A0 B0 A B n) (h : A = [] ∨ B = [] ∨ ∃ p q A' B', A = p :: A' ∧ B = q :: B' ∧ (p.src ≠ q.src ∨ (p.src ≠ 0 ∧ p.inn ≠ q.inn))) : (lcp A0 B0 : Int) = n := by
  obtain ⟨P, h1, h2, h3⟩ := g.eq
  rw [h1, h2, lcp_app]
  have : lcp (ex A) (ex B) = 0 := by
    rcases h with rfl | rfl | ⟨p, q, A', B', rfl, rfl, h⟩
    · exact lcp_nil_l _
    · exact lcp_nil_r _
    · obtain ⟨t, ht⟩ := framesI_head (g.wa p (by simp)).1
      obtain ⟨u, hu⟩ := framesI_head (g.wb q (by simp)).1
      rw [ex_cons, ex_cons, ht, hu]
      simp only [List.cons_append, lcp]
      rw [if_neg]
      intro hq
      simp only [Clip.mk.injEq, and_true] at hq
      rcases h with h | ⟨_, h⟩
      · exact h hq.1
      · exact h hq.2
  omega
theorem Go2.ge {A0 B0 A B : List Clip} {n : Int} (g : Go2 A0 B0 A B n) : n ≤ (lcp A0 B0 : Int) := by
  obtain ⟨P, h1, h2, h3⟩ := g.eq
  rw [h1, h2, lcp_app]; omega
def cutC (k : Clip) (m : Int) : Clip := ⟨k.src, if k.src = 0 then k.inn else k.inn + m, k.len - m⟩
def cutL1 (k : Clip) (m : Int) (l : List Clip) : List Clip := if k.len = m then l else cutC k m :: l
theorem cutL1_wf {k : Clip} {m : Int} {l : List Clip} (hk : wfC k) (hm : m ≤ k.len) (hl : ∀ a ∈ l, wfC a) : ∀ a ∈ cutL1 k m l, wfC a := by
  unfold cutL1
  split
  · exact hl
  · intro a ha
    rcases List.mem_cons.mp ha with rfl | ha
    · refine ⟨by simp only [cutC]; omega, fun h => ?_⟩
      simp only [cutC] at h ⊢; rw [if_pos h]; exact hk.2 h
    · exact hl a ha
theorem ex_cutL1 (k : Clip) (m : Int) (l : List Clip) (h0 : 0 ≤ m) (hm : m ≤ k.len) : framesI k ++ ex l = framesI ⟨k.src, k.inn, m⟩ ++ ex (cutL1 k m l) := by
  obtain ⟨s, i, n⟩ := k
  simp only at hm
  unfold cutL1
  simp only
  split
  · rename_i h; subst h; rfl
  · rw [ex_cons, framesI_cut s i n m h0 hm, List.append_assoc]; rfl
theorem Go2.step {A0 B0 A B : List Clip} {n : Int} {p q : Clip} (g : Go2 A0 B0 (p :: A) (q :: B) n) (m : Int) (h0 : 0 ≤ m) (hp : m ≤ p.len) (hq : m ≤ q.len) (h1 : p.src = q.src) (h2 : p.src = 0 ∨ p.inn = q.inn) :
    Go2 A0 B0 (cutL1 p m A) (cutL1 q m B) (n + m) := by
  have wp := g.wa p (by simp); have wq := g.wb q (by simp)
  have hi : p.inn = q.inn := by
    rcases h2 with h2 | h2
    · rw [wp.2 h2, wq.2 (by omega)]
    · exact h2
  obtain ⟨P, e1, e2, e3⟩ := g.eq
  refine ⟨cutL1_wf wp hp (fun a ha => g.wa a (by simp [ha])), cutL1_wf wq hq (fun a ha => g.wb a (by simp [ha])), P ++ framesI ⟨p.src, p.inn, m⟩, ?_, ?_, ?_⟩
  · rw [e1, ex_cons, ex_cutL1 p m A h0 hp, List.append_assoc]
  · rw [e2, ex_cons, ex_cutL1 q m B h0 hq, List.append_assoc, h1, hi]
  · rw [List.length_append, framesI_len]; simp only; omega
/-- What is left of a row behind its first clips and so many frames. -/
def remA (a : List Clip) (i : Nat) (x : Int) : List Clip := if h : i < a.length then cutC a[i] x :: a.drop (i + 1) else []
theorem cutC_zero (k : Clip) : cutC k 0 = k := by
  obtain ⟨s, n, m⟩ := k
  simp only [cutC]
  by_cases h : s = 0 <;> simp [h]
theorem cutC_cutC (k : Clip) (x m : Int) : cutC (cutC k x) m = cutC k (x + m) := by
  obtain ⟨s, n, l⟩ := k
  simp only [cutC]
  by_cases h : s = 0 <;> simp [h] <;> omega
theorem remA_zero (a : List Clip) (i : Nat) : remA a i 0 = a.drop i := by
  unfold remA
  split
  · rename_i h; rw [cutC_zero, List.drop_eq_getElem_cons h]
  · rw [List.drop_eq_nil_of_le (by omega)]
theorem remA_cons {a : List Clip} {i : Nat} (h : i < a.length) (x : Int) : remA a i x = cutC a[i] x :: a.drop (i + 1) := dif_pos h
theorem remA_end {a : List Clip} {i : Nat} (h : ¬ i < a.length) (x : Int) : remA a i x = [] := dif_neg h
theorem remA_step {a : List Clip} {i : Nat} (h : i < a.length) (x m : Int) : cutL1 (cutC a[i] x) m (a.drop (i + 1)) = if x + m = a[i].len then remA a (i + 1) 0 else remA a i (x + m) := by
  unfold cutL1
  by_cases hc : x + m = a[i].len
  · rw [if_pos hc, if_pos (by simp only [cutC]; omega), remA_zero]
  · rw [if_neg hc, if_neg (by simp only [cutC]; omega), remA_cons h, cutC_cutC]
/-! the same from the end -/
structure Go3 (A0 B0 : List Clip) (A B : List Clip) (n : Int) : Prop where
  wa : ∀ k ∈ A, wfC k
  wb : ∀ k ∈ B, wfC k
  eq : ∃ P : List Clip, A0 = P ++ exr A ∧ B0 = P ++ exr B ∧ (P.length : Int) = n
theorem Go3.stop {A0 B0 A B : List Clip} {n : Int} (g : Go3 A0 B0 A B n) (h : A = [] ∨ B = [] ∨ ∃ p q A' B', A = p :: A' ∧ B = q :: B' ∧ (p.src ≠ q.src ∨ (p.src ≠ 0 ∧ p.inn + p.len ≠ q.inn + q.len))) : (lcp A0 B0 : Int) = n := by
  obtain ⟨P, h1, h2, h3⟩ := g.eq
  rw [h1, h2, lcp_app]
  have : lcp (exr A) (exr B) = 0 := by
    rcases h with rfl | rfl | ⟨p, q, A', B', rfl, rfl, h⟩
    · exact lcp_nil_l _
    · exact lcp_nil_r _
    · obtain ⟨t, ht⟩ := framesB_head (g.wa p (by simp)).1
      obtain ⟨u, hu⟩ := framesB_head (g.wb q (by simp)).1
      rw [exr_cons, exr_cons, ht, hu]
      simp only [List.cons_append, lcp]
      rw [if_neg]
      intro hq
      simp only [Clip.mk.injEq, and_true] at hq
      rcases h with h | ⟨h0, h⟩
      · exact h hq.1
      · have := hq.2
        rw [if_neg h0, if_neg (by omega)] at this
        exact h (by omega)
  omega
theorem Go3.ge {A0 B0 A B : List Clip} {n : Int} (g : Go3 A0 B0 A B n) : n ≤ (lcp A0 B0 : Int) := by
  obtain ⟨P, h1, h2, h3⟩ := g.eq
  rw [h1, h2, lcp_app]; omega
def cutB1 (k : Clip) (m : Int) (l : List Clip) : List Clip := if k.len = m then l else ⟨k.src, k.inn, k.len - m⟩ :: l
theorem cutB1_wf {k : Clip} {m : Int} {l : List Clip} (hk : wfC k) (hm : m ≤ k.len) (hl : ∀ a ∈ l, wfC a) : ∀ a ∈ cutB1 k m l, wfC a := by
  unfold cutB1
  split
  · exact hl
  · intro a ha
    rcases List.mem_cons.mp ha with rfl | ha
    · exact ⟨by simp only; omega, hk.2⟩
    · exact hl a ha
theorem exr_cutB1 (k : Clip) (m : Int) (l : List Clip) (h0 : 0 ≤ m) (hm : m ≤ k.len) : (framesI k).reverse ++ exr l = (framesI ⟨k.src, if k.src = 0 then k.inn else k.inn + (k.len - m), m⟩).reverse ++ exr (cutB1 k m l) := by
  obtain ⟨s, i, n⟩ := k
  simp only at hm
  unfold cutB1
  simp only
  by_cases h : n = m
  · subst h
    rw [show i + (n - n) = i by omega, if_pos rfl]
    by_cases hs : s = 0 <;> simp [hs]
  · rw [if_neg h, exr_cons, framesB_cut s i n m h0 hm, List.append_assoc]
theorem Go3.step {A0 B0 A B : List Clip} {n : Int} {p q : Clip} (g : Go3 A0 B0 (p :: A) (q :: B) n) (m : Int) (h0 : 0 ≤ m) (hp : m ≤ p.len) (hq : m ≤ q.len) (h1 : p.src = q.src) (h2 : p.src = 0 ∨ p.inn + p.len = q.inn + q.len) :
    Go3 A0 B0 (cutB1 p m A) (cutB1 q m B) (n + m) := by
  have wp := g.wa p (by simp); have wq := g.wb q (by simp)
  obtain ⟨P, e1, e2, e3⟩ := g.eq
  have he : (if p.src = 0 then p.inn else p.inn + (p.len - m)) = (if q.src = 0 then q.inn else q.inn + (q.len - m)) := by
    by_cases hs : p.src = 0
    · rw [if_pos hs, if_pos (by omega), wp.2 hs, wq.2 (by omega)]
    · rw [if_neg hs, if_neg (by omega)]; omega
  refine ⟨cutB1_wf wp hp (fun a ha => g.wa a (by simp [ha])), cutB1_wf wq hq (fun a ha => g.wb a (by simp [ha])), P ++ (framesI ⟨p.src, if p.src = 0 then p.inn else p.inn + (p.len - m), m⟩).reverse, ?_, ?_, ?_⟩
  · rw [e1, exr_cons, exr_cutB1 p m A h0 hp, List.append_assoc]
  · rw [e2, exr_cons, exr_cutB1 q m B h0 hq, List.append_assoc, h1, ← he, h1]
  · rw [List.length_append, List.length_reverse, framesI_len]; simp only; omega
end Go.Proofs.Ytbnppofkpgfhnaa

namespace Go.Proofs.Ytbnppofkpgfhnaa
open Go Go.Ah
set_option linter.unusedSimpArgs false
set_option linter.unusedVariables false
set_option maxRecDepth 10000
set_option maxHeartbeats 4000000
/-! How far two tracks are alike: the states of the loops -/
structure AlInv (a b : List Clip) (most : Int) (i k : Nat) (n x y : Int) : Prop where
  hi : i ≤ a.length
  hk : k ≤ b.length
  hn : 0 ≤ n ∧ n ≤ most
  hx : 0 ≤ x ∧ x ≤ 10000000 ∧ ∀ h : i < a.length, x < a[i].len
  hy : 0 ≤ y ∧ y ≤ 10000000 ∧ ∀ h : k < b.length, y < b[k].len
  g : Go2 (ex a) (ex b) (remA a i x) (remA b k y) n
theorem AlInv.start {a b : List Clip} {most : Int} (ha : ∀ k ∈ a, clipOk k) (hb : ∀ k ∈ b, clipOk k) (hm : 0 ≤ most) : AlInv a b most 0 0 0 0 0 := by
  refine ⟨by omega, by omega, by omega, ⟨by omega, by omega, fun h => ?_⟩, ⟨by omega, by omega, fun h => ?_⟩, ?_⟩
  · have := (ha _ (List.getElem_mem h)).wf.1; omega
  · have := (hb _ (List.getElem_mem h)).wf.1; omega
  · rw [remA_zero, remA_zero, List.drop_zero, List.drop_zero]
    exact ⟨fun k hk => (ha k hk).wf, fun k hk => (hb k hk).wf, [], rfl, rfl, rfl⟩
theorem AlInv.step {a b : List Clip} {most : Int} {i k : Nat} {n x y : Int} (I : AlInv a b most i k n x y) (hi : i < a.length) (hk : k < b.length) (hn : n < most) (ha : ∀ k ∈ a, clipOk k) (hb : ∀ k ∈ b, clipOk k)
    (h1 : a[i].src = b[k].src) (h2 : a[i].src = 0 ∨ a[i].inn + x = b[k].inn + y) {M : Int} (hM : M = min (min (a[i].len - x) (b[k].len - y)) (most - n)) :
    1 ≤ M ∧ x + M ≤ a[i].len ∧ y + M ≤ b[k].len ∧ n + M ≤ most ∧
    AlInv a b most (if x + M = a[i].len then i + 1 else i) (if y + M = b[k].len then k + 1 else k) (n + M) (if x + M = a[i].len then 0 else x + M) (if y + M = b[k].len then 0 else y + M) := by
  have q1 := I.hx.2.2 hi; have q2 := I.hy.2.2 hk; have q3 := I.hn; have q4 := I.hx; have q5 := I.hy
  have oa := ha _ (List.getElem_mem hi); have ob := hb _ (List.getElem_mem hk)
  have la : a[i].len ≤ 10000000 := by simp only [clipOk] at oa; omega
  have lb : b[k].len ≤ 10000000 := by simp only [clipOk] at ob; omega
  have m1 : 1 ≤ M := by omega
  have m2 : x + M ≤ a[i].len := by omega
  have m3 : y + M ≤ b[k].len := by omega
  have m4 : n + M ≤ most := by omega
  refine ⟨m1, m2, m3, m4, ?_, ?_, by omega, ?_, ?_, ?_⟩
  · split <;> omega
  · split <;> omega
  · by_cases c : x + M = a[i].len
    · simp only [if_pos c]
      exact ⟨by omega, by omega, fun h => by have := (ha _ (List.getElem_mem h)).wf.1; omega⟩
    · simp only [if_neg c]
      exact ⟨by omega, by omega, fun h => by omega⟩
  · by_cases c : y + M = b[k].len
    · simp only [if_pos c]
      exact ⟨by omega, by omega, fun h => by have := (hb _ (List.getElem_mem h)).wf.1; omega⟩
    · simp only [if_neg c]
      exact ⟨by omega, by omega, fun h => by omega⟩
  · have g := I.g
    rw [remA_cons hi, remA_cons hk] at g
    have G := g.step M (by omega) (by simp only [cutC]; omega) (by simp only [cutC]; omega) (by simpa only [cutC] using h1) (by
      simp only [cutC]
      by_cases hz : a[i].src = 0
      · exact .inl hz
      · rw [if_neg hz, if_neg (by omega)]; omega)
    rw [remA_step hi, remA_step hk] at G
    by_cases c : x + M = a[i].len <;> by_cases d : y + M = b[k].len <;> simp only [c, d, if_true, if_false] at G ⊢ <;> exact G
theorem AlInv.fin {a b : List Clip} {most : Int} {i k : Nat} {n x y : Int} (I : AlInv a b most i k n x y)
    (h : ¬ i < a.length ∨ ¬ k < b.length ∨ ¬ n < most ∨ ∃ (hi : i < a.length) (hk : k < b.length), a[i].src ≠ b[k].src ∨ (a[i].src ≠ 0 ∧ a[i].inn + x ≠ b[k].inn + y)) : n = min most (lcp (ex a) (ex b) : Int) := by
  have q := I.hn
  rcases h with h | h | h | ⟨hi, hk, h⟩
  · have := I.g.stop (.inl (remA_end h x)); omega
  · have := I.g.stop (.inr (.inl (remA_end h y))); omega
  · have := I.g.ge; omega
  · by_cases hs : a[i].src = b[k].src
    · have h2 : a[i].src ≠ 0 ∧ a[i].inn + x ≠ b[k].inn + y := by rcases h with h | h; exact (h hs).elim; exact h
      have := I.g.stop (.inr (.inr ⟨_, _, _, _, remA_cons hi x, remA_cons hk y, .inr ⟨by simp only [cutC]; exact h2.1, by
        simp only [cutC]; rw [if_neg h2.1, if_neg (by omega)]; exact h2.2⟩⟩)); omega
    · have := I.g.stop (.inr (.inr ⟨_, _, _, _, remA_cons hi x, remA_cons hk y, .inl (by simpa only [cutC] using hs)⟩)); omega
/-- What is left of a row before its last clips and so many frames, the last first. -/
def remB (a : List Clip) (c : Nat) (x : Int) : List Clip := match c with
  | 0 => []
  | j + 1 => if h : j < a.length then ⟨a[j].src, a[j].inn, a[j].len - x⟩ :: (a.take j).reverse else []
theorem remB_cons {a : List Clip} {j : Nat} (h : j < a.length) (x : Int) : remB a (j + 1) x = ⟨a[j].src, a[j].inn, a[j].len - x⟩ :: (a.take j).reverse := dif_pos h
theorem remB_zero {a : List Clip} {c : Nat} (hc : c ≤ a.length) : remB a c 0 = (a.take c).reverse := by
  cases c with
  | zero => simp [remB]
  | succ j => rw [remB_cons (by omega), List.take_succ_eq_append_getElem (by omega), List.reverse_append]; simp
theorem remB_step {a : List Clip} {j : Nat} (h : j < a.length) (x m : Int) : cutB1 ⟨a[j].src, a[j].inn, a[j].len - x⟩ m (a.take j).reverse = if x + m = a[j].len then remB a j 0 else remB a (j + 1) (x + m) := by
  unfold cutB1
  by_cases hc : x + m = a[j].len
  · rw [if_pos hc, if_pos (by simp only; omega), remB_zero (by omega)]
  · rw [if_neg hc, if_neg (by simp only; omega), remB_cons h]
    simp only [List.cons.injEq, Clip.mk.injEq, true_and, and_true]; omega
structure EnInv (a b : List Clip) (most : Int) (c d : Nat) (n x y : Int) : Prop where
  hc : c ≤ a.length
  hd : d ≤ b.length
  hn : 0 ≤ n ∧ n ≤ most
  hx : 0 ≤ x ∧ x ≤ 10000000 ∧ ∀ j (h : j < a.length), c = j + 1 → x < a[j].len
  hy : 0 ≤ y ∧ y ≤ 10000000 ∧ ∀ j (h : j < b.length), d = j + 1 → y < b[j].len
  g : Go3 (ex a).reverse (ex b).reverse (remB a c x) (remB b d y) n
theorem EnInv.start {a b : List Clip} {most : Int} (ha : ∀ k ∈ a, clipOk k) (hb : ∀ k ∈ b, clipOk k) (hm : 0 ≤ most) : EnInv a b most a.length b.length 0 0 0 := by
  refine ⟨by omega, by omega, by omega, ⟨by omega, by omega, fun j h _ => ?_⟩, ⟨by omega, by omega, fun j h _ => ?_⟩, ?_⟩
  · have := (ha _ (List.getElem_mem h)).wf.1; omega
  · have := (hb _ (List.getElem_mem h)).wf.1; omega
  · rw [remB_zero (by omega), remB_zero (by omega), List.take_length, List.take_length]
    exact ⟨fun k hk => (ha k (by simpa using hk)).wf, fun k hk => (hb k (by simpa using hk)).wf, [], by rw [exr_reverse]; rfl, by rw [exr_reverse]; rfl, rfl⟩
theorem EnInv.step {a b : List Clip} {most : Int} {i k : Nat} {n x y : Int} (I : EnInv a b most (i + 1) (k + 1) n x y) (hi : i < a.length) (hk : k < b.length) (hn : n < most) (ha : ∀ k ∈ a, clipOk k) (hb : ∀ k ∈ b, clipOk k)
    (h1 : a[i].src = b[k].src) (h2 : a[i].src = 0 ∨ a[i].inn + a[i].len - x = b[k].inn + b[k].len - y) {M : Int} (hM : M = min (min (a[i].len - x) (b[k].len - y)) (most - n)) :
    1 ≤ M ∧ x + M ≤ a[i].len ∧ y + M ≤ b[k].len ∧ n + M ≤ most ∧
    EnInv a b most (if x + M = a[i].len then i else i + 1) (if y + M = b[k].len then k else k + 1) (n + M) (if x + M = a[i].len then 0 else x + M) (if y + M = b[k].len then 0 else y + M) := by
  have q1 := I.hx.2.2 i hi rfl; have q2 := I.hy.2.2 k hk rfl; have q3 := I.hn; have q4 := I.hx; have q5 := I.hy
  have oa := ha _ (List.getElem_mem hi); have ob := hb _ (List.getElem_mem hk)
  have la : a[i].len ≤ 10000000 := by simp only [clipOk] at oa; omega
  have lb : b[k].len ≤ 10000000 := by simp only [clipOk] at ob; omega
  have m1 : 1 ≤ M := by omega
  have m2 : x + M ≤ a[i].len := by omega
  have m3 : y + M ≤ b[k].len := by omega
  have m4 : n + M ≤ most := by omega
  refine ⟨m1, m2, m3, m4, ?_, ?_, by omega, ?_, ?_, ?_⟩
  · split <;> omega
  · split <;> omega
  · by_cases c : x + M = a[i].len
    · simp only [if_pos c]
      exact ⟨by omega, by omega, fun j h _ => by have := (ha _ (List.getElem_mem h)).wf.1; omega⟩
    · simp only [if_neg c]
      refine ⟨by omega, by omega, fun j h e => ?_⟩
      obtain rfl : i = j := by omega
      omega
  · by_cases c : y + M = b[k].len
    · simp only [if_pos c]
      exact ⟨by omega, by omega, fun j h _ => by have := (hb _ (List.getElem_mem h)).wf.1; omega⟩
    · simp only [if_neg c]
      refine ⟨by omega, by omega, fun j h e => ?_⟩
      obtain rfl : k = j := by omega
      omega
  · have g := I.g
    rw [remB_cons hi, remB_cons hk] at g
    have G := g.step M (by omega) (by simp only; omega) (by simp only; omega) (by simpa only using h1) (by
      simp only
      rcases h2 with h2 | h2
      · exact .inl h2
      · exact .inr (by omega))
    rw [remB_step hi, remB_step hk] at G
    by_cases c : x + M = a[i].len <;> by_cases d : y + M = b[k].len <;> simp only [c, d, if_true, if_false] at G ⊢ <;> exact G
theorem EnInv.fin {a b : List Clip} {most : Int} {c d : Nat} {n x y : Int} (I : EnInv a b most c d n x y)
    (h : c = 0 ∨ d = 0 ∨ ¬ n < most ∨ ∃ (i k : Nat) (hi : i < a.length) (hk : k < b.length), c = i + 1 ∧ d = k + 1 ∧ (a[i].src ≠ b[k].src ∨ (a[i].src ≠ 0 ∧ a[i].inn + a[i].len - x ≠ b[k].inn + b[k].len - y))) : n = min most (lcp (ex a).reverse (ex b).reverse : Int) := by
  have q := I.hn
  rcases h with h | h | h | ⟨i, k, hi, hk, rfl, rfl, h⟩
  · have := I.g.stop (.inl (by rw [h]; rfl)); omega
  · have := I.g.stop (.inr (.inl (by rw [h]; rfl))); omega
  · have := I.g.ge; omega
  · have := I.g.stop (.inr (.inr ⟨_, _, _, _, remB_cons hi x, remB_cons hk y, by
      simp only
      rcases h with h | h
      · exact .inl h
      · exact .inr ⟨h.1, by omega⟩⟩)); omega
end Go.Proofs.Ytbnppofkpgfhnaa

namespace Go.Proofs.Ytbnppofkpgfhnaa
open Go Go.Ah
set_option linter.unusedSimpArgs false
set_option linter.unusedVariables false
set_option maxRecDepth 10000
set_option maxHeartbeats 4000000
/-! 49 loop.example/g00066/spec.l5Alike: parameters 3, live [0, 1, 2], slots [0:a, 1:b, 2:most, 3:a, 4:b, 5:most, 7:n, 8:i, 9:k, 10:x, 11:y, 12:p, 13:q, 14:m] -/
def c49_0 : List SOper := [⟨some 6, .q (.mv (.c (.int .i64 0))), none⟩]
def c49_1 : List SOper := [⟨some 7, .q (.mv (.c (.int .i64 0))), none⟩]
def c49_2 : List SOper := [⟨some 8, .q (.mv (.c (.int .i64 0))), none⟩]
def c49_3 : List SOper := [⟨some 9, .q (.mv (.c (.int .i64 0))), none⟩]
def c49_4 : List SOper := [⟨some 10, .q (.mv (.c (.int .i64 0))), none⟩]
def c49_5 : List SOper := [⟨some 11, .q (.mv (.c (.int .i64 0))), none⟩]
def c49_6 : List SOper := [⟨some 15, .q (.mv (.t 8)), none⟩, ⟨some 16, .q (.mv (.t 0)), none⟩, ⟨some 17, .q (.len (.t 16)), none⟩, ⟨some 18, .q (.bin .lss (.t 15) (.t 17)), none⟩, ⟨some 19, .q (.mv (.t 18)), none⟩, ⟨some 20, .q (.mv (.t 9)), some (19, true)⟩, ⟨some 21, .q (.mv (.t 1)), some (19, true)⟩, ⟨some 22, .q (.len (.t 21)), some (19, true)⟩, ⟨some 23, .q (.bin .lss (.t 20) (.t 22)), some (19, true)⟩, ⟨some 24, .q (.pick (.t 19) (.t 23) (.c (.bool false))), none⟩, ⟨some 25, .q (.mv (.t 24)), none⟩, ⟨some 26, .q (.mv (.t 7)), some (25, true)⟩, ⟨some 27, .q (.mv (.t 2)), some (25, true)⟩, ⟨some 28, .q (.bin .lss (.t 26) (.t 27)), some (25, true)⟩, ⟨some 29, .q (.pick (.t 25) (.t 28) (.c (.bool false))), none⟩]
def c49_7 : SCode := .cond (.t 29) .skip (.exit 0)
def c49_8 : SCode := .seq (.region c49_6 [0, 1, 2, 7, 8, 9, 10, 11, 29]) c49_7
def c49_9 : List SOper := [⟨some 30, .q (.mv (.t 0)), none⟩, ⟨some 31, .q (.mv (.t 8)), none⟩, ⟨some 32, .q (.ia 3 (.t 30) (.t 31)), none⟩, ⟨some 33, .q (.ldn 3 (.t 32)), none⟩, ⟨some 12, .a (.new [(.int .i64 0), (.int .i64 0), (.int .i64 0)]), none⟩, ⟨none, .e (.st 3 (.t 12) (.t 33)), none⟩]
def c49_10 : List SOper := [⟨some 34, .q (.mv (.t 1)), none⟩, ⟨some 35, .q (.mv (.t 9)), none⟩, ⟨some 36, .q (.ia 3 (.t 34) (.t 35)), none⟩, ⟨some 37, .q (.ldn 3 (.t 36)), none⟩, ⟨some 13, .a (.new [(.int .i64 0), (.int .i64 0), (.int .i64 0)]), none⟩, ⟨none, .e (.st 3 (.t 13) (.t 37)), none⟩]
def c49_11 : List SOper := [⟨some 38, .q (.fa 0 (.t 12)), none⟩, ⟨some 39, .q (.ld (.t 38)), none⟩, ⟨some 40, .q (.fa 0 (.t 13)), none⟩, ⟨some 41, .q (.ld (.t 40)), none⟩, ⟨some 42, .q (.bin .neq (.t 39) (.t 41)), none⟩, ⟨some 43, .q (.mv (.t 42)), none⟩, ⟨some 44, .q (.fa 0 (.t 12)), some (43, false)⟩, ⟨some 45, .q (.ld (.t 44)), some (43, false)⟩, ⟨some 46, .q (.bin .neq (.t 45) (.c (.int .i64 0))), some (43, false)⟩, ⟨some 47, .q (.mv (.t 46)), some (43, false)⟩, ⟨some 48, .q (.fa 1 (.t 12)), some (47, true)⟩, ⟨some 49, .q (.ld (.t 48)), some (47, true)⟩, ⟨some 50, .q (.mv (.t 10)), some (47, true)⟩, ⟨some 51, .q (.bin .add (.t 49) (.t 50)), some (47, true)⟩, ⟨some 52, .q (.fa 1 (.t 13)), some (47, true)⟩, ⟨some 53, .q (.ld (.t 52)), some (47, true)⟩, ⟨some 54, .q (.mv (.t 11)), some (47, true)⟩, ⟨some 55, .q (.bin .add (.t 53) (.t 54)), some (47, true)⟩, ⟨some 56, .q (.bin .neq (.t 51) (.t 55)), some (47, true)⟩, ⟨some 57, .q (.pick (.t 47) (.t 56) (.c (.bool false))), some (43, false)⟩, ⟨some 58, .q (.pick (.t 43) (.c (.bool true)) (.t 57)), none⟩]
def c49_12 : SCode := .cond (.t 58) (.exit 0) .skip
def c49_13 : SCode := .seq (.region c49_11 [0, 1, 2, 7, 8, 9, 10, 11, 12, 13, 58]) c49_12
def c49_14 : List SOper := [⟨some 59, .q (.fa 2 (.t 12)), none⟩, ⟨some 60, .q (.ld (.t 59)), none⟩, ⟨some 61, .q (.mv (.t 10)), none⟩, ⟨some 62, .q (.bin .sub (.t 60) (.t 61)), none⟩, ⟨some 63, .q (.fa 2 (.t 13)), none⟩, ⟨some 64, .q (.ld (.t 63)), none⟩, ⟨some 65, .q (.mv (.t 11)), none⟩, ⟨some 66, .q (.bin .sub (.t 64) (.t 65)), none⟩, ⟨some 67, .e (.call 50 [(.t 62), (.t 66)]), none⟩, ⟨some 68, .q (.mv (.t 2)), none⟩, ⟨some 69, .q (.mv (.t 7)), none⟩, ⟨some 70, .q (.bin .sub (.t 68) (.t 69)), none⟩, ⟨some 71, .e (.call 50 [(.t 67), (.t 70)]), none⟩, ⟨some 14, .q (.mv (.t 71)), none⟩]
def c49_15 : List SOper := [⟨some 72, .q (.mv (.t 7)), none⟩, ⟨some 73, .q (.mv (.t 14)), none⟩, ⟨some 74, .q (.bin .add (.t 72) (.t 73)), none⟩, ⟨some 7, .q (.mv (.t 74)), none⟩]
def c49_16 : List SOper := [⟨some 75, .q (.mv (.t 10)), none⟩, ⟨some 76, .q (.mv (.t 14)), none⟩, ⟨some 77, .q (.bin .add (.t 75) (.t 76)), none⟩, ⟨some 10, .q (.mv (.t 77)), none⟩]
def c49_17 : List SOper := [⟨some 78, .q (.mv (.t 11)), none⟩, ⟨some 79, .q (.mv (.t 14)), none⟩, ⟨some 80, .q (.bin .add (.t 78) (.t 79)), none⟩, ⟨some 11, .q (.mv (.t 80)), none⟩]
def c49_18 : List SOper := [⟨some 81, .q (.mv (.t 10)), none⟩, ⟨some 82, .q (.fa 2 (.t 12)), none⟩, ⟨some 83, .q (.ld (.t 82)), none⟩, ⟨some 84, .q (.bin .eql (.t 81) (.t 83)), none⟩]
def c49_19 : List SOper := [⟨some 85, .q (.mv (.t 8)), none⟩, ⟨some 86, .q (.bin .add (.t 85) (.c (.int .i64 1))), none⟩, ⟨some 8, .q (.mv (.t 86)), none⟩]
def c49_20 : List SOper := [⟨some 10, .q (.mv (.c (.int .i64 0))), none⟩]
def c49_21 : SCode := .seq (.region c49_19 [0, 1, 2, 7, 8, 9, 11, 13]) (.region c49_20 [0, 1, 2, 7, 8, 9, 10, 11, 13])
def c49_22 : SCode := .cond (.t 84) c49_21 .skip
def c49_23 : SCode := .seq (.region c49_18 [0, 1, 2, 7, 8, 9, 10, 11, 13, 84]) c49_22
def c49_24 : List SOper := [⟨some 87, .q (.mv (.t 11)), none⟩, ⟨some 88, .q (.fa 2 (.t 13)), none⟩, ⟨some 89, .q (.ld (.t 88)), none⟩, ⟨some 90, .q (.bin .eql (.t 87) (.t 89)), none⟩]
def c49_25 : List SOper := [⟨some 91, .q (.mv (.t 9)), none⟩, ⟨some 92, .q (.bin .add (.t 91) (.c (.int .i64 1))), none⟩, ⟨some 9, .q (.mv (.t 92)), none⟩]
def c49_26 : List SOper := [⟨some 11, .q (.mv (.c (.int .i64 0))), none⟩]
def c49_27 : SCode := .seq (.region c49_25 [0, 1, 2, 7, 8, 9, 10]) (.region c49_26 [0, 1, 2, 7, 8, 9, 10, 11])
def c49_28 : SCode := .cond (.t 90) c49_27 .skip
def c49_29 : SCode := .seq (.region c49_24 [0, 1, 2, 7, 8, 9, 10, 11, 90]) c49_28
def c49_30 : SCode := .seq c49_23 c49_29
def c49_31 : SCode := .seq (.region c49_17 [0, 1, 2, 7, 8, 9, 10, 11, 12, 13]) c49_30
def c49_32 : SCode := .seq (.region c49_16 [0, 1, 2, 7, 8, 9, 10, 11, 12, 13, 14]) c49_31
def c49_33 : SCode := .seq (.region c49_15 [0, 1, 2, 7, 8, 9, 10, 11, 12, 13, 14]) c49_32
def c49_34 : SCode := .seq (.region c49_14 [0, 1, 2, 7, 8, 9, 10, 11, 12, 13, 14]) c49_33
def c49_35 : SCode := .seq c49_13 c49_34
def c49_36 : SCode := .seq (.region c49_10 [0, 1, 2, 7, 8, 9, 10, 11, 12, 13]) c49_35
def c49_37 : SCode := .seq (.region c49_9 [0, 1, 2, 7, 8, 9, 10, 11, 12]) c49_36
def c49_38 : SCode := .block 1 c49_37
def c49_39 : SCode := .seq c49_8 c49_38
def c49_40 : SCode := .loop c49_39
def c49_41 : SCode := .block 0 c49_40
def c49_42 : List SOper := [⟨some 93, .q (.mv (.t 7)), none⟩, ⟨some 6, .q (.mv (.t 93)), none⟩]
def c49_43 : SCode := .seq (.region c49_42 [6]) .ret
def c49_44 : SCode := .seq c49_41 c49_43
def c49_45 : SCode := .seq (.region c49_5 [0, 1, 2, 7, 8, 9, 10, 11]) c49_44
def c49_46 : SCode := .seq (.region c49_4 [0, 1, 2, 7, 8, 9, 10]) c49_45
def c49_47 : SCode := .seq (.region c49_3 [0, 1, 2, 7, 8, 9]) c49_46
def c49_48 : SCode := .seq (.region c49_2 [0, 1, 2, 7, 8]) c49_47
def c49_49 : SCode := .seq (.region c49_1 [0, 1, 2, 7]) c49_48
def c49_50 : SCode := .seq (.region c49_0 [0, 1, 2]) c49_49
def c49 : SCode := c49_50
theorem w49 : type_of% (And.intro (uR Try.prog c49_0.eq_1) (And.intro (uR Try.prog c49_1.eq_1) (And.intro (uR Try.prog c49_2.eq_1) (And.intro (uR Try.prog c49_3.eq_1) (And.intro (uR Try.prog c49_4.eq_1) (And.intro (uR Try.prog c49_5.eq_1) (And.intro (uR Try.prog c49_6.eq_1) (And.intro (uC Try.prog c49_7.eq_1) (And.intro (uC Try.prog c49_8.eq_1) (And.intro (uR Try.prog c49_9.eq_1) (And.intro (uR Try.prog c49_10.eq_1) (And.intro (uR Try.prog c49_11.eq_1) (And.intro (uC Try.prog c49_12.eq_1) (And.intro (uC Try.prog c49_13.eq_1) (And.intro (uR Try.prog c49_14.eq_1) (And.intro (uR Try.prog c49_15.eq_1) (And.intro (uR Try.prog c49_16.eq_1) (And.intro (uR Try.prog c49_17.eq_1) (And.intro (uR Try.prog c49_18.eq_1) (And.intro (uR Try.prog c49_19.eq_1) (And.intro (uR Try.prog c49_20.eq_1) (And.intro (uC Try.prog c49_21.eq_1) (And.intro (uC Try.prog c49_22.eq_1) (And.intro (uC Try.prog c49_23.eq_1) (And.intro (uR Try.prog c49_24.eq_1) (And.intro (uR Try.prog c49_25.eq_1) (And.intro (uR Try.prog c49_26.eq_1) (And.intro (uC Try.prog c49_27.eq_1) (And.intro (uC Try.prog c49_28.eq_1) (And.intro (uC Try.prog c49_29.eq_1) (And.intro (uC Try.prog c49_30.eq_1) (And.intro (uC Try.prog c49_31.eq_1) (And.intro (uC Try.prog c49_32.eq_1) (And.intro (uC Try.prog c49_33.eq_1) (And.intro (uC Try.prog c49_34.eq_1) (And.intro (uC Try.prog c49_35.eq_1) (And.intro (uC Try.prog c49_36.eq_1) (And.intro (uC Try.prog c49_37.eq_1) (And.intro (uC Try.prog c49_38.eq_1) (And.intro (uC Try.prog c49_39.eq_1) (And.intro (uC Try.prog c49_40.eq_1) (And.intro (uC Try.prog c49_41.eq_1) (And.intro (uR Try.prog c49_42.eq_1) (And.intro (uC Try.prog c49_43.eq_1) (And.intro (uC Try.prog c49_44.eq_1) (And.intro (uC Try.prog c49_45.eq_1) (And.intro (uC Try.prog c49_46.eq_1) (And.intro (uC Try.prog c49_47.eq_1) (And.intro (uC Try.prog c49_48.eq_1) (And.intro (uC Try.prog c49_49.eq_1) (And.intro (uC Try.prog c49_50.eq_1) (uC Try.prog c49.eq_1)))))))))))))))))))))))))))))))))))))))))))))))))))) := (And.intro (uR Try.prog c49_0.eq_1) (And.intro (uR Try.prog c49_1.eq_1) (And.intro (uR Try.prog c49_2.eq_1) (And.intro (uR Try.prog c49_3.eq_1) (And.intro (uR Try.prog c49_4.eq_1) (And.intro (uR Try.prog c49_5.eq_1) (And.intro (uR Try.prog c49_6.eq_1) (And.intro (uC Try.prog c49_7.eq_1) (And.intro (uC Try.prog c49_8.eq_1) (And.intro (uR Try.prog c49_9.eq_1) (And.intro (uR Try.prog c49_10.eq_1) (And.intro (uR Try.prog c49_11.eq_1) (And.intro (uC Try.prog c49_12.eq_1) (And.intro (uC Try.prog c49_13.eq_1) (And.intro (uR Try.prog c49_14.eq_1) (And.intro (uR Try.prog c49_15.eq_1) (And.intro (uR Try.prog c49_16.eq_1) (And.intro (uR Try.prog c49_17.eq_1) (And.intro (uR Try.prog c49_18.eq_1) (And.intro (uR Try.prog c49_19.eq_1) (And.intro (uR Try.prog c49_20.eq_1) (And.intro (uC Try.prog c49_21.eq_1) (And.intro (uC Try.prog c49_22.eq_1) (And.intro (uC Try.prog c49_23.eq_1) (And.intro (uR Try.prog c49_24.eq_1) (And.intro (uR Try.prog c49_25.eq_1) (And.intro (uR Try.prog c49_26.eq_1) (And.intro (uC Try.prog c49_27.eq_1) (And.intro (uC Try.prog c49_28.eq_1) (And.intro (uC Try.prog c49_29.eq_1) (And.intro (uC Try.prog c49_30.eq_1) (And.intro (uC Try.prog c49_31.eq_1) (And.intro (uC Try.prog c49_32.eq_1) (And.intro (uC Try.prog c49_33.eq_1) (And.intro (uC Try.prog c49_34.eq_1) (And.intro (uC Try.prog c49_35.eq_1) (And.intro (uC Try.prog c49_36.eq_1) (And.intro (uC Try.prog c49_37.eq_1) (And.intro (uC Try.prog c49_38.eq_1) (And.intro (uC Try.prog c49_39.eq_1) (And.intro (uC Try.prog c49_40.eq_1) (And.intro (uC Try.prog c49_41.eq_1) (And.intro (uR Try.prog c49_42.eq_1) (And.intro (uC Try.prog c49_43.eq_1) (And.intro (uC Try.prog c49_44.eq_1) (And.intro (uC Try.prog c49_45.eq_1) (And.intro (uC Try.prog c49_46.eq_1) (And.intro (uC Try.prog c49_47.eq_1) (And.intro (uC Try.prog c49_48.eq_1) (And.intro (uC Try.prog c49_49.eq_1) (And.intro (uC Try.prog c49_50.eq_1) (uC Try.prog c49.eq_1))))))))))))))))))))))))))))))))))))))))))))))))))))
def v49 : List RV := [.t 6]
theorem s49 : slimF Try.prog Try.f49 = some (c49.bare, v49) := by kernel_rfl
/-! 51 loop.example/g00066/spec.l5Ends: parameters 3, live [0, 1, 2], slots [0:a, 1:b, 2:most, 3:a, 4:b, 5:most, 7:n, 8:i, 9:k, 10:x, 11:y, 12:p, 13:q, 14:m] -/
def c51_0 : List SOper := [⟨some 6, .q (.mv (.c (.int .i64 0))), none⟩]
def c51_1 : List SOper := [⟨some 7, .q (.mv (.c (.int .i64 0))), none⟩]
def c51_2 : List SOper := [⟨some 15, .q (.mv (.t 0)), none⟩, ⟨some 16, .q (.len (.t 15)), none⟩, ⟨some 17, .q (.bin .sub (.t 16) (.c (.int .i64 1))), none⟩, ⟨some 8, .q (.mv (.t 17)), none⟩]
def c51_3 : List SOper := [⟨some 18, .q (.mv (.t 1)), none⟩, ⟨some 19, .q (.len (.t 18)), none⟩, ⟨some 20, .q (.bin .sub (.t 19) (.c (.int .i64 1))), none⟩, ⟨some 9, .q (.mv (.t 20)), none⟩]
def c51_4 : List SOper := [⟨some 10, .q (.mv (.c (.int .i64 0))), none⟩]
def c51_5 : List SOper := [⟨some 11, .q (.mv (.c (.int .i64 0))), none⟩]
def c51_6 : List SOper := [⟨some 21, .q (.mv (.t 8)), none⟩, ⟨some 22, .q (.bin .geq (.t 21) (.c (.int .i64 0))), none⟩, ⟨some 23, .q (.mv (.t 22)), none⟩, ⟨some 24, .q (.mv (.t 9)), some (23, true)⟩, ⟨some 25, .q (.bin .geq (.t 24) (.c (.int .i64 0))), some (23, true)⟩, ⟨some 26, .q (.pick (.t 23) (.t 25) (.c (.bool false))), none⟩, ⟨some 27, .q (.mv (.t 26)), none⟩, ⟨some 28, .q (.mv (.t 7)), some (27, true)⟩, ⟨some 29, .q (.mv (.t 2)), some (27, true)⟩, ⟨some 30, .q (.bin .lss (.t 28) (.t 29)), some (27, true)⟩, ⟨some 31, .q (.pick (.t 27) (.t 30) (.c (.bool false))), none⟩]
def c51_7 : SCode := .cond (.t 31) .skip (.exit 0)
def c51_8 : SCode := .seq (.region c51_6 [0, 1, 2, 7, 8, 9, 10, 11, 31]) c51_7
def c51_9 : List SOper := [⟨some 32, .q (.mv (.t 0)), none⟩, ⟨some 33, .q (.mv (.t 8)), none⟩, ⟨some 34, .q (.ia 3 (.t 32) (.t 33)), none⟩, ⟨some 35, .q (.ldn 3 (.t 34)), none⟩, ⟨some 12, .a (.new [(.int .i64 0), (.int .i64 0), (.int .i64 0)]), none⟩, ⟨none, .e (.st 3 (.t 12) (.t 35)), none⟩]
def c51_10 : List SOper := [⟨some 36, .q (.mv (.t 1)), none⟩, ⟨some 37, .q (.mv (.t 9)), none⟩, ⟨some 38, .q (.ia 3 (.t 36) (.t 37)), none⟩, ⟨some 39, .q (.ldn 3 (.t 38)), none⟩, ⟨some 13, .a (.new [(.int .i64 0), (.int .i64 0), (.int .i64 0)]), none⟩, ⟨none, .e (.st 3 (.t 13) (.t 39)), none⟩]
def c51_11 : List SOper := [⟨some 40, .q (.fa 0 (.t 12)), none⟩, ⟨some 41, .q (.ld (.t 40)), none⟩, ⟨some 42, .q (.fa 0 (.t 13)), none⟩, ⟨some 43, .q (.ld (.t 42)), none⟩, ⟨some 44, .q (.bin .neq (.t 41) (.t 43)), none⟩, ⟨some 45, .q (.mv (.t 44)), none⟩, ⟨some 46, .q (.fa 0 (.t 12)), some (45, false)⟩, ⟨some 47, .q (.ld (.t 46)), some (45, false)⟩, ⟨some 48, .q (.bin .neq (.t 47) (.c (.int .i64 0))), some (45, false)⟩, ⟨some 49, .q (.mv (.t 48)), some (45, false)⟩, ⟨some 50, .q (.fa 1 (.t 12)), some (49, true)⟩, ⟨some 51, .q (.ld (.t 50)), some (49, true)⟩, ⟨some 52, .q (.fa 2 (.t 12)), some (49, true)⟩, ⟨some 53, .q (.ld (.t 52)), some (49, true)⟩, ⟨some 54, .q (.bin .add (.t 51) (.t 53)), some (49, true)⟩, ⟨some 55, .q (.mv (.t 10)), some (49, true)⟩, ⟨some 56, .q (.bin .sub (.t 54) (.t 55)), some (49, true)⟩, ⟨some 57, .q (.fa 1 (.t 13)), some (49, true)⟩, ⟨some 58, .q (.ld (.t 57)), some (49, true)⟩, ⟨some 59, .q (.fa 2 (.t 13)), some (49, true)⟩, ⟨some 60, .q (.ld (.t 59)), some (49, true)⟩, ⟨some 61, .q (.bin .add (.t 58) (.t 60)), some (49, true)⟩, ⟨some 62, .q (.mv (.t 11)), some (49, true)⟩, ⟨some 63, .q (.bin .sub (.t 61) (.t 62)), some (49, true)⟩, ⟨some 64, .q (.bin .neq (.t 56) (.t 63)), some (49, true)⟩, ⟨some 65, .q (.pick (.t 49) (.t 64) (.c (.bool false))), some (45, false)⟩, ⟨some 66, .q (.pick (.t 45) (.c (.bool true)) (.t 65)), none⟩]
def c51_12 : SCode := .cond (.t 66) (.exit 0) .skip
def c51_13 : SCode := .seq (.region c51_11 [0, 1, 2, 7, 8, 9, 10, 11, 12, 13, 66]) c51_12
def c51_14 : List SOper := [⟨some 67, .q (.fa 2 (.t 12)), none⟩, ⟨some 68, .q (.ld (.t 67)), none⟩, ⟨some 69, .q (.mv (.t 10)), none⟩, ⟨some 70, .q (.bin .sub (.t 68) (.t 69)), none⟩, ⟨some 71, .q (.fa 2 (.t 13)), none⟩, ⟨some 72, .q (.ld (.t 71)), none⟩, ⟨some 73, .q (.mv (.t 11)), none⟩, ⟨some 74, .q (.bin .sub (.t 72) (.t 73)), none⟩, ⟨some 75, .e (.call 50 [(.t 70), (.t 74)]), none⟩, ⟨some 76, .q (.mv (.t 2)), none⟩, ⟨some 77, .q (.mv (.t 7)), none⟩, ⟨some 78, .q (.bin .sub (.t 76) (.t 77)), none⟩, ⟨some 79, .e (.call 50 [(.t 75), (.t 78)]), none⟩, ⟨some 14, .q (.mv (.t 79)), none⟩]
def c51_15 : List SOper := [⟨some 80, .q (.mv (.t 7)), none⟩, ⟨some 81, .q (.mv (.t 14)), none⟩, ⟨some 82, .q (.bin .add (.t 80) (.t 81)), none⟩, ⟨some 7, .q (.mv (.t 82)), none⟩]
def c51_16 : List SOper := [⟨some 83, .q (.mv (.t 10)), none⟩, ⟨some 84, .q (.mv (.t 14)), none⟩, ⟨some 85, .q (.bin .add (.t 83) (.t 84)), none⟩, ⟨some 10, .q (.mv (.t 85)), none⟩]
def c51_17 : List SOper := [⟨some 86, .q (.mv (.t 11)), none⟩, ⟨some 87, .q (.mv (.t 14)), none⟩, ⟨some 88, .q (.bin .add (.t 86) (.t 87)), none⟩, ⟨some 11, .q (.mv (.t 88)), none⟩]
def c51_18 : List SOper := [⟨some 89, .q (.mv (.t 10)), none⟩, ⟨some 90, .q (.fa 2 (.t 12)), none⟩, ⟨some 91, .q (.ld (.t 90)), none⟩, ⟨some 92, .q (.bin .eql (.t 89) (.t 91)), none⟩]
def c51_19 : List SOper := [⟨some 93, .q (.mv (.t 8)), none⟩, ⟨some 94, .q (.bin .sub (.t 93) (.c (.int .i64 1))), none⟩, ⟨some 8, .q (.mv (.t 94)), none⟩]
def c51_20 : List SOper := [⟨some 10, .q (.mv (.c (.int .i64 0))), none⟩]
def c51_21 : SCode := .seq (.region c51_19 [0, 1, 2, 7, 8, 9, 11, 13]) (.region c51_20 [0, 1, 2, 7, 8, 9, 10, 11, 13])
def c51_22 : SCode := .cond (.t 92) c51_21 .skip
def c51_23 : SCode := .seq (.region c51_18 [0, 1, 2, 7, 8, 9, 10, 11, 13, 92]) c51_22
def c51_24 : List SOper := [⟨some 95, .q (.mv (.t 11)), none⟩, ⟨some 96, .q (.fa 2 (.t 13)), none⟩, ⟨some 97, .q (.ld (.t 96)), none⟩, ⟨some 98, .q (.bin .eql (.t 95) (.t 97)), none⟩]
def c51_25 : List SOper := [⟨some 99, .q (.mv (.t 9)), none⟩, ⟨some 100, .q (.bin .sub (.t 99) (.c (.int .i64 1))), none⟩, ⟨some 9, .q (.mv (.t 100)), none⟩]
def c51_26 : List SOper := [⟨some 11, .q (.mv (.c (.int .i64 0))), none⟩]
def c51_27 : SCode := .seq (.region c51_25 [0, 1, 2, 7, 8, 9, 10]) (.region c51_26 [0, 1, 2, 7, 8, 9, 10, 11])
def c51_28 : SCode := .cond (.t 98) c51_27 .skip
def c51_29 : SCode := .seq (.region c51_24 [0, 1, 2, 7, 8, 9, 10, 11, 98]) c51_28
def c51_30 : SCode := .seq c51_23 c51_29
def c51_31 : SCode := .seq (.region c51_17 [0, 1, 2, 7, 8, 9, 10, 11, 12, 13]) c51_30
def c51_32 : SCode := .seq (.region c51_16 [0, 1, 2, 7, 8, 9, 10, 11, 12, 13, 14]) c51_31
def c51_33 : SCode := .seq (.region c51_15 [0, 1, 2, 7, 8, 9, 10, 11, 12, 13, 14]) c51_32
def c51_34 : SCode := .seq (.region c51_14 [0, 1, 2, 7, 8, 9, 10, 11, 12, 13, 14]) c51_33
def c51_35 : SCode := .seq c51_13 c51_34
def c51_36 : SCode := .seq (.region c51_10 [0, 1, 2, 7, 8, 9, 10, 11, 12, 13]) c51_35
def c51_37 : SCode := .seq (.region c51_9 [0, 1, 2, 7, 8, 9, 10, 11, 12]) c51_36
def c51_38 : SCode := .block 1 c51_37
def c51_39 : SCode := .seq c51_8 c51_38
def c51_40 : SCode := .loop c51_39
def c51_41 : SCode := .block 0 c51_40
def c51_42 : List SOper := [⟨some 101, .q (.mv (.t 7)), none⟩, ⟨some 6, .q (.mv (.t 101)), none⟩]
def c51_43 : SCode := .seq (.region c51_42 [6]) .ret
def c51_44 : SCode := .seq c51_41 c51_43
def c51_45 : SCode := .seq (.region c51_5 [0, 1, 2, 7, 8, 9, 10, 11]) c51_44
def c51_46 : SCode := .seq (.region c51_4 [0, 1, 2, 7, 8, 9, 10]) c51_45
def c51_47 : SCode := .seq (.region c51_3 [0, 1, 2, 7, 8, 9]) c51_46
def c51_48 : SCode := .seq (.region c51_2 [0, 1, 2, 7, 8]) c51_47
def c51_49 : SCode := .seq (.region c51_1 [0, 1, 2, 7]) c51_48
def c51_50 : SCode := .seq (.region c51_0 [0, 1, 2]) c51_49
def c51 : SCode := c51_50
theorem w51 : type_of% (And.intro (uR Try.prog c51_0.eq_1) (And.intro (uR Try.prog c51_1.eq_1) (And.intro (uR Try.prog c51_2.eq_1) (And.intro (uR Try.prog c51_3.eq_1) (And.intro (uR Try.prog c51_4.eq_1) (And.intro (uR Try.prog c51_5.eq_1) (And.intro (uR Try.prog c51_6.eq_1) (And.intro (uC Try.prog c51_7.eq_1) (And.intro (uC Try.prog c51_8.eq_1) (And.intro (uR Try.prog c51_9.eq_1) (And.intro (uR Try.prog c51_10.eq_1) (And.intro (uR Try.prog c51_11.eq_1) (And.intro (uC Try.prog c51_12.eq_1) (And.intro (uC Try.prog c51_13.eq_1) (And.intro (uR Try.prog c51_14.eq_1) (And.intro (uR Try.prog c51_15.eq_1) (And.intro (uR Try.prog c51_16.eq_1) (And.intro (uR Try.prog c51_17.eq_1) (And.intro (uR Try.prog c51_18.eq_1) (And.intro (uR Try.prog c51_19.eq_1) (And.intro (uR Try.prog c51_20.eq_1) (And.intro (uC Try.prog c51_21.eq_1) (And.intro (uC Try.prog c51_22.eq_1) (And.intro (uC Try.prog c51_23.eq_1) (And.intro (uR Try.prog c51_24.eq_1) (And.intro (uR Try.prog c51_25.eq_1) (And.intro (uR Try.prog c51_26.eq_1) (And.intro (uC Try.prog c51_27.eq_1) (And.intro (uC Try.prog c51_28.eq_1) (And.intro (uC Try.prog c51_29.eq_1) (And.intro (uC Try.prog c51_30.eq_1) (And.intro (uC Try.prog c51_31.eq_1) (And.intro (uC Try.prog c51_32.eq_1) (And.intro (uC Try.prog c51_33.eq_1) (And.intro (uC Try.prog c51_34.eq_1) (And.intro (uC Try.prog c51_35.eq_1) (And.intro (uC Try.prog c51_36.eq_1) (And.intro (uC Try.prog c51_37.eq_1) (And.intro (uC Try.prog c51_38.eq_1) (And.intro (uC Try.prog c51_39.eq_1) (And.intro (uC Try.prog c51_40.eq_1) (And.intro (uC Try.prog c51_41.eq_1) (And.intro (uR Try.prog c51_42.eq_1) (And.intro (uC Try.prog c51_43.eq_1) (And.intro (uC Try.prog c51_44.eq_1) (And.intro (uC Try.prog c51_45.eq_1) (And.intro (uC Try.prog c51_46.eq_1) (And.intro (uC Try.prog c51_47.eq_1) (And.intro (uC Try.prog c51_48.eq_1) (And.intro (uC Try.prog c51_49.eq_1) (And.intro (uC Try.prog c51_50.eq_1) (uC Try.prog c51.eq_1)))))))))))))))))))))))))))))))))))))))))))))))))))) := (And.intro (uR Try.prog c51_0.eq_1) (And.intro (uR Try.prog c51_1.eq_1) (And.intro (uR Try.prog c51_2.eq_1) (And.intro (uR Try.prog c51_3.eq_1) (And.intro (uR Try.prog c51_4.eq_1) (And.intro (uR Try.prog c51_5.eq_1) (And.intro (uR Try.prog c51_6.eq_1) (And.intro (uC Try.prog c51_7.eq_1) (And.intro (uC Try.prog c51_8.eq_1) (And.intro (uR Try.prog c51_9.eq_1) (And.intro (uR Try.prog c51_10.eq_1) (And.intro (uR Try.prog c51_11.eq_1) (And.intro (uC Try.prog c51_12.eq_1) (And.intro (uC Try.prog c51_13.eq_1) (And.intro (uR Try.prog c51_14.eq_1) (And.intro (uR Try.prog c51_15.eq_1) (And.intro (uR Try.prog c51_16.eq_1) (And.intro (uR Try.prog c51_17.eq_1) (And.intro (uR Try.prog c51_18.eq_1) (And.intro (uR Try.prog c51_19.eq_1) (And.intro (uR Try.prog c51_20.eq_1) (And.intro (uC Try.prog c51_21.eq_1) (And.intro (uC Try.prog c51_22.eq_1) (And.intro (uC Try.prog c51_23.eq_1) (And.intro (uR Try.prog c51_24.eq_1) (And.intro (uR Try.prog c51_25.eq_1) (And.intro (uR Try.prog c51_26.eq_1) (And.intro (uC Try.prog c51_27.eq_1) (And.intro (uC Try.prog c51_28.eq_1) (And.intro (uC Try.prog c51_29.eq_1) (And.intro (uC Try.prog c51_30.eq_1) (And.intro (uC Try.prog c51_31.eq_1) (And.intro (uC Try.prog c51_32.eq_1) (And.intro (uC Try.prog c51_33.eq_1) (And.intro (uC Try.prog c51_34.eq_1) (And.intro (uC Try.prog c51_35.eq_1) (And.intro (uC Try.prog c51_36.eq_1) (And.intro (uC Try.prog c51_37.eq_1) (And.intro (uC Try.prog c51_38.eq_1) (And.intro (uC Try.prog c51_39.eq_1) (And.intro (uC Try.prog c51_40.eq_1) (And.intro (uC Try.prog c51_41.eq_1) (And.intro (uR Try.prog c51_42.eq_1) (And.intro (uC Try.prog c51_43.eq_1) (And.intro (uC Try.prog c51_44.eq_1) (And.intro (uC Try.prog c51_45.eq_1) (And.intro (uC Try.prog c51_46.eq_1) (And.intro (uC Try.prog c51_47.eq_1) (And.intro (uC Try.prog c51_48.eq_1) (And.intro (uC Try.prog c51_49.eq_1) (And.intro (uC Try.prog c51_50.eq_1) (uC Try.prog c51.eq_1))))))))))))))))))))))))))))))))))))))))))))))))))))
def v51 : List RV := [.t 6]
theorem s51 : slimF Try.prog Try.f51 = some (c51.bare, v51) := by kernel_rfl

theorem l5Alike_ok (h : Heap) (v w : Value) (a b : List Clip) (most : Int) (s : SlT h encClip 3 v a) (sw : SlT h encClip 3 w b) (la : a.length ≤ 300) (lb : b.length ≤ 300) (ha : ∀ k ∈ a, clipOk k) (hb : ∀ k ∈ b, clipOk k) (hm : 0 ≤ most ∧ most ≤ 100000000000) :
    ACall Try.prog 49 [v, w, .int .i64 most] h fun r h' => Ext h h' ∧ r = .int .i64 (min most (lcp (ex a) (ex b) : Int)) := by
  refine ACall.of Try.func49 s49 (of_decide_eq_true rfl) ?_
  simp (maxSteps := 4000000) (disch := omega) only [ah, am, Nat.reduceEqDiff, reduceCtorEq, Nat.reduceAdd, Nat.reduceLeDiff, Nat.reduceMul, Nat.reduceLT, if_true, if_false, true_and, and_true, and_self, Nat.reduceBEq, QOp.loads, boxO, bslO, buildO, cutL, fillV, putL, w49, v49]
  refine ⟨fun N E H => ∃ (i k : Nat) (n x y : Int) (tl : Env), E = (0, v) :: (1, w) :: (2, .int .i64 most) :: (7, .int .i64 n) :: (8, .int .i64 i) :: (9, .int .i64 k) :: (10, .int .i64 x) :: (11, .int .i64 y) :: tl ∧ Ext h H ∧ N = (most - n).toNat ∧ AlInv a b most i k n x y,
    ⟨_, 0, 0, 0, 0, 0, [], rfl, Ext.refl h, rfl, AlInv.start ha hb hm.1⟩, ?_⟩
  rintro N E H ⟨i, k, n, x, y, tl, rfl, e, rfl, I⟩
  have R := (s.ext e).rulesN
  have Rw := (sw.ext e).rulesN
  have hil := I.hi
  have hkl := I.hk
  have W1 : IntKind.i64.wrap ((i : Int) + 1) = ((i + 1 : Nat) : Int) := i64e (by omega) (by omega)
  have W2 : IntKind.i64.wrap ((k : Int) + 1) = ((k + 1 : Nat) : Int) := i64e (by omega) (by omega)
  by_cases hi : i < a.length
  rotate_left
  · have hi' : decide ((i : Int) < a.length) = false := decide_eq_false (by omega)
    simp (maxSteps := 4000000) (disch := omega) only [ah, am, Nat.reduceEqDiff, reduceCtorEq, Nat.reduceAdd, Nat.reduceLeDiff, Nat.reduceMul, Nat.reduceLT, if_true, if_false, true_and, and_true, and_self, Nat.reduceBEq, QOp.loads, boxO, bslO, buildO, cutL, fillV, putL, w49, v49, R, Rw, hi']
    exact ⟨e, by rw [← I.fin (.inl hi)]⟩
  have hi' : decide ((i : Int) < a.length) = true := decide_eq_true (by omega)
  by_cases hk : k < b.length
  rotate_left
  · have hk' : decide ((k : Int) < b.length) = false := decide_eq_false (by omega)
    simp (maxSteps := 4000000) (disch := omega) only [ah, am, Nat.reduceEqDiff, reduceCtorEq, Nat.reduceAdd, Nat.reduceLeDiff, Nat.reduceMul, Nat.reduceLT, if_true, if_false, true_and, and_true, and_self, Nat.reduceBEq, QOp.loads, boxO, bslO, buildO, cutL, fillV, putL, w49, v49, R, Rw, hi', hk']
    exact ⟨e, by rw [← I.fin (.inr (.inl hk))]⟩
  have hk' : decide ((k : Int) < b.length) = true := decide_eq_true (by omega)
  by_cases hn : n < most
  rotate_left
  · have hn' : decide (n < most) = false := decide_eq_false hn
    simp (maxSteps := 4000000) (disch := omega) only [ah, am, Nat.reduceEqDiff, reduceCtorEq, Nat.reduceAdd, Nat.reduceLeDiff, Nat.reduceMul, Nat.reduceLT, if_true, if_false, true_and, and_true, and_self, Nat.reduceBEq, QOp.loads, boxO, bslO, buildO, cutL, fillV, putL, w49, v49, R, Rw, hi', hk', hn']
    exact ⟨e, by rw [← I.fin (.inr (.inr (.inl hn)))]⟩
  have hn' : decide (n < most) = true := decide_eq_true hn
  have q3 := I.hn; have q4 := I.hx; have q5 := I.hy
  have oa := ha _ (List.getElem_mem hi); have ob := hb _ (List.getElem_mem hk)
  simp only [clipOk] at oa ob
  have q1 := I.hx.2.2 hi; have q2 := I.hy.2.2 hk
  have e2 : Ext H (H.more [encClip a[i], encClip b[k]]) := Ext.more _ _
  have Rw2 := (sw.ext (e.trans (Ext.more H [encClip a[i]]))).rulesN
  simp only [encClip] at Rw2 e2
  by_cases hs : a[i].src = b[k].src
  rotate_left
  · have hs' : decide (a[i].src = b[k].src) = false := decide_eq_false hs
    simp (maxSteps := 4000000) (disch := omega) only [ah, am, Nat.reduceEqDiff, reduceCtorEq, Nat.reduceAdd, Nat.reduceLeDiff, Nat.reduceMul, Nat.reduceLT, if_true, if_false, true_and, and_true, and_self, Nat.reduceBEq, QOp.loads, boxO, bslO, buildO, cutL, fillV, putL, w49, v49, R, Rw, hi', hk', hn', Rw2, encClip, hs']
    exact ⟨e.trans e2, by rw [← I.fin (.inr (.inr (.inr ⟨hi, hk, .inl hs⟩)))]⟩
  have hs' : decide (a[i].src = b[k].src) = true := decide_eq_true hs
  have V1 : IntKind.i64.wrap (a[i].inn + x) = a[i].inn + x := i64w (by omega)
  have V2 : IntKind.i64.wrap (b[k].inn + y) = b[k].inn + y := i64w (by omega)
  by_cases hz : a[i].src ≠ 0 ∧ a[i].inn + x ≠ b[k].inn + y
  · have hz1 : decide (a[i].src = 0) = false := decide_eq_false hz.1
    have hz2 : decide (a[i].inn + x = b[k].inn + y) = false := decide_eq_false hz.2
    simp (maxSteps := 4000000) (disch := omega) only [ah, am, Nat.reduceEqDiff, reduceCtorEq, Nat.reduceAdd, Nat.reduceLeDiff, Nat.reduceMul, Nat.reduceLT, if_true, if_false, true_and, and_true, and_self, Nat.reduceBEq, QOp.loads, boxO, bslO, buildO, cutL, fillV, putL, w49, v49, R, Rw, hi', hk', hn', Rw2, encClip, hs', V1, V2, hz1, hz2]
    exact ⟨e.trans e2, by rw [← I.fin (.inr (.inr (.inr ⟨hi, hk, .inr hz⟩)))]⟩
  have h2 : a[i].src = 0 ∨ a[i].inn + x = b[k].inn + y := by omega
  obtain ⟨m1, m2, m3, m4, J⟩ := I.step hi hk hn ha hb hs h2 rfl
  have V3 : IntKind.i64.wrap (a[i].len - x) = a[i].len - x := i64w (by omega)
  have V4 : IntKind.i64.wrap (b[k].len - y) = b[k].len - y := i64w (by omega)
  have V5 : IntKind.i64.wrap (most - n) = most - n := i64w (by omega)
  generalize hM : min (min (a[i].len - x) (b[k].len - y)) (most - n) = M at *
  have V6 : IntKind.i64.wrap (n + M) = n + M := i64w (by omega)
  have V7 : IntKind.i64.wrap (x + M) = x + M := i64w (by omega)
  have V9 : IntKind.i64.wrap a[i].len = a[i].len := i64w (by omega)
  have V10 : IntKind.i64.wrap b[k].len = b[k].len := i64w (by omega)
  have V8 : IntKind.i64.wrap (y + M) = y + M := i64w (by omega)
  have fin : ∀ (H' : Heap) (tl : Env), Ext H H' → ∃ n', n' < (most - n).toNat ∧ ∃ (i' k' : Nat) (n2 x' y' : Int) (tl' : Env),
      (0, v) :: (1, w) :: (2, Value.int .i64 most) :: (7, .int .i64 (n + M)) :: (8, .int .i64 (if x + M = a[i].len then i + 1 else i : Nat)) :: (9, .int .i64 (if y + M = b[k].len then k + 1 else k : Nat)) :: (10, .int .i64 (if x + M = a[i].len then 0 else x + M)) :: (11, .int .i64 (if y + M = b[k].len then 0 else y + M)) :: tl =
      (0, v) :: (1, w) :: (2, Value.int .i64 most) :: (7, .int .i64 n2) :: (8, .int .i64 i') :: (9, .int .i64 k') :: (10, .int .i64 x') :: (11, .int .i64 y') :: tl' ∧ Ext h H' ∧ n' = (most - n2).toNat ∧ AlInv a b most i' k' n2 x' y' :=
    fun H' tl e' => ⟨_, by omega, _, _, _, _, _, tl, rfl, e.trans e', rfl, J⟩
  clear J
  have walkOn : (decide (a[i].src = 0) = true ∨ (decide (a[i].src = 0) = false ∧ decide (a[i].inn + x = b[k].inn + y) = true)) := by
    by_cases hz : a[i].src = 0
    · exact .inl (decide_eq_true hz)
    · exact .inr ⟨decide_eq_false hz, decide_eq_true (by omega)⟩
  rcases walkOn with hz1 | ⟨hz1, hz2⟩
  · simp (maxSteps := 4000000) (disch := omega) only [ah, am, Nat.reduceEqDiff, reduceCtorEq, Nat.reduceAdd, Nat.reduceLeDiff, Nat.reduceMul, Nat.reduceLT, if_true, if_false, true_and, and_true, and_self, Nat.reduceBEq, QOp.loads, boxO, bslO, buildO, cutL, fillV, putL, w49, v49, R, Rw, hi', hk', hn', Rw2, encClip, hs', V1, V2, hz1, V3, V4, V5]
    refine stepC.of (l1Min_ok _ _ _) ?_
    rintro _ Hx ⟨hx, rfl⟩; rw [hx]; clear hx Hx
    simp (maxSteps := 4000000) (disch := omega) only [ah, am, Nat.reduceEqDiff, reduceCtorEq, Nat.reduceAdd, Nat.reduceLeDiff, Nat.reduceMul, Nat.reduceLT, if_true, if_false, true_and, and_true, and_self, Nat.reduceBEq, QOp.loads, boxO, bslO, buildO, cutL, fillV, putL, w49, v49, V5]
    refine stepC.of (l1Min_ok _ _ _) ?_
    rintro _ Hx ⟨hx, rfl⟩; rw [hx]; clear hx Hx
    rw [hM]
    by_cases c : x + M = a[i].len <;> by_cases d : y + M = b[k].len <;> simp only [c, d, if_true, if_false] at fin
    · have c' : decide (x + M = a[i].len) = true := decide_eq_true c
      have d' : decide (y + M = b[k].len) = true := decide_eq_true d
      simp (maxSteps := 4000000) (disch := omega) only [ah, am, Nat.reduceEqDiff, reduceCtorEq, Nat.reduceAdd, Nat.reduceLeDiff, Nat.reduceMul, Nat.reduceLT, if_true, if_false, true_and, and_true, and_self, Nat.reduceBEq, QOp.loads, boxO, bslO, buildO, cutL, fillV, putL, w49, v49, V6, V7, V8, W1, W2, c, d, V9, V10, eq_self, decide_true]
      exact fin _ _ e2
    · have d' : decide (y + M = b[k].len) = false := decide_eq_false d
      simp (maxSteps := 4000000) (disch := omega) only [ah, am, Nat.reduceEqDiff, reduceCtorEq, Nat.reduceAdd, Nat.reduceLeDiff, Nat.reduceMul, Nat.reduceLT, if_true, if_false, true_and, and_true, and_self, Nat.reduceBEq, QOp.loads, boxO, bslO, buildO, cutL, fillV, putL, w49, v49, V6, V7, V8, W1, W2, c, d', V9, V10, eq_self, decide_true]
      exact fin _ _ e2
    · have c' : decide (x + M = a[i].len) = false := decide_eq_false c
      simp (maxSteps := 4000000) (disch := omega) only [ah, am, Nat.reduceEqDiff, reduceCtorEq, Nat.reduceAdd, Nat.reduceLeDiff, Nat.reduceMul, Nat.reduceLT, if_true, if_false, true_and, and_true, and_self, Nat.reduceBEq, QOp.loads, boxO, bslO, buildO, cutL, fillV, putL, w49, v49, V6, V7, V8, W1, W2, c', d, V9, V10, eq_self, decide_true]
      exact fin _ _ e2
    · have c' : decide (x + M = a[i].len) = false := decide_eq_false c
      have d' : decide (y + M = b[k].len) = false := decide_eq_false d
      simp (maxSteps := 4000000) (disch := omega) only [ah, am, Nat.reduceEqDiff, reduceCtorEq, Nat.reduceAdd, Nat.reduceLeDiff, Nat.reduceMul, Nat.reduceLT, if_true, if_false, true_and, and_true, and_self, Nat.reduceBEq, QOp.loads, boxO, bslO, buildO, cutL, fillV, putL, w49, v49, V6, V7, V8, W1, W2, c', d', decide_true]
      exact fin _ _ e2
  · simp (maxSteps := 4000000) (disch := omega) only [ah, am, Nat.reduceEqDiff, reduceCtorEq, Nat.reduceAdd, Nat.reduceLeDiff, Nat.reduceMul, Nat.reduceLT, if_true, if_false, true_and, and_true, and_self, Nat.reduceBEq, QOp.loads, boxO, bslO, buildO, cutL, fillV, putL, w49, v49, R, Rw, hi', hk', hn', Rw2, encClip, hs', V1, V2, hz1, hz2, V3, V4, V5]
    refine stepC.of (l1Min_ok _ _ _) ?_
    rintro _ Hx ⟨hx, rfl⟩; rw [hx]; clear hx Hx
    simp (maxSteps := 4000000) (disch := omega) only [ah, am, Nat.reduceEqDiff, reduceCtorEq, Nat.reduceAdd, Nat.reduceLeDiff, Nat.reduceMul, Nat.reduceLT, if_true, if_false, true_and, and_true, and_self, Nat.reduceBEq, QOp.loads, boxO, bslO, buildO, cutL, fillV, putL, w49, v49, V5]
    refine stepC.of (l1Min_ok _ _ _) ?_
    rintro _ Hx ⟨hx, rfl⟩; rw [hx]; clear hx Hx
    rw [hM]
    by_cases c : x + M = a[i].len <;> by_cases d : y + M = b[k].len <;> simp only [c, d, if_true, if_false] at fin
    · simp (maxSteps := 4000000) (disch := omega) only [ah, am, Nat.reduceEqDiff, reduceCtorEq, Nat.reduceAdd, Nat.reduceLeDiff, Nat.reduceMul, Nat.reduceLT, if_true, if_false, true_and, and_true, and_self, Nat.reduceBEq, QOp.loads, boxO, bslO, buildO, cutL, fillV, putL, w49, v49, V6, V7, V8, W1, W2, c, d, V9, V10, eq_self, decide_true]
      exact fin _ _ e2
    · have d' : decide (y + M = b[k].len) = false := decide_eq_false d
      simp (maxSteps := 4000000) (disch := omega) only [ah, am, Nat.reduceEqDiff, reduceCtorEq, Nat.reduceAdd, Nat.reduceLeDiff, Nat.reduceMul, Nat.reduceLT, if_true, if_false, true_and, and_true, and_self, Nat.reduceBEq, QOp.loads, boxO, bslO, buildO, cutL, fillV, putL, w49, v49, V6, V7, V8, W1, W2, c, d', V9, V10, eq_self, decide_true]
      exact fin _ _ e2
    · have c' : decide (x + M = a[i].len) = false := decide_eq_false c
      simp (maxSteps := 4000000) (disch := omega) only [ah, am, Nat.reduceEqDiff, reduceCtorEq, Nat.reduceAdd, Nat.reduceLeDiff, Nat.reduceMul, Nat.reduceLT, if_true, if_false, true_and, and_true, and_self, Nat.reduceBEq, QOp.loads, boxO, bslO, buildO, cutL, fillV, putL, w49, v49, V6, V7, V8, W1, W2, c', d, V9, V10, eq_self, decide_true]
      exact fin _ _ e2
    · have c' : decide (x + M = a[i].len) = false := decide_eq_false c
      have d' : decide (y + M = b[k].len) = false := decide_eq_false d
      simp (maxSteps := 4000000) (disch := omega) only [ah, am, Nat.reduceEqDiff, reduceCtorEq, Nat.reduceAdd, Nat.reduceLeDiff, Nat.reduceMul, Nat.reduceLT, if_true, if_false, true_and, and_true, and_self, Nat.reduceBEq, QOp.loads, boxO, bslO, buildO, cutL, fillV, putL, w49, v49, V6, V7, V8, W1, W2, c', d', decide_true]
      exact fin _ _ e2
end Go.Proofs.Ytbnppofkpgfhnaa

namespace Go.Proofs.Ytbnppofkpgfhnaa
open Go Go.Ah
set_option linter.unusedSimpArgs false
set_option linter.unusedVariables false
set_option maxRecDepth 10000
set_option maxHeartbeats 4000000

theorem l5Ends_ok (h : Heap) (v w : Value) (a b : List Clip) (most : Int) (s : SlT h encClip 3 v a) (sw : SlT h encClip 3 w b) (la : a.length ≤ 300) (lb : b.length ≤ 300) (ha : ∀ k ∈ a, clipOk k) (hb : ∀ k ∈ b, clipOk k) (hm : 0 ≤ most ∧ most ≤ 100000000000) :
    ACall Try.prog 51 [v, w, .int .i64 most] h fun r h' => Ext h h' ∧ r = .int .i64 (min most (lcp (ex a).reverse (ex b).reverse : Int)) := by
  refine ACall.of Try.func51 s51 (of_decide_eq_true rfl) ?_
  have R0 := s.rulesN
  have Rw0 := sw.rulesN
  have Z1 : IntKind.i64.wrap ((a.length : Int) - 1) = (a.length : Int) - 1 := i64w (by omega)
  have Z2 : IntKind.i64.wrap ((b.length : Int) - 1) = (b.length : Int) - 1 := i64w (by omega)
  simp (maxSteps := 4000000) (disch := omega) only [ah, am, Nat.reduceEqDiff, reduceCtorEq, Nat.reduceAdd, Nat.reduceLeDiff, Nat.reduceMul, Nat.reduceLT, if_true, if_false, true_and, and_true, and_self, Nat.reduceBEq, QOp.loads, boxO, bslO, buildO, cutL, fillV, putL, w51, v51, R0, Rw0, Z1, Z2]
  refine ⟨fun N E H => ∃ (c d : Nat) (zi zk n x y : Int) (tl : Env), E = (0, v) :: (1, w) :: (2, .int .i64 most) :: (7, .int .i64 n) :: (8, .int .i64 zi) :: (9, .int .i64 zk) :: (10, .int .i64 x) :: (11, .int .i64 y) :: tl ∧ Ext h H ∧ N = (most - n).toNat ∧ zi = c - 1 ∧ zk = d - 1 ∧ EnInv a b most c d n x y,
    ⟨_, a.length, b.length, _, _, 0, 0, 0, [], rfl, Ext.refl h, rfl, rfl, rfl, EnInv.start ha hb hm.1⟩, ?_⟩
  clear R0 Rw0 Z1 Z2
  rintro N E H ⟨c, d, zi, zk, n, x, y, tl, rfl, e, rfl, ei, ek, I⟩
  have R := (s.ext e).rulesN
  have Rw := (sw.ext e).rulesN
  have hil := I.hc
  have hkl := I.hd
  by_cases hc0 : c = 0
  · have hi' : decide (0 ≤ zi) = false := decide_eq_false (by omega)
    simp (maxSteps := 4000000) (disch := omega) only [ah, am, Nat.reduceEqDiff, reduceCtorEq, Nat.reduceAdd, Nat.reduceLeDiff, Nat.reduceMul, Nat.reduceLT, if_true, if_false, true_and, and_true, and_self, Nat.reduceBEq, QOp.loads, boxO, bslO, buildO, cutL, fillV, putL, w51, v51, R, Rw, hi']
    exact ⟨e, by rw [← I.fin (.inl hc0)]⟩
  by_cases hd0 : d = 0
  · have hi' : decide (0 ≤ zi) = true := decide_eq_true (by omega)
    have hk' : decide (0 ≤ zk) = false := decide_eq_false (by omega)
    simp (maxSteps := 4000000) (disch := omega) only [ah, am, Nat.reduceEqDiff, reduceCtorEq, Nat.reduceAdd, Nat.reduceLeDiff, Nat.reduceMul, Nat.reduceLT, if_true, if_false, true_and, and_true, and_self, Nat.reduceBEq, QOp.loads, boxO, bslO, buildO, cutL, fillV, putL, w51, v51, R, Rw, hi', hk']
    exact ⟨e, by rw [← I.fin (.inr (.inl hd0))]⟩
  obtain ⟨i, rfl⟩ : ∃ i, c = i + 1 := ⟨c - 1, by omega⟩
  obtain ⟨k, rfl⟩ : ∃ k, d = k + 1 := ⟨d - 1, by omega⟩
  obtain rfl : zi = (i : Int) := by omega
  obtain rfl : zk = (k : Int) := by omega
  have hi : i < a.length := by omega
  have hk : k < b.length := by omega
  have hi' : decide (0 ≤ (i : Int)) = true := decide_eq_true (by omega)
  have hk' : decide (0 ≤ (k : Int)) = true := decide_eq_true (by omega)
  have W1 : IntKind.i64.wrap ((i : Int) - 1) = (i : Int) - 1 := i64w (by omega)
  have W2 : IntKind.i64.wrap ((k : Int) - 1) = (k : Int) - 1 := i64w (by omega)
  by_cases hn : n < most
  rotate_left
  · have hn' : decide (n < most) = false := decide_eq_false hn
    simp (maxSteps := 4000000) (disch := omega) only [ah, am, Nat.reduceEqDiff, reduceCtorEq, Nat.reduceAdd, Nat.reduceLeDiff, Nat.reduceMul, Nat.reduceLT, if_true, if_false, true_and, and_true, and_self, Nat.reduceBEq, QOp.loads, boxO, bslO, buildO, cutL, fillV, putL, w51, v51, R, Rw, hi', hk', hn']
    exact ⟨e, by rw [← I.fin (.inr (.inr (.inl hn)))]⟩
  have hn' : decide (n < most) = true := decide_eq_true hn
  have q3 := I.hn; have q4 := I.hx; have q5 := I.hy
  have oa := ha _ (List.getElem_mem hi); have ob := hb _ (List.getElem_mem hk)
  simp only [clipOk] at oa ob
  have q1 := I.hx.2.2 i hi rfl; have q2 := I.hy.2.2 k hk rfl
  have e2 : Ext H (H.more [encClip a[i], encClip b[k]]) := Ext.more _ _
  have Rw2 := (sw.ext (e.trans (Ext.more H [encClip a[i]]))).rulesN
  simp only [encClip] at Rw2 e2
  by_cases hs : a[i].src = b[k].src
  rotate_left
  · have hs' : decide (a[i].src = b[k].src) = false := decide_eq_false hs
    simp (maxSteps := 4000000) (disch := omega) only [ah, am, Nat.reduceEqDiff, reduceCtorEq, Nat.reduceAdd, Nat.reduceLeDiff, Nat.reduceMul, Nat.reduceLT, if_true, if_false, true_and, and_true, and_self, Nat.reduceBEq, QOp.loads, boxO, bslO, buildO, cutL, fillV, putL, w51, v51, R, Rw, hi', hk', hn', Rw2, encClip, hs']
    exact ⟨e.trans e2, by rw [← I.fin (.inr (.inr (.inr ⟨i, k, hi, hk, rfl, rfl, .inl hs⟩)))]⟩
  have hs' : decide (a[i].src = b[k].src) = true := decide_eq_true hs
  have V1a : IntKind.i64.wrap (a[i].inn + a[i].len) = a[i].inn + a[i].len := i64w (by omega)
  have V2a : IntKind.i64.wrap (b[k].inn + b[k].len) = b[k].inn + b[k].len := i64w (by omega)
  have V1 : IntKind.i64.wrap (a[i].inn + a[i].len - x) = a[i].inn + a[i].len - x := i64w (by omega)
  have V2 : IntKind.i64.wrap (b[k].inn + b[k].len - y) = b[k].inn + b[k].len - y := i64w (by omega)
  by_cases hz : a[i].src ≠ 0 ∧ a[i].inn + a[i].len - x ≠ b[k].inn + b[k].len - y
  · have hz1 : decide (a[i].src = 0) = false := decide_eq_false hz.1
    have hz2 : decide (a[i].inn + a[i].len - x = b[k].inn + b[k].len - y) = false := decide_eq_false hz.2
    simp (maxSteps := 4000000) (disch := omega) only [ah, am, Nat.reduceEqDiff, reduceCtorEq, Nat.reduceAdd, Nat.reduceLeDiff, Nat.reduceMul, Nat.reduceLT, if_true, if_false, true_and, and_true, and_self, Nat.reduceBEq, QOp.loads, boxO, bslO, buildO, cutL, fillV, putL, w51, v51, R, Rw, hi', hk', hn', Rw2, encClip, hs', V1a, V2a, V1, V2, hz1, hz2]
    exact ⟨e.trans e2, by rw [← I.fin (.inr (.inr (.inr ⟨i, k, hi, hk, rfl, rfl, .inr hz⟩)))]⟩
  have h2 : a[i].src = 0 ∨ a[i].inn + a[i].len - x = b[k].inn + b[k].len - y := by omega
  obtain ⟨m1, m2, m3, m4, J⟩ := I.step hi hk hn ha hb hs h2 rfl
  have V3 : IntKind.i64.wrap (a[i].len - x) = a[i].len - x := i64w (by omega)
  have V4 : IntKind.i64.wrap (b[k].len - y) = b[k].len - y := i64w (by omega)
  have V5 : IntKind.i64.wrap (most - n) = most - n := i64w (by omega)
  generalize hM : min (min (a[i].len - x) (b[k].len - y)) (most - n) = M at *
  have V6 : IntKind.i64.wrap (n + M) = n + M := i64w (by omega)
  have V7 : IntKind.i64.wrap (x + M) = x + M := i64w (by omega)
  have V9 : IntKind.i64.wrap a[i].len = a[i].len := i64w (by omega)
  have V10 : IntKind.i64.wrap b[k].len = b[k].len := i64w (by omega)
  have V8 : IntKind.i64.wrap (y + M) = y + M := i64w (by omega)
  have fin : ∀ (H' : Heap) (tl : Env), Ext H H' → ∃ n', n' < (most - n).toNat ∧ ∃ (c' d' : Nat) (zi' zk' n2 x' y' : Int) (tl' : Env),
      (0, v) :: (1, w) :: (2, Value.int .i64 most) :: (7, .int .i64 (n + M)) :: (8, .int .i64 (if x + M = a[i].len then (i : Int) - 1 else i)) :: (9, .int .i64 (if y + M = b[k].len then (k : Int) - 1 else k)) :: (10, .int .i64 (if x + M = a[i].len then 0 else x + M)) :: (11, .int .i64 (if y + M = b[k].len then 0 else y + M)) :: tl =
      (0, v) :: (1, w) :: (2, Value.int .i64 most) :: (7, .int .i64 n2) :: (8, .int .i64 zi') :: (9, .int .i64 zk') :: (10, .int .i64 x') :: (11, .int .i64 y') :: tl' ∧ Ext h H' ∧ n' = (most - n2).toNat ∧ zi' = c' - 1 ∧ zk' = d' - 1 ∧ EnInv a b most c' d' n2 x' y' :=
    fun H' tl e' => ⟨_, by omega, _, _, _, _, _, _, _, tl, rfl, e.trans e', rfl, by split <;> omega, by split <;> omega, J⟩
  clear J
  have walkOn : (decide (a[i].src = 0) = true ∨ (decide (a[i].src = 0) = false ∧ decide (a[i].inn + a[i].len - x = b[k].inn + b[k].len - y) = true)) := by
    by_cases hz : a[i].src = 0
    · exact .inl (decide_eq_true hz)
    · exact .inr ⟨decide_eq_false hz, decide_eq_true (by omega)⟩
  rcases walkOn with hz1 | ⟨hz1, hz2⟩
  · simp (maxSteps := 4000000) (disch := omega) only [ah, am, Nat.reduceEqDiff, reduceCtorEq, Nat.reduceAdd, Nat.reduceLeDiff, Nat.reduceMul, Nat.reduceLT, if_true, if_false, true_and, and_true, and_self, Nat.reduceBEq, QOp.loads, boxO, bslO, buildO, cutL, fillV, putL, w51, v51, R, Rw, hi', hk', hn', Rw2, encClip, hs', V1a, V2a, V1, V2, hz1, V3, V4, V5]
    refine stepC.of (l1Min_ok _ _ _) ?_
    rintro _ Hx ⟨hx, rfl⟩; rw [hx]; clear hx Hx
    simp (maxSteps := 4000000) (disch := omega) only [ah, am, Nat.reduceEqDiff, reduceCtorEq, Nat.reduceAdd, Nat.reduceLeDiff, Nat.reduceMul, Nat.reduceLT, if_true, if_false, true_and, and_true, and_self, Nat.reduceBEq, QOp.loads, boxO, bslO, buildO, cutL, fillV, putL, w51, v51, V5]
    refine stepC.of (l1Min_ok _ _ _) ?_
    rintro _ Hx ⟨hx, rfl⟩; rw [hx]; clear hx Hx
    rw [hM]
    by_cases c : x + M = a[i].len <;> by_cases d : y + M = b[k].len <;> simp only [c, d, if_true, if_false] at fin
    · have c' : decide (x + M = a[i].len) = true := decide_eq_true c
      have d' : decide (y + M = b[k].len) = true := decide_eq_true d
      simp (maxSteps := 4000000) (disch := omega) only [ah, am, Nat.reduceEqDiff, reduceCtorEq, Nat.reduceAdd, Nat.reduceLeDiff, Nat.reduceMul, Nat.reduceLT, if_true, if_false, true_and, and_true, and_self, Nat.reduceBEq, QOp.loads, boxO, bslO, buildO, cutL, fillV, putL, w51, v51, V6, V7, V8, W1, W2, c, d, V9, V10, eq_self, decide_true]
      exact fin _ _ e2
    · have d' : decide (y + M = b[k].len) = false := decide_eq_false d
      simp (maxSteps := 4000000) (disch := omega) only [ah, am, Nat.reduceEqDiff, reduceCtorEq, Nat.reduceAdd, Nat.reduceLeDiff, Nat.reduceMul, Nat.reduceLT, if_true, if_false, true_and, and_true, and_self, Nat.reduceBEq, QOp.loads, boxO, bslO, buildO, cutL, fillV, putL, w51, v51, V6, V7, V8, W1, W2, c, d', V9, V10, eq_self, decide_true]
      exact fin _ _ e2
    · have c' : decide (x + M = a[i].len) = false := decide_eq_false c
      simp (maxSteps := 4000000) (disch := omega) only [ah, am, Nat.reduceEqDiff, reduceCtorEq, Nat.reduceAdd, Nat.reduceLeDiff, Nat.reduceMul, Nat.reduceLT, if_true, if_false, true_and, and_true, and_self, Nat.reduceBEq, QOp.loads, boxO, bslO, buildO, cutL, fillV, putL, w51, v51, V6, V7, V8, W1, W2, c', d, V9, V10, eq_self, decide_true]
      exact fin _ _ e2
    · have c' : decide (x + M = a[i].len) = false := decide_eq_false c
      have d' : decide (y + M = b[k].len) = false := decide_eq_false d
      simp (maxSteps := 4000000) (disch := omega) only [ah, am, Nat.reduceEqDiff, reduceCtorEq, Nat.reduceAdd, Nat.reduceLeDiff, Nat.reduceMul, Nat.reduceLT, if_true, if_false, true_and, and_true, and_self, Nat.reduceBEq, QOp.loads, boxO, bslO, buildO, cutL, fillV, putL, w51, v51, V6, V7, V8, W1, W2, c', d', decide_true]
      exact fin _ _ e2
  · simp (maxSteps := 4000000) (disch := omega) only [ah, am, Nat.reduceEqDiff, reduceCtorEq, Nat.reduceAdd, Nat.reduceLeDiff, Nat.reduceMul, Nat.reduceLT, if_true, if_false, true_and, and_true, and_self, Nat.reduceBEq, QOp.loads, boxO, bslO, buildO, cutL, fillV, putL, w51, v51, R, Rw, hi', hk', hn', Rw2, encClip, hs', V1a, V2a, V1, V2, hz1, hz2, V3, V4, V5]
    refine stepC.of (l1Min_ok _ _ _) ?_
    rintro _ Hx ⟨hx, rfl⟩; rw [hx]; clear hx Hx
    simp (maxSteps := 4000000) (disch := omega) only [ah, am, Nat.reduceEqDiff, reduceCtorEq, Nat.reduceAdd, Nat.reduceLeDiff, Nat.reduceMul, Nat.reduceLT, if_true, if_false, true_and, and_true, and_self, Nat.reduceBEq, QOp.loads, boxO, bslO, buildO, cutL, fillV, putL, w51, v51, V5]
    refine stepC.of (l1Min_ok _ _ _) ?_
    rintro _ Hx ⟨hx, rfl⟩; rw [hx]; clear hx Hx
    rw [hM]
    by_cases c : x + M = a[i].len <;> by_cases d : y + M = b[k].len <;> simp only [c, d, if_true, if_false] at fin
    · simp (maxSteps := 4000000) (disch := omega) only [ah, am, Nat.reduceEqDiff, reduceCtorEq, Nat.reduceAdd, Nat.reduceLeDiff, Nat.reduceMul, Nat.reduceLT, if_true, if_false, true_and, and_true, and_self, Nat.reduceBEq, QOp.loads, boxO, bslO, buildO, cutL, fillV, putL, w51, v51, V6, V7, V8, W1, W2, c, d, V9, V10, eq_self, decide_true]
      exact fin _ _ e2
    · have d' : decide (y + M = b[k].len) = false := decide_eq_false d
      simp (maxSteps := 4000000) (disch := omega) only [ah, am, Nat.reduceEqDiff, reduceCtorEq, Nat.reduceAdd, Nat.reduceLeDiff, Nat.reduceMul, Nat.reduceLT, if_true, if_false, true_and, and_true, and_self, Nat.reduceBEq, QOp.loads, boxO, bslO, buildO, cutL, fillV, putL, w51, v51, V6, V7, V8, W1, W2, c, d', V9, V10, eq_self, decide_true]
      exact fin _ _ e2
    · have c' : decide (x + M = a[i].len) = false := decide_eq_false c
      simp (maxSteps := 4000000) (disch := omega) only [ah, am, Nat.reduceEqDiff, reduceCtorEq, Nat.reduceAdd, Nat.reduceLeDiff, Nat.reduceMul, Nat.reduceLT, if_true, if_false, true_and, and_true, and_self, Nat.reduceBEq, QOp.loads, boxO, bslO, buildO, cutL, fillV, putL, w51, v51, V6, V7, V8, W1, W2, c', d, V9, V10, eq_self, decide_true]
      exact fin _ _ e2
    · have c' : decide (x + M = a[i].len) = false := decide_eq_false c
      have d' : decide (y + M = b[k].len) = false := decide_eq_false d
      simp (maxSteps := 4000000) (disch := omega) only [ah, am, Nat.reduceEqDiff, reduceCtorEq, Nat.reduceAdd, Nat.reduceLeDiff, Nat.reduceMul, Nat.reduceLT, if_true, if_false, true_and, and_true, and_self, Nat.reduceBEq, QOp.loads, boxO, bslO, buildO, cutL, fillV, putL, w51, v51, V6, V7, V8, W1, W2, c', d', decide_true]
      exact fin _ _ e2
end Go.Proofs.Ytbnppofkpgfhnaa

namespace Go.Proofs.Ytbnppofkpgfhnaa
open Go Go.Ah
set_option linter.unusedSimpArgs false
set_option linter.unusedVariables false
set_option maxRecDepth 10000
set_option maxHeartbeats 4000000
/-! 11 loop.example/g00066/spec.Changes: parameters 2, live [0, 1], slots [0:a, 1:b, 2:a, 3:b, 5:out, 6:n, 7:m, 8:p, 9:q, 10:in, 11:i] -/
def c11_0 : List SOper := [⟨some 4, .q (.mv (.c (.slice none 0 0))), none⟩]
def c11_1 : List SOper := [⟨some 12, .a (.bsl 0 4 [] []), none⟩, ⟨some 5, .q (.mv (.t 12)), none⟩]
def c11_2 : List SOper := [⟨some 13, .q (.mv (.t 0)), none⟩, ⟨some 14, .e (.call 12 [(.t 13)]), none⟩, ⟨some 15, .q (.not (.t 14)), none⟩, ⟨some 16, .q (.mv (.t 15)), none⟩, ⟨some 17, .q (.mv (.t 1)), some (16, false)⟩, ⟨some 18, .e (.call 12 [(.t 17)]), some (16, false)⟩, ⟨some 19, .q (.not (.t 18)), some (16, false)⟩, ⟨some 20, .q (.pick (.t 16) (.c (.bool true)) (.t 19)), none⟩]
def c11_3 : List SOper := [⟨some 21, .q (.mv (.t 5)), none⟩, ⟨some 4, .q (.mv (.t 21)), none⟩]
def c11_4 : SCode := .seq (.region c11_3 [4]) .ret
def c11_5 : SCode := .cond (.t 20) c11_4 .skip
def c11_6 : SCode := .seq (.region c11_2 [0, 1, 5, 20]) c11_5
def c11_7 : List SOper := [⟨some 22, .q (.mv (.t 0)), none⟩, ⟨some 23, .e (.call 48 [(.t 22)]), none⟩, ⟨some 6, .q (.mv (.t 23)), none⟩]
def c11_8 : List SOper := [⟨some 24, .q (.mv (.t 1)), none⟩, ⟨some 25, .e (.call 48 [(.t 24)]), none⟩, ⟨some 7, .q (.mv (.t 25)), none⟩]
def c11_9 : List SOper := [⟨some 26, .q (.mv (.t 0)), none⟩, ⟨some 27, .q (.mv (.t 1)), none⟩, ⟨some 28, .q (.mv (.t 6)), none⟩, ⟨some 29, .q (.mv (.t 7)), none⟩, ⟨some 30, .e (.call 50 [(.t 28), (.t 29)]), none⟩, ⟨some 31, .e (.call 49 [(.t 26), (.t 27), (.t 30)]), none⟩, ⟨some 8, .q (.mv (.t 31)), none⟩]
def c11_10 : List SOper := [⟨some 32, .q (.mv (.t 0)), none⟩, ⟨some 33, .q (.mv (.t 1)), none⟩, ⟨some 34, .q (.mv (.t 6)), none⟩, ⟨some 35, .q (.mv (.t 7)), none⟩, ⟨some 36, .e (.call 50 [(.t 34), (.t 35)]), none⟩, ⟨some 37, .q (.mv (.t 8)), none⟩, ⟨some 38, .q (.bin .sub (.t 36) (.t 37)), none⟩, ⟨some 39, .e (.call 51 [(.t 32), (.t 33), (.t 38)]), none⟩, ⟨some 9, .q (.mv (.t 39)), none⟩]
def c11_11 : List SOper := [⟨some 40, .q (.mv (.t 8)), none⟩, ⟨some 41, .q (.bin .gtr (.t 40) (.c (.int .i64 0))), none⟩]
def c11_12 : List SOper := [⟨some 42, .q (.mv (.t 5)), none⟩, ⟨some 43, .q (.mv (.t 8)), none⟩, ⟨some 44, .q (.build [(.int .i64 0), (.int .i64 0), (.int .i64 0), (.int .i64 0)] [(0, 1, (.c (.int .i64 1))), (3, 1, (.t 43))]), none⟩, ⟨some 45, .a (.bsl 1 4 [(.int .i64 0), (.int .i64 0), (.int .i64 0), (.int .i64 0)] [(0, 4, (.t 44))]), none⟩, ⟨some 46, .e (.app 32 4 (.t 42) (.t 45)), none⟩, ⟨some 5, .q (.mv (.t 46)), none⟩]
def c11_13 : SCode := .cond (.t 41) (.region c11_12 [1, 5, 6, 7, 8, 9]) .skip
def c11_14 : SCode := .seq (.region c11_11 [1, 5, 6, 7, 8, 9, 41]) c11_13
def c11_15 : List SOper := [⟨some 47, .q (.mv (.t 6)), none⟩, ⟨some 48, .q (.mv (.t 8)), none⟩, ⟨some 49, .q (.bin .sub (.t 47) (.t 48)), none⟩, ⟨some 50, .q (.mv (.t 9)), none⟩, ⟨some 51, .q (.bin .sub (.t 49) (.t 50)), none⟩, ⟨some 52, .q (.bin .gtr (.t 51) (.c (.int .i64 0))), none⟩]
def c11_16 : List SOper := [⟨some 53, .q (.mv (.t 5)), none⟩, ⟨some 54, .q (.mv (.t 6)), none⟩, ⟨some 55, .q (.mv (.t 8)), none⟩, ⟨some 56, .q (.bin .sub (.t 54) (.t 55)), none⟩, ⟨some 57, .q (.mv (.t 9)), none⟩, ⟨some 58, .q (.bin .sub (.t 56) (.t 57)), none⟩, ⟨some 59, .q (.build [(.int .i64 0), (.int .i64 0), (.int .i64 0), (.int .i64 0)] [(0, 1, (.c (.int .i64 2))), (3, 1, (.t 58))]), none⟩, ⟨some 60, .a (.bsl 1 4 [(.int .i64 0), (.int .i64 0), (.int .i64 0), (.int .i64 0)] [(0, 4, (.t 59))]), none⟩, ⟨some 61, .e (.app 32 4 (.t 53) (.t 60)), none⟩, ⟨some 5, .q (.mv (.t 61)), none⟩]
def c11_17 : SCode := .cond (.t 52) (.region c11_16 [1, 5, 7, 8, 9]) .skip
def c11_18 : SCode := .seq (.region c11_15 [1, 5, 6, 7, 8, 9, 52]) c11_17
def c11_19 : List SOper := [⟨some 62, .q (.mv (.t 1)), none⟩, ⟨some 63, .q (.mv (.t 8)), none⟩, ⟨some 64, .q (.mv (.t 7)), none⟩, ⟨some 65, .q (.mv (.t 9)), none⟩, ⟨some 66, .q (.bin .sub (.t 64) (.t 65)), none⟩, ⟨some 67, .e (.call 53 [(.t 62), (.t 63), (.t 66)]), none⟩, ⟨some 68, .e (.call 52 [(.t 67)]), none⟩, ⟨some 10, .q (.mv (.t 68)), none⟩]
def c11_20 : List SOper := [⟨some 11, .q (.mv (.c (.int .i64 0))), none⟩]
def c11_21 : List SOper := [⟨some 69, .q (.mv (.t 11)), none⟩, ⟨some 70, .q (.mv (.t 10)), none⟩, ⟨some 71, .q (.len (.t 70)), none⟩, ⟨some 72, .q (.bin .lss (.t 69) (.t 71)), none⟩]
def c11_22 : SCode := .cond (.t 72) .skip (.exit 0)
def c11_23 : SCode := .seq (.region c11_21 [5, 9, 10, 11, 72]) c11_22
def c11_24 : List SOper := [⟨some 75, .q (.mv (.t 5)), none⟩, ⟨some 76, .q (.mv (.t 10)), none⟩, ⟨some 77, .q (.mv (.t 11)), none⟩, ⟨some 78, .q (.ia 3 (.t 76) (.t 77)), none⟩, ⟨some 79, .q (.fa 0 (.t 78)), none⟩, ⟨some 80, .q (.ld (.t 79)), none⟩, ⟨some 81, .q (.mv (.t 10)), none⟩, ⟨some 82, .q (.mv (.t 11)), none⟩, ⟨some 83, .q (.ia 3 (.t 81) (.t 82)), none⟩, ⟨some 84, .q (.fa 1 (.t 83)), none⟩, ⟨some 85, .q (.ld (.t 84)), none⟩, ⟨some 86, .q (.mv (.t 10)), none⟩, ⟨some 87, .q (.mv (.t 11)), none⟩, ⟨some 88, .q (.ia 3 (.t 86) (.t 87)), none⟩, ⟨some 89, .q (.fa 2 (.t 88)), none⟩, ⟨some 90, .q (.ld (.t 89)), none⟩, ⟨some 91, .q (.build [(.int .i64 0), (.int .i64 0), (.int .i64 0), (.int .i64 0)] [(0, 1, (.c (.int .i64 3))), (1, 1, (.t 80)), (2, 1, (.t 85)), (3, 1, (.t 90))]), none⟩, ⟨some 92, .a (.bsl 1 4 [(.int .i64 0), (.int .i64 0), (.int .i64 0), (.int .i64 0)] [(0, 4, (.t 91))]), none⟩, ⟨some 93, .e (.app 32 4 (.t 75) (.t 92)), none⟩, ⟨some 5, .q (.mv (.t 93)), none⟩]
def c11_25 : SCode := .block 1 (.region c11_24 [5, 9, 10, 11])
def c11_26 : List SOper := [⟨some 73, .q (.mv (.t 11)), none⟩, ⟨some 74, .q (.bin .add (.t 73) (.c (.int .i64 1))), none⟩, ⟨some 11, .q (.mv (.t 74)), none⟩]
def c11_27 : SCode := .seq c11_25 (.region c11_26 [5, 9, 10, 11])
def c11_28 : SCode := .seq c11_23 c11_27
def c11_29 : SCode := .loop c11_28
def c11_30 : SCode := .block 0 c11_29
def c11_31 : SCode := .seq (.region c11_20 [5, 9, 10, 11]) c11_30
def c11_32 : List SOper := [⟨some 94, .q (.mv (.t 9)), none⟩, ⟨some 95, .q (.bin .gtr (.t 94) (.c (.int .i64 0))), none⟩]
def c11_33 : List SOper := [⟨some 96, .q (.mv (.t 5)), none⟩, ⟨some 97, .q (.mv (.t 9)), none⟩, ⟨some 98, .q (.build [(.int .i64 0), (.int .i64 0), (.int .i64 0), (.int .i64 0)] [(0, 1, (.c (.int .i64 1))), (3, 1, (.t 97))]), none⟩, ⟨some 99, .a (.bsl 1 4 [(.int .i64 0), (.int .i64 0), (.int .i64 0), (.int .i64 0)] [(0, 4, (.t 98))]), none⟩, ⟨some 100, .e (.app 32 4 (.t 96) (.t 99)), none⟩, ⟨some 5, .q (.mv (.t 100)), none⟩]
def c11_34 : SCode := .cond (.t 95) (.region c11_33 [5]) .skip
def c11_35 : SCode := .seq (.region c11_32 [5, 9, 95]) c11_34
def c11_36 : List SOper := [⟨some 101, .q (.mv (.t 5)), none⟩, ⟨some 4, .q (.mv (.t 101)), none⟩]
def c11_37 : SCode := .seq (.region c11_36 [4]) .ret
def c11_38 : SCode := .seq c11_35 c11_37
def c11_39 : SCode := .seq c11_31 c11_38
def c11_40 : SCode := .seq (.region c11_19 [5, 9, 10]) c11_39
def c11_41 : SCode := .seq c11_18 c11_40
def c11_42 : SCode := .seq c11_14 c11_41
def c11_43 : SCode := .seq (.region c11_10 [1, 5, 6, 7, 8, 9]) c11_42
def c11_44 : SCode := .seq (.region c11_9 [0, 1, 5, 6, 7, 8]) c11_43
def c11_45 : SCode := .seq (.region c11_8 [0, 1, 5, 6, 7]) c11_44
def c11_46 : SCode := .seq (.region c11_7 [0, 1, 5, 6]) c11_45
def c11_47 : SCode := .seq c11_6 c11_46
def c11_48 : SCode := .seq (.region c11_1 [0, 1, 5]) c11_47
def c11_49 : SCode := .seq (.region c11_0 [0, 1]) c11_48
def c11 : SCode := c11_49
theorem w11 : type_of% (And.intro (uR Try.prog c11_0.eq_1) (And.intro (uR Try.prog c11_1.eq_1) (And.intro (uR Try.prog c11_2.eq_1) (And.intro (uR Try.prog c11_3.eq_1) (And.intro (uC Try.prog c11_4.eq_1) (And.intro (uC Try.prog c11_5.eq_1) (And.intro (uC Try.prog c11_6.eq_1) (And.intro (uR Try.prog c11_7.eq_1) (And.intro (uR Try.prog c11_8.eq_1) (And.intro (uR Try.prog c11_9.eq_1) (And.intro (uR Try.prog c11_10.eq_1) (And.intro (uR Try.prog c11_11.eq_1) (And.intro (uR Try.prog c11_12.eq_1) (And.intro (uC Try.prog c11_13.eq_1) (And.intro (uC Try.prog c11_14.eq_1) (And.intro (uR Try.prog c11_15.eq_1) (And.intro (uR Try.prog c11_16.eq_1) (And.intro (uC Try.prog c11_17.eq_1) (And.intro (uC Try.prog c11_18.eq_1) (And.intro (uR Try.prog c11_19.eq_1) (And.intro (uR Try.prog c11_20.eq_1) (And.intro (uR Try.prog c11_21.eq_1) (And.intro (uC Try.prog c11_22.eq_1) (And.intro (uC Try.prog c11_23.eq_1) (And.intro (uR Try.prog c11_24.eq_1) (And.intro (uC Try.prog c11_25.eq_1) (And.intro (uR Try.prog c11_26.eq_1) (And.intro (uC Try.prog c11_27.eq_1) (And.intro (uC Try.prog c11_28.eq_1) (And.intro (uC Try.prog c11_29.eq_1) (And.intro (uC Try.prog c11_30.eq_1) (And.intro (uC Try.prog c11_31.eq_1) (And.intro (uR Try.prog c11_32.eq_1) (And.intro (uR Try.prog c11_33.eq_1) (And.intro (uC Try.prog c11_34.eq_1) (And.intro (uC Try.prog c11_35.eq_1) (And.intro (uR Try.prog c11_36.eq_1) (And.intro (uC Try.prog c11_37.eq_1) (And.intro (uC Try.prog c11_38.eq_1) (And.intro (uC Try.prog c11_39.eq_1) (And.intro (uC Try.prog c11_40.eq_1) (And.intro (uC Try.prog c11_41.eq_1) (And.intro (uC Try.prog c11_42.eq_1) (And.intro (uC Try.prog c11_43.eq_1) (And.intro (uC Try.prog c11_44.eq_1) (And.intro (uC Try.prog c11_45.eq_1) (And.intro (uC Try.prog c11_46.eq_1) (And.intro (uC Try.prog c11_47.eq_1) (And.intro (uC Try.prog c11_48.eq_1) (And.intro (uC Try.prog c11_49.eq_1) (uC Try.prog c11.eq_1))))))))))))))))))))))))))))))))))))))))))))))))))) := (And.intro (uR Try.prog c11_0.eq_1) (And.intro (uR Try.prog c11_1.eq_1) (And.intro (uR Try.prog c11_2.eq_1) (And.intro (uR Try.prog c11_3.eq_1) (And.intro (uC Try.prog c11_4.eq_1) (And.intro (uC Try.prog c11_5.eq_1) (And.intro (uC Try.prog c11_6.eq_1) (And.intro (uR Try.prog c11_7.eq_1) (And.intro (uR Try.prog c11_8.eq_1) (And.intro (uR Try.prog c11_9.eq_1) (And.intro (uR Try.prog c11_10.eq_1) (And.intro (uR Try.prog c11_11.eq_1) (And.intro (uR Try.prog c11_12.eq_1) (And.intro (uC Try.prog c11_13.eq_1) (And.intro (uC Try.prog c11_14.eq_1) (And.intro (uR Try.prog c11_15.eq_1) (And.intro (uR Try.prog c11_16.eq_1) (And.intro (uC Try.prog c11_17.eq_1) (And.intro (uC Try.prog c11_18.eq_1) (And.intro (uR Try.prog c11_19.eq_1) (And.intro (uR Try.prog c11_20.eq_1) (And.intro (uR Try.prog c11_21.eq_1) (And.intro (uC Try.prog c11_22.eq_1) (And.intro (uC Try.prog c11_23.eq_1) (And.intro (uR Try.prog c11_24.eq_1) (And.intro (uC Try.prog c11_25.eq_1) (And.intro (uR Try.prog c11_26.eq_1) (And.intro (uC Try.prog c11_27.eq_1) (And.intro (uC Try.prog c11_28.eq_1) (And.intro (uC Try.prog c11_29.eq_1) (And.intro (uC Try.prog c11_30.eq_1) (And.intro (uC Try.prog c11_31.eq_1) (And.intro (uR Try.prog c11_32.eq_1) (And.intro (uR Try.prog c11_33.eq_1) (And.intro (uC Try.prog c11_34.eq_1) (And.intro (uC Try.prog c11_35.eq_1) (And.intro (uR Try.prog c11_36.eq_1) (And.intro (uC Try.prog c11_37.eq_1) (And.intro (uC Try.prog c11_38.eq_1) (And.intro (uC Try.prog c11_39.eq_1) (And.intro (uC Try.prog c11_40.eq_1) (And.intro (uC Try.prog c11_41.eq_1) (And.intro (uC Try.prog c11_42.eq_1) (And.intro (uC Try.prog c11_43.eq_1) (And.intro (uC Try.prog c11_44.eq_1) (And.intro (uC Try.prog c11_45.eq_1) (And.intro (uC Try.prog c11_46.eq_1) (And.intro (uC Try.prog c11_47.eq_1) (And.intro (uC Try.prog c11_48.eq_1) (And.intro (uC Try.prog c11_49.eq_1) (uC Try.prog c11.eq_1)))))))))))))))))))))))))))))))))))))))))))))))))))
def v11 : List RV := [.t 4]
theorem s11 : slimF Try.prog Try.f11 = some (c11.bare, v11) := by kernel_rfl

def keepF (kind n : Int) : List Change := if 0 < n then [⟨kind, 0, 0, n⟩] else []
theorem keepF_length (k n : Int) : (keepF k n).length ≤ 1 := by unfold keepF; split <;> simp
def chP (a b : List Clip) : Int := min (min (sumLen a) (sumLen b)) (lcp (ex a) (ex b))
def chQ (a b : List Clip) : Int := min (min (sumLen a) (sumLen b) - chP a b) (lcp (ex a).reverse (ex b).reverse)
def changesL (a b : List Clip) : List Change :=
  keepF 1 (chP a b) ++ keepF 2 (sumLen a - chP a b - chQ a b) ++ (join (partS (chP a b) (sumLen b - chQ a b) 0 b)).map addOf ++ keepF 1 (chQ a b)
def changesF (a b : List Clip) : List Change := if trackOk a ∧ trackOk b then changesL a b else []
theorem chPQ {a b : List Clip} (ha : trackOk a) (hb : trackOk b) : 0 ≤ chP a b ∧ 0 ≤ chQ a b ∧ chP a b + chQ a b ≤ sumLen a ∧ chP a b + chQ a b ≤ sumLen b := by
  have h1 := sumLen_bound ha.2.1; have h2 := sumLen_bound hb.2.1
  unfold chQ
  have : 0 ≤ chP a b ∧ chP a b ≤ min (sumLen a) (sumLen b) := by unfold chP; omega
  omega
theorem specChanges_ok (h : Heap) (v w : Value) (a b : List Clip) (s : SlT h encClip 3 v a) (sw : SlT h encClip 3 w b) (la : a.length ≤ 1100000) (lb : b.length ≤ 1100000) :
    ACall Try.prog 11 [v, w] h fun r h' => Fresh h h' encChange 4 r (changesF a b) := by
  refine ACall.of Try.func11 s11 (of_decide_eq_true rfl) ?_
  have N := Fresh.new0 h encChange_len (by omega)
  have s1 := s.ext N.1
  have sw1 := sw.ext N.1
  by_cases ha : trackOk a
  rotate_left
  · have ha' : decide (trackOk a) = false := decide_eq_false ha
    simp (maxSteps := 4000000) (disch := omega) only [ah, am, Nat.reduceEqDiff, reduceCtorEq, Nat.reduceAdd, Nat.reduceLeDiff, Nat.reduceMul, Nat.reduceLT, if_true, if_false, true_and, and_true, and_self, Nat.reduceBEq, QOp.loads, boxO, bslO, buildO, cutL, fillV, putL, w11, v11]
    refine stepC.of (TrackOk_ok _ _ _ s1 (by omega)) ?_
    rintro _ H1 ⟨e1, rfl⟩
    simp (maxSteps := 4000000) (disch := omega) only [ah, am, Nat.reduceEqDiff, reduceCtorEq, Nat.reduceAdd, Nat.reduceLeDiff, Nat.reduceMul, Nat.reduceLT, if_true, if_false, true_and, and_true, and_self, Nat.reduceBEq, QOp.loads, boxO, bslO, buildO, cutL, fillV, putL, w11, v11, ha']
    rw [show changesF a b = [] from if_neg fun q => ha q.1]
    exact N.ext e1
  by_cases hb : trackOk b
  rotate_left
  · have ha' : decide (trackOk a) = true := decide_eq_true ha
    have hb' : decide (trackOk b) = false := decide_eq_false hb
    simp (maxSteps := 4000000) (disch := omega) only [ah, am, Nat.reduceEqDiff, reduceCtorEq, Nat.reduceAdd, Nat.reduceLeDiff, Nat.reduceMul, Nat.reduceLT, if_true, if_false, true_and, and_true, and_self, Nat.reduceBEq, QOp.loads, boxO, bslO, buildO, cutL, fillV, putL, w11, v11]
    refine stepC.of (TrackOk_ok _ _ _ s1 (by omega)) ?_
    rintro _ H1 ⟨e1, rfl⟩
    simp (maxSteps := 4000000) (disch := omega) only [ah, am, Nat.reduceEqDiff, reduceCtorEq, Nat.reduceAdd, Nat.reduceLeDiff, Nat.reduceMul, Nat.reduceLT, if_true, if_false, true_and, and_true, and_self, Nat.reduceBEq, QOp.loads, boxO, bslO, buildO, cutL, fillV, putL, w11, v11, ha']
    refine stepC.of (TrackOk_ok _ _ _ (sw1.ext e1) (by omega)) ?_
    rintro _ H2 ⟨e2, rfl⟩
    simp (maxSteps := 4000000) (disch := omega) only [ah, am, Nat.reduceEqDiff, reduceCtorEq, Nat.reduceAdd, Nat.reduceLeDiff, Nat.reduceMul, Nat.reduceLT, if_true, if_false, true_and, and_true, and_self, Nat.reduceBEq, QOp.loads, boxO, bslO, buildO, cutL, fillV, putL, w11, v11, hb']
    rw [show changesF a b = [] from if_neg fun q => hb q.2]
    exact N.ext (e1.trans e2)
  rw [show changesF a b = changesL a b from if_pos ⟨ha, hb⟩]
  have alen := ha.1; have aok := ha.2.1; have asum := ha.2.2; have blen := hb.1; have bok := hb.2.1; have bsum := hb.2.2
  have B := chPQ ha hb
  have t2 : ∀ (E : Env) (H : Heap) (ov : Value) (pre : List Change), Fresh h H encChange 4 ov pre → pre.length ≤ 2 → pre = keepF 1 (chP a b) ++ keepF 2 (sumLen a - chP a b - chQ a b) →
      E.get 1 = some w → E.get 5 = some ov → E.get 7 = some (.int .i64 (sumLen b)) → E.get 8 = some (.int .i64 (chP a b)) → E.get 9 = some (.int .i64 (chQ a b)) →
      SW Try.prog c11_40 (retQ [RV.t 4] fun r h' => Fresh h h' encChange 4 r (changesL a b)) E H := by
    intro E H ov pre F hpre epre g1 g5 g7 g8 g9
    have hL : changesL a b = pre ++ (join (partS (chP a b) (sumLen b - chQ a b) 0 b)).map addOf ++ keepF 1 (chQ a b) := by rw [epre]; rfl
    rw [hL]
    have W1 : IntKind.i64.wrap (sumLen b - chQ a b) = sumLen b - chQ a b := i64w (by omega)
    simp (maxSteps := 4000000) (disch := omega) only [ah, am, Nat.reduceEqDiff, reduceCtorEq, Nat.reduceAdd, Nat.reduceLeDiff, Nat.reduceMul, Nat.reduceLT, if_true, if_false, true_and, and_true, and_self, Nat.reduceBEq, QOp.loads, boxO, bslO, buildO, cutL, fillV, putL, w11, v11, g1, g5, g7, g8, g9, W1]
    refine stepC.of (l4Part_ok _ _ b _ _ (sw.ext F.1) blen bok (by omega) (by omega)) ?_
    intro pv H3 F3
    have hpl := partS_length (chP a b) (sumLen b - chQ a b) b 0
    simp (maxSteps := 4000000) (disch := omega) only [ah, am, Nat.reduceEqDiff, reduceCtorEq, Nat.reduceAdd, Nat.reduceLeDiff, Nat.reduceMul, Nat.reduceLT, if_true, if_false, true_and, and_true, and_self, Nat.reduceBEq, QOp.loads, boxO, bslO, buildO, cutL, fillV, putL, w11, v11]
    refine stepC.of (l4Join_ok _ _ _ F3.slt (by omega) (fun k hk => (partS_mem _ _ _ _ bok k hk).in)) ?_
    intro jv H4 F4
    have T := Tw.of (Fk.of (X := []) F) (F4.mono F3.1)
    have hjl := join_length (partS (chP a b) (sumLen b - chQ a b) 0 b)
    clear F4 F3 hL
    generalize join (partS (chP a b) (sumLen b - chQ a b) 0 b) = jl at *
    simp (maxSteps := 4000000) (disch := omega) only [ah, am, Nat.reduceEqDiff, reduceCtorEq, Nat.reduceAdd, Nat.reduceLeDiff, Nat.reduceMul, Nat.reduceLT, if_true, if_false, true_and, and_true, and_self, Nat.reduceBEq, QOp.loads, boxO, bslO, buildO, cutL, fillV, putL, w11, v11, g1, g5, g7, g8, g9]
    refine SW_loop_up (fun k E K => ∃ ov', E = [(5, ov'), (9, .int .i64 (chQ a b)), (10, jv), (11, .int .i64 k)] ∧ Tw H.size H4.size h K encChange 4 ov' (pre ++ (jl.take k).map addOf) [] encClip 3 jv jl) jl.length 0 (by omega)
      ⟨ov, rfl, by simpa using T⟩ ?_
    rintro k E K hk ⟨ov', rfl, TK⟩
    have RJ := TK.mine.slt.rulesN
    have W3 : IntKind.i64.wrap ((k : Int) + 1) = ((k + 1 : Nat) : Int) := i64e (by omega) (by omega)
    simp (maxSteps := 4000000) (disch := omega) only [ah, am, Nat.reduceEqDiff, reduceCtorEq, Nat.reduceAdd, Nat.reduceLeDiff, Nat.reduceMul, Nat.reduceLT, if_true, if_false, true_and, and_true, and_self, Nat.reduceBEq, QOp.loads, boxO, bslO, buildO, cutL, fillV, putL, w11, v11, RJ]
    refine stepI.split (fun hq => ?_) (fun hq => ?_)
    · have hk' : k < jl.length := by omega
      obtain ⟨v2, K2, ea, T2⟩ := TK.app1 [] (addOf jl[k]) (bytes := 32) (by simp only [List.length_append, List.length_map, List.length_take]; omega)
      simp only [List.nil_append, List.length_nil, Nat.add_zero, encChange, addOf] at ea
      simp (maxSteps := 4000000) (disch := omega) only [ah, am, Nat.reduceEqDiff, reduceCtorEq, Nat.reduceAdd, Nat.reduceLeDiff, Nat.reduceMul, Nat.reduceLT, if_true, if_false, true_and, and_true, and_self, Nat.reduceBEq, QOp.loads, boxO, bslO, buildO, cutL, fillV, putL, w11, v11, RJ, encClip, ea, W3]
      refine ⟨hk', v2, rfl, ?_⟩
      rw [List.take_succ_eq_append_getElem hk', List.map_append, ← List.append_assoc]
      exact T2
    · obtain rfl : k = jl.length := by omega
      rw [List.take_length] at TK
      have FK := TK.fk.fresh
      by_cases hq0 : 0 < chQ a b
      · have hq' : decide (0 < chQ a b) = true := decide_eq_true hq0
        obtain ⟨v2, K2, ea, F2⟩ := FK.app1 ⟨1, 0, 0, chQ a b⟩ (bytes := 32) (by simp only [List.length_append, List.length_map]; omega)
        simp only [encChange] at ea
        simp (maxSteps := 4000000) (disch := omega) only [ah, am, Nat.reduceEqDiff, reduceCtorEq, Nat.reduceAdd, Nat.reduceLeDiff, Nat.reduceMul, Nat.reduceLT, if_true, if_false, true_and, and_true, and_self, Nat.reduceBEq, QOp.loads, boxO, bslO, buildO, cutL, fillV, putL, w11, v11, RJ, hq', ea]
        rw [show keepF 1 (chQ a b) = [⟨1, 0, 0, chQ a b⟩] from if_pos hq0]
        exact F2
      · have hq' : decide (0 < chQ a b) = false := decide_eq_false hq0
        simp (maxSteps := 4000000) (disch := omega) only [ah, am, Nat.reduceEqDiff, reduceCtorEq, Nat.reduceAdd, Nat.reduceLeDiff, Nat.reduceMul, Nat.reduceLT, if_true, if_false, true_and, and_true, and_self, Nat.reduceBEq, QOp.loads, boxO, bslO, buildO, cutL, fillV, putL, w11, v11, RJ, hq']
        rw [show keepF 1 (chQ a b) = [] from if_neg hq0, List.append_nil]
        exact FK
  have t1 : ∀ (E : Env) (H : Heap) (ov : Value) (pre : List Change), Fresh h H encChange 4 ov pre → pre.length ≤ 1 → pre = keepF 1 (chP a b) →
      E.get 1 = some w → E.get 5 = some ov → E.get 6 = some (.int .i64 (sumLen a)) → E.get 7 = some (.int .i64 (sumLen b)) → E.get 8 = some (.int .i64 (chP a b)) → E.get 9 = some (.int .i64 (chQ a b)) →
      SW Try.prog c11_41 (retQ [RV.t 4] fun r h' => Fresh h h' encChange 4 r (changesL a b)) E H := by
    intro E H ov pre F hpre epre g1 g5 g6 g7 g8 g9
    have W1 : IntKind.i64.wrap (sumLen a - chP a b) = sumLen a - chP a b := i64w (by omega)
    have W2 : IntKind.i64.wrap (sumLen a - chP a b - chQ a b) = sumLen a - chP a b - chQ a b := i64w (by omega)
    rw [c11_41.eq_1]
    generalize c11_40 = fc at t2 ⊢
    by_cases hp0 : 0 < sumLen a - chP a b - chQ a b
    · have hp' : decide (0 < sumLen a - chP a b - chQ a b) = true := decide_eq_true hp0
      obtain ⟨v2, K2, ea, F2⟩ := F.app1 ⟨2, 0, 0, sumLen a - chP a b - chQ a b⟩ (bytes := 32) (by omega)
      simp only [encChange] at ea
      simp (maxSteps := 4000000) (disch := omega) only [ah, am, Nat.reduceEqDiff, reduceCtorEq, Nat.reduceAdd, Nat.reduceLeDiff, Nat.reduceMul, Nat.reduceLT, if_true, if_false, true_and, and_true, and_self, Nat.reduceBEq, QOp.loads, boxO, bslO, buildO, cutL, fillV, putL, w11, v11, g1, g5, g6, g7, g8, g9, W1, W2, hp', ea]
      exact t2 _ _ _ _ F2 (by simp; omega) (by rw [epre, show keepF 2 (sumLen a - chP a b - chQ a b) = [⟨2, 0, 0, sumLen a - chP a b - chQ a b⟩] from if_pos hp0]) rfl rfl rfl rfl rfl
    · have hp' : decide (0 < sumLen a - chP a b - chQ a b) = false := decide_eq_false hp0
      simp (maxSteps := 4000000) (disch := omega) only [ah, am, Nat.reduceEqDiff, reduceCtorEq, Nat.reduceAdd, Nat.reduceLeDiff, Nat.reduceMul, Nat.reduceLT, if_true, if_false, true_and, and_true, and_self, Nat.reduceBEq, QOp.loads, boxO, bslO, buildO, cutL, fillV, putL, w11, v11, g1, g5, g6, g7, g8, g9, W1, W2, hp']
      exact t2 _ _ _ _ F (by omega) (by rw [epre, show keepF 2 (sumLen a - chP a b - chQ a b) = [] from if_neg hp0, List.append_nil]) rfl rfl rfl rfl rfl
  clear t2
  have ha' : decide (trackOk a) = true := decide_eq_true ha
  have hb' : decide (trackOk b) = true := decide_eq_true hb
  simp (maxSteps := 4000000) (disch := omega) only [ah, am, Nat.reduceEqDiff, reduceCtorEq, Nat.reduceAdd, Nat.reduceLeDiff, Nat.reduceMul, Nat.reduceLT, if_true, if_false, true_and, and_true, and_self, Nat.reduceBEq, QOp.loads, boxO, bslO, buildO, cutL, fillV, putL, w11, v11]
  refine stepC.of (TrackOk_ok _ _ _ s1 (by omega)) ?_
  rintro _ H1 ⟨e1, rfl⟩
  simp (maxSteps := 4000000) (disch := omega) only [ah, am, Nat.reduceEqDiff, reduceCtorEq, Nat.reduceAdd, Nat.reduceLeDiff, Nat.reduceMul, Nat.reduceLT, if_true, if_false, true_and, and_true, and_self, Nat.reduceBEq, QOp.loads, boxO, bslO, buildO, cutL, fillV, putL, w11, v11, ha']
  refine stepC.of (TrackOk_ok _ _ _ (sw1.ext e1) (by omega)) ?_
  rintro _ H2 ⟨e2, rfl⟩
  simp (maxSteps := 4000000) (disch := omega) only [ah, am, Nat.reduceEqDiff, reduceCtorEq, Nat.reduceAdd, Nat.reduceLeDiff, Nat.reduceMul, Nat.reduceLT, if_true, if_false, true_and, and_true, and_self, Nat.reduceBEq, QOp.loads, boxO, bslO, buildO, cutL, fillV, putL, w11, v11, hb']
  have e12 := e1.trans e2
  refine stepC.of (l4Length_ok _ _ _ (s1.ext e12) alen aok) ?_
  rintro _ Hx ⟨hx, rfl⟩; rw [hx]; clear hx Hx
  simp (maxSteps := 4000000) (disch := omega) only [ah, am, Nat.reduceEqDiff, reduceCtorEq, Nat.reduceAdd, Nat.reduceLeDiff, Nat.reduceMul, Nat.reduceLT, if_true, if_false, true_and, and_true, and_self, Nat.reduceBEq, QOp.loads, boxO, bslO, buildO, cutL, fillV, putL, w11, v11]
  refine stepC.of (l4Length_ok _ _ _ (sw1.ext e12) blen bok) ?_
  rintro _ Hx ⟨hx, rfl⟩; rw [hx]; clear hx Hx
  simp (maxSteps := 4000000) (disch := omega) only [ah, am, Nat.reduceEqDiff, reduceCtorEq, Nat.reduceAdd, Nat.reduceLeDiff, Nat.reduceMul, Nat.reduceLT, if_true, if_false, true_and, and_true, and_self, Nat.reduceBEq, QOp.loads, boxO, bslO, buildO, cutL, fillV, putL, w11, v11]
  refine stepC.of (l1Min_ok _ _ _) ?_
  rintro _ Hx ⟨hx, rfl⟩; rw [hx]; clear hx Hx
  have hsa := sumLen_bound aok; have hsb := sumLen_bound bok
  simp (maxSteps := 4000000) (disch := omega) only [ah, am, Nat.reduceEqDiff, reduceCtorEq, Nat.reduceAdd, Nat.reduceLeDiff, Nat.reduceMul, Nat.reduceLT, if_true, if_false, true_and, and_true, and_self, Nat.reduceBEq, QOp.loads, boxO, bslO, buildO, cutL, fillV, putL, w11, v11]
  refine stepC.of (l5Alike_ok _ _ _ _ _ _ (s1.ext e12) (sw1.ext e12) alen blen aok bok (by omega)) ?_
  rintro _ H3 ⟨e3, rfl⟩
  rw [show min (min (sumLen a) (sumLen b)) (lcp (ex a) (ex b) : Int) = chP a b from rfl]
  simp (maxSteps := 4000000) (disch := omega) only [ah, am, Nat.reduceEqDiff, reduceCtorEq, Nat.reduceAdd, Nat.reduceLeDiff, Nat.reduceMul, Nat.reduceLT, if_true, if_false, true_and, and_true, and_self, Nat.reduceBEq, QOp.loads, boxO, bslO, buildO, cutL, fillV, putL, w11, v11]
  refine stepC.of (l1Min_ok _ _ _) ?_
  rintro _ Hx ⟨hx, rfl⟩; rw [hx]; clear hx Hx
  have W1 : IntKind.i64.wrap (min (sumLen a) (sumLen b) - chP a b) = min (sumLen a) (sumLen b) - chP a b := i64w (by omega)
  simp (maxSteps := 4000000) (disch := omega) only [ah, am, Nat.reduceEqDiff, reduceCtorEq, Nat.reduceAdd, Nat.reduceLeDiff, Nat.reduceMul, Nat.reduceLT, if_true, if_false, true_and, and_true, and_self, Nat.reduceBEq, QOp.loads, boxO, bslO, buildO, cutL, fillV, putL, w11, v11, W1]
  have e13 := e12.trans e3
  refine stepC.of (l5Ends_ok _ _ _ _ _ _ (s1.ext e13) (sw1.ext e13) alen blen aok bok (by omega)) ?_
  rintro _ H4 ⟨e4, rfl⟩
  rw [show min (min (sumLen a) (sumLen b) - chP a b) (lcp (ex a).reverse (ex b).reverse : Int) = chQ a b from rfl]
  have F := N.ext (e13.trans e4)
  rw [c11_42.eq_1]
  generalize c11_41 = fc at t1 ⊢
  by_cases hp0 : 0 < chP a b
  · have hp' : decide (0 < chP a b) = true := decide_eq_true hp0
    obtain ⟨v2, K2, ea, F2⟩ := F.app1 ⟨1, 0, 0, chP a b⟩ (bytes := 32) (by simp)
    simp only [encChange] at ea
    simp (maxSteps := 4000000) (disch := omega) only [ah, am, Nat.reduceEqDiff, reduceCtorEq, Nat.reduceAdd, Nat.reduceLeDiff, Nat.reduceMul, Nat.reduceLT, if_true, if_false, true_and, and_true, and_self, Nat.reduceBEq, QOp.loads, boxO, bslO, buildO, cutL, fillV, putL, w11, v11, hp', ea]
    exact t1 _ _ _ _ F2 (by simp) (by rw [show keepF 1 (chP a b) = [⟨1, 0, 0, chP a b⟩] from if_pos hp0]; rfl) rfl rfl rfl rfl rfl rfl
  · have hp' : decide (0 < chP a b) = false := decide_eq_false hp0
    simp (maxSteps := 4000000) (disch := omega) only [ah, am, Nat.reduceEqDiff, reduceCtorEq, Nat.reduceAdd, Nat.reduceLeDiff, Nat.reduceMul, Nat.reduceLT, if_true, if_false, true_and, and_true, and_self, Nat.reduceBEq, QOp.loads, boxO, bslO, buildO, cutL, fillV, putL, w11, v11, hp']
    exact t1 _ _ _ _ F (by simp) (by rw [show keepF 1 (chP a b) = [] from if_neg hp0]) rfl rfl rfl rfl rfl rfl
end Go.Proofs.Ytbnppofkpgfhnaa
