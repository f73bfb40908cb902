import Derived.Test.YtbnppofkpgfhnaaCB
namespace Go.Proofs.Ytbnppofkpgfhnaa
open Go Go.Ah
set_option linter.unusedSimpArgs false
set_option linter.unusedVariables false
set_option maxRecDepth 10000
set_option maxHeartbeats 4000000
/-! What is applied and turned comes back -/
theorem fold_mono (a : List Clip) : ∀ (l : List Change) (s : List Clip × Int), (∀ c ∈ l, changeOk c) → s.2 ≤ (l.foldl (applyStep a) s).2 ∧ ∃ X, (l.foldl (applyStep a) s).1 = s.1 ++ X := by
  intro l
  induction l with
  | nil => intro s _; exact ⟨by simp, [], by simp⟩
  | cons c l ih =>
    intro s h
    have hc := changeOk_len (h c (by simp))
    obtain ⟨h1, X, h2⟩ := ih (applyStep a s c) (fun x hx => h x (by simp [hx]))
    have st : s.2 ≤ (applyStep a s c).2 ∧ ∃ Y, (applyStep a s c).1 = s.1 ++ Y := by
      unfold applyStep
      split
      · exact ⟨by simp, _, rfl⟩
      · split
        · exact ⟨by simp only; omega, _, rfl⟩
        · exact ⟨by simp only; omega, [], by simp⟩
    obtain ⟨h3, Y, h4⟩ := st
    exact ⟨by simp only [List.foldl_cons]; omega, Y ++ X, by simp only [List.foldl_cons]; rw [h2, h4, List.append_assoc]⟩
theorem applyL_append (b : List Clip) (l m : List Change) : applyL b (l ++ m) = m.foldl (applyStep b) (applyL b l) := by
  unfold applyL; rw [List.foldl_append]
theorem fold_adds (b : List Clip) : ∀ (L : List Clip) (s : List Clip × Int), (L.map addOf).foldl (applyStep b) s = (s.1 ++ L, s.2) := by
  intro L
  induction L with
  | nil => intro s; simp
  | cons k L ih =>
    intro s
    rw [List.map_cons, List.foldl_cons, ih, show applyStep b s (addOf k) = (s.1 ++ [k], s.2) from by simp [applyStep, addOf, clipOf]]
    simp
theorem take_mid {α : Type} (L : List α) (x n : Nat) : L.take x ++ (L.take (x + n)).drop x = L.take (x + n) := by
  have := List.take_append_drop x (L.take (x + n))
  rwa [List.take_take, Nat.min_eq_left (by omega)] at this
structure TI (a b : List Clip) (s : List Clip × Int) (u : List Change × Int) : Prop where
  pos : 0 ≤ s.2
  eq : u.2 = s.2
  fr : ex (applyL b u.1).1 = (ex a).take s.2.toNat
  at_ : (applyL b u.1).2 = (ex s.1).length
theorem TI.step {a b : List Clip} {s : List Clip × Int} {u : List Change × Int} {c : Change} (t : TI a b s u) (ha : trackOk a) (hb : ∀ k ∈ b, wfC k) (hc : changeOk c)
    (hle : (applyStep a s c).2 ≤ sumLen a) (hR : ∃ R, ex b = ex (applyStep a s c).1 ++ R) : TI a b (applyStep a s c) (turnedStep a u c) := by
  obtain ⟨out, pos⟩ := s
  obtain ⟨tl, pos'⟩ := u
  obtain ⟨p0, rfl, fr, at_⟩ := t
  simp only at p0 fr at_
  have hlen := changeOk_len hc
  have hA := sum_ex ha
  have wfa := trackOk_wf ha
  have exP : ex (partS pos' (pos' + c.len) 0 a) = ((ex a).take (pos'.toNat + c.len.toNat)).drop pos'.toNat := by
    rw [ex_partS _ _ _ _ wfa, show (pos' + c.len - 0).toNat = pos'.toNat + c.len.toNat by omega, show (pos' - 0).toNat = pos'.toNat by omega]
  by_cases h3 : c.kind = 3
  · simp only [applyStep, turnedStep, if_pos h3]
    refine ⟨p0, rfl, ?_, ?_⟩
    · rw [applyL_append]; simpa [applyStep] using fr
    · rw [applyL_append]
      simp only [List.foldl_cons, List.foldl_nil, applyStep, ex_append, ex_one, List.length_append, framesI_len, clipOf]
      simp only [show ¬((2 : Int) = 3) by omega, show ¬((2 : Int) = 1) by omega, if_false]
      rw [at_]; omega
  by_cases h1 : c.kind = 1
  · simp only [applyStep, if_neg h3, if_pos h1] at hle hR
    simp only [applyStep, turnedStep, if_neg h3, if_pos h1]
    obtain ⟨R, hR⟩ := hR
    rw [ex_append] at hR
    have lP : (ex (partS pos' (pos' + c.len) 0 a)).length = c.len.toNat := by rw [exP, List.length_drop, List.length_take]; omega
    have exB : ex (partS (applyL b tl).2 ((applyL b tl).2 + c.len) 0 b) = ex (partS pos' (pos' + c.len) 0 a) := by
      rw [ex_partS _ _ _ _ hb, at_, hR, show ((ex out).length + c.len - 0 : Int).toNat = (ex out).length + c.len.toNat by omega, show ((ex out).length - 0 : Int).toNat = (ex out).length by omega]
      rw [List.take_append_of_le_length (by rw [List.length_append]; omega), List.take_of_length_le (by rw [List.length_append]; omega), List.drop_left]
    refine ⟨by omega, rfl, ?_, ?_⟩
    · rw [applyL_append]
      simp only [List.foldl_cons, List.foldl_nil, applyStep, if_neg h3, if_pos h1, ex_append]
      rw [exB, exP, fr, take_mid, show (pos' + c.len).toNat = pos'.toNat + c.len.toNat by omega]
    · rw [applyL_append]
      simp only [List.foldl_cons, List.foldl_nil, applyStep, if_neg h3, if_pos h1, ex_append, List.length_append]
      rw [at_, lP]; omega
  · simp only [applyStep, if_neg h3, if_neg h1] at hle hR
    simp only [applyStep, turnedStep, if_neg h3, if_neg h1]
    have pok : ∀ k ∈ partS pos' (pos' + c.len) 0 a, wfC k := fun k hk => (partS_mem _ _ _ _ ha.2.1 k hk).wf
    refine ⟨by omega, rfl, ?_, ?_⟩
    · rw [applyL_append, fold_adds]
      simp only [ex_append]
      rw [(join_facts _ pok).2.1, exP, fr, take_mid, show (pos' + c.len).toNat = pos'.toNat + c.len.toNat by omega]
    · rw [applyL_append, fold_adds]; exact at_
theorem TI.all {a b : List Clip} (ha : trackOk a) (hb : ∀ k ∈ b, wfC k) (l : List Change) (hl : ∀ c ∈ l, changeOk c) (hle : (applyL a l).2 ≤ sumLen a) (he : ex b = ex (applyL a l).1) :
    TI a b (applyL a l) (turnedL a l) := by
  have key : ∀ i, i ≤ l.length → TI a b (applyL a (l.take i)) (turnedL a (l.take i)) := by
    intro i
    induction i with
    | zero => intro _; exact ⟨by simp [applyL], by simp [applyL, turnedL], by simp [applyL, turnedL, ex], by simp [applyL, turnedL, ex]⟩
    | succ i ih =>
      intro hi
      have hi' : i < l.length := by omega
      have t := ih (by omega)
      rw [applyL_take a l i hi', turnedL_take a l i hi']
      have F : applyL a l = (l.drop (i + 1)).foldl (applyStep a) (applyL a (l.take (i + 1))) := by
        rw [← applyL_append, List.take_append_drop]
      obtain ⟨m1, X, m2⟩ := fold_mono a (l.drop (i + 1)) (applyL a (l.take (i + 1))) (fun c hc => hl c (List.mem_of_mem_drop hc))
      rw [← F] at m1 m2
      rw [applyL_take a l i hi'] at m1 m2
      exact t.step ha hb (hl _ (List.getElem_mem hi')) (by omega) ⟨ex X, by rw [he, m2, ex_append]⟩
  have := key l.length (Nat.le_refl _)
  rwa [List.take_length] at this
theorem turnedL_ok {a : List Clip} (ha : trackOk a) (l : List Change) (hl : ∀ c ∈ l, changeOk c) : ∀ c ∈ (turnedL a l).1, changeOk c := by
  have key : ∀ (l : List Change) (u : List Change × Int), (∀ c ∈ l, changeOk c) → (∀ c ∈ u.1, changeOk c) → ∀ c ∈ (l.foldl (turnedStep a) u).1, changeOk c := by
    intro l
    induction l with
    | nil => intro u _ h; exact h
    | cons c l ih =>
      intro u h hu
      refine ih _ (fun x hx => h x (by simp [hx])) ?_
      have hc := h c (by simp)
      have hlen := changeOk_len hc
      intro d hd
      unfold turnedStep at hd
      split at hd
      · simp only [List.mem_append, List.mem_singleton] at hd
        rcases hd with hd | rfl
        · exact hu d hd
        · exact .inr ⟨.inr rfl, rfl, rfl, hlen⟩
      · split at hd
        · simp only [List.mem_append, List.mem_singleton] at hd
          rcases hd with hd | rfl
          · exact hu d hd
          · exact hc
        · simp only [List.mem_append, List.mem_map] at hd
          rcases hd with hd | ⟨k, hk, rfl⟩
          · exact hu d hd
          · have pok := partS_mem u.2 (u.2 + c.len) a 0 ha.2.1
            have wfa := trackOk_wf ha
            have s1 := len_ex _ (fun k hk => (pok k hk).wf)
            have s2 := sum_ex ha
            have s3 := ha.2.2
            have s4 : (ex (partS u.2 (u.2 + c.len) 0 a)).length ≤ (ex a).length := by rw [ex_partS _ _ _ _ wfa, List.length_drop, List.length_take]; omega
            exact .inl ⟨rfl, join_ok _ pok (by omega) k hk⟩
  exact key l ([], 0) hl (by simp)
/-- What is applied and turned comes back, from any track of the same frames. -/
theorem back_of {a b u : List Clip} {l : List Change} (h : applyF a l = (u, true)) (hb : trackOk b) (he : ex b = ex u) (ht : (turnedL a l).1.length ≤ 300) : applyF b (turnedL a l).1 = (join a, true) := by
  obtain ⟨ha, hc, hs⟩ := applyF_true (a := a) (l := l) (by rw [h])
  have hE : editF (applyL a l).1 = (u, true) := by rw [← h]; exact (if_pos ⟨ha, hc, hs⟩).symm
  obtain ⟨-, hj, -, hex, hsum⟩ := editF_facts hE
  have he2 : ex b = ex (applyL a l).1 := by rw [he, hex]
  have T := TI.all ha (trackOk_wf hb) l hc.2 (by omega) he2
  have tok := turnedL_ok ha l hc.2
  have hB := sum_ex hb
  have hA := sum_ex ha
  have h2 : (applyL b (turnedL a l).1).2 = sumLen b := by rw [T.at_, ← he2]; omega
  have h1 : ex (applyL b (turnedL a l).1).1 = ex a := by rw [T.fr, List.take_of_length_le (by omega)]
  unfold applyF
  rw [if_pos ⟨hb, ⟨ht, tok⟩, h2⟩]
  exact editF_of (applyL_mem b hb.2.1 _ tok) ha h1
end Go.Proofs.Ytbnppofkpgfhnaa

namespace Go.Proofs.Ytbnppofkpgfhnaa
open Go Go.Ah
set_option linter.unusedSimpArgs false
set_option linter.unusedVariables false
set_option maxRecDepth 10000
set_option maxHeartbeats 4000000
/-! The changes from one cut to another make the other -/
theorem keepF_ok {k n : Int} (hk : k = 1 ∨ k = 2) (hn : n ≤ 10000000) : ∀ c ∈ keepF k n, changeOk c := by
  intro c hc
  unfold keepF at hc
  split at hc
  · simp only [List.mem_singleton] at hc; subst hc
    exact .inr ⟨hk, rfl, rfl, by simp only; omega, hn⟩
  · cases hc
theorem join_part_ok {b : List Clip} (hb : trackOk b) (x y : Int) : ∀ k ∈ join (partS x y 0 b), clipOk k := by
  have pok := partS_mem x y b 0 hb.2.1
  have s1 := len_ex _ (fun k hk => (pok k hk).wf)
  have s2 := sum_ex hb
  have s3 := hb.2.2
  have s4 : (ex (partS x y 0 b)).length ≤ (ex b).length := by rw [ex_partS _ _ _ _ (trackOk_wf hb), List.length_drop, List.length_take]; omega
  exact join_ok _ pok (by omega)
theorem changesL_ok {a b : List Clip} (ha : trackOk a) (hb : trackOk b) : ∀ c ∈ changesL a b, changeOk c := by
  have B := chPQ ha hb
  have := ha.2.2; have := hb.2.2
  intro c hc
  simp only [changesL, List.mem_append, List.mem_map] at hc
  rcases hc with ((hc | hc) | ⟨k, hk, rfl⟩) | hc
  · exact keepF_ok (.inl rfl) (by omega) c hc
  · exact keepF_ok (.inr rfl) (by omega) c hc
  · exact .inl ⟨rfl, join_part_ok hb _ _ k hk⟩
  · exact keepF_ok (.inl rfl) (by omega) c hc
theorem fold_keep {a : List Clip} (ha : trackOk a) {n : Int} (hn : 0 ≤ n) (s : List Clip × Int) (hs : 0 ≤ s.2) :
    ex ((keepF 1 n).foldl (applyStep a) s).1 = ex s.1 ++ ((ex a).take (s.2.toNat + n.toNat)).drop s.2.toNat ∧ ((keepF 1 n).foldl (applyStep a) s).2 = s.2 + n := by
  unfold keepF
  split
  · simp only [List.foldl_cons, List.foldl_nil, applyStep, show ¬((1 : Int) = 3) by omega, if_false, if_true, ex_append]
    rw [ex_partS _ _ _ _ (trackOk_wf ha), show (s.2 + n - 0).toNat = s.2.toNat + n.toNat by omega, show (s.2 - 0).toNat = s.2.toNat by omega]
    exact ⟨rfl, trivial⟩
  · obtain rfl : n = 0 := by omega
    simp only [List.foldl_nil, Int.toNat_zero, Nat.add_zero]
    rw [List.drop_eq_nil_of_le (by rw [List.length_take]; omega), List.append_nil]
    exact ⟨rfl, by omega⟩
theorem fold_drop (a : List Clip) {n : Int} (hn : 0 ≤ n) (s : List Clip × Int) : (keepF 2 n).foldl (applyStep a) s = (s.1, s.2 + n) := by
  unfold keepF
  split
  · simp only [List.foldl_cons, List.foldl_nil, applyStep, show ¬((2 : Int) = 3) by omega, show ¬((2 : Int) = 1) by omega, if_false]
  · obtain rfl : n = 0 := by omega
    simp
theorem applyL_changes {a b : List Clip} (ha : trackOk a) (hb : trackOk b) : (applyL a (changesL a b)).2 = sumLen a ∧ ex (applyL a (changesL a b)).1 = ex b := by
  have B := chPQ ha hb
  have hA := sum_ex ha; have hB := sum_ex hb
  have hp : chP a b ≤ (lcp (ex a) (ex b) : Int) := by unfold chP; omega
  have hq : chQ a b ≤ (lcp (ex a).reverse (ex b).reverse : Int) := by unfold chQ; omega
  have t1 : (ex a).take (chP a b).toNat = (ex b).take (chP a b).toNat := by
    have := congrArg (List.take (chP a b).toNat) (lcp_take (ex a) (ex b))
    rwa [List.take_take, List.take_take, Nat.min_eq_left (by omega)] at this
  have t2 : (ex a).drop ((ex a).length - (chQ a b).toNat) = (ex b).drop ((ex b).length - (chQ a b).toNat) := by
    have := congrArg (List.take (chQ a b).toNat) (lcp_take (ex a).reverse (ex b).reverse)
    rw [List.take_take, List.take_take, Nat.min_eq_left (by omega), List.take_reverse, List.take_reverse] at this
    exact List.reverse_inj.mp this
  have eJ : ex (join (partS (chP a b) (sumLen b - chQ a b) 0 b)) = ((ex b).take (sumLen b - chQ a b).toNat).drop (chP a b).toNat := by
    rw [(join_facts _ (fun k hk => (partS_mem _ _ _ _ hb.2.1 k hk).wf)).2.1, ex_partS _ _ _ _ (trackOk_wf hb)]; simp
  unfold changesL applyL
  rw [List.foldl_append, List.foldl_append, List.foldl_append, fold_adds]
  obtain ⟨f1, f2⟩ := fold_keep ha B.1 ([], 0) (by simp)
  generalize (keepF 1 (chP a b)).foldl (applyStep a) ([], 0) = s1 at f1 f2 ⊢
  rw [fold_drop a (by omega)]
  simp only
  obtain ⟨g1, g2⟩ := fold_keep ha B.2.1 (s1.1 ++ join (partS (chP a b) (sumLen b - chQ a b) 0 b), s1.2 + (sumLen a - chP a b - chQ a b)) (by simp only at f2 ⊢; omega)
  simp only at f1 f2 g1 g2
  refine ⟨by rw [g2, f2]; omega, ?_⟩
  rw [g1, ex_append, f1, eJ, f2]
  rw [show (ex ([] : List Clip)) = [] from rfl, List.nil_append, show (0 : Int).toNat + (chP a b).toNat = (chP a b).toNat by simp, show (0 : Int).toNat = 0 from rfl, List.drop_zero, t1]
  rw [show (0 + chP a b + (sumLen a - chP a b - chQ a b)).toNat = (ex a).length - (chQ a b).toNat by omega, List.take_of_length_le (l := ex a) (by omega), t2]
  rw [show (sumLen b - chQ a b).toNat = (chP a b).toNat + ((ex b).length - (chQ a b).toNat - (chP a b).toNat) by omega, take_mid,
    show (chP a b).toNat + ((ex b).length - (chQ a b).toNat - (chP a b).toNat) = (ex b).length - (chQ a b).toNat by omega, List.take_append_drop]
theorem changed_to {a b : List Clip} (ha : trackOk a) (hb : trackOk b) (hl : (changesL a b).length ≤ 300) : applyF a (changesL a b) = (join b, true) := by
  obtain ⟨h1, h2⟩ := applyL_changes ha hb
  have ok := changesL_ok ha hb
  unfold applyF
  rw [if_pos ⟨ha, ⟨hl, ok⟩, h1⟩]
  exact editF_of (applyL_mem a ha.2.1 _ ok) hb h2
/-- Where a frame goes. -/
def shiftL : List Change → Int → Int → Int
  | [], _, _ => -1
  | c :: l, i, p => if c.kind = 3 then shiftL l i (p + c.len) else if i < c.len then (if c.kind = 2 then -1 else p + i) else shiftL l (i - c.len) (if c.kind = 2 then p else p + c.len)
theorem shift_law {a : List Clip} (ha : trackOk a) : ∀ (l : List Change) (s : List Clip × Int) (i : Int), (∀ c ∈ l, changeOk c) → 0 ≤ s.2 → s.2 ≤ i → (l.foldl (applyStep a) s).2 ≤ sumLen a →
    0 ≤ shiftL l (i - s.2) (ex s.1).length → (ex (l.foldl (applyStep a) s).1)[(shiftL l (i - s.2) (ex s.1).length).toNat]? = (ex a)[i.toNat]? := by
  intro l
  induction l with
  | nil => intro s i _ _ _ _ h; simp [shiftL] at h
  | cons c l ih =>
    intro s i hl h0 hi hle h
    have hc := changeOk_len (hl c (by simp))
    have hl' : ∀ x ∈ l, changeOk x := fun x hx => hl x (by simp [hx])
    obtain ⟨m1, X, m2⟩ := fold_mono a l (applyStep a s c) hl'
    simp only [List.foldl_cons] at hle ⊢
    have hA := sum_ex ha
    unfold shiftL at h ⊢
    by_cases h3 : c.kind = 3
    · rw [if_pos h3] at h ⊢
      have e1 : applyStep a s c = (s.1 ++ [clipOf c], s.2) := if_pos h3
      have e2 : ((ex (s.1 ++ [clipOf c])).length : Int) = (ex s.1).length + c.len := by rw [ex_append, ex_one, List.length_append, framesI_len]; simp only [clipOf]; omega
      rw [e1] at hle ⊢
      have := ih (s.1 ++ [clipOf c], s.2) i hl' h0 hi hle
      simp only [e2] at this
      exact this h
    · rw [if_neg h3] at h ⊢
      by_cases h1 : c.kind = 1
      · have h2 : ¬ c.kind = 2 := by omega
        have e1 : applyStep a s c = (s.1 ++ partS s.2 (s.2 + c.len) 0 a, s.2 + c.len) := by simp only [applyStep, if_neg h3, if_pos h1]
        rw [e1] at m1 m2 hle ⊢
        simp only at m1 m2
        have exP : ex (partS s.2 (s.2 + c.len) 0 a) = ((ex a).take (s.2.toNat + c.len.toNat)).drop s.2.toNat := by
          rw [ex_partS _ _ _ _ (trackOk_wf ha), show (s.2 + c.len - 0).toNat = s.2.toNat + c.len.toNat by omega, show (s.2 - 0).toNat = s.2.toNat by omega]
        have lP : (ex (partS s.2 (s.2 + c.len) 0 a)).length = c.len.toNat := by rw [exP, List.length_drop, List.length_take]; omega
        by_cases hlt : i - s.2 < c.len
        · rw [if_pos hlt, if_neg h2] at h ⊢
          rw [m2, ex_append, ex_append, List.append_assoc, List.getElem?_append_right (by omega), List.getElem?_append_left (by omega), exP, List.getElem?_drop, List.getElem?_take_of_lt (by omega)]
          congr 1; omega
        · rw [if_neg hlt, if_neg h2] at h ⊢
          have e2 : ((ex (s.1 ++ partS s.2 (s.2 + c.len) 0 a)).length : Int) = (ex s.1).length + c.len := by rw [ex_append, List.length_append, lP]; omega
          have := ih (s.1 ++ partS s.2 (s.2 + c.len) 0 a, s.2 + c.len) i hl' (by simp only; omega) (by simp only; omega) hle
          simp only [e2, show i - (s.2 + c.len) = i - s.2 - c.len by omega] at this
          exact this h
      · have hk : c.kind = 2 := by have := hl c (by simp); simp only [changeOk] at this; omega
        have e1 : applyStep a s c = (s.1, s.2 + c.len) := by simp only [applyStep, if_neg h3, if_neg h1]
        rw [e1] at hle ⊢
        by_cases hlt : i - s.2 < c.len
        · rw [if_pos hlt, if_pos hk] at h; omega
        · rw [if_neg hlt, if_pos hk] at h ⊢
          have := ih (s.1, s.2 + c.len) i hl' (by simp only; omega) (by simp only; omega) hle
          simp only [show i - (s.2 + c.len) = i - s.2 - c.len by omega] at this
          exact this h
theorem shift_frame {a b : List Clip} (ha : trackOk a) (hb : trackOk b) {i : Int} (hi : 0 ≤ i) (h : 0 ≤ shiftL (changesL a b) i 0) :
    (ex b)[(shiftL (changesL a b) i 0).toNat]? = (ex a)[i.toNat]? := by
  obtain ⟨h1, h2⟩ := applyL_changes ha hb
  have := shift_law ha (changesL a b) ([], 0) i (changesL_ok ha hb) (by simp) hi (by rw [show (changesL a b).foldl (applyStep a) ([], 0) = applyL a (changesL a b) from rfl, h1]; omega)
  simp only [Int.sub_zero, show ((ex ([] : List Clip)).length : Int) = 0 from rfl] at this
  rw [← h2]; exact this h
end Go.Proofs.Ytbnppofkpgfhnaa
