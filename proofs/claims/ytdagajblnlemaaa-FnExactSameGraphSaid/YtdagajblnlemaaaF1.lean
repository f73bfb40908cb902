import Derived.Test.YtdagajblnlemaaaAhZ
import Derived.Laws.FloatBits
namespace Go.Proofs.Ytdagajblnlemaaa
open Go Go.Ah
set_option linter.unusedSimpArgs false
set_option linter.unusedVariables false
set_option maxRecDepth 10000
set_option maxHeartbeats 4000000
/-! ### Floats of 64 bits: what the model's order and quotient say of them -/
abbrev dbl : Ieee.Format := Ieee.double
def rdF (x : Nat) : Ieee.Datum := dbl.read x
def nanF (x : Nat) : Prop := (rdF x).isNaN = true
instance (x : Nat) : Decidable (nanF x) := by unfold nanF; infer_instance
def signF (x : Nat) : Bool := x / 9223372036854775808 % 2 == 1
def ordF (a b : Nat) : Option Ordering := dbl.order a b
def zeroF (x : Nat) : Prop := (rdF x).isZero = true
instance (x : Nat) : Decidable (zeroF x) := by unfold zeroF; infer_instance
theorem signWeight_eq : dbl.signWeight = 9223372036854775808 := by decide
theorem binade_eq : dbl.binade = 4503599627370496 := by decide
theorem infRung_eq : dbl.infRung = 9218868437227405312 := by decide
theorem rdF_cases (x : Nat) : (∃ m, m < 4503599627370496 ∧ rdF x = .number (signF x) m dbl.leastPlace) ∨
    (∃ m e, 4503599627370496 ≤ m ∧ m < 9007199254740992 ∧ rdF x = .number (signF x) m (dbl.leastPlace + (e : Nat))) ∨ rdF x = .infinity (signF x) ∨ (∃ t, rdF x = .nan (signF x) t) := by
  unfold rdF Ieee.Format.read signF
  rw [signWeight_eq, binade_eq, infRung_eq]
  simp only
  split
  · rename_i h; exact .inl ⟨_, h, rfl⟩
  · split
    · rename_i h; refine .inr (.inl ⟨_, _, ?_, ?_, rfl⟩) <;> omega
    · split
      · exact .inr (.inr (.inl rfl))
      · exact .inr (.inr (.inr ⟨_, rfl⟩))
theorem ordF_nan {a : Nat} (h : nanF a) (b : Nat) : ordF a b = none ∧ ordF b a = none := by
  unfold nanF at h
  unfold ordF Ieee.Format.order
  show ((rdF a).order (rdF b)) = none ∧ ((rdF b).order (rdF a)) = none
  cases hd : rdF a with
  | nan => exact ⟨by simp [Ieee.Datum.order], by cases rdF b <;> simp [Ieee.Datum.order]⟩
  | infinity s => rw [hd] at h; simp [Ieee.Datum.isNaN] at h
  | number s m i => rw [hd] at h; simp [Ieee.Datum.isNaN] at h
theorem cmp_eq (a b : Int) : compare a b = .eq ↔ a = b := by
  show compareOfLessAndEq a b = .eq ↔ a = b
  unfold compareOfLessAndEq
  split
  · exact ⟨fun h => (by cases h), fun h => (by omega)⟩
  · split
    · rename_i h; exact ⟨fun _ => h, fun _ => rfl⟩
    · rename_i h; exact ⟨fun q => (by cases q), fun k => absurd k h⟩
theorem cmp_eqN (a b : Nat) : compare a b = .eq ↔ a = b := by
  show compareOfLessAndEq a b = .eq ↔ a = b
  unfold compareOfLessAndEq
  split
  · exact ⟨fun h => (by cases h), fun h => (by omega)⟩
  · split
    · rename_i h; exact ⟨fun _ => h, fun _ => rfl⟩
    · rename_i h; exact ⟨fun q => (by cases q), fun k => absurd k h⟩
theorem cmp_self (a : Int) : compare a a = .eq := (cmp_eq a a).mpr rfl
theorem ordF_self {a : Nat} (h : ¬ nanF a) : ordF a a = some .eq := by
  unfold nanF at h
  unfold ordF Ieee.Format.order
  show (rdF a).order (rdF a) = some .eq
  cases hd : rdF a with
  | nan => rw [hd] at h; simp [Ieee.Datum.isNaN] at h
  | infinity s => simp only [Ieee.Datum.order]; rw [(cmp_eqN _ _).mpr rfl]
  | number s m i => simp only [Ieee.Datum.order]; rw [cmp_self]
theorem word_read (neg : Bool) (rung : Nat) (h : rung ≤ 9218868437227405312) : ¬ nanF (dbl.word neg rung) := by
  unfold nanF rdF Ieee.Format.read Ieee.Format.word
  rw [signWeight_eq, binade_eq, infRung_eq]
  have e : (if neg = true then 9223372036854775808 + rung else rung) % 9223372036854775808 = rung := by split <;> omega
  simp only [e]
  split
  · simp [Ieee.Datum.isNaN]
  · split
    · simp [Ieee.Datum.isNaN]
    · rw [if_pos (by omega)]; simp [Ieee.Datum.isNaN]
theorem nearest_read (neg : Bool) (mag : Nat) (place : Int) : ¬ nanF (dbl.nearest neg mag place) := by
  unfold Ieee.Format.nearest
  split
  · exact word_read neg 0 (by omega)
  · simp only
    refine word_read neg _ ?_
    rw [infRung_eq]; exact Nat.min_le_right _ _
theorem write_read {d : Ieee.Datum} (h : d.isNaN = false) : ¬ nanF (dbl.write d) := by
  cases d with
  | number s m i => exact nearest_read s m i
  | infinity s => exact word_read s _ (by rw [infRung_eq]; exact Nat.le_refl _)
  | nan s t => simp [Ieee.Datum.isNaN] at h
/-- A whole number as a float. -/
theorem nearest_int (n : Int) : ¬ nanF (FloatKind.nearest .f64 n) := nearest_read _ _ _
/-! One divided by it -/
def oneF : Nat := 4607182418800017408
theorem one_read : rdF oneF = .number false 4503599627370496 (dbl.leastPlace + (1022 : Nat)) := by decide
def invF (x : Nat) : Nat := dbl.write (((rdF oneF).quotient (dbl.fractionBits + 2) (rdF x)).getD (.infinity false))
theorem div_one {x : Nat} (h : ¬ nanF x) : dbl.div oneF x = some (invF x) ∧ ¬ nanF (invF x) := by
  have key : ∃ d, (rdF oneF).quotient (dbl.fractionBits + 2) (rdF x) = some d ∧ d.isNaN = false := by
    rw [one_read]
    unfold nanF at h
    cases hd : rdF x with
    | nan => rw [hd] at h; simp [Ieee.Datum.isNaN] at h
    | infinity s => exact ⟨_, rfl, rfl⟩
    | number s m i =>
      simp only [Ieee.Datum.quotient]
      split
      · exact ⟨_, rfl, rfl⟩
      · exact ⟨_, rfl, rfl⟩
  obtain ⟨d, h1, h2⟩ := key
  have e : invF x = dbl.write d := by unfold invF; rw [h1]; rfl
  refine ⟨?_, by rw [e]; exact write_read h2⟩
  unfold Ieee.Format.div
  show ((rdF oneF).quotient (dbl.fractionBits + 2) (rdF x)).map dbl.write = _
  rw [h1, e]; rfl
theorem inv_zero {x : Nat} (h : zeroF x) : rdF (invF x) = .infinity (signF x) := by
  have hx : ∃ i, rdF x = .number (signF x) 0 i := by
    unfold zeroF at h
    rcases rdF_cases x with ⟨m, h1, h2⟩ | ⟨m, e, h1, h2, h3⟩ | h1 | ⟨t, h1⟩
    · rw [h2] at h
      cases m with
      | zero => exact ⟨_, h2⟩
      | succ m => simp [Ieee.Datum.isZero] at h
    · rw [h3] at h
      cases m with
      | zero => omega
      | succ m => simp [Ieee.Datum.isZero] at h
    · rw [h1] at h; simp [Ieee.Datum.isZero] at h
    · rw [h1] at h; simp [Ieee.Datum.isZero] at h
  obtain ⟨i, hi⟩ := hx
  have e : invF x = dbl.word (signF x) dbl.infRung := by
    unfold invF
    rw [hi, one_read]
    simp [Ieee.Datum.quotient, Ieee.Format.write]
  rw [e]
  unfold rdF Ieee.Format.read Ieee.Format.word
  rw [signWeight_eq, binade_eq, infRung_eq]
  cases signF x <;> simp
theorem ordF_zero {x : Nat} : ordF x 0 = some .eq ↔ zeroF x := by
  have z0 : rdF 0 = .number false 0 dbl.leastPlace := by decide
  unfold ordF Ieee.Format.order zeroF
  show (rdF x).order (rdF 0) = some .eq ↔ _
  rw [z0]
  cases rdF x with
  | nan => simp [Ieee.Datum.order, Ieee.Datum.isZero]
  | infinity s => cases s <;> simp [Ieee.Datum.order, Ieee.Datum.isZero]
  | number s m i =>
    simp only [Ieee.Datum.order, Option.some.injEq]
    rw [cmp_eq]
    cases m with
    | zero => cases s <;> simp [Ieee.signed, Ieee.Datum.isZero]
    | succ m =>
      have : 0 < (m + 1) <<< (i - min i dbl.leastPlace).toNat := by rw [Nat.shiftLeft_eq]; exact Nat.mul_pos (by omega) (Nat.two_pow_pos _)
      cases s <;> simp [Ieee.signed, Ieee.Datum.isZero] <;> omega
theorem zero_nan {x : Nat} (h : zeroF x) : ¬ nanF x := by
  unfold zeroF nanF at *
  cases hd : rdF x with
  | nan => rw [hd] at h; simp [Ieee.Datum.isZero] at h
  | infinity s => simp [Ieee.Datum.isNaN]
  | number s m i => simp [Ieee.Datum.isNaN]
/-- A nought without a minus, told by its quotient. -/
theorem inv_pos {x : Nat} (h : zeroF x) : ordF (invF x) 0 = some .gt ↔ signF x = false := by
  have z0 : rdF 0 = .number false 0 dbl.leastPlace := by decide
  unfold ordF Ieee.Format.order
  show (rdF (invF x)).order (rdF 0) = some .gt ↔ _
  rw [inv_zero h, z0]
  cases signF x <;> simp [Ieee.Datum.order]
/-- Equal floats are the same but for the sign of a nought. -/
theorem ordF_eq {a b : Nat} (h : ordF a b = some .eq) : (zeroF a ∧ zeroF b) ∨ (rdF a = rdF b ∧ signF a = signF b) := by
  unfold ordF Ieee.Format.order at h
  replace h : (rdF a).order (rdF b) = some .eq := h
  have sgz : ∀ (s : Bool) (k : Nat), Ieee.signed s 0 k = 0 := by intro s k; cases s <;> simp [Ieee.signed]
  have sg : ∀ (s t : Bool) (m n k l : Nat), Ieee.signed s m k = Ieee.signed t n l → m * 2 ^ k = n * 2 ^ l ∧ (m ≠ 0 → s = t) := by
    intro s t m n k l e
    have p1 : 0 < 2 ^ k := Nat.two_pow_pos _
    have p2 : 0 < 2 ^ l := Nat.two_pow_pos _
    unfold Ieee.signed at e
    simp only [Nat.shiftLeft_eq] at e
    generalize hA : m * 2 ^ k = A at e
    generalize hB : n * 2 ^ l = B at e
    have hm : m ≠ 0 → 0 < A := fun q => by rw [← hA]; exact Nat.mul_pos (by omega) p1
    cases s <;> cases t <;> simp at e
    · exact ⟨by omega, fun _ => rfl⟩
    · exact ⟨by omega, fun q => by have := hm q; omega⟩
    · exact ⟨by omega, fun q => by have := hm q; omega⟩
    · exact ⟨by omega, fun _ => rfl⟩
  have zf : ∀ x i, rdF x = .number (signF x) 0 i → zeroF x := fun x i e => by unfold zeroF; rw [e]; rfl
  have key : ∀ (x y m n : Nat) (i j : Int), rdF x = .number (signF x) m i → rdF y = .number (signF y) n j → (i = j ∨ (i < j ∧ m < 9007199254740992 ∧ 4503599627370496 ≤ n) ∨ (j < i ∧ n < 9007199254740992 ∧ 4503599627370496 ≤ m)) →
      (rdF x).order (rdF y) = some .eq → (zeroF x ∧ zeroF y) ∨ (rdF x = rdF y ∧ signF x = signF y) := by
    intro x y m n i j hx hy hij ho
    rw [hx, hy] at ho
    simp only [Ieee.Datum.order, Option.some.injEq] at ho
    rw [cmp_eq] at ho
    obtain ⟨e1, e2⟩ := sg _ _ _ _ _ _ ho
    rcases hij with rfl | ⟨h1, h2, h3⟩ | ⟨h1, h2, h3⟩
    · rw [Int.min_self, Int.sub_self] at e1
      simp at e1
      subst e1
      by_cases hm : m = 0
      · subst hm; exact .inl ⟨zf _ _ hx, zf _ _ hy⟩
      · have := e2 hm
        exact .inr ⟨by rw [hx, hy, this], this⟩
    · exfalso
      rw [Int.min_eq_left (by omega), Int.sub_self] at e1
      have : 1 ≤ (j - i).toNat := by omega
      have p : 2 ^ 1 ≤ 2 ^ (j - i).toNat := Nat.pow_le_pow_right (by omega) this
      have q : 4503599627370496 * 2 ^ 1 ≤ n * 2 ^ (j - i).toNat := Nat.mul_le_mul h3 p
      simp at e1; omega
    · exfalso
      rw [Int.min_eq_right (by omega), Int.sub_self] at e1
      have : 1 ≤ (i - j).toNat := by omega
      have p : 2 ^ 1 ≤ 2 ^ (i - j).toNat := Nat.pow_le_pow_right (by omega) this
      have q : 4503599627370496 * 2 ^ 1 ≤ m * 2 ^ (i - j).toNat := Nat.mul_le_mul h3 p
      simp at e1; omega
  rcases rdF_cases a with ⟨m, a1, a2⟩ | ⟨m, e, a1, a2, a3⟩ | a1 | ⟨t, a1⟩ <;> rcases rdF_cases b with ⟨n, b1, b2⟩ | ⟨n, f, b1, b2, b3⟩ | b1 | ⟨u, b1⟩
  · exact key a b m n _ _ a2 b2 (.inl rfl) h
  · by_cases hf : f = 0
    · subst hf; exact key a b m n _ _ a2 b3 (.inl (by simp)) h
    · exact key a b m n _ _ a2 b3 (.inr (.inl ⟨by omega, by omega, b1⟩)) h
  · rw [a2, b1] at h; simp only [Ieee.Datum.order, Option.some.injEq] at h; split at h <;> cases h
  · rw [a2, b1] at h; simp [Ieee.Datum.order] at h
  · by_cases he : e = 0
    · subst he; exact key a b m n _ _ a3 b2 (.inl (by simp)) h
    · exact key a b m n _ _ a3 b2 (.inr (.inr ⟨by omega, by omega, a1⟩)) h
  · refine key a b m n _ _ a3 b3 ?_ h
    by_cases hef : e = f
    · subst hef; exact .inl rfl
    · by_cases hlt : e < f
      · exact .inr (.inl ⟨by omega, a2, b1⟩)
      · exact .inr (.inr ⟨by omega, b2, a1⟩)
  · rw [a3, b1] at h; simp only [Ieee.Datum.order, Option.some.injEq] at h; split at h <;> cases h
  · rw [a3, b1] at h; simp [Ieee.Datum.order] at h
  · rw [a1, b2] at h; simp only [Ieee.Datum.order, Option.some.injEq] at h; split at h <;> cases h
  · rw [a1, b3] at h; simp only [Ieee.Datum.order, Option.some.injEq] at h; split at h <;> cases h
  · right
    rw [a1, b1] at h ⊢
    simp only [Ieee.Datum.order, Option.some.injEq] at h
    rw [cmp_eqN] at h
    have : signF a = signF b := by revert h; cases signF a <;> cases signF b <;> simp
    exact ⟨by rw [this], this⟩
  · rw [a1, b1] at h; simp [Ieee.Datum.order] at h
  · rw [a1] at h; simp [Ieee.Datum.order] at h
  · rw [a1] at h; simp [Ieee.Datum.order] at h
  · rw [a1] at h; simp [Ieee.Datum.order] at h
  · rw [a1] at h; simp [Ieee.Datum.order] at h
theorem invF_eq {a b : Nat} (h : rdF a = rdF b) : invF a = invF b := by unfold invF; rw [h]
/-- Equal floats have equal quotients iff they have one sign. -/
theorem inv_sign {a b : Nat} (h : ordF a b = some .eq) : ordF (invF a) (invF b) = some .eq ↔ signF a = signF b := by
  rcases ordF_eq h with ⟨za, zb⟩ | ⟨e, s⟩
  · unfold ordF Ieee.Format.order
    show (rdF (invF a)).order (rdF (invF b)) = some .eq ↔ _
    rw [inv_zero za, inv_zero zb]
    cases signF a <;> cases signF b <;> simp [Ieee.Datum.order, cmp_eqN]
  · have na : ¬ nanF a := fun q => by rw [(ordF_nan q b).1] at h; cases h
    rw [← invF_eq e]
    exact ⟨fun _ => s, fun _ => ordF_self (div_one na).2⟩
end Go.Proofs.Ytdagajblnlemaaa
