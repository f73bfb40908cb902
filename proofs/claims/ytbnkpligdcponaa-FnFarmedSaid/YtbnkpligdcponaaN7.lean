import Derived.Test.YtbnkpligdcponaaN6
namespace Go.Proofs.Ytbnkpligdcponaa
open Go Go.Ah
set_option linter.unusedSimpArgs false
set_option linter.unusedVariables false
/-! ### The plain law of the farm -/
structure Crew where
  busy : List Int
  ends : List Int
  runs : List Run
def readyB (ends : List Int) (now : Int) (ns : List Int) : Bool := !(ns.any fun n => decide (ends.getD n.toNat 0 < 0) || decide (now < ends.getD n.toNat 0))
def needsAt (job : List Task) (i : Nat) : List Int := (job[i]?.map (·.needs)).getD []
def costAt (job : List Task) (i : Nat) : Int := (job[i]?.map (·.cost)).getD 0
def canB (job : List Task) (ends : List Int) (now : Int) (i : Nat) : Bool := decide (ends.getD i 0 < 0) && readyB ends now (needsAt job i)
def firstR (job : List Task) (ends : List Int) (now : Int) : Option Nat := (List.range job.length).find? (canB job ends now)
def giveTo (job : List Task) (now : Int) (c : Crew) (w i : Nat) : Crew :=
  ⟨c.busy.set w (now + costAt job i), c.ends.set i (now + costAt job i), c.runs ++ [⟨i, w, now, now + costAt job i⟩]⟩
def takeAt (job : List Task) (now : Int) (c : Crew) (w : Nat) : Crew :=
  if now < c.busy.getD w 0 then c else match firstR job c.ends now with
  | none => c
  | some i => giveTo job now c w i
def takeN (job : List Task) (now : Int) (c : Crew) (w : Nat) : Crew := (List.range w).foldl (takeAt job now) c
def nextS (now : Int) (nx e : Int) : Int := if now < e ∧ (nx < 0 ∨ e < nx) then e else nx
def nextEnd (ends : List Int) (now : Int) : Int := ends.foldl (nextS now) (-1)
def after (job : List Task) (now : Int) (c : Crew) : Crew := takeN job now c c.busy.length
def farmL (job : List Task) : Nat → Crew → Int → List Run
  | 0, c, now => (after job now c).runs
  | k + 1, c, now => if nextEnd (after job now c).ends now < 0 then (after job now c).runs else farmL job k (after job now c) (nextEnd (after job now c).ends now)
def crew0 (job : List Task) (w : Int) : Crew := ⟨List.replicate w.toNat 0, List.replicate job.length (-1), []⟩
noncomputable def farmF (job : List Task) (w : Int) : List Run := if jobOk job ∧ 1 ≤ w ∧ w ≤ 50 then farmL job job.length (crew0 job w) 0 else []
theorem costAt_eq {job : List Task} {i : Nat} (hi : i < job.length) : costAt job i = job[i].cost := by simp [costAt, List.getElem?_eq_getElem hi]
theorem needsAt_eq {job : List Task} {i : Nat} (hi : i < job.length) : needsAt job i = job[i].needs := by simp [needsAt, List.getElem?_eq_getElem hi]
theorem takeN_succ (job : List Task) (now : Int) (c : Crew) (w : Nat) : takeN job now c (w + 1) = takeAt job now (takeN job now c w) w := by
  unfold takeN; rw [List.range_succ, List.foldl_append]; rfl
theorem firstR_some {job : List Task} {ends : List Int} {now : Int} {i : Nat} (h : firstR job ends now = some i) : i < job.length ∧ canB job ends now i = true ∧ ∀ j, j < i → canB job ends now j = false := by
  unfold firstR at h
  rw [List.find?_range_eq_some] at h
  exact ⟨by have := h.2.1; simpa using this, h.1, fun j hj => by simpa using h.2.2 j hj⟩
theorem firstR_none {job : List Task} {ends : List Int} {now : Int} : firstR job ends now = none ↔ ∀ i, i < job.length → canB job ends now i = false := by
  unfold firstR
  rw [List.find?_range_eq_none]
  simp
/-- What holds of a crew at a time. -/
structure CrewOk (job : List Task) (now : Int) (c : Crew) : Prop where
  le : c.ends.length = job.length
  cnt : c.runs.length + c.ends.countP (fun e => decide (e < 0)) = job.length
  bnd : ∀ e ∈ c.ends, e ≤ now + 1000
  bsy : ∀ b ∈ c.busy, b ≤ now ∨ b ∈ c.ends
  now0 : 0 ≤ now
def mu (ends : List Int) (now : Int) : Nat := ends.countP fun e => decide (e < 0 ∨ now < e)
section
variable {job : List Task} {now : Int} {c : Crew}
theorem CrewOk.give (o : CrewOk job now c) (hj : jobIn job) {w i : Nat} (hi : i < job.length) (hc : canB job c.ends now i = true) : CrewOk job now (giveTo job now c w i) ∧ mu (giveTo job now c w i).ends now = mu c.ends now := by
  have hcost := (hj i hi).2.2.2.2
  have hie : i < c.ends.length := by rw [o.le]; exact hi
  have hneg : c.ends[i] < 0 := by
    unfold canB at hc
    rw [Bool.and_eq_true] at hc
    have := of_decide_eq_true hc.1
    simpa [List.getD, List.getElem?_eq_getElem hie] using this
  have hca := costAt_eq hi
  have n0 := o.now0
  refine ⟨⟨?_, ?_, ?_, ?_, o.now0⟩, ?_⟩
  · simp [giveTo, o.le]
  · have h1 := o.cnt
    simp only [giveTo, List.length_append, List.length_singleton]
    rw [List.countP_set hie]
    have hp : 0 < c.ends.countP (fun e => decide (e < 0)) := List.countP_pos_iff.mpr ⟨_, List.getElem_mem hie, decide_eq_true hneg⟩
    simp only [decide_eq_true hneg, if_true]
    rw [if_neg (by simp; omega)]
    omega
  · intro e he
    simp only [giveTo] at he
    rcases List.mem_or_eq_of_mem_set he with he | rfl
    · exact o.bnd e he
    · omega
  · intro b hb
    simp only [giveTo] at hb ⊢
    rcases List.mem_or_eq_of_mem_set hb with hb | rfl
    · rcases o.bsy b hb with h | h
      · exact .inl h
      · by_cases hbn : b ≤ now
        · exact .inl hbn
        · right
          obtain ⟨k, hk, rfl⟩ := List.mem_iff_getElem.mp h
          have hki : k ≠ i := by intro q; subst q; omega
          rw [List.mem_iff_getElem]
          exact ⟨k, by simpa using hk, by rw [List.getElem_set_ne (fun q => hki q.symm)]⟩
    · right
      rw [List.mem_iff_getElem]
      exact ⟨i, by simpa using hie, by simp⟩
  · simp only [giveTo, mu]
    rw [List.countP_set hie]
    have hp : 0 < c.ends.countP (fun e => decide (e < 0 ∨ now < e)) := List.countP_pos_iff.mpr ⟨_, List.getElem_mem hie, decide_eq_true (.inl hneg)⟩
    rw [if_pos (decide_eq_true (.inl hneg)), if_pos (decide_eq_true (.inr (by omega)))]
    omega
theorem CrewOk.takeAt (o : CrewOk job now c) (hj : jobIn job) (w : Nat) : CrewOk job now (takeAt job now c w) ∧ mu (Go.Proofs.Ytbnkpligdcponaa.takeAt job now c w).ends now = mu c.ends now := by
  unfold Go.Proofs.Ytbnkpligdcponaa.takeAt
  split
  · exact ⟨o, rfl⟩
  · split
    · exact ⟨o, rfl⟩
    · rename_i i hi
      obtain ⟨h1, h2, _⟩ := firstR_some hi
      exact o.give hj h1 h2
theorem CrewOk.takeN (o : CrewOk job now c) (hj : jobIn job) : ∀ w : Nat, CrewOk job now (takeN job now c w) ∧ mu (Go.Proofs.Ytbnkpligdcponaa.takeN job now c w).ends now = mu c.ends now := by
  intro w
  induction w with
  | zero => exact ⟨o, rfl⟩
  | succ w ih =>
    rw [takeN_succ]
    have := ih.1.takeAt hj w
    exact ⟨this.1, this.2.trans ih.2⟩
theorem takeAt_busy (w : Nat) : (takeAt job now c w).busy.length = c.busy.length := by
  unfold takeAt; split
  · rfl
  · split
    · rfl
    · simp [giveTo]
theorem takeN_busy : ∀ w : Nat, (takeN job now c w).busy.length = c.busy.length := by
  intro w
  induction w with
  | zero => rfl
  | succ w ih => rw [takeN_succ, takeAt_busy, ih]
/-- Nobody can begin: nobody does. -/
theorem takeN_stop {w : Nat} (h : firstR job (takeN job now c w).ends now = none) : ∀ k, takeN job now c (w + k) = takeN job now c w := by
  intro k
  induction k with
  | zero => rfl
  | succ k ih =>
    rw [show w + (k + 1) = (w + k) + 1 by omega, takeN_succ, ih]
    unfold takeAt
    rw [h]
    split <;> rfl
/-- The next end. -/
theorem next_fold : ∀ (l : List Int) (nx : Int), (nx = -1 ∨ now < nx) → 0 ≤ now →
    let r := l.foldl (nextS now) nx
    (r = -1 ∨ now < r) ∧ (r = -1 → nx = -1 ∧ ∀ e ∈ l, e ≤ now) ∧ (r ≠ -1 → r = nx ∨ r ∈ l) ∧ (r ≠ -1 → (nx = -1 ∨ r ≤ nx) ∧ ∀ e ∈ l, now < e → r ≤ e) := by
  intro l
  induction l with
  | nil => intro nx h h0; exact ⟨h, fun q => ⟨q, fun e he => by cases he⟩, fun _ => .inl rfl, fun q => ⟨.inr (Int.le_refl _), fun e he => by cases he⟩⟩
  | cons a l ih =>
    intro nx h h0
    rw [List.foldl_cons]
    by_cases hc : now < a ∧ (nx < 0 ∨ a < nx)
    · have hs : nextS now nx a = a := if_pos hc
      obtain ⟨i1, i2, i3, i4⟩ := ih a (.inr hc.1) h0
      rw [hs]
      refine ⟨i1, fun q => ?_, fun q => ?_, fun q => ⟨?_, ?_⟩⟩
      · have := (i2 q).1; omega
      · rcases i3 q with r | r
        · right; rw [r]; simp
        · right; simp [r]
      · have := (i4 q).1; omega
      · intro e he hn
        rcases List.mem_cons.mp he with rfl | he
        · have := (i4 q).1; omega
        · exact (i4 q).2 e he hn
    · have hs : nextS now nx a = nx := if_neg hc
      obtain ⟨i1, i2, i3, i4⟩ := ih nx h h0
      rw [hs]
      refine ⟨i1, fun q => ⟨(i2 q).1, fun e he => ?_⟩, fun q => ?_, fun q => ⟨(i4 q).1, ?_⟩⟩
      · rcases List.mem_cons.mp he with rfl | he
        · have := (i2 q).1; omega
        · exact (i2 q).2 e he
      · rcases i3 q with r | r
        · exact .inl r
        · right; simp [r]
      · intro e he hn
        rcases List.mem_cons.mp he with rfl | he
        · have := (i4 q).1; omega
        · exact (i4 q).2 e he hn
theorem nextEnd_spec (ends : List Int) (h0 : 0 ≤ now) : (nextEnd ends now = -1 ∧ ∀ e ∈ ends, e ≤ now) ∨ (now < nextEnd ends now ∧ nextEnd ends now ∈ ends ∧ ∀ e ∈ ends, now < e → nextEnd ends now ≤ e) := by
  obtain ⟨i1, i2, i3, i4⟩ := next_fold (now := now) ends (-1) (.inl rfl) h0
  by_cases hq : nextEnd ends now = -1
  · exact .inl ⟨hq, (i2 hq).2⟩
  · right
    refine ⟨?_, ?_, (i4 hq).2⟩
    · rcases i1 with q | q
      · exact absurd q hq
      · exact q
    · rcases i3 hq with q | q
      · exact absurd q hq
      · exact q
theorem countP_lt {p q : Int → Bool} : ∀ (l : List Int), (∀ x, p x = true → q x = true) → (∃ x ∈ l, p x = false ∧ q x = true) → l.countP p < l.countP q := by
  intro l
  induction l with
  | nil => rintro _ ⟨x, hx, _⟩; cases hx
  | cons a l ih =>
    rintro h ⟨x, hx, h1, h2⟩
    have hle : l.countP p ≤ l.countP q := List.countP_mono_left fun x _ => h x
    rw [List.countP_cons, List.countP_cons]
    rcases List.mem_cons.mp hx with rfl | hx
    · rw [h1, h2]; simp; omega
    · have := ih h ⟨x, hx, h1, h2⟩
      by_cases ha : p a = true
      · rw [if_pos ha, if_pos (h a ha)]; omega
      · rw [if_neg ha]; split <;> omega
theorem mu_next {ends : List Int} {nx : Int} (h0 : 0 ≤ now) (h1 : now < nx) (h2 : nx ∈ ends) : mu ends nx < mu ends now := by
  refine countP_lt ends (fun x hx => ?_) ⟨nx, h2, ?_, ?_⟩
  · have := of_decide_eq_true hx; exact decide_eq_true (by omega)
  · exact decide_eq_false (by omega)
  · exact decide_eq_true (by omega)
theorem CrewOk.later {nx : Int} (o : CrewOk job now c) (h : now ≤ nx) : CrewOk job nx c :=
  ⟨o.le, o.cnt, fun e he => by have := o.bnd e he; omega, fun b hb => by rcases o.bsy b hb with q | q; exact .inl (by omega); exact .inr q, by have := o.now0; omega⟩
theorem mu_le (ends : List Int) : mu ends now ≤ ends.length := List.countP_le_length
end
theorem crew0_ok (job : List Task) (w : Int) : CrewOk job 0 (crew0 job w) := by
  refine ⟨by simp [crew0], ?_, ?_, ?_, by omega⟩
  · simp only [crew0, List.length_nil, Nat.zero_add]
    rw [List.countP_replicate]; simp
  · intro e he; simp only [crew0, List.mem_replicate] at he; omega
  · intro b hb; simp only [crew0, List.mem_replicate] at hb; left; omega
theorem farmL_length {job : List Task} (hj : jobIn job) : ∀ (k : Nat) (c : Crew) (now : Int), CrewOk job now c → (farmL job k c now).length ≤ job.length := by
  intro k
  induction k with
  | zero => intro c now o; have := (o.takeN hj c.busy.length).1.cnt; simp only [farmL, after]; omega
  | succ k ih =>
    intro c now o
    have o1 := (o.takeN hj c.busy.length).1
    simp only [farmL]
    split
    · have := o1.cnt; simp only [after]; omega
    · rename_i hn
      rcases nextEnd_spec (now := now) (after job now c).ends o.now0 with ⟨q, _⟩ | ⟨q, _⟩
      · omega
      · exact ih _ _ (o1.later (by omega))
theorem farmF_length (job : List Task) (w : Int) : (farmF job w).length ≤ 200 := by
  unfold farmF; split
  · rename_i h; have := farmL_length h.1.in job.length _ _ (crew0_ok job w); have := h.1.1; omega
  · simp
/-- All are taken: nothing more is. -/
theorem all_taken {job : List Task} {now : Int} {c : Crew} (o : CrewOk job now c) (hl : c.runs.length = job.length) : firstR job c.ends now = none := by
  rw [firstR_none]
  intro i hi
  have hc := o.cnt
  have h0 : c.ends.countP (fun e => decide (e < 0)) = 0 := by omega
  rw [List.countP_eq_zero] at h0
  have hie : i < c.ends.length := by rw [o.le]; exact hi
  have := h0 _ (List.getElem_mem hie)
  unfold canB
  rw [show c.ends.getD i 0 = c.ends[i] by simp [List.getD, List.getElem?_eq_getElem hie]]
  simp only [decide_eq_true_eq] at this
  rw [decide_eq_false this, Bool.false_and]
theorem after_all {job : List Task} {now : Int} {c : Crew} (o : CrewOk job now c) (hl : c.runs.length = job.length) : after job now c = c := by
  have := takeN_stop (job := job) (now := now) (c := c) (w := 0) (all_taken o hl) c.busy.length
  rw [Nat.zero_add] at this; exact this
theorem farmL_all {job : List Task} : ∀ (k : Nat) (c : Crew) (now : Int), CrewOk job now c → c.runs.length = job.length → farmL job k c now = c.runs := by
  intro k
  induction k with
  | zero => intro c now o hl; simp only [farmL]; rw [after_all o hl]
  | succ k ih =>
    intro c now o hl
    simp only [farmL]
    rw [after_all o hl]
    split
    · rfl
    · rename_i hn
      rcases nextEnd_spec (now := now) c.ends o.now0 with ⟨q, _⟩ | ⟨q, _⟩
      · omega
      · exact ih _ _ (o.later (by omega)) hl
/-- As long as one is left, one works. -/
theorem goes_on {job : List Task} {now : Int} {c : Crew} (o : CrewOk job now c) (hj : jobIn job) (hb : 0 < c.busy.length) (hl : (after job now c).runs.length < job.length) : now < nextEnd (after job now c).ends now := by
  have o1 := (o.takeN hj c.busy.length).1
  rcases nextEnd_spec (now := now) (after job now c).ends o.now0 with ⟨_, q⟩ | ⟨q, _⟩
  rotate_left
  · exact q
  exfalso
  -- ends grow: what is above now stays
  have keep : ∀ w, (∀ e ∈ (takeN job now c (w + 1)).ends, e ≤ now) → ∀ e ∈ (takeN job now c w).ends, e ≤ now := by
    intro w hw e he
    rw [takeN_succ] at hw
    unfold takeAt at hw
    split at hw
    · exact hw e he
    · split at hw
      · exact hw e he
      · rename_i i hi
        obtain ⟨h1, h2, _⟩ := firstR_some hi
        have ow := (o.takeN hj w).1
        have hie : i < (takeN job now c w).ends.length := by rw [ow.le]; exact h1
        have := hw (now + costAt job i) (by simp only [giveTo]; rw [List.mem_iff_getElem]; exact ⟨i, by simpa using hie, by simp⟩)
        rw [costAt_eq h1] at this
        have := (hj i h1).2.2.2.2
        omega
  have all : ∀ k, ∀ e ∈ (takeN job now c (c.busy.length - k)).ends, e ≤ now := by
    intro k
    induction k with
    | zero => exact q
    | succ k ih =>
      by_cases hk : c.busy.length - k = 0
      · rw [show c.busy.length - (k + 1) = c.busy.length - k by omega]; exact ih
      · rw [show c.busy.length - k = (c.busy.length - (k + 1)) + 1 by omega] at ih
        exact keep _ ih
  have h1 := all (c.busy.length - 1)
  rw [show c.busy.length - (c.busy.length - 1) = 0 + 1 by omega, takeN_succ] at h1
  have h0 := all c.busy.length
  rw [Nat.sub_self] at h0
  have hb0 : ¬ now < c.busy.getD 0 0 := by
    have hm : c.busy[0] ∈ c.busy := List.getElem_mem hb
    have : c.busy.getD 0 0 = c.busy[0] := by simp [List.getD, List.getElem?_eq_getElem hb]
    rw [this]
    rcases o.bsy _ hm with r | r
    · omega
    · have := h0 _ r; omega
  have hnone : firstR job c.ends now = none := by
    cases hf : firstR job c.ends now with
    | none => rfl
    | some i =>
      exfalso
      obtain ⟨g1, g2, _⟩ := firstR_some hf
      have hie : i < c.ends.length := by rw [o.le]; exact g1
      have := h1 (now + costAt job i) (by
        unfold takeAt
        rw [show takeN job now c 0 = c from rfl, if_neg hb0, hf]
        simp only [giveTo]; rw [List.mem_iff_getElem]; exact ⟨i, by simpa using hie, by simp⟩)
      rw [costAt_eq g1] at this
      have := (hj i g1).2.2.2.2
      omega
  have hsame : after job now c = c := by
    have := takeN_stop (job := job) (now := now) (c := c) (w := 0) hnone c.busy.length
    rw [Nat.zero_add] at this; exact this
  rw [hsame] at hl
  -- the first that is left can begin
  have hpos : 0 < c.ends.countP (fun e => decide (e < 0)) := by have := o.cnt; omega
  have hex : ∃ i, ∃ hi : i < c.ends.length, c.ends[i] < 0 := by
    obtain ⟨e, he, hneg⟩ := List.countP_pos_iff.mp hpos
    obtain ⟨i, hi, rfl⟩ := List.mem_iff_getElem.mp he
    exact ⟨i, hi, of_decide_eq_true hneg⟩
  have least : ∀ n, (∃ i, i < n ∧ ∃ hi : i < c.ends.length, c.ends[i] < 0) → ∃ i, ∃ hi : i < c.ends.length, c.ends[i] < 0 ∧ ∀ j (hj : j < c.ends.length), j < i → ¬ c.ends[j] < 0 := by
    intro n
    induction n with
    | zero => rintro ⟨i, hi, _⟩; omega
    | succ n ih =>
      rintro ⟨i, hi, hi2, hneg⟩
      by_cases hq : ∃ j, j < n ∧ ∃ hj : j < c.ends.length, c.ends[j] < 0
      · exact ih hq
      · exact ⟨i, hi2, hneg, fun j hj hji hjn => hq ⟨j, by omega, hj, hjn⟩⟩
  obtain ⟨i0, hi0, hneg0⟩ := hex
  obtain ⟨i, hi, hneg, hmin⟩ := least (i0 + 1) ⟨i0, by omega, hi0, hneg0⟩
  have hil : i < job.length := by rw [← o.le]; exact hi
  have hcan : canB job c.ends now i = true := by
    unfold canB
    rw [show c.ends.getD i 0 = c.ends[i] by simp [List.getD, List.getElem?_eq_getElem hi], decide_eq_true hneg, Bool.true_and]
    unfold readyB
    rw [needsAt_eq hil, Bool.not_eq_true', List.any_eq_false]
    intro n hn
    obtain ⟨b1, b2⟩ := (hj i hil).2.2.2.1 n hn
    have hnl : n.toNat < c.ends.length := by omega
    rw [show c.ends.getD n.toNat 0 = c.ends[n.toNat] by simp [List.getD, List.getElem?_eq_getElem hnl]]
    have k1 := hmin n.toNat hnl (by omega)
    have k2 := h0 _ (show c.ends[n.toNat] ∈ (takeN job now c 0).ends from List.getElem_mem hnl)
    rw [decide_eq_false k1, decide_eq_false (by omega)]; simp
  have := (firstR_none.mp hnone) i hil
  rw [this] at hcan; cases hcan
end Go.Proofs.Ytbnkpligdcponaa
