import Derived.Test.YtbnkpligdcponaaN7
namespace Go.Proofs.Ytbnkpligdcponaa
open Go Go.Ah
set_option linter.unusedSimpArgs false
set_option linter.unusedVariables false
/-! ### The farm, seen from its runs -/
theorem getD_set0 (l : List Int) (i k : Nat) (x : Int) (hi : i < l.length) : (l.set i x).getD k 0 = if k = i then x else l.getD k 0 := by
  simp only [List.getD, List.getElem?_set]
  by_cases h : i = k
  · subst h; simp [hi]
  · rw [if_neg h, if_neg (fun q => h q.symm)]
def totR (L : List Run) : Int := (L.map fun r => r.to - r.fr).sum
def doneS (L : List Run) (now : Int) : Int := (L.map fun r => if r.to ≤ now then r.to - r.fr else 0).sum
def taken (job : List Task) (E : List Int) : Int := ((List.range job.length).map fun i => if 0 ≤ E.getD i 0 then costAt job i else 0).sum
def totJ (job : List Task) : Int := ((List.range job.length).map fun i => costAt job i).sum
theorem totR_snoc (L : List Run) (r : Run) : totR (L ++ [r]) = totR L + (r.to - r.fr) := by simp [totR]
theorem doneS_snoc (L : List Run) (r : Run) (now : Int) : doneS (L ++ [r]) now = doneS L now + (if r.to ≤ now then r.to - r.fr else 0) := by simp [doneS]
theorem done_le : ∀ (L : List Run) (now : Int), (∀ r ∈ L, r.fr ≤ r.to) → doneS L now ≤ totR L := by
  intro L now
  induction L with
  | nil => intro _; exact Int.le_refl _
  | cons r L ih =>
    intro h
    have h1 := ih (fun x hx => h x (List.mem_cons_of_mem _ hx))
    have h2 := h r List.mem_cons_self
    simp only [doneS, totR, List.map_cons, List.sum_cons] at h1 ⊢
    split <;> omega
theorem done_mono : ∀ (L : List Run) (now nx : Int), (∀ r ∈ L, r.fr ≤ r.to) → now ≤ nx → doneS L now ≤ doneS L nx := by
  intro L now nx
  induction L with
  | nil => intro _ _; exact Int.le_refl _
  | cons r L ih =>
    intro h hn
    have h1 := ih (fun x hx => h x (List.mem_cons_of_mem _ hx)) hn
    have h2 := h r List.mem_cons_self
    simp only [doneS, List.map_cons, List.sum_cons] at h1 ⊢
    split <;> split <;> omega
theorem done_step : ∀ (L : List Run) (now nx : Int) (r : Run), (∀ r ∈ L, r.fr ≤ r.to) → now ≤ nx → r ∈ L → now < r.to → r.to ≤ nx → doneS L now + (r.to - r.fr) ≤ doneS L nx := by
  intro L now nx r
  induction L with
  | nil => intro _ _ h; cases h
  | cons x L ih =>
    intro h hn hr h1 h2
    have hx := h x List.mem_cons_self
    have hL := fun y hy => h y (List.mem_cons_of_mem x hy)
    have hm := done_mono L now nx hL hn
    rcases List.mem_cons.mp hr with rfl | hr
    · simp only [doneS, List.map_cons, List.sum_cons] at hm ⊢
      rw [if_neg (by omega), if_pos h2]; omega
    · have := ih hL hn hr h1 h2
      simp only [doneS, List.map_cons, List.sum_cons] at this ⊢
      split <;> split <;> omega
theorem sum_point (f g : Nat → Int) (i : Nat) : ∀ n, i < n → (∀ j, j < n → j ≠ i → f j = g j) → ((List.range n).map g).sum = ((List.range n).map f).sum + (g i - f i) := by
  have same : ∀ n, n ≤ i → (∀ j, j < n → j ≠ i → f j = g j) → ((List.range n).map g).sum = ((List.range n).map f).sum := by
    intro n
    induction n with
    | zero => intro _ _; rfl
    | succ n ih =>
      intro hn h
      rw [List.range_succ]
      simp only [List.map_append, List.sum_append, List.map_cons, List.map_nil, List.sum_cons, List.sum_nil]
      rw [ih (by omega) (fun j hj => h j (by omega)), h n (by omega) (by omega)]
  intro n
  induction n with
  | zero => intro h; omega
  | succ n ih =>
    intro hi h
    rw [List.range_succ]
    simp only [List.map_append, List.sum_append, List.map_cons, List.map_nil, List.sum_cons, List.sum_nil]
    by_cases hin : i = n
    · subst hin
      rw [same i (Nat.le_refl _) (fun j hj => h j (by omega))]; omega
    · rw [ih (by omega) (fun j hj => h j (by omega)), h n (by omega) (by omega)]; omega
structure RunsOk (job : List Task) (W : Nat) (now : Int) (c : Crew) : Prop where
  wl : c.busy.length = W
  rng : ∀ r ∈ c.runs, 0 ≤ r.task ∧ r.task.toNat < job.length ∧ 0 ≤ r.worker ∧ r.worker.toNat < W
  val : ∀ r ∈ c.runs, c.ends.getD r.task.toNat 0 = r.to ∧ r.to = r.fr + costAt job r.task.toNat ∧ 0 ≤ r.fr ∧ r.fr ≤ now
  bus : ∀ r ∈ c.runs, r.to ≤ c.busy.getD r.worker.toNat 0
  apart : c.runs.Pairwise fun x y => x.task ≠ y.task ∧ (x.worker = y.worker → x.to ≤ y.fr)
  need : ∀ r ∈ c.runs, ∀ n ∈ needsAt job r.task.toNat, 0 ≤ c.ends.getD n.toNat 0 ∧ c.ends.getD n.toNat 0 ≤ r.fr
  run : ∀ i, i < job.length → 0 ≤ c.ends.getD i 0 → ∃ r ∈ c.runs, r.task = (i : Int)
  work : ∀ w, w < W → now < c.busy.getD w 0 → ∃ r ∈ c.runs, r.worker = (w : Int)
  sum : totR c.runs = taken job c.ends
  top : ∀ r ∈ c.runs, r.to ≤ totR c.runs
  idle : now ≤ doneS c.runs now
theorem cost_in {job : List Task} (hj : jobIn job) {i : Nat} (hi : i < job.length) : 1 ≤ costAt job i ∧ costAt job i ≤ 1000 := by
  rw [costAt_eq hi]; exact (hj i hi).2.2.2.2
theorem need_in {job : List Task} (hj : jobIn job) {i : Nat} (hi : i < job.length) : ∀ n ∈ needsAt job i, 0 ≤ n ∧ n < i := by
  rw [needsAt_eq hi]; exact (hj i hi).2.2.2.1
theorem can_in {job : List Task} {E : List Int} {now : Int} {i : Nat} (h : canB job E now i = true) : E.getD i 0 < 0 ∧ ∀ n ∈ needsAt job i, 0 ≤ E.getD n.toNat 0 ∧ E.getD n.toNat 0 ≤ now := by
  unfold canB readyB at h
  rw [Bool.and_eq_true, Bool.not_eq_true', List.any_eq_false] at h
  refine ⟨of_decide_eq_true h.1, fun n hn => ?_⟩
  have := h.2 n hn
  simp only [Bool.or_eq_true, decide_eq_true_eq, not_or] at this
  omega
theorem can_not {job : List Task} {E : List Int} {now : Int} {i : Nat} (h : canB job E now i = false) (hneg : E.getD i 0 < 0) : ∃ n ∈ needsAt job i, E.getD n.toNat 0 < 0 ∨ now < E.getD n.toNat 0 := by
  unfold canB readyB at h
  rw [decide_eq_true hneg, Bool.true_and, Bool.not_eq_false', List.any_eq_true] at h
  obtain ⟨n, hn, h⟩ := h
  simp only [Bool.or_eq_true, decide_eq_true_eq] at h
  exact ⟨n, hn, h⟩
section
variable {job : List Task} {now : Int} {c : Crew} {W : Nat}
theorem RunsOk.pos (q : RunsOk job W now c) (hj : jobIn job) : ∀ r ∈ c.runs, r.fr < r.to := by
  intro r hr
  have h1 := q.val r hr
  have h2 := cost_in hj (q.rng r hr).2.1
  omega
theorem RunsOk.give (o : CrewOk job now c) (q : RunsOk job W now c) (hj : jobIn job) {w i : Nat} (hw : w < W) (hb : ¬ now < c.busy.getD w 0) (hi : i < job.length) (hc : canB job c.ends now i = true) : RunsOk job W now (giveTo job now c w i) := by
  obtain ⟨hneg, hrd⟩ := can_in hc
  have hcost := cost_in hj hi
  have hie : i < c.ends.length := by rw [o.le]; exact hi
  have hwb : w < c.busy.length := by rw [q.wl]; exact hw
  have n0 := o.now0
  have other : ∀ r ∈ c.runs, r.task.toNat ≠ i := by
    intro r hr e
    have h1 := q.val r hr
    have h2 := cost_in hj (q.rng r hr).2.1
    rw [e] at h1
    rw [e] at h2
    omega
  have tn : ((i : Nat) : Int).toNat = i := by omega
  have wn : ((w : Nat) : Int).toNat = w := by omega
  refine ⟨?_, ?_, ?_, ?_, ?_, ?_, ?_, ?_, ?_, ?_, ?_⟩
  · simp [giveTo, q.wl]
  · intro r hr
    simp only [giveTo, List.mem_append, List.mem_singleton] at hr
    rcases hr with hr | rfl
    · exact q.rng r hr
    · exact ⟨by simp only; omega, by simp only [tn]; exact hi, by simp only; omega, by simp only [wn]; exact hw⟩
  · intro r hr
    simp only [giveTo, List.mem_append, List.mem_singleton] at hr ⊢
    rw [getD_set0 _ _ _ _ hie]
    rcases hr with hr | rfl
    · rw [if_neg (other r hr)]; exact q.val r hr
    · simp only [tn, if_true]; exact ⟨trivial, trivial, n0, Int.le_refl _⟩
  · intro r hr
    simp only [giveTo, List.mem_append, List.mem_singleton] at hr ⊢
    rw [getD_set0 _ _ _ _ hwb]
    rcases hr with hr | rfl
    · have h1 := q.bus r hr
      split
      · rename_i e; rw [e] at h1; omega
      · exact h1
    · simp only [wn, if_true]; exact Int.le_refl _
  · simp only [giveTo]
    refine List.pairwise_append.mpr ⟨q.apart, List.pairwise_singleton _ _, fun x hx y hy => ?_⟩
    rw [List.mem_singleton] at hy; subst hy
    simp only
    have h1 := other x hx
    have h2 := q.bus x hx
    have h3 := q.rng x hx
    refine ⟨by omega, fun e => ?_⟩
    rw [e, wn] at h2
    omega
  · intro r hr n hn
    simp only [giveTo, List.mem_append, List.mem_singleton] at hr ⊢
    rw [getD_set0 _ _ _ _ hie]
    rcases hr with hr | rfl
    · have h1 := q.need r hr n hn
      rw [if_neg (fun e => by rw [e] at h1; omega)]; exact h1
    · simp only [tn] at hn ⊢
      have h1 := hrd n hn
      rw [if_neg (fun e => by rw [e] at h1; omega)]; exact h1
  · intro k hk hE
    simp only [giveTo] at hE ⊢
    rw [getD_set0 _ _ _ _ hie] at hE
    by_cases e : k = i
    · exact ⟨_, List.mem_append_right _ (List.mem_singleton.mpr rfl), by rw [e]⟩
    · rw [if_neg e] at hE
      obtain ⟨r, hr, h⟩ := q.run k hk hE
      exact ⟨r, List.mem_append_left _ hr, h⟩
  · intro k hk hE
    simp only [giveTo] at hE ⊢
    rw [getD_set0 _ _ _ _ hwb] at hE
    by_cases e : k = w
    · exact ⟨_, List.mem_append_right _ (List.mem_singleton.mpr rfl), by rw [e]⟩
    · rw [if_neg e] at hE
      obtain ⟨r, hr, h⟩ := q.work k hk hE
      exact ⟨r, List.mem_append_left _ hr, h⟩
  · simp only [giveTo]
    rw [totR_snoc, q.sum]
    unfold taken
    have := sum_point (fun k => if 0 ≤ c.ends.getD k 0 then costAt job k else 0) (fun k => if 0 ≤ (c.ends.set i (now + costAt job i)).getD k 0 then costAt job k else 0) i job.length hi (fun j _ hji => by
      rw [getD_set0 _ _ _ _ hie, if_neg hji])
    rw [this]
    have e1 : (if 0 ≤ (c.ends.set i (now + costAt job i)).getD i 0 then costAt job i else 0) = costAt job i := by rw [getD_set0 _ _ _ _ hie, if_pos rfl, if_pos (by omega)]
    have e2 : (if 0 ≤ c.ends.getD i 0 then costAt job i else 0) = 0 := if_neg (by omega)
    rw [e1, e2]
    simp only
    omega
  · intro r hr
    simp only [giveTo, List.mem_append, List.mem_singleton] at hr ⊢
    rw [totR_snoc]
    rcases hr with hr | rfl
    · have := q.top r hr; simp only; omega
    · have := q.idle
      have := done_le c.runs now (fun r hr => by have := q.pos hj r hr; omega)
      simp only; omega
  · simp only [giveTo]
    rw [doneS_snoc]
    simp only
    rw [if_neg (by omega), Int.add_zero]
    exact q.idle
theorem RunsOk.takeAt (o : CrewOk job now c) (q : RunsOk job W now c) (hj : jobIn job) {w : Nat} (hw : w < W) : RunsOk job W now (takeAt job now c w) := by
  unfold Go.Proofs.Ytbnkpligdcponaa.takeAt
  split
  · exact q
  · rename_i hb
    split
    · exact q
    · rename_i i hi
      obtain ⟨h1, h2, _⟩ := firstR_some hi
      exact q.give o hj hw hb h1 h2
theorem RunsOk.takeN (o : CrewOk job now c) (q : RunsOk job W now c) (hj : jobIn job) : ∀ w : Nat, w ≤ W → RunsOk job W now (takeN job now c w) := by
  intro w
  induction w with
  | zero => intro _; exact q
  | succ w ih =>
    intro hw
    rw [takeN_succ]
    exact (ih (by omega)).takeAt (o.takeN hj w).1 hj (by omega)
theorem getD_mem0 {l : List Int} {i : Nat} (hi : i < l.length) : l.getD i 0 ∈ l := by
  simp [List.getD, List.getElem?_eq_getElem hi]
theorem RunsOk.later {nx : Int} (o : CrewOk job now c) (q : RunsOk job W now c) (hj : jobIn job) (h1 : now < nx) (h2 : nx ∈ c.ends) : RunsOk job W nx c := by
  refine ⟨q.wl, q.rng, fun r hr => ?_, q.bus, q.apart, q.need, q.run, fun w hw hb => q.work w hw (by omega), q.sum, q.top, ?_⟩
  · have := q.val r hr; omega
  · obtain ⟨i, hi, e⟩ := List.mem_iff_getElem.mp h2
    have n0 := o.now0
    have hil : i < job.length := by rw [← o.le]; exact hi
    have hg : c.ends.getD i 0 = nx := by rw [← e]; simp [List.getD, List.getElem?_eq_getElem hi]
    obtain ⟨r, hr, ht⟩ := q.run i hil (by rw [hg]; omega)
    have hv := q.val r hr
    rw [ht, Int.toNat_natCast, hg] at hv
    have hs := done_step c.runs now nx r (fun r hr => by have := q.pos hj r hr; omega) (by omega) hr (by omega) (by omega)
    have := q.idle
    omega
/-- All are run. -/
theorem farmL_inv (hj : jobIn job) (I : Int → Crew → Prop)
    (hgive : ∀ now c w i, CrewOk job now c → I now c → w < c.busy.length → ¬ now < c.busy.getD w 0 → i < job.length → canB job c.ends now i = true → I now (giveTo job now c w i))
    (hlater : ∀ now c nx, CrewOk job now c → I now c → (∃ c0, CrewOk job now c0 ∧ I now c0 ∧ c = after job now c0) → now < nx → nx ∈ c.ends → (∀ e ∈ c.ends, now < e → nx ≤ e) → I nx c) :
    ∀ (k : Nat) (c : Crew) (now : Int), CrewOk job now c → I now c → 0 < c.busy.length → mu c.ends now ≤ k → ∃ c' now', CrewOk job now' c' ∧ I now' c' ∧ farmL job k c now = c'.runs ∧ c'.runs.length = job.length := by
  have hN : ∀ now c, CrewOk job now c → I now c → ∀ w, w ≤ c.busy.length → I now (Go.Proofs.Ytbnkpligdcponaa.takeN job now c w) := by
    intro now c o h w
    induction w with
    | zero => intro _; exact h
    | succ w ih =>
      intro hw
      rw [takeN_succ]
      unfold Go.Proofs.Ytbnkpligdcponaa.takeAt
      split
      · exact ih (by omega)
      · rename_i hb
        split
        · exact ih (by omega)
        · rename_i i hi
          obtain ⟨h1, h2, _⟩ := firstR_some hi
          exact hgive now _ w i (o.takeN hj w).1 (ih (by omega)) (by rw [takeN_busy]; omega) hb h1 h2
  intro k
  induction k with
  | zero =>
    intro c now o h hb hm
    have o1 := o.takeN hj c.busy.length
    refine ⟨after job now c, now, o1.1, hN now c o h _ (Nat.le_refl _), rfl, ?_⟩
    have h1 : mu (after job now c).ends now = 0 := by have := o1.2; unfold after; omega
    have h2 : (after job now c).ends.countP (fun e => decide (e < 0)) = 0 := by
      unfold mu at h1
      rw [List.countP_eq_zero] at h1 ⊢
      intro e he; have := h1 e he; simp only [decide_eq_true_eq] at this ⊢; omega
    have := o1.1.cnt
    unfold after at h2
    unfold after
    omega
  | succ k ih =>
    intro c now o h hb hm
    have o1 := o.takeN hj c.busy.length
    have q1 := hN now c o h _ (Nat.le_refl _)
    simp only [farmL]
    split
    · rename_i hn
      refine ⟨after job now c, now, o1.1, q1, rfl, ?_⟩
      have hle := o1.1.cnt
      by_cases hlt : (after job now c).runs.length < job.length
      · have := goes_on o hj hb hlt
        have := o.now0
        omega
      · unfold after at hlt ⊢; omega
    · rename_i hn
      rcases nextEnd_spec (now := now) (after job now c).ends o.now0 with ⟨q, _⟩ | ⟨q, q2, q3⟩
      · omega
      · have hl := hlater now _ _ o1.1 q1 ⟨c, o, h, rfl⟩ q q2 q3
        have hm2 := mu_next (now := now) o.now0 q q2
        refine ih _ _ (o1.1.later (Int.le_of_lt q)) hl ?_ ?_
        · unfold after; rw [takeN_busy]; exact hb
        · have := o1.2; unfold after at hm2 ⊢; omega
theorem runs0 (job : List Task) (w : Int) : RunsOk job w.toNat 0 (crew0 job w) := by
  refine ⟨by simp [crew0], ?_, ?_, ?_, ?_, ?_, ?_, ?_, ?_, ?_, ?_⟩
  · intro r hr; simp [crew0] at hr
  · intro r hr; simp [crew0] at hr
  · intro r hr; simp [crew0] at hr
  · simp [crew0]
  · intro r hr; simp [crew0] at hr
  · intro i hi h
    simp [crew0, List.getD, List.getElem?_replicate, hi] at h
  · intro i hi h
    simp [crew0, List.getD, List.getElem?_replicate, hi] at h
  · simp only [crew0, totR, List.map_nil, List.sum_nil, taken]
    have : ∀ n, n ≤ job.length → ((List.range n).map fun i => if 0 ≤ (List.replicate job.length (-1 : Int)).getD i 0 then costAt job i else 0).sum = 0 := by
      intro n
      induction n with
      | zero => intro _; rfl
      | succ n ih =>
        intro hn
        rw [List.range_succ]
        simp only [List.map_append, List.sum_append, List.map_cons, List.map_nil, List.sum_cons, List.sum_nil]
        rw [ih (by omega)]
        have hnn : n < job.length := by omega
        simp [List.getD, List.getElem?_replicate, hnn]
    exact (this job.length (Nat.le_refl _)).symm
  · intro r hr; simp [crew0] at hr
  · simp [crew0, doneS]
theorem mu0_le (job : List Task) (w : Int) : mu (crew0 job w).ends 0 ≤ job.length := by
  have := mu_le (now := 0) (crew0 job w).ends
  simpa [crew0] using this
theorem farm_all (w : Int) (hj : jobOk job) (h1 : 1 ≤ w) (h2 : w ≤ 50) : ∃ c now', CrewOk job now' c ∧ RunsOk job w.toNat now' c ∧ farmF job w = c.runs ∧ c.runs.length = job.length := by
  unfold farmF
  rw [if_pos ⟨hj, h1, h2⟩]
  refine farmL_inv hj.in (fun now c => RunsOk job w.toNat now c) (fun now c w' i o q hw hb hi hc => q.give o hj.in (by rw [← q.wl]; exact hw) hb hi hc) (fun now c nx o q _ g1 g2 _ => q.later o hj.in g1 g2) job.length _ 0 (crew0_ok job w) (runs0 job w) ?_ (mu0_le job w)
  simp [crew0]; omega
theorem RunsOk.total (o : CrewOk job now c) (q : RunsOk job W now c) (hl : c.runs.length = job.length) : totR c.runs = totJ job ∧ ∀ i, i < job.length → 0 ≤ c.ends.getD i 0 := by
  have hc := o.cnt
  have h0 : c.ends.countP (fun e => decide (e < 0)) = 0 := by omega
  rw [List.countP_eq_zero] at h0
  have hall : ∀ i, i < job.length → 0 ≤ c.ends.getD i 0 := by
    intro i hi
    have hie : i < c.ends.length := by rw [o.le]; exact hi
    have := h0 _ (getD_mem0 hie)
    simp only [decide_eq_true_eq] at this
    omega
  refine ⟨?_, hall⟩
  rw [q.sum]
  unfold taken totJ
  congr 1
  refine List.map_congr_left fun i hi => ?_
  rw [List.mem_range] at hi
  rw [if_pos (hall i hi)]
end
/-! ### How long it takes -/
def spanF (L : List Run) : Int := if L.length = 0 ∨ 200 < L.length then 0 else L.foldl (fun a r => max a r.to) ((L[0]?.map (·.to)).getD 0)
theorem fold_max : ∀ (L : List Run) (a : Int), a ≤ L.foldl (fun a r => max a r.to) a ∧ (∀ r ∈ L, r.to ≤ L.foldl (fun a r => max a r.to) a) ∧ (L.foldl (fun a r => max a r.to) a = a ∨ ∃ r ∈ L, L.foldl (fun a r => max a r.to) a = r.to) := by
  intro L
  induction L with
  | nil => intro a; exact ⟨Int.le_refl _, fun r hr => (by cases hr), .inl rfl⟩
  | cons x L ih =>
    intro a
    obtain ⟨h1, h2, h3⟩ := ih (max a x.to)
    rw [List.foldl_cons]
    refine ⟨by omega, fun r hr => ?_, ?_⟩
    · rcases List.mem_cons.mp hr with rfl | hr
      · omega
      · exact h2 r hr
    · rcases h3 with h3 | ⟨r, hr, h3⟩
      · rw [h3]
        by_cases hc : a ≤ x.to
        · exact .inr ⟨x, List.mem_cons_self, by omega⟩
        · exact .inl (by omega)
      · exact .inr ⟨r, List.mem_cons_of_mem _ hr, h3⟩
theorem span_spec {L : List Run} (h0 : 0 < L.length) (h1 : L.length ≤ 200) : (∀ r ∈ L, r.to ≤ spanF L) ∧ ∃ r ∈ L, spanF L = r.to := by
  unfold spanF
  rw [if_neg (by omega)]
  have e : (L[0]?.map (·.to)).getD 0 = (L[0]'h0).to := by simp [List.getElem?_eq_getElem h0]
  rw [e]
  obtain ⟨h1, h2, h3⟩ := fold_max L (L[0]'h0).to
  refine ⟨h2, ?_⟩
  rcases h3 with h3 | h3
  · exact ⟨_, List.getElem_mem h0, h3⟩
  · exact h3
/-- One after another. -/
theorem line_sum : ∀ (n : Nat) (L : List Run), L.length = n → (L.Pairwise fun x y => x.to ≤ y.fr) → (∀ r ∈ L, 0 ≤ r.fr) → 0 < n → ∃ r ∈ L, totR L ≤ r.to := by
  intro n
  induction n with
  | zero => intro L _ _ _ h; omega
  | succ n ih =>
    intro L hl hp hf _
    rcases List.eq_nil_or_concat L with rfl | ⟨t, r, rfl⟩
    · simp at hl
    · rw [List.concat_eq_append] at hl hp hf ⊢
      simp only [List.length_append, List.length_singleton] at hl
      obtain ⟨p1, _, p3⟩ := List.pairwise_append.mp hp
      refine ⟨r, by simp, ?_⟩
      rw [totR_snoc]
      by_cases hn : 0 < n
      · obtain ⟨x, hx, h⟩ := ih t (by omega) p1 (fun y hy => hf y (List.mem_append_left _ hy)) hn
        have := p3 x hx r (by simp)
        omega
      · have ht : t = [] := List.eq_nil_of_length_eq_zero (by omega)
        subst ht
        have := hf r (by simp)
        simp only [totR, List.map_nil, List.sum_nil]
        omega
/-! ### The longest chain -/
def aheadF (W : List Int) (ns : List Int) : Int := ns.foldl (fun a n => max a (W.getD n.toNat 0)) 0
def wayStep (W : List Int) (t : Task) : List Int := W ++ [aheadF W t.needs + t.cost]
def waysF (job : List Task) : List Int := job.foldl wayStep []
def mostF (W : List Int) : Int := W.foldl max 0
noncomputable def critF (job : List Task) : Int := if jobOk job then mostF (waysF job) else -1
theorem ahead_spec (W : List Int) : ∀ (ns : List Int) (a : Int), a ≤ ns.foldl (fun a n => max a (W.getD n.toNat 0)) a ∧ (∀ n ∈ ns, W.getD n.toNat 0 ≤ ns.foldl (fun a n => max a (W.getD n.toNat 0)) a) ∧
    ∀ b, a ≤ b → (∀ n ∈ ns, W.getD n.toNat 0 ≤ b) → ns.foldl (fun a n => max a (W.getD n.toNat 0)) a ≤ b := by
  intro ns
  induction ns with
  | nil => intro a; exact ⟨Int.le_refl _, fun n hn => (by cases hn), fun b h _ => h⟩
  | cons x ns ih =>
    intro a
    obtain ⟨h1, h2, h3⟩ := ih (max a (W.getD x.toNat 0))
    rw [List.foldl_cons]
    refine ⟨by omega, fun n hn => ?_, fun b hb hn => ?_⟩
    · rcases List.mem_cons.mp hn with rfl | hn
      · omega
      · exact h2 n hn
    · refine h3 b ?_ (fun n h => hn n (List.mem_cons_of_mem _ h))
      have := hn x List.mem_cons_self
      omega
theorem ways_len : ∀ (job : List Task) (W : List Int), (job.foldl wayStep W).length = W.length + job.length := by
  intro job
  induction job with
  | nil => intro W; rfl
  | cons t job ih => intro W; rw [List.foldl_cons, ih]; simp [wayStep]; omega
theorem ways_take (job : List Task) {i : Nat} (hi : i < job.length) : waysF (job.take (i + 1)) = waysF (job.take i) ++ [aheadF (waysF (job.take i)) (needsAt job i) + costAt job i] := by
  unfold waysF
  rw [List.take_add_one, List.getElem?_eq_getElem hi, Option.toList_some, List.foldl_append, List.foldl_cons, List.foldl_nil, needsAt_eq hi, costAt_eq hi]; rfl
theorem ways_pre (job : List Task) : ∀ i, i ≤ job.length → (waysF (job.take i)).length = i ∧ ∀ k, k < i → ∀ j, i ≤ j → j ≤ job.length → (waysF (job.take j)).getD k 0 = (waysF (job.take i)).getD k 0 := by
  intro i hi
  have hlen : ∀ j, j ≤ job.length → (waysF (job.take j)).length = j := by
    intro j hj; unfold waysF; rw [ways_len]; simp; omega
  refine ⟨hlen i hi, fun k hk j hij hj => ?_⟩
  obtain ⟨d, rfl⟩ : ∃ d, j = i + d := ⟨j - i, by omega⟩
  clear hij
  induction d with
  | zero => rfl
  | succ d ih =>
    have h1 := ih (by omega)
    rw [show i + (d + 1) = (i + d) + 1 by omega, ways_take job (by omega), ← h1]
    have := hlen (i + d) (by omega)
    simp only [List.getD]
    rw [List.getElem?_append_left (by omega)]
theorem way_spec {job : List Task} (hj : jobIn job) {i : Nat} (hi : i < job.length) : costAt job i ≤ (waysF job).getD i 0 ∧ (∀ n ∈ needsAt job i, (waysF job).getD n.toNat 0 + costAt job i ≤ (waysF job).getD i 0) ∧
    ∀ b, 0 ≤ b → (∀ n ∈ needsAt job i, (waysF job).getD n.toNat 0 ≤ b) → (waysF job).getD i 0 ≤ b + costAt job i := by
  obtain ⟨l1, p1⟩ := ways_pre job i (by omega)
  obtain ⟨l2, p2⟩ := ways_pre job (i + 1) (by omega)
  have hT : job.take job.length = job := List.take_length
  have e1 := p2 i (by omega) job.length (by omega) (Nat.le_refl _)
  rw [hT, ways_take job hi] at e1
  have e2 : (waysF (job.take i) ++ [aheadF (waysF (job.take i)) (needsAt job i) + costAt job i]).getD i 0 = aheadF (waysF (job.take i)) (needsAt job i) + costAt job i := by
    simp only [List.getD]; rw [List.getElem?_append_right (by omega), l1]; simp
  rw [e2] at e1
  have e3 : ∀ n ∈ needsAt job i, (waysF (job.take i)).getD n.toNat 0 = (waysF job).getD n.toNat 0 := by
    intro n hn
    have := need_in hj hi n hn
    have := p1 n.toNat (by omega) job.length (by omega) (Nat.le_refl _)
    rw [hT] at this; exact this.symm
  obtain ⟨a1, a2, a3⟩ := ahead_spec (waysF (job.take i)) (needsAt job i) 0
  rw [e1]
  unfold aheadF
  refine ⟨by omega, fun n hn => ?_, fun b hb hn => ?_⟩
  · have := a2 n hn; rw [e3 n hn] at this; omega
  · have := a3 b hb (fun n h => by rw [e3 n h]; exact hn n h); omega
theorem most_spec : ∀ (W : List Int) (a : Int), a ≤ W.foldl max a ∧ (∀ x ∈ W, x ≤ W.foldl max a) ∧ ∀ b, a ≤ b → (∀ x ∈ W, x ≤ b) → W.foldl max a ≤ b := by
  intro W
  induction W with
  | nil => intro a; exact ⟨Int.le_refl _, fun n hn => (by cases hn), fun b h _ => h⟩
  | cons x W ih =>
    intro a
    obtain ⟨h1, h2, h3⟩ := ih (max a x)
    rw [List.foldl_cons]
    refine ⟨by omega, fun n hn => ?_, fun b hb hn => h3 b ?_ (fun n h => hn n (List.mem_cons_of_mem _ h))⟩
    · rcases List.mem_cons.mp hn with rfl | hn
      · omega
      · exact h2 n hn
    · have := hn x List.mem_cons_self; omega
/-! ### As many workers as tasks -/
theorem cover_len {α : Type} (f : α → Int) : ∀ (W : Nat) (L : List α), (∀ w, w < W → ∃ r ∈ L, f r = (w : Int)) → W ≤ L.length := by
  intro W
  induction W with
  | zero => intro L _; omega
  | succ W ih =>
    intro L h
    obtain ⟨r, hr, e⟩ := h W (by omega)
    have h1 := ih (L.filter fun x => decide (f x ≠ (W : Int))) (fun w hw => by
      obtain ⟨x, hx, ex⟩ := h w (by omega)
      exact ⟨x, List.mem_filter.mpr ⟨hx, decide_eq_true (by omega)⟩, ex⟩)
    have h2 : (L.filter fun x => decide (f x ≠ (W : Int))).length < L.length := by
      apply Nat.lt_of_le_of_ne (List.length_filter_le _ _)
      intro q
      have := List.length_filter_eq_length_iff.mp q r hr
      simp [e] at this
    omega
section
variable {job : List Task} {now : Int} {c : Crew} {W : Nat}
theorem after_none (o : CrewOk job now c) (q : RunsOk job W now c) (hj : jobIn job) (hW : job.length ≤ W) : firstR job (after job now c).ends now = none := by
  have P : ∀ w, w ≤ W → firstR job (takeN job now c w).ends now = none ∨ ∀ k, k < w → now < (takeN job now c w).busy.getD k 0 := by
    intro w
    induction w with
    | zero => intro _; exact .inr fun k hk => by omega
    | succ w ih =>
      intro hw
      rcases ih (by omega) with h | h
      · left
        have := takeN_stop (k := 1) h
        rw [this]; exact h
      · by_cases hf : firstR job (takeN job now c w).ends now = none
        · left
          have := takeN_stop (k := 1) hf
          rw [this]; exact hf
        · right
          have hbl : w < (takeN job now c w).busy.length := by rw [takeN_busy, q.wl]; omega
          rw [takeN_succ]
          unfold takeAt
          split
          · rename_i hb
            intro k hk
            by_cases e : k = w
            · rw [e]; exact hb
            · exact h k (by omega)
          · split
            · rename_i e; exact absurd e hf
            · rename_i i hi
              obtain ⟨h1, h2, _⟩ := firstR_some hi
              have := cost_in hj h1
              intro k hk
              simp only [giveTo]
              rw [getD_set0 _ _ _ _ hbl]
              split
              · omega
              · exact h k (by omega)
  have qa := q.takeN o hj W (Nat.le_refl _)
  have oa := (o.takeN hj W).1
  unfold after
  rw [q.wl]
  rcases P W (Nat.le_refl _) with h | h
  · exact h
  · refine all_taken oa ?_
    have := cover_len (fun r : Run => r.worker) W (takeN job now c W).runs (fun w hw => qa.work w hw (h w hw))
    have := oa.cnt
    omega
structure Early (job : List Task) (now : Int) (c : Crew) : Prop where
  low : ∀ i, i < job.length → 0 ≤ c.ends.getD i 0 → c.ends.getD i 0 ≤ (waysF job).getD i 0
  wait : ∀ i, i < job.length → c.ends.getD i 0 < 0 → now = 0 ∨ ∃ n ∈ needsAt job i, c.ends.getD n.toNat 0 < 0 ∨ now ≤ c.ends.getD n.toNat 0
theorem Early.give (o : CrewOk job now c) (q : Early job now c) (hj : jobIn job) {w i : Nat} (hi : i < job.length) (hc : canB job c.ends now i = true) : Early job now (giveTo job now c w i) := by
  obtain ⟨hneg, hrd⟩ := can_in hc
  have hcost := cost_in hj hi
  have hie : i < c.ends.length := by rw [o.le]; exact hi
  have n0 := o.now0
  obtain ⟨w1, w2, _⟩ := way_spec hj hi
  refine ⟨fun k hk hE => ?_, fun k hk hE => ?_⟩
  · simp only [giveTo] at hE ⊢
    rw [getD_set0 _ _ _ _ hie] at hE ⊢
    by_cases e : k = i
    · rw [if_pos e]
      subst e
      rcases q.wait k hk hneg with h | ⟨n, hn, h⟩
      · omega
      · have h1 := hrd n hn
        have h2 := w2 n hn
        have hb := need_in hj hk n hn
        have h3 := q.low n.toNat (by omega) h1.1
        omega
    · rw [if_neg e] at hE ⊢; exact q.low k hk hE
  · simp only [giveTo] at hE ⊢
    rw [getD_set0 _ _ _ _ hie] at hE
    by_cases e : k = i
    · rw [if_pos e] at hE; omega
    · rw [if_neg e] at hE
      rcases q.wait k hk hE with h | ⟨n, hn, h⟩
      · exact .inl h
      · refine .inr ⟨n, hn, ?_⟩
        rw [getD_set0 _ _ _ _ hie]
        split
        · right; omega
        · exact h
theorem Early.later {nx : Int} (o : CrewOk job now c) (q : Early job now c) (hj : jobIn job) (hn : firstR job c.ends now = none) (h1 : now < nx) (h2 : ∀ e ∈ c.ends, now < e → nx ≤ e) : Early job nx c := by
  refine ⟨q.low, fun i hi hE => .inr ?_⟩
  obtain ⟨n, hn, h⟩ := can_not (firstR_none.mp hn i hi) hE
  refine ⟨n, hn, ?_⟩
  have hb := need_in hj hi n hn
  rcases h with h | h
  · exact .inl h
  · exact .inr (h2 _ (getD_mem0 (by rw [o.le]; omega)) h)
theorem farm_early (hj : jobOk job) (hl : job.length ≤ 50) : ∃ c now', CrewOk job now' c ∧ (RunsOk job 50 now' c ∧ Early job now' c) ∧ farmF job 50 = c.runs ∧ c.runs.length = job.length := by
  unfold farmF
  rw [if_pos ⟨hj, by omega, by omega⟩]
  refine farmL_inv hj.in (fun now c => RunsOk job 50 now c ∧ Early job now c) (fun now c w' i o q hw hb hi hc => ⟨q.1.give o hj.in (by rw [← q.1.wl]; exact hw) hb hi hc, q.2.give o hj.in hi hc⟩)
    (fun now c nx o q ⟨c0, o0, q0, e⟩ g1 g2 g3 => ⟨q.1.later o hj.in g1 g2, q.2.later o hj.in (by rw [e]; exact after_none o0 q0.1 hj.in hl) g1 g3⟩) job.length _ 0 (crew0_ok job 50) ⟨runs0 job 50, ?_⟩ ?_ (mu0_le job 50)
  · refine ⟨fun i hi h => ?_, fun i hi h => .inl rfl⟩
    simp [crew0, List.getD, List.getElem?_replicate, hi] at h
  · simp [crew0]
/-- None are faster than the longest chain. -/
theorem RunsOk.slow (o : CrewOk job now c) (q : RunsOk job W now c) (hj : jobIn job) (hall : ∀ i, i < job.length → 0 ≤ c.ends.getD i 0) : ∀ i, i < job.length → (waysF job).getD i 0 ≤ c.ends.getD i 0 := by
  intro i
  induction i using Nat.strongRecOn with
  | _ i ih =>
    intro hi
    obtain ⟨r, hr, ht⟩ := q.run i hi (hall i hi)
    have hv := q.val r hr
    have hn := q.need r hr
    rw [ht, Int.toNat_natCast] at hv hn
    obtain ⟨_, _, w3⟩ := way_spec hj hi
    have := w3 r.fr hv.2.2.1 (fun n h => by
      have hb := need_in hj hi n h
      have h1 := ih n.toNat (by omega) (by omega)
      have h2 := hn n h
      omega)
    omega
end
theorem crit_span {job : List Task} {now : Int} {c : Crew} {W : Nat} (hj : jobOk job) (o : CrewOk job now c) (q : RunsOk job W now c) (hl : c.runs.length = job.length) (h0 : 0 < job.length) : critF job ≤ spanF c.runs := by
  have hlen := hj.1
  obtain ⟨s1, _⟩ := span_spec (L := c.runs) (by omega) (by omega)
  obtain ⟨_, hall⟩ := q.total o hl
  have hs := q.slow o hj.in hall
  unfold critF
  rw [if_pos hj]
  refine (most_spec (waysF job) 0).2.2 _ ?_ (fun x hx => ?_)
  · obtain ⟨r, hr⟩ : ∃ r, r ∈ c.runs := ⟨_, List.getElem_mem (show 0 < c.runs.length by omega)⟩
    have h1 := s1 r hr
    have h2 := q.pos hj.in r hr
    have h3 := q.val r hr
    omega
  · obtain ⟨i, hi, rfl⟩ := List.mem_iff_getElem.mp hx
    have hwl : (waysF job).length = job.length := by unfold waysF; rw [ways_len]; simp
    have hij : i < job.length := by omega
    have h1 := hs i hij
    obtain ⟨r, hr, ht⟩ := q.run i hij (hall i hij)
    have hv := q.val r hr
    rw [ht, Int.toNat_natCast] at hv
    have h2 := s1 r hr
    rw [show (waysF job).getD i 0 = (waysF job)[i] by simp [List.getD, List.getElem?_eq_getElem hi]] at h1
    omega
/-- What the law asks of how long it takes. -/
theorem farm_times {job : List Task} {w : Int} (hj : jobOk job) (h1 : 1 ≤ w) (h2 : w ≤ 50) (h0 : 0 < job.length) :
    spanF (farmF job 1) = totJ job ∧ critF job ≤ spanF (farmF job w) ∧ spanF (farmF job w) ≤ totJ job ∧ (job.length ≤ 50 → spanF (farmF job 50) = critF job) := by
  have hlen := hj.1
  have gen : ∀ w : Int, 1 ≤ w → w ≤ 50 → critF job ≤ spanF (farmF job w) ∧ spanF (farmF job w) ≤ totJ job := by
    intro w h1 h2
    obtain ⟨c, now, o, q, e, hl⟩ := farm_all w hj h1 h2
    rw [e]
    refine ⟨crit_span hj o q hl h0, ?_⟩
    obtain ⟨_, r, hr, es⟩ := span_spec (L := c.runs) (by omega) (by omega)
    rw [es, ← (q.total o hl).1]
    exact q.top r hr
  refine ⟨?_, (gen w h1 h2).1, (gen w h1 h2).2, fun hl50 => ?_⟩
  · have g := (gen 1 (by omega) (by omega)).2
    obtain ⟨c, now, o, q, e, hl⟩ := farm_all 1 hj (by omega) (by omega)
    rw [e] at g ⊢
    obtain ⟨s1, _⟩ := span_spec (L := c.runs) (by omega) (by omega)
    obtain ⟨r, hr, h⟩ := line_sum c.runs.length c.runs rfl (q.apart.imp_of_mem fun {x y} hx hy h => h.2 (by
      have a := q.rng x hx; have b := q.rng y hy
      have e1 : (1 : Int).toNat = 1 := rfl
      omega)) (fun r hr => (q.val r hr).2.2.1) (by omega)
    have := s1 r hr
    rw [(q.total o hl).1] at h
    omega
  · obtain ⟨c, now, o, ⟨q, qe⟩, e, hl⟩ := farm_early hj hl50
    rw [e]
    have hlo := crit_span hj o q hl h0
    obtain ⟨_, r, hr, es⟩ := span_spec (L := c.runs) (by omega) (by omega)
    have hv := q.val r hr
    have hr2 := (q.rng r hr).2.1
    have hp := q.pos hj.in r hr
    have h3 := qe.low _ hr2 (by rw [hv.1]; omega)
    have hwl : (waysF job).length = job.length := by unfold waysF; rw [ways_len]; simp
    have h4 := (most_spec (waysF job) 0).2.1 _ (getD_mem0 (l := waysF job) (i := r.task.toNat) (by omega))
    have hc : critF job = mostF (waysF job) := if_pos hj
    have hm : mostF (waysF job) = (waysF job).foldl max 0 := rfl
    omega
end Go.Proofs.Ytbnkpligdcponaa
