import Derived.Test.YtdagajblnlemaaaAhM
set_option linter.unusedVariables false
set_option linter.unusedSimpArgs false
namespace Go.Ah
open Go Go.RowKit

theorem Env.get_keep_mem {E : Env} {l : List Nat} {s : Nat} {v : Value} (h : (E.keep l).get s = some v) : s ∈ l := by
  induction l with
  | nil => simp [Env.keep, Env.get] at h
  | cons k t ih =>
    simp only [Env.keep] at h
    split at h
    · simp only [Env.get] at h
      split at h
      · rename_i hk; subst hk; exact List.mem_cons_self ..
      · exact List.mem_cons_of_mem _ (ih h)
    · exact List.mem_cons_of_mem _ (ih h)
theorem Env.keep_get {E : Env} {l : List Nat} {s : Nat} (hs : s ∈ l) : (E.keep l).get s = E.get s := by
  induction l with
  | nil => cases hs
  | cons k t ih =>
    simp only [Env.keep]
    by_cases hk : k = s
    · subst hk
      split
      · rename_i v hv; simp [Env.get, hv]
      · rename_i hv
        by_cases ht : k ∈ t
        · exact ih ht
        · rw [hv]
          cases hq : Env.get (Env.keep E t) k with
          | none => rfl
          | some v => exact absurd (Env.get_keep_mem hq) ht
    · have ht : s ∈ t := by rcases List.mem_cons.mp hs with h | h; exact absurd h.symm hk; exact h
      split
      · simp only [Env.get]; rw [if_neg hk]; exact ih ht
      · exact ih ht
theorem Env.same_keep (E : Env) (l : List Nat) : Same l E (E.keep l) := fun s hs => (Env.keep_get hs).symm

theorem LogOk.inj {E0 : Env} {ops : List Oper} {l : List LE} (h : LogOk E0 ops l) {p q : LE} (hp : p ∈ l) (hq : q ∈ l) (e : p.d.idx = q.d.idx) : p = q := by
  induction l with
  | nil => cases hp
  | cons x l ih =>
    obtain ⟨h1, ⟨o, ho, hok⟩, h3⟩ := h
    rcases List.mem_cons.mp hp with rfl | hp <;> rcases List.mem_cons.mp hq with rfl | hq
    · rfl
    · exact absurd e.symm (hok.ne _ (List.mem_map.mpr ⟨q, ‹q ∈ l›, rfl⟩))
    · exact absurd e (hok.ne _ (List.mem_map.mpr ⟨p, ‹p ∈ l›, rfl⟩))
    · exact ih h3 hp hq

structure Inv (P : Program) (W0 : World) (N : Nat) (dl : List Deferred) (ms : Map) (hs : Heap) (E0 : Env) (ops : Array Oper) (D : Nat → Prop) (log : List LE) (m : Map) (h : Heap) (a : Act) (w : World) : Prop where
  lok : LogOk E0 ops.toList log
  rel : Rel W0 m h w
  step : Step ms hs m h
  nod : a.defers = dl
  size : a.tmps.size = N
  din : ∀ i, i < ops.size → D i → ∃ p, p ∈ log ∧ p.d.idx = i
  dcl : ∀ p, p ∈ log → D p.d.idx → ∀ j, j ∈ p.d.bef → D j
  edone : ∀ p, p ∈ log → p.d.so.op.isE = true → p.skip = false → D p.d.idx
  sa : ∀ p, p ∈ log → D p.d.idx → ∀ s, p.d.so.dst = some s → ∃ v', a.tmps[s]? = some v' ∧ VR m p.v v'
  sb : ∀ s v, (∀ p, p ∈ log → D p.d.idx → p.d.so.dst ≠ some s) → E0.get s = some v → ∃ v', a.tmps[s]? = some v' ∧ VR m v v'
  qs : ∀ p, p ∈ log → ¬ D p.d.idx → p.skip = false → ∀ q, p.d.so.op = .q q → q.ev p.E h = some p.v
  as : ∀ p, p ∈ log → ¬ D p.d.idx → p.skip = false → ∀ x, p.d.so.op = .a x → hs.size ≤ p.o ∧ m p.o = none ∧ ∃ cs mk, x.ev p.E = some (cs, mk) ∧ p.v = mk p.o ∧ h.get p.o = some ⟨cs, p.o, true, true⟩
  ai : ∀ p q, p ∈ log → q ∈ log → ¬ D p.d.idx → ¬ D q.d.idx → p.skip = false → q.skip = false → (∃ x, p.d.so.op = .a x) → (∃ x, q.d.so.op = .a x) → p.d.idx ≠ q.d.idx → p.o ≠ q.o
  gd : ∀ p, p ∈ log → ¬ D p.d.idx → guardV p.d.so.guard p.E = some (!p.skip)
  sk : ∀ p, p ∈ log → p.skip = true → p.v = Go.undef
  slim : ∀ p, p ∈ log → ∃ o, ops[p.d.idx]? = some o ∧ slimOper P N ops.toList o = some p.d.so

section
variable {P : Program} {W0 : World} {N : Nat} {dl : List Deferred} {ms : Map} {hs : Heap} {E0 : Env} {ops : Array Oper} {D : Nat → Prop} {log : List LE} {m : Map} {h : Heap} {a : Act} {w : World}

/-- The slots that an operation reads fit. -/
theorem Inv.er (I : Inv P W0 N dl ms hs E0 ops D log m h a w) {l2 : List LE} (hsub : ∀ p, p ∈ l2 → p ∈ log) {R : List Nat} (hA : ∀ p, p ∈ l2 → ∀ s, s ∈ R → p.d.so.dst = some s → D p.d.idx)
    (hB : ∀ q, q ∈ log → D q.d.idx → ∀ s, s ∈ R → q.d.so.dst = some s → q ∈ l2) : ER N m ((envOf E0 l2).keep R) a.tmps := by
  refine ⟨I.size, fun s v e => ?_⟩
  have hs := Env.get_keep_mem e
  have e := Env.get_keep e
  rcases envOf_get e with ⟨p, hp, h1, rfl⟩ | ⟨h1, h2⟩
  · exact I.sa p (hsub p hp) (hA p hp s hs h1) s h1
  · exact I.sb s v (fun p hp hd hds => h1 p (hB p hp hd s hs hds) hds) h2

theorem put_get {o : Option Tmp} {v : Value} {s : Nat} (h : o ≠ some s) : (a.put o v).tmps[s]? = a.tmps[s]? := by
  cases o with
  | none => rfl
  | some d => simp only [Act.put]; rw [Array.getElem?_setIfInBounds_ne (fun e => h (by rw [e]))]
theorem put_same {d s : Nat} {v : Value} (hd : some d = some s) (hn : d < a.tmps.size) : (a.put (some d) v).tmps[s]? = some v := by
  cases hd; simp only [Act.put]; rw [Array.getElem?_setIfInBounds_self]; simp [hn]
theorem put_size {o : Option Tmp} {v : Value} : (a.put o v).tmps.size = a.tmps.size := by cases o <;> simp [Act.put]
theorem put_defers {o : Option Tmp} {v : Value} : (a.put o v).defers = a.defers := by cases o <;> rfl

/-- An operation that was told has been done. -/
theorem Inv.done (I : Inv P W0 N dl ms hs E0 ops D log m h a w) {p : LE} (hp : p ∈ log) (hnd : ¬ D p.d.idx) (hbef : ∀ j, j ∈ p.d.bef → D j) {m' : Map} {w' : World} {v' : Value}
    (rel : Rel W0 m' h w') (hle : m.le m') (step : Step ms hs m' h) (hm : ∀ q, q ∈ log → ¬ D q.d.idx → q.d.idx ≠ p.d.idx → ∀ x, q.d.so.op = .a x → q.skip = false → m' q.o = none)
    (hv : ∀ s, p.d.so.dst = some s → VR m' p.v v') : Inv P W0 N dl ms hs E0 ops (fun k => k = p.d.idx ∨ D k) log m' h (a.put p.d.so.dst v') w' := by
  obtain ⟨o, ho, hso⟩ := I.slim p hp
  obtain ⟨hd1, hd2, _⟩ := slimOper_dst hso
  have hdn : ∀ s, p.d.so.dst = some s → s < N := by intro s hs; rw [hd1] at hs; rw [hs] at hd2; simpa using hd2
  have huniq : ∀ q, q ∈ log → q.d.idx = p.d.idx → q = p := fun q hq e => I.lok.inj hq hp e
  have hdst : ∀ q, q ∈ log → q ≠ p → ∀ s, q.d.so.dst = some s → p.d.so.dst ≠ some s := by
    intro q hq hne s hs he
    obtain ⟨l1, l2, hl, k1, k2, ⟨o1, _, k3⟩, k4⟩ := I.lok.at hp
    rw [hl] at hq
    rcases List.mem_append.mp hq with hq | hq
    · obtain ⟨_, _, pre, hok, hmem⟩ := k4 q hq
      exact hok.dst _ hmem s he hs
    · rcases List.mem_cons.mp hq with rfl | hq
      · exact hne rfl
      · exact k3.dst _ (List.mem_map.mpr ⟨q, hq, rfl⟩) s hs he
  refine ⟨I.lok, rel, step, by rw [put_defers]; exact I.nod, by rw [put_size]; exact I.size, ?_, ?_, ?_, ?_, ?_, ?_, ?_, ?_, ?_, I.sk, I.slim⟩
  · rintro i hi (rfl | hd)
    · exact ⟨p, hp, rfl⟩
    · exact I.din i hi hd
  · rintro q hq (he | hd) j hj
    · rw [huniq q hq he] at hj; exact .inr (hbef j hj)
    · exact .inr (I.dcl q hq hd j hj)
  · exact fun q hq he hk => .inr (I.edone q hq he hk)
  · rintro q hq hd s hs
    by_cases hqp : q = p
    · subst hqp
      refine ⟨v', ?_, hv s hs⟩
      rw [hs]; exact put_same rfl (by rw [I.size]; exact hdn s hs)
    · have hd : D q.d.idx := by rcases hd with he | hd; exact absurd (huniq q hq he) hqp; exact hd
      obtain ⟨u, e1, r1⟩ := I.sa q hq hd s hs
      exact ⟨u, by rw [put_get (hdst q hq hqp s hs)]; exact e1, r1.mono hle⟩
  · intro s v hno e
    have hps : p.d.so.dst ≠ some s := hno p hp (.inl rfl)
    obtain ⟨u, e1, r1⟩ := I.sb s v (fun q hq hd => hno q hq (.inr hd)) e
    exact ⟨u, by rw [put_get hps]; exact e1, r1.mono hle⟩
  · exact fun q hq hd hk x hx => I.qs q hq (fun hd' => hd (.inr hd')) hk x hx
  · intro q hq hd hk x hx
    obtain ⟨k1, k2, k3⟩ := I.as q hq (fun hd' => hd (.inr hd')) hk x hx
    exact ⟨k1, hm q hq (fun hd' => hd (.inr hd')) (fun e => hd (.inl e)) x hx hk, k3⟩
  · exact fun q r hq hr h1 h2 => I.ai q r hq hr (fun hd => h1 (.inr hd)) (fun hd => h2 (.inr hd))
  · exact fun q hq hd => I.gd q hq (fun hd' => hd (.inr hd'))

/-- What an operation waits for has been done. -/
theorem Inv.bef (I : Inv P W0 N dl ms hs E0 ops D log m h a w) {o : Oper} {pre : List DOper} {d : DOper} (hok : OkAt (depsOf o) pre d) (hpre : ∀ p, p ∈ pre → ∃ e, e ∈ log ∧ e.d = p)
    (hdeps : ∀ j, j ∈ depsOf o → D j) : ∀ j, j ∈ d.bef → D j := by
  intro b hb
  rcases hok.bef b hb with h | ⟨j, hj, p, hp, rfl, hb⟩
  · exact hdeps b h
  · obtain ⟨e, he, rfl⟩ := hpre p hp
    exact I.dcl e he (hdeps _ hj) b hb

/-- A told operation, met in the machine's order. -/
theorem Inv.told (I : Inv P W0 N dl ms hs E0 ops D log m h a w) {p : LE} (hp : p ∈ log) (hnd : ¬ D p.d.idx) {o : Oper} (ho : ops[p.d.idx]? = some o) (hdeps : ∀ j, j ∈ depsOf o → D j)
    (Q : Go.Exit → Act → World → Prop) (next : Act → World → Prop)
    (hn : ∀ m' a' w', Inv P W0 N dl ms hs E0 ops (fun k => k = p.d.idx ∨ D k) log m' h a' w' → next a' w') :
    (Region.wanted o (yielded ops a.tmps) = true ∧ o.wp P a w next Q) ∨ (Region.wanted o (yielded ops a.tmps) = false ∧ next (a.put o.dst Go.undef) w) := by
  obtain ⟨o', ho', hso⟩ := I.slim p hp
  rw [ho] at ho'; cases ho'
  obtain ⟨hd1, hd2, hop⟩ := slimOper_dst hso
  obtain ⟨l1, l2, hl, k1, k2, ⟨o1, ho1, k3⟩, k4⟩ := I.lok.at hp
  have ho2 : ops.toList[p.d.idx]? = some o := by simpa using ho
  rw [ho2] at ho1; cases ho1
  have hsub : ∀ q, q ∈ l2 → q ∈ log := fun q hq => by rw [hl]; simp [hq]
  have hbef := I.bef k3 (fun x hx => by obtain ⟨e, he, rfl⟩ := List.mem_map.mp hx; exact ⟨e, hsub e he, rfl⟩) hdeps
  have er : ER N m (p.E.keep p.d.so.reads) a.tmps := by
    rw [k1]
    refine I.er hsub (fun q hq s hs hds => hbef _ (k3.rw _ (List.mem_map.mpr ⟨q, hq, rfl⟩) s hds hs)) (fun q hq hd s hs hds => ?_)
    rw [hl] at hq
    rcases List.mem_append.mp hq with hq | hq
    · obtain ⟨_, _, pre, hok, hmem⟩ := k4 q hq
      have := hok.wr _ hmem s hds hs
      exact absurd (I.dcl q (by rw [hl]; simp [hq]) hd _ this) hnd
    · rcases List.mem_cons.mp hq with rfl | hq
      · exact absurd hds (k3.self s hs)
      · exact hq
  have hg : guardV p.d.so.guard (p.E.keep p.d.so.reads) = some (!p.skip) := by
    rw [← guardV_same (Env.same_keep p.E p.d.so.reads)]; exact I.gd p hp hnd
  have hsame := Env.same_keep p.E p.d.so.reads
  have hsop : Same p.d.so.op.reads p.E (p.E.keep p.d.so.reads) := hsame.sub fun s h => by simp [SOper.reads]; exact .inr h
  cases hsk : p.skip with
  | true =>
    rw [hsk] at hg
    refine .inr ⟨guard_sound hso er hg, ?_⟩
    rw [← hd1]
    refine hn m _ w (I.done hp hnd hbef I.rel (.refl m) I.step (fun q hq hqd hne x hx hk => (I.as q hq hqd hk x hx).2.1) fun s hs => ?_)
    rw [I.sk p hp hsk]; exact VR.undef m
  | false =>
    rw [hsk] at hg
    cases hpo : p.d.so.op with
    | q q =>
      have hev : q.ev (p.E.keep p.d.so.reads) h = some p.v := by
        rw [← QOp.ev_same h (hsop.sub fun s hs => by rw [hpo]; exact hs)]; exact I.qs p hp hnd hsk q hpo
      have H : AOne P p.d.so (fun E2 h2 => E2 = putD p.d.so.dst p.v (p.E.keep p.d.so.reads) ∧ h2 = h) (p.E.keep p.d.so.reads) h := by
        unfold AOne; rw [hg]; simp only [Bool.not_false, hpo]; exact ⟨_, hev, rfl, trivial⟩
      refine one_core hso I.rel er I.nod H Q next fun {m' h' w' v v'} r s rv k => ?_
      obtain ⟨k5, rfl⟩ := k
      rw [← hd1]
      have hmle := s.le I.rel
      refine hn m' _ w' (I.done hp hnd hbef r hmle (I.step.trans s) (fun q hq hqd hne x hx hk => ?_) fun s hs => ?_)
      · have := (I.as q hq hqd hk x hx)
        rw [s.old _ (Heap.get_lt this.2.2.choose_spec.choose_spec.2.2)]; exact this.2.1
      · rw [hs] at k5; simp only [putD, List.cons.injEq, Prod.mk.injEq] at k5
        rw [← k5.1.2]; exact rv
    | a x =>
      obtain ⟨ho1, hmn, cs, mk, hx, hpv, hget⟩ := I.as p hp hnd hsk x hpo
      have hev : x.ev (p.E.keep p.d.so.reads) = some (cs, mk) := by
        rw [← AOp.ev_same (hsop.sub fun s hs => by rw [hpo]; exact hs)]; exact hx
      refine .inl ⟨guard_sound hso er (by rw [hg]; rfl), ?_⟩
      unfold slimOp at hop
      rw [hpo] at hop
      split at hop
      · cases hop
      · split at hop
        · rename_i x' hx'
          cases hop
          obtain ⟨c', e, f, v', w', hr, hw, hf, hl', hv, h1, hmk⟩ := a_sound (P := P) (m := m) (w := w) hx' er hev o rfl
          have R := (I.rel.bind hget hmn rfl e hf hl' hv h1).sameW hw
          simp only [Oper.wp, hr, Oper.upon_value]
          rw [← hd1]
          refine hn _ _ w' (I.done hp hnd hbef R (Map.le_set hmn) ⟨I.step.size, fun i hi => ?_, fun i hi hmi => I.step.unm i hi hmi⟩ (fun q hq hqd hne y hy hk => ?_) fun s hs => ?_)
          · rw [Map.set_other _ _ (by omega)]; exact I.step.old i hi
          · rw [Map.set_other _ _ (I.ai q p hq hp hqd hnd hk hsk ⟨y, hy⟩ ⟨x, hpo⟩ hne)]; exact (I.as q hq hqd hk y hy).2.1
          · rw [hpv]; exact hmk _ _ (Map.set_same _ _ _)
        · split at hop <;> simp at hop
    | e x => exact absurd (I.edone p hp (by rw [hpo]; rfl) hsk) hnd
end
end Go.Ah
