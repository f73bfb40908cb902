import Derived.Test.YtdagajblnlemaaaAhN
set_option linter.unusedVariables false
set_option linter.unusedSimpArgs false
namespace Go.Ah
open Go Go.RowKit

theorem okAll_at {ops : List Oper} : ∀ (ds pre : List DOper), okAll ops pre ds = true → ∀ d, d ∈ ds → ∃ o, ops[d.idx]? = some o ∧ ∃ pre', OkAt (depsOf o) pre' d ∧ (∀ p, p ∈ pre → p ∈ pre') ∧ (∀ p, p ∈ pre' → p ∈ pre ∨ p ∈ ds) ∧
    (∀ d0 t, ds = d0 :: t → d ∈ t → d0 ∈ pre') := by
  intro ds
  induction ds with
  | nil => intro pre h d hd; cases hd
  | cons d0 t ih =>
    intro pre h d hd
    simp only [okAll, Bool.and_eq_true] at h
    obtain ⟨h1, h2⟩ := h
    by_cases hdt : d ∈ t
    · obtain ⟨o, ho, pre', k1, k2, k3, k4⟩ := ih (d0 :: pre) h2 d hdt
      refine ⟨o, ho, pre', k1, fun p hp => k2 p (List.mem_cons_of_mem _ hp), fun p hp => ?_, fun d1 t1 e _ => ?_⟩
      · rcases k3 p hp with h | h
        · rcases List.mem_cons.mp h with rfl | h
          · exact .inr (List.mem_cons_self ..)
          · exact .inl h
        · exact .inr (List.mem_cons_of_mem _ h)
      · cases e; exact k2 _ (List.mem_cons_self ..)
    · have hd0 : d = d0 := by rcases List.mem_cons.mp hd with h | h; exact h; exact absurd h hdt
      subst hd0
      split at h1
      · rename_i o ho
        exact ⟨o, ho, pre, .of h1, fun p hp => hp, fun p hp => .inl hp, fun d1 t1 e hm => by cases e; exact absurd hm hdt⟩
      · cases h1

structure Run (P : Program) (W0 : World) (N : Nat) (dl : List Deferred) (ms : Map) (hs : Heap) (E0 : Env) (ops : Array Oper) (K : Env → Heap → Prop) (D : Nat → Prop) (log : List LE) (pend : List PE) (ds : List DOper) (m : Map) (h : Heap) (a : Act) (w : World) : Prop where
  inv : Inv P W0 N dl ms hs E0 ops D log m h a w
  ok : okAll ops.toList (log.map (·.d)) ds = true
  sl : ∀ d, d ∈ ds → ∃ o, ops[d.idx]? = some o ∧ slimOper P N ops.toList o = some d.so
  nd : ∀ d, d ∈ ds → ¬ D d.idx
  pd : ∀ p, p ∈ log → p.skip = false → ∀ q, p.d.so.op = .q q → q.loads = true → (⟨p.d.idx, p.E, q, p.v⟩ : PE) ∈ pend
  cov : ∀ i, i < ops.size → (∃ p, p ∈ log ∧ p.d.idx = i) ∨ ∃ d, d ∈ ds ∧ d.idx = i
  H : DOps P ds pend K (envOf E0 log) h
def Normal (E0 : Env) (log : List LE) (ds : List DOper) : Prop := ds = [] ∨ ∃ d t x, ds = d :: t ∧ d.so.op = .e x ∧ guardV d.so.guard (envOf E0 log) = some true

section
variable {P : Program} {W0 : World} {N : Nat} {dl : List Deferred} {ms : Map} {hs : Heap} {E0 : Env} {ops : Array Oper} {K : Env → Heap → Prop} {D : Nat → Prop}

/-- One more operation is told, and not done yet. -/
theorem Inv.tell {log : List LE} {m : Map} {h h' : Heap} {a : Act} {w : World} (I : Inv P W0 N dl ms hs E0 ops D log m h a w) {d : DOper} {v : Value} {o : Nat} {skip : Bool} {op : Oper}
    (hop : ops[d.idx]? = some op) (hok : OkAt (depsOf op) (log.map (·.d)) d) (hsl : slimOper P N ops.toList op = some d.so) (hnd : ¬ D d.idx) (hE : d.so.op.isE = true → skip = true)
    (hg : guardV d.so.guard (envOf E0 log) = some (!skip)) (hk : skip = true → v = Go.undef) (rel : Rel W0 m h' w) (step : Step ms hs m h')
    (hq : ∀ p, p ∈ log → ¬ D p.d.idx → p.skip = false → ∀ q, p.d.so.op = .q q → q.ev p.E h' = some p.v) (hq' : skip = false → ∀ q, d.so.op = .q q → q.ev (envOf E0 log) h' = some v)
    (ha : ∀ p, p ∈ log → ¬ D p.d.idx → p.skip = false → ∀ x, p.d.so.op = .a x → h'.get p.o = h.get p.o)
    (ha' : skip = false → ∀ x, d.so.op = .a x → o = h.size ∧ ∃ cs mk, x.ev (envOf E0 log) = some (cs, mk) ∧ v = mk o ∧ h'.get o = some ⟨cs, o, true, true⟩) :
    Inv P W0 N dl ms hs E0 ops D (⟨d, envOf E0 log, v, o, skip⟩ :: log) m h' a w := by
  have cons : ∀ {p : LE}, p ∈ (⟨d, envOf E0 log, v, o, skip⟩ : LE) :: log → p = ⟨d, envOf E0 log, v, o, skip⟩ ∨ p ∈ log := fun hp => List.mem_cons.mp hp
  refine ⟨⟨rfl, ⟨op, by simpa using hop, hok⟩, I.lok⟩, rel, step, I.nod, I.size, ?_, ?_, ?_, ?_, ?_, ?_, ?_, ?_, ?_, ?_, ?_⟩
  · intro i hi hd; obtain ⟨p, hp, e⟩ := I.din i hi hd; exact ⟨p, List.mem_cons_of_mem _ hp, e⟩
  · intro p hp hd; rcases cons hp with rfl | hp
    · exact absurd hd hnd
    · exact I.dcl p hp hd
  · intro p hp he hs; rcases cons hp with rfl | hp
    · rw [hE he] at hs; cases hs
    · exact I.edone p hp he hs
  · intro p hp hd; rcases cons hp with rfl | hp
    · exact absurd hd hnd
    · exact I.sa p hp hd
  · intro s u hno e; exact I.sb s u (fun p hp hd => hno p (List.mem_cons_of_mem _ hp) hd) e
  · intro p hp hd hs q hpq; rcases cons hp with rfl | hp
    · exact hq' hs q hpq
    · exact hq p hp hd hs q hpq
  · intro p hp hd hs x hx; rcases cons hp with rfl | hp
    · obtain ⟨rfl, cs, mk, k1, k2, k3⟩ := ha' hs x hx
      exact ⟨I.step.size, I.rel.unm (Nat.le_refl _), cs, mk, k1, k2, k3⟩
    · obtain ⟨k1, k2, cs, mk, k3, k4, k5⟩ := I.as p hp hd hs x hx
      exact ⟨k1, k2, cs, mk, k3, k4, by rw [ha p hp hd hs x hx]; exact k5⟩
  · have hlt : ∀ p, p ∈ log → ¬ D p.d.idx → p.skip = false → (∃ x, p.d.so.op = .a x) → p.o < h.size := by
      rintro p hp hd hs ⟨x, hx⟩
      obtain ⟨_, _, cs, mk, _, _, k5⟩ := I.as p hp hd hs x hx
      exact Heap.get_lt k5
    intro p q hp hq hd1 hd2 h1 h2 a1 a2 hne
    rcases cons hp with rfl | hp <;> rcases cons hq with rfl | hq
    · exact absurd rfl hne
    · obtain ⟨x, hx⟩ := a1; have := (ha' h1 x hx).1; have := hlt q hq hd2 h2 a2; simp only; omega
    · obtain ⟨x, hx⟩ := a2; have := (ha' h2 x hx).1; have := hlt p hp hd1 h1 a1; simp only; omega
    · exact I.ai p q hp hq hd1 hd2 h1 h2 a1 a2 hne
  · intro p hp hd; rcases cons hp with rfl | hp
    · exact hg
    · exact I.gd p hp hd
  · intro p hp hs; rcases cons hp with rfl | hp
    · exact hk hs
    · exact I.sk p hp hs
  · intro p hp; rcases cons hp with rfl | hp
    · exact ⟨op, hop, hsl⟩
    · exact I.slim p hp

theorem Run.norm : ∀ (ds : List DOper) {log : List LE} {pend : List PE} {m : Map} {h : Heap} {a : Act} {w : World}, Run P W0 N dl ms hs E0 ops K D log pend ds m h a w →
    ∃ log' pend' ds' h', Run P W0 N dl ms hs E0 ops K D log' pend' ds' m h' a w ∧ Normal E0 log' ds' := by
  intro ds
  induction ds with
  | nil => intro log pend m h a w R; exact ⟨log, pend, [], h, R, .inl rfl⟩
  | cons d t ih =>
    intro log pend m h a w R
    have I := R.inv
    obtain ⟨op, hop, hsl⟩ := R.sl d (List.mem_cons_self ..)
    have hnd := R.nd d (List.mem_cons_self ..)
    have hok2 := R.ok
    simp only [okAll, Bool.and_eq_true] at hok2
    obtain ⟨ok1, ok2⟩ := hok2
    have hop2 : ops.toList[d.idx]? = some op := by simpa using hop
    rw [hop2] at ok1
    have hok := OkAt.of ok1
    have H := R.H
    have covT : ∀ (e : LE), e.d = d → ∀ i, i < ops.size → (∃ p, p ∈ e :: log ∧ p.d.idx = i) ∨ ∃ d', d' ∈ t ∧ d'.idx = i := by
      intro e he i hi
      rcases R.cov i hi with ⟨p, hp, e1⟩ | ⟨d', hd', e1⟩
      · exact .inl ⟨p, List.mem_cons_of_mem _ hp, e1⟩
      · rcases List.mem_cons.mp hd' with rfl | hd'
        · exact .inl ⟨e, List.mem_cons_self .., by rw [he]; exact e1⟩
        · exact .inr ⟨d', hd', e1⟩
    simp only [DOps] at H
    split at H
    · exact H.elim
    · rename_i hg
      refine ih (log := ⟨d, envOf E0 log, Go.undef, 0, true⟩ :: log) ⟨I.tell hop hok hsl hnd (fun _ => rfl) hg (fun _ => rfl) I.rel I.step I.qs (fun h => by cases h) (fun _ _ _ _ _ _ => rfl) (fun h => by cases h), ok2,
        fun x hx => R.sl x (List.mem_cons_of_mem _ hx), fun x hx => R.nd x (List.mem_cons_of_mem _ hx), ?_, covT _ rfl, H⟩
      intro p hp hs q hq hl
      rcases List.mem_cons.mp hp with rfl | hp
      · cases hs
      · exact R.pd p hp hs q hq hl
    · rename_i hg
      split at H
      · rename_i q hq
        obtain ⟨v, hv, H⟩ := H
        refine ih (log := ⟨d, envOf E0 log, v, 0, false⟩ :: log) ⟨I.tell hop hok hsl hnd (fun h => by rw [hq] at h; cases h) hg (fun h => by cases h) I.rel I.step I.qs (fun _ q' hq' => by rw [hq] at hq'; cases hq'; exact hv)
            (fun _ _ _ _ _ _ => rfl) (fun _ x hx => by rw [hq] at hx; cases hx), ok2,
          fun x hx => R.sl x (List.mem_cons_of_mem _ hx), fun x hx => R.nd x (List.mem_cons_of_mem _ hx), ?_, covT _ rfl, H⟩
        intro p hp hs q' hq' hl
        rcases List.mem_cons.mp hp with rfl | hp
        · rw [hq] at hq'; cases hq'
          unfold pendQ; rw [if_pos hl]; exact List.mem_cons_self ..
        · have := R.pd p hp hs q' hq' hl
          unfold pendQ; split
          · exact List.mem_cons_of_mem _ this
          · exact this
      · rename_i x hx
        obtain ⟨⟨cs, mk⟩, hv, H⟩ := H
        have hlt : ∀ p, p ∈ log → ¬ D p.d.idx → p.skip = false → ∀ x, p.d.so.op = .a x → p.o < h.size := by
          intro p hp hd hs y hy
          obtain ⟨_, _, cs, mk, _, _, k5⟩ := I.as p hp hd hs y hy
          exact Heap.get_lt k5
        refine ih (log := ⟨d, envOf E0 log, mk h.size, h.size, false⟩ :: log) ⟨I.tell hop hok hsl hnd (fun h => by rw [hx] at h; cases h) hg (fun h => by cases h) (I.rel.moreAlloc cs)
            ⟨Nat.le_trans I.step.size (by rw [Heap.size_alloc]; omega), I.step.old, fun i hi hn => by rw [Heap.get_alloc_old _ _ (Nat.lt_of_lt_of_le hi I.step.size)]; exact I.step.unm i hi hn⟩
            (fun p hp hd hs q hq => QOp.ev_alloc (I.qs p hp hd hs q hq) cs) (fun _ q hq => by rw [hx] at hq; cases hq) (fun p hp hd hs y hy => Heap.get_alloc_old _ _ (hlt p hp hd hs y hy))
            (fun _ y hy => by rw [hx] at hy; cases hy; exact ⟨rfl, cs, mk, hv, rfl, Heap.get_alloc_new h cs⟩), ok2,
          fun x hx => R.sl x (List.mem_cons_of_mem _ hx), fun x hx => R.nd x (List.mem_cons_of_mem _ hx), ?_, covT _ rfl, H⟩
        intro p hp hs q' hq' hl
        rcases List.mem_cons.mp hp with rfl | hp
        · rw [hx] at hq'; cases hq'
        · exact R.pd p hp hs q' hq' hl
      · rename_i x hx
        exact ⟨log, pend, d :: t, h, R, .inr ⟨d, t, x, rfl, hx, hg⟩⟩

theorem rechk_mem {h : Heap} {chk : List Nat} : ∀ {pend : List PE}, rechk h chk pend → ∀ e, e ∈ pend → e.idx ∈ chk → e.q.ev e.E h = some e.v := by
  intro pend
  induction pend with
  | nil => intro _ e he; cases he
  | cons x l ih =>
    intro H e he hc
    rcases List.mem_cons.mp he with rfl | he
    · exact H.1 hc
    · exact ih H.2 e he hc

/-- A writing operation is done. -/
theorem Inv.eff {log : List LE} {m : Map} {h : Heap} {a : Act} {w : World} (I : Inv P W0 N dl ms hs E0 ops D log m h a w) {pend : List PE}
    (pd : ∀ p, p ∈ log → p.skip = false → ∀ q, p.d.so.op = .q q → q.loads = true → (⟨p.d.idx, p.E, q, p.v⟩ : PE) ∈ pend) {d : DOper} {op : Oper} {x : EOp}
    (hx : d.so.op = .e x) (hop : ops[d.idx]? = some op) (hok : OkAt (depsOf op) (log.map (·.d)) d) (hsl : slimOper P N ops.toList op = some d.so) (hnd : ¬ D d.idx) (hbef : ∀ j, j ∈ d.bef → D j)
    {m' : Map} {h' : Heap} {w' : World} {v v' : Value} (rel : Rel W0 m' h' w') (s : Step m h m' h') (hv : ∀ k, d.so.dst = some k → VR m' v v') (hr : rechk h' d.chk pend) :
    Inv P W0 N dl ms hs E0 ops (fun k => k = d.idx ∨ D k) (⟨d, envOf E0 log, v, 0, false⟩ :: log) m' h' (a.put d.so.dst v') w' := by
  obtain ⟨hd1, hd2, _⟩ := slimOper_dst hsl
  have hle := s.le I.rel
  have hdn : ∀ k, d.so.dst = some k → k < N := by intro k hk; rw [hd1] at hk; rw [hk] at hd2; simpa using hd2
  have cons : ∀ {p : LE}, p ∈ (⟨d, envOf E0 log, v, 0, false⟩ : LE) :: log → p = ⟨d, envOf E0 log, v, 0, false⟩ ∨ p ∈ log := fun hp => List.mem_cons.mp hp
  have hne : ∀ p, p ∈ log → p.d.idx ≠ d.idx := fun p hp => hok.ne _ (List.mem_map.mpr ⟨p, hp, rfl⟩)
  have dl : ∀ p, p ∈ log → (p.d.idx = d.idx ∨ D p.d.idx) → D p.d.idx := fun p hp hd => hd.resolve_left (hne p hp)
  refine ⟨⟨rfl, ⟨op, by simpa using hop, hok⟩, I.lok⟩, rel, I.step.trans s, by rw [put_defers]; exact I.nod, by rw [put_size]; exact I.size, ?_, ?_, ?_, ?_, ?_, ?_, ?_, ?_, ?_, ?_, ?_⟩
  · rintro i hi (rfl | hd)
    · exact ⟨_, List.mem_cons_self .., rfl⟩
    · obtain ⟨p, hp, e⟩ := I.din i hi hd; exact ⟨p, List.mem_cons_of_mem _ hp, e⟩
  · intro p hp hd j hj; rcases cons hp with rfl | hp
    · exact .inr (hbef j hj)
    · exact .inr (I.dcl p hp (dl p hp hd) j hj)
  · intro p hp he hs; rcases cons hp with rfl | hp
    · exact .inl rfl
    · exact .inr (I.edone p hp he hs)
  · intro p hp hd k hk; rcases cons hp with rfl | hp
    · refine ⟨v', ?_, hv k hk⟩
      simp only at hk; rw [hk]; exact put_same rfl (by rw [I.size]; exact hdn k hk)
    · obtain ⟨u, e1, r1⟩ := I.sa p hp (dl p hp hd) k hk
      exact ⟨u, by rw [put_get (hok.dst _ (List.mem_map.mpr ⟨p, hp, rfl⟩) k hk)]; exact e1, r1.mono hle⟩
  · intro k u hno e
    obtain ⟨u', e1, r1⟩ := I.sb k u (fun p hp hd => hno p (List.mem_cons_of_mem _ hp) (.inr hd)) e
    exact ⟨u', by rw [put_get (hno _ (List.mem_cons_self ..) (.inl rfl))]; exact e1, r1.mono hle⟩
  · intro p hp hd hk q hq; rcases cons hp with rfl | hp
    · exact absurd (.inl rfl) hd
    · have hd' : ¬ D p.d.idx := fun e => hd (.inr e)
      cases hl : q.loads with
      | false => rw [← QOp.ev_still hl p.E h]; exact I.qs p hp hd' hk q hq
      | true =>
        rcases hok.chk (by rw [hx]; rfl) _ (List.mem_map.mpr ⟨p, hp, rfl⟩) (by rw [hq]; exact hl) with hb | hc
        · exact absurd (hbef _ hb) hd'
        · exact rechk_mem hr _ (pd p hp hk q hq hl) hc
  · intro p hp hd hk y hy; rcases cons hp with rfl | hp
    · exact absurd (.inl rfl) hd
    · obtain ⟨k1, k2, cs, mk, k3, k4, k5⟩ := I.as p hp (fun e => hd (.inr e)) hk y hy
      have hlt := Heap.get_lt k5
      exact ⟨k1, by rw [s.old _ hlt]; exact k2, cs, mk, k3, k4, by rw [s.unm _ hlt k2]; exact k5⟩
  · intro p q hp hq hd1 hd2; rcases cons hp with rfl | hp <;> rcases cons hq with rfl | hq
    · exact absurd (.inl rfl) hd1
    · exact absurd (.inl rfl) hd1
    · exact absurd (.inl rfl) hd2
    · exact I.ai p q hp hq (fun e => hd1 (.inr e)) (fun e => hd2 (.inr e))
  · intro p hp hd; rcases cons hp with rfl | hp
    · exact absurd (.inl rfl) hd
    · exact I.gd p hp (fun e => hd (.inr e))
  · intro p hp hs; rcases cons hp with rfl | hp
    · cases hs
    · exact I.sk p hp hs
  · intro p hp; rcases cons hp with rfl | hp
    · exact ⟨op, hop, hsl⟩
    · exact I.slim p hp

theorem dr_sound (Q : Go.Exit → Act → World → Prop) (hK : ∀ m E h a w, At W0 N dl ms hs m E h a w → K E h → Q .normal a w) {L : List Nat} (hL : Lin ops D L) :
    (∀ i, ops.size ≤ i → D i) → ∀ (log : List LE) (pend : List PE) (ds : List DOper) (m : Map) (h : Heap) (a : Act) (w : World), Run P W0 N dl ms hs E0 ops K D log pend ds m h a w → Normal E0 log ds → wpOps P ops Q L a w := by
  induction hL with
  | nil D hall =>
    intro _ log pend ds m h a w R hn
    have I := R.inv
    have hds : ds = [] := by
      rcases hn with h | ⟨d, t, x, rfl, _, _⟩
      · exact h
      · obtain ⟨o, ho, _⟩ := R.sl d (List.mem_cons_self ..)
        exact absurd (hall _ (Array.getElem?_eq_some_iff.mp ho).1) (R.nd d (List.mem_cons_self ..))
    subst hds
    have H : K (envOf E0 log) h := R.H
    refine hK m (envOf E0 log) h a w ⟨I.rel, ⟨I.size, fun s v e => ?_⟩, I.nod, I.step⟩ H
    have hD : ∀ p, p ∈ log → D p.d.idx := fun p hp => by obtain ⟨o, ho, _⟩ := I.slim p hp; exact hall _ (Array.getElem?_eq_some_iff.mp ho).1
    rcases envOf_get e with ⟨p, hp, h1, rfl⟩ | ⟨h1, h2⟩
    · exact I.sa p hp (hD p hp) s h1
    · exact I.sb s v (fun p hp _ => h1 p hp) h2
  | cons D i o l ho hnd hdeps hl ih =>
    intro hout log pend ds m h a w R hn
    have I := R.inv
    have hi := (Array.getElem?_eq_some_iff.mp ho).1
    have hout' : ∀ k, ops.size ≤ k → k = i ∨ D k := fun k hk => .inr (hout k hk)
    simp only [wpOps, ho]
    by_cases hin : ∃ p, p ∈ log ∧ p.d.idx = i
    · obtain ⟨p, hp, rfl⟩ := hin
      have key := I.told hp hnd ho hdeps Q (wpOps P ops Q l) (fun m' a' w' I' => by
        refine ih hout' log pend ds m' h a' w' ⟨I', R.ok, R.sl, fun d hd => ?_, R.pd, R.cov, R.H⟩ hn
        rintro (e | e)
        · obtain ⟨o', _, pre', hok, h1, _, _⟩ := okAll_at ds _ R.ok d hd
          exact hok.ne _ (h1 _ (List.mem_map.mpr ⟨p, hp, rfl⟩)) e.symm
        · exact R.nd d hd e)
      rcases key with ⟨hw, hg⟩ | ⟨hw, hg⟩
      · rw [if_pos hw]; exact .inl hg
      · rw [if_neg (by simp [hw])]; exact hg
    · -- it is the next that writes
      have hdin : ∃ d, d ∈ ds ∧ d.idx = i := (R.cov i hi).resolve_left hin
      obtain ⟨d, hd, rfl⟩ := hdin
      obtain ⟨o', ho', pre', hok, h1, h2, h3⟩ := okAll_at ds _ R.ok d hd
      have ho2 : ops.toList[d.idx]? = some o := by simpa using ho
      rw [ho2] at ho'; cases ho'
      have hbef : ∀ j, j ∈ d.bef → D j := by
        intro b hb
        rcases hok.bef b hb with h | ⟨j, hj, p, hp, rfl, hb⟩
        · exact hdeps b h
        · rcases h2 p hp with hp | hp
          · obtain ⟨e, he, rfl⟩ := List.mem_map.mp hp; exact I.dcl e he (hdeps _ hj) b hb
          · exact absurd (hdeps _ hj) (R.nd p hp)
      rcases hn with rfl | ⟨d0, t, x, rfl, hx, hg⟩
      · cases hd
      · have hd0 : d = d0 := by
          rcases List.mem_cons.mp hd with h | h
          · exact h
          · exact absurd (hbef _ (hok.eff d0 (h3 d0 t rfl h) (by rw [hx]; rfl))) (R.nd d0 (List.mem_cons_self ..))
        subst hd0
        obtain ⟨o2, ho3, hsl⟩ := R.sl d (List.mem_cons_self ..)
        rw [ho] at ho3; cases ho3
        have hok2 := R.ok
        simp only [okAll, Bool.and_eq_true] at hok2
        obtain ⟨ok1, ok2⟩ := hok2
        rw [ho2] at ok1
        have hokd := OkAt.of ok1
        obtain ⟨hd1, hd2, _⟩ := slimOper_dst hsl
        have er : ER N m ((envOf E0 log).keep d.so.reads) a.tmps :=
          I.er (fun p hp => hp) (fun p hp s hs hds => hbef _ (hokd.rw _ (List.mem_map.mpr ⟨p, hp, rfl⟩) s hds hs)) (fun q hq _ _ _ _ => hq)
        have H := R.H
        simp only [DOps, hg, hx] at H
        have H2 := AOne_same (K' := fun E2 h2 => ∃ v, E2 = putD d.so.dst v ((envOf E0 log).keep d.so.reads) ∧ rechk h2 d.chk pend ∧ DOps P t pend K (putD d.so.dst v (envOf E0 log)) h2)
          (Env.same_keep (envOf E0 log) d.so.reads) (fun v h' k => ⟨v, rfl, k⟩) H
        have key := one_core hsl I.rel er I.nod H2 Q (wpOps P ops Q l) (fun {m' h' w' v v'} r s rv k => by
          obtain ⟨v0, k0, k1, k2⟩ := k
          rw [← hd1]
          have I' := I.eff R.pd hx ho hokd hsl (R.nd d (List.mem_cons_self ..)) hbef r s (v := v0) (v' := v') (fun q hq => by
            rw [hq] at k0; simp only [putD, List.cons.injEq, Prod.mk.injEq] at k0; rw [← k0.1.2]; exact rv) k1
          obtain ⟨log', pend', ds', h2, R2, hn2⟩ := Run.norm (P := P) (K := K) t (log := ⟨d, envOf E0 log, v0, 0, false⟩ :: log) (pend := pend)
            ⟨I', ok2, fun x hx => R.sl x (List.mem_cons_of_mem _ hx), fun x hx => by
                rintro (e | e)
                · obtain ⟨o9, _, pre9, hok9, _, _, h9⟩ := okAll_at (d :: t) _ R.ok x (List.mem_cons_of_mem _ hx)
                  exact hok9.ne _ (h9 d t rfl hx) e.symm
                · exact R.nd x (List.mem_cons_of_mem _ hx) e,
              fun p hp hs q hq hl => by
                rcases List.mem_cons.mp hp with rfl | hp
                · simp only at hq; rw [hx] at hq; cases hq
                · exact R.pd p hp hs q hq hl,
              fun j hj => by
                rcases R.cov j hj with ⟨p, hp, e⟩ | ⟨d', hd', e⟩
                · exact .inl ⟨p, List.mem_cons_of_mem _ hp, e⟩
                · rcases List.mem_cons.mp hd' with rfl | hd'
                  · exact .inl ⟨_, List.mem_cons_self .., e⟩
                  · exact .inr ⟨d', hd', e⟩, k2⟩
          exact ih hout' log' pend' ds' m' h2 _ w' R2 hn2)
        rcases key with ⟨hw, hg⟩ | ⟨hw, hg⟩
        · rw [if_pos hw]; exact .inl hg
        · rw [if_neg (by simp [hw])]; exact hg
end
end Go.Ah
