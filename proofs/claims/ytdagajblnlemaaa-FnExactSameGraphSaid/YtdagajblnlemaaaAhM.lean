import Derived.Test.YtdagajblnlemaaaAhL
set_option linter.unusedVariables false
set_option linter.unusedSimpArgs false
namespace Go.Ah
open Go Go.RowKit

theorem AOne_same {P : Program} {o : SOper} {K K' : Env → Heap → Prop} {E E' : Env} {h : Heap} (hs : Same o.reads E E') (hK : ∀ v h', K (putD o.dst v E) h' → K' (putD o.dst v E') h')
    (H : AOne P o K E h) : AOne P o K' E' h := by
  have hop : Same o.op.reads E E' := hs.sub fun s h => by simp [SOper.reads]; exact .inr h
  unfold AOne at H ⊢
  rw [← guardV_same hs]
  split at H
  · exact H
  · exact hK _ _ H
  · split at H
    · rename_i q hq
      rw [hq] at hop; obtain ⟨v, h1, h2⟩ := H
      exact ⟨v, by rw [← QOp.ev_same h hop]; exact h1, hK _ _ h2⟩
    · rename_i q hq
      rw [hq] at hop; obtain ⟨v, h1, h2⟩ := H
      exact ⟨v, by rw [← AOp.ev_same hop]; exact h1, hK _ _ h2⟩
    · rename_i n x y hq
      rw [hq] at hop; obtain ⟨p, v, h', h1, h2, h3, h4⟩ := H
      exact ⟨p, v, h', by rw [← Opd.val_same (hop.sub fun s h => by simp [SOp.reads, EOp.reads]; exact .inl h)]; exact h1,
        by rw [← Opd.val_same (hop.sub fun s h => by simp [SOp.reads, EOp.reads]; exact .inr h)]; exact h2, h3, hK _ _ h4⟩
    · rename_i b n x y hq
      rw [hq] at hop; obtain ⟨p, v, h', h1, h2, h3, h4⟩ := H
      exact ⟨p, v, h', by rw [← Opd.val_same (hop.sub fun s h => by simp [SOp.reads, EOp.reads]; exact .inl h)]; exact h1,
        by rw [← Opd.val_same (hop.sub fun s h => by simp [SOp.reads, EOp.reads]; exact .inr h)]; exact h2, h3, hK _ _ h4⟩
    · rename_i n x y hq
      rw [hq] at hop; obtain ⟨p, v, h', h1, h2, h3, h4⟩ := H
      exact ⟨p, v, h', by rw [← Opd.val_same (hop.sub fun s h => by simp [SOp.reads, EOp.reads]; exact .inl h)]; exact h1,
        by rw [← Opd.val_same (hop.sub fun s h => by simp [SOp.reads, EOp.reads]; exact .inr h)]; exact h2, h3, hK _ _ h4⟩
    · rename_i x hq
      rw [hq] at hop; obtain ⟨p, v, h1, h2, h3⟩ := H
      exact ⟨p, v, by rw [← Opd.val_same (hop.sub fun s h => by simp [SOp.reads, EOp.reads]; exact h)]; exact h1, h2, hK _ _ h3⟩
    · rename_i f l hq
      rw [hq] at hop; obtain ⟨vs, h1, h2⟩ := H
      refine ⟨vs, by rw [← Opd.vals_same hop]; exact h1, fun W0 m w args' r va => ?_⟩
      obtain ⟨v', v, e1, e2, e3⟩ := h2 W0 m w args' r va
      exact ⟨v', v, e1, e2, hK _ _ e3⟩
    · rename_i f l hq
      rw [hq] at hop; obtain ⟨vs, h1, h2⟩ := H
      exact ⟨vs, by rw [← Opd.vals_same hop]; exact h1, h2.mono fun v h' k => hK _ _ k⟩
    · rename_i x l hq
      rw [hq] at hop; obtain ⟨vs, f, cap, h1, h2, h3, h4⟩ := H
      exact ⟨vs, f, cap, by rw [← Opd.vals_same (hop.sub fun s h => by simp [SOp.reads, EOp.reads]; exact .inr h)]; exact h1,
        by rw [← Opd.val_same (hop.sub fun s h => by simp [SOp.reads, EOp.reads]; exact .inl h)]; exact h2, h3, h4.mono fun v h' k => hK _ _ k⟩

/-! ### A row whose order is open -/
structure DOper where
  idx : Nat
  so : SOper
  bef : List Nat
  chk : List Nat
structure PE where
  idx : Nat
  E : Env
  q : QOp
  v : Value
def rechk (h : Heap) (chk : List Nat) : List PE → Prop
  | [] => True
  | e :: l => (e.idx ∈ chk → e.q.ev e.E h = some e.v) ∧ rechk h chk l
def pendQ (d : DOper) (E : Env) (q : QOp) (v : Value) (pend : List PE) : List PE := if q.loads = true then ⟨d.idx, E, q, v⟩ :: pend else pend

def DOps (P : Program) : List DOper → List PE → (Env → Heap → Prop) → Env → Heap → Prop
  | [], _, K, E, h => K E h
  | d :: ds, pend, K, E, h => match guardV d.so.guard E with
    | none => False
    | some false => DOps P ds pend K (putD d.so.dst undef E) h
    | some true => match d.so.op with
      | .q q => ∃ v, q.ev E h = some v ∧ DOps P ds (pendQ d E q v pend) K (putD d.so.dst v E) h
      | .a a => ∃ c, a.ev E = some c ∧ DOps P ds pend K (putD d.so.dst (c.2 h.size) E) (h.alloc c.1)
      | .e _ => AOne P d.so (fun E' h' => rechk h' d.chk pend ∧ DOps P ds pend K E' h') E h

def SOp.isE : SOp → Bool | .e _ => true | _ => false
def SOp.isLd : SOp → Bool | .q x => x.loads | _ => false
/-- What must be so of an operation, given those ahead of it. -/
def okAt (deps : List Nat) (pre : List DOper) (d : DOper) : Bool :=
  d.bef.all (fun b => (deps.contains b || deps.any fun j => pre.any fun p => p.idx == j && p.bef.contains b)) &&
  deps.all (fun j => pre.any fun p => p.idx == j) &&
  !d.so.reads.any (fun s => d.so.dst == some s) &&
  pre.all fun p => p.idx != d.idx && (!p.so.op.isE || d.bef.contains p.idx) && (p.so.dst.isNone || p.so.dst != d.so.dst) &&
    (!d.so.reads.any (fun s => p.so.dst == some s) || d.bef.contains p.idx) && (!p.so.reads.any (fun s => d.so.dst == some s) || d.bef.contains p.idx) &&
    (!d.so.op.isE || !p.so.op.isLd || d.bef.contains p.idx || d.chk.contains p.idx)
def okAll (ops : List Oper) : List DOper → List DOper → Bool
  | _, [] => true
  | pre, d :: ds => (match ops[d.idx]? with | some o => okAt (depsOf o) pre d | none => false) && okAll ops (d :: pre) ds

structure OkAt (deps : List Nat) (pre : List DOper) (d : DOper) : Prop where
  bef : ∀ b, b ∈ d.bef → b ∈ deps ∨ ∃ j, j ∈ deps ∧ ∃ p, p ∈ pre ∧ p.idx = j ∧ b ∈ p.bef
  deps : ∀ j, j ∈ deps → ∃ p, p ∈ pre ∧ p.idx = j
  self : ∀ s, s ∈ d.so.reads → d.so.dst ≠ some s
  ne : ∀ p, p ∈ pre → p.idx ≠ d.idx
  eff : ∀ p, p ∈ pre → p.so.op.isE = true → p.idx ∈ d.bef
  dst : ∀ p, p ∈ pre → ∀ s, p.so.dst = some s → d.so.dst ≠ some s
  rw : ∀ p, p ∈ pre → ∀ s, p.so.dst = some s → s ∈ d.so.reads → p.idx ∈ d.bef
  wr : ∀ p, p ∈ pre → ∀ s, d.so.dst = some s → s ∈ p.so.reads → p.idx ∈ d.bef
  chk : d.so.op.isE = true → ∀ p, p ∈ pre → p.so.op.isLd = true → p.idx ∈ d.bef ∨ p.idx ∈ d.chk
theorem OkAt.of {deps : List Nat} {pre : List DOper} {d : DOper} (h : okAt deps pre d = true) : OkAt deps pre d := by
  unfold okAt at h
  simp only [Bool.and_eq_true, List.all_eq_true, Bool.or_eq_true, List.contains_iff_mem, List.any_eq_true, beq_iff_eq, Bool.not_eq_true', List.any_eq_false, bne_iff_ne, ne_eq, Option.isNone_iff_eq_none] at h
  obtain ⟨⟨⟨h1, h2⟩, h3⟩, h4⟩ := h
  refine ⟨fun b hb => ?_, fun j hj => ?_, fun s hs => h3 s hs, fun p hp => (h4 p hp).1.1.1.1.1, fun p hp he => ?_, fun p hp s hs hd => ?_, fun p hp s hs hr => ?_, fun p hp s hs hr => ?_, fun he p hp hl => ?_⟩
  · rcases h1 b hb with h | ⟨j, hj, p, hp, e, hb⟩
    · exact .inl h
    · exact .inr ⟨j, hj, p, hp, e, hb⟩
  · obtain ⟨p, hp, e⟩ := h2 j hj; exact ⟨p, hp, e⟩
  · rcases (h4 p hp).1.1.1.1.2 with h | h
    · rw [he] at h; cases h
    · exact h
  · rcases (h4 p hp).1.1.1.2 with h | h
    · rw [hs] at h; cases h
    · exact h (hs.trans hd.symm)
  · rcases (h4 p hp).1.1.2 with h | h
    · exact absurd hs (h s hr)
    · exact h
  · rcases (h4 p hp).1.2 with h | h
    · exact absurd hs (h s hr)
    · exact h
  · rcases (h4 p hp).2 with ((h | h) | h) | h
    · rw [he] at h; cases h
    · rw [hl] at h; cases h
    · exact .inl h
    · exact .inr h

/-- What has been told so far. -/
structure LE where
  d : DOper
  E : Env
  v : Value
  o : Nat
  skip : Bool
def envOf (E0 : Env) : List LE → Env
  | [] => E0
  | e :: l => putD e.d.so.dst e.v (envOf E0 l)
def LogOk (E0 : Env) (ops : List Oper) : List LE → Prop
  | [] => True
  | e :: l => e.E = envOf E0 l ∧ (∃ o, ops[e.d.idx]? = some o ∧ OkAt (depsOf o) (l.map (·.d)) e.d) ∧ LogOk E0 ops l

theorem envOf_get {E0 : Env} {l : List LE} {s : Nat} {v : Value} (h : (envOf E0 l).get s = some v) :
    (∃ p, p ∈ l ∧ p.d.so.dst = some s ∧ p.v = v) ∨ ((∀ p, p ∈ l → p.d.so.dst ≠ some s) ∧ E0.get s = some v) := by
  induction l with
  | nil => exact .inr ⟨fun p hp => (by cases hp), h⟩
  | cons e l ih =>
    simp only [envOf] at h
    cases hd : e.d.so.dst with
    | none =>
      rw [hd] at h; simp only [putD] at h
      rcases ih h with ⟨p, hp, h1, h2⟩ | ⟨h1, h2⟩
      · exact .inl ⟨p, List.mem_cons_of_mem _ hp, h1, h2⟩
      · refine .inr ⟨fun p hp => ?_, h2⟩
        rcases List.mem_cons.mp hp with rfl | hp
        · rw [hd]; exact fun h => by cases h
        · exact h1 p hp
    | some k =>
      rw [hd] at h; simp only [putD, Env.get] at h
      split at h
      · rename_i hk; subst hk; cases h; exact .inl ⟨e, List.mem_cons_self .., hd, rfl⟩
      · rename_i hk
        rcases ih h with ⟨p, hp, h1, h2⟩ | ⟨h1, h2⟩
        · exact .inl ⟨p, List.mem_cons_of_mem _ hp, h1, h2⟩
        · refine .inr ⟨fun p hp => ?_, h2⟩
          rcases List.mem_cons.mp hp with rfl | hp
          · rw [hd]; exact fun h => hk (by injection h)
          · exact h1 p hp

/-- An entry and what was told ahead of it. -/
theorem LogOk.at {E0 : Env} {ops : List Oper} {l : List LE} (h : LogOk E0 ops l) {p : LE} (hp : p ∈ l) : ∃ l1 l2, l = l1 ++ p :: l2 ∧ p.E = envOf E0 l2 ∧ LogOk E0 ops l2 ∧
    (∃ o, ops[p.d.idx]? = some o ∧ OkAt (depsOf o) (l2.map (·.d)) p.d) ∧
    ∀ q, q ∈ l1 → ∃ o, ops[q.d.idx]? = some o ∧ ∃ pre, OkAt (depsOf o) pre q.d ∧ p.d ∈ pre := by
  induction l with
  | nil => cases hp
  | cons e l ih =>
    obtain ⟨h1, h2, h3⟩ := h
    rcases List.mem_cons.mp hp with rfl | hp
    · exact ⟨[], l, rfl, h1, h3, h2, fun q hq => by cases hq⟩
    · obtain ⟨l1, l2, hl, k1, k2, k3, k4⟩ := ih h3 hp
      refine ⟨e :: l1, l2, by rw [hl]; rfl, k1, k2, k3, fun q hq => ?_⟩
      rcases List.mem_cons.mp hq with rfl | hq
      · obtain ⟨o, ho, hok⟩ := h2; exact ⟨o, ho, _, hok, List.mem_map.mpr ⟨p, ‹p ∈ l›, rfl⟩⟩
      · exact k4 q hq
end Go.Ah
