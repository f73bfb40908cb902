import Derived.Test.YtdagajblnlemaaaAhK
set_option linter.unusedVariables false
set_option linter.unusedSimpArgs false
namespace Go.Ah
open Go Go.RowKit

/-! ### What an operation reads -/
def Opd.reads : Opd → List Nat | .t s => [s] | _ => []
def oreads : Option Opd → List Nat | some o => o.reads | none => []
def lreads (l : List Opd) : List Nat := l.flatMap Opd.reads
def preads (l : List (Nat × Nat × Opd)) : List Nat := l.flatMap fun p => p.2.2.reads
def QOp.reads : QOp → List Nat
  | .mv x | .ld x | .ldn _ x | .nil x | .not x | .neg x | .cvi _ x | .cvf _ x | .fa _ x | .ext x _ | .len x | .lens x | .cap x | .cbs x => x.reads
  | .pick c a b => c.reads ++ a.reads ++ b.reads
  | .build _ p => preads p
  | .bin _ x y | .eqb _ x y | .eqs _ x y | .ia _ x y | .iaa _ _ x y | .iva _ x y | .ivs x y | .mx x y | .mn x y | .eqi _ _ x y => x.reads ++ y.reads
  | .bad => []
  | .slc _ x l h | .sls x l h => x.reads ++ oreads l ++ oreads h
  | .mkf _ c => lreads c
def QOp.loads : QOp → Bool | .ld _ | .ldn .. | .cbs _ => true | _ => false
def AOp.reads : AOp → List Nat
  | .new _ => [] | .box x | .csb x => x.reads | .bsl _ _ _ p => preads p | .mks _ _ _ l c | .gro _ _ l c => l.reads ++ c.reads
def EOp.reads : EOp → List Nat
  | .st _ a x | .app _ _ a x | .cpy _ a x => a.reads ++ x.reads | .cnv x => x.reads | .xt _ l => lreads l | .call _ l => lreads l | .callv x l => x.reads ++ lreads l
def SOp.reads : SOp → List Nat | .q o => o.reads | .a o => o.reads | .e o => o.reads
def SOper.reads (o : SOper) : List Nat := (match o.guard with | some (s, _) => [s] | none => []) ++ o.op.reads

def Same (l : List Nat) (E E' : Env) : Prop := ∀ s, s ∈ l → E.get s = E'.get s
theorem Same.sub {l l' : List Nat} {E E' : Env} (h : Same l E E') (k : ∀ s, s ∈ l' → s ∈ l) : Same l' E E' := fun s hs => h s (k s hs)
theorem Opd.val_same {x : Opd} {E E' : Env} (h : Same x.reads E E') : x.val E = x.val E' := by
  cases x with
  | t s => exact h s (by simp [Opd.reads])
  | c v => rfl
  | f i => rfl
theorem Opd.optV_same {x : Option Opd} {E E' : Env} (h : Same (oreads x) E E') : Opd.optV E x = Opd.optV E' x := by
  cases x with
  | none => rfl
  | some x => simp only [Opd.optV]; rw [Opd.val_same h]
theorem Opd.vals_same {l : List Opd} {E E' : Env} (h : Same (lreads l) E E') : Opd.vals E l = Opd.vals E' l := by
  induction l with
  | nil => rfl
  | cons x t ih =>
    simp only [Opd.vals]
    rw [Opd.val_same (h.sub fun s hs => by simp [lreads]; exact .inl hs), ih (h.sub fun s hs => by simp [lreads] at hs ⊢; exact .inr hs)]
theorem valsP_same {l : List (Nat × Nat × Opd)} {E E' : Env} (h : Same (preads l) E E') : valsP E l = valsP E' l := by
  induction l with
  | nil => rfl
  | cons x t ih =>
    obtain ⟨a, b, x⟩ := x
    simp only [valsP]
    rw [Opd.val_same (h.sub fun s hs => by simp [preads]; exact .inl hs), ih (h.sub fun s hs => by simp [preads] at hs ⊢; exact .inr hs)]
theorem QOp.ev_same {q : QOp} {E E' : Env} (h : Heap) (hs : Same q.reads E E') : q.ev E h = q.ev E' h := by
  cases q <;> simp only [QOp.reads] at hs <;> simp only [QOp.ev]
  case pick c a b =>
    rw [Opd.val_same (hs.sub fun s h => by simp; exact .inl h), Opd.val_same (hs.sub fun s h => by simp; exact .inr (.inl h)), Opd.val_same (hs.sub fun s h => by simp; exact .inr (.inr h))]
  case build z p => rw [valsP_same hs]
  case mkf f c => rw [Opd.vals_same hs]
  case slc n x l u => rw [Opd.val_same (hs.sub fun s h => by simp; exact .inl h), Opd.optV_same (hs.sub fun s h => by simp; exact .inr (.inl h)), Opd.optV_same (hs.sub fun s h => by simp; exact .inr (.inr h))]
  case sls x l u => rw [Opd.val_same (hs.sub fun s h => by simp; exact .inl h), Opd.optV_same (hs.sub fun s h => by simp; exact .inr (.inl h)), Opd.optV_same (hs.sub fun s h => by simp; exact .inr (.inr h))]
  all_goals first
    | rw [Opd.val_same hs]
    | rw [Opd.val_same (hs.sub fun s h => by simp; exact .inl h), Opd.val_same (hs.sub fun s h => by simp; exact .inr h)]
theorem AOp.ev_same {q : AOp} {E E' : Env} (hs : Same q.reads E E') : q.ev E = q.ev E' := by
  cases q <;> simp only [AOp.reads] at hs <;> simp only [AOp.ev]
  case bsl a b c p => rw [valsP_same hs]
  case gro a b l c => rw [Opd.val_same (hs.sub fun s h => by simp; exact .inl h), Opd.val_same (hs.sub fun s h => by simp; exact .inr h)]
  case mks a b z l c => rw [Opd.val_same (hs.sub fun s h => by simp; exact .inl h), Opd.val_same (hs.sub fun s h => by simp; exact .inr h)]
  all_goals rw [Opd.val_same hs]
theorem guardV_same {o : SOper} {E E' : Env} (hs : Same o.reads E E') : guardV o.guard E = guardV o.guard E' := by
  cases hg : o.guard with
  | none => rfl
  | some p =>
    obtain ⟨s, b⟩ := p
    simp only [guardV]
    rw [hs s (by simp [SOper.reads, hg])]

theorem QOp.ev_still {q : QOp} (hq : q.loads = false) (E : Env) (h h' : Heap) : q.ev E h = q.ev E h' := by
  cases q <;> simp [QOp.loads] at hq <;> rfl
theorem rd_alloc {h : Heap} {i o : Nat} {v : Value} (e : rd h i o = some v) (cs : List Value) : rd (h.alloc cs) i o = some v := by
  unfold rd at e ⊢
  split at e
  · rename_i ob hi; rw [Heap.get_alloc_old _ _ (Heap.get_lt hi), hi]; exact e
  · cases e
theorem rdn_alloc {h : Heap} {i o n : Nat} {v : List Value} (e : rdn h i o n = some v) (cs : List Value) : rdn (h.alloc cs) i o n = some v := by
  unfold rdn at e ⊢
  split at e
  · rename_i ob hi; rw [Heap.get_alloc_old _ _ (Heap.get_lt hi), hi]; exact e
  · cases e
theorem QOp.ev_alloc {q : QOp} {E : Env} {h : Heap} {v : Value} (e : q.ev E h = some v) (cs : List Value) : q.ev E (h.alloc cs) = some v := by
  cases hq : q.loads with
  | false => rw [← QOp.ev_still hq E h]; exact e
  | true =>
    cases q <;> simp [QOp.loads] at hq
    case ld x =>
      simp only [QOp.ev] at e ⊢
      obtain ⟨u, hu, e⟩ := bind_some e
      rw [hu]
      simp only [Option.bind_some]
      unfold ldV at e ⊢
      split at e
      · exact rd_alloc e cs
      · cases e
    case ldn n x =>
      simp only [QOp.ev] at e ⊢
      obtain ⟨u, hu, e⟩ := bind_some e
      rw [hu]
      simp only [Option.bind_some]
      unfold ldnV at e ⊢
      split at e
      · simp only [Option.map_eq_some_iff] at e ⊢
        obtain ⟨c, hc, rfl⟩ := e
        exact ⟨c, rdn_alloc hc cs, rfl⟩
      · cases e
    case cbs x =>
      simp only [QOp.ev] at e ⊢
      obtain ⟨u, hu, e⟩ := bind_some e
      rw [hu]
      simp only [Option.bind_some]
      unfold cbsV at e ⊢
      split at e
      · exact e
      · obtain ⟨c, hc, e⟩ := bind_some e
        simp only [rdn_alloc hc cs, Option.bind_some]
        exact e
      · cases e

/-! ### Orders of a row whose order is open -/
def depsOf (o : Oper) : List Nat := (o.after.toList.filter fun e => Region.binds .any e).map (·.on)
/-- A list of the operations in an order that the edges allow, from those that D holds of on. -/
inductive Lin (ops : Array Oper) : (Nat → Prop) → List Nat → Prop
  | nil (D : Nat → Prop) : (∀ i, i < ops.size → D i) → Lin ops D []
  | cons (D : Nat → Prop) (i : Nat) (o : Oper) (l : List Nat) : ops[i]? = some o → ¬ D i → (∀ j, j ∈ depsOf o → D j) → Lin ops (fun k => k = i ∨ D k) l → Lin ops D (i :: l)

theorem Lin.congr {ops : Array Oper} {D D' : Nat → Prop} {l : List Nat} (h : Lin ops D l) (k : ∀ i, D i ↔ D' i) : Lin ops D' l := by
  have : D = D' := funext fun i => propext (k i)
  subst this; exact h

theorem go_lin (ops : Array Oper) (hd : ∀ i o, ops[i]? = some o → ∀ j, j ∈ depsOf o → j < i) : ∀ (fuel t : Nat) (listed : Array Bool) (acc : List Nat), listed.size = ops.size →
    ((List.range ops.size).countP fun i => !listed.getD i true) = fuel →
    ∃ L, Region.linearise.go .any ops fuel t listed acc = acc.reverse ++ L ∧ Lin ops (fun i => listed.getD i true = true) L := by
  intro fuel
  induction fuel with
  | zero =>
    intro t listed acc hs hc
    refine ⟨[], by simp [Region.linearise.go], .nil _ fun i hi => ?_⟩
    rw [List.countP_eq_zero] at hc
    have := hc i (by simpa using hi)
    simpa using this
  | succ fuel ih =>
    intro t listed acc hs hc
    simp only [Region.linearise.go]
    generalize hrs : ((List.range ops.size).filter fun i => !listed.getD i true && ((ops[i]?).map (·.after.all fun e => !Region.binds .any e || listed.getD e.on false)).getD false) = rs
    have hne : 0 < rs.length := by
      -- the least that is not listed
      have hex : ∃ i, i < ops.size ∧ listed.getD i true = false := by
        have : 0 < ((List.range ops.size).countP fun i => !listed.getD i true) := by omega
        rw [List.countP_pos_iff] at this
        obtain ⟨i, hi, hl⟩ := this
        exact ⟨i, by simpa using hi, by simpa using hl⟩
      have hleast : ∃ i, i < ops.size ∧ listed.getD i true = false ∧ ∀ j, j < i → listed.getD j true = true := by
        obtain ⟨i, hi, hl⟩ := hex
        induction i using Nat.strongRecOn with
        | _ i ihh =>
          by_cases hj : ∃ j, j < i ∧ listed.getD j true = false
          · obtain ⟨j, hj1, hj2⟩ := hj; exact ihh j hj1 (by omega) hj2
          · exact ⟨i, hi, hl, fun j hj1 => by
              cases hq : listed.getD j true with
              | true => rfl
              | false => exact absurd ⟨j, hj1, hq⟩ hj⟩
      obtain ⟨i, hi, hl, hlow⟩ := hleast
      have hmem : i ∈ rs := by
        rw [← hrs, List.mem_filter]
        refine ⟨by simpa using hi, ?_⟩
        simp only [hl, Bool.not_false, Bool.true_and, Array.getElem?_eq_getElem hi, Option.map_some, Option.getD_some]
        rw [Array.all_eq_true]
        intro k hk
        simp only [Bool.or_eq_true, Bool.not_eq_true']
        cases hb : Region.binds .any ops[i].after[k] with
        | false => exact .inl rfl
        | true =>
          refine .inr ?_
          have hdep : ops[i].after[k].on < i := hd i ops[i] (Array.getElem?_eq_getElem hi) _ (by
            simp only [depsOf, List.mem_map, List.mem_filter]
            exact ⟨_, ⟨by simp, hb⟩, rfl⟩)
          have := hlow _ hdep
          have hsz : ops[i].after[k].on < listed.size := by omega
          simp only [Array.getD_eq_getD_getElem?, Array.getElem?_eq_getElem hsz, Option.getD_some] at this ⊢
          exact this
      exact List.length_pos_of_mem hmem
    have hlt : t % rs.length < rs.length := Nat.mod_lt _ hne
    rw [List.getElem?_eq_getElem hlt]
    simp only
    have hi := List.getElem_mem hlt
    generalize rs[t % rs.length] = i at hi
    rw [← hrs, List.mem_filter] at hi
    obtain ⟨hi1, hi2⟩ := hi
    have hi1 : i < ops.size := by simpa using hi1
    simp only [Bool.and_eq_true, Bool.not_eq_true', Array.getElem?_eq_getElem hi1, Option.map_some, Option.getD_some] at hi2
    obtain ⟨hl, hall⟩ := hi2
    have hil : i < listed.size := by omega
    obtain ⟨L, h1, h2⟩ := ih (t / rs.length) (listed.setIfInBounds i true) (i :: acc) (by simpa using hs) (by
      have hq : ∀ k, (listed.setIfInBounds i true).getD k true = if k = i then true else listed.getD k true := by
        intro k
        simp only [Array.getD_eq_getD_getElem?, Array.getElem?_setIfInBounds]
        by_cases hk : i = k
        · subst hk; simp [hil]
        · simp [hk, Ne.symm hk]
      have hcount : ∀ (l : List Nat), l.Nodup → (l.countP fun k => !(listed.setIfInBounds i true).getD k true) + (if i ∈ l then 1 else 0) = l.countP fun k => !listed.getD k true := by
        intro l
        induction l with
        | nil => intro _; simp
        | cons x l ihl =>
          intro hnd
          rw [List.nodup_cons] at hnd
          have := ihl hnd.2
          simp only [List.countP_cons, hq x, List.mem_cons]
          by_cases hx : x = i
          · subst hx; simp [hl, hnd.1] at this ⊢; omega
          · simp only [hx, Ne.symm hx, if_false, false_or]; omega
      have := hcount (List.range ops.size) List.nodup_range
      rw [if_pos (by simpa using hi1)] at this
      omega)
    refine ⟨i :: L, by rw [h1]; simp, .cons _ i ops[i] L (Array.getElem?_eq_getElem hi1) (by simp [hl]) ?_ (h2.congr fun k => ?_)⟩
    · intro j hj
      simp only [depsOf, List.mem_map, List.mem_filter] at hj
      obtain ⟨e, ⟨he1, he2⟩, rfl⟩ := hj
      rw [Array.all_eq_true] at hall
      obtain ⟨k, hk, rfl⟩ := Array.mem_iff_getElem.mp (by simpa using he1)
      have := hall k hk
      simp only [he2, Bool.not_true, Bool.false_or] at this
      have hlt2 := hd i ops[i] (Array.getElem?_eq_getElem hi1) _ (by simp only [depsOf, List.mem_map, List.mem_filter]; exact ⟨_, ⟨he1, he2⟩, rfl⟩)
      have hsz : ops[i].after[k].on < listed.size := by omega
      simp only [Array.getD_eq_getD_getElem?, Array.getElem?_eq_getElem hsz, Option.getD_some] at this ⊢
      exact this
    · simp only [Array.getD_eq_getD_getElem?, Array.getElem?_setIfInBounds]
      by_cases hk : i = k
      · subst hk; simp [hil]
      · simp [hk, Ne.symm hk]
theorem schedule_lin (ops : Array Oper) (hd : ∀ i o, ops[i]? = some o → ∀ j, j ∈ depsOf o → j < i) (mixed : Bool) (hm : mixed = true ∨ Region.departs ops = false) (t : Nat) :
    Lin ops (fun i => ops.size ≤ i) (Region.schedule mixed ops t) := by
  have hsch : Region.schedule mixed ops t = Region.linearise .any ops t := by
    unfold Region.schedule
    rcases hm with h | h <;> simp [h]
  rw [hsch]
  unfold Region.linearise
  obtain ⟨L, h1, h2⟩ := go_lin ops hd ops.size t (Array.replicate ops.size false) [] (by simp) (by
    rw [List.countP_eq_length.mpr]
    · simp
    · intro i hi; simp at hi; simp [hi])
  rw [h1]
  simp only [List.reverse_nil, List.nil_append]
  refine h2.congr fun i => ?_
  simp only [Array.getD_eq_getD_getElem?, Array.getElem?_replicate]
  by_cases hi : i < ops.size <;> simp [hi] <;> omega
end Go.Ah
