import Derived.Test.YtdagajblnlemaaaAhO
set_option linter.unusedVariables false
set_option linter.unusedSimpArgs false
namespace Go.Ah
open Go Go.RowKit

/-! ### The machine's rows of open order, as ours -/
def DOper.strip (d : DOper) : DOper := { d with bef := [] }
def unionN (a b : List Nat) : List Nat := b.foldl (fun acc x => if acc.contains x then acc else x :: acc) a
/-- What must be done ahead of each. -/
def befsOf (ops : List Oper) : List (List Nat) := ops.foldl (fun acc o => acc ++ [(depsOf o).foldl (fun b j => unionN b (j :: acc.getD j [])) []]) []
def dOrder (es : List Nat) (befs : List (List Nat)) (n : Nat) : List Nat :=
  let key := fun i => 2 * (es.filter fun e => (befs.getD i []).contains e).length + (if es.contains i then 1 else 0)
  let keys := (List.range n).map key
  (List.range (2 * es.length + 2)).flatMap fun k => (List.range n).filter fun i => keys.getD i 0 == k
def mkD (P : Program) (N : Nat) (ops : Array Oper) (befs : List (List Nat)) : List Nat → List (Nat × SOper) → Option (List DOper)
  | [], _ => some []
  | i :: l, pre => (ops[i]?).bind fun o => (slimOper P N ops.toList o).bind fun so =>
      (mkD P N ops befs l ((i, so) :: pre)).bind fun t =>
        some (⟨i, so, befs.getD i [], if so.op.isE then (pre.filter fun p => p.2.op.isLd && !(befs.getD i []).contains p.1).map (·.1) else []⟩ :: t)
def slimD (P : Program) (N : Nat) (ops : Array Oper) : Option (List DOper) :=
  let es := (ops.toList.zipIdx.filter fun (o, _) => match slimOp P o.op with | some s => s.isE | none => true).map (·.2)
  let befs := befsOf ops.toList
  (mkD P N ops befs (dOrder es befs ops.size) []).bind fun C =>
    if okAll ops.toList [] C && (List.range ops.size).all (fun i => C.any fun d => d.idx == i) && ops.toList.zipIdx.all (fun (o, i) => (depsOf o).all fun j => decide (j < i)) &&
      (P.follows .mixedOrders || !Region.departs ops) then some (C.map DOper.strip) else none

theorem mkD_sl {P : Program} {N : Nat} {ops : Array Oper} {befs : List (List Nat)} : ∀ (l : List Nat) (pre : List (Nat × SOper)) {C : List DOper}, mkD P N ops befs l pre = some C →
    ∀ d, d ∈ C → ∃ o, ops[d.idx]? = some o ∧ slimOper P N ops.toList o = some d.so := by
  intro l
  induction l with
  | nil => intro pre C h d hd; simp only [mkD, Option.some.injEq] at h; subst h; cases hd
  | cons i l ih =>
    intro pre C h d hd
    simp only [mkD] at h
    replace h := bind_some h; obtain ⟨o, ho, h⟩ := h
    replace h := bind_some h; obtain ⟨so, hso, h⟩ := h
    replace h := bind_some h; obtain ⟨t, ht, h⟩ := h
    cases h
    rcases List.mem_cons.mp hd with rfl | hd
    · exact ⟨o, ho, hso⟩
    · exact ih _ ht d hd

theorem DOps_strip {P : Program} {K : Env → Heap → Prop} : ∀ (C : List DOper) (pend : List PE) (E : Env) (h : Heap), DOps P (C.map DOper.strip) pend K E h → DOps P C pend K E h := by
  intro C
  induction C with
  | nil => intro pend E h H; exact H
  | cons d t ih =>
    intro pend E h H
    simp only [List.map_cons, DOps, DOper.strip] at H ⊢
    split at H
    · exact H.elim
    · exact ih _ _ _ H
    · split at H
      · rename_i q hq; obtain ⟨v, h1, h2⟩ := H; exact ⟨v, h1, ih _ _ _ h2⟩
      · rename_i q hq; obtain ⟨v, h1, h2⟩ := H; exact ⟨v, h1, ih _ _ _ h2⟩
      · exact AOne_same (E := E) (E' := E) (fun _ _ => rfl) (fun v h' k => ⟨k.1, ih _ _ _ k.2⟩) H

theorem dregion_sound {P : Program} {W0 : World} {N : Nat} {dl : List Deferred} {m0 : Map} {h0 : Heap} {ops : Array Oper} {C : List DOper} (hs : slimD P N ops = some C) {Q : Go.Exit → Act → World → Prop} {K : Env → Heap → Prop}
    (hK : ∀ m E h a w, At W0 N dl m0 h0 m E h a w → K E h → Q .normal a w) {m : Map} {E : Env} {h : Heap} {a : Act} {w : World} (A : At W0 N dl m0 h0 m E h a w) (H : DOps P C [] K E h) {id : Nat} :
    (Code.region id ops true).wp P Q a w := by
  unfold slimD at hs
  replace hs := bind_some hs; obtain ⟨C0, hC, hs⟩ := hs
  split at hs
  · rename_i hc
    cases hs
    simp only [Bool.and_eq_true, Bool.or_eq_true, List.all_eq_true, List.any_eq_true, beq_iff_eq, decide_eq_true_eq, Bool.not_eq_true'] at hc
    obtain ⟨⟨⟨c1, c2⟩, c3⟩, c4⟩ := hc
    refine wp_region_draw fun t => ?_
    have hlin := schedule_lin ops (fun i o ho j hj => by
      have := c3 (o, i) (by rw [List.mem_zipIdx_iff_getElem?]; simpa using ho)
      exact this j hj) (P.follows .mixedOrders) c4 t
    have A' : At W0 N dl m0 h0 m E h a { w with drawn := w.drawn + 1 } := ⟨A.rel.sameW ⟨rfl, rfl, rfl, rfl⟩, A.er, A.nodefer, A.step⟩
    have hsl := mkD_sl _ _ hC
    have R : Run P W0 N dl m h E ops K (fun i => ops.size ≤ i) [] [] C0 m h a { w with drawn := w.drawn + 1 } := by
      refine ⟨⟨trivial, A'.rel, .refl m h, A.nodefer, A.er.1, ?_, ?_, ?_, ?_, ?_, ?_, ?_, ?_, ?_, ?_, ?_⟩, c1, hsl, ?_, ?_, ?_, DOps_strip C0 [] E h H⟩
      · intro i hi hd; have hd : ops.size ≤ i := hd; omega
      · intro p hp; cases hp
      · intro p hp; cases hp
      · intro p hp; cases hp
      · intro s v _ e; exact A.er.2 s v e
      · intro p hp; cases hp
      · intro p hp; cases hp
      · intro p q hp; cases hp
      · intro p hp; cases hp
      · intro p hp; cases hp
      · intro p hp; cases hp
      · intro d hd hle; obtain ⟨o, ho, _⟩ := hsl d hd; have := (Array.getElem?_eq_some_iff.mp ho).1; have hle : ops.size ≤ d.idx := hle; omega
      · intro p hp; cases hp
      · intro i hi; obtain ⟨d, hd, e⟩ := c2 i (by simpa using hi); exact .inr ⟨d, hd, e⟩
    obtain ⟨log', pend', ds', h', R', hn⟩ := Run.norm C0 R
    exact dr_sound Q (fun m' E' h' a' w' A2 k => hK m' E' h' a' w' ⟨A2.rel, A2.er, A2.nodefer, A.step.trans A2.step⟩ k) hlin (fun i hi => hi) log' pend' ds' m h' a _ R' hn
  · cases hs

section
variable {P : Program} {W0 : World} {N : Nat} {dl : List Deferred} {m0 : Map} {h0 : Heap}
/-! ### Code -/
inductive SCode where
  | skip
  | region (ops : List SOper) (keep : List Nat)
  | dregion (ops : List DOper) (keep : List Nat)
  | seq (a b : SCode)
  | cond (c : Opd) (t e : SCode)
  | block (id : Nat) (b : SCode)
  | loop (b : SCode)
  | exit (id : Nat)
  | ret

def thenQ (K : Env → Heap → Prop) (Q : Go.Exit → Env → Heap → Prop) : Go.Exit → Env → Heap → Prop
  | .normal, E, h => K E h
  | e, E, h => Q e E h
def blockQ (id : Nat) (Q : Go.Exit → Env → Heap → Prop) : Go.Exit → Env → Heap → Prop
  | .exit i, E, h => if i = id then Q .normal E h else Q (.exit i) E h
  | e, E, h => Q e E h

def SW (P : Program) : SCode → (Go.Exit → Env → Heap → Prop) → Env → Heap → Prop
  | .skip, Q, E, h => Q .normal E h
  | .region ops keep, Q, E, h => AOps P ops (fun E' h' => Q .normal (E'.keep keep) h') E h
  | .dregion ops keep, Q, E, h => DOps P ops [] (fun E' h' => Q .normal (E'.keep keep) h') E h
  | .seq a b, Q, E, h => SW P a (thenQ (SW P b Q) Q) E h
  | .cond c t e, Q, E, h => ∃ b, c.val E = some (.bool b) ∧ (b = true → SW P t Q E h) ∧ (b = false → SW P e Q E h)
  | .block id b, Q, E, h => SW P b (blockQ id Q) E h
  | .loop b, Q, E, h => ∃ (I : Nat → Env → Heap → Prop), (∃ n, I n E h) ∧ ∀ n E h, I n E h → SW P b (thenQ (fun E' h' => ∃ n', n' < n ∧ I n' E' h') Q) E h
  | .exit id, Q, E, h => Q (.exit id) E h
  | .ret, Q, E, h => Q .ret E h

/-- Without what is kept. -/
def SCode.bare : SCode → SCode
  | .skip => .skip
  | .region ops _ => .region ops []
  | .dregion ops _ => .dregion ops []
  | .seq a b => .seq a.bare b.bare
  | .cond c t e => .cond c t.bare e.bare
  | .block id b => .block id b.bare
  | .loop b => .loop b.bare
  | .exit id => .exit id
  | .ret => .ret
/-- The machine's text as ours. -/
def slimC (P : Program) (N : Nat) : Code → Option SCode
  | .skip => some .skip
  | .label _ => some .skip
  | .region _ ops draw => if draw = true then (slimD P N ops).bind fun l => some (if (l.all fun d => d.chk.isEmpty) = true then .region (l.map (·.so)) [] else .dregion l []) else (slimList P N ops.toList ops.toList).bind fun l => some (.region l [])
  | .seq a b => (slimC P N a).bind fun x => (slimC P N b).bind fun y => some (.seq x y)
  | .cond c t e => (slimOpd c).bind fun c => (slimC P N t).bind fun x => (slimC P N e).bind fun y => some (.cond c x y)
  | .block id b => (slimC P N b).bind fun x => some (.block id x)
  | .loop b => (slimC P N b).bind fun x => some (.loop x)
  | .exit id => some (.exit id)
  | .ret => some .ret
  | _ => none

/-- Rows in which nothing is asked again: as if their order were the text's. -/
theorem rechk_nil (h : Heap) : ∀ (pend : List PE), rechk h [] pend := by
  intro pend; induction pend with
  | nil => trivial
  | cons e l ih => exact ⟨fun hm => (by cases hm), ih⟩
theorem DOps_plain (P : Program) {K : Env → Heap → Prop} : ∀ (ds : List DOper) (pend : List PE) (E : Env) (h : Heap), (ds.all fun d => d.chk.isEmpty) = true → AOps P (ds.map (·.so)) K E h → DOps P ds pend K E h := by
  intro ds
  induction ds with
  | nil => intro pend E h _ H; exact H
  | cons d t ih =>
    intro pend E h hc H
    simp only [List.all_cons, Bool.and_eq_true] at hc
    have hd : d.chk = [] := List.isEmpty_iff.mp hc.1
    simp only [List.map_cons, AOps] at H
    have H0 := H
    unfold AOne at H
    simp only [DOps]
    split at H
    · exact H.elim
    · rename_i hg; simp only [hg]; exact ih _ _ _ hc.2 H
    · rename_i hg
      simp only [hg]
      cases hop : d.so.op with
      | q q =>
        simp only [hop] at H ⊢
        obtain ⟨v, h1, h2⟩ := H
        exact ⟨v, h1, ih _ _ _ hc.2 h2⟩
      | a a =>
        simp only [hop] at H ⊢
        obtain ⟨v, h1, h2⟩ := H
        exact ⟨v, h1, ih _ _ _ hc.2 h2⟩
      | e e =>
        simp only [hop]
        exact AOne_same (E := E) (E' := E) (fun _ _ => rfl) (fun v h' k => ⟨hd ▸ rechk_nil h' pend, ih _ _ _ hc.2 k⟩) H0

/-- The machine's exits and ours. -/
def Post (W0 : World) (N : Nat) (dl : List Deferred) (m0 : Map) (h0 : Heap) (Q : Go.Exit → Env → Heap → Prop) (e : Go.Exit) (a : Act) (w : World) : Prop :=
  ∃ m E h, At W0 N dl m0 h0 m E h a w ∧ Q e E h

theorem At.from {m : Map} {E : Env} {h : Heap} {a : Act} {w : World} (A : At W0 N dl m0 h0 m E h a w) : At W0 N dl m h m E h a w := ⟨A.rel, A.er, A.nodefer, .refl m h⟩

theorem eval_bool {m : Map} {E : Env} {a : Act} (e : ER N m E a.tmps) {c : Operand} {c' : Opd} (hc : slimOpd c = some c') {b : Bool} (hb : c'.val E = some (.bool b)) : a.eval c = .bool b := by
  have := slimOpd_sound hc e hb
  generalize a.eval c = z at this
  cases this; rfl

theorem sw_sound : ∀ (c : Code) (sc : SCode), slimC P N c = some sc.bare → ∀ (Q : Go.Exit → Env → Heap → Prop) (m : Map) (E : Env) (h : Heap) (a : Act) (w : World), At W0 N dl m0 h0 m E h a w → SW P sc Q E h →
    c.wp P (Post W0 N dl m0 h0 Q) a w := by
  intro c
  induction c with
  | skip =>
    intro sc hs Q m E h a w A H
    cases sc <;> simp [slimC, SCode.bare] at hs
    exact wp_skip ⟨m, E, h, A, H⟩
  | label l =>
    intro sc hs Q m E h a w A H
    cases sc <;> simp [slimC, SCode.bare] at hs
    exact wp_label ⟨m, E, h, A, H⟩
  | ret =>
    intro sc hs Q m E h a w A H
    cases sc <;> simp [slimC, SCode.bare] at hs
    exact wp_ret ⟨m, E, h, A, H⟩
  | exit id =>
    intro sc hs Q m E h a w A H
    cases sc <;> simp [slimC, SCode.bare] at hs
    subst hs
    exact wp_exit ⟨m, E, h, A, H⟩
  | region id ops draw =>
    intro sc hs Q m E h a w A H
    simp only [slimC] at hs
    split at hs
    · rename_i hd
      subst hd
      replace hs := bind_some hs; obtain ⟨l, hl, hs⟩ := hs
      split at hs
      · rename_i hck
        cases sc <;> simp [SCode.bare] at hs
        subst hs
        rename_i keep
        exact dregion_sound hl (K := fun E' h' => Q .normal (E'.keep keep) h') (fun m' E' h' a' w' A' k => ⟨m', _, h', ⟨A'.rel, A'.er.keep keep, A'.nodefer, A'.step⟩, k⟩) A (DOps_plain P l [] E h hck H)
      · cases sc <;> simp [SCode.bare] at hs
        subst hs
        rename_i keep
        exact dregion_sound hl (K := fun E' h' => Q .normal (E'.keep keep) h') (fun m' E' h' a' w' A' k => ⟨m', _, h', ⟨A'.rel, A'.er.keep keep, A'.nodefer, A'.step⟩, k⟩) A H
    · rename_i hd
      have hd : draw = false := by simpa using hd
      subst hd
      replace hs := bind_some hs; obtain ⟨l, hl, hs⟩ := hs
      cases sc <;> simp [SCode.bare] at hs
      subst hs
      rename_i keep
      refine wp_region ?_
      rw [List.range_eq_range']
      exact ops_sound ops _ (K := fun E' h' => Q .normal (E'.keep keep) h') (fun m' E' h' a' w' A' k => ⟨m', _, h', ⟨A'.rel, A'.er.keep keep, A'.nodefer, A'.step⟩, k⟩) ops.size 0 (by omega) l (by simpa using hl) m E h a w A H
  | seq x y ihx ihy =>
    intro sc hs Q m E h a w A H
    simp only [slimC] at hs
    replace hs := bind_some hs; obtain ⟨x', hx, hs⟩ := hs
    replace hs := bind_some hs; obtain ⟨y', hy, hs⟩ := hs
    cases sc <;> simp [SCode.bare] at hs
    rename_i sa sb
    obtain ⟨rfl, rfl⟩ := hs
    refine wp_seq (wp_mono (ihx sa hx _ m E h a w A H) ?_)
    rintro e a' w' ⟨m', E', h', A', k⟩
    cases e with
    | normal => exact ihy sb hy Q m' E' h' a' w' A' k
    | _ => exact ⟨m', E', h', A', k⟩
  | cond c x y ihx ihy =>
    intro sc hs Q m E h a w A H
    simp only [slimC] at hs
    replace hs := bind_some hs; obtain ⟨c', hc, hs⟩ := hs
    replace hs := bind_some hs; obtain ⟨x', hx, hs⟩ := hs
    replace hs := bind_some hs; obtain ⟨y', hy, hs⟩ := hs
    cases sc <;> simp [SCode.bare] at hs
    rename_i cc sa sb
    obtain ⟨rfl, rfl, rfl⟩ := hs
    obtain ⟨b, hb, ht, hf⟩ := H
    refine wp_cond (eval_bool A.er hc hb) ?_
    cases b with
    | true => exact ihx sa hx Q m E h a w A (ht rfl)
    | false => exact ihy sb hy Q m E h a w A (hf rfl)
  | block id b ih =>
    intro sc hs Q m E h a w A H
    simp only [slimC] at hs
    replace hs := bind_some hs; obtain ⟨x', hx, hs⟩ := hs
    cases sc <;> simp [SCode.bare] at hs
    rename_i i sa
    obtain ⟨rfl, rfl⟩ := hs
    refine wp_block (wp_mono (ih sa hx _ m E h a w A H) ?_)
    rintro e a' w' ⟨m', E', h', A', k⟩
    cases e with
    | exit j =>
      simp only [Go.Exit.inBlock, blockQ] at k ⊢
      split at k
      · rename_i hj; rw [if_pos hj]; exact ⟨m', E', h', A', k⟩
      · rename_i hj; rw [if_neg hj]; exact ⟨m', E', h', A', k⟩
    | _ => exact ⟨m', E', h', A', k⟩
  | loop b ih =>
    intro sc hs Q m E h a w A H
    simp only [slimC] at hs
    replace hs := bind_some hs; obtain ⟨x', hx, hs⟩ := hs
    cases sc <;> simp [SCode.bare] at hs
    rename_i sa
    subst hs
    obtain ⟨I, ⟨n, hI⟩, hround⟩ := H
    refine wp_loop_ghost (fun n a w => ∃ m E h, At W0 N dl m0 h0 m E h a w ∧ I n E h) (n := n) ⟨m, E, h, A, hI⟩ ?_
    rintro n a w ⟨m, E, h, A, hI⟩
    refine wp_mono (ih sa hx _ m E h a w A (hround n E h hI)) ?_
    rintro e a' w' ⟨m', E', h', A', k⟩
    cases e with
    | normal => obtain ⟨n', hn, k⟩ := k; exact ⟨n', hn, m', E', h', A', k⟩
    | _ => exact ⟨m', E', h', A', k⟩
  | _ => intro sc hs; simp [slimC] at hs

/-! ### Functions -/
inductive RV where
  | t (s : Nat)
  | c (s : Nat) (n : Option Nat)
def slimRV (P : Program) : ResultVar → Option RV
  | .tmp t => some (.t t)
  | .cell a t => (P.underlying t).bind fun d => if isAggB d then (szOf P t).bind fun n => some (.c a (some n)) else some (.c a none)
def slimRVs (P : Program) : List ResultVar → Option (List RV)
  | [] => some []
  | r :: l => (slimRV P r).bind fun x => (slimRVs P l).bind fun y => some (x :: y)
def RV.ev (E : Env) (h : Heap) : RV → Option Value
  | .t s => E.get s
  | .c s none => (E.get s).bind (ldV h)
  | .c s (some n) => (E.get s).bind (ldnV h n)
def RV.evs (E : Env) (h : Heap) : List RV → Option (List Value)
  | [] => some []
  | r :: l => (RV.ev E h r).bind fun v => (RV.evs E h l).bind fun vs => some (v :: vs)
def packV : List Value → Value
  | [v] => v
  | vs => .tuple vs.toArray
/-- What must hold where a function's text ends. -/
def retQ (rs : List RV) (R : Value → Heap → Prop) : Go.Exit → Env → Heap → Prop
  | .normal, E, h => ∃ vs, RV.evs E h rs = some vs ∧ R (packV vs) h
  | .ret, E, h => ∃ vs, RV.evs E h rs = some vs ∧ R (packV vs) h
  | _, _, _ => False
def env0 : Nat → List Value → Env
  | _, [] => []
  | k, v :: l => (k, v) :: env0 (k + 1) l

theorem run_rv {m : Map} {E : Env} {h : Heap} {a : Act} {w : World} (A : At W0 N dl m0 h0 m E h a w) {r : ResultVar} {x : RV} (hx : slimRV P r = some x) {v : Value} (hv : x.ev E h = some v) :
    ∃ v', ((match r with | .tmp t => pure (a.tmps.getD t undef) | .cell c t => do loadVar t (← asAddr (a.tmps.getD c undef)) : Sem Value)).run P w = .ok v' w ∧ VR m v v' := by
  cases r with
  | tmp t =>
    simp only [slimRV, Option.some.injEq] at hx; subst hx
    obtain ⟨v', e1, r1⟩ := A.er.2 t v hv
    exact ⟨v', by simp [Array.getD_eq_getD_getElem?, e1], r1⟩
  | cell c t =>
    simp only [slimRV] at hx
    replace hx := bind_some hx; obtain ⟨d, hd, hx⟩ := hx
    have hrun : ∀ (x : Value), (∃ b o, x = .pointer (some ⟨b, o, none⟩)) → (do loadVar t (← asAddr x) : Sem Value).run P w = (Instr.loadAt t x).run P w := by
      rintro x ⟨b, o, rfl⟩; simp only [Instr.loadAt, Instr.sureAddr, asAddr, Sem.run_bind, Sem.run_pure, Result.andThen_ok]
    split at hx
    · rename_i ha
      replace hx := bind_some hx; obtain ⟨n, hn, hx⟩ := hx
      cases hx
      simp only [RV.ev] at hv
      replace hv := bind_some hv; obtain ⟨u, hu, hv⟩ := hv
      obtain ⟨u', e1, r1⟩ := A.er.2 c u hu
      obtain ⟨v', e2, r2⟩ := run_ldn A.rel hd ha hn r1 hv
      refine ⟨v', ?_, r2⟩
      simp only [Array.getD_eq_getD_getElem?, e1, Option.getD_some]
      rw [hrun u' (by
        unfold ldnV at hv; split at hv
        · cases r1; exact ⟨_, _, rfl⟩
        · cases hv)]
      exact e2
    · rename_i ha
      cases hx
      simp only [RV.ev] at hv
      replace hv := bind_some hv; obtain ⟨u, hu, hv⟩ := hv
      obtain ⟨u', e1, r1⟩ := A.er.2 c u hu
      obtain ⟨v', e2, r2⟩ := run_ld A.rel hd (by simpa using ha) r1 hv
      refine ⟨v', ?_, r2⟩
      simp only [Array.getD_eq_getD_getElem?, e1, Option.getD_some]
      rw [hrun u' (by
        unfold ldV at hv; split at hv
        · cases r1; exact ⟨_, _, rfl⟩
        · cases hv)]
      exact e2
theorem run_rvs {m : Map} {E : Env} {h : Heap} {a : Act} {w : World} (A : At W0 N dl m0 h0 m E h a w) : ∀ (l : List ResultVar) {xs : List RV}, slimRVs P l = some xs → ∀ {vs : List Value}, RV.evs E h xs = some vs →
    ∃ vs', (l.mapM fun r => (match r with | .tmp t => pure (a.tmps.getD t undef) | .cell c t => do loadVar t (← asAddr (a.tmps.getD c undef)) : Sem Value)).run P w = .ok vs' w ∧ VRs m vs vs' := by
  intro l
  induction l with
  | nil => intro xs hx vs hv; simp [slimRVs] at hx; subst hx; simp [RV.evs] at hv; subst hv; exact ⟨[], rfl, .nil m⟩
  | cons r t ih =>
    intro xs hx vs hv
    simp only [slimRVs] at hx
    replace hx := bind_some hx; obtain ⟨x, hx1, hx⟩ := hx
    replace hx := bind_some hx; obtain ⟨y, hy, hx⟩ := hx
    cases hx
    simp only [RV.evs] at hv
    replace hv := bind_some hv; obtain ⟨v, hv1, hv⟩ := hv
    replace hv := bind_some hv; obtain ⟨vs1, hv2, hv⟩ := hv
    cases hv
    obtain ⟨v', e1, r1⟩ := run_rv A hx1 hv1
    obtain ⟨vs', e2, r2⟩ := ih hy hv2
    refine ⟨v' :: vs', ?_, .cons r1 r2⟩
    simp only [List.mapM_cons, Sem.run_bind]
    rw [e1]
    simp only [Result.andThen_ok, e2, Sem.run_pure]
theorem run_results {fn : Func} {m : Map} {E : Env} {h : Heap} {a : Act} {w : World} (A : At W0 N dl m0 h0 m E h a w) {xs : List RV} (hx : slimRVs P fn.results.toList = some xs) {vs : List Value} (hv : RV.evs E h xs = some vs) :
    ∃ v', (results fn a.tmps).run P w = .ok v' w ∧ VR m (packV vs) v' := by
  obtain ⟨vs', e1, r1⟩ := run_rvs A fn.results.toList hx hv
  have e2 : (fn.results.mapM fun r => (match r with | .tmp t => pure (a.tmps.getD t undef) | .cell c t => do loadVar t (← asAddr (a.tmps.getD c undef)) : Sem Value)).run P w = .ok vs'.toArray w := by
    rw [Array.mapM_eq_mapM_toList]; simp only [Sem.run_map, e1, Result.andThen_ok]
  refine ⟨if h : vs'.toArray.size = 1 then vs'.toArray[0] else .tuple vs'.toArray, ?_, ?_⟩
  · unfold results
    simp only [Sem.run_bind]
    refine (congrArg (fun x => Result.andThen x _) e2).trans ?_
    rfl
  · match vs, vs', r1 with
    | [], vs', r1 => have := r1.of_nil; subst this; exact r1.to_tuple
    | [v], vs', r1 =>
      obtain ⟨v', t, rfl, q1, q2⟩ := r1.of_cons
      have := q2.of_nil; subst this
      simpa [packV] using q1
    | v :: v2 :: l, vs', r1 =>
      have hl := r1.1
      rw [dif_neg (by simp; simp at hl; omega)]
      exact r1.to_tuple

theorem env0_get : ∀ (l : List Value) (k s : Nat) (v : Value), (env0 k l).get s = some v → k ≤ s ∧ l[s - k]? = some v := by
  intro l
  induction l with
  | nil => intro k s v h; simp [env0, Env.get] at h
  | cons x t ih =>
    intro k s v h
    simp only [env0, Env.get] at h
    split at h
    · rename_i hk; subst hk; cases h; exact ⟨Nat.le_refl _, by simp⟩
    · obtain ⟨h1, h2⟩ := ih (k + 1) s v h
      refine ⟨by omega, ?_⟩
      obtain ⟨j, rfl⟩ : ∃ j, s = k + 1 + j := ⟨s - (k + 1), by omega⟩
      rw [show k + 1 + j - (k + 1) = j by omega] at h2
      rw [show k + 1 + j - k = j + 1 by omega]; simpa using h2

/-- THE RULE OF FUNCTIONS: what our text does, the machine's call does. -/
theorem ACall.of_text {P : Program} {f : FuncId} {fn : Func} {c : Code} {sc : SCode} {rs : List RV} (hf : P.funcs[f]? = some fn) (hb : fn.body = some c) (hs : slimC P fn.ntmps c = some sc.bare)
    (hr : slimRVs P fn.results.toList = some rs) {args : List Value} (hn : args.length ≤ fn.ntmps) {h : Heap} {R : Value → Heap → Prop} (H : SW P sc (retQ rs R) (env0 0 args) h) : ACall P f args h R := by
  intro W0 m w args' r va
  refine calls_of_wp hf hb ?_
  have hsz : (args'.toArray ++ Array.replicate (fn.ntmps - args'.toArray.size) undef).size = fn.ntmps := by
    have := va.1; simp; omega
  have A : At W0 fn.ntmps [] m h m (env0 0 args) h { tmps := args'.toArray ++ Array.replicate (fn.ntmps - args'.toArray.size) undef, defers := [] } w := by
    refine ⟨r, ⟨hsz, fun s v e => ?_⟩, rfl, .refl m h⟩
    obtain ⟨_, e⟩ := env0_get args 0 s v e
    obtain ⟨v', e1, r1⟩ := va.2 _ v e
    refine ⟨v', ?_, r1⟩
    have := (List.getElem?_eq_some_iff.mp e1).1
    rw [Array.getElem?_append_left (by simpa using this)]; simpa using e1
  refine wp_mono (sw_sound c sc hs _ m _ h _ w A H) ?_
  rintro e a' w' ⟨m', E', h', A', k⟩
  cases e with
  | normal =>
    obtain ⟨vs, hv, hR⟩ := k
    obtain ⟨v', e1, r1⟩ := run_results A' hr hv
    exact ⟨A'.nodefer, v', e1, v', _, h', m', rfl, A'.rel, A'.step, r1, hR⟩
  | ret =>
    obtain ⟨vs, hv, hR⟩ := k
    obtain ⟨v', e1, r1⟩ := run_results A' hr hv
    exact ⟨A'.nodefer, v', e1, v', _, h', m', rfl, A'.rel, A'.step, r1, hR⟩
  | exit i => exact k.elim
  | goto l => exact k.elim
  | panic ch => exact k.elim
  | outgrown => exact k.elim
/-- A function's text as ours, and its results. -/
def slimF (P : Program) (fn : Func) : Option (SCode × List RV) := fn.body.bind fun c => (slimC P fn.ntmps c).bind fun sc => (slimRVs P fn.results.toList).bind fun rs => some (sc, rs)
theorem ACall.of {P : Program} {f : FuncId} {fn : Func} {sc : SCode} {rs : List RV} (hf : P.funcs[f]? = some fn) (hs : slimF P fn = some (sc.bare, rs)) {args : List Value} (hn : args.length ≤ fn.ntmps)
    {h : Heap} {R : Value → Heap → Prop} (H : SW P sc (retQ rs R) (env0 0 args) h) : ACall P f args h R := by
  unfold slimF at hs
  replace hs := bind_some hs; obtain ⟨c, hc, hs⟩ := hs
  replace hs := bind_some hs; obtain ⟨s2, hs2, hs⟩ := hs
  replace hs := bind_some hs; obtain ⟨r2, hr2, hs⟩ := hs
  cases hs
  exact .of_text hf hc hs2 hr2 hn H
end
end Go.Ah
