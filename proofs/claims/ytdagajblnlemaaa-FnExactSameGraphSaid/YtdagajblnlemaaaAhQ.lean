import Derived.Test.YtdagajblnlemaaaAhP
set_option linter.unusedVariables false
set_option linter.unusedSimpArgs false
namespace Go.Ah
open Go Go.RowKit

/-! ### The walk: rules that a simp set uses, none of which looks into what follows -/
def kR (Q : Go.Exit → Env → Heap → Prop) (keep : List Nat) (E : Env) (h : Heap) : Prop := Q .normal (E.keep keep) h
def stepQ (v : Option Value) (d : Option Nat) (K : Env → Heap → Prop) (E : Env) (h : Heap) : Prop := match v with | some v => K (putD d v E) h | none => False
def stepA (c : Option (List Value × (Nat → Value))) (d : Option Nat) (K : Env → Heap → Prop) (E : Env) (h : Heap) : Prop := match c with
  | some c => K (putD d (c.2 h.size) E) (h.alloc c.1) | none => False
def stepS (h' : Option Heap) (d : Option Nat) (K : Env → Heap → Prop) (E : Env) : Prop := match h' with | some h' => K (putD d undef E) h' | none => False
def stepP (r : Option (Value × Heap)) (d : Option Nat) (K : Env → Heap → Prop) (E : Env) : Prop := match r with | some r => K (putD d r.1 E) r.2 | none => False
/-- A call, and what follows. -/
def stepC (P : Program) (f : FuncId) (vs : Option (List Value)) (d : Option Nat) (K : Env → Heap → Prop) (E : Env) (h : Heap) : Prop := match vs with
  | some vs => ACall P f vs h fun v h' => K (putD d v E) h' | none => False
/-- A call of a value. -/
def stepV (P : Program) (x : Option Value) (vs : Option (List Value)) (d : Option Nat) (K : Env → Heap → Prop) (E : Env) (h : Heap) : Prop := ∃ f cap l, x = some (.func (.func f) #[] cap) ∧ vs = some l ∧
  (∃ fn, P.funcs[f]? = some fn ∧ fn.body.isSome = true ∧ fn.name ≠ "runtime.NumGoroutine") ∧ ACall P f (l ++ cap.toList) h fun v h' => K (putD d v E) h'
def stepG (g : Option Bool) (A B : Env → Heap → Prop) (E : Env) (h : Heap) : Prop := match g with | some true => A E h | some false => B E h | none => False
def skipD (d : Option Nat) (K : Env → Heap → Prop) (E : Env) (h : Heap) : Prop := K (putD d undef E) h
def stepI (c : Option Value) (A B : Env → Heap → Prop) (E : Env) (h : Heap) : Prop := ∃ b, c = some (.bool b) ∧ (b = true → A E h) ∧ (b = false → B E h)
def stV2 (h : Heap) (n : Nat) (p x : Option Value) : Option Heap := match p, x with | some p, some x => stV h n p x | _, _ => none
def appV2 (h : Heap) (b n : Nat) (x y : Option Value) : Option (Value × Heap) := match x, y with | some x, some y => appV h b n x y | _, _ => none
def cpyV2 (h : Heap) (n : Nat) (x y : Option Value) : Option (Value × Heap) := match x, y with | some x, some y => cpyV h n x y | _, _ => none
/-- Rows of open order: what is asked again behind a write. -/
def kD (d : DOper) (ds : List DOper) (pend : List PE) (P : Program) (K : Env → Heap → Prop) (E : Env) (h : Heap) : Prop := rechk h d.chk pend ∧ DOps P ds pend K E h
def stepD (P : Program) (v : Option Value) (d : DOper) (q : QOp) (pend : List PE) (ds : List DOper) (K : Env → Heap → Prop) (E : Env) (h : Heap) : Prop := match v with
  | some v => DOps P ds (pendQ d E q v pend) K (putD d.so.dst v E) h | none => False

/-- A name and its text. -/
theorem uR (P : Program) {a b : List SOper} (e : a = b) : ∀ (K : Env → Heap → Prop) (E : Env) (h : Heap), AOps P a K E h = AOps P b K E h := fun _ _ _ => by rw [e]
theorem uD (P : Program) {a b : List DOper} (e : a = b) : ∀ (p : List PE) (K : Env → Heap → Prop) (E : Env) (h : Heap), DOps P a p K E h = DOps P b p K E h := fun _ _ _ _ => by rw [e]
theorem uC (P : Program) {a b : SCode} (e : a = b) : ∀ (Q : Go.Exit → Env → Heap → Prop) (E : Env) (h : Heap), SW P a Q E h = SW P b Q E h := fun _ _ _ => by rw [e]
section
variable {P : Program} {K : Env → Heap → Prop} {E : Env} {h : Heap}
theorem AOps_nil : AOps P [] K E h = K E h := rfl
theorem AOps_cons (o : SOper) (os : List SOper) : AOps P (o :: os) K E h = AOne P o (AOps P os K) E h := rfl
theorem AOne_q (d : Option Nat) (q : QOp) : AOne P ⟨d, .q q, none⟩ K E h = stepQ (q.ev E h) d K E h := by
  unfold AOne stepQ guardV; cases hq : q.ev E h <;> simp [hq]
theorem AOne_a (d : Option Nat) (q : AOp) : AOne P ⟨d, .a q, none⟩ K E h = stepA (q.ev E) d K E h := by
  unfold AOne stepA guardV; cases hq : q.ev E <;> simp [hq]
theorem AOne_st (d : Option Nat) (n : Nat) (a x : Opd) : AOne P ⟨d, .e (.st n a x), none⟩ K E h = stepS (stV2 h n (a.val E) (x.val E)) d K E := by
  unfold AOne stepS guardV stV2
  cases h1 : a.val E with
  | none => simp [h1]
  | some p => cases h2 : x.val E with
    | none => simp [h1, h2]
    | some v => cases hq : stV h n p v <;> simp [h1, h2, hq]
theorem AOne_app (d : Option Nat) (b n : Nat) (a x : Opd) : AOne P ⟨d, .e (.app b n a x), none⟩ K E h = stepP (appV2 h b n (a.val E) (x.val E)) d K E := by
  unfold AOne stepP guardV appV2
  cases h1 : a.val E with
  | none => simp [h1]
  | some p => cases h2 : x.val E with
    | none => simp [h1, h2]
    | some v => cases hq : appV h b n p v with
      | none => simp [h1, h2, hq]
      | some r =>
        obtain ⟨r1, r2⟩ := r; simp [h1, h2, hq]
        exact ⟨fun ⟨_, _, ⟨e1, e2⟩, k⟩ => e1 ▸ e2 ▸ k, fun k => ⟨_, _, ⟨rfl, rfl⟩, k⟩⟩
theorem AOne_cpy (d : Option Nat) (n : Nat) (a x : Opd) : AOne P ⟨d, .e (.cpy n a x), none⟩ K E h = stepP (cpyV2 h n (a.val E) (x.val E)) d K E := by
  unfold AOne stepP guardV cpyV2
  cases h1 : a.val E with
  | none => simp [h1]
  | some p => cases h2 : x.val E with
    | none => simp [h1, h2]
    | some v => cases hq : cpyV h n p v with
      | none => simp [h1, h2, hq]
      | some r =>
        obtain ⟨r1, r2⟩ := r; simp [h1, h2, hq]
        exact ⟨fun ⟨_, _, ⟨e1, e2⟩, k⟩ => e1 ▸ e2 ▸ k, fun k => ⟨_, _, ⟨rfl, rfl⟩, k⟩⟩
def stepXt (P : Program) (f : FuncId) (vs : Option (List Value)) (d : Option Nat) (K : Env → Heap → Prop) (E : Env) (h : Heap) : Prop := match vs with
  | some vs => AExt P f vs h fun v h' => K (putD d v E) h' | none => False
theorem AOne_xt (d : Option Nat) (f : FuncId) (l : List Opd) : AOne P ⟨d, .e (.xt f l), none⟩ K E h = stepXt P f (Opd.vals E l) d K E h := by
  unfold AOne stepXt guardV; cases hq : Opd.vals E l <;> simp [hq]
def cnvV2 (h : Heap) (x : Option Value) : Option (Value × Heap) := match x with | some x => cnvV h x | _ => none
theorem AOne_cnv (d : Option Nat) (x : Opd) : AOne P ⟨d, .e (.cnv x), none⟩ K E h = stepP (cnvV2 h (x.val E)) d K E := by
  unfold AOne stepP guardV cnvV2
  cases h1 : x.val E with
  | none => simp [h1]
  | some p =>
    cases hq : cnvV h p with
    | none => simp [h1, hq]
    | some r =>
      obtain ⟨r1, r2⟩ := r; simp [h1, hq]
      exact ⟨fun ⟨_, _, ⟨e1, e2⟩, k⟩ => e1 ▸ e2 ▸ k, fun k => ⟨_, _, ⟨rfl, rfl⟩, k⟩⟩
theorem cnvV2_some (x : Value) : cnvV2 h (some x) = cnvV h x := rfl
theorem cpyV2_some (n : Nat) (p x : Value) : cpyV2 h n (some p) (some x) = cpyV h n p x := rfl
theorem AOne_call (d : Option Nat) (f : FuncId) (l : List Opd) : AOne P ⟨d, .e (.call f l), none⟩ K E h = stepC P f (Opd.vals E l) d K E h := by
  unfold AOne stepC guardV; cases hq : Opd.vals E l <;> simp [hq]
theorem AOne_callv (d : Option Nat) (x : Opd) (l : List Opd) : AOne P ⟨d, .e (.callv x l), none⟩ K E h = stepV P (x.val E) (Opd.vals E l) d K E h := by
  unfold AOne stepV guardV
  simp only [eq_iff_iff]
  constructor
  · rintro ⟨vs, f, cap, h1, h2, h3, h4⟩; exact ⟨f, cap, vs, h2, h1, h3, h4⟩
  · rintro ⟨f, cap, vs, h2, h1, h3, h4⟩; exact ⟨vs, f, cap, h1, h2, h3, h4⟩
theorem AOne_guard (d : Option Nat) (op : SOp) (s : Nat) (b : Bool) : AOne P ⟨d, op, some (s, b)⟩ K E h = stepG (guardV (some (s, b)) E) (AOne P ⟨d, op, none⟩ K) (skipD d K) E h := by
  unfold AOne stepG skipD
  cases hg : guardV (some (s, b)) E with
  | none => rfl
  | some c => cases c <;> simp [guardV]
theorem stepQ_some (v : Value) (d : Option Nat) : stepQ (some v) d K E h = K (putD d v E) h := rfl
theorem stepA_some (c : List Value) (f : Nat → Value) (d : Option Nat) : stepA (some (c, f)) d K E h = K (putD d (f h.size) E) (h.alloc c) := rfl
theorem stepS_some (h' : Heap) (d : Option Nat) : stepS (some h') d K E = K (putD d undef E) h' := rfl
theorem stepP_some (v : Value) (h' : Heap) (d : Option Nat) : stepP (some (v, h')) d K E = K (putD d v E) h' := rfl
theorem stepG_true (A B : Env → Heap → Prop) : stepG (some true) A B E h = A E h := rfl
theorem stepG_false (A B : Env → Heap → Prop) : stepG (some false) A B E h = B E h := rfl
theorem skipD_eq (d : Option Nat) : skipD d K E h = K (putD d undef E) h := rfl
theorem stV2_some (n : Nat) (p x : Value) : stV2 h n (some p) (some x) = stV h n p x := rfl
theorem appV2_some (b n : Nat) (p x : Value) : appV2 h b n (some p) (some x) = appV h b n p x := rfl
theorem stepI_true (A B : Env → Heap → Prop) : stepI (some (.bool true)) A B E h = A E h := by simp [stepI]
theorem stepI_false (A B : Env → Heap → Prop) : stepI (some (.bool false)) A B E h = B E h := by simp [stepI]
theorem stepI.split {p : Prop} [Decidable p] {A B : Env → Heap → Prop} (ht : p → A E h) (hf : ¬ p → B E h) : stepI (some (.bool (decide p))) A B E h :=
  ⟨_, rfl, fun e => ht (of_decide_eq_true e), fun e => hf (of_decide_eq_false e)⟩
theorem stepI.splitB {b : Bool} {A B : Env → Heap → Prop} (ht : b = true → A E h) (hf : b = false → B E h) : stepI (some (.bool b)) A B E h := ⟨_, rfl, ht, hf⟩
theorem stepG.splitB {b : Bool} {A B : Env → Heap → Prop} (ht : b = true → A E h) (hf : b = false → B E h) : stepG (some b) A B E h := by
  cases b with
  | true => exact ht rfl
  | false => exact hf rfl
theorem guardV_some (s : Nat) (b : Bool) : guardV (some (s, b)) E = match E.get s with | some (.bool c) => some (c == b) | some (.tuple _) => some false | _ => none := rfl
def gdV (v : Option Value) (b : Bool) : Option Bool := match v with | some (.bool c) => some (c == b) | some (.tuple _) => some false | _ => none
theorem guardV_gd (s : Nat) (b : Bool) : guardV (some (s, b)) E = gdV (E.get s) b := rfl
theorem gdV_bool (c b : Bool) : gdV (some (.bool c)) b = some (c == b) := rfl
theorem gdV_undef (b : Bool) : gdV (some undef) b = some false := rfl

/-- THE RULE OF CALLS in the walk. -/
theorem stepC.of {f : FuncId} {vs : List Value} {d : Option Nat} {R : Value → Heap → Prop} (H : ACall P f vs h R) (k : ∀ v h', R v h' → K (putD d v E) h') : stepC P f (some vs) d K E h := H.mono k
theorem stepV.of {f : FuncId} {cap : Array Value} {vs : List Value} {d : Option Nat} {R : Value → Heap → Prop} {fn : Func} (hf : P.funcs[f]? = some fn) (hb : fn.body.isSome = true) (hn : fn.name ≠ "runtime.NumGoroutine")
    (H : ACall P f (vs ++ cap.toList) h R) (k : ∀ v h', R v h' → K (putD d v E) h') : stepV P (some (.func (.func f) #[] cap)) (some vs) d K E h :=
  ⟨f, cap, vs, rfl, rfl, ⟨fn, hf, hb, hn⟩, H.mono k⟩

theorem DOps_nil (pend : List PE) : DOps P [] pend K E h = K E h := rfl
theorem DOps_q (i : Nat) (d : Option Nat) (q : QOp) (b c : List Nat) (ds : List DOper) (pend : List PE) :
    DOps P (⟨i, ⟨d, .q q, none⟩, b, c⟩ :: ds) pend K E h = stepD P (q.ev E h) ⟨i, ⟨d, .q q, none⟩, b, c⟩ q pend ds K E h := by
  unfold stepD; simp only [DOps, guardV]; cases hq : q.ev E h <;> simp [hq]
theorem DOps_a (i : Nat) (d : Option Nat) (q : AOp) (b c : List Nat) (ds : List DOper) (pend : List PE) :
    DOps P (⟨i, ⟨d, .a q, none⟩, b, c⟩ :: ds) pend K E h = stepA (q.ev E) d (DOps P ds pend K) E h := by
  unfold stepA; simp only [DOps, guardV]; cases hq : q.ev E <;> simp [hq]
theorem DOps_e (i : Nat) (d : Option Nat) (q : EOp) (b c : List Nat) (ds : List DOper) (pend : List PE) :
    DOps P (⟨i, ⟨d, .e q, none⟩, b, c⟩ :: ds) pend K E h = AOne P ⟨d, .e q, none⟩ (kD ⟨i, ⟨d, .e q, none⟩, b, c⟩ ds pend P K) E h := by
  simp only [DOps, guardV]; rfl
theorem DOps_guard (i : Nat) (d : Option Nat) (op : SOp) (s : Nat) (g : Bool) (b c : List Nat) (ds : List DOper) (pend : List PE) :
    DOps P (⟨i, ⟨d, op, some (s, g)⟩, b, c⟩ :: ds) pend K E h =
      stepG (guardV (some (s, g)) E) (DOps P (⟨i, ⟨d, op, none⟩, b, c⟩ :: ds) pend K) (skipD d (DOps P ds pend K)) E h := by
  unfold stepG skipD
  simp only [DOps]
  cases hg : guardV (some (s, g)) E with
  | none => rfl
  | some x =>
    cases x with
    | false => rfl
    | true =>
      simp only [guardV]
      cases op with
      | q q => rfl
      | a q => rfl
      | e q =>
        show AOne P ⟨d, .e q, some (s, g)⟩ _ E h = AOne P ⟨d, .e q, none⟩ _ E h
        unfold AOne; simp only [hg]; rfl
theorem stepD_some (v : Value) (i : Nat) (d : Option Nat) (op : SOp) (g : Option (Nat × Bool)) (b c : List Nat) (q : QOp) (pend : List PE) (ds : List DOper) :
    stepD P (some v) ⟨i, ⟨d, op, g⟩, b, c⟩ q pend ds K E h = DOps P ds (if q.loads = true then ⟨i, E, q, v⟩ :: pend else pend) K (putD d v E) h := rfl
theorem kD_eq (i : Nat) (so : SOper) (b c : List Nat) (ds : List DOper) (pend : List PE) : kD ⟨i, so, b, c⟩ ds pend P K E h = (rechk h c pend ∧ DOps P ds pend K E h) := rfl
def chkV (b : Bool) (o : Option Value) (v : Value) : Prop := b = true → o = some v
theorem chkV_some (b : Bool) (v : Value) : chkV b (some v) v = True := by simp [chkV]
theorem chkV_false (o : Option Value) (v : Value) : chkV false o v = True := by simp [chkV]
theorem rechk_end (chk : List Nat) : rechk h chk [] = True := rfl
theorem rechk_cons (chk : List Nat) (i : Nat) (E : Env) (q : QOp) (v : Value) (l : List PE) : rechk h chk (⟨i, E, q, v⟩ :: l) = (chkV (chk.contains i) (q.ev E h) v ∧ rechk h chk l) := by
  simp [rechk, chkV]
theorem rechk_none : ∀ (pend : List PE), rechk h [] pend = True := by
  intro pend; induction pend with
  | nil => rfl
  | cons e l ih => simp [rechk, ih]

section
variable {Q : Go.Exit → Env → Heap → Prop}
theorem SW_skip : SW P .skip Q E h = Q .normal E h := rfl
theorem SW_region (ops : List SOper) (keep : List Nat) : SW P (.region ops keep) Q E h = AOps P ops (kR Q keep) E h := rfl
theorem SW_dregion (ops : List DOper) (keep : List Nat) : SW P (.dregion ops keep) Q E h = DOps P ops [] (kR Q keep) E h := rfl
theorem SW_seq (a b : SCode) : SW P (.seq a b) Q E h = SW P a (thenQ (SW P b Q) Q) E h := rfl
theorem SW_cond (c : Opd) (t e : SCode) : SW P (.cond c t e) Q E h = stepI (c.val E) (SW P t Q) (SW P e Q) E h := rfl
theorem SW_block (i : Nat) (b : SCode) : SW P (.block i b) Q E h = SW P b (blockQ i Q) E h := rfl
theorem SW_exit (i : Nat) : SW P (.exit i) Q E h = Q (.exit i) E h := rfl
theorem SW_ret : SW P .ret Q E h = Q .ret E h := rfl
theorem kR_eq (keep : List Nat) : kR Q keep E h = Q .normal (E.keep keep) h := rfl
theorem thenQ_normal (K : Env → Heap → Prop) : thenQ K Q .normal E h = K E h := rfl
theorem thenQ_exit (K : Env → Heap → Prop) (i : Nat) : thenQ K Q (.exit i) E h = Q (.exit i) E h := rfl
theorem thenQ_ret (K : Env → Heap → Prop) : thenQ K Q .ret E h = Q .ret E h := rfl
theorem blockQ_normal (i : Nat) : blockQ i Q .normal E h = Q .normal E h := rfl
theorem blockQ_ret (i : Nat) : blockQ i Q .ret E h = Q .ret E h := rfl
theorem blockQ_exit (i j : Nat) : blockQ i Q (.exit j) E h = if j = i then Q .normal E h else Q (.exit j) E h := rfl
/-- Loops that count up. -/
theorem SW_loop_up {b : SCode} (S : Nat → Env → Heap → Prop) (N i0 : Nat) (h0 : i0 ≤ N) (hs : S i0 E h)
    (round : ∀ i E h, i ≤ N → S i E h → SW P b (thenQ (fun E' h' => i < N ∧ S (i + 1) E' h') Q) E h) : SW P (.loop b) Q E h := by
  refine ⟨fun n E h => ∃ i, i ≤ N ∧ n = N - i ∧ S i E h, ⟨N - i0, i0, h0, rfl, hs⟩, ?_⟩
  rintro n E h ⟨i, hi, rfl, hS⟩
  have := round i E h hi hS
  revert this
  have mono : ∀ (c : SCode) (Q1 Q2 : Go.Exit → Env → Heap → Prop) (E : Env) (h : Heap), (∀ e E h, Q1 e E h → Q2 e E h) → SW P c Q1 E h → SW P c Q2 E h := by
    intro c
    induction c with
    | skip => intro Q1 Q2 E h k H; exact k _ _ _ H
    | region ops keep =>
      intro Q1 Q2 E h k H
      have am : ∀ (ops : List SOper) (K1 K2 : Env → Heap → Prop) (E : Env) (h : Heap), (∀ E h, K1 E h → K2 E h) → AOps P ops K1 E h → AOps P ops K2 E h := by
        intro ops
        induction ops with
        | nil => intro K1 K2 E h k H; exact k _ _ H
        | cons o os ih => intro K1 K2 E h k H; exact AOne_same (E := E) (E' := E) (fun _ _ => rfl) (fun v h' k' => ih _ _ _ _ k k') H
      exact am ops _ _ E h (fun E h => k _ _ _) H
    | dregion ops keep =>
      intro Q1 Q2 E h k H
      have dm : ∀ (ops : List DOper) (pend : List PE) (K1 K2 : Env → Heap → Prop) (E : Env) (h : Heap), (∀ E h, K1 E h → K2 E h) → DOps P ops pend K1 E h → DOps P ops pend K2 E h := by
        intro ops
        induction ops with
        | nil => intro pend K1 K2 E h k H; exact k _ _ H
        | cons d os ih =>
          intro pend K1 K2 E h k H
          simp only [DOps] at H ⊢
          split at H
          · exact H
          · exact ih _ _ _ _ _ k H
          · split at H
            · obtain ⟨v, h1, h2⟩ := H; exact ⟨v, h1, ih _ _ _ _ _ k h2⟩
            · obtain ⟨v, h1, h2⟩ := H; exact ⟨v, h1, ih _ _ _ _ _ k h2⟩
            · exact AOne_same (E := E) (E' := E) (fun _ _ => rfl) (fun v h' k' => ⟨k'.1, ih _ _ _ _ _ k k'.2⟩) H
      exact dm ops [] _ _ E h (fun E h => k _ _ _) H
    | seq a b iha ihb =>
      intro Q1 Q2 E h k H
      refine iha _ _ E h (fun e E h H => ?_) H
      cases e with
      | normal => exact ihb _ _ E h k H
      | _ => exact k _ _ _ H
    | cond c t e iht ihe =>
      intro Q1 Q2 E h k H
      obtain ⟨b, hb, h1, h2⟩ := H
      exact ⟨b, hb, fun x => iht _ _ _ _ k (h1 x), fun x => ihe _ _ _ _ k (h2 x)⟩
    | block i b ih =>
      intro Q1 Q2 E h k H
      refine ih _ _ E h (fun e E h H => ?_) H
      cases e with
      | exit j => simp only [blockQ] at H ⊢; split at H <;> (rename_i hj; simp only [hj, if_true, if_false]; exact k _ _ _ H)
      | _ => exact k _ _ _ H
    | loop b ih =>
      intro Q1 Q2 E h k H
      obtain ⟨I, hI, hr⟩ := H
      refine ⟨I, hI, fun n E h hn => ih _ _ E h (fun e E h H => ?_) (hr n E h hn)⟩
      cases e with
      | normal => exact H
      | _ => exact k _ _ _ H
    | exit i => intro Q1 Q2 E h k H; exact k _ _ _ H
    | ret => intro Q1 Q2 E h k H; exact k _ _ _ H
  refine mono b _ _ E h (fun e E h H => ?_)
  cases e with
  | normal =>
    obtain ⟨h1, h2⟩ : i < N ∧ S (i + 1) E h := H
    exact ⟨N - (i + 1), by omega, i + 1, by omega, rfl, h2⟩
  | _ => exact H
end
end
end Go.Ah
