import Derived.Test.YtdagajblnlemaaaAhI
set_option linter.unusedVariables false
set_option linter.unusedSimpArgs false
namespace Go.Ah
open Go Go.RowKit

/-! ### Calls -/
/-- What a call does to quiet heaps: it returns, with a value and a heap of which R holds. -/
def ACall (P : Program) (f : FuncId) (args : List Value) (h : Heap) (R : Value → Heap → Prop) : Prop :=
  ∀ (W0 : World) (m : Map) (w : World) (args' : List Value), Rel W0 m h w → VRs m args args' →
    Calls P f args'.toArray w fun e w' => ∃ v' v h' m', e = .returned v' ∧ Rel W0 m' h' w' ∧ Step m h m' h' ∧ VR m' v v' ∧ R v h'

theorem ACall.mono {P : Program} {f : FuncId} {args : List Value} {h : Heap} {R R' : Value → Heap → Prop} (H : ACall P f args h R) (k : ∀ v h', R v h' → R' v h') : ACall P f args h R' :=
  fun W0 m w args' r va => (H W0 m w args' r va).mono fun e w' ⟨v', v, h', m', he, hr, hs, hv, hR⟩ => ⟨v', v, h', m', he, hr, hs, hv, k _ _ hR⟩

/-- A function without a text, called: it answers at once and changes nothing. -/
def AExt (P : Program) (f : FuncId) (args : List Value) (h : Heap) (R : Value → Heap → Prop) : Prop :=
  ∀ (W0 : World) (m : Map) (w : World) (args' : List Value), Rel W0 m h w → VRs m args args' → ∃ v' v, (callFunc f args'.toArray).run P w = .ok (.value v') w ∧ VR m v v' ∧ R v h
inductive EOp where
  | st (n : Nat) (a x : Opd)
  | app (bytes sz : Nat) (x y : Opd)
  | cpy (sz : Nat) (x y : Opd)
  | cnv (x : Opd)
  | xt (f : FuncId) (args : List Opd)
  | call (f : FuncId) (args : List Opd)
  | callv (x : Opd) (args : List Opd)
inductive SOp where
  | q (o : QOp)
  | a (o : AOp)
  | e (o : EOp)
structure SOper where
  dst : Option Nat
  op : SOp
  guard : Option (Nat × Bool)

def slimE (P : Program) (o : Op) : Option EOp := match o with
  | .store t a x => (szOf P t).bind fun n => (slimOpd a).bind fun a => (slimOpd x).bind fun x => some (.st n a x)
  | .call { callee := .builtin .append, args, argTypes } => match args.toList, argTypes.toList with
      | [x, y], [t, t2] => (slimOpd x).bind fun x => (slimOpd y).bind fun y => (P.underlying t).bind fun d => (P.underlying t2).bind fun d2 => match d with
          | .slice e => (P.info? e).bind fun i => i.zero.bind fun z =>
              if z.cells.size == i.size && decide (0 < i.bytes) && decide (i.bytes ≤ 65536) && decide (0 < i.size) && noInt d2 then some (.app i.bytes i.size x y) else none
          | _ => none
      | _, _ => none
  | .call { callee := .builtin .copy, args, argTypes } => match args.toList, argTypes.toList with
      | [x, y], [t, _] => (slimOpd x).bind fun x => (slimOpd y).bind fun y => (P.underlying t).bind fun d => match d with
          | .slice e => (szOf P e).bind fun n => some (.cpy n x y)
          | _ => none
      | _, _ => none
  | .convert s d x => if s = d then (P.underlying s).bind fun sd => match sd with
      | .slice el => (P.underlying el).bind fun ed => match ed with
        | .int .u8 => (slimOpd x).map .cnv
        | _ => none
      | _ => none
    else none
  | .call { callee := .value (.func f), args, .. } => match P.funcs[f]? with
      | some fn => if fn.body.isSome && fn.name != "runtime.NumGoroutine" then (slimOpds args.toList).map (.call f) else if fn.body.isNone then (slimOpds args.toList).map (.xt f) else none
      | none => none
  | .call { callee := .value (.tmp x), args, .. } => (slimOpds args.toList).map (.callv (.t x))
  | _ => none
/-- The quiet ones first, then those that make, then those that write. -/
def slimOp (P : Program) (o : Op) : Option SOp := match slimQ P o with
  | some q => some (.q q)
  | none => match slimA P o with
    | some a => some (.a a)
    | none => match slimE P o with
      | some e => some (.e e)
      | none => some (.q .bad)

/-- May an operation be done? (A slot that was passed over holds 'undef'.) -/
def guardV (g : Option (Nat × Bool)) (E : Env) : Option Bool := match g with
  | none => some true
  | some (s, b) => match E.get s with
    | some (.bool c) => some (c == b)
    | some (.tuple _) => some false
    | _ => none
def putD (d : Option Nat) (v : Value) (E : Env) : Env := match d with
  | some s => (s, v) :: E
  | none => E

/-- One operation, and what must hold behind it. -/
def AOne (P : Program) (o : SOper) (K : Env → Heap → Prop) (E : Env) (h : Heap) : Prop := match guardV o.guard E with
  | none => False
  | some false => K (putD o.dst undef E) h
  | some true => match o.op with
    | .q q => ∃ v, q.ev E h = some v ∧ K (putD o.dst v E) h
    | .a q => ∃ c, q.ev E = some c ∧ K (putD o.dst (c.2 h.size) E) (h.alloc c.1)
    | .e (.st n a x) => ∃ p v h', a.val E = some p ∧ x.val E = some v ∧ stV h n p v = some h' ∧ K (putD o.dst undef E) h'
    | .e (.app bytes sz x y) => ∃ u v r, x.val E = some u ∧ y.val E = some v ∧ appV h bytes sz u v = some r ∧ K (putD o.dst r.1 E) r.2
    | .e (.cpy sz x y) => ∃ u v r, x.val E = some u ∧ y.val E = some v ∧ cpyV h sz u v = some r ∧ K (putD o.dst r.1 E) r.2
    | .e (.cnv x) => ∃ u r, x.val E = some u ∧ cnvV h u = some r ∧ K (putD o.dst r.1 E) r.2
    | .e (.xt f args) => ∃ vs, Opd.vals E args = some vs ∧ AExt P f vs h fun v h' => K (putD o.dst v E) h'
    | .e (.call f args) => ∃ vs, Opd.vals E args = some vs ∧ ACall P f vs h fun v h' => K (putD o.dst v E) h'
    | .e (.callv x args) => ∃ vs f cap, Opd.vals E args = some vs ∧ x.val E = some (.func (.func f) #[] cap) ∧
        (∃ fn, P.funcs[f]? = some fn ∧ fn.body.isSome = true ∧ fn.name ≠ "runtime.NumGoroutine") ∧ ACall P f (vs ++ cap.toList) h fun v h' => K (putD o.dst v E) h'
/-- A row of operations, in the text's order; K: what must hold behind it. -/
def AOps (P : Program) : List SOper → (Env → Heap → Prop) → Env → Heap → Prop
  | [], K => K
  | o :: os, K => AOne P o (AOps P os K)

/-! ### One row of operations is sound -/
def slimOper (P : Program) (N : Nat) (ops : List Oper) (o : Oper) : Option SOper :=
  (slimOp P o.op).bind fun op => if (o.dst.map fun d => decide (d < N)).getD true = true then match o.guard with
    | none => some ⟨o.dst, op, none⟩
    | some (j, b) => ((ops[j]?).bind (·.dst)).bind fun s => some ⟨o.dst, op, some (s, b)⟩
  else none
def slimList (P : Program) (N : Nat) (ops : List Oper) : List Oper → Option (List SOper)
  | [] => some []
  | o :: t => (slimOper P N ops o).bind fun x => (slimList P N ops t).bind fun l => some (x :: l)

section
variable {P : Program} {W0 : World} {m : Map} {h : Heap} {w : World} {N : Nat} {dl : List Deferred} {E : Env} {a : Act}

theorem ER.putD {e : ER N m E a.tmps} {d : Option Nat} (hd : (d.map fun d => decide (d < N)).getD true = true) {v v' : Value} (r : VR m v v') : ER N m (Ah.putD d v E) (a.put d v').tmps := by
  cases d with
  | none => exact e
  | some d => simp at hd; exact e.put hd r

/-- Where a run is: frames of values and worlds that fit. -/
structure At (W0 : World) (N : Nat) (dl : List Deferred) (m0 : Map) (h0 : Heap) (m : Map) (E : Env) (h : Heap) (a : Act) (w : World) : Prop where
  rel : Rel W0 m h w
  er : ER N m E a.tmps
  nodefer : a.defers = dl
  step : Step m0 h0 m h

theorem guard_sound {ops : Array Oper} {o : Oper} {so : SOper} (hs : slimOper P N ops.toList o = some so) (e : ER N m E a.tmps) {b : Bool} (hg : guardV so.guard E = some b) :
    Region.wanted o (yielded ops a.tmps) = b := by
  unfold slimOper at hs
  obtain ⟨op, hop, hs⟩ := bind_some hs
  split at hs
  · cases hq : o.guard with
    | none =>
      rw [hq] at hs; cases hs
      simp only [guardV, Option.some.injEq] at hg; subst hg
      simp [Region.wanted, hq]
    | some p =>
      obtain ⟨j, b0⟩ := p
      rw [hq] at hs
      obtain ⟨s, hs1, hs⟩ := bind_some hs
      cases hs
      simp only [guardV] at hg
      have hs2 : (ops[j]?).bind (·.dst) = some s := by simpa using hs1
      simp only [Region.wanted, hq, yielded, hs2, Option.bind_some]
      split at hg
      · rename_i c hc
        obtain ⟨v', e1, r1⟩ := e.2 s _ hc
        cases r1
        rw [e1]; simp at hg ⊢; rw [← hg]
      · rename_i vs hc
        obtain ⟨v', e1, r1⟩ := e.2 s _ hc
        cases r1
        rw [e1]; cases hg; rfl
      · cases hg
  · cases hs
theorem slimOper_dst {ops : List Oper} {o : Oper} {so : SOper} (hs : slimOper P N ops o = some so) :
    so.dst = o.dst ∧ (o.dst.map fun d => decide (d < N)).getD true = true ∧ slimOp P o.op = some so.op := by
  unfold slimOper at hs
  obtain ⟨op, hop, hs⟩ := bind_some hs
  split at hs
  · rename_i hd
    split at hs
    · cases hs; exact ⟨rfl, hd, hop⟩
    · obtain ⟨s, _, hs⟩ := bind_some hs; cases hs; exact ⟨rfl, hd, hop⟩
  · cases hs

theorem VR.undef (m : Map) : VR m Go.undef Go.undef := .tuple _ _ rfl fun i hi => by simp at hi

theorem Makes.run {s : Sem Next} {cs : List Value} {mk : Nat → Value} (H : Makes P m w s cs mk) (r : Rel W0 m h w) :
    ∃ v' w' m', s.run P w = .ok (.value v') w' ∧ Rel W0 m' (h.alloc cs) w' ∧ Step m h m' (h.alloc cs) ∧ VR m' (mk h.size) v' := by
  obtain ⟨c', e, f, v', w', hr, hw, hf, hl, hv, h1, hm⟩ := H
  obtain ⟨R, T⟩ := r.alloc (cs := cs) e hf hl hv h1
  exact ⟨v', w', _, hr, R.sameW hw, T, hm _ _ (Map.set_same _ _ _)⟩

theorem callFunc_run {f : FuncId} {fn : Func} (hf : P.funcs[f]? = some fn) (hb : fn.body.isSome = true) (hn : fn.name ≠ "runtime.NumGoroutine") (args : Array Value) :
    (callFunc f args).run P w = .ok (.enter f args) w := by
  unfold callFunc
  simp only [Sem.run_bind, run_program, Result.andThen_ok, hf]
  rw [if_neg (by simpa using hn), if_neg (by simp; cases hq : fn.body <;> simp_all)]
  rfl

/-- The heart: one operation. 'next' is what wpOps wants behind it. -/
theorem one_core {ops : Array Oper} {o : Oper} {so : SOper} (hs : slimOper P N ops.toList o = some so) (rel : Rel W0 m h w) (er : ER N m E a.tmps) (nod : a.defers = dl) {K : Env → Heap → Prop}
    (H : AOne P so K E h) (Q : Go.Exit → Act → World → Prop) (next : Act → World → Prop)
    (fin : ∀ {m' : Map} {h' : Heap} {w' : World} {v v' : Value}, Rel W0 m' h' w' → Step m h m' h' → VR m' v v' → K (putD so.dst v E) h' → next (a.put o.dst v') w') :
    (Region.wanted o (yielded ops a.tmps) = true ∧ o.wp P a w next Q) ∨ (Region.wanted o (yielded ops a.tmps) = false ∧ next (a.put o.dst undef) w) := by
  obtain ⟨hd1, hd2, hop⟩ := slimOper_dst hs
  unfold AOne at H
  split at H
  · exact H.elim
  · rename_i hg
    exact .inr ⟨guard_sound hs er hg, fin rel (.refl m h) (VR.undef m) H⟩
  · rename_i hg
    refine .inl ⟨guard_sound hs er hg, ?_⟩
    unfold slimOp at hop
    split at hop
    · rename_i q hq
      cases hop2 : so.op with
      | q q' =>
        rw [hop2] at hop H; cases hop
        obtain ⟨v, hv, k⟩ := H
        obtain ⟨v', w', hr, hw, rv⟩ := q_sound hq rel er hv o rfl
        simp only [Oper.wp, hr, Oper.upon_value]
        exact fin (rel.sameW hw) (.refl m h) rv k
      | a q' => rw [hop2] at hop; cases hop
      | e q' => rw [hop2] at hop; cases hop
    · split at hop
      · rename_i q hq
        cases hop2 : so.op with
        | a q' =>
          rw [hop2] at hop H; cases hop
          obtain ⟨⟨cs, mk⟩, hv, k⟩ := H
          obtain ⟨v', w', m', hr, R, T, rv⟩ := (a_sound hq er hv o rfl).run rel
          simp only [Oper.wp, hr, Oper.upon_value]
          exact fin R T rv k
        | q q' => rw [hop2] at hop; cases hop
        | e q' => rw [hop2] at hop; cases hop
      · split at hop
        rotate_left
        · simp only [Option.some.injEq] at hop
          rw [← hop] at H
          obtain ⟨v, hv, k⟩ := H
          simp only [QOp.ev] at hv
          cases hv
        rename_i q hq
        simp only [Option.some.injEq] at hop
        have hop2 := hop
        rw [← hop2] at H
        have hex : ∀ op, o.op = op → (execOp a.eval o) = execOp a.eval { o with op := op } := by intro op e; rw [← e]
        cases hoo : o.op with
        | convert s d x =>
          rw [hoo] at hq
          simp only [slimE] at hq
          split at hq
          · rename_i hsd
            subst hsd
            replace hq := bind_some hq; obtain ⟨sd, hs1, hq⟩ := hq
            split at hq
            · rename_i el
              replace hq := bind_some hq; obtain ⟨ed, he1, hq⟩ := hq
              split at hq
              · simp only [Option.map_eq_some_iff] at hq; obtain ⟨x', hx, hq⟩ := hq
                cases hq
                obtain ⟨u, ⟨r1, r2⟩, hu, hcv, k⟩ := H
                obtain ⟨v', w', hr, R, T, rv⟩ := run_cnv (P := P) rel hs1 he1 (slimOpd_sound hx er hu) hcv
                have hrun : (execOp a.eval o).run P w = .ok (.value v') w' := by
                  simp only [execOp, hoo, Sem.run_bind, hr, Result.andThen_ok, Sem.run_pure]
                simp only [Oper.wp, hrun, Oper.upon_value]
                exact fin R T rv k
              · cases hq
            · cases hq
          · cases hq
        | store t x y =>
          rw [hoo] at hq
          simp only [slimE] at hq
          replace hq := bind_some hq; obtain ⟨n, hn, hq⟩ := hq
          replace hq := bind_some hq; obtain ⟨x', hx, hq⟩ := hq
          replace hq := bind_some hq; obtain ⟨y', hy, hq⟩ := hq
          cases hq
          obtain ⟨p, v, h', hp, hv, hst, k⟩ := H
          obtain ⟨w', hr, R, T⟩ := run_st (P := P) rel hn (slimOpd_sound hx er hp) (slimOpd_sound hy er hv) hst
          have hrun : (execOp a.eval o).run P w = .ok .skip w' := by
            simp only [execOp, hoo, Sem.run_bind, hr, Result.andThen_ok, Sem.run_pure]
          simp only [Oper.wp, hrun, Oper.upon_skip]
          exact fin R T (VR.undef m) k
        | call c =>
          obtain ⟨callee, args, argTypes⟩ := c
          rw [hoo] at hq
          cases callee with
          | builtin bi =>
            cases bi with
            | append =>
              simp only [slimE] at hq
              split at hq
              · rename_i x y t t2 hargs htys
                have ha : args = #[x, y] := by rw [← Array.toArray_toList (xs := args), hargs]
                have ht : argTypes = #[t, t2] := by rw [← Array.toArray_toList (xs := argTypes), htys]
                subst ha; subst ht
                replace hq := bind_some hq; obtain ⟨x', hx, hq⟩ := hq
                replace hq := bind_some hq; obtain ⟨y', hy, hq⟩ := hq
                replace hq := bind_some hq; obtain ⟨d, hd, hq⟩ := hq
                replace hq := bind_some hq; obtain ⟨d2, hd2, hq⟩ := hq
                split at hq
                · rename_i e
                  replace hq := bind_some hq; obtain ⟨i, hi, hq⟩ := hq
                  replace hq := bind_some hq; obtain ⟨z, hz, hq⟩ := hq
                  split at hq
                  · rename_i hc
                    simp only [Bool.and_eq_true, beq_iff_eq, decide_eq_true_eq] at hc
                    obtain ⟨⟨⟨⟨c1, c2⟩, c3⟩, c4⟩, c5⟩ := hc
                    cases hq
                    obtain ⟨u, v, ⟨r1, r2⟩, hu, hv, happ, k⟩ := H
                    obtain ⟨v', w', m', hr, R, T, rv⟩ := run_app (P := P) (ty := o.type) rel hd hd2 c5 hi hz c1 c2 c3 c4 (slimOpd_sound hx er hu) (slimOpd_sound hy er hv) happ
                    have hrun : (execOp a.eval o).run P w = .ok (.value v') w' := by
                      have e0 : (execOp a.eval o).run P w = ((do pure (Next.value (← Builtin.append_ #[t, t2] o.type #[a.eval x, a.eval y])) : Sem Next)).run P w := by
                        simp only [execOp, hoo, resolve, invoke, builtin, Sem.run_bind, Sem.run_pure, Result.andThen_ok, List.map_toArray, List.map_cons, List.map_nil]
                      rw [e0]; simp only [Sem.run_bind, hr, Result.andThen_ok, Sem.run_pure]
                    simp only [Oper.wp, hrun, Oper.upon_value]
                    exact fin R T rv k
                  · cases hq
                · cases hq
              · cases hq
            | copy =>
              simp only [slimE] at hq
              split at hq
              · rename_i x y t t2 hargs htys
                have ha : args = #[x, y] := by rw [← Array.toArray_toList (xs := args), hargs]
                have ht : argTypes = #[t, t2] := by rw [← Array.toArray_toList (xs := argTypes), htys]
                subst ha; subst ht
                replace hq := bind_some hq; obtain ⟨x', hx, hq⟩ := hq
                replace hq := bind_some hq; obtain ⟨y', hy, hq⟩ := hq
                replace hq := bind_some hq; obtain ⟨d, hd, hq⟩ := hq
                split at hq
                · rename_i e
                  replace hq := bind_some hq; obtain ⟨n, hn, hq⟩ := hq
                  cases hq
                  obtain ⟨u, v, ⟨r1, r2⟩, hu, hv, hcpy, k⟩ := H
                  obtain ⟨v', w', hr, R, T, rv⟩ := run_cpy (P := P) (ty := o.type) (t2 := t2) rel hd hn (slimOpd_sound hx er hu) (slimOpd_sound hy er hv) hcpy
                  have hrun : (execOp a.eval o).run P w = .ok (.value v') w' := by
                    have e0 : (execOp a.eval o).run P w = ((do pure (Next.value (← Builtin.copy_ #[t, t2] o.type #[a.eval x, a.eval y])) : Sem Next)).run P w := by
                      simp only [execOp, hoo, resolve, invoke, builtin, Sem.run_bind, Sem.run_pure, Result.andThen_ok, List.map_toArray, List.map_cons, List.map_nil]
                    rw [e0]; simp only [Sem.run_bind, hr, Result.andThen_ok, Sem.run_pure]
                  simp only [Oper.wp, hrun, Oper.upon_value]
                  exact fin R T rv k
                · cases hq
              · cases hq
            | _ => simp [slimE] at hq
          | value f =>
            cases f with
            | func f =>
              simp only [slimE] at hq
              split at hq
              · rename_i fn hf
                split at hq
                · rename_i hc
                  simp only [Bool.and_eq_true, bne_iff_ne, ne_eq] at hc
                  simp only [Option.map_eq_some_iff] at hq; obtain ⟨l, hl, hq⟩ := hq
                  cases hq
                  obtain ⟨vs, hvs, hcall⟩ := H
                  have rv := slimOpds_sound er args.toList hl hvs
                  have hrun : (execOp a.eval o).run P w = .ok (.enter f (args.map a.eval)) w := by
                    simp only [execOp, hoo]
                    have hev : a.eval (.func f) = .func (.func f) #[] #[] := rfl
                    simp only [resolve, Sem.run_bind, Act.eval, Deferred.ofValue, Sem.run_pure, Result.andThen_ok, invoke, Array.append_empty, Array.empty_append, callFunc_run hf hc.1 hc.2]
                  simp only [Oper.wp, hrun, Oper.upon_enter]
                  have harr : args.map a.eval = (args.toList.map a.eval).toArray := by rw [← Array.toList_map, Array.toArray_toList]
                  rw [harr]
                  refine (hcall W0 m w _ rel rv).mono ?_
                  rintro e w' ⟨v', v, h', m', rfl, R, T, rv', k⟩
                  exact fin R T rv' k
                · split at hq
                  · simp only [Option.map_eq_some_iff] at hq; obtain ⟨l, hl, hq⟩ := hq
                    cases hq
                    obtain ⟨vs, hvs, hcall⟩ := H
                    have rv := slimOpds_sound er args.toList hl hvs
                    obtain ⟨v', v, hc, rv', k⟩ := hcall W0 m w _ rel rv
                    have harr : args.map a.eval = (args.toList.map a.eval).toArray := by rw [← Array.toList_map, Array.toArray_toList]
                    have hrun : (execOp a.eval o).run P w = .ok (.value v') w := by
                      simp only [execOp, hoo]
                      have hev : a.eval (.func f) = .func (.func f) #[] #[] := rfl
                      simp only [resolve, Sem.run_bind, Act.eval, Deferred.ofValue, Sem.run_pure, Result.andThen_ok, invoke, Array.append_empty, Array.empty_append]
                      rw [← hc, ← harr]
                    simp only [Oper.wp, hrun, Oper.upon_value]
                    exact fin rel (.refl m h) rv' k
                  · cases hq
              · cases hq
            | tmp x =>
              simp only [slimE, Option.map_eq_some_iff] at hq; obtain ⟨l, hl, hq⟩ := hq
              cases hq
              obtain ⟨vs, f, cap, hvs, hx, ⟨fn, hf, hb, hn⟩, hcall⟩ := H
              have rv := slimOpds_sound er args.toList hl hvs
              have rx := slimOpd_sound (x := .tmp x) rfl er hx
              generalize hz : a.eval (.tmp x) = z at rx
              cases rx with
              | func _ _ f' _ c' h1 h2 h3 h4 =>
                have hf0 : f' = #[] := Array.eq_empty_of_size_eq_zero (by simpa using h1.symm)
                subst hf0
                have hrun : (execOp a.eval o).run P w = .ok (.enter f (args.map a.eval ++ c')) w := by
                  simp only [execOp, hoo]
                  simp only [resolve, Sem.run_bind, hz, Deferred.ofValue, Sem.run_pure, Result.andThen_ok, invoke]
                  rw [callFunc_run hf hb hn]; simp
                simp only [Oper.wp, hrun, Oper.upon_enter]
                have harr : args.map a.eval ++ c' = (args.toList.map a.eval ++ c'.toList).toArray := by simp
                rw [harr]
                refine (hcall W0 m w _ rel (rv.append (VRs.of_agg h2 h4))).mono ?_
                rintro e w' ⟨v', v, h', m', rfl, R, T, rv', k⟩
                exact fin R T rv' k
            | const v => simp [slimE] at hq
            | global g => simp [slimE] at hq
          | invoke rc me => simp [slimE] at hq
        | _ => rw [hoo] at hq; simp [slimE] at hq

theorem one_sound {ops : Array Oper} {o : Oper} {so : SOper} (hs : slimOper P N ops.toList o = some so) {m0 : Map} {h0 : Heap} (A : At W0 N dl m0 h0 m E h a w) {K : Env → Heap → Prop}
    (H : AOne P so K E h) (Q : Go.Exit → Act → World → Prop) (next : Act → World → Prop)
    (hK : ∀ m' E' h' a' w', At W0 N dl m0 h0 m' E' h' a' w' → K E' h' → next a' w') :
    (Region.wanted o (yielded ops a.tmps) = true ∧ o.wp P a w next Q) ∨ (Region.wanted o (yielded ops a.tmps) = false ∧ next (a.put o.dst undef) w) := by
  obtain ⟨hd1, hd2, hop⟩ := slimOper_dst hs
  refine one_core hs A.rel A.er A.nodefer H Q next fun {m' h' w' v v'} r s rv k => ?_
  refine hK m' _ h' _ w' ⟨r, ?_, ?_, A.step.trans s⟩ k
  · rw [hd1]; exact ER.putD (e := A.er.mono (s.le A.rel)) hd2 rv
  · rw [← A.nodefer]; cases o.dst <;> rfl
end
end Go.Ah
