import Derived.Test.YtdagajblnlemaaaAhE
set_option linter.unusedVariables false
set_option linter.unusedSimpArgs false
namespace Go.Ah
open Go Go.RowKit

theorem bind_some {α β : Type} {x : Option α} {f : α → Option β} {b : β} (h : x.bind f = some b) : ∃ a, x = some a ∧ f a = some b := Option.bind_eq_some_iff.mp h

theorem optd_sound {x : Option Operand} {o : Option Opd} (hs : slimOpt x = some o) {N : Nat} {m : Map} {E : Env} {a : Act} (h : ER N m E a.tmps) {v : Option Value}
    (hv : Opd.optV E o = some v) : (v = none ∧ x.map a.eval = none) ∨ ∃ u u', v = some u ∧ x.map a.eval = some u' ∧ VR m u u' := by
  cases x with
  | none => simp [slimOpt] at hs; subst hs; simp [Opd.optV] at hv; subst hv; exact .inl ⟨rfl, rfl⟩
  | some x =>
    simp only [slimOpt, Option.map_eq_some_iff] at hs
    obtain ⟨q, hq, rfl⟩ := hs
    simp only [Opd.optV, Option.map_eq_some_iff] at hv
    obtain ⟨u, hu, rfl⟩ := hv
    exact .inr ⟨u, a.eval x, rfl, rfl, slimOpd_sound hq h hu⟩

theorem slimOpds_sound {m : Map} {N : Nat} {E : Env} {a : Act} (h : ER N m E a.tmps) : ∀ (xs : List Operand) {os : List Opd}, slimOpds xs = some os → ∀ {vs : List Value}, Opd.vals E os = some vs →
    VRs m vs (xs.map a.eval) := by
  intro xs
  induction xs with
  | nil => intro os hs vs hv; simp [slimOpds] at hs; subst hs; simp [Opd.vals] at hv; subst hv; exact .nil m
  | cons x t ih =>
    intro os hs vs hv
    simp only [slimOpds] at hs
    obtain ⟨o, ho, hs⟩ := bind_some hs
    obtain ⟨l, hl, hs⟩ := bind_some hs
    cases hs
    simp only [Opd.vals] at hv
    obtain ⟨v, hv1, hv⟩ := bind_some hv
    obtain ⟨l', hl', hv⟩ := bind_some hv
    cases hv
    exact .cons (slimOpd_sound ho h hv1) (ih hl hl')

/-! fill -/
theorem fold_splice : ∀ (l : List Value) (cells : Array Value) (off k : Nat), off + k + l.length ≤ cells.size →
    (l.zipIdx k).foldl (fun (cs : Array Value) p => cs.setIfInBounds (off + p.2) p.1) cells = (splice cells.toList (off + k) l).toArray := by
  intro l
  induction l with
  | nil => intro cells off k _; simp [splice_nil]
  | cons v t ih =>
    intro cells off k hl
    simp at hl
    simp only [List.zipIdx_cons, List.foldl_cons]
    rw [ih (cells.setIfInBounds (off + k) v) off (k + 1) (by simp; omega)]
    congr 1
    simp only [Array.toList_setIfInBounds]
    rw [← Nat.add_assoc, splice_cons _ _ _ _ (by simp; omega)]
theorem VRs.splice {m : Map} {c c' v v' : List Value} (h : VRs m c c') (k : VRs m v v') (o : Nat) : VRs m (Ah.splice c o v) (Ah.splice c' o v') := by
  unfold Ah.splice; rw [← k.1]; exact ((h.take o).append k).append (h.drop _)

theorem fill_sound {m : Map} {N : Nat} {E : Env} {a : Act} (h : ER N m E a.tmps) (place : Nat → Option (Nat × Nat)) : ∀ (parts : List (Nat × Operand)) {l : List (Nat × Nat × Opd)},
    slimParts place parts = some l → ∀ {vs : List (Nat × Nat × Value)}, valsP E l = some vs → ∀ {cs cs' out : List Value}, VRs m cs cs' → fillV cs vs = some out →
    ∃ out', Instr.fill place cs'.toArray (parts.map fun p => (p.1, a.eval p.2)) = some out'.toArray ∧ VRs m out out' := by
  intro parts
  induction parts with
  | nil =>
    intro l hs vs hv cs cs' out hc hf
    simp [slimParts] at hs; subst hs; simp [valsP] at hv; subst hv; simp [fillV] at hf; subst hf
    exact ⟨cs', rfl, hc⟩
  | cons p t ih =>
    obtain ⟨i, x⟩ := p
    intro l hs vs hv cs cs' out hc hf
    simp only [slimParts] at hs
    obtain ⟨q, hq, hs⟩ := bind_some hs
    obtain ⟨o, ho, hs⟩ := bind_some hs
    obtain ⟨l', hl', hs⟩ := bind_some hs
    cases hs
    obtain ⟨off, size⟩ := q
    simp only [valsP] at hv
    obtain ⟨v, hv1, hv⟩ := bind_some hv
    obtain ⟨vs', hv2, hv⟩ := bind_some hv
    cases hv
    simp only [fillV] at hf
    split at hf
    · rename_i hsz
      have rv := slimOpd_sound ho h hv1
      have rc := rv.cells
      have hsz' : (a.eval x).cells.size = size := by have := rc.1; simp at this; omega
      obtain ⟨out', e, r⟩ := ih hl' hv2 (hc.splice rc off) hf
      refine ⟨out', ?_, r⟩
      simp only [List.map_cons, Instr.fill, hq]
      rw [if_neg (by simp [hsz']; rw [← hc.1]; exact hsz.2)]
      rw [← e]
      congr 1
      have := fold_splice (a.eval x).cells.toList cs'.toArray off 0 (by simp [hsz', ← hc.1]; exact hsz.2)
      rw [Nat.add_zero] at this
      rw [← this]
      rw [← Array.foldl_toList]
      simp [Array.toList_zipIdx]
    · cases hf

theorem run_placesOf (P : Program) (w : World) : ∀ (fs : List Field) {l : List (Nat × Nat)}, placesOf P fs = some l →
    (fs.mapM (fun f => (do pure (f.offset, ← sizeOf f.type) : Sem (Nat × Nat)))).run P w = .ok l w := by
  intro fs
  induction fs with
  | nil => intro l h; simp [placesOf] at h; subst h; simp
  | cons f t ih =>
    intro l h
    simp only [placesOf] at h
    obtain ⟨n, hn, h⟩ := bind_some h
    obtain ⟨l', hl', h⟩ := bind_some h
    cases h
    simp only [List.mapM_cons, Sem.run_bind, run_sizeOf P w hn, Result.andThen_ok, Sem.run_pure, ih hl']

theorem run_build_struct {P : Program} {w : World} {m : Map} {N : Nat} {E : Env} {a : Act} (h : ER N m E a.tmps) {t : TypeId} {parts : Array (Nat × Operand)} {fields : Array Field} {z : Value}
    (hu : P.underlying t = some (.struct fields)) (hz : (P.info? t).bind (·.zero) = some z) (hc : closedB z = true) {ps : List (Nat × Nat)} (hp : placesOf P fields.toList = some ps)
    {l : List (Nat × Nat × Opd)} (hl : slimParts (ps[·]?) parts.toList = some l) {vs : List (Nat × Nat × Value)} (hv : valsP E l = some vs) {out : List Value} (hf : fillV z.cells.toList vs = some out) :
    ∃ out', (Instr.build t (parts.map fun (i, x) => (i, a.eval x))).run P w = .ok (.agg out'.toArray) w ∧ VRs m out out' := by
  obtain ⟨out', e, r⟩ := fill_sound h _ parts.toList hl hv (VR.closed m hc).cells hf
  refine ⟨out', ?_, r⟩
  have hpl : (fields.mapM fun f => (do pure (f.offset, ← sizeOf f.type) : Sem (Nat × Nat))).run P w = .ok ps.toArray w := by
    rw [Array.mapM_eq_mapM_toList]; simp only [Sem.run_map, run_placesOf P w _ hp, Result.andThen_ok]
  unfold Instr.build
  simp only [Sem.run_bind, run_zeroValue P w hz, Result.andThen_ok, run_underlying P w hu, hpl]
  have e2 : Instr.fill (fun i => ps.toArray[i]?) z.cells (parts.map fun (i, x) => (i, a.eval x)).toList = some out'.toArray := by
    rw [← e]; simp
  simp only [e2]; rfl

theorem run_build_array {P : Program} {w : World} {m : Map} {N : Nat} {E : Env} {a : Act} (h : ER N m E a.tmps) {t : TypeId} {parts : Array (Nat × Operand)} {len : Nat} {e : TypeId} {z : Value}
    (hu : P.underlying t = some (.array len e)) (hz : (P.info? t).bind (·.zero) = some z) (hc : closedB z = true) {n : Nat} (hn : szOf P e = some n)
    {l : List (Nat × Nat × Opd)} (hl : slimParts (fun i => some (i * n, n)) parts.toList = some l) {vs : List (Nat × Nat × Value)} (hv : valsP E l = some vs) {out : List Value} (hf : fillV z.cells.toList vs = some out) :
    ∃ out', (Instr.build t (parts.map fun (i, x) => (i, a.eval x))).run P w = .ok (.agg out'.toArray) w ∧ VRs m out out' := by
  obtain ⟨out', e, r⟩ := fill_sound h _ parts.toList hl hv (VR.closed m hc).cells hf
  refine ⟨out', ?_, r⟩
  unfold Instr.build
  simp only [Sem.run_bind, run_zeroValue P w hz, Result.andThen_ok, run_underlying P w hu, run_sizeOf P w hn]
  have e2 : Instr.fill (fun i => some (i * n, n)) z.cells (parts.map fun (i, x) => (i, a.eval x)).toList = some out'.toArray := by
    rw [← e]; simp
  simp only [e2]; rfl

section
variable {P : Program} {W0 : World} {m : Map} {h : Heap} {w : World}
theorem isAgg_run {t : TypeId} {d : TypeDesc} (hu : P.underlying t = some d) : (isAgg t).run P w = .ok (isAggB d) w := by
  unfold isAgg; simp only [Sem.run_bind, run_underlying P w hu, Result.andThen_ok]
  cases d <;> rfl

theorem run_ld (r : Rel W0 m h w) {t : TypeId} {d : TypeDesc} (hu : P.underlying t = some d) (ha : isAggB d = false) {x x' v : Value} (hx : VR m x x') (hv : ldV h x = some v) :
    ∃ v', (Instr.loadAt t x').run P w = .ok v' w ∧ VR m v v' := by
  unfold ldV at hv
  split at hv
  · cases hx with
    | ptr i o b base S hm =>
      obtain ⟨v', e, rv⟩ := r.rd hm hv
      refine ⟨v', ?_, rv⟩
      simp only [Instr.loadAt, Instr.sureAddr, Sem.run_bind, Sem.run_pure, Result.andThen_ok, loadVar, isAgg_run hu, ha, Bool.false_eq_true, if_false, run_load, e]
  · cases hv
theorem run_ldn (r : Rel W0 m h w) {t : TypeId} {d : TypeDesc} (hu : P.underlying t = some d) (ha : isAggB d = true) {n : Nat} (hn : szOf P t = some n) {x x' v : Value} (hx : VR m x x') (hv : ldnV h n x = some v) :
    ∃ v', (Instr.loadAt t x').run P w = .ok v' w ∧ VR m v v' := by
  unfold ldnV at hv
  split at hv
  · cases hx with
    | ptr i o b base S hm =>
      simp only [Option.map_eq_some_iff] at hv
      obtain ⟨cs, hcs, rfl⟩ := hv
      obtain ⟨hl, cs', rv, hc⟩ := r.rdn hm hcs
      refine ⟨.agg cs'.toArray, ?_, rv.to_agg⟩
      simp only [Instr.loadAt, Instr.sureAddr, Sem.run_bind, Sem.run_pure, Result.andThen_ok, loadVar, isAgg_run hu, ha, if_true, run_sizeOf P w hn,
        run_loadCells P w b _ n cs' (by rw [← rv.1, hl]) hc]
  · cases hv
theorem equal_succ : ∃ d, ∀ t x y, Op.equal t x y = Op.equalIn (d + 1) t x y := ⟨9999, fun _ _ _ => rfl⟩
theorem run_equal_sl {t e : TypeId} (hu : P.underlying t = some (.slice e)) (a b : Option Addr) (l c l' c' : Nat) (h : a = none ∨ b = none) :
    (Op.equal t (.slice a l c) (.slice b l' c')).run P w = .ok (a.isNone && b.isNone) w := by
  have hun : (underlying t).run P w = .ok (.slice e) w := run_underlying P w hu
  obtain ⟨d, hd⟩ := equal_succ
  rw [hd]
  simp only [Op.equalIn, Sem.run_bind, hun, Result.andThen_ok]
  cases a <;> cases b <;> simp_all
theorem run_equal_bool {t : TypeId} (hu : P.underlying t = some .bool) (a b : Bool) : (Op.equal t (.bool a) (.bool b)).run P w = .ok (a == b) w := by
  have hun : (underlying t).run P w = .ok .bool w := run_underlying P w hu
  obtain ⟨d, hd⟩ := equal_succ
  rw [hd]
  simp only [Op.equalIn, Sem.run_bind, hun, Result.andThen_ok, Sem.run_pure]

theorem eqsV_sound {t e : TypeId} (hu : P.underlying t = some (.slice e)) {x x' y y' v : Value} (hx : VR m x x') (hy : VR m y y') {neg : Bool} (hv : eqsV neg x y = some v) (X Y : Operand) :
    ((do eqGuard (if neg then .neq else .eql) t X Y x' y'; binOp (if neg then .neq else .eql) t x' y') : Sem Value).run P w = .ok v w ∧ VR m v v := by
  unfold eqsV at hv
  split at hv
  · rename_i a l c l' c'
    cases hy
    cases hv
    refine ⟨?_, .bool _⟩
    cases hx <;> cases neg <;> simp [eqGuard, binOp, Sem.run_bind, run_equal_sl hu]
  · rename_i l c b l' c' _
    cases hx
    cases hv
    refine ⟨?_, .bool _⟩
    cases hy <;> cases neg <;> simp [eqGuard, binOp, Sem.run_bind, run_equal_sl hu]
  · cases hv
theorem eqbV_sound {t : TypeId} (hu : P.underlying t = some .bool) {x x' y y' v : Value} (hx : VR m x x') (hy : VR m y y') {neg : Bool} (hv : eqbV neg x y = some v) (X Y : Operand) :
    ((do eqGuard (if neg then .neq else .eql) t X Y x' y'; binOp (if neg then .neq else .eql) t x' y') : Sem Value).run P w = .ok v w ∧ VR m v v := by
  unfold eqbV at hv
  split at hv
  · cases hx; cases hy; cases hv
    refine ⟨?_, .bool _⟩
    cases neg <;> simp [eqGuard, binOp, Sem.run_bind, run_equal_bool hu]
  · cases hv

/-! structs of whole numbers -/
theorem intsEq_vr {m : Map} : ∀ {a a' b b' : List Value}, VRs m a a' → VRs m b b' → ∀ {r : Bool}, intsEq a b = some r → intsEq a' b' = some r := by
  intro a
  induction a with
  | nil =>
    intro a' b b' ha hb r h
    have := ha.of_nil; subst this
    cases b with
    | nil => have := hb.of_nil; subst this; exact h
    | cons v l => simp [intsEq] at h
  | cons x l ih =>
    intro a' b b' ha hb r h
    obtain ⟨x', t', rfl, rx, rt⟩ := ha.of_cons
    cases b with
    | nil => cases x <;> simp [intsEq] at h
    | cons y l2 =>
      obtain ⟨y', t2', rfl, ry, rt2⟩ := hb.of_cons
      cases x <;> cases y <;> simp only [intsEq] at h <;> try (cases h; done)
      cases rx; cases ry
      simp only [intsEq]
      split at h
      · rename_i hk
        rw [if_pos hk]
        simp only [Option.map_eq_some_iff] at h ⊢
        obtain ⟨r', h1, h2⟩ := h
        exact ⟨r', ih rt rt2 h1, h2⟩
      · cases h
theorem equalIn_int {d : Nat} {t : TypeId} {k : IntKind} (hu : P.underlying t = some (.int k)) (k1 : IntKind) (a b : Int) : (Op.equalIn (d + 1) t (.int k1 a) (.int k1 b)).run P w = .ok (decide (a = b)) w := by
  simp only [Op.equalIn, Sem.run_bind, run_underlying P w hu, Result.andThen_ok, if_true, Sem.run_pure]
  rfl
theorem forIn_all {σ : Type} (s0 s1 : σ) (b : Field → σ → Sem (ForInStep σ)) (t : Nat → Bool) : ∀ (fs : List Field) (i : Nat),
    (∀ f j, (f, j) ∈ fs.zipIdx i → (b f s0).run P w = .ok (if t j then .yield s0 else .done s1) w) →
    (forIn fs s0 b : Sem σ).run P w = .ok (if (List.range' i fs.length).all t then s0 else s1) w := by
  intro fs
  induction fs with
  | nil => intro i h; simp
  | cons f l ih =>
    intro i h
    rw [List.forIn_cons]
    have h0 := h f i (by simp)
    have h1 := ih (i + 1) (fun f' j hj => h f' j (by simp only [List.zipIdx_cons, List.mem_cons]; exact .inr hj))
    simp only [Sem.run_bind, h0, Result.andThen_ok, List.length_cons, List.range'_succ, List.all_cons]
    cases ht : t i
    · simp
    · simp only [if_true, Bool.true_and]; exact h1
def intAt (xs ys : Array Value) (j : Nat) : Bool := match xs[j]?, ys[j]? with
  | some (.int _ a), some (.int _ b) => decide (a = b)
  | _, _ => false
theorem intsEq_at : ∀ {a b : List Value} {r : Bool}, intsEq a b = some r →
    a.length = b.length ∧ (∀ j, j < a.length → ∃ k x y, a[j]? = some (.int k x) ∧ b[j]? = some (.int k y)) ∧
    (List.range' 0 a.length).all (fun j => intAt a.toArray b.toArray j) = r := by
  intro a
  induction a with
  | nil => intro b r h; cases b with
    | nil => simp [intsEq] at h; subst h; simp
    | cons v l => simp [intsEq] at h
  | cons x l ih =>
    intro b r h
    cases b with
    | nil => cases x <;> simp [intsEq] at h
    | cons y l2 =>
      cases x <;> cases y <;> simp only [intsEq] at h <;> try (cases h; done)
      split at h
      · rename_i k p k' q hk
        subst hk
        simp only [Option.map_eq_some_iff] at h
        obtain ⟨r', h1, h2⟩ := h
        obtain ⟨e1, e2, e3⟩ := ih h1
        refine ⟨by simp [e1], ?_, ?_⟩
        · intro j hj
          cases j with
          | zero => exact ⟨k, p, q, rfl, rfl⟩
          | succ j => simp at hj; simpa using e2 j hj
        · subst h2
          rw [List.length_cons, List.range'_succ, List.all_cons, ← e3, Nat.zero_add, List.range'_eq_map_range (s := 1), List.range'_eq_map_range (s := 0)]
          congr 1
          rw [List.all_map, List.all_map]
          congr 1
          funext j
          simp [intAt, Nat.add_comm 1 j]
      · cases h
theorem eqiV_sound {t : TypeId} {fs : Array Field} (hu : P.underlying t = some (.struct fs)) (hc : (fs.toList.zipIdx.all (fun (f, i) => f.offset == i && f.name != "_" && (match P.underlying f.type with | some (.int _) => true | _ => false) && szOf P f.type == some 1) &&
          !P.stoodInHeld t && !P.eqGuardType P.depth t) = true) {x x' y y' v : Value} (hx : VR m x x') (hy : VR m y y') {neg : Bool} (hv : eqiV neg fs.size x y = some v) (X Y : Operand) :
    ((do eqGuard (if neg then .neq else .eql) t X Y x' y'; binOp (if neg then .neq else .eql) t x' y') : Sem Value).run P w = .ok v w ∧ VR m v v := by
  unfold eqiV at hv
  split at hv
  · rename_i a b
    split at hv
    · rename_i hsz
      simp only [Option.map_eq_some_iff] at hv
      obtain ⟨r, hr, rfl⟩ := hv
      refine ⟨?_, .bool _⟩
      cases hx with
      | agg _ a' h1 h2 => cases hy with
        | agg _ b' h3 h4 =>
          have hr' := intsEq_vr (VRs.of_agg h1 h2) (VRs.of_agg h3 h4) hr
          have hun : (underlying t).run P w = .ok (.struct fs) w := run_underlying P w hu
          simp only [Bool.and_eq_true, Bool.not_eq_true', List.all_eq_true] at hc
          obtain ⟨⟨c1, c2⟩, c3⟩ := hc
          obtain ⟨d, hd⟩ : ∃ d, ∀ t x y, Op.equal t x y = Op.equalIn (d + 2) t x y := ⟨9998, fun _ _ _ => rfl⟩
          have heq : (Op.equal t (.agg a') (.agg b')).run P w = .ok r w := by
            rw [hd]
            rw [Op.equalIn]
            simp only [Sem.run_bind, hun, Result.andThen_ok, run_program, c2, Bool.false_eq_true, if_false]
            obtain ⟨e1, e2, e3⟩ := intsEq_at hr'
            have hn : a'.toList.length = fs.size := by simp [← h1, hsz]
            rw [← Array.forIn_toList, forIn_all _ (some false, ()) _ (fun j => intAt a' b' j) fs.toList 0]
            · rw [hn] at e3
              simp only [Array.length_toList]
              have e3' : (List.range' 0 fs.size).all (fun j => intAt a' b' j) = r := e3
              simp only [e3']
              cases r <;> rfl
            · intro f j hj
              have hc1 := c1 _ hj
              simp only [beq_iff_eq, bne_iff_ne] at hc1
              obtain ⟨⟨⟨o1, o2⟩, o3⟩, o4⟩ := hc1
              subst o1
              have hlt : f.offset < a'.toList.length := by
                have := List.mem_zipIdx hj; rw [hn]; simp at this; omega
              obtain ⟨k, p, q, p1, p2⟩ := e2 _ hlt
              simp at p1 p2
              split at o3
              · rename_i k' hk
                have pa : ∀ (cs : Array Value) v, cs[f.offset]? = some v → (part f.type cs f.offset).run P w = .ok v w := by
                  intro cs v hv
                  unfold part
                  simp only [Sem.run_bind, isAgg_run hk, isAggB, Result.andThen_ok, Bool.false_eq_true, if_false, hv, Sem.run_pure]
                rw [if_pos o2]
                simp only [Sem.run_bind, pa _ _ p1, pa _ _ p2, Result.andThen_ok, equalIn_int hk]
                simp only [intAt, p1, p2]
                by_cases hpq : p = q <;> simp [hpq]
              · cases o3
          cases neg <;> simp [eqGuard, binOp, Sem.run_bind, heq, c3]
    · cases hv
  · cases hv

theorem bndV_run {most most' : Nat} (hm : most ≤ most') {v v' : Value} (hv : VR m v v') {n : Nat} (h : bndV most v = some n) (c : BoundsCode) :
    (Instr.sliceBound v' most' c).run P w = .ok n w ∧ n ≤ most := by
  unfold bndV at h
  split at h
  · rename_i k i
    cases hv
    split at h
    · rename_i hb
      cases h
      refine ⟨?_, by omega⟩
      simp only [Instr.sliceBound, Sem.run_bind, asIntOf, Sem.run_pure, Result.andThen_ok]
      rw [if_pos (by omega)]; rfl
    · cases h
  · cases h

theorem sliceBounds_run (isS : Bool) {len cap : Nat} (hc : len ≤ cap) {lo hi lo' hi' : Option Value}
    (hlo : (lo = none ∧ lo' = none) ∨ ∃ u u', lo = some u ∧ lo' = some u' ∧ VR m u u') (hhi : (hi = none ∧ hi' = none) ∨ ∃ u u', hi = some u ∧ hi' = some u' ∧ VR m u u') {hh ll : Nat}
    (h1 : (hi.map (bndV len)).getD (some len) = some hh) (h2 : (lo.map (bndV hh)).getD (some 0) = some ll) :
    (Instr.sliceBounds isS len cap lo' hi' none).run P w = .ok (ll, hh, cap) w ∧ ll ≤ hh ∧ hh ≤ len := by
  have H : ∀ c1 c2, ((match hi' with | some v => Instr.sliceBound v cap (if isS then c1 else c2) | none => pure len) : Sem Nat).run P w = .ok hh w ∧ hh ≤ len := by
    intro c1 c2
    rcases hhi with ⟨rfl, rfl⟩ | ⟨u, u', rfl, rfl, r⟩
    · simp at h1; subst h1; exact ⟨rfl, Nat.le_refl _⟩
    · simp at h1; exact bndV_run hc r h1 _
  have L : ∀ c, ((match lo' with | some v => Instr.sliceBound v hh c | none => pure 0) : Sem Nat).run P w = .ok ll w ∧ ll ≤ hh := by
    intro c
    rcases hlo with ⟨rfl, rfl⟩ | ⟨u, u', rfl, rfl, r⟩
    · simp at h2; subst h2; exact ⟨rfl, Nat.zero_le _⟩
    · simp at h2; exact bndV_run (Nat.le_refl _) r h2 _
  refine ⟨?_, (L .sliceB).2, (H .sliceAcap .sliceAlen).2⟩
  have HH := (H .sliceAcap .sliceAlen).1
  have LL := (L .sliceB).1
  unfold Instr.sliceBounds
  rcases hhi with ⟨rfl, rfl⟩ | ⟨u, u', rfl, rfl, r⟩
  · simp only [Sem.run_pure] at HH
    cases HH
    rcases hlo with ⟨rfl, rfl⟩ | ⟨v, v', rfl, rfl, r'⟩
    · simp only [Sem.run_pure] at LL; cases LL; rfl
    · simp only at LL
      simp only [Sem.run_bind, Sem.run_pure, Result.andThen_ok, Option.isSome_none, Bool.false_eq_true, if_false, LL]
  · simp only at HH
    rcases hlo with ⟨rfl, rfl⟩ | ⟨v, v', rfl, rfl, r'⟩
    · simp only [Sem.run_pure] at LL; cases LL
      simp only [Sem.run_bind, Sem.run_pure, Result.andThen_ok, Option.isSome_none, Bool.false_eq_true, if_false, HH]
    · simp only at LL
      simp only [Sem.run_bind, Sem.run_pure, Result.andThen_ok, Option.isSome_none, Bool.false_eq_true, if_false, HH, LL]

theorem run_slc {t e : TypeId} (hu : P.underlying t = some (.slice e)) {n : Nat} (hn : szOf P e = some n) {x x' v : Value} (hx : VR m x x') {lo hi lo' hi' : Option Value}
    (hlo : (lo = none ∧ lo' = none) ∨ ∃ u u', lo = some u ∧ lo' = some u' ∧ VR m u u') (hhi : (hi = none ∧ hi' = none) ∨ ∃ u u', hi = some u ∧ hi' = some u' ∧ VR m u u')
    (hv : slcV n x lo hi = some v) : ∃ v', (Instr.sliceAt t x' lo' hi' none).run P w = .ok v' w ∧ VR m v v' := by
  unfold slcV at hv
  split at hv
  · rename_i a len s
    obtain ⟨hh, h1, hv1⟩ := bind_some hv
    obtain ⟨ll, h2, hv2⟩ := bind_some hv1
    clear hv hv1
    have key : ∀ (a' : Option Addr) cap, len ≤ cap → (Instr.sliceAt t (.slice a' len cap) lo' hi' none).run P w = .ok (.slice (if cap = ll then a' else a'.map (·.add (ll * n))) (hh - ll) (cap - ll)) w ∧ ll ≤ hh ∧ hh ≤ len := by
      intro a' cap hc
      have ⟨B, b1, b2⟩ := sliceBounds_run (P := P) (w := w) true hc hlo hhi h1 h2
      refine ⟨?_, b1, b2⟩
      simp only [Instr.sliceAt, Instr.slice, Sem.run_bind, run_underlying P w hu, Result.andThen_ok, B, run_sizeOf P w hn, Sem.run_pure]
    cases hx with
    | snone =>
      obtain ⟨B, b1, b2⟩ := key none 0 (Nat.le_refl _)
      simp at hv2; subst hv2
      refine ⟨_, B, ?_⟩
      have : hh = 0 := by omega
      subst this
      have : ll = 0 := by omega
      subst this
      exact .snone
    | sempty _ q =>
      obtain ⟨B, b1, b2⟩ := key (some q) 0 (Nat.le_refl _)
      simp only [Option.isSome_some, true_and, if_true] at hv2
      split at hv2
      · cases hv2
      · cases hv2
        have : hh = 0 := by omega
        subst this
        have : ll = 0 := by omega
        subst this
        refine ⟨_, B, ?_⟩
        rw [if_pos rfl]
        simp only [Option.map_some, Nat.zero_mul, Nat.sub_self]
        exact .sempty _ q
    | slice i o _ _ b base S a' cap hm hc hroom =>
      obtain ⟨B, b1, b2⟩ := key (some ⟨b, a', none⟩) cap hc
      simp only [Option.isSome_some, true_and, if_true] at hv2
      split at hv2
      · cases hv2
      · rename_i hs
        have hs : n = s := by simpa using hs
        subst hs
        cases hv2
        refine ⟨_, B, ?_⟩
        simp only [Option.map_some, add_addr]
        by_cases hq : cap = ll
        · rw [if_pos hq]
          exact .slice i _ _ n b base S a' _ hm (by omega) (.inl (by omega))
        · rw [if_neg hq]
          rcases hroom with hz | ⟨ha, hS⟩
          · omega
          · refine .slice i _ _ n b base S _ _ hm (by omega) (.inr ⟨by omega, ?_⟩)
            have : ll * n + (cap - ll) * n = cap * n := by rw [← Nat.add_mul]; congr 1; omega
            omega
  · cases hv

theorem run_sls {t : TypeId} (hu : P.underlying t = some .string) {x x' v : Value} (hx : VR m x x') {lo hi lo' hi' : Option Value}
    (hlo : (lo = none ∧ lo' = none) ∨ ∃ u u', lo = some u ∧ lo' = some u' ∧ VR m u u') (hhi : (hi = none ∧ hi' = none) ∨ ∃ u u', hi = some u ∧ hi' = some u' ∧ VR m u u')
    (hv : slsV x lo hi = some v) : ∃ v', (Instr.sliceAt t x' lo' hi' none).run P w = .ok v' w ∧ VR m v v' := by
  unfold slsV at hv
  split at hv
  · rename_i b
    obtain ⟨hh, h1, hv⟩ := bind_some hv
    obtain ⟨ll, h2, hv⟩ := bind_some hv
    cases hv
    cases hx
    have ⟨B, b1, b2⟩ := sliceBounds_run (P := P) (w := w) false (Nat.le_refl b.size) hlo hhi h1 h2
    refine ⟨_, ?_, .string _⟩
    simp only [Instr.sliceAt, Instr.slice, Sem.run_bind, run_underlying P w hu, Result.andThen_ok, Option.isSome_none, Bool.false_eq_true, if_false, Sem.run_pure, B]
  · cases hv

theorem run_fa {s : TypeId} {fields : Array Field} (hu : P.underlying s = some (.struct fields)) {f : Nat} {fd : Field} (hf : fields[f]? = some fd) {n : Nat} (hn : szOf P fd.type = some n) (hn0 : n ≠ 0)
    {x x' v : Value} (hx : VR m x x') (hv : faV fd.offset x = some v) : ∃ v', (Instr.fieldAt s x' f).run P w = .ok v' w ∧ VR m v v' := by
  unfold faV at hv
  split at hv
  · cases hx with
    | ptr i o b base S hm =>
      cases hv
      refine ⟨_, ?_, .ptr _ _ b base S hm⟩
      simp only [Instr.fieldAt, Sem.run_bind, run_underlying P w hu, Result.andThen_ok, hf, Instr.sureAddr, Sem.run_pure, fieldPlace, run_sizeOf P w hn, if_neg hn0, add_addr, Nat.add_assoc]
  · cases hv

theorem run_ia {t e : TypeId} (hu : P.underlying t = some (.slice e)) {n : Nat} (hn : szOf P e = some n) {x x' y y' v : Value} (hx : VR m x x') (hy : VR m y y') (hv : iaV n x y = some v) :
    ∃ v', (Instr.indexAt t x' y').run P w = .ok v' w ∧ VR m v v' := by
  unfold iaV at hv
  split at hv
  · rename_i i o len s k j
    cases hy
    cases hx with
    | slice i o _ _ b base S a' cap hm hc hroom =>
      split at hv
      · rename_i hb
        obtain ⟨h0, h1, rfl⟩ := hb
        cases hv
        rcases hroom with hz | ⟨ha, hS⟩
        · omega
        · subst ha
          refine ⟨_, ?_, .ptr _ _ b base S hm⟩
          simp only [Instr.indexAt, Sem.run_bind, asIntOf, Sem.run_pure, Result.andThen_ok, run_underlying P w hu]
          rw [if_pos ⟨h0, h1⟩]
          simp only [Sem.run_bind, run_sizeOf P w hn, Result.andThen_ok, Sem.run_pure, add_addr, Nat.add_assoc]
      · cases hv
  · cases hv
theorem run_iaa {t e : TypeId} {len : Nat} (hu : P.underlying t = some (.array len e)) {n : Nat} (hn : szOf P e = some n) {x x' y y' v : Value} (hx : VR m x x') (hy : VR m y y') (hv : iaaV len n x y = some v) :
    ∃ v', (Instr.indexAt t x' y').run P w = .ok v' w ∧ VR m v v' := by
  unfold iaaV at hv
  split at hv
  · rename_i k j
    cases hy
    cases hx with
    | ptr i o b base S hm =>
      split at hv
      · rename_i hb
        cases hv
        refine ⟨_, ?_, .ptr _ _ b base S hm⟩
        simp only [Instr.indexAt, Sem.run_bind, asIntOf, Sem.run_pure, Result.andThen_ok, run_underlying P w hu, Instr.sureAddr]
        rw [if_pos hb]
        simp only [Sem.run_bind, run_sizeOf P w hn, Result.andThen_ok, Sem.run_pure, add_addr, Nat.add_assoc]
      · cases hv
  · cases hv
theorem run_ivs {t : TypeId} (hu : P.underlying t = some .string) {x x' y y' v : Value} (hx : VR m x x') (hy : VR m y y') (hv : ivsV x y = some v) :
    (Instr.index t x' y').run P w = .ok v w ∧ VR m v v := by
  unfold ivsV at hv
  split at hv
  · rename_i s k j
    cases hx; cases hy
    split at hv
    · rename_i hb
      cases hq : s[j.toNat]? with
      | none => rw [hq] at hv; cases hv
      | some c =>
        rw [hq] at hv; cases hv
        refine ⟨?_, .int _ _⟩
        simp only [Instr.index, Sem.run_bind, asIntOf, Sem.run_pure, Result.andThen_ok, run_underlying P w hu, if_pos hb, hq]
    · cases hv
  · cases hv
theorem run_iva {t el : TypeId} {len : Nat} {d : TypeDesc} (hu : P.underlying t = some (.array len el)) (hd : P.underlying el = some d) (hn : szOf P el = some 1) (ha : isAggB d = false) {x x' y y' v : Value} (hx : VR m x x') (hy : VR m y y') (hv : ivaV len x y = some v) :
    ∃ v', (Instr.index t x' y').run P w = .ok v' w ∧ VR m v v' := by
  unfold ivaV at hv
  split at hv
  · rename_i cs k j
    cases hy
    cases hx with
    | agg _ cs' hsz hcs =>
      split at hv
      · rename_i hb
        obtain ⟨hi, hq⟩ := Array.getElem?_eq_some_iff.mp hv
        have hi' : j.toNat < cs'.size := by omega
        refine ⟨cs'[j.toNat], ?_, hq ▸ hcs _ hi hi'⟩
        simp only [Instr.index, Sem.run_bind, asIntOf, Sem.run_pure, Result.andThen_ok, run_underlying P w hu, if_pos hb, run_sizeOf P w hn, part, isAgg_run hd, ha, Bool.false_eq_true, if_false, Nat.mul_one,
          Array.getElem?_eq_getElem hi']
      · cases hv
  · cases hv
theorem bytesV_vr {m : Map} : ∀ {cs cs' : List Value}, VRs m cs cs' → ∀ {l : List Int}, bytesV cs = some l → cs' = l.map (Value.int .u8) := by
  intro cs
  induction cs with
  | nil => intro cs' h l hl; have := h.of_nil; subst this; simp [bytesV] at hl; subst hl; rfl
  | cons x t ih =>
    intro cs' h l hl
    obtain ⟨x', t', rfl, rx, rt⟩ := h.of_cons
    unfold bytesV at hl
    split at hl
    · rename_i heq; cases heq
    · rename_i n t2 heq
      cases heq
      simp only [Option.map_eq_some_iff] at hl
      obtain ⟨l2, h1, rfl⟩ := hl
      cases rx
      rw [ih rt h1]; rfl
    · cases hl
theorem run_cbs (r : Rel W0 m h w) {s d e0 : TypeId} (hs : P.underlying s = some (.slice e0)) (he : P.underlying e0 = some (.int .u8)) (hd : P.underlying d = some .string) {x x' v : Value} (hx : VR m x x') (hv : cbsV h x = some v) :
    ∃ v', (convert s d x').run P w = .ok v' w ∧ VR m v v' := by
  unfold cbsV at hv
  split at hv
  · cases hv
    cases hx
    refine ⟨.string ByteArray.empty, ?_, .string _⟩
    rw [run_convert_bytes_string w s d e0 none 0 0 hs he hd]
    simp [Conv.bytesToString]
  · rename_i i o n
    obtain ⟨cs, hcs, hv⟩ := bind_some hv
    simp only [Option.map_eq_some_iff] at hv
    obtain ⟨l, hl, rfl⟩ := hv
    cases hx with
    | slice _ _ _ _ b base S a' cap hm hc hroom =>
      obtain ⟨hln, cs', rv, hcell⟩ := r.rdn hm hcs
      refine ⟨_, ?_, .string _⟩
      rw [run_convert_bytes_string w s d e0 _ _ _ hs he hd]
      refine run_bytesToString w _ _ _ l ?_
      rw [← bytesV_vr rv hl]
      rcases hroom with hz | ⟨ha, _⟩
      · have hl0 : n = 0 := by omega
        subst hl0
        have : cs' = [] := by have := rv.1; rw [hln] at this; exact List.eq_nil_of_length_eq_zero this.symm
        subst this
        exact run_loadCells P w b a' _ [] (by simp) (by simp)
      · subst ha
        exact run_loadCells P w b (base + o) _ cs' (by rw [← rv.1, hln]) hcell
  · cases hv
end
end Go.Ah
