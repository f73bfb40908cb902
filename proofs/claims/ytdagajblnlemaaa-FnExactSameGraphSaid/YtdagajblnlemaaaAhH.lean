import Derived.Test.YtdagajblnlemaaaAhG
import Derived.IntWalk
set_option linter.unusedVariables false
set_option linter.unusedSimpArgs false
namespace Go.Ah
open Go Go.RowKit

/-! ### What makes memory -/
inductive AOp where
  | new (cells : List Value)
  | box (x : Opd)
  | bsl (len sz : Nat) (tmpl : List Value) (parts : List (Nat × Nat × Opd))
  | mks (bytes sz : Nat) (zero : List Value) (l c : Opd)
  | csb (x : Opd)
  | gro (bytes sz : Nat) (x n : Opd)

def oneB (l : List Value) : Bool := l.all Value.oneCell'
theorem oneB_get {l : List Value} (h : oneB l = true) (j : Nat) (v : Value) (e : l[j]? = some v) : v.oneCell' = true := by
  unfold oneB at h; rw [List.all_eq_true] at h
  exact h v (List.mem_of_getElem? e)

/-- The cells of the new object, and how its name makes the value. -/
def AOp.ev (E : Env) : AOp → Option (List Value × (Nat → Value))
  | .new cells => some (cells, fun i => .pointer (some ⟨i, 0, none⟩))
  | .box x => (x.val E).bind fun v => if oneB v.cells.toList then some (v.cells.toList, fun i => .pointer (some ⟨i, 0, none⟩)) else none
  | .bsl len sz tmpl parts => (valsP E parts).bind fun l => (fillV tmpl l).bind fun cs => if oneB cs then some (cs, fun i => .slice (some ⟨i, 0, none⟩) len sz) else none
  | .mks bytes sz zero l c => (l.val E).bind fun lv => (c.val E).bind fun cv => match lv, cv with
    | .int _ ln, .int _ cn => if 0 ≤ ln ∧ ln ≤ cn ∧ bytes * cn ≤ 281474976710656 then some ((List.replicate cn.toNat zero).flatten, fun i => .slice (some ⟨i, 0, none⟩) ln.toNat sz) else none
    | _, _ => none
  | .csb x => (x.val E).bind fun v => match v with
    | .string s => some (s.data.toList.map fun b => .int .u8 b.toNat, fun i => .slice (some ⟨i, 0, none⟩) s.size 1)
    | _ => none
  | .gro bytes sz x n => (x.val E).bind fun v => (n.val E).bind fun c => match v, c with
    | .slice none _ _, .int _ k => if 0 < k ∧ bytes * k ≤ 70368744177664 then some ([], fun i => .slice (some ⟨i, 0, none⟩) k.toNat sz) else none
    | _, _ => none

def slimA (P : Program) (o : Op) : Option AOp := match o with
  | .alloc t => ((P.info? t).bind (·.zero)).bind fun z => if closedB z && oneB z.cells.toList then some (.new z.cells.toList) else none
  | .box t x => (slimOpd x).map .box
  | .buildSlice t len parts => (P.underlying t).bind fun d => match d with
      | .slice e => (szOf P e).bind fun n => ((P.info? e).bind (·.zero)).bind fun z =>
          if closedB z && z.cells.size == n && decide (0 < n) && decide (len * n ≤ 2 ^ 24) then
            (slimParts (fun i => some (i * n, n)) parts.toList).bind fun l => some (.bsl len n (List.replicate len z.cells.toList).flatten l)
          else none
      | _ => none
  | .makeSlice t l c => (P.underlying t).bind fun d => match d with
      | .slice e => (P.info? e).bind fun i => i.zero.bind fun z =>
          if closedB z && oneB z.cells.toList && z.cells.size == i.size && decide (0 < i.size) && decide (0 < i.bytes) then
            (slimOpd l).bind fun l => (slimOpd c).bind fun c => some (.mks i.bytes i.size z.cells.toList l c)
          else none
      | _ => none
  | .convert s d x => (P.underlying s).bind fun sd => (P.underlying d).bind fun dd => (slimOpd x).bind fun a => match sd, dd with
      | .string, .slice e => match P.underlying e with
        | some (.int .u8) => some (.csb a)
        | _ => none
      | _, _ => none
  | .call { callee := .builtin .append, args, argTypes } => match args.toList, argTypes.toList with
      | [x, y], [t, t2] => (slimOpd x).bind fun x => (slimOpd y).bind fun y => (P.underlying t).bind fun d => (P.underlying t2).bind fun d2 => match d, d2 with
          | .slice e, .int _ => (P.info? e).bind fun i => i.zero.bind fun z =>
              if z.cells.size == i.size && decide (0 < i.bytes) && decide (0 < i.size) then some (.gro i.bytes i.size x y) else none
          | _, _ => none
      | _, _ => none
  | _ => none

/-- A run that makes one block for these cells. -/
def Makes (P : Program) (m : Map) (w : World) (s : Sem Next) (cs : List Value) (mk : Nat → Value) : Prop :=
  ∃ (c' : Array Value) (e : TypeId) (f : Nat × Nat) (v' : Value) (w' : World), s.run P w = .ok (.value v') w' ∧ SameW (w.alloc (.cells c' e f)) w' ∧ Fz c'.size f ∧
    cs.length ≤ c'.size ∧ (∀ (j : Nat) v, cs[j]? = some v → ∃ u, c'[j]? = some u ∧ VR m v u) ∧ (∀ (j : Nat) v, cs[j]? = some v → v.oneCell' = true) ∧
    ∀ m' i, m' i = some (w.heap.size, 0, c'.size) → VR m' (mk i) v'

theorem flatten_replicate_get (n : Nat) (z : Array Value) (hz : 0 < z.size) : (Array.range (n * z.size)).map (z[· % z.size]!) = (List.replicate n z.toList).flatten.toArray := by
  apply Array.ext'
  simp only [Array.toList_map, Array.toList_range]
  induction n with
  | zero => simp
  | succ n ih =>
    rw [Nat.succ_mul, List.range_add, List.map_append]
    rw [ih]
    rw [List.replicate_succ', List.flatten_append]
    congr 1
    rw [List.map_map]
    apply List.ext_getElem
    · simp
    · intro i h1 h2
      simp at h1
      simp [Nat.add_mod, Nat.mod_eq_of_lt h1, getElem!_pos, h1]

section
variable {P : Program} {W0 : World} {m : Map} {h : Heap} {w : World} {N : Nat} {E : Env} {a : Act}

theorem VRs.get {l l' : List Value} (r : VRs m l l') : ∀ (j : Nat) v, l[j]? = some v → ∃ u, l'.toArray[j]? = some u ∧ VR m v u := by
  intro j v e; obtain ⟨u, hu, rv⟩ := r.2 j v e; exact ⟨u, by simpa using hu, rv⟩

theorem VRs.rep {m : Map} {z : Value} (hc : closedB z = true) (k : Nat) : VRs m (List.replicate k z.cells.toList).flatten (List.replicate k z.cells.toList).flatten := by
  have hz1 := (VR.closed m hc).cells
  induction k with
  | zero => exact .nil m
  | succ k ih => rw [List.replicate_succ, List.flatten_cons]; exact hz1.append ih
theorem fillV_length : ∀ (vs : List (Nat × Nat × Value)) (cs out : List Value), fillV cs vs = some out → out.length = cs.length := by
  intro vs
  induction vs with
  | nil => intro cs out hf; simp [fillV] at hf; subst hf; rfl
  | cons p t ih =>
    intro cs out hf
    obtain ⟨off, size, v⟩ := p
    simp only [fillV] at hf
    split at hf
    · rename_i hsz; rw [ih _ _ hf, length_splice _ _ _ (by simp [hsz.1]; exact hsz.2)]
    · cases hf

theorem makes_row {s : Sem Next} {cs cs' : List Value} {mk : Nat → Value} (e : TypeId) (v' : Value) (hr : s.run P w = .ok (.value v') (w.alloc (.cells cs'.toArray e))) (r : VRs m cs cs') (h1 : oneB cs = true)
    (hm : ∀ m' i, m' i = some (w.heap.size, 0, cs'.length) → VR m' (mk i) v') : Makes P m w s cs mk :=
  ⟨cs'.toArray, e, (0, 0), v', _, hr, .refl _, .inr ⟨rfl, rfl⟩, by simp [r.1], r.get, oneB_get h1, by simpa using hm⟩

theorem a_sound {op : Op} {q : AOp} (hs : slimA P op = some q) (e : ER N m E a.tmps) {cs : List Value} {mk : Nat → Value} (hv : q.ev E = some (cs, mk)) (o : Oper) (ho : o.op = op) :
    Makes P m w (execOp a.eval o) cs mk := by
  cases op with
  | alloc t =>
    simp only [slimA] at hs
    replace hs := bind_some hs; obtain ⟨z, hz, hs⟩ := hs
    split at hs
    · rename_i hc
      simp at hc
      cases hs
      simp only [AOp.ev, Option.some.injEq, Prod.mk.injEq] at hv
      obtain ⟨rfl, rfl⟩ := hv
      simp only [execOp, ho]
      refine makes_row t (.pointer (some ⟨w.heap.size, 0, none⟩)) ?_ (VR.closed m hc.1).cells hc.2 (fun m' i hi => ?_)
      · simp only [Instr.alloc, Sem.run_bind, run_zeroValue P w hz, Result.andThen_ok, newVar, newRow, run_newObj, Sem.run_pure, Array.toArray_toList]; rfl
      · exact .ptr i 0 _ 0 _ hi
    · cases hs
  | box t x =>
    simp only [slimA, Option.map_eq_some_iff] at hs; obtain ⟨x', hx, rfl⟩ := hs
    simp only [AOp.ev] at hv
    replace hv := bind_some hv; obtain ⟨u, hu, hv⟩ := hv
    split at hv
    · rename_i h1
      cases hv
      have rv := slimOpd_sound hx e hu
      simp only [execOp, ho]
      refine makes_row t (.pointer (some ⟨w.heap.size, 0, none⟩)) ?_ rv.cells h1 (fun m' i hi => ?_)
      · simp only [Instr.box, Sem.run_bind, newVar, newRow, run_newObj, Result.andThen_ok, Sem.run_pure, Array.toArray_toList]; rfl
      · exact .ptr i 0 _ 0 _ hi
    · cases hv
  | buildSlice t len parts =>
    simp only [slimA] at hs
    replace hs := bind_some hs; obtain ⟨d, hd, hs⟩ := hs
    split at hs
    · rename_i el
      replace hs := bind_some hs; obtain ⟨n, hn, hs⟩ := hs; replace hs := bind_some hs; obtain ⟨z, hz, hs⟩ := hs
      split at hs
      · rename_i hc
        simp only [Bool.and_eq_true, beq_iff_eq, decide_eq_true_eq] at hc
        obtain ⟨⟨⟨hc1, hc2⟩, hc3⟩, hc4⟩ := hc
        replace hs := bind_some hs; obtain ⟨l, hl, hs⟩ := hs; cases hs
        simp only [AOp.ev] at hv
        replace hv := bind_some hv; obtain ⟨vs, hvs, hv⟩ := hv; replace hv := bind_some hv; obtain ⟨out, hout, hv⟩ := hv
        split at hv
        · rename_i h1
          cases hv
          simp only [execOp, ho]
          obtain ⟨out', e1, r1⟩ := fill_sound e _ parts.toList hl hvs (VRs.rep hc1 len) hout
          have hlen := fillV_length _ _ _ hout
          simp [hc2] at hlen
          refine makes_row el (.slice (some ⟨w.heap.size, 0, none⟩) len len) ?_ r1 h1 (fun m' i hi => ?_)
          · have e2 : Instr.fill (fun i => some (i * n, n)) ((Array.range (len * n)).map fun x => (if len * n = 0 then #[] else z.cells)[x % (if len * n = 0 then #[] else z.cells).size]!) (parts.map fun (i, x) => (i, a.eval x)).toList = some out'.toArray := by
              by_cases hz0 : len * n = 0
              · have hl0 : len = 0 := by rcases Nat.mul_eq_zero.mp hz0 with hx | hx <;> omega
                subst hl0
                rw [← e1]; congr 1 <;> simp
              · simp only [hz0, if_false]
                rw [← e1]
                congr 1
                · rw [← hc2]; exact flatten_replicate_get len z.cells (by omega)
                · simp
            unfold Instr.buildSlice
            simp only [Sem.run_bind, run_underlying P w hd, Result.andThen_ok, run_sizeOf P w hn]
            rw [if_neg (by omega)]
            simp only [Sem.run_bind, Sem.run_pure, Result.andThen_ok]
            by_cases hz0 : len * n = 0
            · rw [if_pos hz0] at e2 ⊢
              simp only [Sem.run_pure, Result.andThen_ok, e2, newRow, Sem.run_bind, run_newObj]; rfl
            · rw [if_neg hz0] at e2 ⊢
              simp only [Sem.run_bind, run_zeroValue P w hz, Sem.run_pure, Result.andThen_ok, e2, newRow, run_newObj]; rfl
          · refine .slice i 0 len n _ 0 _ 0 len hi (Nat.le_refl _) (.inr ⟨rfl, ?_⟩)
            rw [← r1.1, hlen]; omega
        · cases hv
      · cases hs
    · cases hs
  | makeSlice t l c =>
    simp only [slimA] at hs
    replace hs := bind_some hs; obtain ⟨d, hd, hs⟩ := hs
    split at hs
    · rename_i el
      replace hs := bind_some hs; obtain ⟨inf, hinf, hs⟩ := hs; replace hs := bind_some hs; obtain ⟨z, hz, hs⟩ := hs
      split at hs
      · rename_i hc
        simp only [Bool.and_eq_true, beq_iff_eq, decide_eq_true_eq] at hc
        obtain ⟨⟨⟨⟨hc1, hc2⟩, hc3⟩, hc4⟩, hc5⟩ := hc
        replace hs := bind_some hs; obtain ⟨l', hl, hs⟩ := hs; replace hs := bind_some hs; obtain ⟨c', hc', hs⟩ := hs; cases hs
        simp only [AOp.ev] at hv
        replace hv := bind_some hv; obtain ⟨lv, hlv, hv⟩ := hv; replace hv := bind_some hv; obtain ⟨cv, hcv, hv⟩ := hv
        split at hv
        · rename_i k1 ln k2 cn
          split at hv
          · rename_i hb
            obtain ⟨b0, b1, b2⟩ := hb
            cases hv
            have r1 := slimOpd_sound hl e hlv
            have r2 := slimOpd_sound hc' e hcv
            simp only [execOp, ho]
            generalize a.eval l = x1 at r1; generalize a.eval c = x2 at r2
            cases r1; cases r2
            have hcn : cn ≤ 281474976710656 := by
              have : (1 : Int) * cn ≤ inf.bytes * cn := Int.mul_le_mul_of_nonneg_right (by omega) (by omega)
              omega
            have w1 : IntKind.i64.wrap ln = ln := IntWalk.i64_in _ (by omega)
            have w2 : IntKind.i64.wrap cn = cn := IntWalk.i64_in _ (by omega)
            have hzs := VRs.rep (m := m) hc1 cn.toNat
            have h1 : oneB (List.replicate cn.toNat z.cells.toList).flatten = true := by
              unfold oneB at hc2 ⊢
              rw [List.all_eq_true] at hc2 ⊢
              intro x hx
              rw [List.mem_flatten] at hx
              obtain ⟨l2, hl2, hx⟩ := hx
              rw [List.mem_replicate] at hl2
              exact hc2 x (hl2.2 ▸ hx)
            refine makes_row el (.slice (some ⟨w.heap.size, 0, none⟩) ln.toNat cn.toNat) ?_ hzs h1 (fun m' i hi => ?_)
            · unfold Instr.makeSlice
              simp only [Sem.run_bind, run_underlying P w hd, Result.andThen_ok, asInt, asIntOf, Sem.run_pure, run_typeInfo P w hinf, w1, w2]
              have ht : (decide (cn < 0) || decide ((inf.bytes : Int) * cn > 2 ^ 48)) = false := by
                simp only [Bool.or_eq_false_iff, decide_eq_false_iff_not]; refine ⟨by omega, ?_⟩
                simp; exact b2
              simp only [ht, Bool.false_or]
              have hls : (decide (ln < 0) || decide (ln > cn)) = false := by simp; omega
              rw [hls]
              simp only [Bool.false_eq_true, if_false, Sem.run_bind, run_askRoom, Result.andThen_ok]
              have hsz : (sizeOf el).run P w = .ok inf.size w := run_sizeOf P w (by rw [hinf]; rfl)
              simp only [hsz, Result.andThen_ok]
              have hzv : (zeroValue el).run P w = .ok z w := run_zeroValue P w (by rw [hinf]; exact hz)
              have hrow : ∀ (zz : Array Value), (zz = z.cells ∨ cn.toNat * inf.size = 0) → ((Array.range (cn.toNat * inf.size)).map (zz[· % zz.size]!)) = (List.replicate cn.toNat z.cells.toList).flatten.toArray := by
                intro zz hzz
                rcases hzz with rfl | h0
                · rw [← hc3]; exact flatten_replicate_get _ _ (by omega)
                · have : cn.toNat = 0 := by rcases Nat.mul_eq_zero.mp h0 with hx | hx <;> omega
                  rw [h0, this]; simp
              by_cases h0 : cn.toNat * inf.size = 0
              · rw [if_pos h0]
                simp only [Sem.run_pure, Result.andThen_ok, newRow, Sem.run_bind, run_newObj]
                rw [hrow #[] (.inr h0)]; rfl
              · rw [if_neg h0]
                simp only [Sem.run_bind, hzv, Sem.run_pure, Result.andThen_ok, newRow, run_newObj]
                rw [hrow z.cells (.inl rfl)]; rfl
            · refine .slice i 0 ln.toNat inf.size _ 0 _ 0 cn.toNat hi (by omega) (.inr ⟨rfl, ?_⟩)
              simp [hc3]
          · cases hv
        · cases hv
      · cases hs
    · cases hs
  | convert s d x =>
    simp only [slimA] at hs
    replace hs := bind_some hs; obtain ⟨sd, hsd, hs⟩ := hs; replace hs := bind_some hs; obtain ⟨dd, hdd, hs⟩ := hs; replace hs := bind_some hs; obtain ⟨x', hx, hs⟩ := hs
    split at hs
    · rename_i el
      split at hs
      · rename_i hel
        cases hs
        simp only [AOp.ev] at hv
        replace hv := bind_some hv; obtain ⟨u, hu, hv⟩ := hv
        split at hv
        · rename_i b
          cases hv
          have rv := slimOpd_sound hx e hu
          simp only [execOp, ho]
          generalize a.eval x = x1 at rv
          cases rv
          have hcut : ∀ t, ∃ k, (Question.appendCap b.size 0 el).cut t = b.size + k := fun t => ⟨_, rfl⟩
          obtain ⟨k, hk⟩ := hcut (w.tape w.drawn (.appendCap b.size 0 el))
          let c' : Array Value := (b.data.map fun q => (.int .u8 q.toNat : Value)) ++ Array.replicate k (.int .u8 0)
          have hcs : c'.size = b.size + k := by simp [c']
          refine ⟨c', el, (c'.size, c'.size + 1), .slice (some ⟨w.heap.size, 0, none⟩) b.size (b.size + k),
            ({ w with drawn := w.drawn + 1, heap := w.heap.push (.cells c' el) } : World).freeze ⟨w.heap.size, c'.size, none⟩ 1, ?_, ?_, .inl (Nat.le_refl _), ?_, ?_, ?_, ?_⟩
          · have : (convert s d (.string b)).run P w = (Conv.stringToBytes el b).run P w := by
              simp only [convert, Sem.run_bind, run_underlying P w hsd, run_underlying P w hdd, run_underlying P w hel, Result.andThen_ok]
            simp only [Sem.run_bind, this]
            simp only [Conv.stringToBytes, Sem.run_bind, run_choose, Question.forced, Bool.false_eq_true, if_false, Result.andThen_ok, hk, newRow, run_newObj, Sem.run_pure, Nat.add_sub_cancel_left,
              markStringish, run_shape, World.shape?]
            simp only [Array.getElem?_push_size, run_freeze, Result.andThen_ok, Sem.run_pure]
            rfl
          · refine ⟨?_, rfl, rfl, rfl⟩
            unfold World.freeze World.alloc
            rw [if_neg (by decide)]
            apply Array.ext_getElem?
            intro i
            simp only [Array.getElem?_modify, Array.getElem?_push]
            by_cases hi : w.heap.size = i
            · subst hi; simp
            · by_cases hi2 : i = w.heap.size
              · exact absurd hi2.symm hi
              · simp [hi, hi2]
          · simp [hcs]
          · intro j v ej
            refine ⟨v, ?_, ?_⟩
            · have hj := (List.getElem?_eq_some_iff.mp ej).1
              simp only [c']
              rw [Array.getElem?_append_left (by simpa using hj)]
              simpa using ej
            · simp at ej; obtain ⟨q, _, rfl⟩ := ej; exact .int _ _
          · intro j v ej; simp at ej; obtain ⟨q, _, rfl⟩ := ej; rfl
          · intro m' i hi
            exact .slice i 0 b.size 1 _ 0 _ 0 _ hi (by omega) (.inr ⟨rfl, by omega⟩)
        · cases hv
      · cases hs
    · cases hs
  | call c =>
    obtain ⟨callee, args, argTypes⟩ := c
    cases callee with
    | builtin bi =>
      cases bi with
      | append =>
        simp only [slimA] at hs
        split at hs
        · rename_i x y t t2 hargs htys
          replace hs := bind_some hs; obtain ⟨x', hx, hs⟩ := hs; replace hs := bind_some hs; obtain ⟨y', hy, hs⟩ := hs
          replace hs := bind_some hs; obtain ⟨d, hd, hs⟩ := hs; replace hs := bind_some hs; obtain ⟨d2, hd2, hs⟩ := hs
          have ha : args = #[x, y] := by rw [← Array.toArray_toList (xs := args), hargs]
          have ht : argTypes = #[t, t2] := by rw [← Array.toArray_toList (xs := argTypes), htys]
          subst ha; subst ht
          split at hs
          · rename_i el kk
            replace hs := bind_some hs; obtain ⟨inf, hinf, hs⟩ := hs; replace hs := bind_some hs; obtain ⟨z, hz, hs⟩ := hs
            split at hs
            · rename_i hc
              simp only [Bool.and_eq_true, beq_iff_eq, decide_eq_true_eq] at hc
              obtain ⟨⟨hc3, hc5⟩, hc4⟩ := hc
              cases hs
              simp only [AOp.ev] at hv
              replace hv := bind_some hv; obtain ⟨xv, hxv, hv⟩ := hv; replace hv := bind_some hv; obtain ⟨nv, hnv, hv⟩ := hv
              split at hv
              · rename_i u1 u2 k1 k
                split at hv
                · rename_i hb
                  obtain ⟨b0, b1⟩ := hb
                  cases hv
                  have r1 := slimOpd_sound hx e hxv
                  have r2 := slimOpd_sound hy e hnv
                  simp only [execOp, ho]
                  generalize hx1 : a.eval x = x1 at r1; generalize hx2 : a.eval y = x2 at r2
                  cases r1; cases r2
                  have hk46 : k ≤ 70368744177664 := by
                    have : (1 : Int) * k ≤ inf.bytes * k := Int.mul_le_mul_of_nonneg_right (by omega) (by omega)
                    omega
                  have w1 : IntKind.i64.wrap k = k := IntWalk.i64_in _ (by omega)
                  have hcut : ∀ t, ∃ j, (Question.appendCap (0 + k.toNat) 0 el).cut t = 0 + k.toNat + j := fun t => ⟨_, rfl⟩
                  obtain ⟨j, hj⟩ := hcut (w.tape w.drawn (.appendCap (0 + k.toNat) 0 el))
                  have hkb : k.toNat * inf.bytes ≤ 70368744177664 := by
                    have e1 : ((k.toNat * inf.bytes : Nat) : Int) = inf.bytes * k := by
                      rw [Int.natCast_mul, Int.toNat_of_nonneg (by omega), Int.mul_comm]
                    omega
                  have hns : Builtin.nextslicecap (0 + k.toNat) 0 = k.toNat := by
                    unfold Builtin.nextslicecap; rw [if_pos (by omega)]; omega
                  have hsz : ∀ w', (sizeOf el).run P w' = .ok inf.size w' := fun w' => run_sizeOf P w' (by rw [hinf]; rfl)
                  have hzv : ∀ w', (zeroValue el).run P w' = .ok z w' := fun w' => run_zeroValue P w' (by rw [hinf]; exact hz)
                  have hi' : ∀ w', (typeInfo el).run P w' = .ok inf w' := fun w' => run_typeInfo P w' hinf
                  let c' : Array Value := #[] ++ Builtin.zeroCells z.cells k.toNat ++ Builtin.zeroCells z.cells j
                  have hcs : c'.size = k.toNat * inf.size + j * inf.size := by simp [c', Builtin.zeroCells, hc3]
                  have hpos : 0 < k.toNat * inf.size := Nat.mul_pos (by omega) hc4
                  refine ⟨c', el, (0, 0), .slice (some ⟨w.heap.size, 0, none⟩) (0 + k.toNat) (0 + k.toNat + j), { w with drawn := w.drawn + 1, heap := w.heap.push (.cells c' el) }, ?_, ⟨rfl, rfl, rfl, rfl⟩, .inr ⟨rfl, rfl⟩, by simp, by simp, by simp, ?_⟩
                  · simp only [resolve, invoke, builtin, List.map_toArray, List.map_cons, List.map_nil, hx1, hx2, Sem.run_bind, Sem.run_pure, Result.andThen_ok]
                    have hrun : (Builtin.append_ #[t, t2] 0 #[.slice none 0 0, .int k1 k]).run P w = .ok (.slice (some ⟨w.heap.size, 0, none⟩) (0 + k.toNat) (0 + k.toNat + j)) { w with drawn := w.drawn + 1, heap := w.heap.push (.cells c' el) } := by
                      unfold Builtin.append_
                      simp only [List.getElem?_toArray, List.getElem?_cons_zero, List.getElem?_cons_succ, Sem.run_bind, run_underlying P w hd, run_underlying P w hd2, Result.andThen_ok, hsz, Sem.run_pure,
                        asInt, asIntOf, w1, if_true]
                      rw [if_neg (by omega)]
                      simp only [Sem.run_bind, run_typeInfo P w hinf, Result.andThen_ok]
                      rw [if_neg (by rw [Int.mul_comm] at b1; simp; omega)]
                      simp only [Sem.run_bind, Sem.run_pure, Result.andThen_ok]
                      rw [if_neg (by omega)]
                      simp only [Sem.run_bind, run_typeInfo P w hinf, Result.andThen_ok]
                      rw [if_neg (by rintro ⟨h1, _⟩; have hmx : IntKind.i64.max = 9223372036854775807 := by decide
                                     rw [hmx] at h1; omega)]
                      simp only [Sem.run_bind, run_typeInfo P w hinf, Result.andThen_ok, hns]
                      rw [if_neg (by simp; omega)]
                      simp only [Sem.run_bind, run_choose, Question.forced, Bool.false_eq_true, if_false, hj, Result.andThen_ok, hi', run_askRoom]
                      simp only [Builtin.firstCells, Sem.run_pure, Result.andThen_ok, Bool.not_true, Bool.false_eq_true, if_false, hsz]
                      rw [if_neg (by omega)]
                      simp only [Sem.run_bind, hzv, newRow, run_newObj, Sem.run_pure, Result.andThen_ok, Nat.add_sub_cancel_left]
                      try rfl
                    have hty : (Builtin.append_ #[t, t2] o.type #[.slice none 0 0, .int k1 k]).run P w = _ := hrun
                    simp only [hty, Result.andThen_ok]
                  · intro m' i hi
                    rw [Nat.zero_add]
                    exact .slice i 0 k.toNat inf.size _ 0 _ 0 _ hi (by omega) (.inr ⟨rfl, by rw [hcs, Nat.add_mul]; omega⟩)
                · cases hv
              · cases hv
            · cases hs
          · cases hs
        · cases hs
      | _ => simp [slimA] at hs
    | value f => simp [slimA] at hs
    | invoke rc me => simp [slimA] at hs
  | _ => simp [slimA] at hs
end
end Go.Ah
