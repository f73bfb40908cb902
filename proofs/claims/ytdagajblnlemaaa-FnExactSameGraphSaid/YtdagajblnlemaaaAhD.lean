import Derived.Test.YtdagajblnlemaaaAhC
set_option linter.unusedVariables false
namespace Go.Ah
open Go Go.RowKit

/-! ### Slots and operands -/
abbrev Env := List (Nat × Value)
def Env.get : Env → Nat → Option Value
  | [], _ => none
  | (k, v) :: t, s => if k = s then some v else Env.get t s
theorem Env.get_nil (s : Nat) : Env.get [] s = none := rfl
theorem Env.get_cons (k s : Nat) (v : Value) (t : Env) : Env.get ((k, v) :: t) s = if k = s then some v else Env.get t s := rfl
/-- Without a slot. -/
def Env.drop : Env → Nat → Env
  | [], _ => []
  | (k, v) :: t, s => if k = s then Env.drop t s else (k, v) :: Env.drop t s
theorem Env.get_drop (E : Env) (s k : Nat) : (E.drop s).get k = if s = k then none else E.get k := by
  induction E with
  | nil => simp [Env.drop, Env.get]
  | cons p t ih =>
    obtain ⟨q, v⟩ := p
    simp only [Env.drop]
    split
    · rename_i h; subst h; rw [ih]; simp only [Env.get]; split <;> simp_all
    · simp only [Env.get]; rw [ih]; by_cases h : q = k <;> by_cases h2 : s = k <;> simp_all
/-- The slots that are kept. -/
def Env.keep (E : Env) (l : List Nat) : Env := match l with
  | [] => []
  | s :: t => match E.get s with
    | some v => (s, v) :: E.keep t
    | none => E.keep t
theorem Env.get_keep {E : Env} {l : List Nat} {s : Nat} {v : Value} (h : (E.keep l).get s = some v) : E.get s = some v := by
  induction l with
  | nil => simp [Env.keep, Env.get] at h
  | cons k t ih =>
    simp only [Env.keep] at h
    split at h
    · rename_i u hu
      simp only [Env.get] at h
      split at h
      · rename_i hk; subst hk; cases h; exact hu
      · exact ih h
    · exact ih h

inductive Opd where
  | t (s : Nat)
  | c (v : Value)
  | f (id : FuncId)
def Opd.val (E : Env) : Opd → Option Value
  | .t s => E.get s
  | .c v => some v
  | .f id => some (.func (.func id) #[] #[])

def atomB : Value → Bool
  | .bool _ | .int _ _ | .float _ _ | .string _ | .pointer none | .nilFunc | .nilIface | .slice none 0 0 => true
  | .func _ f c => f.size == 0 && c.size == 0
  | _ => false
def closedB : Value → Bool
  | .agg cs => cs.toList.all atomB
  | v => atomB v
def slimOpd : Operand → Option Opd
  | .tmp t => some (.t t)
  | .const v => if closedB v then some (.c v) else none
  | .global _ => none
  | .func f => some (.f f)

theorem VR.atom (m : Map) {v : Value} (h : atomB v = true) : VR m v v := by
  unfold atomB at h
  split at h
  case h_9 => rename_i fn f c; simp at h; exact .func _ _ _ _ _ rfl rfl (fun i hi => by simp [h.1] at hi) (fun i hi => by simp [h.2] at hi)
  all_goals first | exact .bool _ | exact .int _ _ | exact .float _ _ _ (.inl rfl) | exact .string _ | exact .pnone | exact .nilFunc | exact .nilIface | exact .snone | cases h
theorem VR.closed (m : Map) {v : Value} (h : closedB v = true) : VR m v v := by
  unfold closedB at h
  split at h
  · rename_i cs
    refine .agg _ _ rfl fun i hi hi' => VR.atom m ?_
    rw [List.all_eq_true] at h
    exact h _ (by simp)
  · exact VR.atom m h

def ER (N : Nat) (m : Map) (E : Env) (T : Array Value) : Prop := T.size = N ∧ ∀ s v, E.get s = some v → ∃ v', T[s]? = some v' ∧ VR m v v'
theorem ER.mono {N : Nat} {m m' : Map} (hm : m.le m') {E : Env} {T : Array Value} (h : ER N m E T) : ER N m' E T :=
  ⟨h.1, fun s v e => let ⟨v', e', r⟩ := h.2 s v e; ⟨v', e', r.mono hm⟩⟩
theorem ER.keep {N : Nat} {m : Map} {E : Env} {T : Array Value} (h : ER N m E T) (l : List Nat) : ER N m (E.keep l) T :=
  ⟨h.1, fun s v e => h.2 s v (Env.get_keep e)⟩
theorem ER.drop {N : Nat} {m : Map} {E : Env} {T : Array Value} (h : ER N m E T) (d : Nat) (x : Value) : ER N m (E.drop d) (T.setIfInBounds d x) := by
  refine ⟨by simpa using h.1, fun s v e => ?_⟩
  rw [Env.get_drop] at e
  split at e
  · cases e
  · rename_i hs; rw [Array.getElem?_setIfInBounds_ne (by omega)]; exact h.2 s v e
theorem ER.put {N : Nat} {m : Map} {E : Env} {T : Array Value} (h : ER N m E T) {d : Nat} (hd : d < N) {v v' : Value} (r : VR m v v') :
    ER N m ((d, v) :: E) (T.setIfInBounds d v') := by
  refine ⟨by simpa using h.1, fun s u e => ?_⟩
  simp only [Env.get] at e
  split at e
  · rename_i hs; subst hs; cases e; exact ⟨v', by rw [Array.getElem?_setIfInBounds_self]; simp [h.1, hd], r⟩
  · rename_i hs; rw [Array.getElem?_setIfInBounds_ne (by omega)]; exact h.2 s u e

theorem slimOpd_sound {x : Operand} {o : Opd} (hs : slimOpd x = some o) {N : Nat} {m : Map} {E : Env} {a : Act} (h : ER N m E a.tmps) {v : Value} (hv : o.val E = some v) :
    VR m v (a.eval x) := by
  cases x with
  | tmp t =>
    simp only [slimOpd, Option.some.injEq] at hs; subst hs
    obtain ⟨v', e, r⟩ := h.2 t v hv
    simp only [Act.eval, Array.getD_eq_getD_getElem?, e, Option.getD_some]; exact r
  | const c =>
    simp only [slimOpd] at hs
    split at hs
    · rename_i hc; cases hs; simp only [Opd.val, Option.some.injEq] at hv; subst hv; exact VR.closed m hc
    · cases hs
  | global g => simp [slimOpd] at hs
  | func f => simp only [slimOpd, Option.some.injEq] at hs; subst hs; simp only [Opd.val, Option.some.injEq] at hv; subst hv; exact VR.atom m rfl

/-! ### Reading -/
def rd (h : Heap) (i o : Nat) : Option Value := match h.get i with
  | some ob => if ob.live = true then ob.cells[o]? else none
  | none => none
def rdn (h : Heap) (i o n : Nat) : Option (List Value) := match h.get i with
  | some ob => if ob.live = true ∧ o + n ≤ ob.cells.length then some ((ob.cells.drop o).take n) else none
  | none => none

section
variable {W0 : World} {m : Map} {h : Heap} {w : World}
theorem Rel.rd (r : Rel W0 m h w) {i o b base S : Nat} (hm : m i = some (b, base, S)) {v : Value} (hv : rd h i o = some v) : ∃ v', w.cell? ⟨b, base + o, none⟩ = some v' ∧ VR m v v' := by
  unfold Ah.rd at hv
  split at hv
  · rename_i ob hi
    split at hv
    · rename_i hl; exact (r.cells i b base S ob hm hi hl).2 o v hv
    · cases hv
  · cases hv
theorem Rel.rdn (r : Rel W0 m h w) {i o n b base S : Nat} (hm : m i = some (b, base, S)) {cs : List Value} (hv : rdn h i o n = some cs) :
    cs.length = n ∧ ∃ cs', VRs m cs cs' ∧ ∀ (j : Nat) v, cs'[j]? = some v → w.cell? ⟨b, base + o + j, none⟩ = some v := by
  unfold Ah.rdn at hv
  split at hv
  · rename_i ob hi
    split at hv
    · rename_i hl
      obtain ⟨hl, hn⟩ := hl
      cases hv
      obtain ⟨hoS, hc⟩ := r.cells i b base S ob hm hi hl
      have hlen : ((ob.cells.drop o).take n).length = n := by simp; omega
      refine ⟨hlen, ?_⟩
      have hget : ∀ j, j < n → ∃ v v', ob.cells[o + j]? = some v ∧ w.cell? ⟨b, base + (o + j), none⟩ = some v' ∧ VR m v v' := by
        intro j hj
        have hlt : o + j < ob.cells.length := by omega
        obtain ⟨v', e, rv⟩ := hc (o + j) ob.cells[o + j] (by simp [hlt])
        exact ⟨_, v', by simp [hlt], e, rv⟩
      refine ⟨(List.range n).map fun j => (w.cell? ⟨b, base + (o + j), none⟩).getD default, ⟨by simp; omega, fun j v e => ?_⟩, fun j v e => ?_⟩
      · rw [List.getElem?_take] at e
        split at e
        · rename_i hj
          obtain ⟨u, u', e1, e2, e3⟩ := hget j hj
          rw [List.getElem?_drop, e1] at e; cases e
          exact ⟨u', by simp [hj, e2], e3⟩
        · cases e
      · have hj : j < n := by have := (List.getElem?_eq_some_iff.mp e).1; simpa using this
        obtain ⟨u, u', e1, e2, e3⟩ := hget j hj
        simp [hj, e2] at e; subst e
        rw [Nat.add_assoc]; exact e2
    · cases hv
  · cases hv
end

/-! ### Whole numbers and words -/
def intB (op : BinOp) (k : IntKind) (a b : Int) : Option Value := match op with
  | .add => some (.int k (k.wrap (a + b)))
  | .sub => some (.int k (k.wrap (a - b)))
  | .mul => some (.int k (k.wrap (a * b)))
  | .quo => if b = 0 then none else some (.int k (k.wrap (a.tdiv b)))
  | .rem => if b = 0 then none else some (.int k (a.tmod b))
  | .and => some (.int k (k.wrap (BitVec.ofInt k.bits a &&& BitVec.ofInt k.bits b).toNat))
  | .or => some (.int k (k.wrap (BitVec.ofInt k.bits a ||| BitVec.ofInt k.bits b).toNat))
  | .xor => some (.int k (k.wrap (BitVec.ofInt k.bits a ^^^ BitVec.ofInt k.bits b).toNat))
  | .andNot => some (.int k (k.wrap (BitVec.ofInt k.bits a &&& ~~~(BitVec.ofInt k.bits b)).toNat))
  | .eql => some (.bool (decide (a = b)))
  | .neq => some (.bool (!decide (a = b)))
  | .lss => some (.bool (decide (a < b)))
  | .leq => some (.bool (decide (a ≤ b)))
  | .gtr => some (.bool (decide (b < a)))
  | .geq => some (.bool (decide (b ≤ a)))
  | _ => none
def shB (op : BinOp) (k : IntKind) (a b : Int) : Option Value := if b < 0 then none else match op with
  | .shl => some (.int k (k.wrap (a * 2 ^ (min b.toNat k.bits))))
  | .shr => some (.int k (a.fdiv (2 ^ (min b.toNat k.bits))))
  | _ => none
def strB (op : BinOp) (a b : ByteArray) : Option Value := match op with
  | .add => if a.size + b.size ≤ 9223372036854775807 then some (.string (a ++ b)) else none
  | .eql => some (.bool (a.toList == b.toList))
  | .neq => some (.bool (!(a.toList == b.toList)))
  | .lss => some (.bool (Op.bytesLess a.toList b.toList))
  | .leq => some (.bool (Op.bytesLess a.toList b.toList || a.toList == b.toList))
  | .gtr => some (.bool (!(Op.bytesLess a.toList b.toList || a.toList == b.toList)))
  | .geq => some (.bool (!Op.bytesLess a.toList b.toList))
  | _ => none
/-- Floats: as the model orders and divides them; what comes out a NaN is left open. -/
def fltB (op : BinOp) (k : FloatKind) (a b : Nat) : Option Value := match op with
  | .eql => some (.bool (k.format.order a b == some .eq))
  | .neq => some (.bool (k.format.order a b != some .eq))
  | .lss => some (.bool (k.format.order a b == some .lt))
  | .leq => some (.bool (k.format.order a b == some .lt || k.format.order a b == some .eq))
  | .gtr => some (.bool (k.format.order a b == some .gt))
  | .geq => some (.bool (k.format.order a b == some .gt || k.format.order a b == some .eq))
  | .quo => (k.format.div a b).map (.float k)
  | _ => none
theorem order_nan {k : FloatKind} {a : Nat} (h : isNaN k a) (b : Nat) : k.format.order a b = none ∧ k.format.order b a = none ∧ k.format.div a b = none ∧ k.format.div b a = none := by
  unfold isNaN Ieee.Format.order at h
  unfold Ieee.Format.order Ieee.Format.div
  cases hd : k.format.read a with
  | nan => refine ⟨by simp [Ieee.Datum.order], by cases k.format.read b <;> simp [Ieee.Datum.order], by simp [Ieee.Datum.quotient], by cases k.format.read b <;> simp [Ieee.Datum.quotient]⟩
  | infinity s => rw [hd] at h; simp [Ieee.Datum.order] at h
  | number s m i => rw [hd] at h; simp [Ieee.Datum.order] at h
theorem fltB_vr {k : FloatKind} {op : BinOp} {a a' b b' : Nat} (ha : a = a' ∨ (isNaN k a ∧ isNaN k a')) (hb : b = b' ∨ (isNaN k b ∧ isNaN k b')) {v : Value} (h : fltB op k a b = some v) : fltB op k a' b' = some v := by
  have ho : k.format.order a b = k.format.order a' b' := by
    rcases ha with rfl | ⟨h1, h2⟩
    · rcases hb with rfl | ⟨h3, h4⟩
      · rfl
      · rw [(order_nan h3 _).2.1, (order_nan h4 _).2.1]
    · rw [(order_nan h1 _).1, (order_nan h2 _).1]
  have hd : k.format.div a b = k.format.div a' b' := by
    rcases ha with rfl | ⟨h1, h2⟩
    · rcases hb with rfl | ⟨h3, h4⟩
      · rfl
      · rw [(order_nan h3 _).2.2.2, (order_nan h4 _).2.2.2]
    · rw [(order_nan h1 _).2.2.1, (order_nan h2 _).2.2.1]
  unfold fltB at h ⊢
  rw [← ho, ← hd]; exact h
def binV (op : BinOp) (x y : Value) : Option Value := match x, y with
  | .int k a, .int k' b => if op = .shl ∨ op = .shr then shB op k a b else if k = k' then intB op k a b else none
  | .string a, .string b => strB op a b
  | .float k a, .float k' b => if k = k' then fltB op k a b else none
  | _, _ => none

theorem run_eqGuard_int (P : Program) (w : World) (op : BinOp) (t : TypeId) (x y : Operand) (k k' : IntKind) (a b : Int) :
    (eqGuard op t x y (.int k a) (.int k' b)).run P w = .ok () w := by
  unfold eqGuard; cases op <;> rfl
theorem run_eqGuard_string (P : Program) (w : World) (op : BinOp) (t : TypeId) (x y : Operand) (a b : ByteArray) :
    (eqGuard op t x y (.string a) (.string b)).run P w = .ok () w := by
  unfold eqGuard; cases op <;> rfl

theorem run_eqGuard_float (P : Program) (w : World) (op : BinOp) (t : TypeId) (x y : Operand) (k k' : FloatKind) (a b : Nat) :
    (eqGuard op t x y (.float k a) (.float k' b)).run P w = .ok () w := by
  unfold eqGuard; cases op <;> rfl
theorem run_fltB (P : Program) (w : World) {op : BinOp} {t : TypeId} {k : FloatKind} {a b : Nat} {v : Value} (h : fltB op k a b = some v) :
    (binOp op t (.float k a) (.float k b)).run P w = .ok v w := by
  cases op <;> simp [fltB] at h <;> first
    | (subst h; simp [binOp, Op.floatCmp]; done)
    | (obtain ⟨r, hr, rfl⟩ := h; simp [binOp, Op.floatArith, hr]; done)
theorem run_intB (P : Program) (w : World) {op : BinOp} {t : TypeId} {k : IntKind} {a b : Int} {v : Value} (h1 : op ≠ .shl) (h2 : op ≠ .shr) (h : intB op k a b = some v) :
    (binOp op t (.int k a) (.int k b)).run P w = .ok v w := by
  cases op <;> simp [intB] at h <;> first
    | (exact absurd rfl h1) | (exact absurd rfl h2)
    | (subst h; simp [binOp, Op.intArith, Op.intBits, Op.intCmp]; done)
    | (obtain ⟨hb, rfl⟩ := h; simp [binOp, Op.intDiv, hb]; done)
    | (subst h; simp [binOp, Op.intCmp, BEq.beq, bne]; done)
theorem run_shB (P : Program) (w : World) {op : BinOp} {t : TypeId} {k k' : IntKind} {a b : Int} {v : Value} (h : shB op k a b = some v) :
    (binOp op t (.int k a) (.int k' b)).run P w = .ok v w := by
  unfold shB at h
  split at h
  · cases h
  · rename_i hb
    cases op <;> simp at h <;> (subst h; simp [binOp, Op.shift, hb])
theorem run_strB (P : Program) (w : World) {op : BinOp} {t : TypeId} {a b : ByteArray} {v : Value} (h : strB op a b = some v) :
    (binOp op t (.string a) (.string b)).run P w = .ok v w := by
  have hmax : IntKind.i64.max = 9223372036854775807 := by decide
  cases op <;> simp [strB] at h <;> first
    | (obtain ⟨hb, rfl⟩ := h; simp only [binOp, Op.stringOp, hmax]; rw [if_neg (by omega)]; rfl)
    | (subst h; simp [binOp, Op.stringOp]; done)

theorem run_binV {P : Program} {w : World} {m : Map} {op : BinOp} {t : TypeId} {x y : Operand} {a b a' b' v : Value} (ha : VR m a a') (hb : VR m b b') (h : binV op a b = some v) :
    ∃ v', ((do eqGuard op t x y a' b'; binOp op t a' b') : Sem Value).run P w = .ok v' w ∧ VR m v v' := by
  unfold binV at h
  split at h
  · rename_i k p k' q
    cases ha; cases hb
    simp only [Sem.run_bind, run_eqGuard_int, Result.andThen_ok]
    split at h
    · refine ⟨v, run_shB P w h, ?_⟩
      unfold shB at h; split at h
      · cases h
      · cases op <;> simp at h <;> subst h <;> exact .int _ _
    · rename_i hop
      split at h
      · rename_i hk; subst hk
        refine ⟨v, run_intB P w (fun e => hop (.inl e)) (fun e => hop (.inr e)) h, ?_⟩
        cases op <;> simp [intB] at h <;> first | (subst h; first | exact .int _ _ | exact .bool _) | (obtain ⟨_, rfl⟩ := h; exact .int _ _)
      · cases h
  · cases ha; cases hb
    simp only [Sem.run_bind, run_eqGuard_string, Result.andThen_ok]
    refine ⟨v, run_strB P w h, ?_⟩
    cases op <;> simp [strB] at h <;> first | (subst h; exact .bool _) | (obtain ⟨_, rfl⟩ := h; exact .string _)
  · rename_i k p k' q
    cases ha with
    | float _ _ p' hp =>
      cases hb with
      | float _ _ q' hq =>
        simp only [Sem.run_bind, run_eqGuard_float, Result.andThen_ok]
        split at h
        · rename_i hk; subst hk
          refine ⟨v, run_fltB P w (fltB_vr hp hq h), ?_⟩
          cases op <;> simp [fltB] at h <;> first | (subst h; exact .bool _) | (obtain ⟨r, hr, rfl⟩ := h; exact .float _ _ _ (.inl rfl))
        · cases h
  · cases h

end Go.Ah
