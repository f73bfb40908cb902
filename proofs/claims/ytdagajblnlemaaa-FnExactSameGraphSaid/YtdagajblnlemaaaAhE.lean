import Derived.Test.YtdagajblnlemaaaAhD
set_option linter.unusedVariables false
namespace Go.Ah
open Go Go.RowKit

section runs
variable (P : Program) (w : World)
theorem run_typeInfo {t : TypeId} {i : TypeInfo} (h : P.info? t = some i) : (typeInfo t).run P w = .ok i w := by
  simp [typeInfo, h]
theorem run_underlying {t : TypeId} {d : TypeDesc} (h : P.underlying t = some d) : (underlying t).run P w = .ok d w := by
  simp [underlying, h]
theorem run_sizeOf {t : TypeId} {n : Nat} (h : (P.info? t).map (·.size) = some n) : (sizeOf t).run P w = .ok n w := by
  cases hi : P.info? t with
  | none => rw [hi] at h; cases h
  | some i => rw [hi] at h; simp at h; subst h; simp [sizeOf, run_typeInfo P w hi]
theorem run_zeroValue {t : TypeId} {v : Value} (h : (P.info? t).bind (·.zero) = some v) : (zeroValue t).run P w = .ok v w := by
  cases hi : P.info? t with
  | none => rw [hi] at h; cases h
  | some i => rw [hi] at h; simp at h; simp [zeroValue, run_typeInfo P w hi, h]
end runs

/-! ### The quiet operations -/
def Opd.vals (E : Env) : List Opd → Option (List Value)
  | [] => some []
  | x :: xs => (x.val E).bind fun v => (Opd.vals E xs).bind fun l => some (v :: l)
def fillV (cs : List Value) : List (Nat × Nat × Value) → Option (List Value)
  | [] => some cs
  | (off, size, v) :: t => if v.cells.size = size ∧ off + size ≤ cs.length then fillV (splice cs off v.cells.toList) t else none
def valsP (E : Env) : List (Nat × Nat × Opd) → Option (List (Nat × Nat × Value))
  | [] => some []
  | (o, s, x) :: t => (x.val E).bind fun v => (valsP E t).bind fun l => some ((o, s, v) :: l)

inductive QOp where
  | mv (x : Opd)
  | pick (c a b : Opd)
  | build (zero : List Value) (parts : List (Nat × Nat × Opd))
  | ld (a : Opd)
  | ldn (n : Nat) (a : Opd)
  | nil (x : Opd)
  | bin (op : BinOp) (x y : Opd)
  | eqb (neg : Bool) (x y : Opd)
  | eqs (neg : Bool) (x y : Opd)
  | not (x : Opd)
  | neg (x : Opd)
  | cvi (k : IntKind) (x : Opd)
  | cvf (k : FloatKind) (x : Opd)
  | slc (sz : Nat) (x : Opd) (lo hi : Option Opd)
  | sls (x : Opd) (lo hi : Option Opd)
  | fa (off : Nat) (x : Opd)
  | ia (sz : Nat) (x i : Opd)
  | iaa (len sz : Nat) (x i : Opd)
  | ivs (x i : Opd)
  | iva (len : Nat) (x i : Opd)
  | ext (x : Opd) (i : Nat)
  | len (x : Opd)
  | lens (x : Opd)
  | mx (x y : Opd)
  | mn (x y : Opd)
  | mkf (fn : FuncId) (cap : List Opd)
  | cap (x : Opd)
  | eqi (neg : Bool) (n : Nat) (x y : Opd)
  | cbs (x : Opd)
  | bad

def ldV (h : Heap) : Value → Option Value
  | .pointer (some ⟨i, o, none⟩) => rd h i o
  | _ => none
def ldnV (h : Heap) (n : Nat) : Value → Option Value
  | .pointer (some ⟨i, o, none⟩) => (rdn h i o n).map fun cs => .agg cs.toArray
  | _ => none
def nilV : Value → Option Value
  | .pointer (some a) => some (.pointer (some a))
  | .func (.func f) x y => some (.func (.func f) x y)
  | _ => none
def eqbV (neg : Bool) : Value → Value → Option Value
  | .bool a, .bool b => some (.bool (if neg then !(a == b) else (a == b)))
  | _, _ => none
def eqsV (neg : Bool) : Value → Value → Option Value
  | .slice a _ _, .slice none _ _ => some (.bool (if neg then a.isSome else a.isNone))
  | .slice none _ _, .slice b _ _ => some (.bool (if neg then b.isSome else b.isNone))
  | _, _ => none
def notV : Value → Option Value
  | .bool b => some (.bool !b)
  | _ => none
def negV : Value → Option Value
  | .int k n => some (.int k (k.wrap (0 - n)))
  | _ => none
def cviV (k : IntKind) : Value → Option Value
  | .int _ n => some (.int k (k.wrap n))
  | _ => none
def cvfV (k : FloatKind) : Value → Option Value
  | .int _ n => some (.float k (k.nearest n))
  | _ => none
/-- A bound of a slice expression: from 0 to most. -/
def bndV (most : Nat) : Value → Option Nat
  | .int _ i => if 0 ≤ i ∧ i ≤ most then some i.toNat else none
  | _ => none
def slcV (sz : Nat) (x : Value) (lo hi : Option Value) : Option Value := match x with
  | .slice a len s =>
    ((hi.map (bndV len)).getD (some len)).bind fun hh => ((lo.map (bndV hh)).getD (some 0)).bind fun ll =>
      if a.isSome = true ∧ sz ≠ s then none else some (.slice (a.map (·.add (ll * sz))) (hh - ll) (if a.isSome then s else 0))
  | _ => none
def slsV (x : Value) (lo hi : Option Value) : Option Value := match x with
  | .string b =>
    ((hi.map (bndV b.size)).getD (some b.size)).bind fun hh => ((lo.map (bndV hh)).getD (some 0)).bind fun ll => some (.string (b.extract ll hh))
  | _ => none
def faV (off : Nat) : Value → Option Value
  | .pointer (some ⟨i, o, none⟩) => some (.pointer (some ⟨i, o + off, none⟩))
  | _ => none
def iaV (sz : Nat) : Value → Value → Option Value
  | .slice (some ⟨i, o, none⟩) len s, .int _ j => if 0 ≤ j ∧ j < len ∧ sz = s then some (.pointer (some ⟨i, o + j.toNat * sz, none⟩)) else none
  | _, _ => none
def iaaV (len sz : Nat) : Value → Value → Option Value
  | .pointer (some ⟨i, o, none⟩), .int _ j => if 0 ≤ j ∧ j < len then some (.pointer (some ⟨i, o + j.toNat * sz, none⟩)) else none
  | _, _ => none
def ivsV : Value → Value → Option Value
  | .string b, .int _ j => if 0 ≤ j then (b[j.toNat]?).map fun c => .int .u8 c.toNat else none
  | _, _ => none
def ivaV (len : Nat) : Value → Value → Option Value
  | .agg cs, .int _ j => if 0 ≤ j ∧ j < len then cs[j.toNat]? else none
  | _, _ => none
def extV (i : Nat) : Value → Option Value
  | .tuple vs => vs[i]?
  | _ => none
def lenV : Value → Option Value
  | .slice _ n _ => some (.int .i64 n)
  | _ => none
def lensV : Value → Option Value
  | .string s => some (.int .i64 s.size)
  | _ => none
def mxV : Value → Value → Option Value
  | .int k a, .int _ b => some (.int k (if a < b then b else a))
  | _, _ => none
def mnV : Value → Value → Option Value
  | .int k a, .int _ b => some (.int k (if b < a then b else a))
  | _, _ => none

def capV : Value → Option Value
  | .slice none _ _ => some (.int .i64 0)
  | _ => none
/-- Whole numbers, cell by cell. -/
def intsEq : List Value → List Value → Option Bool
  | [], [] => some true
  | .int k a :: l, .int k' b :: l' => if k = k' then (intsEq l l').map fun r => decide (a = b) && r else none
  | _, _ => none
def eqiV (neg : Bool) (n : Nat) : Value → Value → Option Value
  | .agg a, .agg b => if a.size = n then (intsEq a.toList b.toList).map fun r => .bool (if neg then !r else r) else none
  | _, _ => none

/-- Bytes as a string. -/
def bytesV : List Value → Option (List Int)
  | [] => some []
  | .int .u8 n :: t => (bytesV t).map fun l => n :: l
  | _ => none
def bytesS (l : List Int) : ByteArray := l.foldl (fun r n => r.push (UInt8.ofNat n.toNat)) ByteArray.empty
def cbsV (h : Heap) : Value → Option Value
  | .slice none _ _ => some (.string ByteArray.empty)
  | .slice (some ⟨i, o, none⟩) n 1 => (rdn h i o n).bind fun cs => (bytesV cs).map fun l => .string (bytesS l)
  | _ => none

/-- An optional operand. -/
def Opd.optV (E : Env) : Option Opd → Option (Option Value)
  | none => some none
  | some x => (x.val E).map some

def QOp.ev (E : Env) (h : Heap) : QOp → Option Value
  | .mv x => x.val E
  | .pick c a b => match c.val E with
    | some (.bool true) => a.val E
    | some (.bool false) => b.val E
    | _ => none
  | .build zero parts => (valsP E parts).bind fun l => (fillV zero l).map fun cs => .agg cs.toArray
  | .ld a => (a.val E).bind (ldV h)
  | .ldn n a => (a.val E).bind (ldnV h n)
  | .nil x => (x.val E).bind nilV
  | .bin op x y => (x.val E).bind fun a => (y.val E).bind fun b => binV op a b
  | .eqb ng x y => (x.val E).bind fun a => (y.val E).bind fun b => eqbV ng a b
  | .eqs ng x y => (x.val E).bind fun a => (y.val E).bind fun b => eqsV ng a b
  | .not x => (x.val E).bind notV
  | .neg x => (x.val E).bind negV
  | .cvi k x => (x.val E).bind (cviV k)
  | .cvf k x => (x.val E).bind (cvfV k)
  | .slc sz x lo hi => (x.val E).bind fun a => (Opd.optV E lo).bind fun l => (Opd.optV E hi).bind fun u => slcV sz a l u
  | .sls x lo hi => (x.val E).bind fun a => (Opd.optV E lo).bind fun l => (Opd.optV E hi).bind fun u => slsV a l u
  | .fa off x => (x.val E).bind (faV off)
  | .ia sz x i => (x.val E).bind fun a => (i.val E).bind fun b => iaV sz a b
  | .iaa n sz x i => (x.val E).bind fun a => (i.val E).bind fun b => iaaV n sz a b
  | .ivs x i => (x.val E).bind fun a => (i.val E).bind fun b => ivsV a b
  | .iva n x i => (x.val E).bind fun a => (i.val E).bind fun b => ivaV n a b
  | .ext x i => (x.val E).bind (extV i)
  | .len x => (x.val E).bind lenV
  | .lens x => (x.val E).bind lensV
  | .mx x y => (x.val E).bind fun a => (y.val E).bind fun b => mxV a b
  | .mn x y => (x.val E).bind fun a => (y.val E).bind fun b => mnV a b
  | .cap x => (x.val E).bind capV
  | .eqi ng n x y => (x.val E).bind fun a => (y.val E).bind fun b => eqiV ng n a b
  | .cbs x => (x.val E).bind (cbsV h)
  | .bad => none
  | .mkf fn cp => (Opd.vals E cp).map fun l => .func (.func fn) #[] l.toArray

/-! ### The translation of the quiet ones -/
def szOf (P : Program) (t : TypeId) : Option Nat := (P.info? t).map (·.size)
def isAggB (d : TypeDesc) : Bool := match d with | .struct _ | .array _ _ => true | _ => false
def slimOpds : List Operand → Option (List Opd)
  | [] => some []
  | x :: t => (slimOpd x).bind fun a => (slimOpds t).bind fun l => some (a :: l)
def slimOpt : Option Operand → Option (Option Opd)
  | none => some none
  | some x => (slimOpd x).map some
def slimParts (place : Nat → Option (Nat × Nat)) : List (Nat × Operand) → Option (List (Nat × Nat × Opd))
  | [] => some []
  | (i, x) :: t => (place i).bind fun p => (slimOpd x).bind fun a => (slimParts place t).bind fun l => some ((p.1, p.2, a) :: l)
def placesOf (P : Program) : List Field → Option (List (Nat × Nat))
  | [] => some []
  | f :: t => (szOf P f.type).bind fun n => (placesOf P t).bind fun l => some ((f.offset, n) :: l)

def eqNeg : BinOp → Option Bool
  | .eql => some false
  | .neq => some true
  | _ => none
theorem eqNeg_op {op : BinOp} {ng : Bool} (h : eqNeg op = some ng) : op = if ng then .neq else .eql := by
  cases op <;> simp [eqNeg] at h <;> subst h <;> rfl

def slimQ (P : Program) (o : Op) : Option QOp := match o with
  | .move x | .assign x => (slimOpd x).map .mv
  | .pick c a b => (slimOpd c).bind fun c => (slimOpd a).bind fun a => (slimOpd b).bind fun b => some (.pick c a b)
  | .build t parts => (P.underlying t).bind fun d => ((P.info? t).bind (·.zero)).bind fun z =>
      if closedB z then match d with
        | .struct fields => (placesOf P fields.toList).bind fun ps => (slimParts (ps[·]?) parts.toList).bind fun l => some (.build z.cells.toList l)
        | .array _ e => (szOf P e).bind fun n => (slimParts (fun i => some (i * n, n)) parts.toList).bind fun l => some (.build z.cells.toList l)
        | _ => none
      else none
  | .load t a => (P.underlying t).bind fun d => (slimOpd a).bind fun a => if isAggB d then (szOf P t).bind fun n => some (.ldn n a) else some (.ld a)
  | .nilCheck x => (slimOpd x).map .nil
  | .binOp op t x y _ => (slimOpd x).bind fun a => (slimOpd y).bind fun b => match P.underlying t with
      | some (.int _) => some (.bin op a b)
      | some .string => some (.bin op a b)
      | some (.float _) => some (.bin op a b)
      | some .bool => (eqNeg op).bind fun ng => some (.eqb ng a b)
      | some (.slice _) => (eqNeg op).bind fun ng => some (.eqs ng a b)
      | some (.struct fs) => if fs.toList.zipIdx.all (fun (f, i) => f.offset == i && f.name != "_" && (match P.underlying f.type with | some (.int _) => true | _ => false) && szOf P f.type == some 1) &&
          !P.stoodInHeld t && !P.eqGuardType P.depth t then (eqNeg op).bind fun ng => some (.eqi ng fs.size a b) else none
      | _ => none
  | .unOp op t x => (slimOpd x).bind fun a => match op with
      | .not => some (.not a)
      | .neg => match P.underlying t with | some (.int _) => some (.neg a) | _ => none
      | _ => none
  | .convert s d x => (P.underlying s).bind fun sd => (P.underlying d).bind fun dd => (slimOpd x).bind fun a => match sd, dd with
      | .int _, .int k => some (.cvi k a)
      | .int _, .float k => some (.cvf k a)
      | .slice e, .string => (P.underlying e).bind fun ed => match ed with
        | .int .u8 => some (.cbs a)
        | _ => none
      | _, _ => none
  | .slice t x lo hi none => (P.underlying t).bind fun d => (slimOpd x).bind fun a => (slimOpt lo).bind fun l => (slimOpt hi).bind fun u => match d with
      | .slice e => (szOf P e).bind fun n => some (.slc n a l u)
      | .string => some (.sls a l u)
      | _ => none
  | .fieldAddr s x f => match P.underlying s with
      | some (.struct fields) => (fields[f]?).bind fun fd => (szOf P fd.type).bind fun n => if n = 0 then none else (slimOpd x).map (.fa fd.offset)
      | _ => none
  | .indexAddr t x i => (slimOpd x).bind fun a => (slimOpd i).bind fun b => match P.underlying t with
      | some (.slice e) => (szOf P e).bind fun n => some (.ia n a b)
      | some (.array len e) => (szOf P e).bind fun n => some (.iaa len n a b)
      | _ => none
  | .index t x i => (slimOpd x).bind fun a => (slimOpd i).bind fun b => match P.underlying t with
      | some .string => some (.ivs a b)
      | some (.array len e) => (P.underlying e).bind fun d => (szOf P e).bind fun n => if isAggB d || n != 1 then none else some (.iva len a b)
      | _ => none
  | .extract x i => (slimOpd x).map (.ext · i)
  | .call { callee := .builtin .len, args, argTypes } => match args.toList, argTypes.toList with
      | [x], [t] => (slimOpd x).bind fun a => match P.underlying t with
        | some (.slice _) => some (.len a)
        | some .string => some (.lens a)
        | _ => none
      | _, _ => none
  | .call { callee := .builtin .max, args, .. } => match args.toList with
      | [x, y] => (slimOpd x).bind fun a => (slimOpd y).bind fun b => some (.mx a b)
      | _ => none
  | .call { callee := .builtin .min, args, .. } => match args.toList with
      | [x, y] => (slimOpd x).bind fun a => (slimOpd y).bind fun b => some (.mn a b)
      | _ => none
  | .call { callee := .builtin .cap, args, argTypes } => match args.toList, argTypes.toList with
      | [x], [t] => (slimOpd x).bind fun a => match P.underlying t with
        | some (.slice _) => some (.cap a)
        | _ => none
      | _, _ => none
  | .makeFunc (.func f) first captured => if first.size = 0 then (slimOpds captured.toList).map (.mkf f) else none
  | _ => none
end Go.Ah
