import Derived.Test.YtdagajblnlemaaaAhQ
set_option linter.unusedVariables false
set_option linter.unusedSimpArgs false
namespace Go.Ah
open Go Go.RowKit

def vcons (v : Option Value) (l : Option (List Value)) : Option (List Value) := match v, l with | some v, some l => some (v :: l) | _, _ => none
def keepO (v : Option Value) (s : Nat) (E : Env) : Env := match v with | some v => (s, v) :: E | none => E
def retR (vs : Option (List Value)) (R : Value → Heap → Prop) (h : Heap) : Prop := match vs with | some vs => R (packV vs) h | none => False
def bin2 (op : BinOp) (x y : Option Value) : Option Value := match x, y with | some a, some b => binV op a b | _, _ => none
def un1 (f : Value → Option Value) (x : Option Value) : Option Value := match x with | some a => f a | none => none
def un2 (f : Value → Value → Option Value) (x y : Option Value) : Option Value := match x, y with | some a, some b => f a b | _, _ => none
def pickO (c a b : Option Value) : Option Value := match c with | some (.bool true) => a | some (.bool false) => b | _ => none
def optO (x : Option Value) : Option (Option Value) := match x with | some v => some (some v) | none => none
def slc3 (f : Value → Option Value → Option Value → Option Value) (x : Option Value) (l u : Option (Option Value)) : Option Value := match x, l, u with | some x, some l, some u => f x l u | _, _, _ => none
def pcons (o s : Nat) (v : Option Value) (l : Option (List (Nat × Nat × Value))) : Option (List (Nat × Nat × Value)) := match v, l with | some v, some l => some ((o, s, v) :: l) | _, _ => none
def buildO (zero : List Value) (l : Option (List (Nat × Nat × Value))) : Option Value := match l with | some l => (match fillV zero l with | some cs => some (.agg cs.toArray) | none => none) | none => none
def bslO (len sz : Nat) (t : List Value) (l : Option (List (Nat × Nat × Value))) : Option (List Value × (Nat → Value)) := match l with
  | some l => (match fillV t l with | some cs => if oneB cs then some (cs, fun i => .slice (some ⟨i, 0, none⟩) len sz) else none | none => none) | none => none
def boxO (v : Option Value) : Option (List Value × (Nat → Value)) := match v with | some v => if oneB v.cells.toList then some (v.cells.toList, fun i => .pointer (some ⟨i, 0, none⟩)) else none | none => none
def mksV (bytes sz : Nat) (zero : List Value) (l c : Value) : Option (List Value × (Nat → Value)) := match l, c with
  | .int _ ln, .int _ cn => if 0 ≤ ln ∧ ln ≤ cn ∧ bytes * cn ≤ 281474976710656 then some ((List.replicate cn.toNat zero).flatten, fun i => .slice (some ⟨i, 0, none⟩) ln.toNat sz) else none
  | _, _ => none
def mksO (bytes sz : Nat) (zero : List Value) (l c : Option Value) : Option (List Value × (Nat → Value)) := match l, c with | some l, some c => mksV bytes sz zero l c | _, _ => none
def groV (bytes sz : Nat) (l c : Value) : Option (List Value × (Nat → Value)) := match l, c with
  | .slice none _ _, .int _ k => if 0 < k ∧ bytes * k ≤ 70368744177664 then some ([], fun i => .slice (some ⟨i, 0, none⟩) k.toNat sz) else none
  | _, _ => none
def groO (bytes sz : Nat) (l c : Option Value) : Option (List Value × (Nat → Value)) := match l, c with | some l, some c => groV bytes sz l c | _, _ => none
def csbO (v : Option Value) : Option (List Value × (Nat → Value)) := match v with
  | some (.string s) => some (s.data.toList.map fun b => .int .u8 b.toNat, fun i => .slice (some ⟨i, 0, none⟩) s.size 1) | _ => none
def mkfO (f : FuncId) (l : Option (List Value)) : Option Value := match l with | some l => some (.func (.func f) #[] l.toArray) | none => none

section
variable (E : Env) (h : Heap)
theorem val_t (s : Nat) : (Opd.t s).val E = E.get s := rfl
theorem val_c (v : Value) : (Opd.c v).val E = some v := rfl
theorem val_f (f : FuncId) : (Opd.f f).val E = some (.func (.func f) #[] #[]) := rfl
theorem vals_nil : Opd.vals E [] = some [] := rfl
theorem vals_cons (x : Opd) (xs : List Opd) : Opd.vals E (x :: xs) = vcons (x.val E) (Opd.vals E xs) := by
  simp only [Opd.vals, vcons]; cases x.val E <;> cases Opd.vals E xs <;> rfl
theorem vcons_some (v : Value) (l : List Value) : vcons (some v) (some l) = some (v :: l) := rfl
theorem valsP_nil : valsP E [] = some [] := rfl
theorem valsP_cons (o s : Nat) (x : Opd) (xs : List (Nat × Nat × Opd)) : valsP E ((o, s, x) :: xs) = pcons o s (x.val E) (valsP E xs) := by
  simp only [valsP, pcons]; cases x.val E <;> cases valsP E xs <;> rfl
theorem pcons_some (o s : Nat) (v : Value) (l : List (Nat × Nat × Value)) : pcons o s (some v) (some l) = some ((o, s, v) :: l) := rfl
theorem ev_mv (x : Opd) : (QOp.mv x).ev E h = x.val E := rfl
theorem ev_pick (c a b : Opd) : (QOp.pick c a b).ev E h = pickO (c.val E) (a.val E) (b.val E) := rfl
theorem pickO_true (a b : Option Value) : pickO (some (.bool true)) a b = a := rfl
theorem pickO_false (a b : Option Value) : pickO (some (.bool false)) a b = b := rfl
theorem pickO_bool (c x y : Bool) : pickO (some (.bool c)) (some (.bool x)) (some (.bool y)) = some (.bool (if c then x else y)) := by cases c <;> rfl
theorem ev_build (z : List Value) (p : List (Nat × Nat × Opd)) : (QOp.build z p).ev E h = buildO z (valsP E p) := by
  simp only [QOp.ev, buildO]; cases hq : valsP E p with
  | none => rfl
  | some l => simp only [Option.bind_some]; cases fillV z l <;> rfl
theorem ev_ld (x : Opd) : (QOp.ld x).ev E h = un1 (ldV h) (x.val E) := by simp only [QOp.ev, un1]; cases x.val E <;> rfl
theorem ev_ldn (n : Nat) (x : Opd) : (QOp.ldn n x).ev E h = un1 (ldnV h n) (x.val E) := by simp only [QOp.ev, un1]; cases x.val E <;> rfl
theorem ev_nil (x : Opd) : (QOp.nil x).ev E h = un1 nilV (x.val E) := by simp only [QOp.ev, un1]; cases x.val E <;> rfl
theorem ev_bin (op : BinOp) (x y : Opd) : (QOp.bin op x y).ev E h = bin2 op (x.val E) (y.val E) := by simp only [QOp.ev, bin2]; cases x.val E <;> cases y.val E <;> rfl
theorem ev_eqb (n : Bool) (x y : Opd) : (QOp.eqb n x y).ev E h = un2 (eqbV n) (x.val E) (y.val E) := by simp only [QOp.ev, un2]; cases x.val E <;> cases y.val E <;> rfl
theorem ev_eqs (n : Bool) (x y : Opd) : (QOp.eqs n x y).ev E h = un2 (eqsV n) (x.val E) (y.val E) := by simp only [QOp.ev, un2]; cases x.val E <;> cases y.val E <;> rfl
theorem ev_not (x : Opd) : (QOp.not x).ev E h = un1 notV (x.val E) := by simp only [QOp.ev, un1]; cases x.val E <;> rfl
theorem ev_neg (x : Opd) : (QOp.neg x).ev E h = un1 negV (x.val E) := by simp only [QOp.ev, un1]; cases x.val E <;> rfl
theorem ev_cbs (x : Opd) : (QOp.cbs x).ev E h = un1 (cbsV h) (x.val E) := by simp only [QOp.ev, un1]; cases x.val E <;> rfl
theorem ev_cvf (k : FloatKind) (x : Opd) : (QOp.cvf k x).ev E h = un1 (cvfV k) (x.val E) := by simp only [QOp.ev, un1]; cases x.val E <;> rfl
theorem ev_cvi (k : IntKind) (x : Opd) : (QOp.cvi k x).ev E h = un1 (cviV k) (x.val E) := by simp only [QOp.ev, un1]; cases x.val E <;> rfl
theorem ev_slc (n : Nat) (x : Opd) (l u : Option Opd) : (QOp.slc n x l u).ev E h = slc3 (slcV n) (x.val E) (Opd.optV E l) (Opd.optV E u) := by
  simp only [QOp.ev, slc3]; cases x.val E <;> cases Opd.optV E l <;> cases Opd.optV E u <;> rfl
theorem ev_sls (x : Opd) (l u : Option Opd) : (QOp.sls x l u).ev E h = slc3 slsV (x.val E) (Opd.optV E l) (Opd.optV E u) := by
  simp only [QOp.ev, slc3]; cases x.val E <;> cases Opd.optV E l <;> cases Opd.optV E u <;> rfl
theorem ev_fa (n : Nat) (x : Opd) : (QOp.fa n x).ev E h = un1 (faV n) (x.val E) := by simp only [QOp.ev, un1]; cases x.val E <;> rfl
theorem ev_ia (n : Nat) (x y : Opd) : (QOp.ia n x y).ev E h = un2 (iaV n) (x.val E) (y.val E) := by simp only [QOp.ev, un2]; cases x.val E <;> cases y.val E <;> rfl
theorem ev_iaa (l n : Nat) (x y : Opd) : (QOp.iaa l n x y).ev E h = un2 (iaaV l n) (x.val E) (y.val E) := by simp only [QOp.ev, un2]; cases x.val E <;> cases y.val E <;> rfl
theorem ev_iva (n : Nat) (x y : Opd) : (QOp.iva n x y).ev E h = un2 (ivaV n) (x.val E) (y.val E) := by simp only [QOp.ev, un2]; cases x.val E <;> cases y.val E <;> rfl
theorem ev_ivs (x y : Opd) : (QOp.ivs x y).ev E h = un2 ivsV (x.val E) (y.val E) := by simp only [QOp.ev, un2]; cases x.val E <;> cases y.val E <;> rfl
theorem ev_ext (x : Opd) (i : Nat) : (QOp.ext x i).ev E h = un1 (extV i) (x.val E) := by simp only [QOp.ev, un1]; cases x.val E <;> rfl
theorem ev_len (x : Opd) : (QOp.len x).ev E h = un1 lenV (x.val E) := by simp only [QOp.ev, un1]; cases x.val E <;> rfl
theorem ev_lens (x : Opd) : (QOp.lens x).ev E h = un1 lensV (x.val E) := by simp only [QOp.ev, un1]; cases x.val E <;> rfl
theorem ev_cap (x : Opd) : (QOp.cap x).ev E h = un1 capV (x.val E) := by simp only [QOp.ev, un1]; cases x.val E <;> rfl
theorem ev_eqi (ng : Bool) (n : Nat) (x y : Opd) : (QOp.eqi ng n x y).ev E h = un2 (eqiV ng n) (x.val E) (y.val E) := by simp only [QOp.ev, un2]; cases x.val E <;> cases y.val E <;> rfl
theorem ev_mx (x y : Opd) : (QOp.mx x y).ev E h = un2 mxV (x.val E) (y.val E) := by simp only [QOp.ev, un2]; cases x.val E <;> cases y.val E <;> rfl
theorem ev_mn (x y : Opd) : (QOp.mn x y).ev E h = un2 mnV (x.val E) (y.val E) := by simp only [QOp.ev, un2]; cases x.val E <;> cases y.val E <;> rfl
theorem ev_mkf (f : FuncId) (l : List Opd) : (QOp.mkf f l).ev E h = mkfO f (Opd.vals E l) := by simp only [QOp.ev, mkfO]; cases Opd.vals E l <;> rfl
theorem av_new (c : List Value) : (AOp.new c).ev E = some (c, fun i => .pointer (some ⟨i, 0, none⟩)) := rfl
theorem av_box (x : Opd) : (AOp.box x).ev E = boxO (x.val E) := by simp only [AOp.ev, boxO]; cases x.val E <;> rfl
theorem av_bsl (l n : Nat) (t : List Value) (p : List (Nat × Nat × Opd)) : (AOp.bsl l n t p).ev E = bslO l n t (valsP E p) := by
  simp only [AOp.ev, bslO]; cases valsP E p with
  | none => rfl
  | some q => simp only [Option.bind_some]; cases fillV t q <;> rfl
theorem av_mks (b n : Nat) (z : List Value) (l c : Opd) : (AOp.mks b n z l c).ev E = mksO b n z (l.val E) (c.val E) := by
  simp only [AOp.ev, mksO]; cases l.val E with
  | none => rfl
  | some x => cases c.val E with
    | none => rfl
    | some y => simp only [Option.bind_some, mksV]; cases x <;> cases y <;> rfl
theorem av_gro (b n : Nat) (l c : Opd) : (AOp.gro b n l c).ev E = groO b n (l.val E) (c.val E) := by
  simp only [AOp.ev, groO]; cases l.val E with
  | none => rfl
  | some v => cases c.val E with
    | none => rfl
    | some u =>
      simp only [Option.bind_some, groV]
      cases v with
      | slice a b c => cases a <;> cases u <;> rfl
      | _ => rfl
theorem groO_some (b n : Nat) (l c : Value) : groO b n (some l) (some c) = groV b n l c := rfl
theorem groV_ok {b n l s : Nat} {k : Int} {kk : IntKind} (h : 0 < k ∧ b * k ≤ 70368744177664) : groV b n (.slice none l s) (.int kk k) = some ([], fun i => .slice (some ⟨i, 0, none⟩) k.toNat n) := if_pos h
theorem intsEq_nil : intsEq [] [] = some true := rfl
theorem intsEq_cons (k : IntKind) (a b : Int) (l l' : List Value) : intsEq (.int k a :: l) (.int k b :: l') = (intsEq l l').map fun r => decide (a = b) && r := if_pos rfl
theorem eqiV_agg (ng : Bool) (n : Nat) (a b : List Value) : eqiV ng n (.agg a.toArray) (.agg b.toArray) = if a.length = n then (intsEq a b).map fun r => .bool (if ng then !r else r) else none := by
  simp only [eqiV, List.size_toArray]
theorem capV_nil (l s : Nat) : capV (.slice none l s) = some (.int .i64 0) := rfl
theorem av_csb (x : Opd) : (AOp.csb x).ev E = csbO (x.val E) := by
  simp only [AOp.ev, csbO]; cases x.val E with
  | none => rfl
  | some v => cases v <;> rfl
end
theorem un1_some (f : Value → Option Value) (a : Value) : un1 f (some a) = f a := rfl
theorem un2_some (f : Value → Value → Option Value) (a b : Value) : un2 f (some a) (some b) = f a b := rfl
theorem bin2_some (op : BinOp) (a b : Value) : bin2 op (some a) (some b) = binV op a b := rfl
theorem optV_none (E : Env) : Opd.optV E none = some none := rfl
theorem optV_some (E : Env) (x : Opd) : Opd.optV E (some x) = optO (x.val E) := by simp only [Opd.optV, optO]; cases x.val E <;> rfl
theorem optO_some (v : Value) : optO (some v) = some (some v) := rfl
theorem slc3_some (f : Value → Option Value → Option Value → Option Value) (x : Value) (l u : Option Value) : slc3 f (some x) (some l) (some u) = f x l u := rfl
theorem mkfO_some (f : FuncId) (l : List Value) : mkfO f (some l) = some (.func (.func f) #[] l.toArray) := rfl
theorem mksO_some (b n : Nat) (z : List Value) (l c : Value) : mksO b n z (some l) (some c) = mksV b n z l c := rfl
theorem csbO_some (s : ByteArray) : csbO (some (.string s)) = some (s.data.toList.map fun b => .int .u8 b.toNat, fun i => .slice (some ⟨i, 0, none⟩) s.size 1) := rfl
section
variable (k : IntKind) (a b : Int)
theorem bin_add : binV .add (.int k a) (.int k b) = some (.int k (k.wrap (a + b))) := by simp [binV, intB]
theorem bin_sub : binV .sub (.int k a) (.int k b) = some (.int k (k.wrap (a - b))) := by simp [binV, intB]
theorem bin_mul : binV .mul (.int k a) (.int k b) = some (.int k (k.wrap (a * b))) := by simp [binV, intB]
theorem bin_eql : binV .eql (.int k a) (.int k b) = some (.bool (decide (a = b))) := by simp [binV, intB]
theorem bin_neq : binV .neq (.int k a) (.int k b) = some (.bool (!decide (a = b))) := by simp [binV, intB]
theorem bin_lss : binV .lss (.int k a) (.int k b) = some (.bool (decide (a < b))) := by simp [binV, intB]
theorem bin_leq : binV .leq (.int k a) (.int k b) = some (.bool (decide (a ≤ b))) := by simp [binV, intB]
theorem bin_gtr : binV .gtr (.int k a) (.int k b) = some (.bool (decide (b < a))) := by simp [binV, intB]
theorem bin_geq : binV .geq (.int k a) (.int k b) = some (.bool (decide (b ≤ a))) := by simp [binV, intB]
theorem bin_quo (hb : b ≠ 0) : binV .quo (.int k a) (.int k b) = some (.int k (k.wrap (a.tdiv b))) := by simp [binV, intB, hb]
theorem bin_rem (hb : b ≠ 0) : binV .rem (.int k a) (.int k b) = some (.int k (a.tmod b)) := by simp [binV, intB, hb]
theorem bin_and : binV .and (.int k a) (.int k b) = some (.int k (k.wrap (BitVec.ofInt k.bits a &&& BitVec.ofInt k.bits b).toNat)) := by simp [binV, intB]
theorem bin_xor : binV .xor (.int k a) (.int k b) = some (.int k (k.wrap (BitVec.ofInt k.bits a ^^^ BitVec.ofInt k.bits b).toNat)) := by simp [binV, intB]
theorem bin_or : binV .or (.int k a) (.int k b) = some (.int k (k.wrap (BitVec.ofInt k.bits a ||| BitVec.ofInt k.bits b).toNat)) := by simp [binV, intB]
theorem bin_shr (k' : IntKind) (hb : 0 ≤ b) : binV .shr (.int k a) (.int k' b) = some (.int k (a.fdiv (2 ^ (min b.toNat k.bits)))) := by simp [binV, shB]; omega
theorem bin_shl (k' : IntKind) (hb : 0 ≤ b) : binV .shl (.int k a) (.int k' b) = some (.int k (k.wrap (a * 2 ^ (min b.toNat k.bits)))) := by simp [binV, shB]; omega
end
theorem ivaV_agg (n : Nat) (l : List Value) (k : IntKind) (j : Nat) (hj : j < n) : ivaV n (.agg l.toArray) (.int k (j : Int)) = l[j]? := by
  simp only [ivaV]; rw [if_pos ⟨by omega, by omega⟩]; simp
theorem bin_str (op : BinOp) (a b : ByteArray) : binV op (.string a) (.string b) = strB op a b := rfl
theorem keep_nil (E : Env) : E.keep [] = [] := rfl
theorem keep_cons (E : Env) (s : Nat) (l : List Nat) : E.keep (s :: l) = keepO (E.get s) s (E.keep l) := by simp only [Env.keep, keepO]; cases E.get s <;> rfl
theorem keepO_some (v : Value) (s : Nat) (E : Env) : keepO (some v) s E = (s, v) :: E := rfl
theorem keepO_none (s : Nat) (E : Env) : keepO none s E = E := rfl
theorem retQ_ret (rs : List RV) (R : Value → Heap → Prop) (E : Env) (h : Heap) : retQ rs R .ret E h = retR (RV.evs E h rs) R h := by
  simp only [retQ, retR]; cases RV.evs E h rs <;> simp
theorem retQ_normal (rs : List RV) (R : Value → Heap → Prop) (E : Env) (h : Heap) : retQ rs R .normal E h = retR (RV.evs E h rs) R h := by
  simp only [retQ, retR]; cases RV.evs E h rs <;> simp
theorem retR_some (vs : List Value) (R : Value → Heap → Prop) (h : Heap) : retR (some vs) R h = R (packV vs) h := rfl
theorem packV_one (v : Value) : packV [v] = v := rfl
theorem packV_nil : packV [] = .tuple #[] := rfl
theorem packV_two (v u : Value) (l : List Value) : packV (v :: u :: l) = .tuple (v :: u :: l).toArray := rfl
theorem evs_nil (E : Env) (h : Heap) : RV.evs E h [] = some [] := rfl
theorem evs_cons (E : Env) (h : Heap) (r : RV) (l : List RV) : RV.evs E h (r :: l) = vcons (r.ev E h) (RV.evs E h l) := by simp only [RV.evs, vcons]; cases RV.ev E h r <;> cases RV.evs E h l <;> rfl
theorem rev_t (E : Env) (h : Heap) (s : Nat) : (RV.t s).ev E h = E.get s := rfl
theorem rev_c (E : Env) (h : Heap) (s : Nat) : (RV.c s none).ev E h = un1 (ldV h) (E.get s) := by simp only [RV.ev, un1]; cases E.get s <;> rfl
theorem rev_cn (E : Env) (h : Heap) (s n : Nat) : (RV.c s (some n)).ev E h = un1 (ldnV h n) (E.get s) := by simp only [RV.ev, un1]; cases E.get s <;> rfl
theorem putD_some (d : Nat) (v : Value) (E : Env) : putD (some d) v E = (d, v) :: E := rfl
theorem putD_none (v : Value) (E : Env) : putD none v E = E := rfl
theorem env0_nil (k : Nat) : env0 k [] = [] := rfl
theorem env0_cons (k : Nat) (v : Value) (l : List Value) : env0 k (v :: l) = (k, v) :: env0 (k + 1) l := rfl
theorem notV_bool (b : Bool) : notV (.bool b) = some (.bool (!b)) := rfl
theorem negV_int (k : IntKind) (n : Int) : negV (.int k n) = some (.int k (k.wrap (0 - n))) := rfl
theorem cvfV_int (k : FloatKind) (k' : IntKind) (n : Int) : cvfV k (.int k' n) = some (.float k (k.nearest n)) := rfl
theorem bin_flt (op : BinOp) (k : FloatKind) (a b : Nat) : binV op (.float k a) (.float k b) = fltB op k a b := by simp [binV]
theorem cviV_int (k k' : IntKind) (n : Int) : cviV k (.int k' n) = some (.int k (k.wrap n)) := rfl
theorem faV_ptr (f i o : Nat) : faV f (.pointer (some ⟨i, o, none⟩)) = some (.pointer (some ⟨i, o + f, none⟩)) := rfl
theorem nilV_ptr (a : Addr) : nilV (.pointer (some a)) = some (.pointer (some a)) := rfl
theorem nilV_func (f : FuncId) (x y : Array Value) : nilV (.func (.func f) x y) = some (.func (.func f) x y) := rfl
theorem mxV_int (k k' : IntKind) (a b : Int) : mxV (.int k a) (.int k' b) = some (.int k (if a < b then b else a)) := rfl
theorem mnV_int (k k' : IntKind) (a b : Int) : mnV (.int k a) (.int k' b) = some (.int k (if b < a then b else a)) := rfl
theorem lenV_slice (a : Option Addr) (n c : Nat) : lenV (.slice a n c) = some (.int .i64 n) := rfl
theorem lensV_string (s : ByteArray) : lensV (.string s) = some (.int .i64 s.size) := rfl
theorem extV_tuple (i : Nat) (a : Array Value) : extV i (.tuple a) = a[i]? := rfl
theorem eqbV_bool (n a b : Bool) : eqbV n (.bool a) (.bool b) = some (.bool (if n then !(a == b) else (a == b))) := rfl
theorem iaaV_ptr (l n i o : Nat) (k : IntKind) (j : Int) (h0 : 0 ≤ j) (h1 : j < l) : iaaV l n (.pointer (some ⟨i, o, none⟩)) (.int k j) = some (.pointer (some ⟨i, o + j.toNat * n, none⟩)) := by
  simp only [iaaV]; rw [if_pos ⟨h0, h1⟩]
theorem iaV_slice (n i o len : Nat) (k : IntKind) (j : Int) (h0 : 0 ≤ j) (h1 : j < len) : iaV n (.slice (some ⟨i, o, none⟩) len n) (.int k j) = some (.pointer (some ⟨i, o + j.toNat * n, none⟩)) := by
  simp only [iaV]; rw [if_pos ⟨h0, h1, trivial⟩]

theorem env0_1 (v : Value) : env0 0 [v] = [(0, v)] := rfl
theorem env0_2 (v u : Value) : env0 0 [v, u] = [(0, v), (1, u)] := rfl
theorem env0_3 (v u x : Value) : env0 0 [v, u, x] = [(0, v), (1, u), (2, x)] := rfl
theorem env0_4 (v u x y : Value) : env0 0 [v, u, x, y] = [(0, v), (1, u), (2, x), (3, y)] := rfl
theorem env0_5 (v u x y z : Value) : env0 0 [v, u, x, y, z] = [(0, v), (1, u), (2, x), (3, y), (4, z)] := rfl
theorem bnot_true : (!true) = false := rfl
theorem bnot_false : (!false) = true := rfl

/-- All that the walk needs to step. -/
theorem ah : type_of% (And.intro @Env.get_cons (And.intro @Env.get_nil (And.intro @bnot_true (And.intro @bnot_false (And.intro @bnot_true (And.intro @bnot_false (And.intro @env0_1 (And.intro @env0_2 (And.intro @env0_3 (And.intro @env0_4 (And.intro @env0_5 (And.intro @AOps_nil (And.intro @AOps_cons (And.intro @AOne_q (And.intro @AOne_a (And.intro @AOne_st (And.intro @AOne_app (And.intro @AOne_call (And.intro @AOne_callv (And.intro @AOne_guard (And.intro @stepQ_some (And.intro @stepA_some (And.intro @stepS_some (And.intro @stepP_some (And.intro @stepG_true (And.intro @stepG_false (And.intro @skipD_eq (And.intro @stV2_some (And.intro @appV2_some (And.intro @stepI_true (And.intro @stepI_false (And.intro @guardV_gd (And.intro @gdV_bool (And.intro @gdV_undef (And.intro @DOps_nil (And.intro @DOps_q (And.intro @DOps_a (And.intro @DOps_e (And.intro @DOps_guard (And.intro @stepD_some (And.intro @kD_eq (And.intro @rechk_none (And.intro @SW_skip (And.intro @SW_region (And.intro @SW_dregion (And.intro @SW_seq (And.intro @SW_cond (And.intro @SW_block (And.intro @SW_exit (And.intro @SW_ret (And.intro @kR_eq (And.intro @thenQ_normal (And.intro @thenQ_exit (And.intro @thenQ_ret (And.intro @blockQ_normal (And.intro @blockQ_ret (And.intro @blockQ_exit (And.intro @val_t (And.intro @val_c (And.intro @val_f (And.intro @vals_nil (And.intro @vals_cons (And.intro @vcons_some (And.intro @valsP_nil (And.intro @valsP_cons (And.intro @pcons_some (And.intro @ev_mv (And.intro @ev_pick (And.intro @pickO_true (And.intro @pickO_false (And.intro @pickO_bool (And.intro @ev_build (And.intro @ev_ld (And.intro @ev_ldn (And.intro @ev_nil (And.intro @ev_bin (And.intro @ev_eqb (And.intro @ev_eqs (And.intro @ev_not (And.intro @ev_neg (And.intro @ev_cvi (And.intro @ev_slc (And.intro @ev_sls (And.intro @ev_fa (And.intro @ev_ia (And.intro @ev_iaa (And.intro @ev_ivs (And.intro @ev_ext (And.intro @ev_len (And.intro @ev_lens (And.intro @ev_mx (And.intro @ev_mn (And.intro @ev_mkf (And.intro @av_new (And.intro @av_box (And.intro @av_bsl (And.intro @av_mks (And.intro @av_csb (And.intro @un1_some (And.intro @un2_some (And.intro @bin2_some (And.intro @optV_none (And.intro @optV_some (And.intro @optO_some (And.intro @slc3_some (And.intro @mkfO_some (And.intro @mksO_some (And.intro @csbO_some (And.intro @bin_add (And.intro @bin_sub (And.intro @bin_mul (And.intro @bin_eql (And.intro @bin_neq (And.intro @bin_lss (And.intro @bin_leq (And.intro @bin_gtr (And.intro @bin_geq (And.intro @bin_quo (And.intro @bin_rem (And.intro @bin_and (And.intro @bin_xor (And.intro @bin_or (And.intro @bin_shr (And.intro @bin_shl (And.intro @bin_str (And.intro @keep_nil (And.intro @keep_cons (And.intro @keepO_some (And.intro @keepO_none (And.intro @retQ_ret (And.intro @retQ_normal (And.intro @retR_some (And.intro @packV_one (And.intro @packV_nil (And.intro @packV_two (And.intro @evs_nil (And.intro @evs_cons (And.intro @rev_t (And.intro @rev_c (And.intro @rev_cn (And.intro @putD_some (And.intro @putD_none (And.intro @env0_nil (And.intro @notV_bool (And.intro @negV_int (And.intro @cviV_int (And.intro @faV_ptr (And.intro @nilV_ptr (And.intro @nilV_func (And.intro @mxV_int (And.intro @mnV_int (And.intro @lenV_slice (And.intro @lensV_string (And.intro @eqbV_bool (And.intro @iaaV_ptr (And.intro @iaV_slice (And.intro @ev_cap (And.intro @ev_eqi (And.intro @av_gro (And.intro @groO_some (And.intro @capV_nil (And.intro @intsEq_nil (And.intro @intsEq_cons (@eqiV_agg)))))))))))))))))))))))))))))))))))))))))))))))))))))))))))))))))))))))))))))))))))))))))))))))))))))))))))))))))))))))))))))))))))))))))))))))))))))))))))))))))))) := And.intro @Env.get_cons (And.intro @Env.get_nil (And.intro @bnot_true (And.intro @bnot_false (And.intro @bnot_true (And.intro @bnot_false (And.intro @env0_1 (And.intro @env0_2 (And.intro @env0_3 (And.intro @env0_4 (And.intro @env0_5 (And.intro @AOps_nil (And.intro @AOps_cons (And.intro @AOne_q (And.intro @AOne_a (And.intro @AOne_st (And.intro @AOne_app (And.intro @AOne_call (And.intro @AOne_callv (And.intro @AOne_guard (And.intro @stepQ_some (And.intro @stepA_some (And.intro @stepS_some (And.intro @stepP_some (And.intro @stepG_true (And.intro @stepG_false (And.intro @skipD_eq (And.intro @stV2_some (And.intro @appV2_some (And.intro @stepI_true (And.intro @stepI_false (And.intro @guardV_gd (And.intro @gdV_bool (And.intro @gdV_undef (And.intro @DOps_nil (And.intro @DOps_q (And.intro @DOps_a (And.intro @DOps_e (And.intro @DOps_guard (And.intro @stepD_some (And.intro @kD_eq (And.intro @rechk_none (And.intro @SW_skip (And.intro @SW_region (And.intro @SW_dregion (And.intro @SW_seq (And.intro @SW_cond (And.intro @SW_block (And.intro @SW_exit (And.intro @SW_ret (And.intro @kR_eq (And.intro @thenQ_normal (And.intro @thenQ_exit (And.intro @thenQ_ret (And.intro @blockQ_normal (And.intro @blockQ_ret (And.intro @blockQ_exit (And.intro @val_t (And.intro @val_c (And.intro @val_f (And.intro @vals_nil (And.intro @vals_cons (And.intro @vcons_some (And.intro @valsP_nil (And.intro @valsP_cons (And.intro @pcons_some (And.intro @ev_mv (And.intro @ev_pick (And.intro @pickO_true (And.intro @pickO_false (And.intro @pickO_bool (And.intro @ev_build (And.intro @ev_ld (And.intro @ev_ldn (And.intro @ev_nil (And.intro @ev_bin (And.intro @ev_eqb (And.intro @ev_eqs (And.intro @ev_not (And.intro @ev_neg (And.intro @ev_cvi (And.intro @ev_slc (And.intro @ev_sls (And.intro @ev_fa (And.intro @ev_ia (And.intro @ev_iaa (And.intro @ev_ivs (And.intro @ev_ext (And.intro @ev_len (And.intro @ev_lens (And.intro @ev_mx (And.intro @ev_mn (And.intro @ev_mkf (And.intro @av_new (And.intro @av_box (And.intro @av_bsl (And.intro @av_mks (And.intro @av_csb (And.intro @un1_some (And.intro @un2_some (And.intro @bin2_some (And.intro @optV_none (And.intro @optV_some (And.intro @optO_some (And.intro @slc3_some (And.intro @mkfO_some (And.intro @mksO_some (And.intro @csbO_some (And.intro @bin_add (And.intro @bin_sub (And.intro @bin_mul (And.intro @bin_eql (And.intro @bin_neq (And.intro @bin_lss (And.intro @bin_leq (And.intro @bin_gtr (And.intro @bin_geq (And.intro @bin_quo (And.intro @bin_rem (And.intro @bin_and (And.intro @bin_xor (And.intro @bin_or (And.intro @bin_shr (And.intro @bin_shl (And.intro @bin_str (And.intro @keep_nil (And.intro @keep_cons (And.intro @keepO_some (And.intro @keepO_none (And.intro @retQ_ret (And.intro @retQ_normal (And.intro @retR_some (And.intro @packV_one (And.intro @packV_nil (And.intro @packV_two (And.intro @evs_nil (And.intro @evs_cons (And.intro @rev_t (And.intro @rev_c (And.intro @rev_cn (And.intro @putD_some (And.intro @putD_none (And.intro @env0_nil (And.intro @notV_bool (And.intro @negV_int (And.intro @cviV_int (And.intro @faV_ptr (And.intro @nilV_ptr (And.intro @nilV_func (And.intro @mxV_int (And.intro @mnV_int (And.intro @lenV_slice (And.intro @lensV_string (And.intro @eqbV_bool (And.intro @iaaV_ptr (And.intro @iaV_slice (And.intro @ev_cap (And.intro @ev_eqi (And.intro @av_gro (And.intro @groO_some (And.intro @capV_nil (And.intro @intsEq_nil (And.intro @intsEq_cons (@eqiV_agg)))))))))))))))))))))))))))))))))))))))))))))))))))))))))))))))))))))))))))))))))))))))))))))))))))))))))))))))))))))))))))))))))))))))))))))))))))))))))))))))))))
end Go.Ah
