import Derived.Test.YtdagajblnlemaaaAhS
set_option linter.unusedVariables false
set_option linter.unusedSimpArgs false
namespace Go.Ah
open Go Go.RowKit

theorem i64w {n : Int} (h : -9223372036854775808 ≤ n ∧ n ≤ 9223372036854775807) : IntKind.i64.wrap n = n := IntWalk.i64_in n h
theorem i64e {n m : Int} (e : n = m) (h : -9223372036854775808 ≤ m ∧ m ≤ 9223372036854775807) : IntKind.i64.wrap n = m := by subst e; exact i64w h
theorem bool_dec {b : Bool} {p : Prop} [Decidable p] (h : b = true ↔ p) : Value.bool b = Value.bool (decide p) := by
  congr 1; by_cases hp : p
  · rw [decide_eq_true hp]; exact h.mpr hp
  · rw [decide_eq_false hp]; cases b with
    | false => rfl
    | true => exact absurd (h.mp rfl) hp
/-! ### A heap and some new objects -/
def Heap.more (h : Heap) : List (List Value) → Heap
  | [] => h
  | c :: l => (h.alloc c).more l
section
variable {h h' : Heap}
theorem alloc_more (h : Heap) (c : List Value) : h.alloc c = h.more [c] := rfl
theorem more_nil (h : Heap) : h.more [] = h := rfl
theorem more_more (h : Heap) (a b : List (List Value)) : (h.more a).more b = h.more (a ++ b) := by
  induction a generalizing h with
  | nil => rfl
  | cons c l ih => exact ih (h.alloc c)
theorem size_more (h : Heap) (l : List (List Value)) : (h.more l).size = h.size + l.length := by
  induction l generalizing h with
  | nil => rfl
  | cons c l ih => rw [Heap.more, ih, Heap.size_alloc]; simp; omega
theorem get_more_old (h : Heap) (l : List (List Value)) {i : Nat} (hi : i < h.size) : (h.more l).get i = h.get i := by
  induction l generalizing h with
  | nil => rfl
  | cons c l ih => rw [Heap.more, ih _ (by rw [Heap.size_alloc]; omega), Heap.get_alloc_old h c hi]
theorem get_more (h : Heap) (l : List (List Value)) (k : Nat) : (h.more l).get (h.size + k) = (l[k]?).map fun cs => ⟨cs, h.size + k, true, true⟩ := by
  induction l generalizing h k with
  | nil => simp [Heap.more]; exact Heap.get_none (by omega)
  | cons c l ih =>
    rw [Heap.more]
    cases k with
    | zero => rw [Nat.add_zero, get_more_old _ _ (by rw [Heap.size_alloc]; omega), Heap.get_alloc_new]; rfl
    | succ k =>
      have := ih (h.alloc c) k
      rw [Heap.size_alloc] at this
      rw [show h.size + (k + 1) = h.size + 1 + k by omega, this]; simp
theorem Ext.more (h : Heap) (l : List (List Value)) : Ext h (h.more l) := ⟨by rw [size_more]; omega, fun i hi => get_more_old h l hi⟩
theorem ld_more (h : Heap) (l : List (List Value)) (k o : Nat) : ldV (h.more l) (.pointer (some ⟨h.size + k, o, none⟩)) = (l[k]?).bind (·[o]?) := by
  simp only [ldV, rd, get_more]; cases l[k]? <;> simp
theorem ld_more0 (h : Heap) (l : List (List Value)) (o : Nat) : ldV (h.more l) (.pointer (some ⟨h.size, o, none⟩)) = (l[0]?).bind (·[o]?) := ld_more h l 0 o
def cutL (cs : List Value) (o n : Nat) : Option Value := if o + n ≤ cs.length then some (.agg ((cs.drop o).take n).toArray) else none
theorem ldn_more (h : Heap) (l : List (List Value)) (k o n : Nat) : ldnV (h.more l) n (.pointer (some ⟨h.size + k, o, none⟩)) = (l[k]?).bind fun cs => cutL cs o n := by
  simp only [ldnV, rdn, get_more, cutL]
  cases l[k]? with
  | none => simp
  | some cs => simp; try (split <;> simp)
theorem ldn_more0 (h : Heap) (l : List (List Value)) (o n : Nat) : ldnV (h.more l) n (.pointer (some ⟨h.size, o, none⟩)) = (l[0]?).bind fun cs => cutL cs o n := ldn_more h l 0 o n

theorem Ext.ldk {h' : Heap} {L : List (List Value)} (e : Ext (h.more L) h') (k : Nat) {cs : List Value} (hk : L[k]? = some cs) :
    (∀ o, ldV h' (.pointer (some ⟨h.size + k, o, none⟩)) = cs[o]?) ∧ ∀ o n, ldnV h' n (.pointer (some ⟨h.size + k, o, none⟩)) = cutL cs o n := by
  have hlt : h.size + k < (h.more L).size := by rw [size_more]; have := (List.getElem?_eq_some_iff.mp hk).1; omega
  refine ⟨fun o => ?_, fun o n => ?_⟩
  · have := ld_more h L k o
    rw [hk, Option.bind_some] at this
    rw [← this]; simp only [ldV]; exact e.rd hlt
  · have := ldn_more h L k o n
    rw [hk, Option.bind_some] at this
    rw [← this]; simp only [ldnV]; rw [e.rdn hlt]
theorem Ext.ld0 {h' : Heap} {cs : List Value} {L : List (List Value)} (e : Ext (h.more (cs :: L)) h') :
    (∀ o, ldV h' (.pointer (some ⟨h.size, o, none⟩)) = cs[o]?) ∧ ∀ o n, ldnV h' n (.pointer (some ⟨h.size, o, none⟩)) = cutL cs o n := e.ldk 0 rfl
theorem Heap.eq_of_get {a b : Heap} (h : ∀ i, a.get i = b.get i) : a = b := by
  obtain ⟨x, wx⟩ := a; obtain ⟨y, wy⟩ := b
  have : x = y := List.ext_getElem? h
  subst this; rfl
def putL (h : Heap) (l : List (List Value)) (k n o : Nat) (x : Value) (cs : List Value) : Option Heap :=
  if x.cells.size = n ∧ o + n ≤ cs.length ∧ oneB x.cells.toList = true then some (h.more (l.set k (splice cs o x.cells.toList))) else none
theorem st_more (h : Heap) (l : List (List Value)) (k o n : Nat) (x : Value) :
    stV (h.more l) n (.pointer (some ⟨h.size + k, o, none⟩)) x = (l[k]?).bind (putL h l k n o x) := by
  simp only [stV, get_more]
  cases hk : l[k]? with
  | none => simp
  | some cs =>
    simp only [Option.map_some, Option.bind_some, putL]
    have hlt := (List.getElem?_eq_some_iff.mp hk).1
    by_cases hc : x.cells.size = n ∧ o + n ≤ cs.length ∧ oneB x.cells.toList = true
    · rw [if_pos ⟨trivial, trivial, hc⟩, if_pos hc]
      congr 1
      refine Heap.eq_of_get fun i => ?_
      rw [Heap.get_upd]
      by_cases hi : i < h.size
      · rw [get_more_old _ _ hi, get_more_old _ _ hi]
        obtain ⟨ob, hob⟩ := Heap.get_some hi
        have := Heap.grp_le hob
        rw [hob]; simp [show i ≠ h.size + k by omega, show ob.grp ≠ h.size + k by omega]
      · obtain ⟨j, rfl⟩ : ∃ j, i = h.size + j := ⟨i - h.size, by omega⟩
        rw [get_more, get_more, List.getElem?_set]
        by_cases hj : k = j
        · subst hj; simp [hk, hlt]
        · simp only [hj, if_false]
          cases hq : l[j]? with
          | none => simp
          | some c2 => simp [show ¬ j = k from fun e => hj e.symm]
    · rw [if_neg hc, if_neg (fun q => hc q.2.2)]
theorem st_more0 (h : Heap) (l : List (List Value)) (o n : Nat) (x : Value) :
    stV (h.more l) n (.pointer (some ⟨h.size, o, none⟩)) x = (l[0]?).bind (putL h l 0 n o x) := st_more h l 0 o n x
theorem cells_int (k : IntKind) (n : Int) : (Value.int k n).cells = #[.int k n] := rfl
theorem cells_bool (b : Bool) : (Value.bool b).cells = #[.bool b] := rfl
theorem cells_agg (a : Array Value) : (Value.agg a).cells = a := rfl
theorem cells_slice (a : Option Addr) (n c : Nat) : (Value.slice a n c).cells = #[.slice a n c] := rfl
theorem cells_func (a : Fn) (n c : Array Value) : (Value.func a n c).cells = #[.func a n c] := rfl
theorem cells_string (s : ByteArray) : (Value.string s).cells = #[.string s] := rfl
theorem cells_pointer (a : Option Addr) : (Value.pointer a).cells = #[.pointer a] := rfl
theorem oneB_nil : oneB [] = true := rfl
theorem oneB_int (k : IntKind) (n : Int) (l : List Value) : oneB (.int k n :: l) = oneB l := rfl
theorem oneB_bool (b : Bool) (l : List Value) : oneB (.bool b :: l) = oneB l := rfl
theorem oneB_string (b : ByteArray) (l : List Value) : oneB (.string b :: l) = oneB l := rfl
theorem oneB_slice (a : Option Addr) (n c : Nat) (l : List Value) : oneB (.slice a n c :: l) = oneB l := rfl
theorem oneB_pointer (a : Option Addr) (l : List Value) : oneB (.pointer a :: l) = oneB l := rfl
theorem oneB_func (a : Fn) (n c : Array Value) (l : List Value) : oneB (.func a n c :: l) = oneB l := rfl
theorem toList_mk (l : List Value) : l.toArray.toList = l := rfl
theorem size_mk (l : List Value) : l.toArray.size = l.length := rfl
theorem splice_def (c : List Value) (o : Nat) (v : List Value) : splice c o v = c.take o ++ v ++ c.drop (o + v.length) := rfl
theorem if_t {α : Type} {p : Prop} [Decidable p] (h : p) (a b : α) : (if p then a else b) = a := if_pos h
/-- A slice's rules, indices as natural numbers. -/
theorem SlT.rulesN {α : Type} {enc : α → List Value} {sz : Nat} {h : Heap} {v : Value} {l : List α} (s : SlT h enc sz v l) : lenV v = some (.int .i64 l.length) ∧
    (∀ (k : IntKind) (j : Nat), j < l.length → iaV sz v (.int k (j : Int)) = some (ptrAt v (j * sz))) ∧ (∀ f o, 0 < l.length → faV f (ptrAt v o) = some (ptrAt v (o + f))) ∧
    (∀ j f (hj : j < l.length), f < sz → ldV h (ptrAt v (j * sz + f)) = (enc l[j])[f]?) ∧ (∀ j (hj : j < l.length), ldV h (ptrAt v (j * sz)) = (enc l[j])[0]?) ∧
    (∀ j (hj : j < l.length), ldnV h sz (ptrAt v (j * sz)) = some (.agg (enc l[j]).toArray)) := by
  obtain ⟨r1, r2, r3, r4, r5, r6⟩ := s.rules
  exact ⟨r1, fun k j hj => by rw [r2 k j (by omega) (by omega), Int.toNat_natCast], r3, r4, r5, r6⟩
end
/-- A slice of our own. -/
structure OwnT {α : Type} (g : Nat) (h : Heap) (enc : α → List Value) (sz : Nat) (v : Value) (l : List α) : Prop where
  own : Own g h sz v (l.flatMap enc)
  hs : ∀ x, (enc x).length = sz
  pos : 0 < sz
section
variable {α : Type} {enc : α → List Value} {sz g : Nat} {h h' : Heap} {v : Value} {l : List α}
theorem OwnT.slt (o : OwnT g h enc sz v l) : SlT h enc sz v l := ⟨o.own.sl, o.hs, o.pos⟩
theorem OwnT.ext (o : OwnT g h enc sz v l) (e : Ext h h') : OwnT g h' enc sz v l := ⟨o.own.ext e, o.hs, o.pos⟩
theorem OwnT.extG {g' : Nat} (o : OwnT g h enc sz v l) (e : ExtG g' h h') (hg : g ≠ g') : OwnT g h' enc sz v l := ⟨o.own.extG e hg, o.hs, o.pos⟩
theorem SlT.extG {g' : Nat} (s : SlT h enc sz v l) (e : ExtG g' h h') (hg : h.size ≤ g') : SlT h' enc sz v l := ⟨s.sl.extG e hg, s.hs, s.pos⟩
theorem OwnT.setF (o : OwnT g h enc sz v l) {j f n : Nat} (hj : j < l.length) {x : α} {y : Value} (hx : splice (enc l[j]) f y.cells.toList = enc x) (hn : 0 < n) (hy : y.cells.size = n) (hf : f + n ≤ sz) (h1 : oneB y.cells.toList = true) :
    ∃ h', stV h n (ptrAt v (j * sz + f)) y = some h' ∧ OwnT g h' enc sz v (l.set j x) ∧ ExtG g h h' ∧ h'.size = h.size := by
  have hmul : j * sz + sz ≤ l.length * sz := by rw [← Nat.succ_mul]; exact Nat.mul_le_mul_right _ hj
  obtain ⟨h', e, O, G, S⟩ := o.own.st (p := j * sz + f) (n := n) (x := y) (by rw [flat_len o.hs]; omega) hn hy h1
  refine ⟨h', e, ⟨?_, o.hs, o.pos⟩, G, S⟩
  rw [flat_set o.hs l j f x _ hj hx (by simp [hy]; exact hf)] at O
  exact O
theorem OwnT.set (o : OwnT g h enc sz v l) {j : Nat} (hj : j < l.length) (x : α) (h1 : oneB (enc x) = true) :
    ∃ h', stV h sz (ptrAt v (j * sz)) (.agg (enc x).toArray) = some h' ∧ OwnT g h' enc sz v (l.set j x) ∧ ExtG g h h' ∧ h'.size = h.size := by
  refine o.setF (f := 0) hj (x := x) (y := .agg (enc x).toArray) ?_ o.pos (by simp [cells_agg, o.hs]) (by omega) h1
  simp only [splice, cells_agg, List.take_zero, List.nil_append, Nat.zero_add, o.hs]
  rw [List.drop_eq_nil_of_le (by simp [o.hs]), List.append_nil]
theorem OwnT.app (o : OwnT g h enc sz v l) {y : Value} {l' : List α} (s : SlT h enc sz y l') {bytes : Nat} (hr : (l.length + l'.length) * bytes ≤ 70368744177664) :
    ∃ v' h' g', appV h bytes sz v y = some (v', h') ∧ OwnT g' h' enc sz v' (l ++ l') ∧ ExtG g h h' ∧ (g' = g ∨ g' = h.size) := by
  obtain ⟨v', h', g', e, O, G, hg, _⟩ := o.own.app (y := y) (bytes := bytes) (srcW_of s.sl.src) (by rw [flat_len s.hs, s.slLen]) (by rw [o.slt.slLen, s.slLen]; exact hr)
  exact ⟨v', h', g', e, ⟨by rw [List.flatMap_append]; exact O, o.hs, o.pos⟩, G, hg⟩
theorem OwnT.nil (g : Nat) (h : Heap) (hs : ∀ x, (enc x).length = sz) (pos : 0 < sz) : OwnT g h enc sz (.slice none 0 0) ([] : List α) := ⟨Own.nil g h sz, hs, pos⟩
theorem SlT.nil (h : Heap) (hs : ∀ x, (enc x).length = sz) (pos : 0 < sz) : SlT h enc sz (.slice none 0 0) ([] : List α) := ⟨Sl.nil h sz, hs, pos⟩
theorem OwnT.new (h : Heap) (l : List α) (hs : ∀ x, (enc x).length = sz) (pos : 0 < sz) : OwnT h.size (h.more [l.flatMap enc]) enc sz (.slice (some ⟨h.size, 0, none⟩) l.length sz) l :=
  ⟨Own.new h sz l.length _ (flat_len hs l), hs, pos⟩
theorem OwnT.new0 (h : Heap) (hs : ∀ x, (enc x).length = sz) (pos : 0 < sz) : OwnT h.size (h.more [[]]) enc sz (.slice (some ⟨h.size, 0, none⟩) 0 sz) ([] : List α) := OwnT.new h [] hs pos
theorem flat_rep (x : α) (n : Nat) : (List.replicate n (enc x)).flatten = (List.replicate n x).flatMap enc := by
  induction n with
  | zero => rfl
  | succ n ih => simp only [List.replicate_succ, List.flatten_cons, List.flatMap_cons, ih]
/-- A new slice of our own, and nothing else that changed. -/
def Fresh (h h' : Heap) (enc : α → List Value) (sz : Nat) (v : Value) (l : List α) : Prop := Ext h h' ∧ ∃ g, h.size ≤ g ∧ OwnT g h' enc sz v l
theorem Fresh.slt (f : Fresh h h' enc sz v l) : SlT h' enc sz v l := by obtain ⟨_, g, _, o⟩ := f; exact o.slt
theorem Fresh.ext {h2 : Heap} (f : Fresh h h' enc sz v l) (e : Ext h' h2) : Fresh h h2 enc sz v l := by obtain ⟨e0, g, hg, o⟩ := f; exact ⟨e0.trans e, g, hg, o.ext e⟩
theorem Fresh.mono {h0 : Heap} (f : Fresh h h' enc sz v l) (e : Ext h0 h) : Fresh h0 h' enc sz v l := by obtain ⟨e0, g, hg, o⟩ := f; exact ⟨e.trans e0, g, Nat.le_trans e.1 hg, o⟩
theorem Fresh.setF (o : Fresh h h' enc sz v l) {j f n : Nat} (hj : j < l.length) {x : α} {y : Value} (hx : splice (enc l[j]) f y.cells.toList = enc x) (hn : 0 < n) (hy : y.cells.size = n) (hf : f + n ≤ sz) (h1 : oneB y.cells.toList = true) :
    ∃ h2, stV h' n (ptrAt v (j * sz + f)) y = some h2 ∧ Fresh h h2 enc sz v (l.set j x) ∧ h2.size = h'.size := by
  obtain ⟨e0, g, hg, o⟩ := o
  obtain ⟨h2, e, O, G, S⟩ := o.setF hj hx hn hy hf h1
  exact ⟨h2, e, ⟨G.ext e0 hg, g, hg, O⟩, S⟩
theorem Fresh.set (o : Fresh h h' enc sz v l) {j : Nat} (hj : j < l.length) (x : α) (h1 : oneB (enc x) = true) :
    ∃ h2, stV h' sz (ptrAt v (j * sz)) (.agg (enc x).toArray) = some h2 ∧ Fresh h h2 enc sz v (l.set j x) ∧ h2.size = h'.size := by
  obtain ⟨e0, g, hg, o⟩ := o
  obtain ⟨h2, e, O, G, S⟩ := o.set hj x h1
  exact ⟨h2, e, ⟨G.ext e0 hg, g, hg, O⟩, S⟩
theorem Fresh.app (o : Fresh h h' enc sz v l) {y : Value} {l' : List α} (s : SlT h' enc sz y l') {bytes : Nat} (hr : (l.length + l'.length) * bytes ≤ 70368744177664) :
    ∃ v' h2, appV h' bytes sz v y = some (v', h2) ∧ Fresh h h2 enc sz v' (l ++ l') := by
  obtain ⟨e0, g, hg, o⟩ := o
  obtain ⟨v', h2, g', e, O, G, hg'⟩ := o.app s hr
  exact ⟨v', h2, e, G.ext e0 hg, g', by have := e0.1; omega, O⟩
theorem Fresh.app1 (o : Fresh h h' enc sz v l) (x : α) {bytes : Nat} (hr : (l.length + 1) * bytes ≤ 70368744177664) :
    ∃ v' h2, appV (h'.more [enc x]) bytes sz v (.slice (some ⟨h'.size, 0, none⟩) 1 sz) = some (v', h2) ∧ Fresh h h2 enc sz v' (l ++ [x]) := by
  have hs : ∀ x, (enc x).length = sz := by obtain ⟨_, _, _, o⟩ := o; exact o.hs
  have pos : 0 < sz := by obtain ⟨_, _, _, o⟩ := o; exact o.pos
  have s := (OwnT.new h' [x] hs pos).slt
  simp only [List.flatMap_cons, List.flatMap_nil, List.append_nil, List.length_cons, List.length_nil, Nat.zero_add] at s
  exact (o.ext (Ext.more h' [enc x])).app s hr
theorem Fresh.new (h : Heap) (l : List α) (hs : ∀ x, (enc x).length = sz) (pos : 0 < sz) : Fresh h (h.more [l.flatMap enc]) enc sz (.slice (some ⟨h.size, 0, none⟩) l.length sz) l :=
  ⟨Ext.more _ _, h.size, Nat.le_refl _, OwnT.new h l hs pos⟩
theorem Fresh.new0 (h : Heap) (hs : ∀ x, (enc x).length = sz) (pos : 0 < sz) : Fresh h (h.more [[]]) enc sz (.slice (some ⟨h.size, 0, none⟩) 0 sz) ([] : List α) := Fresh.new h [] hs pos
theorem Fresh.nil (h : Heap) (hs : ∀ x, (enc x).length = sz) (pos : 0 < sz) : Fresh h h enc sz (.slice none 0 0) ([] : List α) := ⟨.refl h, h.size, Nat.le_refl _, OwnT.nil _ h hs pos⟩
theorem Fresh.newR (h : Heap) (n : Nat) (x : α) (hs : ∀ x, (enc x).length = sz) (pos : 0 < sz) : Fresh h (h.more [(List.replicate n (enc x)).flatten]) enc sz (.slice (some ⟨h.size, 0, none⟩) n sz) (List.replicate n x) := by
  have := Fresh.new h (List.replicate n x) hs pos
  rw [List.length_replicate, ← flat_rep] at this; exact this
theorem SlT.eqs (s : SlT h enc sz v l) : ∃ b, eqsV false v (.slice none 0 0) = some (.bool b) ∧ (b = true → l = []) := by
  rcases s.sl with ⟨rfl, h2⟩ | ⟨rfl, h2⟩ | ⟨i, o, n, ob, rfl, _⟩
  rotate_left
  · exact ⟨false, rfl, fun h => by cases h⟩
  rotate_left
  · refine ⟨true, rfl, fun _ => ?_⟩
    have := flat_len s.hs l
    rw [h2] at this
    rcases Nat.mul_eq_zero.mp this.symm with h3 | h3
    · exact List.eq_nil_of_length_eq_zero h3
    · have := s.pos; omega
  · exact ⟨false, rfl, fun h => by cases h⟩
theorem mksV_nat {b n : Nat} {z : List Value} {c : Nat} {k k' : IntKind} (hb : (b : Int) * c ≤ 281474976710656) : mksV b n z (.int k (c : Int)) (.int k' (c : Int)) =
    some ((List.replicate c z).flatten, fun i => .slice (some ⟨i, 0, none⟩) c n) := by
  simp only [mksV]; rw [if_pos ⟨by omega, Int.le_refl _, hb⟩]; simp
end
section
variable {P : Program} {K : Env → Heap → Prop} {E : Env} {h : Heap}
theorem stepI_not {A B : Env → Heap → Prop} {b : Bool} : stepI (some (.bool (!b))) A B E h = stepI (some (.bool b)) B A E h := by
  cases b <;> simp [stepI]
theorem stepI_dec {A B : Env → Heap → Prop} {p : Prop} [Decidable p] : stepI (some (.bool (decide p))) A B E h = if p then A E h else B E h := by
  by_cases hp : p <;> simp [stepI, hp]
theorem stepI_if {A B : Env → Heap → Prop} {b : Bool} : stepI (some (.bool b)) A B E h = if b = true then A E h else B E h := by
  cases b <;> simp [stepI]
theorem stepG_not {A B : Env → Heap → Prop} {b : Bool} : stepG (some (!b)) A B E h = stepG (some b) B A E h := by cases b <;> rfl
theorem stepG.split {p : Prop} [Decidable p] {A B : Env → Heap → Prop} (ht : p → A E h) (hf : ¬ p → B E h) : stepG (some (decide p)) A B E h :=
  stepG.splitB (fun e => ht (of_decide_eq_true e)) (fun e => hf (of_decide_eq_false e))
theorem stepG.cases {p : Prop} [Decidable p] {A B : Env → Heap → Prop} (ht : p → decide p = true → A E h) (hf : ¬ p → decide p = false → B E h) : stepG (some (decide p)) A B E h :=
  stepG.splitB (fun e => ht (of_decide_eq_true e) e) (fun e => hf (of_decide_eq_false e) e)
theorem stepI.cases {p : Prop} [Decidable p] {A B : Env → Heap → Prop} (ht : p → decide p = true → A E h) (hf : ¬ p → decide p = false → B E h) : stepI (some (.bool (decide p))) A B E h :=
  ⟨_, rfl, fun e => ht (of_decide_eq_true e) e, fun e => hf (of_decide_eq_false e) e⟩
theorem ext_0 (a : Value) (l : List Value) : extV 0 (.tuple (a :: l).toArray) = some a := rfl
theorem ext_1 (a b : Value) (l : List Value) : extV 1 (.tuple (a :: b :: l).toArray) = some b := rfl
theorem ext_2 (a b c : Value) (l : List Value) : extV 2 (.tuple (a :: b :: c :: l).toArray) = some c := rfl
theorem slc_nil (sz : Nat) (k : IntKind) : slcV sz (.slice none 0 0) none (some (.int k 0)) = some (.slice none 0 0) := rfl
theorem slc_to0 (i o n sz : Nat) (k : IntKind) : slcV sz (.slice (some ⟨i, o, none⟩) n sz) none (some (.int k 0)) = some (.slice (some ⟨i, o, none⟩) 0 sz) := by
  simp [slcV, bndV, Addr.add]
def encV (v : Value) : List Value := [v]
theorem encV_len (v : Value) : (encV v).length = 1 := rfl
theorem beq_t (b : Bool) : (b == true) = b := by cases b <;> rfl
theorem beq_f (b : Bool) : (b == false) = !b := by cases b <;> rfl
theorem stepG_if {A B : Env → Heap → Prop} {b : Bool} : stepG (some b) A B E h = if b then A E h else B E h := by cases b <;> rfl
end
/-- The rules that every walk uses, as one. -/
theorem am : type_of% (And.intro @alloc_more (And.intro @more_more (And.intro @size_more (And.intro @ld_more (And.intro @ld_more0 (And.intro @ldn_more (And.intro @ldn_more0 (And.intro @st_more (And.intro @st_more0 (And.intro @cells_int (And.intro @cells_bool (And.intro @cells_agg (And.intro @cells_slice (And.intro @cells_func (And.intro @cells_string (And.intro @cells_pointer (And.intro @oneB_nil (And.intro @oneB_int (And.intro @oneB_bool (And.intro @oneB_string (And.intro @oneB_slice (And.intro @oneB_pointer (And.intro @oneB_func (And.intro @toList_mk (And.intro @size_mk (And.intro @splice_def (And.intro @List.getElem?_cons_zero.{0} (And.intro @List.getElem?_cons_succ.{0} (And.intro @List.cons_append.{0} (And.intro @List.nil_append.{0} (And.intro @List.append_nil.{0} (And.intro @List.take_succ_cons.{0} (And.intro @List.take_zero.{0} (And.intro @List.drop_succ_cons.{0} (And.intro @List.drop_zero.{0} (And.intro @List.length_cons.{0} (And.intro @List.length_nil.{0} (And.intro @List.set_cons_zero.{0} (And.intro @List.set_cons_succ.{0} (And.intro @Option.bind_some.{0,0} (And.intro @Nat.add_zero (And.intro @Nat.add_assoc (And.intro @Nat.zero_add (And.intro @Int.toNat_natCast (And.intro @rechk_none (And.intro @Bool.false_eq_true (And.intro @beq_t (And.intro @beq_f (And.intro @stepG_not (And.intro @Bool.not_true (And.intro @Bool.not_false (And.intro @decide_true (And.intro @decide_false (And.intro @not_false_eq_true (And.intro @not_true_eq_false (And.intro @Bool.not_not (And.intro @ext_0 (And.intro @ext_1 (And.intro @ext_2 (And.intro @rechk_cons (And.intro @rechk_end (And.intro @chkV_some (And.intro @chkV_false (And.intro @List.contains_cons.{0} (And.intro @List.contains_nil.{0} (And.intro @Bool.or_false (And.intro @Bool.false_or (And.intro @Bool.or_true (And.intro @Bool.true_or (@stepI_not)))))))))))))))))))))))))))))))))))))))))))))))))))))))))))))))))))))) := And.intro @alloc_more (And.intro @more_more (And.intro @size_more (And.intro @ld_more (And.intro @ld_more0 (And.intro @ldn_more (And.intro @ldn_more0 (And.intro @st_more (And.intro @st_more0 (And.intro @cells_int (And.intro @cells_bool (And.intro @cells_agg (And.intro @cells_slice (And.intro @cells_func (And.intro @cells_string (And.intro @cells_pointer (And.intro @oneB_nil (And.intro @oneB_int (And.intro @oneB_bool (And.intro @oneB_string (And.intro @oneB_slice (And.intro @oneB_pointer (And.intro @oneB_func (And.intro @toList_mk (And.intro @size_mk (And.intro @splice_def (And.intro @List.getElem?_cons_zero.{0} (And.intro @List.getElem?_cons_succ.{0} (And.intro @List.cons_append.{0} (And.intro @List.nil_append.{0} (And.intro @List.append_nil.{0} (And.intro @List.take_succ_cons.{0} (And.intro @List.take_zero.{0} (And.intro @List.drop_succ_cons.{0} (And.intro @List.drop_zero.{0} (And.intro @List.length_cons.{0} (And.intro @List.length_nil.{0} (And.intro @List.set_cons_zero.{0} (And.intro @List.set_cons_succ.{0} (And.intro @Option.bind_some.{0,0} (And.intro @Nat.add_zero (And.intro @Nat.add_assoc (And.intro @Nat.zero_add (And.intro @Int.toNat_natCast (And.intro @rechk_none (And.intro @Bool.false_eq_true (And.intro @beq_t (And.intro @beq_f (And.intro @stepG_not (And.intro @Bool.not_true (And.intro @Bool.not_false (And.intro @decide_true (And.intro @decide_false (And.intro @not_false_eq_true (And.intro @not_true_eq_false (And.intro @Bool.not_not (And.intro @ext_0 (And.intro @ext_1 (And.intro @ext_2 (And.intro @rechk_cons (And.intro @rechk_end (And.intro @chkV_some (And.intro @chkV_false (And.intro @List.contains_cons.{0} (And.intro @List.contains_nil.{0} (And.intro @Bool.or_false (And.intro @Bool.false_or (And.intro @Bool.or_true (And.intro @Bool.true_or (@stepI_not)))))))))))))))))))))))))))))))))))))))))))))))))))))))))))))))))))))
end Go.Ah
