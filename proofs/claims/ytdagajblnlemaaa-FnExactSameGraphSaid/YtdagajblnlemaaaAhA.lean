import Derived.Below
import Derived.Calls
import Derived.Laws.Sem
import Derived.Laws.World
import Derived.Laws.BytesString
import Derived.KernelRfl
set_option linter.unusedVariables false
namespace Go.Ah
open Go Go.RowKit

/-! ### The quiet heap: objects with names of their own -/
structure Obj where
  cells : List Value
  grp : Nat
  rw : Bool
  live : Bool
  deriving Inhabited

/-- Objects; the group of each is a number of an object no later than it. -/
structure Heap where
  objs : List Obj
  wf : ∀ i (o : Obj), objs[i]? = some o → o.grp ≤ i

def Heap.get (h : Heap) (i : Nat) : Option Obj := h.objs[i]?
def Heap.size (h : Heap) : Nat := h.objs.length
theorem Heap.get_lt {h : Heap} {i : Nat} {o : Obj} (e : h.get i = some o) : i < h.size := by
  obtain ⟨hlt, _⟩ := List.getElem?_eq_some_iff.mp e; exact hlt
theorem Heap.get_none {h : Heap} {i : Nat} (hi : h.size ≤ i) : h.get i = none := List.getElem?_eq_none hi
theorem Heap.grp_le {h : Heap} {i : Nat} {o : Obj} (e : h.get i = some o) : o.grp ≤ i := h.wf i o e
theorem Heap.get_some {h : Heap} {i : Nat} (hi : i < h.size) : ∃ o, h.get i = some o := ⟨h.objs[i], List.getElem?_eq_getElem hi⟩

/-- A new object, alone in its group. -/
def Heap.alloc (h : Heap) (cells : List Value) : Heap where
  objs := h.objs ++ [⟨cells, h.objs.length, true, true⟩]
  wf := by
    intro i o e
    rw [List.getElem?_append] at e
    split at e
    · exact h.wf i o e
    · rename_i hi
      cases hq : i - h.objs.length with
      | zero => rw [hq] at e; simp at e; subst e; simp; omega
      | succ n => rw [hq] at e; simp at e
theorem Heap.size_alloc (h : Heap) (cs : List Value) : (h.alloc cs).size = h.size + 1 := by simp [Heap.alloc, Heap.size]
theorem Heap.get_alloc_new (h : Heap) (cs : List Value) : (h.alloc cs).get h.size = some ⟨cs, h.size, true, true⟩ := by
  simp [Heap.alloc, Heap.size, Heap.get]
theorem Heap.get_alloc_old (h : Heap) (cs : List Value) {i : Nat} (hi : i < h.size) : (h.alloc cs).get i = h.get i := by
  simp only [Heap.alloc, Heap.get]; exact List.getElem?_append_left hi

/-- Which objects an act on object i of group g lets die: those of the group that 'p' holds of. -/
def Heap.kill (h : Heap) (g : Nat) (p : Nat → Bool) : Heap where
  objs := h.objs.mapIdx fun k o => if o.grp = g ∧ p k = true then { o with live := false } else o
  wf := by
    intro i o e
    rw [List.getElem?_mapIdx] at e
    cases hq : h.objs[i]? with
    | none => rw [hq] at e; simp at e
    | some x =>
      rw [hq] at e; simp at e
      have := h.wf i x hq
      subst e
      split <;> simpa using this
theorem Heap.size_kill (h : Heap) (g : Nat) (p : Nat → Bool) : (h.kill g p).size = h.size := by simp [Heap.kill, Heap.size]
theorem Heap.get_kill (h : Heap) (g : Nat) (p : Nat → Bool) (i : Nat) :
    (h.kill g p).get i = (h.get i).map fun o => if o.grp = g ∧ p i = true then { o with live := false } else o := by
  simp only [Heap.kill, Heap.get, List.getElem?_mapIdx]

/-- The cells of an object, written anew. -/
def Heap.put (h : Heap) (i : Nat) (cells : List Value) : Heap where
  objs := h.objs.mapIdx fun k o => if k = i then { o with cells := cells } else o
  wf := by
    intro k o e
    rw [List.getElem?_mapIdx] at e
    cases hq : h.objs[k]? with
    | none => rw [hq] at e; simp at e
    | some x =>
      rw [hq] at e; simp at e
      have := h.wf k x hq
      subst e
      split <;> simpa using this
theorem Heap.size_put (h : Heap) (i : Nat) (cs : List Value) : (h.put i cs).size = h.size := by simp [Heap.put, Heap.size]
theorem Heap.get_put (h : Heap) (i : Nat) (cs : List Value) (k : Nat) :
    (h.put i cs).get k = (h.get k).map fun o => if k = i then { o with cells := cs } else o := by
  simp only [Heap.put, Heap.get, List.getElem?_mapIdx]

/-- A store into object i: the others of its group die. -/
def Heap.upd (h : Heap) (i g : Nat) (cells : List Value) : Heap := (h.kill g fun k => k != i).put i cells
/-- An append to a piece of object i: the younger ones of the group die ('full': the piece ends where the object ends), and a new one of the group is there. -/
def Heap.app (h : Heap) (i g : Nat) (full : Bool) (cells : List Value) (hg : g ≤ i ∧ i < h.size) : Heap where
  objs := (h.kill g fun k => decide (i < k) || !full).objs ++ [⟨cells, g, true, true⟩]
  wf := by
    intro k o e
    rw [List.getElem?_append] at e
    split at e
    · exact (h.kill g _).wf k o e
    · rename_i hk
      have hl : (h.kill g fun k => decide (i < k) || !full).objs.length = h.size := Heap.size_kill _ _ _
      cases hq : k - (h.kill g fun k => decide (i < k) || !full).objs.length with
      | zero => rw [hq] at e; simp at e; subst e; simp; omega
      | succ n => rw [hq] at e; simp at e

/-! ### Values: the quiet one and the machine's -/
abbrev Map := Nat → Option (Nat × Nat × Nat)

def isNaN (k : FloatKind) (b : Nat) : Prop := k.format.order b b = none

inductive VR (m : Map) : Value → Value → Prop
  | bool b : VR m (.bool b) (.bool b)
  | int k n : VR m (.int k n) (.int k n)
  | float k b b' : (b = b' ∨ (isNaN k b ∧ isNaN k b')) → VR m (.float k b) (.float k b')
  | string s : VR m (.string s) (.string s)
  | pnone : VR m (.pointer none) (.pointer none)
  | ptr i o b base S : m i = some (b, base, S) → VR m (.pointer (some ⟨i, o, none⟩)) (.pointer (some ⟨b, base + o, none⟩))
  | snone : VR m (.slice none 0 0) (.slice none 0 0)
  | slice i o len sz b base S a' cap : m i = some (b, base, S) → len ≤ cap → (cap = 0 ∨ (a' = base + o ∧ base + o + cap * sz ≤ S)) →
      VR m (.slice (some ⟨i, o, none⟩) len sz) (.slice (some ⟨b, a', none⟩) len cap)
  | sempty sz (x : Addr) : VR m (.slice (some ⟨0, 0, some 0⟩) 0 sz) (.slice (some x) 0 0)
  | func fn (f f' c c' : Array Value) : f.size = f'.size → c.size = c'.size → (∀ i (h : i < f.size) (h' : i < f'.size), VR m f[i] f'[i]) →
      (∀ i (h : i < c.size) (h' : i < c'.size), VR m c[i] c'[i]) → VR m (.func fn f c) (.func fn f' c')
  | nilFunc : VR m .nilFunc .nilFunc
  | nilIface : VR m .nilIface .nilIface
  | iface t v v' : VR m v v' → VR m (.iface t v) (.iface t v')
  | agg (a a' : Array Value) : a.size = a'.size → (∀ i (h : i < a.size) (h' : i < a'.size), VR m a[i] a'[i]) → VR m (.agg a) (.agg a')
  | tuple (a a' : Array Value) : a.size = a'.size → (∀ i (h : i < a.size) (h' : i < a'.size), VR m a[i] a'[i]) → VR m (.tuple a) (.tuple a')

def Map.le (m m' : Map) : Prop := ∀ i x, m i = some x → m' i = some x
theorem Map.le.refl (m : Map) : m.le m := fun _ _ h => h
theorem Map.le.trans {a b c : Map} (h : a.le b) (k : b.le c) : a.le c := fun i x e => k i x (h i x e)

theorem VR.mono {m m' : Map} (hm : m.le m') {v v' : Value} (h : VR m v v') : VR m' v v' := by
  induction h with
  | bool b => exact .bool b
  | int k n => exact .int k n
  | float k b b' h => exact .float k b b' h
  | string s => exact .string s
  | pnone => exact .pnone
  | ptr i o b base S h => exact .ptr i o b base S (hm _ _ h)
  | snone => exact .snone
  | slice i o len sz b base S a' cap h h1 h2 => exact .slice i o len sz b base S a' cap (hm _ _ h) h1 h2
  | sempty sz x => exact .sempty sz x
  | func fn f f' c c' h1 h2 _ _ ih1 ih2 => exact .func fn f f' c c' h1 h2 ih1 ih2
  | nilFunc => exact .nilFunc
  | nilIface => exact .nilIface
  | iface t v v' _ ih => exact .iface t v v' ih
  | agg a a' h _ ih => exact .agg a a' h ih
  | tuple a a' h _ ih => exact .tuple a a' h ih

/-- Lists of values, one by one. -/
def VRs (m : Map) (l l' : List Value) : Prop := l.length = l'.length ∧ ∀ (i : Nat) (v : Value), l[i]? = some v → ∃ v', l'[i]? = some v' ∧ VR m v v'
theorem VRs.nil (m : Map) : VRs m [] [] := ⟨rfl, fun i v h => by simp at h⟩
theorem VRs.cons {m : Map} {v v' : Value} {l l' : List Value} (h : VR m v v') (t : VRs m l l') : VRs m (v :: l) (v' :: l') := by
  refine ⟨by simp [t.1], fun i x e => ?_⟩
  cases i with
  | zero => simp at e; subst e; exact ⟨v', by simp, h⟩
  | succ i => simp at e; obtain ⟨y, hy, hr⟩ := t.2 i x e; exact ⟨y, by simpa using hy, hr⟩
theorem VRs.mono {m m' : Map} (hm : m.le m') {l l' : List Value} (h : VRs m l l') : VRs m' l l' :=
  ⟨h.1, fun i v e => let ⟨v', e', r⟩ := h.2 i v e; ⟨v', e', r.mono hm⟩⟩
theorem VRs.of_cons {m : Map} {v : Value} {l l' : List Value} (h : VRs m (v :: l) l') : ∃ v' t, l' = v' :: t ∧ VR m v v' ∧ VRs m l t := by
  cases l' with
  | nil => simp [VRs] at h
  | cons v' t =>
    refine ⟨v', t, rfl, ?_, by simpa using h.1, fun i x e => ?_⟩
    · obtain ⟨y, hy, hr⟩ := h.2 0 v (by simp); simp at hy; subst hy; exact hr
    · obtain ⟨y, hy, hr⟩ := h.2 (i + 1) x (by simpa using e); exact ⟨y, by simpa using hy, hr⟩
theorem VRs.of_nil {m : Map} {l' : List Value} (h : VRs m [] l') : l' = [] := by
  have := h.1; simp at this; exact List.eq_nil_of_length_eq_zero this.symm
theorem VRs.append {m : Map} {a a' b b' : List Value} (h : VRs m a a') (k : VRs m b b') : VRs m (a ++ b) (a' ++ b') := by
  refine ⟨by simp [h.1, k.1], fun i v e => ?_⟩
  rw [List.getElem?_append] at e ⊢
  rw [h.1] at e
  split at e
  · rename_i hi; rw [if_pos hi]; exact h.2 i v e
  · rename_i hi; rw [if_neg hi]; exact k.2 _ v e
theorem VRs.take {m : Map} {a a' : List Value} (h : VRs m a a') (n : Nat) : VRs m (a.take n) (a'.take n) := by
  refine ⟨by simp [h.1], fun i v e => ?_⟩
  rw [List.getElem?_take] at e ⊢
  split at e
  · rename_i hi; rw [if_pos hi]; exact h.2 i v e
  · simp at e
theorem VRs.drop {m : Map} {a a' : List Value} (h : VRs m a a') (n : Nat) : VRs m (a.drop n) (a'.drop n) := by
  refine ⟨by simp [h.1], fun i v e => ?_⟩
  rw [List.getElem?_drop] at e ⊢
  exact h.2 _ v e
theorem VRs.of_agg {m : Map} {a a' : Array Value} (hs : a.size = a'.size) (h : ∀ i (h : i < a.size) (h' : i < a'.size), VR m a[i] a'[i]) : VRs m a.toList a'.toList := by
  refine ⟨by simpa using hs, fun i v e => ?_⟩
  obtain ⟨hi, rfl⟩ := List.getElem?_eq_some_iff.mp e
  have hi' : i < a'.size := by simp at hi; omega
  exact ⟨a'[i], by simp [hi'], by simpa using h i (by simpa using hi) hi'⟩
theorem VRs.to_agg {m : Map} {l l' : List Value} (h : VRs m l l') : VR m (.agg l.toArray) (.agg l'.toArray) := by
  refine .agg _ _ (by simpa using h.1) fun i hi hi' => ?_
  simp at hi hi'
  obtain ⟨v', e, r⟩ := h.2 i l[i] (by simp [hi])
  obtain ⟨_, rfl⟩ := List.getElem?_eq_some_iff.mp e
  simpa using r
theorem VRs.to_tuple {m : Map} {l l' : List Value} (h : VRs m l l') : VR m (.tuple l.toArray) (.tuple l'.toArray) := by
  refine .tuple _ _ (by simpa using h.1) fun i hi hi' => ?_
  simp at hi hi'
  obtain ⟨v', e, r⟩ := h.2 i l[i] (by simp [hi])
  obtain ⟨_, rfl⟩ := List.getElem?_eq_some_iff.mp e
  simpa using r
/-- The cells of a value. -/
theorem VR.cells {m : Map} {v v' : Value} (h : VR m v v') : VRs m v.cells.toList v'.cells.toList := by
  cases h with
  | agg a a' hs h => exact VRs.of_agg hs h
  | bool b => exact .cons (.bool b) (.nil m)
  | int k n => exact .cons (.int k n) (.nil m)
  | float k b b' h => exact .cons (.float k b b' h) (.nil m)
  | string s => exact .cons (.string s) (.nil m)
  | pnone => exact .cons .pnone (.nil m)
  | ptr i o b base S h => exact .cons (.ptr i o b base S h) (.nil m)
  | snone => exact .cons .snone (.nil m)
  | slice i o len sz b base S a' cap h h1 h2 => exact .cons (.slice i o len sz b base S a' cap h h1 h2) (.nil m)
  | sempty sz x => exact .cons (.sempty sz x) (.nil m)
  | func fn f f' c c' h1 h2 h3 h4 => exact .cons (.func fn f f' c c' h1 h2 h3 h4) (.nil m)
  | nilFunc => exact .cons .nilFunc (.nil m)
  | nilIface => exact .cons .nilIface (.nil m)
  | iface t v v' h => exact .cons (.iface t v v' h) (.nil m)
  | tuple a a' hs h => exact .cons (.tuple a a' hs h) (.nil m)

/-! ### The relation -/
/-- No cell of a row of n cells is frozen. -/
def Fz (n : Nat) (f : Nat × Nat) : Prop := n ≤ f.1 ∨ (f.1 = 0 ∧ f.2 = 0)

/-- The package variable that must hold some int, by its number, if one must. -/
def glIx : Option Nat := none
/-- The package variable that must hold a table, if one must. -/
def glTab : Option (Nat × List Value) := none
def GlI (W : World) : Prop := match glIx with | none => True | some g => ∃ n : Int, W.cell? ⟨g, 0, none⟩ = some (.int .i64 n)
def Gl (W : World) : Prop := match glTab with | none => GlI W | some (g, cs) => (∃ t f, W.heap[g]? = some (.cells cs.toArray t f)) ∧ GlI W
structure Rel (W0 : World) (m : Map) (h : Heap) (w : World) : Prop where
  below : Below W0.heap.size W0 w
  dom : ∀ i x, m i = some x → i < h.size
  shape : ∀ i b o S, m i = some (b, o, S) → ∃ c e f, w.heap[b]? = some (.cells c e f) ∧ c.size = S
  cells : ∀ i b o S obj, m i = some (b, o, S) → h.get i = some obj → obj.live = true → o + obj.cells.length ≤ S ∧
    ∀ j v, obj.cells[j]? = some v → ∃ v', w.cell? ⟨b, o + j, none⟩ = some v' ∧ VR m v v'
  one : ∀ i b o S obj, m i = some (b, o, S) → h.get i = some obj → obj.live = true → ∀ (j : Nat) (v : Value), obj.cells[j]? = some v → v.oneCell' = true
  rw : ∀ i b o S obj, m i = some (b, o, S) → h.get i = some obj → obj.rw = true → W0.heap.size ≤ b ∧ ∃ c e f, w.heap[b]? = some (.cells c e f) ∧ Fz c.size f
  sep : ∀ i k b o S o' S' oi ok, m i = some (b, o, S) → m k = some (b, o', S') → h.get i = some oi → h.get k = some ok → oi.rw = true → oi.grp = ok.grp
  ord : ∀ i k b o S o' S' oi ok, i < k → m i = some (b, o, S) → m k = some (b, o', S') → h.get i = some oi → h.get k = some ok → oi.live = true → ok.live = true →
    oi.grp = ok.grp → o + oi.cells.length ≤ o' + ok.cells.length
  same : ∀ i k b o S o' S', m i = some (b, o, S) → m k = some (b, o', S') → S = S'
  fresh : ∀ i k oi ok, i ≠ k → m k = none → h.get i = some oi → h.get k = some ok → oi.grp ≠ ok.grp
  gl : Gl W0

/-- The worlds alike but for what is drawn. -/
def SameW (w w' : World) : Prop := w'.heap = w.heap ∧ w'.os = w.os ∧ w'.tape = w.tape ∧ w'.output = w.output
theorem SameW.refl (w : World) : SameW w w := ⟨rfl, rfl, rfl, rfl⟩
theorem SameW.trans {a b c : World} (h : SameW a b) (k : SameW b c) : SameW a c := ⟨k.1.trans h.1, k.2.1.trans h.2.1, k.2.2.1.trans h.2.2.1, k.2.2.2.trans h.2.2.2⟩
theorem SameW.cell {w w' : World} (h : SameW w w') (a : Addr) : w'.cell? a = w.cell? a := by simp [World.cell?, h.1]
theorem Rel.sameW {W0 : World} {m : Map} {h : Heap} {w w' : World} (r : Rel W0 m h w) (s : SameW w w') : Rel W0 m h w' where
  below := ⟨s.2.1.trans r.below.os, s.2.2.1.trans r.below.tape, s.2.2.2.trans r.below.output, by rw [s.1]; exact r.below.size, by intro k hk; rw [s.1]; exact r.below.block k hk⟩
  dom := r.dom
  shape := by intro i b o S e; rw [s.1]; exact r.shape i b o S e
  cells := by intro i b o S obj e1 e2 e3; obtain ⟨a, c⟩ := r.cells i b o S obj e1 e2 e3; exact ⟨a, fun j v e => by rw [s.cell]; exact c j v e⟩
  one := r.one
  rw := by intro i b o S obj e1 e2 e3; rw [s.1]; exact r.rw i b o S obj e1 e2 e3
  sep := r.sep
  ord := r.ord
  same := r.same
  fresh := r.fresh
  gl := r.gl

/-- What an act may do to names: old names stay as they are; objects that no name of the machine knows stay. -/
structure Step (m : Map) (h : Heap) (m' : Map) (h' : Heap) : Prop where
  size : h.size ≤ h'.size
  old : ∀ i, i < h.size → m' i = m i
  unm : ∀ i, i < h.size → m i = none → h'.get i = h.get i
theorem Step.refl (m : Map) (h : Heap) : Step m h m h := ⟨Nat.le_refl _, fun _ _ => rfl, fun _ _ _ => rfl⟩
theorem Step.trans {m m1 m2 : Map} {h h1 h2 : Heap} (a : Step m h m1 h1) (b : Step m1 h1 m2 h2) : Step m h m2 h2 :=
  ⟨Nat.le_trans a.size b.size, fun i hi => (b.old i (Nat.lt_of_lt_of_le hi a.size)).trans (a.old i hi),
   fun i hi hn => (b.unm i (Nat.lt_of_lt_of_le hi a.size) ((a.old i hi).trans hn)).trans (a.unm i hi hn)⟩
theorem Step.le {W0 : World} {m m' : Map} {h h' : Heap} {w : World} (s : Step m h m' h') (r : Rel W0 m h w) : m.le m' :=
  fun i x e => (s.old i (r.dom i x e)).trans e

end Go.Ah
