import Derived.Test.YtdagajblnlemaaaAhAA
import Derived.Test.YtdagajblnlemaaaAhX
set_option linter.unusedVariables false
set_option linter.unusedSimpArgs false
namespace Go.Ah
open Go Go.RowKit
/-! ### Functions of the library, by contracts of the machine's -/
theorem cell_below {W0 w : World} {n : Nat} (b : Below n W0 w) (hn : n = W0.heap.size) {k : Nat} {v : Value} (h : W0.cell? ⟨k, 0, none⟩ = some v) : w.cell? ⟨k, 0, none⟩ = some v := by
  obtain ⟨_, c, e, f, hb, _⟩ := cell_block h
  have hk : k < W0.heap.size := (Array.getElem?_eq_some_iff.mp hb).1
  rw [World.cell?_of_block (w := W0) (b.block k (by omega))]; exact h
theorem Gl.keep {W0 w : World} (b : Below W0.heap.size W0 w) (g : Gl W0) : Gl w := by
  have key : GlI W0 → GlI w := by
    intro g
    unfold GlI at g ⊢
    generalize glIx = x at g ⊢
    cases x with
    | none => trivial
    | some k => obtain ⟨n, hn⟩ := g; exact ⟨n, cell_below b rfl hn⟩
  unfold Gl at g ⊢
  generalize glTab = x at g ⊢
  match x, g with
  | none, g => exact key g
  | some (k, cs), g =>
    obtain ⟨⟨t, f, ht⟩, g⟩ := g
    have hk : k < W0.heap.size := (Array.getElem?_eq_some_iff.mp ht).1
    exact ⟨⟨t, f, by rw [b.block k hk]; exact ht⟩, key g⟩
theorem Rel.glw {W0 w : World} {m : Map} {h : Heap} (r : Rel W0 m h w) : Gl w := Gl.keep r.below r.gl
/-- New blocks that nobody names change nothing. -/
theorem Rel.belowW {W0 : World} {m : Map} {h : Heap} {w w' : World} (r : Rel W0 m h w) (s : Below w.heap.size w w') : Rel W0 m h w' := by
  have hb : ∀ {b : Nat} {o : Go.Obj}, w.heap[b]? = some o → w'.heap[b]? = some o := by
    intro b o e
    rw [s.block b (Array.getElem?_eq_some_iff.mp e).1]; exact e
  have hc : ∀ {i b o S : Nat} (_ : m i = some (b, o, S)) (j : Nat) {v : Value}, w.cell? ⟨b, j, none⟩ = some v → w'.cell? ⟨b, j, none⟩ = some v := by
    intro i b o S e j v ev
    obtain ⟨c, e', f, h1, _⟩ := r.shape i b o S e
    rw [World.cell?_of_block (w := w) (s.block b (Array.getElem?_eq_some_iff.mp h1).1)]; exact ev
  exact {
    below := r.below.trans (s.mono r.below.size)
    dom := r.dom
    shape := by intro i b o S e; obtain ⟨c, e', f, h1, h2⟩ := r.shape i b o S e; exact ⟨c, e', f, hb h1, h2⟩
    cells := by
      intro i b o S obj e1 e2 e3
      obtain ⟨a, c⟩ := r.cells i b o S obj e1 e2 e3
      exact ⟨a, fun j v e => by obtain ⟨v', h1, h2⟩ := c j v e; exact ⟨v', hc e1 _ h1, h2⟩⟩
    one := r.one
    rw := by intro i b o S obj e1 e2 e3; obtain ⟨a, c, e', f, h1, h2⟩ := r.rw i b o S obj e1 e2 e3; exact ⟨a, c, e', f, hb h1, h2⟩
    sep := r.sep
    ord := r.ord
    same := r.same
    fresh := r.fresh
    gl := r.gl }
def sameB : Value → Bool
  | .int _ _ => true
  | .bool _ => true
  | .string _ => true
  | _ => false
theorem VR.sameB {m : Map} {v v' : Value} (h : VR m v v') (hs : sameB v = true) : v' = v := by
  cases h <;> first | rfl | (simp [Ah.sameB] at hs)
theorem VRs.same {m : Map} : ∀ {l l' : List Value}, VRs m l l' → l.all sameB = true → l' = l := by
  intro l
  induction l with
  | nil => intro l' h _; exact h.of_nil
  | cons x t ih =>
    intro l' h hs
    obtain ⟨x', t', rfl, rx, rt⟩ := h.of_cons
    simp only [List.all_cons, Bool.and_eq_true] at hs
    rw [rx.sameB hs.1, ih rt hs.2]
theorem VR.refl_same (m : Map) {v : Value} (hs : Ah.sameB v = true) : VR m v v := by
  cases v <;> first | exact .int _ _ | exact .bool _ | exact .string _ | (simp [Ah.sameB] at hs)
/-- It answers, and leaves the world as it was. -/
theorem ACall.pure {P : Program} {f : FuncId} {args : List Value} {v : Value} (ha : args.all sameB = true) (hv : sameB v = true)
    (H : ∀ w : World, Gl w → Calls P f args.toArray w fun e w' => e = .returned v ∧ w' = w) (h : Heap) : ACall P f args h fun r h' => h' = h ∧ r = v := by
  intro W0 m w args' r va
  rw [va.same ha]
  refine (H w r.glw).mono ?_
  rintro e w' ⟨rfl, rfl⟩
  exact ⟨v, v, h, m, rfl, r, .refl m h, .refl_same m hv, rfl, rfl⟩
/-- It answers, and what was there stays. -/
theorem ACall.pureB {P : Program} {f : FuncId} {args : List Value} {v : Value} (ha : args.all sameB = true) (hv : sameB v = true)
    (H : ∀ w : World, Gl w → Calls P f args.toArray w fun e w' => e = .returned v ∧ Below w.heap.size w w') (h : Heap) : ACall P f args h fun r h' => h' = h ∧ r = v := by
  intro W0 m w args' r va
  rw [va.same ha]
  refine (H w r.glw).mono ?_
  rintro e w' ⟨rfl, b⟩
  exact ⟨v, v, h, m, rfl, r.belowW b, .refl m h, .refl_same m hv, rfl, rfl⟩
/-- It answers a new slice of strings. -/
theorem ACall.strs {P : Program} {f : FuncId} {args : List Value} {ss : List ByteArray} {ty : TypeId} (ha : args.all sameB = true)
    (H : ∀ w : World, Gl w → Calls P f args.toArray w fun e w' => e = .returned (.slice (some ⟨w.heap.size, 0, none⟩) ss.length ss.length) ∧ w' = w.alloc (.cells (ss.map Value.string).toArray ty)) (h : Heap) :
    ACall P f args h fun r h' => h' = h.more [ss.map Value.string] ∧ r = .slice (some ⟨h.size, 0, none⟩) ss.length 1 := by
  intro W0 m w args' r va
  rw [va.same ha]
  refine (H w r.glw).mono ?_
  rintro e w' ⟨rfl, rfl⟩
  obtain ⟨R, S⟩ := r.alloc (cs := ss.map Value.string) (c' := (ss.map Value.string).toArray) ty (f := (0, 0)) (.inr ⟨rfl, rfl⟩) (by simp) (fun j v ej => by
    refine ⟨v, by simpa using ej, ?_⟩
    simp only [List.getElem?_map, Option.map_eq_some_iff] at ej
    obtain ⟨s, _, rfl⟩ := ej
    exact .string s) (fun j v ej => by
    simp only [List.getElem?_map, Option.map_eq_some_iff] at ej
    obtain ⟨s, _, rfl⟩ := ej
    rfl)
  refine ⟨_, .slice (some ⟨h.size, 0, none⟩) ss.length 1, h.alloc (ss.map Value.string), _, rfl, R, S, ?_, alloc_more h _, rfl⟩
  exact .slice h.size 0 ss.length 1 _ 0 _ 0 _ (Map.set_same _ _ _) (Nat.le_refl _) (.inr ⟨rfl, by simp⟩)
end Go.Ah
