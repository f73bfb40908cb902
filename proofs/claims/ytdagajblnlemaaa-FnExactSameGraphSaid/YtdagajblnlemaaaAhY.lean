import Derived.Test.YtdagajblnlemaaaAhV
set_option linter.unusedVariables false
set_option linter.unusedSimpArgs false
namespace Go.Ah
open Go Go.RowKit

/-! ### A slice of our own and boxes beside it -/
/-- All groups but those of X are as they were. -/
def ExtX (X : List Nat) (h h' : Heap) : Prop := h.size ≤ h'.size ∧ ∀ i ob, h.get i = some ob → ob.grp ∉ X → h'.get i = some ob
theorem ExtX.refl (X : List Nat) (h : Heap) : ExtX X h h := ⟨Nat.le_refl _, fun _ _ e _ => e⟩
theorem ExtX.trans {X : List Nat} {a b c : Heap} (h : ExtX X a b) (k : ExtX X b c) : ExtX X a c := ⟨Nat.le_trans h.1 k.1, fun i ob e hg => k.2 i ob (h.2 i ob e hg) hg⟩
theorem Ext.toX {X : List Nat} {h h' : Heap} (e : Ext h h') : ExtX X h h' := ⟨e.1, fun i ob hi _ => by rw [e.2 i (Heap.get_lt hi)]; exact hi⟩
theorem ExtG.toX {X : List Nat} {g : Nat} {h h' : Heap} (e : ExtG g h h') (hg : g ∈ X) : ExtX X h h' := ⟨e.1, fun i ob hi hn => e.2 i ob hi (fun q => hn (q ▸ hg))⟩
theorem ExtX.ext {h h' : Heap} (e : ExtX [] h h') : Ext h h' := ⟨e.1, fun i hi => by obtain ⟨ob, hob⟩ := Heap.get_some hi; rw [hob]; exact e.2 i ob hob (by simp)⟩
theorem ExtX.top {X : List Nat} {g : Nat} {h0 h h' : Heap} (e0 : ExtX X h0 h) (e : ExtG g h h') (hg : h0.size ≤ g) : ExtX X h0 h' := by
  refine ⟨Nat.le_trans e0.1 e.1, fun i ob hi hn => ?_⟩
  have := Heap.grp_le hi; have := Heap.get_lt hi
  exact e.2 i ob (e0.2 i ob hi hn) (by omega)
def boxesAt : Nat → List (List Value) → List (Nat × List Value)
  | _, [] => []
  | n, c :: L => (n, c) :: boxesAt (n + 1) L
theorem mem_boxesAt {p : Nat × List Value} : ∀ {L : List (List Value)} {n : Nat}, p ∈ boxesAt n L → ∃ k, k < L.length ∧ p.1 = n + k ∧ L[k]? = some p.2 := by
  intro L
  induction L with
  | nil => intro n h; cases h
  | cons c L ih =>
    intro n h
    simp only [boxesAt, List.mem_cons] at h
    rcases h with rfl | h
    · exact ⟨0, by simp, rfl, rfl⟩
    · obtain ⟨k, h1, h2, h3⟩ := ih h
      exact ⟨k + 1, by simp; omega, by omega, by simpa using h3⟩
structure Fk {α : Type} (X : List Nat) (h0 h : Heap) (enc : α → List Value) (sz : Nat) (v : Value) (l : List α) (B : List (Nat × List Value)) : Prop where
  ext : ExtX X h0 h
  own : ∃ g, h0.size ≤ g ∧ OwnT g h enc sz v l ∧ ∀ p, p ∈ B → p.1 ≠ g
  box : ∀ p, p ∈ B → h0.size ≤ p.1 ∧ h.get p.1 = some ⟨p.2, p.1, true, true⟩
section
variable {α : Type} {enc : α → List Value} {sz : Nat} {X : List Nat} {h0 h h' : Heap} {v : Value} {l : List α} {B : List (Nat × List Value)}
theorem Fk.fresh (F : Fk [] h0 h enc sz v l B) : Fresh h0 h enc sz v l := by
  obtain ⟨g, h1, h2, _⟩ := F.own; exact ⟨F.ext.ext, g, h1, h2⟩
theorem Fk.slt (F : Fk X h0 h enc sz v l B) : SlT h enc sz v l := by obtain ⟨g, h1, h2, _⟩ := F.own; exact h2.slt
theorem Fk.of {X : List Nat} (F : Fresh h0 h enc sz v l) : Fk X h0 h enc sz v l [] := by
  obtain ⟨e, g, h1, h2⟩ := F; exact ⟨e.toX, ⟨g, h1, h2, fun p hp => by cases hp⟩, fun p hp => by cases hp⟩
theorem Fk.sub (F : Fk X h0 h enc sz v l B) {B' : List (Nat × List Value)} (hs : ∀ p, p ∈ B' → p ∈ B) : Fk X h0 h enc sz v l B' := by
  obtain ⟨g, h1, h2, h3⟩ := F.own; exact ⟨F.ext, ⟨g, h1, h2, fun p hp => h3 p (hs p hp)⟩, fun p hp => F.box p (hs p hp)⟩
theorem Fk.bare (F : Fk X h0 h enc sz v l B) : Fk X h0 h enc sz v l [] := F.sub (fun p hp => by cases hp)
theorem Fk.mono {h1 : Heap} (F : Fk X h0 h enc sz v l B) (e : ExtX X h1 h0) : Fk X h1 h enc sz v l B := by
  obtain ⟨g, g1, g2, g3⟩ := F.own
  exact ⟨e.trans F.ext, ⟨g, Nat.le_trans e.1 g1, g2, g3⟩, fun p hp => ⟨Nat.le_trans e.1 (F.box p hp).1, (F.box p hp).2⟩⟩
theorem Fk.step (F : Fk X h0 h enc sz v l B) (e : Ext h h') : Fk X h0 h' enc sz v l B := by
  obtain ⟨g, g1, g2, g3⟩ := F.own
  exact ⟨F.ext.trans e.toX, ⟨g, g1, g2.ext e, g3⟩, fun p hp => ⟨(F.box p hp).1, by rw [e.2 _ (Heap.get_lt (F.box p hp).2)]; exact (F.box p hp).2⟩⟩
theorem Fk.stepG {c : Nat} (F : Fk X h0 h enc sz v l B) (e : ExtG c h h') (hc : c ∈ X) (hlt : c < h0.size) : Fk X h0 h' enc sz v l B := by
  obtain ⟨g, g1, g2, g3⟩ := F.own
  exact ⟨F.ext.trans (e.toX hc), ⟨g, g1, g2.extG e (by omega), g3⟩, fun p hp => ⟨(F.box p hp).1, e.2 _ _ (F.box p hp).2 (by have := (F.box p hp).1; simp only; omega)⟩⟩
theorem Fk.ld (F : Fk X h0 h enc sz v l B) {i : Nat} {cs : List Value} (hp : (i, cs) ∈ B) : (∀ o, ldV h (.pointer (some ⟨i, o, none⟩)) = cs[o]?) ∧ ∀ o n, ldnV h n (.pointer (some ⟨i, o, none⟩)) = cutL cs o n := by
  have hg := (F.box _ hp).2
  refine ⟨fun o => ?_, fun o n => ?_⟩
  · simp only [ldV, rd, hg, if_true]
  · simp only [ldnV, rdn, hg, cutL, true_and]
    split <;> rfl
/-- The group of a slice, apart from boxes that are there. -/
theorem Fk.grp (F : Fk X h0 h enc sz v l B) (N : Nat) (hN : h.size ≤ N) : ∃ g, h0.size ≤ g ∧ (g < h.size ∨ g = N) ∧ OwnT g h enc sz v l ∧ ∀ p, p ∈ B → p.1 ≠ g := by
  obtain ⟨g, g1, g2, g3⟩ := F.own
  rcases g2.own with ⟨rfl, h2⟩ | ⟨i, off, n, ob, rfl, h2, h3⟩
  · refine ⟨N, Nat.le_trans F.ext.1 hN, .inr rfl, ⟨.inl ⟨rfl, h2⟩, g2.hs, g2.pos⟩, fun p hp => ?_⟩
    have := Heap.get_lt (F.box p hp).2; omega
  · have := Heap.get_lt h2; have := Heap.grp_le h2
    have : ob.grp = g := h3.2.2.2.2
    exact ⟨g, g1, .inl (by omega), g2, g3⟩
theorem Fk.more (F : Fk X h0 h enc sz v l B) (L : List (List Value)) : Fk X h0 (h.more L) enc sz v l (B ++ boxesAt h.size L) := by
  obtain ⟨g, g1, g2, g3, g4⟩ := F.grp (h.size + L.length) (by omega)
  have e : Ext h (h.more L) := Ext.more h L
  refine ⟨F.ext.trans e.toX, ⟨g, g1, g3.ext e, fun p hp => ?_⟩, fun p hp => ?_⟩
  · rcases List.mem_append.mp hp with hp | hp
    · exact g4 p hp
    · obtain ⟨k, k1, k2, _⟩ := mem_boxesAt hp; omega
  · rcases List.mem_append.mp hp with hp | hp
    · exact ⟨(F.box p hp).1, by rw [e.2 _ (Heap.get_lt (F.box p hp).2)]; exact (F.box p hp).2⟩
    · obtain ⟨k, k1, k2, k3⟩ := mem_boxesAt hp
      have := F.ext.1
      exact ⟨by omega, by rw [k2, get_more, k3]; rfl⟩
/-- One element appended, behind new boxes. -/
theorem Fk.app1g (F : Fk X h0 h enc sz v l B) (L : List (List Value)) (x : α) {bytes : Nat} (hr : (l.length + 1) * bytes ≤ 70368744177664) :
    ∃ v' h2, appV (h.more (L ++ [enc x])) bytes sz v (.slice (some ⟨h.size + L.length, 0, none⟩) 1 sz) = some (v', h2) ∧ Fk X h0 h2 enc sz v' (l ++ [x]) (B ++ boxesAt h.size L) ∧
      ∃ g, h0.size ≤ g ∧ ExtG g (h.more (L ++ [enc x])) h2 := by
  have hB : ∀ p, p ∈ B ++ boxesAt h.size L → p ∈ B ++ boxesAt h.size (L ++ [enc x]) := by
    have key : ∀ (L : List (List Value)) (n : Nat) (p : Nat × List Value), p ∈ boxesAt n L → p ∈ boxesAt n (L ++ [enc x]) := by
      intro L
      induction L with
      | nil => intro n p hp; cases hp
      | cons c L ih =>
        intro n p hp
        simp only [boxesAt, List.cons_append, List.mem_cons] at hp ⊢
        rcases hp with hp | hp
        · exact .inl hp
        · exact .inr (ih _ _ hp)
    intro p hp
    rcases List.mem_append.mp hp with hp | hp
    · exact List.mem_append.mpr (.inl hp)
    · exact List.mem_append.mpr (.inr (key _ _ _ hp))
  have F1 := (F.more (L ++ [enc x])).sub hB
  have hs : ∀ x, (enc x).length = sz := by obtain ⟨g, _, g2, _⟩ := F.own; exact g2.hs
  have pos : 0 < sz := by obtain ⟨g, _, g2, _⟩ := F.own; exact g2.pos
  have s : SlT (h.more (L ++ [enc x])) enc sz (.slice (some ⟨h.size + L.length, 0, none⟩) 1 sz) [x] := by
    have := (OwnT.new (h.more L) [x] hs pos).slt
    simp only [List.flatMap_cons, List.flatMap_nil, List.append_nil, List.length_cons, List.length_nil, Nat.zero_add, more_more, size_more] at this
    exact this
  obtain ⟨g, g1, g2, g3, g4⟩ := F1.grp (h.more (L ++ [enc x])).size (Nat.le_refl _)
  obtain ⟨v', h2, g', e, O, G, hg'⟩ := g3.app s (bytes := bytes) (by simpa using hr)
  have hsz := F1.ext.1
  refine ⟨v', h2, e, ⟨F1.ext.top G g1, ⟨g', by omega, O, fun p hp => ?_⟩, fun p hp => ⟨(F1.box p hp).1, G.2 _ _ (F1.box p hp).2 (g4 p hp)⟩⟩, g, g1, G⟩
  have h5 := Heap.get_lt (F1.box p hp).2
  rcases hg' with rfl | rfl
  · exact g4 p hp
  · omega
theorem Fk.app1 (F : Fk X h0 h enc sz v l B) (L : List (List Value)) (x : α) {bytes : Nat} (hr : (l.length + 1) * bytes ≤ 70368744177664) :
    ∃ v' h2, appV (h.more (L ++ [enc x])) bytes sz v (.slice (some ⟨h.size + L.length, 0, none⟩) 1 sz) = some (v', h2) ∧ Fk X h0 h2 enc sz v' (l ++ [x]) (B ++ boxesAt h.size L) := by
  obtain ⟨v', h2, e, F', _⟩ := F.app1g L x hr; exact ⟨v', h2, e, F'⟩
/-- A slice appended. -/
theorem Fk.appg (F : Fk X h0 h enc sz v l B) {y : Value} {l' : List α} (s : SlT h enc sz y l') {bytes : Nat} (hr : (l.length + l'.length) * bytes ≤ 70368744177664) :
    ∃ v' h2, appV h bytes sz v y = some (v', h2) ∧ Fk X h0 h2 enc sz v' (l ++ l') B ∧ ∃ g, h0.size ≤ g ∧ ExtG g h h2 := by
  obtain ⟨g, g1, g2, g3, g4⟩ := F.grp h.size (Nat.le_refl _)
  obtain ⟨v', h2, g', e, O, G, hg'⟩ := g3.app s (bytes := bytes) hr
  have hsz := F.ext.1
  refine ⟨v', h2, e, ⟨F.ext.top G g1, ⟨g', by omega, O, fun p hp => ?_⟩, fun p hp => ⟨(F.box p hp).1, G.2 _ _ (F.box p hp).2 (g4 p hp)⟩⟩, g, g1, G⟩
  have h5 := Heap.get_lt (F.box p hp).2
  rcases hg' with rfl | rfl
  · exact g4 p hp
  · omega
theorem Fk.app (F : Fk X h0 h enc sz v l B) {y : Value} {l' : List α} (s : SlT h enc sz y l') {bytes : Nat} (hr : (l.length + l'.length) * bytes ≤ 70368744177664) :
    ∃ v' h2, appV h bytes sz v y = some (v', h2) ∧ Fk X h0 h2 enc sz v' (l ++ l') B := by
  obtain ⟨v', h2, e, F', _⟩ := F.appg s hr; exact ⟨v', h2, e, F'⟩
/-- A store into the slice. -/
theorem Fk.setF (F : Fk X h0 h enc sz v l B) {j f n : Nat} (hj : j < l.length) {x : α} {y : Value} (hx : splice (enc l[j]) f y.cells.toList = enc x) (hn : 0 < n) (hy : y.cells.size = n) (hf : f + n ≤ sz) (h1 : oneB y.cells.toList = true) :
    ∃ h2, stV h n (ptrAt v (j * sz + f)) y = some h2 ∧ Fk X h0 h2 enc sz v (l.set j x) B ∧ ∃ g, h0.size ≤ g ∧ ExtG g h h2 := by
  obtain ⟨g, g1, g2, g3, g4⟩ := F.grp h.size (Nat.le_refl _)
  obtain ⟨h2, e, O, G, _⟩ := g3.setF hj hx hn hy hf h1
  exact ⟨h2, e, ⟨F.ext.top G g1, ⟨g, g1, O, g4⟩, fun p hp => ⟨(F.box p hp).1, G.2 _ _ (F.box p hp).2 (g4 p hp)⟩⟩, g, g1, G⟩
theorem Fk.set (F : Fk X h0 h enc sz v l B) {j : Nat} (hj : j < l.length) (x : α) (h1 : oneB (enc x) = true) :
    ∃ h2, stV h sz (ptrAt v (j * sz)) (.agg (enc x).toArray) = some h2 ∧ Fk X h0 h2 enc sz v (l.set j x) B ∧ ∃ g, h0.size ≤ g ∧ ExtG g h h2 := by
  obtain ⟨g, g1, g2, g3, g4⟩ := F.grp h.size (Nat.le_refl _)
  obtain ⟨h2, e, O, G, _⟩ := g3.set hj x h1
  exact ⟨h2, e, ⟨F.ext.top G g1, ⟨g, g1, O, g4⟩, fun p hp => ⟨(F.box p hp).1, G.2 _ _ (F.box p hp).2 (g4 p hp)⟩⟩, g, g1, G⟩
/-- A store into a box beside it. -/
theorem Fk.put (F : Fk X h0 h enc sz v l B) {i : Nat} {cs : List Value} (hp : (i, cs) ∈ B) {o n : Nat} {y : Value} (hy : y.cells.size = n) (ho : o + n ≤ cs.length) (h1 : oneB y.cells.toList = true) :
    ∃ h2, stV h n (.pointer (some ⟨i, o, none⟩)) y = some h2 ∧ Fk X h0 h2 enc sz v l ((i, splice cs o y.cells.toList) :: B.filter (fun p => p.1 != i)) ∧ ExtG i h h2 := by
  have hb := F.box _ hp
  obtain ⟨g, g1, g2, g3⟩ := F.own
  have hne : i ≠ g := g3 _ hp
  simp only at hb
  have hG : ExtG i h (h.upd i i (splice cs o y.cells.toList)) := by
    refine ⟨by rw [Heap.size_upd]; exact Nat.le_refl _, fun k ob hk hg => ?_⟩
    rw [Heap.get_upd, hk]
    have hki : k ≠ i := by intro q; subst q; rw [hb.2] at hk; cases hk; exact hg rfl
    simp [hki, hg]
  refine ⟨h.upd i i (splice cs o y.cells.toList), ?_, ⟨?_, ⟨g, g1, g2.extG hG (Ne.symm hne), fun p hp => ?_⟩, fun p hp => ?_⟩, hG⟩
  · simp only [stV, hb.2]; rw [if_pos ⟨trivial, trivial, hy, ho, h1⟩]
  · refine F.ext.top hG hb.1
  · simp only [List.mem_cons, List.mem_filter] at hp
    rcases hp with rfl | ⟨hp, _⟩
    · exact hne
    · exact g3 p hp
  · simp only [List.mem_cons, List.mem_filter, bne_iff_ne, ne_eq] at hp
    rcases hp with rfl | ⟨hp, hi⟩
    · refine ⟨hb.1, ?_⟩; rw [Heap.get_upd, hb.2]; simp
    · refine ⟨(F.box p hp).1, hG.2 _ _ (F.box p hp).2 hi⟩
end
/-- A box of our own. -/
def Bx (h : Heap) (c : Nat) (cs : List Value) : Prop := h.get c = some ⟨cs, c, true, true⟩
theorem Bx.new (h : Heap) (cs : List Value) (L : List (List Value)) : Bx (h.more (cs :: L)) h.size cs := by
  have := get_more h (cs :: L) 0
  unfold Bx; simpa using this
theorem Bx.ld {h : Heap} {c : Nat} {cs : List Value} (b : Bx h c cs) : (∀ o, ldV h (.pointer (some ⟨c, o, none⟩)) = cs[o]?) ∧ ∀ o n, ldnV h n (.pointer (some ⟨c, o, none⟩)) = cutL cs o n := by
  unfold Bx at b
  refine ⟨fun o => ?_, fun o n => ?_⟩
  · simp only [ldV, rd, b, if_true]
  · simp only [ldnV, rdn, b, cutL, true_and]
    split <;> rfl
theorem Bx.ext {h h' : Heap} {c : Nat} {cs : List Value} (b : Bx h c cs) (e : Ext h h') : Bx h' c cs := by
  unfold Bx at b ⊢; rw [e.2 _ (Heap.get_lt b)]; exact b
theorem Bx.put {h : Heap} {c : Nat} {cs : List Value} (b : Bx h c cs) {o n : Nat} {y : Value} (hy : y.cells.size = n) (ho : o + n ≤ cs.length) (h1 : oneB y.cells.toList = true) :
    ∃ h2, stV h n (.pointer (some ⟨c, o, none⟩)) y = some h2 ∧ Bx h2 c (splice cs o y.cells.toList) ∧ ExtG c h h2 := by
  unfold Bx at b
  refine ⟨h.upd c c (splice cs o y.cells.toList), ?_, ?_, ?_⟩
  · simp only [stV, b]; rw [if_pos ⟨trivial, trivial, hy, ho, h1⟩]
  · unfold Bx; rw [Heap.get_upd, b]; simp
  · refine ⟨by rw [Heap.size_upd]; exact Nat.le_refl _, fun k ob hk hg => ?_⟩
    rw [Heap.get_upd, hk]
    have hki : k ≠ c := by intro q; subst q; rw [b] at hk; cases hk; exact hg rfl
    simp [hki, hg]
theorem Bx.step {h h' : Heap} {c i : Nat} {cs : List Value} (b : Bx h i cs) (g : ExtG c h h') (hi : i ≠ c) : Bx h' i cs := by
  unfold Bx at b ⊢; exact g.2 _ _ b hi
theorem ExtX.toG {c : Nat} {h h' : Heap} (e : ExtX [c] h h') : ExtG c h h' := ⟨e.1, fun i ob hi hg => e.2 i ob hi (by simpa using hg)⟩
theorem ExtG.x {c : Nat} {h h' : Heap} (e : ExtG c h h') : ExtX [c] h h' := ⟨e.1, fun i ob hi hg => e.2 i ob hi (by simpa using hg)⟩
section
variable {α : Type} {enc : α → List Value} {sz : Nat} {X : List Nat} {h0 h h' : Heap} {v : Value} {l : List α}
/-- A store into the first of two boxes. -/
theorem Fk.put2 {i j : Nat} {ci cj : List Value} (F : Fk X h0 h enc sz v l [(i, ci), (j, cj)]) (hij : i ≠ j) {o n : Nat} {y : Value} (hy : y.cells.size = n) (ho : o + n ≤ ci.length) (h1 : oneB y.cells.toList = true) :
    ∃ h2, stV h n (.pointer (some ⟨i, o, none⟩)) y = some h2 ∧ Fk X h0 h2 enc sz v l [(i, splice ci o y.cells.toList), (j, cj)] ∧ ExtG i h h2 ∧ h0.size ≤ i := by
  obtain ⟨h2, e, F2, G⟩ := F.put (i := i) (cs := ci) (by simp) hy ho h1
  refine ⟨h2, e, F2.sub fun p hp => ?_, G, (F.box (i, ci) (by simp)).1⟩
  simp only [List.mem_cons, List.not_mem_nil, or_false] at hp
  rcases hp with rfl | rfl
  · simp
  · simp [Ne.symm hij]
theorem Fk.put1 {i : Nat} {ci : List Value} (F : Fk X h0 h enc sz v l [(i, ci)]) {o n : Nat} {y : Value} (hy : y.cells.size = n) (ho : o + n ≤ ci.length) (h1 : oneB y.cells.toList = true) :
    ∃ h2, stV h n (.pointer (some ⟨i, o, none⟩)) y = some h2 ∧ Fk X h0 h2 enc sz v l [(i, splice ci o y.cells.toList)] ∧ ExtG i h h2 ∧ h0.size ≤ i := by
  obtain ⟨h2, e, F2, G⟩ := F.put (i := i) (cs := ci) (by simp) hy ho h1
  refine ⟨h2, e, F2.sub fun p hp => ?_, G, (F.box (i, ci) (by simp)).1⟩
  simp only [List.mem_cons, List.not_mem_nil, or_false] at hp
  subst hp; simp
end
def allInt : List Value → Bool
  | [] => true
  | .int .i64 _ :: l => allInt l
  | _ => false
theorem allInt_get : ∀ (l : List Value), allInt l = true → ∀ i, i < l.length → ∃ n, l[i]? = some (.int .i64 n) := by
  intro l
  induction l with
  | nil => intro _ i hi; simp at hi
  | cons v l ih =>
    intro h i hi
    match v, h with
    | .int .i64 n, h =>
      cases i with
      | zero => exact ⟨n, rfl⟩
      | succ i => obtain ⟨m, hm⟩ := ih h i (by simpa using hi); exact ⟨m, by simpa using hm⟩
/-- A number picked from a row of numbers. -/
theorem pick_lits {H H' : Heap} {c : Nat} {vs : List Value} {z : Int} (g : ExtG c (H.more [vs]) H') (hc : c < H.size) (hz : 0 ≤ z) (hlt : z < vs.length) (hall : allInt vs = true) :
    ∃ w : Int, ldV H' (.pointer (some ⟨H.size, z.toNat, none⟩)) = some (.int .i64 w) := by
  have b := (Bx.new H vs []).step g (by omega)
  obtain ⟨n, hn⟩ := allInt_get vs hall z.toNat (by omega)
  exact ⟨n, by rw [b.ld.1, hn]⟩
/-- What a draw made, seen from ahead of its cursor. -/
theorem Fk.out' {α : Type} {enc : α → List Value} {sz : Nat} {c : Nat} {h H1 H' : Heap} {v : Value} {l : List α} (F : Fk [c] H1 H' enc sz v l []) (e : Ext h H1) (hc : h.size ≤ c) : Fresh h H' enc sz v l := by
  obtain ⟨g, g1, g2, _⟩ := F.own
  refine ⟨⟨Nat.le_trans e.1 F.ext.1, fun i hi => ?_⟩, g, Nat.le_trans e.1 g1, g2⟩
  obtain ⟨ob, hob⟩ := Heap.get_some (Nat.lt_of_lt_of_le hi e.1)
  have := Heap.grp_le hob
  rw [F.ext.2 i ob hob (by simp; omega), ← hob]; exact e.2 i hi
end Go.Ah
