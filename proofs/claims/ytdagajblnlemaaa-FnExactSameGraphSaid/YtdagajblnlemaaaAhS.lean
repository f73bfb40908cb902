import Derived.Test.YtdagajblnlemaaaAhR
set_option linter.unusedVariables false
set_option linter.unusedSimpArgs false
namespace Go.Ah
open Go Go.RowKit

/-! ### Heaps that grew -/
/-- What was there is as it was. -/
def Ext (h h' : Heap) : Prop := h.size ≤ h'.size ∧ ∀ i, i < h.size → h'.get i = h.get i
theorem Ext.refl (h : Heap) : Ext h h := ⟨Nat.le_refl _, fun _ _ => rfl⟩
theorem Ext.trans {a b c : Heap} (h : Ext a b) (k : Ext b c) : Ext a c := ⟨Nat.le_trans h.1 k.1, fun i hi => (k.2 i (Nat.lt_of_lt_of_le hi h.1)).trans (h.2 i hi)⟩
theorem Ext.alloc {a h : Heap} (e : Ext a h) (cs : List Value) : Ext a (h.alloc cs) :=
  e.trans ⟨by rw [Heap.size_alloc]; omega, fun i hi => Heap.get_alloc_old h cs hi⟩
/-- All groups but one are as they were. -/
def ExtG (g : Nat) (h h' : Heap) : Prop := h.size ≤ h'.size ∧ ∀ i ob, h.get i = some ob → ob.grp ≠ g → h'.get i = some ob
theorem ExtG.refl (g : Nat) (h : Heap) : ExtG g h h := ⟨Nat.le_refl _, fun _ _ e _ => e⟩
theorem ExtG.trans {g : Nat} {a b c : Heap} (h : ExtG g a b) (k : ExtG g b c) : ExtG g a c := ⟨Nat.le_trans h.1 k.1, fun i ob e hg => k.2 i ob (h.2 i ob e hg) hg⟩
theorem Ext.toG {g : Nat} {h h' : Heap} (e : Ext h h') : ExtG g h h' := ⟨e.1, fun i ob hi _ => by rw [e.2 i (Heap.get_lt hi)]; exact hi⟩
theorem ExtG.ext {g : Nat} {a h h' : Heap} (e : Ext a h) (k : ExtG g h h') (hg : a.size ≤ g) : Ext a h' := by
  refine ⟨Nat.le_trans e.1 k.1, fun i hi => ?_⟩
  obtain ⟨ob, hob⟩ := Heap.get_some (Nat.lt_of_lt_of_le hi e.1)
  have := Heap.grp_le hob
  rw [k.2 i ob hob (by omega), ← hob]; exact e.2 i hi
theorem Ext.rd {h h' : Heap} (e : Ext h h') {i o : Nat} (hi : i < h.size) : rd h' i o = rd h i o := by unfold Ah.rd; rw [e.2 i hi]
theorem Ext.rdn {h h' : Heap} (e : Ext h h') {i o n : Nat} (hi : i < h.size) : rdn h' i o n = rdn h i o n := by unfold Ah.rdn; rw [e.2 i hi]
theorem rd_new (h : Heap) (cs : List Value) (o : Nat) : rd (h.alloc cs) h.size o = cs[o]? := by unfold rd; rw [Heap.get_alloc_new]; rfl
theorem rdn_new (h : Heap) (cs : List Value) (o n : Nat) (hn : o + n ≤ cs.length) : rdn (h.alloc cs) h.size o n = some ((cs.drop o).take n) := by
  unfold rdn; rw [Heap.get_alloc_new]; simp [hn]
theorem rd_old (h : Heap) (cs : List Value) (i o : Nat) (hi : i < h.size) : rd (h.alloc cs) i o = rd h i o := by unfold rd; rw [Heap.get_alloc_old h cs hi]
theorem rdn_old (h : Heap) (cs : List Value) (i o n : Nat) (hi : i < h.size) : rdn (h.alloc cs) i o n = rdn h i o n := by unfold rdn; rw [Heap.get_alloc_old h cs hi]
theorem ldV_ptr (h : Heap) (i o : Nat) : ldV h (.pointer (some ⟨i, o, none⟩)) = rd h i o := rfl
theorem ldnV_ptr (h : Heap) (n i o : Nat) : ldnV h n (.pointer (some ⟨i, o, none⟩)) = (rdn h i o n).map fun cs => .agg cs.toArray := rfl

/-- A store into the newest object. -/
theorem st_new (h : Heap) (cs : List Value) (n o : Nat) (x : Value) (hn : x.cells.size = n) (ho : o + n ≤ cs.length) (h1 : oneB x.cells.toList = true) :
    stV (h.alloc cs) n (.pointer (some ⟨h.size, o, none⟩)) x = some (h.alloc (splice cs o x.cells.toList)) := by
  simp only [stV, Heap.get_alloc_new]
  rw [if_pos ⟨trivial, trivial, hn, ho, h1⟩]
  congr 1
  unfold Heap.upd Heap.put Heap.kill Heap.alloc
  congr 1
  apply List.ext_getElem?
  intro i
  simp only [List.getElem?_mapIdx, Heap.size]
  by_cases hi : i < h.objs.length
  · rw [List.getElem?_append_left hi, List.getElem?_append_left hi]
    rw [List.getElem?_eq_getElem hi]
    have := h.wf i h.objs[i] (List.getElem?_eq_getElem hi)
    have h2 : h.objs[i].grp ≠ h.objs.length := by omega
    have h3 : i ≠ h.objs.length := by omega
    simp [h2, h3]
  · by_cases hi2 : i = h.objs.length
    · subst hi2; simp
    · rw [List.getElem?_eq_none (by simp; omega), List.getElem?_eq_none (by simp; omega)]; rfl

/-! ### Slices -/
def ptrAt (v : Value) (off : Nat) : Value := match v with | .slice (some ⟨i, o, none⟩) _ _ => .pointer (some ⟨i, o + off, none⟩) | _ => .pointer none
def slLen (v : Value) : Nat := match v with | .slice _ n _ => n | _ => 0
/-- v is a slice of elements of sz cells that reads as the cells L. -/
def Sl (h : Heap) (sz : Nat) (v : Value) (L : List Value) : Prop := (v = .slice none 0 0 ∧ L = []) ∨ (v = .slice (some ⟨0, 0, some 0⟩) 0 sz ∧ L = []) ∨ ∃ i o n ob, v = .slice (some ⟨i, o, none⟩) n sz ∧ h.get i = some ob ∧ ob.live = true ∧
  o + n * sz ≤ ob.cells.length ∧ (ob.cells.drop o).take (n * sz) = L
/-- The same, of our own: of group g. -/
def Own (g : Nat) (h : Heap) (sz : Nat) (v : Value) (L : List Value) : Prop := (v = .slice none 0 0 ∧ L = []) ∨ ∃ i o n ob, v = .slice (some ⟨i, o, none⟩) n sz ∧ h.get i = some ob ∧ ob.live = true ∧
  o + n * sz ≤ ob.cells.length ∧ (ob.cells.drop o).take (n * sz) = L ∧ ob.rw = true ∧ ob.grp = g
section
variable {h h' : Heap} {sz g : Nat} {v : Value} {L : List Value}
theorem Own.sl (o : Own g h sz v L) : Sl h sz v L := by
  rcases o with o | ⟨i, o, n, ob, h1, h2, h3, h4, h5, _⟩
  · exact .inl o
  · exact .inr (.inr ⟨i, o, n, ob, h1, h2, h3, h4, h5⟩)
theorem Sl.nil (h : Heap) (sz : Nat) : Sl h sz (.slice none 0 0) [] := .inl ⟨rfl, rfl⟩
theorem Own.nil (g : Nat) (h : Heap) (sz : Nat) : Own g h sz (.slice none 0 0) [] := .inl ⟨rfl, rfl⟩
theorem Sl.ext (s : Sl h sz v L) (e : Ext h h') : Sl h' sz v L := by
  rcases s with s | s | ⟨i, o, n, ob, h1, h2, h3⟩
  · exact .inl s
  · exact .inr (.inl s)
  · exact .inr (.inr ⟨i, o, n, ob, h1, by rw [e.2 i (Heap.get_lt h2)]; exact h2, h3⟩)
theorem Sl.empty (h : Heap) (sz : Nat) : Sl h sz (.slice (some ⟨0, 0, some 0⟩) 0 sz) [] := .inr (.inl ⟨rfl, rfl⟩)
theorem Own.ext (s : Own g h sz v L) (e : Ext h h') : Own g h' sz v L := by
  rcases s with s | ⟨i, o, n, ob, h1, h2, h3⟩
  · exact .inl s
  · exact .inr ⟨i, o, n, ob, h1, by rw [e.2 i (Heap.get_lt h2)]; exact h2, h3⟩
theorem Own.extG {g' : Nat} (s : Own g h sz v L) (e : ExtG g' h h') (hg : g ≠ g') : Own g h' sz v L := by
  rcases s with s | ⟨i, o, n, ob, h1, h2, h3, h4, h5, h6, h7⟩
  · exact .inl s
  · exact .inr ⟨i, o, n, ob, h1, e.2 i ob h2 (h7 ▸ hg), h3, h4, h5, h6, h7⟩
theorem Sl.extG {g' : Nat} (s : Sl h sz v L) (e : ExtG g' h h') (hg : h.size ≤ g') : Sl h' sz v L := by
  rcases s with s | s | ⟨i, o, n, ob, h1, h2, h3, h4, h5⟩
  · exact .inl s
  · exact .inr (.inl s)
  · have := Heap.grp_le h2; have := Heap.get_lt h2
    exact .inr (.inr ⟨i, o, n, ob, h1, e.2 i ob h2 (by omega), h3, h4, h5⟩)
theorem Sl.lenL (s : Sl h sz v L) : slLen v * sz = L.length := by
  rcases s with ⟨rfl, rfl⟩ | ⟨rfl, rfl⟩ | ⟨i, o, n, ob, rfl, h2, h3, h4, h5⟩
  · simp [slLen]
  · simp [slLen]
  · rw [← h5]; simp [slLen]; omega
theorem Sl.len (s : Sl h sz v L) : lenV v = some (.int .i64 (slLen v)) := by
  rcases s with ⟨rfl, rfl⟩ | ⟨rfl, rfl⟩ | ⟨i, o, n, ob, rfl, h2, h3, h4, h5⟩ <;> rfl
theorem Sl.ia (s : Sl h sz v L) (k : IntKind) (j : Int) (h0 : 0 ≤ j) (h1 : j < slLen v) : iaV sz v (.int k j) = some (ptrAt v (j.toNat * sz)) := by
  rcases s with ⟨rfl, rfl⟩ | ⟨rfl, rfl⟩ | ⟨i, o, n, ob, rfl, h2, h3, h4, h5⟩
  · simp only [slLen] at h1; omega
  · simp only [slLen] at h1; omega
  · exact iaV_slice sz i o n k j h0 h1
theorem Sl.fa (s : Sl h sz v L) (f o : Nat) (h1 : 0 < slLen v) : faV f (ptrAt v o) = some (ptrAt v (o + f)) := by
  rcases s with ⟨rfl, rfl⟩ | ⟨rfl, rfl⟩ | ⟨i, o', n, ob, rfl, h2, h3, h4, h5⟩
  · simp only [slLen] at h1; omega
  · simp only [slLen] at h1; omega
  · simp only [ptrAt, faV, Nat.add_assoc]
theorem Sl.ld (s : Sl h sz v L) (o : Nat) (h1 : o < L.length) : ldV h (ptrAt v o) = L[o]? := by
  rcases s with ⟨rfl, rfl⟩ | ⟨rfl, rfl⟩ | ⟨i, o', n, ob, rfl, h2, h3, h4, h5⟩
  · simp at h1
  · simp at h1
  · subst h5
    simp at h1
    simp only [ptrAt, ldV, rd, h2, h3, if_true]
    rw [List.getElem?_take, if_pos (by omega), List.getElem?_drop]
theorem Sl.ldn (s : Sl h sz v L) (o n : Nat) (h1 : o + n ≤ L.length) (hn : 0 < n) : ldnV h n (ptrAt v o) = some (.agg ((L.drop o).take n).toArray) := by
  rcases s with ⟨rfl, rfl⟩ | ⟨rfl, rfl⟩ | ⟨i, o', n', ob, rfl, h2, h3, h4, h5⟩
  · simp at h1; omega
  · simp at h1; omega
  · subst h5
    simp at h1
    simp only [ptrAt, ldnV, rdn, h2, h3, true_and]
    rw [if_pos (by omega)]
    simp only [Option.map_some, List.drop_take, List.take_take, List.drop_drop]
    rw [Nat.min_eq_left (by omega)]
theorem Sl.src (s : Sl h sz v L) : srcV h sz v = some (L, slLen v) := by
  rcases s with ⟨rfl, rfl⟩ | ⟨rfl, rfl⟩ | ⟨i, o, n, ob, rfl, h2, h3, h4, h5⟩
  · rfl
  · rfl
  · simp only [srcV, rdn, h2, h3, true_and, if_pos h4, Option.map_some, h5, if_true, slLen]

/-- A slice that was made now. -/
theorem Own.new (h : Heap) (sz n : Nat) (cs : List Value) (hn : cs.length = n * sz) : Own h.size (h.alloc cs) sz (.slice (some ⟨h.size, 0, none⟩) n sz) cs :=
  .inr ⟨h.size, 0, n, _, rfl, Heap.get_alloc_new h cs, rfl, by rw [Nat.zero_add, ← hn]; exact Nat.le_refl _, by rw [List.drop_zero, ← hn]; exact List.take_length, rfl, rfl⟩
/-- The beginning of a longer row. -/
theorem Own.new' (h : Heap) (sz n : Nat) (cs : List Value) (hn : n * sz ≤ cs.length) : Own h.size (h.alloc cs) sz (.slice (some ⟨h.size, 0, none⟩) n sz) (cs.take (n * sz)) :=
  .inr ⟨h.size, 0, n, _, rfl, Heap.get_alloc_new h cs, rfl, by simp; exact hn, by simp, rfl, rfl⟩

theorem Own.app (o : Own g h sz v L) {y : Value} {M : List Value} {n bytes : Nat} (hs : srcW h sz y = some (M, n)) (hM : M.length = n * sz) (hr : (slLen v + n) * bytes ≤ 70368744177664) :
    ∃ v' h' g', appV h bytes sz v y = some (v', h') ∧ Own g' h' sz v' (L ++ M) ∧ ExtG g h h' ∧ (g' = g ∨ g' = h.size) ∧ slLen v' = slLen v + n := by
  unfold appV
  rw [hs]
  simp only [Option.bind_some]
  by_cases hn : n = 0
  · subst hn
    have hM0 : M = [] := List.eq_nil_of_length_eq_zero (by simpa using hM)
    subst hM0
    rw [if_pos rfl]
    rcases o with ⟨rfl, rfl⟩ | ⟨i, o, k, ob, rfl, h2, h3⟩
    · exact ⟨_, _, g, rfl, .inl ⟨rfl, rfl⟩, .refl g h, .inl rfl, rfl⟩
    · exact ⟨_, _, g, rfl, .inr ⟨i, o, k, ob, rfl, h2, by simpa using h3⟩, .refl g h, .inl rfl, rfl⟩
  · rw [if_neg hn]
    rcases o with ⟨rfl, rfl⟩ | ⟨i, o, k, ob, rfl, h2, h3, h4, h5, h6, h7⟩
    · simp only [slLen, Nat.zero_add] at hr
      refine ⟨.slice (some ⟨h.size, 0, none⟩) n sz, h.alloc M, h.size, by simp only [if_pos hr], ?_, (Ext.refl h).alloc M |>.toG, .inr rfl, by simp [slLen]⟩
      exact Own.new h sz n M (by simpa using hM)
    · simp only [slLen] at hr
      have hlt := Heap.get_lt h2
      refine ⟨.slice (some ⟨h.size, 0, none⟩) (k + n) sz, h.push i ob.grp (decide (o + k * sz = ob.cells.length)) ((ob.cells.drop o).take (k * sz) ++ M) (Nat.le_trans (Heap.grp_le h2) (Nat.le_of_lt hlt)), g, ?_, ?_, ?_, .inl rfl, rfl⟩
      · simp only
        split
        · rename_i ob' hg'
          rw [h2] at hg'; cases hg'
          rw [if_pos ⟨h3, h6, trivial, h4, hr⟩]
        · rename_i hg'; rw [h2] at hg'; cases hg'
      · refine .inr ⟨h.size, 0, k + n, _, rfl, Heap.get_push_new _ _ _ _ _ _, rfl, ?_, ?_, rfl, h7⟩
        · simp only [List.length_append, List.length_take, List.length_drop, hM, Nat.add_mul]; omega
        · rw [h5]
          simp only [List.drop_zero]
          have : L.length = k * sz := by rw [← h5]; simp; omega
          exact List.take_of_length_le (by simp only [List.length_append, hM, this, Nat.add_mul]; omega)
      · refine ⟨by rw [Heap.size_push]; omega, fun j ob' hj hg' => ?_⟩
        rw [Heap.get_push_old _ _ _ _ _ _ (Heap.get_lt hj) hj, if_neg]
        rintro ⟨e, _⟩; exact hg' (e.trans h7)

theorem Own.st (o : Own g h sz v L) {p n : Nat} {x : Value} (hp : p + n ≤ L.length) (hn : 0 < n) (hx : x.cells.size = n) (h1 : oneB x.cells.toList = true) :
    ∃ h', stV h n (ptrAt v p) x = some h' ∧ Own g h' sz v (splice L p x.cells.toList) ∧ ExtG g h h' ∧ h'.size = h.size := by
  rcases o with ⟨rfl, rfl⟩ | ⟨i, o, k, ob, rfl, h2, h3, h4, h5, h6, h7⟩
  · simp at hp; omega
  · have hL : L.length = k * sz := by rw [← h5]; simp; omega
    refine ⟨h.upd i ob.grp (splice ob.cells (o + p) x.cells.toList), ?_, ?_, ?_, Heap.size_upd _ _ _ _⟩
    · simp only [ptrAt, stV, h2]; rw [if_pos ⟨h3, h6, hx, by omega, h1⟩]
    · refine .inr ⟨i, o, k, { ob with cells := splice ob.cells (o + p) x.cells.toList }, rfl, by rw [Heap.get_upd, h2]; simp, h3, ?_, ?_, h6, h7⟩
      · rw [length_splice _ _ _ (by simp [hx]; omega)]; exact h4
      · apply List.ext_getElem?
        intro j
        simp only [List.getElem?_take, List.getElem?_drop]
        by_cases hj : j < k * sz
        · rw [if_pos hj]
          by_cases hj2 : p ≤ j ∧ j < p + n
          · obtain ⟨q, rfl⟩ : ∃ q, j = p + q := ⟨j - p, by omega⟩
            rw [← Nat.add_assoc, get_splice_in _ _ _ (by simp [hx]; omega) _ (by simp [hx]; omega), get_splice_in _ _ _ (by simp [hx]; omega) _ (by simp [hx]; omega)]
          · rw [get_splice_out _ _ _ (by simp [hx]; omega) _ (by simp [hx]; omega), get_splice_out _ _ _ (by simp [hx]; omega) _ (by simp [hx]; omega), ← h5, List.getElem?_take, if_pos hj, List.getElem?_drop]
        · rw [if_neg hj, List.getElem?_eq_none]
          rw [length_splice _ _ _ (by simp [hx]; omega)]; omega
    · refine ⟨by rw [Heap.size_upd]; exact Nat.le_refl _, fun j ob' hj hg' => ?_⟩
      rw [Heap.get_upd, hj]
      have hji : j ≠ i := by intro e; subst e; rw [h2] at hj; cases hj; exact hg' h7
      simp only [Option.map_some, if_neg hji]
      rw [if_neg (fun e => hg' (e.trans h7))]
end

/-! ### Slices of values of a kind -/
section
variable {α : Type} {enc : α → List Value} {sz : Nat}
theorem flat_len (hs : ∀ x, (enc x).length = sz) (l : List α) : (l.flatMap enc).length = l.length * sz := by
  induction l with
  | nil => simp
  | cons x l ih => simp [List.flatMap_cons, hs, ih, Nat.add_mul]; omega
theorem flat_get (hs : ∀ x, (enc x).length = sz) (l : List α) (j f : Nat) (hj : j < l.length) (hf : f < sz) : (l.flatMap enc)[j * sz + f]? = (enc l[j])[f]? := by
  induction l generalizing j with
  | nil => simp at hj
  | cons x l ih =>
    simp only [List.flatMap_cons]
    cases j with
    | zero => rw [Nat.zero_mul, Nat.zero_add, List.getElem?_append_left (by rw [hs]; exact hf)]; rfl
    | succ j =>
      rw [List.getElem?_append_right (by rw [hs, Nat.add_mul]; omega), hs]
      rw [show (j + 1) * sz + f - sz = j * sz + f by rw [Nat.add_mul]; omega]
      simpa using ih j (by simpa using hj)
theorem flat_piece (hs : ∀ x, (enc x).length = sz) (l : List α) (j : Nat) (hj : j < l.length) : ((l.flatMap enc).drop (j * sz)).take sz = enc l[j] := by
  apply List.ext_getElem?
  intro f
  simp only [List.getElem?_take, List.getElem?_drop]
  by_cases hf : f < sz
  · rw [if_pos hf, flat_get hs l j f hj hf]
  · rw [if_neg hf, List.getElem?_eq_none (by rw [hs]; omega)]
theorem flat_set (hs : ∀ x, (enc x).length = sz) (l : List α) (j f : Nat) (x : α) (vs : List Value) (hj : j < l.length) (hx : splice (enc l[j]) f vs = enc x) (hf : f + vs.length ≤ sz) :
    splice (l.flatMap enc) (j * sz + f) vs = (l.set j x).flatMap enc := by
  have hmul : j * sz + sz ≤ l.length * sz := by rw [← Nat.succ_mul]; exact Nat.mul_le_mul_right _ hj
  apply List.ext_getElem?
  intro k
  have hl : (l.flatMap enc).length = l.length * sz := flat_len hs l
  by_cases hk : k < l.length * sz
  · rcases Nat.eq_zero_or_pos sz with h0 | h0
    · subst h0; simp at hk
    · have hkd : k / sz < l.length := by rw [Nat.div_lt_iff_lt_mul h0]; exact hk
      have hkm := Nat.mod_lt k h0
      have hke : k = k / sz * sz + k % sz := by rw [Nat.mul_comm]; exact (Nat.div_add_mod k sz).symm
      generalize k / sz = q at hkd hke
      generalize k % sz = t at hkm hke
      subst hke
      rw [flat_get hs _ q t (by simpa using hkd) hkm]
      by_cases hq : q = j
      · subst hq
        simp only [List.getElem_set_self]
        rw [← hx]
        by_cases ht : f ≤ t ∧ t < f + vs.length
        · obtain ⟨u, rfl⟩ : ∃ u, t = f + u := ⟨t - f, by omega⟩
          rw [← Nat.add_assoc, get_splice_in _ _ _ (by omega) _ (by omega), get_splice_in _ _ _ (by rw [hs]; omega) _ (by omega)]
        · rw [get_splice_out _ _ _ (by omega) _ (by omega), get_splice_out _ _ _ (by rw [hs]; omega) _ (by omega), flat_get hs l q t hkd hkm]
      · have hne : q * sz + t < j * sz + f ∨ j * sz + f + vs.length ≤ q * sz + t := by
          rcases Nat.lt_or_gt_of_ne hq with hlt | hgt
          · left
            have : (q + 1) * sz ≤ j * sz := Nat.mul_le_mul_right _ hlt
            rw [Nat.add_mul] at this; omega
          · right
            have : (j + 1) * sz ≤ q * sz := Nat.mul_le_mul_right _ hgt
            rw [Nat.add_mul] at this; omega
        rw [get_splice_out _ _ _ (by omega) _ hne, flat_get hs l q t hkd hkm]
        rw [List.getElem_set_ne (by omega)]
  · rw [List.getElem?_eq_none (by rw [length_splice _ _ _ (by omega)]; omega), List.getElem?_eq_none (by rw [flat_len hs]; simp; omega)]

/-- What a slice of values tells the walk. -/
structure SlT (h : Heap) (enc : α → List Value) (sz : Nat) (v : Value) (l : List α) : Prop where
  sl : Sl h sz v (l.flatMap enc)
  hs : ∀ x, (enc x).length = sz
  pos : 0 < sz
variable {h : Heap} {v : Value} {l : List α}
theorem SlT.slLen (s : SlT h enc sz v l) : slLen v = l.length := by
  have := s.sl.lenL
  rw [flat_len s.hs] at this
  exact Nat.eq_of_mul_eq_mul_right s.pos this
theorem SlT.rules (s : SlT h enc sz v l) : lenV v = some (.int .i64 l.length) ∧ (∀ k (j : Int), 0 ≤ j → j < l.length → iaV sz v (.int k j) = some (ptrAt v (j.toNat * sz))) ∧
    (∀ f o, 0 < l.length → faV f (ptrAt v o) = some (ptrAt v (o + f))) ∧ (∀ j f (hj : j < l.length), f < sz → ldV h (ptrAt v (j * sz + f)) = (enc l[j])[f]?) ∧
    (∀ j (hj : j < l.length), ldV h (ptrAt v (j * sz)) = (enc l[j])[0]?) ∧ (∀ j (hj : j < l.length), ldnV h sz (ptrAt v (j * sz)) = some (.agg (enc l[j]).toArray)) := by
  have hl := s.slLen
  have hmul : ∀ j, j < l.length → j * sz + sz ≤ l.length * sz := fun j hj => by rw [← Nat.succ_mul]; exact Nat.mul_le_mul_right _ hj
  refine ⟨by rw [s.sl.len, hl], fun k j h0 h1 => s.sl.ia k j h0 (by rw [hl]; exact h1), fun f o h1 => s.sl.fa f o (by rw [hl]; exact h1), fun j f hj hf => ?_, fun j hj => ?_, fun j hj => ?_⟩
  · rw [s.sl.ld _ (by rw [flat_len s.hs]; have := hmul j hj; omega), flat_get s.hs l j f hj hf]
  · have := flat_get s.hs l j 0 hj s.pos
    rw [Nat.add_zero] at this
    rw [s.sl.ld _ (by rw [flat_len s.hs]; have := hmul j hj; have := s.pos; omega), this]
  · rw [s.sl.ldn _ _ (by rw [flat_len s.hs]; exact hmul j hj) s.pos, flat_piece s.hs l j hj]
theorem SlT.ext {h' : Heap} (s : SlT h enc sz v l) (e : Ext h h') : SlT h' enc sz v l := ⟨s.sl.ext e, s.hs, s.pos⟩

def encI (x : Int) : List Value := [.int .i64 x]
theorem encI_len (x : Int) : (encI x).length = 1 := rfl
end
end Go.Ah
