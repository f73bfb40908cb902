import Derived.Test.YtdagajblnlemaaaAhU
import Derived.ChangeSlices
set_option linter.unusedVariables false
set_option linter.unusedSimpArgs false
namespace Go.Ah
open Go Go.RowKit

/-! ### The beginning: what came in -/
/-- Objects that are only read, each alone in its group. -/
def Heap.ro (L : List (List Value)) : Heap where
  objs := L.mapIdx fun i cs => ⟨cs, i, false, true⟩
  wf := by
    intro i o e
    rw [List.getElem?_mapIdx] at e
    cases hq : L[i]? with
    | none => rw [hq] at e; simp at e
    | some x => rw [hq] at e; simp at e; subst e; exact Nat.le_refl _
theorem Heap.get_ro (L : List (List Value)) (i : Nat) : (Heap.ro L).get i = (L[i]?).map fun cs => ⟨cs, i, false, true⟩ := by
  simp [Heap.ro, Heap.get, List.getElem?_mapIdx]
theorem Heap.size_ro (L : List (List Value)) : (Heap.ro L).size = L.length := by simp [Heap.ro, Heap.size]

theorem Rel.start (W : World) (gl : Gl W) (L : List (List Value)) (m : Map) (hm : ∀ i, L.length ≤ i → m i = none)
    (H : ∀ i (hi : i < L.length), ∃ b o S c e f, m i = some (b, o, S) ∧ W.heap[b]? = some (.cells c e f) ∧ c.size = S ∧ o + L[i].length ≤ S ∧
      ∀ j v, L[i][j]? = some v → v.oneCell' = true ∧ ∃ v', W.cell? ⟨b, o + j, none⟩ = some v' ∧ VR m v v') : Rel W m (Heap.ro L) W := by
  have key : ∀ i b o S, m i = some (b, o, S) → ∃ hi : i < L.length, ∃ c e f, W.heap[b]? = some (.cells c e f) ∧ c.size = S ∧ o + L[i].length ≤ S ∧
      ∀ j v, L[i][j]? = some v → v.oneCell' = true ∧ ∃ v', W.cell? ⟨b, o + j, none⟩ = some v' ∧ VR m v v' := by
    intro i b o S e
    by_cases hi : i < L.length
    · obtain ⟨b', o', S', c, e1, f, h1, h2⟩ := H i hi
      rw [e] at h1; cases h1
      exact ⟨hi, c, e1, f, h2⟩
    · rw [hm i (by omega)] at e; cases e
  have got : ∀ i obj, (Heap.ro L).get i = some obj → ∃ hi : i < L.length, obj = ⟨L[i], i, false, true⟩ := by
    intro i obj e
    rw [Heap.get_ro, Option.map_eq_some_iff] at e
    obtain ⟨cs, h1, h2⟩ := e
    obtain ⟨hi, rfl⟩ := List.getElem?_eq_some_iff.mp h1
    exact ⟨hi, h2.symm⟩
  refine ⟨⟨rfl, rfl, rfl, Nat.le_refl _, fun k hk => rfl⟩, ?_, ?_, ?_, ?_, ?_, ?_, ?_, ?_, ?_, gl⟩
  · rintro i ⟨b, o, S⟩ e
    obtain ⟨hi, _⟩ := key i b o S e
    rw [Heap.size_ro]; exact hi
  · intro i b o S e
    obtain ⟨hi, c, e1, f, h1, h2, _⟩ := key i b o S e
    exact ⟨c, e1, f, h1, h2⟩
  · intro i b o S obj e hg hl
    obtain ⟨hi, c, e1, f, h1, h2, h3, h4⟩ := key i b o S e
    obtain ⟨_, rfl⟩ := got i obj hg
    exact ⟨h3, fun j v ej => (h4 j v ej).2⟩
  · intro i b o S obj e hg hl j v ej
    obtain ⟨hi, c, e1, f, h1, h2, h3, h4⟩ := key i b o S e
    obtain ⟨_, rfl⟩ := got i obj hg
    exact (h4 j v ej).1
  · intro i b o S obj e hg hrw
    obtain ⟨_, rfl⟩ := got i obj hg
    cases hrw
  · intro i k b o S o' S' oi ok e1 e2 g1 g2 hrw
    obtain ⟨_, rfl⟩ := got i oi g1
    cases hrw
  · intro i k b o S o' S' oi ok hik e1 e2 g1 g2 l1 l2 hg
    obtain ⟨_, rfl⟩ := got i oi g1
    obtain ⟨_, rfl⟩ := got k ok g2
    simp only at hg; omega
  · intro i k b o S o' S' e1 e2
    obtain ⟨_, c, t, f, h1, h2, _⟩ := key i b o S e1
    obtain ⟨_, c', t', f', h1', h2', _⟩ := key k b o' S' e2
    rw [h1] at h1'; cases h1'; omega
  · intro i k oi ok hne hn g1 g2
    obtain ⟨hk, _⟩ := got k ok g2
    obtain ⟨b, o, S, _, _, _, h1, _⟩ := H k hk
    rw [hn] at h1; cases h1

/-- A law's call, from the world it is called in. -/
theorem ACall.law {P : Program} {f : FuncId} {args args' : List Value} {h : Heap} {m : Map} {W : World} (r : Rel W m h W) (va : VRs m args args')
    (H : ACall P f args h fun r _ => r = .bool true) : Calls P f args'.toArray W fun e w' => e = .returned (.bool true) ∧ Below W.heap.size W w' := by
  refine (H W m W args' r va).mono ?_
  rintro e w' ⟨v', v, h', m', rfl, R, _, hv, rfl⟩
  cases hv
  exact ⟨rfl, R.below⟩

/-! ### A slice of structs of whole numbers, opened -/
def flatB (P : Program) (e : TypeId) (n : Nat) : Bool := match P.underlying e with
  | some (.struct fs) => fs.size == n && P.cellsOf e == n && decide (0 < n) && fs.toList.zipIdx.all fun p => p.1.offset == p.2 && P.cellsOf p.1.type == 1 && (match P.underlying p.1.type with | some (.int .i64) => true | _ => false)
  | _ => false
theorem cell_block {W : World} {a : Addr} {v : Value} (h : W.cell? a = some v) : a.spot = none ∧ ∃ c e f, W.heap[a.block]? = some (.cells c e f) ∧ a.off < c.size := by
  obtain ⟨b, o, sp⟩ := a
  have hs := World.cell?_spot h
  refine ⟨hs, ?_⟩
  simp only at hs; subst hs
  unfold World.cell? at h
  simp only at h
  split at h
  · rename_i c e f hb
    exact ⟨c, e, f, hb, (Array.getElem?_eq_some_iff.mp h).1⟩
  · cases h
theorem open_flat {H : Type} {enc : TypeId × Value → H} {P : Program} {W : World} {t e : TypeId} {n fuel : Nat} {cs : List Value} {x : DataW H × List MemPlace}
    (ht : P.underlying t = some (.slice e)) (hf : flatB P e n = true) (h : DataW.trod enc P W 0 (fun _ => true) true fuel t cs = some x) :
    cs = [.slice none 0 0] ∨ (∃ a, cs = [.slice (some a) 0 0]) ∨ ∃ (b o len cap S : Nat) (z : Nat → Int), cs = [.slice (some ⟨b, o, none⟩) len cap] ∧ len ≤ cap ∧ cap ≤ maxLen ∧ o + cap * n ≤ S ∧
      (∃ c e f, W.heap[b]? = some (.cells c e f) ∧ c.size = S) ∧ ∀ j, j < cap * n → W.cell? ⟨b, o + j, none⟩ = some (.int .i64 (z j)) := by
  unfold flatB at hf
  split at hf
  · rename_i fs hu
    simp only [Bool.and_eq_true, beq_iff_eq, decide_eq_true_eq, List.all_eq_true] at hf
    obtain ⟨⟨⟨hn, hc⟩, hpos⟩, hfs⟩ := hf
    rcases DataW.trod_slice ht h with h0 | ⟨a, len, cap, elems, rest, k, _, rfl, rfl, hb, hl, hm, hlen, hel, hsp, hns⟩
    · exact .inl h0.1
    right
    by_cases hcap : cap = 0
    · subst hcap
      have : len = 0 := by omega
      subst this
      exact .inl ⟨a, rfl⟩
    right
    have hr := hsp rfl
    have one : ∀ i, i < cap → ∃ y, (W.cells? 0 (a.add (i * n)) n).bind (DataW.trod enc P W 0 (fun _ => true) true k e) = some y := by
      intro i hi
      rw [hc] at hel
      by_cases hi2 : i < len
      · have := hel i hi2
        rw [List.getElem?_eq_getElem (by omega)] at this
        exact ⟨_, this⟩
      · have := hr.2 (i - len) (by omega)
        rw [hc, show len + (i - len) = i by omega, List.getElem?_eq_getElem (by have := hr.1; omega)] at this
        exact ⟨_, this⟩
    have cell : ∀ i, i < cap → ∀ j, j < n → ∃ z, W.cell? ((a.add (i * n)).add j) = some (.int .i64 z) := by
      intro i hi j hj
      obtain ⟨y, hy⟩ := one i hi
      obtain ⟨cs, h1, h2⟩ := Option.bind_eq_some_iff.mp hy
      obtain ⟨_, hl2, hcell⟩ := World.cells?_some h1
      obtain ⟨xs, k2, _, _, _, hxl, hx⟩ := DataW.trod_struct hu h2
      have hjs : j < fs.size := by omega
      have hfj := hfs (fs[j], j) (by rw [List.mem_zipIdx_iff_getElem?]; simp [hjs])
      simp only at hfj
      obtain ⟨⟨f1, f2⟩, f3⟩ := hfj
      have hxj := hx j fs[j] (Array.getElem?_eq_getElem hjs)
      rw [f1, f2, List.getElem?_eq_getElem (by omega)] at hxj
      split at f3
      · rename_i hk
        obtain ⟨z, hz, _, _⟩ := DataW.trod_int hk hxj
        refine ⟨z, ?_⟩
        rw [hcell j hj]
        have := congrArg (fun l : List Value => l[0]?) hz
        simpa [List.getElem?_take, List.getElem?_drop] using this
      · cases f3
    obtain ⟨z0, hz0⟩ := cell 0 (by omega) 0 hpos
    have ha : a.spot = none := by
      have := (cell_block hz0).1
      simpa [Addr.add] using this
    obtain ⟨b, o, sp⟩ := a
    simp only at ha; subst ha
    have cell2 : ∀ j, j < cap * n → ∃ z, W.cell? ⟨b, o + j, none⟩ = some (.int .i64 z) := by
      intro j hj
      have hd : j / n < cap := by rw [Nat.div_lt_iff_lt_mul hpos]; exact hj
      obtain ⟨z, hz⟩ := cell (j / n) hd (j % n) (Nat.mod_lt _ hpos)
      rw [Go.WideShapes.add_plain, Go.WideShapes.add_plain] at hz
      refine ⟨z, ?_⟩
      have : o + j / n * n + j % n = o + j := by have := Nat.div_add_mod j n; rw [Nat.mul_comm] at this; omega
      rw [this] at hz; exact hz
    have hcn : 0 < cap * n := Nat.mul_pos (by omega) hpos
    obtain ⟨zl, hzl⟩ := cell2 (cap * n - 1) (by omega)
    obtain ⟨_, c, e1, f, hb1, hsz⟩ := cell_block hzl
    refine ⟨b, o, len, cap, c.size, fun j => if hj : j < cap * n then (cell2 j hj).choose else 0, rfl, hl, hm, by simp only at hsz; omega, ⟨c, e1, f, hb1, rfl⟩, fun j hj => ?_⟩
    simp only [hj, dite_true]
    exact (cell2 j hj).choose_spec
  · cases hf
theorem flat_range {α : Type} {enc : α → List Value} {sz : Nat} (hs : ∀ x, (enc x).length = sz) (mkk : Nat → α) (zz : Nat → Value) (h : ∀ i f, f < sz → (enc (mkk i))[f]? = some (zz (i * sz + f))) (n : Nat) :
    ((List.range n).map mkk).flatMap enc = (List.range (n * sz)).map zz := by
  induction n with
  | zero => simp
  | succ n ih =>
    rw [List.range_succ, List.map_append, List.flatMap_append, ih, Nat.succ_mul, List.range_add, List.map_append]
    congr 1
    simp only [List.map_cons, List.map_nil, List.flatMap_cons, List.flatMap_nil, List.append_nil, List.map_map]
    apply List.ext_getElem?
    intro f
    by_cases hf : f < sz
    · rw [h n f hf]; simp [hf]
    · rw [List.getElem?_eq_none (by rw [hs]; omega), List.getElem?_eq_none (by simp; omega)]
end Go.Ah
