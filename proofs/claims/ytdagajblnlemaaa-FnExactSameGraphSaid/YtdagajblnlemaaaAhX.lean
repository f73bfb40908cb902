import Derived.Test.YtdagajblnlemaaaAhW
set_option linter.unusedVariables false
set_option linter.unusedSimpArgs false
namespace Go.Ah
open Go Go.RowKit

/-! ### What came in, of any shape -/
inductive Shp where
  | int (k : IntKind) | flt (k : FloatKind) | bool | str | slc (e : Shp) | st (c : Shp) | cat (a b : Shp) | nil
def Shp.size : Shp → Nat
  | .int _ | .flt _ | .bool | .str | .slc _ => 1
  | .st c => c.size
  | .cat a b => a.size + b.size
  | .nil => 0
/-- Is a type of that shape? -/
def fitB (P : Program) : Shp → TypeId ⊕ (List Field × Nat) → Bool
  | .int k, .inl t => match P.underlying t with | some (.int k') => decide (k = k') | _ => false
  | .flt k, .inl t => match P.underlying t with | some (.float k') => decide (k = k') | _ => false
  | .bool, .inl t => match P.underlying t with | some .bool => true | _ => false
  | .str, .inl t => match P.underlying t with | some .string => true | _ => false
  | .slc e, .inl t => match P.underlying t with | some (.slice u) => fitB P e (.inl u) && P.cellsOf u == e.size && decide (0 < e.size) | _ => false
  | .st c, .inl t => match P.underlying t with | some (.struct fs) => fitB P c (.inr (fs.toList, 0)) && P.cellsOf t == c.size | _ => false
  | .cat a b, .inr (f :: fs, o) => f.offset == o && P.cellsOf f.type == a.size && fitB P a (.inl f.type) && fitB P b (.inr (fs, o + a.size))
  | .nil, .inr ([], _) => true
  | _, _ => false
/-- Cells that read as a shape. -/
def Rds (h : Heap) : Shp → List Value → Prop
  | .int k, cs => ∃ n, cs = [.int k n] ∧ (Lit.int k n).wf = true
  | .flt k, cs => ∃ n, cs = [.float k n] ∧ (Lit.float k n).wf = true
  | .bool, cs => ∃ b, cs = [.bool b]
  | .str, cs => ∃ s : ByteArray, cs = [.string s] ∧ s.size ≤ maxLen
  | .slc e, cs => ∃ (v : Value) (Ls : List (List Value)), cs = [v] ∧ Sl h e.size v Ls.flatten ∧ slLen v = Ls.length ∧ Ls.length ≤ maxLen ∧ ∀ x ∈ Ls, x.length = e.size ∧ Rds h e x
  | .st c, cs => Rds h c cs
  | .cat a b, cs => ∃ c1 c2, cs = c1 ++ c2 ∧ Rds h a c1 ∧ Rds h b c2
  | .nil, cs => cs = []
theorem Rds.ext {h h' : Heap} (e : Ext h h') : ∀ (s : Shp) (cs : List Value), Rds h s cs → Rds h' s cs := by
  intro s
  induction s with
  | slc s ih => rintro cs ⟨v, Ls, h1, h2, h3, h4, h5⟩; exact ⟨v, Ls, h1, h2.ext e, h3, h4, fun x hx => ⟨(h5 x hx).1, ih x (h5 x hx).2⟩⟩
  | st c ih => exact ih
  | cat a b iha ihb => rintro cs ⟨c1, c2, h1, h2, h3⟩; exact ⟨c1, c2, h1, iha _ h2, ihb _ h3⟩
  | _ => exact fun cs h => h

def Good (W : World) (L : List (List Value)) (m : Map) : Prop := (∀ i, L.length ≤ i → m i = none) ∧ ∀ i (hi : i < L.length), ∃ b o S c e f, m i = some (b, o, S) ∧ W.heap[b]? = some (.cells c e f) ∧ c.size = S ∧ o + L[i].length ≤ S ∧
  ∀ j v, L[i][j]? = some v → v.oneCell' = true ∧ ∃ v', W.cell? ⟨b, o + j, none⟩ = some v' ∧ VR m v v'
structure Grow (L : List (List Value)) (m : Map) (L' : List (List Value)) (m' : Map) : Prop where
  pre : ∃ T, L' = L ++ T
  old : ∀ i, i < L.length → m' i = m i
theorem Grow.refl (L : List (List Value)) (m : Map) : Grow L m L m := ⟨⟨[], by simp⟩, fun _ _ => rfl⟩
theorem Grow.trans {L L1 L2 : List (List Value)} {m m1 m2 : Map} (a : Grow L m L1 m1) (b : Grow L1 m1 L2 m2) : Grow L m L2 m2 := by
  obtain ⟨⟨T, rfl⟩, ha⟩ := a; obtain ⟨⟨T', rfl⟩, hb⟩ := b
  exact ⟨⟨T ++ T', by simp⟩, fun i hi => (hb i (by simp; omega)).trans (ha i hi)⟩
theorem Grow.le {W : World} {L L1 : List (List Value)} {m m1 : Map} (a : Grow L m L1 m1) (g : Good W L m) : m.le m1 := by
  intro i x e
  by_cases hi : i < L.length
  · rw [a.old i hi]; exact e
  · rw [g.1 i (by omega)] at e; cases e
theorem Grow.ext {L L1 : List (List Value)} {m m1 : Map} (a : Grow L m L1 m1) : Ext (Heap.ro L) (Heap.ro L1) := by
  obtain ⟨⟨T, rfl⟩, _⟩ := a
  refine ⟨by rw [Heap.size_ro, Heap.size_ro]; simp, fun i hi => ?_⟩
  rw [Heap.size_ro] at hi
  rw [Heap.get_ro, Heap.get_ro, List.getElem?_append_left hi]
theorem flatten_get {n : Nat} (hn : 0 < n) : ∀ (Ls : List (List Value)), (∀ x ∈ Ls, x.length = n) → ∀ j, Ls.flatten[j]? = (Ls[j / n]?).bind (·[j % n]?) := by
  intro Ls
  induction Ls with
  | nil => intro _ j; simp
  | cons x Ls ih =>
    intro h j
    have hx := h x (by simp)
    rw [List.flatten_cons, List.getElem?_append]
    split
    · rename_i hj
      rw [hx] at hj
      rw [Nat.div_eq_of_lt hj, Nat.mod_eq_of_lt hj]; rfl
    · rename_i hj
      rw [hx] at hj ⊢
      rw [ih (fun y hy => h y (by simp [hy])) (j - n)]
      have h1 : j / n = (j - n) / n + 1 := by rw [Nat.div_eq_sub_div hn (by omega)]
      have h2 : j % n = (j - n) % n := by rw [Nat.mod_eq_sub_mod (by omega)]
      rw [h1, h2]; rfl
theorem flatten_len {n : Nat} : ∀ (Ls : List (List Value)), (∀ x ∈ Ls, x.length = n) → Ls.flatten.length = Ls.length * n := by
  intro Ls
  induction Ls with
  | nil => intro _; simp
  | cons x Ls ih => intro h; rw [List.flatten_cons, List.length_append, ih (fun y hy => h y (by simp [hy])), h x (by simp), List.length_cons, Nat.succ_mul]; omega

section
variable {H : Type} {enc : TypeId × Value → H} {P : Program} {W : World}
def OneAll (cs : List Value) : Prop := ∀ (j : Nat) v, cs[j]? = some v → v.oneCell' = true
theorem OneAll.one {v : Value} (h : v.oneCell' = true) : OneAll [v] := by
  intro j u e
  cases j with
  | zero => simp at e; subst e; exact h
  | succ j => simp at e
theorem OneAll.append {a b : List Value} (ha : OneAll a) (hb : OneAll b) : OneAll (a ++ b) := by
  intro j v e
  rw [List.getElem?_append] at e
  split at e
  · exact ha _ _ e
  · exact hb _ _ e
def Opened (P : Program) (W : World) (s : Shp) (cs : List Value) : Prop := ∀ L m, Good W L m → ∃ L' m' cs', Good W L' m' ∧ Grow L m L' m' ∧ VRs m' cs' cs ∧ Rds (Heap.ro L') s cs' ∧ cs.length = s.size ∧ OneAll cs'
theorem trod_flt {base : Nat} {sp : Nat → Bool} {held : Bool} {n : Nat} {t : TypeId} {cs : List Value} {x : DataW H × List MemPlace} {k : FloatKind} (ht : P.underlying t = some (.float k)) (h : DataW.trod enc P W base sp held n t cs = some x) :
    ∃ n, cs = [.float k n] ∧ x = (.lit (.float k n), []) ∧ (Lit.float k n).wf = true := by
  cases n with
  | zero => simp [DataW.trod] at h
  | succ n =>
    unfold DataW.trod at h
    rw [ht] at h
    split at h <;> simp_all
theorem open_fields (n : Nat) (ih : ∀ s t cs x, fitB P s (.inl t) = true → DataW.trod enc P W 0 (fun _ => true) true n t cs = some x → Opened P W s cs) :
    ∀ (c : Shp) (fs : List Field) (o : Nat) (cs : List Value), fitB P c (.inr (fs, o)) = true → cs.length = o + c.size →
      (∀ f ∈ fs, ∃ x, DataW.trod enc P W 0 (fun _ => true) true n f.type ((cs.drop f.offset).take (P.cellsOf f.type)) = some x) →
      ∀ L m, Good W L m → ∃ L' m' cs', Good W L' m' ∧ Grow L m L' m' ∧ VRs m' cs' (cs.drop o) ∧ Rds (Heap.ro L') c cs' ∧ OneAll cs' := by
  intro c
  induction c with
  | cat a b iha ihb =>
    intro fs o cs hf hl hx L m g
    cases fs with
    | nil => simp [fitB] at hf
    | cons f fs =>
      simp only [fitB, Bool.and_eq_true, beq_iff_eq] at hf
      obtain ⟨⟨⟨f1, f2⟩, f3⟩, f4⟩ := hf
      obtain ⟨x, hx1⟩ := hx f (by simp)
      rw [f1, f2] at hx1
      obtain ⟨L1, m1, c1, g1, w1, v1, r1, _, o1⟩ := ih a f.type _ x f3 hx1 L m g
      simp only [Shp.size] at hl
      obtain ⟨L2, m2, c2, g2, w2, v2, r2, o2⟩ := ihb fs (o + a.size) cs f4 (by omega) (fun f hf => hx f (by simp [hf])) L1 m1 g1
      refine ⟨L2, m2, c1 ++ c2, g2, w1.trans w2, ?_, ⟨c1, c2, rfl, Rds.ext w2.ext _ _ r1, r2⟩, o1.append o2⟩
      have := (v1.mono (w2.le g1)).append v2
      rw [show cs.drop o = (cs.drop o).take a.size ++ cs.drop (o + a.size) by rw [← List.drop_drop, List.take_append_drop]]
      exact this
  | nil =>
    intro fs o cs hf hl hx L m g
    simp only [Shp.size] at hl
    refine ⟨L, m, [], g, .refl L m, ?_, rfl, fun j v e => by simp at e⟩
    rw [List.drop_eq_nil_of_le (by omega)]; exact .nil m
  | _ => intro fs o cs hf; cases fs <;> simp [fitB] at hf

theorem open_shp : ∀ (fuel : Nat) (s : Shp) (t : TypeId) (cs : List Value) (x : DataW H × List MemPlace), fitB P s (.inl t) = true → DataW.trod enc P W 0 (fun _ => true) true fuel t cs = some x → Opened P W s cs := by
  intro fuel
  induction fuel with
  | zero => intro s t cs x hf h; simp [DataW.trod] at h
  | succ n ih =>
    intro s t cs x hf h L m g
    cases s with
    | int k =>
      simp only [fitB] at hf
      split at hf
      · rename_i k' hu
        have hk := of_decide_eq_true hf
        subst hk
        obtain ⟨z, rfl, _, hw⟩ := DataW.trod_int hu h
        exact ⟨L, m, [.int k z], g, .refl L m, .cons (.int _ _) (.nil m), ⟨z, rfl, hw⟩, rfl, .one rfl⟩
      · cases hf
    | flt k =>
      simp only [fitB] at hf
      split at hf
      · rename_i k' hu
        have hk := of_decide_eq_true hf
        subst hk
        obtain ⟨z, rfl, _, hw⟩ := trod_flt hu h
        exact ⟨L, m, [.float k z], g, .refl L m, .cons (.float _ _ _ (.inl rfl)) (.nil m), ⟨z, rfl, hw⟩, rfl, .one rfl⟩
      · cases hf
    | bool =>
      simp only [fitB] at hf
      split at hf
      · rename_i hu
        obtain ⟨z, rfl, _⟩ := DataW.trod_bool hu h
        exact ⟨L, m, [.bool z], g, .refl L m, .cons (.bool _) (.nil m), ⟨z, rfl⟩, rfl, .one rfl⟩
      · cases hf
    | str =>
      simp only [fitB] at hf
      split at hf
      · rename_i hu
        obtain ⟨z, rfl, _, hw⟩ := DataW.trod_string hu h
        exact ⟨L, m, [.string z], g, .refl L m, .cons (.string _) (.nil m), ⟨z, rfl, hw⟩, rfl, .one rfl⟩
      · cases hf
    | st c =>
      simp only [fitB] at hf
      split at hf
      · rename_i fs hu
        simp only [Bool.and_eq_true, beq_iff_eq] at hf
        obtain ⟨xs, k, hk, _, hl, hxl, hx⟩ := DataW.trod_struct hu h
        have hk : k = n := by omega
        subst hk
        obtain ⟨L1, m1, c1, g1, w1, v1, r1, o1⟩ := open_fields k ih c fs.toList 0 cs hf.1 (by rw [hl]; omega) (fun f hfm => by
          obtain ⟨i, hi, rfl⟩ := List.mem_iff_getElem.mp hfm
          have hi' : i < fs.size := by simpa using hi
          have := hx i fs[i] (Array.getElem?_eq_getElem hi')
          rw [List.getElem?_eq_getElem (by omega)] at this
          exact ⟨_, by simpa using this⟩) L m g
        exact ⟨L1, m1, c1, g1, w1, by simpa using v1, r1, by rw [hl, hf.2]; rfl, o1⟩
      · cases hf
    | slc e =>
      simp only [fitB] at hf
      split at hf
      · rename_i u hu
        simp only [Bool.and_eq_true, beq_iff_eq, decide_eq_true_eq] at hf
        obtain ⟨⟨fe, hc⟩, hpos⟩ := hf
        rcases DataW.trod_slice hu h with ⟨rfl, _⟩ | ⟨a, len, cap, elems, rest, k, hk, rfl, _, hb, hl, hm, hlen, hel, hsp, _⟩
        · exact ⟨L, m, [.slice none 0 0], g, .refl L m, .cons .snone (.nil m), ⟨_, [], rfl, Sl.nil _ _, rfl, by simp, fun x hx => by cases hx⟩, rfl, .one rfl⟩
        have hk : k = n := by omega
        subst hk
        by_cases hcap : cap = 0
        · subst hcap
          have : len = 0 := by omega
          subst this
          exact ⟨L, m, [.slice (some ⟨0, 0, some 0⟩) 0 e.size], g, .refl L m, .cons (.sempty _ _) (.nil m), ⟨_, [], rfl, Sl.empty _ _, rfl, by simp, fun x hx => by cases hx⟩, rfl, .one rfl⟩
        have hr := hsp rfl
        rw [hc] at hel
        have one : ∀ i, i < cap → ∃ cs, W.cells? 0 (a.add (i * e.size)) e.size = some cs := by
          intro i hi
          by_cases hi2 : i < len
          · have := hel i hi2
            rw [List.getElem?_eq_getElem (by omega)] at this
            obtain ⟨cs, h1, _⟩ := Option.bind_eq_some_iff.mp this
            exact ⟨cs, h1⟩
          · have := hr.2 (i - len) (by omega)
            rw [hc, show len + (i - len) = i by omega, List.getElem?_eq_getElem (by have := hr.1; omega)] at this
            obtain ⟨cs, h1, _⟩ := Option.bind_eq_some_iff.mp this
            exact ⟨cs, h1⟩
        obtain ⟨q0, hq0⟩ := one 0 (by omega)
        obtain ⟨_, hq1, hq2⟩ := World.cells?_some hq0
        have ha : a.spot = none := by
          have h3 := hq2 0 hpos
          rw [List.getElem?_eq_getElem (by omega)] at h3
          have := (cell_block h3).1
          simpa [Addr.add] using this
        obtain ⟨b, o, sp⟩ := a
        simp only at ha; subst ha
        have cellAt : ∀ i, i < cap → ∃ cs, cs.length = e.size ∧ W.cells? 0 ((⟨b, o, none⟩ : Addr).add (i * e.size)) e.size = some cs ∧ ∀ j, j < e.size → W.cell? ⟨b, o + (i * e.size + j), none⟩ = cs[j]? := by
          intro i hi
          obtain ⟨cs, h1⟩ := one i hi
          obtain ⟨_, h2, h3⟩ := World.cells?_some h1
          refine ⟨cs, h2, h1, fun j hj => ?_⟩
          have := h3 j hj
          rw [Go.WideShapes.add_plain, Go.WideShapes.add_plain] at this
          rw [← this, Nat.add_assoc]
        obtain ⟨ql, hql, _, hqc⟩ := cellAt (cap - 1) (by omega)
        have hlast := hqc (e.size - 1) (by omega)
        rw [List.getElem?_eq_getElem (by omega)] at hlast
        obtain ⟨_, c, te, f, hb1, hsz⟩ := cell_block hlast
        simp only at hsz hb1
        have hmul : (cap - 1) * e.size + e.size = cap * e.size := by rw [← Nat.succ_mul]; congr 1; omega
        have key : ∀ k2, k2 ≤ len → ∃ L' m', ∃ Ls : List (List Value), Good W L' m' ∧ Grow L m L' m' ∧ Ls.length = k2 ∧ (∀ x ∈ Ls, x.length = e.size ∧ OneAll x ∧ Rds (Heap.ro L') e x) ∧
            ∀ i (hi : i < Ls.length), ∀ j v, Ls[i][j]? = some v → ∃ v', W.cell? ⟨b, o + (i * e.size + j), none⟩ = some v' ∧ VR m' v v' := by
          intro k2
          induction k2 with
          | zero => intro _; exact ⟨L, m, [], g, .refl L m, rfl, (fun x hx => by cases hx), (fun i hi => by simp at hi)⟩
          | succ k2 ihk =>
            intro hk2
            obtain ⟨L1, m1, Ls, g1, w1, hls, r1, v1⟩ := ihk (by omega)
            have := hel k2 (by omega)
            rw [List.getElem?_eq_getElem (by omega)] at this
            obtain ⟨cs, h1, h2⟩ := Option.bind_eq_some_iff.mp this
            obtain ⟨cs', hcl, h1', hcell⟩ := cellAt k2 (by omega)
            rw [h1] at h1'; cases h1'
            obtain ⟨L2, m2, c2, g2, w2, v2, r2, l2, o2⟩ := ih e u cs _ fe h2 L1 m1 g1
            have hc2 : c2.length = e.size := by rw [v2.1]; exact l2
            refine ⟨L2, m2, Ls ++ [c2], g2, w1.trans w2, by simp [hls], fun x hx => ?_, fun i hi j v ej => ?_⟩
            · simp only [List.mem_append, List.mem_singleton] at hx
              rcases hx with hx | rfl
              · exact ⟨(r1 x hx).1, (r1 x hx).2.1, Rds.ext w2.ext _ _ (r1 x hx).2.2⟩
              · exact ⟨hc2, o2, r2⟩
            · by_cases hi2 : i < Ls.length
              · rw [List.getElem_append_left hi2] at ej
                obtain ⟨v', e1, e2⟩ := v1 i hi2 j v ej
                exact ⟨v', e1, e2.mono (w2.le g1)⟩
              · have hii : i = Ls.length := by simp at hi; omega
                subst hii
                simp only [List.getElem_concat_length] at ej
                obtain ⟨v', e1, e2⟩ := v2.2 j v ej
                have hj := (List.getElem?_eq_some_iff.mp ej).1
                exact ⟨v', by rw [hls, hcell j (by omega)]; exact e1, e2⟩
        obtain ⟨L1, m1, Ls, g1, w1, hls, r1, v1⟩ := key len (Nat.le_refl _)
        have hall : ∀ x ∈ Ls, x.length = e.size := fun x hx => (r1 x hx).1
        have hfl : Ls.flatten.length = len * e.size := by rw [flatten_len Ls hall, hls]
        have hm1 : m1 L1.length = none := g1.1 _ (Nat.le_refl _)
        have hle : m1.le (m1.set L1.length (b, o, c.size)) := Map.le_set hm1
        have hmulle : len * e.size ≤ cap * e.size := Nat.mul_le_mul_right _ hl
        have w2 : Grow L1 m1 (L1 ++ [Ls.flatten]) (m1.set L1.length (b, o, c.size)) := ⟨⟨_, rfl⟩, fun i hi => Map.set_other _ _ (by omega)⟩
        refine ⟨L1 ++ [Ls.flatten], m1.set L1.length (b, o, c.size), [.slice (some ⟨L1.length, 0, none⟩) len e.size], ⟨fun i hi => ?_, fun i hi => ?_⟩, w1.trans w2, ?_, ?_, rfl, .one rfl⟩
        · simp at hi
          rw [Map.set_other _ _ (by omega)]; exact g1.1 i (by omega)
        · by_cases hi2 : i < L1.length
          · obtain ⟨b', o', S', c', e', f', k1, k2, k3, k4, k5⟩ := g1.2 i hi2
            refine ⟨b', o', S', c', e', f', by rw [Map.set_other _ _ (by omega)]; exact k1, k2, k3, by rw [List.getElem_append_left hi2]; exact k4, fun j v ej => ?_⟩
            rw [List.getElem_append_left hi2] at ej
            obtain ⟨q1, v', q2, q3⟩ := k5 j v ej
            exact ⟨q1, v', q2, q3.mono hle⟩
          · have hii : i = L1.length := by simp at hi; omega
            subst hii
            refine ⟨b, o, c.size, c, te, f, Map.set_same _ _ _, hb1, rfl, ?_, fun j v ej => ?_⟩
            · simp only [List.getElem_concat_length, hfl]; omega
            · simp only [List.getElem_concat_length] at ej
              rw [flatten_get hpos Ls hall] at ej
              obtain ⟨x, hx, hj⟩ := Option.bind_eq_some_iff.mp ej
              obtain ⟨hlt, rfl⟩ := List.getElem?_eq_some_iff.mp hx
              obtain ⟨v', q2, q3⟩ := v1 _ hlt _ v hj
              refine ⟨(r1 _ (List.getElem_mem hlt)).2.1 _ v hj, v', ?_, q3.mono hle⟩
              rw [show j = j / e.size * e.size + j % e.size by rw [Nat.mul_comm]; exact (Nat.div_add_mod j e.size).symm]; exact q2
        · refine .cons ?_ (.nil _)
          have := VR.slice (m := m1.set L1.length (b, o, c.size)) L1.length 0 len e.size b o c.size o cap (Map.set_same _ _ _) hl (.inr ⟨rfl, by omega⟩)
          exact this
        · refine ⟨_, Ls, rfl, .inr (.inr ⟨L1.length, 0, len, ⟨Ls.flatten, L1.length, false, true⟩, rfl, ?_, rfl, ?_, ?_⟩), by rw [hls]; rfl, by rw [hls]; omega, fun x hx => ⟨(r1 x hx).1, Rds.ext w2.ext _ _ (r1 x hx).2.2⟩⟩
          · rw [Heap.get_ro]; simp
          · simp [hfl]
          · simp only [List.drop_zero]; exact List.take_of_length_le (by rw [hfl]; exact Nat.le_refl _)
      · cases hf
    | cat a b => simp [fitB] at hf
    | nil => simp [fitB] at hf

/-- A value that reads as a shape. -/
def RdV (h : Heap) (s : Shp) (w : Value) : Prop := match s with
  | .st c => ∃ cs, w = .agg cs.toArray ∧ Rds h c cs
  | _ => Rds h s [w]
theorem RdV.ext {h h' : Heap} (e : Ext h h') {s : Shp} {w : Value} (r : RdV h s w) : RdV h' s w := by
  cases s with
  | st c => obtain ⟨cs, h1, h2⟩ := r; exact ⟨cs, h1, Rds.ext e _ _ h2⟩
  | _ => exact Rds.ext e _ _ r
theorem Good.nil (W : World) : Good W [] (fun _ => none) := ⟨fun _ _ => rfl, fun i hi => by simp at hi⟩
theorem open_param {s : Shp} {t : TypeId} {v : Value} {d : DataW H} {p : List MemPlace} {base : Nat} (hf : fitB P s (.inl t) = true) (tr : DataW.Trod enc P W 0 (fun _ => true) true t v d p)
    (ok : Value.okWide P W .any base t v) {L : List (List Value)} {m : Map} (g : Good W L m) : ∃ L' m' w, Good W L' m' ∧ Grow L m L' m' ∧ VR m' w v ∧ RdV (Heap.ro L') s w := by
  obtain ⟨fuel, tr⟩ := tr
  obtain ⟨L1, m1, cs, g1, w1, v1, r1, l1, o1⟩ := open_shp fuel s t _ _ hf tr L m g
  refine ⟨L1, m1, ?_⟩
  have one : v.cells = #[v] → s.size = 1 → ∃ w, cs = [w] ∧ VR m1 w v := by
    intro hc hs
    rw [hc] at v1
    match cs, v1 with
    | [], v1 => have := v1.1; simp at this
    | [w], v1 => obtain ⟨u, e1, e2⟩ := v1.2 0 w rfl; simp at e1; subst e1; exact ⟨w, rfl, e2⟩
    | _ :: _ :: _, v1 => have := v1.1; simp at this
  cases s with
  | int k =>
    simp only [fitB] at hf
    split at hf
    · rename_i k' hu
      simp only [Value.okWide, hu, Cell.okWide] at ok
      have : ∃ n, v = .int k n := by cases v <;> simp_all [Cell.ok]
      obtain ⟨n, rfl⟩ := this
      obtain ⟨w, rfl, hw⟩ := one rfl rfl
      exact ⟨w, g1, w1, hw, r1⟩
    · cases hf
  | flt k =>
    simp only [fitB] at hf
    split at hf
    · rename_i k' hu
      simp only [Value.okWide, hu, Cell.okWide] at ok
      have : ∃ n, v = .float k' n := by cases v <;> simp_all [Cell.ok]
      obtain ⟨n, rfl⟩ := this
      obtain ⟨w, rfl, hw⟩ := one rfl rfl
      exact ⟨w, g1, w1, hw, r1⟩
    · cases hf
  | bool =>
    simp only [fitB] at hf
    split at hf
    · rename_i hu
      simp only [Value.okWide, hu, Cell.okWide] at ok
      have : ∃ b, v = .bool b := by cases v <;> simp_all [Cell.ok]
      obtain ⟨b, rfl⟩ := this
      obtain ⟨w, rfl, hw⟩ := one rfl rfl
      exact ⟨w, g1, w1, hw, r1⟩
    · cases hf
  | str =>
    simp only [fitB] at hf
    split at hf
    · rename_i hu
      simp only [Value.okWide, hu, Cell.okWide] at ok
      have : ∃ b, v = .string b := by cases v <;> simp_all [Cell.ok]
      obtain ⟨b, rfl⟩ := this
      obtain ⟨w, rfl, hw⟩ := one rfl rfl
      exact ⟨w, g1, w1, hw, r1⟩
    · cases hf
  | slc e =>
    simp only [fitB] at hf
    split at hf
    · rename_i u hu
      obtain ⟨a, len, cap, rfl⟩ := Go.WideShapes.okWide_slice hu ok
      obtain ⟨w, rfl, hw⟩ := one rfl rfl
      exact ⟨w, g1, w1, hw, r1⟩
    · cases hf
  | st c =>
    simp only [fitB] at hf
    split at hf
    · rename_i fs hu
      simp only [Value.okWide, hu] at ok
      obtain ⟨a, rfl, _, _⟩ := ok
      refine ⟨.agg cs.toArray, g1, w1, ?_, cs, rfl, r1⟩
      have := VRs.to_agg v1
      simpa [Value.cells] using this
    · cases hf
  | cat a b => simp [fitB] at hf
  | nil => simp [fitB] at hf
theorem Good.rel {L : List (List Value)} {m : Map} (g : Good W L m) (gl : Gl W) : Rel W m (Heap.ro L) W := Rel.start W gl L m g.1 g.2
end
/-! ### Shapes as types -/
section
variable {h : Heap} {w : Value} {α : Type} {enc : α → List Value} {ok : α → Prop} {e : Shp}
theorem RdV.list (hs : ∀ x, (enc x).length = e.size) (hp : 0 < e.size) (hd : ∀ cs, Rds h e cs → ∃ x, cs = enc x ∧ ok x) (r : RdV h (.slc e) w) : ∃ l : List α, SlT h enc e.size w l ∧ l.length ≤ 9223372036854775807 ∧ ∀ x ∈ l, ok x := by
  obtain ⟨v, Ls, h1, h2, h3, h4, h5⟩ := r
  simp only [List.cons.injEq, and_true] at h1; subst h1
  have key : ∀ Ls : List (List Value), (∀ x ∈ Ls, x.length = e.size ∧ Rds h e x) → ∃ l : List α, Ls.flatten = l.flatMap enc ∧ l.length = Ls.length ∧ ∀ x ∈ l, ok x := by
    intro Ls
    induction Ls with
    | nil => intro _; exact ⟨[], rfl, rfl, fun x hx => by cases hx⟩
    | cons c Ls ih =>
      intro hc
      obtain ⟨l, l1, l2, l3⟩ := ih (fun x hx => hc x (by simp [hx]))
      obtain ⟨x, rfl, hx⟩ := hd c (hc c (by simp)).2
      refine ⟨x :: l, by simp [l1], by simp [l2], fun y hy => ?_⟩
      rcases List.mem_cons.mp hy with rfl | hy
      · exact hx
      · exact l3 y hy
  obtain ⟨l, l1, l2, l3⟩ := key Ls h5
  rw [l1] at h2
  exact ⟨l, ⟨h2, hs, hp⟩, by rw [l2]; simp [maxLen] at h4; omega, l3⟩
theorem RdV.one {c : Shp} (hd : ∀ cs, Rds h c cs → ∃ x, cs = enc x ∧ ok x) (r : RdV h (.st c) w) : ∃ x, w = .agg (enc x).toArray ∧ ok x := by
  obtain ⟨cs, rfl, r⟩ := r
  obtain ⟨x, rfl, hx⟩ := hd cs r
  exact ⟨x, rfl, hx⟩
theorem wf_i64 {n : Int} (h : (Lit.int .i64 n).wf = true) : -9223372036854775808 ≤ n ∧ n ≤ 9223372036854775807 := by
  simp [Lit.wf, IntKind.min, IntKind.max, IntKind.signed, IntKind.bits] at h
  omega
theorem RdV.i64 (r : RdV h (.int .i64) w) : ∃ n, w = .int .i64 n ∧ -9223372036854775808 ≤ n ∧ n ≤ 9223372036854775807 := by
  obtain ⟨n, h1, h2⟩ := r
  simp only [List.cons.injEq, and_true] at h1; subst h1
  exact ⟨n, rfl, wf_i64 h2⟩
theorem RdV.bool (r : RdV h .bool w) : ∃ b, w = .bool b := by
  obtain ⟨n, h1⟩ := r
  simp only [List.cons.injEq, and_true] at h1; subst h1
  exact ⟨n, rfl⟩
theorem RdV.str (r : RdV h .str w) : ∃ s : ByteArray, w = .string s ∧ s.size ≤ 9223372036854775807 := by
  obtain ⟨n, h1, h2⟩ := r
  simp only [List.cons.injEq, and_true] at h1; subst h1
  exact ⟨n, rfl, by simp [maxLen] at h2; omega⟩
end
end Go.Ah
