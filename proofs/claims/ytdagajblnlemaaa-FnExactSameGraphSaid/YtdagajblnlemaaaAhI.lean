import Derived.Test.YtdagajblnlemaaaAhH
set_option linter.unusedVariables false
set_option linter.unusedSimpArgs false
namespace Go.Ah
open Go Go.RowKit

/-! ### What writes -/
/-- A store of n cells at an address. -/
def stV (h : Heap) (n : Nat) (p x : Value) : Option Heap := match p with
  | .pointer (some ⟨i, o, none⟩) => match h.get i with
    | some ob => if ob.live = true ∧ ob.rw = true ∧ x.cells.size = n ∧ o + n ≤ ob.cells.length ∧ oneB x.cells.toList = true then some (h.upd i ob.grp (splice ob.cells o x.cells.toList)) else none
    | none => none
  | _ => none

/-- The first cells of what is appended. -/
def srcV (h : Heap) (sz : Nat) : Value → Option (List Value × Nat)
  | .slice none _ _ => some ([], 0)
  | .slice (some ⟨j, p, none⟩) len s => if s = sz then (rdn h j p (len * sz)).map fun cs => (cs, len) else none
  | .slice (some ⟨_, _, some _⟩) 0 _ => some ([], 0)
  | _ => none

/-- The same, or the bytes of a string. -/
def srcW (h : Heap) (sz : Nat) (y : Value) : Option (List Value × Nat) := match y with
  | .string s => if sz = 1 then some (s.data.toList.map fun b => Value.int .u8 b.toNat, s.size) else none
  | y => srcV h sz y
theorem srcW_of {h : Heap} {sz : Nat} {y : Value} {q : List Value × Nat} (e : srcV h sz y = some q) : srcW h sz y = some q := by
  unfold srcW
  split
  · simp [srcV] at e
  · exact e
def noInt : TypeDesc → Bool
  | .slice _ => true
  | .string => true
  | _ => false
def appV (h : Heap) (bytes sz : Nat) (x y : Value) : Option (Value × Heap) :=
  (srcW h sz y).bind fun q => if q.2 = 0 then (match x with | .slice .. => some (x, h) | _ => none) else match x with
    | .slice none _ _ => if q.2 * bytes ≤ 70368744177664 then some (.slice (some ⟨h.size, 0, none⟩) q.2 sz, h.alloc q.1) else none
    | .slice (some ⟨i, o, none⟩) len s => match hg : h.get i with
      | some ob => if ob.live = true ∧ ob.rw = true ∧ s = sz ∧ o + len * sz ≤ ob.cells.length ∧ (len + q.2) * bytes ≤ 70368744177664 then
          some (.slice (some ⟨h.size, 0, none⟩) (len + q.2) sz, h.push i ob.grp (decide (o + len * sz = ob.cells.length)) ((ob.cells.drop o).take (len * sz) ++ q.1)
            (Nat.le_trans (Heap.grp_le hg) (Nat.le_of_lt (Heap.get_lt hg)))) else none
      | none => none
    | _ => none

section
variable {P : Program} {W0 : World} {m : Map} {h : Heap} {w : World} {N : Nat} {E : Env} {a : Act}

/-- A run that ends in a world that fits a new heap. -/
def Turns (P : Program) (W0 : World) (m : Map) (h : Heap) (w : World) (s : Sem Next) (out : Value → World → Option Next) (v : Value) (h' : Heap) : Prop :=
  ∃ (v' : Value) (w' : World) (m' : Map) (x : Next), s.run P w = .ok x w' ∧ out v' w' = some x ∧ Rel W0 m' h' w' ∧ Step m h m' h' ∧ VR m' v v'

theorem run_st (r : Rel W0 m h w) {t : TypeId} {n : Nat} (hn : szOf P t = some n) {p p' x x' : Value} (hp : VR m p p') (hx : VR m x x') {h' : Heap} (hv : stV h n p x = some h') :
    ∃ w', (Instr.storeAt t p' x').run P w = .ok () w' ∧ Rel W0 m h' w' ∧ Step m h m h' := by
  unfold stV at hv
  split at hv
  · rename_i i o
    split at hv
    · rename_i ob hi
      split at hv
      · rename_i hc
        obtain ⟨hl, hrw, hsz, hlen, h1⟩ := hc
        cases hv
        cases hp with
        | ptr _ _ b base S hm =>
          obtain ⟨hW, c, e, f, hb, hf⟩ := r.rw i b base S ob hm hi hrw
          have hcS : c.size = S := by obtain ⟨c1, e1, f1, q1, q2⟩ := r.shape i b base S hm; rw [hb] at q1; cases q1; exact q2
          obtain ⟨hoS, _⟩ := r.cells i b base S ob hm hi hl
          have rv := hx.cells
          have hsz' : x'.cells.size = n := by have := rv.1; simp at this; omega
          obtain ⟨R, T⟩ := r.store hm hi hl hrw hb (p := o) rv (oneB_get h1) (by simp; omega)
          have h1' : ∀ v ∈ x'.cells.toList, v.oneCell' = true := by
            intro v hv
            obtain ⟨j, hj, rfl⟩ := List.mem_iff_getElem.mp hv
            have hj0 : j < x.cells.toList.length := by rw [rv.1]; exact hj
            obtain ⟨v', e1, r1⟩ := rv.2 j _ (List.getElem?_eq_getElem hj0)
            obtain ⟨_, e2⟩ := List.getElem?_eq_some_iff.mp e1
            have := oneB_get h1 j _ (List.getElem?_eq_getElem hj0)
            rw [e2]
            generalize x.cells.toList[j] = q at r1 this
            cases r1 <;> simp_all [Value.oneCell']
          refine ⟨_, ?_, R, T⟩
          simp only [Instr.storeAt, Instr.sureAddr, Sem.run_bind, Sem.run_pure, Result.andThen_ok, storeVar, run_sizeOf P w hn]
          rw [if_neg (by simp [hsz'])]
          have := run_storeCells P b e f x'.cells.toList w (base + o) 0 c hb hf (by simp [hsz']; omega) h1'
          simp only [Nat.add_zero] at this
          exact this
      · cases hv
    · cases hv
  · cases hv

/-! append -/
theorem grow_le (newLen : Nat) : ∀ (k c : Nat), c < newLen → Builtin.growBy newLen k c ≤ 2 * newLen + 192 := by
  intro k
  induction k with
  | zero => intro c hc; simp [Builtin.growBy]; omega
  | succ k ih =>
    intro c hc
    simp only [Builtin.growBy]
    rw [if_neg (by omega)]
    by_cases h2 : c + (c + 768) / 4 < newLen
    · exact ih _ h2
    · cases k with
      | zero => simp only [Builtin.growBy]; omega
      | succ k => simp only [Builtin.growBy]; rw [if_pos (by omega)]; omega
theorem nextcap_le (newLen oldCap : Nat) (hc : oldCap < newLen) : Builtin.nextslicecap newLen oldCap ≤ 2 * newLen + 192 := by
  unfold Builtin.nextslicecap
  split
  · omega
  · split
    · omega
    · exact grow_le newLen 4 oldCap hc

theorem run_firstCells {y y' : Value} (r : Rel W0 m h w) {sz : Nat} {q : List Value × Nat} (hy : VR m y y') (hq : srcV h sz y = some q) :
    (Builtin.lenOf y').run P w = .ok q.2 w ∧ ∃ cs', (∀ w' : World, w'.heap = w.heap → (Builtin.firstCells sz q.2 y').run P w' = .ok cs'.toArray w') ∧ VRs m q.1 cs' ∧ q.1.length = q.2 * sz := by
  unfold srcV at hq
  split at hq
  · cases hq
    cases hy
    exact ⟨rfl, [], fun _ _ => rfl, .nil m, by simp⟩
  · rename_i j p len s
    split at hq
    · rename_i hs
      subst hs
      simp only [Option.map_eq_some_iff] at hq
      obtain ⟨cs, hcs, rfl⟩ := hq
      cases hy with
      | slice _ _ _ _ b base S a' cap hm hc hroom =>
        obtain ⟨hl, cs', rv, hcell⟩ := r.rdn hm hcs
        refine ⟨rfl, cs', fun w' hw' => ?_, rv, hl⟩
        have hcell' : ∀ (j : Nat) v, cs'[j]? = some v → w'.cell? ⟨b, base + p + j, none⟩ = some v := by
          intro j v e; have := hcell j v e; simp only [World.cell?] at this ⊢; rw [hw']; exact this
        simp only [Builtin.firstCells]
        rcases hroom with hz | ⟨ha, _⟩
        · have hl0 : len = 0 := by omega
          subst hl0
          have : cs' = [] := by have := rv.1; rw [hl] at this; simp at this; exact List.eq_nil_of_length_eq_zero this.symm
          subst this
          exact run_loadCells P w' b a' _ [] (by simp) (by simp)
        · subst ha
          exact run_loadCells P w' b (base + p) _ cs' (by rw [← rv.1, hl]) hcell'
    · cases hq
  · cases hq
    cases hy
    refine ⟨rfl, [], fun w' _ => ?_, .nil m, by simp⟩
    simp only [Builtin.firstCells, Nat.zero_mul]
    rfl
  · cases hq

theorem rel_oneB {l : List Value} {i : Nat} : True := trivial

theorem srcV_one (r : Rel W0 m h w) {y y' : Value} (hy : VR m y y') {sz : Nat} {q : List Value × Nat} (hq : srcV h sz y = some q) : ∀ (j : Nat) v, q.1[j]? = some v → v.oneCell' = true := by
  unfold srcV at hq
  split at hq
  · cases hq; intro j v e; simp at e
  · rename_i j p len s
    split at hq
    · simp only [Option.map_eq_some_iff] at hq
      obtain ⟨cs, hcs, rfl⟩ := hq
      cases hy with
      | slice _ _ _ _ b base S a' cap hm hc hroom =>
        unfold rdn at hcs
        split at hcs
        · rename_i ob hi
          split at hcs
          · rename_i hl
            cases hcs
            intro k v e
            rw [List.getElem?_take] at e
            split at e
            · rw [List.getElem?_drop] at e; exact r.one j b base S ob hm hi hl.1 _ v e
            · cases e
          · cases hcs
        · cases hcs
    · cases hq
  · cases hq; intro j v e; simp at e
  · cases hq

theorem run_firstCellsW {y y' : Value} (r : Rel W0 m h w) {sz : Nat} {q : List Value × Nat} (hy : VR m y y') (hq : srcW h sz y = some q) :
    (Builtin.lenOf y').run P w = .ok q.2 w ∧ ∃ cs', (∀ w' : World, w'.heap = w.heap → (Builtin.firstCells sz q.2 y').run P w' = .ok cs'.toArray w') ∧ VRs m q.1 cs' ∧ q.1.length = q.2 * sz := by
  unfold srcW at hq
  split at hq
  · rename_i s
    split at hq
    · rename_i h1
      cases hq
      cases hy
      refine ⟨rfl, s.data.toList.map fun b => Value.int .u8 b.toNat, fun w' _ => ?_, ⟨rfl, fun j v e => ⟨v, e, ?_⟩⟩, ?_⟩
      · have : s.extract 0 s.size = s := ByteArray.extract_zero_size
        simp only [Builtin.firstCells, this, Sem.run_pure]
        rw [← List.map_toArray, Array.toArray_toList]
      · simp only [List.getElem?_map, Option.map_eq_some_iff] at e
        obtain ⟨b, _, rfl⟩ := e
        exact .int _ _
      · subst h1; simp
    · cases hq
  · exact run_firstCells r hy hq
theorem srcW_one (r : Rel W0 m h w) {y y' : Value} (hy : VR m y y') {sz : Nat} {q : List Value × Nat} (hq : srcW h sz y = some q) : ∀ (j : Nat) v, q.1[j]? = some v → v.oneCell' = true := by
  unfold srcW at hq
  split at hq
  · split at hq
    · cases hq
      intro j v e
      simp only [List.getElem?_map, Option.map_eq_some_iff] at e
      obtain ⟨b, _, rfl⟩ := e
      rfl
    · cases hq
  · exact srcV_one r hy hq
theorem VR.oneCell {v v' : Value} (r : VR m v v') (h1 : v.oneCell' = true) : v'.oneCell' = true := by
  cases r <;> simp_all [Value.oneCell']

theorem run_append_in {t ty e t2 : TypeId} {d2 : TypeDesc} (hu : P.underlying t = some (.slice e)) (hu2 : P.underlying t2 = some d2) (hn : noInt d2 = true) {sz : Nat} (hsz : (sizeOf e).run P w = .ok sz w)
    {base : Option Addr} {sLen sCap n : Nat} {y' : Value} (L1 : (Builtin.lenOf y').run P w = .ok n w) {cs' : List Value} (F1 : (Builtin.firstCells sz n y').run P w = .ok cs'.toArray w)
    (hle : sLen + n ≤ sCap) :
    (Builtin.append_ #[t, t2] ty #[.slice base sLen sCap, y']).run P w = (do
            if let some a := base then storeCells (a.add (sLen * sz)) cs'
            pure (.slice base (sLen + n) sCap) : Sem Value).run P w := by
  cases d2 <;> first | (simp [noInt] at hn; done) | skip
  all_goals
    unfold Builtin.append_
    simp only [List.getElem?_toArray, List.getElem?_cons_zero, List.getElem?_cons_succ, Sem.run_bind, run_underlying P w hu, run_underlying P w hu2, Result.andThen_ok, hsz, Sem.run_pure,
      Bool.false_eq_true, if_false, L1, Bool.not_false, if_true, if_pos hle, F1]
    cases base <;> rfl
theorem run_append_new {t ty e t2 : TypeId} {d2 : TypeDesc} (hu : P.underlying t = some (.slice e)) (hu2 : P.underlying t2 = some d2) (hn : noInt d2 = true) {i : TypeInfo} (hi : P.info? e = some i) {z : Value} (hz : i.zero = some z)
    (hb1 : 0 < i.bytes) (hb2 : i.bytes ≤ 65536)
    {base : Option Addr} {sLen sCap n : Nat} {y' : Value} (L1 : (Builtin.lenOf y').run P w = .ok n w) {cs' old : List Value} (F1 : ∀ w' : World, w'.heap = w.heap → (Builtin.firstCells i.size n y').run P w' = .ok cs'.toArray w')
    (F0 : ∀ w' : World, w'.heap = w.heap → (Builtin.firstCells i.size sLen (.slice base sLen sCap)).run P w' = .ok old.toArray w')
    (hgt : ¬ sLen + n ≤ sCap) (hroom : (sLen + n) * i.bytes ≤ 70368744177664) :
    ∃ k, (Builtin.append_ #[t, t2] ty #[.slice base sLen sCap, y']).run P w = .ok (.slice (some ⟨w.heap.size, 0, none⟩) (sLen + n) (sLen + n + k))
      { w with drawn := w.drawn + 1, heap := w.heap.push (.cells (old.toArray ++ cs'.toArray ++ Builtin.zeroCells z.cells k) e) } := by
  have hsz : ∀ w', (sizeOf e).run P w' = .ok i.size w' := fun w' => run_sizeOf P w' (by rw [hi]; rfl)
  have hzv : ∀ w', (zeroValue e).run P w' = .ok z w' := fun w' => run_zeroValue P w' (by rw [hi]; exact hz)
  have hcut : ∀ t, ∃ k, (Question.appendCap (sLen + n) sCap e).cut t = sLen + n + k := fun t => ⟨_, rfl⟩
  obtain ⟨k, hk⟩ := hcut (w.tape w.drawn (.appendCap (sLen + n) sCap e))
  refine ⟨k, ?_⟩
  have hnc : ¬ Builtin.nextslicecap (sLen + n) sCap * i.bytes > 2 ^ 48 := by
    have h1 := nextcap_le (sLen + n) sCap (by omega)
    have h2 := Nat.mul_le_mul_right i.bytes h1
    have h3 : (2 * (sLen + n) + 192) * i.bytes = 2 * ((sLen + n) * i.bytes) + 192 * i.bytes := by rw [Nat.add_mul, Nat.mul_assoc]
    omega
  have hmx : ¬ (((sLen + n : Nat) : Int) > IntKind.i64.max ∧ (False ∨ i.bytes = 0)) := by
    rintro ⟨_, h2 | h2⟩
    · exact h2
    · omega
  cases d2 <;> first | (simp [noInt] at hn; done) | skip
  all_goals
    unfold Builtin.append_
    simp only [List.getElem?_toArray, List.getElem?_cons_zero, List.getElem?_cons_succ, Sem.run_bind, run_underlying P w hu, run_underlying P w hu2, Result.andThen_ok, hsz, Sem.run_pure,
      Bool.false_eq_true, if_false, L1, Bool.not_false, if_true, if_neg hgt, run_typeInfo P w hi, if_neg hmx, if_neg hnc, run_choose, Question.forced, hk, run_askRoom]
    have hi' : ∀ w', (typeInfo e).run P w' = .ok i w' := fun w' => run_typeInfo P w' hi
    simp only [hi', Result.andThen_ok, run_askRoom]
    rw [F0 { w with drawn := w.drawn + 1 } rfl]
    simp only [Result.andThen_ok]
    rw [F1 { w with drawn := w.drawn + 1 } rfl]
    simp only [Result.andThen_ok, hzv, newRow, Sem.run_bind, run_newObj, Sem.run_pure, Nat.add_sub_cancel_left]

theorem size_zeroCells (z : Array Value) (k : Nat) : (Builtin.zeroCells z k).size = k * z.size := by simp [Builtin.zeroCells]

theorem run_app (r : Rel W0 m h w) {t ty e t2 : TypeId} {d2 : TypeDesc} (hu : P.underlying t = some (.slice e)) (hu2 : P.underlying t2 = some d2) (hn : noInt d2 = true) {i : TypeInfo} (hi : P.info? e = some i) {z : Value} (hz : i.zero = some z)
    (hzs : z.cells.size = i.size) (hb1 : 0 < i.bytes) (hb2 : i.bytes ≤ 65536) (hs0 : 0 < i.size)
    {x x' y y' : Value} (hx : VR m x x') (hy : VR m y y') {v : Value} {h' : Heap} (hv : appV h i.bytes i.size x y = some (v, h')) :
    ∃ v' w' m', (Builtin.append_ #[t, t2] ty #[x', y']).run P w = .ok v' w' ∧ Rel W0 m' h' w' ∧ Step m h m' h' ∧ VR m' v v' := by
  unfold appV at hv
  replace hv := bind_some hv
  obtain ⟨q, hq, hv⟩ := hv
  obtain ⟨L1, cs', F1', rv, hlq⟩ := run_firstCellsW (P := P) r hy hq
  have F1 := F1' w rfl
  have hone := srcW_one r hy hq
  have hsz : (sizeOf e).run P w = .ok i.size w := run_sizeOf P w (by rw [hi]; rfl)
  split at hv
  · rename_i h0
    split at hv
    · rename_i bx lx sx
      cases hv
      rw [h0] at L1 F1
      have hcs : cs' = [] := by have := rv.1; rw [hlq, h0] at this; simp at this; exact List.eq_nil_of_length_eq_zero this.symm
      subst hcs
      cases hx with
      | snone =>
        refine ⟨_, w, m, ?_, r, .refl m h, .snone⟩
        rw [run_append_in hu hu2 hn hsz L1 F1 (by omega)]; rfl
      | slice i' o _ _ b base S a' cap hm hc hroom =>
        refine ⟨_, w, m, ?_, r, .refl m h, .slice i' o _ _ b base S a' cap hm hc hroom⟩
        rw [run_append_in hu hu2 hn hsz L1 F1 (by omega)]; rfl
      | sempty _ p =>
        refine ⟨_, w, m, ?_, r, .refl m h, .sempty _ p⟩
        rw [run_append_in hu hu2 hn hsz L1 F1 (by omega)]; rfl
    · cases hv
  · rename_i h0
    split at hv
    · rename_i lx sx
      split at hv
      · rename_i hroom
        cases hv
        cases hx
        obtain ⟨k, hrun⟩ := run_append_new (ty := ty) hu hu2 hn hi hz hb1 hb2 (base := none) (sLen := 0) (sCap := 0) L1 (old := []) F1' (fun _ _ => rfl) (by omega) (by rw [Nat.zero_add]; exact hroom)
        obtain ⟨R, T⟩ := r.alloc (cs := q.1) (c' := #[] ++ cs'.toArray ++ Builtin.zeroCells z.cells k) e (f := (0, 0)) (.inr ⟨rfl, rfl⟩) (by simp [rv.1])
          (by
            intro j v ej
            obtain ⟨u, e1, r1⟩ := rv.2 j v ej
            refine ⟨u, ?_, r1⟩
            have := (List.getElem?_eq_some_iff.mp e1).1
            rw [Array.getElem?_append_left (by simpa using this)]; simpa using e1) hone
        refine ⟨_, _, _, hrun, R.sameW ⟨rfl, rfl, rfl, rfl⟩, T, ?_⟩
        rw [Nat.zero_add]
        refine .slice h.size 0 q.2 i.size _ 0 _ 0 _ (Map.set_same _ _ _) (by omega) (.inr ⟨rfl, ?_⟩)
        simp only [Array.size_append, List.size_toArray, size_zeroCells, hzs, Nat.add_mul]
        rw [← rv.1, hlq]; simp
      · cases hv
    · rename_i i' o len s
      split at hv
      · rename_i ob hg
        split at hv
        · rename_i hc0
          obtain ⟨hl, hrw, hs, hpc, hroom⟩ := hc0
          subst hs
          cases hv
          have hsrc : srcV h i.size (.slice (some ⟨i', o, none⟩) len i.size) = some ((ob.cells.drop o).take (len * i.size), len) := by
            simp only [srcV, if_true, rdn, hg, hl, true_and, if_pos hpc, Option.map_some]
          obtain ⟨_, old, F0, rv0, hl0⟩ := run_firstCells (P := P) r hx hsrc
          have hone0 := srcV_one r hx hsrc
          simp only at hl0 rv0 F0 hone0
          generalize hdec : (decide (o + len * i.size = ob.cells.length)) = full
          cases hx with
          | slice _ _ _ _ b base S a' cap hm hc hr0 =>
            by_cases hle : len + q.2 ≤ cap
            · rcases hr0 with hz0 | ⟨ha, hS⟩
              · omega
              · subst ha
                obtain ⟨hW, c, e9, f, hb, hf⟩ := r.rw i' b base S ob hm hg hrw
                have hcS : c.size = S := by obtain ⟨c1, e1, f1, q1, q2⟩ := r.shape i' b base S hm; rw [hb] at q1; cases q1; exact q2
                have hmul : (len + q.2) * i.size ≤ cap * i.size := Nat.mul_le_mul_right _ hle
                rw [Nat.add_mul] at hmul
                obtain ⟨R, T⟩ := r.appIn hm hg hl hrw hb (off := o) (n := len * i.size) rv hone hpc (by rw [hlq]; omega) (Nat.le_trans (Heap.grp_le hg) (Nat.le_of_lt (Heap.get_lt hg)))
                rw [hdec] at R T
                have hone' : ∀ v ∈ cs', v.oneCell' = true := by
                  intro v hv
                  obtain ⟨j, hj, rfl⟩ := List.mem_iff_getElem.mp hv
                  have hj0 : j < q.1.length := by rw [rv.1]; exact hj
                  obtain ⟨v', e1, r1⟩ := rv.2 j _ (List.getElem?_eq_getElem hj0)
                  obtain ⟨_, e2⟩ := List.getElem?_eq_some_iff.mp e1
                  rw [e2]; exact r1.oneCell (hone j _ (List.getElem?_eq_getElem hj0))
                have hst := run_storeCells P b e9 f cs' w (base + o + len * i.size) 0 c hb hf (by rw [← rv.1, hlq]; omega) hone'
                simp only [Nat.add_zero] at hst
                refine ⟨.slice (some ⟨b, base + o, none⟩) (len + q.2) cap, _, _, ?_, R, T, ?_⟩
                · rw [run_append_in hu hu2 hn hsz L1 F1 hle]
                  simp only [add_addr, Sem.run_bind, hst, Result.andThen_ok, Sem.run_pure]
                · exact .slice h.size 0 (len + q.2) i.size b (base + o) S _ cap (Map.set_same _ _ _) hle (.inr ⟨rfl, by omega⟩)
            · obtain ⟨k, hrun⟩ := run_append_new (ty := ty) hu hu2 hn hi hz hb1 hb2 L1 F1' F0 hle hroom
              obtain ⟨R, T⟩ := r.appNew hm hg full (Nat.le_trans (Heap.grp_le hg) (Nat.le_of_lt (Heap.get_lt hg))) (cells := (ob.cells.drop o).take (len * i.size) ++ q.1)
                (c' := old.toArray ++ cs'.toArray ++ Builtin.zeroCells z.cells k) e (by simp only [Array.size_append, List.size_toArray, List.length_append]; rw [rv0.1, rv.1]; omega)
                (by
                  intro j v ej
                  obtain ⟨u, e1, r1⟩ := (rv0.append rv).2 j v ej
                  refine ⟨u, ?_, r1⟩
                  have := (List.getElem?_eq_some_iff.mp e1).1
                  rw [Array.getElem?_append_left (by simpa using this)]; simpa using e1)
                (by
                  intro j v ej
                  rw [List.getElem?_append] at ej
                  split at ej
                  · exact hone0 j v ej
                  · exact hone _ v ej)
              refine ⟨_, _, _, hrun, R.sameW ⟨rfl, rfl, rfl, rfl⟩, T, ?_⟩
              refine .slice h.size 0 (len + q.2) i.size _ 0 _ 0 _ (Map.set_same _ _ _) (by omega) (.inr ⟨rfl, ?_⟩)
              simp only [Array.size_append, List.size_toArray, size_zeroCells, hzs, Nat.add_mul]
              rw [← rv.1, hlq, ← rv0.1, hl0]; omega
        · cases hv
      · cases hv
    · cases hv

/-! copy -/
def cpyV (h : Heap) (sz : Nat) (x y : Value) : Option (Value × Heap) :=
  (srcV h sz y).bind fun q => match x with
    | .slice a len s => if min q.2 len = 0 then some (.int .i64 0, h) else match a with
      | some ⟨i, o, none⟩ => match h.get i with
        | some ob => if ob.live = true ∧ ob.rw = true ∧ s = sz ∧ o + len * sz ≤ ob.cells.length then
            some (.int .i64 (min q.2 len : Nat), h.upd i ob.grp (splice ob.cells o (q.1.take (min q.2 len * sz)))) else none
        | none => none
      | _ => none
    | _ => none
theorem run_firstCellsK {y y' : Value} (r : Rel W0 m h w) {sz : Nat} {q : List Value × Nat} (hy : VR m y y') (hq : srcV h sz y = some q) (k : Nat) (hk : k ≤ q.2) :
    ∃ cs', (Builtin.firstCells sz k y').run P w = .ok cs'.toArray w ∧ VRs m (q.1.take (k * sz)) cs' ∧ q.1.length = q.2 * sz := by
  unfold srcV at hq
  split at hq
  · cases hq
    cases hy
    exact ⟨[], rfl, by simpa using .nil m, by simp⟩
  · rename_i j p len s
    split at hq
    · rename_i hs
      subst hs
      simp only [Option.map_eq_some_iff] at hq
      obtain ⟨cs, hcs, rfl⟩ := hq
      simp only at hk ⊢
      cases hy with
      | slice _ _ _ _ b base S a' cap hm hc hroom =>
        obtain ⟨hl, _, _⟩ := r.rdn hm hcs
        have hcs2 : rdn h j p (k * s) = some (cs.take (k * s)) := by
          unfold rdn at hcs ⊢
          split at hcs
          · split at hcs
            · rename_i hl2
              cases hcs
              have : k * s ≤ len * s := Nat.mul_le_mul_right _ hk
              rw [if_pos ⟨hl2.1, by omega⟩, List.take_take, Nat.min_eq_left this]
            · cases hcs
          · cases hcs
        have y2 : VR m (.slice (some ⟨j, p, none⟩) k s) (.slice (some ⟨b, a', none⟩) k cap) := .slice j p k s b base S a' cap hm (by omega) hroom
        obtain ⟨_, cs', F, rv, _⟩ := run_firstCells (P := P) r y2 (sz := s) (q := (cs.take (k * s), k)) (by simp only [srcV, if_true, hcs2, Option.map_some])
        exact ⟨cs', F w rfl, rv, hl⟩
    · cases hq
  · cases hq
    simp only at hk
    obtain rfl : k = 0 := by omega
    cases hy
    refine ⟨[], ?_, by simpa using .nil m, by simp⟩
    simp only [Builtin.firstCells, Nat.zero_mul]
    rfl
  · cases hq
theorem run_cpy (r : Rel W0 m h w) {t ty e t2 : TypeId} (hu : P.underlying t = some (.slice e)) {sz : Nat} (hn : szOf P e = some sz)
    {x x' y y' : Value} (hx : VR m x x') (hy : VR m y y') {v : Value} {h' : Heap} (hv : cpyV h sz x y = some (v, h')) :
    ∃ v' w', (Builtin.copy_ #[t, t2] ty #[x', y']).run P w = .ok v' w' ∧ Rel W0 m h' w' ∧ Step m h m h' ∧ VR m v v' := by
  unfold cpyV at hv
  replace hv := bind_some hv
  obtain ⟨q, hq, hv⟩ := hv
  obtain ⟨L1, _⟩ := run_firstCells (P := P) r hy hq
  have hone := srcV_one r hy hq
  have main : ∀ (base : Option Addr) (dLen dCap k : Nat) (cs' : List Value), x' = .slice base dLen dCap → k = min q.2 dLen → (Builtin.firstCells sz k y').run P w = .ok cs'.toArray w →
      (Builtin.copy_ #[t, t2] ty #[x', y']).run P w = (do
        if let some a := base then storeCells a cs'
        pure (goInt k) : Sem Value).run P w := by
    intro base dLen dCap k cs' hxx hk F
    subst hxx; subst hk
    unfold Builtin.copy_
    have F' : (Builtin.firstCells sz (q.2.min dLen) y').run P w = .ok cs'.toArray w := F
    simp only [List.getElem?_toArray, List.getElem?_cons_zero, List.getElem?_cons_succ, Sem.run_bind, run_underlying P w hu, Result.andThen_ok, L1, run_sizeOf P w hn, F']
    cases base <;> rfl
  split at hv
  · rename_i a len s
    split at hv
    · rename_i h0
      cases hv
      obtain ⟨cs', F, rv, hlq⟩ := run_firstCellsK (P := P) r hy hq 0 (by omega)
      have hcs : cs' = [] := by have := rv.1; simp at this; exact List.eq_nil_of_length_eq_zero this.symm
      subst hcs
      have hx2 : ∃ base cap, x' = .slice base len cap := by
        cases hx with
        | snone => exact ⟨_, _, rfl⟩
        | slice => exact ⟨_, _, rfl⟩
        | sempty => exact ⟨_, _, rfl⟩
      obtain ⟨base, cap, hxx⟩ := hx2
      refine ⟨.int .i64 0, w, ?_, r, .refl m h, .int _ _⟩
      rw [main base len cap 0 [] hxx h0.symm F]
      cases base <;> rfl
    · rename_i h0
      split at hv
      · rename_i i o
        split at hv
        · rename_i ob hi
          split at hv
          · rename_i hc
            obtain ⟨hl, hrw, hs, hlen⟩ := hc
            subst hs
            cases hv
            obtain ⟨cs', F, rv, hlq⟩ := run_firstCellsK (P := P) r hy hq (min q.2 len) (Nat.min_le_left _ _)
            cases hx with
            | slice _ _ _ _ b base S a' cap hm hcap hroom =>
              rcases hroom with hz | ⟨ha, hS⟩
              · omega
              · subst ha
                obtain ⟨hW, c, e, f, hb, hf⟩ := r.rw i b base S ob hm hi hrw
                have hcS : c.size = S := by obtain ⟨c1, e1, f1, q1, q2⟩ := r.shape i b base S hm; rw [hb] at q1; cases q1; exact q2
                obtain ⟨hoS, _⟩ := r.cells i b base S ob hm hi hl
                have hmul : min q.2 len * s ≤ len * s := Nat.mul_le_mul_right _ (Nat.min_le_right _ _)
                have hmul2 : min q.2 len * s ≤ q.2 * s := Nat.mul_le_mul_right _ (Nat.min_le_left _ _)
                have hl' : cs'.length = min q.2 len * s := by rw [← rv.1, List.length_take, hlq]; omega
                have hone2 : ∀ (j : Nat) v, (q.1.take (min q.2 len * s))[j]? = some v → v.oneCell' = true := by
                  intro j v e
                  rw [List.getElem?_take] at e
                  split at e
                  · exact hone j v e
                  · cases e
                have hlt : (q.1.take (min q.2 len * s)).length = min q.2 len * s := by rw [rv.1]; exact hl'
                obtain ⟨R, T⟩ := r.store hm hi hl hrw hb (p := o) rv hone2 (by rw [hlt]; omega)
                have h1' : ∀ v ∈ cs', v.oneCell' = true := by
                  intro v hv
                  obtain ⟨j, hj, rfl⟩ := List.mem_iff_getElem.mp hv
                  have hj0 : j < (q.1.take (min q.2 len * s)).length := by rw [rv.1]; exact hj
                  obtain ⟨v', e1, r1⟩ := rv.2 j _ (List.getElem?_eq_getElem hj0)
                  obtain ⟨_, e2⟩ := List.getElem?_eq_some_iff.mp e1
                  rw [e2]; exact r1.oneCell (hone2 j _ (List.getElem?_eq_getElem hj0))
                have hst := run_storeCells P b e f cs' w (base + o) 0 c hb hf (by rw [hl']; omega) h1'
                simp only [Nat.add_zero] at hst
                refine ⟨_, _, ?_, R, T, .int _ _⟩
                rw [main _ len cap (min q.2 len) cs' rfl rfl F]
                simp only [Sem.run_bind, hst, Result.andThen_ok, Sem.run_pure]
                rfl
          · cases hv
        · cases hv
      · cases hv
  · cases hv

/-! A row of bytes turned into its own type -/
def cnvV (h : Heap) (x : Value) : Option (Value × Heap) := match x with
  | .slice (some ⟨i, _, none⟩) _ _ => match h.get i with
    | some ob => if ob.rw = true then some (x, h) else none
    | none => none
  | _ => none
theorem run_cnv (r : Rel W0 m h w) {s el : TypeId} (hs : P.underlying s = some (.slice el)) (he : P.underlying el = some (.int .u8)) {x x' : Value} (hx : VR m x x') {v : Value} {h' : Heap} (hv : cnvV h x = some (v, h')) :
    ∃ v' w', (convert s s x').run P w = .ok v' w' ∧ Rel W0 m h' w' ∧ Step m h m h' ∧ VR m v v' := by
  unfold cnvV at hv
  split at hv
  · rename_i i o n sz
    split at hv
    · rename_i ob hi
      split at hv
      · rename_i hrw
        cases hv
        cases hx with
        | slice _ _ _ _ b base S a' cap hm hcap hroom =>
          obtain ⟨hW, c, e, f, hb, hf⟩ := r.rw _ _ _ _ _ hm hi hrw
          have hbl := (Array.getElem?_eq_some_iff.mp hb).1
          obtain ⟨lo, hh⟩ := f
          have R := r.refz (f' := if lo == hh then (c.size, c.size + 1) else (min lo c.size, max hh (c.size + 1))) hb hW (fun hz => by
            unfold Fz at hz ⊢
            simp only at hz
            rcases hz with hz | ⟨rfl, rfl⟩
            · split
              · exact .inl (Nat.le_refl _)
              · exact .inl (by simp only; omega)
            · simp)
          refine ⟨.slice (some ⟨b, a', none⟩) n cap, _, ?_, R, .refl m h, .slice _ _ _ _ _ _ _ _ _ hm hcap hroom⟩
          have e1 : (convert s s (.slice (some ⟨b, a', none⟩) n cap)).run P w = ((do markStringish ⟨b, a', none⟩; pure (.slice (some ⟨b, a', none⟩) n cap)) : Sem Value).run P w := by
            simp only [convert, Sem.run_bind, run_underlying P w hs, run_underlying P w he, Result.andThen_ok, beq_self_eq_true]
          rw [e1]
          simp only [markStringish, Sem.run_bind, run_shape, World.shape?, hb, Result.andThen_ok, run_freeze, Sem.run_pure]
          congr 1
          unfold World.freeze withBlock
          rw [if_neg (by decide)]
          congr 1
          apply Array.ext_getElem?
          intro j
          simp only [Array.getElem?_modify]
          by_cases hj : b = j
          · subst hj
            rw [if_pos rfl, hb, Array.getElem?_setIfInBounds_self_of_lt hbl]
            simp
          · rw [if_neg hj, Array.getElem?_setIfInBounds_ne hj]
      · cases hv
    · cases hv
  · cases hv
end
end Go.Ah
