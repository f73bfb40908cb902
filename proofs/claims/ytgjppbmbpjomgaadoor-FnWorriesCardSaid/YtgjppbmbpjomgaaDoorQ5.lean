import Derived.Test.YtgjppbmbpjomgaaDoorQ4
namespace Go.Proofs.YtgjppbmbpjomgaaDoor
open Go Go.Ah
set_option linter.unusedSimpArgs false
set_option linter.unusedVariables false
set_option maxRecDepth 10000
set_option maxHeartbeats 4000000
/-! ### Lines -/
def spl : List UInt8 → List (List UInt8)
  | [] => [[]]
  | b :: t => if b = 10 then [] :: spl t else match spl t with
    | h :: r => (b :: h) :: r
    | [] => [[b]]
theorem spl_ne (L : List UInt8) : ∃ h r, spl L = h :: r := by
  induction L with
  | nil => exact ⟨[], [], rfl⟩
  | cons b t ih =>
    obtain ⟨h, r, e⟩ := ih
    unfold spl
    split
    · exact ⟨_, _, rfl⟩
    · rw [e]; exact ⟨_, _, rfl⟩
theorem spl_nl (t : List UInt8) : spl (10 :: t) = [] :: spl t := by rw [spl]; simp
theorem spl_cons {b : UInt8} (hb : b ≠ 10) {t h : List UInt8} {r : List (List UInt8)} (e : spl t = h :: r) : spl (b :: t) = (b :: h) :: r := by
  rw [spl, if_neg hb, e]
theorem spl_len (L : List UInt8) : (spl L).length = L.count 10 + 1 := by
  induction L with
  | nil => rfl
  | cons b t ih =>
    obtain ⟨h, r, e⟩ := spl_ne t
    by_cases hb : b = 10
    · subst hb; rw [spl_nl, List.length_cons, ih, List.count_cons_self]
    · rw [spl_cons hb e, List.count_cons_of_ne hb, ← ih, e]; simp
theorem spl_piece (L : List UInt8) : ∀ p ∈ spl L, p.length ≤ L.length := by
  induction L with
  | nil => intro p hp; simp [spl] at hp; simp [hp]
  | cons b t ih =>
    obtain ⟨h, r, e⟩ := spl_ne t
    intro p hp
    by_cases hb : b = 10
    · subst hb
      rw [spl_nl, List.mem_cons] at hp
      rcases hp with rfl | hp
      · simp
      · have := ih p hp; simp; omega
    · rw [spl_cons hb e, List.mem_cons] at hp
      rcases hp with rfl | hp
      · have := ih h (by rw [e]; exact List.mem_cons_self)
        simp; omega
      · have := ih p (by rw [e]; exact List.mem_cons_of_mem _ hp)
        simp; omega
theorem index_nl_cons {b : UInt8} (hb : b ≠ 10) (t : List UInt8) : Lib.index (b :: t) [10] = if Lib.index t [10] = -1 then -1 else Lib.index t [10] + 1 := by
  have : ([10] : List UInt8).isPrefixOf (b :: t) = false := by simp [List.isPrefixOf]; exact fun e => hb e.symm
  rw [Lib.index, this]
  simp
theorem index_nl_here (t : List UInt8) : Lib.index (10 :: t) [10] = 0 := by
  rw [Lib.index]; simp [List.isPrefixOf]
theorem index_of_count0 : ∀ t : List UInt8, t.count 10 = 0 → Lib.index t [10] = -1 := by
  intro t
  induction t with
  | nil => intro _; simp [Lib.index]
  | cons b t ih =>
    intro h
    by_cases hb : b = 10
    · subst hb; rw [List.count_cons_self] at h; omega
    · rw [List.count_cons_of_ne hb] at h
      rw [index_nl_cons hb, if_pos (ih h)]
theorem index_of_count : ∀ t : List UInt8, 0 < t.count 10 → ∃ i : Nat, Lib.index t [10] = i := by
  intro t
  induction t with
  | nil => intro h; simp at h
  | cons b t ih =>
    intro h
    by_cases hb : b = 10
    · subst hb; exact ⟨0, index_nl_here t⟩
    · rw [List.count_cons_of_ne hb] at h
      obtain ⟨i, e⟩ := ih h
      exact ⟨i + 1, by rw [index_nl_cons hb, e, if_neg (by omega)]; omega⟩
theorem splitK_spl : ∀ L : List UInt8, Lib.splitK [10] 0 (L.count 10) L = spl L := by
  intro L
  induction L with
  | nil => rfl
  | cons b t ih =>
    by_cases hb : b = 10
    · subst hb
      rw [List.count_cons_self, spl_nl, Lib.splitK, index_nl_here]
      simp only [List.length_cons, List.length_nil]
      rw [if_neg (by decide)]
      simpa using ih
    · rw [List.count_cons_of_ne hb]
      obtain ⟨h, r, e⟩ := spl_ne t
      rw [spl_cons hb e]
      rw [e] at ih
      by_cases h0 : t.count 10 = 0
      · rw [h0] at ih ⊢
        simp only [Lib.splitK] at ih ⊢
        cases ih; rfl
      · obtain ⟨i, hi⟩ := index_of_count t (by omega)
        obtain ⟨k, hk⟩ : ∃ k, t.count 10 = k + 1 := ⟨t.count 10 - 1, by omega⟩
        rw [hk] at ih ⊢
        have hi' : Lib.index (b :: t) [10] = ((i + 1 : Nat) : Int) := by rw [index_nl_cons hb, hi, if_neg (by omega)]; omega
        rw [Lib.splitK, hi] at ih
        rw [Lib.splitK, hi']
        have n1 : ((i : Int) == -1) = false := by simp
        have n2 : (((i + 1 : Nat) : Int) == -1) = false := by simp; omega
        rw [n1] at ih
        rw [n2]
        simp only [Bool.false_eq_true, if_false, Int.toNat_natCast, Nat.add_zero, List.length_cons, List.length_nil, Nat.zero_add] at ih ⊢
        obtain ⟨e1, e2⟩ := List.cons.inj ih
        rw [← e1, ← e2]
        rfl
def encS (s : ByteArray) : List Value := [.string s]
theorem encS_len (s : ByteArray) : (encS s).length = 1 := rfl
theorem Split_ok (h : Heap) (s : ByteArray) (hs : s.size ≤ 200) : ACall Tryd.prog 39 [.string s, .string ⟨#[10]⟩] h fun r h' => ∃ ps : List ByteArray, Fresh h h' encS 1 r ps ∧ ps.map (·.data.toList) = spl s.data.toList := by
  obtain ⟨ps, hps⟩ : ∃ ps, ps = Lib.splitB ⟨#[10]⟩ 0 (Lib.countB s ⟨#[10]⟩) s := ⟨_, rfl⟩
  have hlen : ps.length = Lib.countB s ⟨#[10]⟩ + 1 := by rw [hps]; exact Lib.splitB_all _ (by decide) 0 _ s rfl
  have hdata : ps.map (·.data.toList) = spl s.data.toList := by
    rw [hps, Lib.splitB_data, ← splitK_spl, ← Lib.count_one]
  refine (ACall.strs (f := 39) (args := [.string s, .string ⟨#[10]⟩]) (ss := ps) (ty := r146.t 9) rfl (fun w g => ?_) h).mono ?_
  · obtain ⟨n, hn⟩ := (show ∃ n : Int, w.cell? ⟨0, 0, none⟩ = some (.int .i64 n) from g)
    rw [hlen, hps]
    exact Any.strings_Split L146 (by kernel_rfl) s ⟨#[10]⟩ n w (by omega) hn (by decide)
  · rintro r h' ⟨rfl, rfl⟩
    refine ⟨ps, ?_, hdata⟩
    have := Fresh.new h ps encS_len (by omega)
    have e : ps.flatMap encS = ps.map Value.string := by
      clear hps hlen hdata this
      induction ps with
      | nil => rfl
      | cons p ps ih => rw [List.flatMap_cons, ih]; rfl
    rw [e] at this; exact this
/-! ### What is wrong with a title -/
theorem flat_congr {α β : Type} {f g : α → List β} : ∀ {l : List α}, (∀ j ∈ l, f j = g j) → l.flatMap f = l.flatMap g
  | [], _ => rfl
  | a :: l, h => by rw [List.flatMap_cons, List.flatMap_cons, h a (.head _), flat_congr fun j hj => h j (.tail _ hj)]
def worriesF (s : Style) (l : List Title) (i : Nat) : List Bool :=
  [decide ((tAt l i).to - (tAt l i).fr < s.least), decide ((0 : Int) < (i : Int)) && decide ((tAt l i).fr - (tAt l (i - 1)).to < s.gap),
   decide (s.rate * ((tAt l i).to - (tAt l i).fr) < (sgL (tAt l i).tx.data.toList : Int) * 1000), decide (s.rows < ((spl (tAt l i).tx.data.toList).length : Int)),
   (spl (tAt l i).tx.data.toList).any fun p => decide (s.wide < (sgL p : Int))]
def worL (i : Nat) (bs : List Bool) : List Worry := (List.range bs.length).flatMap fun k => if bs.getD k false = true then [⟨i, (k : Int) + 1⟩] else []
def unreadL (l : List Title) (s : Style) (n : Nat) : List Worry := (List.range n).flatMap fun i => worL i (worriesF s l i)
noncomputable def unreadF (l : List Title) (s : Style) : List Worry := if titlesOk l ∧ styleOk s then unreadL l s l.length else []
theorem worL_take (i : Nat) (bs : List Bool) {k : Nat} (hk : k < bs.length) : worL i (bs.take (k + 1)) = worL i (bs.take k) ++ (if bs[k] = true then [⟨i, (k : Int) + 1⟩] else []) := by
  unfold worL
  have e1 : (bs.take (k + 1)).length = k + 1 := by simp; omega
  have e2 : (bs.take k).length = k := by simp; omega
  rw [e1, e2, List.range_succ, List.flatMap_append]
  congr 1
  · refine flat_congr fun j hj => ?_
    rw [List.mem_range] at hj
    have : (bs.take (k + 1)).getD j false = (bs.take k).getD j false := by
      simp only [List.getD, List.getElem?_take]
      rw [if_pos (by omega), if_pos hj]
    rw [this]
  · have : (bs.take (k + 1)).getD k false = bs[k] := by
      simp only [List.getD, List.getElem?_take]
      rw [if_pos (by omega), List.getElem?_eq_getElem hk]; rfl
    simp only [List.flatMap_cons, List.flatMap_nil, List.append_nil, this]
theorem unread_succ (l : List Title) (s : Style) (n : Nat) : unreadL l s (n + 1) = unreadL l s n ++ worL n (worriesF s l n) := by
  unfold unreadL
  rw [List.range_succ, List.flatMap_append]; simp
theorem worL_len (i : Nat) (bs : List Bool) : (worL i bs).length ≤ bs.length := by
  have key : ∀ n, n ≤ bs.length → (worL i (bs.take n)).length ≤ n := by
    intro n
    induction n with
    | zero => intro _; simp [worL]
    | succ n ih =>
      intro hn
      rw [worL_take i bs (by omega), List.length_append]
      have := ih (by omega)
      split <;> simp <;> omega
  have := key bs.length (Nat.le_refl _)
  rw [List.take_length] at this; exact this
theorem unread_len (l : List Title) (s : Style) : ∀ n, (unreadL l s n).length ≤ 5 * n := by
  intro n
  induction n with
  | zero => simp [unreadL]
  | succ n ih =>
    rw [unread_succ, List.length_append]
    have := worL_len n (worriesF s l n)
    have e : (worriesF s l n).length = 5 := rfl
    omega
theorem unreadF_len (l : List Title) (s : Style) : (unreadF l s).length ≤ 1000 := by
  unfold unreadF
  split
  · rename_i h; have := unread_len l s l.length; have := h.1.1; omega
  · simp
/-! ### Signs, rows, width, in one pass -/
structure Scan where
  sg : Nat
  rw : Nat
  ro : Nat
  wd : Nat
def scan (st : Scan) (b : UInt8) : Scan := if (b.toNat : Int) = 10 then ⟨st.sg, st.rw + 1, 0, st.wd⟩ else if sgb b = true then ⟨st.sg + 1, st.rw, st.ro + 1, max st.wd (st.ro + 1)⟩ else st
theorem nl_iff (b : UInt8) : (b.toNat : Int) = 10 ↔ b = 10 := ⟨fun e => UInt8.toNat_inj.mp (by have : ((10 : UInt8).toNat) = 10 := rfl; omega), by rintro rfl; rfl⟩
theorem sgb_nl : sgb 10 = false := rfl
theorem sgL_cons (b : UInt8) (L : List UInt8) : sgL (b :: L) = sgL L + (if sgb b = true then 1 else 0) := by
  unfold sgL; rw [List.countP_cons]
theorem scan_spec : ∀ (L : List UInt8) (st : Scan), st.ro ≤ st.wd → (L.foldl scan st).sg = st.sg + sgL L ∧ (L.foldl scan st).rw = st.rw + L.count 10 ∧
    ∀ W : Int, 0 ≤ W → ∀ h r, spl L = h :: r → (W < ((L.foldl scan st).wd : Int) ↔ W < (st.wd : Int) ∨ W < (st.ro : Int) + (sgL h : Int) ∨ ∃ p ∈ r, W < (sgL p : Int)) := by
  intro L
  induction L with
  | nil =>
    intro st hst
    refine ⟨rfl, rfl, fun W hW h r e => ?_⟩
    obtain ⟨rfl, rfl⟩ := List.cons.inj (show [[]] = h :: r from e)
    simp only [List.foldl_nil]
    have : sgL [] = 0 := rfl
    constructor
    · intro q; exact .inl q
    · rintro (q | q | ⟨p, hp, _⟩)
      · exact q
      · omega
      · cases hp
  | cons b t ih =>
    intro st hst
    obtain ⟨h', r', e'⟩ := spl_ne t
    rw [List.foldl_cons]
    by_cases hb : b = 10
    · have hs : scan st b = ⟨st.sg, st.rw + 1, 0, st.wd⟩ := if_pos ((nl_iff b).mpr hb)
      rw [hs]
      obtain ⟨i1, i2, i3⟩ := ih ⟨st.sg, st.rw + 1, 0, st.wd⟩ (Nat.zero_le _)
      subst hb
      refine ⟨by rw [i1, sgL_cons, sgb_nl]; simp, by rw [i2, List.count_cons_self]; simp; omega, fun W hW h r e => ?_⟩
      rw [spl_nl] at e
      obtain ⟨rfl, rfl⟩ := List.cons.inj e
      rw [i3 W hW h' r' e']
      have z : sgL [] = 0 := rfl
      simp only
      rw [e']
      constructor
      · rintro (q | q | ⟨p, hp, q⟩)
        · exact .inl q
        · exact .inr (.inr ⟨h', List.mem_cons_self, by omega⟩)
        · exact .inr (.inr ⟨p, List.mem_cons_of_mem _ hp, q⟩)
      · rintro (q | q | ⟨p, hp, q⟩)
        · exact .inl q
        · left; omega
        · rcases List.mem_cons.mp hp with rfl | hp
          · right; left; omega
          · exact .inr (.inr ⟨p, hp, q⟩)
    · have hn : ¬ (b.toNat : Int) = 10 := fun q => hb ((nl_iff b).mp q)
      by_cases hg : sgb b = true
      · have hs : scan st b = ⟨st.sg + 1, st.rw, st.ro + 1, max st.wd (st.ro + 1)⟩ := by unfold scan; rw [if_neg hn, if_pos hg]
        rw [hs]
        obtain ⟨i1, i2, i3⟩ := ih ⟨st.sg + 1, st.rw, st.ro + 1, max st.wd (st.ro + 1)⟩ (by simp only; omega)
        refine ⟨by rw [i1, sgL_cons, if_pos hg]; simp only; omega, by rw [i2, List.count_cons_of_ne hb], fun W hW h r e => ?_⟩
        rw [spl_cons hb e'] at e
        obtain ⟨rfl, rfl⟩ := List.cons.inj e
        rw [i3 W hW h' r' e', sgL_cons, if_pos hg]
        simp only
        constructor
        · rintro (q | q | q)
          · by_cases c : W < (st.wd : Int)
            · exact .inl c
            · right; left; omega
          · right; left; omega
          · exact .inr (.inr q)
        · rintro (q | q | q)
          · left; omega
          · right; left; omega
          · exact .inr (.inr q)
      · have hs : scan st b = st := by unfold scan; rw [if_neg hn, if_neg hg]
        rw [hs]
        obtain ⟨i1, i2, i3⟩ := ih st hst
        refine ⟨by rw [i1, sgL_cons, if_neg hg]; rfl, by rw [i2, List.count_cons_of_ne hb], fun W hW h r e => ?_⟩
        rw [spl_cons hb e'] at e
        obtain ⟨rfl, rfl⟩ := List.cons.inj e
        rw [i3 W hW h' r' e', sgL_cons, if_neg hg, Nat.add_zero]
theorem scan_all (L : List UInt8) (W : Int) (hW : 0 ≤ W) : (L.foldl scan ⟨0, 1, 0, 0⟩).sg = sgL L ∧ ((L.foldl scan ⟨0, 1, 0, 0⟩).rw) = (spl L).length ∧
    decide (W < ((L.foldl scan ⟨0, 1, 0, 0⟩).wd : Int)) = (spl L).any fun p => decide (W < (sgL p : Int)) := by
  obtain ⟨h1, h2, h3⟩ := scan_spec L ⟨0, 1, 0, 0⟩ (Nat.le_refl _)
  obtain ⟨h, r, e⟩ := spl_ne L
  refine ⟨by rw [h1]; simp, by rw [h2, spl_len]; simp; omega, ?_⟩
  rw [Bool.eq_iff_iff, decide_eq_true_iff, h3 W hW h r e, e, List.any_eq_true]
  simp only [decide_eq_true_eq]
  constructor
  · rintro (q | q | ⟨p, hp, q⟩)
    · simp at q; omega
    · exact ⟨h, List.mem_cons_self, by simp at q; omega⟩
    · exact ⟨p, List.mem_cons_of_mem _ hp, q⟩
  · rintro ⟨p, hp, q⟩
    rcases List.mem_cons.mp hp with rfl | hp
    · right; left; simp; omega
    · exact .inr (.inr ⟨p, hp, q⟩)
end Go.Proofs.YtgjppbmbpjomgaaDoor
