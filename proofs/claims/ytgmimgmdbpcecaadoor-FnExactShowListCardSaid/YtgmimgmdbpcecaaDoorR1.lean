import Derived.Test.YtgmimgmdbpcecaaDoorR0
import Derived.Test.YtgmimgmdbpcecaaDoorAhBB
import Derived.Lib.AppendIntMem
namespace Go.Proofs.YtgmimgmdbpcecaaDoor
open Go Go.Ah Go.RowKit Go.Lib
set_option linter.unusedSimpArgs false
set_option linter.unusedVariables false
set_option maxRecDepth 10000
/-! ### The library's functions -/
theorem gPow : Tryd.prog.globalNamed "internal/strconv.uint64pow10" = some 0 := by kernel_rfl
theorem tab_of {w : World} (g : Gl w) : Go.Lib.TabIs Tryd.prog w "internal/strconv.uint64pow10" .u64 Go.Lib.pow10Tab := by
  obtain ⟨⟨t, f, ht⟩, _⟩ := (show (∃ t f, w.heap[0]? = some (.cells (([1, 10, 100, 1000, 10000, 100000, 1000000, 10000000, 100000000, 1000000000, 10000000000, 100000000000, 1000000000000, 10000000000000, 100000000000000, 1000000000000000, 10000000000000000, 100000000000000000, 1000000000000000000, 10000000000000000000] : List Int).map fun z => Value.int .u64 z).toArray t f)) ∧ GlI w from g)
  unfold Go.Lib.TabIs World.var?
  rw [gPow, Option.bind_some, ht]
  rfl
def itoaB (n : Int) : ByteArray := ⟨(Go.Lib.itoa n).toArray⟩
theorem FormatInt_ok (h : Heap) (n : Int) (h0 : -9223372036854775808 ≤ n) (h1 : n ≤ 9223372036854775807) :
    ACall Tryd.prog 43 [.int .i64 n, .int .i64 10] h fun r h' => h' = h ∧ r = .string (itoaB n) := by
  refine ACall.pureB (f := 43) (args := [.int .i64 n, .int .i64 10]) rfl rfl (fun w g => ?_) h
  refine (Any.strconv_FormatInt_10 LM173 n h0 h1 w (tab_of g)).mono ?_
  rintro e w' ⟨rfl, k, os, rfl⟩
  exact ⟨rfl, below_grow _ w (Nat.le_refl _) k os⟩
theorem Repeat_ok (h : Heap) (s : ByteArray) (c : Nat) (hc : c ≤ 1000) (hs : s.size ≤ 1000000) :
    ACall Tryd.prog 44 [.string s, .int .i64 (c : Int)] h fun r h' => h' = h ∧ r = .string ⟨(Go.Lib.repeatL s.data.toList c).toArray⟩ := by
  refine ACall.pureB (f := 44) (args := [.string s, .int .i64 (c : Int)]) rfl rfl (fun w g => ?_) h
  have hm : s.size * c ≤ 1000000 * 1000 := Nat.mul_le_mul hs hc
  exact Any.strings_Repeat L105 X105 s c w (by omega) (by omega)
def encS (s : ByteArray) : List Value := [.string s]
theorem encS_len (s : ByteArray) : (encS s).length = 1 := rfl
theorem flatS (ps : List ByteArray) : ps.flatMap encS = ps.map Value.string := by
  induction ps with
  | nil => rfl
  | cons p ps ih => rw [List.flatMap_cons, ih]; rfl
/-- A function of the library over a slice of strings. -/
theorem ACall.overStrs {P : Program} {f : FuncId} {h : Heap} {v : Value} {ps : List ByteArray} {sep : ByteArray} {x : Value} (s : SlT h encS 1 v ps) (h0 : 0 < ps.length) (hv : sameB x = true)
    (H : ∀ (w : World) (bk o c : Nat), Gl w → (∀ (j : Nat) y, ps[j]? = some y → w.cell? ⟨bk, o + j, none⟩ = some (.string y)) → bk < w.heap.size → ps.length ≤ c →
      Calls P f #[.slice (some ⟨bk, o, none⟩) ps.length c, .string sep] w fun e w' => e = .returned x ∧ Below w.heap.size w w') :
    ACall P f [v, .string sep] h fun r h' => h' = h ∧ r = x := by
  intro W0 m w args' r va
  obtain ⟨v', t', rfl, rv, rt⟩ := va.of_cons
  obtain ⟨s', t'', rfl, rs, rn⟩ := rt.of_cons
  cases rn.of_nil
  cases rs
  have hlen := s.slLen
  have hsrc := s.sl.src
  rw [flatS] at hsrc
  have hfl := s.sl
  rw [flatS] at hfl
  rcases hfl with ⟨rfl, h2⟩ | ⟨rfl, h2⟩ | ⟨i, o, n, ob, rfl, h2⟩
  · cases ps with
    | nil => simp at h0
    | cons p ps => simp at h2
  · cases ps with
    | nil => simp at h0
    | cons p ps => simp at h2
  · simp only [slLen] at hlen
    subst hlen
    cases rv with
    | slice _ _ _ _ b base S a' cap hm hc hroom =>
      simp only [srcV, if_true, slLen] at hsrc
      obtain ⟨cs, hcs, e⟩ := Option.map_eq_some_iff.mp hsrc
      cases e
      obtain ⟨hl, cs', rvs, hcell⟩ := r.rdn hm hcs
      obtain ⟨c0, e0, f0, hb, _⟩ := r.shape _ _ _ _ hm
      rcases hroom with hz | ⟨ha, _⟩
      · omega
      subst ha
      refine (H w b (base + o) cap r.glw (fun j y hy => ?_) (Array.getElem?_eq_some_iff.mp hb).1 hc).mono ?_
      · have e1 : (ps.map Value.string)[j]? = some (.string y) := by rw [List.getElem?_map, hy]; rfl
        obtain ⟨u, hu, ru⟩ := rvs.2 j _ e1
        cases ru
        exact hcell j _ hu
      · rintro e w' ⟨rfl, bl⟩
        exact ⟨x, x, h, m, rfl, r.belowW bl, .refl m h, .refl_same m hv, rfl, rfl⟩
theorem Join_ok (h : Heap) (v : Value) (ps : List ByteArray) (sep : ByteArray) (s : SlT h encS 1 v ps) (h0 : 0 < ps.length) (hn : ps.length ≤ 1000) (hl : (Go.Lib.join (ps.map (·.data.toList)) sep.data.toList).length ≤ 1000000) :
    ACall Tryd.prog 38 [v, .string sep] h fun r h' => h' = h ∧ r = .string ⟨(Go.Lib.join (ps.map (·.data.toList)) sep.data.toList).toArray⟩ :=
  ACall.overStrs s h0 rfl fun w bk o c g hc hb hcap => Any.strings_Join L156 X156 bk o c ps sep w hc hb (by omega) hcap (by omega)
end Go.Proofs.YtgmimgmdbpcecaaDoor
