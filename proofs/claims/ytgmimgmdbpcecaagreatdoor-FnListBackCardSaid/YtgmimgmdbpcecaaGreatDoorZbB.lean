/- Merged texts of this claim: R1, H1, S4, S5. -/
import Derived.Test.YtgmimgmdbpcecaaGreatDoorAhBB
import Derived.Lib.AppendIntMem
import Derived.Test.YtgmimgmdbpcecaaGreatDoorProg
import Derived.Test.YtgmimgmdbpcecaaGreatDoorAhT
import Derived.Test.YtgmimgmdbpcecaaGreatDoorZbA
section
namespace Go.Proofs.YtgmimgmdbpcecaaGreatDoor
open Go Go.Ah Go.RowKit Go.Lib
set_option linter.unusedSimpArgs false
set_option linter.unusedVariables false
set_option maxRecDepth 10000
/-! ### The library's functions -/
theorem gPow : Tryz.prog.globalNamed "internal/strconv.uint64pow10" = some 1 := by kernel_rfl
theorem tab_of {w : World} (g : Gl w) : Go.Lib.TabIs Tryz.prog w "internal/strconv.uint64pow10" .u64 Go.Lib.pow10Tab := by
  obtain ⟨⟨t, f, ht⟩, _⟩ := (show (∃ t f, w.heap[1]? = some (.cells (([1, 10, 100, 1000, 10000, 100000, 1000000, 10000000, 100000000, 1000000000, 10000000000, 100000000000, 1000000000000, 10000000000000, 100000000000000, 1000000000000000, 10000000000000000, 100000000000000000, 1000000000000000000, 10000000000000000000] : List Int).map fun z => Value.int .u64 z).toArray t f)) ∧ GlI w from g)
  unfold Go.Lib.TabIs World.var?
  rw [gPow, Option.bind_some, ht]
  rfl
def itoaB (n : Int) : ByteArray := ⟨(Go.Lib.itoa n).toArray⟩
theorem FormatInt_ok (h : Heap) (n : Int) (h0 : -9223372036854775808 ≤ n) (h1 : n ≤ 9223372036854775807) :
    ACall Tryz.prog 71 [.int .i64 n, .int .i64 10] h fun r h' => h' = h ∧ r = .string (itoaB n) := by
  refine ACall.pureB (f := 71) (args := [.int .i64 n, .int .i64 10]) rfl rfl (fun w g => ?_) h
  refine (Any.strconv_FormatInt_10 LM173 n h0 h1 w (tab_of g)).mono ?_
  rintro e w' ⟨rfl, k, os, rfl⟩
  exact ⟨rfl, below_grow _ w (Nat.le_refl _) k os⟩
theorem Repeat_ok (h : Heap) (s : ByteArray) (c : Nat) (hc : c ≤ 1000) (hs : s.size ≤ 1000000) :
    ACall Tryz.prog 72 [.string s, .int .i64 (c : Int)] h fun r h' => h' = h ∧ r = .string ⟨(Go.Lib.repeatL s.data.toList c).toArray⟩ := by
  refine ACall.pureB (f := 72) (args := [.string s, .int .i64 (c : Int)]) rfl rfl (fun w g => ?_) h
  have hm : s.size * c ≤ 1000000 * 1000 := Nat.mul_le_mul hs hc
  exact Any.strings_Repeat L105 X105 s c w (by omega) (by omega)
def encS (s : ByteArray) : List Value := [.string s]
theorem encS_len (s : ByteArray) : (encS s).length = 1 := rfl
theorem flatS (ps : List ByteArray) : ps.flatMap encS = ps.map Value.string := by
  induction ps with
  | nil => rfl
  | cons p ps ih => rw [List.flatMap_cons, ih]; rfl
/-- A function of the library over a slice of strings. -/
theorem ACall.overStrs {P : Program} {f : FuncId} {h : Heap} {v : Value} {ps : List ByteArray} {sep : ByteArray} {x : Value} (s : SlT h encS 1 v ps) (h0 : 0 < ps.length) (hv : sameB x = true)
    (H : ∀ (w : World) (bk o c : Nat), Gl w → (∀ (j : Nat) y, ps[j]? = some y → w.cell? ⟨bk, o + j, none⟩ = some (.string y)) → bk < w.heap.size → ps.length ≤ c →
      Calls P f #[.slice (some ⟨bk, o, none⟩) ps.length c, .string sep] w fun e w' => e = .returned x ∧ Below w.heap.size w w') :
    ACall P f [v, .string sep] h fun r h' => h' = h ∧ r = x := by
  intro W0 m w args' r va
  obtain ⟨v', t', rfl, rv, rt⟩ := va.of_cons
  obtain ⟨s', t'', rfl, rs, rn⟩ := rt.of_cons
  cases rn.of_nil
  cases rs
  have hlen := s.slLen
  have hsrc := s.sl.src
  rw [flatS] at hsrc
  have hfl := s.sl
  rw [flatS] at hfl
  rcases hfl with ⟨rfl, h2⟩ | ⟨rfl, h2⟩ | ⟨i, o, n, ob, rfl, h2⟩
  · cases ps with
    | nil => simp at h0
    | cons p ps => simp at h2
  · cases ps with
    | nil => simp at h0
    | cons p ps => simp at h2
  · simp only [slLen] at hlen
    subst hlen
    cases rv with
    | slice _ _ _ _ b base S a' cap hm hc hroom =>
      simp only [srcV, if_true, slLen] at hsrc
      obtain ⟨cs, hcs, e⟩ := Option.map_eq_some_iff.mp hsrc
      cases e
      obtain ⟨hl, cs', rvs, hcell⟩ := r.rdn hm hcs
      obtain ⟨c0, e0, f0, hb, _⟩ := r.shape _ _ _ _ hm
      rcases hroom with hz | ⟨ha, _⟩
      · omega
      subst ha
      refine (H w b (base + o) cap r.glw (fun j y hy => ?_) (Array.getElem?_eq_some_iff.mp hb).1 hc).mono ?_
      · have e1 : (ps.map Value.string)[j]? = some (.string y) := by rw [List.getElem?_map, hy]; rfl
        obtain ⟨u, hu, ru⟩ := rvs.2 j _ e1
        cases ru
        exact hcell j _ hu
      · rintro e w' ⟨rfl, bl⟩
        exact ⟨x, x, h, m, rfl, r.belowW bl, .refl m h, .refl_same m hv, rfl, rfl⟩
theorem Join_ok (h : Heap) (v : Value) (ps : List ByteArray) (sep : ByteArray) (s : SlT h encS 1 v ps) (h0 : 0 < ps.length) (hn : ps.length ≤ 1000) (hl : (Go.Lib.join (ps.map (·.data.toList)) sep.data.toList).length ≤ 1000000) :
    ACall Tryz.prog 63 [v, .string sep] h fun r h' => h' = h ∧ r = .string ⟨(Go.Lib.join (ps.map (·.data.toList)) sep.data.toList).toArray⟩ :=
  ACall.overStrs s h0 rfl fun w bk o c g hc hb hcap => Any.strings_Join L156 X156 bk o c ps sep w hc hb (by omega) hcap (by omega)
end Go.Proofs.YtgmimgmdbpcecaaGreatDoor
end

section
namespace Go.Proofs.YtgmimgmdbpcecaaGreatDoor
open Go Go.Ah
set_option linter.unusedSimpArgs false
set_option linter.unusedVariables false
set_option maxRecDepth 10000
set_option maxHeartbeats 4000000
/-! 8 loop.example/g00066/laws.eqClipS: parameters 2, live [0, 1], slots [0:a, 1:b, 2:a, 3:b, 5:i] -/
def c8_0 : List SOper := [⟨some 4, .q (.mv (.c (.bool false))), none⟩]
def c8_1 : List SOper := [⟨some 6, .q (.mv (.t 0)), none⟩, ⟨some 7, .q (.len (.t 6)), none⟩, ⟨some 8, .q (.mv (.t 1)), none⟩, ⟨some 9, .q (.len (.t 8)), none⟩, ⟨some 10, .q (.bin .neq (.t 7) (.t 9)), none⟩]
def c8_2 : List SOper := [⟨some 4, .q (.mv (.c (.bool false))), none⟩]
def c8_3 : SCode := .seq (.region c8_2 [4]) .ret
def c8_4 : SCode := .cond (.t 10) c8_3 .skip
def c8_5 : SCode := .seq (.region c8_1 [0, 1, 10]) c8_4
def c8_6 : List SOper := [⟨some 5, .q (.mv (.c (.int .i64 0))), none⟩]
def c8_7 : List SOper := [⟨some 11, .q (.mv (.t 5)), none⟩, ⟨some 12, .q (.mv (.t 0)), none⟩, ⟨some 13, .q (.len (.t 12)), none⟩, ⟨some 14, .q (.bin .lss (.t 11) (.t 13)), none⟩]
def c8_8 : SCode := .cond (.t 14) .skip (.exit 0)
def c8_9 : SCode := .seq (.region c8_7 [0, 1, 5, 14]) c8_8
def c8_10 : List SOper := [⟨some 17, .q (.mv (.t 0)), none⟩, ⟨some 18, .q (.mv (.t 5)), none⟩, ⟨some 19, .q (.ia 3 (.t 17) (.t 18)), none⟩, ⟨some 20, .q (.ldn 3 (.t 19)), none⟩, ⟨some 21, .q (.mv (.t 1)), none⟩, ⟨some 22, .q (.mv (.t 5)), none⟩, ⟨some 23, .q (.ia 3 (.t 21) (.t 22)), none⟩, ⟨some 24, .q (.ldn 3 (.t 23)), none⟩, ⟨some 25, .e (.call 25 [(.t 20), (.t 24)]), none⟩, ⟨some 26, .q (.not (.t 25)), none⟩]
def c8_11 : List SOper := [⟨some 4, .q (.mv (.c (.bool false))), none⟩]
def c8_12 : SCode := .seq (.region c8_11 [4]) .ret
def c8_13 : SCode := .cond (.t 26) c8_12 .skip
def c8_14 : SCode := .seq (.region c8_10 [0, 1, 5, 26]) c8_13
def c8_15 : SCode := .block 1 c8_14
def c8_16 : List SOper := [⟨some 15, .q (.mv (.t 5)), none⟩, ⟨some 16, .q (.bin .add (.t 15) (.c (.int .i64 1))), none⟩, ⟨some 5, .q (.mv (.t 16)), none⟩]
def c8_17 : SCode := .seq c8_15 (.region c8_16 [0, 1, 5])
def c8_18 : SCode := .seq c8_9 c8_17
def c8_19 : SCode := .loop c8_18
def c8_20 : SCode := .block 0 c8_19
def c8_21 : SCode := .seq (.region c8_6 [0, 1, 5]) c8_20
def c8_22 : List SOper := [⟨some 4, .q (.mv (.c (.bool true))), none⟩]
def c8_23 : SCode := .seq (.region c8_22 [4]) .ret
def c8_24 : SCode := .seq c8_21 c8_23
def c8_25 : SCode := .seq c8_5 c8_24
def c8_26 : SCode := .seq (.region c8_0 [0, 1]) c8_25
def c8 : SCode := c8_26
theorem w8 : type_of% (And.intro (uR Tryz.prog c8_0.eq_1) (And.intro (uR Tryz.prog c8_1.eq_1) (And.intro (uR Tryz.prog c8_2.eq_1) (And.intro (uC Tryz.prog c8_3.eq_1) (And.intro (uC Tryz.prog c8_4.eq_1) (And.intro (uC Tryz.prog c8_5.eq_1) (And.intro (uR Tryz.prog c8_6.eq_1) (And.intro (uR Tryz.prog c8_7.eq_1) (And.intro (uC Tryz.prog c8_8.eq_1) (And.intro (uC Tryz.prog c8_9.eq_1) (And.intro (uR Tryz.prog c8_10.eq_1) (And.intro (uR Tryz.prog c8_11.eq_1) (And.intro (uC Tryz.prog c8_12.eq_1) (And.intro (uC Tryz.prog c8_13.eq_1) (And.intro (uC Tryz.prog c8_14.eq_1) (And.intro (uC Tryz.prog c8_15.eq_1) (And.intro (uR Tryz.prog c8_16.eq_1) (And.intro (uC Tryz.prog c8_17.eq_1) (And.intro (uC Tryz.prog c8_18.eq_1) (And.intro (uC Tryz.prog c8_19.eq_1) (And.intro (uC Tryz.prog c8_20.eq_1) (And.intro (uC Tryz.prog c8_21.eq_1) (And.intro (uR Tryz.prog c8_22.eq_1) (And.intro (uC Tryz.prog c8_23.eq_1) (And.intro (uC Tryz.prog c8_24.eq_1) (And.intro (uC Tryz.prog c8_25.eq_1) (And.intro (uC Tryz.prog c8_26.eq_1) (uC Tryz.prog c8.eq_1)))))))))))))))))))))))))))) := (And.intro (uR Tryz.prog c8_0.eq_1) (And.intro (uR Tryz.prog c8_1.eq_1) (And.intro (uR Tryz.prog c8_2.eq_1) (And.intro (uC Tryz.prog c8_3.eq_1) (And.intro (uC Tryz.prog c8_4.eq_1) (And.intro (uC Tryz.prog c8_5.eq_1) (And.intro (uR Tryz.prog c8_6.eq_1) (And.intro (uR Tryz.prog c8_7.eq_1) (And.intro (uC Tryz.prog c8_8.eq_1) (And.intro (uC Tryz.prog c8_9.eq_1) (And.intro (uR Tryz.prog c8_10.eq_1) (And.intro (uR Tryz.prog c8_11.eq_1) (And.intro (uC Tryz.prog c8_12.eq_1) (And.intro (uC Tryz.prog c8_13.eq_1) (And.intro (uC Tryz.prog c8_14.eq_1) (And.intro (uC Tryz.prog c8_15.eq_1) (And.intro (uR Tryz.prog c8_16.eq_1) (And.intro (uC Tryz.prog c8_17.eq_1) (And.intro (uC Tryz.prog c8_18.eq_1) (And.intro (uC Tryz.prog c8_19.eq_1) (And.intro (uC Tryz.prog c8_20.eq_1) (And.intro (uC Tryz.prog c8_21.eq_1) (And.intro (uR Tryz.prog c8_22.eq_1) (And.intro (uC Tryz.prog c8_23.eq_1) (And.intro (uC Tryz.prog c8_24.eq_1) (And.intro (uC Tryz.prog c8_25.eq_1) (And.intro (uC Tryz.prog c8_26.eq_1) (uC Tryz.prog c8.eq_1))))))))))))))))))))))))))))
def v8 : List RV := [.t 4]
theorem s8 : slimF Tryz.prog Tryz.f8 = some (c8.bare, v8) := by kernel_rfl

/-! 25 loop.example/g00066/laws.eqClip: parameters 2, live [0, 1], slots [0:a, 1:b, 2:a, 3:b] -/
def c25_0 : List SOper := [⟨some 2, .a (.box (.t 0)), none⟩, ⟨some 3, .a (.box (.t 1)), none⟩, ⟨some 4, .q (.mv (.c (.bool false))), none⟩]
def c25_1 : List SOper := [⟨some 5, .q (.fa 0 (.t 2)), none⟩, ⟨some 6, .q (.ld (.t 5)), none⟩, ⟨some 7, .q (.fa 0 (.t 3)), none⟩, ⟨some 8, .q (.ld (.t 7)), none⟩, ⟨some 9, .q (.bin .neq (.t 6) (.t 8)), none⟩]
def c25_2 : List SOper := [⟨some 4, .q (.mv (.c (.bool false))), none⟩]
def c25_3 : SCode := .seq (.region c25_2 [4]) .ret
def c25_4 : SCode := .cond (.t 9) c25_3 .skip
def c25_5 : SCode := .seq (.region c25_1 [2, 3, 9]) c25_4
def c25_6 : List SOper := [⟨some 10, .q (.fa 1 (.t 2)), none⟩, ⟨some 11, .q (.ld (.t 10)), none⟩, ⟨some 12, .q (.fa 1 (.t 3)), none⟩, ⟨some 13, .q (.ld (.t 12)), none⟩, ⟨some 14, .q (.bin .neq (.t 11) (.t 13)), none⟩]
def c25_7 : List SOper := [⟨some 4, .q (.mv (.c (.bool false))), none⟩]
def c25_8 : SCode := .seq (.region c25_7 [4]) .ret
def c25_9 : SCode := .cond (.t 14) c25_8 .skip
def c25_10 : SCode := .seq (.region c25_6 [2, 3, 14]) c25_9
def c25_11 : List SOper := [⟨some 15, .q (.fa 2 (.t 2)), none⟩, ⟨some 16, .q (.ld (.t 15)), none⟩, ⟨some 17, .q (.fa 2 (.t 3)), none⟩, ⟨some 18, .q (.ld (.t 17)), none⟩, ⟨some 19, .q (.bin .neq (.t 16) (.t 18)), none⟩]
def c25_12 : List SOper := [⟨some 4, .q (.mv (.c (.bool false))), none⟩]
def c25_13 : SCode := .seq (.region c25_12 [4]) .ret
def c25_14 : SCode := .cond (.t 19) c25_13 .skip
def c25_15 : SCode := .seq (.region c25_11 [19]) c25_14
def c25_16 : List SOper := [⟨some 4, .q (.mv (.c (.bool true))), none⟩]
def c25_17 : SCode := .seq (.region c25_16 [4]) .ret
def c25_18 : SCode := .seq c25_15 c25_17
def c25_19 : SCode := .seq c25_10 c25_18
def c25_20 : SCode := .seq c25_5 c25_19
def c25_21 : SCode := .seq (.region c25_0 [2, 3]) c25_20
def c25 : SCode := c25_21
theorem w25 : type_of% (And.intro (uR Tryz.prog c25_0.eq_1) (And.intro (uR Tryz.prog c25_1.eq_1) (And.intro (uR Tryz.prog c25_2.eq_1) (And.intro (uC Tryz.prog c25_3.eq_1) (And.intro (uC Tryz.prog c25_4.eq_1) (And.intro (uC Tryz.prog c25_5.eq_1) (And.intro (uR Tryz.prog c25_6.eq_1) (And.intro (uR Tryz.prog c25_7.eq_1) (And.intro (uC Tryz.prog c25_8.eq_1) (And.intro (uC Tryz.prog c25_9.eq_1) (And.intro (uC Tryz.prog c25_10.eq_1) (And.intro (uR Tryz.prog c25_11.eq_1) (And.intro (uR Tryz.prog c25_12.eq_1) (And.intro (uC Tryz.prog c25_13.eq_1) (And.intro (uC Tryz.prog c25_14.eq_1) (And.intro (uC Tryz.prog c25_15.eq_1) (And.intro (uR Tryz.prog c25_16.eq_1) (And.intro (uC Tryz.prog c25_17.eq_1) (And.intro (uC Tryz.prog c25_18.eq_1) (And.intro (uC Tryz.prog c25_19.eq_1) (And.intro (uC Tryz.prog c25_20.eq_1) (And.intro (uC Tryz.prog c25_21.eq_1) (uC Tryz.prog c25.eq_1))))))))))))))))))))))) := (And.intro (uR Tryz.prog c25_0.eq_1) (And.intro (uR Tryz.prog c25_1.eq_1) (And.intro (uR Tryz.prog c25_2.eq_1) (And.intro (uC Tryz.prog c25_3.eq_1) (And.intro (uC Tryz.prog c25_4.eq_1) (And.intro (uC Tryz.prog c25_5.eq_1) (And.intro (uR Tryz.prog c25_6.eq_1) (And.intro (uR Tryz.prog c25_7.eq_1) (And.intro (uC Tryz.prog c25_8.eq_1) (And.intro (uC Tryz.prog c25_9.eq_1) (And.intro (uC Tryz.prog c25_10.eq_1) (And.intro (uR Tryz.prog c25_11.eq_1) (And.intro (uR Tryz.prog c25_12.eq_1) (And.intro (uC Tryz.prog c25_13.eq_1) (And.intro (uC Tryz.prog c25_14.eq_1) (And.intro (uC Tryz.prog c25_15.eq_1) (And.intro (uR Tryz.prog c25_16.eq_1) (And.intro (uC Tryz.prog c25_17.eq_1) (And.intro (uC Tryz.prog c25_18.eq_1) (And.intro (uC Tryz.prog c25_19.eq_1) (And.intro (uC Tryz.prog c25_20.eq_1) (And.intro (uC Tryz.prog c25_21.eq_1) (uC Tryz.prog c25.eq_1)))))))))))))))))))))))
def v25 : List RV := [.t 4]
theorem s25 : slimF Tryz.prog Tryz.f25 = some (c25.bare, v25) := by kernel_rfl

/-! 10 loop.example/g00066/laws.markClipS: parameters 2, live [0, 1], slots [0:a, 1:k, 2:a, 3:k, 5:i] -/
def c10_0 : List SOper := [⟨some 4, .q (.mv (.c (.int .i64 0))), none⟩]
def c10_1 : List SOper := [⟨some 5, .q (.mv (.c (.int .i64 0))), none⟩]
def c10_2 : List SOper := [⟨some 6, .q (.mv (.t 5)), none⟩, ⟨some 7, .q (.mv (.t 0)), none⟩, ⟨some 8, .q (.len (.t 7)), none⟩, ⟨some 9, .q (.bin .lss (.t 6) (.t 8)), none⟩]
def c10_3 : SCode := .cond (.t 9) .skip (.exit 0)
def c10_4 : SCode := .seq (.region c10_2 [0, 1, 5, 9]) c10_3
def c10_5 : List SOper := [⟨some 12, .q (.mv (.t 0)), none⟩, ⟨some 13, .q (.mv (.t 5)), none⟩, ⟨some 14, .q (.mv (.t 1)), none⟩, ⟨some 15, .q (.ia 3 (.t 12) (.t 13)), none⟩, ⟨some 16, .q (.fa 0 (.t 15)), none⟩, ⟨none, .e (.st 1 (.t 16) (.t 14)), none⟩]
def c10_6 : List SOper := [⟨some 17, .q (.mv (.t 1)), none⟩, ⟨some 18, .q (.bin .add (.t 17) (.c (.int .i64 1))), none⟩, ⟨some 1, .q (.mv (.t 18)), none⟩]
def c10_7 : List SOper := [⟨some 19, .q (.mv (.t 0)), none⟩, ⟨some 20, .q (.mv (.t 5)), none⟩, ⟨some 21, .q (.mv (.t 1)), none⟩, ⟨some 22, .q (.ia 3 (.t 19) (.t 20)), none⟩, ⟨some 23, .q (.fa 1 (.t 22)), none⟩, ⟨none, .e (.st 1 (.t 23) (.t 21)), none⟩]
def c10_8 : List SOper := [⟨some 24, .q (.mv (.t 1)), none⟩, ⟨some 25, .q (.bin .add (.t 24) (.c (.int .i64 1))), none⟩, ⟨some 1, .q (.mv (.t 25)), none⟩]
def c10_9 : List SOper := [⟨some 26, .q (.mv (.t 0)), none⟩, ⟨some 27, .q (.mv (.t 5)), none⟩, ⟨some 28, .q (.mv (.t 1)), none⟩, ⟨some 29, .q (.ia 3 (.t 26) (.t 27)), none⟩, ⟨some 30, .q (.fa 2 (.t 29)), none⟩, ⟨none, .e (.st 1 (.t 30) (.t 28)), none⟩]
def c10_10 : List SOper := [⟨some 31, .q (.mv (.t 1)), none⟩, ⟨some 32, .q (.bin .add (.t 31) (.c (.int .i64 1))), none⟩, ⟨some 1, .q (.mv (.t 32)), none⟩]
def c10_11 : SCode := .seq (.region c10_9 [0, 1, 5]) (.region c10_10 [0, 1, 5])
def c10_12 : SCode := .seq (.region c10_8 [0, 1, 5]) c10_11
def c10_13 : SCode := .seq (.region c10_7 [0, 1, 5]) c10_12
def c10_14 : SCode := .seq (.region c10_6 [0, 1, 5]) c10_13
def c10_15 : SCode := .seq (.region c10_5 [0, 1, 5]) c10_14
def c10_16 : SCode := .block 1 c10_15
def c10_17 : List SOper := [⟨some 10, .q (.mv (.t 5)), none⟩, ⟨some 11, .q (.bin .add (.t 10) (.c (.int .i64 1))), none⟩, ⟨some 5, .q (.mv (.t 11)), none⟩]
def c10_18 : SCode := .seq c10_16 (.region c10_17 [0, 1, 5])
def c10_19 : SCode := .seq c10_4 c10_18
def c10_20 : SCode := .loop c10_19
def c10_21 : SCode := .block 0 c10_20
def c10_22 : SCode := .seq (.region c10_1 [0, 1, 5]) c10_21
def c10_23 : List SOper := [⟨some 33, .q (.mv (.t 1)), none⟩, ⟨some 4, .q (.mv (.t 33)), none⟩]
def c10_24 : SCode := .seq (.region c10_23 [4]) .ret
def c10_25 : SCode := .seq c10_22 c10_24
def c10_26 : SCode := .seq (.region c10_0 [0, 1]) c10_25
def c10 : SCode := c10_26
theorem w10 : type_of% (And.intro (uR Tryz.prog c10_0.eq_1) (And.intro (uR Tryz.prog c10_1.eq_1) (And.intro (uR Tryz.prog c10_2.eq_1) (And.intro (uC Tryz.prog c10_3.eq_1) (And.intro (uC Tryz.prog c10_4.eq_1) (And.intro (uR Tryz.prog c10_5.eq_1) (And.intro (uR Tryz.prog c10_6.eq_1) (And.intro (uR Tryz.prog c10_7.eq_1) (And.intro (uR Tryz.prog c10_8.eq_1) (And.intro (uR Tryz.prog c10_9.eq_1) (And.intro (uR Tryz.prog c10_10.eq_1) (And.intro (uC Tryz.prog c10_11.eq_1) (And.intro (uC Tryz.prog c10_12.eq_1) (And.intro (uC Tryz.prog c10_13.eq_1) (And.intro (uC Tryz.prog c10_14.eq_1) (And.intro (uC Tryz.prog c10_15.eq_1) (And.intro (uC Tryz.prog c10_16.eq_1) (And.intro (uR Tryz.prog c10_17.eq_1) (And.intro (uC Tryz.prog c10_18.eq_1) (And.intro (uC Tryz.prog c10_19.eq_1) (And.intro (uC Tryz.prog c10_20.eq_1) (And.intro (uC Tryz.prog c10_21.eq_1) (And.intro (uC Tryz.prog c10_22.eq_1) (And.intro (uR Tryz.prog c10_23.eq_1) (And.intro (uC Tryz.prog c10_24.eq_1) (And.intro (uC Tryz.prog c10_25.eq_1) (And.intro (uC Tryz.prog c10_26.eq_1) (uC Tryz.prog c10.eq_1)))))))))))))))))))))))))))) := (And.intro (uR Tryz.prog c10_0.eq_1) (And.intro (uR Tryz.prog c10_1.eq_1) (And.intro (uR Tryz.prog c10_2.eq_1) (And.intro (uC Tryz.prog c10_3.eq_1) (And.intro (uC Tryz.prog c10_4.eq_1) (And.intro (uR Tryz.prog c10_5.eq_1) (And.intro (uR Tryz.prog c10_6.eq_1) (And.intro (uR Tryz.prog c10_7.eq_1) (And.intro (uR Tryz.prog c10_8.eq_1) (And.intro (uR Tryz.prog c10_9.eq_1) (And.intro (uR Tryz.prog c10_10.eq_1) (And.intro (uC Tryz.prog c10_11.eq_1) (And.intro (uC Tryz.prog c10_12.eq_1) (And.intro (uC Tryz.prog c10_13.eq_1) (And.intro (uC Tryz.prog c10_14.eq_1) (And.intro (uC Tryz.prog c10_15.eq_1) (And.intro (uC Tryz.prog c10_16.eq_1) (And.intro (uR Tryz.prog c10_17.eq_1) (And.intro (uC Tryz.prog c10_18.eq_1) (And.intro (uC Tryz.prog c10_19.eq_1) (And.intro (uC Tryz.prog c10_20.eq_1) (And.intro (uC Tryz.prog c10_21.eq_1) (And.intro (uC Tryz.prog c10_22.eq_1) (And.intro (uR Tryz.prog c10_23.eq_1) (And.intro (uC Tryz.prog c10_24.eq_1) (And.intro (uC Tryz.prog c10_25.eq_1) (And.intro (uC Tryz.prog c10_26.eq_1) (uC Tryz.prog c10.eq_1))))))))))))))))))))))))))))
def v10 : List RV := [.t 4]
theorem s10 : slimF Tryz.prog Tryz.f10 = some (c10.bare, v10) := by kernel_rfl

/-! 11 loop.example/g00066/laws.heldClipS: parameters 2, live [0, 1], slots [0:a, 1:k, 2:a, 3:k, 5:i] -/
def c11_0 : List SOper := [⟨some 4, .q (.mv (.c (.int .i64 0))), none⟩]
def c11_1 : List SOper := [⟨some 5, .q (.mv (.c (.int .i64 0))), none⟩]
def c11_2 : List SOper := [⟨some 6, .q (.mv (.t 5)), none⟩, ⟨some 7, .q (.mv (.t 0)), none⟩, ⟨some 8, .q (.len (.t 7)), none⟩, ⟨some 9, .q (.bin .lss (.t 6) (.t 8)), none⟩]
def c11_3 : SCode := .cond (.t 9) .skip (.exit 0)
def c11_4 : SCode := .seq (.region c11_2 [0, 1, 5, 9]) c11_3
def c11_5 : List SOper := [⟨some 12, .q (.mv (.t 0)), none⟩, ⟨some 13, .q (.mv (.t 5)), none⟩, ⟨some 14, .q (.ia 3 (.t 12) (.t 13)), none⟩, ⟨some 15, .q (.fa 0 (.t 14)), none⟩, ⟨some 16, .q (.ld (.t 15)), none⟩, ⟨some 17, .q (.mv (.t 1)), none⟩, ⟨some 18, .q (.bin .neq (.t 16) (.t 17)), none⟩]
def c11_6 : List SOper := [⟨some 4, .q (.mv (.c (.int .i64 (-1)))), none⟩]
def c11_7 : SCode := .seq (.region c11_6 [4]) .ret
def c11_8 : SCode := .cond (.t 18) c11_7 .skip
def c11_9 : SCode := .seq (.region c11_5 [0, 1, 5, 18]) c11_8
def c11_10 : List SOper := [⟨some 19, .q (.mv (.t 1)), none⟩, ⟨some 20, .q (.bin .add (.t 19) (.c (.int .i64 1))), none⟩, ⟨some 1, .q (.mv (.t 20)), none⟩]
def c11_11 : List SOper := [⟨some 21, .q (.mv (.t 0)), none⟩, ⟨some 22, .q (.mv (.t 5)), none⟩, ⟨some 23, .q (.ia 3 (.t 21) (.t 22)), none⟩, ⟨some 24, .q (.fa 1 (.t 23)), none⟩, ⟨some 25, .q (.ld (.t 24)), none⟩, ⟨some 26, .q (.mv (.t 1)), none⟩, ⟨some 27, .q (.bin .neq (.t 25) (.t 26)), none⟩]
def c11_12 : List SOper := [⟨some 4, .q (.mv (.c (.int .i64 (-1)))), none⟩]
def c11_13 : SCode := .seq (.region c11_12 [4]) .ret
def c11_14 : SCode := .cond (.t 27) c11_13 .skip
def c11_15 : SCode := .seq (.region c11_11 [0, 1, 5, 27]) c11_14
def c11_16 : List SOper := [⟨some 28, .q (.mv (.t 1)), none⟩, ⟨some 29, .q (.bin .add (.t 28) (.c (.int .i64 1))), none⟩, ⟨some 1, .q (.mv (.t 29)), none⟩]
def c11_17 : List SOper := [⟨some 30, .q (.mv (.t 0)), none⟩, ⟨some 31, .q (.mv (.t 5)), none⟩, ⟨some 32, .q (.ia 3 (.t 30) (.t 31)), none⟩, ⟨some 33, .q (.fa 2 (.t 32)), none⟩, ⟨some 34, .q (.ld (.t 33)), none⟩, ⟨some 35, .q (.mv (.t 1)), none⟩, ⟨some 36, .q (.bin .neq (.t 34) (.t 35)), none⟩]
def c11_18 : List SOper := [⟨some 4, .q (.mv (.c (.int .i64 (-1)))), none⟩]
def c11_19 : SCode := .seq (.region c11_18 [4]) .ret
def c11_20 : SCode := .cond (.t 36) c11_19 .skip
def c11_21 : SCode := .seq (.region c11_17 [0, 1, 5, 36]) c11_20
def c11_22 : List SOper := [⟨some 37, .q (.mv (.t 1)), none⟩, ⟨some 38, .q (.bin .add (.t 37) (.c (.int .i64 1))), none⟩, ⟨some 1, .q (.mv (.t 38)), none⟩]
def c11_23 : SCode := .seq c11_21 (.region c11_22 [0, 1, 5])
def c11_24 : SCode := .seq (.region c11_16 [0, 1, 5]) c11_23
def c11_25 : SCode := .seq c11_15 c11_24
def c11_26 : SCode := .seq (.region c11_10 [0, 1, 5]) c11_25
def c11_27 : SCode := .seq c11_9 c11_26
def c11_28 : SCode := .block 1 c11_27
def c11_29 : List SOper := [⟨some 10, .q (.mv (.t 5)), none⟩, ⟨some 11, .q (.bin .add (.t 10) (.c (.int .i64 1))), none⟩, ⟨some 5, .q (.mv (.t 11)), none⟩]
def c11_30 : SCode := .seq c11_28 (.region c11_29 [0, 1, 5])
def c11_31 : SCode := .seq c11_4 c11_30
def c11_32 : SCode := .loop c11_31
def c11_33 : SCode := .block 0 c11_32
def c11_34 : SCode := .seq (.region c11_1 [0, 1, 5]) c11_33
def c11_35 : List SOper := [⟨some 39, .q (.mv (.t 1)), none⟩, ⟨some 4, .q (.mv (.t 39)), none⟩]
def c11_36 : SCode := .seq (.region c11_35 [4]) .ret
def c11_37 : SCode := .seq c11_34 c11_36
def c11_38 : SCode := .seq (.region c11_0 [0, 1]) c11_37
def c11 : SCode := c11_38
theorem w11 : type_of% (And.intro (uR Tryz.prog c11_0.eq_1) (And.intro (uR Tryz.prog c11_1.eq_1) (And.intro (uR Tryz.prog c11_2.eq_1) (And.intro (uC Tryz.prog c11_3.eq_1) (And.intro (uC Tryz.prog c11_4.eq_1) (And.intro (uR Tryz.prog c11_5.eq_1) (And.intro (uR Tryz.prog c11_6.eq_1) (And.intro (uC Tryz.prog c11_7.eq_1) (And.intro (uC Tryz.prog c11_8.eq_1) (And.intro (uC Tryz.prog c11_9.eq_1) (And.intro (uR Tryz.prog c11_10.eq_1) (And.intro (uR Tryz.prog c11_11.eq_1) (And.intro (uR Tryz.prog c11_12.eq_1) (And.intro (uC Tryz.prog c11_13.eq_1) (And.intro (uC Tryz.prog c11_14.eq_1) (And.intro (uC Tryz.prog c11_15.eq_1) (And.intro (uR Tryz.prog c11_16.eq_1) (And.intro (uR Tryz.prog c11_17.eq_1) (And.intro (uR Tryz.prog c11_18.eq_1) (And.intro (uC Tryz.prog c11_19.eq_1) (And.intro (uC Tryz.prog c11_20.eq_1) (And.intro (uC Tryz.prog c11_21.eq_1) (And.intro (uR Tryz.prog c11_22.eq_1) (And.intro (uC Tryz.prog c11_23.eq_1) (And.intro (uC Tryz.prog c11_24.eq_1) (And.intro (uC Tryz.prog c11_25.eq_1) (And.intro (uC Tryz.prog c11_26.eq_1) (And.intro (uC Tryz.prog c11_27.eq_1) (And.intro (uC Tryz.prog c11_28.eq_1) (And.intro (uR Tryz.prog c11_29.eq_1) (And.intro (uC Tryz.prog c11_30.eq_1) (And.intro (uC Tryz.prog c11_31.eq_1) (And.intro (uC Tryz.prog c11_32.eq_1) (And.intro (uC Tryz.prog c11_33.eq_1) (And.intro (uC Tryz.prog c11_34.eq_1) (And.intro (uR Tryz.prog c11_35.eq_1) (And.intro (uC Tryz.prog c11_36.eq_1) (And.intro (uC Tryz.prog c11_37.eq_1) (And.intro (uC Tryz.prog c11_38.eq_1) (uC Tryz.prog c11.eq_1)))))))))))))))))))))))))))))))))))))))) := (And.intro (uR Tryz.prog c11_0.eq_1) (And.intro (uR Tryz.prog c11_1.eq_1) (And.intro (uR Tryz.prog c11_2.eq_1) (And.intro (uC Tryz.prog c11_3.eq_1) (And.intro (uC Tryz.prog c11_4.eq_1) (And.intro (uR Tryz.prog c11_5.eq_1) (And.intro (uR Tryz.prog c11_6.eq_1) (And.intro (uC Tryz.prog c11_7.eq_1) (And.intro (uC Tryz.prog c11_8.eq_1) (And.intro (uC Tryz.prog c11_9.eq_1) (And.intro (uR Tryz.prog c11_10.eq_1) (And.intro (uR Tryz.prog c11_11.eq_1) (And.intro (uR Tryz.prog c11_12.eq_1) (And.intro (uC Tryz.prog c11_13.eq_1) (And.intro (uC Tryz.prog c11_14.eq_1) (And.intro (uC Tryz.prog c11_15.eq_1) (And.intro (uR Tryz.prog c11_16.eq_1) (And.intro (uR Tryz.prog c11_17.eq_1) (And.intro (uR Tryz.prog c11_18.eq_1) (And.intro (uC Tryz.prog c11_19.eq_1) (And.intro (uC Tryz.prog c11_20.eq_1) (And.intro (uC Tryz.prog c11_21.eq_1) (And.intro (uR Tryz.prog c11_22.eq_1) (And.intro (uC Tryz.prog c11_23.eq_1) (And.intro (uC Tryz.prog c11_24.eq_1) (And.intro (uC Tryz.prog c11_25.eq_1) (And.intro (uC Tryz.prog c11_26.eq_1) (And.intro (uC Tryz.prog c11_27.eq_1) (And.intro (uC Tryz.prog c11_28.eq_1) (And.intro (uR Tryz.prog c11_29.eq_1) (And.intro (uC Tryz.prog c11_30.eq_1) (And.intro (uC Tryz.prog c11_31.eq_1) (And.intro (uC Tryz.prog c11_32.eq_1) (And.intro (uC Tryz.prog c11_33.eq_1) (And.intro (uC Tryz.prog c11_34.eq_1) (And.intro (uR Tryz.prog c11_35.eq_1) (And.intro (uC Tryz.prog c11_36.eq_1) (And.intro (uC Tryz.prog c11_37.eq_1) (And.intro (uC Tryz.prog c11_38.eq_1) (uC Tryz.prog c11.eq_1))))))))))))))))))))))))))))))))))))))))
def v11 : List RV := [.t 4]
theorem s11 : slimF Tryz.prog Tryz.f11 = some (c11.bare, v11) := by kernel_rfl

structure Clip where
  src : Int
  inn : Int
  len : Int
  deriving DecidableEq
def zClip : Clip := ⟨0, 0, 0⟩
def encClip (k : Clip) : List Value := [.int .i64 k.src, .int .i64 k.inn, .int .i64 k.len]
theorem encClip_len (k : Clip) : (encClip k).length = 3 := rfl
theorem take_set_rep {α : Type} (l : List α) (z : α) (i : Nat) (hi : i < l.length) : (l.take i ++ List.replicate (l.length - i) z).set i l[i] = l.take (i + 1) ++ List.replicate (l.length - (i + 1)) z := by
  have hlen : (l.take i).length = i := by simp; omega
  rw [show l.length - i = (l.length - (i + 1)) + 1 by omega, List.replicate_succ, List.set_append_right _ _ (by omega), hlen, Nat.sub_self, List.set_cons_zero,
    List.take_succ_eq_append_getElem hi, List.append_assoc]
  rfl
theorem eqClip_ok (h : Heap) (k k' : Clip) : ACall Tryz.prog 25 [.agg (encClip k).toArray, .agg (encClip k').toArray] h
    fun r h' => Ext h h' ∧ r = .bool (decide (k = k')) := by
  obtain ⟨a, b, c⟩ := k; obtain ⟨a', b', c'⟩ := k'
  refine ACall.of Tryz.func25 s25 (of_decide_eq_true rfl) ?_
  simp (maxSteps := 4000000) (disch := omega) only [ah, am, Nat.reduceEqDiff, reduceCtorEq, Nat.reduceAdd, Nat.reduceLeDiff, Nat.reduceMul, Nat.reduceLT, if_true, if_false, true_and, and_true, and_self, Nat.reduceBEq, QOp.loads, boxO, bslO, buildO, cutL, fillV, putL, w25, v25, encClip, stepI_dec]
  repeat' split
  all_goals exact ⟨Ext.more _ _, by simp [*]⟩

theorem eqClipS_ok (h : Heap) (v v' : Value) (l l' : List Clip) (hs : SlT h encClip 3 v l) (hs' : SlT h encClip 3 v' l') (hl : l.length ≤ 281474976710656) (hl' : l'.length ≤ 281474976710656) :
    ACall Tryz.prog 8 [v, v'] h fun r h' => Ext h h' ∧ r = .bool (decide (l = l')) := by
  refine ACall.of Tryz.func8 s8 (of_decide_eq_true rfl) ?_
  have R := hs.rulesN
  have R' := hs'.rulesN
  simp (maxSteps := 4000000) (disch := omega) only [ah, am, Nat.reduceEqDiff, reduceCtorEq, Nat.reduceAdd, Nat.reduceLeDiff, Nat.reduceMul, Nat.reduceLT, if_true, if_false, true_and, and_true, and_self, Nat.reduceBEq, QOp.loads, boxO, bslO, buildO, cutL, fillV, putL, w8, v8, R, R']
  refine stepI.split (fun hp => ?_) (fun hp => ?_)
  rotate_left
  · simp (maxSteps := 4000000) (disch := omega) only [ah, am, Nat.reduceEqDiff, reduceCtorEq, Nat.reduceAdd, Nat.reduceLeDiff, Nat.reduceMul, Nat.reduceLT, if_true, if_false, true_and, and_true, and_self, Nat.reduceBEq, QOp.loads, boxO, bslO, buildO, cutL, fillV, putL, w8, v8]
    exact ⟨Ext.refl h, by rw [decide_eq_false]; rintro rfl; exact hp rfl⟩
  have hll : l.length = l'.length := by omega
  simp (maxSteps := 4000000) (disch := omega) only [ah, am, Nat.reduceEqDiff, reduceCtorEq, Nat.reduceAdd, Nat.reduceLeDiff, Nat.reduceMul, Nat.reduceLT, if_true, if_false, true_and, and_true, and_self, Nat.reduceBEq, QOp.loads, boxO, bslO, buildO, cutL, fillV, putL, w8, v8]
  refine SW_loop_up (fun i E H => E = [(0, v), (1, v'), (5, .int .i64 i)] ∧ Ext h H ∧ ∀ j (h1 : j < i) (h2 : j < l.length), l[j] = l'[j]) l.length 0 (by omega)
    ⟨rfl, .refl h, fun j h1 h2 => absurd h1 (by omega)⟩ ?_
  rintro i E H hi ⟨rfl, e, F⟩
  have R := (hs.ext e).rulesN
  have R' := (hs'.ext e).rulesN
  have W : IntKind.i64.wrap ((i : Int) + 1) = ((i + 1 : Nat) : Int) := i64e (by omega) (by omega)
  simp (maxSteps := 4000000) (disch := omega) only [ah, am, Nat.reduceEqDiff, reduceCtorEq, Nat.reduceAdd, Nat.reduceLeDiff, Nat.reduceMul, Nat.reduceLT, if_true, if_false, true_and, and_true, and_self, Nat.reduceBEq, QOp.loads, boxO, bslO, buildO, cutL, fillV, putL, w8, v8, R, R', W]
  refine stepI.split (fun hp => ?_) (fun hp => ?_)
  · simp (maxSteps := 4000000) (disch := omega) only [ah, am, Nat.reduceEqDiff, reduceCtorEq, Nat.reduceAdd, Nat.reduceLeDiff, Nat.reduceMul, Nat.reduceLT, if_true, if_false, true_and, and_true, and_self, Nat.reduceBEq, QOp.loads, boxO, bslO, buildO, cutL, fillV, putL, w8, v8, R, R', W]
    refine stepC.of (eqClip_ok _ _ _) ?_
    rintro r H1 ⟨e1, rfl⟩
    simp (maxSteps := 4000000) (disch := omega) only [ah, am, Nat.reduceEqDiff, reduceCtorEq, Nat.reduceAdd, Nat.reduceLeDiff, Nat.reduceMul, Nat.reduceLT, if_true, if_false, true_and, and_true, and_self, Nat.reduceBEq, QOp.loads, boxO, bslO, buildO, cutL, fillV, putL, w8, v8, R, R', W]
    refine stepI.split (fun hq => ?_) (fun hq => ?_)
    · simp (maxSteps := 4000000) (disch := omega) only [ah, am, Nat.reduceEqDiff, reduceCtorEq, Nat.reduceAdd, Nat.reduceLeDiff, Nat.reduceMul, Nat.reduceLT, if_true, if_false, true_and, and_true, and_self, Nat.reduceBEq, QOp.loads, boxO, bslO, buildO, cutL, fillV, putL, w8, v8, W]
      exact ⟨by omega, e.trans e1, fun j h1 h2 => by
        by_cases hj : j = i
        · subst hj; exact hq
        · exact F j (by omega) h2⟩
    · simp (maxSteps := 4000000) (disch := omega) only [ah, am, Nat.reduceEqDiff, reduceCtorEq, Nat.reduceAdd, Nat.reduceLeDiff, Nat.reduceMul, Nat.reduceLT, if_true, if_false, true_and, and_true, and_self, Nat.reduceBEq, QOp.loads, boxO, bslO, buildO, cutL, fillV, putL, w8, v8, W]
      exact ⟨e.trans e1, by rw [decide_eq_false]; rintro rfl; exact hq rfl⟩
  · simp (maxSteps := 4000000) (disch := omega) only [ah, am, Nat.reduceEqDiff, reduceCtorEq, Nat.reduceAdd, Nat.reduceLeDiff, Nat.reduceMul, Nat.reduceLT, if_true, if_false, true_and, and_true, and_self, Nat.reduceBEq, QOp.loads, boxO, bslO, buildO, cutL, fillV, putL, w8, v8, R, W]
    refine ⟨e, ?_⟩
    rw [decide_eq_true]
    exact List.ext_getElem hll fun j h1 h2 => F j (by omega) h1
def markClip (k : Int) (n : Nat) : List Clip := (List.range n).map fun i : Nat => ⟨k + 3 * (i : Int), k + 3 * (i : Int) + 1, k + 3 * (i : Int) + 2⟩
theorem mark_step {α : Type} (f : Nat → α) (l : List α) (i : Nat) (hi : i < l.length) : ((List.range i).map f ++ l.drop i).set i (f i) = (List.range (i + 1)).map f ++ l.drop (i + 1) := by
  rw [List.set_append_right _ _ (by simp), List.length_map, List.length_range, Nat.sub_self, List.drop_eq_getElem_cons hi, List.set_cons_zero, List.range_succ, List.map_append, List.append_assoc]
  rfl
theorem markClipS_ok (h : Heap) (g : Nat) (v : Value) (l : List Clip) (k : Int) (o : OwnT g h encClip 3 v l) (hl : l.length ≤ 1000000000) (hk : 0 ≤ k ∧ k ≤ 1000000000000) :
    ACall Tryz.prog 10 [v, .int .i64 k] h fun r h' => ExtG g h h' ∧ OwnT g h' encClip 3 v (markClip k l.length) ∧ r = .int .i64 (k + 3 * l.length) := by
  refine ACall.of Tryz.func10 s10 (of_decide_eq_true rfl) ?_
  have R := o.slt.rulesN
  simp (maxSteps := 4000000) (disch := omega) only [ah, am, Nat.reduceEqDiff, reduceCtorEq, Nat.reduceAdd, Nat.reduceLeDiff, Nat.reduceMul, Nat.reduceLT, if_true, if_false, true_and, and_true, and_self, Nat.reduceBEq, QOp.loads, boxO, bslO, buildO, cutL, fillV, putL, w10, v10, R]
  refine SW_loop_up (fun i E H => E = [(0, v), (1, .int .i64 (k + 3 * i)), (5, .int .i64 i)] ∧ ExtG g h H ∧ OwnT g H encClip 3 v (markClip k i ++ l.drop i)) l.length 0 (by omega)
    ⟨by simp, ExtG.refl g h, by simpa [markClip] using o⟩ ?_
  rintro i E H hi ⟨rfl, e, O⟩
  have hlen : (markClip k i ++ l.drop i).length = l.length := by simp [markClip]; omega
  have R := O.slt.rulesN
  simp only [hlen] at R
  have W : IntKind.i64.wrap ((i : Int) + 1) = ((i + 1 : Nat) : Int) := i64e (by omega) (by omega)
  have W1 : IntKind.i64.wrap (k + 3 * (i : Int) + 1) = k + 3 * (i : Int) + 1 := i64e (by omega) (by omega)
  have W2 : IntKind.i64.wrap (k + 3 * (i : Int) + 1 + 1) = k + 3 * (i : Int) + 2 := i64e (by omega) (by omega)
  have W3 : IntKind.i64.wrap (k + 3 * (i : Int) + 2 + 1) = k + 3 * ((i + 1 : Nat) : Int) := i64e (by omega) (by omega)
  simp (maxSteps := 4000000) (disch := omega) only [ah, am, Nat.reduceEqDiff, reduceCtorEq, Nat.reduceAdd, Nat.reduceLeDiff, Nat.reduceMul, Nat.reduceLT, if_true, if_false, true_and, and_true, and_self, Nat.reduceBEq, QOp.loads, boxO, bslO, buildO, cutL, fillV, putL, w10, v10, R, W]
  refine stepI.split (fun hp => ?_) (fun hp => ?_)
  · have hj : i < (markClip k i ++ l.drop i).length := by omega
    obtain ⟨H1, es1, O1, G1, -⟩ := O.setF (j := i) (f := 0) (n := 1) (y := .int .i64 (k + 3 * i)) (x := ⟨k + 3 * i, ((markClip k i ++ l.drop i)[i]).inn, ((markClip k i ++ l.drop i)[i]).len⟩) hj rfl (by omega) rfl (by omega) rfl
    obtain ⟨H2, es2, O2, G2, -⟩ := O1.setF (j := i) (f := 1) (n := 1) (y := .int .i64 (k + 3 * i + 1)) (x := ⟨k + 3 * i, k + 3 * i + 1, ((markClip k i ++ l.drop i)[i]).len⟩) (by simpa using hj) (by simp [encClip, splice, cells_int]) (by omega) rfl (by omega) rfl
    obtain ⟨H3, es3, O3, G3, -⟩ := O2.setF (j := i) (f := 2) (n := 1) (y := .int .i64 (k + 3 * i + 2)) (x := ⟨k + 3 * i, k + 3 * i + 1, k + 3 * i + 2⟩) (by simpa using hj) (by simp [encClip, splice, cells_int]) (by omega) rfl (by omega) rfl
    rw [List.set_set, List.set_set] at O3
    simp only [Nat.add_zero] at es1
    simp (maxSteps := 4000000) (disch := omega) only [ah, am, Nat.reduceEqDiff, reduceCtorEq, Nat.reduceAdd, Nat.reduceLeDiff, Nat.reduceMul, Nat.reduceLT, if_true, if_false, true_and, and_true, and_self, Nat.reduceBEq, QOp.loads, boxO, bslO, buildO, cutL, fillV, putL, w10, v10, R, es1, es2, es3, W, W1, W2, W3]
    refine ⟨by omega, ((e.trans G1).trans G2).trans G3, ?_⟩
    have := mark_step (fun i : Nat => (⟨k + 3 * (i : Int), k + 3 * (i : Int) + 1, k + 3 * (i : Int) + 2⟩ : Clip)) l i (by omega)
    unfold markClip at O3 ⊢
    rw [← this]; exact O3
  · simp (maxSteps := 4000000) (disch := omega) only [ah, am, Nat.reduceEqDiff, reduceCtorEq, Nat.reduceAdd, Nat.reduceLeDiff, Nat.reduceMul, Nat.reduceLT, if_true, if_false, true_and, and_true, and_self, Nat.reduceBEq, QOp.loads, boxO, bslO, buildO, cutL, fillV, putL, w10, v10]
    obtain rfl : i = l.length := by omega
    exact ⟨e, by simpa using O, rfl⟩
theorem heldClipS_ok (h : Heap) (v : Value) (n : Nat) (k : Int) (s : SlT h encClip 3 v (markClip k n)) (hl : n ≤ 1000000000) (hk : 0 ≤ k ∧ k ≤ 1000000000000) :
    ACall Tryz.prog 11 [v, .int .i64 k] h fun r h' => h' = h ∧ r = .int .i64 (k + 3 * n) := by
  refine ACall.of Tryz.func11 s11 (of_decide_eq_true rfl) ?_
  have R := s.rulesN
  have hn : (markClip k n).length = n := by simp [markClip]
  simp only [hn] at R
  simp (maxSteps := 4000000) (disch := omega) only [ah, am, Nat.reduceEqDiff, reduceCtorEq, Nat.reduceAdd, Nat.reduceLeDiff, Nat.reduceMul, Nat.reduceLT, if_true, if_false, true_and, and_true, and_self, Nat.reduceBEq, QOp.loads, boxO, bslO, buildO, cutL, fillV, putL, w11, v11, R]
  refine SW_loop_up (fun i E H => E = [(0, v), (1, .int .i64 (k + 3 * i)), (5, .int .i64 i)] ∧ H = h) n 0 (by omega) ⟨by simp, rfl⟩ ?_
  rintro i E H hi ⟨rfl, rfl⟩
  have W : IntKind.i64.wrap ((i : Int) + 1) = ((i + 1 : Nat) : Int) := i64e (by omega) (by omega)
  have W1 : IntKind.i64.wrap (k + 3 * (i : Int) + 1) = k + 3 * (i : Int) + 1 := i64e (by omega) (by omega)
  have W2 : IntKind.i64.wrap (k + 3 * (i : Int) + 1 + 1) = k + 3 * (i : Int) + 2 := i64e (by omega) (by omega)
  have W3 : IntKind.i64.wrap (k + 3 * (i : Int) + 2 + 1) = k + 3 * ((i + 1 : Nat) : Int) := i64e (by omega) (by omega)
  simp (maxSteps := 4000000) (disch := omega) only [ah, am, Nat.reduceEqDiff, reduceCtorEq, Nat.reduceAdd, Nat.reduceLeDiff, Nat.reduceMul, Nat.reduceLT, if_true, if_false, true_and, and_true, and_self, Nat.reduceBEq, QOp.loads, boxO, bslO, buildO, cutL, fillV, putL, w11, v11, R, W]
  refine stepI.split (fun hp => ?_) (fun hp => ?_)
  · have g : ∀ (hj : i < (markClip k n).length), encClip (markClip k n)[i] = [.int .i64 (k + 3 * i), .int .i64 (k + 3 * i + 1), .int .i64 (k + 3 * i + 2)] := by
      intro hj; simp [markClip, encClip]
    simp (maxSteps := 4000000) (disch := omega) only [ah, am, Nat.reduceEqDiff, reduceCtorEq, Nat.reduceAdd, Nat.reduceLeDiff, Nat.reduceMul, Nat.reduceLT, if_true, if_false, true_and, and_true, and_self, Nat.reduceBEq, QOp.loads, boxO, bslO, buildO, cutL, fillV, putL, w11, v11, R, g, W, W1, W2, W3, decide_true, stepI_true]
    omega
  · simp (maxSteps := 4000000) (disch := omega) only [ah, am, Nat.reduceEqDiff, reduceCtorEq, Nat.reduceAdd, Nat.reduceLeDiff, Nat.reduceMul, Nat.reduceLT, if_true, if_false, true_and, and_true, and_self, Nat.reduceBEq, QOp.loads, boxO, bslO, buildO, cutL, fillV, putL, w11, v11]
    obtain rfl : i = n := by omega
    rfl
end Go.Proofs.YtgmimgmdbpcecaaGreatDoor
end

section
namespace Go.Proofs.YtgmimgmdbpcecaaGreatDoor
open Go Go.Ah
set_option linter.unusedSimpArgs false
set_option linter.unusedVariables false
set_option maxRecDepth 10000
set_option maxHeartbeats 4000000
/-! 39 loop.example/g00066/spec.l1In: parameters 3, live [0, 1, 2], slots [0:x, 1:lo, 2:hi, 3:x, 4:lo, 5:hi] -/
def c39_0 : List SOper := [⟨some 6, .q (.mv (.c (.bool false))), none⟩]
def c39_1 : List SOper := [⟨some 7, .q (.mv (.t 0)), none⟩, ⟨some 8, .q (.mv (.t 1)), none⟩, ⟨some 9, .q (.bin .geq (.t 7) (.t 8)), none⟩, ⟨some 10, .q (.mv (.t 9)), none⟩, ⟨some 11, .q (.mv (.t 0)), some (10, true)⟩, ⟨some 12, .q (.mv (.t 2)), some (10, true)⟩, ⟨some 13, .q (.bin .leq (.t 11) (.t 12)), some (10, true)⟩, ⟨some 14, .q (.pick (.t 10) (.t 13) (.c (.bool false))), none⟩, ⟨some 6, .q (.mv (.t 14)), none⟩]
def c39_2 : SCode := .seq (.region c39_1 [6]) .ret
def c39_3 : SCode := .seq (.region c39_0 [0, 1, 2]) c39_2
def c39 : SCode := c39_3
theorem w39 : type_of% (And.intro (uR Tryz.prog c39_0.eq_1) (And.intro (uR Tryz.prog c39_1.eq_1) (And.intro (uC Tryz.prog c39_2.eq_1) (And.intro (uC Tryz.prog c39_3.eq_1) (uC Tryz.prog c39.eq_1))))) := (And.intro (uR Tryz.prog c39_0.eq_1) (And.intro (uR Tryz.prog c39_1.eq_1) (And.intro (uC Tryz.prog c39_2.eq_1) (And.intro (uC Tryz.prog c39_3.eq_1) (uC Tryz.prog c39.eq_1)))))
def v39 : List RV := [.t 6]
theorem s39 : slimF Tryz.prog Tryz.f39 = some (c39.bare, v39) := by kernel_rfl
/-! 43 loop.example/g00066/spec.l4Src: parameters 1, live [0], slots [0:s, 1:s] -/
def c43_0 : List SOper := [⟨some 2, .q (.mv (.c (.bool false))), none⟩]
def c43_1 : List SOper := [⟨some 3, .q (.mv (.t 0)), none⟩, ⟨some 4, .e (.call 39 [(.t 3), (.c (.int .i64 1)), (.c (.int .i64 500))]), none⟩, ⟨some 2, .q (.mv (.t 4)), none⟩]
def c43_2 : SCode := .seq (.region c43_1 [2]) .ret
def c43_3 : SCode := .seq (.region c43_0 [0]) c43_2
def c43 : SCode := c43_3
theorem w43 : type_of% (And.intro (uR Tryz.prog c43_0.eq_1) (And.intro (uR Tryz.prog c43_1.eq_1) (And.intro (uC Tryz.prog c43_2.eq_1) (And.intro (uC Tryz.prog c43_3.eq_1) (uC Tryz.prog c43.eq_1))))) := (And.intro (uR Tryz.prog c43_0.eq_1) (And.intro (uR Tryz.prog c43_1.eq_1) (And.intro (uC Tryz.prog c43_2.eq_1) (And.intro (uC Tryz.prog c43_3.eq_1) (uC Tryz.prog c43.eq_1)))))
def v43 : List RV := [.t 2]
theorem s43 : slimF Tryz.prog Tryz.f43 = some (c43.bare, v43) := by kernel_rfl
/-! 45 loop.example/g00066/spec.l4Clip: parameters 1, live [0], slots [0:k, 1:k] -/
def c45_0 : List SOper := [⟨some 1, .a (.box (.t 0)), none⟩, ⟨some 2, .q (.mv (.c (.bool false))), none⟩]
def c45_1 : List SOper := [⟨some 3, .q (.fa 2 (.t 1)), none⟩, ⟨some 4, .q (.ld (.t 3)), none⟩, ⟨some 5, .e (.call 39 [(.t 4), (.c (.int .i64 1)), (.c (.int .i64 10000000))]), none⟩, ⟨some 6, .q (.not (.t 5)), none⟩, ⟨some 7, .q (.mv (.t 6)), none⟩, ⟨some 8, .q (.fa 1 (.t 1)), some (7, false)⟩, ⟨some 9, .q (.ld (.t 8)), some (7, false)⟩, ⟨some 10, .e (.call 39 [(.t 9), (.c (.int .i64 0)), (.c (.int .i64 10000000))]), some (7, false)⟩, ⟨some 11, .q (.not (.t 10)), some (7, false)⟩, ⟨some 12, .q (.pick (.t 7) (.c (.bool true)) (.t 11)), none⟩, ⟨some 13, .q (.mv (.t 12)), none⟩, ⟨some 14, .q (.fa 1 (.t 1)), some (13, false)⟩, ⟨some 15, .q (.ld (.t 14)), some (13, false)⟩, ⟨some 16, .q (.fa 2 (.t 1)), some (13, false)⟩, ⟨some 17, .q (.ld (.t 16)), some (13, false)⟩, ⟨some 18, .q (.bin .add (.t 15) (.t 17)), some (13, false)⟩, ⟨some 19, .q (.bin .gtr (.t 18) (.c (.int .i64 10000000))), some (13, false)⟩, ⟨some 20, .q (.pick (.t 13) (.c (.bool true)) (.t 19)), none⟩]
def c45_2 : List SOper := [⟨some 2, .q (.mv (.c (.bool false))), none⟩]
def c45_3 : SCode := .seq (.region c45_2 [2]) .ret
def c45_4 : SCode := .cond (.t 20) c45_3 .skip
def c45_5 : SCode := .seq (.region c45_1 [1, 20]) c45_4
def c45_6 : List SOper := [⟨some 21, .q (.fa 0 (.t 1)), none⟩, ⟨some 22, .q (.ld (.t 21)), none⟩, ⟨some 23, .e (.call 43 [(.t 22)]), none⟩, ⟨some 24, .q (.mv (.t 23)), none⟩, ⟨some 25, .q (.fa 0 (.t 1)), some (24, false)⟩, ⟨some 26, .q (.ld (.t 25)), some (24, false)⟩, ⟨some 27, .q (.bin .eql (.t 26) (.c (.int .i64 0))), some (24, false)⟩, ⟨some 28, .q (.mv (.t 27)), some (24, false)⟩, ⟨some 29, .q (.fa 1 (.t 1)), some (28, true)⟩, ⟨some 30, .q (.ld (.t 29)), some (28, true)⟩, ⟨some 31, .q (.bin .eql (.t 30) (.c (.int .i64 0))), some (28, true)⟩, ⟨some 32, .q (.pick (.t 28) (.t 31) (.c (.bool false))), some (24, false)⟩, ⟨some 33, .q (.pick (.t 24) (.c (.bool true)) (.t 32)), none⟩, ⟨some 2, .q (.mv (.t 33)), none⟩]
def c45_7 : SCode := .seq (.region c45_6 [2]) .ret
def c45_8 : SCode := .seq c45_5 c45_7
def c45_9 : SCode := .seq (.region c45_0 [1]) c45_8
def c45 : SCode := c45_9
theorem w45 : type_of% (And.intro (uR Tryz.prog c45_0.eq_1) (And.intro (uR Tryz.prog c45_1.eq_1) (And.intro (uR Tryz.prog c45_2.eq_1) (And.intro (uC Tryz.prog c45_3.eq_1) (And.intro (uC Tryz.prog c45_4.eq_1) (And.intro (uC Tryz.prog c45_5.eq_1) (And.intro (uR Tryz.prog c45_6.eq_1) (And.intro (uC Tryz.prog c45_7.eq_1) (And.intro (uC Tryz.prog c45_8.eq_1) (And.intro (uC Tryz.prog c45_9.eq_1) (uC Tryz.prog c45.eq_1))))))))))) := (And.intro (uR Tryz.prog c45_0.eq_1) (And.intro (uR Tryz.prog c45_1.eq_1) (And.intro (uR Tryz.prog c45_2.eq_1) (And.intro (uC Tryz.prog c45_3.eq_1) (And.intro (uC Tryz.prog c45_4.eq_1) (And.intro (uC Tryz.prog c45_5.eq_1) (And.intro (uR Tryz.prog c45_6.eq_1) (And.intro (uC Tryz.prog c45_7.eq_1) (And.intro (uC Tryz.prog c45_8.eq_1) (And.intro (uC Tryz.prog c45_9.eq_1) (uC Tryz.prog c45.eq_1)))))))))))
def v45 : List RV := [.t 2]
theorem s45 : slimF Tryz.prog Tryz.f45 = some (c45.bare, v45) := by kernel_rfl
/-! 33 loop.example/g00066/spec.TrackOk: parameters 1, live [0], slots [0:track, 1:track, 3:n, 4:i] -/
def c33_0 : List SOper := [⟨some 2, .q (.mv (.c (.bool false))), none⟩]
def c33_1 : List SOper := [⟨some 5, .q (.mv (.t 0)), none⟩, ⟨some 6, .q (.len (.t 5)), none⟩, ⟨some 7, .q (.bin .gtr (.t 6) (.c (.int .i64 300))), none⟩]
def c33_2 : List SOper := [⟨some 2, .q (.mv (.c (.bool false))), none⟩]
def c33_3 : SCode := .seq (.region c33_2 [2]) .ret
def c33_4 : SCode := .cond (.t 7) c33_3 .skip
def c33_5 : SCode := .seq (.region c33_1 [0, 7]) c33_4
def c33_6 : List SOper := [⟨some 3, .q (.mv (.c (.int .i64 0))), none⟩]
def c33_7 : List SOper := [⟨some 4, .q (.mv (.c (.int .i64 0))), none⟩]
def c33_8 : List SOper := [⟨some 8, .q (.mv (.t 4)), none⟩, ⟨some 9, .q (.mv (.t 0)), none⟩, ⟨some 10, .q (.len (.t 9)), none⟩, ⟨some 11, .q (.bin .lss (.t 8) (.t 10)), none⟩]
def c33_9 : SCode := .cond (.t 11) .skip (.exit 0)
def c33_10 : SCode := .seq (.region c33_8 [0, 3, 4, 11]) c33_9
def c33_11 : List SOper := [⟨some 14, .q (.mv (.t 0)), none⟩, ⟨some 15, .q (.mv (.t 4)), none⟩, ⟨some 16, .q (.ia 3 (.t 14) (.t 15)), none⟩, ⟨some 17, .q (.ldn 3 (.t 16)), none⟩, ⟨some 18, .e (.call 45 [(.t 17)]), none⟩, ⟨some 19, .q (.not (.t 18)), none⟩]
def c33_12 : List SOper := [⟨some 2, .q (.mv (.c (.bool false))), none⟩]
def c33_13 : SCode := .seq (.region c33_12 [2]) .ret
def c33_14 : SCode := .cond (.t 19) c33_13 .skip
def c33_15 : SCode := .seq (.region c33_11 [0, 3, 4, 19]) c33_14
def c33_16 : List SOper := [⟨some 20, .q (.mv (.t 3)), none⟩, ⟨some 21, .q (.mv (.t 0)), none⟩, ⟨some 22, .q (.mv (.t 4)), none⟩, ⟨some 23, .q (.ia 3 (.t 21) (.t 22)), none⟩, ⟨some 24, .q (.fa 2 (.t 23)), none⟩, ⟨some 25, .q (.ld (.t 24)), none⟩, ⟨some 26, .q (.bin .add (.t 20) (.t 25)), none⟩, ⟨some 3, .q (.mv (.t 26)), none⟩]
def c33_17 : SCode := .seq c33_15 (.region c33_16 [0, 3, 4])
def c33_18 : SCode := .block 1 c33_17
def c33_19 : List SOper := [⟨some 12, .q (.mv (.t 4)), none⟩, ⟨some 13, .q (.bin .add (.t 12) (.c (.int .i64 1))), none⟩, ⟨some 4, .q (.mv (.t 13)), none⟩]
def c33_20 : SCode := .seq c33_18 (.region c33_19 [0, 3, 4])
def c33_21 : SCode := .seq c33_10 c33_20
def c33_22 : SCode := .loop c33_21
def c33_23 : SCode := .block 0 c33_22
def c33_24 : SCode := .seq (.region c33_7 [0, 3, 4]) c33_23
def c33_25 : List SOper := [⟨some 27, .q (.mv (.t 3)), none⟩, ⟨some 28, .q (.bin .leq (.t 27) (.c (.int .i64 10000000))), none⟩, ⟨some 2, .q (.mv (.t 28)), none⟩]
def c33_26 : SCode := .seq (.region c33_25 [2]) .ret
def c33_27 : SCode := .seq c33_24 c33_26
def c33_28 : SCode := .seq (.region c33_6 [0, 3]) c33_27
def c33_29 : SCode := .seq c33_5 c33_28
def c33_30 : SCode := .seq (.region c33_0 [0]) c33_29
def c33 : SCode := c33_30
theorem w33 : type_of% (And.intro (uR Tryz.prog c33_0.eq_1) (And.intro (uR Tryz.prog c33_1.eq_1) (And.intro (uR Tryz.prog c33_2.eq_1) (And.intro (uC Tryz.prog c33_3.eq_1) (And.intro (uC Tryz.prog c33_4.eq_1) (And.intro (uC Tryz.prog c33_5.eq_1) (And.intro (uR Tryz.prog c33_6.eq_1) (And.intro (uR Tryz.prog c33_7.eq_1) (And.intro (uR Tryz.prog c33_8.eq_1) (And.intro (uC Tryz.prog c33_9.eq_1) (And.intro (uC Tryz.prog c33_10.eq_1) (And.intro (uR Tryz.prog c33_11.eq_1) (And.intro (uR Tryz.prog c33_12.eq_1) (And.intro (uC Tryz.prog c33_13.eq_1) (And.intro (uC Tryz.prog c33_14.eq_1) (And.intro (uC Tryz.prog c33_15.eq_1) (And.intro (uR Tryz.prog c33_16.eq_1) (And.intro (uC Tryz.prog c33_17.eq_1) (And.intro (uC Tryz.prog c33_18.eq_1) (And.intro (uR Tryz.prog c33_19.eq_1) (And.intro (uC Tryz.prog c33_20.eq_1) (And.intro (uC Tryz.prog c33_21.eq_1) (And.intro (uC Tryz.prog c33_22.eq_1) (And.intro (uC Tryz.prog c33_23.eq_1) (And.intro (uC Tryz.prog c33_24.eq_1) (And.intro (uR Tryz.prog c33_25.eq_1) (And.intro (uC Tryz.prog c33_26.eq_1) (And.intro (uC Tryz.prog c33_27.eq_1) (And.intro (uC Tryz.prog c33_28.eq_1) (And.intro (uC Tryz.prog c33_29.eq_1) (And.intro (uC Tryz.prog c33_30.eq_1) (uC Tryz.prog c33.eq_1)))))))))))))))))))))))))))))))) := (And.intro (uR Tryz.prog c33_0.eq_1) (And.intro (uR Tryz.prog c33_1.eq_1) (And.intro (uR Tryz.prog c33_2.eq_1) (And.intro (uC Tryz.prog c33_3.eq_1) (And.intro (uC Tryz.prog c33_4.eq_1) (And.intro (uC Tryz.prog c33_5.eq_1) (And.intro (uR Tryz.prog c33_6.eq_1) (And.intro (uR Tryz.prog c33_7.eq_1) (And.intro (uR Tryz.prog c33_8.eq_1) (And.intro (uC Tryz.prog c33_9.eq_1) (And.intro (uC Tryz.prog c33_10.eq_1) (And.intro (uR Tryz.prog c33_11.eq_1) (And.intro (uR Tryz.prog c33_12.eq_1) (And.intro (uC Tryz.prog c33_13.eq_1) (And.intro (uC Tryz.prog c33_14.eq_1) (And.intro (uC Tryz.prog c33_15.eq_1) (And.intro (uR Tryz.prog c33_16.eq_1) (And.intro (uC Tryz.prog c33_17.eq_1) (And.intro (uC Tryz.prog c33_18.eq_1) (And.intro (uR Tryz.prog c33_19.eq_1) (And.intro (uC Tryz.prog c33_20.eq_1) (And.intro (uC Tryz.prog c33_21.eq_1) (And.intro (uC Tryz.prog c33_22.eq_1) (And.intro (uC Tryz.prog c33_23.eq_1) (And.intro (uC Tryz.prog c33_24.eq_1) (And.intro (uR Tryz.prog c33_25.eq_1) (And.intro (uC Tryz.prog c33_26.eq_1) (And.intro (uC Tryz.prog c33_27.eq_1) (And.intro (uC Tryz.prog c33_28.eq_1) (And.intro (uC Tryz.prog c33_29.eq_1) (And.intro (uC Tryz.prog c33_30.eq_1) (uC Tryz.prog c33.eq_1))))))))))))))))))))))))))))))))
def v33 : List RV := [.t 2]
theorem s33 : slimF Tryz.prog Tryz.f33 = some (c33.bare, v33) := by kernel_rfl
/-! 34 loop.example/g00066/spec.l4Join: parameters 1, live [0], slots [0:track, 1:track, 3:out, 4:i, 5:k, 6:n] -/
def c34_0 : List SOper := [⟨some 2, .q (.mv (.c (.slice none 0 0))), none⟩]
def c34_1 : List SOper := [⟨some 7, .a (.bsl 0 3 [] []), none⟩, ⟨some 3, .q (.mv (.t 7)), none⟩]
def c34_2 : List SOper := [⟨some 4, .q (.mv (.c (.int .i64 0))), none⟩]
def c34_3 : List SOper := [⟨some 8, .q (.mv (.t 4)), none⟩, ⟨some 9, .q (.mv (.t 0)), none⟩, ⟨some 10, .q (.len (.t 9)), none⟩, ⟨some 11, .q (.bin .lss (.t 8) (.t 10)), none⟩]
def c34_4 : SCode := .cond (.t 11) .skip (.exit 0)
def c34_5 : SCode := .seq (.region c34_3 [0, 3, 4, 11]) c34_4
def c34_6 : List SOper := [⟨some 14, .q (.mv (.t 0)), none⟩, ⟨some 15, .q (.mv (.t 4)), none⟩, ⟨some 16, .q (.ia 3 (.t 14) (.t 15)), none⟩, ⟨some 17, .q (.ldn 3 (.t 16)), none⟩, ⟨some 5, .a (.new [(.int .i64 0), (.int .i64 0), (.int .i64 0)]), none⟩, ⟨none, .e (.st 3 (.t 5) (.t 17)), none⟩]
def c34_7 : List SOper := [⟨some 18, .q (.mv (.t 3)), none⟩, ⟨some 19, .q (.len (.t 18)), none⟩, ⟨some 6, .q (.mv (.t 19)), none⟩]
def c34_8 : List SOper := [⟨some 20, .q (.mv (.t 6)), none⟩, ⟨some 21, .q (.bin .gtr (.t 20) (.c (.int .i64 0))), none⟩, ⟨some 22, .q (.mv (.t 21)), none⟩, ⟨some 23, .q (.mv (.t 3)), some (22, true)⟩, ⟨some 24, .q (.mv (.t 6)), some (22, true)⟩, ⟨some 25, .q (.bin .sub (.t 24) (.c (.int .i64 1))), some (22, true)⟩, ⟨some 26, .q (.ia 3 (.t 23) (.t 25)), some (22, true)⟩, ⟨some 27, .q (.fa 0 (.t 26)), some (22, true)⟩, ⟨some 28, .q (.ld (.t 27)), some (22, true)⟩, ⟨some 29, .q (.fa 0 (.t 5)), some (22, true)⟩, ⟨some 30, .q (.ld (.t 29)), some (22, true)⟩, ⟨some 31, .q (.bin .eql (.t 28) (.t 30)), some (22, true)⟩, ⟨some 32, .q (.pick (.t 22) (.t 31) (.c (.bool false))), none⟩, ⟨some 33, .q (.mv (.t 32)), none⟩, ⟨some 34, .q (.fa 0 (.t 5)), some (33, true)⟩, ⟨some 35, .q (.ld (.t 34)), some (33, true)⟩, ⟨some 36, .q (.bin .eql (.t 35) (.c (.int .i64 0))), some (33, true)⟩, ⟨some 37, .q (.mv (.t 36)), some (33, true)⟩, ⟨some 38, .q (.mv (.t 3)), some (37, false)⟩, ⟨some 39, .q (.mv (.t 6)), some (37, false)⟩, ⟨some 40, .q (.bin .sub (.t 39) (.c (.int .i64 1))), some (37, false)⟩, ⟨some 41, .q (.ia 3 (.t 38) (.t 40)), some (37, false)⟩, ⟨some 42, .q (.fa 1 (.t 41)), some (37, false)⟩, ⟨some 43, .q (.ld (.t 42)), some (37, false)⟩, ⟨some 44, .q (.mv (.t 3)), some (37, false)⟩, ⟨some 45, .q (.mv (.t 6)), some (37, false)⟩, ⟨some 46, .q (.bin .sub (.t 45) (.c (.int .i64 1))), some (37, false)⟩, ⟨some 47, .q (.ia 3 (.t 44) (.t 46)), some (37, false)⟩, ⟨some 48, .q (.fa 2 (.t 47)), some (37, false)⟩, ⟨some 49, .q (.ld (.t 48)), some (37, false)⟩, ⟨some 50, .q (.bin .add (.t 43) (.t 49)), some (37, false)⟩, ⟨some 51, .q (.fa 1 (.t 5)), some (37, false)⟩, ⟨some 52, .q (.ld (.t 51)), some (37, false)⟩, ⟨some 53, .q (.bin .eql (.t 50) (.t 52)), some (37, false)⟩, ⟨some 54, .q (.pick (.t 37) (.c (.bool true)) (.t 53)), some (33, true)⟩, ⟨some 55, .q (.pick (.t 33) (.t 54) (.c (.bool false))), none⟩]
def c34_9 : List SOper := [⟨some 56, .q (.mv (.t 3)), none⟩, ⟨some 57, .q (.mv (.t 6)), none⟩, ⟨some 58, .q (.bin .sub (.t 57) (.c (.int .i64 1))), none⟩, ⟨some 59, .q (.mv (.t 3)), none⟩, ⟨some 60, .q (.mv (.t 6)), none⟩, ⟨some 61, .q (.bin .sub (.t 60) (.c (.int .i64 1))), none⟩, ⟨some 62, .q (.ia 3 (.t 59) (.t 61)), none⟩, ⟨some 63, .q (.fa 2 (.t 62)), none⟩, ⟨some 64, .q (.ld (.t 63)), none⟩, ⟨some 65, .q (.fa 2 (.t 5)), none⟩, ⟨some 66, .q (.ld (.t 65)), none⟩, ⟨some 67, .q (.bin .add (.t 64) (.t 66)), none⟩, ⟨some 68, .q (.ia 3 (.t 56) (.t 58)), none⟩, ⟨some 69, .q (.fa 2 (.t 68)), none⟩, ⟨none, .e (.st 1 (.t 69) (.t 67)), none⟩]
def c34_10 : List SOper := [⟨some 70, .q (.mv (.t 3)), none⟩, ⟨some 71, .q (.ldn 3 (.t 5)), none⟩, ⟨some 72, .a (.bsl 1 3 [(.int .i64 0), (.int .i64 0), (.int .i64 0)] [(0, 3, (.t 71))]), none⟩, ⟨some 73, .e (.app 24 3 (.t 70) (.t 72)), none⟩, ⟨some 3, .q (.mv (.t 73)), none⟩]
def c34_11 : SCode := .cond (.t 55) (.region c34_9 [0, 3, 4]) (.region c34_10 [0, 3, 4])
def c34_12 : SCode := .seq (.region c34_8 [0, 3, 4, 5, 6, 55]) c34_11
def c34_13 : SCode := .seq (.region c34_7 [0, 3, 4, 5, 6]) c34_12
def c34_14 : SCode := .seq (.region c34_6 [0, 3, 4, 5]) c34_13
def c34_15 : SCode := .block 1 c34_14
def c34_16 : List SOper := [⟨some 12, .q (.mv (.t 4)), none⟩, ⟨some 13, .q (.bin .add (.t 12) (.c (.int .i64 1))), none⟩, ⟨some 4, .q (.mv (.t 13)), none⟩]
def c34_17 : SCode := .seq c34_15 (.region c34_16 [0, 3, 4])
def c34_18 : SCode := .seq c34_5 c34_17
def c34_19 : SCode := .loop c34_18
def c34_20 : SCode := .block 0 c34_19
def c34_21 : SCode := .seq (.region c34_2 [0, 3, 4]) c34_20
def c34_22 : List SOper := [⟨some 74, .q (.mv (.t 3)), none⟩, ⟨some 2, .q (.mv (.t 74)), none⟩]
def c34_23 : SCode := .seq (.region c34_22 [2]) .ret
def c34_24 : SCode := .seq c34_21 c34_23
def c34_25 : SCode := .seq (.region c34_1 [0, 3]) c34_24
def c34_26 : SCode := .seq (.region c34_0 [0]) c34_25
def c34 : SCode := c34_26
theorem w34 : type_of% (And.intro (uR Tryz.prog c34_0.eq_1) (And.intro (uR Tryz.prog c34_1.eq_1) (And.intro (uR Tryz.prog c34_2.eq_1) (And.intro (uR Tryz.prog c34_3.eq_1) (And.intro (uC Tryz.prog c34_4.eq_1) (And.intro (uC Tryz.prog c34_5.eq_1) (And.intro (uR Tryz.prog c34_6.eq_1) (And.intro (uR Tryz.prog c34_7.eq_1) (And.intro (uR Tryz.prog c34_8.eq_1) (And.intro (uR Tryz.prog c34_9.eq_1) (And.intro (uR Tryz.prog c34_10.eq_1) (And.intro (uC Tryz.prog c34_11.eq_1) (And.intro (uC Tryz.prog c34_12.eq_1) (And.intro (uC Tryz.prog c34_13.eq_1) (And.intro (uC Tryz.prog c34_14.eq_1) (And.intro (uC Tryz.prog c34_15.eq_1) (And.intro (uR Tryz.prog c34_16.eq_1) (And.intro (uC Tryz.prog c34_17.eq_1) (And.intro (uC Tryz.prog c34_18.eq_1) (And.intro (uC Tryz.prog c34_19.eq_1) (And.intro (uC Tryz.prog c34_20.eq_1) (And.intro (uC Tryz.prog c34_21.eq_1) (And.intro (uR Tryz.prog c34_22.eq_1) (And.intro (uC Tryz.prog c34_23.eq_1) (And.intro (uC Tryz.prog c34_24.eq_1) (And.intro (uC Tryz.prog c34_25.eq_1) (And.intro (uC Tryz.prog c34_26.eq_1) (uC Tryz.prog c34.eq_1)))))))))))))))))))))))))))) := (And.intro (uR Tryz.prog c34_0.eq_1) (And.intro (uR Tryz.prog c34_1.eq_1) (And.intro (uR Tryz.prog c34_2.eq_1) (And.intro (uR Tryz.prog c34_3.eq_1) (And.intro (uC Tryz.prog c34_4.eq_1) (And.intro (uC Tryz.prog c34_5.eq_1) (And.intro (uR Tryz.prog c34_6.eq_1) (And.intro (uR Tryz.prog c34_7.eq_1) (And.intro (uR Tryz.prog c34_8.eq_1) (And.intro (uR Tryz.prog c34_9.eq_1) (And.intro (uR Tryz.prog c34_10.eq_1) (And.intro (uC Tryz.prog c34_11.eq_1) (And.intro (uC Tryz.prog c34_12.eq_1) (And.intro (uC Tryz.prog c34_13.eq_1) (And.intro (uC Tryz.prog c34_14.eq_1) (And.intro (uC Tryz.prog c34_15.eq_1) (And.intro (uR Tryz.prog c34_16.eq_1) (And.intro (uC Tryz.prog c34_17.eq_1) (And.intro (uC Tryz.prog c34_18.eq_1) (And.intro (uC Tryz.prog c34_19.eq_1) (And.intro (uC Tryz.prog c34_20.eq_1) (And.intro (uC Tryz.prog c34_21.eq_1) (And.intro (uR Tryz.prog c34_22.eq_1) (And.intro (uC Tryz.prog c34_23.eq_1) (And.intro (uC Tryz.prog c34_24.eq_1) (And.intro (uC Tryz.prog c34_25.eq_1) (And.intro (uC Tryz.prog c34_26.eq_1) (uC Tryz.prog c34.eq_1))))))))))))))))))))))))))))
def v34 : List RV := [.t 2]
theorem s34 : slimF Tryz.prog Tryz.f34 = some (c34.bare, v34) := by kernel_rfl

def clipOk (k : Clip) : Prop := 1 ≤ k.len ∧ k.len ≤ 10000000 ∧ 0 ≤ k.inn ∧ k.inn ≤ 10000000 ∧ k.inn + k.len ≤ 10000000 ∧ 0 ≤ k.src ∧ k.src ≤ 500 ∧ (k.src ≠ 0 ∨ k.inn = 0)
instance (k : Clip) : Decidable (clipOk k) := by unfold clipOk; infer_instance
def sumLen (l : List Clip) : Int := (l.map Clip.len).sum
def trackOk (l : List Clip) : Prop := l.length ≤ 300 ∧ (∀ k ∈ l, clipOk k) ∧ sumLen l ≤ 10000000
instance (l : List Clip) : Decidable (trackOk l) := by unfold trackOk; infer_instance
theorem l1In_ok (h : Heap) (x lo hi : Int) : ACall Tryz.prog 39 [.int .i64 x, .int .i64 lo, .int .i64 hi] h fun r h' => h' = h ∧ r = .bool (decide (lo ≤ x ∧ x ≤ hi)) := by
  refine ACall.of Tryz.func39 s39 (of_decide_eq_true rfl) ?_
  simp (maxSteps := 4000000) (disch := omega) only [ah, am, Nat.reduceEqDiff, reduceCtorEq, Nat.reduceAdd, Nat.reduceLeDiff, Nat.reduceMul, Nat.reduceLT, if_true, if_false, true_and, and_true, and_self, Nat.reduceBEq, QOp.loads, boxO, bslO, buildO, cutL, fillV, putL, w39, v39]
  (repeat' first
    | (refine stepG.cases (fun _ hp => ?_) (fun _ hp => ?_) <;> simp (maxSteps := 4000000) (disch := omega) only [hp, ah, am, Nat.reduceEqDiff, reduceCtorEq, Nat.reduceAdd, Nat.reduceLeDiff, Nat.reduceMul, Nat.reduceLT, if_true, if_false, true_and, and_true, and_self, Nat.reduceBEq, QOp.loads, boxO, bslO, buildO, cutL, fillV, putL, i64w, w39, v39])
    | (refine stepI.cases (fun _ hp => ?_) (fun _ hp => ?_) <;> simp (maxSteps := 4000000) (disch := omega) only [hp, ah, am, Nat.reduceEqDiff, reduceCtorEq, Nat.reduceAdd, Nat.reduceLeDiff, Nat.reduceMul, Nat.reduceLT, if_true, if_false, true_and, and_true, and_self, Nat.reduceBEq, QOp.loads, boxO, bslO, buildO, cutL, fillV, putL, i64w, w39, v39]))
  all_goals (refine bool_dec ?_; try simp only [decide_eq_true_eq, Bool.false_eq_true, false_and, and_false, true_and, and_true, false_iff, iff_false, true_iff, iff_true, not_false_eq_true, false_or, or_false, true_or, or_true]; first | done | omega | (refine Iff.intro (fun hq => ?_) (fun hq => ?_) <;> omega))
theorem l4Src_ok (h : Heap) (x : Int) : ACall Tryz.prog 43 [.int .i64 x] h fun r h' => h' = h ∧ r = .bool (decide (1 ≤ x ∧ x ≤ 500)) := by
  refine ACall.of Tryz.func43 s43 (of_decide_eq_true rfl) ?_
  simp (maxSteps := 4000000) (disch := omega) only [ah, am, Nat.reduceEqDiff, reduceCtorEq, Nat.reduceAdd, Nat.reduceLeDiff, Nat.reduceMul, Nat.reduceLT, if_true, if_false, true_and, and_true, and_self, Nat.reduceBEq, QOp.loads, boxO, bslO, buildO, cutL, fillV, putL, w43, v43]
  (repeat' first
    | (refine stepC.of (l1In_ok _ _ _ _) ?_; rintro _ _ ⟨rfl, rfl⟩; simp (maxSteps := 4000000) (disch := omega) only [ah, am, Nat.reduceEqDiff, reduceCtorEq, Nat.reduceAdd, Nat.reduceLeDiff, Nat.reduceMul, Nat.reduceLT, if_true, if_false, true_and, and_true, and_self, Nat.reduceBEq, QOp.loads, boxO, bslO, buildO, cutL, fillV, putL, i64w, w43, v43])
    | (refine stepG.cases (fun _ hp => ?_) (fun _ hp => ?_) <;> simp (maxSteps := 4000000) (disch := omega) only [hp, ah, am, Nat.reduceEqDiff, reduceCtorEq, Nat.reduceAdd, Nat.reduceLeDiff, Nat.reduceMul, Nat.reduceLT, if_true, if_false, true_and, and_true, and_self, Nat.reduceBEq, QOp.loads, boxO, bslO, buildO, cutL, fillV, putL, i64w, w43, v43])
    | (refine stepI.cases (fun _ hp => ?_) (fun _ hp => ?_) <;> simp (maxSteps := 4000000) (disch := omega) only [hp, ah, am, Nat.reduceEqDiff, reduceCtorEq, Nat.reduceAdd, Nat.reduceLeDiff, Nat.reduceMul, Nat.reduceLT, if_true, if_false, true_and, and_true, and_self, Nat.reduceBEq, QOp.loads, boxO, bslO, buildO, cutL, fillV, putL, i64w, w43, v43]))
theorem l4Clip_ok (h : Heap) (k : Clip) : ACall Tryz.prog 45 [.agg (encClip k).toArray] h fun r h' => Ext h h' ∧ r = .bool (decide (clipOk k)) := by
  obtain ⟨a, b, c⟩ := k
  refine ACall.of Tryz.func45 s45 (of_decide_eq_true rfl) ?_
  simp (maxSteps := 4000000) (disch := omega) only [ah, am, Nat.reduceEqDiff, reduceCtorEq, Nat.reduceAdd, Nat.reduceLeDiff, Nat.reduceMul, Nat.reduceLT, if_true, if_false, true_and, and_true, and_self, Nat.reduceBEq, QOp.loads, boxO, bslO, buildO, cutL, fillV, putL, w45, v45, encClip]
  (repeat' first
    | (refine stepC.of (l1In_ok _ _ _ _) ?_; rintro _ _ ⟨rfl, rfl⟩; simp (maxSteps := 4000000) (disch := omega) only [ah, am, Nat.reduceEqDiff, reduceCtorEq, Nat.reduceAdd, Nat.reduceLeDiff, Nat.reduceMul, Nat.reduceLT, if_true, if_false, true_and, and_true, and_self, Nat.reduceBEq, QOp.loads, boxO, bslO, buildO, cutL, fillV, putL, i64w, w45, v45])
    | (refine stepC.of (l4Src_ok _ _) ?_; rintro _ _ ⟨rfl, rfl⟩; simp (maxSteps := 4000000) (disch := omega) only [ah, am, Nat.reduceEqDiff, reduceCtorEq, Nat.reduceAdd, Nat.reduceLeDiff, Nat.reduceMul, Nat.reduceLT, if_true, if_false, true_and, and_true, and_self, Nat.reduceBEq, QOp.loads, boxO, bslO, buildO, cutL, fillV, putL, i64w, w45, v45])
    | (refine stepG.cases (fun _ hp => ?_) (fun _ hp => ?_) <;> simp (maxSteps := 4000000) (disch := omega) only [hp, ah, am, Nat.reduceEqDiff, reduceCtorEq, Nat.reduceAdd, Nat.reduceLeDiff, Nat.reduceMul, Nat.reduceLT, if_true, if_false, true_and, and_true, and_self, Nat.reduceBEq, QOp.loads, boxO, bslO, buildO, cutL, fillV, putL, i64w, w45, v45])
    | (refine stepI.cases (fun _ hp => ?_) (fun _ hp => ?_) <;> simp (maxSteps := 4000000) (disch := omega) only [hp, ah, am, Nat.reduceEqDiff, reduceCtorEq, Nat.reduceAdd, Nat.reduceLeDiff, Nat.reduceMul, Nat.reduceLT, if_true, if_false, true_and, and_true, and_self, Nat.reduceBEq, QOp.loads, boxO, bslO, buildO, cutL, fillV, putL, i64w, w45, v45]))
  all_goals (refine ⟨Ext.more _ _, ?_⟩; refine bool_dec ?_; try simp only [decide_eq_true_eq, Bool.false_eq_true, false_and, and_false, true_and, and_true, false_iff, iff_false, true_iff, iff_true, not_false_eq_true, false_or, or_false, true_or, or_true, clipOk]; first | done | omega | (refine Iff.intro (fun hq => ?_) (fun hq => ?_) <;> omega))
theorem sumLen_nil : sumLen [] = 0 := rfl
theorem sumLen_append (a b : List Clip) : sumLen (a ++ b) = sumLen a + sumLen b := by simp [sumLen]
theorem sumLen_take (l : List Clip) (i : Nat) (hi : i < l.length) : sumLen (l.take (i + 1)) = sumLen (l.take i) + l[i].len := by
  rw [List.take_succ_eq_append_getElem hi, sumLen_append]; simp [sumLen]
theorem sumLen_bound {l : List Clip} (hl : ∀ k ∈ l, clipOk k) : 0 ≤ sumLen l ∧ sumLen l ≤ 10000000 * l.length := by
  induction l with
  | nil => simp [sumLen]
  | cons k l ih =>
    have h1 := hl k (by simp); have h2 := ih (fun k hk => hl k (by simp [hk]))
    simp only [sumLen, List.map_cons, List.sum_cons, List.length_cons, clipOk] at h1 h2 ⊢; omega
theorem all_take {l : List Clip} {i : Nat} (hi : i < l.length) (h : ∀ k ∈ l.take i, clipOk k) (hk : clipOk l[i]) : ∀ k ∈ l.take (i + 1), clipOk k := by
  intro k hm
  rw [List.take_succ_eq_append_getElem hi] at hm
  simp only [List.mem_append, List.mem_singleton] at hm
  rcases hm with hm | rfl
  · exact h k hm
  · exact hk
theorem TrackOk_ok (h : Heap) (v : Value) (l : List Clip) (s : SlT h encClip 3 v l) (hl : l.length ≤ 281474976710656) : ACall Tryz.prog 33 [v] h fun r h' => Ext h h' ∧ r = .bool (decide (trackOk l)) := by
  refine ACall.of Tryz.func33 s33 (of_decide_eq_true rfl) ?_
  have R := s.rulesN
  simp (maxSteps := 4000000) (disch := omega) only [ah, am, Nat.reduceEqDiff, reduceCtorEq, Nat.reduceAdd, Nat.reduceLeDiff, Nat.reduceMul, Nat.reduceLT, if_true, if_false, true_and, and_true, and_self, Nat.reduceBEq, QOp.loads, boxO, bslO, buildO, cutL, fillV, putL, w33, v33, R]
  refine stepI.split (fun hp => ?_) (fun hp => ?_)
  · simp (maxSteps := 4000000) (disch := omega) only [ah, am, Nat.reduceEqDiff, reduceCtorEq, Nat.reduceAdd, Nat.reduceLeDiff, Nat.reduceMul, Nat.reduceLT, if_true, if_false, true_and, and_true, and_self, Nat.reduceBEq, QOp.loads, boxO, bslO, buildO, cutL, fillV, putL, w33, v33, R]
    refine ⟨Ext.refl h, ?_⟩; refine bool_dec ?_; try simp only [decide_eq_true_eq, Bool.false_eq_true, false_and, and_false, true_and, and_true, false_iff, iff_false, true_iff, iff_true, not_false_eq_true, false_or, or_false, true_or, or_true, trackOk]; first | done | omega | (refine Iff.intro (fun hq => ?_) (fun hq => ?_) <;> omega)
  simp (maxSteps := 4000000) (disch := omega) only [ah, am, Nat.reduceEqDiff, reduceCtorEq, Nat.reduceAdd, Nat.reduceLeDiff, Nat.reduceMul, Nat.reduceLT, if_true, if_false, true_and, and_true, and_self, Nat.reduceBEq, QOp.loads, boxO, bslO, buildO, cutL, fillV, putL, w33, v33, R]
  refine SW_loop_up (fun i E H => E = [(0, v), (3, .int .i64 (sumLen (l.take i))), (4, .int .i64 i)] ∧ Ext h H ∧ ∀ k ∈ l.take i, clipOk k) l.length 0 (by omega)
    ⟨by simp [sumLen], Ext.refl h, by simp⟩ ?_
  rintro i E H hi ⟨rfl, e, F⟩
  have R := (s.ext e).rulesN
  have W : IntKind.i64.wrap ((i : Int) + 1) = ((i + 1 : Nat) : Int) := i64e (by omega) (by omega)
  simp (maxSteps := 4000000) (disch := omega) only [ah, am, Nat.reduceEqDiff, reduceCtorEq, Nat.reduceAdd, Nat.reduceLeDiff, Nat.reduceMul, Nat.reduceLT, if_true, if_false, true_and, and_true, and_self, Nat.reduceBEq, QOp.loads, boxO, bslO, buildO, cutL, fillV, putL, w33, v33, R]
  refine stepI.split (fun hp => ?_) (fun hp => ?_)
  · simp (maxSteps := 4000000) (disch := omega) only [ah, am, Nat.reduceEqDiff, reduceCtorEq, Nat.reduceAdd, Nat.reduceLeDiff, Nat.reduceMul, Nat.reduceLT, if_true, if_false, true_and, and_true, and_self, Nat.reduceBEq, QOp.loads, boxO, bslO, buildO, cutL, fillV, putL, w33, v33, R, W]
    refine stepC.of (l4Clip_ok _ _) ?_
    rintro r H1 ⟨e1, rfl⟩
    have R := (s.ext (e.trans e1)).rulesN
    simp (maxSteps := 4000000) (disch := omega) only [ah, am, Nat.reduceEqDiff, reduceCtorEq, Nat.reduceAdd, Nat.reduceLeDiff, Nat.reduceMul, Nat.reduceLT, if_true, if_false, true_and, and_true, and_self, Nat.reduceBEq, QOp.loads, boxO, bslO, buildO, cutL, fillV, putL, w33, v33, R, W]
    refine stepI.split (fun hk => ?_) (fun hk => ?_)
    · have B := sumLen_bound (all_take (by omega) F hk)
      rw [sumLen_take l i (by omega)] at B
      have hlen : (l.take (i + 1)).length ≤ 300 := by simp; omega
      simp (maxSteps := 4000000) (disch := omega) only [ah, am, Nat.reduceEqDiff, reduceCtorEq, Nat.reduceAdd, Nat.reduceLeDiff, Nat.reduceMul, Nat.reduceLT, if_true, if_false, true_and, and_true, and_self, Nat.reduceBEq, QOp.loads, boxO, bslO, buildO, cutL, fillV, putL, w33, v33, R, W, encClip, i64w]
      exact ⟨by omega, by rw [sumLen_take l i (by omega)], e.trans e1, all_take (by omega) F hk⟩
    · simp (maxSteps := 4000000) (disch := omega) only [ah, am, Nat.reduceEqDiff, reduceCtorEq, Nat.reduceAdd, Nat.reduceLeDiff, Nat.reduceMul, Nat.reduceLT, if_true, if_false, true_and, and_true, and_self, Nat.reduceBEq, QOp.loads, boxO, bslO, buildO, cutL, fillV, putL, w33, v33]
      refine ⟨e.trans e1, ?_⟩
      rw [decide_eq_false]; intro ht; exact hk (ht.2.1 _ (List.getElem_mem _))
  · simp (maxSteps := 4000000) (disch := omega) only [ah, am, Nat.reduceEqDiff, reduceCtorEq, Nat.reduceAdd, Nat.reduceLeDiff, Nat.reduceMul, Nat.reduceLT, if_true, if_false, true_and, and_true, and_self, Nat.reduceBEq, QOp.loads, boxO, bslO, buildO, cutL, fillV, putL, w33, v33, R, W]
    obtain rfl : i = l.length := by omega
    rw [List.take_length] at F
    refine ⟨e, ?_⟩
    rw [List.take_length]
    refine bool_dec ?_
    simp only [decide_eq_true_eq, trackOk]
    exact ⟨fun hq => ⟨by omega, F, hq⟩, fun hq => hq.2.2⟩
def joinStep (out : List Clip) (k : Clip) : List Clip :=
  if h : 0 < out.length then
    if (out[out.length - 1]).src = k.src ∧ (k.src = 0 ∨ (out[out.length - 1]).inn + (out[out.length - 1]).len = k.inn) then
      out.set (out.length - 1) ⟨(out[out.length - 1]).src, (out[out.length - 1]).inn, (out[out.length - 1]).len + k.len⟩
    else out ++ [k]
  else out ++ [k]
def join (l : List Clip) : List Clip := l.foldl joinStep []
theorem join_take (l : List Clip) (i : Nat) (hi : i < l.length) : join (l.take (i + 1)) = joinStep (join (l.take i)) l[i] := by
  rw [List.take_succ_eq_append_getElem hi, join, List.foldl_append]; rfl
theorem joinStep_length (out : List Clip) (k : Clip) : (joinStep out k).length ≤ out.length + 1 := by
  unfold joinStep; split
  · split <;> simp
  · simp
theorem join_length (l : List Clip) : (join l).length ≤ l.length := by
  have : ∀ (l out : List Clip), (l.foldl joinStep out).length ≤ out.length + l.length := by
    intro l; induction l with
    | nil => intro out; simp
    | cons k l ih => intro out; have h1 := joinStep_length out k; have h2 := ih (joinStep out k); simp only [List.foldl_cons, List.length_cons]; omega
  simpa [join] using this l []
def clipIn (B : Int) (k : Clip) : Prop := 0 ≤ k.inn ∧ k.inn ≤ 10000000 ∧ 0 ≤ k.len ∧ k.len ≤ B
theorem joinStep_in {out : List Clip} {k : Clip} {B : Int} (ho : ∀ a ∈ out, clipIn B a) (hB : 0 ≤ B) (hk : clipIn 10000000 k) : ∀ a ∈ joinStep out k, clipIn (B + 10000000) a := by
  have h1 : ∀ a ∈ out ++ [k], clipIn (B + 10000000) a := by
    intro a ha
    simp only [List.mem_append, List.mem_singleton] at ha
    rcases ha with ha | rfl
    · have := ho a ha; simp only [clipIn] at this ⊢; omega
    · simp only [clipIn] at hk ⊢; omega
  unfold joinStep; split
  · split
    · intro a ha
      rcases List.mem_or_eq_of_mem_set ha with ha | rfl
      · exact h1 a (by simp [ha])
      · have := ho _ (List.getElem_mem (l := out) (n := out.length - 1) (by omega)); simp only [clipIn] at this hk ⊢; omega
    · exact h1
  · exact h1
theorem join_in {l : List Clip} (hl : ∀ k ∈ l, clipIn 10000000 k) : ∀ a ∈ join l, clipIn (10000000 * l.length) a := by
  have : ∀ (l : List Clip), (∀ k ∈ l, clipIn 10000000 k) → ∀ (out : List Clip) (B : Int), 0 ≤ B → (∀ a ∈ out, clipIn B a) → ∀ a ∈ l.foldl joinStep out, clipIn (B + 10000000 * l.length) a := by
    intro l; induction l with
    | nil => intro _ out B hB ho a ha; have := ho a ha; simpa using this
    | cons k l ih =>
      intro hl out B hB ho a ha
      have := ih (fun k hk => hl k (by simp [hk])) (joinStep out k) (B + 10000000) (by omega) (joinStep_in ho hB (hl k (by simp))) a ha
      simp only [clipIn, List.length_cons] at this ⊢; omega
  intro a ha
  simpa using this l hl [] 0 (by omega) (by simp) a ha
theorem clipOk.in {k : Clip} (h : clipOk k) : clipIn 10000000 k := by simp only [clipOk, clipIn] at *; omega
theorem l4Join_ok (h : Heap) (v : Value) (l : List Clip) (s : SlT h encClip 3 v l) (hl : l.length ≤ 1100000) (ho : ∀ k ∈ l, clipIn 10000000 k) : ACall Tryz.prog 34 [v] h fun r h' => Fresh h h' encClip 3 r (join l) := by
  refine ACall.of Tryz.func34 s34 (of_decide_eq_true rfl) ?_
  simp (maxSteps := 4000000) (disch := omega) only [ah, am, Nat.reduceEqDiff, reduceCtorEq, Nat.reduceAdd, Nat.reduceLeDiff, Nat.reduceMul, Nat.reduceLT, if_true, if_false, true_and, and_true, and_self, Nat.reduceBEq, QOp.loads, boxO, bslO, buildO, cutL, fillV, putL, w34, v34]
  refine SW_loop_up (fun i E H => ∃ ov, E = [(0, v), (3, ov), (4, .int .i64 i)] ∧ Fresh h H encClip 3 ov (join (l.take i))) l.length 0 (by omega) ⟨_, rfl, Fresh.new0 h encClip_len (by omega)⟩ ?_
  rintro i E H hi ⟨ov, rfl, F⟩
  have R := (s.ext F.1).rulesN
  have W : IntKind.i64.wrap ((i : Int) + 1) = ((i + 1 : Nat) : Int) := i64e (by omega) (by omega)
  simp (maxSteps := 4000000) (disch := omega) only [ah, am, Nat.reduceEqDiff, reduceCtorEq, Nat.reduceAdd, Nat.reduceLeDiff, Nat.reduceMul, Nat.reduceLT, if_true, if_false, true_and, and_true, and_self, Nat.reduceBEq, QOp.loads, boxO, bslO, buildO, cutL, fillV, putL, w34, v34, R]
  refine stepI.split (fun hp => ?_) (fun hp => ?_)
  · have hi' : i < l.length := by omega
    have J := join_take l i hi'
    have F' := F.ext (Ext.more H [encClip l[i]])
    have R' := F'.slt.rules
    have L := join_length (l.take i)
    rw [List.length_take] at L
    have B := join_in (l := l.take i) (fun k hk => ho k (List.mem_of_mem_take hk))
    have Bk := ho _ (List.getElem_mem hi')
    generalize join (l.take i) = out at *
    have T : ((out.length : Int) - 1).toNat = out.length - 1 := by omega
    simp only [encClip] at R'
    simp (maxSteps := 4000000) (disch := omega) only [ah, am, Nat.reduceEqDiff, reduceCtorEq, Nat.reduceAdd, Nat.reduceLeDiff, Nat.reduceMul, Nat.reduceLT, if_true, if_false, true_and, and_true, and_self, Nat.reduceBEq, QOp.loads, boxO, bslO, buildO, cutL, fillV, putL, w34, v34, R, R', W, encClip]
    obtain ⟨v2, H2, ea, F2⟩ := F'.app1 l[i] (bytes := 24) (by omega)
    simp only [more_more, size_more, List.cons_append, List.nil_append, List.length_cons, List.length_nil, Nat.zero_add, encClip] at ea
    by_cases hn : 0 < out.length
    · have Bo := B _ (List.getElem_mem (l := out) (n := out.length - 1) (by omega))
      simp only [clipIn, List.length_take] at Bo Bk
      obtain ⟨H3, es, F3, -⟩ := F'.setF (j := out.length - 1) (f := 2) (n := 1) (by omega) (x := ⟨(out[out.length - 1]).src, (out[out.length - 1]).inn, (out[out.length - 1]).len + l[i].len⟩)
        (y := .int .i64 ((out[out.length - 1]).len + l[i].len)) (by simp [encClip, splice, cells_int]) (by omega) rfl (by omega) rfl
      simp only [encClip] at es
      (repeat' first
    | (refine stepG.cases (fun _ hp => ?_) (fun _ hp => ?_) <;> simp (maxSteps := 4000000) (disch := omega) only [hp, ah, am, Nat.reduceEqDiff, reduceCtorEq, Nat.reduceAdd, Nat.reduceLeDiff, Nat.reduceMul, Nat.reduceLT, if_true, if_false, true_and, and_true, and_self, Nat.reduceBEq, QOp.loads, boxO, bslO, buildO, cutL, fillV, putL, i64w, w34, v34, R, R', W, encClip, T, es, ea])
    | (refine stepI.cases (fun _ hp => ?_) (fun _ hp => ?_) <;> simp (maxSteps := 4000000) (disch := omega) only [hp, ah, am, Nat.reduceEqDiff, reduceCtorEq, Nat.reduceAdd, Nat.reduceLeDiff, Nat.reduceMul, Nat.reduceLT, if_true, if_false, true_and, and_true, and_self, Nat.reduceBEq, QOp.loads, boxO, bslO, buildO, cutL, fillV, putL, i64w, w34, v34, R, R', W, encClip, T, es, ea]))
      all_goals first
        | (refine ⟨by omega, _, rfl, ?_⟩; rw [J, joinStep, dif_pos hn, if_pos (by omega)]; exact F3)
        | (refine ⟨by omega, _, rfl, ?_⟩; rw [J, joinStep, dif_pos hn, if_neg (by omega)]; exact F2)
        | omega
    · (repeat' first
    | (refine stepG.cases (fun _ hp => ?_) (fun _ hp => ?_) <;> simp (maxSteps := 4000000) (disch := omega) only [hp, ah, am, Nat.reduceEqDiff, reduceCtorEq, Nat.reduceAdd, Nat.reduceLeDiff, Nat.reduceMul, Nat.reduceLT, if_true, if_false, true_and, and_true, and_self, Nat.reduceBEq, QOp.loads, boxO, bslO, buildO, cutL, fillV, putL, i64w, w34, v34, R, R', W, encClip, T, ea])
    | (refine stepI.cases (fun _ hp => ?_) (fun _ hp => ?_) <;> simp (maxSteps := 4000000) (disch := omega) only [hp, ah, am, Nat.reduceEqDiff, reduceCtorEq, Nat.reduceAdd, Nat.reduceLeDiff, Nat.reduceMul, Nat.reduceLT, if_true, if_false, true_and, and_true, and_self, Nat.reduceBEq, QOp.loads, boxO, bslO, buildO, cutL, fillV, putL, i64w, w34, v34, R, R', W, encClip, T, ea]))
      all_goals first
        | (refine ⟨by omega, _, rfl, ?_⟩; rw [J, joinStep, dif_neg hn]; exact F2)
        | omega
  · simp (maxSteps := 4000000) (disch := omega) only [ah, am, Nat.reduceEqDiff, reduceCtorEq, Nat.reduceAdd, Nat.reduceLeDiff, Nat.reduceMul, Nat.reduceLT, if_true, if_false, true_and, and_true, and_self, Nat.reduceBEq, QOp.loads, boxO, bslO, buildO, cutL, fillV, putL, w34, v34, R, W]
    obtain rfl : i = l.length := by omega
    rw [List.take_length] at F
    exact F
end Go.Proofs.YtgmimgmdbpcecaaGreatDoor
end

section
namespace Go.Proofs.YtgmimgmdbpcecaaGreatDoor
open Go Go.Ah
set_option linter.unusedSimpArgs false
set_option linter.unusedVariables false
set_option maxRecDepth 10000
set_option maxHeartbeats 4000000

/-- A pair of a list and a bool, as a call answers it. -/
def Pair (h h' : Heap) (r : Value) (p : List Clip × Bool) : Prop := ∃ rv, r = .tuple #[rv, .bool p.2] ∧ Fresh h h' encClip 3 rv p.1
def editF (l : List Clip) : List Clip × Bool := if (∀ k ∈ l, clipOk k) ∧ trackOk (join l) then (join l, true) else ([], false)
theorem Pair.mono {h0 h h' : Heap} {r : Value} {p : List Clip × Bool} (f : Pair h h' r p) (e : Ext h0 h) : Pair h0 h' r p := by
  obtain ⟨rv, e1, f⟩ := f; exact ⟨rv, e1, f.mono e⟩
def cAt (l : List Clip) (i : Int) : Clip := l.getD i.toNat zClip
def realAt (l : List Clip) (i : Int) : Prop := 0 ≤ i ∧ i < l.length ∧ (cAt l i).src ≠ 0
instance (l : List Clip) (i : Int) : Decidable (realAt l i) := by unfold realAt; infer_instance
theorem cAt_eq (l : List Clip) (i : Int) (hi : i.toNat < l.length) : cAt l i = l[i.toNat] := by
  simp only [cAt, List.getD_eq_getElem?_getD, List.getElem?_eq_getElem hi, Option.getD_some]
/-- A clip that is no gap turned into another one. -/
def turnF (l : List Clip) (i n : Int) (f : Clip → Clip) : List Clip × Bool :=
  if trackOk l ∧ (-10000000 ≤ n ∧ n ≤ 10000000) ∧ realAt l i then editF (l.set i.toNat (f (cAt l i))) else ([], false)
end Go.Proofs.YtgmimgmdbpcecaaGreatDoor
end
