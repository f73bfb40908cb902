import Derived.Test.YtknpombiomnkbaaD4
import Derived.Test.YtknpombiomnkbaaD5
import Derived.Test.YtknpombiomnkbaaI10
namespace Go.Proofs.Ytknpombiomnkbaa
open Go Go.Ah
set_option linter.unusedSimpArgs false
set_option linter.unusedVariables false
set_option maxRecDepth 10000
set_option maxHeartbeats 4000000
/-! 3 loop.example/g00066/laws.FnRelinked: parameters 1, live [0], slots [0:code, 1:code, 3:t, 4:old, 5:_, 6:by, 7:u, 8:is, 9:_, 10:told, 11:b, 12:back] -/
def c3_0 : List SOper := [⟨some 2, .q (.mv (.c (.bool false))), none⟩]
def c3_1 : List SOper := [⟨some 13, .q (.mv (.t 0)), none⟩, ⟨some 14, .e (.call 10 [(.t 13)]), none⟩]
def c3_2 : List SOper := [⟨some 2, .q (.mv (.c (.bool true))), none⟩]
def c3_3 : SCode := .seq (.region c3_2 [2]) .ret
def c3_4 : SCode := .cond (.t 14) c3_3 .skip
def c3_5 : SCode := .seq (.region c3_1 [0, 14]) c3_4
def c3_6 : List SOper := [⟨some 16, .q (.mv (.t 0)), none⟩, ⟨some 17, .e (.call 11 [(.t 16)]), none⟩, ⟨some 15, .q (.mv (.t 17)), none⟩, ⟨some 18, .q (.ext (.t 15) 0), none⟩, ⟨some 19, .q (.ext (.t 15) 1), none⟩, ⟨some 20, .q (.ext (.t 15) 2), none⟩, ⟨some 21, .q (.ext (.t 15) 3), none⟩, ⟨some 3, .q (.mv (.t 18)), none⟩, ⟨some 4, .q (.mv (.t 19)), none⟩, ⟨some 5, .q (.mv (.t 20)), none⟩, ⟨some 6, .q (.mv (.t 21)), none⟩]
def c3_7 : List SOper := [⟨some 23, .q (.mv (.t 3)), none⟩, ⟨some 24, .q (.mv (.t 4)), none⟩, ⟨some 25, .q (.mv (.t 6)), none⟩, ⟨some 26, .e (.call 12 [(.t 23), (.t 24), (.c (.int .i64 300)), (.t 25)]), none⟩, ⟨some 22, .q (.mv (.t 26)), none⟩, ⟨some 27, .q (.ext (.t 22) 0), none⟩, ⟨some 28, .q (.ext (.t 22) 1), none⟩, ⟨some 7, .q (.mv (.t 27)), none⟩, ⟨some 8, .q (.mv (.t 28)), none⟩]
def c3_8 : List SOper := [⟨some 30, .q (.mv (.t 3)), none⟩, ⟨some 31, .q (.mv (.t 4)), none⟩, ⟨some 32, .q (.mv (.t 6)), none⟩, ⟨some 33, .e (.call 13 [(.t 30), (.t 31), (.c (.int .i64 300)), (.t 32)]), none⟩, ⟨some 29, .q (.mv (.t 33)), none⟩, ⟨some 34, .q (.ext (.t 29) 0), none⟩, ⟨some 35, .q (.ext (.t 29) 1), none⟩, ⟨some 9, .q (.mv (.t 34)), none⟩, ⟨some 10, .q (.mv (.t 35)), none⟩]
def c3_9 : List SOper := [⟨some 36, .q (.mv (.t 8)), none⟩, ⟨some 37, .q (.mv (.t 10)), none⟩, ⟨some 38, .q (.eqb true (.t 36) (.t 37)), none⟩]
def c3_10 : List SOper := [⟨some 2, .q (.mv (.c (.bool false))), none⟩]
def c3_11 : SCode := .seq (.region c3_10 [2]) .ret
def c3_12 : SCode := .cond (.t 38) c3_11 .skip
def c3_13 : SCode := .seq (.region c3_9 [3, 4, 6, 7, 8, 38]) c3_12
def c3_14 : SCode := .seq (.region c3_8 [3, 4, 6, 7, 8, 10]) c3_13
def c3_15 : List SOper := [⟨some 39, .q (.mv (.t 8)), none⟩, ⟨some 40, .q (.not (.t 39)), none⟩, ⟨some 41, .q (.mv (.t 40)), none⟩, ⟨some 42, .q (.mv (.t 4)), some (41, false)⟩, ⟨some 43, .q (.bin .eql (.t 42) (.c (.int .i64 300))), some (41, false)⟩, ⟨some 44, .q (.pick (.t 41) (.c (.bool true)) (.t 43)), none⟩]
def c3_16 : List SOper := [⟨some 45, .q (.mv (.t 8)), none⟩, ⟨some 46, .q (.mv (.t 45)), none⟩, ⟨some 47, .q (.mv (.t 7)), some (46, false)⟩, ⟨some 48, .q (.len (.t 47)), some (46, false)⟩, ⟨some 49, .q (.bin .eql (.t 48) (.c (.int .i64 0))), some (46, false)⟩, ⟨some 50, .q (.pick (.t 46) (.c (.bool true)) (.t 49)), none⟩, ⟨some 2, .q (.mv (.t 50)), none⟩]
def c3_17 : SCode := .seq (.region c3_16 [2]) .ret
def c3_18 : SCode := .cond (.t 44) c3_17 .skip
def c3_19 : SCode := .seq (.region c3_15 [3, 4, 6, 7, 8, 44]) c3_18
def c3_20 : List SOper := [⟨some 52, .q (.mv (.t 7)), none⟩, ⟨some 53, .q (.mv (.t 4)), none⟩, ⟨some 54, .q (.mv (.t 6)), none⟩, ⟨some 55, .q (.neg (.t 54)), none⟩, ⟨some 56, .e (.call 12 [(.t 52), (.c (.int .i64 300)), (.t 53), (.t 55)]), none⟩, ⟨some 51, .q (.mv (.t 56)), none⟩, ⟨some 57, .q (.ext (.t 51) 0), none⟩, ⟨some 58, .q (.ext (.t 51) 1), none⟩, ⟨some 11, .q (.mv (.t 57)), none⟩, ⟨some 12, .q (.mv (.t 58)), none⟩]
def c3_21 : List SOper := [⟨some 59, .q (.mv (.t 12)), none⟩, ⟨some 60, .q (.mv (.t 59)), none⟩, ⟨some 61, .q (.mv (.t 11)), some (60, true)⟩, ⟨some 62, .q (.mv (.t 3)), some (60, true)⟩, ⟨some 63, .e (.call 15 [(.t 62)]), some (60, true)⟩, ⟨some 64, .e (.call 14 [(.t 61), (.t 63)]), some (60, true)⟩, ⟨some 65, .q (.pick (.t 60) (.t 64) (.c (.bool false))), none⟩, ⟨some 66, .q (.mv (.t 65)), none⟩, ⟨some 67, .q (.mv (.t 7)), some (66, true)⟩, ⟨some 68, .e (.call 16 [(.t 67)]), some (66, true)⟩, ⟨some 69, .q (.mv (.t 3)), some (66, true)⟩, ⟨some 70, .e (.call 16 [(.t 69)]), some (66, true)⟩, ⟨some 71, .q (.bin .eql (.t 68) (.t 70)), some (66, true)⟩, ⟨some 72, .q (.pick (.t 66) (.t 71) (.c (.bool false))), none⟩, ⟨some 2, .q (.mv (.t 72)), none⟩]
def c3_22 : SCode := .seq (.region c3_21 [2]) .ret
def c3_23 : SCode := .seq (.region c3_20 [3, 7, 11, 12]) c3_22
def c3_24 : SCode := .seq c3_19 c3_23
def c3_25 : SCode := .seq c3_14 c3_24
def c3_26 : SCode := .seq (.region c3_7 [3, 4, 6, 7, 8]) c3_25
def c3_27 : SCode := .seq (.region c3_6 [3, 4, 6]) c3_26
def c3_28 : SCode := .seq c3_5 c3_27
def c3_29 : SCode := .seq (.region c3_0 [0]) c3_28
def c3 : SCode := c3_29
theorem w3 : type_of% (And.intro (uR Try.prog c3_0.eq_1) (And.intro (uR Try.prog c3_1.eq_1) (And.intro (uR Try.prog c3_2.eq_1) (And.intro (uC Try.prog c3_3.eq_1) (And.intro (uC Try.prog c3_4.eq_1) (And.intro (uC Try.prog c3_5.eq_1) (And.intro (uR Try.prog c3_6.eq_1) (And.intro (uR Try.prog c3_7.eq_1) (And.intro (uR Try.prog c3_8.eq_1) (And.intro (uR Try.prog c3_9.eq_1) (And.intro (uR Try.prog c3_10.eq_1) (And.intro (uC Try.prog c3_11.eq_1) (And.intro (uC Try.prog c3_12.eq_1) (And.intro (uC Try.prog c3_13.eq_1) (And.intro (uC Try.prog c3_14.eq_1) (And.intro (uR Try.prog c3_15.eq_1) (And.intro (uR Try.prog c3_16.eq_1) (And.intro (uC Try.prog c3_17.eq_1) (And.intro (uC Try.prog c3_18.eq_1) (And.intro (uC Try.prog c3_19.eq_1) (And.intro (uR Try.prog c3_20.eq_1) (And.intro (uR Try.prog c3_21.eq_1) (And.intro (uC Try.prog c3_22.eq_1) (And.intro (uC Try.prog c3_23.eq_1) (And.intro (uC Try.prog c3_24.eq_1) (And.intro (uC Try.prog c3_25.eq_1) (And.intro (uC Try.prog c3_26.eq_1) (And.intro (uC Try.prog c3_27.eq_1) (And.intro (uC Try.prog c3_28.eq_1) (And.intro (uC Try.prog c3_29.eq_1) (uC Try.prog c3.eq_1))))))))))))))))))))))))))))))) := (And.intro (uR Try.prog c3_0.eq_1) (And.intro (uR Try.prog c3_1.eq_1) (And.intro (uR Try.prog c3_2.eq_1) (And.intro (uC Try.prog c3_3.eq_1) (And.intro (uC Try.prog c3_4.eq_1) (And.intro (uC Try.prog c3_5.eq_1) (And.intro (uR Try.prog c3_6.eq_1) (And.intro (uR Try.prog c3_7.eq_1) (And.intro (uR Try.prog c3_8.eq_1) (And.intro (uR Try.prog c3_9.eq_1) (And.intro (uR Try.prog c3_10.eq_1) (And.intro (uC Try.prog c3_11.eq_1) (And.intro (uC Try.prog c3_12.eq_1) (And.intro (uC Try.prog c3_13.eq_1) (And.intro (uC Try.prog c3_14.eq_1) (And.intro (uR Try.prog c3_15.eq_1) (And.intro (uR Try.prog c3_16.eq_1) (And.intro (uC Try.prog c3_17.eq_1) (And.intro (uC Try.prog c3_18.eq_1) (And.intro (uC Try.prog c3_19.eq_1) (And.intro (uR Try.prog c3_20.eq_1) (And.intro (uR Try.prog c3_21.eq_1) (And.intro (uC Try.prog c3_22.eq_1) (And.intro (uC Try.prog c3_23.eq_1) (And.intro (uC Try.prog c3_24.eq_1) (And.intro (uC Try.prog c3_25.eq_1) (And.intro (uC Try.prog c3_26.eq_1) (And.intro (uC Try.prog c3_27.eq_1) (And.intro (uC Try.prog c3_28.eq_1) (And.intro (uC Try.prog c3_29.eq_1) (uC Try.prog c3.eq_1)))))))))))))))))))))))))))))))
def v3 : List RV := [.t 2]
theorem s3 : slimF Try.prog Try.f3 = some (c3.bare, v3) := by kernel_rfl

theorem ex_map (f : Clip → Clip) (hf : ∀ k, framesI (f k) = (framesI k).map f) (l : List Clip) : ex (l.map f) = (ex l).map f := by
  simp only [ex, List.flatMap_map, List.map_flatMap, hf]
theorem relC_frames (a b n : Int) (ha : a ≠ 0) (hb : b ≠ 0) (k : Clip) : framesI (relC a b n k) = (framesI k).map (relC a b n) := by
  unfold relC framesI
  by_cases h : k.src = a
  · rw [if_pos h]
    simp only [List.map_map]
    apply List.map_congr_left
    intro d _
    have h0 : k.src ≠ 0 := by omega
    simp only [Function.comp, frameI, if_neg h0, if_neg hb, if_pos h, Clip.mk.injEq, true_and, and_true]; omega
  · rw [if_neg h]
    simp only [List.map_map]
    apply List.map_congr_left
    intro d _
    simp only [Function.comp]
    rw [if_neg (show ¬ (frameI k d).src = a from h)]
theorem relC_back (a b n : Int) (k : Clip) (hk : k.src ≠ b) : relC b a (-n) (relC a b n k) = k := by
  obtain ⟨s, i, len⟩ := k
  unfold relC
  simp only at hk
  by_cases h : s = a
  · simp only [if_pos h, if_true, Clip.mk.injEq, and_true]; omega
  · simp only [if_neg h, if_neg hk]
theorem ex_mem {l : List Clip} {a : Clip} (h : a ∈ ex l) : ∃ k ∈ l, a ∈ framesI k ∧ a.src = k.src := by
  simp only [ex, List.mem_flatMap] at h
  obtain ⟨k, hk, ha⟩ := h
  refine ⟨k, hk, ha, ?_⟩
  simp only [framesI, List.mem_map] at ha
  obtain ⟨d, _, rfl⟩ := ha; rfl
theorem clipOk_all_of_ex {l : List Clip} (hw : ∀ k ∈ l, 1 ≤ k.len ∧ k.len ≤ 10000000) (h : ∀ a ∈ ex l, clipOk a) : ∀ k ∈ l, clipOk k := fun k hk =>
  clipOk_of_frames (hw k hk).1 (hw k hk).2 fun a ha => h a (by simp only [ex, List.mem_flatMap]; exact ⟨k, hk, ha⟩)
theorem relink_back (l u : List Clip) (a n : Int) (hd : ∀ k ∈ l, drawn k) (h : relF l a 300 n = (u, true)) : trackOk l ∧ relF u 300 a (-n) = (join l, true) ∧ trackOk u ∧ sumLen u = sumLen l := by
  unfold relF at h
  split at h
  · rename_i hc
    obtain ⟨ht, ha, hb, hn⟩ := hc
    obtain ⟨h1, h2, h3, h4, h5⟩ := editF_facts h
    have hs : sumLen (l.map (relC a 300 n)) = sumLen l := by
      have : ∀ k, (relC a 300 n k).len = k.len := fun k => by unfold relC; split <;> rfl
      simp [sumLen, List.map_map, Function.comp_def, this]
    refine ⟨ht, ?_, h3, by rw [h5, hs]⟩
    have he : ex (u.map (relC 300 a (-n))) = ex l := by
      rw [ex_map _ (relC_frames 300 a (-n) (by omega) (by omega)), h4, ex_map _ (relC_frames a 300 n (by omega) (by omega)), List.map_map]
      conv => rhs; rw [← List.map_id (ex l)]
      apply List.map_congr_left
      intro f hf
      obtain ⟨k, hk, _, hs⟩ := ex_mem hf
      have := hd k hk
      exact relC_back a 300 n f (by rw [hs]; exact this)
    have hok : ∀ k ∈ u.map (relC 300 a (-n)), clipOk k := by
      refine clipOk_all_of_ex (fun k hk => ?_) (fun f hf => ?_)
      · simp only [List.mem_map] at hk
        obtain ⟨k', hk', rfl⟩ := hk
        have := h3.2.1 k' hk'
        simp only [clipOk] at this
        unfold relC; split <;> first | omega | (simp only; omega)
      · rw [he] at hf
        obtain ⟨k, hk, hf, _⟩ := ex_mem hf
        exact framesI_ok k (ht.2.1 k hk) f hf
    have hc2 : relOk u 300 a (-n) := ⟨h3, by omega, ha, by omega⟩
    rw [show relF u 300 a (-n) = editF (u.map (relC 300 a (-n))) from if_pos hc2]
    exact editF_of hok ht he
  · cases h
theorem relF_false {l u : List Clip} {a b n : Int} (h : relF l a b n = (u, false)) : u = [] := by
  unfold relF at h
  split at h
  · exact editF_false h
  · cases h; rfl
theorem relF_length (l : List Clip) (a b n : Int) : (relF l a b n).1.length ≤ 300 := by
  unfold relF; split
  · unfold editF; split
    · rename_i h; exact h.2.1
    · simp
  · simp
theorem FnRelinked_ok (h : Heap) (v : Value) (code : List Int) (s : SlT h encByte 1 v code) (hl : code.length ≤ 9223372036854775807) :
    ACall Try.prog 3 [v] h fun r h' => r = .bool true := by
  refine ACall.of Try.func3 s3 (of_decide_eq_true rfl) ?_
  simp (maxSteps := 4000000) (disch := omega) only [ah, am, Nat.reduceEqDiff, reduceCtorEq, Nat.reduceAdd, Nat.reduceLeDiff, Nat.reduceMul, Nat.reduceLT, if_true, if_false, true_and, and_true, and_self, Nat.reduceBEq, QOp.loads, boxO, bslO, buildO, cutL, fillV, putL, w3, v3]
  refine stepC.of (big_ok _ _ _ s) ?_
  rintro _ Hx ⟨hx, rfl⟩; rw [hx]; clear hx Hx
  by_cases hb : 4096 < code.length
  · have hb' : decide (4096 < (code.length : Int)) = true := decide_eq_true (by omega)
    simp (maxSteps := 4000000) (disch := omega) only [ah, am, Nat.reduceEqDiff, reduceCtorEq, Nat.reduceAdd, Nat.reduceLeDiff, Nat.reduceMul, Nat.reduceLT, if_true, if_false, true_and, and_true, and_self, Nat.reduceBEq, QOp.loads, boxO, bslO, buildO, cutL, fillV, putL, w3, v3, hb']
  have hb' : decide (4096 < (code.length : Int)) = false := decide_eq_false (by omega)
  simp (maxSteps := 4000000) (disch := omega) only [ah, am, Nat.reduceEqDiff, reduceCtorEq, Nat.reduceAdd, Nat.reduceLeDiff, Nat.reduceMul, Nat.reduceLT, if_true, if_false, true_and, and_true, and_self, Nat.reduceBEq, QOp.loads, boxO, bslO, buildO, cutL, fillV, putL, w3, v3, hb']
  refine stepC.of (DrawRelink_ok _ _ _ s (by omega)) ?_
  rintro _ H1 ⟨tv, l, a, b, n, rfl, F, D⟩
  simp (maxSteps := 4000000) (disch := omega) only [ah, am, Nat.reduceEqDiff, reduceCtorEq, Nat.reduceAdd, Nat.reduceLeDiff, Nat.reduceMul, Nat.reduceLT, if_true, if_false, true_and, and_true, and_self, Nat.reduceBEq, QOp.loads, boxO, bslO, buildO, cutL, fillV, putL, w3, v3, ext_3]
  refine stepC.of (Relink_ok _ _ _ a 300 n F.slt (by have := D.2; omega)) ?_
  rintro _ H2 ⟨uv, rfl, F2⟩
  have S2 := F.slt.ext F2.1
  have hlen := relF_length l a 300 n
  obtain ⟨u, is, hR⟩ : ∃ u is, relF l a 300 n = (u, is) := ⟨_, _, rfl⟩
  simp (maxSteps := 4000000) (disch := omega) only [ah, am, Nat.reduceEqDiff, reduceCtorEq, Nat.reduceAdd, Nat.reduceLeDiff, Nat.reduceMul, Nat.reduceLT, if_true, if_false, true_and, and_true, and_self, Nat.reduceBEq, QOp.loads, boxO, bslO, buildO, cutL, fillV, putL, w3, v3]
  refine stepC.of (specRelink_ok _ _ _ a 300 n S2 (by have := D.2; omega)) ?_
  rintro _ H3 ⟨wv, rfl, F3⟩
  rw [hR] at F2 F3 hlen ⊢
  simp only at F2 F3 hlen ⊢
  have S3 := S2.ext F3.1
  have U3 := F2.slt.ext F3.1
  have RU := U3.rulesN
  cases is with
  | false =>
    obtain rfl := relF_false hR
    have z : decide (((0 : Nat) : Int) = 0) = true := rfl
    simp (maxSteps := 4000000) (disch := omega) only [ah, am, Nat.reduceEqDiff, reduceCtorEq, Nat.reduceAdd, Nat.reduceLeDiff, Nat.reduceMul, Nat.reduceLT, if_true, if_false, true_and, and_true, and_self, Nat.reduceBEq, QOp.loads, boxO, bslO, buildO, cutL, fillV, putL, w3, v3, eqbV_bool', beq_self_eq_true, RU, z]
  | true =>
    by_cases ha : a = 300
    · have ha' : decide (a = 300) = true := decide_eq_true ha
      simp (maxSteps := 4000000) (disch := omega) only [ah, am, Nat.reduceEqDiff, reduceCtorEq, Nat.reduceAdd, Nat.reduceLeDiff, Nat.reduceMul, Nat.reduceLT, if_true, if_false, true_and, and_true, and_self, Nat.reduceBEq, QOp.loads, boxO, bslO, buildO, cutL, fillV, putL, w3, v3, eqbV_bool', beq_self_eq_true, RU, ha']
    · have ha' : decide (a = 300) = false := decide_eq_false ha
      obtain ⟨ht, hB, hu, hsum⟩ := relink_back l u a n D.1 hR
      have hn : -10000000 ≤ n ∧ n ≤ 10000000 := by
        unfold relF at hR; split at hR
        · rename_i hc; exact hc.2.2.2
        · cases hR
      have W : IntKind.i64.wrap (0 - n) = -n := i64e (by omega) (by omega)
      simp (maxSteps := 4000000) (disch := omega) only [ah, am, Nat.reduceEqDiff, reduceCtorEq, Nat.reduceAdd, Nat.reduceLeDiff, Nat.reduceMul, Nat.reduceLT, if_true, if_false, true_and, and_true, and_self, Nat.reduceBEq, QOp.loads, boxO, bslO, buildO, cutL, fillV, putL, w3, v3, eqbV_bool', beq_self_eq_true, RU, ha', W]
      refine stepC.of (Relink_ok _ _ _ 300 a (-n) U3 (by omega)) ?_
      rintro _ H4 ⟨bv, rfl, F4⟩
      rw [hB] at F4 ⊢
      simp only at F4 ⊢
      have S4 := S3.ext F4.1
      have U4 := U3.ext F4.1
      simp (maxSteps := 4000000) (disch := omega) only [ah, am, Nat.reduceEqDiff, reduceCtorEq, Nat.reduceAdd, Nat.reduceLeDiff, Nat.reduceMul, Nat.reduceLT, if_true, if_false, true_and, and_true, and_self, Nat.reduceBEq, QOp.loads, boxO, bslO, buildO, cutL, fillV, putL, w3, v3]
      refine stepC.of (Joined_ok _ _ _ S4 (by have := D.2; omega)) ?_
      intro jv H5 F5
      rw [show joinedI l = join l from if_pos ht] at F5
      have hj := join_length l
      have hD := D.2
      simp (maxSteps := 4000000) (disch := omega) only [ah, am, Nat.reduceEqDiff, reduceCtorEq, Nat.reduceAdd, Nat.reduceLeDiff, Nat.reduceMul, Nat.reduceLT, if_true, if_false, true_and, and_true, and_self, Nat.reduceBEq, QOp.loads, boxO, bslO, buildO, cutL, fillV, putL, w3, v3]
      refine stepC.of (sameClips_ok _ _ _ _ _ (F4.slt.ext F5.1) F5.slt (by omega) (by omega)) ?_
      rintro _ Hx ⟨hx, rfl⟩; rw [hx]; clear hx Hx
      have jt : decide (join l = join l) = true := decide_eq_true rfl
      simp (maxSteps := 4000000) (disch := omega) only [ah, am, Nat.reduceEqDiff, reduceCtorEq, Nat.reduceAdd, Nat.reduceLeDiff, Nat.reduceMul, Nat.reduceLT, if_true, if_false, true_and, and_true, and_self, Nat.reduceBEq, QOp.loads, boxO, bslO, buildO, cutL, fillV, putL, w3, v3, jt]
      refine stepC.of (Length_ok _ _ _ (U4.ext F5.1) (by omega)) ?_
      rintro _ H6 ⟨e6, rfl⟩
      simp (maxSteps := 4000000) (disch := omega) only [ah, am, Nat.reduceEqDiff, reduceCtorEq, Nat.reduceAdd, Nat.reduceLeDiff, Nat.reduceMul, Nat.reduceLT, if_true, if_false, true_and, and_true, and_self, Nat.reduceBEq, QOp.loads, boxO, bslO, buildO, cutL, fillV, putL, w3, v3]
      refine stepC.of (Length_ok _ _ _ ((S4.ext F5.1).ext e6) (by omega)) ?_
      rintro _ H7 ⟨e7, rfl⟩
      have hL : lengthI u = lengthI l := by rw [show lengthI u = sumLen u from if_pos hu, show lengthI l = sumLen l from if_pos ht, hsum]
      have hL' : decide (lengthI u = lengthI l) = true := decide_eq_true hL
      simp (maxSteps := 4000000) (disch := omega) only [ah, am, Nat.reduceEqDiff, reduceCtorEq, Nat.reduceAdd, Nat.reduceLeDiff, Nat.reduceMul, Nat.reduceLT, if_true, if_false, true_and, and_true, and_self, Nat.reduceBEq, QOp.loads, boxO, bslO, buildO, cutL, fillV, putL, w3, v3, hL']
end Go.Proofs.Ytknpombiomnkbaa
