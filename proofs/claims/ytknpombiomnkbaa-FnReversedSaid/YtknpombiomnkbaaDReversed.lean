import Derived.Test.YtknpombiomnkbaaJ3
import Derived.Test.YtknpombiomnkbaaD7
import Derived.Test.YtknpombiomnkbaaI12
namespace Go.Proofs.Ytknpombiomnkbaa
open Go Go.Ah
set_option linter.unusedSimpArgs false
set_option linter.unusedVariables false
set_option maxRecDepth 10000
set_option maxHeartbeats 4000000
/-! 4 loop.example/g00066/laws.FnReversed: parameters 1, live [0], slots [0:code, 1:code, 3:t, 4:u, 5:is, 6:_, 7:told, 8:n, 9:i, 10:s, 11:f, 12:x, 13:y, 14:b, 15:back] -/
def c4_0 : List SOper := [⟨some 2, .q (.mv (.c (.bool false))), none⟩]
def c4_1 : List SOper := [⟨some 16, .q (.mv (.t 0)), none⟩, ⟨some 17, .e (.call 10 [(.t 16)]), none⟩]
def c4_2 : List SOper := [⟨some 2, .q (.mv (.c (.bool true))), none⟩]
def c4_3 : SCode := .seq (.region c4_2 [2]) .ret
def c4_4 : SCode := .cond (.t 17) c4_3 .skip
def c4_5 : SCode := .seq (.region c4_1 [0, 17]) c4_4
def c4_6 : List SOper := [⟨some 18, .q (.mv (.t 0)), none⟩, ⟨some 19, .e (.call 17 [(.t 18)]), none⟩, ⟨some 3, .q (.mv (.t 19)), none⟩]
def c4_7 : List SOper := [⟨some 21, .q (.mv (.t 3)), none⟩, ⟨some 22, .e (.call 18 [(.t 21)]), none⟩, ⟨some 20, .q (.mv (.t 22)), none⟩, ⟨some 23, .q (.ext (.t 20) 0), none⟩, ⟨some 24, .q (.ext (.t 20) 1), none⟩, ⟨some 4, .q (.mv (.t 23)), none⟩, ⟨some 5, .q (.mv (.t 24)), none⟩]
def c4_8 : List SOper := [⟨some 26, .q (.mv (.t 3)), none⟩, ⟨some 27, .e (.call 19 [(.t 26)]), none⟩, ⟨some 25, .q (.mv (.t 27)), none⟩, ⟨some 28, .q (.ext (.t 25) 0), none⟩, ⟨some 29, .q (.ext (.t 25) 1), none⟩, ⟨some 6, .q (.mv (.t 28)), none⟩, ⟨some 7, .q (.mv (.t 29)), none⟩]
def c4_9 : List SOper := [⟨some 30, .q (.mv (.t 5)), none⟩, ⟨some 31, .q (.mv (.t 7)), none⟩, ⟨some 32, .q (.eqb true (.t 30) (.t 31)), none⟩]
def c4_10 : List SOper := [⟨some 2, .q (.mv (.c (.bool false))), none⟩]
def c4_11 : SCode := .seq (.region c4_10 [2]) .ret
def c4_12 : SCode := .cond (.t 32) c4_11 .skip
def c4_13 : SCode := .seq (.region c4_9 [3, 4, 5, 32]) c4_12
def c4_14 : SCode := .seq (.region c4_8 [3, 4, 5, 7]) c4_13
def c4_15 : List SOper := [⟨some 33, .q (.mv (.t 5)), none⟩, ⟨some 34, .q (.not (.t 33)), none⟩]
def c4_16 : List SOper := [⟨some 35, .q (.mv (.t 4)), none⟩, ⟨some 36, .q (.len (.t 35)), none⟩, ⟨some 37, .q (.bin .eql (.t 36) (.c (.int .i64 0))), none⟩, ⟨some 2, .q (.mv (.t 37)), none⟩]
def c4_17 : SCode := .seq (.region c4_16 [2]) .ret
def c4_18 : SCode := .cond (.t 34) c4_17 .skip
def c4_19 : SCode := .seq (.region c4_15 [3, 4, 34]) c4_18
def c4_20 : List SOper := [⟨some 38, .q (.mv (.t 3)), none⟩, ⟨some 39, .e (.call 16 [(.t 38)]), none⟩, ⟨some 8, .q (.mv (.t 39)), none⟩]
def c4_21 : List SOper := [⟨some 9, .q (.mv (.c (.int .i64 0))), none⟩]
def c4_22 : List SOper := [⟨some 40, .q (.mv (.t 9)), none⟩, ⟨some 41, .q (.mv (.t 8)), none⟩, ⟨some 42, .q (.bin .lss (.t 40) (.t 41)), none⟩, ⟨some 43, .q (.mv (.t 42)), none⟩, ⟨some 44, .q (.mv (.t 9)), some (43, true)⟩, ⟨some 45, .q (.bin .lss (.t 44) (.c (.int .i64 40))), some (43, true)⟩, ⟨some 46, .q (.pick (.t 43) (.t 45) (.c (.bool false))), none⟩]
def c4_23 : SCode := .cond (.t 46) .skip (.exit 0)
def c4_24 : SCode := .seq (.region c4_22 [3, 4, 8, 9, 46]) c4_23
def c4_25 : List SOper := [⟨some 50, .q (.mv (.t 3)), none⟩, ⟨some 51, .q (.mv (.t 9)), none⟩, ⟨some 52, .e (.call 20 [(.t 50), (.t 51)]), none⟩, ⟨some 49, .q (.mv (.t 52)), none⟩, ⟨some 53, .q (.ext (.t 49) 0), none⟩, ⟨some 54, .q (.ext (.t 49) 1), none⟩, ⟨some 10, .q (.mv (.t 53)), none⟩, ⟨some 11, .q (.mv (.t 54)), none⟩]
def c4_26 : List SOper := [⟨some 56, .q (.mv (.t 4)), none⟩, ⟨some 57, .q (.mv (.t 8)), none⟩, ⟨some 58, .q (.bin .sub (.t 57) (.c (.int .i64 1))), none⟩, ⟨some 59, .q (.mv (.t 9)), none⟩, ⟨some 60, .q (.bin .sub (.t 58) (.t 59)), none⟩, ⟨some 61, .e (.call 20 [(.t 56), (.t 60)]), none⟩, ⟨some 55, .q (.mv (.t 61)), none⟩, ⟨some 62, .q (.ext (.t 55) 0), none⟩, ⟨some 63, .q (.ext (.t 55) 1), none⟩, ⟨some 12, .q (.mv (.t 62)), none⟩, ⟨some 13, .q (.mv (.t 63)), none⟩]
def c4_27 : List SOper := [⟨some 64, .q (.mv (.t 10)), none⟩, ⟨some 65, .q (.mv (.t 12)), none⟩, ⟨some 66, .q (.bin .neq (.t 64) (.t 65)), none⟩, ⟨some 67, .q (.mv (.t 66)), none⟩, ⟨some 68, .q (.mv (.t 11)), some (67, false)⟩, ⟨some 69, .q (.mv (.t 13)), some (67, false)⟩, ⟨some 70, .q (.bin .neq (.t 68) (.t 69)), some (67, false)⟩, ⟨some 71, .q (.pick (.t 67) (.c (.bool true)) (.t 70)), none⟩]
def c4_28 : List SOper := [⟨some 2, .q (.mv (.c (.bool false))), none⟩]
def c4_29 : SCode := .seq (.region c4_28 [2]) .ret
def c4_30 : SCode := .cond (.t 71) c4_29 .skip
def c4_31 : SCode := .seq (.region c4_27 [3, 4, 8, 9, 71]) c4_30
def c4_32 : SCode := .seq (.region c4_26 [3, 4, 8, 9, 10, 11, 12, 13]) c4_31
def c4_33 : SCode := .seq (.region c4_25 [3, 4, 8, 9, 10, 11]) c4_32
def c4_34 : SCode := .block 1 c4_33
def c4_35 : List SOper := [⟨some 47, .q (.mv (.t 9)), none⟩, ⟨some 48, .q (.bin .add (.t 47) (.c (.int .i64 1))), none⟩, ⟨some 9, .q (.mv (.t 48)), none⟩]
def c4_36 : SCode := .seq c4_34 (.region c4_35 [3, 4, 8, 9])
def c4_37 : SCode := .seq c4_24 c4_36
def c4_38 : SCode := .loop c4_37
def c4_39 : SCode := .block 0 c4_38
def c4_40 : SCode := .seq (.region c4_21 [3, 4, 8, 9]) c4_39
def c4_41 : List SOper := [⟨some 73, .q (.mv (.t 4)), none⟩, ⟨some 74, .e (.call 18 [(.t 73)]), none⟩, ⟨some 72, .q (.mv (.t 74)), none⟩, ⟨some 75, .q (.ext (.t 72) 0), none⟩, ⟨some 76, .q (.ext (.t 72) 1), none⟩, ⟨some 14, .q (.mv (.t 75)), none⟩, ⟨some 15, .q (.mv (.t 76)), none⟩]
def c4_42 : List SOper := [⟨some 77, .q (.mv (.t 15)), none⟩, ⟨some 78, .q (.mv (.t 77)), none⟩, ⟨some 79, .q (.mv (.t 14)), some (78, true)⟩, ⟨some 80, .q (.mv (.t 3)), some (78, true)⟩, ⟨some 81, .e (.call 15 [(.t 80)]), some (78, true)⟩, ⟨some 82, .e (.call 14 [(.t 79), (.t 81)]), some (78, true)⟩, ⟨some 83, .q (.pick (.t 78) (.t 82) (.c (.bool false))), none⟩, ⟨some 2, .q (.mv (.t 83)), none⟩]
def c4_43 : SCode := .seq (.region c4_42 [2]) .ret
def c4_44 : SCode := .seq (.region c4_41 [3, 14, 15]) c4_43
def c4_45 : SCode := .seq c4_40 c4_44
def c4_46 : SCode := .seq (.region c4_20 [3, 4, 8]) c4_45
def c4_47 : SCode := .seq c4_19 c4_46
def c4_48 : SCode := .seq c4_14 c4_47
def c4_49 : SCode := .seq (.region c4_7 [3, 4, 5]) c4_48
def c4_50 : SCode := .seq (.region c4_6 [3]) c4_49
def c4_51 : SCode := .seq c4_5 c4_50
def c4_52 : SCode := .seq (.region c4_0 [0]) c4_51
def c4 : SCode := c4_52
theorem w4 : type_of% (And.intro (uR Try.prog c4_0.eq_1) (And.intro (uR Try.prog c4_1.eq_1) (And.intro (uR Try.prog c4_2.eq_1) (And.intro (uC Try.prog c4_3.eq_1) (And.intro (uC Try.prog c4_4.eq_1) (And.intro (uC Try.prog c4_5.eq_1) (And.intro (uR Try.prog c4_6.eq_1) (And.intro (uR Try.prog c4_7.eq_1) (And.intro (uR Try.prog c4_8.eq_1) (And.intro (uR Try.prog c4_9.eq_1) (And.intro (uR Try.prog c4_10.eq_1) (And.intro (uC Try.prog c4_11.eq_1) (And.intro (uC Try.prog c4_12.eq_1) (And.intro (uC Try.prog c4_13.eq_1) (And.intro (uC Try.prog c4_14.eq_1) (And.intro (uR Try.prog c4_15.eq_1) (And.intro (uR Try.prog c4_16.eq_1) (And.intro (uC Try.prog c4_17.eq_1) (And.intro (uC Try.prog c4_18.eq_1) (And.intro (uC Try.prog c4_19.eq_1) (And.intro (uR Try.prog c4_20.eq_1) (And.intro (uR Try.prog c4_21.eq_1) (And.intro (uR Try.prog c4_22.eq_1) (And.intro (uC Try.prog c4_23.eq_1) (And.intro (uC Try.prog c4_24.eq_1) (And.intro (uR Try.prog c4_25.eq_1) (And.intro (uR Try.prog c4_26.eq_1) (And.intro (uR Try.prog c4_27.eq_1) (And.intro (uR Try.prog c4_28.eq_1) (And.intro (uC Try.prog c4_29.eq_1) (And.intro (uC Try.prog c4_30.eq_1) (And.intro (uC Try.prog c4_31.eq_1) (And.intro (uC Try.prog c4_32.eq_1) (And.intro (uC Try.prog c4_33.eq_1) (And.intro (uC Try.prog c4_34.eq_1) (And.intro (uR Try.prog c4_35.eq_1) (And.intro (uC Try.prog c4_36.eq_1) (And.intro (uC Try.prog c4_37.eq_1) (And.intro (uC Try.prog c4_38.eq_1) (And.intro (uC Try.prog c4_39.eq_1) (And.intro (uC Try.prog c4_40.eq_1) (And.intro (uR Try.prog c4_41.eq_1) (And.intro (uR Try.prog c4_42.eq_1) (And.intro (uC Try.prog c4_43.eq_1) (And.intro (uC Try.prog c4_44.eq_1) (And.intro (uC Try.prog c4_45.eq_1) (And.intro (uC Try.prog c4_46.eq_1) (And.intro (uC Try.prog c4_47.eq_1) (And.intro (uC Try.prog c4_48.eq_1) (And.intro (uC Try.prog c4_49.eq_1) (And.intro (uC Try.prog c4_50.eq_1) (And.intro (uC Try.prog c4_51.eq_1) (And.intro (uC Try.prog c4_52.eq_1) (uC Try.prog c4.eq_1)))))))))))))))))))))))))))))))))))))))))))))))))))))) := (And.intro (uR Try.prog c4_0.eq_1) (And.intro (uR Try.prog c4_1.eq_1) (And.intro (uR Try.prog c4_2.eq_1) (And.intro (uC Try.prog c4_3.eq_1) (And.intro (uC Try.prog c4_4.eq_1) (And.intro (uC Try.prog c4_5.eq_1) (And.intro (uR Try.prog c4_6.eq_1) (And.intro (uR Try.prog c4_7.eq_1) (And.intro (uR Try.prog c4_8.eq_1) (And.intro (uR Try.prog c4_9.eq_1) (And.intro (uR Try.prog c4_10.eq_1) (And.intro (uC Try.prog c4_11.eq_1) (And.intro (uC Try.prog c4_12.eq_1) (And.intro (uC Try.prog c4_13.eq_1) (And.intro (uC Try.prog c4_14.eq_1) (And.intro (uR Try.prog c4_15.eq_1) (And.intro (uR Try.prog c4_16.eq_1) (And.intro (uC Try.prog c4_17.eq_1) (And.intro (uC Try.prog c4_18.eq_1) (And.intro (uC Try.prog c4_19.eq_1) (And.intro (uR Try.prog c4_20.eq_1) (And.intro (uR Try.prog c4_21.eq_1) (And.intro (uR Try.prog c4_22.eq_1) (And.intro (uC Try.prog c4_23.eq_1) (And.intro (uC Try.prog c4_24.eq_1) (And.intro (uR Try.prog c4_25.eq_1) (And.intro (uR Try.prog c4_26.eq_1) (And.intro (uR Try.prog c4_27.eq_1) (And.intro (uR Try.prog c4_28.eq_1) (And.intro (uC Try.prog c4_29.eq_1) (And.intro (uC Try.prog c4_30.eq_1) (And.intro (uC Try.prog c4_31.eq_1) (And.intro (uC Try.prog c4_32.eq_1) (And.intro (uC Try.prog c4_33.eq_1) (And.intro (uC Try.prog c4_34.eq_1) (And.intro (uR Try.prog c4_35.eq_1) (And.intro (uC Try.prog c4_36.eq_1) (And.intro (uC Try.prog c4_37.eq_1) (And.intro (uC Try.prog c4_38.eq_1) (And.intro (uC Try.prog c4_39.eq_1) (And.intro (uC Try.prog c4_40.eq_1) (And.intro (uR Try.prog c4_41.eq_1) (And.intro (uR Try.prog c4_42.eq_1) (And.intro (uC Try.prog c4_43.eq_1) (And.intro (uC Try.prog c4_44.eq_1) (And.intro (uC Try.prog c4_45.eq_1) (And.intro (uC Try.prog c4_46.eq_1) (And.intro (uC Try.prog c4_47.eq_1) (And.intro (uC Try.prog c4_48.eq_1) (And.intro (uC Try.prog c4_49.eq_1) (And.intro (uC Try.prog c4_50.eq_1) (And.intro (uC Try.prog c4_51.eq_1) (And.intro (uC Try.prog c4_52.eq_1) (uC Try.prog c4.eq_1))))))))))))))))))))))))))))))))))))))))))))))))))))))
def v4 : List RV := [.t 2]
theorem s4 : slimF Try.prog Try.f4 = some (c4.bare, v4) := by kernel_rfl

theorem framesI_one {a : Clip} (h : a.len = 1) : framesI a = [a] := by
  obtain ⟨s, i, n⟩ := a
  simp only at h; subst h
  by_cases hs : s = 0 <;> simp [framesI, frameI, List.range_succ, hs]
theorem ex_ones (m : List Clip) (h : ∀ a ∈ m, a.len = 1) : ex m = m := by
  induction m with
  | nil => rfl
  | cons a m ih =>
    have : ex (a :: m) = framesI a ++ ex m := rfl
    rw [this, framesI_one (h a (by simp)), ih (fun b hb => h b (by simp [hb]))]; rfl
theorem ex_revPiece (k : Clip) (hk : clipOk k) : ex (revPiece k) = (framesI k).reverse := by
  by_cases hg : k.src = 0
  · rw [show revPiece k = [k] from if_pos hg, ex_one]
    have h := frames_gap k hk hg
    have h2 : framesI k = (List.replicate k.len.toNat (⟨0, 0, 1⟩ : Clip)).reverse := by rw [← h, List.reverse_reverse]
    rw [h, h2, List.reverse_replicate]
  · rw [show revPiece k = framesR k from if_neg hg, frames_turn k hg]
    refine ex_ones _ fun a ha => ?_
    simp only [framesR, List.mem_map] at ha
    obtain ⟨d, _, rfl⟩ := ha; rfl
theorem ex_revS (l : List Clip) (hl : ∀ k ∈ l, clipOk k) : ex (revS l) = (ex l).reverse := by
  have key : ∀ (l : List Clip), (∀ k ∈ l, clipOk k) → ex (l.flatMap revPiece) = l.flatMap fun k => (framesI k).reverse := by
    intro l
    induction l with
    | nil => intro _; rfl
    | cons k l ih =>
      intro h
      rw [List.flatMap_cons, List.flatMap_cons, ex_append, ex_revPiece k (h k (by simp)), ih (fun a ha => h a (by simp [ha]))]
  unfold revS
  rw [key l.reverse (fun k hk => hl k (by simpa using hk)), ex, List.reverse_flatMap]; rfl
theorem revF_facts {l u : List Clip} (h : revF l = (u, true)) : trackOk l ∧ sumLen l ≤ 2000 ∧ trackOk u ∧ ex u = (ex l).reverse ∧ sumLen u = sumLen l := by
  unfold revF at h
  split at h
  · rename_i hc
    obtain ⟨h1, h2, h3, h4, h5⟩ := editF_facts h
    have he : ex u = (ex l).reverse := by rw [h4, ex_revS l hc.1.2.1]
    refine ⟨hc.1, hc.2, h3, he, ?_⟩
    rw [← sum_ex h3, ← sum_ex hc.1, he, List.length_reverse]
  · cases h
theorem revF_false {l u : List Clip} (h : revF l = (u, false)) : u = [] := by
  unfold revF at h
  split at h
  · exact editF_false h
  · cases h; rfl
theorem revF_length (l : List Clip) : (revF l).1.length ≤ 300 := by
  unfold revF editF; split
  · split
    · rename_i h; exact h.2.1
    · simp
  · simp
theorem revF_back {l u : List Clip} (h : revF l = (u, true)) : revF u = (join l, true) := by
  obtain ⟨h1, h2, h3, h4, h5⟩ := revF_facts h
  rw [show revF u = editF (revS u) from if_pos ⟨h3, by omega⟩]
  refine editF_of (fun k hk => ?_) h1 (by rw [ex_revS u h3.2.1, h4, List.reverse_reverse])
  simp only [revS, List.mem_flatMap, List.mem_reverse] at hk
  obtain ⟨a, ha, hk⟩ := hk
  exact revPiece_ok a (h3.2.1 a ha) k hk
theorem rev_frame {l u : List Clip} (h : revF l = (u, true)) (i : Int) (h0 : 0 ≤ i) (hi : i < sumLen l) : frameAt u (sumLen l - 1 - i) = frameAt l i := by
  obtain ⟨h1, h2, h3, h4, h5⟩ := revF_facts h
  have hs := sum_ex h1
  refine frameAt_eq h1 h3 (by omega) h0 ?_
  rw [h4, List.getElem?_reverse (by omega)]
  congr 1; omega
theorem FnReversed_ok (h : Heap) (v : Value) (code : List Int) (s : SlT h encByte 1 v code) (hl : code.length ≤ 9223372036854775807) :
    ACall Try.prog 4 [v] h fun r h' => r = .bool true := by
  refine ACall.of Try.func4 s4 (of_decide_eq_true rfl) ?_
  simp (maxSteps := 4000000) (disch := omega) only [ah, am, Nat.reduceEqDiff, reduceCtorEq, Nat.reduceAdd, Nat.reduceLeDiff, Nat.reduceMul, Nat.reduceLT, if_true, if_false, true_and, and_true, and_self, Nat.reduceBEq, QOp.loads, boxO, bslO, buildO, cutL, fillV, putL, w4, v4]
  refine stepC.of (big_ok _ _ _ s) ?_
  rintro _ Hx ⟨hx, rfl⟩; rw [hx]; clear hx Hx
  by_cases hb : 4096 < code.length
  · have hb' : decide (4096 < (code.length : Int)) = true := decide_eq_true (by omega)
    simp (maxSteps := 4000000) (disch := omega) only [ah, am, Nat.reduceEqDiff, reduceCtorEq, Nat.reduceAdd, Nat.reduceLeDiff, Nat.reduceMul, Nat.reduceLT, if_true, if_false, true_and, and_true, and_self, Nat.reduceBEq, QOp.loads, boxO, bslO, buildO, cutL, fillV, putL, w4, v4, hb']
  have hb' : decide (4096 < (code.length : Int)) = false := decide_eq_false (by omega)
  simp (maxSteps := 4000000) (disch := omega) only [ah, am, Nat.reduceEqDiff, reduceCtorEq, Nat.reduceAdd, Nat.reduceLeDiff, Nat.reduceMul, Nat.reduceLT, if_true, if_false, true_and, and_true, and_self, Nat.reduceBEq, QOp.loads, boxO, bslO, buildO, cutL, fillV, putL, w4, v4, hb']
  refine stepC.of (DrawReverse_ok _ _ _ s (by omega)) ?_
  rintro tv H1 ⟨l, F, D⟩
  have S1 := F.slt
  simp (maxSteps := 4000000) (disch := omega) only [ah, am, Nat.reduceEqDiff, reduceCtorEq, Nat.reduceAdd, Nat.reduceLeDiff, Nat.reduceMul, Nat.reduceLT, if_true, if_false, true_and, and_true, and_self, Nat.reduceBEq, QOp.loads, boxO, bslO, buildO, cutL, fillV, putL, w4, v4]
  refine stepC.of (Reverse_ok _ _ _ S1 (by omega)) ?_
  rintro _ H2 ⟨uv, rfl, F2⟩
  have S2 := S1.ext F2.1
  have hlen := revF_length l
  obtain ⟨u, is, hR⟩ : ∃ u is, revF l = (u, is) := ⟨_, _, rfl⟩
  simp (maxSteps := 4000000) (disch := omega) only [ah, am, Nat.reduceEqDiff, reduceCtorEq, Nat.reduceAdd, Nat.reduceLeDiff, Nat.reduceMul, Nat.reduceLT, if_true, if_false, true_and, and_true, and_self, Nat.reduceBEq, QOp.loads, boxO, bslO, buildO, cutL, fillV, putL, w4, v4]
  refine stepC.of (specReverse_ok _ _ _ S2 (by omega)) ?_
  rintro _ H3 ⟨wv, rfl, F3⟩
  rw [hR] at F2 F3 hlen ⊢
  simp only at F2 F3 hlen ⊢
  have S3 := S2.ext F3.1
  have U3 := F2.slt.ext F3.1
  have RU := U3.rulesN
  cases is with
  | false =>
    obtain rfl := revF_false hR
    have z : decide (((0 : Nat) : Int) = 0) = true := rfl
    simp (maxSteps := 4000000) (disch := omega) only [ah, am, Nat.reduceEqDiff, reduceCtorEq, Nat.reduceAdd, Nat.reduceLeDiff, Nat.reduceMul, Nat.reduceLT, if_true, if_false, true_and, and_true, and_self, Nat.reduceBEq, QOp.loads, boxO, bslO, buildO, cutL, fillV, putL, w4, v4, eqbV_bool', beq_self_eq_true, RU, z]
  | true =>
    obtain ⟨ht, hsm, hu, he, hsu⟩ := revF_facts hR
    have hlt := ht.1
    have B := sumLen_bound ht.2.1
    simp (maxSteps := 4000000) (disch := omega) only [ah, am, Nat.reduceEqDiff, reduceCtorEq, Nat.reduceAdd, Nat.reduceLeDiff, Nat.reduceMul, Nat.reduceLT, if_true, if_false, true_and, and_true, and_self, Nat.reduceBEq, QOp.loads, boxO, bslO, buildO, cutL, fillV, putL, w4, v4, eqbV_bool', beq_self_eq_true, RU]
    refine stepC.of (Length_ok _ _ _ S3 (by omega)) ?_
    rintro _ H4 ⟨e4, rfl⟩
    rw [show lengthI l = sumLen l from if_pos ht]
    have S4 := S3.ext e4
    have U4 := U3.ext e4
    simp (maxSteps := 4000000) (disch := omega) only [ah, am, Nat.reduceEqDiff, reduceCtorEq, Nat.reduceAdd, Nat.reduceLeDiff, Nat.reduceMul, Nat.reduceLT, if_true, if_false, true_and, and_true, and_self, Nat.reduceBEq, QOp.loads, boxO, bslO, buildO, cutL, fillV, putL, w4, v4]
    refine SW_loop_up (fun i E H => E = [(3, tv), (4, uv), (8, .int .i64 (sumLen l)), (9, .int .i64 i)] ∧ Ext H4 H) 40 0 (by omega) ⟨rfl, Ext.refl _⟩ ?_
    rintro i E H hi ⟨rfl, e⟩
    have W1 : IntKind.i64.wrap ((i : Int) + 1) = ((i + 1 : Nat) : Int) := i64e (by omega) (by omega)
    have S5 := S4.ext e
    have U5 := U4.ext e
    have done : ∀ (E : Env) (H : Heap), Ext H4 H → E.get 3 = some tv → E.get 4 = some uv → SW Try.prog c4_44 (retQ [RV.t 2] fun r h' => r = .bool true) E H := by
      intro E H e E3 E4
      have S5 := S4.ext e
      have U5 := U4.ext e
      simp (maxSteps := 4000000) (disch := omega) only [ah, am, Nat.reduceEqDiff, reduceCtorEq, Nat.reduceAdd, Nat.reduceLeDiff, Nat.reduceMul, Nat.reduceLT, if_true, if_false, true_and, and_true, and_self, Nat.reduceBEq, QOp.loads, boxO, bslO, buildO, cutL, fillV, putL, w4, v4, E3, E4]
      refine stepC.of (Reverse_ok _ _ _ U5 (by omega)) ?_
      rintro _ H6 ⟨bv, rfl, F6⟩
      rw [revF_back hR] at F6 ⊢
      simp only at F6 ⊢
      simp (maxSteps := 4000000) (disch := omega) only [ah, am, Nat.reduceEqDiff, reduceCtorEq, Nat.reduceAdd, Nat.reduceLeDiff, Nat.reduceMul, Nat.reduceLT, if_true, if_false, true_and, and_true, and_self, Nat.reduceBEq, QOp.loads, boxO, bslO, buildO, cutL, fillV, putL, w4, v4, E3, E4]
      refine stepC.of (Joined_ok _ _ _ (S5.ext F6.1) (by omega)) ?_
      intro jv H7 F7
      rw [show joinedI l = join l from if_pos ht] at F7
      have hj := join_length l
      simp (maxSteps := 4000000) (disch := omega) only [ah, am, Nat.reduceEqDiff, reduceCtorEq, Nat.reduceAdd, Nat.reduceLeDiff, Nat.reduceMul, Nat.reduceLT, if_true, if_false, true_and, and_true, and_self, Nat.reduceBEq, QOp.loads, boxO, bslO, buildO, cutL, fillV, putL, w4, v4]
      refine stepC.of (sameClips_ok _ _ _ _ _ (F6.slt.ext F7.1) F7.slt (by omega) (by omega)) ?_
      rintro _ Hx ⟨hx, rfl⟩; rw [hx]; clear hx Hx
      simp (maxSteps := 4000000) (disch := omega) only [ah, am, Nat.reduceEqDiff, reduceCtorEq, Nat.reduceAdd, Nat.reduceLeDiff, Nat.reduceMul, Nat.reduceLT, if_true, if_false, true_and, and_true, and_self, Nat.reduceBEq, QOp.loads, boxO, bslO, buildO, cutL, fillV, putL, w4, v4, eq_self, decide_true]
    by_cases h1 : (i : Int) < sumLen l
    · have d1 : decide ((i : Int) < sumLen l) = true := decide_eq_true h1
      by_cases h2 : (i : Int) < 40
      · have d2 : decide ((i : Int) < 40) = true := decide_eq_true h2
        simp (maxSteps := 4000000) (disch := omega) only [ah, am, Nat.reduceEqDiff, reduceCtorEq, Nat.reduceAdd, Nat.reduceLeDiff, Nat.reduceMul, Nat.reduceLT, if_true, if_false, true_and, and_true, and_self, Nat.reduceBEq, QOp.loads, boxO, bslO, buildO, cutL, fillV, putL, w4, v4, d1, d2]
        refine stepC.of (FrameAt_ok _ _ _ _ S5 (by omega)) ?_
        rintro _ H6 ⟨e6, rfl⟩
        simp (maxSteps := 4000000) (disch := omega) only [ah, am, Nat.reduceEqDiff, reduceCtorEq, Nat.reduceAdd, Nat.reduceLeDiff, Nat.reduceMul, Nat.reduceLT, if_true, if_false, true_and, and_true, and_self, Nat.reduceBEq, QOp.loads, boxO, bslO, buildO, cutL, fillV, putL, w4, v4, i64w]
        refine stepC.of (FrameAt_ok _ _ _ _ (U5.ext e6) (by omega)) ?_
        rintro _ H7 ⟨e7, rfl⟩
        rw [rev_frame hR i (by omega) h1]
        simp (maxSteps := 4000000) (disch := omega) only [ah, am, Nat.reduceEqDiff, reduceCtorEq, Nat.reduceAdd, Nat.reduceLeDiff, Nat.reduceMul, Nat.reduceLT, if_true, if_false, true_and, and_true, and_self, Nat.reduceBEq, QOp.loads, boxO, bslO, buildO, cutL, fillV, putL, w4, v4, eq_self, decide_true, W1]
        exact ⟨by omega, (e.trans e6).trans e7⟩
      · have d2 : decide ((i : Int) < 40) = false := decide_eq_false h2
        have dn := fun E => done E H e
        generalize c4_44 = fc at dn ⊢
        simp (maxSteps := 4000000) (disch := omega) only [ah, am, Nat.reduceEqDiff, reduceCtorEq, Nat.reduceAdd, Nat.reduceLeDiff, Nat.reduceMul, Nat.reduceLT, if_true, if_false, true_and, and_true, and_self, Nat.reduceBEq, QOp.loads, boxO, bslO, buildO, cutL, fillV, putL, w4, v4, d1, d2]
        exact dn _ rfl rfl
    · have d1 : decide ((i : Int) < sumLen l) = false := decide_eq_false h1
      have dn := fun E => done E H e
      generalize c4_44 = fc at dn ⊢
      simp (maxSteps := 4000000) (disch := omega) only [ah, am, Nat.reduceEqDiff, reduceCtorEq, Nat.reduceAdd, Nat.reduceLeDiff, Nat.reduceMul, Nat.reduceLT, if_true, if_false, true_and, and_true, and_self, Nat.reduceBEq, QOp.loads, boxO, bslO, buildO, cutL, fillV, putL, w4, v4, d1]
      exact dn _ rfl rfl
end Go.Proofs.Ytknpombiomnkbaa
