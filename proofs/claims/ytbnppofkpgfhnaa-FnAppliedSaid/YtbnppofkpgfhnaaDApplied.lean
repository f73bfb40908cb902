import Derived.Test.YtbnppofkpgfhnaaDP
import Derived.Test.YtbnppofkpgfhnaaDC
namespace Go.Proofs.Ytbnppofkpgfhnaa
open Go Go.Ah
set_option linter.unusedSimpArgs false
set_option linter.unusedVariables false
set_option maxRecDepth 10000
set_option maxHeartbeats 4000000
/-! 7 loop.example/g00066/laws.FnApplied: parameters 1, live [0], slots [0:code, 1:code, 3:a, 4:l, 5:b, 6:is, 7:want, 8:told, 9:t, 10:fine, 11:c, 12:back] -/
def c7_0 : List SOper := [⟨some 2, .q (.mv (.c (.bool false))), none⟩]
def c7_1 : List SOper := [⟨some 13, .q (.mv (.t 0)), none⟩, ⟨some 14, .e (.call 8 [(.t 13)]), none⟩]
def c7_2 : List SOper := [⟨some 2, .q (.mv (.c (.bool true))), none⟩]
def c7_3 : SCode := .seq (.region c7_2 [2]) .ret
def c7_4 : SCode := .cond (.t 14) c7_3 .skip
def c7_5 : SCode := .seq (.region c7_1 [0, 14]) c7_4
def c7_6 : List SOper := [⟨some 16, .q (.mv (.t 0)), none⟩, ⟨some 17, .e (.call 32 [(.t 16)]), none⟩, ⟨some 15, .q (.mv (.t 17)), none⟩, ⟨some 18, .q (.ext (.t 15) 0), none⟩, ⟨some 19, .q (.ext (.t 15) 1), none⟩, ⟨some 3, .q (.mv (.t 18)), none⟩, ⟨some 4, .q (.mv (.t 19)), none⟩]
def c7_7 : List SOper := [⟨some 21, .q (.mv (.t 3)), none⟩, ⟨some 22, .q (.mv (.t 4)), none⟩, ⟨some 23, .e (.call 13 [(.t 21), (.t 22)]), none⟩, ⟨some 20, .q (.mv (.t 23)), none⟩, ⟨some 24, .q (.ext (.t 20) 0), none⟩, ⟨some 25, .q (.ext (.t 20) 1), none⟩, ⟨some 5, .q (.mv (.t 24)), none⟩, ⟨some 6, .q (.mv (.t 25)), none⟩]
def c7_8 : List SOper := [⟨some 27, .q (.mv (.t 3)), none⟩, ⟨some 28, .q (.mv (.t 4)), none⟩, ⟨some 29, .e (.call 22 [(.t 27), (.t 28)]), none⟩, ⟨some 26, .q (.mv (.t 29)), none⟩, ⟨some 30, .q (.ext (.t 26) 0), none⟩, ⟨some 31, .q (.ext (.t 26) 1), none⟩, ⟨some 7, .q (.mv (.t 30)), none⟩, ⟨some 8, .q (.mv (.t 31)), none⟩]
def c7_9 : List SOper := [⟨some 32, .q (.mv (.t 6)), none⟩, ⟨some 33, .q (.mv (.t 8)), none⟩, ⟨some 34, .q (.eqb true (.t 32) (.t 33)), none⟩, ⟨some 35, .q (.mv (.t 34)), none⟩, ⟨some 36, .q (.mv (.t 5)), some (35, false)⟩, ⟨some 37, .q (.mv (.t 7)), some (35, false)⟩, ⟨some 38, .e (.call 14 [(.t 36), (.t 37)]), some (35, false)⟩, ⟨some 39, .q (.not (.t 38)), some (35, false)⟩, ⟨some 40, .q (.pick (.t 35) (.c (.bool true)) (.t 39)), none⟩]
def c7_10 : List SOper := [⟨some 2, .q (.mv (.c (.bool false))), none⟩]
def c7_11 : SCode := .seq (.region c7_10 [2]) .ret
def c7_12 : SCode := .cond (.t 40) c7_11 .skip
def c7_13 : SCode := .seq (.region c7_9 [3, 4, 5, 6, 40]) c7_12
def c7_14 : SCode := .seq (.region c7_8 [3, 4, 5, 6, 7, 8]) c7_13
def c7_15 : List SOper := [⟨some 42, .q (.mv (.t 3)), none⟩, ⟨some 43, .q (.mv (.t 4)), none⟩, ⟨some 44, .e (.call 16 [(.t 42), (.t 43)]), none⟩, ⟨some 41, .q (.mv (.t 44)), none⟩, ⟨some 45, .q (.ext (.t 41) 0), none⟩, ⟨some 46, .q (.ext (.t 41) 1), none⟩, ⟨some 9, .q (.mv (.t 45)), none⟩, ⟨some 10, .q (.mv (.t 46)), none⟩]
def c7_16 : List SOper := [⟨some 47, .q (.mv (.t 10)), none⟩, ⟨some 48, .q (.mv (.t 6)), none⟩, ⟨some 49, .q (.eqb true (.t 47) (.t 48)), none⟩]
def c7_17 : List SOper := [⟨some 2, .q (.mv (.c (.bool false))), none⟩]
def c7_18 : SCode := .seq (.region c7_17 [2]) .ret
def c7_19 : SCode := .cond (.t 49) c7_18 .skip
def c7_20 : SCode := .seq (.region c7_16 [3, 5, 6, 9, 49]) c7_19
def c7_21 : List SOper := [⟨some 50, .q (.mv (.t 6)), none⟩, ⟨some 51, .q (.not (.t 50)), none⟩]
def c7_22 : List SOper := [⟨some 52, .q (.mv (.t 5)), none⟩, ⟨some 53, .q (.len (.t 52)), none⟩, ⟨some 54, .q (.bin .eql (.t 53) (.c (.int .i64 0))), none⟩, ⟨some 55, .q (.mv (.t 54)), none⟩, ⟨some 56, .q (.mv (.t 9)), some (55, true)⟩, ⟨some 57, .q (.len (.t 56)), some (55, true)⟩, ⟨some 58, .q (.bin .eql (.t 57) (.c (.int .i64 0))), some (55, true)⟩, ⟨some 59, .q (.pick (.t 55) (.t 58) (.c (.bool false))), none⟩, ⟨some 2, .q (.mv (.t 59)), none⟩]
def c7_23 : SCode := .seq (.region c7_22 [2]) .ret
def c7_24 : SCode := .cond (.t 51) c7_23 .skip
def c7_25 : SCode := .seq (.region c7_21 [3, 5, 9, 51]) c7_24
def c7_26 : List SOper := [⟨some 60, .q (.mv (.t 9)), none⟩, ⟨some 61, .q (.len (.t 60)), none⟩, ⟨some 62, .q (.bin .gtr (.t 61) (.c (.int .i64 300))), none⟩]
def c7_27 : List SOper := [⟨some 2, .q (.mv (.c (.bool true))), none⟩]
def c7_28 : SCode := .seq (.region c7_27 [2]) .ret
def c7_29 : SCode := .cond (.t 62) c7_28 .skip
def c7_30 : SCode := .seq (.region c7_26 [3, 5, 9, 62]) c7_29
def c7_31 : List SOper := [⟨some 64, .q (.mv (.t 5)), none⟩, ⟨some 65, .q (.mv (.t 9)), none⟩, ⟨some 66, .e (.call 13 [(.t 64), (.t 65)]), none⟩, ⟨some 63, .q (.mv (.t 66)), none⟩, ⟨some 67, .q (.ext (.t 63) 0), none⟩, ⟨some 68, .q (.ext (.t 63) 1), none⟩, ⟨some 11, .q (.mv (.t 67)), none⟩, ⟨some 12, .q (.mv (.t 68)), none⟩]
def c7_32 : List SOper := [⟨some 69, .q (.mv (.t 12)), none⟩, ⟨some 70, .q (.mv (.t 69)), none⟩, ⟨some 71, .q (.mv (.t 11)), some (70, true)⟩, ⟨some 72, .q (.mv (.t 3)), some (70, true)⟩, ⟨some 73, .e (.call 15 [(.t 72)]), some (70, true)⟩, ⟨some 74, .e (.call 14 [(.t 71), (.t 73)]), some (70, true)⟩, ⟨some 75, .q (.pick (.t 70) (.t 74) (.c (.bool false))), none⟩, ⟨some 2, .q (.mv (.t 75)), none⟩]
def c7_33 : SCode := .seq (.region c7_32 [2]) .ret
def c7_34 : SCode := .seq (.region c7_31 [3, 11, 12]) c7_33
def c7_35 : SCode := .seq c7_30 c7_34
def c7_36 : SCode := .seq c7_25 c7_35
def c7_37 : SCode := .seq c7_20 c7_36
def c7_38 : SCode := .seq (.region c7_15 [3, 5, 6, 9, 10]) c7_37
def c7_39 : SCode := .seq c7_14 c7_38
def c7_40 : SCode := .seq (.region c7_7 [3, 4, 5, 6]) c7_39
def c7_41 : SCode := .seq (.region c7_6 [3, 4]) c7_40
def c7_42 : SCode := .seq c7_5 c7_41
def c7_43 : SCode := .seq (.region c7_0 [0]) c7_42
def c7 : SCode := c7_43
theorem w7 : type_of% (And.intro (uR Try.prog c7_0.eq_1) (And.intro (uR Try.prog c7_1.eq_1) (And.intro (uR Try.prog c7_2.eq_1) (And.intro (uC Try.prog c7_3.eq_1) (And.intro (uC Try.prog c7_4.eq_1) (And.intro (uC Try.prog c7_5.eq_1) (And.intro (uR Try.prog c7_6.eq_1) (And.intro (uR Try.prog c7_7.eq_1) (And.intro (uR Try.prog c7_8.eq_1) (And.intro (uR Try.prog c7_9.eq_1) (And.intro (uR Try.prog c7_10.eq_1) (And.intro (uC Try.prog c7_11.eq_1) (And.intro (uC Try.prog c7_12.eq_1) (And.intro (uC Try.prog c7_13.eq_1) (And.intro (uC Try.prog c7_14.eq_1) (And.intro (uR Try.prog c7_15.eq_1) (And.intro (uR Try.prog c7_16.eq_1) (And.intro (uR Try.prog c7_17.eq_1) (And.intro (uC Try.prog c7_18.eq_1) (And.intro (uC Try.prog c7_19.eq_1) (And.intro (uC Try.prog c7_20.eq_1) (And.intro (uR Try.prog c7_21.eq_1) (And.intro (uR Try.prog c7_22.eq_1) (And.intro (uC Try.prog c7_23.eq_1) (And.intro (uC Try.prog c7_24.eq_1) (And.intro (uC Try.prog c7_25.eq_1) (And.intro (uR Try.prog c7_26.eq_1) (And.intro (uR Try.prog c7_27.eq_1) (And.intro (uC Try.prog c7_28.eq_1) (And.intro (uC Try.prog c7_29.eq_1) (And.intro (uC Try.prog c7_30.eq_1) (And.intro (uR Try.prog c7_31.eq_1) (And.intro (uR Try.prog c7_32.eq_1) (And.intro (uC Try.prog c7_33.eq_1) (And.intro (uC Try.prog c7_34.eq_1) (And.intro (uC Try.prog c7_35.eq_1) (And.intro (uC Try.prog c7_36.eq_1) (And.intro (uC Try.prog c7_37.eq_1) (And.intro (uC Try.prog c7_38.eq_1) (And.intro (uC Try.prog c7_39.eq_1) (And.intro (uC Try.prog c7_40.eq_1) (And.intro (uC Try.prog c7_41.eq_1) (And.intro (uC Try.prog c7_42.eq_1) (And.intro (uC Try.prog c7_43.eq_1) (uC Try.prog c7.eq_1))))))))))))))))))))))))))))))))))))))))))))) := (And.intro (uR Try.prog c7_0.eq_1) (And.intro (uR Try.prog c7_1.eq_1) (And.intro (uR Try.prog c7_2.eq_1) (And.intro (uC Try.prog c7_3.eq_1) (And.intro (uC Try.prog c7_4.eq_1) (And.intro (uC Try.prog c7_5.eq_1) (And.intro (uR Try.prog c7_6.eq_1) (And.intro (uR Try.prog c7_7.eq_1) (And.intro (uR Try.prog c7_8.eq_1) (And.intro (uR Try.prog c7_9.eq_1) (And.intro (uR Try.prog c7_10.eq_1) (And.intro (uC Try.prog c7_11.eq_1) (And.intro (uC Try.prog c7_12.eq_1) (And.intro (uC Try.prog c7_13.eq_1) (And.intro (uC Try.prog c7_14.eq_1) (And.intro (uR Try.prog c7_15.eq_1) (And.intro (uR Try.prog c7_16.eq_1) (And.intro (uR Try.prog c7_17.eq_1) (And.intro (uC Try.prog c7_18.eq_1) (And.intro (uC Try.prog c7_19.eq_1) (And.intro (uC Try.prog c7_20.eq_1) (And.intro (uR Try.prog c7_21.eq_1) (And.intro (uR Try.prog c7_22.eq_1) (And.intro (uC Try.prog c7_23.eq_1) (And.intro (uC Try.prog c7_24.eq_1) (And.intro (uC Try.prog c7_25.eq_1) (And.intro (uR Try.prog c7_26.eq_1) (And.intro (uR Try.prog c7_27.eq_1) (And.intro (uC Try.prog c7_28.eq_1) (And.intro (uC Try.prog c7_29.eq_1) (And.intro (uC Try.prog c7_30.eq_1) (And.intro (uR Try.prog c7_31.eq_1) (And.intro (uR Try.prog c7_32.eq_1) (And.intro (uC Try.prog c7_33.eq_1) (And.intro (uC Try.prog c7_34.eq_1) (And.intro (uC Try.prog c7_35.eq_1) (And.intro (uC Try.prog c7_36.eq_1) (And.intro (uC Try.prog c7_37.eq_1) (And.intro (uC Try.prog c7_38.eq_1) (And.intro (uC Try.prog c7_39.eq_1) (And.intro (uC Try.prog c7_40.eq_1) (And.intro (uC Try.prog c7_41.eq_1) (And.intro (uC Try.prog c7_42.eq_1) (And.intro (uC Try.prog c7_43.eq_1) (uC Try.prog c7.eq_1)))))))))))))))))))))))))))))))))))))))))))))
def v7 : List RV := [.t 2]
theorem s7 : slimF Try.prog Try.f7 = some (c7.bare, v7) := by kernel_rfl

theorem applyF_len (a : List Clip) (l : List Change) : (applyF a l).1.length ≤ 300 := by
  unfold applyF; split
  · exact editF_length _
  · simp
theorem turnedF_len (a : List Clip) (l : List Change) : (turnedF a l).1.length ≤ 90000 := by
  unfold turnedF; split
  · rename_i h
    obtain ⟨ht, hc, _⟩ := applyF_true h
    have := turnedL_bound a l hc.2 ht.1
    have := hc.1
    simp only; omega
  · simp
theorem applyF_false {a u : List Clip} {l : List Change} (h : applyF a l = (u, false)) : u = [] := by
  unfold applyF at h
  split at h
  · exact editF_false h
  · cases h; rfl
theorem FnApplied_ok (h : Heap) (v : Value) (code : List Int) (s : SlT h encByte 1 v code) (hl : code.length ≤ 9223372036854775807) :
    ACall Try.prog 7 [v] h fun r h' => r = .bool true := by
  refine ACall.of Try.func7 s7 (of_decide_eq_true rfl) ?_
  simp (maxSteps := 4000000) (disch := omega) only [ah, am, Nat.reduceEqDiff, reduceCtorEq, Nat.reduceAdd, Nat.reduceLeDiff, Nat.reduceMul, Nat.reduceLT, if_true, if_false, true_and, and_true, and_self, Nat.reduceBEq, QOp.loads, boxO, bslO, buildO, cutL, fillV, putL, w7, v7]
  refine stepC.of (big_ok _ _ _ s) ?_
  rintro _ Hx ⟨hx, rfl⟩; rw [hx]; clear hx Hx
  by_cases hb : 4096 < code.length
  · have hb' : decide (4096 < (code.length : Int)) = true := decide_eq_true (by omega)
    simp (maxSteps := 4000000) (disch := omega) only [ah, am, Nat.reduceEqDiff, reduceCtorEq, Nat.reduceAdd, Nat.reduceLeDiff, Nat.reduceMul, Nat.reduceLT, if_true, if_false, true_and, and_true, and_self, Nat.reduceBEq, QOp.loads, boxO, bslO, buildO, cutL, fillV, putL, w7, v7, hb']
  have hb' : decide (4096 < (code.length : Int)) = false := decide_eq_false (by omega)
  simp (maxSteps := 4000000) (disch := omega) only [ah, am, Nat.reduceEqDiff, reduceCtorEq, Nat.reduceAdd, Nat.reduceLeDiff, Nat.reduceMul, Nat.reduceLT, if_true, if_false, true_and, and_true, and_self, Nat.reduceBEq, QOp.loads, boxO, bslO, buildO, cutL, fillV, putL, w7, v7, hb']
  refine stepC.of (DrawApply_ok _ _ _ s (by omega)) ?_
  rintro _ H1 ⟨av, lv, a, l, rfl, -, SA, SL, la, ll⟩
  clear s hb' hb
  simp (maxSteps := 4000000) (disch := omega) only [ah, am, Nat.reduceEqDiff, reduceCtorEq, Nat.reduceAdd, Nat.reduceLeDiff, Nat.reduceMul, Nat.reduceLT, if_true, if_false, true_and, and_true, and_self, Nat.reduceBEq, QOp.loads, boxO, bslO, buildO, cutL, fillV, putL, w7, v7]
  refine stepC.of (Apply_ok _ _ _ _ _ SA SL (by omega) (by omega)) ?_
  rintro _ H2 ⟨bv, rfl, FB⟩
  have SA := SA.ext FB.1
  have SL := SL.ext FB.1
  have SB := FB.slt
  have hlen := applyF_len a l
  simp (maxSteps := 4000000) (disch := omega) only [ah, am, Nat.reduceEqDiff, reduceCtorEq, Nat.reduceAdd, Nat.reduceLeDiff, Nat.reduceMul, Nat.reduceLT, if_true, if_false, true_and, and_true, and_self, Nat.reduceBEq, QOp.loads, boxO, bslO, buildO, cutL, fillV, putL, w7, v7]
  refine stepC.of (specApply_ok _ _ _ _ _ SA SL (by omega) (by omega)) ?_
  rintro _ H3 ⟨wv, rfl, FW⟩
  have SA := SA.ext FW.1
  have SL := SL.ext FW.1
  have SB := SB.ext FW.1
  have SW' := FW.slt
  clear FB FW
  simp (maxSteps := 4000000) (disch := omega) only [ah, am, Nat.reduceEqDiff, reduceCtorEq, Nat.reduceAdd, Nat.reduceLeDiff, Nat.reduceMul, Nat.reduceLT, if_true, if_false, true_and, and_true, and_self, Nat.reduceBEq, QOp.loads, boxO, bslO, buildO, cutL, fillV, putL, w7, v7, eqbV_bool', beq_self_eq_true]
  refine stepC.of (sameClips_ok _ _ _ _ _ SB SW' (by omega) (by omega)) ?_
  rintro _ Hx ⟨hx, rfl⟩; rw [hx]; clear hx Hx
  simp (maxSteps := 4000000) (disch := omega) only [ah, am, Nat.reduceEqDiff, reduceCtorEq, Nat.reduceAdd, Nat.reduceLeDiff, Nat.reduceMul, Nat.reduceLT, if_true, if_false, true_and, and_true, and_self, Nat.reduceBEq, QOp.loads, boxO, bslO, buildO, cutL, fillV, putL, w7, v7, eq_self, decide_true]
  refine stepC.of (Turned_ok _ _ _ _ _ SA SL (by omega) (by omega)) ?_
  rintro _ H4 ⟨tv, rfl, FT⟩
  have SA := SA.ext FT.1
  have SB := SB.ext FT.1
  have ST := FT.slt
  have RT := ST.rulesN
  have RB := SB.rulesN
  have htl := turnedF_len a l
  obtain ⟨u, is, hR⟩ : ∃ u is, applyF a l = (u, is) := ⟨_, _, rfl⟩
  rw [hR] at SB RB hlen
  simp only at SB RB hlen
  cases is with
  | false =>
    have hT : turnedF a l = ([], false) := if_neg (by rw [hR]; simp)
    obtain rfl := applyF_false hR
    rw [hT] at RT ST ⊢
    rw [hR]
    simp only at RT ST ⊢
    have z : decide (((0 : Nat) : Int) = 0) = true := rfl
    simp (maxSteps := 4000000) (disch := omega) only [ah, am, Nat.reduceEqDiff, reduceCtorEq, Nat.reduceAdd, Nat.reduceLeDiff, Nat.reduceMul, Nat.reduceLT, if_true, if_false, true_and, and_true, and_self, Nat.reduceBEq, QOp.loads, boxO, bslO, buildO, cutL, fillV, putL, w7, v7, eqbV_bool', beq_self_eq_true, RB, RT, z]
  | true =>
    have hT : turnedF a l = ((turnedL a l).1, true) := if_pos (by rw [hR])
    rw [hT] at RT ST htl ⊢
    rw [hR]
    simp only at RT ST htl ⊢
    by_cases h3 : 300 < (turnedL a l).1.length
    · have h3' : decide (300 < ((turnedL a l).1.length : Int)) = true := decide_eq_true (by omega)
      simp (maxSteps := 4000000) (disch := omega) only [ah, am, Nat.reduceEqDiff, reduceCtorEq, Nat.reduceAdd, Nat.reduceLeDiff, Nat.reduceMul, Nat.reduceLT, if_true, if_false, true_and, and_true, and_self, Nat.reduceBEq, QOp.loads, boxO, bslO, buildO, cutL, fillV, putL, w7, v7, eqbV_bool', beq_self_eq_true, RB, RT, h3']
    have h3' : decide (300 < ((turnedL a l).1.length : Int)) = false := decide_eq_false (by omega)
    obtain ⟨ha, hc, hs⟩ := applyF_true (a := a) (l := l) (by rw [hR])
    have hE : editF (applyL a l).1 = (u, true) := by rw [← hR]; exact (if_pos ⟨ha, hc, hs⟩).symm
    obtain ⟨-, -, hu, -, -⟩ := editF_facts hE
    have hback := back_of hR hu rfl (by omega)
    have hja : joinedI a = join a := if_pos ha
    have lja := (trackOk_join ha).1
    simp (maxSteps := 4000000) (disch := omega) only [ah, am, Nat.reduceEqDiff, reduceCtorEq, Nat.reduceAdd, Nat.reduceLeDiff, Nat.reduceMul, Nat.reduceLT, if_true, if_false, true_and, and_true, and_self, Nat.reduceBEq, QOp.loads, boxO, bslO, buildO, cutL, fillV, putL, w7, v7, eqbV_bool', beq_self_eq_true, RB, RT, h3']
    refine stepC.of (Apply_ok _ _ _ _ _ SB ST (by omega) (by omega)) ?_
    rintro _ H5 ⟨cv, rfl, FC⟩
    rw [hback] at FC ⊢
    simp only at FC ⊢
    simp (maxSteps := 4000000) (disch := omega) only [ah, am, Nat.reduceEqDiff, reduceCtorEq, Nat.reduceAdd, Nat.reduceLeDiff, Nat.reduceMul, Nat.reduceLT, if_true, if_false, true_and, and_true, and_self, Nat.reduceBEq, QOp.loads, boxO, bslO, buildO, cutL, fillV, putL, w7, v7]
    refine stepC.of (Joined_ok _ _ _ (SA.ext FC.1) (by omega)) ?_
    intro jv H6 FJ
    rw [hja] at FJ
    simp (maxSteps := 4000000) (disch := omega) only [ah, am, Nat.reduceEqDiff, reduceCtorEq, Nat.reduceAdd, Nat.reduceLeDiff, Nat.reduceMul, Nat.reduceLT, if_true, if_false, true_and, and_true, and_self, Nat.reduceBEq, QOp.loads, boxO, bslO, buildO, cutL, fillV, putL, w7, v7]
    refine stepC.of (sameClips_ok _ _ _ _ _ (FC.slt.ext FJ.1) FJ.slt (by omega) (by omega)) ?_
    rintro _ Hx ⟨hx, rfl⟩; rw [hx]; clear hx Hx
    simp (maxSteps := 4000000) (disch := omega) only [ah, am, Nat.reduceEqDiff, reduceCtorEq, Nat.reduceAdd, Nat.reduceLeDiff, Nat.reduceMul, Nat.reduceLT, if_true, if_false, true_and, and_true, and_self, Nat.reduceBEq, QOp.loads, boxO, bslO, buildO, cutL, fillV, putL, w7, v7, eq_self, decide_true]
end Go.Proofs.Ytbnppofkpgfhnaa
