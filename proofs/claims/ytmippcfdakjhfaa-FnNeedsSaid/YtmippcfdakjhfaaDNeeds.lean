import Derived.Test.YtmippcfdakjhfaaG16
import Derived.Test.YtmippcfdakjhfaaT5
namespace Go.Proofs.Ytmippcfdakjhfaa
open Go Go.Ah
set_option linter.unusedSimpArgs false
set_option linter.unusedVariables false
set_option maxRecDepth 10000
set_option maxHeartbeats 4000000
/-! 6 loop.example/g00066/laws.FnNeeds: parameters 1, live [0], slots [0:code, 1:code, 3:ts, 4:h, 5:l, 6:plain] -/
def c6_0 : List SOper := [⟨some 2, .q (.mv (.c (.bool false))), none⟩]
def c6_1 : List SOper := [⟨some 7, .q (.mv (.t 0)), none⟩, ⟨some 8, .e (.call 17 [(.t 7)]), none⟩]
def c6_2 : List SOper := [⟨some 2, .q (.mv (.c (.bool true))), none⟩]
def c6_3 : SCode := .seq (.region c6_2 [2]) .ret
def c6_4 : SCode := .cond (.t 8) c6_3 .skip
def c6_5 : SCode := .seq (.region c6_1 [0, 8]) c6_4
def c6_6 : List SOper := [⟨some 10, .q (.mv (.t 0)), none⟩, ⟨some 11, .e (.call 20 [(.t 10)]), none⟩, ⟨some 9, .q (.mv (.t 11)), none⟩, ⟨some 12, .q (.ext (.t 9) 0), none⟩, ⟨some 13, .q (.ext (.t 9) 1), none⟩, ⟨some 3, .q (.mv (.t 12)), none⟩, ⟨some 4, .q (.mv (.t 13)), none⟩]
def c6_7 : List SOper := [⟨some 14, .q (.mv (.t 3)), none⟩, ⟨some 15, .q (.mv (.t 4)), none⟩, ⟨some 16, .e (.call 21 [(.t 14), (.t 15)]), none⟩, ⟨some 5, .q (.mv (.t 16)), none⟩]
def c6_8 : List SOper := [⟨some 17, .q (.mv (.t 5)), none⟩, ⟨some 18, .q (.mv (.t 3)), none⟩, ⟨some 19, .q (.mv (.t 4)), none⟩, ⟨some 20, .e (.call 22 [(.t 18), (.t 19)]), none⟩, ⟨some 21, .e (.call 19 [(.t 17), (.t 20)]), none⟩, ⟨some 22, .q (.not (.t 21)), none⟩]
def c6_9 : List SOper := [⟨some 2, .q (.mv (.c (.bool false))), none⟩]
def c6_10 : SCode := .seq (.region c6_9 [2]) .ret
def c6_11 : SCode := .cond (.t 22) c6_10 .skip
def c6_12 : SCode := .seq (.region c6_8 [3, 5, 22]) c6_11
def c6_13 : List SOper := [⟨some 23, .q (.mv (.t 5)), none⟩, ⟨some 24, .q (.len (.t 23)), none⟩, ⟨some 25, .q (.bin .eql (.t 24) (.c (.int .i64 0))), none⟩, ⟨some 26, .q (.mv (.t 25)), none⟩, ⟨some 27, .q (.mv (.t 5)), some (26, false)⟩, ⟨some 28, .q (.len (.t 27)), some (26, false)⟩, ⟨some 29, .q (.bin .gtr (.t 28) (.c (.int .i64 300))), some (26, false)⟩, ⟨some 30, .q (.pick (.t 26) (.c (.bool true)) (.t 29)), none⟩]
def c6_14 : List SOper := [⟨some 2, .q (.mv (.c (.bool true))), none⟩]
def c6_15 : SCode := .seq (.region c6_14 [2]) .ret
def c6_16 : SCode := .cond (.t 30) c6_15 .skip
def c6_17 : SCode := .seq (.region c6_13 [3, 5, 30]) c6_16
def c6_18 : List SOper := [⟨some 31, .q (.mv (.t 3)), none⟩, ⟨some 32, .e (.call 21 [(.t 31), (.c (.int .i64 0))]), none⟩, ⟨some 6, .q (.mv (.t 32)), none⟩]
def c6_19 : List SOper := [⟨some 33, .q (.mv (.t 6)), none⟩, ⟨some 34, .q (.len (.t 33)), none⟩, ⟨some 35, .q (.bin .gtr (.t 34) (.c (.int .i64 300))), none⟩]
def c6_20 : List SOper := [⟨some 36, .q (.mv (.t 6)), none⟩, ⟨some 37, .q (.mv (.t 3)), none⟩, ⟨some 38, .e (.call 22 [(.t 37), (.c (.int .i64 0))]), none⟩, ⟨some 39, .e (.call 19 [(.t 36), (.t 38)]), none⟩, ⟨some 2, .q (.mv (.t 39)), none⟩]
def c6_21 : SCode := .seq (.region c6_20 [2]) .ret
def c6_22 : SCode := .cond (.t 35) c6_21 .skip
def c6_23 : SCode := .seq (.region c6_19 [3, 5, 6, 35]) c6_22
def c6_24 : List SOper := [⟨some 40, .q (.mv (.t 5)), none⟩, ⟨some 41, .q (.mv (.t 5)), none⟩, ⟨some 42, .e (.call 11 [(.t 40), (.t 41)]), none⟩, ⟨some 43, .q (.mv (.t 42)), none⟩, ⟨some 44, .q (.mv (.t 6)), some (43, true)⟩, ⟨some 45, .q (.mv (.t 5)), some (43, true)⟩, ⟨some 46, .e (.call 11 [(.t 44), (.t 45)]), some (43, true)⟩, ⟨some 47, .q (.pick (.t 43) (.t 46) (.c (.bool false))), none⟩, ⟨some 48, .q (.mv (.t 47)), none⟩, ⟨some 49, .q (.mv (.t 6)), some (48, true)⟩, ⟨some 50, .q (.mv (.t 5)), some (48, true)⟩, ⟨some 51, .e (.call 14 [(.t 49), (.t 50)]), some (48, true)⟩, ⟨some 52, .q (.len (.t 51)), some (48, true)⟩, ⟨some 53, .q (.bin .eql (.t 52) (.c (.int .i64 0))), some (48, true)⟩, ⟨some 54, .q (.pick (.t 48) (.t 53) (.c (.bool false))), none⟩, ⟨some 55, .q (.mv (.t 54)), none⟩, ⟨some 56, .q (.mv (.t 5)), some (55, true)⟩, ⟨some 57, .a (.bsl 0 3 [] []), some (55, true)⟩, ⟨some 58, .e (.call 14 [(.t 56), (.t 57)]), some (55, true)⟩, ⟨some 59, .q (.mv (.t 5)), some (55, true)⟩, ⟨some 60, .e (.call 19 [(.t 58), (.t 59)]), some (55, true)⟩, ⟨some 61, .q (.pick (.t 55) (.t 60) (.c (.bool false))), none⟩, ⟨some 62, .q (.mv (.t 61)), none⟩, ⟨some 63, .q (.mv (.t 5)), some (62, true)⟩, ⟨some 64, .q (.mv (.t 5)), some (62, true)⟩, ⟨some 65, .q (.mv (.t 6)), some (62, true)⟩, ⟨some 66, .e (.call 14 [(.t 64), (.t 65)]), some (62, true)⟩, ⟨some 67, .e (.call 14 [(.t 63), (.t 66)]), some (62, true)⟩, ⟨some 68, .q (.mv (.t 6)), some (62, true)⟩, ⟨some 69, .q (.mv (.t 5)), some (62, true)⟩, ⟨some 70, .q (.mv (.t 6)), some (62, true)⟩, ⟨some 71, .e (.call 14 [(.t 69), (.t 70)]), some (62, true)⟩, ⟨some 72, .e (.call 14 [(.t 68), (.t 71)]), some (62, true)⟩, ⟨some 73, .e (.call 19 [(.t 67), (.t 72)]), some (62, true)⟩, ⟨some 74, .q (.pick (.t 62) (.t 73) (.c (.bool false))), none⟩, ⟨some 2, .q (.mv (.t 74)), none⟩]
def c6_25 : SCode := .seq (.region c6_24 [2]) .ret
def c6_26 : SCode := .seq c6_23 c6_25
def c6_27 : SCode := .seq (.region c6_18 [3, 5, 6]) c6_26
def c6_28 : SCode := .seq c6_17 c6_27
def c6_29 : SCode := .seq c6_12 c6_28
def c6_30 : SCode := .seq (.region c6_7 [3, 4, 5]) c6_29
def c6_31 : SCode := .seq (.region c6_6 [3, 4]) c6_30
def c6_32 : SCode := .seq c6_5 c6_31
def c6_33 : SCode := .seq (.region c6_0 [0]) c6_32
def c6 : SCode := c6_33
theorem w6 : type_of% (And.intro (uR Try.prog c6_0.eq_1) (And.intro (uR Try.prog c6_1.eq_1) (And.intro (uR Try.prog c6_2.eq_1) (And.intro (uC Try.prog c6_3.eq_1) (And.intro (uC Try.prog c6_4.eq_1) (And.intro (uC Try.prog c6_5.eq_1) (And.intro (uR Try.prog c6_6.eq_1) (And.intro (uR Try.prog c6_7.eq_1) (And.intro (uR Try.prog c6_8.eq_1) (And.intro (uR Try.prog c6_9.eq_1) (And.intro (uC Try.prog c6_10.eq_1) (And.intro (uC Try.prog c6_11.eq_1) (And.intro (uC Try.prog c6_12.eq_1) (And.intro (uR Try.prog c6_13.eq_1) (And.intro (uR Try.prog c6_14.eq_1) (And.intro (uC Try.prog c6_15.eq_1) (And.intro (uC Try.prog c6_16.eq_1) (And.intro (uC Try.prog c6_17.eq_1) (And.intro (uR Try.prog c6_18.eq_1) (And.intro (uR Try.prog c6_19.eq_1) (And.intro (uR Try.prog c6_20.eq_1) (And.intro (uC Try.prog c6_21.eq_1) (And.intro (uC Try.prog c6_22.eq_1) (And.intro (uC Try.prog c6_23.eq_1) (And.intro (uR Try.prog c6_24.eq_1) (And.intro (uC Try.prog c6_25.eq_1) (And.intro (uC Try.prog c6_26.eq_1) (And.intro (uC Try.prog c6_27.eq_1) (And.intro (uC Try.prog c6_28.eq_1) (And.intro (uC Try.prog c6_29.eq_1) (And.intro (uC Try.prog c6_30.eq_1) (And.intro (uC Try.prog c6_31.eq_1) (And.intro (uC Try.prog c6_32.eq_1) (And.intro (uC Try.prog c6_33.eq_1) (uC Try.prog c6.eq_1))))))))))))))))))))))))))))))))))) := (And.intro (uR Try.prog c6_0.eq_1) (And.intro (uR Try.prog c6_1.eq_1) (And.intro (uR Try.prog c6_2.eq_1) (And.intro (uC Try.prog c6_3.eq_1) (And.intro (uC Try.prog c6_4.eq_1) (And.intro (uC Try.prog c6_5.eq_1) (And.intro (uR Try.prog c6_6.eq_1) (And.intro (uR Try.prog c6_7.eq_1) (And.intro (uR Try.prog c6_8.eq_1) (And.intro (uR Try.prog c6_9.eq_1) (And.intro (uC Try.prog c6_10.eq_1) (And.intro (uC Try.prog c6_11.eq_1) (And.intro (uC Try.prog c6_12.eq_1) (And.intro (uR Try.prog c6_13.eq_1) (And.intro (uR Try.prog c6_14.eq_1) (And.intro (uC Try.prog c6_15.eq_1) (And.intro (uC Try.prog c6_16.eq_1) (And.intro (uC Try.prog c6_17.eq_1) (And.intro (uR Try.prog c6_18.eq_1) (And.intro (uR Try.prog c6_19.eq_1) (And.intro (uR Try.prog c6_20.eq_1) (And.intro (uC Try.prog c6_21.eq_1) (And.intro (uC Try.prog c6_22.eq_1) (And.intro (uC Try.prog c6_23.eq_1) (And.intro (uR Try.prog c6_24.eq_1) (And.intro (uC Try.prog c6_25.eq_1) (And.intro (uC Try.prog c6_26.eq_1) (And.intro (uC Try.prog c6_27.eq_1) (And.intro (uC Try.prog c6_28.eq_1) (And.intro (uC Try.prog c6_29.eq_1) (And.intro (uC Try.prog c6_30.eq_1) (And.intro (uC Try.prog c6_31.eq_1) (And.intro (uC Try.prog c6_32.eq_1) (And.intro (uC Try.prog c6_33.eq_1) (uC Try.prog c6.eq_1)))))))))))))))))))))))))))))))))))
def v6 : List RV := [.t 2]
theorem s6 : slimF Try.prog Try.f6 = some (c6.bare, v6) := by kernel_rfl

theorem FnNeeds_ok (h : Heap) (v : Value) (code : List Int) (s : SlT h encByte 1 v code) (hl : code.length ≤ 9223372036854775807) :
    ACall Try.prog 6 [v] h fun r h' => r = .bool true := by
  refine ACall.of Try.func6 s6 (of_decide_eq_true rfl) ?_
  simp (maxSteps := 4000000) (disch := omega) only [ah, am, Nat.reduceEqDiff, reduceCtorEq, Nat.reduceAdd, Nat.reduceLeDiff, Nat.reduceMul, Nat.reduceLT, if_true, if_false, true_and, and_true, and_self, Nat.reduceBEq, QOp.loads, boxO, bslO, buildO, cutL, fillV, putL, w6, v6]
  refine stepC.of (big_ok _ _ _ s) ?_
  rintro _ Hx ⟨hx, rfl⟩; rw [hx]; clear hx Hx
  by_cases hbig : (4096 : Int) < code.length
  · simp (maxSteps := 4000000) (disch := omega) only [ah, am, Nat.reduceEqDiff, reduceCtorEq, Nat.reduceAdd, Nat.reduceLeDiff, Nat.reduceMul, Nat.reduceLT, if_true, if_false, true_and, and_true, and_self, Nat.reduceBEq, QOp.loads, boxO, bslO, buildO, cutL, fillV, putL, w6, v6, decide_eq_true hbig]
  simp (maxSteps := 4000000) (disch := omega) only [ah, am, Nat.reduceEqDiff, reduceCtorEq, Nat.reduceAdd, Nat.reduceLeDiff, Nat.reduceMul, Nat.reduceLT, if_true, if_false, true_and, and_true, and_self, Nat.reduceBEq, QOp.loads, boxO, bslO, buildO, cutL, fillV, putL, w6, v6, decide_eq_false hbig]
  refine stepC.of (DrawNeeds_ok _ _ _ s (by omega)) ?_
  rintro _ H1 ⟨tv, n, ts, rfl, e1, J, htl, hrl⟩
  have hrl : ∀ t ∈ ts, t.length ≤ 1100000 := fun t ht => by have := hrl t ht; omega
  simp (maxSteps := 4000000) (disch := omega) only [ah, am, Nat.reduceEqDiff, reduceCtorEq, Nat.reduceAdd, Nat.reduceLeDiff, Nat.reduceMul, Nat.reduceLT, if_true, if_false, true_and, and_true, and_self, Nat.reduceBEq, QOp.loads, boxO, bslO, buildO, cutL, fillV, putL, w6, v6]
  refine stepC.of (Needs_ok _ _ ts n J (by omega) hrl) ?_
  intro lv H2 F2
  have J := J.ext F2.1
  simp (maxSteps := 4000000) (disch := omega) only [ah, am, Nat.reduceEqDiff, reduceCtorEq, Nat.reduceAdd, Nat.reduceLeDiff, Nat.reduceMul, Nat.reduceLT, if_true, if_false, true_and, and_true, and_self, Nat.reduceBEq, QOp.loads, boxO, bslO, buildO, cutL, fillV, putL, w6, v6]
  refine stepC.of (specNeeds_ok _ _ ts n J (by omega) hrl) ?_
  intro lv2 H3 F3
  have J := J.ext F3.1
  have sl := F2.slt.ext F3.1
  have l1 := needsF_len ts n
  have l2 := needsF_len ts 0
  simp (maxSteps := 4000000) (disch := omega) only [ah, am, Nat.reduceEqDiff, reduceCtorEq, Nat.reduceAdd, Nat.reduceLeDiff, Nat.reduceMul, Nat.reduceLT, if_true, if_false, true_and, and_true, and_self, Nat.reduceBEq, QOp.loads, boxO, bslO, buildO, cutL, fillV, putL, w6, v6]
  refine stepC.of (sameReels_ok _ _ _ _ _ sl F3.slt (by omega) (by omega)) ?_
  rintro _ Hx ⟨hx, rfl⟩; rw [hx]; clear hx Hx
  clear F2 F3 e1
  have Rl := sl.rulesN
  by_cases hz : (needsF ts n).length = 0
  · have hz' : decide (((needsF ts n).length : Int) = 0) = true := decide_eq_true (by omega)
    simp (maxSteps := 4000000) (disch := omega) only [ah, am, Nat.reduceEqDiff, reduceCtorEq, Nat.reduceAdd, Nat.reduceLeDiff, Nat.reduceMul, Nat.reduceLT, if_true, if_false, true_and, and_true, and_self, Nat.reduceBEq, QOp.loads, boxO, bslO, buildO, cutL, fillV, putL, w6, v6, eq_self, decide_true, Bool.not_true, Rl.1, hz']
  have hz' : decide (((needsF ts n).length : Int) = 0) = false := decide_eq_false (by omega)
  by_cases h300 : (300 : Int) < (needsF ts n).length
  · simp (maxSteps := 4000000) (disch := omega) only [ah, am, Nat.reduceEqDiff, reduceCtorEq, Nat.reduceAdd, Nat.reduceLeDiff, Nat.reduceMul, Nat.reduceLT, if_true, if_false, true_and, and_true, and_self, Nat.reduceBEq, QOp.loads, boxO, bslO, buildO, cutL, fillV, putL, w6, v6, eq_self, decide_true, Bool.not_true, Rl.1, hz', decide_eq_true h300]
  simp (maxSteps := 4000000) (disch := omega) only [ah, am, Nat.reduceEqDiff, reduceCtorEq, Nat.reduceAdd, Nat.reduceLeDiff, Nat.reduceMul, Nat.reduceLT, if_true, if_false, true_and, and_true, and_self, Nat.reduceBEq, QOp.loads, boxO, bslO, buildO, cutL, fillV, putL, w6, v6, eq_self, decide_true, Bool.not_true, Rl.1, hz', decide_eq_false h300]
  refine stepC.of (Needs_ok _ _ ts 0 J (by omega) hrl) ?_
  intro pv H4 F4
  have J := J.ext F4.1
  have sl := sl.ext F4.1
  have sp := F4.slt
  have Rp := sp.rulesN
  by_cases p300 : (300 : Int) < (needsF ts 0).length
  · simp (maxSteps := 4000000) (disch := omega) only [ah, am, Nat.reduceEqDiff, reduceCtorEq, Nat.reduceAdd, Nat.reduceLeDiff, Nat.reduceMul, Nat.reduceLT, if_true, if_false, true_and, and_true, and_self, Nat.reduceBEq, QOp.loads, boxO, bslO, buildO, cutL, fillV, putL, w6, v6, Rp.1, decide_eq_true p300]
    refine stepC.of (specNeeds_ok _ _ ts 0 J (by omega) hrl) ?_
    intro pv2 H5 F5
    simp (maxSteps := 4000000) (disch := omega) only [ah, am, Nat.reduceEqDiff, reduceCtorEq, Nat.reduceAdd, Nat.reduceLeDiff, Nat.reduceMul, Nat.reduceLT, if_true, if_false, true_and, and_true, and_self, Nat.reduceBEq, QOp.loads, boxO, bslO, buildO, cutL, fillV, putL, w6, v6]
    refine stepC.of (sameReels_ok _ _ _ _ _ (sp.ext F5.1) F5.slt (by omega) (by omega)) ?_
    rintro _ Hx ⟨hx, rfl⟩; rw [hx]; clear hx Hx
    simp (maxSteps := 4000000) (disch := omega) only [ah, am, Nat.reduceEqDiff, reduceCtorEq, Nat.reduceAdd, Nat.reduceLeDiff, Nat.reduceMul, Nat.reduceLT, if_true, if_false, true_and, and_true, and_self, Nat.reduceBEq, QOp.loads, boxO, bslO, buildO, cutL, fillV, putL, w6, v6, eq_self, decide_true]
  have hok : needsOk ts n := by
    by_cases q : needsOk ts n
    · exact q
    · exfalso; apply hz; unfold needsF; rw [if_neg q]; rfl
  obtain ⟨c1, c2, c3, c4, c5⟩ := needs_law hok (by omega) (by omega)
  clear J Rl F4
  generalize needsF ts n = l at sl l1 hz h300 c1 c2 c3 c4 c5 ⊢
  generalize needsF ts 0 = p at sp Rp l2 p300 c2 c3 c5 ⊢
  simp (maxSteps := 4000000) (disch := omega) only [ah, am, Nat.reduceEqDiff, reduceCtorEq, Nat.reduceAdd, Nat.reduceLeDiff, Nat.reduceMul, Nat.reduceLT, if_true, if_false, true_and, and_true, and_self, Nat.reduceBEq, QOp.loads, boxO, bslO, buildO, cutL, fillV, putL, w6, v6, Rp.1, decide_eq_false p300]
  refine stepC.of (Covered_ok _ _ _ _ _ sl sl) ?_
  rintro _ K1 ⟨e1, rfl⟩
  have sl := sl.ext e1
  have sp := sp.ext e1
  simp (maxSteps := 4000000) (disch := omega) only [ah, am, Nat.reduceEqDiff, reduceCtorEq, Nat.reduceAdd, Nat.reduceLeDiff, Nat.reduceMul, Nat.reduceLT, if_true, if_false, true_and, and_true, and_self, Nat.reduceBEq, QOp.loads, boxO, bslO, buildO, cutL, fillV, putL, w6, v6, decide_eq_true c1]
  refine stepC.of (Covered_ok _ _ _ _ _ sp sl) ?_
  rintro _ K2 ⟨e2, rfl⟩
  have sl := sl.ext e2
  have sp := sp.ext e2
  simp (maxSteps := 4000000) (disch := omega) only [ah, am, Nat.reduceEqDiff, reduceCtorEq, Nat.reduceAdd, Nat.reduceLeDiff, Nat.reduceMul, Nat.reduceLT, if_true, if_false, true_and, and_true, and_self, Nat.reduceBEq, QOp.loads, boxO, bslO, buildO, cutL, fillV, putL, w6, v6, decide_eq_true c2]
  refine stepC.of (Missing_ok _ _ _ _ _ sp sl) ?_
  intro mv K3 F3
  have sl := sl.ext F3.1
  have sp := sp.ext F3.1
  have R3 := F3.slt.rulesN
  rw [c3] at R3
  have R31 : lenV mv = some (.int .i64 0) := R3.1
  have e4 := Ext.more K3 [[]]
  have s0 : SlT (K3.more [[]]) encReel 3 (.slice (some ⟨K3.size, 0, none⟩) 0 3) [] := (Fresh.new0 K3 encReel_len (by omega)).slt
  have sl := sl.ext e4
  have sp := sp.ext e4
  simp (maxSteps := 4000000) (disch := omega) only [ah, am, Nat.reduceEqDiff, reduceCtorEq, Nat.reduceAdd, Nat.reduceLeDiff, Nat.reduceMul, Nat.reduceLT, if_true, if_false, true_and, and_true, and_self, Nat.reduceBEq, QOp.loads, boxO, bslO, buildO, cutL, fillV, putL, w6, v6, R31, show decide ((0 : Int) = 0) = true from rfl]
  refine stepC.of (Missing_ok _ _ _ _ _ sl s0) ?_
  intro m2 K5 F5
  have hm2 := missF_len l []
  have sl := sl.ext F5.1
  have sp := sp.ext F5.1
  simp (maxSteps := 4000000) (disch := omega) only [ah, am, Nat.reduceEqDiff, reduceCtorEq, Nat.reduceAdd, Nat.reduceLeDiff, Nat.reduceMul, Nat.reduceLT, if_true, if_false, true_and, and_true, and_self, Nat.reduceBEq, QOp.loads, boxO, bslO, buildO, cutL, fillV, putL, w6, v6]
  refine stepC.of (sameReels_ok _ _ _ _ _ F5.slt sl (by omega) (by omega)) ?_
  rintro _ Hx ⟨hx, rfl⟩; rw [hx]; clear hx Hx
  simp (maxSteps := 4000000) (disch := omega) only [ah, am, Nat.reduceEqDiff, reduceCtorEq, Nat.reduceAdd, Nat.reduceLeDiff, Nat.reduceMul, Nat.reduceLT, if_true, if_false, true_and, and_true, and_self, Nat.reduceBEq, QOp.loads, boxO, bslO, buildO, cutL, fillV, putL, w6, v6, c4, eq_self, decide_true]
  have hD := missF_len l p
  refine stepC.of (Missing_ok _ _ _ _ _ sl sp) ?_
  intro m3 K6 F6
  have sl := sl.ext F6.1
  have sp := sp.ext F6.1
  simp (maxSteps := 4000000) (disch := omega) only [ah, am, Nat.reduceEqDiff, reduceCtorEq, Nat.reduceAdd, Nat.reduceLeDiff, Nat.reduceMul, Nat.reduceLT, if_true, if_false, true_and, and_true, and_self, Nat.reduceBEq, QOp.loads, boxO, bslO, buildO, cutL, fillV, putL, w6, v6]
  refine stepC.of (Missing_ok _ _ _ _ _ sl F6.slt) ?_
  intro m4 K7 F7
  have sl := sl.ext F7.1
  have sp := sp.ext F7.1
  have s7 := F7.slt
  simp (maxSteps := 4000000) (disch := omega) only [ah, am, Nat.reduceEqDiff, reduceCtorEq, Nat.reduceAdd, Nat.reduceLeDiff, Nat.reduceMul, Nat.reduceLT, if_true, if_false, true_and, and_true, and_self, Nat.reduceBEq, QOp.loads, boxO, bslO, buildO, cutL, fillV, putL, w6, v6]
  refine stepC.of (Missing_ok _ _ _ _ _ sl sp) ?_
  intro m5 K8 F8
  have sp := sp.ext F8.1
  have s7 := s7.ext F8.1
  simp (maxSteps := 4000000) (disch := omega) only [ah, am, Nat.reduceEqDiff, reduceCtorEq, Nat.reduceAdd, Nat.reduceLeDiff, Nat.reduceMul, Nat.reduceLT, if_true, if_false, true_and, and_true, and_self, Nat.reduceBEq, QOp.loads, boxO, bslO, buildO, cutL, fillV, putL, w6, v6]
  refine stepC.of (Missing_ok _ _ _ _ _ sp F8.slt) ?_
  intro m6 K9 F9
  have s7 := s7.ext F9.1
  have h7 := missF_len l (missF l p)
  have h9 := missF_len p (missF l p)
  simp (maxSteps := 4000000) (disch := omega) only [ah, am, Nat.reduceEqDiff, reduceCtorEq, Nat.reduceAdd, Nat.reduceLeDiff, Nat.reduceMul, Nat.reduceLT, if_true, if_false, true_and, and_true, and_self, Nat.reduceBEq, QOp.loads, boxO, bslO, buildO, cutL, fillV, putL, w6, v6]
  refine stepC.of (sameReels_ok _ _ _ _ _ s7 F9.slt (by omega) (by omega)) ?_
  rintro _ Hx ⟨hx, rfl⟩; rw [hx]; clear hx Hx
  simp (maxSteps := 4000000) (disch := omega) only [ah, am, Nat.reduceEqDiff, reduceCtorEq, Nat.reduceAdd, Nat.reduceLeDiff, Nat.reduceMul, Nat.reduceLT, if_true, if_false, true_and, and_true, and_self, Nat.reduceBEq, QOp.loads, boxO, bslO, buildO, cutL, fillV, putL, w6, v6, c5, eq_self, decide_true]
end Go.Proofs.Ytmippcfdakjhfaa
