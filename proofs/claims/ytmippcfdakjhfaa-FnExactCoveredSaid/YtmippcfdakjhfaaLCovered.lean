import Derived.Test.YtmippcfdakjhfaaG1
import Derived.Test.YtmippcfdakjhfaaG13
namespace Go.Proofs.Ytmippcfdakjhfaa
open Go Go.Ah
set_option linter.unusedSimpArgs false
set_option linter.unusedVariables false
set_option maxRecDepth 10000
set_option maxHeartbeats 4000000
/-! 3 loop.example/g00066/laws.FnExactCovered: parameters 2, live [0, 1], slots [0:aNeeds, 1:aHave, 2:aNeeds, 3:aHave, 5:left, 6:w0, 7:x0, 8:x1, 9:g0] -/
def c3_0 : List SOper := [⟨some 4, .q (.mv (.c (.bool false))), none⟩]
def c3_1 : List SOper := [⟨some 5, .q (.mv (.c (.int .i64 1048576))), none⟩]
def c3_2 : List SOper := [⟨some 10, .q (.mv (.t 0)), none⟩, ⟨some 11, .q (.mv (.t 5)), none⟩, ⟨some 12, .e (.call 8 [(.t 10), (.t 11)]), none⟩, ⟨some 5, .q (.mv (.t 12)), none⟩]
def c3_3 : List SOper := [⟨some 13, .q (.mv (.t 5)), none⟩, ⟨some 14, .q (.bin .lss (.t 13) (.c (.int .i64 0))), none⟩]
def c3_4 : List SOper := [⟨some 4, .q (.mv (.c (.bool true))), none⟩]
def c3_5 : SCode := .seq (.region c3_4 [4]) .ret
def c3_6 : SCode := .cond (.t 14) c3_5 .skip
def c3_7 : SCode := .seq (.region c3_3 [0, 1, 5, 14]) c3_6
def c3_8 : List SOper := [⟨some 15, .q (.mv (.t 1)), none⟩, ⟨some 16, .q (.mv (.t 5)), none⟩, ⟨some 17, .e (.call 8 [(.t 15), (.t 16)]), none⟩, ⟨some 5, .q (.mv (.t 17)), none⟩]
def c3_9 : List SOper := [⟨some 18, .q (.mv (.t 5)), none⟩, ⟨some 19, .q (.bin .lss (.t 18) (.c (.int .i64 0))), none⟩]
def c3_10 : List SOper := [⟨some 4, .q (.mv (.c (.bool true))), none⟩]
def c3_11 : SCode := .seq (.region c3_10 [4]) .ret
def c3_12 : SCode := .cond (.t 19) c3_11 .skip
def c3_13 : SCode := .seq (.region c3_9 [0, 1, 19]) c3_12
def c3_14 : List SOper := [⟨some 20, .q (.mv (.t 0)), none⟩, ⟨some 21, .e (.call 10 [(.t 20)]), none⟩, ⟨some 22, .q (.mv (.t 1)), none⟩, ⟨some 23, .e (.call 10 [(.t 22)]), none⟩, ⟨some 24, .e (.call 9 [(.t 21), (.t 23)]), none⟩, ⟨some 6, .q (.mv (.t 24)), none⟩]
def c3_15 : List SOper := [⟨some 25, .q (.mv (.t 0)), none⟩, ⟨some 26, .e (.call 10 [(.t 25)]), none⟩, ⟨some 7, .q (.mv (.t 26)), none⟩]
def c3_16 : List SOper := [⟨some 27, .q (.mv (.t 1)), none⟩, ⟨some 28, .e (.call 10 [(.t 27)]), none⟩, ⟨some 8, .q (.mv (.t 28)), none⟩]
def c3_17 : List SOper := [⟨some 29, .q (.mv (.t 7)), none⟩, ⟨some 30, .q (.mv (.t 8)), none⟩, ⟨some 31, .e (.call 11 [(.t 29), (.t 30)]), none⟩, ⟨some 9, .q (.mv (.t 31)), none⟩]
def c3_18 : List SOper := [⟨some 32, .q (.mv (.t 9)), none⟩, ⟨some 33, .q (.mv (.t 6)), none⟩, ⟨some 34, .q (.eqb true (.t 32) (.t 33)), none⟩]
def c3_19 : List SOper := [⟨some 4, .q (.mv (.c (.bool false))), none⟩]
def c3_20 : SCode := .seq (.region c3_19 [4]) .ret
def c3_21 : SCode := .cond (.t 34) c3_20 .skip
def c3_22 : SCode := .seq (.region c3_18 [0, 1, 7, 8, 34]) c3_21
def c3_23 : List SOper := [⟨some 35, .q (.mv (.t 7)), none⟩, ⟨some 36, .q (.mv (.t 0)), none⟩, ⟨some 37, .e (.call 10 [(.t 36)]), none⟩, ⟨some 38, .e (.call 12 [(.t 35), (.t 37)]), none⟩, ⟨some 39, .q (.not (.t 38)), none⟩]
def c3_24 : List SOper := [⟨some 4, .q (.mv (.c (.bool false))), none⟩]
def c3_25 : SCode := .seq (.region c3_24 [4]) .ret
def c3_26 : SCode := .cond (.t 39) c3_25 .skip
def c3_27 : SCode := .seq (.region c3_23 [1, 8, 39]) c3_26
def c3_28 : List SOper := [⟨some 40, .q (.mv (.t 8)), none⟩, ⟨some 41, .q (.mv (.t 1)), none⟩, ⟨some 42, .e (.call 10 [(.t 41)]), none⟩, ⟨some 43, .e (.call 12 [(.t 40), (.t 42)]), none⟩, ⟨some 44, .q (.not (.t 43)), none⟩]
def c3_29 : List SOper := [⟨some 4, .q (.mv (.c (.bool false))), none⟩]
def c3_30 : SCode := .seq (.region c3_29 [4]) .ret
def c3_31 : SCode := .cond (.t 44) c3_30 .skip
def c3_32 : SCode := .seq (.region c3_28 [44]) c3_31
def c3_33 : List SOper := [⟨some 4, .q (.mv (.c (.bool true))), none⟩]
def c3_34 : SCode := .seq (.region c3_33 [4]) .ret
def c3_35 : SCode := .seq c3_32 c3_34
def c3_36 : SCode := .seq c3_27 c3_35
def c3_37 : SCode := .seq c3_22 c3_36
def c3_38 : SCode := .seq (.region c3_17 [0, 1, 6, 7, 8, 9]) c3_37
def c3_39 : SCode := .seq (.region c3_16 [0, 1, 6, 7, 8]) c3_38
def c3_40 : SCode := .seq (.region c3_15 [0, 1, 6, 7]) c3_39
def c3_41 : SCode := .seq (.region c3_14 [0, 1, 6]) c3_40
def c3_42 : SCode := .seq c3_13 c3_41
def c3_43 : SCode := .seq (.region c3_8 [0, 1, 5]) c3_42
def c3_44 : SCode := .seq c3_7 c3_43
def c3_45 : SCode := .seq (.region c3_2 [0, 1, 5]) c3_44
def c3_46 : SCode := .seq (.region c3_1 [0, 1, 5]) c3_45
def c3_47 : SCode := .seq (.region c3_0 [0, 1]) c3_46
def c3 : SCode := c3_47
theorem w3 : type_of% (And.intro (uR Try.prog c3_0.eq_1) (And.intro (uR Try.prog c3_1.eq_1) (And.intro (uR Try.prog c3_2.eq_1) (And.intro (uR Try.prog c3_3.eq_1) (And.intro (uR Try.prog c3_4.eq_1) (And.intro (uC Try.prog c3_5.eq_1) (And.intro (uC Try.prog c3_6.eq_1) (And.intro (uC Try.prog c3_7.eq_1) (And.intro (uR Try.prog c3_8.eq_1) (And.intro (uR Try.prog c3_9.eq_1) (And.intro (uR Try.prog c3_10.eq_1) (And.intro (uC Try.prog c3_11.eq_1) (And.intro (uC Try.prog c3_12.eq_1) (And.intro (uC Try.prog c3_13.eq_1) (And.intro (uR Try.prog c3_14.eq_1) (And.intro (uR Try.prog c3_15.eq_1) (And.intro (uR Try.prog c3_16.eq_1) (And.intro (uR Try.prog c3_17.eq_1) (And.intro (uR Try.prog c3_18.eq_1) (And.intro (uR Try.prog c3_19.eq_1) (And.intro (uC Try.prog c3_20.eq_1) (And.intro (uC Try.prog c3_21.eq_1) (And.intro (uC Try.prog c3_22.eq_1) (And.intro (uR Try.prog c3_23.eq_1) (And.intro (uR Try.prog c3_24.eq_1) (And.intro (uC Try.prog c3_25.eq_1) (And.intro (uC Try.prog c3_26.eq_1) (And.intro (uC Try.prog c3_27.eq_1) (And.intro (uR Try.prog c3_28.eq_1) (And.intro (uR Try.prog c3_29.eq_1) (And.intro (uC Try.prog c3_30.eq_1) (And.intro (uC Try.prog c3_31.eq_1) (And.intro (uC Try.prog c3_32.eq_1) (And.intro (uR Try.prog c3_33.eq_1) (And.intro (uC Try.prog c3_34.eq_1) (And.intro (uC Try.prog c3_35.eq_1) (And.intro (uC Try.prog c3_36.eq_1) (And.intro (uC Try.prog c3_37.eq_1) (And.intro (uC Try.prog c3_38.eq_1) (And.intro (uC Try.prog c3_39.eq_1) (And.intro (uC Try.prog c3_40.eq_1) (And.intro (uC Try.prog c3_41.eq_1) (And.intro (uC Try.prog c3_42.eq_1) (And.intro (uC Try.prog c3_43.eq_1) (And.intro (uC Try.prog c3_44.eq_1) (And.intro (uC Try.prog c3_45.eq_1) (And.intro (uC Try.prog c3_46.eq_1) (And.intro (uC Try.prog c3_47.eq_1) (uC Try.prog c3.eq_1))))))))))))))))))))))))))))))))))))))))))))))))) := (And.intro (uR Try.prog c3_0.eq_1) (And.intro (uR Try.prog c3_1.eq_1) (And.intro (uR Try.prog c3_2.eq_1) (And.intro (uR Try.prog c3_3.eq_1) (And.intro (uR Try.prog c3_4.eq_1) (And.intro (uC Try.prog c3_5.eq_1) (And.intro (uC Try.prog c3_6.eq_1) (And.intro (uC Try.prog c3_7.eq_1) (And.intro (uR Try.prog c3_8.eq_1) (And.intro (uR Try.prog c3_9.eq_1) (And.intro (uR Try.prog c3_10.eq_1) (And.intro (uC Try.prog c3_11.eq_1) (And.intro (uC Try.prog c3_12.eq_1) (And.intro (uC Try.prog c3_13.eq_1) (And.intro (uR Try.prog c3_14.eq_1) (And.intro (uR Try.prog c3_15.eq_1) (And.intro (uR Try.prog c3_16.eq_1) (And.intro (uR Try.prog c3_17.eq_1) (And.intro (uR Try.prog c3_18.eq_1) (And.intro (uR Try.prog c3_19.eq_1) (And.intro (uC Try.prog c3_20.eq_1) (And.intro (uC Try.prog c3_21.eq_1) (And.intro (uC Try.prog c3_22.eq_1) (And.intro (uR Try.prog c3_23.eq_1) (And.intro (uR Try.prog c3_24.eq_1) (And.intro (uC Try.prog c3_25.eq_1) (And.intro (uC Try.prog c3_26.eq_1) (And.intro (uC Try.prog c3_27.eq_1) (And.intro (uR Try.prog c3_28.eq_1) (And.intro (uR Try.prog c3_29.eq_1) (And.intro (uC Try.prog c3_30.eq_1) (And.intro (uC Try.prog c3_31.eq_1) (And.intro (uC Try.prog c3_32.eq_1) (And.intro (uR Try.prog c3_33.eq_1) (And.intro (uC Try.prog c3_34.eq_1) (And.intro (uC Try.prog c3_35.eq_1) (And.intro (uC Try.prog c3_36.eq_1) (And.intro (uC Try.prog c3_37.eq_1) (And.intro (uC Try.prog c3_38.eq_1) (And.intro (uC Try.prog c3_39.eq_1) (And.intro (uC Try.prog c3_40.eq_1) (And.intro (uC Try.prog c3_41.eq_1) (And.intro (uC Try.prog c3_42.eq_1) (And.intro (uC Try.prog c3_43.eq_1) (And.intro (uC Try.prog c3_44.eq_1) (And.intro (uC Try.prog c3_45.eq_1) (And.intro (uC Try.prog c3_46.eq_1) (And.intro (uC Try.prog c3_47.eq_1) (uC Try.prog c3.eq_1)))))))))))))))))))))))))))))))))))))))))))))))))
def v3 : List RV := [.t 4]
theorem s3 : slimF Try.prog Try.f3 = some (c3.bare, v3) := by kernel_rfl

theorem FnExactCovered_ok (h : Heap) (va : Value) (a : List Reel) (vb : Value) (b : List Reel) (sa : SlT h encReel 3 va a) (hla : a.length ≤ 9223372036854775807) (sb : SlT h encReel 3 vb b) (hlb : b.length ≤ 9223372036854775807) :
    ACall Try.prog 3 [va, vb] h fun r h' => r = .bool true := by
  refine ACall.of Try.func3 s3 (of_decide_eq_true rfl) ?_
  simp (maxSteps := 4000000) (disch := omega) only [ah, am, Nat.reduceEqDiff, reduceCtorEq, Nat.reduceAdd, Nat.reduceLeDiff, Nat.reduceMul, Nat.reduceLT, if_true, if_false, true_and, and_true, and_self, Nat.reduceBEq, QOp.loads, boxO, bslO, buildO, cutL, fillV, putL, w3, v3]
  refine stepC.of (szReelS_ok _ va a (1048576) sa (by omega) (by omega) hla) ?_
  rintro _ Hx ⟨hx, rfl⟩; rw [hx]; clear hx Hx
  simp (maxSteps := 4000000) (disch := omega) only [ah, am, Nat.reduceEqDiff, reduceCtorEq, Nat.reduceAdd, Nat.reduceLeDiff, Nat.reduceMul, Nat.reduceLT, if_true, if_false, true_and, and_true, and_self, Nat.reduceBEq, QOp.loads, boxO, bslO, buildO, cutL, fillV, putL, w3, v3]
  by_cases hsz0 : (1048576 : Int) - a.length < 0
  · have hz : decide ((if (1048576 : Int) - a.length < 0 then -1 else 1048576 - (a.length : Int)) < 0) = true := by rw [if_pos hsz0]; rfl
    simp (maxSteps := 4000000) (disch := omega) only [ah, am, Nat.reduceEqDiff, reduceCtorEq, Nat.reduceAdd, Nat.reduceLeDiff, Nat.reduceMul, Nat.reduceLT, if_true, if_false, true_and, and_true, and_self, Nat.reduceBEq, QOp.loads, boxO, bslO, buildO, cutL, fillV, putL, w3, v3, hz]
  have hz0 : decide ((if (1048576 : Int) - a.length < 0 then -1 else 1048576 - (a.length : Int)) < 0) = false := by rw [if_neg hsz0]; exact decide_eq_false hsz0
  have hq0 : (if (1048576 : Int) - a.length < 0 then -1 else 1048576 - (a.length : Int)) = 1048576 - a.length := if_neg hsz0
  first | rw [hq0] at hz0 ⊢ | skip
  simp (maxSteps := 4000000) (disch := omega) only [ah, am, Nat.reduceEqDiff, reduceCtorEq, Nat.reduceAdd, Nat.reduceLeDiff, Nat.reduceMul, Nat.reduceLT, if_true, if_false, true_and, and_true, and_self, Nat.reduceBEq, QOp.loads, boxO, bslO, buildO, cutL, fillV, putL, w3, v3, hz0]
  clear hz0
  have hlla : a.length ≤ 1048576 := by omega
  refine stepC.of (szReelS_ok _ vb b (1048576 - a.length) sb (by omega) (by omega) hlb) ?_
  rintro _ Hx ⟨hx, rfl⟩; rw [hx]; clear hx Hx
  simp (maxSteps := 4000000) (disch := omega) only [ah, am, Nat.reduceEqDiff, reduceCtorEq, Nat.reduceAdd, Nat.reduceLeDiff, Nat.reduceMul, Nat.reduceLT, if_true, if_false, true_and, and_true, and_self, Nat.reduceBEq, QOp.loads, boxO, bslO, buildO, cutL, fillV, putL, w3, v3]
  by_cases hsz1 : (1048576 - a.length : Int) - b.length < 0
  · have hz : decide ((if (1048576 - a.length : Int) - b.length < 0 then -1 else 1048576 - a.length - (b.length : Int)) < 0) = true := by rw [if_pos hsz1]; rfl
    simp (maxSteps := 4000000) (disch := omega) only [ah, am, Nat.reduceEqDiff, reduceCtorEq, Nat.reduceAdd, Nat.reduceLeDiff, Nat.reduceMul, Nat.reduceLT, if_true, if_false, true_and, and_true, and_self, Nat.reduceBEq, QOp.loads, boxO, bslO, buildO, cutL, fillV, putL, w3, v3, hz]
  have hz1 : decide ((if (1048576 - a.length : Int) - b.length < 0 then -1 else 1048576 - a.length - (b.length : Int)) < 0) = false := by rw [if_neg hsz1]; exact decide_eq_false hsz1
  have hq1 : (if (1048576 - a.length : Int) - b.length < 0 then -1 else 1048576 - a.length - (b.length : Int)) = 1048576 - a.length - b.length := if_neg hsz1
  first | rw [hq1] at hz1 ⊢ | skip
  simp (maxSteps := 4000000) (disch := omega) only [ah, am, Nat.reduceEqDiff, reduceCtorEq, Nat.reduceAdd, Nat.reduceLeDiff, Nat.reduceMul, Nat.reduceLT, if_true, if_false, true_and, and_true, and_self, Nat.reduceBEq, QOp.loads, boxO, bslO, buildO, cutL, fillV, putL, w3, v3, hz1]
  clear hz1
  have hllb : b.length ≤ 1048576 := by omega
  refine stepC.of (toReelS_ok _ _ _ sa hlla) ?_
  intro tpa H1 Fpa
  have E1 := (show Ext h _ from Fpa.1)
  have zE1 := Fpa.1.1
  have Mpa := Fpa.mine
  simp (maxSteps := 4000000) (disch := omega) only [ah, am, Nat.reduceEqDiff, reduceCtorEq, Nat.reduceAdd, Nat.reduceLeDiff, Nat.reduceMul, Nat.reduceLT, if_true, if_false, true_and, and_true, and_self, Nat.reduceBEq, QOp.loads, boxO, bslO, buildO, cutL, fillV, putL, w3, v3]
  refine stepC.of (toReelS_ok _ _ _ (sb.ext E1) hllb) ?_
  intro tpb H2 Fpb
  have Mpa := Mpa.ext Fpb.1
  have E2 := Ext.trans E1 Fpb.1
  have zE2 := Fpb.1.1
  have Mpb := Fpb.mine
  simp (maxSteps := 4000000) (disch := omega) only [ah, am, Nat.reduceEqDiff, reduceCtorEq, Nat.reduceAdd, Nat.reduceLeDiff, Nat.reduceMul, Nat.reduceLT, if_true, if_false, true_and, and_true, and_self, Nat.reduceBEq, QOp.loads, boxO, bslO, buildO, cutL, fillV, putL, w3, v3]
  refine stepC.of (specCovered_ok _ _ _ a b Mpa.slt Mpb.slt) ?_
  rintro _ H3 ⟨eH3, rfl⟩
  have Mpa := Mpa.ext eH3
  have Mpb := Mpb.ext eH3
  have E3 := Ext.trans E2 eH3
  have zE3 := eH3.1
  simp (maxSteps := 4000000) (disch := omega) only [ah, am, Nat.reduceEqDiff, reduceCtorEq, Nat.reduceAdd, Nat.reduceLeDiff, Nat.reduceMul, Nat.reduceLT, if_true, if_false, true_and, and_true, and_self, Nat.reduceBEq, QOp.loads, boxO, bslO, buildO, cutL, fillV, putL, w3, v3]
  refine stepC.of (toReelS_ok _ _ _ (sa.ext E3) hlla) ?_
  intro txa H4 Fxa
  have E4 := Ext.trans E3 Fxa.1
  have zE4 := Fxa.1.1
  have Mxa := Fxa.mine
  simp (maxSteps := 4000000) (disch := omega) only [ah, am, Nat.reduceEqDiff, reduceCtorEq, Nat.reduceAdd, Nat.reduceLeDiff, Nat.reduceMul, Nat.reduceLT, if_true, if_false, true_and, and_true, and_self, Nat.reduceBEq, QOp.loads, boxO, bslO, buildO, cutL, fillV, putL, w3, v3]
  refine stepC.of (toReelS_ok _ _ _ (sb.ext E4) hllb) ?_
  intro txb H5 Fxb
  have Mxa := Mxa.ext Fxb.1
  have E5 := Ext.trans E4 Fxb.1
  have zE5 := Fxb.1.1
  have Mxb := Fxb.mine
  simp (maxSteps := 4000000) (disch := omega) only [ah, am, Nat.reduceEqDiff, reduceCtorEq, Nat.reduceAdd, Nat.reduceLeDiff, Nat.reduceMul, Nat.reduceLT, if_true, if_false, true_and, and_true, and_self, Nat.reduceBEq, QOp.loads, boxO, bslO, buildO, cutL, fillV, putL, w3, v3]
  refine stepC.of (Covered_ok _ _ _ a b Mxa.slt Mxb.slt) ?_
  rintro _ H6 ⟨eH6, rfl⟩
  have Mxa := Mxa.ext eH6
  have Mxb := Mxb.ext eH6
  have E6 := Ext.trans E5 eH6
  have zE6 := eH6.1
  simp (maxSteps := 4000000) (disch := omega) only [ah, am, Nat.reduceEqDiff, reduceCtorEq, Nat.reduceAdd, Nat.reduceLeDiff, Nat.reduceMul, Nat.reduceLT, if_true, if_false, true_and, and_true, and_self, Nat.reduceBEq, QOp.loads, boxO, bslO, buildO, cutL, fillV, putL, w3, v3, eq_self, decide_true, beq_self_eq_true, eqbV_bool']
  refine stepC.of (toReelS_ok _ _ _ (sa.ext E6) hlla) ?_
  intro tya H7 Fya
  have Mxa := Mxa.ext Fya.1
  have Mxb := Mxb.ext Fya.1
  have E7 := Ext.trans E6 Fya.1
  have zE7 := Fya.1.1
  have Mya := Fya.mine
  simp (maxSteps := 4000000) (disch := omega) only [ah, am, Nat.reduceEqDiff, reduceCtorEq, Nat.reduceAdd, Nat.reduceLeDiff, Nat.reduceMul, Nat.reduceLT, if_true, if_false, true_and, and_true, and_self, Nat.reduceBEq, QOp.loads, boxO, bslO, buildO, cutL, fillV, putL, w3, v3]
  refine stepC.of (eqReelS_ok _ _ _ _ _ Mxa.slt Mya.slt (by omega) (by omega)) ?_
  rintro _ H8 ⟨eH8, rfl⟩
  have Mxa := Mxa.ext eH8
  have Mxb := Mxb.ext eH8
  have Mya := Mya.ext eH8
  have E8 := Ext.trans E7 eH8
  have zE8 := eH8.1
  simp (maxSteps := 4000000) (disch := omega) only [ah, am, Nat.reduceEqDiff, reduceCtorEq, Nat.reduceAdd, Nat.reduceLeDiff, Nat.reduceMul, Nat.reduceLT, if_true, if_false, true_and, and_true, and_self, Nat.reduceBEq, QOp.loads, boxO, bslO, buildO, cutL, fillV, putL, w3, v3, eq_self, decide_true]
  refine stepC.of (toReelS_ok _ _ _ (sb.ext E8) hllb) ?_
  intro tyb H9 Fyb
  have Mxa := Mxa.ext Fyb.1
  have Mxb := Mxb.ext Fyb.1
  have E9 := Ext.trans E8 Fyb.1
  have zE9 := Fyb.1.1
  have Myb := Fyb.mine
  simp (maxSteps := 4000000) (disch := omega) only [ah, am, Nat.reduceEqDiff, reduceCtorEq, Nat.reduceAdd, Nat.reduceLeDiff, Nat.reduceMul, Nat.reduceLT, if_true, if_false, true_and, and_true, and_self, Nat.reduceBEq, QOp.loads, boxO, bslO, buildO, cutL, fillV, putL, w3, v3]
  refine stepC.of (eqReelS_ok _ _ _ _ _ Mxb.slt Myb.slt (by omega) (by omega)) ?_
  rintro _ H10 ⟨eH10, rfl⟩
  have Mxa := Mxa.ext eH10
  have Mxb := Mxb.ext eH10
  have Myb := Myb.ext eH10
  have E10 := Ext.trans E9 eH10
  have zE10 := eH10.1
  simp (maxSteps := 4000000) (disch := omega) only [ah, am, Nat.reduceEqDiff, reduceCtorEq, Nat.reduceAdd, Nat.reduceLeDiff, Nat.reduceMul, Nat.reduceLT, if_true, if_false, true_and, and_true, and_self, Nat.reduceBEq, QOp.loads, boxO, bslO, buildO, cutL, fillV, putL, w3, v3, eq_self, decide_true]
end Go.Proofs.Ytmippcfdakjhfaa
