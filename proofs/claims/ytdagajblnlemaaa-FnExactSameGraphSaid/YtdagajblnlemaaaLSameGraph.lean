import Derived.Test.YtdagajblnlemaaaP20
namespace Go.Proofs.Ytdagajblnlemaaa
open Go Go.Ah
set_option linter.unusedSimpArgs false
set_option linter.unusedVariables false
set_option maxRecDepth 10000
set_option maxHeartbeats 4000000
/-! 4 loop.example/g00066/laws.FnExactSameGraph: parameters 2, live [0, 1], slots [0:aA, 1:aB, 2:aA, 3:aB, 5:left, 6:w0, 7:x0, 8:x1, 9:g0] -/
def c4_0 : List SOper := [⟨some 4, .q (.mv (.c (.bool false))), none⟩]
def c4_1 : List SOper := [⟨some 5, .q (.mv (.c (.int .i64 1048576))), none⟩]
def c4_2 : List SOper := [⟨some 10, .q (.mv (.t 0)), none⟩, ⟨some 11, .q (.mv (.t 5)), none⟩, ⟨some 12, .e (.call 9 [(.t 10), (.t 11)]), none⟩, ⟨some 5, .q (.mv (.t 12)), none⟩]
def c4_3 : List SOper := [⟨some 13, .q (.mv (.t 5)), none⟩, ⟨some 14, .q (.bin .lss (.t 13) (.c (.int .i64 0))), none⟩]
def c4_4 : List SOper := [⟨some 4, .q (.mv (.c (.bool true))), none⟩]
def c4_5 : SCode := .seq (.region c4_4 [4]) .ret
def c4_6 : SCode := .cond (.t 14) c4_5 .skip
def c4_7 : SCode := .seq (.region c4_3 [0, 1, 5, 14]) c4_6
def c4_8 : List SOper := [⟨some 15, .q (.mv (.t 1)), none⟩, ⟨some 16, .q (.mv (.t 5)), none⟩, ⟨some 17, .e (.call 9 [(.t 15), (.t 16)]), none⟩, ⟨some 5, .q (.mv (.t 17)), none⟩]
def c4_9 : List SOper := [⟨some 18, .q (.mv (.t 5)), none⟩, ⟨some 19, .q (.bin .lss (.t 18) (.c (.int .i64 0))), none⟩]
def c4_10 : List SOper := [⟨some 4, .q (.mv (.c (.bool true))), none⟩]
def c4_11 : SCode := .seq (.region c4_10 [4]) .ret
def c4_12 : SCode := .cond (.t 19) c4_11 .skip
def c4_13 : SCode := .seq (.region c4_9 [0, 1, 19]) c4_12
def c4_14 : List SOper := [⟨some 20, .q (.mv (.t 0)), none⟩, ⟨some 21, .e (.call 11 [(.t 20)]), none⟩, ⟨some 22, .q (.mv (.t 1)), none⟩, ⟨some 23, .e (.call 11 [(.t 22)]), none⟩, ⟨some 24, .e (.call 16 [(.t 21), (.t 23)]), none⟩, ⟨some 6, .q (.mv (.t 24)), none⟩]
def c4_15 : List SOper := [⟨some 25, .q (.mv (.t 0)), none⟩, ⟨some 26, .e (.call 11 [(.t 25)]), none⟩, ⟨some 7, .q (.mv (.t 26)), none⟩]
def c4_16 : List SOper := [⟨some 27, .q (.mv (.t 1)), none⟩, ⟨some 28, .e (.call 11 [(.t 27)]), none⟩, ⟨some 8, .q (.mv (.t 28)), none⟩]
def c4_17 : List SOper := [⟨some 29, .q (.mv (.t 7)), none⟩, ⟨some 30, .q (.mv (.t 8)), none⟩, ⟨some 31, .e (.call 17 [(.t 29), (.t 30)]), none⟩, ⟨some 9, .q (.mv (.t 31)), none⟩]
def c4_18 : List SOper := [⟨some 32, .q (.mv (.t 9)), none⟩, ⟨some 33, .q (.mv (.t 6)), none⟩, ⟨some 34, .q (.eqb true (.t 32) (.t 33)), none⟩]
def c4_19 : List SOper := [⟨some 4, .q (.mv (.c (.bool false))), none⟩]
def c4_20 : SCode := .seq (.region c4_19 [4]) .ret
def c4_21 : SCode := .cond (.t 34) c4_20 .skip
def c4_22 : SCode := .seq (.region c4_18 [0, 1, 7, 8, 34]) c4_21
def c4_23 : List SOper := [⟨some 35, .q (.mv (.t 7)), none⟩, ⟨some 36, .q (.mv (.t 0)), none⟩, ⟨some 37, .e (.call 11 [(.t 36)]), none⟩, ⟨some 38, .e (.call 13 [(.t 35), (.t 37)]), none⟩, ⟨some 39, .q (.not (.t 38)), none⟩]
def c4_24 : List SOper := [⟨some 4, .q (.mv (.c (.bool false))), none⟩]
def c4_25 : SCode := .seq (.region c4_24 [4]) .ret
def c4_26 : SCode := .cond (.t 39) c4_25 .skip
def c4_27 : SCode := .seq (.region c4_23 [1, 8, 39]) c4_26
def c4_28 : List SOper := [⟨some 40, .q (.mv (.t 8)), none⟩, ⟨some 41, .q (.mv (.t 1)), none⟩, ⟨some 42, .e (.call 11 [(.t 41)]), none⟩, ⟨some 43, .e (.call 13 [(.t 40), (.t 42)]), none⟩, ⟨some 44, .q (.not (.t 43)), none⟩]
def c4_29 : List SOper := [⟨some 4, .q (.mv (.c (.bool false))), none⟩]
def c4_30 : SCode := .seq (.region c4_29 [4]) .ret
def c4_31 : SCode := .cond (.t 44) c4_30 .skip
def c4_32 : SCode := .seq (.region c4_28 [44]) c4_31
def c4_33 : List SOper := [⟨some 4, .q (.mv (.c (.bool true))), none⟩]
def c4_34 : SCode := .seq (.region c4_33 [4]) .ret
def c4_35 : SCode := .seq c4_32 c4_34
def c4_36 : SCode := .seq c4_27 c4_35
def c4_37 : SCode := .seq c4_22 c4_36
def c4_38 : SCode := .seq (.region c4_17 [0, 1, 6, 7, 8, 9]) c4_37
def c4_39 : SCode := .seq (.region c4_16 [0, 1, 6, 7, 8]) c4_38
def c4_40 : SCode := .seq (.region c4_15 [0, 1, 6, 7]) c4_39
def c4_41 : SCode := .seq (.region c4_14 [0, 1, 6]) c4_40
def c4_42 : SCode := .seq c4_13 c4_41
def c4_43 : SCode := .seq (.region c4_8 [0, 1, 5]) c4_42
def c4_44 : SCode := .seq c4_7 c4_43
def c4_45 : SCode := .seq (.region c4_2 [0, 1, 5]) c4_44
def c4_46 : SCode := .seq (.region c4_1 [0, 1, 5]) c4_45
def c4_47 : SCode := .seq (.region c4_0 [0, 1]) c4_46
def c4 : SCode := c4_47
theorem w4 : type_of% (And.intro (uR Try.prog c4_0.eq_1) (And.intro (uR Try.prog c4_1.eq_1) (And.intro (uR Try.prog c4_2.eq_1) (And.intro (uR Try.prog c4_3.eq_1) (And.intro (uR Try.prog c4_4.eq_1) (And.intro (uC Try.prog c4_5.eq_1) (And.intro (uC Try.prog c4_6.eq_1) (And.intro (uC Try.prog c4_7.eq_1) (And.intro (uR Try.prog c4_8.eq_1) (And.intro (uR Try.prog c4_9.eq_1) (And.intro (uR Try.prog c4_10.eq_1) (And.intro (uC Try.prog c4_11.eq_1) (And.intro (uC Try.prog c4_12.eq_1) (And.intro (uC Try.prog c4_13.eq_1) (And.intro (uR Try.prog c4_14.eq_1) (And.intro (uR Try.prog c4_15.eq_1) (And.intro (uR Try.prog c4_16.eq_1) (And.intro (uR Try.prog c4_17.eq_1) (And.intro (uR Try.prog c4_18.eq_1) (And.intro (uR Try.prog c4_19.eq_1) (And.intro (uC Try.prog c4_20.eq_1) (And.intro (uC Try.prog c4_21.eq_1) (And.intro (uC Try.prog c4_22.eq_1) (And.intro (uR Try.prog c4_23.eq_1) (And.intro (uR Try.prog c4_24.eq_1) (And.intro (uC Try.prog c4_25.eq_1) (And.intro (uC Try.prog c4_26.eq_1) (And.intro (uC Try.prog c4_27.eq_1) (And.intro (uR Try.prog c4_28.eq_1) (And.intro (uR Try.prog c4_29.eq_1) (And.intro (uC Try.prog c4_30.eq_1) (And.intro (uC Try.prog c4_31.eq_1) (And.intro (uC Try.prog c4_32.eq_1) (And.intro (uR Try.prog c4_33.eq_1) (And.intro (uC Try.prog c4_34.eq_1) (And.intro (uC Try.prog c4_35.eq_1) (And.intro (uC Try.prog c4_36.eq_1) (And.intro (uC Try.prog c4_37.eq_1) (And.intro (uC Try.prog c4_38.eq_1) (And.intro (uC Try.prog c4_39.eq_1) (And.intro (uC Try.prog c4_40.eq_1) (And.intro (uC Try.prog c4_41.eq_1) (And.intro (uC Try.prog c4_42.eq_1) (And.intro (uC Try.prog c4_43.eq_1) (And.intro (uC Try.prog c4_44.eq_1) (And.intro (uC Try.prog c4_45.eq_1) (And.intro (uC Try.prog c4_46.eq_1) (And.intro (uC Try.prog c4_47.eq_1) (uC Try.prog c4.eq_1))))))))))))))))))))))))))))))))))))))))))))))))) := (And.intro (uR Try.prog c4_0.eq_1) (And.intro (uR Try.prog c4_1.eq_1) (And.intro (uR Try.prog c4_2.eq_1) (And.intro (uR Try.prog c4_3.eq_1) (And.intro (uR Try.prog c4_4.eq_1) (And.intro (uC Try.prog c4_5.eq_1) (And.intro (uC Try.prog c4_6.eq_1) (And.intro (uC Try.prog c4_7.eq_1) (And.intro (uR Try.prog c4_8.eq_1) (And.intro (uR Try.prog c4_9.eq_1) (And.intro (uR Try.prog c4_10.eq_1) (And.intro (uC Try.prog c4_11.eq_1) (And.intro (uC Try.prog c4_12.eq_1) (And.intro (uC Try.prog c4_13.eq_1) (And.intro (uR Try.prog c4_14.eq_1) (And.intro (uR Try.prog c4_15.eq_1) (And.intro (uR Try.prog c4_16.eq_1) (And.intro (uR Try.prog c4_17.eq_1) (And.intro (uR Try.prog c4_18.eq_1) (And.intro (uR Try.prog c4_19.eq_1) (And.intro (uC Try.prog c4_20.eq_1) (And.intro (uC Try.prog c4_21.eq_1) (And.intro (uC Try.prog c4_22.eq_1) (And.intro (uR Try.prog c4_23.eq_1) (And.intro (uR Try.prog c4_24.eq_1) (And.intro (uC Try.prog c4_25.eq_1) (And.intro (uC Try.prog c4_26.eq_1) (And.intro (uC Try.prog c4_27.eq_1) (And.intro (uR Try.prog c4_28.eq_1) (And.intro (uR Try.prog c4_29.eq_1) (And.intro (uC Try.prog c4_30.eq_1) (And.intro (uC Try.prog c4_31.eq_1) (And.intro (uC Try.prog c4_32.eq_1) (And.intro (uR Try.prog c4_33.eq_1) (And.intro (uC Try.prog c4_34.eq_1) (And.intro (uC Try.prog c4_35.eq_1) (And.intro (uC Try.prog c4_36.eq_1) (And.intro (uC Try.prog c4_37.eq_1) (And.intro (uC Try.prog c4_38.eq_1) (And.intro (uC Try.prog c4_39.eq_1) (And.intro (uC Try.prog c4_40.eq_1) (And.intro (uC Try.prog c4_41.eq_1) (And.intro (uC Try.prog c4_42.eq_1) (And.intro (uC Try.prog c4_43.eq_1) (And.intro (uC Try.prog c4_44.eq_1) (And.intro (uC Try.prog c4_45.eq_1) (And.intro (uC Try.prog c4_46.eq_1) (And.intro (uC Try.prog c4_47.eq_1) (uC Try.prog c4.eq_1)))))))))))))))))))))))))))))))))))))))))))))))))
def v4 : List RV := [.t 4]
theorem s4 : slimF Try.prog Try.f4 = some (c4.bare, v4) := by kernel_rfl

theorem FnExactSameGraph_ok (h : Heap) (va : Value) (a : List Node) (vb : Value) (b : List Node) (sa : SlT h encNode 4 va a) (hla : a.length ≤ 9223372036854775807) (sb : SlT h encNode 4 vb b) (hlb : b.length ≤ 9223372036854775807) :
    ACall Try.prog 4 [va, vb] h fun r h' => r = .bool true := by
  refine ACall.of Try.func4 s4 (of_decide_eq_true rfl) ?_
  simp (maxSteps := 4000000) (disch := omega) only [ah, am, Nat.reduceEqDiff, reduceCtorEq, Nat.reduceAdd, Nat.reduceLeDiff, Nat.reduceMul, Nat.reduceLT, if_true, if_false, true_and, and_true, and_self, Nat.reduceBEq, QOp.loads, boxO, bslO, buildO, cutL, fillV, putL, w4, v4]
  refine stepC.of (szNodeS_ok _ va a (1048576) sa (by omega) (by omega) hla) ?_
  rintro _ Hx ⟨hx, rfl⟩; rw [hx]; clear hx Hx
  simp (maxSteps := 4000000) (disch := omega) only [ah, am, Nat.reduceEqDiff, reduceCtorEq, Nat.reduceAdd, Nat.reduceLeDiff, Nat.reduceMul, Nat.reduceLT, if_true, if_false, true_and, and_true, and_self, Nat.reduceBEq, QOp.loads, boxO, bslO, buildO, cutL, fillV, putL, w4, v4]
  by_cases hsz0 : (1048576 : Int) - a.length < 0
  · have hz : decide ((if (1048576 : Int) - a.length < 0 then -1 else 1048576 - (a.length : Int)) < 0) = true := by rw [if_pos hsz0]; rfl
    simp (maxSteps := 4000000) (disch := omega) only [ah, am, Nat.reduceEqDiff, reduceCtorEq, Nat.reduceAdd, Nat.reduceLeDiff, Nat.reduceMul, Nat.reduceLT, if_true, if_false, true_and, and_true, and_self, Nat.reduceBEq, QOp.loads, boxO, bslO, buildO, cutL, fillV, putL, w4, v4, hz]
  have hz0 : decide ((if (1048576 : Int) - a.length < 0 then -1 else 1048576 - (a.length : Int)) < 0) = false := by rw [if_neg hsz0]; exact decide_eq_false hsz0
  have hq0 : (if (1048576 : Int) - a.length < 0 then -1 else 1048576 - (a.length : Int)) = 1048576 - a.length := if_neg hsz0
  first | rw [hq0] at hz0 ⊢ | skip
  simp (maxSteps := 4000000) (disch := omega) only [ah, am, Nat.reduceEqDiff, reduceCtorEq, Nat.reduceAdd, Nat.reduceLeDiff, Nat.reduceMul, Nat.reduceLT, if_true, if_false, true_and, and_true, and_self, Nat.reduceBEq, QOp.loads, boxO, bslO, buildO, cutL, fillV, putL, w4, v4, hz0]
  clear hz0
  have hlla : a.length ≤ 1048576 := by omega
  refine stepC.of (szNodeS_ok _ vb b (1048576 - a.length) sb (by omega) (by omega) hlb) ?_
  rintro _ Hx ⟨hx, rfl⟩; rw [hx]; clear hx Hx
  simp (maxSteps := 4000000) (disch := omega) only [ah, am, Nat.reduceEqDiff, reduceCtorEq, Nat.reduceAdd, Nat.reduceLeDiff, Nat.reduceMul, Nat.reduceLT, if_true, if_false, true_and, and_true, and_self, Nat.reduceBEq, QOp.loads, boxO, bslO, buildO, cutL, fillV, putL, w4, v4]
  by_cases hsz1 : (1048576 - a.length : Int) - b.length < 0
  · have hz : decide ((if (1048576 - a.length : Int) - b.length < 0 then -1 else 1048576 - a.length - (b.length : Int)) < 0) = true := by rw [if_pos hsz1]; rfl
    simp (maxSteps := 4000000) (disch := omega) only [ah, am, Nat.reduceEqDiff, reduceCtorEq, Nat.reduceAdd, Nat.reduceLeDiff, Nat.reduceMul, Nat.reduceLT, if_true, if_false, true_and, and_true, and_self, Nat.reduceBEq, QOp.loads, boxO, bslO, buildO, cutL, fillV, putL, w4, v4, hz]
  have hz1 : decide ((if (1048576 - a.length : Int) - b.length < 0 then -1 else 1048576 - a.length - (b.length : Int)) < 0) = false := by rw [if_neg hsz1]; exact decide_eq_false hsz1
  have hq1 : (if (1048576 - a.length : Int) - b.length < 0 then -1 else 1048576 - a.length - (b.length : Int)) = 1048576 - a.length - b.length := if_neg hsz1
  first | rw [hq1] at hz1 ⊢ | skip
  simp (maxSteps := 4000000) (disch := omega) only [ah, am, Nat.reduceEqDiff, reduceCtorEq, Nat.reduceAdd, Nat.reduceLeDiff, Nat.reduceMul, Nat.reduceLT, if_true, if_false, true_and, and_true, and_self, Nat.reduceBEq, QOp.loads, boxO, bslO, buildO, cutL, fillV, putL, w4, v4, hz1]
  clear hz1
  have hllb : b.length ≤ 1048576 := by omega
  refine stepC.of (toNodeS_ok _ _ _ sa hlla) ?_
  intro tpa H1 Fpa
  have E1 := (show Ext h _ from Fpa.1)
  have zE1 := Fpa.1.1
  have Mpa := Fpa.mine
  simp (maxSteps := 4000000) (disch := omega) only [ah, am, Nat.reduceEqDiff, reduceCtorEq, Nat.reduceAdd, Nat.reduceLeDiff, Nat.reduceMul, Nat.reduceLT, if_true, if_false, true_and, and_true, and_self, Nat.reduceBEq, QOp.loads, boxO, bslO, buildO, cutL, fillV, putL, w4, v4]
  refine stepC.of (toNodeS_ok _ _ _ (sb.ext E1) hllb) ?_
  intro tpb H2 Fpb
  have Mpa := Mpa.ext Fpb.1
  have E2 := Ext.trans E1 Fpb.1
  have zE2 := Fpb.1.1
  have Mpb := Fpb.mine
  simp (maxSteps := 4000000) (disch := omega) only [ah, am, Nat.reduceEqDiff, reduceCtorEq, Nat.reduceAdd, Nat.reduceLeDiff, Nat.reduceMul, Nat.reduceLT, if_true, if_false, true_and, and_true, and_self, Nat.reduceBEq, QOp.loads, boxO, bslO, buildO, cutL, fillV, putL, w4, v4]
  refine stepC.of (specSameGraph_ok _ _ _ _ _ Mpa.slt Mpb.slt (by omega) (by omega)) ?_
  rintro _ H3 ⟨eH3, rfl⟩
  have Mpa := Mpa.ext eH3
  have Mpb := Mpb.ext eH3
  have E3 := Ext.trans E2 eH3
  have zE3 := eH3.1
  simp (maxSteps := 4000000) (disch := omega) only [ah, am, Nat.reduceEqDiff, reduceCtorEq, Nat.reduceAdd, Nat.reduceLeDiff, Nat.reduceMul, Nat.reduceLT, if_true, if_false, true_and, and_true, and_self, Nat.reduceBEq, QOp.loads, boxO, bslO, buildO, cutL, fillV, putL, w4, v4]
  refine stepC.of (toNodeS_ok _ _ _ (sa.ext E3) hlla) ?_
  intro txa H4 Fxa
  have E4 := Ext.trans E3 Fxa.1
  have zE4 := Fxa.1.1
  have Mxa := Fxa.mine
  simp (maxSteps := 4000000) (disch := omega) only [ah, am, Nat.reduceEqDiff, reduceCtorEq, Nat.reduceAdd, Nat.reduceLeDiff, Nat.reduceMul, Nat.reduceLT, if_true, if_false, true_and, and_true, and_self, Nat.reduceBEq, QOp.loads, boxO, bslO, buildO, cutL, fillV, putL, w4, v4]
  refine stepC.of (toNodeS_ok _ _ _ (sb.ext E4) hllb) ?_
  intro txb H5 Fxb
  have Mxa := Mxa.ext Fxb.1
  have E5 := Ext.trans E4 Fxb.1
  have zE5 := Fxb.1.1
  have Mxb := Fxb.mine
  simp (maxSteps := 4000000) (disch := omega) only [ah, am, Nat.reduceEqDiff, reduceCtorEq, Nat.reduceAdd, Nat.reduceLeDiff, Nat.reduceMul, Nat.reduceLT, if_true, if_false, true_and, and_true, and_self, Nat.reduceBEq, QOp.loads, boxO, bslO, buildO, cutL, fillV, putL, w4, v4]
  refine stepC.of (implSameGraph_ok _ _ _ _ _ Mxa.slt Mxb.slt (by omega) (by omega)) ?_
  rintro _ H6 ⟨eH6, rfl⟩
  have Mxa := Mxa.ext eH6
  have Mxb := Mxb.ext eH6
  have E6 := Ext.trans E5 eH6
  have zE6 := eH6.1
  simp (maxSteps := 4000000) (disch := omega) only [ah, am, Nat.reduceEqDiff, reduceCtorEq, Nat.reduceAdd, Nat.reduceLeDiff, Nat.reduceMul, Nat.reduceLT, if_true, if_false, true_and, and_true, and_self, Nat.reduceBEq, QOp.loads, boxO, bslO, buildO, cutL, fillV, putL, w4, v4, eq_self, decide_true, beq_self_eq_true, eqbV_bool']
  refine stepC.of (toNodeS_ok _ _ _ (sa.ext E6) hlla) ?_
  intro tya H7 Fya
  have Mxa := Mxa.ext Fya.1
  have Mxb := Mxb.ext Fya.1
  have E7 := Ext.trans E6 Fya.1
  have zE7 := Fya.1.1
  have Mya := Fya.mine
  simp (maxSteps := 4000000) (disch := omega) only [ah, am, Nat.reduceEqDiff, reduceCtorEq, Nat.reduceAdd, Nat.reduceLeDiff, Nat.reduceMul, Nat.reduceLT, if_true, if_false, true_and, and_true, and_self, Nat.reduceBEq, QOp.loads, boxO, bslO, buildO, cutL, fillV, putL, w4, v4]
  refine stepC.of (eqNodeS_ok _ _ _ _ Mxa.slt Mya.slt (by omega)) ?_
  rintro _ H8 ⟨eH8, rfl⟩
  have Mxa := Mxa.ext eH8
  have Mxb := Mxb.ext eH8
  have Mya := Mya.ext eH8
  have E8 := Ext.trans E7 eH8
  have zE8 := eH8.1
  simp (maxSteps := 4000000) (disch := omega) only [ah, am, Nat.reduceEqDiff, reduceCtorEq, Nat.reduceAdd, Nat.reduceLeDiff, Nat.reduceMul, Nat.reduceLT, if_true, if_false, true_and, and_true, and_self, Nat.reduceBEq, QOp.loads, boxO, bslO, buildO, cutL, fillV, putL, w4, v4, eq_self, decide_true]
  refine stepC.of (toNodeS_ok _ _ _ (sb.ext E8) hllb) ?_
  intro tyb H9 Fyb
  have Mxa := Mxa.ext Fyb.1
  have Mxb := Mxb.ext Fyb.1
  have E9 := Ext.trans E8 Fyb.1
  have zE9 := Fyb.1.1
  have Myb := Fyb.mine
  simp (maxSteps := 4000000) (disch := omega) only [ah, am, Nat.reduceEqDiff, reduceCtorEq, Nat.reduceAdd, Nat.reduceLeDiff, Nat.reduceMul, Nat.reduceLT, if_true, if_false, true_and, and_true, and_self, Nat.reduceBEq, QOp.loads, boxO, bslO, buildO, cutL, fillV, putL, w4, v4]
  refine stepC.of (eqNodeS_ok _ _ _ _ Mxb.slt Myb.slt (by omega)) ?_
  rintro _ H10 ⟨eH10, rfl⟩
  have Mxa := Mxa.ext eH10
  have Mxb := Mxb.ext eH10
  have Myb := Myb.ext eH10
  have E10 := Ext.trans E9 eH10
  have zE10 := eH10.1
  simp (maxSteps := 4000000) (disch := omega) only [ah, am, Nat.reduceEqDiff, reduceCtorEq, Nat.reduceAdd, Nat.reduceLeDiff, Nat.reduceMul, Nat.reduceLT, if_true, if_false, true_and, and_true, and_self, Nat.reduceBEq, QOp.loads, boxO, bslO, buildO, cutL, fillV, putL, w4, v4, eq_self, decide_true]
end Go.Proofs.Ytdagajblnlemaaa
