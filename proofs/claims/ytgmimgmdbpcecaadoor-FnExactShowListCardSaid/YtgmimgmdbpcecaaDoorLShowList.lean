import Derived.Test.YtgmimgmdbpcecaaDoorR9
namespace Go.Proofs.YtgmimgmdbpcecaaDoor
open Go Go.Ah
set_option linter.unusedSimpArgs false
set_option linter.unusedVariables false
set_option maxRecDepth 10000
set_option maxHeartbeats 4000000
/-! 3 loop.example/g00066/laws.FnExactShowList: parameters 2, live [0, 1], slots [0:aR, 1:aTrack, 2:aR, 3:aTrack, 5:left, 6:w0, 7:x1, 8:g0] -/
def c3_0 : List SOper := [⟨some 2, .a (.box (.t 0)), none⟩, ⟨some 4, .q (.mv (.c (.bool false))), none⟩]
def c3_1 : List SOper := [⟨some 5, .q (.mv (.c (.int .i64 1048576))), none⟩]
def c3_2 : List SOper := [⟨some 9, .q (.mv (.t 1)), none⟩, ⟨some 10, .q (.mv (.t 5)), none⟩, ⟨some 11, .e (.call 4 [(.t 9), (.t 10)]), none⟩, ⟨some 5, .q (.mv (.t 11)), none⟩]
def c3_3 : List SOper := [⟨some 12, .q (.mv (.t 5)), none⟩, ⟨some 13, .q (.bin .lss (.t 12) (.c (.int .i64 0))), none⟩]
def c3_4 : List SOper := [⟨some 4, .q (.mv (.c (.bool true))), none⟩]
def c3_5 : SCode := .seq (.region c3_4 [4]) .ret
def c3_6 : SCode := .cond (.t 13) c3_5 .skip
def c3_7 : SCode := .seq (.region c3_3 [1, 2, 13]) c3_6
def c3_8 : List SOper := [⟨some 14, .q (.ldn 3 (.t 2)), none⟩, ⟨some 15, .e (.call 6 [(.t 14)]), none⟩, ⟨some 16, .q (.mv (.t 1)), none⟩, ⟨some 17, .e (.call 7 [(.t 16)]), none⟩, ⟨some 18, .e (.call 5 [(.t 15), (.t 17)]), none⟩, ⟨some 6, .q (.mv (.t 18)), none⟩]
def c3_9 : List SOper := [⟨some 19, .q (.mv (.t 1)), none⟩, ⟨some 20, .e (.call 7 [(.t 19)]), none⟩, ⟨some 7, .q (.mv (.t 20)), none⟩]
def c3_10 : List SOper := [⟨some 21, .q (.ldn 3 (.t 2)), none⟩, ⟨some 22, .e (.call 6 [(.t 21)]), none⟩, ⟨some 23, .q (.mv (.t 7)), none⟩, ⟨some 24, .e (.call 8 [(.t 22), (.t 23)]), none⟩, ⟨some 8, .q (.mv (.t 24)), none⟩]
def c3_11 : List SOper := [⟨some 25, .q (.mv (.t 8)), none⟩, ⟨some 26, .q (.mv (.t 6)), none⟩, ⟨some 27, .q (.bin .neq (.t 25) (.t 26)), none⟩]
def c3_12 : List SOper := [⟨some 4, .q (.mv (.c (.bool false))), none⟩]
def c3_13 : SCode := .seq (.region c3_12 [4]) .ret
def c3_14 : SCode := .cond (.t 27) c3_13 .skip
def c3_15 : SCode := .seq (.region c3_11 [1, 7, 27]) c3_14
def c3_16 : List SOper := [⟨some 28, .q (.mv (.t 7)), none⟩, ⟨some 29, .q (.mv (.t 1)), none⟩, ⟨some 30, .e (.call 7 [(.t 29)]), none⟩, ⟨some 31, .e (.call 9 [(.t 28), (.t 30)]), none⟩, ⟨some 32, .q (.not (.t 31)), none⟩]
def c3_17 : List SOper := [⟨some 4, .q (.mv (.c (.bool false))), none⟩]
def c3_18 : SCode := .seq (.region c3_17 [4]) .ret
def c3_19 : SCode := .cond (.t 32) c3_18 .skip
def c3_20 : SCode := .seq (.region c3_16 [32]) c3_19
def c3_21 : List SOper := [⟨some 4, .q (.mv (.c (.bool true))), none⟩]
def c3_22 : SCode := .seq (.region c3_21 [4]) .ret
def c3_23 : SCode := .seq c3_20 c3_22
def c3_24 : SCode := .seq c3_15 c3_23
def c3_25 : SCode := .seq (.region c3_10 [1, 6, 7, 8]) c3_24
def c3_26 : SCode := .seq (.region c3_9 [1, 2, 6, 7]) c3_25
def c3_27 : SCode := .seq (.region c3_8 [1, 2, 6]) c3_26
def c3_28 : SCode := .seq c3_7 c3_27
def c3_29 : SCode := .seq (.region c3_2 [1, 2, 5]) c3_28
def c3_30 : SCode := .seq (.region c3_1 [1, 2, 5]) c3_29
def c3_31 : SCode := .seq (.region c3_0 [1, 2]) c3_30
def c3 : SCode := c3_31
theorem w3 : type_of% (And.intro (uR Tryd.prog c3_0.eq_1) (And.intro (uR Tryd.prog c3_1.eq_1) (And.intro (uR Tryd.prog c3_2.eq_1) (And.intro (uR Tryd.prog c3_3.eq_1) (And.intro (uR Tryd.prog c3_4.eq_1) (And.intro (uC Tryd.prog c3_5.eq_1) (And.intro (uC Tryd.prog c3_6.eq_1) (And.intro (uC Tryd.prog c3_7.eq_1) (And.intro (uR Tryd.prog c3_8.eq_1) (And.intro (uR Tryd.prog c3_9.eq_1) (And.intro (uR Tryd.prog c3_10.eq_1) (And.intro (uR Tryd.prog c3_11.eq_1) (And.intro (uR Tryd.prog c3_12.eq_1) (And.intro (uC Tryd.prog c3_13.eq_1) (And.intro (uC Tryd.prog c3_14.eq_1) (And.intro (uC Tryd.prog c3_15.eq_1) (And.intro (uR Tryd.prog c3_16.eq_1) (And.intro (uR Tryd.prog c3_17.eq_1) (And.intro (uC Tryd.prog c3_18.eq_1) (And.intro (uC Tryd.prog c3_19.eq_1) (And.intro (uC Tryd.prog c3_20.eq_1) (And.intro (uR Tryd.prog c3_21.eq_1) (And.intro (uC Tryd.prog c3_22.eq_1) (And.intro (uC Tryd.prog c3_23.eq_1) (And.intro (uC Tryd.prog c3_24.eq_1) (And.intro (uC Tryd.prog c3_25.eq_1) (And.intro (uC Tryd.prog c3_26.eq_1) (And.intro (uC Tryd.prog c3_27.eq_1) (And.intro (uC Tryd.prog c3_28.eq_1) (And.intro (uC Tryd.prog c3_29.eq_1) (And.intro (uC Tryd.prog c3_30.eq_1) (And.intro (uC Tryd.prog c3_31.eq_1) (uC Tryd.prog c3.eq_1))))))))))))))))))))))))))))))))) := (And.intro (uR Tryd.prog c3_0.eq_1) (And.intro (uR Tryd.prog c3_1.eq_1) (And.intro (uR Tryd.prog c3_2.eq_1) (And.intro (uR Tryd.prog c3_3.eq_1) (And.intro (uR Tryd.prog c3_4.eq_1) (And.intro (uC Tryd.prog c3_5.eq_1) (And.intro (uC Tryd.prog c3_6.eq_1) (And.intro (uC Tryd.prog c3_7.eq_1) (And.intro (uR Tryd.prog c3_8.eq_1) (And.intro (uR Tryd.prog c3_9.eq_1) (And.intro (uR Tryd.prog c3_10.eq_1) (And.intro (uR Tryd.prog c3_11.eq_1) (And.intro (uR Tryd.prog c3_12.eq_1) (And.intro (uC Tryd.prog c3_13.eq_1) (And.intro (uC Tryd.prog c3_14.eq_1) (And.intro (uC Tryd.prog c3_15.eq_1) (And.intro (uR Tryd.prog c3_16.eq_1) (And.intro (uR Tryd.prog c3_17.eq_1) (And.intro (uC Tryd.prog c3_18.eq_1) (And.intro (uC Tryd.prog c3_19.eq_1) (And.intro (uC Tryd.prog c3_20.eq_1) (And.intro (uR Tryd.prog c3_21.eq_1) (And.intro (uC Tryd.prog c3_22.eq_1) (And.intro (uC Tryd.prog c3_23.eq_1) (And.intro (uC Tryd.prog c3_24.eq_1) (And.intro (uC Tryd.prog c3_25.eq_1) (And.intro (uC Tryd.prog c3_26.eq_1) (And.intro (uC Tryd.prog c3_27.eq_1) (And.intro (uC Tryd.prog c3_28.eq_1) (And.intro (uC Tryd.prog c3_29.eq_1) (And.intro (uC Tryd.prog c3_30.eq_1) (And.intro (uC Tryd.prog c3_31.eq_1) (uC Tryd.prog c3.eq_1)))))))))))))))))))))))))))))))))
def v3 : List RV := [.t 4]
theorem s3 : slimF Tryd.prog Tryd.f3 = some (c3.bare, v3) := by kernel_rfl

theorem toRate_ok (h : Heap) (r : Rate) : ACall Tryd.prog 6 [.agg (encRate r).toArray] h fun x h' => Ext h h' ∧ x = .agg (encRate r).toArray := by
  refine ACall.of Tryd.func6 s6 (of_decide_eq_true rfl) ?_
  simp (maxSteps := 4000000) (disch := omega) only [ah, am, Nat.reduceEqDiff, reduceCtorEq, Nat.reduceAdd, Nat.reduceLeDiff, Nat.reduceMul, Nat.reduceLT, if_true, if_false, true_and, and_true, and_self, Nat.reduceBEq, QOp.loads, boxO, bslO, buildO, cutL, fillV, putL, w6, v6, encRate]
  exact Ext.more _ _
theorem FnExactShowList_ok (h : Heap) (r : Rate) (vl : Value) (l : List Clip) (sl : SlT h encClip 3 vl l) (hll : l.length ≤ 9223372036854775807) :
    ACall Tryd.prog 3 [.agg (encRate r).toArray, vl] h fun x h' => x = .bool true := by
  have B := Bx.new h (encRate r) []
  have eM := Ext.more h [encRate r]
  have s0 := sl.ext eM
  have toR := fun K => toRate_ok K r
  simp only [encRate] at B eM s0 toR
  refine ACall.of Tryd.func3 s3 (of_decide_eq_true rfl) ?_
  simp (maxSteps := 4000000) (disch := omega) only [ah, am, Nat.reduceEqDiff, reduceCtorEq, Nat.reduceAdd, Nat.reduceLeDiff, Nat.reduceMul, Nat.reduceLT, if_true, if_false, true_and, and_true, and_self, Nat.reduceBEq, QOp.loads, boxO, bslO, buildO, cutL, fillV, putL, w3, v3, encRate]
  obtain ⟨K, hK⟩ : ∃ K, K = h.more [[.int .i64 r.num, .int .i64 r.den, .bool r.drop]] := ⟨_, rfl⟩
  rw [← hK] at B eM s0 ⊢
  refine stepC.of (szClipS_ok K vl l 1048576 s0 (by omega) (by omega) hll) ?_
  rintro _ Hx ⟨hx, rfl⟩; rw [hx]; clear hx Hx
  simp (maxSteps := 4000000) (disch := omega) only [ah, am, Nat.reduceEqDiff, reduceCtorEq, Nat.reduceAdd, Nat.reduceLeDiff, Nat.reduceMul, Nat.reduceLT, if_true, if_false, true_and, and_true, and_self, Nat.reduceBEq, QOp.loads, boxO, bslO, buildO, cutL, fillV, putL, w3, v3]
  by_cases hsz : (1048576 : Int) - l.length < 0
  · have hz : decide ((if (1048576 : Int) - l.length < 0 then -1 else 1048576 - (l.length : Int)) < 0) = true := by rw [if_pos hsz]; rfl
    simp (maxSteps := 4000000) (disch := omega) only [ah, am, Nat.reduceEqDiff, reduceCtorEq, Nat.reduceAdd, Nat.reduceLeDiff, Nat.reduceMul, Nat.reduceLT, if_true, if_false, true_and, and_true, and_self, Nat.reduceBEq, QOp.loads, boxO, bslO, buildO, cutL, fillV, putL, w3, v3, hz]
  have hz : decide ((if (1048576 : Int) - l.length < 0 then -1 else 1048576 - (l.length : Int)) < 0) = false := by rw [if_neg hsz]; exact decide_eq_false hsz
  have hl : l.length ≤ 1048576 := by omega
  simp (maxSteps := 4000000) (disch := omega) only [ah, am, Nat.reduceEqDiff, reduceCtorEq, Nat.reduceAdd, Nat.reduceLeDiff, Nat.reduceMul, Nat.reduceLT, if_true, if_false, true_and, and_true, and_self, Nat.reduceBEq, QOp.loads, boxO, bslO, buildO, cutL, fillV, putL, w3, v3, hz, B.ld]
  refine stepC.of (toR K) ?_
  rintro _ K1 ⟨e1, rfl⟩
  simp (maxSteps := 4000000) (disch := omega) only [ah, am, Nat.reduceEqDiff, reduceCtorEq, Nat.reduceAdd, Nat.reduceLeDiff, Nat.reduceMul, Nat.reduceLT, if_true, if_false, true_and, and_true, and_self, Nat.reduceBEq, QOp.loads, boxO, bslO, buildO, cutL, fillV, putL, w3, v3]
  refine stepC.of (toClipS_ok K1 vl l (s0.ext e1) hl) ?_
  intro p K2 F2
  simp (maxSteps := 4000000) (disch := omega) only [ah, am, Nat.reduceEqDiff, reduceCtorEq, Nat.reduceAdd, Nat.reduceLeDiff, Nat.reduceMul, Nat.reduceLT, if_true, if_false, true_and, and_true, and_self, Nat.reduceBEq, QOp.loads, boxO, bslO, buildO, cutL, fillV, putL, w3, v3]
  have sp := specShowList_ok K2 p r l F2.slt (by omega)
  simp only [encRate] at sp
  refine stepC.of sp ?_
  rintro _ K3 ⟨e3, rfl⟩
  have E3 := (e1.trans F2.1).trans e3
  simp (maxSteps := 4000000) (disch := omega) only [ah, am, Nat.reduceEqDiff, reduceCtorEq, Nat.reduceAdd, Nat.reduceLeDiff, Nat.reduceMul, Nat.reduceLT, if_true, if_false, true_and, and_true, and_self, Nat.reduceBEq, QOp.loads, boxO, bslO, buildO, cutL, fillV, putL, w3, v3]
  refine stepC.of (toClipS_ok K3 vl l (s0.ext E3) hl) ?_
  intro q K4 F4
  have E4 := E3.trans F4.1
  simp (maxSteps := 4000000) (disch := omega) only [ah, am, Nat.reduceEqDiff, reduceCtorEq, Nat.reduceAdd, Nat.reduceLeDiff, Nat.reduceMul, Nat.reduceLT, if_true, if_false, true_and, and_true, and_self, Nat.reduceBEq, QOp.loads, boxO, bslO, buildO, cutL, fillV, putL, w3, v3, (B.ext E4).ld]
  refine stepC.of (toR K4) ?_
  rintro _ K5 ⟨e5, rfl⟩
  simp (maxSteps := 4000000) (disch := omega) only [ah, am, Nat.reduceEqDiff, reduceCtorEq, Nat.reduceAdd, Nat.reduceLeDiff, Nat.reduceMul, Nat.reduceLT, if_true, if_false, true_and, and_true, and_self, Nat.reduceBEq, QOp.loads, boxO, bslO, buildO, cutL, fillV, putL, w3, v3]
  have ip := ShowList_ok K5 q r l (F4.slt.ext e5) (by omega)
  simp only [encRate] at ip
  refine stepC.of ip ?_
  rintro _ K6 ⟨e6, rfl⟩
  have E6 := (E4.trans e5).trans e6
  simp (maxSteps := 4000000) (disch := omega) only [ah, am, Nat.reduceEqDiff, reduceCtorEq, Nat.reduceAdd, Nat.reduceLeDiff, Nat.reduceMul, Nat.reduceLT, if_true, if_false, true_and, and_true, and_self, Nat.reduceBEq, QOp.loads, boxO, bslO, buildO, cutL, fillV, putL, w3, v3, strB_neq, eq_self, decide_true, Bool.not_true]
  refine stepC.of (toClipS_ok K6 vl l (s0.ext E6) hl) ?_
  intro y K7 F7
  simp (maxSteps := 4000000) (disch := omega) only [ah, am, Nat.reduceEqDiff, reduceCtorEq, Nat.reduceAdd, Nat.reduceLeDiff, Nat.reduceMul, Nat.reduceLT, if_true, if_false, true_and, and_true, and_self, Nat.reduceBEq, QOp.loads, boxO, bslO, buildO, cutL, fillV, putL, w3, v3]
  refine stepC.of (eqClipS_ok K7 q y l l (((F4.slt.ext e5).ext e6).ext F7.1) F7.slt (by omega) (by omega)) ?_
  rintro _ K8 ⟨e8, rfl⟩
  simp (maxSteps := 4000000) (disch := omega) only [ah, am, Nat.reduceEqDiff, reduceCtorEq, Nat.reduceAdd, Nat.reduceLeDiff, Nat.reduceMul, Nat.reduceLT, if_true, if_false, true_and, and_true, and_self, Nat.reduceBEq, QOp.loads, boxO, bslO, buildO, cutL, fillV, putL, w3, v3, eq_self, decide_true]
end Go.Proofs.YtgmimgmdbpcecaaDoor
