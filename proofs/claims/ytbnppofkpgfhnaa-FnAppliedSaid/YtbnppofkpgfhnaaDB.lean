import Derived.Test.YtbnppofkpgfhnaaS4
import Derived.Test.YtbnppofkpgfhnaaDA
import Derived.Test.YtbnppofkpgfhnaaS10
import Derived.Test.YtbnppofkpgfhnaaL0
import Derived.Test.YtbnppofkpgfhnaaCE
import Derived.Test.YtbnppofkpgfhnaaCC
namespace Go.Proofs.Ytbnppofkpgfhnaa
open Go Go.Ah
set_option linter.unusedSimpArgs false
set_option linter.unusedVariables false
set_option maxRecDepth 10000
set_option maxHeartbeats 4000000
/-! Joined, whatever the clips: some clips, no more than there were -/
theorem l4Join_any (h : Heap) (v : Value) (l : List Clip) (s : SlT h encClip 3 v l) (hl : l.length ≤ 1100000) : ACall Try.prog 52 [v] h fun r h' => ∃ m, Fresh h h' encClip 3 r m ∧ m.length ≤ l.length := by
  refine ACall.of Try.func52 s52 (of_decide_eq_true rfl) ?_
  simp (maxSteps := 4000000) (disch := omega) only [ah, am, Nat.reduceEqDiff, reduceCtorEq, Nat.reduceAdd, Nat.reduceLeDiff, Nat.reduceMul, Nat.reduceLT, if_true, if_false, true_and, and_true, and_self, Nat.reduceBEq, QOp.loads, boxO, bslO, buildO, cutL, fillV, putL, w52, v52]
  refine SW_loop_up (fun i E H => ∃ ov m, E = [(0, v), (3, ov), (4, .int .i64 i)] ∧ Fresh h H encClip 3 ov m ∧ m.length ≤ i) l.length 0 (by omega) ⟨_, [], rfl, Fresh.new0 h encClip_len (by omega), by simp⟩ ?_
  rintro i E H hi ⟨ov, out, rfl, F, B⟩
  have R := (s.ext F.1).rulesN
  have W : IntKind.i64.wrap ((i : Int) + 1) = ((i + 1 : Nat) : Int) := i64e (by omega) (by omega)
  simp (maxSteps := 4000000) (disch := omega) only [ah, am, Nat.reduceEqDiff, reduceCtorEq, Nat.reduceAdd, Nat.reduceLeDiff, Nat.reduceMul, Nat.reduceLT, if_true, if_false, true_and, and_true, and_self, Nat.reduceBEq, QOp.loads, boxO, bslO, buildO, cutL, fillV, putL, w52, v52, R]
  refine stepI.split (fun hp => ?_) (fun hp => ?_)
  · have hi' : i < l.length := by omega
    have F' := F.ext (Ext.more H [encClip l[i]])
    have R' := F'.slt.rules
    have W0 : IntKind.i64.wrap ((out.length : Int) - 1) = (out.length : Int) - 1 := i64w (by omega)
    have T : ((out.length : Int) - 1).toNat = out.length - 1 := by omega
    simp only [encClip] at R'
    obtain ⟨v2, H2, ea, F2⟩ := F'.app1 l[i] (bytes := 24) (by omega)
    simp only [more_more, size_more, List.cons_append, List.nil_append, List.length_cons, List.length_nil, Nat.zero_add, encClip] at ea
    by_cases hn : 0 < out.length
    · have hn' : decide (0 < (out.length : Int)) = true := decide_eq_true (by omega)
      obtain ⟨H3, es, F3, -⟩ := F'.setF (j := out.length - 1) (f := 2) (n := 1) (by omega) (x := ⟨(out[out.length - 1]).src, (out[out.length - 1]).inn, IntKind.i64.wrap ((out[out.length - 1]).len + l[i].len)⟩)
        (y := .int .i64 (IntKind.i64.wrap ((out[out.length - 1]).len + l[i].len))) (by simp [encClip, splice, cells_int]) (by omega) rfl (by omega) rfl
      simp only [encClip] at es
      simp (maxSteps := 4000000) (disch := omega) only [ah, am, Nat.reduceEqDiff, reduceCtorEq, Nat.reduceAdd, Nat.reduceLeDiff, Nat.reduceMul, Nat.reduceLT, if_true, if_false, true_and, and_true, and_self, Nat.reduceBEq, QOp.loads, boxO, bslO, buildO, cutL, fillV, putL, w52, v52, R, R', W, W0, encClip, hn', T]
      (repeat' first
        | (refine stepG.cases (fun _ hp => ?_) (fun _ hp => ?_) <;> simp (maxSteps := 4000000) (disch := omega) only [hp, ah, am, Nat.reduceEqDiff, reduceCtorEq, Nat.reduceAdd, Nat.reduceLeDiff, Nat.reduceMul, Nat.reduceLT, if_true, if_false, true_and, and_true, and_self, Nat.reduceBEq, QOp.loads, boxO, bslO, buildO, cutL, fillV, putL, w52, v52, R, R', W, W0, encClip, T, es, ea])
        | (refine stepI.cases (fun _ hp => ?_) (fun _ hp => ?_) <;> simp (maxSteps := 4000000) (disch := omega) only [hp, ah, am, Nat.reduceEqDiff, reduceCtorEq, Nat.reduceAdd, Nat.reduceLeDiff, Nat.reduceMul, Nat.reduceLT, if_true, if_false, true_and, and_true, and_self, Nat.reduceBEq, QOp.loads, boxO, bslO, buildO, cutL, fillV, putL, w52, v52, R, R', W, W0, encClip, T, es, ea]))
      all_goals first
        | exact ⟨by omega, _, _, rfl, F3, by simp; omega⟩
        | exact ⟨by omega, _, _, rfl, F2, by simp; omega⟩
    · have hn' : decide (0 < (out.length : Int)) = false := decide_eq_false (by omega)
      simp (maxSteps := 4000000) (disch := omega) only [ah, am, Nat.reduceEqDiff, reduceCtorEq, Nat.reduceAdd, Nat.reduceLeDiff, Nat.reduceMul, Nat.reduceLT, if_true, if_false, true_and, and_true, and_self, Nat.reduceBEq, QOp.loads, boxO, bslO, buildO, cutL, fillV, putL, w52, v52, R, R', W, W0, encClip, hn', T, ea]
      exact ⟨by omega, _, _, rfl, F2, by simp; omega⟩
  · simp (maxSteps := 4000000) (disch := omega) only [ah, am, Nat.reduceEqDiff, reduceCtorEq, Nat.reduceAdd, Nat.reduceLeDiff, Nat.reduceMul, Nat.reduceLT, if_true, if_false, true_and, and_true, and_self, Nat.reduceBEq, QOp.loads, boxO, bslO, buildO, cutL, fillV, putL, w52, v52, R, W]
    obtain rfl : i = l.length := by omega
    exact ⟨out, F, B⟩
end Go.Proofs.Ytbnppofkpgfhnaa

namespace Go.Proofs.Ytbnppofkpgfhnaa
open Go Go.Ah
set_option linter.unusedSimpArgs false
set_option linter.unusedVariables false
set_option maxRecDepth 10000
set_option maxHeartbeats 4000000
/-! 36 loop.example/g00066/spec.l5DrawNext: parameters 2, live [0, 1], slots [0:c, 1:a, 2:c, 3:a, 5:b, 6:n, 7:at, 8:x, 9:is] -/
def c36_0 : List SOper := [⟨some 4, .q (.mv (.c (.slice none 0 0))), none⟩]
def c36_1 : List SOper := [⟨some 10, .q (.mv (.t 1)), none⟩, ⟨some 11, .e (.call 52 [(.t 10)]), none⟩, ⟨some 5, .q (.mv (.t 11)), none⟩]
def c36_2 : List SOper := [⟨some 12, .q (.mv (.t 0)), none⟩, ⟨some 13, .e (.call 67 [(.t 12), (.c (.int .i64 4))]), none⟩, ⟨some 6, .q (.mv (.t 13)), none⟩]
def c36_3 : List SOper := [⟨some 14, .q (.mv (.t 6)), none⟩, ⟨some 15, .q (.bin .gtr (.t 14) (.c (.int .i64 0))), none⟩, ⟨some 16, .q (.mv (.t 15)), none⟩, ⟨some 17, .q (.mv (.t 5)), some (16, true)⟩, ⟨some 18, .e (.call 12 [(.t 17)]), some (16, true)⟩, ⟨some 19, .q (.pick (.t 16) (.t 18) (.c (.bool false))), none⟩]
def c36_4 : SCode := .cond (.t 19) .skip (.exit 0)
def c36_5 : SCode := .seq (.region c36_3 [0, 5, 6, 19]) c36_4
def c36_6 : List SOper := [⟨some 22, .q (.mv (.t 0)), none⟩, ⟨some 23, .q (.mv (.t 5)), none⟩, ⟨some 24, .e (.call 48 [(.t 23)]), none⟩, ⟨some 25, .q (.bin .add (.t 24) (.c (.int .i64 1))), none⟩, ⟨some 26, .e (.call 67 [(.t 22), (.t 25)]), none⟩, ⟨some 7, .q (.mv (.t 26)), none⟩]
def c36_7 : List SOper := [⟨some 27, .q (.mv (.t 5)), none⟩, ⟨some 8, .q (.mv (.t 27)), none⟩]
def c36_8 : List SOper := [⟨some 9, .q (.mv (.c (.bool false))), none⟩]
def c36_9 : List SOper := [⟨some 28, .q (.mv (.t 0)), none⟩, ⟨some 29, .e (.call 67 [(.t 28), (.c (.int .i64 3))]), none⟩]
def c36_10 : List SOper := [⟨some 31, .q (.bin .eql (.t 29) (.c (.int .i64 0))), none⟩, ⟨some 30, .q (.mv (.t 31)), none⟩]
def c36_11 : List SOper := [⟨some 33, .q (.mv (.t 5)), none⟩, ⟨some 34, .q (.mv (.t 7)), none⟩, ⟨some 35, .q (.mv (.t 0)), none⟩, ⟨some 36, .e (.call 68 [(.t 35)]), none⟩, ⟨some 37, .e (.call 70 [(.t 33), (.t 34), (.t 36)]), none⟩, ⟨some 32, .q (.mv (.t 37)), none⟩, ⟨some 38, .q (.ext (.t 32) 0), none⟩, ⟨some 39, .q (.ext (.t 32) 1), none⟩, ⟨some 8, .q (.mv (.t 38)), none⟩, ⟨some 9, .q (.mv (.t 39)), none⟩]
def c36_12 : List SOper := [⟨some 41, .q (.bin .eql (.t 29) (.c (.int .i64 1))), none⟩, ⟨some 40, .q (.mv (.t 41)), none⟩]
def c36_13 : List SOper := [⟨some 43, .q (.mv (.t 5)), none⟩, ⟨some 44, .q (.mv (.t 7)), none⟩, ⟨some 45, .q (.mv (.t 0)), none⟩, ⟨some 46, .e (.call 67 [(.t 45), (.c (.int .i64 9))]), none⟩, ⟨some 47, .q (.bin .add (.c (.int .i64 1)) (.t 46)), none⟩, ⟨some 48, .e (.call 71 [(.t 43), (.t 44), (.t 47)]), none⟩, ⟨some 42, .q (.mv (.t 48)), none⟩, ⟨some 49, .q (.ext (.t 42) 0), none⟩, ⟨some 50, .q (.ext (.t 42) 1), none⟩, ⟨some 8, .q (.mv (.t 49)), none⟩, ⟨some 9, .q (.mv (.t 50)), none⟩]
def c36_14 : List SOper := [⟨some 52, .q (.bin .eql (.t 29) (.c (.int .i64 2))), none⟩, ⟨some 51, .q (.mv (.t 52)), none⟩]
def c36_15 : List SOper := [⟨some 54, .q (.mv (.t 5)), none⟩, ⟨some 55, .q (.mv (.t 7)), none⟩, ⟨some 56, .q (.mv (.t 0)), none⟩, ⟨some 57, .e (.call 68 [(.t 56)]), none⟩, ⟨some 58, .e (.call 72 [(.t 54), (.t 55), (.t 57)]), none⟩, ⟨some 53, .q (.mv (.t 58)), none⟩, ⟨some 59, .q (.ext (.t 53) 0), none⟩, ⟨some 60, .q (.ext (.t 53) 1), none⟩, ⟨some 8, .q (.mv (.t 59)), none⟩, ⟨some 9, .q (.mv (.t 60)), none⟩]
def c36_16 : SCode := .cond (.t 51) (.region c36_15 [0, 5, 6, 8, 9]) .skip
def c36_17 : SCode := .seq (.region c36_14 [0, 5, 6, 7, 8, 9, 51]) c36_16
def c36_18 : SCode := .cond (.t 40) (.region c36_13 [0, 5, 6, 8, 9]) c36_17
def c36_19 : SCode := .seq (.region c36_12 [0, 5, 6, 7, 8, 9, 29, 40]) c36_18
def c36_20 : SCode := .cond (.t 30) (.region c36_11 [0, 5, 6, 8, 9]) c36_19
def c36_21 : SCode := .seq (.region c36_10 [0, 5, 6, 7, 8, 9, 29, 30]) c36_20
def c36_22 : SCode := .block 2 c36_21
def c36_23 : SCode := .seq (.region c36_9 [0, 5, 6, 7, 8, 9, 29]) c36_22
def c36_24 : List SOper := [⟨some 61, .q (.mv (.t 9)), none⟩]
def c36_25 : List SOper := [⟨some 62, .q (.mv (.t 8)), none⟩, ⟨some 5, .q (.mv (.t 62)), none⟩]
def c36_26 : SCode := .cond (.t 61) (.region c36_25 [0, 5, 6]) .skip
def c36_27 : SCode := .seq (.region c36_24 [0, 5, 6, 8, 61]) c36_26
def c36_28 : SCode := .seq c36_23 c36_27
def c36_29 : SCode := .seq (.region c36_8 [0, 5, 6, 7, 8, 9]) c36_28
def c36_30 : SCode := .seq (.region c36_7 [0, 5, 6, 7, 8]) c36_29
def c36_31 : SCode := .seq (.region c36_6 [0, 5, 6, 7]) c36_30
def c36_32 : SCode := .block 1 c36_31
def c36_33 : List SOper := [⟨some 20, .q (.mv (.t 6)), none⟩, ⟨some 21, .q (.bin .sub (.t 20) (.c (.int .i64 1))), none⟩, ⟨some 6, .q (.mv (.t 21)), none⟩]
def c36_34 : SCode := .seq c36_32 (.region c36_33 [0, 5, 6])
def c36_35 : SCode := .seq c36_5 c36_34
def c36_36 : SCode := .loop c36_35
def c36_37 : SCode := .block 0 c36_36
def c36_38 : SCode := .seq (.region c36_2 [0, 5, 6]) c36_37
def c36_39 : List SOper := [⟨some 63, .q (.mv (.t 5)), none⟩, ⟨some 4, .q (.mv (.t 63)), none⟩]
def c36_40 : SCode := .seq (.region c36_39 [4]) .ret
def c36_41 : SCode := .seq c36_38 c36_40
def c36_42 : SCode := .seq (.region c36_1 [0, 5]) c36_41
def c36_43 : SCode := .seq (.region c36_0 [0, 1]) c36_42
def c36 : SCode := c36_43
theorem w36 : type_of% (And.intro (uR Try.prog c36_0.eq_1) (And.intro (uR Try.prog c36_1.eq_1) (And.intro (uR Try.prog c36_2.eq_1) (And.intro (uR Try.prog c36_3.eq_1) (And.intro (uC Try.prog c36_4.eq_1) (And.intro (uC Try.prog c36_5.eq_1) (And.intro (uR Try.prog c36_6.eq_1) (And.intro (uR Try.prog c36_7.eq_1) (And.intro (uR Try.prog c36_8.eq_1) (And.intro (uR Try.prog c36_9.eq_1) (And.intro (uR Try.prog c36_10.eq_1) (And.intro (uR Try.prog c36_11.eq_1) (And.intro (uR Try.prog c36_12.eq_1) (And.intro (uR Try.prog c36_13.eq_1) (And.intro (uR Try.prog c36_14.eq_1) (And.intro (uR Try.prog c36_15.eq_1) (And.intro (uC Try.prog c36_16.eq_1) (And.intro (uC Try.prog c36_17.eq_1) (And.intro (uC Try.prog c36_18.eq_1) (And.intro (uC Try.prog c36_19.eq_1) (And.intro (uC Try.prog c36_20.eq_1) (And.intro (uC Try.prog c36_21.eq_1) (And.intro (uC Try.prog c36_22.eq_1) (And.intro (uC Try.prog c36_23.eq_1) (And.intro (uR Try.prog c36_24.eq_1) (And.intro (uR Try.prog c36_25.eq_1) (And.intro (uC Try.prog c36_26.eq_1) (And.intro (uC Try.prog c36_27.eq_1) (And.intro (uC Try.prog c36_28.eq_1) (And.intro (uC Try.prog c36_29.eq_1) (And.intro (uC Try.prog c36_30.eq_1) (And.intro (uC Try.prog c36_31.eq_1) (And.intro (uC Try.prog c36_32.eq_1) (And.intro (uR Try.prog c36_33.eq_1) (And.intro (uC Try.prog c36_34.eq_1) (And.intro (uC Try.prog c36_35.eq_1) (And.intro (uC Try.prog c36_36.eq_1) (And.intro (uC Try.prog c36_37.eq_1) (And.intro (uC Try.prog c36_38.eq_1) (And.intro (uR Try.prog c36_39.eq_1) (And.intro (uC Try.prog c36_40.eq_1) (And.intro (uC Try.prog c36_41.eq_1) (And.intro (uC Try.prog c36_42.eq_1) (And.intro (uC Try.prog c36_43.eq_1) (uC Try.prog c36.eq_1))))))))))))))))))))))))))))))))))))))))))))) := (And.intro (uR Try.prog c36_0.eq_1) (And.intro (uR Try.prog c36_1.eq_1) (And.intro (uR Try.prog c36_2.eq_1) (And.intro (uR Try.prog c36_3.eq_1) (And.intro (uC Try.prog c36_4.eq_1) (And.intro (uC Try.prog c36_5.eq_1) (And.intro (uR Try.prog c36_6.eq_1) (And.intro (uR Try.prog c36_7.eq_1) (And.intro (uR Try.prog c36_8.eq_1) (And.intro (uR Try.prog c36_9.eq_1) (And.intro (uR Try.prog c36_10.eq_1) (And.intro (uR Try.prog c36_11.eq_1) (And.intro (uR Try.prog c36_12.eq_1) (And.intro (uR Try.prog c36_13.eq_1) (And.intro (uR Try.prog c36_14.eq_1) (And.intro (uR Try.prog c36_15.eq_1) (And.intro (uC Try.prog c36_16.eq_1) (And.intro (uC Try.prog c36_17.eq_1) (And.intro (uC Try.prog c36_18.eq_1) (And.intro (uC Try.prog c36_19.eq_1) (And.intro (uC Try.prog c36_20.eq_1) (And.intro (uC Try.prog c36_21.eq_1) (And.intro (uC Try.prog c36_22.eq_1) (And.intro (uC Try.prog c36_23.eq_1) (And.intro (uR Try.prog c36_24.eq_1) (And.intro (uR Try.prog c36_25.eq_1) (And.intro (uC Try.prog c36_26.eq_1) (And.intro (uC Try.prog c36_27.eq_1) (And.intro (uC Try.prog c36_28.eq_1) (And.intro (uC Try.prog c36_29.eq_1) (And.intro (uC Try.prog c36_30.eq_1) (And.intro (uC Try.prog c36_31.eq_1) (And.intro (uC Try.prog c36_32.eq_1) (And.intro (uR Try.prog c36_33.eq_1) (And.intro (uC Try.prog c36_34.eq_1) (And.intro (uC Try.prog c36_35.eq_1) (And.intro (uC Try.prog c36_36.eq_1) (And.intro (uC Try.prog c36_37.eq_1) (And.intro (uC Try.prog c36_38.eq_1) (And.intro (uR Try.prog c36_39.eq_1) (And.intro (uC Try.prog c36_40.eq_1) (And.intro (uC Try.prog c36_41.eq_1) (And.intro (uC Try.prog c36_42.eq_1) (And.intro (uC Try.prog c36_43.eq_1) (uC Try.prog c36.eq_1)))))))))))))))))))))))))))))))))))))))))))))
def v36 : List RV := [.t 4]
theorem s36 : slimF Try.prog Try.f36 = some (c36.bare, v36) := by kernel_rfl

theorem putS_len (l : List Clip) (a : Int) (m : List Clip) (b : Int) : (putS l a m b).1.length ≤ 300 := editF_length _
theorem insertS_len (l : List Clip) (a : Int) (n : Clip) : (insertS l a n).1.length ≤ 300 := by
  unfold insertS; split
  · exact putS_len _ _ _ _
  · simp
theorem overS_len (l : List Clip) (a : Int) (n : Clip) : (overS l a n).1.length ≤ 300 := by
  unfold overS; split
  · exact putS_len _ _ _ _
  · simp
theorem extractS_len (l : List Clip) (a n : Int) : (extractS l a n).1.length ≤ 300 := by
  unfold extractS; split
  · exact putS_len _ _ _ _
  · simp
theorem l5DrawNext_ok (h : Heap) (c : Nat) (v : Value) (l : List Clip) (s : SlT h encClip 3 v l) (k : Cur h c) (hl : l.length ≤ 1000) :
    ACall Try.prog 36 [.pointer (some ⟨c, 0, none⟩), v] h fun r h' => ∃ m, Fk [c] h h' encClip 3 r m [] ∧ Cur h' c ∧ m.length ≤ 1000 := by
  refine ACall.of Try.func36 s36 (of_decide_eq_true rfl) ?_
  have hc := k.lt
  have hm : c ∈ [c] := by simp
  simp (maxSteps := 4000000) (disch := omega) only [ah, am, Nat.reduceEqDiff, reduceCtorEq, Nat.reduceAdd, Nat.reduceLeDiff, Nat.reduceMul, Nat.reduceLT, if_true, if_false, true_and, and_true, and_self, Nat.reduceBEq, QOp.loads, boxO, bslO, buildO, cutL, fillV, putL, w36, v36]
  refine stepC.of (l4Join_any _ _ _ s (by omega)) ?_
  rintro jv H1 ⟨m, F1, B⟩
  have F := Fk.of (X := [c]) F1
  have k := k.ext F1.1
  simp (maxSteps := 4000000) (disch := omega) only [ah, am, Nat.reduceEqDiff, reduceCtorEq, Nat.reduceAdd, Nat.reduceLeDiff, Nat.reduceMul, Nat.reduceLT, if_true, if_false, true_and, and_true, and_self, Nat.reduceBEq, QOp.loads, boxO, bslO, buildO, cutL, fillV, putL, w36, v36]
  refine stepC.of (l1Below_ok _ _ _ k) ?_
  rintro _ H2 ⟨n0, rfl, n1, n2, _, g, k⟩
  have F := F.stepG g hm hc
  have n3 : n0 < 4 := n2 (by omega)
  simp (maxSteps := 4000000) (disch := omega) only [ah, am, Nat.reduceEqDiff, reduceCtorEq, Nat.reduceAdd, Nat.reduceLeDiff, Nat.reduceMul, Nat.reduceLT, if_true, if_false, true_and, and_true, and_self, Nat.reduceBEq, QOp.loads, boxO, bslO, buildO, cutL, fillV, putL, w36, v36]
  refine SW_loop_up (fun i E H => ∃ bv m, E = [(0, .pointer (some ⟨c, 0, none⟩)), (5, bv), (6, .int .i64 (n0 - i))] ∧ Fk [c] h H encClip 3 bv m [] ∧ Cur H c ∧ m.length ≤ 1000) n0.toNat 0 (by omega)
    ⟨jv, m, by simp, F, k, by omega⟩ ?_
  clear F k B F1
  rintro i E H hi ⟨bv, m, rfl, F, k, B⟩
  have W : IntKind.i64.wrap (n0 - (i : Int) - 1) = n0 - ((i + 1 : Nat) : Int) := i64e (by omega) (by omega)
  by_cases hp : 0 < n0 - (i : Int)
  rotate_left
  · have hp' : decide (0 < n0 - (i : Int)) = false := decide_eq_false hp
    simp (maxSteps := 4000000) (disch := omega) only [ah, am, Nat.reduceEqDiff, reduceCtorEq, Nat.reduceAdd, Nat.reduceLeDiff, Nat.reduceMul, Nat.reduceLT, if_true, if_false, true_and, and_true, and_self, Nat.reduceBEq, QOp.loads, boxO, bslO, buildO, cutL, fillV, putL, w36, v36, hp']
    exact ⟨m, F, k, B⟩
  have hp' : decide (0 < n0 - (i : Int)) = true := decide_eq_true hp
  simp (maxSteps := 4000000) (disch := omega) only [ah, am, Nat.reduceEqDiff, reduceCtorEq, Nat.reduceAdd, Nat.reduceLeDiff, Nat.reduceMul, Nat.reduceLT, if_true, if_false, true_and, and_true, and_self, Nat.reduceBEq, QOp.loads, boxO, bslO, buildO, cutL, fillV, putL, w36, v36, hp']
  refine stepC.of (TrackOk_ok _ _ _ F.slt (by omega)) ?_
  rintro _ H3 ⟨e3, rfl⟩
  have F := F.step e3
  have k := k.ext e3
  by_cases ht : trackOk m
  rotate_left
  · have ht' : decide (trackOk m) = false := decide_eq_false ht
    simp (maxSteps := 4000000) (disch := omega) only [ah, am, Nat.reduceEqDiff, reduceCtorEq, Nat.reduceAdd, Nat.reduceLeDiff, Nat.reduceMul, Nat.reduceLT, if_true, if_false, true_and, and_true, and_self, Nat.reduceBEq, QOp.loads, boxO, bslO, buildO, cutL, fillV, putL, w36, v36, hp', ht']
    exact ⟨m, F, k, B⟩
  have ht' : decide (trackOk m) = true := decide_eq_true ht
  have hsum := sumLen_bound ht.2.1
  have hs2 := ht.2.2
  have W1 : IntKind.i64.wrap (sumLen m + 1) = sumLen m + 1 := i64w (by omega)
  simp (maxSteps := 4000000) (disch := omega) only [ah, am, Nat.reduceEqDiff, reduceCtorEq, Nat.reduceAdd, Nat.reduceLeDiff, Nat.reduceMul, Nat.reduceLT, if_true, if_false, true_and, and_true, and_self, Nat.reduceBEq, QOp.loads, boxO, bslO, buildO, cutL, fillV, putL, w36, v36, hp', ht']
  refine stepC.of (l4Length_ok _ _ _ F.slt ht.1 ht.2.1) ?_
  rintro _ Hx ⟨hx, rfl⟩; rw [hx]; clear hx Hx
  simp (maxSteps := 4000000) (disch := omega) only [ah, am, Nat.reduceEqDiff, reduceCtorEq, Nat.reduceAdd, Nat.reduceLeDiff, Nat.reduceMul, Nat.reduceLT, if_true, if_false, true_and, and_true, and_self, Nat.reduceBEq, QOp.loads, boxO, bslO, buildO, cutL, fillV, putL, w36, v36, W1]
  refine stepC.of (l1Below_ok _ _ _ k) ?_
  rintro _ H4 ⟨at_, rfl, _, _, _, g, k⟩
  have F := F.stepG g hm hc
  simp (maxSteps := 4000000) (disch := omega) only [ah, am, Nat.reduceEqDiff, reduceCtorEq, Nat.reduceAdd, Nat.reduceLeDiff, Nat.reduceMul, Nat.reduceLT, if_true, if_false, true_and, and_true, and_self, Nat.reduceBEq, QOp.loads, boxO, bslO, buildO, cutL, fillV, putL, w36, v36]
  refine stepC.of (l1Below_ok _ _ _ k) ?_
  rintro _ H5 ⟨z, rfl, z1, z2, _, g, k⟩
  have F := F.stepG g hm hc
  have z3 : z < 3 := z2 (by omega)
  by_cases h0 : z = 0
  · have h0' : decide (z = 0) = true := decide_eq_true h0
    simp (maxSteps := 4000000) (disch := omega) only [ah, am, Nat.reduceEqDiff, reduceCtorEq, Nat.reduceAdd, Nat.reduceLeDiff, Nat.reduceMul, Nat.reduceLT, if_true, if_false, true_and, and_true, and_self, Nat.reduceBEq, QOp.loads, boxO, bslO, buildO, cutL, fillV, putL, w36, v36, h0']
    refine stepC.of (l4DrawClip_ok _ _ k) ?_
    rintro _ H6 ⟨a, rfl, da, g, k⟩
    have F := F.stepG g hm hc
    simp (maxSteps := 4000000) (disch := omega) only [ah, am, Nat.reduceEqDiff, reduceCtorEq, Nat.reduceAdd, Nat.reduceLeDiff, Nat.reduceMul, Nat.reduceLT, if_true, if_false, true_and, and_true, and_self, Nat.reduceBEq, QOp.loads, boxO, bslO, buildO, cutL, fillV, putL, w36, v36]
    refine stepC.of (specInsert_ok _ _ _ _ _ F.slt (by omega)) ?_
    rintro _ H7 ⟨xv, rfl, FX⟩
    have hX := insertS_len m at_ a
    generalize insertS m at_ a = x at FX hX ⊢
    obtain ⟨xl, xb⟩ := x
    cases xb with
    | false => simp (maxSteps := 4000000) (disch := omega) only [ah, am, Nat.reduceEqDiff, reduceCtorEq, Nat.reduceAdd, Nat.reduceLeDiff, Nat.reduceMul, Nat.reduceLT, if_true, if_false, true_and, and_true, and_self, Nat.reduceBEq, QOp.loads, boxO, bslO, buildO, cutL, fillV, putL, w36, v36, W]; exact ⟨by omega, bv, m, rfl, F.step FX.1, k.ext FX.1, B⟩
    | true => simp (maxSteps := 4000000) (disch := omega) only [ah, am, Nat.reduceEqDiff, reduceCtorEq, Nat.reduceAdd, Nat.reduceLeDiff, Nat.reduceMul, Nat.reduceLT, if_true, if_false, true_and, and_true, and_self, Nat.reduceBEq, QOp.loads, boxO, bslO, buildO, cutL, fillV, putL, w36, v36, W]; exact ⟨by omega, xv, xl, rfl, (Fk.of (X := [c]) FX).mono F.ext, k.ext FX.1, by simp only at hX; omega⟩
  have h0' : decide (z = 0) = false := decide_eq_false h0
  by_cases h1 : z = 1
  · have h1' : decide (z = 1) = true := decide_eq_true h1
    simp (maxSteps := 4000000) (disch := omega) only [ah, am, Nat.reduceEqDiff, reduceCtorEq, Nat.reduceAdd, Nat.reduceLeDiff, Nat.reduceMul, Nat.reduceLT, if_true, if_false, true_and, and_true, and_self, Nat.reduceBEq, QOp.loads, boxO, bslO, buildO, cutL, fillV, putL, w36, v36, h0', h1']
    refine stepC.of (l1Below_ok _ _ _ k) ?_
    rintro _ H6 ⟨y, rfl, y1, y2, _, g, k⟩
    have F := F.stepG g hm hc
    have y3 : y < 9 := y2 (by omega)
    have W2 : IntKind.i64.wrap (1 + y) = 1 + y := i64w (by omega)
    simp (maxSteps := 4000000) (disch := omega) only [ah, am, Nat.reduceEqDiff, reduceCtorEq, Nat.reduceAdd, Nat.reduceLeDiff, Nat.reduceMul, Nat.reduceLT, if_true, if_false, true_and, and_true, and_self, Nat.reduceBEq, QOp.loads, boxO, bslO, buildO, cutL, fillV, putL, w36, v36, W2]
    refine stepC.of (specExtract_ok _ _ _ _ _ F.slt (by omega)) ?_
    rintro _ H7 ⟨xv, rfl, FX⟩
    have hX := extractS_len m at_ (1 + y)
    generalize extractS m at_ (1 + y) = x at FX hX ⊢
    obtain ⟨xl, xb⟩ := x
    cases xb with
    | false => simp (maxSteps := 4000000) (disch := omega) only [ah, am, Nat.reduceEqDiff, reduceCtorEq, Nat.reduceAdd, Nat.reduceLeDiff, Nat.reduceMul, Nat.reduceLT, if_true, if_false, true_and, and_true, and_self, Nat.reduceBEq, QOp.loads, boxO, bslO, buildO, cutL, fillV, putL, w36, v36, W]; exact ⟨by omega, bv, m, rfl, F.step FX.1, k.ext FX.1, B⟩
    | true => simp (maxSteps := 4000000) (disch := omega) only [ah, am, Nat.reduceEqDiff, reduceCtorEq, Nat.reduceAdd, Nat.reduceLeDiff, Nat.reduceMul, Nat.reduceLT, if_true, if_false, true_and, and_true, and_self, Nat.reduceBEq, QOp.loads, boxO, bslO, buildO, cutL, fillV, putL, w36, v36, W]; exact ⟨by omega, xv, xl, rfl, (Fk.of (X := [c]) FX).mono F.ext, k.ext FX.1, by simp only at hX; omega⟩
  have h1' : decide (z = 1) = false := decide_eq_false h1
  have h2' : decide (z = 2) = true := decide_eq_true (by omega)
  simp (maxSteps := 4000000) (disch := omega) only [ah, am, Nat.reduceEqDiff, reduceCtorEq, Nat.reduceAdd, Nat.reduceLeDiff, Nat.reduceMul, Nat.reduceLT, if_true, if_false, true_and, and_true, and_self, Nat.reduceBEq, QOp.loads, boxO, bslO, buildO, cutL, fillV, putL, w36, v36, h0', h1', h2']
  refine stepC.of (l4DrawClip_ok _ _ k) ?_
  rintro _ H6 ⟨a, rfl, da, g, k⟩
  have F := F.stepG g hm hc
  simp (maxSteps := 4000000) (disch := omega) only [ah, am, Nat.reduceEqDiff, reduceCtorEq, Nat.reduceAdd, Nat.reduceLeDiff, Nat.reduceMul, Nat.reduceLT, if_true, if_false, true_and, and_true, and_self, Nat.reduceBEq, QOp.loads, boxO, bslO, buildO, cutL, fillV, putL, w36, v36]
  refine stepC.of (specOverwrite_ok _ _ _ _ _ F.slt (by omega)) ?_
  rintro _ H7 ⟨xv, rfl, FX⟩
  have hX := overS_len m at_ a
  generalize overS m at_ a = x at FX hX ⊢
  obtain ⟨xl, xb⟩ := x
  cases xb with
  | false => simp (maxSteps := 4000000) (disch := omega) only [ah, am, Nat.reduceEqDiff, reduceCtorEq, Nat.reduceAdd, Nat.reduceLeDiff, Nat.reduceMul, Nat.reduceLT, if_true, if_false, true_and, and_true, and_self, Nat.reduceBEq, QOp.loads, boxO, bslO, buildO, cutL, fillV, putL, w36, v36, W]; exact ⟨by omega, bv, m, rfl, F.step FX.1, k.ext FX.1, B⟩
  | true => simp (maxSteps := 4000000) (disch := omega) only [ah, am, Nat.reduceEqDiff, reduceCtorEq, Nat.reduceAdd, Nat.reduceLeDiff, Nat.reduceMul, Nat.reduceLT, if_true, if_false, true_and, and_true, and_self, Nat.reduceBEq, QOp.loads, boxO, bslO, buildO, cutL, fillV, putL, w36, v36, W]; exact ⟨by omega, xv, xl, rfl, (Fk.of (X := [c]) FX).mono F.ext, k.ext FX.1, by simp only at hX; omega⟩
end Go.Proofs.Ytbnppofkpgfhnaa

namespace Go.Proofs.Ytbnppofkpgfhnaa
open Go Go.Ah
set_option linter.unusedSimpArgs false
set_option linter.unusedVariables false
set_option maxRecDepth 10000
set_option maxHeartbeats 4000000
/-! 9 loop.example/g00066/spec.DrawChanges: parameters 1, live [0], slots [0:code, 1:code, 4:c, 5:a] -/
def c9_0 : List SOper := [⟨some 2, .q (.mv (.c (.slice none 0 0))), none⟩, ⟨some 3, .q (.mv (.c (.slice none 0 0))), none⟩]
def c9_1 : List SOper := [⟨some 6, .q (.mv (.t 0)), none⟩, ⟨some 7, .e (.call 33 [(.t 6)]), none⟩, ⟨some 4, .q (.mv (.t 7)), none⟩]
def c9_2 : List SOper := [⟨some 8, .q (.mv (.t 4)), none⟩, ⟨some 9, .e (.call 34 [(.t 8)]), none⟩, ⟨some 5, .q (.mv (.t 9)), none⟩]
def c9_3 : List SOper := [⟨some 10, .q (.mv (.t 4)), none⟩, ⟨some 11, .e (.call 35 [(.t 10), (.c (.int .i64 4))]), none⟩]
def c9_4 : List SOper := [⟨some 12, .q (.mv (.t 5)), none⟩, ⟨some 13, .q (.mv (.t 4)), none⟩, ⟨some 14, .e (.call 34 [(.t 13)]), none⟩, ⟨some 2, .q (.mv (.t 12)), none⟩, ⟨some 3, .q (.mv (.t 14)), none⟩]
def c9_5 : SCode := .seq (.region c9_4 [2, 3]) .ret
def c9_6 : SCode := .cond (.t 11) c9_5 .skip
def c9_7 : SCode := .seq (.region c9_3 [4, 5, 11]) c9_6
def c9_8 : List SOper := [⟨some 15, .q (.mv (.t 5)), none⟩, ⟨some 16, .q (.mv (.t 4)), none⟩, ⟨some 17, .q (.mv (.t 5)), none⟩, ⟨some 18, .e (.call 36 [(.t 16), (.t 17)]), none⟩, ⟨some 2, .q (.mv (.t 15)), none⟩, ⟨some 3, .q (.mv (.t 18)), none⟩]
def c9_9 : SCode := .seq (.region c9_8 [2, 3]) .ret
def c9_10 : SCode := .seq c9_7 c9_9
def c9_11 : SCode := .seq (.region c9_2 [4, 5]) c9_10
def c9_12 : SCode := .seq (.region c9_1 [4]) c9_11
def c9_13 : SCode := .seq (.region c9_0 [0]) c9_12
def c9 : SCode := c9_13
theorem w9 : type_of% (And.intro (uR Try.prog c9_0.eq_1) (And.intro (uR Try.prog c9_1.eq_1) (And.intro (uR Try.prog c9_2.eq_1) (And.intro (uR Try.prog c9_3.eq_1) (And.intro (uR Try.prog c9_4.eq_1) (And.intro (uC Try.prog c9_5.eq_1) (And.intro (uC Try.prog c9_6.eq_1) (And.intro (uC Try.prog c9_7.eq_1) (And.intro (uR Try.prog c9_8.eq_1) (And.intro (uC Try.prog c9_9.eq_1) (And.intro (uC Try.prog c9_10.eq_1) (And.intro (uC Try.prog c9_11.eq_1) (And.intro (uC Try.prog c9_12.eq_1) (And.intro (uC Try.prog c9_13.eq_1) (uC Try.prog c9.eq_1))))))))))))))) := (And.intro (uR Try.prog c9_0.eq_1) (And.intro (uR Try.prog c9_1.eq_1) (And.intro (uR Try.prog c9_2.eq_1) (And.intro (uR Try.prog c9_3.eq_1) (And.intro (uR Try.prog c9_4.eq_1) (And.intro (uC Try.prog c9_5.eq_1) (And.intro (uC Try.prog c9_6.eq_1) (And.intro (uC Try.prog c9_7.eq_1) (And.intro (uR Try.prog c9_8.eq_1) (And.intro (uC Try.prog c9_9.eq_1) (And.intro (uC Try.prog c9_10.eq_1) (And.intro (uC Try.prog c9_11.eq_1) (And.intro (uC Try.prog c9_12.eq_1) (And.intro (uC Try.prog c9_13.eq_1) (uC Try.prog c9.eq_1)))))))))))))))
def v9 : List RV := [.t 2, .t 3]
theorem s9 : slimF Try.prog Try.f9 = some (c9.bare, v9) := by kernel_rfl
/-! 18 loop.example/g00066/impl.Shift: parameters 2, live [0, 1], slots [0:list, 1:at, 2:list, 3:at, 5:place, 6:_, 7:c] -/
def c18_0 : List SOper := [⟨some 4, .q (.mv (.c (.int .i64 0))), none⟩]
def c18_1 : List SOper := [⟨some 8, .q (.mv (.t 0)), none⟩, ⟨some 9, .e (.call 55 [(.t 8)]), none⟩, ⟨some 10, .q (.not (.t 9)), none⟩, ⟨some 11, .q (.mv (.t 10)), none⟩, ⟨some 12, .q (.mv (.t 1)), some (11, false)⟩, ⟨some 13, .q (.bin .lss (.t 12) (.c (.int .i64 0))), some (11, false)⟩, ⟨some 14, .q (.pick (.t 11) (.c (.bool true)) (.t 13)), none⟩]
def c18_2 : List SOper := [⟨some 4, .q (.mv (.c (.int .i64 (-1)))), none⟩]
def c18_3 : SCode := .seq (.region c18_2 [4]) .ret
def c18_4 : SCode := .cond (.t 14) c18_3 .skip
def c18_5 : SCode := .seq (.region c18_1 [0, 1, 14]) c18_4
def c18_6 : List SOper := [⟨some 5, .q (.mv (.c (.int .i64 0))), none⟩]
def c18_7 : List SOper := [⟨some 15, .q (.mv (.t 0)), none⟩, ⟨some 16, .q (.len (.t 15)), none⟩, ⟨some 17, .q (.mv (.c (.int .i64 0))), none⟩]
def c18_8 : List SOper := [⟨some 18, .q (.bin .lss (.t 17) (.t 16)), none⟩]
def c18_9 : SCode := .cond (.t 18) .skip (.exit 0)
def c18_10 : List SOper := [⟨some 19, .q (.ia 4 (.t 15) (.t 17)), none⟩, ⟨some 20, .q (.ldn 4 (.t 19)), none⟩, ⟨some 7, .a (.new [(.int .i64 0), (.int .i64 0), (.int .i64 0), (.int .i64 0)]), none⟩, ⟨none, .e (.st 4 (.t 7) (.t 20)), none⟩]
def c18_11 : List SOper := [⟨some 21, .q (.fa 0 (.t 7)), none⟩, ⟨some 22, .q (.ld (.t 21)), none⟩, ⟨some 23, .q (.bin .neq (.t 22) (.c (.int .i64 3))), none⟩]
def c18_12 : List SOper := [⟨some 24, .q (.mv (.t 1)), none⟩, ⟨some 25, .q (.fa 3 (.t 7)), none⟩, ⟨some 26, .q (.ld (.t 25)), none⟩, ⟨some 27, .q (.bin .lss (.t 24) (.t 26)), none⟩]
def c18_13 : List SOper := [⟨some 28, .q (.fa 0 (.t 7)), none⟩, ⟨some 29, .q (.ld (.t 28)), none⟩, ⟨some 30, .q (.bin .eql (.t 29) (.c (.int .i64 2))), none⟩]
def c18_14 : List SOper := [⟨some 4, .q (.mv (.c (.int .i64 (-1)))), none⟩]
def c18_15 : SCode := .seq (.region c18_14 [4]) .ret
def c18_16 : SCode := .cond (.t 30) c18_15 .skip
def c18_17 : SCode := .seq (.region c18_13 [1, 5, 30]) c18_16
def c18_18 : List SOper := [⟨some 31, .q (.mv (.t 5)), none⟩, ⟨some 32, .q (.mv (.t 1)), none⟩, ⟨some 33, .q (.bin .add (.t 31) (.t 32)), none⟩, ⟨some 4, .q (.mv (.t 33)), none⟩]
def c18_19 : SCode := .seq (.region c18_18 [4]) .ret
def c18_20 : SCode := .seq c18_17 c18_19
def c18_21 : SCode := .cond (.t 27) c18_20 .skip
def c18_22 : SCode := .seq (.region c18_12 [1, 5, 7, 15, 16, 17, 27]) c18_21
def c18_23 : List SOper := [⟨some 34, .q (.mv (.t 1)), none⟩, ⟨some 35, .q (.fa 3 (.t 7)), none⟩, ⟨some 36, .q (.ld (.t 35)), none⟩, ⟨some 37, .q (.bin .sub (.t 34) (.t 36)), none⟩, ⟨some 1, .q (.mv (.t 37)), none⟩]
def c18_24 : SCode := .seq c18_22 (.region c18_23 [1, 5, 7, 15, 16, 17])
def c18_25 : SCode := .cond (.t 23) c18_24 .skip
def c18_26 : SCode := .seq (.region c18_11 [1, 5, 7, 15, 16, 17, 23]) c18_25
def c18_27 : List SOper := [⟨some 38, .q (.fa 0 (.t 7)), none⟩, ⟨some 39, .q (.ld (.t 38)), none⟩, ⟨some 40, .q (.bin .neq (.t 39) (.c (.int .i64 2))), none⟩]
def c18_28 : List SOper := [⟨some 41, .q (.mv (.t 5)), none⟩, ⟨some 42, .q (.fa 3 (.t 7)), none⟩, ⟨some 43, .q (.ld (.t 42)), none⟩, ⟨some 44, .q (.bin .add (.t 41) (.t 43)), none⟩, ⟨some 5, .q (.mv (.t 44)), none⟩]
def c18_29 : SCode := .cond (.t 40) (.region c18_28 [1, 5, 15, 16, 17]) .skip
def c18_30 : SCode := .seq (.region c18_27 [1, 5, 7, 15, 16, 17, 40]) c18_29
def c18_31 : SCode := .seq c18_26 c18_30
def c18_32 : SCode := .seq (.region c18_10 [1, 5, 7, 15, 16, 17]) c18_31
def c18_33 : SCode := .block 1 c18_32
def c18_34 : List SOper := [⟨some 45, .q (.bin .add (.t 17) (.c (.int .i64 1))), none⟩, ⟨some 17, .q (.mv (.t 45)), none⟩]
def c18_35 : SCode := .seq c18_33 (.region c18_34 [1, 5, 15, 16, 17])
def c18_36 : SCode := .seq c18_9 c18_35
def c18_37 : SCode := .seq (.region c18_8 [1, 5, 15, 16, 17, 18]) c18_36
def c18_38 : SCode := .loop c18_37
def c18_39 : SCode := .block 0 c18_38
def c18_40 : SCode := .seq (.region c18_7 [1, 5, 15, 16, 17]) c18_39
def c18_41 : List SOper := [⟨some 4, .q (.mv (.c (.int .i64 (-1)))), none⟩]
def c18_42 : SCode := .seq (.region c18_41 [4]) .ret
def c18_43 : SCode := .seq c18_40 c18_42
def c18_44 : SCode := .seq (.region c18_6 [0, 1, 5]) c18_43
def c18_45 : SCode := .seq c18_5 c18_44
def c18_46 : SCode := .seq (.region c18_0 [0, 1]) c18_45
def c18 : SCode := c18_46
theorem w18 : type_of% (And.intro (uR Try.prog c18_0.eq_1) (And.intro (uR Try.prog c18_1.eq_1) (And.intro (uR Try.prog c18_2.eq_1) (And.intro (uC Try.prog c18_3.eq_1) (And.intro (uC Try.prog c18_4.eq_1) (And.intro (uC Try.prog c18_5.eq_1) (And.intro (uR Try.prog c18_6.eq_1) (And.intro (uR Try.prog c18_7.eq_1) (And.intro (uR Try.prog c18_8.eq_1) (And.intro (uC Try.prog c18_9.eq_1) (And.intro (uR Try.prog c18_10.eq_1) (And.intro (uR Try.prog c18_11.eq_1) (And.intro (uR Try.prog c18_12.eq_1) (And.intro (uR Try.prog c18_13.eq_1) (And.intro (uR Try.prog c18_14.eq_1) (And.intro (uC Try.prog c18_15.eq_1) (And.intro (uC Try.prog c18_16.eq_1) (And.intro (uC Try.prog c18_17.eq_1) (And.intro (uR Try.prog c18_18.eq_1) (And.intro (uC Try.prog c18_19.eq_1) (And.intro (uC Try.prog c18_20.eq_1) (And.intro (uC Try.prog c18_21.eq_1) (And.intro (uC Try.prog c18_22.eq_1) (And.intro (uR Try.prog c18_23.eq_1) (And.intro (uC Try.prog c18_24.eq_1) (And.intro (uC Try.prog c18_25.eq_1) (And.intro (uC Try.prog c18_26.eq_1) (And.intro (uR Try.prog c18_27.eq_1) (And.intro (uR Try.prog c18_28.eq_1) (And.intro (uC Try.prog c18_29.eq_1) (And.intro (uC Try.prog c18_30.eq_1) (And.intro (uC Try.prog c18_31.eq_1) (And.intro (uC Try.prog c18_32.eq_1) (And.intro (uC Try.prog c18_33.eq_1) (And.intro (uR Try.prog c18_34.eq_1) (And.intro (uC Try.prog c18_35.eq_1) (And.intro (uC Try.prog c18_36.eq_1) (And.intro (uC Try.prog c18_37.eq_1) (And.intro (uC Try.prog c18_38.eq_1) (And.intro (uC Try.prog c18_39.eq_1) (And.intro (uC Try.prog c18_40.eq_1) (And.intro (uR Try.prog c18_41.eq_1) (And.intro (uC Try.prog c18_42.eq_1) (And.intro (uC Try.prog c18_43.eq_1) (And.intro (uC Try.prog c18_44.eq_1) (And.intro (uC Try.prog c18_45.eq_1) (And.intro (uC Try.prog c18_46.eq_1) (uC Try.prog c18.eq_1)))))))))))))))))))))))))))))))))))))))))))))))) := (And.intro (uR Try.prog c18_0.eq_1) (And.intro (uR Try.prog c18_1.eq_1) (And.intro (uR Try.prog c18_2.eq_1) (And.intro (uC Try.prog c18_3.eq_1) (And.intro (uC Try.prog c18_4.eq_1) (And.intro (uC Try.prog c18_5.eq_1) (And.intro (uR Try.prog c18_6.eq_1) (And.intro (uR Try.prog c18_7.eq_1) (And.intro (uR Try.prog c18_8.eq_1) (And.intro (uC Try.prog c18_9.eq_1) (And.intro (uR Try.prog c18_10.eq_1) (And.intro (uR Try.prog c18_11.eq_1) (And.intro (uR Try.prog c18_12.eq_1) (And.intro (uR Try.prog c18_13.eq_1) (And.intro (uR Try.prog c18_14.eq_1) (And.intro (uC Try.prog c18_15.eq_1) (And.intro (uC Try.prog c18_16.eq_1) (And.intro (uC Try.prog c18_17.eq_1) (And.intro (uR Try.prog c18_18.eq_1) (And.intro (uC Try.prog c18_19.eq_1) (And.intro (uC Try.prog c18_20.eq_1) (And.intro (uC Try.prog c18_21.eq_1) (And.intro (uC Try.prog c18_22.eq_1) (And.intro (uR Try.prog c18_23.eq_1) (And.intro (uC Try.prog c18_24.eq_1) (And.intro (uC Try.prog c18_25.eq_1) (And.intro (uC Try.prog c18_26.eq_1) (And.intro (uR Try.prog c18_27.eq_1) (And.intro (uR Try.prog c18_28.eq_1) (And.intro (uC Try.prog c18_29.eq_1) (And.intro (uC Try.prog c18_30.eq_1) (And.intro (uC Try.prog c18_31.eq_1) (And.intro (uC Try.prog c18_32.eq_1) (And.intro (uC Try.prog c18_33.eq_1) (And.intro (uR Try.prog c18_34.eq_1) (And.intro (uC Try.prog c18_35.eq_1) (And.intro (uC Try.prog c18_36.eq_1) (And.intro (uC Try.prog c18_37.eq_1) (And.intro (uC Try.prog c18_38.eq_1) (And.intro (uC Try.prog c18_39.eq_1) (And.intro (uC Try.prog c18_40.eq_1) (And.intro (uR Try.prog c18_41.eq_1) (And.intro (uC Try.prog c18_42.eq_1) (And.intro (uC Try.prog c18_43.eq_1) (And.intro (uC Try.prog c18_44.eq_1) (And.intro (uC Try.prog c18_45.eq_1) (And.intro (uC Try.prog c18_46.eq_1) (uC Try.prog c18.eq_1))))))))))))))))))))))))))))))))))))))))))))))))
def v18 : List RV := [.t 4]
theorem s18 : slimF Try.prog Try.f18 = some (c18.bare, v18) := by kernel_rfl

theorem DrawChanges_ok (h : Heap) (v : Value) (code : List Int) (s : SlT h encByte 1 v code) (hl : code.length ≤ 4096) :
    ACall Try.prog 9 [v] h fun r h' => ∃ av bv l m, r = .tuple #[av, bv] ∧ Fresh h h' encClip 3 av l ∧ Fresh h h' encClip 3 bv m ∧ l.length ≤ 1000 ∧ m.length ≤ 1000 := by
  refine ACall.of Try.func9 s9 (of_decide_eq_true rfl) ?_
  simp (maxSteps := 4000000) (disch := omega) only [ah, am, Nat.reduceEqDiff, reduceCtorEq, Nat.reduceAdd, Nat.reduceLeDiff, Nat.reduceMul, Nat.reduceLT, if_true, if_false, true_and, and_true, and_self, Nat.reduceBEq, QOp.loads, boxO, bslO, buildO, cutL, fillV, putL, w9, v9]
  refine stepC.of (l1New_ok _ _ _ s hl) ?_
  rintro _ H1 ⟨e1, rfl, k⟩
  have hc := k.lt
  have hm : h.size ∈ [h.size] := by simp
  simp (maxSteps := 4000000) (disch := omega) only [ah, am, Nat.reduceEqDiff, reduceCtorEq, Nat.reduceAdd, Nat.reduceLeDiff, Nat.reduceMul, Nat.reduceLT, if_true, if_false, true_and, and_true, and_self, Nat.reduceBEq, QOp.loads, boxO, bslO, buildO, cutL, fillV, putL, w9, v9]
  refine stepC.of (l4DrawTrack_ok _ _ k) ?_
  rintro av H2 ⟨l, F, k, D⟩
  simp (maxSteps := 4000000) (disch := omega) only [ah, am, Nat.reduceEqDiff, reduceCtorEq, Nat.reduceAdd, Nat.reduceLeDiff, Nat.reduceMul, Nat.reduceLT, if_true, if_false, true_and, and_true, and_self, Nat.reduceBEq, QOp.loads, boxO, bslO, buildO, cutL, fillV, putL, w9, v9]
  refine stepC.of (l1Once_ok _ _ _ k) ?_
  rintro _ H3 ⟨b, rfl, g, k⟩
  have F := F.stepG g hm hc
  have D2 := D.2
  cases b with
  | true =>
    simp (maxSteps := 4000000) (disch := omega) only [ah, am, Nat.reduceEqDiff, reduceCtorEq, Nat.reduceAdd, Nat.reduceLeDiff, Nat.reduceMul, Nat.reduceLT, if_true, if_false, true_and, and_true, and_self, Nat.reduceBEq, QOp.loads, boxO, bslO, buildO, cutL, fillV, putL, w9, v9]
    refine stepC.of (l4DrawTrack_ok _ _ k) ?_
    rintro bv H4 ⟨m, F2, k, D'⟩
    have G := F2.mono F.ext
    have F := F.stepG F2.ext.toG hm hc
    have D2' := D'.2
    simp (maxSteps := 4000000) (disch := omega) only [ah, am, Nat.reduceEqDiff, reduceCtorEq, Nat.reduceAdd, Nat.reduceLeDiff, Nat.reduceMul, Nat.reduceLT, if_true, if_false, true_and, and_true, and_self, Nat.reduceBEq, QOp.loads, boxO, bslO, buildO, cutL, fillV, putL, w9, v9]
    exact ⟨av, bv, l, m, rfl, F.out' e1 (Nat.le_refl _), G.out' e1 (Nat.le_refl _), by omega, by omega⟩
  | false =>
    simp (maxSteps := 4000000) (disch := omega) only [ah, am, Nat.reduceEqDiff, reduceCtorEq, Nat.reduceAdd, Nat.reduceLeDiff, Nat.reduceMul, Nat.reduceLT, if_true, if_false, true_and, and_true, and_self, Nat.reduceBEq, QOp.loads, boxO, bslO, buildO, cutL, fillV, putL, w9, v9]
    refine stepC.of (l5DrawNext_ok _ _ _ _ F.slt k (by omega)) ?_
    rintro bv H4 ⟨m, F2, k, D'⟩
    have G := F2.mono F.ext
    have F := F.stepG F2.ext.toG hm hc
    simp (maxSteps := 4000000) (disch := omega) only [ah, am, Nat.reduceEqDiff, reduceCtorEq, Nat.reduceAdd, Nat.reduceLeDiff, Nat.reduceMul, Nat.reduceLT, if_true, if_false, true_and, and_true, and_self, Nat.reduceBEq, QOp.loads, boxO, bslO, buildO, cutL, fillV, putL, w9, v9]
    exact ⟨av, bv, l, m, rfl, F.out' e1 (Nat.le_refl _), G.out' e1 (Nat.le_refl _), by omega, by omega⟩
/-- Where a frame goes by some changes. -/
def shiftF (l : List Change) (i : Int) : Int := if changesOk l ∧ 0 ≤ i then shiftL l i 0 else -1
theorem Shift_ok (h : Heap) (v : Value) (l : List Change) (i : Int) (s : SlT h encChange 4 v l) (hl : l.length ≤ 1100000) (hi : i ≤ 1000000000000) :
    ACall Try.prog 18 [v, .int .i64 i] h fun r h' => Ext h h' ∧ r = .int .i64 (shiftF l i) := by
  refine ACall.of Try.func18 s18 (of_decide_eq_true rfl) ?_
  simp (maxSteps := 4000000) (disch := omega) only [ah, am, Nat.reduceEqDiff, reduceCtorEq, Nat.reduceAdd, Nat.reduceLeDiff, Nat.reduceMul, Nat.reduceLT, if_true, if_false, true_and, and_true, and_self, Nat.reduceBEq, QOp.loads, boxO, bslO, buildO, cutL, fillV, putL, w18, v18]
  refine stepC.of (changesOk_ok _ _ _ s hl) ?_
  rintro _ H1 ⟨e1, rfl⟩
  by_cases hc : changesOk l
  rotate_left
  · have hc' : decide (changesOk l) = false := decide_eq_false hc
    simp (maxSteps := 4000000) (disch := omega) only [ah, am, Nat.reduceEqDiff, reduceCtorEq, Nat.reduceAdd, Nat.reduceLeDiff, Nat.reduceMul, Nat.reduceLT, if_true, if_false, true_and, and_true, and_self, Nat.reduceBEq, QOp.loads, boxO, bslO, buildO, cutL, fillV, putL, w18, v18, hc']
    rw [show shiftF l i = -1 from if_neg fun q => hc q.1]
    exact ⟨e1, rfl⟩
  have hc' : decide (changesOk l) = true := decide_eq_true hc
  by_cases h0 : 0 ≤ i
  rotate_left
  · have h0' : decide (i < 0) = true := decide_eq_true (by omega)
    simp (maxSteps := 4000000) (disch := omega) only [ah, am, Nat.reduceEqDiff, reduceCtorEq, Nat.reduceAdd, Nat.reduceLeDiff, Nat.reduceMul, Nat.reduceLT, if_true, if_false, true_and, and_true, and_self, Nat.reduceBEq, QOp.loads, boxO, bslO, buildO, cutL, fillV, putL, w18, v18, hc', h0']
    rw [show shiftF l i = -1 from if_neg fun q => h0 q.2]
    exact ⟨e1, rfl⟩
  have h0' : decide (i < 0) = false := decide_eq_false (by omega)
  rw [show shiftF l i = shiftL l i 0 from if_pos ⟨hc, h0⟩]
  have hlen := hc.1; have hok := hc.2
  have R := (s.ext e1).rulesN
  simp (maxSteps := 4000000) (disch := omega) only [ah, am, Nat.reduceEqDiff, reduceCtorEq, Nat.reduceAdd, Nat.reduceLeDiff, Nat.reduceMul, Nat.reduceLT, if_true, if_false, true_and, and_true, and_self, Nat.reduceBEq, QOp.loads, boxO, bslO, buildO, cutL, fillV, putL, w18, v18, hc', h0', R]
  refine SW_loop_up (fun j E H => ∃ (at_ p : Int) (tl : Env), E = (1, .int .i64 at_) :: (5, .int .i64 p) :: (15, v) :: (16, .int .i64 l.length) :: (17, .int .i64 j) :: tl ∧ Ext h H ∧ 0 ≤ at_ ∧ at_ ≤ i ∧ 0 ≤ p ∧ p ≤ 10000000 * j ∧ shiftL (l.drop j) at_ p = shiftL l i 0) l.length 0 (by omega)
    ⟨i, 0, _, rfl, e1, h0, by omega, by omega, by omega, rfl⟩ ?_
  rintro j E H hj ⟨at_, p, tl, rfl, e, a0, a1, p0, p1, J⟩
  have R := (s.ext e).rulesN
  have W : IntKind.i64.wrap ((j : Int) + 1) = ((j + 1 : Nat) : Int) := i64e (by omega) (by omega)
  by_cases hj' : j < l.length
  rotate_left
  · have hp' : decide ((j : Int) < l.length) = false := decide_eq_false (by omega)
    simp (maxSteps := 4000000) (disch := omega) only [ah, am, Nat.reduceEqDiff, reduceCtorEq, Nat.reduceAdd, Nat.reduceLeDiff, Nat.reduceMul, Nat.reduceLT, if_true, if_false, true_and, and_true, and_self, Nat.reduceBEq, QOp.loads, boxO, bslO, buildO, cutL, fillV, putL, w18, v18, R, hp']
    rw [List.drop_eq_nil_of_le (by omega)] at J
    exact ⟨e, by rw [← J]; rfl⟩
  have hp' : decide ((j : Int) < l.length) = true := decide_eq_true (by omega)
  have ck := hok _ (List.getElem_mem hj')
  have cl := changeOk_len ck
  have hk3 : l[j].kind = 3 ∨ l[j].kind = 1 ∨ l[j].kind = 2 := by simp only [changeOk] at ck; omega
  rw [List.drop_eq_getElem_cons hj', shiftL] at J
  have e2 := e.trans (Ext.more H [encChange l[j]])
  simp only [encChange] at e2
  have W1 : IntKind.i64.wrap (p + l[j].len) = p + l[j].len := i64w (by omega)
  have W2 : IntKind.i64.wrap (at_ - l[j].len) = at_ - l[j].len := i64w (by omega)
  have W3 : IntKind.i64.wrap (p + at_) = p + at_ := i64w (by omega)
  by_cases h3 : l[j].kind = 3
  · have h3' : decide (l[j].kind = 3) = true := decide_eq_true h3
    have h2' : decide (l[j].kind = 2) = false := decide_eq_false (by omega)
    rw [if_pos h3] at J
    simp (maxSteps := 4000000) (disch := omega) only [ah, am, Nat.reduceEqDiff, reduceCtorEq, Nat.reduceAdd, Nat.reduceLeDiff, Nat.reduceMul, Nat.reduceLT, if_true, if_false, true_and, and_true, and_self, Nat.reduceBEq, QOp.loads, boxO, bslO, buildO, cutL, fillV, putL, w18, v18, R, hp', encChange, h3', h2', W, W1]
    exact ⟨hj', at_, _, _, rfl, e2, a0, a1, by omega, by omega, J⟩
  have h3' : decide (l[j].kind = 3) = false := decide_eq_false h3
  rw [if_neg h3] at J
  by_cases hlt : at_ < l[j].len
  · have hlt' : decide (at_ < l[j].len) = true := decide_eq_true hlt
    rw [if_pos hlt] at J
    by_cases h2 : l[j].kind = 2
    · have h2' : decide (l[j].kind = 2) = true := decide_eq_true h2
      rw [if_pos h2] at J
      simp (maxSteps := 4000000) (disch := omega) only [ah, am, Nat.reduceEqDiff, reduceCtorEq, Nat.reduceAdd, Nat.reduceLeDiff, Nat.reduceMul, Nat.reduceLT, if_true, if_false, true_and, and_true, and_self, Nat.reduceBEq, QOp.loads, boxO, bslO, buildO, cutL, fillV, putL, w18, v18, R, hp', encChange, h3', hlt', h2']
      exact ⟨e2, by rw [← J]⟩
    · have h2' : decide (l[j].kind = 2) = false := decide_eq_false h2
      rw [if_neg h2] at J
      simp (maxSteps := 4000000) (disch := omega) only [ah, am, Nat.reduceEqDiff, reduceCtorEq, Nat.reduceAdd, Nat.reduceLeDiff, Nat.reduceMul, Nat.reduceLT, if_true, if_false, true_and, and_true, and_self, Nat.reduceBEq, QOp.loads, boxO, bslO, buildO, cutL, fillV, putL, w18, v18, R, hp', encChange, h3', hlt', h2', W3]
      exact ⟨e2, by rw [← J]⟩
  have hlt' : decide (at_ < l[j].len) = false := decide_eq_false hlt
  rw [if_neg hlt] at J
  by_cases h2 : l[j].kind = 2
  · have h2' : decide (l[j].kind = 2) = true := decide_eq_true h2
    rw [if_pos h2] at J
    simp (maxSteps := 4000000) (disch := omega) only [ah, am, Nat.reduceEqDiff, reduceCtorEq, Nat.reduceAdd, Nat.reduceLeDiff, Nat.reduceMul, Nat.reduceLT, if_true, if_false, true_and, and_true, and_self, Nat.reduceBEq, QOp.loads, boxO, bslO, buildO, cutL, fillV, putL, w18, v18, R, hp', encChange, h3', hlt', h2', W, W2]
    exact ⟨hj', _, _, _, rfl, e2, by omega, by omega, by omega, by omega, J⟩
  · have h2' : decide (l[j].kind = 2) = false := decide_eq_false h2
    rw [if_neg h2] at J
    simp (maxSteps := 4000000) (disch := omega) only [ah, am, Nat.reduceEqDiff, reduceCtorEq, Nat.reduceAdd, Nat.reduceLeDiff, Nat.reduceMul, Nat.reduceLT, if_true, if_false, true_and, and_true, and_self, Nat.reduceBEq, QOp.loads, boxO, bslO, buildO, cutL, fillV, putL, w18, v18, R, hp', encChange, h3', hlt', h2', W, W1, W2]
    exact ⟨hj', _, _, _, rfl, e2, by omega, by omega, by omega, by omega, J⟩
end Go.Proofs.Ytbnppofkpgfhnaa
