import Derived.Test.YtknpombiomnkbaaS4
namespace Go.Proofs.Ytknpombiomnkbaa
open Go Go.Ah
set_option linter.unusedSimpArgs false
set_option linter.unusedVariables false
set_option maxRecDepth 10000
set_option maxHeartbeats 4000000
/-! 84 loop.example/g00066/spec.l4Real: parameters 2, live [0, 1], slots [0:track, 1:i, 2:track, 3:i] -/
def c84_0 : List SOper := [⟨some 4, .q (.mv (.c (.bool false))), none⟩]
def c84_1 : List SOper := [⟨some 5, .q (.mv (.t 1)), none⟩, ⟨some 6, .q (.bin .geq (.t 5) (.c (.int .i64 0))), none⟩, ⟨some 7, .q (.mv (.t 6)), none⟩, ⟨some 8, .q (.mv (.t 1)), some (7, true)⟩, ⟨some 9, .q (.mv (.t 0)), some (7, true)⟩, ⟨some 10, .q (.len (.t 9)), some (7, true)⟩, ⟨some 11, .q (.bin .lss (.t 8) (.t 10)), some (7, true)⟩, ⟨some 12, .q (.pick (.t 7) (.t 11) (.c (.bool false))), none⟩, ⟨some 13, .q (.mv (.t 12)), none⟩, ⟨some 14, .q (.mv (.t 0)), some (13, true)⟩, ⟨some 15, .q (.mv (.t 1)), some (13, true)⟩, ⟨some 16, .q (.ia 3 (.t 14) (.t 15)), some (13, true)⟩, ⟨some 17, .q (.fa 0 (.t 16)), some (13, true)⟩, ⟨some 18, .q (.ld (.t 17)), some (13, true)⟩, ⟨some 19, .q (.bin .neq (.t 18) (.c (.int .i64 0))), some (13, true)⟩, ⟨some 20, .q (.pick (.t 13) (.t 19) (.c (.bool false))), none⟩, ⟨some 4, .q (.mv (.t 20)), none⟩]
def c84_2 : SCode := .seq (.region c84_1 [4]) .ret
def c84_3 : SCode := .seq (.region c84_0 [0, 1]) c84_2
def c84 : SCode := c84_3
theorem w84 : type_of% (And.intro (uR Try.prog c84_0.eq_1) (And.intro (uR Try.prog c84_1.eq_1) (And.intro (uC Try.prog c84_2.eq_1) (And.intro (uC Try.prog c84_3.eq_1) (uC Try.prog c84.eq_1))))) := (And.intro (uR Try.prog c84_0.eq_1) (And.intro (uR Try.prog c84_1.eq_1) (And.intro (uC Try.prog c84_2.eq_1) (And.intro (uC Try.prog c84_3.eq_1) (uC Try.prog c84.eq_1)))))
def v84 : List RV := [.t 4]
theorem s84 : slimF Try.prog Try.f84 = some (c84.bare, v84) := by kernel_rfl
/-! 57 loop.example/g00066/spec.l4By: parameters 1, live [0], slots [0:n, 1:n] -/
def c57_0 : List SOper := [⟨some 2, .q (.mv (.c (.bool false))), none⟩]
def c57_1 : List SOper := [⟨some 3, .q (.mv (.t 0)), none⟩, ⟨some 4, .e (.call 68 [(.t 3), (.c (.int .i64 (-10000000))), (.c (.int .i64 10000000))]), none⟩, ⟨some 2, .q (.mv (.t 4)), none⟩]
def c57_2 : SCode := .seq (.region c57_1 [2]) .ret
def c57_3 : SCode := .seq (.region c57_0 [0]) c57_2
def c57 : SCode := c57_3
theorem w57 : type_of% (And.intro (uR Try.prog c57_0.eq_1) (And.intro (uR Try.prog c57_1.eq_1) (And.intro (uC Try.prog c57_2.eq_1) (And.intro (uC Try.prog c57_3.eq_1) (uC Try.prog c57.eq_1))))) := (And.intro (uR Try.prog c57_0.eq_1) (And.intro (uR Try.prog c57_1.eq_1) (And.intro (uC Try.prog c57_2.eq_1) (And.intro (uC Try.prog c57_3.eq_1) (uC Try.prog c57.eq_1)))))
def v57 : List RV := [.t 2]
theorem s57 : slimF Try.prog Try.f57 = some (c57.bare, v57) := by kernel_rfl
/-! 40 loop.example/g00066/spec.Slip: parameters 3, live [0, 1, 2], slots [0:track, 1:i, 2:n, 3:track, 4:i, 5:n, 8:out] -/
def c40_0 : List SOper := [⟨some 6, .q (.mv (.c (.slice none 0 0))), none⟩, ⟨some 7, .q (.mv (.c (.bool false))), none⟩]
def c40_1 : List SOper := [⟨some 9, .q (.mv (.t 0)), none⟩, ⟨some 10, .e (.call 55 [(.t 9)]), none⟩, ⟨some 11, .q (.not (.t 10)), none⟩, ⟨some 12, .q (.mv (.t 11)), none⟩, ⟨some 13, .q (.mv (.t 2)), some (12, false)⟩, ⟨some 14, .e (.call 57 [(.t 13)]), some (12, false)⟩, ⟨some 15, .q (.not (.t 14)), some (12, false)⟩, ⟨some 16, .q (.pick (.t 12) (.c (.bool true)) (.t 15)), none⟩, ⟨some 17, .q (.mv (.t 16)), none⟩, ⟨some 18, .q (.mv (.t 0)), some (17, false)⟩, ⟨some 19, .q (.mv (.t 1)), some (17, false)⟩, ⟨some 20, .e (.call 84 [(.t 18), (.t 19)]), some (17, false)⟩, ⟨some 21, .q (.not (.t 20)), some (17, false)⟩, ⟨some 22, .q (.pick (.t 17) (.c (.bool true)) (.t 21)), none⟩]
def c40_2 : List SOper := [⟨some 23, .a (.bsl 0 3 [] []), none⟩, ⟨some 6, .q (.mv (.t 23)), none⟩, ⟨some 7, .q (.mv (.c (.bool false))), none⟩]
def c40_3 : SCode := .seq (.region c40_2 [6, 7]) .ret
def c40_4 : SCode := .cond (.t 22) c40_3 .skip
def c40_5 : SCode := .seq (.region c40_1 [0, 1, 2, 22]) c40_4
def c40_6 : List SOper := [⟨some 24, .a (.bsl 0 3 [] []), none⟩, ⟨some 25, .q (.mv (.t 0)), none⟩, ⟨some 26, .e (.app 24 3 (.t 24) (.t 25)), none⟩, ⟨some 8, .q (.mv (.t 26)), none⟩]
def c40_7 : List SOper := [⟨some 27, .q (.mv (.t 8)), none⟩, ⟨some 28, .q (.mv (.t 1)), none⟩, ⟨some 29, .q (.mv (.t 8)), none⟩, ⟨some 30, .q (.mv (.t 1)), none⟩, ⟨some 31, .q (.ia 3 (.t 29) (.t 30)), none⟩, ⟨some 32, .q (.fa 1 (.t 31)), none⟩, ⟨some 33, .q (.ld (.t 32)), none⟩, ⟨some 34, .q (.mv (.t 2)), none⟩, ⟨some 35, .q (.bin .add (.t 33) (.t 34)), none⟩, ⟨some 36, .q (.ia 3 (.t 27) (.t 28)), none⟩, ⟨some 37, .q (.fa 1 (.t 36)), none⟩, ⟨none, .e (.st 1 (.t 37) (.t 35)), none⟩]
def c40_8 : List SOper := [⟨some 38, .q (.mv (.t 8)), none⟩, ⟨some 39, .e (.call 58 [(.t 38)]), none⟩, ⟨some 40, .q (.ext (.t 39) 0), none⟩, ⟨some 41, .q (.ext (.t 39) 1), none⟩, ⟨some 6, .q (.mv (.t 40)), none⟩, ⟨some 7, .q (.mv (.t 41)), none⟩]
def c40_9 : SCode := .seq (.region c40_8 [6, 7]) .ret
def c40_10 : SCode := .seq (.region c40_7 [8]) c40_9
def c40_11 : SCode := .seq (.region c40_6 [1, 2, 8]) c40_10
def c40_12 : SCode := .seq c40_5 c40_11
def c40_13 : SCode := .seq (.region c40_0 [0, 1, 2]) c40_12
def c40 : SCode := c40_13
theorem w40 : type_of% (And.intro (uR Try.prog c40_0.eq_1) (And.intro (uR Try.prog c40_1.eq_1) (And.intro (uR Try.prog c40_2.eq_1) (And.intro (uC Try.prog c40_3.eq_1) (And.intro (uC Try.prog c40_4.eq_1) (And.intro (uC Try.prog c40_5.eq_1) (And.intro (uR Try.prog c40_6.eq_1) (And.intro (uR Try.prog c40_7.eq_1) (And.intro (uR Try.prog c40_8.eq_1) (And.intro (uC Try.prog c40_9.eq_1) (And.intro (uC Try.prog c40_10.eq_1) (And.intro (uC Try.prog c40_11.eq_1) (And.intro (uC Try.prog c40_12.eq_1) (And.intro (uC Try.prog c40_13.eq_1) (uC Try.prog c40.eq_1))))))))))))))) := (And.intro (uR Try.prog c40_0.eq_1) (And.intro (uR Try.prog c40_1.eq_1) (And.intro (uR Try.prog c40_2.eq_1) (And.intro (uC Try.prog c40_3.eq_1) (And.intro (uC Try.prog c40_4.eq_1) (And.intro (uC Try.prog c40_5.eq_1) (And.intro (uR Try.prog c40_6.eq_1) (And.intro (uR Try.prog c40_7.eq_1) (And.intro (uR Try.prog c40_8.eq_1) (And.intro (uC Try.prog c40_9.eq_1) (And.intro (uC Try.prog c40_10.eq_1) (And.intro (uC Try.prog c40_11.eq_1) (And.intro (uC Try.prog c40_12.eq_1) (And.intro (uC Try.prog c40_13.eq_1) (uC Try.prog c40.eq_1)))))))))))))))
def v40 : List RV := [.t 6, .t 7]
theorem s40 : slimF Try.prog Try.f40 = some (c40.bare, v40) := by kernel_rfl
/-! 44 loop.example/g00066/spec.Ripple: parameters 3, live [0, 1, 2], slots [0:track, 1:i, 2:n, 3:track, 4:i, 5:n, 8:out] -/
def c44_0 : List SOper := [⟨some 6, .q (.mv (.c (.slice none 0 0))), none⟩, ⟨some 7, .q (.mv (.c (.bool false))), none⟩]
def c44_1 : List SOper := [⟨some 9, .q (.mv (.t 0)), none⟩, ⟨some 10, .e (.call 55 [(.t 9)]), none⟩, ⟨some 11, .q (.not (.t 10)), none⟩, ⟨some 12, .q (.mv (.t 11)), none⟩, ⟨some 13, .q (.mv (.t 2)), some (12, false)⟩, ⟨some 14, .e (.call 57 [(.t 13)]), some (12, false)⟩, ⟨some 15, .q (.not (.t 14)), some (12, false)⟩, ⟨some 16, .q (.pick (.t 12) (.c (.bool true)) (.t 15)), none⟩, ⟨some 17, .q (.mv (.t 16)), none⟩, ⟨some 18, .q (.mv (.t 0)), some (17, false)⟩, ⟨some 19, .q (.mv (.t 1)), some (17, false)⟩, ⟨some 20, .e (.call 84 [(.t 18), (.t 19)]), some (17, false)⟩, ⟨some 21, .q (.not (.t 20)), some (17, false)⟩, ⟨some 22, .q (.pick (.t 17) (.c (.bool true)) (.t 21)), none⟩]
def c44_2 : List SOper := [⟨some 23, .a (.bsl 0 3 [] []), none⟩, ⟨some 6, .q (.mv (.t 23)), none⟩, ⟨some 7, .q (.mv (.c (.bool false))), none⟩]
def c44_3 : SCode := .seq (.region c44_2 [6, 7]) .ret
def c44_4 : SCode := .cond (.t 22) c44_3 .skip
def c44_5 : SCode := .seq (.region c44_1 [0, 1, 2, 22]) c44_4
def c44_6 : List SOper := [⟨some 24, .a (.bsl 0 3 [] []), none⟩, ⟨some 25, .q (.mv (.t 0)), none⟩, ⟨some 26, .e (.app 24 3 (.t 24) (.t 25)), none⟩, ⟨some 8, .q (.mv (.t 26)), none⟩]
def c44_7 : List SOper := [⟨some 27, .q (.mv (.t 8)), none⟩, ⟨some 28, .q (.mv (.t 1)), none⟩, ⟨some 29, .q (.mv (.t 8)), none⟩, ⟨some 30, .q (.mv (.t 1)), none⟩, ⟨some 31, .q (.ia 3 (.t 29) (.t 30)), none⟩, ⟨some 32, .q (.fa 2 (.t 31)), none⟩, ⟨some 33, .q (.ld (.t 32)), none⟩, ⟨some 34, .q (.mv (.t 2)), none⟩, ⟨some 35, .q (.bin .add (.t 33) (.t 34)), none⟩, ⟨some 36, .q (.ia 3 (.t 27) (.t 28)), none⟩, ⟨some 37, .q (.fa 2 (.t 36)), none⟩, ⟨none, .e (.st 1 (.t 37) (.t 35)), none⟩]
def c44_8 : List SOper := [⟨some 38, .q (.mv (.t 8)), none⟩, ⟨some 39, .e (.call 58 [(.t 38)]), none⟩, ⟨some 40, .q (.ext (.t 39) 0), none⟩, ⟨some 41, .q (.ext (.t 39) 1), none⟩, ⟨some 6, .q (.mv (.t 40)), none⟩, ⟨some 7, .q (.mv (.t 41)), none⟩]
def c44_9 : SCode := .seq (.region c44_8 [6, 7]) .ret
def c44_10 : SCode := .seq (.region c44_7 [8]) c44_9
def c44_11 : SCode := .seq (.region c44_6 [1, 2, 8]) c44_10
def c44_12 : SCode := .seq c44_5 c44_11
def c44_13 : SCode := .seq (.region c44_0 [0, 1, 2]) c44_12
def c44 : SCode := c44_13
theorem w44 : type_of% (And.intro (uR Try.prog c44_0.eq_1) (And.intro (uR Try.prog c44_1.eq_1) (And.intro (uR Try.prog c44_2.eq_1) (And.intro (uC Try.prog c44_3.eq_1) (And.intro (uC Try.prog c44_4.eq_1) (And.intro (uC Try.prog c44_5.eq_1) (And.intro (uR Try.prog c44_6.eq_1) (And.intro (uR Try.prog c44_7.eq_1) (And.intro (uR Try.prog c44_8.eq_1) (And.intro (uC Try.prog c44_9.eq_1) (And.intro (uC Try.prog c44_10.eq_1) (And.intro (uC Try.prog c44_11.eq_1) (And.intro (uC Try.prog c44_12.eq_1) (And.intro (uC Try.prog c44_13.eq_1) (uC Try.prog c44.eq_1))))))))))))))) := (And.intro (uR Try.prog c44_0.eq_1) (And.intro (uR Try.prog c44_1.eq_1) (And.intro (uR Try.prog c44_2.eq_1) (And.intro (uC Try.prog c44_3.eq_1) (And.intro (uC Try.prog c44_4.eq_1) (And.intro (uC Try.prog c44_5.eq_1) (And.intro (uR Try.prog c44_6.eq_1) (And.intro (uR Try.prog c44_7.eq_1) (And.intro (uR Try.prog c44_8.eq_1) (And.intro (uC Try.prog c44_9.eq_1) (And.intro (uC Try.prog c44_10.eq_1) (And.intro (uC Try.prog c44_11.eq_1) (And.intro (uC Try.prog c44_12.eq_1) (And.intro (uC Try.prog c44_13.eq_1) (uC Try.prog c44.eq_1)))))))))))))))
def v44 : List RV := [.t 6, .t 7]
theorem s44 : slimF Try.prog Try.f44 = some (c44.bare, v44) := by kernel_rfl

/-- A pair of a list and a bool, as a call answers it. -/
def Pair (h h' : Heap) (r : Value) (p : List Clip × Bool) : Prop := ∃ rv, r = .tuple #[rv, .bool p.2] ∧ Fresh h h' encClip 3 rv p.1
def editF (l : List Clip) : List Clip × Bool := if (∀ k ∈ l, clipOk k) ∧ trackOk (join l) then (join l, true) else ([], false)
theorem Pair.mono {h0 h h' : Heap} {r : Value} {p : List Clip × Bool} (f : Pair h h' r p) (e : Ext h0 h) : Pair h0 h' r p := by
  obtain ⟨rv, e1, f⟩ := f; exact ⟨rv, e1, f.mono e⟩
theorem l4Edit_ok (h : Heap) (v : Value) (l : List Clip) (s : SlT h encClip 3 v l) (hl : l.length ≤ 1100000) : ACall Try.prog 58 [v] h fun r h' => Pair h h' r (editF l) := by
  refine ACall.of Try.func58 s58 (of_decide_eq_true rfl) ?_
  simp (maxSteps := 4000000) (disch := omega) only [ah, am, Nat.reduceEqDiff, reduceCtorEq, Nat.reduceAdd, Nat.reduceLeDiff, Nat.reduceMul, Nat.reduceLT, if_true, if_false, true_and, and_true, and_self, Nat.reduceBEq, QOp.loads, boxO, bslO, buildO, cutL, fillV, putL, w58, v58]
  refine SW_loop_up (fun i E H => E = [(0, v), (4, .int .i64 i)] ∧ Ext h H ∧ ∀ k ∈ l.take i, clipOk k) l.length 0 (by omega) ⟨rfl, Ext.refl h, by simp⟩ ?_
  rintro i E H hi ⟨rfl, e, F⟩
  have R := (s.ext e).rulesN
  have W : IntKind.i64.wrap ((i : Int) + 1) = ((i + 1 : Nat) : Int) := i64e (by omega) (by omega)
  simp (maxSteps := 4000000) (disch := omega) only [ah, am, Nat.reduceEqDiff, reduceCtorEq, Nat.reduceAdd, Nat.reduceLeDiff, Nat.reduceMul, Nat.reduceLT, if_true, if_false, true_and, and_true, and_self, Nat.reduceBEq, QOp.loads, boxO, bslO, buildO, cutL, fillV, putL, w58, v58, R]
  refine stepI.split (fun hp => ?_) (fun hp => ?_)
  · simp (maxSteps := 4000000) (disch := omega) only [ah, am, Nat.reduceEqDiff, reduceCtorEq, Nat.reduceAdd, Nat.reduceLeDiff, Nat.reduceMul, Nat.reduceLT, if_true, if_false, true_and, and_true, and_self, Nat.reduceBEq, QOp.loads, boxO, bslO, buildO, cutL, fillV, putL, w58, v58, R, W]
    refine stepC.of (l4Clip_ok _ _) ?_
    rintro r H1 ⟨e1, rfl⟩
    simp (maxSteps := 4000000) (disch := omega) only [ah, am, Nat.reduceEqDiff, reduceCtorEq, Nat.reduceAdd, Nat.reduceLeDiff, Nat.reduceMul, Nat.reduceLT, if_true, if_false, true_and, and_true, and_self, Nat.reduceBEq, QOp.loads, boxO, bslO, buildO, cutL, fillV, putL, w58, v58, R, W]
    refine stepI.split (fun hk => ?_) (fun hk => ?_)
    · simp (maxSteps := 4000000) (disch := omega) only [ah, am, Nat.reduceEqDiff, reduceCtorEq, Nat.reduceAdd, Nat.reduceLeDiff, Nat.reduceMul, Nat.reduceLT, if_true, if_false, true_and, and_true, and_self, Nat.reduceBEq, QOp.loads, boxO, bslO, buildO, cutL, fillV, putL, w58, v58, R, W]
      exact ⟨by omega, e.trans e1, all_take (by omega) F hk⟩
    · simp (maxSteps := 4000000) (disch := omega) only [ah, am, Nat.reduceEqDiff, reduceCtorEq, Nat.reduceAdd, Nat.reduceLeDiff, Nat.reduceMul, Nat.reduceLT, if_true, if_false, true_and, and_true, and_self, Nat.reduceBEq, QOp.loads, boxO, bslO, buildO, cutL, fillV, putL, w58, v58]
      have hn : editF l = ([], false) := if_neg fun q => hk (q.1 _ (List.getElem_mem _))
      exact ⟨_, by rw [hn], by rw [hn]; exact (Fresh.new0 H1 encClip_len (by omega)).mono (e.trans e1)⟩
  · simp (maxSteps := 4000000) (disch := omega) only [ah, am, Nat.reduceEqDiff, reduceCtorEq, Nat.reduceAdd, Nat.reduceLeDiff, Nat.reduceMul, Nat.reduceLT, if_true, if_false, true_and, and_true, and_self, Nat.reduceBEq, QOp.loads, boxO, bslO, buildO, cutL, fillV, putL, w58, v58, R, W]
    obtain rfl : i = l.length := by omega
    rw [List.take_length] at F
    refine stepC.of (l4Join_ok _ _ _ (s.ext e) hl (fun k hk => (F k hk).in)) ?_
    intro r H1 F1
    simp (maxSteps := 4000000) (disch := omega) only [ah, am, Nat.reduceEqDiff, reduceCtorEq, Nat.reduceAdd, Nat.reduceLeDiff, Nat.reduceMul, Nat.reduceLT, if_true, if_false, true_and, and_true, and_self, Nat.reduceBEq, QOp.loads, boxO, bslO, buildO, cutL, fillV, putL, w58, v58]
    refine stepC.of (TrackOk_ok _ _ _ F1.slt (by have := join_length l; omega)) ?_
    rintro _ H2 ⟨e2, rfl⟩
    simp (maxSteps := 4000000) (disch := omega) only [ah, am, Nat.reduceEqDiff, reduceCtorEq, Nat.reduceAdd, Nat.reduceLeDiff, Nat.reduceMul, Nat.reduceLT, if_true, if_false, true_and, and_true, and_self, Nat.reduceBEq, QOp.loads, boxO, bslO, buildO, cutL, fillV, putL, w58, v58]
    refine stepI.split (fun hk => ?_) (fun hk => ?_)
    · simp (maxSteps := 4000000) (disch := omega) only [ah, am, Nat.reduceEqDiff, reduceCtorEq, Nat.reduceAdd, Nat.reduceLeDiff, Nat.reduceMul, Nat.reduceLT, if_true, if_false, true_and, and_true, and_self, Nat.reduceBEq, QOp.loads, boxO, bslO, buildO, cutL, fillV, putL, w58, v58]
      have hn : editF l = (join l, true) := if_pos ⟨F, hk⟩
      exact ⟨_, by rw [hn], by rw [hn]; exact (F1.ext e2).mono e⟩
    · simp (maxSteps := 4000000) (disch := omega) only [ah, am, Nat.reduceEqDiff, reduceCtorEq, Nat.reduceAdd, Nat.reduceLeDiff, Nat.reduceMul, Nat.reduceLT, if_true, if_false, true_and, and_true, and_self, Nat.reduceBEq, QOp.loads, boxO, bslO, buildO, cutL, fillV, putL, w58, v58]
      have hn : editF l = ([], false) := if_neg fun q => hk q.2
      exact ⟨_, by rw [hn], by rw [hn]; exact (Fresh.new0 H2 encClip_len (by omega)).mono (e.trans (F1.1.trans e2))⟩
theorem l4By_ok (h : Heap) (x : Int) : ACall Try.prog 57 [.int .i64 x] h fun r h' => h' = h ∧ r = .bool (decide (-10000000 ≤ x ∧ x ≤ 10000000)) := by
  refine ACall.of Try.func57 s57 (of_decide_eq_true rfl) ?_
  simp (maxSteps := 4000000) (disch := omega) only [ah, am, Nat.reduceEqDiff, reduceCtorEq, Nat.reduceAdd, Nat.reduceLeDiff, Nat.reduceMul, Nat.reduceLT, if_true, if_false, true_and, and_true, and_self, Nat.reduceBEq, QOp.loads, boxO, bslO, buildO, cutL, fillV, putL, w57, v57]
  (repeat' first
    | (refine stepC.of (l1In_ok _ _ _ _) ?_; rintro _ _ ⟨rfl, rfl⟩; simp (maxSteps := 4000000) (disch := omega) only [ah, am, Nat.reduceEqDiff, reduceCtorEq, Nat.reduceAdd, Nat.reduceLeDiff, Nat.reduceMul, Nat.reduceLT, if_true, if_false, true_and, and_true, and_self, Nat.reduceBEq, QOp.loads, boxO, bslO, buildO, cutL, fillV, putL, i64w, w57, v57])
    | (refine stepG.cases (fun _ hp => ?_) (fun _ hp => ?_) <;> simp (maxSteps := 4000000) (disch := omega) only [hp, ah, am, Nat.reduceEqDiff, reduceCtorEq, Nat.reduceAdd, Nat.reduceLeDiff, Nat.reduceMul, Nat.reduceLT, if_true, if_false, true_and, and_true, and_self, Nat.reduceBEq, QOp.loads, boxO, bslO, buildO, cutL, fillV, putL, i64w, w57, v57])
    | (refine stepI.cases (fun _ hp => ?_) (fun _ hp => ?_) <;> simp (maxSteps := 4000000) (disch := omega) only [hp, ah, am, Nat.reduceEqDiff, reduceCtorEq, Nat.reduceAdd, Nat.reduceLeDiff, Nat.reduceMul, Nat.reduceLT, if_true, if_false, true_and, and_true, and_self, Nat.reduceBEq, QOp.loads, boxO, bslO, buildO, cutL, fillV, putL, i64w, w57, v57]))
def cAt (l : List Clip) (i : Int) : Clip := l.getD i.toNat zClip
def realAt (l : List Clip) (i : Int) : Prop := 0 ≤ i ∧ i < l.length ∧ (cAt l i).src ≠ 0
instance (l : List Clip) (i : Int) : Decidable (realAt l i) := by unfold realAt; infer_instance
theorem cAt_eq (l : List Clip) (i : Int) (hi : i.toNat < l.length) : cAt l i = l[i.toNat] := by
  simp only [cAt, List.getD_eq_getElem?_getD, List.getElem?_eq_getElem hi, Option.getD_some]
theorem l4Real_ok (h : Heap) (v : Value) (l : List Clip) (i : Int) (s : SlT h encClip 3 v l) (hl : l.length ≤ 1100000) : ACall Try.prog 84 [v, .int .i64 i] h fun r h' => h' = h ∧ r = .bool (decide (realAt l i)) := by
  refine ACall.of Try.func84 s84 (of_decide_eq_true rfl) ?_
  have R := s.rules
  simp (maxSteps := 4000000) (disch := omega) only [ah, am, Nat.reduceEqDiff, reduceCtorEq, Nat.reduceAdd, Nat.reduceLeDiff, Nat.reduceMul, Nat.reduceLT, if_true, if_false, true_and, and_true, and_self, Nat.reduceBEq, QOp.loads, boxO, bslO, buildO, cutL, fillV, putL, w84, v84, R]
  refine stepG.cases (fun h0 hp => ?_) (fun h0 hp => ?_)
  · simp (maxSteps := 4000000) (disch := omega) only [ah, am, Nat.reduceEqDiff, reduceCtorEq, Nat.reduceAdd, Nat.reduceLeDiff, Nat.reduceMul, Nat.reduceLT, if_true, if_false, true_and, and_true, and_self, Nat.reduceBEq, QOp.loads, boxO, bslO, buildO, cutL, fillV, putL, w84, v84, hp, R]
    refine stepG.cases (fun h1 hq => ?_) (fun h1 hq => ?_)
    · have C := cAt_eq l i (by omega)
      simp (maxSteps := 4000000) (disch := omega) only [ah, am, Nat.reduceEqDiff, reduceCtorEq, Nat.reduceAdd, Nat.reduceLeDiff, Nat.reduceMul, Nat.reduceLT, if_true, if_false, true_and, and_true, and_self, Nat.reduceBEq, QOp.loads, boxO, bslO, buildO, cutL, fillV, putL, w84, v84, hp, hq, R, encClip]
      rw [← C]
      refine bool_dec ?_
      simp only [realAt, Bool.not_eq_true', decide_eq_false_iff_not]; exact ⟨fun q => ⟨h0, h1, q⟩, fun q => q.2.2⟩
    · simp (maxSteps := 4000000) (disch := omega) only [ah, am, Nat.reduceEqDiff, reduceCtorEq, Nat.reduceAdd, Nat.reduceLeDiff, Nat.reduceMul, Nat.reduceLT, if_true, if_false, true_and, and_true, and_self, Nat.reduceBEq, QOp.loads, boxO, bslO, buildO, cutL, fillV, putL, w84, v84, hp, hq, R, encClip]
      refine bool_dec ?_; try simp only [decide_eq_true_eq, Bool.false_eq_true, false_and, and_false, true_and, and_true, false_iff, iff_false, true_iff, iff_true, not_false_eq_true, false_or, or_false, true_or, or_true, realAt]; first | done | omega | (refine Iff.intro (fun hq => ?_) (fun hq => ?_) <;> omega)
  · simp (maxSteps := 4000000) (disch := omega) only [ah, am, Nat.reduceEqDiff, reduceCtorEq, Nat.reduceAdd, Nat.reduceLeDiff, Nat.reduceMul, Nat.reduceLT, if_true, if_false, true_and, and_true, and_self, Nat.reduceBEq, QOp.loads, boxO, bslO, buildO, cutL, fillV, putL, w84, v84, hp, R]
    refine bool_dec ?_; try simp only [decide_eq_true_eq, Bool.false_eq_true, false_and, and_false, true_and, and_true, false_iff, iff_false, true_iff, iff_true, not_false_eq_true, false_or, or_false, true_or, or_true, realAt]; first | done | omega | (refine Iff.intro (fun hq => ?_) (fun hq => ?_) <;> omega)
/-- A clip that is no gap turned into another one. -/
def turnF (l : List Clip) (i n : Int) (f : Clip → Clip) : List Clip × Bool :=
  if trackOk l ∧ (-10000000 ≤ n ∧ n ≤ 10000000) ∧ realAt l i then editF (l.set i.toNat (f (cAt l i))) else ([], false)
theorem specSlip_ok (h : Heap) (v : Value) (l : List Clip) (i n : Int) (s : SlT h encClip 3 v l) (hl : l.length ≤ 1100000) :
    ACall Try.prog 40 [v, .int .i64 i, .int .i64 n] h fun r h' => Pair h h' r (turnF l i n fun k => ⟨k.src, k.inn + n, k.len⟩) := by
  refine ACall.of Try.func40 s40 (of_decide_eq_true rfl) ?_
  simp (maxSteps := 4000000) (disch := omega) only [ah, am, Nat.reduceEqDiff, reduceCtorEq, Nat.reduceAdd, Nat.reduceLeDiff, Nat.reduceMul, Nat.reduceLT, if_true, if_false, true_and, and_true, and_self, Nat.reduceBEq, QOp.loads, boxO, bslO, buildO, cutL, fillV, putL, w40, v40]
  refine stepC.of (TrackOk_ok _ _ _ s (by omega)) ?_
  rintro _ H1 ⟨e1, rfl⟩
  have S1 := s.ext e1
  by_cases hc : trackOk l ∧ (-10000000 ≤ n ∧ n ≤ 10000000) ∧ realAt l i
  · obtain ⟨ht, hn, hr⟩ := hc
    have hi : 0 ≤ i ∧ i < l.length := ⟨hr.1, hr.2.1⟩
    have C := cAt_eq l i (by omega)
    have K := ht.2.1 _ (List.getElem_mem (l := l) (n := i.toNat) (by omega))
    rw [← C] at K
    obtain ⟨v2, H2, ea, F2⟩ := (Fresh.new0 H1 encClip_len (by omega)).app (S1.ext (Ext.more H1 [[]])) (bytes := 24) (by simp; omega)
    rw [List.nil_append] at F2
    have R2 := F2.slt.rules
    have E2 : encClip l[i.toNat] = [.int .i64 (cAt l i).src, .int .i64 (cAt l i).inn, .int .i64 (cAt l i).len] := by rw [← C]; rfl
    obtain ⟨H3, es, F3, -⟩ := F2.setF (j := i.toNat) (f := 1) (n := 1) (by omega) (x := (fun k : Clip => (⟨k.src, k.inn + n, k.len⟩ : Clip)) (cAt l i)) (y := .int .i64 ((cAt l i).inn + n)) (by rw [E2]; simp [encClip, splice, cells_int]) (by omega) rfl (by omega) rfl
    have hT : turnF l i n (fun k => ⟨k.src, k.inn + n, k.len⟩) = editF (l.set i.toNat ((fun k : Clip => (⟨k.src, k.inn + n, k.len⟩ : Clip)) (cAt l i))) := if_pos ⟨ht, hn, hr⟩
    have g : ∀ hj : i.toNat < l.length, encClip (l[i.toNat]'hj) = [.int .i64 (cAt l i).src, .int .i64 (cAt l i).inn, .int .i64 (cAt l i).len] := fun _ => E2
    simp only [clipOk] at K
    simp only [ht, hn, hr, decide_true, and_self]
    simp (maxSteps := 4000000) (disch := omega) only [ah, am, Nat.reduceEqDiff, reduceCtorEq, Nat.reduceAdd, Nat.reduceLeDiff, Nat.reduceMul, Nat.reduceLT, if_true, if_false, true_and, and_true, and_self, Nat.reduceBEq, QOp.loads, boxO, bslO, buildO, cutL, fillV, putL, w40, v40, i64w]
    refine stepC.of (l4By_ok _ _) ?_
    rintro _ _ ⟨rfl, rfl⟩
    simp (maxSteps := 4000000) (disch := omega) only [ah, am, Nat.reduceEqDiff, reduceCtorEq, Nat.reduceAdd, Nat.reduceLeDiff, Nat.reduceMul, Nat.reduceLT, if_true, if_false, true_and, and_true, and_self, Nat.reduceBEq, QOp.loads, boxO, bslO, buildO, cutL, fillV, putL, w40, v40, i64w, hn]
    refine stepC.of (l4Real_ok _ _ _ _ S1 hl) ?_
    rintro _ _ ⟨rfl, rfl⟩
    simp (maxSteps := 4000000) (disch := omega) only [ah, am, Nat.reduceEqDiff, reduceCtorEq, Nat.reduceAdd, Nat.reduceLeDiff, Nat.reduceMul, Nat.reduceLT, if_true, if_false, true_and, and_true, and_self, Nat.reduceBEq, QOp.loads, boxO, bslO, buildO, cutL, fillV, putL, w40, v40, i64w, hr, ea, R2, es, g]
    refine stepC.of (l4Edit_ok _ _ _ F3.slt (by simpa using hl)) ?_
    rintro _ H4 ⟨rv, rfl, F4⟩
    simp (maxSteps := 4000000) (disch := omega) only [ah, am, Nat.reduceEqDiff, reduceCtorEq, Nat.reduceAdd, Nat.reduceLeDiff, Nat.reduceMul, Nat.reduceLT, if_true, if_false, true_and, and_true, and_self, Nat.reduceBEq, QOp.loads, boxO, bslO, buildO, cutL, fillV, putL, w40, v40]
    rw [hT]
    exact ⟨rv, rfl, F4.mono (e1.trans F3.1)⟩
  · have hT : turnF l i n (fun k => ⟨k.src, k.inn + n, k.len⟩) = ([], false) := if_neg hc
    rw [hT]
    simp (maxSteps := 4000000) (disch := omega) only [ah, am, Nat.reduceEqDiff, reduceCtorEq, Nat.reduceAdd, Nat.reduceLeDiff, Nat.reduceMul, Nat.reduceLT, if_true, if_false, true_and, and_true, and_self, Nat.reduceBEq, QOp.loads, boxO, bslO, buildO, cutL, fillV, putL, w40, v40]
    (repeat' first
    | (refine stepC.of (l4By_ok _ _) ?_; rintro _ _ ⟨rfl, rfl⟩; simp (maxSteps := 4000000) (disch := omega) only [ah, am, Nat.reduceEqDiff, reduceCtorEq, Nat.reduceAdd, Nat.reduceLeDiff, Nat.reduceMul, Nat.reduceLT, if_true, if_false, true_and, and_true, and_self, Nat.reduceBEq, QOp.loads, boxO, bslO, buildO, cutL, fillV, putL, i64w, w40, v40])
    | (refine stepC.of (l4Real_ok _ _ _ _ S1 hl) ?_; rintro _ _ ⟨rfl, rfl⟩; simp (maxSteps := 4000000) (disch := omega) only [ah, am, Nat.reduceEqDiff, reduceCtorEq, Nat.reduceAdd, Nat.reduceLeDiff, Nat.reduceMul, Nat.reduceLT, if_true, if_false, true_and, and_true, and_self, Nat.reduceBEq, QOp.loads, boxO, bslO, buildO, cutL, fillV, putL, i64w, w40, v40])
    | (refine stepG.cases (fun _ hp => ?_) (fun _ hp => ?_) <;> simp (maxSteps := 4000000) (disch := omega) only [hp, ah, am, Nat.reduceEqDiff, reduceCtorEq, Nat.reduceAdd, Nat.reduceLeDiff, Nat.reduceMul, Nat.reduceLT, if_true, if_false, true_and, and_true, and_self, Nat.reduceBEq, QOp.loads, boxO, bslO, buildO, cutL, fillV, putL, i64w, w40, v40])
    | (refine stepI.cases (fun _ hp => ?_) (fun _ hp => ?_) <;> simp (maxSteps := 4000000) (disch := omega) only [hp, ah, am, Nat.reduceEqDiff, reduceCtorEq, Nat.reduceAdd, Nat.reduceLeDiff, Nat.reduceMul, Nat.reduceLT, if_true, if_false, true_and, and_true, and_self, Nat.reduceBEq, QOp.loads, boxO, bslO, buildO, cutL, fillV, putL, i64w, w40, v40]))
    all_goals first
      | exact ⟨_, rfl, (Fresh.new0 _ encClip_len (by omega)).mono e1⟩
      | exact (hc ⟨by assumption, by assumption, by assumption⟩).elim
theorem specRipple_ok (h : Heap) (v : Value) (l : List Clip) (i n : Int) (s : SlT h encClip 3 v l) (hl : l.length ≤ 1100000) :
    ACall Try.prog 44 [v, .int .i64 i, .int .i64 n] h fun r h' => Pair h h' r (turnF l i n fun k => ⟨k.src, k.inn, k.len + n⟩) := by
  refine ACall.of Try.func44 s44 (of_decide_eq_true rfl) ?_
  simp (maxSteps := 4000000) (disch := omega) only [ah, am, Nat.reduceEqDiff, reduceCtorEq, Nat.reduceAdd, Nat.reduceLeDiff, Nat.reduceMul, Nat.reduceLT, if_true, if_false, true_and, and_true, and_self, Nat.reduceBEq, QOp.loads, boxO, bslO, buildO, cutL, fillV, putL, w44, v44]
  refine stepC.of (TrackOk_ok _ _ _ s (by omega)) ?_
  rintro _ H1 ⟨e1, rfl⟩
  have S1 := s.ext e1
  by_cases hc : trackOk l ∧ (-10000000 ≤ n ∧ n ≤ 10000000) ∧ realAt l i
  · obtain ⟨ht, hn, hr⟩ := hc
    have hi : 0 ≤ i ∧ i < l.length := ⟨hr.1, hr.2.1⟩
    have C := cAt_eq l i (by omega)
    have K := ht.2.1 _ (List.getElem_mem (l := l) (n := i.toNat) (by omega))
    rw [← C] at K
    obtain ⟨v2, H2, ea, F2⟩ := (Fresh.new0 H1 encClip_len (by omega)).app (S1.ext (Ext.more H1 [[]])) (bytes := 24) (by simp; omega)
    rw [List.nil_append] at F2
    have R2 := F2.slt.rules
    have E2 : encClip l[i.toNat] = [.int .i64 (cAt l i).src, .int .i64 (cAt l i).inn, .int .i64 (cAt l i).len] := by rw [← C]; rfl
    obtain ⟨H3, es, F3, -⟩ := F2.setF (j := i.toNat) (f := 2) (n := 1) (by omega) (x := (fun k : Clip => (⟨k.src, k.inn, k.len + n⟩ : Clip)) (cAt l i)) (y := .int .i64 ((cAt l i).len + n)) (by rw [E2]; simp [encClip, splice, cells_int]) (by omega) rfl (by omega) rfl
    have hT : turnF l i n (fun k => ⟨k.src, k.inn, k.len + n⟩) = editF (l.set i.toNat ((fun k : Clip => (⟨k.src, k.inn, k.len + n⟩ : Clip)) (cAt l i))) := if_pos ⟨ht, hn, hr⟩
    have g : ∀ hj : i.toNat < l.length, encClip (l[i.toNat]'hj) = [.int .i64 (cAt l i).src, .int .i64 (cAt l i).inn, .int .i64 (cAt l i).len] := fun _ => E2
    simp only [clipOk] at K
    simp only [ht, hn, hr, decide_true, and_self]
    simp (maxSteps := 4000000) (disch := omega) only [ah, am, Nat.reduceEqDiff, reduceCtorEq, Nat.reduceAdd, Nat.reduceLeDiff, Nat.reduceMul, Nat.reduceLT, if_true, if_false, true_and, and_true, and_self, Nat.reduceBEq, QOp.loads, boxO, bslO, buildO, cutL, fillV, putL, w44, v44, i64w]
    refine stepC.of (l4By_ok _ _) ?_
    rintro _ _ ⟨rfl, rfl⟩
    simp (maxSteps := 4000000) (disch := omega) only [ah, am, Nat.reduceEqDiff, reduceCtorEq, Nat.reduceAdd, Nat.reduceLeDiff, Nat.reduceMul, Nat.reduceLT, if_true, if_false, true_and, and_true, and_self, Nat.reduceBEq, QOp.loads, boxO, bslO, buildO, cutL, fillV, putL, w44, v44, i64w, hn]
    refine stepC.of (l4Real_ok _ _ _ _ S1 hl) ?_
    rintro _ _ ⟨rfl, rfl⟩
    simp (maxSteps := 4000000) (disch := omega) only [ah, am, Nat.reduceEqDiff, reduceCtorEq, Nat.reduceAdd, Nat.reduceLeDiff, Nat.reduceMul, Nat.reduceLT, if_true, if_false, true_and, and_true, and_self, Nat.reduceBEq, QOp.loads, boxO, bslO, buildO, cutL, fillV, putL, w44, v44, i64w, hr, ea, R2, es, g]
    refine stepC.of (l4Edit_ok _ _ _ F3.slt (by simpa using hl)) ?_
    rintro _ H4 ⟨rv, rfl, F4⟩
    simp (maxSteps := 4000000) (disch := omega) only [ah, am, Nat.reduceEqDiff, reduceCtorEq, Nat.reduceAdd, Nat.reduceLeDiff, Nat.reduceMul, Nat.reduceLT, if_true, if_false, true_and, and_true, and_self, Nat.reduceBEq, QOp.loads, boxO, bslO, buildO, cutL, fillV, putL, w44, v44]
    rw [hT]
    exact ⟨rv, rfl, F4.mono (e1.trans F3.1)⟩
  · have hT : turnF l i n (fun k => ⟨k.src, k.inn, k.len + n⟩) = ([], false) := if_neg hc
    rw [hT]
    simp (maxSteps := 4000000) (disch := omega) only [ah, am, Nat.reduceEqDiff, reduceCtorEq, Nat.reduceAdd, Nat.reduceLeDiff, Nat.reduceMul, Nat.reduceLT, if_true, if_false, true_and, and_true, and_self, Nat.reduceBEq, QOp.loads, boxO, bslO, buildO, cutL, fillV, putL, w44, v44]
    (repeat' first
    | (refine stepC.of (l4By_ok _ _) ?_; rintro _ _ ⟨rfl, rfl⟩; simp (maxSteps := 4000000) (disch := omega) only [ah, am, Nat.reduceEqDiff, reduceCtorEq, Nat.reduceAdd, Nat.reduceLeDiff, Nat.reduceMul, Nat.reduceLT, if_true, if_false, true_and, and_true, and_self, Nat.reduceBEq, QOp.loads, boxO, bslO, buildO, cutL, fillV, putL, i64w, w44, v44])
    | (refine stepC.of (l4Real_ok _ _ _ _ S1 hl) ?_; rintro _ _ ⟨rfl, rfl⟩; simp (maxSteps := 4000000) (disch := omega) only [ah, am, Nat.reduceEqDiff, reduceCtorEq, Nat.reduceAdd, Nat.reduceLeDiff, Nat.reduceMul, Nat.reduceLT, if_true, if_false, true_and, and_true, and_self, Nat.reduceBEq, QOp.loads, boxO, bslO, buildO, cutL, fillV, putL, i64w, w44, v44])
    | (refine stepG.cases (fun _ hp => ?_) (fun _ hp => ?_) <;> simp (maxSteps := 4000000) (disch := omega) only [hp, ah, am, Nat.reduceEqDiff, reduceCtorEq, Nat.reduceAdd, Nat.reduceLeDiff, Nat.reduceMul, Nat.reduceLT, if_true, if_false, true_and, and_true, and_self, Nat.reduceBEq, QOp.loads, boxO, bslO, buildO, cutL, fillV, putL, i64w, w44, v44])
    | (refine stepI.cases (fun _ hp => ?_) (fun _ hp => ?_) <;> simp (maxSteps := 4000000) (disch := omega) only [hp, ah, am, Nat.reduceEqDiff, reduceCtorEq, Nat.reduceAdd, Nat.reduceLeDiff, Nat.reduceMul, Nat.reduceLT, if_true, if_false, true_and, and_true, and_self, Nat.reduceBEq, QOp.loads, boxO, bslO, buildO, cutL, fillV, putL, i64w, w44, v44]))
    all_goals first
      | exact ⟨_, rfl, (Fresh.new0 _ encClip_len (by omega)).mono e1⟩
      | exact (hc ⟨by assumption, by assumption, by assumption⟩).elim
end Go.Proofs.Ytknpombiomnkbaa
