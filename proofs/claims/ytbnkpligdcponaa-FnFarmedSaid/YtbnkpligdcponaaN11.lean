import Derived.Test.YtbnkpligdcponaaN4
import Derived.Test.YtbnkpligdcponaaN10
namespace Go.Proofs.Ytbnkpligdcponaa
open Go Go.Ah
set_option linter.unusedSimpArgs false
set_option linter.unusedVariables false
set_option maxRecDepth 10000
set_option maxHeartbeats 4000000
/-! 26 loop.example/g00066/spec.DrawDirty: parameters 1, live [0], slots [0:code, 1:code, 4:c, 5:j, 6:out, 7:n] -/
def c26_0 : List SOper := [⟨some 2, .q (.mv (.c (.slice none 0 0))), none⟩, ⟨some 3, .q (.mv (.c (.slice none 0 0))), none⟩]
def c26_1 : List SOper := [⟨some 8, .q (.mv (.t 0)), none⟩, ⟨some 9, .e (.call 45 [(.t 8)]), none⟩, ⟨some 4, .q (.mv (.t 9)), none⟩]
def c26_2 : List SOper := [⟨some 10, .q (.mv (.t 4)), none⟩, ⟨some 11, .e (.call 48 [(.t 10)]), none⟩, ⟨some 5, .q (.mv (.t 11)), none⟩]
def c26_3 : List SOper := [⟨some 12, .a (.bsl 0 1 [] []), none⟩, ⟨some 6, .q (.mv (.t 12)), none⟩]
def c26_4 : List SOper := [⟨some 13, .q (.mv (.t 4)), none⟩, ⟨some 14, .e (.call 46 [(.t 13), (.c (.int .i64 3))]), none⟩, ⟨some 7, .q (.mv (.t 14)), none⟩]
def c26_5 : List SOper := [⟨some 15, .q (.mv (.t 7)), none⟩, ⟨some 16, .q (.bin .gtr (.t 15) (.c (.int .i64 0))), none⟩, ⟨some 17, .q (.mv (.t 16)), none⟩, ⟨some 18, .q (.mv (.t 5)), some (17, true)⟩, ⟨some 19, .q (.len (.t 18)), some (17, true)⟩, ⟨some 20, .q (.bin .gtr (.t 19) (.c (.int .i64 0))), some (17, true)⟩, ⟨some 21, .q (.pick (.t 17) (.t 20) (.c (.bool false))), none⟩]
def c26_6 : SCode := .cond (.t 21) .skip (.exit 0)
def c26_7 : SCode := .seq (.region c26_5 [4, 5, 6, 7, 21]) c26_6
def c26_8 : List SOper := [⟨some 24, .q (.mv (.t 6)), none⟩, ⟨some 25, .q (.mv (.t 4)), none⟩, ⟨some 26, .q (.mv (.t 5)), none⟩, ⟨some 27, .q (.len (.t 26)), none⟩, ⟨some 28, .e (.call 46 [(.t 25), (.t 27)]), none⟩, ⟨some 29, .a (.bsl 1 1 [(.int .i64 0)] [(0, 1, (.t 28))]), none⟩, ⟨some 30, .e (.app 8 1 (.t 24) (.t 29)), none⟩, ⟨some 6, .q (.mv (.t 30)), none⟩]
def c26_9 : SCode := .block 1 (.region c26_8 [4, 5, 6, 7])
def c26_10 : List SOper := [⟨some 22, .q (.mv (.t 7)), none⟩, ⟨some 23, .q (.bin .sub (.t 22) (.c (.int .i64 1))), none⟩, ⟨some 7, .q (.mv (.t 23)), none⟩]
def c26_11 : SCode := .seq c26_9 (.region c26_10 [4, 5, 6, 7])
def c26_12 : SCode := .seq c26_7 c26_11
def c26_13 : SCode := .loop c26_12
def c26_14 : SCode := .block 0 c26_13
def c26_15 : SCode := .seq (.region c26_4 [4, 5, 6, 7]) c26_14
def c26_16 : List SOper := [⟨some 31, .q (.mv (.t 4)), none⟩, ⟨some 32, .e (.call 47 [(.t 31), (.c (.int .i64 16))]), none⟩]
def c26_17 : List SOper := [⟨some 33, .q (.mv (.t 6)), none⟩, ⟨some 34, .q (.mv (.t 5)), none⟩, ⟨some 35, .q (.len (.t 34)), none⟩, ⟨some 36, .a (.bsl 3 1 [(.int .i64 0), (.int .i64 0), (.int .i64 0)] [(0, 1, (.c (.int .i64 (-1)))), (1, 1, (.t 35)), (2, 1, (.c (.int .i64 4611686018427387904)))]), none⟩, ⟨some 37, .q (.mv (.t 4)), none⟩, ⟨some 38, .e (.call 46 [(.t 37), (.c (.int .i64 3))]), none⟩, ⟨some 39, .q (.ia 1 (.t 36) (.t 38)), none⟩, ⟨some 40, .q (.ld (.t 39)), none⟩, ⟨some 41, .a (.bsl 1 1 [(.int .i64 0)] [(0, 1, (.t 40))]), none⟩, ⟨some 42, .e (.app 8 1 (.t 33) (.t 41)), none⟩, ⟨some 6, .q (.mv (.t 42)), none⟩]
def c26_18 : SCode := .cond (.t 32) (.region c26_17 [5, 6]) .skip
def c26_19 : SCode := .seq (.region c26_16 [4, 5, 6, 32]) c26_18
def c26_20 : List SOper := [⟨some 43, .q (.mv (.t 5)), none⟩, ⟨some 44, .q (.mv (.t 6)), none⟩, ⟨some 2, .q (.mv (.t 43)), none⟩, ⟨some 3, .q (.mv (.t 44)), none⟩]
def c26_21 : SCode := .seq (.region c26_20 [2, 3]) .ret
def c26_22 : SCode := .seq c26_19 c26_21
def c26_23 : SCode := .seq c26_15 c26_22
def c26_24 : SCode := .seq (.region c26_3 [4, 5, 6]) c26_23
def c26_25 : SCode := .seq (.region c26_2 [4, 5]) c26_24
def c26_26 : SCode := .seq (.region c26_1 [4]) c26_25
def c26_27 : SCode := .seq (.region c26_0 [0]) c26_26
def c26 : SCode := c26_27
theorem w26 : type_of% (And.intro (uR Try.prog c26_0.eq_1) (And.intro (uR Try.prog c26_1.eq_1) (And.intro (uR Try.prog c26_2.eq_1) (And.intro (uR Try.prog c26_3.eq_1) (And.intro (uR Try.prog c26_4.eq_1) (And.intro (uR Try.prog c26_5.eq_1) (And.intro (uC Try.prog c26_6.eq_1) (And.intro (uC Try.prog c26_7.eq_1) (And.intro (uR Try.prog c26_8.eq_1) (And.intro (uC Try.prog c26_9.eq_1) (And.intro (uR Try.prog c26_10.eq_1) (And.intro (uC Try.prog c26_11.eq_1) (And.intro (uC Try.prog c26_12.eq_1) (And.intro (uC Try.prog c26_13.eq_1) (And.intro (uC Try.prog c26_14.eq_1) (And.intro (uC Try.prog c26_15.eq_1) (And.intro (uR Try.prog c26_16.eq_1) (And.intro (uR Try.prog c26_17.eq_1) (And.intro (uC Try.prog c26_18.eq_1) (And.intro (uC Try.prog c26_19.eq_1) (And.intro (uR Try.prog c26_20.eq_1) (And.intro (uC Try.prog c26_21.eq_1) (And.intro (uC Try.prog c26_22.eq_1) (And.intro (uC Try.prog c26_23.eq_1) (And.intro (uC Try.prog c26_24.eq_1) (And.intro (uC Try.prog c26_25.eq_1) (And.intro (uC Try.prog c26_26.eq_1) (And.intro (uC Try.prog c26_27.eq_1) (uC Try.prog c26.eq_1))))))))))))))))))))))))))))) := (And.intro (uR Try.prog c26_0.eq_1) (And.intro (uR Try.prog c26_1.eq_1) (And.intro (uR Try.prog c26_2.eq_1) (And.intro (uR Try.prog c26_3.eq_1) (And.intro (uR Try.prog c26_4.eq_1) (And.intro (uR Try.prog c26_5.eq_1) (And.intro (uC Try.prog c26_6.eq_1) (And.intro (uC Try.prog c26_7.eq_1) (And.intro (uR Try.prog c26_8.eq_1) (And.intro (uC Try.prog c26_9.eq_1) (And.intro (uR Try.prog c26_10.eq_1) (And.intro (uC Try.prog c26_11.eq_1) (And.intro (uC Try.prog c26_12.eq_1) (And.intro (uC Try.prog c26_13.eq_1) (And.intro (uC Try.prog c26_14.eq_1) (And.intro (uC Try.prog c26_15.eq_1) (And.intro (uR Try.prog c26_16.eq_1) (And.intro (uR Try.prog c26_17.eq_1) (And.intro (uC Try.prog c26_18.eq_1) (And.intro (uC Try.prog c26_19.eq_1) (And.intro (uR Try.prog c26_20.eq_1) (And.intro (uC Try.prog c26_21.eq_1) (And.intro (uC Try.prog c26_22.eq_1) (And.intro (uC Try.prog c26_23.eq_1) (And.intro (uC Try.prog c26_24.eq_1) (And.intro (uC Try.prog c26_25.eq_1) (And.intro (uC Try.prog c26_26.eq_1) (And.intro (uC Try.prog c26_27.eq_1) (uC Try.prog c26.eq_1)))))))))))))))))))))))))))))
def v26 : List RV := [.t 2, .t 3]
theorem s26 : slimF Try.prog Try.f26 = some (c26.bare, v26) := by kernel_rfl
/-! 27 loop.example/g00066/laws.sameInts: parameters 2, live [0, 1], slots [0:a, 1:b, 2:a, 3:b, 5:i] -/
def c27_0 : List SOper := [⟨some 4, .q (.mv (.c (.bool false))), none⟩]
def c27_1 : List SOper := [⟨some 6, .q (.mv (.t 0)), none⟩, ⟨some 7, .q (.len (.t 6)), none⟩, ⟨some 8, .q (.mv (.t 1)), none⟩, ⟨some 9, .q (.len (.t 8)), none⟩, ⟨some 10, .q (.bin .neq (.t 7) (.t 9)), none⟩]
def c27_2 : List SOper := [⟨some 4, .q (.mv (.c (.bool false))), none⟩]
def c27_3 : SCode := .seq (.region c27_2 [4]) .ret
def c27_4 : SCode := .cond (.t 10) c27_3 .skip
def c27_5 : SCode := .seq (.region c27_1 [0, 1, 10]) c27_4
def c27_6 : List SOper := [⟨some 5, .q (.mv (.c (.int .i64 0))), none⟩]
def c27_7 : List SOper := [⟨some 11, .q (.mv (.t 5)), none⟩, ⟨some 12, .q (.mv (.t 0)), none⟩, ⟨some 13, .q (.len (.t 12)), none⟩, ⟨some 14, .q (.bin .lss (.t 11) (.t 13)), none⟩]
def c27_8 : SCode := .cond (.t 14) .skip (.exit 0)
def c27_9 : SCode := .seq (.region c27_7 [0, 1, 5, 14]) c27_8
def c27_10 : List SOper := [⟨some 17, .q (.mv (.t 0)), none⟩, ⟨some 18, .q (.mv (.t 5)), none⟩, ⟨some 19, .q (.ia 1 (.t 17) (.t 18)), none⟩, ⟨some 20, .q (.ld (.t 19)), none⟩, ⟨some 21, .q (.mv (.t 1)), none⟩, ⟨some 22, .q (.mv (.t 5)), none⟩, ⟨some 23, .q (.ia 1 (.t 21) (.t 22)), none⟩, ⟨some 24, .q (.ld (.t 23)), none⟩, ⟨some 25, .q (.bin .neq (.t 20) (.t 24)), none⟩]
def c27_11 : List SOper := [⟨some 4, .q (.mv (.c (.bool false))), none⟩]
def c27_12 : SCode := .seq (.region c27_11 [4]) .ret
def c27_13 : SCode := .cond (.t 25) c27_12 .skip
def c27_14 : SCode := .seq (.region c27_10 [0, 1, 5, 25]) c27_13
def c27_15 : SCode := .block 1 c27_14
def c27_16 : List SOper := [⟨some 15, .q (.mv (.t 5)), none⟩, ⟨some 16, .q (.bin .add (.t 15) (.c (.int .i64 1))), none⟩, ⟨some 5, .q (.mv (.t 16)), none⟩]
def c27_17 : SCode := .seq c27_15 (.region c27_16 [0, 1, 5])
def c27_18 : SCode := .seq c27_9 c27_17
def c27_19 : SCode := .loop c27_18
def c27_20 : SCode := .block 0 c27_19
def c27_21 : SCode := .seq (.region c27_6 [0, 1, 5]) c27_20
def c27_22 : List SOper := [⟨some 4, .q (.mv (.c (.bool true))), none⟩]
def c27_23 : SCode := .seq (.region c27_22 [4]) .ret
def c27_24 : SCode := .seq c27_21 c27_23
def c27_25 : SCode := .seq c27_5 c27_24
def c27_26 : SCode := .seq (.region c27_0 [0, 1]) c27_25
def c27 : SCode := c27_26
theorem w27 : type_of% (And.intro (uR Try.prog c27_0.eq_1) (And.intro (uR Try.prog c27_1.eq_1) (And.intro (uR Try.prog c27_2.eq_1) (And.intro (uC Try.prog c27_3.eq_1) (And.intro (uC Try.prog c27_4.eq_1) (And.intro (uC Try.prog c27_5.eq_1) (And.intro (uR Try.prog c27_6.eq_1) (And.intro (uR Try.prog c27_7.eq_1) (And.intro (uC Try.prog c27_8.eq_1) (And.intro (uC Try.prog c27_9.eq_1) (And.intro (uR Try.prog c27_10.eq_1) (And.intro (uR Try.prog c27_11.eq_1) (And.intro (uC Try.prog c27_12.eq_1) (And.intro (uC Try.prog c27_13.eq_1) (And.intro (uC Try.prog c27_14.eq_1) (And.intro (uC Try.prog c27_15.eq_1) (And.intro (uR Try.prog c27_16.eq_1) (And.intro (uC Try.prog c27_17.eq_1) (And.intro (uC Try.prog c27_18.eq_1) (And.intro (uC Try.prog c27_19.eq_1) (And.intro (uC Try.prog c27_20.eq_1) (And.intro (uC Try.prog c27_21.eq_1) (And.intro (uR Try.prog c27_22.eq_1) (And.intro (uC Try.prog c27_23.eq_1) (And.intro (uC Try.prog c27_24.eq_1) (And.intro (uC Try.prog c27_25.eq_1) (And.intro (uC Try.prog c27_26.eq_1) (uC Try.prog c27.eq_1)))))))))))))))))))))))))))) := (And.intro (uR Try.prog c27_0.eq_1) (And.intro (uR Try.prog c27_1.eq_1) (And.intro (uR Try.prog c27_2.eq_1) (And.intro (uC Try.prog c27_3.eq_1) (And.intro (uC Try.prog c27_4.eq_1) (And.intro (uC Try.prog c27_5.eq_1) (And.intro (uR Try.prog c27_6.eq_1) (And.intro (uR Try.prog c27_7.eq_1) (And.intro (uC Try.prog c27_8.eq_1) (And.intro (uC Try.prog c27_9.eq_1) (And.intro (uR Try.prog c27_10.eq_1) (And.intro (uR Try.prog c27_11.eq_1) (And.intro (uC Try.prog c27_12.eq_1) (And.intro (uC Try.prog c27_13.eq_1) (And.intro (uC Try.prog c27_14.eq_1) (And.intro (uC Try.prog c27_15.eq_1) (And.intro (uR Try.prog c27_16.eq_1) (And.intro (uC Try.prog c27_17.eq_1) (And.intro (uC Try.prog c27_18.eq_1) (And.intro (uC Try.prog c27_19.eq_1) (And.intro (uC Try.prog c27_20.eq_1) (And.intro (uC Try.prog c27_21.eq_1) (And.intro (uR Try.prog c27_22.eq_1) (And.intro (uC Try.prog c27_23.eq_1) (And.intro (uC Try.prog c27_24.eq_1) (And.intro (uC Try.prog c27_25.eq_1) (And.intro (uC Try.prog c27_26.eq_1) (uC Try.prog c27.eq_1))))))))))))))))))))))))))))
def v27 : List RV := [.t 4]
theorem s27 : slimF Try.prog Try.f27 = some (c27.bare, v27) := by kernel_rfl

theorem ext_ofX {h H1 h' : Heap} {c : Nat} (e : Ext h H1) (x : ExtX [c] H1 h') (hc : h.size ≤ c) : Ext h h' := by
  refine ⟨Nat.le_trans e.1 x.1, fun i hi => ?_⟩
  obtain ⟨ob, hob⟩ := Heap.get_some (Nat.lt_of_lt_of_le hi e.1)
  have := Heap.grp_le hob
  rw [x.2 i ob hob (by simp; omega), ← hob]; exact e.2 i hi
theorem sameInts_ok (h : Heap) (v v' : Value) (l l' : List Int) (hs : SlT h encI 1 v l) (hs' : SlT h encI 1 v' l') (hl : l.length ≤ 281474976710656) (hl' : l'.length ≤ 281474976710656) :
    ACall Try.prog 27 [v, v'] h fun r h' => h' = h ∧ r = .bool (decide (l = l')) := by
  refine ACall.of Try.func27 s27 (of_decide_eq_true rfl) ?_
  have R := hs.rulesN
  have R' := hs'.rulesN
  simp (maxSteps := 4000000) (disch := omega) only [ah, am, Nat.reduceEqDiff, reduceCtorEq, Nat.reduceAdd, Nat.reduceLeDiff, Nat.reduceMul, Nat.reduceLT, if_true, if_false, true_and, and_true, and_self, Nat.reduceBEq, QOp.loads, boxO, bslO, buildO, cutL, fillV, putL, w27, v27, R, R']
  refine stepI.split (fun hp => ?_) (fun hp => ?_)
  rotate_left
  · simp (maxSteps := 4000000) (disch := omega) only [ah, am, Nat.reduceEqDiff, reduceCtorEq, Nat.reduceAdd, Nat.reduceLeDiff, Nat.reduceMul, Nat.reduceLT, if_true, if_false, true_and, and_true, and_self, Nat.reduceBEq, QOp.loads, boxO, bslO, buildO, cutL, fillV, putL, w27, v27]
    rw [decide_eq_false]; rintro rfl; exact hp rfl
  have hll : l.length = l'.length := by omega
  simp (maxSteps := 4000000) (disch := omega) only [ah, am, Nat.reduceEqDiff, reduceCtorEq, Nat.reduceAdd, Nat.reduceLeDiff, Nat.reduceMul, Nat.reduceLT, if_true, if_false, true_and, and_true, and_self, Nat.reduceBEq, QOp.loads, boxO, bslO, buildO, cutL, fillV, putL, w27, v27]
  refine SW_loop_up (fun i E H => E = [(0, v), (1, v'), (5, .int .i64 i)] ∧ H = h ∧ ∀ j (h1 : j < i) (h2 : j < l.length), l[j] = l'[j]) l.length 0 (by omega)
    ⟨rfl, rfl, fun j h1 h2 => absurd h1 (by omega)⟩ ?_
  rintro i E H hi ⟨rfl, rfl, F⟩
  have W : IntKind.i64.wrap ((i : Int) + 1) = ((i + 1 : Nat) : Int) := i64e (by omega) (by omega)
  simp (maxSteps := 4000000) (disch := omega) only [ah, am, Nat.reduceEqDiff, reduceCtorEq, Nat.reduceAdd, Nat.reduceLeDiff, Nat.reduceMul, Nat.reduceLT, if_true, if_false, true_and, and_true, and_self, Nat.reduceBEq, QOp.loads, boxO, bslO, buildO, cutL, fillV, putL, w27, v27, R, R', W]
  refine stepI.split (fun hp => ?_) (fun hp => ?_)
  · simp (maxSteps := 4000000) (disch := omega) only [ah, am, Nat.reduceEqDiff, reduceCtorEq, Nat.reduceAdd, Nat.reduceLeDiff, Nat.reduceMul, Nat.reduceLT, if_true, if_false, true_and, and_true, and_self, Nat.reduceBEq, QOp.loads, boxO, bslO, buildO, cutL, fillV, putL, w27, v27, R, R', encI, W]
    refine stepI.split (fun hq => ?_) (fun hq => ?_)
    · simp (maxSteps := 4000000) (disch := omega) only [ah, am, Nat.reduceEqDiff, reduceCtorEq, Nat.reduceAdd, Nat.reduceLeDiff, Nat.reduceMul, Nat.reduceLT, if_true, if_false, true_and, and_true, and_self, Nat.reduceBEq, QOp.loads, boxO, bslO, buildO, cutL, fillV, putL, w27, v27, W]
      exact ⟨by omega, fun j h1 h2 => by
        by_cases hj : j = i
        · subst hj; exact hq
        · exact F j (by omega) h2⟩
    · simp (maxSteps := 4000000) (disch := omega) only [ah, am, Nat.reduceEqDiff, reduceCtorEq, Nat.reduceAdd, Nat.reduceLeDiff, Nat.reduceMul, Nat.reduceLT, if_true, if_false, true_and, and_true, and_self, Nat.reduceBEq, QOp.loads, boxO, bslO, buildO, cutL, fillV, putL, w27, v27, W]
      rw [decide_eq_false]; rintro rfl; exact hq rfl
  · simp (maxSteps := 4000000) (disch := omega) only [ah, am, Nat.reduceEqDiff, reduceCtorEq, Nat.reduceAdd, Nat.reduceLeDiff, Nat.reduceMul, Nat.reduceLT, if_true, if_false, true_and, and_true, and_self, Nat.reduceBEq, QOp.loads, boxO, bslO, buildO, cutL, fillV, putL, w27, v27, R, W]
    rw [decide_eq_true]
    exact List.ext_getElem hll fun j h1 h2 => F j (by omega) h1
theorem DrawDirty_ok (h : Heap) (v : Value) (code : List Int) (s : SlT h encByte 1 v code) (hl : code.length ≤ 4096) :
    ACall Try.prog 26 [v] h fun r h' => ∃ jv cv l ch, r = .tuple #[jv, cv] ∧ Ext h h' ∧ JobAt h' jv l ∧ SlT h' encI 1 cv ch ∧ l.length ≤ 300 ∧ ch.length ≤ 100 := by
  refine ACall.of Try.func26 s26 (of_decide_eq_true rfl) ?_
  simp (maxSteps := 4000000) (disch := omega) only [ah, am, Nat.reduceEqDiff, reduceCtorEq, Nat.reduceAdd, Nat.reduceLeDiff, Nat.reduceMul, Nat.reduceLT, if_true, if_false, true_and, and_true, and_self, Nat.reduceBEq, QOp.loads, boxO, bslO, buildO, cutL, fillV, putL, w26, v26]
  refine stepC.of (l1New_ok _ _ _ s hl) ?_
  rintro _ H1 ⟨e1, rfl, kc⟩
  have hc := kc.lt
  obtain ⟨c, hcc⟩ : ∃ c, c = h.size := ⟨_, rfl⟩
  rw [← hcc] at kc hc ⊢
  simp (maxSteps := 4000000) (disch := omega) only [ah, am, Nat.reduceEqDiff, reduceCtorEq, Nat.reduceAdd, Nat.reduceLeDiff, Nat.reduceMul, Nat.reduceLT, if_true, if_false, true_and, and_true, and_self, Nat.reduceBEq, QOp.loads, boxO, bslO, buildO, cutL, fillV, putL, w26, v26]
  refine stepC.of (l16DrawJob_ok _ _ kc) ?_
  rintro jv H2 ⟨l, X2, kc, J, hll⟩
  simp (maxSteps := 4000000) (disch := omega) only [ah, am, Nat.reduceEqDiff, reduceCtorEq, Nat.reduceAdd, Nat.reduceLeDiff, Nat.reduceMul, Nat.reduceLT, if_true, if_false, true_and, and_true, and_self, Nat.reduceBEq, QOp.loads, boxO, bslO, buildO, cutL, fillV, putL, w26, v26]
  refine stepC.of (l1Below_ok _ _ _ (kc.ext (Ext.more _ _))) ?_
  rintro _ H3 ⟨n, rfl, n1, n2, _, g3, kc3⟩
  obtain ⟨n, rfl⟩ : ∃ m : Nat, n = (m : Int) := ⟨n.toNat, by omega⟩
  have n3 := n2 (by omega)
  have hc2 := kc.lt
  have F3 : Fk [c] H2 H3 encI 1 (.slice (some ⟨H2.size, 0, none⟩) 0 1) [] [] := (Fk.of (X := [c]) (Fresh.new0 H2 encI_len (by omega))).stepG g3 (by simp) hc2
  simp (maxSteps := 4000000) (disch := omega) only [ah, am, Nat.reduceEqDiff, reduceCtorEq, Nat.reduceAdd, Nat.reduceLeDiff, Nat.reduceMul, Nat.reduceLT, if_true, if_false, true_and, and_true, and_self, Nat.reduceBEq, QOp.loads, boxO, bslO, buildO, cutL, fillV, putL, w26, v26]
  have done : ∀ {K : Heap} {ov : Value} {ol : List Int}, Fk [c] H2 K encI 1 ov ol [] → ol.length ≤ 100 → ∃ jv' cv l ch, (Value.tuple #[jv, ov]) = .tuple #[jv', cv] ∧ Ext h K ∧ JobAt K jv' l ∧ SlT K encI 1 cv ch ∧ l.length ≤ 300 ∧ ch.length ≤ 100 := by
    intro K ov ol F ho
    exact ⟨jv, ov, l, ol, rfl, ext_ofX e1 (X2.trans F.ext) (by omega), (J.extX F.ext hc).at, F.slt, hll, ho⟩
  refine ⟨fun m E K => ∃ ov ol, E = [(4, .pointer (some ⟨c, 0, none⟩)), (5, jv), (6, ov), (7, .int .i64 m)] ∧ Cur K c ∧ Fk [c] H2 K encI 1 ov ol [] ∧ ol.length + m ≤ 10,
    ⟨n, _, [], rfl, kc3, F3, by simp; omega⟩, ?_⟩
  rintro m E K ⟨ov, ol, rfl, kc, F, hm⟩
  obtain ⟨rs, sr, hlr, _⟩ := (J.extX F.ext hc).at
  have Rj := sr.rulesN
  simp only [hlr] at Rj
  have last : SW Try.prog c26_22 (retQ v26 fun r h' => ∃ jv cv l ch, r = .tuple #[jv, cv] ∧ Ext h h' ∧ JobAt h' jv l ∧ SlT h' encI 1 cv ch ∧ l.length ≤ 300 ∧ ch.length ≤ 100)
      [(4, .pointer (some ⟨c, 0, none⟩)), (5, jv), (6, ov), (7, .int .i64 m), (21, .bool false)] K := by
    simp (maxSteps := 4000000) (disch := omega) only [ah, am, Nat.reduceEqDiff, reduceCtorEq, Nat.reduceAdd, Nat.reduceLeDiff, Nat.reduceMul, Nat.reduceLT, if_true, if_false, true_and, and_true, and_self, Nat.reduceBEq, QOp.loads, boxO, bslO, buildO, cutL, fillV, putL, w26, v26]
    refine stepC.of (l1Once_ok _ _ _ kc) ?_
    rintro _ K1 ⟨b, rfl, g1, kc⟩
    have F := F.stepG g1 (by simp) hc2
    cases b with
    | false => simp (maxSteps := 4000000) (disch := omega) only [ah, am, Nat.reduceEqDiff, reduceCtorEq, Nat.reduceAdd, Nat.reduceLeDiff, Nat.reduceMul, Nat.reduceLT, if_true, if_false, true_and, and_true, and_self, Nat.reduceBEq, QOp.loads, boxO, bslO, buildO, cutL, fillV, putL, w26, v26]; exact done F (by omega)
    | true =>
      have hcK := kc.lt
      simp (maxSteps := 4000000) (disch := omega) only [ah, am, Nat.reduceEqDiff, reduceCtorEq, Nat.reduceAdd, Nat.reduceLeDiff, Nat.reduceMul, Nat.reduceLT, if_true, if_false, true_and, and_true, and_self, Nat.reduceBEq, QOp.loads, boxO, bslO, buildO, cutL, fillV, putL, w26, v26, Rj]
      have F1 := F.step (Ext.more K1 [[.int .i64 (-1), .int .i64 l.length, .int .i64 4611686018427387904]])
      refine stepC.of (l1Below_ok _ _ _ (kc.ext (Ext.more _ _))) ?_
      rintro _ K2 ⟨y, rfl, y1, y2, _, g2, kc⟩
      have y3 := y2 (by omega)
      have F2 := F1.stepG g2 (by simp) hc2
      obtain ⟨w, hw⟩ := pick_lits g2 hcK y1 (by simpa using y3) rfl
      obtain ⟨v2, K3, ea, F3⟩ := F2.app1 [] w (bytes := 8) (by omega)
      simp only [List.nil_append, List.length_nil, Nat.add_zero, boxesAt, List.append_nil, encI] at ea F3
      simp (maxSteps := 4000000) (disch := omega) only [ah, am, Nat.reduceEqDiff, reduceCtorEq, Nat.reduceAdd, Nat.reduceLeDiff, Nat.reduceMul, Nat.reduceLT, if_true, if_false, true_and, and_true, and_self, Nat.reduceBEq, QOp.loads, boxO, bslO, buildO, cutL, fillV, putL, w26, v26, Nat.mul_one, hw, ea]
      exact done F3 (by simp; omega)
  generalize c26_22 = fc at last ⊢
  simp (maxSteps := 4000000) (disch := omega) only [ah, am, Nat.reduceEqDiff, reduceCtorEq, Nat.reduceAdd, Nat.reduceLeDiff, Nat.reduceMul, Nat.reduceLT, if_true, if_false, true_and, and_true, and_self, Nat.reduceBEq, QOp.loads, boxO, bslO, buildO, cutL, fillV, putL, w26, v26]
  by_cases hm0 : (0 : Int) < m
  rotate_left
  · simp (maxSteps := 4000000) (disch := omega) only [ah, am, Nat.reduceEqDiff, reduceCtorEq, Nat.reduceAdd, Nat.reduceLeDiff, Nat.reduceMul, Nat.reduceLT, if_true, if_false, true_and, and_true, and_self, Nat.reduceBEq, QOp.loads, boxO, bslO, buildO, cutL, fillV, putL, w26, v26, decide_eq_false hm0]
    exact last
  by_cases hl0 : (0 : Int) < l.length
  rotate_left
  · simp (maxSteps := 4000000) (disch := omega) only [ah, am, Nat.reduceEqDiff, reduceCtorEq, Nat.reduceAdd, Nat.reduceLeDiff, Nat.reduceMul, Nat.reduceLT, if_true, if_false, true_and, and_true, and_self, Nat.reduceBEq, QOp.loads, boxO, bslO, buildO, cutL, fillV, putL, w26, v26, decide_eq_true hm0, Rj, decide_eq_false hl0]
    exact last
  obtain ⟨m, rfl⟩ : ∃ m', m = m' + 1 := ⟨m - 1, by omega⟩
  have Wm : IntKind.i64.wrap (((m + 1 : Nat) : Int) - 1) = (m : Int) := i64e (by omega) (by omega)
  simp (maxSteps := 4000000) (disch := omega) only [ah, am, Nat.reduceEqDiff, reduceCtorEq, Nat.reduceAdd, Nat.reduceLeDiff, Nat.reduceMul, Nat.reduceLT, if_true, if_false, true_and, and_true, and_self, Nat.reduceBEq, QOp.loads, boxO, bslO, buildO, cutL, fillV, putL, w26, v26, decide_eq_true hm0, Rj, decide_eq_true hl0]
  refine stepC.of (l1Below_ok _ _ _ kc) ?_
  rintro _ K2 ⟨y, rfl, y1, y2, _, g2, kc⟩
  have F2 := F.stepG g2 (by simp) hc2
  obtain ⟨v2, K3, ea, F3, g, gg, eg⟩ := F2.app1g [] y (bytes := 8) (by omega)
  simp only [List.nil_append, List.length_nil, Nat.add_zero, boxesAt, List.append_nil, encI] at ea F3 eg
  simp (maxSteps := 4000000) (disch := omega) only [ah, am, Nat.reduceEqDiff, reduceCtorEq, Nat.reduceAdd, Nat.reduceLeDiff, Nat.reduceMul, Nat.reduceLT, if_true, if_false, true_and, and_true, and_self, Nat.reduceBEq, QOp.loads, boxO, bslO, buildO, cutL, fillV, putL, w26, v26, ea, Wm]
  exact ⟨m, by omega, v2, _, rfl, (kc.ext (Ext.more _ _)).stepG eg (by omega), F3, by simp; omega⟩
end Go.Proofs.Ytbnkpligdcponaa
