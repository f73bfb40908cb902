import Derived.Test.YtknpombiomnkbaaD4
import Derived.Test.YtknpombiomnkbaaS7
namespace Go.Proofs.Ytknpombiomnkbaa
open Go Go.Ah
set_option linter.unusedSimpArgs false
set_option linter.unusedVariables false
set_option maxRecDepth 10000
set_option maxHeartbeats 4000000
/-! 35 loop.example/g00066/spec.DrawRoll: parameters 1, live [0], slots [0:code, 1:code, 5:c, 6:t, 7:i, 8:i, 9:n] -/
def c35_0 : List SOper := [⟨some 2, .q (.mv (.c (.slice none 0 0))), none⟩, ⟨some 3, .q (.mv (.c (.int .i64 0))), none⟩, ⟨some 4, .q (.mv (.c (.int .i64 0))), none⟩]
def c35_1 : List SOper := [⟨some 10, .q (.mv (.t 0)), none⟩, ⟨some 11, .e (.call 45 [(.t 10)]), none⟩, ⟨some 5, .q (.mv (.t 11)), none⟩]
def c35_2 : List SOper := [⟨some 12, .q (.mv (.t 5)), none⟩, ⟨some 13, .e (.call 46 [(.t 12)]), none⟩, ⟨some 6, .q (.mv (.t 13)), none⟩]
def c35_3 : List SOper := [⟨some 14, .q (.mv (.t 5)), none⟩, ⟨some 15, .e (.call 49 [(.t 14), (.c (.int .i64 2))]), none⟩]
def c35_4 : List SOper := [⟨some 7, .q (.mv (.c (.int .i64 0))), none⟩]
def c35_5 : List SOper := [⟨some 16, .q (.mv (.t 7)), none⟩, ⟨some 17, .q (.mv (.t 6)), none⟩, ⟨some 18, .q (.len (.t 17)), none⟩, ⟨some 19, .q (.bin .lss (.t 16) (.t 18)), none⟩]
def c35_6 : SCode := .cond (.t 19) .skip (.exit 0)
def c35_7 : SCode := .seq (.region c35_5 [5, 6, 7, 19]) c35_6
def c35_8 : List SOper := [⟨some 22, .q (.mv (.t 6)), none⟩, ⟨some 23, .q (.mv (.t 7)), none⟩, ⟨some 24, .q (.ia 3 (.t 22) (.t 23)), none⟩, ⟨some 25, .q (.fa 0 (.t 24)), none⟩, ⟨some 26, .q (.ld (.t 25)), none⟩, ⟨some 27, .q (.bin .eql (.t 26) (.c (.int .i64 0))), none⟩]
def c35_9 : List SOper := [⟨some 28, .q (.mv (.t 6)), none⟩, ⟨some 29, .q (.mv (.t 7)), none⟩, ⟨some 30, .q (.mv (.t 5)), none⟩, ⟨some 31, .e (.call 47 [(.t 30), (.c (.int .i64 9))]), none⟩, ⟨some 32, .q (.bin .add (.c (.int .i64 10)) (.t 31)), none⟩, ⟨some 33, .q (.build [(.int .i64 0), (.int .i64 0), (.int .i64 0)] [(0, 1, (.c (.int .i64 5))), (1, 1, (.t 32)), (2, 1, (.c (.int .i64 8)))]), none⟩, ⟨some 34, .q (.ia 3 (.t 28) (.t 29)), none⟩, ⟨none, .e (.st 3 (.t 34) (.t 33)), none⟩]
def c35_10 : SCode := .cond (.t 27) (.region c35_9 [5, 6, 7]) .skip
def c35_11 : SCode := .seq (.region c35_8 [5, 6, 7, 27]) c35_10
def c35_12 : SCode := .block 1 c35_11
def c35_13 : List SOper := [⟨some 20, .q (.mv (.t 7)), none⟩, ⟨some 21, .q (.bin .add (.t 20) (.c (.int .i64 1))), none⟩, ⟨some 7, .q (.mv (.t 21)), none⟩]
def c35_14 : SCode := .seq c35_12 (.region c35_13 [5, 6, 7])
def c35_15 : SCode := .seq c35_7 c35_14
def c35_16 : SCode := .loop c35_15
def c35_17 : SCode := .block 0 c35_16
def c35_18 : SCode := .seq (.region c35_4 [5, 6, 7]) c35_17
def c35_19 : SCode := .cond (.t 15) c35_18 .skip
def c35_20 : SCode := .seq (.region c35_3 [5, 6, 15]) c35_19
def c35_21 : List SOper := [⟨some 35, .q (.mv (.t 5)), none⟩, ⟨some 36, .q (.mv (.t 6)), none⟩, ⟨some 37, .q (.len (.t 36)), none⟩, ⟨some 38, .e (.call 81 [(.c (.int .i64 1)), (.t 37)]), none⟩, ⟨some 39, .e (.call 47 [(.t 35), (.t 38)]), none⟩, ⟨some 8, .q (.mv (.t 39)), none⟩]
def c35_22 : List SOper := [⟨some 40, .q (.mv (.t 5)), none⟩, ⟨some 41, .e (.call 48 [(.t 40), (.c (.int .i64 (-9))), (.c (.int .i64 9))]), none⟩, ⟨some 9, .q (.mv (.t 41)), none⟩]
def c35_23 : List SOper := [⟨some 42, .q (.mv (.t 5)), none⟩, ⟨some 43, .e (.call 49 [(.t 42), (.c (.int .i64 16))]), none⟩]
def c35_24 : List SOper := [⟨some 44, .q (.mv (.t 6)), none⟩, ⟨some 45, .q (.len (.t 44)), none⟩, ⟨some 46, .a (.bsl 4 1 [(.int .i64 0), (.int .i64 0), (.int .i64 0), (.int .i64 0)] [(0, 1, (.c (.int .i64 (-1)))), (1, 1, (.t 45)), (2, 1, (.c (.int .i64 4611686018427387904))), (3, 1, (.c (.int .i64 (-9223372036854775808))))]), none⟩, ⟨some 47, .q (.mv (.t 5)), none⟩, ⟨some 48, .e (.call 47 [(.t 47), (.c (.int .i64 4))]), none⟩, ⟨some 49, .q (.ia 1 (.t 46) (.t 48)), none⟩, ⟨some 50, .q (.ld (.t 49)), none⟩, ⟨some 8, .q (.mv (.t 50)), none⟩]
def c35_25 : SCode := .cond (.t 43) (.region c35_24 [5, 6, 8, 9]) .skip
def c35_26 : SCode := .seq (.region c35_23 [5, 6, 8, 9, 43]) c35_25
def c35_27 : List SOper := [⟨some 51, .q (.mv (.t 5)), none⟩, ⟨some 52, .e (.call 49 [(.t 51), (.c (.int .i64 16))]), none⟩]
def c35_28 : List SOper := [⟨some 53, .a (.bsl 5 1 [(.int .i64 0), (.int .i64 0), (.int .i64 0), (.int .i64 0), (.int .i64 0)] [(0, 1, (.c (.int .i64 0))), (1, 1, (.c (.int .i64 10000000))), (2, 1, (.c (.int .i64 (-10000000)))), (3, 1, (.c (.int .i64 4611686018427387904))), (4, 1, (.c (.int .i64 (-9223372036854775808))))]), none⟩, ⟨some 54, .q (.mv (.t 5)), none⟩, ⟨some 55, .e (.call 47 [(.t 54), (.c (.int .i64 5))]), none⟩, ⟨some 56, .q (.ia 1 (.t 53) (.t 55)), none⟩, ⟨some 57, .q (.ld (.t 56)), none⟩, ⟨some 9, .q (.mv (.t 57)), none⟩]
def c35_29 : SCode := .cond (.t 52) (.region c35_28 [6, 8, 9]) .skip
def c35_30 : SCode := .seq (.region c35_27 [5, 6, 8, 9, 52]) c35_29
def c35_31 : List SOper := [⟨some 58, .q (.mv (.t 6)), none⟩, ⟨some 59, .q (.mv (.t 8)), none⟩, ⟨some 60, .q (.mv (.t 9)), none⟩, ⟨some 2, .q (.mv (.t 58)), none⟩, ⟨some 3, .q (.mv (.t 59)), none⟩, ⟨some 4, .q (.mv (.t 60)), none⟩]
def c35_32 : SCode := .seq (.region c35_31 [2, 3, 4]) .ret
def c35_33 : SCode := .seq c35_30 c35_32
def c35_34 : SCode := .seq c35_26 c35_33
def c35_35 : SCode := .seq (.region c35_22 [5, 6, 8, 9]) c35_34
def c35_36 : SCode := .seq (.region c35_21 [5, 6, 8]) c35_35
def c35_37 : SCode := .seq c35_20 c35_36
def c35_38 : SCode := .seq (.region c35_2 [5, 6]) c35_37
def c35_39 : SCode := .seq (.region c35_1 [5]) c35_38
def c35_40 : SCode := .seq (.region c35_0 [0]) c35_39
def c35 : SCode := c35_40
theorem w35 : type_of% (And.intro (uR Try.prog c35_0.eq_1) (And.intro (uR Try.prog c35_1.eq_1) (And.intro (uR Try.prog c35_2.eq_1) (And.intro (uR Try.prog c35_3.eq_1) (And.intro (uR Try.prog c35_4.eq_1) (And.intro (uR Try.prog c35_5.eq_1) (And.intro (uC Try.prog c35_6.eq_1) (And.intro (uC Try.prog c35_7.eq_1) (And.intro (uR Try.prog c35_8.eq_1) (And.intro (uR Try.prog c35_9.eq_1) (And.intro (uC Try.prog c35_10.eq_1) (And.intro (uC Try.prog c35_11.eq_1) (And.intro (uC Try.prog c35_12.eq_1) (And.intro (uR Try.prog c35_13.eq_1) (And.intro (uC Try.prog c35_14.eq_1) (And.intro (uC Try.prog c35_15.eq_1) (And.intro (uC Try.prog c35_16.eq_1) (And.intro (uC Try.prog c35_17.eq_1) (And.intro (uC Try.prog c35_18.eq_1) (And.intro (uC Try.prog c35_19.eq_1) (And.intro (uC Try.prog c35_20.eq_1) (And.intro (uR Try.prog c35_21.eq_1) (And.intro (uR Try.prog c35_22.eq_1) (And.intro (uR Try.prog c35_23.eq_1) (And.intro (uR Try.prog c35_24.eq_1) (And.intro (uC Try.prog c35_25.eq_1) (And.intro (uC Try.prog c35_26.eq_1) (And.intro (uR Try.prog c35_27.eq_1) (And.intro (uR Try.prog c35_28.eq_1) (And.intro (uC Try.prog c35_29.eq_1) (And.intro (uC Try.prog c35_30.eq_1) (And.intro (uR Try.prog c35_31.eq_1) (And.intro (uC Try.prog c35_32.eq_1) (And.intro (uC Try.prog c35_33.eq_1) (And.intro (uC Try.prog c35_34.eq_1) (And.intro (uC Try.prog c35_35.eq_1) (And.intro (uC Try.prog c35_36.eq_1) (And.intro (uC Try.prog c35_37.eq_1) (And.intro (uC Try.prog c35_38.eq_1) (And.intro (uC Try.prog c35_39.eq_1) (And.intro (uC Try.prog c35_40.eq_1) (uC Try.prog c35.eq_1)))))))))))))))))))))))))))))))))))))))))) := (And.intro (uR Try.prog c35_0.eq_1) (And.intro (uR Try.prog c35_1.eq_1) (And.intro (uR Try.prog c35_2.eq_1) (And.intro (uR Try.prog c35_3.eq_1) (And.intro (uR Try.prog c35_4.eq_1) (And.intro (uR Try.prog c35_5.eq_1) (And.intro (uC Try.prog c35_6.eq_1) (And.intro (uC Try.prog c35_7.eq_1) (And.intro (uR Try.prog c35_8.eq_1) (And.intro (uR Try.prog c35_9.eq_1) (And.intro (uC Try.prog c35_10.eq_1) (And.intro (uC Try.prog c35_11.eq_1) (And.intro (uC Try.prog c35_12.eq_1) (And.intro (uR Try.prog c35_13.eq_1) (And.intro (uC Try.prog c35_14.eq_1) (And.intro (uC Try.prog c35_15.eq_1) (And.intro (uC Try.prog c35_16.eq_1) (And.intro (uC Try.prog c35_17.eq_1) (And.intro (uC Try.prog c35_18.eq_1) (And.intro (uC Try.prog c35_19.eq_1) (And.intro (uC Try.prog c35_20.eq_1) (And.intro (uR Try.prog c35_21.eq_1) (And.intro (uR Try.prog c35_22.eq_1) (And.intro (uR Try.prog c35_23.eq_1) (And.intro (uR Try.prog c35_24.eq_1) (And.intro (uC Try.prog c35_25.eq_1) (And.intro (uC Try.prog c35_26.eq_1) (And.intro (uR Try.prog c35_27.eq_1) (And.intro (uR Try.prog c35_28.eq_1) (And.intro (uC Try.prog c35_29.eq_1) (And.intro (uC Try.prog c35_30.eq_1) (And.intro (uR Try.prog c35_31.eq_1) (And.intro (uC Try.prog c35_32.eq_1) (And.intro (uC Try.prog c35_33.eq_1) (And.intro (uC Try.prog c35_34.eq_1) (And.intro (uC Try.prog c35_35.eq_1) (And.intro (uC Try.prog c35_36.eq_1) (And.intro (uC Try.prog c35_37.eq_1) (And.intro (uC Try.prog c35_38.eq_1) (And.intro (uC Try.prog c35_39.eq_1) (And.intro (uC Try.prog c35_40.eq_1) (uC Try.prog c35.eq_1))))))))))))))))))))))))))))))))))))))))))
def v35 : List RV := [.t 2, .t 3, .t 4]
theorem s35 : slimF Try.prog Try.f35 = some (c35.bare, v35) := by kernel_rfl

theorem DrawRoll_ok (h : Heap) (v : Value) (code : List Int) (s : SlT h encByte 1 v code) (hl : code.length ≤ 4096) :
    ACall Try.prog 35 [v] h fun r h' => ∃ tv l, ∃ i n : Int, r = .tuple #[tv, .int .i64 i, .int .i64 n] ∧ Fresh h h' encClip 3 tv l ∧ l.length ≤ 302 := by
  refine ACall.of Try.func35 s35 (of_decide_eq_true rfl) ?_
  simp (maxSteps := 4000000) (disch := omega) only [ah, am, Nat.reduceEqDiff, reduceCtorEq, Nat.reduceAdd, Nat.reduceLeDiff, Nat.reduceMul, Nat.reduceLT, if_true, if_false, true_and, and_true, and_self, Nat.reduceBEq, QOp.loads, boxO, bslO, buildO, cutL, fillV, putL, w35, v35]
  refine stepC.of (l1New_ok _ _ _ s hl) ?_
  rintro _ H1 ⟨e1, rfl, k1⟩
  have hc := k1.lt
  have hm : h.size ∈ [h.size] := by simp
  simp (maxSteps := 4000000) (disch := omega) only [ah, am, Nat.reduceEqDiff, reduceCtorEq, Nat.reduceAdd, Nat.reduceLeDiff, Nat.reduceMul, Nat.reduceLT, if_true, if_false, true_and, and_true, and_self, Nat.reduceBEq, QOp.loads, boxO, bslO, buildO, cutL, fillV, putL, w35, v35]
  refine stepC.of (l4DrawTrack_ok _ _ k1) ?_
  rintro tv H2 ⟨l0, F, k, D⟩
  have hD := D.2
  simp (maxSteps := 4000000) (disch := omega) only [ah, am, Nat.reduceEqDiff, reduceCtorEq, Nat.reduceAdd, Nat.reduceLeDiff, Nat.reduceMul, Nat.reduceLT, if_true, if_false, true_and, and_true, and_self, Nat.reduceBEq, QOp.loads, boxO, bslO, buildO, cutL, fillV, putL, w35, v35]
  refine stepC.of (l1Once_ok _ _ _ k) ?_
  rintro _ H3 ⟨b, rfl, g, k⟩
  have F := F.stepG g hm hc
  have tail : ∀ (E : Env) (H : Heap) (l : List Clip), Cur H h.size → Fk [h.size] H1 H encClip 3 tv l [] → l.length ≤ 301 → E.get 5 = some (.pointer (some ⟨h.size, 0, none⟩)) → E.get 6 = some tv →
      SW Try.prog c35_36 (retQ [RV.t 2, RV.t 3, RV.t 4] fun r h' => ∃ tv l, ∃ i n : Int, r = .tuple #[tv, .int .i64 i, .int .i64 n] ∧ Fresh h h' encClip 3 tv l ∧ l.length ≤ 302) E H := by
    intro E H l k F hD E5 E6
    have R := F.slt.rules
    simp (maxSteps := 4000000) (disch := omega) only [ah, am, Nat.reduceEqDiff, reduceCtorEq, Nat.reduceAdd, Nat.reduceLeDiff, Nat.reduceMul, Nat.reduceLT, if_true, if_false, true_and, and_true, and_self, Nat.reduceBEq, QOp.loads, boxO, bslO, buildO, cutL, fillV, putL, w35, v35, E5, E6, R]
    refine stepC.of (l1Max_ok _ _ _) ?_
    rintro _ Hx ⟨hx, rfl⟩; rw [hx]; clear hx Hx
    simp (maxSteps := 4000000) (disch := omega) only [ah, am, Nat.reduceEqDiff, reduceCtorEq, Nat.reduceAdd, Nat.reduceLeDiff, Nat.reduceMul, Nat.reduceLT, if_true, if_false, true_and, and_true, and_self, Nat.reduceBEq, QOp.loads, boxO, bslO, buildO, cutL, fillV, putL, w35, v35, E5, E6, R]
    refine stepC.of (l1Below_ok _ _ _ k) ?_
    rintro _ H4 ⟨i, rfl, _, _, _, g, k⟩
    have F := F.stepG g hm hc
    simp (maxSteps := 4000000) (disch := omega) only [ah, am, Nat.reduceEqDiff, reduceCtorEq, Nat.reduceAdd, Nat.reduceLeDiff, Nat.reduceMul, Nat.reduceLT, if_true, if_false, true_and, and_true, and_self, Nat.reduceBEq, QOp.loads, boxO, bslO, buildO, cutL, fillV, putL, w35, v35, E5, E6, R]
    refine stepC.of (l1From_ok _ _ _ _ k (by omega) (by omega) (by omega)) ?_
    rintro _ H5 ⟨n, rfl, _, g, k⟩
    have F := F.stepG g hm hc
    simp (maxSteps := 4000000) (disch := omega) only [ah, am, Nat.reduceEqDiff, reduceCtorEq, Nat.reduceAdd, Nat.reduceLeDiff, Nat.reduceMul, Nat.reduceLT, if_true, if_false, true_and, and_true, and_self, Nat.reduceBEq, QOp.loads, boxO, bslO, buildO, cutL, fillV, putL, w35, v35, E5, E6, R]
    refine stepC.of (l1Once_ok _ _ _ k) ?_
    rintro _ H6 ⟨b, rfl, g, k⟩
    have F := F.stepG g hm hc
    have R := F.slt.rules
    have tail2 : ∀ (E : Env) (H : Heap) (i : Int), Cur H h.size → Fk [h.size] H1 H encClip 3 tv l [] → E.get 5 = some (.pointer (some ⟨h.size, 0, none⟩)) → E.get 6 = some tv → E.get 8 = some (.int .i64 i) → E.get 9 = some (.int .i64 n) →
        SW Try.prog c35_33 (retQ [RV.t 2, RV.t 3, RV.t 4] fun r h' => ∃ tv l, ∃ i n : Int, r = .tuple #[tv, .int .i64 i, .int .i64 n] ∧ Fresh h h' encClip 3 tv l ∧ l.length ≤ 302) E H := by
      intro E H i k F E5 E6 E8 E9
      simp (maxSteps := 4000000) (disch := omega) only [ah, am, Nat.reduceEqDiff, reduceCtorEq, Nat.reduceAdd, Nat.reduceLeDiff, Nat.reduceMul, Nat.reduceLT, if_true, if_false, true_and, and_true, and_self, Nat.reduceBEq, QOp.loads, boxO, bslO, buildO, cutL, fillV, putL, w35, v35, E5, E6, E8, E9]
      refine stepC.of (l1Once_ok _ _ _ k) ?_
      rintro _ H7 ⟨b, rfl, g, k⟩
      have F := F.stepG g hm hc
      cases b with
      | false =>
        simp (maxSteps := 4000000) (disch := omega) only [ah, am, Nat.reduceEqDiff, reduceCtorEq, Nat.reduceAdd, Nat.reduceLeDiff, Nat.reduceMul, Nat.reduceLT, if_true, if_false, true_and, and_true, and_self, Nat.reduceBEq, QOp.loads, boxO, bslO, buildO, cutL, fillV, putL, w35, v35, E5, E6, E8, E9]
        exact ⟨_, l, _, _, rfl, F.out' e1 (Nat.le_refl _), by omega⟩
      | true =>
        have hc2 := k.lt
        have F := F.step (Ext.more H7 [[.int .i64 0, .int .i64 10000000, .int .i64 (-10000000), .int .i64 4611686018427387904, .int .i64 (-9223372036854775808)]])
        simp (maxSteps := 4000000) (disch := omega) only [ah, am, Nat.reduceEqDiff, reduceCtorEq, Nat.reduceAdd, Nat.reduceLeDiff, Nat.reduceMul, Nat.reduceLT, if_true, if_false, true_and, and_true, and_self, Nat.reduceBEq, QOp.loads, boxO, bslO, buildO, cutL, fillV, putL, w35, v35, E5, E6, E8, E9]
        refine stepC.of (l1Below_ok _ _ _ (k.ext (Ext.more H7 _))) ?_
        rintro _ H8 ⟨z, rfl, z1, z2, _, g, k⟩
        have z3 : z < 5 := z2 (by omega)
        have F := F.stepG g hm hc
        obtain ⟨w, hw⟩ := pick_lits g hc2 z1 (by simpa using z3) rfl
        simp (maxSteps := 4000000) (disch := omega) only [ah, am, Nat.reduceEqDiff, reduceCtorEq, Nat.reduceAdd, Nat.reduceLeDiff, Nat.reduceMul, Nat.reduceLT, if_true, if_false, true_and, and_true, and_self, Nat.reduceBEq, QOp.loads, boxO, bslO, buildO, cutL, fillV, putL, w35, v35, Nat.mul_one, hw]
        exact ⟨_, l, _, _, rfl, F.out' e1 (Nat.le_refl _), by omega⟩
    generalize c35_33 = fc at tail2 ⊢
    cases b with
    | false =>
      simp (maxSteps := 4000000) (disch := omega) only [ah, am, Nat.reduceEqDiff, reduceCtorEq, Nat.reduceAdd, Nat.reduceLeDiff, Nat.reduceMul, Nat.reduceLT, if_true, if_false, true_and, and_true, and_self, Nat.reduceBEq, QOp.loads, boxO, bslO, buildO, cutL, fillV, putL, w35, v35, E5, E6]
      exact tail2 _ _ _ k F rfl rfl rfl rfl
    | true =>
      have hc2 := k.lt
      have F := F.step (Ext.more H6 [[.int .i64 (-1), .int .i64 l.length, .int .i64 4611686018427387904, .int .i64 (-9223372036854775808)]])
      simp (maxSteps := 4000000) (disch := omega) only [ah, am, Nat.reduceEqDiff, reduceCtorEq, Nat.reduceAdd, Nat.reduceLeDiff, Nat.reduceMul, Nat.reduceLT, if_true, if_false, true_and, and_true, and_self, Nat.reduceBEq, QOp.loads, boxO, bslO, buildO, cutL, fillV, putL, w35, v35, E5, E6, R]
      refine stepC.of (l1Below_ok _ _ _ (k.ext (Ext.more H6 _))) ?_
      rintro _ H8 ⟨z, rfl, z1, z2, _, g, k⟩
      have z3 : z < 4 := z2 (by omega)
      have F := F.stepG g hm hc
      obtain ⟨w, hw⟩ := pick_lits g hc2 z1 (by simpa using z3) rfl
      simp (maxSteps := 4000000) (disch := omega) only [ah, am, Nat.reduceEqDiff, reduceCtorEq, Nat.reduceAdd, Nat.reduceLeDiff, Nat.reduceMul, Nat.reduceLT, if_true, if_false, true_and, and_true, and_self, Nat.reduceBEq, QOp.loads, boxO, bslO, buildO, cutL, fillV, putL, w35, v35, Nat.mul_one, hw]
      exact tail2 _ _ _ k F rfl rfl rfl rfl
  generalize c35_36 = fc at tail ⊢
  cases b with
  | false =>
    simp (maxSteps := 4000000) (disch := omega) only [ah, am, Nat.reduceEqDiff, reduceCtorEq, Nat.reduceAdd, Nat.reduceLeDiff, Nat.reduceMul, Nat.reduceLT, if_true, if_false, true_and, and_true, and_self, Nat.reduceBEq, QOp.loads, boxO, bslO, buildO, cutL, fillV, putL, w35, v35]
    exact tail _ _ _ k F (by omega) rfl rfl
  | true =>
    simp (maxSteps := 4000000) (disch := omega) only [ah, am, Nat.reduceEqDiff, reduceCtorEq, Nat.reduceAdd, Nat.reduceLeDiff, Nat.reduceMul, Nat.reduceLT, if_true, if_false, true_and, and_true, and_self, Nat.reduceBEq, QOp.loads, boxO, bslO, buildO, cutL, fillV, putL, w35, v35]
    refine SW_loop_up (fun i E H => ∃ l, E = [(5, .pointer (some ⟨h.size, 0, none⟩)), (6, tv), (7, .int .i64 i)] ∧ Fk [h.size] H1 H encClip 3 tv l [] ∧ Cur H h.size ∧ l.length = l0.length) l0.length 0 (by omega) ⟨l0, rfl, F, k, rfl⟩ ?_
    rintro i E H hi ⟨l, rfl, F, k, hll⟩
    have R := F.slt.rulesN
    have W1 : IntKind.i64.wrap ((i : Int) + 1) = ((i + 1 : Nat) : Int) := i64e (by omega) (by omega)
    simp (maxSteps := 4000000) (disch := omega) only [ah, am, Nat.reduceEqDiff, reduceCtorEq, Nat.reduceAdd, Nat.reduceLeDiff, Nat.reduceMul, Nat.reduceLT, if_true, if_false, true_and, and_true, and_self, Nat.reduceBEq, QOp.loads, boxO, bslO, buildO, cutL, fillV, putL, w35, v35, R]
    refine stepI.split (fun hp => ?_) (fun hp => ?_)
    · have hi' : i < l.length := by omega
      simp (maxSteps := 4000000) (disch := omega) only [ah, am, Nat.reduceEqDiff, reduceCtorEq, Nat.reduceAdd, Nat.reduceLeDiff, Nat.reduceMul, Nat.reduceLT, if_true, if_false, true_and, and_true, and_self, Nat.reduceBEq, QOp.loads, boxO, bslO, buildO, cutL, fillV, putL, w35, v35, R, encClip]
      refine stepI.split (fun hq => ?_) (fun hq => ?_)
      · simp (maxSteps := 4000000) (disch := omega) only [ah, am, Nat.reduceEqDiff, reduceCtorEq, Nat.reduceAdd, Nat.reduceLeDiff, Nat.reduceMul, Nat.reduceLT, if_true, if_false, true_and, and_true, and_self, Nat.reduceBEq, QOp.loads, boxO, bslO, buildO, cutL, fillV, putL, w35, v35]
        refine stepC.of (l1Below_ok _ _ _ k) ?_
        rintro _ H4 ⟨x, rfl, x1, x2, _, g, k⟩
        have x3 : x < 9 := x2 (by omega)
        have F := F.stepG g hm hc
        have R := F.slt.rulesN
        obtain ⟨H5, es, F5, gg, hg, G⟩ := F.set (j := i) hi' (⟨5, 10 + x, 8⟩ : Clip) rfl
        simp only [encClip] at es
        simp (maxSteps := 4000000) (disch := omega) only [ah, am, Nat.reduceEqDiff, reduceCtorEq, Nat.reduceAdd, Nat.reduceLeDiff, Nat.reduceMul, Nat.reduceLT, if_true, if_false, true_and, and_true, and_self, Nat.reduceBEq, QOp.loads, boxO, bslO, buildO, cutL, fillV, putL, w35, v35, R, i64w, es, W1]
        exact ⟨by omega, _, F5, k.step G (by omega), by simp; omega⟩
      · simp (maxSteps := 4000000) (disch := omega) only [ah, am, Nat.reduceEqDiff, reduceCtorEq, Nat.reduceAdd, Nat.reduceLeDiff, Nat.reduceMul, Nat.reduceLT, if_true, if_false, true_and, and_true, and_self, Nat.reduceBEq, QOp.loads, boxO, bslO, buildO, cutL, fillV, putL, w35, v35, W1]
        exact ⟨by omega, _, F, k, hll⟩
    · simp (maxSteps := 4000000) (disch := omega) only [ah, am, Nat.reduceEqDiff, reduceCtorEq, Nat.reduceAdd, Nat.reduceLeDiff, Nat.reduceMul, Nat.reduceLT, if_true, if_false, true_and, and_true, and_self, Nat.reduceBEq, QOp.loads, boxO, bslO, buildO, cutL, fillV, putL, w35, v35]
      exact tail _ _ _ k F (by omega) rfl rfl
end Go.Proofs.Ytknpombiomnkbaa
