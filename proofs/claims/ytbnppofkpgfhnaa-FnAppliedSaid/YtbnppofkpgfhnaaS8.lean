import Derived.Test.YtbnppofkpgfhnaaS7
namespace Go.Proofs.Ytbnppofkpgfhnaa
open Go Go.Ah
set_option linter.unusedSimpArgs false
set_option linter.unusedVariables false
set_option maxRecDepth 10000
set_option maxHeartbeats 4000000
/-! 90 loop.example/g00066/spec.l4Put: parameters 4, live [0, 1, 2, 3], slots [0:track, 1:to, 2:in, 3:from, 4:track, 5:to, 6:in, 7:from, 10:out] -/
def c90_0 : List SOper := [⟨some 8, .q (.mv (.c (.slice none 0 0))), none⟩, ⟨some 9, .q (.mv (.c (.bool false))), none⟩]
def c90_1 : List SOper := [⟨some 11, .q (.mv (.t 0)), none⟩, ⟨some 12, .q (.mv (.t 1)), none⟩, ⟨some 13, .e (.call 53 [(.t 11), (.c (.int .i64 0)), (.t 12)]), none⟩, ⟨some 10, .q (.mv (.t 13)), none⟩]
def c90_2 : List SOper := [⟨some 14, .q (.mv (.t 10)), none⟩, ⟨some 15, .q (.mv (.t 2)), none⟩, ⟨some 16, .e (.app 24 3 (.t 14) (.t 15)), none⟩, ⟨some 10, .q (.mv (.t 16)), none⟩]
def c90_3 : List SOper := [⟨some 17, .q (.mv (.t 10)), none⟩, ⟨some 18, .q (.mv (.t 0)), none⟩, ⟨some 19, .q (.mv (.t 3)), none⟩, ⟨some 20, .e (.call 53 [(.t 18), (.t 19), (.c (.int .i64 10000000))]), none⟩, ⟨some 21, .e (.app 24 3 (.t 17) (.t 20)), none⟩, ⟨some 10, .q (.mv (.t 21)), none⟩]
def c90_4 : List SOper := [⟨some 22, .q (.mv (.t 10)), none⟩, ⟨some 23, .e (.call 62 [(.t 22)]), none⟩, ⟨some 24, .q (.ext (.t 23) 0), none⟩, ⟨some 25, .q (.ext (.t 23) 1), none⟩, ⟨some 8, .q (.mv (.t 24)), none⟩, ⟨some 9, .q (.mv (.t 25)), none⟩]
def c90_5 : SCode := .seq (.region c90_4 [8, 9]) .ret
def c90_6 : SCode := .seq (.region c90_3 [10]) c90_5
def c90_7 : SCode := .seq (.region c90_2 [0, 3, 10]) c90_6
def c90_8 : SCode := .seq (.region c90_1 [0, 2, 3, 10]) c90_7
def c90_9 : SCode := .seq (.region c90_0 [0, 1, 2, 3]) c90_8
def c90 : SCode := c90_9
theorem w90 : type_of% (And.intro (uR Try.prog c90_0.eq_1) (And.intro (uR Try.prog c90_1.eq_1) (And.intro (uR Try.prog c90_2.eq_1) (And.intro (uR Try.prog c90_3.eq_1) (And.intro (uR Try.prog c90_4.eq_1) (And.intro (uC Try.prog c90_5.eq_1) (And.intro (uC Try.prog c90_6.eq_1) (And.intro (uC Try.prog c90_7.eq_1) (And.intro (uC Try.prog c90_8.eq_1) (And.intro (uC Try.prog c90_9.eq_1) (uC Try.prog c90.eq_1))))))))))) := (And.intro (uR Try.prog c90_0.eq_1) (And.intro (uR Try.prog c90_1.eq_1) (And.intro (uR Try.prog c90_2.eq_1) (And.intro (uR Try.prog c90_3.eq_1) (And.intro (uR Try.prog c90_4.eq_1) (And.intro (uC Try.prog c90_5.eq_1) (And.intro (uC Try.prog c90_6.eq_1) (And.intro (uC Try.prog c90_7.eq_1) (And.intro (uC Try.prog c90_8.eq_1) (And.intro (uC Try.prog c90_9.eq_1) (uC Try.prog c90.eq_1)))))))))))
def v90 : List RV := [.t 8, .t 9]
theorem s90 : slimF Try.prog Try.f90 = some (c90.bare, v90) := by kernel_rfl
/-! 91 loop.example/g00066/spec.l4Range: parameters 3, live [0, 1, 2], slots [0:track, 1:at, 2:n, 3:track, 4:at, 5:n, 7:k] -/
def c91_0 : List SOper := [⟨some 6, .q (.mv (.c (.bool false))), none⟩]
def c91_1 : List SOper := [⟨some 8, .q (.mv (.t 0)), none⟩, ⟨some 9, .e (.call 12 [(.t 8)]), none⟩, ⟨some 10, .q (.not (.t 9)), none⟩]
def c91_2 : List SOper := [⟨some 6, .q (.mv (.c (.bool false))), none⟩]
def c91_3 : SCode := .seq (.region c91_2 [6]) .ret
def c91_4 : SCode := .cond (.t 10) c91_3 .skip
def c91_5 : SCode := .seq (.region c91_1 [0, 1, 2, 10]) c91_4
def c91_6 : List SOper := [⟨some 11, .q (.mv (.t 0)), none⟩, ⟨some 12, .e (.call 48 [(.t 11)]), none⟩, ⟨some 7, .q (.mv (.t 12)), none⟩]
def c91_7 : List SOper := [⟨some 13, .q (.mv (.t 1)), none⟩, ⟨some 14, .q (.mv (.t 7)), none⟩, ⟨some 15, .e (.call 82 [(.t 13), (.c (.int .i64 0)), (.t 14)]), none⟩, ⟨some 16, .q (.mv (.t 15)), none⟩, ⟨some 17, .q (.mv (.t 2)), some (16, true)⟩, ⟨some 18, .q (.mv (.t 7)), some (16, true)⟩, ⟨some 19, .q (.mv (.t 1)), some (16, true)⟩, ⟨some 20, .q (.bin .sub (.t 18) (.t 19)), some (16, true)⟩, ⟨some 21, .e (.call 82 [(.t 17), (.c (.int .i64 1)), (.t 20)]), some (16, true)⟩, ⟨some 22, .q (.pick (.t 16) (.t 21) (.c (.bool false))), none⟩, ⟨some 6, .q (.mv (.t 22)), none⟩]
def c91_8 : SCode := .seq (.region c91_7 [6]) .ret
def c91_9 : SCode := .seq (.region c91_6 [1, 2, 7]) c91_8
def c91_10 : SCode := .seq c91_5 c91_9
def c91_11 : SCode := .seq (.region c91_0 [0, 1, 2]) c91_10
def c91 : SCode := c91_11
theorem w91 : type_of% (And.intro (uR Try.prog c91_0.eq_1) (And.intro (uR Try.prog c91_1.eq_1) (And.intro (uR Try.prog c91_2.eq_1) (And.intro (uC Try.prog c91_3.eq_1) (And.intro (uC Try.prog c91_4.eq_1) (And.intro (uC Try.prog c91_5.eq_1) (And.intro (uR Try.prog c91_6.eq_1) (And.intro (uR Try.prog c91_7.eq_1) (And.intro (uC Try.prog c91_8.eq_1) (And.intro (uC Try.prog c91_9.eq_1) (And.intro (uC Try.prog c91_10.eq_1) (And.intro (uC Try.prog c91_11.eq_1) (uC Try.prog c91.eq_1))))))))))))) := (And.intro (uR Try.prog c91_0.eq_1) (And.intro (uR Try.prog c91_1.eq_1) (And.intro (uR Try.prog c91_2.eq_1) (And.intro (uC Try.prog c91_3.eq_1) (And.intro (uC Try.prog c91_4.eq_1) (And.intro (uC Try.prog c91_5.eq_1) (And.intro (uR Try.prog c91_6.eq_1) (And.intro (uR Try.prog c91_7.eq_1) (And.intro (uC Try.prog c91_8.eq_1) (And.intro (uC Try.prog c91_9.eq_1) (And.intro (uC Try.prog c91_10.eq_1) (And.intro (uC Try.prog c91_11.eq_1) (uC Try.prog c91.eq_1)))))))))))))
def v91 : List RV := [.t 6]
theorem s91 : slimF Try.prog Try.f91 = some (c91.bare, v91) := by kernel_rfl

def putS (l : List Clip) (to : Int) (ins : List Clip) (fr : Int) : List Clip × Bool := editF (partS 0 to 0 l ++ ins ++ partS fr 10000000 0 l)
theorem l4Put_ok (h : Heap) (v w : Value) (l ins : List Clip) (fr to : Int) (s : SlT h encClip 3 v l) (sw : SlT h encClip 3 w ins) (hl : l.length ≤ 300) (hw : ins.length ≤ 1) (ho : ∀ k ∈ l, clipOk k)
    (hf : 0 ≤ fr ∧ fr ≤ 1000000000) (ht : 0 ≤ to ∧ to ≤ 1000000000) :
    ACall Try.prog 90 [v, .int .i64 to, w, .int .i64 fr] h fun r h' => Pair h h' r (putS l to ins fr) := by
  refine ACall.of Try.func90 s90 (of_decide_eq_true rfl) ?_
  simp (maxSteps := 4000000) (disch := omega) only [ah, am, Nat.reduceEqDiff, reduceCtorEq, Nat.reduceAdd, Nat.reduceLeDiff, Nat.reduceMul, Nat.reduceLT, if_true, if_false, true_and, and_true, and_self, Nat.reduceBEq, QOp.loads, boxO, bslO, buildO, cutL, fillV, putL, w90, v90]
  refine stepC.of (l4Part_ok _ _ _ 0 to s hl ho (by omega) (by omega)) ?_
  intro v1 H1 F1
  have L1 := partS_length 0 to l 0
  have L2 := partS_length fr 10000000 l 0
  obtain ⟨v2, H2, ea, F2⟩ := F1.app (sw.ext F1.1) (bytes := 24) (by omega)
  simp (maxSteps := 4000000) (disch := omega) only [ah, am, Nat.reduceEqDiff, reduceCtorEq, Nat.reduceAdd, Nat.reduceLeDiff, Nat.reduceMul, Nat.reduceLT, if_true, if_false, true_and, and_true, and_self, Nat.reduceBEq, QOp.loads, boxO, bslO, buildO, cutL, fillV, putL, w90, v90, ea]
  refine stepC.of (l4Part_ok _ _ _ fr 10000000 (s.ext F2.1) hl ho (by omega) (by omega)) ?_
  intro v3 H3 F3
  obtain ⟨v4, H4, eb, F4⟩ := (F2.ext F3.1).app F3.slt (bytes := 24) (by simp only [List.length_append]; omega)
  simp (maxSteps := 4000000) (disch := omega) only [ah, am, Nat.reduceEqDiff, reduceCtorEq, Nat.reduceAdd, Nat.reduceLeDiff, Nat.reduceMul, Nat.reduceLT, if_true, if_false, true_and, and_true, and_self, Nat.reduceBEq, QOp.loads, boxO, bslO, buildO, cutL, fillV, putL, w90, v90, eb]
  refine stepC.of (l4Edit_ok _ _ _ F4.slt (by simp only [List.length_append]; omega)) ?_
  rintro _ H5 ⟨rv, rfl, F5⟩
  simp (maxSteps := 4000000) (disch := omega) only [ah, am, Nat.reduceEqDiff, reduceCtorEq, Nat.reduceAdd, Nat.reduceLeDiff, Nat.reduceMul, Nat.reduceLT, if_true, if_false, true_and, and_true, and_self, Nat.reduceBEq, QOp.loads, boxO, bslO, buildO, cutL, fillV, putL, w90, v90]
  exact ⟨rv, rfl, F5.mono F4.1⟩
def rangeOk (l : List Clip) (pos n : Int) : Prop := trackOk l ∧ (0 ≤ pos ∧ pos ≤ sumLen l) ∧ 1 ≤ n ∧ n ≤ sumLen l - pos
instance (l : List Clip) (pos n : Int) : Decidable (rangeOk l pos n) := by unfold rangeOk; infer_instance
theorem l4Range_ok (h : Heap) (v : Value) (l : List Clip) (pos n : Int) (s : SlT h encClip 3 v l) (hl : l.length ≤ 1100000) :
    ACall Try.prog 91 [v, .int .i64 pos, .int .i64 n] h fun r h' => Ext h h' ∧ r = .bool (decide (rangeOk l pos n)) := by
  refine ACall.of Try.func91 s91 (of_decide_eq_true rfl) ?_
  simp (maxSteps := 4000000) (disch := omega) only [ah, am, Nat.reduceEqDiff, reduceCtorEq, Nat.reduceAdd, Nat.reduceLeDiff, Nat.reduceMul, Nat.reduceLT, if_true, if_false, true_and, and_true, and_self, Nat.reduceBEq, QOp.loads, boxO, bslO, buildO, cutL, fillV, putL, w91, v91]
  refine stepC.of (TrackOk_ok _ _ _ s (by omega)) ?_
  rintro _ H1 ⟨e1, rfl⟩
  by_cases ht : trackOk l
  · have ht' : decide (trackOk l) = true := decide_eq_true ht
    have B := sumLen_bound ht.2.1
    have := ht.1
    simp (maxSteps := 4000000) (disch := omega) only [ah, am, Nat.reduceEqDiff, reduceCtorEq, Nat.reduceAdd, Nat.reduceLeDiff, Nat.reduceMul, Nat.reduceLT, if_true, if_false, true_and, and_true, and_self, Nat.reduceBEq, QOp.loads, boxO, bslO, buildO, cutL, fillV, putL, w91, v91, ht']
    refine stepC.of (l4Length_ok _ _ _ (s.ext e1) ht.1 ht.2.1) ?_
    rintro _ Hx ⟨hx, rfl⟩; rw [hx]; clear hx Hx
    simp (maxSteps := 4000000) (disch := omega) only [ah, am, Nat.reduceEqDiff, reduceCtorEq, Nat.reduceAdd, Nat.reduceLeDiff, Nat.reduceMul, Nat.reduceLT, if_true, if_false, true_and, and_true, and_self, Nat.reduceBEq, QOp.loads, boxO, bslO, buildO, cutL, fillV, putL, w91, v91, ht', i64w]
    (repeat' first
    | (refine stepC.of (l1In_ok _ _ _ _) ?_; rintro _ _ ⟨rfl, rfl⟩; simp (maxSteps := 4000000) (disch := omega) only [ah, am, Nat.reduceEqDiff, reduceCtorEq, Nat.reduceAdd, Nat.reduceLeDiff, Nat.reduceMul, Nat.reduceLT, if_true, if_false, true_and, and_true, and_self, Nat.reduceBEq, QOp.loads, boxO, bslO, buildO, cutL, fillV, putL, i64w, w91, v91, ht'])
    | (refine stepG.cases (fun _ hp => ?_) (fun _ hp => ?_) <;> simp (maxSteps := 4000000) (disch := omega) only [hp, ah, am, Nat.reduceEqDiff, reduceCtorEq, Nat.reduceAdd, Nat.reduceLeDiff, Nat.reduceMul, Nat.reduceLT, if_true, if_false, true_and, and_true, and_self, Nat.reduceBEq, QOp.loads, boxO, bslO, buildO, cutL, fillV, putL, i64w, w91, v91, ht'])
    | (refine stepI.cases (fun _ hp => ?_) (fun _ hp => ?_) <;> simp (maxSteps := 4000000) (disch := omega) only [hp, ah, am, Nat.reduceEqDiff, reduceCtorEq, Nat.reduceAdd, Nat.reduceLeDiff, Nat.reduceMul, Nat.reduceLT, if_true, if_false, true_and, and_true, and_self, Nat.reduceBEq, QOp.loads, boxO, bslO, buildO, cutL, fillV, putL, i64w, w91, v91, ht']))
    all_goals (refine ⟨e1, ?_⟩; refine bool_dec ?_; try simp only [decide_eq_true_eq, Bool.false_eq_true, false_and, and_false, true_and, and_true, false_iff, iff_false, true_iff, iff_true, not_false_eq_true, false_or, or_false, true_or, or_true, rangeOk, ht]; first | done | omega | (refine Iff.intro (fun hq => ?_) (fun hq => ?_) <;> omega))
  · have ht' : decide (trackOk l) = false := decide_eq_false ht
    simp (maxSteps := 4000000) (disch := omega) only [ah, am, Nat.reduceEqDiff, reduceCtorEq, Nat.reduceAdd, Nat.reduceLeDiff, Nat.reduceMul, Nat.reduceLT, if_true, if_false, true_and, and_true, and_self, Nat.reduceBEq, QOp.loads, boxO, bslO, buildO, cutL, fillV, putL, w91, v91, ht']
    refine ⟨e1, ?_⟩
    have : decide (rangeOk l pos n) = false := decide_eq_false fun q => ht q.1
    rw [this]
end Go.Proofs.Ytbnppofkpgfhnaa
