import Derived.Test.YtbanblghepekdaaS8
namespace Go.Proofs.Ytbanblghepekdaa
open Go Go.Ah
set_option linter.unusedSimpArgs false
set_option linter.unusedVariables false
set_option maxRecDepth 10000
set_option maxHeartbeats 4000000
/-! 36 loop.example/g00066/spec.Extract: parameters 3, live [0, 1, 2], slots [0:track, 1:at, 2:n, 3:track, 4:at, 5:n] -/
def c36_0 : List SOper := [⟨some 6, .q (.mv (.c (.slice none 0 0))), none⟩, ⟨some 7, .q (.mv (.c (.bool false))), none⟩]
def c36_1 : List SOper := [⟨some 8, .q (.mv (.t 0)), none⟩, ⟨some 9, .q (.mv (.t 1)), none⟩, ⟨some 10, .q (.mv (.t 2)), none⟩, ⟨some 11, .e (.call 72 [(.t 8), (.t 9), (.t 10)]), none⟩, ⟨some 12, .q (.not (.t 11)), none⟩]
def c36_2 : List SOper := [⟨some 13, .a (.bsl 0 3 [] []), none⟩, ⟨some 6, .q (.mv (.t 13)), none⟩, ⟨some 7, .q (.mv (.c (.bool false))), none⟩]
def c36_3 : SCode := .seq (.region c36_2 [6, 7]) .ret
def c36_4 : SCode := .cond (.t 12) c36_3 .skip
def c36_5 : SCode := .seq (.region c36_1 [0, 1, 2, 12]) c36_4
def c36_6 : List SOper := [⟨some 14, .q (.mv (.t 0)), none⟩, ⟨some 15, .q (.mv (.t 1)), none⟩, ⟨some 16, .a (.bsl 0 3 [] []), none⟩, ⟨some 17, .q (.mv (.t 1)), none⟩, ⟨some 18, .q (.mv (.t 2)), none⟩, ⟨some 19, .q (.bin .add (.t 17) (.t 18)), none⟩, ⟨some 20, .e (.call 69 [(.t 14), (.t 15), (.t 16), (.t 19)]), none⟩, ⟨some 21, .q (.ext (.t 20) 0), none⟩, ⟨some 22, .q (.ext (.t 20) 1), none⟩, ⟨some 6, .q (.mv (.t 21)), none⟩, ⟨some 7, .q (.mv (.t 22)), none⟩]
def c36_7 : SCode := .seq (.region c36_6 [6, 7]) .ret
def c36_8 : SCode := .seq c36_5 c36_7
def c36_9 : SCode := .seq (.region c36_0 [0, 1, 2]) c36_8
def c36 : SCode := c36_9
theorem w36 : type_of% (And.intro (uR Try.prog c36_0.eq_1) (And.intro (uR Try.prog c36_1.eq_1) (And.intro (uR Try.prog c36_2.eq_1) (And.intro (uC Try.prog c36_3.eq_1) (And.intro (uC Try.prog c36_4.eq_1) (And.intro (uC Try.prog c36_5.eq_1) (And.intro (uR Try.prog c36_6.eq_1) (And.intro (uC Try.prog c36_7.eq_1) (And.intro (uC Try.prog c36_8.eq_1) (And.intro (uC Try.prog c36_9.eq_1) (uC Try.prog c36.eq_1))))))))))) := (And.intro (uR Try.prog c36_0.eq_1) (And.intro (uR Try.prog c36_1.eq_1) (And.intro (uR Try.prog c36_2.eq_1) (And.intro (uC Try.prog c36_3.eq_1) (And.intro (uC Try.prog c36_4.eq_1) (And.intro (uC Try.prog c36_5.eq_1) (And.intro (uR Try.prog c36_6.eq_1) (And.intro (uC Try.prog c36_7.eq_1) (And.intro (uC Try.prog c36_8.eq_1) (And.intro (uC Try.prog c36_9.eq_1) (uC Try.prog c36.eq_1)))))))))))
def v36 : List RV := [.t 6, .t 7]
theorem s36 : slimF Try.prog Try.f36 = some (c36.bare, v36) := by kernel_rfl
/-! 38 loop.example/g00066/spec.Lift: parameters 3, live [0, 1, 2], slots [0:track, 1:at, 2:n, 3:track, 4:at, 5:n] -/
def c38_0 : List SOper := [⟨some 6, .q (.mv (.c (.slice none 0 0))), none⟩, ⟨some 7, .q (.mv (.c (.bool false))), none⟩]
def c38_1 : List SOper := [⟨some 8, .q (.mv (.t 0)), none⟩, ⟨some 9, .q (.mv (.t 1)), none⟩, ⟨some 10, .q (.mv (.t 2)), none⟩, ⟨some 11, .e (.call 72 [(.t 8), (.t 9), (.t 10)]), none⟩, ⟨some 12, .q (.not (.t 11)), none⟩]
def c38_2 : List SOper := [⟨some 13, .a (.bsl 0 3 [] []), none⟩, ⟨some 6, .q (.mv (.t 13)), none⟩, ⟨some 7, .q (.mv (.c (.bool false))), none⟩]
def c38_3 : SCode := .seq (.region c38_2 [6, 7]) .ret
def c38_4 : SCode := .cond (.t 12) c38_3 .skip
def c38_5 : SCode := .seq (.region c38_1 [0, 1, 2, 12]) c38_4
def c38_6 : List SOper := [⟨some 14, .q (.mv (.t 0)), none⟩, ⟨some 15, .q (.mv (.t 1)), none⟩, ⟨some 16, .q (.mv (.t 2)), none⟩, ⟨some 17, .q (.build [(.int .i64 0), (.int .i64 0), (.int .i64 0)] [(2, 1, (.t 16))]), none⟩, ⟨some 18, .a (.bsl 1 3 [(.int .i64 0), (.int .i64 0), (.int .i64 0)] [(0, 3, (.t 17))]), none⟩, ⟨some 19, .q (.mv (.t 1)), none⟩, ⟨some 20, .q (.mv (.t 2)), none⟩, ⟨some 21, .q (.bin .add (.t 19) (.t 20)), none⟩, ⟨some 22, .e (.call 69 [(.t 14), (.t 15), (.t 18), (.t 21)]), none⟩, ⟨some 23, .q (.ext (.t 22) 0), none⟩, ⟨some 24, .q (.ext (.t 22) 1), none⟩, ⟨some 6, .q (.mv (.t 23)), none⟩, ⟨some 7, .q (.mv (.t 24)), none⟩]
def c38_7 : SCode := .seq (.region c38_6 [6, 7]) .ret
def c38_8 : SCode := .seq c38_5 c38_7
def c38_9 : SCode := .seq (.region c38_0 [0, 1, 2]) c38_8
def c38 : SCode := c38_9
theorem w38 : type_of% (And.intro (uR Try.prog c38_0.eq_1) (And.intro (uR Try.prog c38_1.eq_1) (And.intro (uR Try.prog c38_2.eq_1) (And.intro (uC Try.prog c38_3.eq_1) (And.intro (uC Try.prog c38_4.eq_1) (And.intro (uC Try.prog c38_5.eq_1) (And.intro (uR Try.prog c38_6.eq_1) (And.intro (uC Try.prog c38_7.eq_1) (And.intro (uC Try.prog c38_8.eq_1) (And.intro (uC Try.prog c38_9.eq_1) (uC Try.prog c38.eq_1))))))))))) := (And.intro (uR Try.prog c38_0.eq_1) (And.intro (uR Try.prog c38_1.eq_1) (And.intro (uR Try.prog c38_2.eq_1) (And.intro (uC Try.prog c38_3.eq_1) (And.intro (uC Try.prog c38_4.eq_1) (And.intro (uC Try.prog c38_5.eq_1) (And.intro (uR Try.prog c38_6.eq_1) (And.intro (uC Try.prog c38_7.eq_1) (And.intro (uC Try.prog c38_8.eq_1) (And.intro (uC Try.prog c38_9.eq_1) (uC Try.prog c38.eq_1)))))))))))
def v38 : List RV := [.t 6, .t 7]
theorem s38 : slimF Try.prog Try.f38 = some (c38.bare, v38) := by kernel_rfl

def extractS (l : List Clip) (pos n : Int) : List Clip × Bool := if rangeOk l pos n then putS l pos [] (pos + n) else ([], false)
def liftS (l : List Clip) (pos n : Int) : List Clip × Bool := if rangeOk l pos n then putS l pos [⟨0, 0, n⟩] (pos + n) else ([], false)
theorem specExtract_ok (h : Heap) (v : Value) (l : List Clip) (i n : Int) (s : SlT h encClip 3 v l) (hl : l.length ≤ 1100000) :
    ACall Try.prog 36 [v, .int .i64 i, .int .i64 n] h fun r h' => Pair h h' r (extractS l i n) := by
  refine ACall.of Try.func36 s36 (of_decide_eq_true rfl) ?_
  simp (maxSteps := 4000000) (disch := omega) only [ah, am, Nat.reduceEqDiff, reduceCtorEq, Nat.reduceAdd, Nat.reduceLeDiff, Nat.reduceMul, Nat.reduceLT, if_true, if_false, true_and, and_true, and_self, Nat.reduceBEq, QOp.loads, boxO, bslO, buildO, cutL, fillV, putL, w36, v36]
  refine stepC.of (l4Range_ok _ _ _ _ _ s (by omega)) ?_
  rintro _ H1 ⟨e1, rfl⟩
  by_cases hc : rangeOk l i n
  · have hc' : decide (rangeOk l i n) = true := decide_eq_true hc
    have B := sumLen_bound hc.1.2.1
    have hlen := hc.1.1; have hsum := hc.1.2.2
    have hr := hc.2
    simp (maxSteps := 4000000) (disch := omega) only [ah, am, Nat.reduceEqDiff, reduceCtorEq, Nat.reduceAdd, Nat.reduceLeDiff, Nat.reduceMul, Nat.reduceLT, if_true, if_false, true_and, and_true, and_self, Nat.reduceBEq, QOp.loads, boxO, bslO, buildO, cutL, fillV, putL, w36, v36, hc', i64w]
    refine stepC.of (l4Put_ok _ _ _ l [] _ _ (s.ext (e1.trans (Ext.more _ _))) (OwnT.new0 H1 encClip_len (by omega)).slt hc.1.1 (by simp) hc.1.2.1 (by omega) (by omega)) ?_
    rintro _ H2 ⟨rv, rfl, F⟩
    simp (maxSteps := 4000000) (disch := omega) only [ah, am, Nat.reduceEqDiff, reduceCtorEq, Nat.reduceAdd, Nat.reduceLeDiff, Nat.reduceMul, Nat.reduceLT, if_true, if_false, true_and, and_true, and_self, Nat.reduceBEq, QOp.loads, boxO, bslO, buildO, cutL, fillV, putL, w36, v36]
    have hT : extractS l i n = putS l i [] (i + n) := if_pos hc
    rw [hT]
    exact ⟨rv, rfl, F.mono (e1.trans (Ext.more _ _))⟩
  · have hc' : decide (rangeOk l i n) = false := decide_eq_false hc
    simp (maxSteps := 4000000) (disch := omega) only [ah, am, Nat.reduceEqDiff, reduceCtorEq, Nat.reduceAdd, Nat.reduceLeDiff, Nat.reduceMul, Nat.reduceLT, if_true, if_false, true_and, and_true, and_self, Nat.reduceBEq, QOp.loads, boxO, bslO, buildO, cutL, fillV, putL, w36, v36, hc']
    have hT : extractS l i n = ([], false) := if_neg hc
    rw [hT]
    exact ⟨_, rfl, (Fresh.new0 _ encClip_len (by omega)).mono e1⟩
theorem specLift_ok (h : Heap) (v : Value) (l : List Clip) (i n : Int) (s : SlT h encClip 3 v l) (hl : l.length ≤ 1100000) :
    ACall Try.prog 38 [v, .int .i64 i, .int .i64 n] h fun r h' => Pair h h' r (liftS l i n) := by
  refine ACall.of Try.func38 s38 (of_decide_eq_true rfl) ?_
  simp (maxSteps := 4000000) (disch := omega) only [ah, am, Nat.reduceEqDiff, reduceCtorEq, Nat.reduceAdd, Nat.reduceLeDiff, Nat.reduceMul, Nat.reduceLT, if_true, if_false, true_and, and_true, and_self, Nat.reduceBEq, QOp.loads, boxO, bslO, buildO, cutL, fillV, putL, w38, v38]
  refine stepC.of (l4Range_ok _ _ _ _ _ s (by omega)) ?_
  rintro _ H1 ⟨e1, rfl⟩
  by_cases hc : rangeOk l i n
  · have hc' : decide (rangeOk l i n) = true := decide_eq_true hc
    have B := sumLen_bound hc.1.2.1
    have hlen := hc.1.1; have hsum := hc.1.2.2
    have hr := hc.2
    have O := (OwnT.new H1 [(⟨0, 0, n⟩ : Clip)] encClip_len (by omega)).slt
    simp only [List.flatMap_cons, List.flatMap_nil, List.append_nil, List.length_cons, List.length_nil, Nat.zero_add, encClip] at O
    simp (maxSteps := 4000000) (disch := omega) only [ah, am, Nat.reduceEqDiff, reduceCtorEq, Nat.reduceAdd, Nat.reduceLeDiff, Nat.reduceMul, Nat.reduceLT, if_true, if_false, true_and, and_true, and_self, Nat.reduceBEq, QOp.loads, boxO, bslO, buildO, cutL, fillV, putL, w38, v38, hc', i64w]
    refine stepC.of (l4Put_ok _ _ _ l [⟨0, 0, n⟩] _ _ (s.ext (e1.trans (Ext.more _ _))) O hc.1.1 (by simp) hc.1.2.1 (by omega) (by omega)) ?_
    rintro _ H2 ⟨rv, rfl, F⟩
    simp (maxSteps := 4000000) (disch := omega) only [ah, am, Nat.reduceEqDiff, reduceCtorEq, Nat.reduceAdd, Nat.reduceLeDiff, Nat.reduceMul, Nat.reduceLT, if_true, if_false, true_and, and_true, and_self, Nat.reduceBEq, QOp.loads, boxO, bslO, buildO, cutL, fillV, putL, w38, v38]
    have hT : liftS l i n = putS l i [⟨0, 0, n⟩] (i + n) := if_pos hc
    rw [hT]
    exact ⟨rv, rfl, F.mono (e1.trans (Ext.more _ _))⟩
  · have hc' : decide (rangeOk l i n) = false := decide_eq_false hc
    simp (maxSteps := 4000000) (disch := omega) only [ah, am, Nat.reduceEqDiff, reduceCtorEq, Nat.reduceAdd, Nat.reduceLeDiff, Nat.reduceMul, Nat.reduceLT, if_true, if_false, true_and, and_true, and_self, Nat.reduceBEq, QOp.loads, boxO, bslO, buildO, cutL, fillV, putL, w38, v38, hc']
    have hT : liftS l i n = ([], false) := if_neg hc
    rw [hT]
    exact ⟨_, rfl, (Fresh.new0 _ encClip_len (by omega)).mono e1⟩
end Go.Proofs.Ytbanblghepekdaa
