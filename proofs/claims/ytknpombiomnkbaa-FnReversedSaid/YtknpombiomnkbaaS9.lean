import Derived.Test.YtknpombiomnkbaaS8
namespace Go.Proofs.Ytknpombiomnkbaa
open Go Go.Ah
set_option linter.unusedSimpArgs false
set_option linter.unusedVariables false
set_option maxRecDepth 10000
set_option maxHeartbeats 4000000
/-! 30 loop.example/g00066/spec.Lift: parameters 3, live [0, 1, 2], slots [0:track, 1:at, 2:n, 3:track, 4:at, 5:n] -/
def c30_0 : List SOper := [⟨some 6, .q (.mv (.c (.slice none 0 0))), none⟩, ⟨some 7, .q (.mv (.c (.bool false))), none⟩]
def c30_1 : List SOper := [⟨some 8, .q (.mv (.t 0)), none⟩, ⟨some 9, .q (.mv (.t 1)), none⟩, ⟨some 10, .q (.mv (.t 2)), none⟩, ⟨some 11, .e (.call 78 [(.t 8), (.t 9), (.t 10)]), none⟩, ⟨some 12, .q (.not (.t 11)), none⟩]
def c30_2 : List SOper := [⟨some 13, .a (.bsl 0 3 [] []), none⟩, ⟨some 6, .q (.mv (.t 13)), none⟩, ⟨some 7, .q (.mv (.c (.bool false))), none⟩]
def c30_3 : SCode := .seq (.region c30_2 [6, 7]) .ret
def c30_4 : SCode := .cond (.t 12) c30_3 .skip
def c30_5 : SCode := .seq (.region c30_1 [0, 1, 2, 12]) c30_4
def c30_6 : List SOper := [⟨some 14, .q (.mv (.t 0)), none⟩, ⟨some 15, .q (.mv (.t 1)), none⟩, ⟨some 16, .q (.mv (.t 2)), none⟩, ⟨some 17, .q (.build [(.int .i64 0), (.int .i64 0), (.int .i64 0)] [(2, 1, (.t 16))]), none⟩, ⟨some 18, .a (.bsl 1 3 [(.int .i64 0), (.int .i64 0), (.int .i64 0)] [(0, 3, (.t 17))]), none⟩, ⟨some 19, .q (.mv (.t 1)), none⟩, ⟨some 20, .q (.mv (.t 2)), none⟩, ⟨some 21, .q (.bin .add (.t 19) (.t 20)), none⟩, ⟨some 22, .e (.call 69 [(.t 14), (.t 15), (.t 18), (.t 21)]), none⟩, ⟨some 23, .q (.ext (.t 22) 0), none⟩, ⟨some 24, .q (.ext (.t 22) 1), none⟩, ⟨some 6, .q (.mv (.t 23)), none⟩, ⟨some 7, .q (.mv (.t 24)), none⟩]
def c30_7 : SCode := .seq (.region c30_6 [6, 7]) .ret
def c30_8 : SCode := .seq c30_5 c30_7
def c30_9 : SCode := .seq (.region c30_0 [0, 1, 2]) c30_8
def c30 : SCode := c30_9
theorem w30 : type_of% (And.intro (uR Try.prog c30_0.eq_1) (And.intro (uR Try.prog c30_1.eq_1) (And.intro (uR Try.prog c30_2.eq_1) (And.intro (uC Try.prog c30_3.eq_1) (And.intro (uC Try.prog c30_4.eq_1) (And.intro (uC Try.prog c30_5.eq_1) (And.intro (uR Try.prog c30_6.eq_1) (And.intro (uC Try.prog c30_7.eq_1) (And.intro (uC Try.prog c30_8.eq_1) (And.intro (uC Try.prog c30_9.eq_1) (uC Try.prog c30.eq_1))))))))))) := (And.intro (uR Try.prog c30_0.eq_1) (And.intro (uR Try.prog c30_1.eq_1) (And.intro (uR Try.prog c30_2.eq_1) (And.intro (uC Try.prog c30_3.eq_1) (And.intro (uC Try.prog c30_4.eq_1) (And.intro (uC Try.prog c30_5.eq_1) (And.intro (uR Try.prog c30_6.eq_1) (And.intro (uC Try.prog c30_7.eq_1) (And.intro (uC Try.prog c30_8.eq_1) (And.intro (uC Try.prog c30_9.eq_1) (uC Try.prog c30.eq_1)))))))))))
def v30 : List RV := [.t 6, .t 7]
theorem s30 : slimF Try.prog Try.f30 = some (c30.bare, v30) := by kernel_rfl

def extractS (l : List Clip) (pos n : Int) : List Clip × Bool := if rangeOk l pos n then putS l pos [] (pos + n) else ([], false)
def liftS (l : List Clip) (pos n : Int) : List Clip × Bool := if rangeOk l pos n then putS l pos [⟨0, 0, n⟩] (pos + n) else ([], false)
theorem specLift_ok (h : Heap) (v : Value) (l : List Clip) (i n : Int) (s : SlT h encClip 3 v l) (hl : l.length ≤ 1100000) :
    ACall Try.prog 30 [v, .int .i64 i, .int .i64 n] h fun r h' => Pair h h' r (liftS l i n) := by
  refine ACall.of Try.func30 s30 (of_decide_eq_true rfl) ?_
  simp (maxSteps := 4000000) (disch := omega) only [ah, am, Nat.reduceEqDiff, reduceCtorEq, Nat.reduceAdd, Nat.reduceLeDiff, Nat.reduceMul, Nat.reduceLT, if_true, if_false, true_and, and_true, and_self, Nat.reduceBEq, QOp.loads, boxO, bslO, buildO, cutL, fillV, putL, w30, v30]
  refine stepC.of (l4Range_ok _ _ _ _ _ s (by omega)) ?_
  rintro _ H1 ⟨e1, rfl⟩
  by_cases hc : rangeOk l i n
  · have hc' : decide (rangeOk l i n) = true := decide_eq_true hc
    have B := sumLen_bound hc.1.2.1
    have hlen := hc.1.1; have hsum := hc.1.2.2
    have hr := hc.2
    have O := (OwnT.new H1 [(⟨0, 0, n⟩ : Clip)] encClip_len (by omega)).slt
    simp only [List.flatMap_cons, List.flatMap_nil, List.append_nil, List.length_cons, List.length_nil, Nat.zero_add, encClip] at O
    simp (maxSteps := 4000000) (disch := omega) only [ah, am, Nat.reduceEqDiff, reduceCtorEq, Nat.reduceAdd, Nat.reduceLeDiff, Nat.reduceMul, Nat.reduceLT, if_true, if_false, true_and, and_true, and_self, Nat.reduceBEq, QOp.loads, boxO, bslO, buildO, cutL, fillV, putL, w30, v30, hc', i64w]
    refine stepC.of (l4Put_ok _ _ _ l [⟨0, 0, n⟩] _ _ (s.ext (e1.trans (Ext.more _ _))) O hc.1.1 (by simp) hc.1.2.1 (by omega) (by omega)) ?_
    rintro _ H2 ⟨rv, rfl, F⟩
    simp (maxSteps := 4000000) (disch := omega) only [ah, am, Nat.reduceEqDiff, reduceCtorEq, Nat.reduceAdd, Nat.reduceLeDiff, Nat.reduceMul, Nat.reduceLT, if_true, if_false, true_and, and_true, and_self, Nat.reduceBEq, QOp.loads, boxO, bslO, buildO, cutL, fillV, putL, w30, v30]
    have hT : liftS l i n = putS l i [⟨0, 0, n⟩] (i + n) := if_pos hc
    rw [hT]
    exact ⟨rv, rfl, F.mono (e1.trans (Ext.more _ _))⟩
  · have hc' : decide (rangeOk l i n) = false := decide_eq_false hc
    simp (maxSteps := 4000000) (disch := omega) only [ah, am, Nat.reduceEqDiff, reduceCtorEq, Nat.reduceAdd, Nat.reduceLeDiff, Nat.reduceMul, Nat.reduceLT, if_true, if_false, true_and, and_true, and_self, Nat.reduceBEq, QOp.loads, boxO, bslO, buildO, cutL, fillV, putL, w30, v30, hc']
    have hT : liftS l i n = ([], false) := if_neg hc
    rw [hT]
    exact ⟨_, rfl, (Fresh.new0 _ encClip_len (by omega)).mono e1⟩
end Go.Proofs.Ytknpombiomnkbaa
