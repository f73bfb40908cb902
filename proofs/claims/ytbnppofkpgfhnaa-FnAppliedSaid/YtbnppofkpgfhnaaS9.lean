import Derived.Test.YtbnppofkpgfhnaaS8
namespace Go.Proofs.Ytbnppofkpgfhnaa
open Go Go.Ah
set_option linter.unusedSimpArgs false
set_option linter.unusedVariables false
set_option maxRecDepth 10000
set_option maxHeartbeats 4000000
/-! 71 loop.example/g00066/spec.Extract: parameters 3, live [0, 1, 2], slots [0:track, 1:at, 2:n, 3:track, 4:at, 5:n] -/
def c71_0 : List SOper := [⟨some 6, .q (.mv (.c (.slice none 0 0))), none⟩, ⟨some 7, .q (.mv (.c (.bool false))), none⟩]
def c71_1 : List SOper := [⟨some 8, .q (.mv (.t 0)), none⟩, ⟨some 9, .q (.mv (.t 1)), none⟩, ⟨some 10, .q (.mv (.t 2)), none⟩, ⟨some 11, .e (.call 91 [(.t 8), (.t 9), (.t 10)]), none⟩, ⟨some 12, .q (.not (.t 11)), none⟩]
def c71_2 : List SOper := [⟨some 13, .a (.bsl 0 3 [] []), none⟩, ⟨some 6, .q (.mv (.t 13)), none⟩, ⟨some 7, .q (.mv (.c (.bool false))), none⟩]
def c71_3 : SCode := .seq (.region c71_2 [6, 7]) .ret
def c71_4 : SCode := .cond (.t 12) c71_3 .skip
def c71_5 : SCode := .seq (.region c71_1 [0, 1, 2, 12]) c71_4
def c71_6 : List SOper := [⟨some 14, .q (.mv (.t 0)), none⟩, ⟨some 15, .q (.mv (.t 1)), none⟩, ⟨some 16, .a (.bsl 0 3 [] []), none⟩, ⟨some 17, .q (.mv (.t 1)), none⟩, ⟨some 18, .q (.mv (.t 2)), none⟩, ⟨some 19, .q (.bin .add (.t 17) (.t 18)), none⟩, ⟨some 20, .e (.call 90 [(.t 14), (.t 15), (.t 16), (.t 19)]), none⟩, ⟨some 21, .q (.ext (.t 20) 0), none⟩, ⟨some 22, .q (.ext (.t 20) 1), none⟩, ⟨some 6, .q (.mv (.t 21)), none⟩, ⟨some 7, .q (.mv (.t 22)), none⟩]
def c71_7 : SCode := .seq (.region c71_6 [6, 7]) .ret
def c71_8 : SCode := .seq c71_5 c71_7
def c71_9 : SCode := .seq (.region c71_0 [0, 1, 2]) c71_8
def c71 : SCode := c71_9
theorem w71 : type_of% (And.intro (uR Try.prog c71_0.eq_1) (And.intro (uR Try.prog c71_1.eq_1) (And.intro (uR Try.prog c71_2.eq_1) (And.intro (uC Try.prog c71_3.eq_1) (And.intro (uC Try.prog c71_4.eq_1) (And.intro (uC Try.prog c71_5.eq_1) (And.intro (uR Try.prog c71_6.eq_1) (And.intro (uC Try.prog c71_7.eq_1) (And.intro (uC Try.prog c71_8.eq_1) (And.intro (uC Try.prog c71_9.eq_1) (uC Try.prog c71.eq_1))))))))))) := (And.intro (uR Try.prog c71_0.eq_1) (And.intro (uR Try.prog c71_1.eq_1) (And.intro (uR Try.prog c71_2.eq_1) (And.intro (uC Try.prog c71_3.eq_1) (And.intro (uC Try.prog c71_4.eq_1) (And.intro (uC Try.prog c71_5.eq_1) (And.intro (uR Try.prog c71_6.eq_1) (And.intro (uC Try.prog c71_7.eq_1) (And.intro (uC Try.prog c71_8.eq_1) (And.intro (uC Try.prog c71_9.eq_1) (uC Try.prog c71.eq_1)))))))))))
def v71 : List RV := [.t 6, .t 7]
theorem s71 : slimF Try.prog Try.f71 = some (c71.bare, v71) := by kernel_rfl


def extractS (l : List Clip) (pos n : Int) : List Clip × Bool := if rangeOk l pos n then putS l pos [] (pos + n) else ([], false)
def liftS (l : List Clip) (pos n : Int) : List Clip × Bool := if rangeOk l pos n then putS l pos [⟨0, 0, n⟩] (pos + n) else ([], false)
theorem specExtract_ok (h : Heap) (v : Value) (l : List Clip) (i n : Int) (s : SlT h encClip 3 v l) (hl : l.length ≤ 1100000) :
    ACall Try.prog 71 [v, .int .i64 i, .int .i64 n] h fun r h' => Pair h h' r (extractS l i n) := by
  refine ACall.of Try.func71 s71 (of_decide_eq_true rfl) ?_
  simp (maxSteps := 4000000) (disch := omega) only [ah, am, Nat.reduceEqDiff, reduceCtorEq, Nat.reduceAdd, Nat.reduceLeDiff, Nat.reduceMul, Nat.reduceLT, if_true, if_false, true_and, and_true, and_self, Nat.reduceBEq, QOp.loads, boxO, bslO, buildO, cutL, fillV, putL, w71, v71]
  refine stepC.of (l4Range_ok _ _ _ _ _ s (by omega)) ?_
  rintro _ H1 ⟨e1, rfl⟩
  by_cases hc : rangeOk l i n
  · have hc' : decide (rangeOk l i n) = true := decide_eq_true hc
    have B := sumLen_bound hc.1.2.1
    have hlen := hc.1.1; have hsum := hc.1.2.2
    have hr := hc.2
    simp (maxSteps := 4000000) (disch := omega) only [ah, am, Nat.reduceEqDiff, reduceCtorEq, Nat.reduceAdd, Nat.reduceLeDiff, Nat.reduceMul, Nat.reduceLT, if_true, if_false, true_and, and_true, and_self, Nat.reduceBEq, QOp.loads, boxO, bslO, buildO, cutL, fillV, putL, w71, v71, hc', i64w]
    refine stepC.of (l4Put_ok _ _ _ l [] _ _ (s.ext (e1.trans (Ext.more _ _))) (OwnT.new0 H1 encClip_len (by omega)).slt hc.1.1 (by simp) hc.1.2.1 (by omega) (by omega)) ?_
    rintro _ H2 ⟨rv, rfl, F⟩
    simp (maxSteps := 4000000) (disch := omega) only [ah, am, Nat.reduceEqDiff, reduceCtorEq, Nat.reduceAdd, Nat.reduceLeDiff, Nat.reduceMul, Nat.reduceLT, if_true, if_false, true_and, and_true, and_self, Nat.reduceBEq, QOp.loads, boxO, bslO, buildO, cutL, fillV, putL, w71, v71]
    have hT : extractS l i n = putS l i [] (i + n) := if_pos hc
    rw [hT]
    exact ⟨rv, rfl, F.mono (e1.trans (Ext.more _ _))⟩
  · have hc' : decide (rangeOk l i n) = false := decide_eq_false hc
    simp (maxSteps := 4000000) (disch := omega) only [ah, am, Nat.reduceEqDiff, reduceCtorEq, Nat.reduceAdd, Nat.reduceLeDiff, Nat.reduceMul, Nat.reduceLT, if_true, if_false, true_and, and_true, and_self, Nat.reduceBEq, QOp.loads, boxO, bslO, buildO, cutL, fillV, putL, w71, v71, hc']
    have hT : extractS l i n = ([], false) := if_neg hc
    rw [hT]
    exact ⟨_, rfl, (Fresh.new0 _ encClip_len (by omega)).mono e1⟩
end Go.Proofs.Ytbnppofkpgfhnaa
