import Derived.Test.YtbnppofkpgfhnaaJ1
import Derived.Test.YtbnppofkpgfhnaaI5
import Derived.Test.YtbnppofkpgfhnaaDA
import Derived.Test.YtbnppofkpgfhnaaI8
import Derived.Test.YtbnppofkpgfhnaaJ2
namespace Go.Proofs.Ytbnppofkpgfhnaa
open Go Go.Ah
set_option linter.unusedSimpArgs false
set_option linter.unusedVariables false
set_option maxRecDepth 10000
set_option maxHeartbeats 4000000
/-! 14 loop.example/g00066/laws.sameClips: parameters 2, live [0, 1], slots [0:a, 1:b, 2:a, 3:b, 5:i] -/
def c14_0 : List SOper := [⟨some 4, .q (.mv (.c (.bool false))), none⟩]
def c14_1 : List SOper := [⟨some 6, .q (.mv (.t 0)), none⟩, ⟨some 7, .q (.len (.t 6)), none⟩, ⟨some 8, .q (.mv (.t 1)), none⟩, ⟨some 9, .q (.len (.t 8)), none⟩, ⟨some 10, .q (.bin .neq (.t 7) (.t 9)), none⟩]
def c14_2 : List SOper := [⟨some 4, .q (.mv (.c (.bool false))), none⟩]
def c14_3 : SCode := .seq (.region c14_2 [4]) .ret
def c14_4 : SCode := .cond (.t 10) c14_3 .skip
def c14_5 : SCode := .seq (.region c14_1 [0, 1, 10]) c14_4
def c14_6 : List SOper := [⟨some 5, .q (.mv (.c (.int .i64 0))), none⟩]
def c14_7 : List SOper := [⟨some 11, .q (.mv (.t 5)), none⟩, ⟨some 12, .q (.mv (.t 0)), none⟩, ⟨some 13, .q (.len (.t 12)), none⟩, ⟨some 14, .q (.bin .lss (.t 11) (.t 13)), none⟩]
def c14_8 : SCode := .cond (.t 14) .skip (.exit 0)
def c14_9 : SCode := .seq (.region c14_7 [0, 1, 5, 14]) c14_8
def c14_10 : List SOper := [⟨some 17, .q (.mv (.t 0)), none⟩, ⟨some 18, .q (.mv (.t 5)), none⟩, ⟨some 19, .q (.ia 3 (.t 17) (.t 18)), none⟩, ⟨some 20, .q (.ldn 3 (.t 19)), none⟩, ⟨some 21, .q (.mv (.t 1)), none⟩, ⟨some 22, .q (.mv (.t 5)), none⟩, ⟨some 23, .q (.ia 3 (.t 21) (.t 22)), none⟩, ⟨some 24, .q (.ldn 3 (.t 23)), none⟩, ⟨some 25, .q (.eqi true 3 (.t 20) (.t 24)), none⟩]
def c14_11 : List SOper := [⟨some 4, .q (.mv (.c (.bool false))), none⟩]
def c14_12 : SCode := .seq (.region c14_11 [4]) .ret
def c14_13 : SCode := .cond (.t 25) c14_12 .skip
def c14_14 : SCode := .seq (.region c14_10 [0, 1, 5, 25]) c14_13
def c14_15 : SCode := .block 1 c14_14
def c14_16 : List SOper := [⟨some 15, .q (.mv (.t 5)), none⟩, ⟨some 16, .q (.bin .add (.t 15) (.c (.int .i64 1))), none⟩, ⟨some 5, .q (.mv (.t 16)), none⟩]
def c14_17 : SCode := .seq c14_15 (.region c14_16 [0, 1, 5])
def c14_18 : SCode := .seq c14_9 c14_17
def c14_19 : SCode := .loop c14_18
def c14_20 : SCode := .block 0 c14_19
def c14_21 : SCode := .seq (.region c14_6 [0, 1, 5]) c14_20
def c14_22 : List SOper := [⟨some 4, .q (.mv (.c (.bool true))), none⟩]
def c14_23 : SCode := .seq (.region c14_22 [4]) .ret
def c14_24 : SCode := .seq c14_21 c14_23
def c14_25 : SCode := .seq c14_5 c14_24
def c14_26 : SCode := .seq (.region c14_0 [0, 1]) c14_25
def c14 : SCode := c14_26
theorem w14 : type_of% (And.intro (uR Try.prog c14_0.eq_1) (And.intro (uR Try.prog c14_1.eq_1) (And.intro (uR Try.prog c14_2.eq_1) (And.intro (uC Try.prog c14_3.eq_1) (And.intro (uC Try.prog c14_4.eq_1) (And.intro (uC Try.prog c14_5.eq_1) (And.intro (uR Try.prog c14_6.eq_1) (And.intro (uR Try.prog c14_7.eq_1) (And.intro (uC Try.prog c14_8.eq_1) (And.intro (uC Try.prog c14_9.eq_1) (And.intro (uR Try.prog c14_10.eq_1) (And.intro (uR Try.prog c14_11.eq_1) (And.intro (uC Try.prog c14_12.eq_1) (And.intro (uC Try.prog c14_13.eq_1) (And.intro (uC Try.prog c14_14.eq_1) (And.intro (uC Try.prog c14_15.eq_1) (And.intro (uR Try.prog c14_16.eq_1) (And.intro (uC Try.prog c14_17.eq_1) (And.intro (uC Try.prog c14_18.eq_1) (And.intro (uC Try.prog c14_19.eq_1) (And.intro (uC Try.prog c14_20.eq_1) (And.intro (uC Try.prog c14_21.eq_1) (And.intro (uR Try.prog c14_22.eq_1) (And.intro (uC Try.prog c14_23.eq_1) (And.intro (uC Try.prog c14_24.eq_1) (And.intro (uC Try.prog c14_25.eq_1) (And.intro (uC Try.prog c14_26.eq_1) (uC Try.prog c14.eq_1)))))))))))))))))))))))))))) := (And.intro (uR Try.prog c14_0.eq_1) (And.intro (uR Try.prog c14_1.eq_1) (And.intro (uR Try.prog c14_2.eq_1) (And.intro (uC Try.prog c14_3.eq_1) (And.intro (uC Try.prog c14_4.eq_1) (And.intro (uC Try.prog c14_5.eq_1) (And.intro (uR Try.prog c14_6.eq_1) (And.intro (uR Try.prog c14_7.eq_1) (And.intro (uC Try.prog c14_8.eq_1) (And.intro (uC Try.prog c14_9.eq_1) (And.intro (uR Try.prog c14_10.eq_1) (And.intro (uR Try.prog c14_11.eq_1) (And.intro (uC Try.prog c14_12.eq_1) (And.intro (uC Try.prog c14_13.eq_1) (And.intro (uC Try.prog c14_14.eq_1) (And.intro (uC Try.prog c14_15.eq_1) (And.intro (uR Try.prog c14_16.eq_1) (And.intro (uC Try.prog c14_17.eq_1) (And.intro (uC Try.prog c14_18.eq_1) (And.intro (uC Try.prog c14_19.eq_1) (And.intro (uC Try.prog c14_20.eq_1) (And.intro (uC Try.prog c14_21.eq_1) (And.intro (uR Try.prog c14_22.eq_1) (And.intro (uC Try.prog c14_23.eq_1) (And.intro (uC Try.prog c14_24.eq_1) (And.intro (uC Try.prog c14_25.eq_1) (And.intro (uC Try.prog c14_26.eq_1) (uC Try.prog c14.eq_1))))))))))))))))))))))))))))
def v14 : List RV := [.t 4]
theorem s14 : slimF Try.prog Try.f14 = some (c14.bare, v14) := by kernel_rfl

/-! 15 loop.example/g00066/impl.Joined: parameters 1, live [0], slots [0:track, 1:track] -/
def c15_0 : List SOper := [⟨some 2, .q (.mv (.c (.slice none 0 0))), none⟩]
def c15_1 : List SOper := [⟨some 3, .q (.mv (.t 0)), none⟩, ⟨some 4, .e (.call 37 [(.t 3)]), none⟩, ⟨some 5, .q (.not (.t 4)), none⟩]
def c15_2 : List SOper := [⟨some 2, .q (.mv (.c (.slice none 0 0))), none⟩]
def c15_3 : SCode := .seq (.region c15_2 [2]) .ret
def c15_4 : SCode := .cond (.t 5) c15_3 .skip
def c15_5 : SCode := .seq (.region c15_1 [0, 5]) c15_4
def c15_6 : List SOper := [⟨some 6, .q (.mv (.t 0)), none⟩, ⟨some 7, .e (.call 38 [(.t 6)]), none⟩, ⟨some 2, .q (.mv (.t 7)), none⟩]
def c15_7 : SCode := .seq (.region c15_6 [2]) .ret
def c15_8 : SCode := .seq c15_5 c15_7
def c15_9 : SCode := .seq (.region c15_0 [0]) c15_8
def c15 : SCode := c15_9
theorem w15 : type_of% (And.intro (uR Try.prog c15_0.eq_1) (And.intro (uR Try.prog c15_1.eq_1) (And.intro (uR Try.prog c15_2.eq_1) (And.intro (uC Try.prog c15_3.eq_1) (And.intro (uC Try.prog c15_4.eq_1) (And.intro (uC Try.prog c15_5.eq_1) (And.intro (uR Try.prog c15_6.eq_1) (And.intro (uC Try.prog c15_7.eq_1) (And.intro (uC Try.prog c15_8.eq_1) (And.intro (uC Try.prog c15_9.eq_1) (uC Try.prog c15.eq_1))))))))))) := (And.intro (uR Try.prog c15_0.eq_1) (And.intro (uR Try.prog c15_1.eq_1) (And.intro (uR Try.prog c15_2.eq_1) (And.intro (uC Try.prog c15_3.eq_1) (And.intro (uC Try.prog c15_4.eq_1) (And.intro (uC Try.prog c15_5.eq_1) (And.intro (uR Try.prog c15_6.eq_1) (And.intro (uC Try.prog c15_7.eq_1) (And.intro (uC Try.prog c15_8.eq_1) (And.intro (uC Try.prog c15_9.eq_1) (uC Try.prog c15.eq_1)))))))))))
def v15 : List RV := [.t 2]
theorem s15 : slimF Try.prog Try.f15 = some (c15.bare, v15) := by kernel_rfl

/-! 17 loop.example/g00066/impl.Length: parameters 1, live [0], slots [0:track, 1:track] -/
def c17_0 : List SOper := [⟨some 2, .q (.mv (.c (.int .i64 0))), none⟩]
def c17_1 : List SOper := [⟨some 3, .q (.mv (.t 0)), none⟩, ⟨some 4, .e (.call 37 [(.t 3)]), none⟩, ⟨some 5, .q (.not (.t 4)), none⟩]
def c17_2 : List SOper := [⟨some 2, .q (.mv (.c (.int .i64 (-1)))), none⟩]
def c17_3 : SCode := .seq (.region c17_2 [2]) .ret
def c17_4 : SCode := .cond (.t 5) c17_3 .skip
def c17_5 : SCode := .seq (.region c17_1 [0, 5]) c17_4
def c17_6 : List SOper := [⟨some 6, .q (.mv (.t 0)), none⟩, ⟨some 7, .e (.call 39 [(.t 6)]), none⟩, ⟨some 2, .q (.mv (.t 7)), none⟩]
def c17_7 : SCode := .seq (.region c17_6 [2]) .ret
def c17_8 : SCode := .seq c17_5 c17_7
def c17_9 : SCode := .seq (.region c17_0 [0]) c17_8
def c17 : SCode := c17_9
theorem w17 : type_of% (And.intro (uR Try.prog c17_0.eq_1) (And.intro (uR Try.prog c17_1.eq_1) (And.intro (uR Try.prog c17_2.eq_1) (And.intro (uC Try.prog c17_3.eq_1) (And.intro (uC Try.prog c17_4.eq_1) (And.intro (uC Try.prog c17_5.eq_1) (And.intro (uR Try.prog c17_6.eq_1) (And.intro (uC Try.prog c17_7.eq_1) (And.intro (uC Try.prog c17_8.eq_1) (And.intro (uC Try.prog c17_9.eq_1) (uC Try.prog c17.eq_1))))))))))) := (And.intro (uR Try.prog c17_0.eq_1) (And.intro (uR Try.prog c17_1.eq_1) (And.intro (uR Try.prog c17_2.eq_1) (And.intro (uC Try.prog c17_3.eq_1) (And.intro (uC Try.prog c17_4.eq_1) (And.intro (uC Try.prog c17_5.eq_1) (And.intro (uR Try.prog c17_6.eq_1) (And.intro (uC Try.prog c17_7.eq_1) (And.intro (uC Try.prog c17_8.eq_1) (And.intro (uC Try.prog c17_9.eq_1) (uC Try.prog c17.eq_1)))))))))))
def v17 : List RV := [.t 2]
theorem s17 : slimF Try.prog Try.f17 = some (c17.bare, v17) := by kernel_rfl

theorem clip_eqi (a b : Clip) : intsEq (encClip a) (encClip b) = some (decide (a = b)) := by
  obtain ⟨a1, a2, a3⟩ := a; obtain ⟨b1, b2, b3⟩ := b
  simp only [encClip, intsEq_cons, intsEq_nil, Option.map_some, Bool.and_true, Option.some.injEq]
  simp only [Clip.mk.injEq, Bool.decide_and]
theorem sameClips_ok (h : Heap) (v v' : Value) (l l' : List Clip) (s : SlT h encClip 3 v l) (s' : SlT h encClip 3 v' l') (hl : l.length ≤ 281474976710656) (hl' : l'.length ≤ 281474976710656) :
    ACall Try.prog 14 [v, v'] h fun r h' => h' = h ∧ r = .bool (decide (l = l')) := by
  refine ACall.of Try.func14 s14 (of_decide_eq_true rfl) ?_
  have R := s.rulesN
  have R' := s'.rulesN
  by_cases hn : l.length = l'.length
  rotate_left
  · have hn' : decide ((l.length : Int) = l'.length) = false := decide_eq_false (by omega)
    simp (maxSteps := 4000000) (disch := omega) only [ah, am, Nat.reduceEqDiff, reduceCtorEq, Nat.reduceAdd, Nat.reduceLeDiff, Nat.reduceMul, Nat.reduceLT, if_true, if_false, true_and, and_true, and_self, Nat.reduceBEq, QOp.loads, boxO, bslO, buildO, cutL, fillV, putL, w14, v14, R, R', hn']
    rw [decide_eq_false (by rintro rfl; exact hn rfl)]
  have hn' : decide ((l.length : Int) = l'.length) = true := decide_eq_true (by omega)
  simp (maxSteps := 4000000) (disch := omega) only [ah, am, Nat.reduceEqDiff, reduceCtorEq, Nat.reduceAdd, Nat.reduceLeDiff, Nat.reduceMul, Nat.reduceLT, if_true, if_false, true_and, and_true, and_self, Nat.reduceBEq, QOp.loads, boxO, bslO, buildO, cutL, fillV, putL, w14, v14, R, R', hn']
  refine SW_loop_up (fun i E H => E = [(0, v), (1, v'), (5, .int .i64 i)] ∧ H = h ∧ ∀ j (h1 : j < i) (h2 : j < l.length), l[j] = l'[j]) l.length 0 (by omega) ⟨rfl, rfl, fun j h1 => absurd h1 (by omega)⟩ ?_
  rintro i E H hi ⟨rfl, rfl, F⟩
  have W : IntKind.i64.wrap ((i : Int) + 1) = ((i + 1 : Nat) : Int) := i64e (by omega) (by omega)
  simp (maxSteps := 4000000) (disch := omega) only [ah, am, Nat.reduceEqDiff, reduceCtorEq, Nat.reduceAdd, Nat.reduceLeDiff, Nat.reduceMul, Nat.reduceLT, if_true, if_false, true_and, and_true, and_self, Nat.reduceBEq, QOp.loads, boxO, bslO, buildO, cutL, fillV, putL, w14, v14, R]
  refine stepI.split (fun hp => ?_) (fun hp => ?_)
  · simp (maxSteps := 4000000) (disch := omega) only [ah, am, Nat.reduceEqDiff, reduceCtorEq, Nat.reduceAdd, Nat.reduceLeDiff, Nat.reduceMul, Nat.reduceLT, if_true, if_false, true_and, and_true, and_self, Nat.reduceBEq, QOp.loads, boxO, bslO, buildO, cutL, fillV, putL, w14, v14, R, R', clip_eqi, encClip_len, Option.map_some, eq_self]
    refine stepI.split (fun hq => ?_) (fun hq => ?_)
    · simp (maxSteps := 4000000) (disch := omega) only [ah, am, Nat.reduceEqDiff, reduceCtorEq, Nat.reduceAdd, Nat.reduceLeDiff, Nat.reduceMul, Nat.reduceLT, if_true, if_false, true_and, and_true, and_self, Nat.reduceBEq, QOp.loads, boxO, bslO, buildO, cutL, fillV, putL, w14, v14, W]
      refine ⟨by omega, fun j h1 h2 => ?_⟩
      by_cases hj : j = i
      · subst hj; exact hq
      · exact F j (by omega) h2
    · simp (maxSteps := 4000000) (disch := omega) only [ah, am, Nat.reduceEqDiff, reduceCtorEq, Nat.reduceAdd, Nat.reduceLeDiff, Nat.reduceMul, Nat.reduceLT, if_true, if_false, true_and, and_true, and_self, Nat.reduceBEq, QOp.loads, boxO, bslO, buildO, cutL, fillV, putL, w14, v14]
      rw [decide_eq_false (by rintro rfl; exact hq rfl)]
  · simp (maxSteps := 4000000) (disch := omega) only [ah, am, Nat.reduceEqDiff, reduceCtorEq, Nat.reduceAdd, Nat.reduceLeDiff, Nat.reduceMul, Nat.reduceLT, if_true, if_false, true_and, and_true, and_self, Nat.reduceBEq, QOp.loads, boxO, bslO, buildO, cutL, fillV, putL, w14, v14]
    obtain rfl : i = l.length := by omega
    rw [decide_eq_true (List.ext_getElem hn fun j h1 h2 => F j (by omega) h1)]
def joinedI (l : List Clip) : List Clip := if trackOk l then join l else []
theorem Joined_ok (h : Heap) (v : Value) (l : List Clip) (s : SlT h encClip 3 v l) (hl : l.length ≤ 1100000) : ACall Try.prog 15 [v] h fun r h' => Fresh h h' encClip 3 r (joinedI l) := by
  refine ACall.of Try.func15 s15 (of_decide_eq_true rfl) ?_
  simp (maxSteps := 4000000) (disch := omega) only [ah, am, Nat.reduceEqDiff, reduceCtorEq, Nat.reduceAdd, Nat.reduceLeDiff, Nat.reduceMul, Nat.reduceLT, if_true, if_false, true_and, and_true, and_self, Nat.reduceBEq, QOp.loads, boxO, bslO, buildO, cutL, fillV, putL, w15, v15]
  refine stepC.of (implTrackOk_ok _ _ _ s hl) ?_
  rintro _ H1 ⟨e1, rfl⟩
  by_cases ht : trackOk l
  · have ht' : decide (trackOk l) = true := decide_eq_true ht
    simp (maxSteps := 4000000) (disch := omega) only [ah, am, Nat.reduceEqDiff, reduceCtorEq, Nat.reduceAdd, Nat.reduceLeDiff, Nat.reduceMul, Nat.reduceLT, if_true, if_false, true_and, and_true, and_self, Nat.reduceBEq, QOp.loads, boxO, bslO, buildO, cutL, fillV, putL, w15, v15, ht']
    refine stepC.of (joined_ok _ _ _ (s.ext e1) hl (fun k hk => (ht.2.1 k hk).in)) ?_
    intro r H2 F
    simp (maxSteps := 4000000) (disch := omega) only [ah, am, Nat.reduceEqDiff, reduceCtorEq, Nat.reduceAdd, Nat.reduceLeDiff, Nat.reduceMul, Nat.reduceLT, if_true, if_false, true_and, and_true, and_self, Nat.reduceBEq, QOp.loads, boxO, bslO, buildO, cutL, fillV, putL, w15, v15]
    rw [show joinedI l = join l from if_pos ht]
    exact F.mono e1
  · have ht' : decide (trackOk l) = false := decide_eq_false ht
    simp (maxSteps := 4000000) (disch := omega) only [ah, am, Nat.reduceEqDiff, reduceCtorEq, Nat.reduceAdd, Nat.reduceLeDiff, Nat.reduceMul, Nat.reduceLT, if_true, if_false, true_and, and_true, and_self, Nat.reduceBEq, QOp.loads, boxO, bslO, buildO, cutL, fillV, putL, w15, v15, ht']
    rw [show joinedI l = [] from if_neg ht]
    exact (Fresh.nil _ encClip_len (by omega)).mono e1
def lengthI (l : List Clip) : Int := if trackOk l then sumLen l else -1
theorem Length_ok (h : Heap) (v : Value) (l : List Clip) (s : SlT h encClip 3 v l) (hl : l.length ≤ 1100000) : ACall Try.prog 17 [v] h fun r h' => Ext h h' ∧ r = .int .i64 (lengthI l) := by
  refine ACall.of Try.func17 s17 (of_decide_eq_true rfl) ?_
  simp (maxSteps := 4000000) (disch := omega) only [ah, am, Nat.reduceEqDiff, reduceCtorEq, Nat.reduceAdd, Nat.reduceLeDiff, Nat.reduceMul, Nat.reduceLT, if_true, if_false, true_and, and_true, and_self, Nat.reduceBEq, QOp.loads, boxO, bslO, buildO, cutL, fillV, putL, w17, v17]
  refine stepC.of (implTrackOk_ok _ _ _ s hl) ?_
  rintro _ H1 ⟨e1, rfl⟩
  by_cases ht : trackOk l
  · have ht' : decide (trackOk l) = true := decide_eq_true ht
    simp (maxSteps := 4000000) (disch := omega) only [ah, am, Nat.reduceEqDiff, reduceCtorEq, Nat.reduceAdd, Nat.reduceLeDiff, Nat.reduceMul, Nat.reduceLT, if_true, if_false, true_and, and_true, and_self, Nat.reduceBEq, QOp.loads, boxO, bslO, buildO, cutL, fillV, putL, w17, v17, ht']
    refine stepC.of (long_ok _ _ _ (s.ext e1) ht.1 ht.2.1) ?_
    rintro _ H2 ⟨e2, rfl⟩
    simp (maxSteps := 4000000) (disch := omega) only [ah, am, Nat.reduceEqDiff, reduceCtorEq, Nat.reduceAdd, Nat.reduceLeDiff, Nat.reduceMul, Nat.reduceLT, if_true, if_false, true_and, and_true, and_self, Nat.reduceBEq, QOp.loads, boxO, bslO, buildO, cutL, fillV, putL, w17, v17]
    exact ⟨e1.trans e2, by rw [show lengthI l = sumLen l from if_pos ht]⟩
  · have ht' : decide (trackOk l) = false := decide_eq_false ht
    simp (maxSteps := 4000000) (disch := omega) only [ah, am, Nat.reduceEqDiff, reduceCtorEq, Nat.reduceAdd, Nat.reduceLeDiff, Nat.reduceMul, Nat.reduceLT, if_true, if_false, true_and, and_true, and_self, Nat.reduceBEq, QOp.loads, boxO, bslO, buildO, cutL, fillV, putL, w17, v17, ht']
    exact ⟨e1, by rw [show lengthI l = -1 from if_neg ht]⟩
end Go.Proofs.Ytbnppofkpgfhnaa

namespace Go.Proofs.Ytbnppofkpgfhnaa
open Go Go.Ah
set_option linter.unusedSimpArgs false
set_option linter.unusedVariables false
set_option maxRecDepth 10000
set_option maxHeartbeats 4000000
/-! 60 (loop.example/g00066/impl.Clip).place: parameters 1, live [0], slots [0:c, 1:c] -/
def c60_0 : List SOper := [⟨some 1, .a (.box (.t 0)), none⟩, ⟨some 2, .q (.mv (.c (.int .i64 0))), none⟩, ⟨some 3, .q (.mv (.c (.int .i64 0))), none⟩]
def c60_1 : List SOper := [⟨some 4, .q (.fa 0 (.t 1)), none⟩, ⟨some 5, .q (.ld (.t 4)), none⟩, ⟨some 6, .q (.fa 1 (.t 1)), none⟩, ⟨some 7, .q (.ld (.t 6)), none⟩, ⟨some 2, .q (.mv (.t 5)), none⟩, ⟨some 3, .q (.mv (.t 7)), none⟩]
def c60_2 : SCode := .seq (.region c60_1 [2, 3]) .ret
def c60_3 : SCode := .seq (.region c60_0 [1]) c60_2
def c60 : SCode := c60_3
theorem w60 : type_of% (And.intro (uR Try.prog c60_0.eq_1) (And.intro (uR Try.prog c60_1.eq_1) (And.intro (uC Try.prog c60_2.eq_1) (And.intro (uC Try.prog c60_3.eq_1) (uC Try.prog c60.eq_1))))) := (And.intro (uR Try.prog c60_0.eq_1) (And.intro (uR Try.prog c60_1.eq_1) (And.intro (uC Try.prog c60_2.eq_1) (And.intro (uC Try.prog c60_3.eq_1) (uC Try.prog c60.eq_1)))))
def v60 : List RV := [.t 2, .t 3]
theorem s60 : slimF Try.prog Try.f60 = some (c60.bare, v60) := by kernel_rfl
/-! 19 loop.example/g00066/impl.FrameAt: parameters 2, live [0, 1], slots [0:track, 1:at, 2:track, 3:at, 6:_, 7:c] -/
def c19_0 : List SOper := [⟨some 4, .q (.mv (.c (.int .i64 0))), none⟩, ⟨some 5, .q (.mv (.c (.int .i64 0))), none⟩]
def c19_1 : List SOper := [⟨some 8, .q (.mv (.t 0)), none⟩, ⟨some 9, .e (.call 37 [(.t 8)]), none⟩, ⟨some 10, .q (.not (.t 9)), none⟩, ⟨some 11, .q (.mv (.t 10)), none⟩, ⟨some 12, .q (.mv (.t 1)), some (11, false)⟩, ⟨some 13, .q (.mv (.t 0)), some (11, false)⟩, ⟨some 14, .e (.call 39 [(.t 13)]), some (11, false)⟩, ⟨some 15, .q (.bin .sub (.t 14) (.c (.int .i64 1))), some (11, false)⟩, ⟨some 16, .e (.call 58 [(.t 12), (.c (.int .i64 0)), (.t 15)]), some (11, false)⟩, ⟨some 17, .q (.not (.t 16)), some (11, false)⟩, ⟨some 18, .q (.pick (.t 11) (.c (.bool true)) (.t 17)), none⟩]
def c19_2 : List SOper := [⟨some 4, .q (.mv (.c (.int .i64 (-1)))), none⟩, ⟨some 5, .q (.mv (.c (.int .i64 (-1)))), none⟩]
def c19_3 : SCode := .seq (.region c19_2 [4, 5]) .ret
def c19_4 : SCode := .cond (.t 18) c19_3 .skip
def c19_5 : SCode := .seq (.region c19_1 [0, 1, 18]) c19_4
def c19_6 : List SOper := [⟨some 19, .q (.mv (.t 0)), none⟩, ⟨some 20, .q (.len (.t 19)), none⟩, ⟨some 21, .q (.mv (.c (.int .i64 0))), none⟩]
def c19_7 : List SOper := [⟨some 22, .q (.bin .lss (.t 21) (.t 20)), none⟩]
def c19_8 : SCode := .cond (.t 22) .skip (.exit 0)
def c19_9 : List SOper := [⟨some 23, .q (.ia 3 (.t 19) (.t 21)), none⟩, ⟨some 24, .q (.ldn 3 (.t 23)), none⟩, ⟨some 7, .a (.new [(.int .i64 0), (.int .i64 0), (.int .i64 0)]), none⟩, ⟨none, .e (.st 3 (.t 7) (.t 24)), none⟩]
def c19_10 : List SOper := [⟨some 25, .q (.mv (.t 1)), none⟩, ⟨some 26, .q (.fa 2 (.t 7)), none⟩, ⟨some 27, .q (.ld (.t 26)), none⟩, ⟨some 28, .q (.bin .lss (.t 25) (.t 27)), none⟩]
def c19_11 : List SOper := [⟨some 29, .q (.ldn 3 (.t 7)), none⟩, ⟨some 30, .q (.mv (.t 1)), none⟩, ⟨some 31, .e (.call 59 [(.t 29), (.t 30)]), none⟩, ⟨some 32, .e (.call 60 [(.t 31)]), none⟩, ⟨some 33, .q (.ext (.t 32) 0), none⟩, ⟨some 34, .q (.ext (.t 32) 1), none⟩, ⟨some 4, .q (.mv (.t 33)), none⟩, ⟨some 5, .q (.mv (.t 34)), none⟩]
def c19_12 : SCode := .seq (.region c19_11 [4, 5]) .ret
def c19_13 : SCode := .cond (.t 28) c19_12 .skip
def c19_14 : SCode := .seq (.region c19_10 [1, 7, 19, 20, 21, 28]) c19_13
def c19_15 : List SOper := [⟨some 35, .q (.mv (.t 1)), none⟩, ⟨some 36, .q (.fa 2 (.t 7)), none⟩, ⟨some 37, .q (.ld (.t 36)), none⟩, ⟨some 38, .q (.bin .sub (.t 35) (.t 37)), none⟩, ⟨some 1, .q (.mv (.t 38)), none⟩]
def c19_16 : SCode := .seq c19_14 (.region c19_15 [1, 19, 20, 21])
def c19_17 : SCode := .seq (.region c19_9 [1, 7, 19, 20, 21]) c19_16
def c19_18 : SCode := .block 1 c19_17
def c19_19 : List SOper := [⟨some 39, .q (.bin .add (.t 21) (.c (.int .i64 1))), none⟩, ⟨some 21, .q (.mv (.t 39)), none⟩]
def c19_20 : SCode := .seq c19_18 (.region c19_19 [1, 19, 20, 21])
def c19_21 : SCode := .seq c19_8 c19_20
def c19_22 : SCode := .seq (.region c19_7 [1, 19, 20, 21, 22]) c19_21
def c19_23 : SCode := .loop c19_22
def c19_24 : SCode := .block 0 c19_23
def c19_25 : SCode := .seq (.region c19_6 [1, 19, 20, 21]) c19_24
def c19_26 : List SOper := [⟨some 4, .q (.mv (.c (.int .i64 (-1)))), none⟩, ⟨some 5, .q (.mv (.c (.int .i64 (-1)))), none⟩]
def c19_27 : SCode := .seq (.region c19_26 [4, 5]) .ret
def c19_28 : SCode := .seq c19_25 c19_27
def c19_29 : SCode := .seq c19_5 c19_28
def c19_30 : SCode := .seq (.region c19_0 [0, 1]) c19_29
def c19 : SCode := c19_30
theorem w19 : type_of% (And.intro (uR Try.prog c19_0.eq_1) (And.intro (uR Try.prog c19_1.eq_1) (And.intro (uR Try.prog c19_2.eq_1) (And.intro (uC Try.prog c19_3.eq_1) (And.intro (uC Try.prog c19_4.eq_1) (And.intro (uC Try.prog c19_5.eq_1) (And.intro (uR Try.prog c19_6.eq_1) (And.intro (uR Try.prog c19_7.eq_1) (And.intro (uC Try.prog c19_8.eq_1) (And.intro (uR Try.prog c19_9.eq_1) (And.intro (uR Try.prog c19_10.eq_1) (And.intro (uR Try.prog c19_11.eq_1) (And.intro (uC Try.prog c19_12.eq_1) (And.intro (uC Try.prog c19_13.eq_1) (And.intro (uC Try.prog c19_14.eq_1) (And.intro (uR Try.prog c19_15.eq_1) (And.intro (uC Try.prog c19_16.eq_1) (And.intro (uC Try.prog c19_17.eq_1) (And.intro (uC Try.prog c19_18.eq_1) (And.intro (uR Try.prog c19_19.eq_1) (And.intro (uC Try.prog c19_20.eq_1) (And.intro (uC Try.prog c19_21.eq_1) (And.intro (uC Try.prog c19_22.eq_1) (And.intro (uC Try.prog c19_23.eq_1) (And.intro (uC Try.prog c19_24.eq_1) (And.intro (uC Try.prog c19_25.eq_1) (And.intro (uR Try.prog c19_26.eq_1) (And.intro (uC Try.prog c19_27.eq_1) (And.intro (uC Try.prog c19_28.eq_1) (And.intro (uC Try.prog c19_29.eq_1) (And.intro (uC Try.prog c19_30.eq_1) (uC Try.prog c19.eq_1)))))))))))))))))))))))))))))))) := (And.intro (uR Try.prog c19_0.eq_1) (And.intro (uR Try.prog c19_1.eq_1) (And.intro (uR Try.prog c19_2.eq_1) (And.intro (uC Try.prog c19_3.eq_1) (And.intro (uC Try.prog c19_4.eq_1) (And.intro (uC Try.prog c19_5.eq_1) (And.intro (uR Try.prog c19_6.eq_1) (And.intro (uR Try.prog c19_7.eq_1) (And.intro (uC Try.prog c19_8.eq_1) (And.intro (uR Try.prog c19_9.eq_1) (And.intro (uR Try.prog c19_10.eq_1) (And.intro (uR Try.prog c19_11.eq_1) (And.intro (uC Try.prog c19_12.eq_1) (And.intro (uC Try.prog c19_13.eq_1) (And.intro (uC Try.prog c19_14.eq_1) (And.intro (uR Try.prog c19_15.eq_1) (And.intro (uC Try.prog c19_16.eq_1) (And.intro (uC Try.prog c19_17.eq_1) (And.intro (uC Try.prog c19_18.eq_1) (And.intro (uR Try.prog c19_19.eq_1) (And.intro (uC Try.prog c19_20.eq_1) (And.intro (uC Try.prog c19_21.eq_1) (And.intro (uC Try.prog c19_22.eq_1) (And.intro (uC Try.prog c19_23.eq_1) (And.intro (uC Try.prog c19_24.eq_1) (And.intro (uC Try.prog c19_25.eq_1) (And.intro (uR Try.prog c19_26.eq_1) (And.intro (uC Try.prog c19_27.eq_1) (And.intro (uC Try.prog c19_28.eq_1) (And.intro (uC Try.prog c19_29.eq_1) (And.intro (uC Try.prog c19_30.eq_1) (uC Try.prog c19.eq_1))))))))))))))))))))))))))))))))
def v19 : List RV := [.t 4, .t 5]
theorem s19 : slimF Try.prog Try.f19 = some (c19.bare, v19) := by kernel_rfl

def frameOf (l : List Clip) (i : Int) : Clip := (ex l).getD i.toNat zClip
/-- What is seen at a frame: the source, the frame. -/
def frameAt (l : List Clip) (i : Int) : Int × Int := if trackOk l ∧ 0 ≤ i ∧ i < sumLen l then ((frameOf l i).src, (frameOf l i).inn) else (-1, -1)
theorem ex_at (l : List Clip) (hl : ∀ k ∈ l, wfC k) (i : Nat) (hi : i < l.length) (d : Nat) (hd : d < l[i].len.toNat) : (ex l)[(sumLen (l.take i)).toNat + d]? = some (frameI l[i] d) := by
  have h1 : ex l = ex (l.take i) ++ (framesI l[i] ++ ex (l.drop (i + 1))) := by
    have h0 : l = l.take i ++ (l[i] :: l.drop (i + 1)) := by rw [← List.drop_eq_getElem_cons hi, List.take_append_drop]
    exact (congrArg ex h0).trans (by rw [ex_append]; rfl)
  have h2 := len_ex (l.take i) (fun k hk => hl k (List.mem_of_mem_take hk))
  have h3 : (framesI l[i]).length = l[i].len.toNat := by simp [framesI]
  rw [h1, List.getElem?_append_right (by omega), List.getElem?_append_left (by omega)]
  rw [show (sumLen (l.take i)).toNat + d - (ex (l.take i)).length = d by omega]
  simp [framesI, hd]
theorem place_ok (h : Heap) (k : Clip) : ACall Try.prog 60 [.agg (encClip k).toArray] h fun r h' => Ext h h' ∧ r = .tuple #[.int .i64 k.src, .int .i64 k.inn] := by
  refine ACall.of Try.func60 s60 (of_decide_eq_true rfl) ?_
  simp (maxSteps := 4000000) (disch := omega) only [ah, am, Nat.reduceEqDiff, reduceCtorEq, Nat.reduceAdd, Nat.reduceLeDiff, Nat.reduceMul, Nat.reduceLT, if_true, if_false, true_and, and_true, and_self, Nat.reduceBEq, QOp.loads, boxO, bslO, buildO, cutL, fillV, putL, w60, v60, encClip]
  exact Ext.more _ _
theorem FrameAt_ok (h : Heap) (v : Value) (l : List Clip) (i : Int) (s : SlT h encClip 3 v l) (hl : l.length ≤ 1100000) :
    ACall Try.prog 19 [v, .int .i64 i] h fun r h' => Ext h h' ∧ r = .tuple #[.int .i64 (frameAt l i).1, .int .i64 (frameAt l i).2] := by
  refine ACall.of Try.func19 s19 (of_decide_eq_true rfl) ?_
  simp (maxSteps := 4000000) (disch := omega) only [ah, am, Nat.reduceEqDiff, reduceCtorEq, Nat.reduceAdd, Nat.reduceLeDiff, Nat.reduceMul, Nat.reduceLT, if_true, if_false, true_and, and_true, and_self, Nat.reduceBEq, QOp.loads, boxO, bslO, buildO, cutL, fillV, putL, w19, v19]
  refine stepC.of (implTrackOk_ok _ _ _ s hl) ?_
  rintro _ H1 ⟨e1, rfl⟩
  by_cases ht : trackOk l
  rotate_left
  · have ht' : decide (trackOk l) = false := decide_eq_false ht
    simp (maxSteps := 4000000) (disch := omega) only [ah, am, Nat.reduceEqDiff, reduceCtorEq, Nat.reduceAdd, Nat.reduceLeDiff, Nat.reduceMul, Nat.reduceLT, if_true, if_false, true_and, and_true, and_self, Nat.reduceBEq, QOp.loads, boxO, bslO, buildO, cutL, fillV, putL, w19, v19, ht']
    rw [show frameAt l i = (-1, -1) from if_neg fun q => ht q.1]
    exact ⟨e1, rfl⟩
  have ht' : decide (trackOk l) = true := decide_eq_true ht
  have hlen := ht.1; have hok := ht.2.1; have hsum := ht.2.2
  have B := sumLen_bound hok
  have S1 := s.ext e1
  simp (maxSteps := 4000000) (disch := omega) only [ah, am, Nat.reduceEqDiff, reduceCtorEq, Nat.reduceAdd, Nat.reduceLeDiff, Nat.reduceMul, Nat.reduceLT, if_true, if_false, true_and, and_true, and_self, Nat.reduceBEq, QOp.loads, boxO, bslO, buildO, cutL, fillV, putL, w19, v19, ht']
  refine stepC.of (long_ok _ _ _ S1 hlen hok) ?_
  rintro _ H2 ⟨e2, rfl⟩
  simp (maxSteps := 4000000) (disch := omega) only [ah, am, Nat.reduceEqDiff, reduceCtorEq, Nat.reduceAdd, Nat.reduceLeDiff, Nat.reduceMul, Nat.reduceLT, if_true, if_false, true_and, and_true, and_self, Nat.reduceBEq, QOp.loads, boxO, bslO, buildO, cutL, fillV, putL, w19, v19, ht', i64w]
  refine stepC.of (in_ok _ _ _ _) ?_
  rintro _ Hx ⟨hx, rfl⟩; rw [hx]; clear hx Hx
  by_cases hr : 0 ≤ i ∧ i ≤ sumLen l - 1
  rotate_left
  · have hr' : decide (0 ≤ i ∧ i ≤ sumLen l - 1) = false := decide_eq_false hr
    simp (maxSteps := 4000000) (disch := omega) only [ah, am, Nat.reduceEqDiff, reduceCtorEq, Nat.reduceAdd, Nat.reduceLeDiff, Nat.reduceMul, Nat.reduceLT, if_true, if_false, true_and, and_true, and_self, Nat.reduceBEq, QOp.loads, boxO, bslO, buildO, cutL, fillV, putL, w19, v19, ht', hr']
    rw [show frameAt l i = (-1, -1) from if_neg fun q => hr (by omega)]
    exact ⟨e1.trans e2, rfl⟩
  have hr' : decide (0 ≤ i ∧ i ≤ sumLen l - 1) = true := decide_eq_true hr
  have S2 := S1.ext e2
  have R := S2.rulesN
  simp (maxSteps := 4000000) (disch := omega) only [ah, am, Nat.reduceEqDiff, reduceCtorEq, Nat.reduceAdd, Nat.reduceLeDiff, Nat.reduceMul, Nat.reduceLT, if_true, if_false, true_and, and_true, and_self, Nat.reduceBEq, QOp.loads, boxO, bslO, buildO, cutL, fillV, putL, w19, v19, ht', hr', R]
  refine SW_loop_up (fun j E H => E = [(1, .int .i64 (i - sumLen (l.take j))), (19, v), (20, .int .i64 l.length), (21, .int .i64 j)] ∧ Ext H2 H ∧ sumLen (l.take j) ≤ i) l.length 0 (by omega) ⟨by simp [sumLen], Ext.refl _, by simp [sumLen]; omega⟩ ?_
  rintro j E H hj ⟨rfl, e, hle⟩
  have R := (S2.ext e).rulesN
  have W : IntKind.i64.wrap ((j : Int) + 1) = ((j + 1 : Nat) : Int) := i64e (by omega) (by omega)
  simp (maxSteps := 4000000) (disch := omega) only [ah, am, Nat.reduceEqDiff, reduceCtorEq, Nat.reduceAdd, Nat.reduceLeDiff, Nat.reduceMul, Nat.reduceLT, if_true, if_false, true_and, and_true, and_self, Nat.reduceBEq, QOp.loads, boxO, bslO, buildO, cutL, fillV, putL, w19, v19, R]
  refine stepI.split (fun hp => ?_) (fun hp => ?_)
  · have hj' : j < l.length := by omega
    have K := hok _ (List.getElem_mem hj')
    have K2 := K
    simp only [clipOk] at K2
    have T := sumLen_take l j hj'
    have P := (sumLen_bound (l := l.take j) (fun k hk => hok k (List.mem_of_mem_take hk))).1
    simp (maxSteps := 4000000) (disch := omega) only [ah, am, Nat.reduceEqDiff, reduceCtorEq, Nat.reduceAdd, Nat.reduceLeDiff, Nat.reduceMul, Nat.reduceLT, if_true, if_false, true_and, and_true, and_self, Nat.reduceBEq, QOp.loads, boxO, bslO, buildO, cutL, fillV, putL, w19, v19, R, encClip]
    refine stepI.split (fun hq => ?_) (fun hq => ?_)
    · have fo := from_ok (H.more [encClip l[j]]) l[j] (i - sumLen (l.take j)) K (by omega)
      simp only [encClip] at fo
      simp (maxSteps := 4000000) (disch := omega) only [ah, am, Nat.reduceEqDiff, reduceCtorEq, Nat.reduceAdd, Nat.reduceLeDiff, Nat.reduceMul, Nat.reduceLT, if_true, if_false, true_and, and_true, and_self, Nat.reduceBEq, QOp.loads, boxO, bslO, buildO, cutL, fillV, putL, w19, v19, encClip]
      refine stepC.of fo ?_
      rintro _ H3 ⟨e3, rfl⟩
      simp (maxSteps := 4000000) (disch := omega) only [ah, am, Nat.reduceEqDiff, reduceCtorEq, Nat.reduceAdd, Nat.reduceLeDiff, Nat.reduceMul, Nat.reduceLT, if_true, if_false, true_and, and_true, and_self, Nat.reduceBEq, QOp.loads, boxO, bslO, buildO, cutL, fillV, putL, w19, v19]
      refine stepC.of (place_ok _ (fromC l[j] (i - sumLen (l.take j)))) ?_
      rintro _ H4 ⟨e4, rfl⟩
      simp (maxSteps := 4000000) (disch := omega) only [ah, am, Nat.reduceEqDiff, reduceCtorEq, Nat.reduceAdd, Nat.reduceLeDiff, Nat.reduceMul, Nat.reduceLT, if_true, if_false, true_and, and_true, and_self, Nat.reduceBEq, QOp.loads, boxO, bslO, buildO, cutL, fillV, putL, w19, v19]
      have hf : frameOf l i = frameI l[j] (i - sumLen (l.take j)).toNat := by
        have := ex_at l (fun k hk => (hok k hk).wf) j hj' (i - sumLen (l.take j)).toNat (by omega)
        unfold frameOf
        rw [List.getD_eq_getElem?_getD, show i.toNat = (sumLen (l.take j)).toNat + (i - sumLen (l.take j)).toNat by omega, this]; rfl
      have hd : (((i - sumLen (l.take j)).toNat : Nat) : Int) = i - sumLen (l.take j) := by omega
      rw [show frameAt l i = ((frameOf l i).src, (frameOf l i).inn) from if_pos ⟨ht, by omega, by omega⟩, hf]
      simp only [frameI, fromC, hd]
      exact ⟨(((e1.trans e2).trans e).trans (Ext.more _ _)).trans (e3.trans e4), trivial⟩
    · have W2 : IntKind.i64.wrap (i - sumLen (l.take j) - l[j].len) = i - sumLen (l.take (j + 1)) := i64e (by omega) (by omega)
      simp (maxSteps := 4000000) (disch := omega) only [ah, am, Nat.reduceEqDiff, reduceCtorEq, Nat.reduceAdd, Nat.reduceLeDiff, Nat.reduceMul, Nat.reduceLT, if_true, if_false, true_and, and_true, and_self, Nat.reduceBEq, QOp.loads, boxO, bslO, buildO, cutL, fillV, putL, w19, v19, W, W2]
      exact ⟨hj', e.trans (Ext.more _ _), by omega⟩
  · obtain rfl : j = l.length := by omega
    rw [List.take_length] at hle
    omega
end Go.Proofs.Ytbnppofkpgfhnaa

namespace Go.Proofs.Ytbnppofkpgfhnaa
open Go Go.Ah
set_option linter.unusedSimpArgs false
set_option linter.unusedVariables false
set_option maxRecDepth 10000
set_option maxHeartbeats 4000000
theorem frameAt_opt {l : List Clip} {i : Int} (ht : trackOk l) (hi : 0 ≤ i) : frameAt l i = ((ex l)[i.toNat]?.map fun a => (a.src, a.inn)).getD (-1, -1) := by
  have hs := sum_ex ht
  unfold frameAt frameOf
  by_cases h : i < sumLen l
  · rw [if_pos ⟨ht, hi, h⟩, List.getD_eq_getElem?_getD, List.getElem?_eq_getElem (by omega)]; rfl
  · rw [if_neg fun q => h q.2.2, List.getElem?_eq_none (by omega)]; rfl
theorem frameAt_neg {l : List Clip} {i : Int} (hi : i < 0) : frameAt l i = (-1, -1) := if_neg fun q => by omega
theorem frameAt_eq {l u : List Clip} {i j : Int} (ht : trackOk l) (hu : trackOk u) (hi : 0 ≤ i) (hj : 0 ≤ j) (h : (ex u)[i.toNat]? = (ex l)[j.toNat]?) : frameAt u i = frameAt l j := by
  rw [frameAt_opt hu hi, frameAt_opt ht hj, h]
theorem mid_lt (e m : List Clip) (a b i : Nat) (ha : a ≤ e.length) (hi : i < a) : (e.take a ++ m ++ e.drop b)[i]? = e[i]? := by
  rw [List.append_assoc, List.getElem?_append_left (by simp; omega), List.getElem?_take, if_pos hi]
theorem mid_in (e m : List Clip) (a b i : Nat) (ha : a ≤ e.length) (h1 : a ≤ i) (h2 : i < a + m.length) : (e.take a ++ m ++ e.drop b)[i]? = m[i - a]? := by
  rw [List.append_assoc, List.getElem?_append_right (by simp; omega), List.getElem?_append_left (by simp; omega)]
  simp [Nat.min_eq_left ha]
theorem mid_ge (e m : List Clip) (a i : Nat) (ha : a ≤ e.length) (h : a + m.length ≤ i) : (e.take a ++ m ++ e.drop (a + m.length))[i]? = e[i]? := by
  rw [List.getElem?_append_right (by simp; omega), List.getElem?_drop]
  congr 1; simp; omega
/-- What is seen of a track of which a part is another one. -/
theorem frameAt_mid {l u : List Clip} {k : Clip} {pos : Int} (hk : wfC k) (ht : trackOk l) (hu : trackOk u) (hp : 0 ≤ pos) (hp2 : pos ≤ sumLen l)
    (he : ex u = (ex l).take pos.toNat ++ ex [k] ++ (ex l).drop (pos + k.len).toNat) (i : Int) :
    frameAt u i = if pos ≤ i ∧ i < pos + k.len then (k.src, if k.src = 0 then k.inn else k.inn + (i - pos)) else frameAt l i := by
  have hs := sum_ex ht
  have h1 := hk.1
  rw [ex_one] at he
  have hfl := framesI_len k
  have hb : (pos + k.len).toNat = pos.toNat + (framesI k).length := by omega
  by_cases hn : i < 0
  · rw [frameAt_neg hn, frameAt_neg hn, if_neg (by omega)]
  by_cases hc : pos ≤ i ∧ i < pos + k.len
  · rw [if_pos hc, frameAt_opt hu (by omega), he, mid_in _ _ _ _ _ (by omega) (by omega) (by omega), framesI_get, if_pos (by omega)]
    have : (((i.toNat - pos.toNat : Nat)) : Int) = i - pos := by omega
    simp only [Option.map_some, Option.getD_some, frameI, this]
  · rw [if_neg hc]
    refine frameAt_eq ht hu (by omega) (by omega) ?_
    by_cases hl : i < pos
    · rw [he, mid_lt _ _ _ _ _ (by omega) (by omega)]
    · rw [he, hb, mid_ge _ _ _ _ (by omega) (by omega)]
theorem sum_mid {l u : List Clip} {k : Clip} {pos : Int} (hk : wfC k) (ht : trackOk l) (hu : trackOk u) (hp : 0 ≤ pos) (hp2 : pos ≤ sumLen l)
    (he : ex u = (ex l).take pos.toNat ++ ex [k] ++ (ex l).drop (pos + k.len).toNat) : sumLen u = if pos + k.len > sumLen l then pos + k.len else sumLen l := by
  have hs := sum_ex ht
  have hs2 := sum_ex hu
  have h1 := hk.1
  rw [he, ex_one, List.length_append, List.length_append, List.length_take, List.length_drop, framesI_len] at hs2
  split <;> omega
end Go.Proofs.Ytbnppofkpgfhnaa
