import Derived.Test.YtknpombiomnkbaaJ1
import Derived.Test.YtknpombiomnkbaaI5
import Derived.Test.YtknpombiomnkbaaD1
namespace Go.Proofs.Ytknpombiomnkbaa
open Go Go.Ah
set_option linter.unusedSimpArgs false
set_option linter.unusedVariables false
set_option maxRecDepth 10000
set_option maxHeartbeats 4000000
/-! 14 loop.example/g00066/laws.sameClips: parameters 2, live [0, 1], slots [0:a, 1:b, 2:a, 3:b, 5:i] -/
def c14_0 : List SOper := [⟨some 4, .q (.mv (.c (.bool false))), none⟩]
def c14_1 : List SOper := [⟨some 6, .q (.mv (.t 0)), none⟩, ⟨some 7, .q (.len (.t 6)), none⟩, ⟨some 8, .q (.mv (.t 1)), none⟩, ⟨some 9, .q (.len (.t 8)), none⟩, ⟨some 10, .q (.bin .neq (.t 7) (.t 9)), none⟩]
def c14_2 : List SOper := [⟨some 4, .q (.mv (.c (.bool false))), none⟩]
def c14_3 : SCode := .seq (.region c14_2 [4]) .ret
def c14_4 : SCode := .cond (.t 10) c14_3 .skip
def c14_5 : SCode := .seq (.region c14_1 [0, 1, 10]) c14_4
def c14_6 : List SOper := [⟨some 5, .q (.mv (.c (.int .i64 0))), none⟩]
def c14_7 : List SOper := [⟨some 11, .q (.mv (.t 5)), none⟩, ⟨some 12, .q (.mv (.t 0)), none⟩, ⟨some 13, .q (.len (.t 12)), none⟩, ⟨some 14, .q (.bin .lss (.t 11) (.t 13)), none⟩]
def c14_8 : SCode := .cond (.t 14) .skip (.exit 0)
def c14_9 : SCode := .seq (.region c14_7 [0, 1, 5, 14]) c14_8
def c14_10 : List SOper := [⟨some 17, .q (.mv (.t 0)), none⟩, ⟨some 18, .q (.mv (.t 5)), none⟩, ⟨some 19, .q (.ia 3 (.t 17) (.t 18)), none⟩, ⟨some 20, .q (.ldn 3 (.t 19)), none⟩, ⟨some 21, .q (.mv (.t 1)), none⟩, ⟨some 22, .q (.mv (.t 5)), none⟩, ⟨some 23, .q (.ia 3 (.t 21) (.t 22)), none⟩, ⟨some 24, .q (.ldn 3 (.t 23)), none⟩, ⟨some 25, .q (.eqi true 3 (.t 20) (.t 24)), none⟩]
def c14_11 : List SOper := [⟨some 4, .q (.mv (.c (.bool false))), none⟩]
def c14_12 : SCode := .seq (.region c14_11 [4]) .ret
def c14_13 : SCode := .cond (.t 25) c14_12 .skip
def c14_14 : SCode := .seq (.region c14_10 [0, 1, 5, 25]) c14_13
def c14_15 : SCode := .block 1 c14_14
def c14_16 : List SOper := [⟨some 15, .q (.mv (.t 5)), none⟩, ⟨some 16, .q (.bin .add (.t 15) (.c (.int .i64 1))), none⟩, ⟨some 5, .q (.mv (.t 16)), none⟩]
def c14_17 : SCode := .seq c14_15 (.region c14_16 [0, 1, 5])
def c14_18 : SCode := .seq c14_9 c14_17
def c14_19 : SCode := .loop c14_18
def c14_20 : SCode := .block 0 c14_19
def c14_21 : SCode := .seq (.region c14_6 [0, 1, 5]) c14_20
def c14_22 : List SOper := [⟨some 4, .q (.mv (.c (.bool true))), none⟩]
def c14_23 : SCode := .seq (.region c14_22 [4]) .ret
def c14_24 : SCode := .seq c14_21 c14_23
def c14_25 : SCode := .seq c14_5 c14_24
def c14_26 : SCode := .seq (.region c14_0 [0, 1]) c14_25
def c14 : SCode := c14_26
theorem w14 : type_of% (And.intro (uR Try.prog c14_0.eq_1) (And.intro (uR Try.prog c14_1.eq_1) (And.intro (uR Try.prog c14_2.eq_1) (And.intro (uC Try.prog c14_3.eq_1) (And.intro (uC Try.prog c14_4.eq_1) (And.intro (uC Try.prog c14_5.eq_1) (And.intro (uR Try.prog c14_6.eq_1) (And.intro (uR Try.prog c14_7.eq_1) (And.intro (uC Try.prog c14_8.eq_1) (And.intro (uC Try.prog c14_9.eq_1) (And.intro (uR Try.prog c14_10.eq_1) (And.intro (uR Try.prog c14_11.eq_1) (And.intro (uC Try.prog c14_12.eq_1) (And.intro (uC Try.prog c14_13.eq_1) (And.intro (uC Try.prog c14_14.eq_1) (And.intro (uC Try.prog c14_15.eq_1) (And.intro (uR Try.prog c14_16.eq_1) (And.intro (uC Try.prog c14_17.eq_1) (And.intro (uC Try.prog c14_18.eq_1) (And.intro (uC Try.prog c14_19.eq_1) (And.intro (uC Try.prog c14_20.eq_1) (And.intro (uC Try.prog c14_21.eq_1) (And.intro (uR Try.prog c14_22.eq_1) (And.intro (uC Try.prog c14_23.eq_1) (And.intro (uC Try.prog c14_24.eq_1) (And.intro (uC Try.prog c14_25.eq_1) (And.intro (uC Try.prog c14_26.eq_1) (uC Try.prog c14.eq_1)))))))))))))))))))))))))))) := (And.intro (uR Try.prog c14_0.eq_1) (And.intro (uR Try.prog c14_1.eq_1) (And.intro (uR Try.prog c14_2.eq_1) (And.intro (uC Try.prog c14_3.eq_1) (And.intro (uC Try.prog c14_4.eq_1) (And.intro (uC Try.prog c14_5.eq_1) (And.intro (uR Try.prog c14_6.eq_1) (And.intro (uR Try.prog c14_7.eq_1) (And.intro (uC Try.prog c14_8.eq_1) (And.intro (uC Try.prog c14_9.eq_1) (And.intro (uR Try.prog c14_10.eq_1) (And.intro (uR Try.prog c14_11.eq_1) (And.intro (uC Try.prog c14_12.eq_1) (And.intro (uC Try.prog c14_13.eq_1) (And.intro (uC Try.prog c14_14.eq_1) (And.intro (uC Try.prog c14_15.eq_1) (And.intro (uR Try.prog c14_16.eq_1) (And.intro (uC Try.prog c14_17.eq_1) (And.intro (uC Try.prog c14_18.eq_1) (And.intro (uC Try.prog c14_19.eq_1) (And.intro (uC Try.prog c14_20.eq_1) (And.intro (uC Try.prog c14_21.eq_1) (And.intro (uR Try.prog c14_22.eq_1) (And.intro (uC Try.prog c14_23.eq_1) (And.intro (uC Try.prog c14_24.eq_1) (And.intro (uC Try.prog c14_25.eq_1) (And.intro (uC Try.prog c14_26.eq_1) (uC Try.prog c14.eq_1))))))))))))))))))))))))))))
def v14 : List RV := [.t 4]
theorem s14 : slimF Try.prog Try.f14 = some (c14.bare, v14) := by kernel_rfl

/-! 15 loop.example/g00066/impl.Joined: parameters 1, live [0], slots [0:track, 1:track] -/
def c15_0 : List SOper := [⟨some 2, .q (.mv (.c (.slice none 0 0))), none⟩]
def c15_1 : List SOper := [⟨some 3, .q (.mv (.t 0)), none⟩, ⟨some 4, .e (.call 50 [(.t 3)]), none⟩, ⟨some 5, .q (.not (.t 4)), none⟩]
def c15_2 : List SOper := [⟨some 2, .q (.mv (.c (.slice none 0 0))), none⟩]
def c15_3 : SCode := .seq (.region c15_2 [2]) .ret
def c15_4 : SCode := .cond (.t 5) c15_3 .skip
def c15_5 : SCode := .seq (.region c15_1 [0, 5]) c15_4
def c15_6 : List SOper := [⟨some 6, .q (.mv (.t 0)), none⟩, ⟨some 7, .e (.call 59 [(.t 6)]), none⟩, ⟨some 2, .q (.mv (.t 7)), none⟩]
def c15_7 : SCode := .seq (.region c15_6 [2]) .ret
def c15_8 : SCode := .seq c15_5 c15_7
def c15_9 : SCode := .seq (.region c15_0 [0]) c15_8
def c15 : SCode := c15_9
theorem w15 : type_of% (And.intro (uR Try.prog c15_0.eq_1) (And.intro (uR Try.prog c15_1.eq_1) (And.intro (uR Try.prog c15_2.eq_1) (And.intro (uC Try.prog c15_3.eq_1) (And.intro (uC Try.prog c15_4.eq_1) (And.intro (uC Try.prog c15_5.eq_1) (And.intro (uR Try.prog c15_6.eq_1) (And.intro (uC Try.prog c15_7.eq_1) (And.intro (uC Try.prog c15_8.eq_1) (And.intro (uC Try.prog c15_9.eq_1) (uC Try.prog c15.eq_1))))))))))) := (And.intro (uR Try.prog c15_0.eq_1) (And.intro (uR Try.prog c15_1.eq_1) (And.intro (uR Try.prog c15_2.eq_1) (And.intro (uC Try.prog c15_3.eq_1) (And.intro (uC Try.prog c15_4.eq_1) (And.intro (uC Try.prog c15_5.eq_1) (And.intro (uR Try.prog c15_6.eq_1) (And.intro (uC Try.prog c15_7.eq_1) (And.intro (uC Try.prog c15_8.eq_1) (And.intro (uC Try.prog c15_9.eq_1) (uC Try.prog c15.eq_1)))))))))))
def v15 : List RV := [.t 2]
theorem s15 : slimF Try.prog Try.f15 = some (c15.bare, v15) := by kernel_rfl

/-! 16 loop.example/g00066/impl.Length: parameters 1, live [0], slots [0:track, 1:track] -/
def c16_0 : List SOper := [⟨some 2, .q (.mv (.c (.int .i64 0))), none⟩]
def c16_1 : List SOper := [⟨some 3, .q (.mv (.t 0)), none⟩, ⟨some 4, .e (.call 50 [(.t 3)]), none⟩, ⟨some 5, .q (.not (.t 4)), none⟩]
def c16_2 : List SOper := [⟨some 2, .q (.mv (.c (.int .i64 (-1)))), none⟩]
def c16_3 : SCode := .seq (.region c16_2 [2]) .ret
def c16_4 : SCode := .cond (.t 5) c16_3 .skip
def c16_5 : SCode := .seq (.region c16_1 [0, 5]) c16_4
def c16_6 : List SOper := [⟨some 6, .q (.mv (.t 0)), none⟩, ⟨some 7, .e (.call 60 [(.t 6)]), none⟩, ⟨some 2, .q (.mv (.t 7)), none⟩]
def c16_7 : SCode := .seq (.region c16_6 [2]) .ret
def c16_8 : SCode := .seq c16_5 c16_7
def c16_9 : SCode := .seq (.region c16_0 [0]) c16_8
def c16 : SCode := c16_9
theorem w16 : type_of% (And.intro (uR Try.prog c16_0.eq_1) (And.intro (uR Try.prog c16_1.eq_1) (And.intro (uR Try.prog c16_2.eq_1) (And.intro (uC Try.prog c16_3.eq_1) (And.intro (uC Try.prog c16_4.eq_1) (And.intro (uC Try.prog c16_5.eq_1) (And.intro (uR Try.prog c16_6.eq_1) (And.intro (uC Try.prog c16_7.eq_1) (And.intro (uC Try.prog c16_8.eq_1) (And.intro (uC Try.prog c16_9.eq_1) (uC Try.prog c16.eq_1))))))))))) := (And.intro (uR Try.prog c16_0.eq_1) (And.intro (uR Try.prog c16_1.eq_1) (And.intro (uR Try.prog c16_2.eq_1) (And.intro (uC Try.prog c16_3.eq_1) (And.intro (uC Try.prog c16_4.eq_1) (And.intro (uC Try.prog c16_5.eq_1) (And.intro (uR Try.prog c16_6.eq_1) (And.intro (uC Try.prog c16_7.eq_1) (And.intro (uC Try.prog c16_8.eq_1) (And.intro (uC Try.prog c16_9.eq_1) (uC Try.prog c16.eq_1)))))))))))
def v16 : List RV := [.t 2]
theorem s16 : slimF Try.prog Try.f16 = some (c16.bare, v16) := by kernel_rfl

theorem clip_eqi (a b : Clip) : intsEq (encClip a) (encClip b) = some (decide (a = b)) := by
  obtain ⟨a1, a2, a3⟩ := a; obtain ⟨b1, b2, b3⟩ := b
  simp only [encClip, intsEq_cons, intsEq_nil, Option.map_some, Bool.and_true, Option.some.injEq]
  simp only [Clip.mk.injEq, Bool.decide_and]
theorem sameClips_ok (h : Heap) (v v' : Value) (l l' : List Clip) (s : SlT h encClip 3 v l) (s' : SlT h encClip 3 v' l') (hl : l.length ≤ 281474976710656) (hl' : l'.length ≤ 281474976710656) :
    ACall Try.prog 14 [v, v'] h fun r h' => h' = h ∧ r = .bool (decide (l = l')) := by
  refine ACall.of Try.func14 s14 (of_decide_eq_true rfl) ?_
  have R := s.rulesN
  have R' := s'.rulesN
  by_cases hn : l.length = l'.length
  rotate_left
  · have hn' : decide ((l.length : Int) = l'.length) = false := decide_eq_false (by omega)
    simp (maxSteps := 4000000) (disch := omega) only [ah, am, Nat.reduceEqDiff, reduceCtorEq, Nat.reduceAdd, Nat.reduceLeDiff, Nat.reduceMul, Nat.reduceLT, if_true, if_false, true_and, and_true, and_self, Nat.reduceBEq, QOp.loads, boxO, bslO, buildO, cutL, fillV, putL, w14, v14, R, R', hn']
    rw [decide_eq_false (by rintro rfl; exact hn rfl)]
  have hn' : decide ((l.length : Int) = l'.length) = true := decide_eq_true (by omega)
  simp (maxSteps := 4000000) (disch := omega) only [ah, am, Nat.reduceEqDiff, reduceCtorEq, Nat.reduceAdd, Nat.reduceLeDiff, Nat.reduceMul, Nat.reduceLT, if_true, if_false, true_and, and_true, and_self, Nat.reduceBEq, QOp.loads, boxO, bslO, buildO, cutL, fillV, putL, w14, v14, R, R', hn']
  refine SW_loop_up (fun i E H => E = [(0, v), (1, v'), (5, .int .i64 i)] ∧ H = h ∧ ∀ j (h1 : j < i) (h2 : j < l.length), l[j] = l'[j]) l.length 0 (by omega) ⟨rfl, rfl, fun j h1 => absurd h1 (by omega)⟩ ?_
  rintro i E H hi ⟨rfl, rfl, F⟩
  have W : IntKind.i64.wrap ((i : Int) + 1) = ((i + 1 : Nat) : Int) := i64e (by omega) (by omega)
  simp (maxSteps := 4000000) (disch := omega) only [ah, am, Nat.reduceEqDiff, reduceCtorEq, Nat.reduceAdd, Nat.reduceLeDiff, Nat.reduceMul, Nat.reduceLT, if_true, if_false, true_and, and_true, and_self, Nat.reduceBEq, QOp.loads, boxO, bslO, buildO, cutL, fillV, putL, w14, v14, R]
  refine stepI.split (fun hp => ?_) (fun hp => ?_)
  · simp (maxSteps := 4000000) (disch := omega) only [ah, am, Nat.reduceEqDiff, reduceCtorEq, Nat.reduceAdd, Nat.reduceLeDiff, Nat.reduceMul, Nat.reduceLT, if_true, if_false, true_and, and_true, and_self, Nat.reduceBEq, QOp.loads, boxO, bslO, buildO, cutL, fillV, putL, w14, v14, R, R', clip_eqi, encClip_len, Option.map_some, eq_self]
    refine stepI.split (fun hq => ?_) (fun hq => ?_)
    · simp (maxSteps := 4000000) (disch := omega) only [ah, am, Nat.reduceEqDiff, reduceCtorEq, Nat.reduceAdd, Nat.reduceLeDiff, Nat.reduceMul, Nat.reduceLT, if_true, if_false, true_and, and_true, and_self, Nat.reduceBEq, QOp.loads, boxO, bslO, buildO, cutL, fillV, putL, w14, v14, W]
      refine ⟨by omega, fun j h1 h2 => ?_⟩
      by_cases hj : j = i
      · subst hj; exact hq
      · exact F j (by omega) h2
    · simp (maxSteps := 4000000) (disch := omega) only [ah, am, Nat.reduceEqDiff, reduceCtorEq, Nat.reduceAdd, Nat.reduceLeDiff, Nat.reduceMul, Nat.reduceLT, if_true, if_false, true_and, and_true, and_self, Nat.reduceBEq, QOp.loads, boxO, bslO, buildO, cutL, fillV, putL, w14, v14]
      rw [decide_eq_false (by rintro rfl; exact hq rfl)]
  · simp (maxSteps := 4000000) (disch := omega) only [ah, am, Nat.reduceEqDiff, reduceCtorEq, Nat.reduceAdd, Nat.reduceLeDiff, Nat.reduceMul, Nat.reduceLT, if_true, if_false, true_and, and_true, and_self, Nat.reduceBEq, QOp.loads, boxO, bslO, buildO, cutL, fillV, putL, w14, v14]
    obtain rfl : i = l.length := by omega
    rw [decide_eq_true (List.ext_getElem hn fun j h1 h2 => F j (by omega) h1)]
def joinedI (l : List Clip) : List Clip := if trackOk l then join l else []
theorem Joined_ok (h : Heap) (v : Value) (l : List Clip) (s : SlT h encClip 3 v l) (hl : l.length ≤ 1100000) : ACall Try.prog 15 [v] h fun r h' => Fresh h h' encClip 3 r (joinedI l) := by
  refine ACall.of Try.func15 s15 (of_decide_eq_true rfl) ?_
  simp (maxSteps := 4000000) (disch := omega) only [ah, am, Nat.reduceEqDiff, reduceCtorEq, Nat.reduceAdd, Nat.reduceLeDiff, Nat.reduceMul, Nat.reduceLT, if_true, if_false, true_and, and_true, and_self, Nat.reduceBEq, QOp.loads, boxO, bslO, buildO, cutL, fillV, putL, w15, v15]
  refine stepC.of (implTrackOk_ok _ _ _ s hl) ?_
  rintro _ H1 ⟨e1, rfl⟩
  by_cases ht : trackOk l
  · have ht' : decide (trackOk l) = true := decide_eq_true ht
    simp (maxSteps := 4000000) (disch := omega) only [ah, am, Nat.reduceEqDiff, reduceCtorEq, Nat.reduceAdd, Nat.reduceLeDiff, Nat.reduceMul, Nat.reduceLT, if_true, if_false, true_and, and_true, and_self, Nat.reduceBEq, QOp.loads, boxO, bslO, buildO, cutL, fillV, putL, w15, v15, ht']
    refine stepC.of (joined_ok _ _ _ (s.ext e1) hl (fun k hk => (ht.2.1 k hk).in)) ?_
    intro r H2 F
    simp (maxSteps := 4000000) (disch := omega) only [ah, am, Nat.reduceEqDiff, reduceCtorEq, Nat.reduceAdd, Nat.reduceLeDiff, Nat.reduceMul, Nat.reduceLT, if_true, if_false, true_and, and_true, and_self, Nat.reduceBEq, QOp.loads, boxO, bslO, buildO, cutL, fillV, putL, w15, v15]
    rw [show joinedI l = join l from if_pos ht]
    exact F.mono e1
  · have ht' : decide (trackOk l) = false := decide_eq_false ht
    simp (maxSteps := 4000000) (disch := omega) only [ah, am, Nat.reduceEqDiff, reduceCtorEq, Nat.reduceAdd, Nat.reduceLeDiff, Nat.reduceMul, Nat.reduceLT, if_true, if_false, true_and, and_true, and_self, Nat.reduceBEq, QOp.loads, boxO, bslO, buildO, cutL, fillV, putL, w15, v15, ht']
    rw [show joinedI l = [] from if_neg ht]
    exact (Fresh.nil _ encClip_len (by omega)).mono e1
def lengthI (l : List Clip) : Int := if trackOk l then sumLen l else -1
theorem Length_ok (h : Heap) (v : Value) (l : List Clip) (s : SlT h encClip 3 v l) (hl : l.length ≤ 1100000) : ACall Try.prog 16 [v] h fun r h' => Ext h h' ∧ r = .int .i64 (lengthI l) := by
  refine ACall.of Try.func16 s16 (of_decide_eq_true rfl) ?_
  simp (maxSteps := 4000000) (disch := omega) only [ah, am, Nat.reduceEqDiff, reduceCtorEq, Nat.reduceAdd, Nat.reduceLeDiff, Nat.reduceMul, Nat.reduceLT, if_true, if_false, true_and, and_true, and_self, Nat.reduceBEq, QOp.loads, boxO, bslO, buildO, cutL, fillV, putL, w16, v16]
  refine stepC.of (implTrackOk_ok _ _ _ s hl) ?_
  rintro _ H1 ⟨e1, rfl⟩
  by_cases ht : trackOk l
  · have ht' : decide (trackOk l) = true := decide_eq_true ht
    simp (maxSteps := 4000000) (disch := omega) only [ah, am, Nat.reduceEqDiff, reduceCtorEq, Nat.reduceAdd, Nat.reduceLeDiff, Nat.reduceMul, Nat.reduceLT, if_true, if_false, true_and, and_true, and_self, Nat.reduceBEq, QOp.loads, boxO, bslO, buildO, cutL, fillV, putL, w16, v16, ht']
    refine stepC.of (long_ok _ _ _ (s.ext e1) ht.1 ht.2.1) ?_
    rintro _ H2 ⟨e2, rfl⟩
    simp (maxSteps := 4000000) (disch := omega) only [ah, am, Nat.reduceEqDiff, reduceCtorEq, Nat.reduceAdd, Nat.reduceLeDiff, Nat.reduceMul, Nat.reduceLT, if_true, if_false, true_and, and_true, and_self, Nat.reduceBEq, QOp.loads, boxO, bslO, buildO, cutL, fillV, putL, w16, v16]
    exact ⟨e1.trans e2, by rw [show lengthI l = sumLen l from if_pos ht]⟩
  · have ht' : decide (trackOk l) = false := decide_eq_false ht
    simp (maxSteps := 4000000) (disch := omega) only [ah, am, Nat.reduceEqDiff, reduceCtorEq, Nat.reduceAdd, Nat.reduceLeDiff, Nat.reduceMul, Nat.reduceLT, if_true, if_false, true_and, and_true, and_self, Nat.reduceBEq, QOp.loads, boxO, bslO, buildO, cutL, fillV, putL, w16, v16, ht']
    exact ⟨e1, by rw [show lengthI l = -1 from if_neg ht]⟩
end Go.Proofs.Ytknpombiomnkbaa
