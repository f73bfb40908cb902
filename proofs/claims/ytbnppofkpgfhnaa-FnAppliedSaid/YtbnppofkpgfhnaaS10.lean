import Derived.Test.YtbnppofkpgfhnaaS9
namespace Go.Proofs.Ytbnppofkpgfhnaa
open Go Go.Ah
set_option linter.unusedSimpArgs false
set_option linter.unusedVariables false
set_option maxRecDepth 10000
set_option maxHeartbeats 4000000
/-! 70 loop.example/g00066/spec.Insert: parameters 3, live [0, 1, 2], slots [0:track, 1:at, 2:clip, 3:track, 4:at, 5:clip] -/
def c70_0 : List SOper := [⟨some 5, .a (.box (.t 2)), none⟩, ⟨some 6, .q (.mv (.c (.slice none 0 0))), none⟩, ⟨some 7, .q (.mv (.c (.bool false))), none⟩]
def c70_1 : List SOper := [⟨some 8, .q (.mv (.t 0)), none⟩, ⟨some 9, .e (.call 12 [(.t 8)]), none⟩, ⟨some 10, .q (.not (.t 9)), none⟩, ⟨some 11, .q (.mv (.t 10)), none⟩, ⟨some 12, .q (.ldn 3 (.t 5)), some (11, false)⟩, ⟨some 13, .e (.call 54 [(.t 12)]), some (11, false)⟩, ⟨some 14, .q (.not (.t 13)), some (11, false)⟩, ⟨some 15, .q (.pick (.t 11) (.c (.bool true)) (.t 14)), none⟩, ⟨some 16, .q (.mv (.t 15)), none⟩, ⟨some 17, .q (.mv (.t 1)), some (16, false)⟩, ⟨some 18, .q (.mv (.t 0)), some (16, false)⟩, ⟨some 19, .e (.call 48 [(.t 18)]), some (16, false)⟩, ⟨some 20, .e (.call 82 [(.t 17), (.c (.int .i64 0)), (.t 19)]), some (16, false)⟩, ⟨some 21, .q (.not (.t 20)), some (16, false)⟩, ⟨some 22, .q (.pick (.t 16) (.c (.bool true)) (.t 21)), none⟩]
def c70_2 : List SOper := [⟨some 23, .a (.bsl 0 3 [] []), none⟩, ⟨some 6, .q (.mv (.t 23)), none⟩, ⟨some 7, .q (.mv (.c (.bool false))), none⟩]
def c70_3 : SCode := .seq (.region c70_2 [6, 7]) .ret
def c70_4 : SCode := .cond (.t 22) c70_3 .skip
def c70_5 : SCode := .seq (.region c70_1 [0, 1, 5, 22]) c70_4
def c70_6 : List SOper := [⟨some 24, .q (.mv (.t 0)), none⟩, ⟨some 25, .q (.mv (.t 1)), none⟩, ⟨some 26, .q (.ldn 3 (.t 5)), none⟩, ⟨some 27, .a (.bsl 1 3 [(.int .i64 0), (.int .i64 0), (.int .i64 0)] [(0, 3, (.t 26))]), none⟩, ⟨some 28, .q (.mv (.t 1)), none⟩, ⟨some 29, .e (.call 90 [(.t 24), (.t 25), (.t 27), (.t 28)]), none⟩, ⟨some 30, .q (.ext (.t 29) 0), none⟩, ⟨some 31, .q (.ext (.t 29) 1), none⟩, ⟨some 6, .q (.mv (.t 30)), none⟩, ⟨some 7, .q (.mv (.t 31)), none⟩]
def c70_7 : SCode := .seq (.region c70_6 [6, 7]) .ret
def c70_8 : SCode := .seq c70_5 c70_7
def c70_9 : SCode := .seq (.region c70_0 [0, 1, 5]) c70_8
def c70 : SCode := c70_9
theorem w70 : type_of% (And.intro (uR Try.prog c70_0.eq_1) (And.intro (uR Try.prog c70_1.eq_1) (And.intro (uR Try.prog c70_2.eq_1) (And.intro (uC Try.prog c70_3.eq_1) (And.intro (uC Try.prog c70_4.eq_1) (And.intro (uC Try.prog c70_5.eq_1) (And.intro (uR Try.prog c70_6.eq_1) (And.intro (uC Try.prog c70_7.eq_1) (And.intro (uC Try.prog c70_8.eq_1) (And.intro (uC Try.prog c70_9.eq_1) (uC Try.prog c70.eq_1))))))))))) := (And.intro (uR Try.prog c70_0.eq_1) (And.intro (uR Try.prog c70_1.eq_1) (And.intro (uR Try.prog c70_2.eq_1) (And.intro (uC Try.prog c70_3.eq_1) (And.intro (uC Try.prog c70_4.eq_1) (And.intro (uC Try.prog c70_5.eq_1) (And.intro (uR Try.prog c70_6.eq_1) (And.intro (uC Try.prog c70_7.eq_1) (And.intro (uC Try.prog c70_8.eq_1) (And.intro (uC Try.prog c70_9.eq_1) (uC Try.prog c70.eq_1)))))))))))
def v70 : List RV := [.t 6, .t 7]
theorem s70 : slimF Try.prog Try.f70 = some (c70.bare, v70) := by kernel_rfl
/-! 72 loop.example/g00066/spec.Overwrite: parameters 3, live [0, 1, 2], slots [0:track, 1:at, 2:clip, 3:track, 4:at, 5:clip] -/
def c72_0 : List SOper := [⟨some 5, .a (.box (.t 2)), none⟩, ⟨some 6, .q (.mv (.c (.slice none 0 0))), none⟩, ⟨some 7, .q (.mv (.c (.bool false))), none⟩]
def c72_1 : List SOper := [⟨some 8, .q (.mv (.t 0)), none⟩, ⟨some 9, .e (.call 12 [(.t 8)]), none⟩, ⟨some 10, .q (.not (.t 9)), none⟩, ⟨some 11, .q (.mv (.t 10)), none⟩, ⟨some 12, .q (.ldn 3 (.t 5)), some (11, false)⟩, ⟨some 13, .e (.call 54 [(.t 12)]), some (11, false)⟩, ⟨some 14, .q (.not (.t 13)), some (11, false)⟩, ⟨some 15, .q (.pick (.t 11) (.c (.bool true)) (.t 14)), none⟩, ⟨some 16, .q (.mv (.t 15)), none⟩, ⟨some 17, .q (.mv (.t 1)), some (16, false)⟩, ⟨some 18, .q (.mv (.t 0)), some (16, false)⟩, ⟨some 19, .e (.call 48 [(.t 18)]), some (16, false)⟩, ⟨some 20, .e (.call 82 [(.t 17), (.c (.int .i64 0)), (.t 19)]), some (16, false)⟩, ⟨some 21, .q (.not (.t 20)), some (16, false)⟩, ⟨some 22, .q (.pick (.t 16) (.c (.bool true)) (.t 21)), none⟩]
def c72_2 : List SOper := [⟨some 23, .a (.bsl 0 3 [] []), none⟩, ⟨some 6, .q (.mv (.t 23)), none⟩, ⟨some 7, .q (.mv (.c (.bool false))), none⟩]
def c72_3 : SCode := .seq (.region c72_2 [6, 7]) .ret
def c72_4 : SCode := .cond (.t 22) c72_3 .skip
def c72_5 : SCode := .seq (.region c72_1 [0, 1, 5, 22]) c72_4
def c72_6 : List SOper := [⟨some 24, .q (.mv (.t 0)), none⟩, ⟨some 25, .q (.mv (.t 1)), none⟩, ⟨some 26, .q (.ldn 3 (.t 5)), none⟩, ⟨some 27, .a (.bsl 1 3 [(.int .i64 0), (.int .i64 0), (.int .i64 0)] [(0, 3, (.t 26))]), none⟩, ⟨some 28, .q (.mv (.t 1)), none⟩, ⟨some 29, .q (.fa 2 (.t 5)), none⟩, ⟨some 30, .q (.ld (.t 29)), none⟩, ⟨some 31, .q (.bin .add (.t 28) (.t 30)), none⟩, ⟨some 32, .e (.call 90 [(.t 24), (.t 25), (.t 27), (.t 31)]), none⟩, ⟨some 33, .q (.ext (.t 32) 0), none⟩, ⟨some 34, .q (.ext (.t 32) 1), none⟩, ⟨some 6, .q (.mv (.t 33)), none⟩, ⟨some 7, .q (.mv (.t 34)), none⟩]
def c72_7 : SCode := .seq (.region c72_6 [6, 7]) .ret
def c72_8 : SCode := .seq c72_5 c72_7
def c72_9 : SCode := .seq (.region c72_0 [0, 1, 5]) c72_8
def c72 : SCode := c72_9
theorem w72 : type_of% (And.intro (uR Try.prog c72_0.eq_1) (And.intro (uR Try.prog c72_1.eq_1) (And.intro (uR Try.prog c72_2.eq_1) (And.intro (uC Try.prog c72_3.eq_1) (And.intro (uC Try.prog c72_4.eq_1) (And.intro (uC Try.prog c72_5.eq_1) (And.intro (uR Try.prog c72_6.eq_1) (And.intro (uC Try.prog c72_7.eq_1) (And.intro (uC Try.prog c72_8.eq_1) (And.intro (uC Try.prog c72_9.eq_1) (uC Try.prog c72.eq_1))))))))))) := (And.intro (uR Try.prog c72_0.eq_1) (And.intro (uR Try.prog c72_1.eq_1) (And.intro (uR Try.prog c72_2.eq_1) (And.intro (uC Try.prog c72_3.eq_1) (And.intro (uC Try.prog c72_4.eq_1) (And.intro (uC Try.prog c72_5.eq_1) (And.intro (uR Try.prog c72_6.eq_1) (And.intro (uC Try.prog c72_7.eq_1) (And.intro (uC Try.prog c72_8.eq_1) (And.intro (uC Try.prog c72_9.eq_1) (uC Try.prog c72.eq_1)))))))))))
def v72 : List RV := [.t 6, .t 7]
theorem s72 : slimF Try.prog Try.f72 = some (c72.bare, v72) := by kernel_rfl

def insOk (l : List Clip) (pos : Int) (k : Clip) : Prop := trackOk l ∧ clipOk k ∧ 0 ≤ pos ∧ pos ≤ sumLen l
instance (l : List Clip) (pos : Int) (k : Clip) : Decidable (insOk l pos k) := by unfold insOk; infer_instance
def insertS (l : List Clip) (pos : Int) (k : Clip) : List Clip × Bool := if insOk l pos k then putS l pos [k] pos else ([], false)
def overS (l : List Clip) (pos : Int) (k : Clip) : List Clip × Bool := if insOk l pos k then putS l pos [k] (pos + k.len) else ([], false)
theorem specInsert_ok (h : Heap) (v : Value) (l : List Clip) (pos : Int) (k : Clip) (s : SlT h encClip 3 v l) (hl : l.length ≤ 1100000) :
    ACall Try.prog 70 [v, .int .i64 pos, .agg (encClip k).toArray] h fun r h' => Pair h h' r (insertS l pos k) := by
  refine ACall.of Try.func70 s70 (of_decide_eq_true rfl) ?_
  simp (maxSteps := 4000000) (disch := omega) only [ah, am, Nat.reduceEqDiff, reduceCtorEq, Nat.reduceAdd, Nat.reduceLeDiff, Nat.reduceMul, Nat.reduceLT, if_true, if_false, true_and, and_true, and_self, Nat.reduceBEq, QOp.loads, boxO, bslO, buildO, cutL, fillV, putL, w70, v70, encClip]
  refine stepC.of (TrackOk_ok _ _ _ (s.ext (Ext.more h _)) (by omega)) ?_
  rintro _ H1 ⟨e1, rfl⟩
  have E1 : Ext h H1 := (Ext.more h _).trans e1
  have X := e1.ld0

  by_cases ht : trackOk l
  · have ht' : decide (trackOk l) = true := decide_eq_true ht
    have B := sumLen_bound ht.2.1
    have hlen := ht.1; have hsum := ht.2.2
    have cc := l4Clip_ok H1 k
    simp only [encClip] at cc
    simp (maxSteps := 4000000) (disch := omega) only [ah, am, Nat.reduceEqDiff, reduceCtorEq, Nat.reduceAdd, Nat.reduceLeDiff, Nat.reduceMul, Nat.reduceLT, if_true, if_false, true_and, and_true, and_self, Nat.reduceBEq, QOp.loads, boxO, bslO, buildO, cutL, fillV, putL, w70, v70, ht', X, encClip]
    refine stepC.of cc ?_
    rintro _ H2 ⟨e2, rfl⟩
    have X := (e1.trans e2).ld0

    by_cases hk : clipOk k
    · have hk' : decide (clipOk k) = true := decide_eq_true hk
      simp (maxSteps := 4000000) (disch := omega) only [ah, am, Nat.reduceEqDiff, reduceCtorEq, Nat.reduceAdd, Nat.reduceLeDiff, Nat.reduceMul, Nat.reduceLT, if_true, if_false, true_and, and_true, and_self, Nat.reduceBEq, QOp.loads, boxO, bslO, buildO, cutL, fillV, putL, w70, v70, ht', hk', X, encClip]
      refine stepC.of (l4Length_ok _ _ _ (s.ext (E1.trans e2)) ht.1 ht.2.1) ?_
      rintro _ Hx ⟨hx, rfl⟩; rw [hx]; clear hx Hx
      simp (maxSteps := 4000000) (disch := omega) only [ah, am, Nat.reduceEqDiff, reduceCtorEq, Nat.reduceAdd, Nat.reduceLeDiff, Nat.reduceMul, Nat.reduceLT, if_true, if_false, true_and, and_true, and_self, Nat.reduceBEq, QOp.loads, boxO, bslO, buildO, cutL, fillV, putL, w70, v70, ht', hk', X, encClip]
      refine stepC.of (l1In_ok _ _ _ _) ?_
      rintro _ Hx ⟨hx, rfl⟩; rw [hx]; clear hx Hx
      by_cases hp : 0 ≤ pos ∧ pos ≤ sumLen l
      · have hp' : decide (0 ≤ pos ∧ pos ≤ sumLen l) = true := decide_eq_true hp
        have hT : insertS l pos k = putS l pos [k] pos := if_pos ⟨ht, hk, hp⟩
        have O := (OwnT.new H2 [k] encClip_len (by omega)).slt
        simp only [List.flatMap_cons, List.flatMap_nil, List.append_nil, List.length_cons, List.length_nil, Nat.zero_add, encClip] at O
        simp (maxSteps := 4000000) (disch := omega) only [ah, am, Nat.reduceEqDiff, reduceCtorEq, Nat.reduceAdd, Nat.reduceLeDiff, Nat.reduceMul, Nat.reduceLT, if_true, if_false, true_and, and_true, and_self, Nat.reduceBEq, QOp.loads, boxO, bslO, buildO, cutL, fillV, putL, w70, v70, ht', hk', hp', X, encClip]
        refine stepC.of (l4Put_ok _ _ _ l [k] _ _ (s.ext ((E1.trans e2).trans (Ext.more _ _))) O hlen (by simp) ht.2.1 (by omega) (by omega)) ?_
        rintro _ H3 ⟨rv, rfl, F⟩
        simp (maxSteps := 4000000) (disch := omega) only [ah, am, Nat.reduceEqDiff, reduceCtorEq, Nat.reduceAdd, Nat.reduceLeDiff, Nat.reduceMul, Nat.reduceLT, if_true, if_false, true_and, and_true, and_self, Nat.reduceBEq, QOp.loads, boxO, bslO, buildO, cutL, fillV, putL, w70, v70]
        rw [hT]
        exact ⟨rv, rfl, F.mono ((E1.trans e2).trans (Ext.more _ _))⟩
      · have hp' : decide (0 ≤ pos ∧ pos ≤ sumLen l) = false := decide_eq_false hp
        have hT : insertS l pos k = ([], false) := if_neg fun q => hp q.2.2
        simp (maxSteps := 4000000) (disch := omega) only [ah, am, Nat.reduceEqDiff, reduceCtorEq, Nat.reduceAdd, Nat.reduceLeDiff, Nat.reduceMul, Nat.reduceLT, if_true, if_false, true_and, and_true, and_self, Nat.reduceBEq, QOp.loads, boxO, bslO, buildO, cutL, fillV, putL, w70, v70, ht', hk', hp', X, encClip]
        rw [hT]
        exact ⟨_, rfl, (Fresh.new0 _ encClip_len (by omega)).mono (E1.trans e2)⟩
    · have hk' : decide (clipOk k) = false := decide_eq_false hk
      have hT : insertS l pos k = ([], false) := if_neg fun q => hk q.2.1
      simp (maxSteps := 4000000) (disch := omega) only [ah, am, Nat.reduceEqDiff, reduceCtorEq, Nat.reduceAdd, Nat.reduceLeDiff, Nat.reduceMul, Nat.reduceLT, if_true, if_false, true_and, and_true, and_self, Nat.reduceBEq, QOp.loads, boxO, bslO, buildO, cutL, fillV, putL, w70, v70, ht', hk', X, encClip]
      rw [hT]
      exact ⟨_, rfl, (Fresh.new0 _ encClip_len (by omega)).mono (E1.trans e2)⟩
  · have ht' : decide (trackOk l) = false := decide_eq_false ht
    have hT : insertS l pos k = ([], false) := if_neg fun q => ht q.1
    simp (maxSteps := 4000000) (disch := omega) only [ah, am, Nat.reduceEqDiff, reduceCtorEq, Nat.reduceAdd, Nat.reduceLeDiff, Nat.reduceMul, Nat.reduceLT, if_true, if_false, true_and, and_true, and_self, Nat.reduceBEq, QOp.loads, boxO, bslO, buildO, cutL, fillV, putL, w70, v70, ht', X, encClip]
    rw [hT]
    exact ⟨_, rfl, (Fresh.new0 _ encClip_len (by omega)).mono E1⟩
theorem specOverwrite_ok (h : Heap) (v : Value) (l : List Clip) (pos : Int) (k : Clip) (s : SlT h encClip 3 v l) (hl : l.length ≤ 1100000) :
    ACall Try.prog 72 [v, .int .i64 pos, .agg (encClip k).toArray] h fun r h' => Pair h h' r (overS l pos k) := by
  refine ACall.of Try.func72 s72 (of_decide_eq_true rfl) ?_
  simp (maxSteps := 4000000) (disch := omega) only [ah, am, Nat.reduceEqDiff, reduceCtorEq, Nat.reduceAdd, Nat.reduceLeDiff, Nat.reduceMul, Nat.reduceLT, if_true, if_false, true_and, and_true, and_self, Nat.reduceBEq, QOp.loads, boxO, bslO, buildO, cutL, fillV, putL, w72, v72, encClip]
  refine stepC.of (TrackOk_ok _ _ _ (s.ext (Ext.more h _)) (by omega)) ?_
  rintro _ H1 ⟨e1, rfl⟩
  have E1 : Ext h H1 := (Ext.more h _).trans e1
  have X := e1.ld0

  by_cases ht : trackOk l
  · have ht' : decide (trackOk l) = true := decide_eq_true ht
    have B := sumLen_bound ht.2.1
    have hlen := ht.1; have hsum := ht.2.2
    have cc := l4Clip_ok H1 k
    simp only [encClip] at cc
    simp (maxSteps := 4000000) (disch := omega) only [ah, am, Nat.reduceEqDiff, reduceCtorEq, Nat.reduceAdd, Nat.reduceLeDiff, Nat.reduceMul, Nat.reduceLT, if_true, if_false, true_and, and_true, and_self, Nat.reduceBEq, QOp.loads, boxO, bslO, buildO, cutL, fillV, putL, w72, v72, ht', X, encClip]
    refine stepC.of cc ?_
    rintro _ H2 ⟨e2, rfl⟩
    have X := (e1.trans e2).ld0

    by_cases hk : clipOk k
    · have hk' : decide (clipOk k) = true := decide_eq_true hk
      have hk2 := hk
      simp only [clipOk] at hk2
      simp (maxSteps := 4000000) (disch := omega) only [ah, am, Nat.reduceEqDiff, reduceCtorEq, Nat.reduceAdd, Nat.reduceLeDiff, Nat.reduceMul, Nat.reduceLT, if_true, if_false, true_and, and_true, and_self, Nat.reduceBEq, QOp.loads, boxO, bslO, buildO, cutL, fillV, putL, w72, v72, ht', hk', X, encClip]
      refine stepC.of (l4Length_ok _ _ _ (s.ext (E1.trans e2)) ht.1 ht.2.1) ?_
      rintro _ Hx ⟨hx, rfl⟩; rw [hx]; clear hx Hx
      simp (maxSteps := 4000000) (disch := omega) only [ah, am, Nat.reduceEqDiff, reduceCtorEq, Nat.reduceAdd, Nat.reduceLeDiff, Nat.reduceMul, Nat.reduceLT, if_true, if_false, true_and, and_true, and_self, Nat.reduceBEq, QOp.loads, boxO, bslO, buildO, cutL, fillV, putL, w72, v72, ht', hk', X, encClip]
      refine stepC.of (l1In_ok _ _ _ _) ?_
      rintro _ Hx ⟨hx, rfl⟩; rw [hx]; clear hx Hx
      by_cases hp : 0 ≤ pos ∧ pos ≤ sumLen l
      · have hp' : decide (0 ≤ pos ∧ pos ≤ sumLen l) = true := decide_eq_true hp
        have hT : overS l pos k = putS l pos [k] (pos + k.len) := if_pos ⟨ht, hk, hp⟩
        have O := (OwnT.new H2 [k] encClip_len (by omega)).slt
        simp only [List.flatMap_cons, List.flatMap_nil, List.append_nil, List.length_cons, List.length_nil, Nat.zero_add, encClip] at O
        have X2 := ((e1.trans e2).trans (Ext.more H2 [encClip k])).ld0
        simp only [encClip] at X2
        simp (maxSteps := 4000000) (disch := omega) only [ah, am, Nat.reduceEqDiff, reduceCtorEq, Nat.reduceAdd, Nat.reduceLeDiff, Nat.reduceMul, Nat.reduceLT, if_true, if_false, true_and, and_true, and_self, Nat.reduceBEq, QOp.loads, boxO, bslO, buildO, cutL, fillV, putL, w72, v72, ht', hk', hp', X, X2, encClip, i64w]
        refine stepC.of (l4Put_ok _ _ _ l [k] _ _ (s.ext ((E1.trans e2).trans (Ext.more _ _))) O hlen (by simp) ht.2.1 (by omega) (by omega)) ?_
        rintro _ H3 ⟨rv, rfl, F⟩
        simp (maxSteps := 4000000) (disch := omega) only [ah, am, Nat.reduceEqDiff, reduceCtorEq, Nat.reduceAdd, Nat.reduceLeDiff, Nat.reduceMul, Nat.reduceLT, if_true, if_false, true_and, and_true, and_self, Nat.reduceBEq, QOp.loads, boxO, bslO, buildO, cutL, fillV, putL, w72, v72]
        rw [hT]
        exact ⟨rv, rfl, F.mono ((E1.trans e2).trans (Ext.more _ _))⟩
      · have hp' : decide (0 ≤ pos ∧ pos ≤ sumLen l) = false := decide_eq_false hp
        have hT : overS l pos k = ([], false) := if_neg fun q => hp q.2.2
        simp (maxSteps := 4000000) (disch := omega) only [ah, am, Nat.reduceEqDiff, reduceCtorEq, Nat.reduceAdd, Nat.reduceLeDiff, Nat.reduceMul, Nat.reduceLT, if_true, if_false, true_and, and_true, and_self, Nat.reduceBEq, QOp.loads, boxO, bslO, buildO, cutL, fillV, putL, w72, v72, ht', hk', hp', X, encClip]
        rw [hT]
        exact ⟨_, rfl, (Fresh.new0 _ encClip_len (by omega)).mono (E1.trans e2)⟩
    · have hk' : decide (clipOk k) = false := decide_eq_false hk
      have hT : overS l pos k = ([], false) := if_neg fun q => hk q.2.1
      simp (maxSteps := 4000000) (disch := omega) only [ah, am, Nat.reduceEqDiff, reduceCtorEq, Nat.reduceAdd, Nat.reduceLeDiff, Nat.reduceMul, Nat.reduceLT, if_true, if_false, true_and, and_true, and_self, Nat.reduceBEq, QOp.loads, boxO, bslO, buildO, cutL, fillV, putL, w72, v72, ht', hk', X, encClip]
      rw [hT]
      exact ⟨_, rfl, (Fresh.new0 _ encClip_len (by omega)).mono (E1.trans e2)⟩
  · have ht' : decide (trackOk l) = false := decide_eq_false ht
    have hT : overS l pos k = ([], false) := if_neg fun q => ht q.1
    simp (maxSteps := 4000000) (disch := omega) only [ah, am, Nat.reduceEqDiff, reduceCtorEq, Nat.reduceAdd, Nat.reduceLeDiff, Nat.reduceMul, Nat.reduceLT, if_true, if_false, true_and, and_true, and_self, Nat.reduceBEq, QOp.loads, boxO, bslO, buildO, cutL, fillV, putL, w72, v72, ht', X, encClip]
    rw [hT]
    exact ⟨_, rfl, (Fresh.new0 _ encClip_len (by omega)).mono E1⟩
end Go.Proofs.Ytbnppofkpgfhnaa
