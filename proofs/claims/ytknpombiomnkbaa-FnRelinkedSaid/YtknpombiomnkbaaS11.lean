import Derived.Test.YtknpombiomnkbaaS6
namespace Go.Proofs.Ytknpombiomnkbaa
open Go Go.Ah
set_option linter.unusedSimpArgs false
set_option linter.unusedVariables false
set_option maxRecDepth 10000
set_option maxHeartbeats 4000000
/-! 13 loop.example/g00066/spec.Relink: parameters 4, live [0, 1, 2, 3], slots [0:track, 1:old, 2:new, 3:by, 4:track, 5:old, 6:new, 7:by, 10:out, 11:i] -/
def c13_0 : List SOper := [⟨some 8, .q (.mv (.c (.slice none 0 0))), none⟩, ⟨some 9, .q (.mv (.c (.bool false))), none⟩]
def c13_1 : List SOper := [⟨some 12, .q (.mv (.t 0)), none⟩, ⟨some 13, .e (.call 55 [(.t 12)]), none⟩, ⟨some 14, .q (.not (.t 13)), none⟩, ⟨some 15, .q (.mv (.t 14)), none⟩, ⟨some 16, .q (.mv (.t 1)), some (15, false)⟩, ⟨some 17, .e (.call 56 [(.t 16)]), some (15, false)⟩, ⟨some 18, .q (.not (.t 17)), some (15, false)⟩, ⟨some 19, .q (.pick (.t 15) (.c (.bool true)) (.t 18)), none⟩, ⟨some 20, .q (.mv (.t 19)), none⟩, ⟨some 21, .q (.mv (.t 2)), some (20, false)⟩, ⟨some 22, .e (.call 56 [(.t 21)]), some (20, false)⟩, ⟨some 23, .q (.not (.t 22)), some (20, false)⟩, ⟨some 24, .q (.pick (.t 20) (.c (.bool true)) (.t 23)), none⟩, ⟨some 25, .q (.mv (.t 24)), none⟩, ⟨some 26, .q (.mv (.t 3)), some (25, false)⟩, ⟨some 27, .e (.call 57 [(.t 26)]), some (25, false)⟩, ⟨some 28, .q (.not (.t 27)), some (25, false)⟩, ⟨some 29, .q (.pick (.t 25) (.c (.bool true)) (.t 28)), none⟩]
def c13_2 : List SOper := [⟨some 30, .a (.bsl 0 3 [] []), none⟩, ⟨some 8, .q (.mv (.t 30)), none⟩, ⟨some 9, .q (.mv (.c (.bool false))), none⟩]
def c13_3 : SCode := .seq (.region c13_2 [8, 9]) .ret
def c13_4 : SCode := .cond (.t 29) c13_3 .skip
def c13_5 : SCode := .seq (.region c13_1 [0, 1, 2, 3, 29]) c13_4
def c13_6 : List SOper := [⟨some 31, .a (.bsl 0 3 [] []), none⟩, ⟨some 32, .q (.mv (.t 0)), none⟩, ⟨some 33, .e (.app 24 3 (.t 31) (.t 32)), none⟩, ⟨some 10, .q (.mv (.t 33)), none⟩]
def c13_7 : List SOper := [⟨some 11, .q (.mv (.c (.int .i64 0))), none⟩]
def c13_8 : List SOper := [⟨some 34, .q (.mv (.t 11)), none⟩, ⟨some 35, .q (.mv (.t 10)), none⟩, ⟨some 36, .q (.len (.t 35)), none⟩, ⟨some 37, .q (.bin .lss (.t 34) (.t 36)), none⟩]
def c13_9 : SCode := .cond (.t 37) .skip (.exit 0)
def c13_10 : SCode := .seq (.region c13_8 [1, 2, 3, 10, 11, 37]) c13_9
def c13_11 : List SOper := [⟨some 40, .q (.mv (.t 10)), none⟩, ⟨some 41, .q (.mv (.t 11)), none⟩, ⟨some 42, .q (.ia 3 (.t 40) (.t 41)), none⟩, ⟨some 43, .q (.fa 0 (.t 42)), none⟩, ⟨some 44, .q (.ld (.t 43)), none⟩, ⟨some 45, .q (.mv (.t 1)), none⟩, ⟨some 46, .q (.bin .eql (.t 44) (.t 45)), none⟩]
def c13_12 : List SOper := [⟨some 47, .q (.mv (.t 10)), none⟩, ⟨some 48, .q (.mv (.t 11)), none⟩, ⟨some 49, .q (.mv (.t 2)), none⟩, ⟨some 50, .q (.ia 3 (.t 47) (.t 48)), none⟩, ⟨some 51, .q (.fa 0 (.t 50)), none⟩, ⟨none, .e (.st 1 (.t 51) (.t 49)), none⟩]
def c13_13 : List SOper := [⟨some 52, .q (.mv (.t 10)), none⟩, ⟨some 53, .q (.mv (.t 11)), none⟩, ⟨some 54, .q (.mv (.t 10)), none⟩, ⟨some 55, .q (.mv (.t 11)), none⟩, ⟨some 56, .q (.ia 3 (.t 54) (.t 55)), none⟩, ⟨some 57, .q (.fa 1 (.t 56)), none⟩, ⟨some 58, .q (.ld (.t 57)), none⟩, ⟨some 59, .q (.mv (.t 3)), none⟩, ⟨some 60, .q (.bin .add (.t 58) (.t 59)), none⟩, ⟨some 61, .q (.ia 3 (.t 52) (.t 53)), none⟩, ⟨some 62, .q (.fa 1 (.t 61)), none⟩, ⟨none, .e (.st 1 (.t 62) (.t 60)), none⟩]
def c13_14 : SCode := .seq (.region c13_12 [1, 2, 3, 10, 11]) (.region c13_13 [1, 2, 3, 10, 11])
def c13_15 : SCode := .cond (.t 46) c13_14 .skip
def c13_16 : SCode := .seq (.region c13_11 [1, 2, 3, 10, 11, 46]) c13_15
def c13_17 : SCode := .block 1 c13_16
def c13_18 : List SOper := [⟨some 38, .q (.mv (.t 11)), none⟩, ⟨some 39, .q (.bin .add (.t 38) (.c (.int .i64 1))), none⟩, ⟨some 11, .q (.mv (.t 39)), none⟩]
def c13_19 : SCode := .seq c13_17 (.region c13_18 [1, 2, 3, 10, 11])
def c13_20 : SCode := .seq c13_10 c13_19
def c13_21 : SCode := .loop c13_20
def c13_22 : SCode := .block 0 c13_21
def c13_23 : SCode := .seq (.region c13_7 [1, 2, 3, 10, 11]) c13_22
def c13_24 : List SOper := [⟨some 63, .q (.mv (.t 10)), none⟩, ⟨some 64, .e (.call 58 [(.t 63)]), none⟩, ⟨some 65, .q (.ext (.t 64) 0), none⟩, ⟨some 66, .q (.ext (.t 64) 1), none⟩, ⟨some 8, .q (.mv (.t 65)), none⟩, ⟨some 9, .q (.mv (.t 66)), none⟩]
def c13_25 : SCode := .seq (.region c13_24 [8, 9]) .ret
def c13_26 : SCode := .seq c13_23 c13_25
def c13_27 : SCode := .seq (.region c13_6 [1, 2, 3, 10]) c13_26
def c13_28 : SCode := .seq c13_5 c13_27
def c13_29 : SCode := .seq (.region c13_0 [0, 1, 2, 3]) c13_28
def c13 : SCode := c13_29
theorem w13 : type_of% (And.intro (uR Try.prog c13_0.eq_1) (And.intro (uR Try.prog c13_1.eq_1) (And.intro (uR Try.prog c13_2.eq_1) (And.intro (uC Try.prog c13_3.eq_1) (And.intro (uC Try.prog c13_4.eq_1) (And.intro (uC Try.prog c13_5.eq_1) (And.intro (uR Try.prog c13_6.eq_1) (And.intro (uR Try.prog c13_7.eq_1) (And.intro (uR Try.prog c13_8.eq_1) (And.intro (uC Try.prog c13_9.eq_1) (And.intro (uC Try.prog c13_10.eq_1) (And.intro (uR Try.prog c13_11.eq_1) (And.intro (uR Try.prog c13_12.eq_1) (And.intro (uR Try.prog c13_13.eq_1) (And.intro (uC Try.prog c13_14.eq_1) (And.intro (uC Try.prog c13_15.eq_1) (And.intro (uC Try.prog c13_16.eq_1) (And.intro (uC Try.prog c13_17.eq_1) (And.intro (uR Try.prog c13_18.eq_1) (And.intro (uC Try.prog c13_19.eq_1) (And.intro (uC Try.prog c13_20.eq_1) (And.intro (uC Try.prog c13_21.eq_1) (And.intro (uC Try.prog c13_22.eq_1) (And.intro (uC Try.prog c13_23.eq_1) (And.intro (uR Try.prog c13_24.eq_1) (And.intro (uC Try.prog c13_25.eq_1) (And.intro (uC Try.prog c13_26.eq_1) (And.intro (uC Try.prog c13_27.eq_1) (And.intro (uC Try.prog c13_28.eq_1) (And.intro (uC Try.prog c13_29.eq_1) (uC Try.prog c13.eq_1))))))))))))))))))))))))))))))) := (And.intro (uR Try.prog c13_0.eq_1) (And.intro (uR Try.prog c13_1.eq_1) (And.intro (uR Try.prog c13_2.eq_1) (And.intro (uC Try.prog c13_3.eq_1) (And.intro (uC Try.prog c13_4.eq_1) (And.intro (uC Try.prog c13_5.eq_1) (And.intro (uR Try.prog c13_6.eq_1) (And.intro (uR Try.prog c13_7.eq_1) (And.intro (uR Try.prog c13_8.eq_1) (And.intro (uC Try.prog c13_9.eq_1) (And.intro (uC Try.prog c13_10.eq_1) (And.intro (uR Try.prog c13_11.eq_1) (And.intro (uR Try.prog c13_12.eq_1) (And.intro (uR Try.prog c13_13.eq_1) (And.intro (uC Try.prog c13_14.eq_1) (And.intro (uC Try.prog c13_15.eq_1) (And.intro (uC Try.prog c13_16.eq_1) (And.intro (uC Try.prog c13_17.eq_1) (And.intro (uR Try.prog c13_18.eq_1) (And.intro (uC Try.prog c13_19.eq_1) (And.intro (uC Try.prog c13_20.eq_1) (And.intro (uC Try.prog c13_21.eq_1) (And.intro (uC Try.prog c13_22.eq_1) (And.intro (uC Try.prog c13_23.eq_1) (And.intro (uR Try.prog c13_24.eq_1) (And.intro (uC Try.prog c13_25.eq_1) (And.intro (uC Try.prog c13_26.eq_1) (And.intro (uC Try.prog c13_27.eq_1) (And.intro (uC Try.prog c13_28.eq_1) (And.intro (uC Try.prog c13_29.eq_1) (uC Try.prog c13.eq_1)))))))))))))))))))))))))))))))
def v13 : List RV := [.t 8, .t 9]
theorem s13 : slimF Try.prog Try.f13 = some (c13.bare, v13) := by kernel_rfl

def relC (a b n : Int) (k : Clip) : Clip := if k.src = a then ⟨b, k.inn + n, k.len⟩ else k
def relOk (l : List Clip) (a b n : Int) : Prop := trackOk l ∧ (1 ≤ a ∧ a ≤ 500) ∧ (1 ≤ b ∧ b ≤ 500) ∧ (-10000000 ≤ n ∧ n ≤ 10000000)
instance (l : List Clip) (a b n : Int) : Decidable (relOk l a b n) := by unfold relOk; infer_instance
def relF (l : List Clip) (a b n : Int) : List Clip × Bool := if relOk l a b n then editF (l.map (relC a b n)) else ([], false)
theorem map_get {α : Type} (f : α → α) (l : List α) (i : Nat) (hi : i < l.length) (h : i < ((l.take i).map f ++ l.drop i).length) : ((l.take i).map f ++ l.drop i)[i] = l[i] := by
  rw [List.getElem_append_right (by simp; omega)]; simp [Nat.min_eq_left (Nat.le_of_lt hi)]
theorem map_step {α : Type} (f : α → α) (l : List α) (i : Nat) (hi : i < l.length) : ((l.take i).map f ++ l.drop i).set i (f l[i]) = (l.take (i + 1)).map f ++ l.drop (i + 1) := by
  have hlen : ((l.take i).map f).length = i := by simp; omega
  rw [List.set_append_right _ _ (by omega), hlen, Nat.sub_self, List.drop_eq_getElem_cons hi, List.set_cons_zero, List.take_succ_eq_append_getElem hi, List.map_append, List.append_assoc]
  rfl
theorem map_keep {α : Type} (f : α → α) (l : List α) (i : Nat) (hi : i < l.length) (hf : f l[i] = l[i]) : (l.take i).map f ++ l.drop i = (l.take (i + 1)).map f ++ l.drop (i + 1) := by
  rw [← map_step f l i hi, hf]
  have := map_get f l i hi (by simp; omega)
  conv => rhs; rw [← this]
  rw [List.set_getElem_self]
theorem specRelink_ok (h : Heap) (v : Value) (l : List Clip) (a b n : Int) (s : SlT h encClip 3 v l) (hl : l.length ≤ 1100000) :
    ACall Try.prog 13 [v, .int .i64 a, .int .i64 b, .int .i64 n] h fun r h' => Pair h h' r (relF l a b n) := by
  refine ACall.of Try.func13 s13 (of_decide_eq_true rfl) ?_
  simp (maxSteps := 4000000) (disch := omega) only [ah, am, Nat.reduceEqDiff, reduceCtorEq, Nat.reduceAdd, Nat.reduceLeDiff, Nat.reduceMul, Nat.reduceLT, if_true, if_false, true_and, and_true, and_self, Nat.reduceBEq, QOp.loads, boxO, bslO, buildO, cutL, fillV, putL, w13, v13]
  refine stepC.of (TrackOk_ok _ _ _ s (by omega)) ?_
  rintro _ H1 ⟨e1, rfl⟩
  have S1 := s.ext e1
  by_cases hc : relOk l a b n
  · have hT : relF l a b n = editF (l.map (relC a b n)) := if_pos hc
    obtain ⟨ht, ha, hb, hn⟩ := hc
    obtain ⟨v2, H2, ea, F2⟩ := (Fresh.new0 H1 encClip_len (by omega)).app (S1.ext (Ext.more H1 [[]])) (bytes := 24) (by simp; omega)
    rw [List.nil_append] at F2
    simp only [ht, ha, hb, hn, decide_true, and_self]
    simp (maxSteps := 4000000) (disch := omega) only [ah, am, Nat.reduceEqDiff, reduceCtorEq, Nat.reduceAdd, Nat.reduceLeDiff, Nat.reduceMul, Nat.reduceLT, if_true, if_false, true_and, and_true, and_self, Nat.reduceBEq, QOp.loads, boxO, bslO, buildO, cutL, fillV, putL, w13, v13, i64w]
    refine stepC.of (l4Src_ok _ _) ?_
    rintro _ Hx ⟨hx, rfl⟩; rw [hx]; clear hx Hx
    simp (maxSteps := 4000000) (disch := omega) only [ah, am, Nat.reduceEqDiff, reduceCtorEq, Nat.reduceAdd, Nat.reduceLeDiff, Nat.reduceMul, Nat.reduceLT, if_true, if_false, true_and, and_true, and_self, Nat.reduceBEq, QOp.loads, boxO, bslO, buildO, cutL, fillV, putL, w13, v13, i64w, ha]
    refine stepC.of (l4Src_ok _ _) ?_
    rintro _ Hx ⟨hx, rfl⟩; rw [hx]; clear hx Hx
    simp (maxSteps := 4000000) (disch := omega) only [ah, am, Nat.reduceEqDiff, reduceCtorEq, Nat.reduceAdd, Nat.reduceLeDiff, Nat.reduceMul, Nat.reduceLT, if_true, if_false, true_and, and_true, and_self, Nat.reduceBEq, QOp.loads, boxO, bslO, buildO, cutL, fillV, putL, w13, v13, i64w, hb]
    refine stepC.of (l4By_ok _ _) ?_
    rintro _ Hx ⟨hx, rfl⟩; rw [hx]; clear hx Hx
    simp (maxSteps := 4000000) (disch := omega) only [ah, am, Nat.reduceEqDiff, reduceCtorEq, Nat.reduceAdd, Nat.reduceLeDiff, Nat.reduceMul, Nat.reduceLT, if_true, if_false, true_and, and_true, and_self, Nat.reduceBEq, QOp.loads, boxO, bslO, buildO, cutL, fillV, putL, w13, v13, i64w, hn, ea]
    refine SW_loop_up (fun i E H => E = [(1, .int .i64 a), (2, .int .i64 b), (3, .int .i64 n), (10, v2), (11, .int .i64 i)] ∧ Fresh H1 H encClip 3 v2 ((l.take i).map (relC a b n) ++ l.drop i)) l.length 0 (by omega) ⟨rfl, by simpa using F2⟩ ?_
    rintro i E H hi ⟨rfl, F⟩
    have R := F.slt.rulesN
    have hlen : ((l.take i).map (relC a b n) ++ l.drop i).length = l.length := by simp; omega
    simp only [hlen] at R
    have W : IntKind.i64.wrap ((i : Int) + 1) = ((i + 1 : Nat) : Int) := i64e (by omega) (by omega)
    simp (maxSteps := 4000000) (disch := omega) only [ah, am, Nat.reduceEqDiff, reduceCtorEq, Nat.reduceAdd, Nat.reduceLeDiff, Nat.reduceMul, Nat.reduceLT, if_true, if_false, true_and, and_true, and_self, Nat.reduceBEq, QOp.loads, boxO, bslO, buildO, cutL, fillV, putL, w13, v13, R]
    refine stepI.split (fun hp => ?_) (fun hp => ?_)
    · have hi' : i < l.length := by omega
      have G := map_get (relC a b n) l i hi' (by omega)
      have K := ht.2.1 _ (List.getElem_mem hi')
      simp only [clipOk] at K
      have G' : ∀ hx : i < ((l.take i).map (relC a b n) ++ l.drop i).length, ((l.take i).map (relC a b n) ++ l.drop i)[i]'hx = l[i] := fun _ => G
      by_cases hs : l[i].src = a
      · obtain ⟨H3, es1, F3, -⟩ := F.setF (j := i) (f := 0) (n := 1) (by omega) (x := ⟨b, l[i].inn, l[i].len⟩) (y := .int .i64 b) (by rw [G]; simp [encClip, splice, cells_int]) (by omega) rfl (by omega) rfl
        have R3 := F3.slt.rulesN
        obtain ⟨H4, es2, F4, -⟩ := F3.setF (j := i) (f := 1) (n := 1) (by simp only [List.length_set]; omega) (x := ⟨b, l[i].inn + n, l[i].len⟩) (y := .int .i64 (l[i].inn + n)) (by simp [encClip, splice, cells_int]) (by omega) rfl (by omega) rfl
        rw [List.set_set] at F4
        simp only [List.length_set, hlen] at R3
        simp only [Nat.add_zero] at es1
        have hs' : decide (l[i].src = a) = true := decide_eq_true hs
        simp (maxSteps := 4000000) (disch := omega) only [ah, am, Nat.reduceEqDiff, reduceCtorEq, Nat.reduceAdd, Nat.reduceLeDiff, Nat.reduceMul, Nat.reduceLT, if_true, if_false, true_and, and_true, and_self, Nat.reduceBEq, QOp.loads, boxO, bslO, buildO, cutL, fillV, putL, w13, v13, R, W, G', encClip, i64w, hs', es1, R3, List.getElem_set_self, es2]
        refine ⟨hi', ?_⟩
        have hr : relC a b n l[i] = ⟨b, l[i].inn + n, l[i].len⟩ := if_pos hs
        rw [← map_step (relC a b n) l i hi', hr]; exact F4
      · have hs' : decide (l[i].src = a) = false := decide_eq_false hs
        simp (maxSteps := 4000000) (disch := omega) only [ah, am, Nat.reduceEqDiff, reduceCtorEq, Nat.reduceAdd, Nat.reduceLeDiff, Nat.reduceMul, Nat.reduceLT, if_true, if_false, true_and, and_true, and_self, Nat.reduceBEq, QOp.loads, boxO, bslO, buildO, cutL, fillV, putL, w13, v13, R, W, G', encClip, i64w, hs']
        refine ⟨hi', ?_⟩
        rw [← map_keep (relC a b n) l i hi' (if_neg hs)]; exact F
    · simp (maxSteps := 4000000) (disch := omega) only [ah, am, Nat.reduceEqDiff, reduceCtorEq, Nat.reduceAdd, Nat.reduceLeDiff, Nat.reduceMul, Nat.reduceLT, if_true, if_false, true_and, and_true, and_self, Nat.reduceBEq, QOp.loads, boxO, bslO, buildO, cutL, fillV, putL, w13, v13, R, W]
      obtain rfl : i = l.length := by omega
      rw [List.take_length, List.drop_length, List.append_nil] at F
      refine stepC.of (l4Edit_ok _ _ _ F.slt (by simpa using hl)) ?_
      rintro _ H4 ⟨rv, rfl, F4⟩
      simp (maxSteps := 4000000) (disch := omega) only [ah, am, Nat.reduceEqDiff, reduceCtorEq, Nat.reduceAdd, Nat.reduceLeDiff, Nat.reduceMul, Nat.reduceLT, if_true, if_false, true_and, and_true, and_self, Nat.reduceBEq, QOp.loads, boxO, bslO, buildO, cutL, fillV, putL, w13, v13]
      rw [hT]
      exact ⟨rv, rfl, F4.mono (e1.trans F.1)⟩
  · have hT : relF l a b n = ([], false) := if_neg hc
    rw [hT]
    simp (maxSteps := 4000000) (disch := omega) only [ah, am, Nat.reduceEqDiff, reduceCtorEq, Nat.reduceAdd, Nat.reduceLeDiff, Nat.reduceMul, Nat.reduceLT, if_true, if_false, true_and, and_true, and_self, Nat.reduceBEq, QOp.loads, boxO, bslO, buildO, cutL, fillV, putL, w13, v13]
    (repeat' first
    | (refine stepC.of (l4Src_ok _ _) ?_; rintro _ _ ⟨rfl, rfl⟩; simp (maxSteps := 4000000) (disch := omega) only [ah, am, Nat.reduceEqDiff, reduceCtorEq, Nat.reduceAdd, Nat.reduceLeDiff, Nat.reduceMul, Nat.reduceLT, if_true, if_false, true_and, and_true, and_self, Nat.reduceBEq, QOp.loads, boxO, bslO, buildO, cutL, fillV, putL, i64w, w13, v13])
    | (refine stepC.of (l4By_ok _ _) ?_; rintro _ _ ⟨rfl, rfl⟩; simp (maxSteps := 4000000) (disch := omega) only [ah, am, Nat.reduceEqDiff, reduceCtorEq, Nat.reduceAdd, Nat.reduceLeDiff, Nat.reduceMul, Nat.reduceLT, if_true, if_false, true_and, and_true, and_self, Nat.reduceBEq, QOp.loads, boxO, bslO, buildO, cutL, fillV, putL, i64w, w13, v13])
    | (refine stepG.cases (fun _ hp => ?_) (fun _ hp => ?_) <;> simp (maxSteps := 4000000) (disch := omega) only [hp, ah, am, Nat.reduceEqDiff, reduceCtorEq, Nat.reduceAdd, Nat.reduceLeDiff, Nat.reduceMul, Nat.reduceLT, if_true, if_false, true_and, and_true, and_self, Nat.reduceBEq, QOp.loads, boxO, bslO, buildO, cutL, fillV, putL, i64w, w13, v13])
    | (refine stepI.cases (fun _ hp => ?_) (fun _ hp => ?_) <;> simp (maxSteps := 4000000) (disch := omega) only [hp, ah, am, Nat.reduceEqDiff, reduceCtorEq, Nat.reduceAdd, Nat.reduceLeDiff, Nat.reduceMul, Nat.reduceLT, if_true, if_false, true_and, and_true, and_self, Nat.reduceBEq, QOp.loads, boxO, bslO, buildO, cutL, fillV, putL, i64w, w13, v13]))
    all_goals first
      | exact ⟨_, rfl, (Fresh.new0 _ encClip_len (by omega)).mono e1⟩
      | exact (hc ⟨by assumption, by assumption, by assumption, by assumption⟩).elim
end Go.Proofs.Ytknpombiomnkbaa
