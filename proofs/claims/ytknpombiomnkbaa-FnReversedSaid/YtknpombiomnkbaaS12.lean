import Derived.Test.YtknpombiomnkbaaS6
import Derived.Test.YtknpombiomnkbaaAhY
namespace Go.Proofs.Ytknpombiomnkbaa
open Go Go.Ah
set_option linter.unusedSimpArgs false
set_option linter.unusedVariables false
set_option maxRecDepth 10000
set_option maxHeartbeats 4000000
/-! 19 loop.example/g00066/spec.Reverse: parameters 1, live [0], slots [0:track, 1:track, 4:out, 5:i, 6:k, 7:f] -/
def c19_0 : List SOper := [⟨some 2, .q (.mv (.c (.slice none 0 0))), none⟩, ⟨some 3, .q (.mv (.c (.bool false))), none⟩]
def c19_1 : List SOper := [⟨some 8, .q (.mv (.t 0)), none⟩, ⟨some 9, .e (.call 55 [(.t 8)]), none⟩, ⟨some 10, .q (.not (.t 9)), none⟩, ⟨some 11, .q (.mv (.t 10)), none⟩, ⟨some 12, .q (.mv (.t 0)), some (11, false)⟩, ⟨some 13, .e (.call 63 [(.t 12)]), some (11, false)⟩, ⟨some 14, .q (.bin .gtr (.t 13) (.c (.int .i64 2000))), some (11, false)⟩, ⟨some 15, .q (.pick (.t 11) (.c (.bool true)) (.t 14)), none⟩]
def c19_2 : List SOper := [⟨some 16, .a (.bsl 0 3 [] []), none⟩, ⟨some 2, .q (.mv (.t 16)), none⟩, ⟨some 3, .q (.mv (.c (.bool false))), none⟩]
def c19_3 : SCode := .seq (.region c19_2 [2, 3]) .ret
def c19_4 : SCode := .cond (.t 15) c19_3 .skip
def c19_5 : SCode := .seq (.region c19_1 [0, 15]) c19_4
def c19_6 : List SOper := [⟨some 17, .a (.bsl 0 3 [] []), none⟩, ⟨some 4, .q (.mv (.t 17)), none⟩]
def c19_7 : List SOper := [⟨some 18, .q (.mv (.t 0)), none⟩, ⟨some 19, .q (.len (.t 18)), none⟩, ⟨some 20, .q (.bin .sub (.t 19) (.c (.int .i64 1))), none⟩, ⟨some 5, .q (.mv (.t 20)), none⟩]
def c19_8 : List SOper := [⟨some 21, .q (.mv (.t 5)), none⟩, ⟨some 22, .q (.bin .geq (.t 21) (.c (.int .i64 0))), none⟩]
def c19_9 : SCode := .cond (.t 22) .skip (.exit 0)
def c19_10 : SCode := .seq (.region c19_8 [0, 4, 5, 22]) c19_9
def c19_11 : List SOper := [⟨some 25, .q (.mv (.t 0)), none⟩, ⟨some 26, .q (.mv (.t 5)), none⟩, ⟨some 27, .q (.ia 3 (.t 25) (.t 26)), none⟩, ⟨some 28, .q (.ldn 3 (.t 27)), none⟩, ⟨some 6, .a (.new [(.int .i64 0), (.int .i64 0), (.int .i64 0)]), none⟩, ⟨none, .e (.st 3 (.t 6) (.t 28)), none⟩]
def c19_12 : List SOper := [⟨some 29, .q (.fa 0 (.t 6)), none⟩, ⟨some 30, .q (.ld (.t 29)), none⟩, ⟨some 31, .q (.bin .eql (.t 30) (.c (.int .i64 0))), none⟩]
def c19_13 : List SOper := [⟨some 32, .q (.mv (.t 4)), none⟩, ⟨some 33, .q (.ldn 3 (.t 6)), none⟩, ⟨some 34, .a (.bsl 1 3 [(.int .i64 0), (.int .i64 0), (.int .i64 0)] [(0, 3, (.t 33))]), none⟩, ⟨some 35, .e (.app 24 3 (.t 32) (.t 34)), none⟩, ⟨some 4, .q (.mv (.t 35)), none⟩]
def c19_14 : SCode := .seq (.region c19_13 [0, 4, 5]) (.exit 1)
def c19_15 : SCode := .cond (.t 31) c19_14 .skip
def c19_16 : SCode := .seq (.region c19_12 [0, 4, 5, 6, 31]) c19_15
def c19_17 : List SOper := [⟨some 36, .q (.fa 2 (.t 6)), none⟩, ⟨some 37, .q (.ld (.t 36)), none⟩, ⟨some 38, .q (.bin .sub (.t 37) (.c (.int .i64 1))), none⟩, ⟨some 7, .q (.mv (.t 38)), none⟩]
def c19_18 : List SOper := [⟨some 39, .q (.mv (.t 7)), none⟩, ⟨some 40, .q (.bin .geq (.t 39) (.c (.int .i64 0))), none⟩]
def c19_19 : SCode := .cond (.t 40) .skip (.exit 2)
def c19_20 : SCode := .seq (.region c19_18 [0, 4, 5, 6, 7, 40]) c19_19
def c19_21 : List SOper := [⟨some 43, .q (.mv (.t 4)), none⟩, ⟨some 44, .q (.fa 0 (.t 6)), none⟩, ⟨some 45, .q (.ld (.t 44)), none⟩, ⟨some 46, .q (.fa 1 (.t 6)), none⟩, ⟨some 47, .q (.ld (.t 46)), none⟩, ⟨some 48, .q (.mv (.t 7)), none⟩, ⟨some 49, .q (.bin .add (.t 47) (.t 48)), none⟩, ⟨some 50, .q (.build [(.int .i64 0), (.int .i64 0), (.int .i64 0)] [(0, 1, (.t 45)), (1, 1, (.t 49)), (2, 1, (.c (.int .i64 1)))]), none⟩, ⟨some 51, .a (.bsl 1 3 [(.int .i64 0), (.int .i64 0), (.int .i64 0)] [(0, 3, (.t 50))]), none⟩, ⟨some 52, .e (.app 24 3 (.t 43) (.t 51)), none⟩, ⟨some 4, .q (.mv (.t 52)), none⟩]
def c19_22 : SCode := .block 3 (.region c19_21 [0, 4, 5, 6, 7])
def c19_23 : List SOper := [⟨some 41, .q (.mv (.t 7)), none⟩, ⟨some 42, .q (.bin .sub (.t 41) (.c (.int .i64 1))), none⟩, ⟨some 7, .q (.mv (.t 42)), none⟩]
def c19_24 : SCode := .seq c19_22 (.region c19_23 [0, 4, 5, 6, 7])
def c19_25 : SCode := .seq c19_20 c19_24
def c19_26 : SCode := .loop c19_25
def c19_27 : SCode := .block 2 c19_26
def c19_28 : SCode := .seq (.region c19_17 [0, 4, 5, 6, 7]) c19_27
def c19_29 : SCode := .seq c19_16 c19_28
def c19_30 : SCode := .seq (.region c19_11 [0, 4, 5, 6]) c19_29
def c19_31 : SCode := .block 1 c19_30
def c19_32 : List SOper := [⟨some 23, .q (.mv (.t 5)), none⟩, ⟨some 24, .q (.bin .sub (.t 23) (.c (.int .i64 1))), none⟩, ⟨some 5, .q (.mv (.t 24)), none⟩]
def c19_33 : SCode := .seq c19_31 (.region c19_32 [0, 4, 5])
def c19_34 : SCode := .seq c19_10 c19_33
def c19_35 : SCode := .loop c19_34
def c19_36 : SCode := .block 0 c19_35
def c19_37 : SCode := .seq (.region c19_7 [0, 4, 5]) c19_36
def c19_38 : List SOper := [⟨some 53, .q (.mv (.t 4)), none⟩, ⟨some 54, .e (.call 58 [(.t 53)]), none⟩, ⟨some 55, .q (.ext (.t 54) 0), none⟩, ⟨some 56, .q (.ext (.t 54) 1), none⟩, ⟨some 2, .q (.mv (.t 55)), none⟩, ⟨some 3, .q (.mv (.t 56)), none⟩]
def c19_39 : SCode := .seq (.region c19_38 [2, 3]) .ret
def c19_40 : SCode := .seq c19_37 c19_39
def c19_41 : SCode := .seq (.region c19_6 [0, 4]) c19_40
def c19_42 : SCode := .seq c19_5 c19_41
def c19_43 : SCode := .seq (.region c19_0 [0]) c19_42
def c19 : SCode := c19_43
theorem w19 : type_of% (And.intro (uR Try.prog c19_0.eq_1) (And.intro (uR Try.prog c19_1.eq_1) (And.intro (uR Try.prog c19_2.eq_1) (And.intro (uC Try.prog c19_3.eq_1) (And.intro (uC Try.prog c19_4.eq_1) (And.intro (uC Try.prog c19_5.eq_1) (And.intro (uR Try.prog c19_6.eq_1) (And.intro (uR Try.prog c19_7.eq_1) (And.intro (uR Try.prog c19_8.eq_1) (And.intro (uC Try.prog c19_9.eq_1) (And.intro (uC Try.prog c19_10.eq_1) (And.intro (uR Try.prog c19_11.eq_1) (And.intro (uR Try.prog c19_12.eq_1) (And.intro (uR Try.prog c19_13.eq_1) (And.intro (uC Try.prog c19_14.eq_1) (And.intro (uC Try.prog c19_15.eq_1) (And.intro (uC Try.prog c19_16.eq_1) (And.intro (uR Try.prog c19_17.eq_1) (And.intro (uR Try.prog c19_18.eq_1) (And.intro (uC Try.prog c19_19.eq_1) (And.intro (uC Try.prog c19_20.eq_1) (And.intro (uR Try.prog c19_21.eq_1) (And.intro (uC Try.prog c19_22.eq_1) (And.intro (uR Try.prog c19_23.eq_1) (And.intro (uC Try.prog c19_24.eq_1) (And.intro (uC Try.prog c19_25.eq_1) (And.intro (uC Try.prog c19_26.eq_1) (And.intro (uC Try.prog c19_27.eq_1) (And.intro (uC Try.prog c19_28.eq_1) (And.intro (uC Try.prog c19_29.eq_1) (And.intro (uC Try.prog c19_30.eq_1) (And.intro (uC Try.prog c19_31.eq_1) (And.intro (uR Try.prog c19_32.eq_1) (And.intro (uC Try.prog c19_33.eq_1) (And.intro (uC Try.prog c19_34.eq_1) (And.intro (uC Try.prog c19_35.eq_1) (And.intro (uC Try.prog c19_36.eq_1) (And.intro (uC Try.prog c19_37.eq_1) (And.intro (uR Try.prog c19_38.eq_1) (And.intro (uC Try.prog c19_39.eq_1) (And.intro (uC Try.prog c19_40.eq_1) (And.intro (uC Try.prog c19_41.eq_1) (And.intro (uC Try.prog c19_42.eq_1) (And.intro (uC Try.prog c19_43.eq_1) (uC Try.prog c19.eq_1))))))))))))))))))))))))))))))))))))))))))))) := (And.intro (uR Try.prog c19_0.eq_1) (And.intro (uR Try.prog c19_1.eq_1) (And.intro (uR Try.prog c19_2.eq_1) (And.intro (uC Try.prog c19_3.eq_1) (And.intro (uC Try.prog c19_4.eq_1) (And.intro (uC Try.prog c19_5.eq_1) (And.intro (uR Try.prog c19_6.eq_1) (And.intro (uR Try.prog c19_7.eq_1) (And.intro (uR Try.prog c19_8.eq_1) (And.intro (uC Try.prog c19_9.eq_1) (And.intro (uC Try.prog c19_10.eq_1) (And.intro (uR Try.prog c19_11.eq_1) (And.intro (uR Try.prog c19_12.eq_1) (And.intro (uR Try.prog c19_13.eq_1) (And.intro (uC Try.prog c19_14.eq_1) (And.intro (uC Try.prog c19_15.eq_1) (And.intro (uC Try.prog c19_16.eq_1) (And.intro (uR Try.prog c19_17.eq_1) (And.intro (uR Try.prog c19_18.eq_1) (And.intro (uC Try.prog c19_19.eq_1) (And.intro (uC Try.prog c19_20.eq_1) (And.intro (uR Try.prog c19_21.eq_1) (And.intro (uC Try.prog c19_22.eq_1) (And.intro (uR Try.prog c19_23.eq_1) (And.intro (uC Try.prog c19_24.eq_1) (And.intro (uC Try.prog c19_25.eq_1) (And.intro (uC Try.prog c19_26.eq_1) (And.intro (uC Try.prog c19_27.eq_1) (And.intro (uC Try.prog c19_28.eq_1) (And.intro (uC Try.prog c19_29.eq_1) (And.intro (uC Try.prog c19_30.eq_1) (And.intro (uC Try.prog c19_31.eq_1) (And.intro (uR Try.prog c19_32.eq_1) (And.intro (uC Try.prog c19_33.eq_1) (And.intro (uC Try.prog c19_34.eq_1) (And.intro (uC Try.prog c19_35.eq_1) (And.intro (uC Try.prog c19_36.eq_1) (And.intro (uC Try.prog c19_37.eq_1) (And.intro (uR Try.prog c19_38.eq_1) (And.intro (uC Try.prog c19_39.eq_1) (And.intro (uC Try.prog c19_40.eq_1) (And.intro (uC Try.prog c19_41.eq_1) (And.intro (uC Try.prog c19_42.eq_1) (And.intro (uC Try.prog c19_43.eq_1) (uC Try.prog c19.eq_1)))))))))))))))))))))))))))))))))))))))))))))
def v19 : List RV := [.t 2, .t 3]
theorem s19 : slimF Try.prog Try.f19 = some (c19.bare, v19) := by kernel_rfl

/-- The frames of a clip, the last first. -/
def frameR (k : Clip) (d : Nat) : Clip := ⟨k.src, k.inn + (k.len - 1 - d), 1⟩
def framesR (k : Clip) : List Clip := (List.range k.len.toNat).map (frameR k)
def revPiece (k : Clip) : List Clip := if k.src = 0 then [k] else framesR k
def revS (l : List Clip) : List Clip := l.reverse.flatMap revPiece
def revOk (l : List Clip) : Prop := trackOk l ∧ sumLen l ≤ 2000
instance (l : List Clip) : Decidable (revOk l) := by unfold revOk; infer_instance
def revF (l : List Clip) : List Clip × Bool := if revOk l then editF (revS l) else ([], false)
theorem revPiece_length (k : Clip) (hk : clipOk k) : (revPiece k).length ≤ k.len := by
  simp only [clipOk] at hk
  unfold revPiece; split
  · simp; omega
  · simp [framesR]; omega
theorem sumLen_reverse (l : List Clip) : sumLen l.reverse = sumLen l := by
  induction l with
  | nil => rfl
  | cons k l ih => rw [List.reverse_cons, sumLen_append, ih]; simp [sumLen]; omega
theorem flatLen (f : Clip → List Clip) (l : List Clip) (h : ∀ k ∈ l, ((f k).length : Int) ≤ k.len) : ((l.flatMap f).length : Int) ≤ sumLen l := by
  induction l with
  | nil => simp [sumLen]
  | cons k l ih =>
    have h1 := h k (by simp); have h2 := ih (fun a ha => h a (by simp [ha]))
    have h3 : sumLen (k :: l) = k.len + sumLen l := by simp [sumLen]
    rw [List.flatMap_cons, List.length_append, h3]; omega
theorem sumLen_take_le (l : List Clip) (i : Nat) (h : ∀ k ∈ l, clipOk k) : sumLen (l.take i) ≤ sumLen l := by
  conv => rhs; rw [← List.take_append_drop i l]
  rw [sumLen_append]
  have := (sumLen_bound (l := l.drop i) (fun k hk => h k (List.mem_of_mem_drop hk))).1
  omega
theorem specReverse_ok (h : Heap) (v : Value) (l : List Clip) (s : SlT h encClip 3 v l) (hl : l.length ≤ 1100000) :
    ACall Try.prog 19 [v] h fun r h' => Pair h h' r (revF l) := by
  refine ACall.of Try.func19 s19 (of_decide_eq_true rfl) ?_
  simp (maxSteps := 4000000) (disch := omega) only [ah, am, Nat.reduceEqDiff, reduceCtorEq, Nat.reduceAdd, Nat.reduceLeDiff, Nat.reduceMul, Nat.reduceLT, if_true, if_false, true_and, and_true, and_self, Nat.reduceBEq, QOp.loads, boxO, bslO, buildO, cutL, fillV, putL, w19, v19]
  refine stepC.of (TrackOk_ok _ _ _ s (by omega)) ?_
  rintro _ H1 ⟨e1, rfl⟩
  have S1 := s.ext e1
  by_cases ht : trackOk l
  · have ht' : decide (trackOk l) = true := decide_eq_true ht
    have hlen := ht.1; have hok := ht.2.1
    simp (maxSteps := 4000000) (disch := omega) only [ah, am, Nat.reduceEqDiff, reduceCtorEq, Nat.reduceAdd, Nat.reduceLeDiff, Nat.reduceMul, Nat.reduceLT, if_true, if_false, true_and, and_true, and_self, Nat.reduceBEq, QOp.loads, boxO, bslO, buildO, cutL, fillV, putL, w19, v19, ht']
    refine stepC.of (l4Length_ok _ _ _ S1 hlen hok) ?_
    rintro _ Hx ⟨hx, rfl⟩; rw [hx]; clear hx Hx
    by_cases hs : sumLen l ≤ 2000
    · have hs' : decide (2000 < sumLen l) = false := decide_eq_false (by omega)
      have hT : revF l = editF (revS l) := if_pos ⟨ht, hs⟩
      have R := S1.rulesN
      simp (maxSteps := 4000000) (disch := omega) only [ah, am, Nat.reduceEqDiff, reduceCtorEq, Nat.reduceAdd, Nat.reduceLeDiff, Nat.reduceMul, Nat.reduceLT, if_true, if_false, true_and, and_true, and_self, Nat.reduceBEq, QOp.loads, boxO, bslO, buildO, cutL, fillV, putL, w19, v19, ht', hs', R, i64w]
      have hrl : l.reverse.length = l.length := List.length_reverse
      have hokr : ∀ k ∈ l.reverse, clipOk k := fun k hk => hok k (by simpa using hk)
      have bound : ∀ i, ((l.reverse.take i).flatMap revPiece).length ≤ 2000 := by
        intro i
        have h1 := flatLen revPiece (l.reverse.take i) (fun k hk => revPiece_length k (hokr k (List.mem_of_mem_take hk)))
        have h2 := sumLen_take_le l.reverse i hokr
        rw [sumLen_reverse] at h2; omega
      refine SW_loop_up (fun i E H => ∃ ov, E = [(0, v), (4, ov), (5, .int .i64 ((l.length : Int) - 1 - i))] ∧ Fresh H1 H encClip 3 ov ((l.reverse.take i).flatMap revPiece)) l.length 0 (by omega)
        ⟨.slice (some ⟨H1.size, 0, none⟩) 0 3, by simp, by simpa using Fresh.new0 H1 encClip_len (by omega)⟩ ?_
      rintro i E H hi ⟨ov, rfl, F⟩
      have R := (S1.ext F.1).rulesN
      simp (maxSteps := 4000000) (disch := omega) only [ah, am, Nat.reduceEqDiff, reduceCtorEq, Nat.reduceAdd, Nat.reduceLeDiff, Nat.reduceMul, Nat.reduceLT, if_true, if_false, true_and, and_true, and_self, Nat.reduceBEq, QOp.loads, boxO, bslO, buildO, cutL, fillV, putL, w19, v19, R]
      refine stepI.split (fun hp => ?_) (fun hp => ?_)
      · have hi' : i < l.length := by omega
        have hj : l.length - 1 - i < l.length := by omega
        have hjj : (l.length : Int) - 1 - (i : Int) = ((l.length - 1 - i : Nat) : Int) := by omega
        have hlr : l.reverse[i]'(by omega) = l[l.length - 1 - i] := by rw [List.getElem_reverse]
        have K := hok _ (List.getElem_mem hj)
        have T : l.reverse.take (i + 1) = l.reverse.take i ++ [l[l.length - 1 - i]] := by rw [List.take_succ_eq_append_getElem (by omega), hlr]
        have W : IntKind.i64.wrap (((l.length - 1 - i : Nat) : Int) - 1) = (l.length : Int) - 1 - ((i + 1 : Nat) : Int) := i64e (by omega) (by omega)
        have Bd := bound (i + 1)
        rw [T, List.flatMap_append, List.flatMap_cons, List.flatMap_nil, List.append_nil] at Bd ⊢
        rw [hjj]
        clear hlr T
        generalize (l.reverse.take i).flatMap revPiece = out at *
        generalize l.length - 1 - i = j at *
        have K2 := K
        simp only [clipOk] at K2
        simp (maxSteps := 4000000) (disch := omega) only [ah, am, Nat.reduceEqDiff, reduceCtorEq, Nat.reduceAdd, Nat.reduceLeDiff, Nat.reduceMul, Nat.reduceLT, if_true, if_false, true_and, and_true, and_self, Nat.reduceBEq, QOp.loads, boxO, bslO, buildO, cutL, fillV, putL, w19, v19, R, encClip]
        by_cases hg : l[j].src = 0
        · have hg' : decide (l[j].src = 0) = true := decide_eq_true hg
          have hr : revPiece l[j] = [l[j]] := if_pos hg
          obtain ⟨v2, H2, ea, F2, X⟩ := F.app1k [encClip l[j]] l[j] (bytes := 24) (by rw [hr] at Bd; simp at Bd; omega)
          simp only [more_more, size_more, List.cons_append, List.nil_append, List.length_cons, List.length_nil, Nat.zero_add, encClip, Nat.reduceAdd] at ea
          simp (maxSteps := 4000000) (disch := omega) only [ah, am, Nat.reduceEqDiff, reduceCtorEq, Nat.reduceAdd, Nat.reduceLeDiff, Nat.reduceMul, Nat.reduceLT, if_true, if_false, true_and, and_true, and_self, Nat.reduceBEq, QOp.loads, boxO, bslO, buildO, cutL, fillV, putL, w19, v19, encClip, hg', ea, W]
          exact ⟨hi', _, rfl, by rw [hr]; exact F2⟩
        · have hg' : decide (l[j].src = 0) = false := decide_eq_false hg
          have hr : revPiece l[j] = framesR l[j] := if_neg hg
          have F0 : Fk [] H1 (H.more [encClip l[j]]) encClip 3 ov out [(H.size, encClip l[j])] := (Fk.of F).more [encClip l[j]]
          simp (maxSteps := 4000000) (disch := omega) only [ah, am, Nat.reduceEqDiff, reduceCtorEq, Nat.reduceAdd, Nat.reduceLeDiff, Nat.reduceMul, Nat.reduceLT, if_true, if_false, true_and, and_true, and_self, Nat.reduceBEq, QOp.loads, boxO, bslO, buildO, cutL, fillV, putL, w19, v19, encClip, hg', i64w]
          refine SW_loop_up (fun d E H2 => ∃ ov, E = [(0, v), (4, ov), (5, .int .i64 j), (6, .pointer (some ⟨H.size, 0, none⟩)), (7, .int .i64 (l[j].len - 1 - d))] ∧
            Fk [] H1 H2 encClip 3 ov (out ++ (List.range d).map (frameR l[j])) [(H.size, encClip l[j])]) l[j].len.toNat 0 (by omega) ⟨ov, by simp, by simp only [List.range_zero, List.map_nil, List.append_nil]; exact F0⟩ ?_
          rintro d E H2 hd ⟨ov2, rfl, F2⟩
          have X := F2.ld (i := H.size) (cs := encClip l[j]) (by simp)
          simp only [encClip] at X
          simp (maxSteps := 4000000) (disch := omega) only [ah, am, Nat.reduceEqDiff, reduceCtorEq, Nat.reduceAdd, Nat.reduceLeDiff, Nat.reduceMul, Nat.reduceLT, if_true, if_false, true_and, and_true, and_self, Nat.reduceBEq, QOp.loads, boxO, bslO, buildO, cutL, fillV, putL, w19, v19, X]
          refine stepI.split (fun hq => ?_) (fun hq => ?_)
          · have hd' : d < l[j].len.toNat := by omega
            obtain ⟨v3, H3, ea, F3⟩ := F2.app1 [] (frameR l[j] d) (bytes := 24) (by rw [hr] at Bd; simp [framesR] at Bd; simp; omega)
            simp only [boxesAt, List.append_nil, List.nil_append, List.length_nil, Nat.add_zero, encClip, frameR] at ea
            simp only [boxesAt, List.append_nil] at F3
            have W2 : IntKind.i64.wrap (l[j].len - 1 - (d : Int) - 1) = l[j].len - 1 - ((d + 1 : Nat) : Int) := i64e (by omega) (by omega)
            simp (maxSteps := 4000000) (disch := omega) only [ah, am, Nat.reduceEqDiff, reduceCtorEq, Nat.reduceAdd, Nat.reduceLeDiff, Nat.reduceMul, Nat.reduceLT, if_true, if_false, true_and, and_true, and_self, Nat.reduceBEq, QOp.loads, boxO, bslO, buildO, cutL, fillV, putL, w19, v19, X, i64w, ea, W2]
            refine ⟨hd', _, rfl, ?_⟩
            rw [List.range_succ, List.map_append, ← List.append_assoc]; exact F3
          · simp (maxSteps := 4000000) (disch := omega) only [ah, am, Nat.reduceEqDiff, reduceCtorEq, Nat.reduceAdd, Nat.reduceLeDiff, Nat.reduceMul, Nat.reduceLT, if_true, if_false, true_and, and_true, and_self, Nat.reduceBEq, QOp.loads, boxO, bslO, buildO, cutL, fillV, putL, w19, v19, X, W]
            obtain rfl : d = l[j].len.toNat := by omega
            exact ⟨hi', _, rfl, by rw [hr]; exact F2.fresh⟩
      · simp (maxSteps := 4000000) (disch := omega) only [ah, am, Nat.reduceEqDiff, reduceCtorEq, Nat.reduceAdd, Nat.reduceLeDiff, Nat.reduceMul, Nat.reduceLT, if_true, if_false, true_and, and_true, and_self, Nat.reduceBEq, QOp.loads, boxO, bslO, buildO, cutL, fillV, putL, w19, v19]
        obtain rfl : i = l.length := by omega
        rw [List.take_of_length_le (by omega)] at F
        have Bd := bound l.length
        rw [List.take_of_length_le (by omega)] at Bd
        refine stepC.of (l4Edit_ok _ _ _ F.slt (by omega)) ?_
        rintro _ H4 ⟨rv, rfl, F4⟩
        simp (maxSteps := 4000000) (disch := omega) only [ah, am, Nat.reduceEqDiff, reduceCtorEq, Nat.reduceAdd, Nat.reduceLeDiff, Nat.reduceMul, Nat.reduceLT, if_true, if_false, true_and, and_true, and_self, Nat.reduceBEq, QOp.loads, boxO, bslO, buildO, cutL, fillV, putL, w19, v19]
        rw [hT]
        exact ⟨rv, rfl, F4.mono (e1.trans F.1)⟩
    · have hs' : decide (2000 < sumLen l) = true := decide_eq_true (by omega)
      have hT : revF l = ([], false) := if_neg fun q => hs q.2
      simp (maxSteps := 4000000) (disch := omega) only [ah, am, Nat.reduceEqDiff, reduceCtorEq, Nat.reduceAdd, Nat.reduceLeDiff, Nat.reduceMul, Nat.reduceLT, if_true, if_false, true_and, and_true, and_self, Nat.reduceBEq, QOp.loads, boxO, bslO, buildO, cutL, fillV, putL, w19, v19, ht', hs']
      rw [hT]
      exact ⟨_, rfl, (Fresh.new0 _ encClip_len (by omega)).mono e1⟩
  · have ht' : decide (trackOk l) = false := decide_eq_false ht
    have hT : revF l = ([], false) := if_neg fun q => ht q.1
    simp (maxSteps := 4000000) (disch := omega) only [ah, am, Nat.reduceEqDiff, reduceCtorEq, Nat.reduceAdd, Nat.reduceLeDiff, Nat.reduceMul, Nat.reduceLT, if_true, if_false, true_and, and_true, and_self, Nat.reduceBEq, QOp.loads, boxO, bslO, buildO, cutL, fillV, putL, w19, v19, ht']
    rw [hT]
    exact ⟨_, rfl, (Fresh.new0 _ encClip_len (by omega)).mono e1⟩
end Go.Proofs.Ytknpombiomnkbaa
