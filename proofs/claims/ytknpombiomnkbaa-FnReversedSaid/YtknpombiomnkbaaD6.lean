import Derived.Test.YtknpombiomnkbaaD5
import Derived.Test.YtknpombiomnkbaaI8
namespace Go.Proofs.Ytknpombiomnkbaa
open Go Go.Ah
set_option linter.unusedSimpArgs false
set_option linter.unusedVariables false
set_option maxRecDepth 10000
set_option maxHeartbeats 4000000
/-! 64 (loop.example/g00066/impl.Clip).place: parameters 1, live [0], slots [0:c, 1:c] -/
def c64_0 : List SOper := [⟨some 1, .a (.box (.t 0)), none⟩, ⟨some 2, .q (.mv (.c (.int .i64 0))), none⟩, ⟨some 3, .q (.mv (.c (.int .i64 0))), none⟩]
def c64_1 : List SOper := [⟨some 4, .q (.fa 0 (.t 1)), none⟩, ⟨some 5, .q (.ld (.t 4)), none⟩, ⟨some 6, .q (.fa 1 (.t 1)), none⟩, ⟨some 7, .q (.ld (.t 6)), none⟩, ⟨some 2, .q (.mv (.t 5)), none⟩, ⟨some 3, .q (.mv (.t 7)), none⟩]
def c64_2 : SCode := .seq (.region c64_1 [2, 3]) .ret
def c64_3 : SCode := .seq (.region c64_0 [1]) c64_2
def c64 : SCode := c64_3
theorem w64 : type_of% (And.intro (uR Try.prog c64_0.eq_1) (And.intro (uR Try.prog c64_1.eq_1) (And.intro (uC Try.prog c64_2.eq_1) (And.intro (uC Try.prog c64_3.eq_1) (uC Try.prog c64.eq_1))))) := (And.intro (uR Try.prog c64_0.eq_1) (And.intro (uR Try.prog c64_1.eq_1) (And.intro (uC Try.prog c64_2.eq_1) (And.intro (uC Try.prog c64_3.eq_1) (uC Try.prog c64.eq_1)))))
def v64 : List RV := [.t 2, .t 3]
theorem s64 : slimF Try.prog Try.f64 = some (c64.bare, v64) := by kernel_rfl
/-! 20 loop.example/g00066/impl.FrameAt: parameters 2, live [0, 1], slots [0:track, 1:at, 2:track, 3:at, 6:_, 7:c] -/
def c20_0 : List SOper := [⟨some 4, .q (.mv (.c (.int .i64 0))), none⟩, ⟨some 5, .q (.mv (.c (.int .i64 0))), none⟩]
def c20_1 : List SOper := [⟨some 8, .q (.mv (.t 0)), none⟩, ⟨some 9, .e (.call 50 [(.t 8)]), none⟩, ⟨some 10, .q (.not (.t 9)), none⟩, ⟨some 11, .q (.mv (.t 10)), none⟩, ⟨some 12, .q (.mv (.t 1)), some (11, false)⟩, ⟨some 13, .q (.mv (.t 0)), some (11, false)⟩, ⟨some 14, .e (.call 60 [(.t 13)]), some (11, false)⟩, ⟨some 15, .q (.bin .sub (.t 14) (.c (.int .i64 1))), some (11, false)⟩, ⟨some 16, .e (.call 51 [(.t 12), (.c (.int .i64 0)), (.t 15)]), some (11, false)⟩, ⟨some 17, .q (.not (.t 16)), some (11, false)⟩, ⟨some 18, .q (.pick (.t 11) (.c (.bool true)) (.t 17)), none⟩]
def c20_2 : List SOper := [⟨some 4, .q (.mv (.c (.int .i64 (-1)))), none⟩, ⟨some 5, .q (.mv (.c (.int .i64 (-1)))), none⟩]
def c20_3 : SCode := .seq (.region c20_2 [4, 5]) .ret
def c20_4 : SCode := .cond (.t 18) c20_3 .skip
def c20_5 : SCode := .seq (.region c20_1 [0, 1, 18]) c20_4
def c20_6 : List SOper := [⟨some 19, .q (.mv (.t 0)), none⟩, ⟨some 20, .q (.len (.t 19)), none⟩, ⟨some 21, .q (.mv (.c (.int .i64 0))), none⟩]
def c20_7 : List SOper := [⟨some 22, .q (.bin .lss (.t 21) (.t 20)), none⟩]
def c20_8 : SCode := .cond (.t 22) .skip (.exit 0)
def c20_9 : List SOper := [⟨some 23, .q (.ia 3 (.t 19) (.t 21)), none⟩, ⟨some 24, .q (.ldn 3 (.t 23)), none⟩, ⟨some 7, .a (.new [(.int .i64 0), (.int .i64 0), (.int .i64 0)]), none⟩, ⟨none, .e (.st 3 (.t 7) (.t 24)), none⟩]
def c20_10 : List SOper := [⟨some 25, .q (.mv (.t 1)), none⟩, ⟨some 26, .q (.fa 2 (.t 7)), none⟩, ⟨some 27, .q (.ld (.t 26)), none⟩, ⟨some 28, .q (.bin .lss (.t 25) (.t 27)), none⟩]
def c20_11 : List SOper := [⟨some 29, .q (.ldn 3 (.t 7)), none⟩, ⟨some 30, .q (.mv (.t 1)), none⟩, ⟨some 31, .e (.call 61 [(.t 29), (.t 30)]), none⟩, ⟨some 32, .e (.call 64 [(.t 31)]), none⟩, ⟨some 33, .q (.ext (.t 32) 0), none⟩, ⟨some 34, .q (.ext (.t 32) 1), none⟩, ⟨some 4, .q (.mv (.t 33)), none⟩, ⟨some 5, .q (.mv (.t 34)), none⟩]
def c20_12 : SCode := .seq (.region c20_11 [4, 5]) .ret
def c20_13 : SCode := .cond (.t 28) c20_12 .skip
def c20_14 : SCode := .seq (.region c20_10 [1, 7, 19, 20, 21, 28]) c20_13
def c20_15 : List SOper := [⟨some 35, .q (.mv (.t 1)), none⟩, ⟨some 36, .q (.fa 2 (.t 7)), none⟩, ⟨some 37, .q (.ld (.t 36)), none⟩, ⟨some 38, .q (.bin .sub (.t 35) (.t 37)), none⟩, ⟨some 1, .q (.mv (.t 38)), none⟩]
def c20_16 : SCode := .seq c20_14 (.region c20_15 [1, 19, 20, 21])
def c20_17 : SCode := .seq (.region c20_9 [1, 7, 19, 20, 21]) c20_16
def c20_18 : SCode := .block 1 c20_17
def c20_19 : List SOper := [⟨some 39, .q (.bin .add (.t 21) (.c (.int .i64 1))), none⟩, ⟨some 21, .q (.mv (.t 39)), none⟩]
def c20_20 : SCode := .seq c20_18 (.region c20_19 [1, 19, 20, 21])
def c20_21 : SCode := .seq c20_8 c20_20
def c20_22 : SCode := .seq (.region c20_7 [1, 19, 20, 21, 22]) c20_21
def c20_23 : SCode := .loop c20_22
def c20_24 : SCode := .block 0 c20_23
def c20_25 : SCode := .seq (.region c20_6 [1, 19, 20, 21]) c20_24
def c20_26 : List SOper := [⟨some 4, .q (.mv (.c (.int .i64 (-1)))), none⟩, ⟨some 5, .q (.mv (.c (.int .i64 (-1)))), none⟩]
def c20_27 : SCode := .seq (.region c20_26 [4, 5]) .ret
def c20_28 : SCode := .seq c20_25 c20_27
def c20_29 : SCode := .seq c20_5 c20_28
def c20_30 : SCode := .seq (.region c20_0 [0, 1]) c20_29
def c20 : SCode := c20_30
theorem w20 : type_of% (And.intro (uR Try.prog c20_0.eq_1) (And.intro (uR Try.prog c20_1.eq_1) (And.intro (uR Try.prog c20_2.eq_1) (And.intro (uC Try.prog c20_3.eq_1) (And.intro (uC Try.prog c20_4.eq_1) (And.intro (uC Try.prog c20_5.eq_1) (And.intro (uR Try.prog c20_6.eq_1) (And.intro (uR Try.prog c20_7.eq_1) (And.intro (uC Try.prog c20_8.eq_1) (And.intro (uR Try.prog c20_9.eq_1) (And.intro (uR Try.prog c20_10.eq_1) (And.intro (uR Try.prog c20_11.eq_1) (And.intro (uC Try.prog c20_12.eq_1) (And.intro (uC Try.prog c20_13.eq_1) (And.intro (uC Try.prog c20_14.eq_1) (And.intro (uR Try.prog c20_15.eq_1) (And.intro (uC Try.prog c20_16.eq_1) (And.intro (uC Try.prog c20_17.eq_1) (And.intro (uC Try.prog c20_18.eq_1) (And.intro (uR Try.prog c20_19.eq_1) (And.intro (uC Try.prog c20_20.eq_1) (And.intro (uC Try.prog c20_21.eq_1) (And.intro (uC Try.prog c20_22.eq_1) (And.intro (uC Try.prog c20_23.eq_1) (And.intro (uC Try.prog c20_24.eq_1) (And.intro (uC Try.prog c20_25.eq_1) (And.intro (uR Try.prog c20_26.eq_1) (And.intro (uC Try.prog c20_27.eq_1) (And.intro (uC Try.prog c20_28.eq_1) (And.intro (uC Try.prog c20_29.eq_1) (And.intro (uC Try.prog c20_30.eq_1) (uC Try.prog c20.eq_1)))))))))))))))))))))))))))))))) := (And.intro (uR Try.prog c20_0.eq_1) (And.intro (uR Try.prog c20_1.eq_1) (And.intro (uR Try.prog c20_2.eq_1) (And.intro (uC Try.prog c20_3.eq_1) (And.intro (uC Try.prog c20_4.eq_1) (And.intro (uC Try.prog c20_5.eq_1) (And.intro (uR Try.prog c20_6.eq_1) (And.intro (uR Try.prog c20_7.eq_1) (And.intro (uC Try.prog c20_8.eq_1) (And.intro (uR Try.prog c20_9.eq_1) (And.intro (uR Try.prog c20_10.eq_1) (And.intro (uR Try.prog c20_11.eq_1) (And.intro (uC Try.prog c20_12.eq_1) (And.intro (uC Try.prog c20_13.eq_1) (And.intro (uC Try.prog c20_14.eq_1) (And.intro (uR Try.prog c20_15.eq_1) (And.intro (uC Try.prog c20_16.eq_1) (And.intro (uC Try.prog c20_17.eq_1) (And.intro (uC Try.prog c20_18.eq_1) (And.intro (uR Try.prog c20_19.eq_1) (And.intro (uC Try.prog c20_20.eq_1) (And.intro (uC Try.prog c20_21.eq_1) (And.intro (uC Try.prog c20_22.eq_1) (And.intro (uC Try.prog c20_23.eq_1) (And.intro (uC Try.prog c20_24.eq_1) (And.intro (uC Try.prog c20_25.eq_1) (And.intro (uR Try.prog c20_26.eq_1) (And.intro (uC Try.prog c20_27.eq_1) (And.intro (uC Try.prog c20_28.eq_1) (And.intro (uC Try.prog c20_29.eq_1) (And.intro (uC Try.prog c20_30.eq_1) (uC Try.prog c20.eq_1))))))))))))))))))))))))))))))))
def v20 : List RV := [.t 4, .t 5]
theorem s20 : slimF Try.prog Try.f20 = some (c20.bare, v20) := by kernel_rfl

def frameOf (l : List Clip) (i : Int) : Clip := (ex l).getD i.toNat zClip
/-- What is seen at a frame: the source, the frame. -/
def frameAt (l : List Clip) (i : Int) : Int × Int := if trackOk l ∧ 0 ≤ i ∧ i < sumLen l then ((frameOf l i).src, (frameOf l i).inn) else (-1, -1)
theorem ex_at (l : List Clip) (hl : ∀ k ∈ l, wfC k) (i : Nat) (hi : i < l.length) (d : Nat) (hd : d < l[i].len.toNat) : (ex l)[(sumLen (l.take i)).toNat + d]? = some (frameI l[i] d) := by
  have h1 : ex l = ex (l.take i) ++ (framesI l[i] ++ ex (l.drop (i + 1))) := by
    have h0 : l = l.take i ++ (l[i] :: l.drop (i + 1)) := by rw [← List.drop_eq_getElem_cons hi, List.take_append_drop]
    exact (congrArg ex h0).trans (by rw [ex_append]; rfl)
  have h2 := len_ex (l.take i) (fun k hk => hl k (List.mem_of_mem_take hk))
  have h3 : (framesI l[i]).length = l[i].len.toNat := by simp [framesI]
  rw [h1, List.getElem?_append_right (by omega), List.getElem?_append_left (by omega)]
  rw [show (sumLen (l.take i)).toNat + d - (ex (l.take i)).length = d by omega]
  simp [framesI, hd]
theorem place_ok (h : Heap) (k : Clip) : ACall Try.prog 64 [.agg (encClip k).toArray] h fun r h' => Ext h h' ∧ r = .tuple #[.int .i64 k.src, .int .i64 k.inn] := by
  refine ACall.of Try.func64 s64 (of_decide_eq_true rfl) ?_
  simp (maxSteps := 4000000) (disch := omega) only [ah, am, Nat.reduceEqDiff, reduceCtorEq, Nat.reduceAdd, Nat.reduceLeDiff, Nat.reduceMul, Nat.reduceLT, if_true, if_false, true_and, and_true, and_self, Nat.reduceBEq, QOp.loads, boxO, bslO, buildO, cutL, fillV, putL, w64, v64, encClip]
  exact Ext.more _ _
theorem FrameAt_ok (h : Heap) (v : Value) (l : List Clip) (i : Int) (s : SlT h encClip 3 v l) (hl : l.length ≤ 1100000) :
    ACall Try.prog 20 [v, .int .i64 i] h fun r h' => Ext h h' ∧ r = .tuple #[.int .i64 (frameAt l i).1, .int .i64 (frameAt l i).2] := by
  refine ACall.of Try.func20 s20 (of_decide_eq_true rfl) ?_
  simp (maxSteps := 4000000) (disch := omega) only [ah, am, Nat.reduceEqDiff, reduceCtorEq, Nat.reduceAdd, Nat.reduceLeDiff, Nat.reduceMul, Nat.reduceLT, if_true, if_false, true_and, and_true, and_self, Nat.reduceBEq, QOp.loads, boxO, bslO, buildO, cutL, fillV, putL, w20, v20]
  refine stepC.of (implTrackOk_ok _ _ _ s hl) ?_
  rintro _ H1 ⟨e1, rfl⟩
  by_cases ht : trackOk l
  rotate_left
  · have ht' : decide (trackOk l) = false := decide_eq_false ht
    simp (maxSteps := 4000000) (disch := omega) only [ah, am, Nat.reduceEqDiff, reduceCtorEq, Nat.reduceAdd, Nat.reduceLeDiff, Nat.reduceMul, Nat.reduceLT, if_true, if_false, true_and, and_true, and_self, Nat.reduceBEq, QOp.loads, boxO, bslO, buildO, cutL, fillV, putL, w20, v20, ht']
    rw [show frameAt l i = (-1, -1) from if_neg fun q => ht q.1]
    exact ⟨e1, rfl⟩
  have ht' : decide (trackOk l) = true := decide_eq_true ht
  have hlen := ht.1; have hok := ht.2.1; have hsum := ht.2.2
  have B := sumLen_bound hok
  have S1 := s.ext e1
  simp (maxSteps := 4000000) (disch := omega) only [ah, am, Nat.reduceEqDiff, reduceCtorEq, Nat.reduceAdd, Nat.reduceLeDiff, Nat.reduceMul, Nat.reduceLT, if_true, if_false, true_and, and_true, and_self, Nat.reduceBEq, QOp.loads, boxO, bslO, buildO, cutL, fillV, putL, w20, v20, ht']
  refine stepC.of (long_ok _ _ _ S1 hlen hok) ?_
  rintro _ H2 ⟨e2, rfl⟩
  simp (maxSteps := 4000000) (disch := omega) only [ah, am, Nat.reduceEqDiff, reduceCtorEq, Nat.reduceAdd, Nat.reduceLeDiff, Nat.reduceMul, Nat.reduceLT, if_true, if_false, true_and, and_true, and_self, Nat.reduceBEq, QOp.loads, boxO, bslO, buildO, cutL, fillV, putL, w20, v20, ht', i64w]
  refine stepC.of (in_ok _ _ _ _) ?_
  rintro _ Hx ⟨hx, rfl⟩; rw [hx]; clear hx Hx
  by_cases hr : 0 ≤ i ∧ i ≤ sumLen l - 1
  rotate_left
  · have hr' : decide (0 ≤ i ∧ i ≤ sumLen l - 1) = false := decide_eq_false hr
    simp (maxSteps := 4000000) (disch := omega) only [ah, am, Nat.reduceEqDiff, reduceCtorEq, Nat.reduceAdd, Nat.reduceLeDiff, Nat.reduceMul, Nat.reduceLT, if_true, if_false, true_and, and_true, and_self, Nat.reduceBEq, QOp.loads, boxO, bslO, buildO, cutL, fillV, putL, w20, v20, ht', hr']
    rw [show frameAt l i = (-1, -1) from if_neg fun q => hr (by omega)]
    exact ⟨e1.trans e2, rfl⟩
  have hr' : decide (0 ≤ i ∧ i ≤ sumLen l - 1) = true := decide_eq_true hr
  have S2 := S1.ext e2
  have R := S2.rulesN
  simp (maxSteps := 4000000) (disch := omega) only [ah, am, Nat.reduceEqDiff, reduceCtorEq, Nat.reduceAdd, Nat.reduceLeDiff, Nat.reduceMul, Nat.reduceLT, if_true, if_false, true_and, and_true, and_self, Nat.reduceBEq, QOp.loads, boxO, bslO, buildO, cutL, fillV, putL, w20, v20, ht', hr', R]
  refine SW_loop_up (fun j E H => E = [(1, .int .i64 (i - sumLen (l.take j))), (19, v), (20, .int .i64 l.length), (21, .int .i64 j)] ∧ Ext H2 H ∧ sumLen (l.take j) ≤ i) l.length 0 (by omega) ⟨by simp [sumLen], Ext.refl _, by simp [sumLen]; omega⟩ ?_
  rintro j E H hj ⟨rfl, e, hle⟩
  have R := (S2.ext e).rulesN
  have W : IntKind.i64.wrap ((j : Int) + 1) = ((j + 1 : Nat) : Int) := i64e (by omega) (by omega)
  simp (maxSteps := 4000000) (disch := omega) only [ah, am, Nat.reduceEqDiff, reduceCtorEq, Nat.reduceAdd, Nat.reduceLeDiff, Nat.reduceMul, Nat.reduceLT, if_true, if_false, true_and, and_true, and_self, Nat.reduceBEq, QOp.loads, boxO, bslO, buildO, cutL, fillV, putL, w20, v20, R]
  refine stepI.split (fun hp => ?_) (fun hp => ?_)
  · have hj' : j < l.length := by omega
    have K := hok _ (List.getElem_mem hj')
    have K2 := K
    simp only [clipOk] at K2
    have T := sumLen_take l j hj'
    have P := (sumLen_bound (l := l.take j) (fun k hk => hok k (List.mem_of_mem_take hk))).1
    simp (maxSteps := 4000000) (disch := omega) only [ah, am, Nat.reduceEqDiff, reduceCtorEq, Nat.reduceAdd, Nat.reduceLeDiff, Nat.reduceMul, Nat.reduceLT, if_true, if_false, true_and, and_true, and_self, Nat.reduceBEq, QOp.loads, boxO, bslO, buildO, cutL, fillV, putL, w20, v20, R, encClip]
    refine stepI.split (fun hq => ?_) (fun hq => ?_)
    · have fo := from_ok (H.more [encClip l[j]]) l[j] (i - sumLen (l.take j)) K (by omega)
      simp only [encClip] at fo
      simp (maxSteps := 4000000) (disch := omega) only [ah, am, Nat.reduceEqDiff, reduceCtorEq, Nat.reduceAdd, Nat.reduceLeDiff, Nat.reduceMul, Nat.reduceLT, if_true, if_false, true_and, and_true, and_self, Nat.reduceBEq, QOp.loads, boxO, bslO, buildO, cutL, fillV, putL, w20, v20, encClip]
      refine stepC.of fo ?_
      rintro _ H3 ⟨e3, rfl⟩
      simp (maxSteps := 4000000) (disch := omega) only [ah, am, Nat.reduceEqDiff, reduceCtorEq, Nat.reduceAdd, Nat.reduceLeDiff, Nat.reduceMul, Nat.reduceLT, if_true, if_false, true_and, and_true, and_self, Nat.reduceBEq, QOp.loads, boxO, bslO, buildO, cutL, fillV, putL, w20, v20]
      refine stepC.of (place_ok _ (fromC l[j] (i - sumLen (l.take j)))) ?_
      rintro _ H4 ⟨e4, rfl⟩
      simp (maxSteps := 4000000) (disch := omega) only [ah, am, Nat.reduceEqDiff, reduceCtorEq, Nat.reduceAdd, Nat.reduceLeDiff, Nat.reduceMul, Nat.reduceLT, if_true, if_false, true_and, and_true, and_self, Nat.reduceBEq, QOp.loads, boxO, bslO, buildO, cutL, fillV, putL, w20, v20]
      have hf : frameOf l i = frameI l[j] (i - sumLen (l.take j)).toNat := by
        have := ex_at l (fun k hk => (hok k hk).wf) j hj' (i - sumLen (l.take j)).toNat (by omega)
        unfold frameOf
        rw [List.getD_eq_getElem?_getD, show i.toNat = (sumLen (l.take j)).toNat + (i - sumLen (l.take j)).toNat by omega, this]; rfl
      have hd : (((i - sumLen (l.take j)).toNat : Nat) : Int) = i - sumLen (l.take j) := by omega
      rw [show frameAt l i = ((frameOf l i).src, (frameOf l i).inn) from if_pos ⟨ht, by omega, by omega⟩, hf]
      simp only [frameI, fromC, hd]
      exact ⟨(((e1.trans e2).trans e).trans (Ext.more _ _)).trans (e3.trans e4), trivial⟩
    · have W2 : IntKind.i64.wrap (i - sumLen (l.take j) - l[j].len) = i - sumLen (l.take (j + 1)) := i64e (by omega) (by omega)
      simp (maxSteps := 4000000) (disch := omega) only [ah, am, Nat.reduceEqDiff, reduceCtorEq, Nat.reduceAdd, Nat.reduceLeDiff, Nat.reduceMul, Nat.reduceLT, if_true, if_false, true_and, and_true, and_self, Nat.reduceBEq, QOp.loads, boxO, bslO, buildO, cutL, fillV, putL, w20, v20, W, W2]
      exact ⟨hj', e.trans (Ext.more _ _), by omega⟩
  · obtain rfl : j = l.length := by omega
    rw [List.take_length] at hle
    omega
end Go.Proofs.Ytknpombiomnkbaa
