import Derived.Test.YtknpombiomnkbaaS5
namespace Go.Proofs.Ytknpombiomnkbaa
open Go Go.Ah
set_option linter.unusedSimpArgs false
set_option linter.unusedVariables false
set_option maxRecDepth 10000
set_option maxHeartbeats 4000000
/-! 38 loop.example/g00066/spec.Roll: parameters 3, live [0, 1, 2], slots [0:track, 1:i, 2:n, 3:track, 4:i, 5:n, 8:out] -/
def c38_0 : List SOper := [⟨some 6, .q (.mv (.c (.slice none 0 0))), none⟩, ⟨some 7, .q (.mv (.c (.bool false))), none⟩]
def c38_1 : List SOper := [⟨some 9, .q (.mv (.t 0)), none⟩, ⟨some 10, .e (.call 55 [(.t 9)]), none⟩, ⟨some 11, .q (.not (.t 10)), none⟩, ⟨some 12, .q (.mv (.t 11)), none⟩, ⟨some 13, .q (.mv (.t 2)), some (12, false)⟩, ⟨some 14, .e (.call 57 [(.t 13)]), some (12, false)⟩, ⟨some 15, .q (.not (.t 14)), some (12, false)⟩, ⟨some 16, .q (.pick (.t 12) (.c (.bool true)) (.t 15)), none⟩, ⟨some 17, .q (.mv (.t 16)), none⟩, ⟨some 18, .q (.mv (.t 0)), some (17, false)⟩, ⟨some 19, .q (.mv (.t 1)), some (17, false)⟩, ⟨some 20, .e (.call 84 [(.t 18), (.t 19)]), some (17, false)⟩, ⟨some 21, .q (.not (.t 20)), some (17, false)⟩, ⟨some 22, .q (.pick (.t 17) (.c (.bool true)) (.t 21)), none⟩, ⟨some 23, .q (.mv (.t 22)), none⟩, ⟨some 24, .q (.mv (.t 0)), some (23, false)⟩, ⟨some 25, .q (.mv (.t 1)), some (23, false)⟩, ⟨some 26, .q (.bin .add (.t 25) (.c (.int .i64 1))), some (23, false)⟩, ⟨some 27, .e (.call 84 [(.t 24), (.t 26)]), some (23, false)⟩, ⟨some 28, .q (.not (.t 27)), some (23, false)⟩, ⟨some 29, .q (.pick (.t 23) (.c (.bool true)) (.t 28)), none⟩]
def c38_2 : List SOper := [⟨some 30, .a (.bsl 0 3 [] []), none⟩, ⟨some 6, .q (.mv (.t 30)), none⟩, ⟨some 7, .q (.mv (.c (.bool false))), none⟩]
def c38_3 : SCode := .seq (.region c38_2 [6, 7]) .ret
def c38_4 : SCode := .cond (.t 29) c38_3 .skip
def c38_5 : SCode := .seq (.region c38_1 [0, 1, 2, 29]) c38_4
def c38_6 : List SOper := [⟨some 31, .a (.bsl 0 3 [] []), none⟩, ⟨some 32, .q (.mv (.t 0)), none⟩, ⟨some 33, .e (.app 24 3 (.t 31) (.t 32)), none⟩, ⟨some 8, .q (.mv (.t 33)), none⟩]
def c38_7 : List SOper := [⟨some 34, .q (.mv (.t 8)), none⟩, ⟨some 35, .q (.mv (.t 1)), none⟩, ⟨some 36, .q (.mv (.t 8)), none⟩, ⟨some 37, .q (.mv (.t 1)), none⟩, ⟨some 38, .q (.ia 3 (.t 36) (.t 37)), none⟩, ⟨some 39, .q (.fa 2 (.t 38)), none⟩, ⟨some 40, .q (.ld (.t 39)), none⟩, ⟨some 41, .q (.mv (.t 2)), none⟩, ⟨some 42, .q (.bin .add (.t 40) (.t 41)), none⟩, ⟨some 43, .q (.ia 3 (.t 34) (.t 35)), none⟩, ⟨some 44, .q (.fa 2 (.t 43)), none⟩, ⟨none, .e (.st 1 (.t 44) (.t 42)), none⟩]
def c38_8 : List SOper := [⟨some 45, .q (.mv (.t 8)), none⟩, ⟨some 46, .q (.mv (.t 1)), none⟩, ⟨some 47, .q (.bin .add (.t 46) (.c (.int .i64 1))), none⟩, ⟨some 48, .q (.mv (.t 8)), none⟩, ⟨some 49, .q (.mv (.t 1)), none⟩, ⟨some 50, .q (.bin .add (.t 49) (.c (.int .i64 1))), none⟩, ⟨some 51, .q (.ia 3 (.t 48) (.t 50)), none⟩, ⟨some 52, .q (.fa 1 (.t 51)), none⟩, ⟨some 53, .q (.ld (.t 52)), none⟩, ⟨some 54, .q (.mv (.t 2)), none⟩, ⟨some 55, .q (.bin .add (.t 53) (.t 54)), none⟩, ⟨some 56, .q (.ia 3 (.t 45) (.t 47)), none⟩, ⟨some 57, .q (.fa 1 (.t 56)), none⟩, ⟨none, .e (.st 1 (.t 57) (.t 55)), none⟩]
def c38_9 : List SOper := [⟨some 58, .q (.mv (.t 8)), none⟩, ⟨some 59, .q (.mv (.t 1)), none⟩, ⟨some 60, .q (.bin .add (.t 59) (.c (.int .i64 1))), none⟩, ⟨some 61, .q (.mv (.t 8)), none⟩, ⟨some 62, .q (.mv (.t 1)), none⟩, ⟨some 63, .q (.bin .add (.t 62) (.c (.int .i64 1))), none⟩, ⟨some 64, .q (.ia 3 (.t 61) (.t 63)), none⟩, ⟨some 65, .q (.fa 2 (.t 64)), none⟩, ⟨some 66, .q (.ld (.t 65)), none⟩, ⟨some 67, .q (.mv (.t 2)), none⟩, ⟨some 68, .q (.bin .sub (.t 66) (.t 67)), none⟩, ⟨some 69, .q (.ia 3 (.t 58) (.t 60)), none⟩, ⟨some 70, .q (.fa 2 (.t 69)), none⟩, ⟨none, .e (.st 1 (.t 70) (.t 68)), none⟩]
def c38_10 : List SOper := [⟨some 71, .q (.mv (.t 8)), none⟩, ⟨some 72, .e (.call 58 [(.t 71)]), none⟩, ⟨some 73, .q (.ext (.t 72) 0), none⟩, ⟨some 74, .q (.ext (.t 72) 1), none⟩, ⟨some 6, .q (.mv (.t 73)), none⟩, ⟨some 7, .q (.mv (.t 74)), none⟩]
def c38_11 : SCode := .seq (.region c38_10 [6, 7]) .ret
def c38_12 : SCode := .seq (.region c38_9 [8]) c38_11
def c38_13 : SCode := .seq (.region c38_8 [1, 2, 8]) c38_12
def c38_14 : SCode := .seq (.region c38_7 [1, 2, 8]) c38_13
def c38_15 : SCode := .seq (.region c38_6 [1, 2, 8]) c38_14
def c38_16 : SCode := .seq c38_5 c38_15
def c38_17 : SCode := .seq (.region c38_0 [0, 1, 2]) c38_16
def c38 : SCode := c38_17
theorem w38 : type_of% (And.intro (uR Try.prog c38_0.eq_1) (And.intro (uR Try.prog c38_1.eq_1) (And.intro (uR Try.prog c38_2.eq_1) (And.intro (uC Try.prog c38_3.eq_1) (And.intro (uC Try.prog c38_4.eq_1) (And.intro (uC Try.prog c38_5.eq_1) (And.intro (uR Try.prog c38_6.eq_1) (And.intro (uR Try.prog c38_7.eq_1) (And.intro (uR Try.prog c38_8.eq_1) (And.intro (uR Try.prog c38_9.eq_1) (And.intro (uR Try.prog c38_10.eq_1) (And.intro (uC Try.prog c38_11.eq_1) (And.intro (uC Try.prog c38_12.eq_1) (And.intro (uC Try.prog c38_13.eq_1) (And.intro (uC Try.prog c38_14.eq_1) (And.intro (uC Try.prog c38_15.eq_1) (And.intro (uC Try.prog c38_16.eq_1) (And.intro (uC Try.prog c38_17.eq_1) (uC Try.prog c38.eq_1))))))))))))))))))) := (And.intro (uR Try.prog c38_0.eq_1) (And.intro (uR Try.prog c38_1.eq_1) (And.intro (uR Try.prog c38_2.eq_1) (And.intro (uC Try.prog c38_3.eq_1) (And.intro (uC Try.prog c38_4.eq_1) (And.intro (uC Try.prog c38_5.eq_1) (And.intro (uR Try.prog c38_6.eq_1) (And.intro (uR Try.prog c38_7.eq_1) (And.intro (uR Try.prog c38_8.eq_1) (And.intro (uR Try.prog c38_9.eq_1) (And.intro (uR Try.prog c38_10.eq_1) (And.intro (uC Try.prog c38_11.eq_1) (And.intro (uC Try.prog c38_12.eq_1) (And.intro (uC Try.prog c38_13.eq_1) (And.intro (uC Try.prog c38_14.eq_1) (And.intro (uC Try.prog c38_15.eq_1) (And.intro (uC Try.prog c38_16.eq_1) (And.intro (uC Try.prog c38_17.eq_1) (uC Try.prog c38.eq_1)))))))))))))))))))
def v38 : List RV := [.t 6, .t 7]
theorem s38 : slimF Try.prog Try.f38 = some (c38.bare, v38) := by kernel_rfl
/-! 42 loop.example/g00066/spec.Slide: parameters 3, live [0, 1, 2], slots [0:track, 1:i, 2:n, 3:track, 4:i, 5:n, 8:out] -/
def c42_0 : List SOper := [⟨some 6, .q (.mv (.c (.slice none 0 0))), none⟩, ⟨some 7, .q (.mv (.c (.bool false))), none⟩]
def c42_1 : List SOper := [⟨some 9, .q (.mv (.t 0)), none⟩, ⟨some 10, .e (.call 55 [(.t 9)]), none⟩, ⟨some 11, .q (.not (.t 10)), none⟩, ⟨some 12, .q (.mv (.t 11)), none⟩, ⟨some 13, .q (.mv (.t 2)), some (12, false)⟩, ⟨some 14, .e (.call 57 [(.t 13)]), some (12, false)⟩, ⟨some 15, .q (.not (.t 14)), some (12, false)⟩, ⟨some 16, .q (.pick (.t 12) (.c (.bool true)) (.t 15)), none⟩, ⟨some 17, .q (.mv (.t 16)), none⟩, ⟨some 18, .q (.mv (.t 1)), some (17, false)⟩, ⟨some 19, .q (.bin .lss (.t 18) (.c (.int .i64 1))), some (17, false)⟩, ⟨some 20, .q (.pick (.t 17) (.c (.bool true)) (.t 19)), none⟩, ⟨some 21, .q (.mv (.t 20)), none⟩, ⟨some 22, .q (.mv (.t 0)), some (21, false)⟩, ⟨some 23, .q (.mv (.t 1)), some (21, false)⟩, ⟨some 24, .e (.call 84 [(.t 22), (.t 23)]), some (21, false)⟩, ⟨some 25, .q (.not (.t 24)), some (21, false)⟩, ⟨some 26, .q (.pick (.t 21) (.c (.bool true)) (.t 25)), none⟩, ⟨some 27, .q (.mv (.t 26)), none⟩, ⟨some 28, .q (.mv (.t 0)), some (27, false)⟩, ⟨some 29, .q (.mv (.t 1)), some (27, false)⟩, ⟨some 30, .q (.bin .sub (.t 29) (.c (.int .i64 1))), some (27, false)⟩, ⟨some 31, .e (.call 84 [(.t 28), (.t 30)]), some (27, false)⟩, ⟨some 32, .q (.not (.t 31)), some (27, false)⟩, ⟨some 33, .q (.pick (.t 27) (.c (.bool true)) (.t 32)), none⟩, ⟨some 34, .q (.mv (.t 33)), none⟩, ⟨some 35, .q (.mv (.t 0)), some (34, false)⟩, ⟨some 36, .q (.mv (.t 1)), some (34, false)⟩, ⟨some 37, .q (.bin .add (.t 36) (.c (.int .i64 1))), some (34, false)⟩, ⟨some 38, .e (.call 84 [(.t 35), (.t 37)]), some (34, false)⟩, ⟨some 39, .q (.not (.t 38)), some (34, false)⟩, ⟨some 40, .q (.pick (.t 34) (.c (.bool true)) (.t 39)), none⟩]
def c42_2 : List SOper := [⟨some 41, .a (.bsl 0 3 [] []), none⟩, ⟨some 6, .q (.mv (.t 41)), none⟩, ⟨some 7, .q (.mv (.c (.bool false))), none⟩]
def c42_3 : SCode := .seq (.region c42_2 [6, 7]) .ret
def c42_4 : SCode := .cond (.t 40) c42_3 .skip
def c42_5 : SCode := .seq (.region c42_1 [0, 1, 2, 40]) c42_4
def c42_6 : List SOper := [⟨some 42, .a (.bsl 0 3 [] []), none⟩, ⟨some 43, .q (.mv (.t 0)), none⟩, ⟨some 44, .e (.app 24 3 (.t 42) (.t 43)), none⟩, ⟨some 8, .q (.mv (.t 44)), none⟩]
def c42_7 : List SOper := [⟨some 45, .q (.mv (.t 8)), none⟩, ⟨some 46, .q (.mv (.t 1)), none⟩, ⟨some 47, .q (.bin .sub (.t 46) (.c (.int .i64 1))), none⟩, ⟨some 48, .q (.mv (.t 8)), none⟩, ⟨some 49, .q (.mv (.t 1)), none⟩, ⟨some 50, .q (.bin .sub (.t 49) (.c (.int .i64 1))), none⟩, ⟨some 51, .q (.ia 3 (.t 48) (.t 50)), none⟩, ⟨some 52, .q (.fa 2 (.t 51)), none⟩, ⟨some 53, .q (.ld (.t 52)), none⟩, ⟨some 54, .q (.mv (.t 2)), none⟩, ⟨some 55, .q (.bin .add (.t 53) (.t 54)), none⟩, ⟨some 56, .q (.ia 3 (.t 45) (.t 47)), none⟩, ⟨some 57, .q (.fa 2 (.t 56)), none⟩, ⟨none, .e (.st 1 (.t 57) (.t 55)), none⟩]
def c42_8 : List SOper := [⟨some 58, .q (.mv (.t 8)), none⟩, ⟨some 59, .q (.mv (.t 1)), none⟩, ⟨some 60, .q (.bin .add (.t 59) (.c (.int .i64 1))), none⟩, ⟨some 61, .q (.mv (.t 8)), none⟩, ⟨some 62, .q (.mv (.t 1)), none⟩, ⟨some 63, .q (.bin .add (.t 62) (.c (.int .i64 1))), none⟩, ⟨some 64, .q (.ia 3 (.t 61) (.t 63)), none⟩, ⟨some 65, .q (.fa 1 (.t 64)), none⟩, ⟨some 66, .q (.ld (.t 65)), none⟩, ⟨some 67, .q (.mv (.t 2)), none⟩, ⟨some 68, .q (.bin .add (.t 66) (.t 67)), none⟩, ⟨some 69, .q (.ia 3 (.t 58) (.t 60)), none⟩, ⟨some 70, .q (.fa 1 (.t 69)), none⟩, ⟨none, .e (.st 1 (.t 70) (.t 68)), none⟩]
def c42_9 : List SOper := [⟨some 71, .q (.mv (.t 8)), none⟩, ⟨some 72, .q (.mv (.t 1)), none⟩, ⟨some 73, .q (.bin .add (.t 72) (.c (.int .i64 1))), none⟩, ⟨some 74, .q (.mv (.t 8)), none⟩, ⟨some 75, .q (.mv (.t 1)), none⟩, ⟨some 76, .q (.bin .add (.t 75) (.c (.int .i64 1))), none⟩, ⟨some 77, .q (.ia 3 (.t 74) (.t 76)), none⟩, ⟨some 78, .q (.fa 2 (.t 77)), none⟩, ⟨some 79, .q (.ld (.t 78)), none⟩, ⟨some 80, .q (.mv (.t 2)), none⟩, ⟨some 81, .q (.bin .sub (.t 79) (.t 80)), none⟩, ⟨some 82, .q (.ia 3 (.t 71) (.t 73)), none⟩, ⟨some 83, .q (.fa 2 (.t 82)), none⟩, ⟨none, .e (.st 1 (.t 83) (.t 81)), none⟩]
def c42_10 : List SOper := [⟨some 84, .q (.mv (.t 8)), none⟩, ⟨some 85, .e (.call 58 [(.t 84)]), none⟩, ⟨some 86, .q (.ext (.t 85) 0), none⟩, ⟨some 87, .q (.ext (.t 85) 1), none⟩, ⟨some 6, .q (.mv (.t 86)), none⟩, ⟨some 7, .q (.mv (.t 87)), none⟩]
def c42_11 : SCode := .seq (.region c42_10 [6, 7]) .ret
def c42_12 : SCode := .seq (.region c42_9 [8]) c42_11
def c42_13 : SCode := .seq (.region c42_8 [1, 2, 8]) c42_12
def c42_14 : SCode := .seq (.region c42_7 [1, 2, 8]) c42_13
def c42_15 : SCode := .seq (.region c42_6 [1, 2, 8]) c42_14
def c42_16 : SCode := .seq c42_5 c42_15
def c42_17 : SCode := .seq (.region c42_0 [0, 1, 2]) c42_16
def c42 : SCode := c42_17
theorem w42 : type_of% (And.intro (uR Try.prog c42_0.eq_1) (And.intro (uR Try.prog c42_1.eq_1) (And.intro (uR Try.prog c42_2.eq_1) (And.intro (uC Try.prog c42_3.eq_1) (And.intro (uC Try.prog c42_4.eq_1) (And.intro (uC Try.prog c42_5.eq_1) (And.intro (uR Try.prog c42_6.eq_1) (And.intro (uR Try.prog c42_7.eq_1) (And.intro (uR Try.prog c42_8.eq_1) (And.intro (uR Try.prog c42_9.eq_1) (And.intro (uR Try.prog c42_10.eq_1) (And.intro (uC Try.prog c42_11.eq_1) (And.intro (uC Try.prog c42_12.eq_1) (And.intro (uC Try.prog c42_13.eq_1) (And.intro (uC Try.prog c42_14.eq_1) (And.intro (uC Try.prog c42_15.eq_1) (And.intro (uC Try.prog c42_16.eq_1) (And.intro (uC Try.prog c42_17.eq_1) (uC Try.prog c42.eq_1))))))))))))))))))) := (And.intro (uR Try.prog c42_0.eq_1) (And.intro (uR Try.prog c42_1.eq_1) (And.intro (uR Try.prog c42_2.eq_1) (And.intro (uC Try.prog c42_3.eq_1) (And.intro (uC Try.prog c42_4.eq_1) (And.intro (uC Try.prog c42_5.eq_1) (And.intro (uR Try.prog c42_6.eq_1) (And.intro (uR Try.prog c42_7.eq_1) (And.intro (uR Try.prog c42_8.eq_1) (And.intro (uR Try.prog c42_9.eq_1) (And.intro (uR Try.prog c42_10.eq_1) (And.intro (uC Try.prog c42_11.eq_1) (And.intro (uC Try.prog c42_12.eq_1) (And.intro (uC Try.prog c42_13.eq_1) (And.intro (uC Try.prog c42_14.eq_1) (And.intro (uC Try.prog c42_15.eq_1) (And.intro (uC Try.prog c42_16.eq_1) (And.intro (uC Try.prog c42_17.eq_1) (uC Try.prog c42.eq_1)))))))))))))))))))
def v42 : List RV := [.t 6, .t 7]
theorem s42 : slimF Try.prog Try.f42 = some (c42.bare, v42) := by kernel_rfl

/-- The end of one clip and the begin of another one moved. -/
def moveF (l : List Clip) (a b n : Int) : List Clip × Bool :=
  if trackOk l ∧ (-10000000 ≤ n ∧ n ≤ 10000000) ∧ realAt l a ∧ realAt l b then
    editF ((l.set a.toNat ⟨(cAt l a).src, (cAt l a).inn, (cAt l a).len + n⟩).set b.toNat ⟨(cAt l b).src, (cAt l b).inn + n, (cAt l b).len - n⟩)
  else ([], false)
def slideF (l : List Clip) (i n : Int) : List Clip × Bool := if 1 ≤ i ∧ realAt l i then moveF l (i - 1) (i + 1) n else ([], false)
theorem specRoll_ok (h : Heap) (v : Value) (l : List Clip) (i n : Int) (s : SlT h encClip 3 v l) (hl : l.length ≤ 1100000) :
    ACall Try.prog 38 [v, .int .i64 i, .int .i64 n] h fun r h' => Pair h h' r (moveF l i (i + 1) n) := by
  refine ACall.of Try.func38 s38 (of_decide_eq_true rfl) ?_
  simp (maxSteps := 4000000) (disch := omega) only [ah, am, Nat.reduceEqDiff, reduceCtorEq, Nat.reduceAdd, Nat.reduceLeDiff, Nat.reduceMul, Nat.reduceLT, if_true, if_false, true_and, and_true, and_self, Nat.reduceBEq, QOp.loads, boxO, bslO, buildO, cutL, fillV, putL, w38, v38]
  refine stepC.of (TrackOk_ok _ _ _ s (by omega)) ?_
  rintro _ H1 ⟨e1, rfl⟩
  have S1 := s.ext e1
  by_cases hc : trackOk l ∧ (-10000000 ≤ n ∧ n ≤ 10000000) ∧ realAt l i ∧ realAt l (i + 1)
  · obtain ⟨ht, hn, hr, hr2⟩ := hc
    have hi : 0 ≤ i ∧ i + 1 < l.length := ⟨hr.1, hr2.2.1⟩
    have hi300 := ht.1
    have hia : i.toNat < l.length := by omega
    have hib : (i + 1).toNat < l.length := by omega
    have hne : i.toNat ≠ (i + 1).toNat := by omega
    have C := cAt_eq l i hia
    have C2 := cAt_eq l (i + 1) hib
    have K := ht.2.1 _ (List.getElem_mem hia)
    have K2 := ht.2.1 _ (List.getElem_mem hib)
    rw [← C] at K; rw [← C2] at K2
    obtain ⟨v2, H2, ea, F2⟩ := (Fresh.new0 H1 encClip_len (by omega)).app (S1.ext (Ext.more H1 [[]])) (bytes := 24) (by simp; omega)
    rw [List.nil_append] at F2
    have R2 := F2.slt.rules
    have E2 : encClip l[i.toNat] = [.int .i64 (cAt l i).src, .int .i64 (cAt l i).inn, .int .i64 (cAt l i).len] := by rw [← C]; rfl
    have E3 : encClip l[(i + 1).toNat] = [.int .i64 (cAt l (i + 1)).src, .int .i64 (cAt l (i + 1)).inn, .int .i64 (cAt l (i + 1)).len] := by rw [← C2]; rfl
    obtain ⟨H3, es, F3, -⟩ := F2.setF (j := i.toNat) (f := 2) (n := 1) hia (x := ⟨(cAt l i).src, (cAt l i).inn, (cAt l i).len + n⟩) (y := .int .i64 ((cAt l i).len + n)) (by rw [E2]; simp [encClip, splice, cells_int]) (by omega) rfl (by omega) rfl
    have R3 := F3.slt.rules
    simp only [List.length_set] at R3
    have E4 : encClip ((l.set i.toNat ⟨(cAt l i).src, (cAt l i).inn, (cAt l i).len + n⟩)[(i + 1).toNat]'(by simpa using hib)) = [.int .i64 (cAt l (i + 1)).src, .int .i64 (cAt l (i + 1)).inn, .int .i64 (cAt l (i + 1)).len] := by
      rw [List.getElem_set_ne hne]; exact E3
    obtain ⟨H4, es2, F4, -⟩ := F3.setF (j := (i + 1).toNat) (f := 1) (n := 1) (by simpa using hib) (x := ⟨(cAt l (i + 1)).src, (cAt l (i + 1)).inn + n, (cAt l (i + 1)).len⟩) (y := .int .i64 ((cAt l (i + 1)).inn + n)) (by rw [E4]; simp [encClip, splice, cells_int]) (by omega) rfl (by omega) rfl
    have R4 := F4.slt.rules
    simp only [List.length_set] at R4
    obtain ⟨H5, es3, F5, -⟩ := F4.setF (j := (i + 1).toNat) (f := 2) (n := 1) (by simpa using hib) (x := ⟨(cAt l (i + 1)).src, (cAt l (i + 1)).inn + n, (cAt l (i + 1)).len - n⟩) (y := .int .i64 ((cAt l (i + 1)).len - n)) (by rw [List.getElem_set_self]; simp [encClip, splice, cells_int]) (by omega) rfl (by omega) rfl
    rw [List.set_set] at F5
    have hT : moveF l i (i + 1) n = editF ((l.set i.toNat ⟨(cAt l i).src, (cAt l i).inn, (cAt l i).len + n⟩).set (i + 1).toNat ⟨(cAt l (i + 1)).src, (cAt l (i + 1)).inn + n, (cAt l (i + 1)).len - n⟩) := if_pos ⟨ht, hn, hr, hr2⟩
    have g2 : ∀ hj : i.toNat < l.length, encClip (l[i.toNat]'hj) = [.int .i64 (cAt l i).src, .int .i64 (cAt l i).inn, .int .i64 (cAt l i).len] := fun _ => E2
    have g4 : ∀ hj : (i + 1).toNat < (l.set i.toNat ⟨(cAt l i).src, (cAt l i).inn, (cAt l i).len + n⟩).length, encClip ((l.set i.toNat ⟨(cAt l i).src, (cAt l i).inn, (cAt l i).len + n⟩)[(i + 1).toNat]'hj) = [.int .i64 (cAt l (i + 1)).src, .int .i64 (cAt l (i + 1)).inn, .int .i64 (cAt l (i + 1)).len] := fun _ => E4
    have g5 : encClip ⟨(cAt l (i + 1)).src, (cAt l (i + 1)).inn + n, (cAt l (i + 1)).len⟩ = [.int .i64 (cAt l (i + 1)).src, .int .i64 ((cAt l (i + 1)).inn + n), .int .i64 (cAt l (i + 1)).len] := rfl
    simp only [clipOk] at K K2
    simp only [ht, decide_true]
    simp (maxSteps := 4000000) (disch := omega) only [ah, am, Nat.reduceEqDiff, reduceCtorEq, Nat.reduceAdd, Nat.reduceLeDiff, Nat.reduceMul, Nat.reduceLT, if_true, if_false, true_and, and_true, and_self, Nat.reduceBEq, QOp.loads, boxO, bslO, buildO, cutL, fillV, putL, w38, v38, i64w]
    refine stepC.of (l4By_ok _ _) ?_
    rintro _ _ ⟨rfl, rfl⟩
    simp (maxSteps := 4000000) (disch := omega) only [ah, am, Nat.reduceEqDiff, reduceCtorEq, Nat.reduceAdd, Nat.reduceLeDiff, Nat.reduceMul, Nat.reduceLT, if_true, if_false, true_and, and_true, and_self, Nat.reduceBEq, QOp.loads, boxO, bslO, buildO, cutL, fillV, putL, w38, v38, i64w, hn]
    refine stepC.of (l4Real_ok _ _ _ _ S1 hl) ?_
    rintro _ _ ⟨rfl, rfl⟩
    simp (maxSteps := 4000000) (disch := omega) only [ah, am, Nat.reduceEqDiff, reduceCtorEq, Nat.reduceAdd, Nat.reduceLeDiff, Nat.reduceMul, Nat.reduceLT, if_true, if_false, true_and, and_true, and_self, Nat.reduceBEq, QOp.loads, boxO, bslO, buildO, cutL, fillV, putL, w38, v38, i64w, hr]
    refine stepC.of (l4Real_ok _ _ _ _ S1 hl) ?_
    rintro _ _ ⟨rfl, rfl⟩
    simp (maxSteps := 4000000) (disch := omega) only [ah, am, Nat.reduceEqDiff, reduceCtorEq, Nat.reduceAdd, Nat.reduceLeDiff, Nat.reduceMul, Nat.reduceLT, if_true, if_false, true_and, and_true, and_self, Nat.reduceBEq, QOp.loads, boxO, bslO, buildO, cutL, fillV, putL, w38, v38, i64w, hr2, ea, R2, es, g2, R3, es2, g4, R4, es3, List.getElem_set_self, g5]
    refine stepC.of (l4Edit_ok _ _ _ F5.slt (by simpa using hl)) ?_
    rintro _ H6 ⟨rv, rfl, F6⟩
    simp (maxSteps := 4000000) (disch := omega) only [ah, am, Nat.reduceEqDiff, reduceCtorEq, Nat.reduceAdd, Nat.reduceLeDiff, Nat.reduceMul, Nat.reduceLT, if_true, if_false, true_and, and_true, and_self, Nat.reduceBEq, QOp.loads, boxO, bslO, buildO, cutL, fillV, putL, w38, v38]
    rw [hT]
    exact ⟨rv, rfl, F6.mono (e1.trans F5.1)⟩
  · have hT : moveF l i (i + 1) n = ([], false) := if_neg hc
    rw [hT]
    by_cases hr : realAt l i
    · have hlen : i < l.length := hr.2.1
      have h0 := hr.1
      have hr' : decide (realAt l i) = true := decide_eq_true hr
      simp (maxSteps := 4000000) (disch := omega) only [ah, am, Nat.reduceEqDiff, reduceCtorEq, Nat.reduceAdd, Nat.reduceLeDiff, Nat.reduceMul, Nat.reduceLT, if_true, if_false, true_and, and_true, and_self, Nat.reduceBEq, QOp.loads, boxO, bslO, buildO, cutL, fillV, putL, w38, v38, hr']
      (repeat' first
    | (refine stepC.of (l4By_ok _ _) ?_; rintro _ _ ⟨rfl, rfl⟩; simp (maxSteps := 4000000) (disch := omega) only [ah, am, Nat.reduceEqDiff, reduceCtorEq, Nat.reduceAdd, Nat.reduceLeDiff, Nat.reduceMul, Nat.reduceLT, if_true, if_false, true_and, and_true, and_self, Nat.reduceBEq, QOp.loads, boxO, bslO, buildO, cutL, fillV, putL, i64w, w38, v38, hr'])
    | (refine stepC.of (l4Real_ok _ _ _ _ S1 hl) ?_; rintro _ _ ⟨rfl, rfl⟩; simp (maxSteps := 4000000) (disch := omega) only [ah, am, Nat.reduceEqDiff, reduceCtorEq, Nat.reduceAdd, Nat.reduceLeDiff, Nat.reduceMul, Nat.reduceLT, if_true, if_false, true_and, and_true, and_self, Nat.reduceBEq, QOp.loads, boxO, bslO, buildO, cutL, fillV, putL, i64w, w38, v38, hr'])
    | (refine stepG.cases (fun _ hp => ?_) (fun _ hp => ?_) <;> simp (maxSteps := 4000000) (disch := omega) only [hp, ah, am, Nat.reduceEqDiff, reduceCtorEq, Nat.reduceAdd, Nat.reduceLeDiff, Nat.reduceMul, Nat.reduceLT, if_true, if_false, true_and, and_true, and_self, Nat.reduceBEq, QOp.loads, boxO, bslO, buildO, cutL, fillV, putL, i64w, w38, v38, hr'])
    | (refine stepI.cases (fun _ hp => ?_) (fun _ hp => ?_) <;> simp (maxSteps := 4000000) (disch := omega) only [hp, ah, am, Nat.reduceEqDiff, reduceCtorEq, Nat.reduceAdd, Nat.reduceLeDiff, Nat.reduceMul, Nat.reduceLT, if_true, if_false, true_and, and_true, and_self, Nat.reduceBEq, QOp.loads, boxO, bslO, buildO, cutL, fillV, putL, i64w, w38, v38, hr']))
      all_goals first
        | exact ⟨_, rfl, (Fresh.new0 _ encClip_len (by omega)).mono e1⟩
        | exact (hc ⟨by assumption, by assumption, by assumption, by assumption⟩).elim
    · have hr' : decide (realAt l i) = false := decide_eq_false hr
      simp (maxSteps := 4000000) (disch := omega) only [ah, am, Nat.reduceEqDiff, reduceCtorEq, Nat.reduceAdd, Nat.reduceLeDiff, Nat.reduceMul, Nat.reduceLT, if_true, if_false, true_and, and_true, and_self, Nat.reduceBEq, QOp.loads, boxO, bslO, buildO, cutL, fillV, putL, w38, v38, hr']
      (repeat' first
    | (refine stepC.of (l4By_ok _ _) ?_; rintro _ _ ⟨rfl, rfl⟩; simp (maxSteps := 4000000) (disch := omega) only [ah, am, Nat.reduceEqDiff, reduceCtorEq, Nat.reduceAdd, Nat.reduceLeDiff, Nat.reduceMul, Nat.reduceLT, if_true, if_false, true_and, and_true, and_self, Nat.reduceBEq, QOp.loads, boxO, bslO, buildO, cutL, fillV, putL, i64w, w38, v38, hr'])
    | (refine stepC.of (l4Real_ok _ _ _ _ S1 hl) ?_; rintro _ _ ⟨rfl, rfl⟩; simp (maxSteps := 4000000) (disch := omega) only [ah, am, Nat.reduceEqDiff, reduceCtorEq, Nat.reduceAdd, Nat.reduceLeDiff, Nat.reduceMul, Nat.reduceLT, if_true, if_false, true_and, and_true, and_self, Nat.reduceBEq, QOp.loads, boxO, bslO, buildO, cutL, fillV, putL, i64w, w38, v38, hr'])
    | (refine stepG.cases (fun _ hp => ?_) (fun _ hp => ?_) <;> simp (maxSteps := 4000000) (disch := omega) only [hp, ah, am, Nat.reduceEqDiff, reduceCtorEq, Nat.reduceAdd, Nat.reduceLeDiff, Nat.reduceMul, Nat.reduceLT, if_true, if_false, true_and, and_true, and_self, Nat.reduceBEq, QOp.loads, boxO, bslO, buildO, cutL, fillV, putL, i64w, w38, v38, hr'])
    | (refine stepI.cases (fun _ hp => ?_) (fun _ hp => ?_) <;> simp (maxSteps := 4000000) (disch := omega) only [hp, ah, am, Nat.reduceEqDiff, reduceCtorEq, Nat.reduceAdd, Nat.reduceLeDiff, Nat.reduceMul, Nat.reduceLT, if_true, if_false, true_and, and_true, and_self, Nat.reduceBEq, QOp.loads, boxO, bslO, buildO, cutL, fillV, putL, i64w, w38, v38, hr']))
      all_goals exact ⟨_, rfl, (Fresh.new0 _ encClip_len (by omega)).mono e1⟩
theorem specSlide_ok (h : Heap) (v : Value) (l : List Clip) (i n : Int) (s : SlT h encClip 3 v l) (hl : l.length ≤ 1100000) :
    ACall Try.prog 42 [v, .int .i64 i, .int .i64 n] h fun r h' => Pair h h' r (slideF l i n) := by
  refine ACall.of Try.func42 s42 (of_decide_eq_true rfl) ?_
  simp (maxSteps := 4000000) (disch := omega) only [ah, am, Nat.reduceEqDiff, reduceCtorEq, Nat.reduceAdd, Nat.reduceLeDiff, Nat.reduceMul, Nat.reduceLT, if_true, if_false, true_and, and_true, and_self, Nat.reduceBEq, QOp.loads, boxO, bslO, buildO, cutL, fillV, putL, w42, v42]
  refine stepC.of (TrackOk_ok _ _ _ s (by omega)) ?_
  rintro _ H1 ⟨e1, rfl⟩
  have S1 := s.ext e1
  by_cases hc : (1 ≤ i ∧ realAt l i) ∧ trackOk l ∧ (-10000000 ≤ n ∧ n ≤ 10000000) ∧ realAt l (i - 1) ∧ realAt l (i + 1)
  · obtain ⟨⟨h1i, hr1⟩, ht, hn, hr, hr2⟩ := hc
    have hi : 0 ≤ i - 1 ∧ i + 1 < l.length := ⟨hr.1, hr2.2.1⟩
    have hi300 := ht.1
    have hia : (i - 1).toNat < l.length := by omega
    have hib : (i + 1).toNat < l.length := by omega
    have hne : (i - 1).toNat ≠ (i + 1).toNat := by omega
    have C := cAt_eq l (i - 1) hia
    have C2 := cAt_eq l (i + 1) hib
    have K := ht.2.1 _ (List.getElem_mem hia)
    have K2 := ht.2.1 _ (List.getElem_mem hib)
    rw [← C] at K; rw [← C2] at K2
    obtain ⟨v2, H2, ea, F2⟩ := (Fresh.new0 H1 encClip_len (by omega)).app (S1.ext (Ext.more H1 [[]])) (bytes := 24) (by simp; omega)
    rw [List.nil_append] at F2
    have R2 := F2.slt.rules
    have E2 : encClip l[(i - 1).toNat] = [.int .i64 (cAt l (i - 1)).src, .int .i64 (cAt l (i - 1)).inn, .int .i64 (cAt l (i - 1)).len] := by rw [← C]; rfl
    have E3 : encClip l[(i + 1).toNat] = [.int .i64 (cAt l (i + 1)).src, .int .i64 (cAt l (i + 1)).inn, .int .i64 (cAt l (i + 1)).len] := by rw [← C2]; rfl
    obtain ⟨H3, es, F3, -⟩ := F2.setF (j := (i - 1).toNat) (f := 2) (n := 1) hia (x := ⟨(cAt l (i - 1)).src, (cAt l (i - 1)).inn, (cAt l (i - 1)).len + n⟩) (y := .int .i64 ((cAt l (i - 1)).len + n)) (by rw [E2]; simp [encClip, splice, cells_int]) (by omega) rfl (by omega) rfl
    have R3 := F3.slt.rules
    simp only [List.length_set] at R3
    have E4 : encClip ((l.set (i - 1).toNat ⟨(cAt l (i - 1)).src, (cAt l (i - 1)).inn, (cAt l (i - 1)).len + n⟩)[(i + 1).toNat]'(by simpa using hib)) = [.int .i64 (cAt l (i + 1)).src, .int .i64 (cAt l (i + 1)).inn, .int .i64 (cAt l (i + 1)).len] := by
      rw [List.getElem_set_ne hne]; exact E3
    obtain ⟨H4, es2, F4, -⟩ := F3.setF (j := (i + 1).toNat) (f := 1) (n := 1) (by simpa using hib) (x := ⟨(cAt l (i + 1)).src, (cAt l (i + 1)).inn + n, (cAt l (i + 1)).len⟩) (y := .int .i64 ((cAt l (i + 1)).inn + n)) (by rw [E4]; simp [encClip, splice, cells_int]) (by omega) rfl (by omega) rfl
    have R4 := F4.slt.rules
    simp only [List.length_set] at R4
    obtain ⟨H5, es3, F5, -⟩ := F4.setF (j := (i + 1).toNat) (f := 2) (n := 1) (by simpa using hib) (x := ⟨(cAt l (i + 1)).src, (cAt l (i + 1)).inn + n, (cAt l (i + 1)).len - n⟩) (y := .int .i64 ((cAt l (i + 1)).len - n)) (by rw [List.getElem_set_self]; simp [encClip, splice, cells_int]) (by omega) rfl (by omega) rfl
    rw [List.set_set] at F5
    have hT : slideF l i n = editF ((l.set (i - 1).toNat ⟨(cAt l (i - 1)).src, (cAt l (i - 1)).inn, (cAt l (i - 1)).len + n⟩).set (i + 1).toNat ⟨(cAt l (i + 1)).src, (cAt l (i + 1)).inn + n, (cAt l (i + 1)).len - n⟩) := by
      unfold slideF; rw [if_pos ⟨h1i, hr1⟩]; exact if_pos ⟨ht, hn, hr, hr2⟩
    have g2 : ∀ hj : (i - 1).toNat < l.length, encClip (l[(i - 1).toNat]'hj) = [.int .i64 (cAt l (i - 1)).src, .int .i64 (cAt l (i - 1)).inn, .int .i64 (cAt l (i - 1)).len] := fun _ => E2
    have g4 : ∀ hj : (i + 1).toNat < (l.set (i - 1).toNat ⟨(cAt l (i - 1)).src, (cAt l (i - 1)).inn, (cAt l (i - 1)).len + n⟩).length, encClip ((l.set (i - 1).toNat ⟨(cAt l (i - 1)).src, (cAt l (i - 1)).inn, (cAt l (i - 1)).len + n⟩)[(i + 1).toNat]'hj) = [.int .i64 (cAt l (i + 1)).src, .int .i64 (cAt l (i + 1)).inn, .int .i64 (cAt l (i + 1)).len] := fun _ => E4
    have g5 : encClip ⟨(cAt l (i + 1)).src, (cAt l (i + 1)).inn + n, (cAt l (i + 1)).len⟩ = [.int .i64 (cAt l (i + 1)).src, .int .i64 ((cAt l (i + 1)).inn + n), .int .i64 (cAt l (i + 1)).len] := rfl
    have h1d : decide (i < 1) = false := decide_eq_false (by omega)
    simp only [clipOk] at K K2
    simp only [ht, decide_true]
    simp (maxSteps := 4000000) (disch := omega) only [ah, am, Nat.reduceEqDiff, reduceCtorEq, Nat.reduceAdd, Nat.reduceLeDiff, Nat.reduceMul, Nat.reduceLT, if_true, if_false, true_and, and_true, and_self, Nat.reduceBEq, QOp.loads, boxO, bslO, buildO, cutL, fillV, putL, w42, v42, i64w]
    refine stepC.of (l4By_ok _ _) ?_
    rintro _ _ ⟨rfl, rfl⟩
    simp (maxSteps := 4000000) (disch := omega) only [ah, am, Nat.reduceEqDiff, reduceCtorEq, Nat.reduceAdd, Nat.reduceLeDiff, Nat.reduceMul, Nat.reduceLT, if_true, if_false, true_and, and_true, and_self, Nat.reduceBEq, QOp.loads, boxO, bslO, buildO, cutL, fillV, putL, w42, v42, i64w, hn, h1d]
    refine stepC.of (l4Real_ok _ _ _ _ S1 hl) ?_
    rintro _ _ ⟨rfl, rfl⟩
    simp (maxSteps := 4000000) (disch := omega) only [ah, am, Nat.reduceEqDiff, reduceCtorEq, Nat.reduceAdd, Nat.reduceLeDiff, Nat.reduceMul, Nat.reduceLT, if_true, if_false, true_and, and_true, and_self, Nat.reduceBEq, QOp.loads, boxO, bslO, buildO, cutL, fillV, putL, w42, v42, i64w, hr1, h1d]
    refine stepC.of (l4Real_ok _ _ _ _ S1 hl) ?_
    rintro _ _ ⟨rfl, rfl⟩
    simp (maxSteps := 4000000) (disch := omega) only [ah, am, Nat.reduceEqDiff, reduceCtorEq, Nat.reduceAdd, Nat.reduceLeDiff, Nat.reduceMul, Nat.reduceLT, if_true, if_false, true_and, and_true, and_self, Nat.reduceBEq, QOp.loads, boxO, bslO, buildO, cutL, fillV, putL, w42, v42, i64w, hr, h1d]
    refine stepC.of (l4Real_ok _ _ _ _ S1 hl) ?_
    rintro _ _ ⟨rfl, rfl⟩
    simp (maxSteps := 4000000) (disch := omega) only [ah, am, Nat.reduceEqDiff, reduceCtorEq, Nat.reduceAdd, Nat.reduceLeDiff, Nat.reduceMul, Nat.reduceLT, if_true, if_false, true_and, and_true, and_self, Nat.reduceBEq, QOp.loads, boxO, bslO, buildO, cutL, fillV, putL, w42, v42, i64w, hr2, ea, R2, es, g2, R3, es2, g4, R4, es3, List.getElem_set_self, g5]
    refine stepC.of (l4Edit_ok _ _ _ F5.slt (by simpa using hl)) ?_
    rintro _ H6 ⟨rv, rfl, F6⟩
    simp (maxSteps := 4000000) (disch := omega) only [ah, am, Nat.reduceEqDiff, reduceCtorEq, Nat.reduceAdd, Nat.reduceLeDiff, Nat.reduceMul, Nat.reduceLT, if_true, if_false, true_and, and_true, and_self, Nat.reduceBEq, QOp.loads, boxO, bslO, buildO, cutL, fillV, putL, w42, v42]
    rw [hT]
    exact ⟨rv, rfl, F6.mono (e1.trans F5.1)⟩
  · have hT : slideF l i n = ([], false) := by
      unfold slideF; split
      · rename_i q; exact if_neg fun q2 => hc ⟨q, q2⟩
      · rfl
    rw [hT]
    by_cases hr : realAt l i
    · have hlen : i < l.length := hr.2.1
      have h0 := hr.1
      have hr' : decide (realAt l i) = true := decide_eq_true hr
      simp (maxSteps := 4000000) (disch := omega) only [ah, am, Nat.reduceEqDiff, reduceCtorEq, Nat.reduceAdd, Nat.reduceLeDiff, Nat.reduceMul, Nat.reduceLT, if_true, if_false, true_and, and_true, and_self, Nat.reduceBEq, QOp.loads, boxO, bslO, buildO, cutL, fillV, putL, w42, v42, hr']
      (repeat' first
    | (refine stepC.of (l4By_ok _ _) ?_; rintro _ _ ⟨rfl, rfl⟩; simp (maxSteps := 4000000) (disch := omega) only [ah, am, Nat.reduceEqDiff, reduceCtorEq, Nat.reduceAdd, Nat.reduceLeDiff, Nat.reduceMul, Nat.reduceLT, if_true, if_false, true_and, and_true, and_self, Nat.reduceBEq, QOp.loads, boxO, bslO, buildO, cutL, fillV, putL, i64w, w42, v42, hr'])
    | (refine stepC.of (l4Real_ok _ _ _ _ S1 hl) ?_; rintro _ _ ⟨rfl, rfl⟩; simp (maxSteps := 4000000) (disch := omega) only [ah, am, Nat.reduceEqDiff, reduceCtorEq, Nat.reduceAdd, Nat.reduceLeDiff, Nat.reduceMul, Nat.reduceLT, if_true, if_false, true_and, and_true, and_self, Nat.reduceBEq, QOp.loads, boxO, bslO, buildO, cutL, fillV, putL, i64w, w42, v42, hr'])
    | (refine stepG.cases (fun _ hp => ?_) (fun _ hp => ?_) <;> simp (maxSteps := 4000000) (disch := omega) only [hp, ah, am, Nat.reduceEqDiff, reduceCtorEq, Nat.reduceAdd, Nat.reduceLeDiff, Nat.reduceMul, Nat.reduceLT, if_true, if_false, true_and, and_true, and_self, Nat.reduceBEq, QOp.loads, boxO, bslO, buildO, cutL, fillV, putL, i64w, w42, v42, hr'])
    | (refine stepI.cases (fun _ hp => ?_) (fun _ hp => ?_) <;> simp (maxSteps := 4000000) (disch := omega) only [hp, ah, am, Nat.reduceEqDiff, reduceCtorEq, Nat.reduceAdd, Nat.reduceLeDiff, Nat.reduceMul, Nat.reduceLT, if_true, if_false, true_and, and_true, and_self, Nat.reduceBEq, QOp.loads, boxO, bslO, buildO, cutL, fillV, putL, i64w, w42, v42, hr']))
      all_goals first
        | exact ⟨_, rfl, (Fresh.new0 _ encClip_len (by omega)).mono e1⟩
        | exact (hc ⟨⟨by omega, hr⟩, by assumption, by assumption, by assumption, by assumption⟩).elim
    · have hr' : decide (realAt l i) = false := decide_eq_false hr
      simp (maxSteps := 4000000) (disch := omega) only [ah, am, Nat.reduceEqDiff, reduceCtorEq, Nat.reduceAdd, Nat.reduceLeDiff, Nat.reduceMul, Nat.reduceLT, if_true, if_false, true_and, and_true, and_self, Nat.reduceBEq, QOp.loads, boxO, bslO, buildO, cutL, fillV, putL, w42, v42, hr']
      (repeat' first
    | (refine stepC.of (l4By_ok _ _) ?_; rintro _ _ ⟨rfl, rfl⟩; simp (maxSteps := 4000000) (disch := omega) only [ah, am, Nat.reduceEqDiff, reduceCtorEq, Nat.reduceAdd, Nat.reduceLeDiff, Nat.reduceMul, Nat.reduceLT, if_true, if_false, true_and, and_true, and_self, Nat.reduceBEq, QOp.loads, boxO, bslO, buildO, cutL, fillV, putL, i64w, w42, v42, hr'])
    | (refine stepC.of (l4Real_ok _ _ _ _ S1 hl) ?_; rintro _ _ ⟨rfl, rfl⟩; simp (maxSteps := 4000000) (disch := omega) only [ah, am, Nat.reduceEqDiff, reduceCtorEq, Nat.reduceAdd, Nat.reduceLeDiff, Nat.reduceMul, Nat.reduceLT, if_true, if_false, true_and, and_true, and_self, Nat.reduceBEq, QOp.loads, boxO, bslO, buildO, cutL, fillV, putL, i64w, w42, v42, hr'])
    | (refine stepG.cases (fun _ hp => ?_) (fun _ hp => ?_) <;> simp (maxSteps := 4000000) (disch := omega) only [hp, ah, am, Nat.reduceEqDiff, reduceCtorEq, Nat.reduceAdd, Nat.reduceLeDiff, Nat.reduceMul, Nat.reduceLT, if_true, if_false, true_and, and_true, and_self, Nat.reduceBEq, QOp.loads, boxO, bslO, buildO, cutL, fillV, putL, i64w, w42, v42, hr'])
    | (refine stepI.cases (fun _ hp => ?_) (fun _ hp => ?_) <;> simp (maxSteps := 4000000) (disch := omega) only [hp, ah, am, Nat.reduceEqDiff, reduceCtorEq, Nat.reduceAdd, Nat.reduceLeDiff, Nat.reduceMul, Nat.reduceLT, if_true, if_false, true_and, and_true, and_self, Nat.reduceBEq, QOp.loads, boxO, bslO, buildO, cutL, fillV, putL, i64w, w42, v42, hr']))
      all_goals exact ⟨_, rfl, (Fresh.new0 _ encClip_len (by omega)).mono e1⟩
end Go.Proofs.Ytknpombiomnkbaa
