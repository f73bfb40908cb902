import Derived.Test.YtknpombiomnkbaaJ3
import Derived.Test.YtknpombiomnkbaaD7
namespace Go.Proofs.Ytknpombiomnkbaa
open Go Go.Ah
set_option linter.unusedSimpArgs false
set_option linter.unusedVariables false
set_option maxRecDepth 10000
set_option maxHeartbeats 4000000
/-! 7 loop.example/g00066/laws.FnLift: parameters 1, live [0], slots [0:code, 1:code, 3:t, 4:at, 5:n, 6:u, 7:is, 8:_, 9:told, 10:i, 11:s, 12:f, 13:x, 14:y] -/
def c7_0 : List SOper := [⟨some 2, .q (.mv (.c (.bool false))), none⟩]
def c7_1 : List SOper := [⟨some 15, .q (.mv (.t 0)), none⟩, ⟨some 16, .e (.call 10 [(.t 15)]), none⟩]
def c7_2 : List SOper := [⟨some 2, .q (.mv (.c (.bool true))), none⟩]
def c7_3 : SCode := .seq (.region c7_2 [2]) .ret
def c7_4 : SCode := .cond (.t 16) c7_3 .skip
def c7_5 : SCode := .seq (.region c7_1 [0, 16]) c7_4
def c7_6 : List SOper := [⟨some 18, .q (.mv (.t 0)), none⟩, ⟨some 19, .e (.call 28 [(.t 18)]), none⟩, ⟨some 17, .q (.mv (.t 19)), none⟩, ⟨some 20, .q (.ext (.t 17) 0), none⟩, ⟨some 21, .q (.ext (.t 17) 1), none⟩, ⟨some 22, .q (.ext (.t 17) 2), none⟩, ⟨some 3, .q (.mv (.t 20)), none⟩, ⟨some 4, .q (.mv (.t 21)), none⟩, ⟨some 5, .q (.mv (.t 22)), none⟩]
def c7_7 : List SOper := [⟨some 24, .q (.mv (.t 3)), none⟩, ⟨some 25, .q (.mv (.t 4)), none⟩, ⟨some 26, .q (.mv (.t 5)), none⟩, ⟨some 27, .e (.call 29 [(.t 24), (.t 25), (.t 26)]), none⟩, ⟨some 23, .q (.mv (.t 27)), none⟩, ⟨some 28, .q (.ext (.t 23) 0), none⟩, ⟨some 29, .q (.ext (.t 23) 1), none⟩, ⟨some 6, .q (.mv (.t 28)), none⟩, ⟨some 7, .q (.mv (.t 29)), none⟩]
def c7_8 : List SOper := [⟨some 31, .q (.mv (.t 3)), none⟩, ⟨some 32, .q (.mv (.t 4)), none⟩, ⟨some 33, .q (.mv (.t 5)), none⟩, ⟨some 34, .e (.call 30 [(.t 31), (.t 32), (.t 33)]), none⟩, ⟨some 30, .q (.mv (.t 34)), none⟩, ⟨some 35, .q (.ext (.t 30) 0), none⟩, ⟨some 36, .q (.ext (.t 30) 1), none⟩, ⟨some 8, .q (.mv (.t 35)), none⟩, ⟨some 9, .q (.mv (.t 36)), none⟩]
def c7_9 : List SOper := [⟨some 37, .q (.mv (.t 7)), none⟩, ⟨some 38, .q (.mv (.t 9)), none⟩, ⟨some 39, .q (.eqb true (.t 37) (.t 38)), none⟩]
def c7_10 : List SOper := [⟨some 2, .q (.mv (.c (.bool false))), none⟩]
def c7_11 : SCode := .seq (.region c7_10 [2]) .ret
def c7_12 : SCode := .cond (.t 39) c7_11 .skip
def c7_13 : SCode := .seq (.region c7_9 [3, 4, 5, 6, 7, 39]) c7_12
def c7_14 : SCode := .seq (.region c7_8 [3, 4, 5, 6, 7, 9]) c7_13
def c7_15 : List SOper := [⟨some 40, .q (.mv (.t 7)), none⟩, ⟨some 41, .q (.not (.t 40)), none⟩]
def c7_16 : List SOper := [⟨some 42, .q (.mv (.t 6)), none⟩, ⟨some 43, .q (.len (.t 42)), none⟩, ⟨some 44, .q (.bin .eql (.t 43) (.c (.int .i64 0))), none⟩, ⟨some 2, .q (.mv (.t 44)), none⟩]
def c7_17 : SCode := .seq (.region c7_16 [2]) .ret
def c7_18 : SCode := .cond (.t 41) c7_17 .skip
def c7_19 : SCode := .seq (.region c7_15 [3, 4, 5, 6, 41]) c7_18
def c7_20 : List SOper := [⟨some 45, .q (.mv (.t 6)), none⟩, ⟨some 46, .e (.call 16 [(.t 45)]), none⟩, ⟨some 47, .q (.mv (.t 3)), none⟩, ⟨some 48, .e (.call 16 [(.t 47)]), none⟩, ⟨some 49, .q (.bin .neq (.t 46) (.t 48)), none⟩]
def c7_21 : List SOper := [⟨some 2, .q (.mv (.c (.bool false))), none⟩]
def c7_22 : SCode := .seq (.region c7_21 [2]) .ret
def c7_23 : SCode := .cond (.t 49) c7_22 .skip
def c7_24 : SCode := .seq (.region c7_20 [3, 4, 5, 6, 49]) c7_23
def c7_25 : List SOper := [⟨some 50, .q (.mv (.t 4)), none⟩, ⟨some 51, .q (.bin .sub (.t 50) (.c (.int .i64 3))), none⟩, ⟨some 10, .q (.mv (.t 51)), none⟩]
def c7_26 : List SOper := [⟨some 52, .q (.mv (.t 10)), none⟩, ⟨some 53, .q (.mv (.t 4)), none⟩, ⟨some 54, .q (.mv (.t 5)), none⟩, ⟨some 55, .q (.bin .add (.t 53) (.t 54)), none⟩, ⟨some 56, .q (.bin .add (.t 55) (.c (.int .i64 3))), none⟩, ⟨some 57, .q (.bin .lss (.t 52) (.t 56)), none⟩, ⟨some 58, .q (.mv (.t 57)), none⟩, ⟨some 59, .q (.mv (.t 10)), some (58, true)⟩, ⟨some 60, .q (.mv (.t 4)), some (58, true)⟩, ⟨some 61, .q (.bin .add (.t 60) (.c (.int .i64 40))), some (58, true)⟩, ⟨some 62, .q (.bin .lss (.t 59) (.t 61)), some (58, true)⟩, ⟨some 63, .q (.pick (.t 58) (.t 62) (.c (.bool false))), none⟩]
def c7_27 : SCode := .cond (.t 63) .skip (.exit 0)
def c7_28 : SCode := .seq (.region c7_26 [3, 4, 5, 6, 10, 63]) c7_27
def c7_29 : List SOper := [⟨some 67, .q (.mv (.t 6)), none⟩, ⟨some 68, .q (.mv (.t 10)), none⟩, ⟨some 69, .e (.call 20 [(.t 67), (.t 68)]), none⟩, ⟨some 66, .q (.mv (.t 69)), none⟩, ⟨some 70, .q (.ext (.t 66) 0), none⟩, ⟨some 71, .q (.ext (.t 66) 1), none⟩, ⟨some 11, .q (.mv (.t 70)), none⟩, ⟨some 12, .q (.mv (.t 71)), none⟩]
def c7_30 : List SOper := [⟨some 73, .q (.mv (.t 3)), none⟩, ⟨some 74, .q (.mv (.t 10)), none⟩, ⟨some 75, .e (.call 20 [(.t 73), (.t 74)]), none⟩, ⟨some 72, .q (.mv (.t 75)), none⟩, ⟨some 76, .q (.ext (.t 72) 0), none⟩, ⟨some 77, .q (.ext (.t 72) 1), none⟩, ⟨some 13, .q (.mv (.t 76)), none⟩, ⟨some 14, .q (.mv (.t 77)), none⟩]
def c7_31 : List SOper := [⟨some 78, .q (.mv (.t 10)), none⟩, ⟨some 79, .q (.mv (.t 4)), none⟩, ⟨some 80, .q (.bin .geq (.t 78) (.t 79)), none⟩, ⟨some 81, .q (.mv (.t 80)), none⟩, ⟨some 82, .q (.mv (.t 10)), some (81, true)⟩, ⟨some 83, .q (.mv (.t 4)), some (81, true)⟩, ⟨some 84, .q (.mv (.t 5)), some (81, true)⟩, ⟨some 85, .q (.bin .add (.t 83) (.t 84)), some (81, true)⟩, ⟨some 86, .q (.bin .lss (.t 82) (.t 85)), some (81, true)⟩, ⟨some 87, .q (.pick (.t 81) (.t 86) (.c (.bool false))), none⟩]
def c7_32 : List SOper := [⟨some 13, .q (.mv (.c (.int .i64 0))), none⟩]
def c7_33 : List SOper := [⟨some 14, .q (.mv (.c (.int .i64 0))), none⟩]
def c7_34 : SCode := .seq (.region c7_32 [3, 4, 5, 6, 10, 11, 12, 13]) (.region c7_33 [3, 4, 5, 6, 10, 11, 12, 13, 14])
def c7_35 : SCode := .cond (.t 87) c7_34 .skip
def c7_36 : SCode := .seq (.region c7_31 [3, 4, 5, 6, 10, 11, 12, 13, 14, 87]) c7_35
def c7_37 : List SOper := [⟨some 88, .q (.mv (.t 11)), none⟩, ⟨some 89, .q (.mv (.t 13)), none⟩, ⟨some 90, .q (.bin .neq (.t 88) (.t 89)), none⟩, ⟨some 91, .q (.mv (.t 90)), none⟩, ⟨some 92, .q (.mv (.t 12)), some (91, false)⟩, ⟨some 93, .q (.mv (.t 14)), some (91, false)⟩, ⟨some 94, .q (.bin .neq (.t 92) (.t 93)), some (91, false)⟩, ⟨some 95, .q (.pick (.t 91) (.c (.bool true)) (.t 94)), none⟩]
def c7_38 : List SOper := [⟨some 2, .q (.mv (.c (.bool false))), none⟩]
def c7_39 : SCode := .seq (.region c7_38 [2]) .ret
def c7_40 : SCode := .cond (.t 95) c7_39 .skip
def c7_41 : SCode := .seq (.region c7_37 [3, 4, 5, 6, 10, 95]) c7_40
def c7_42 : SCode := .seq c7_36 c7_41
def c7_43 : SCode := .seq (.region c7_30 [3, 4, 5, 6, 10, 11, 12, 13, 14]) c7_42
def c7_44 : SCode := .seq (.region c7_29 [3, 4, 5, 6, 10, 11, 12]) c7_43
def c7_45 : SCode := .block 1 c7_44
def c7_46 : List SOper := [⟨some 64, .q (.mv (.t 10)), none⟩, ⟨some 65, .q (.bin .add (.t 64) (.c (.int .i64 1))), none⟩, ⟨some 10, .q (.mv (.t 65)), none⟩]
def c7_47 : SCode := .seq c7_45 (.region c7_46 [3, 4, 5, 6, 10])
def c7_48 : SCode := .seq c7_28 c7_47
def c7_49 : SCode := .loop c7_48
def c7_50 : SCode := .block 0 c7_49
def c7_51 : SCode := .seq (.region c7_25 [3, 4, 5, 6, 10]) c7_50
def c7_52 : List SOper := [⟨some 2, .q (.mv (.c (.bool true))), none⟩]
def c7_53 : SCode := .seq (.region c7_52 [2]) .ret
def c7_54 : SCode := .seq c7_51 c7_53
def c7_55 : SCode := .seq c7_24 c7_54
def c7_56 : SCode := .seq c7_19 c7_55
def c7_57 : SCode := .seq c7_14 c7_56
def c7_58 : SCode := .seq (.region c7_7 [3, 4, 5, 6, 7]) c7_57
def c7_59 : SCode := .seq (.region c7_6 [3, 4, 5]) c7_58
def c7_60 : SCode := .seq c7_5 c7_59
def c7_61 : SCode := .seq (.region c7_0 [0]) c7_60
def c7 : SCode := c7_61
theorem w7 : type_of% (And.intro (uR Try.prog c7_0.eq_1) (And.intro (uR Try.prog c7_1.eq_1) (And.intro (uR Try.prog c7_2.eq_1) (And.intro (uC Try.prog c7_3.eq_1) (And.intro (uC Try.prog c7_4.eq_1) (And.intro (uC Try.prog c7_5.eq_1) (And.intro (uR Try.prog c7_6.eq_1) (And.intro (uR Try.prog c7_7.eq_1) (And.intro (uR Try.prog c7_8.eq_1) (And.intro (uR Try.prog c7_9.eq_1) (And.intro (uR Try.prog c7_10.eq_1) (And.intro (uC Try.prog c7_11.eq_1) (And.intro (uC Try.prog c7_12.eq_1) (And.intro (uC Try.prog c7_13.eq_1) (And.intro (uC Try.prog c7_14.eq_1) (And.intro (uR Try.prog c7_15.eq_1) (And.intro (uR Try.prog c7_16.eq_1) (And.intro (uC Try.prog c7_17.eq_1) (And.intro (uC Try.prog c7_18.eq_1) (And.intro (uC Try.prog c7_19.eq_1) (And.intro (uR Try.prog c7_20.eq_1) (And.intro (uR Try.prog c7_21.eq_1) (And.intro (uC Try.prog c7_22.eq_1) (And.intro (uC Try.prog c7_23.eq_1) (And.intro (uC Try.prog c7_24.eq_1) (And.intro (uR Try.prog c7_25.eq_1) (And.intro (uR Try.prog c7_26.eq_1) (And.intro (uC Try.prog c7_27.eq_1) (And.intro (uC Try.prog c7_28.eq_1) (And.intro (uR Try.prog c7_29.eq_1) (And.intro (uR Try.prog c7_30.eq_1) (And.intro (uR Try.prog c7_31.eq_1) (And.intro (uR Try.prog c7_32.eq_1) (And.intro (uR Try.prog c7_33.eq_1) (And.intro (uC Try.prog c7_34.eq_1) (And.intro (uC Try.prog c7_35.eq_1) (And.intro (uC Try.prog c7_36.eq_1) (And.intro (uR Try.prog c7_37.eq_1) (And.intro (uR Try.prog c7_38.eq_1) (And.intro (uC Try.prog c7_39.eq_1) (And.intro (uC Try.prog c7_40.eq_1) (And.intro (uC Try.prog c7_41.eq_1) (And.intro (uC Try.prog c7_42.eq_1) (And.intro (uC Try.prog c7_43.eq_1) (And.intro (uC Try.prog c7_44.eq_1) (And.intro (uC Try.prog c7_45.eq_1) (And.intro (uR Try.prog c7_46.eq_1) (And.intro (uC Try.prog c7_47.eq_1) (And.intro (uC Try.prog c7_48.eq_1) (And.intro (uC Try.prog c7_49.eq_1) (And.intro (uC Try.prog c7_50.eq_1) (And.intro (uC Try.prog c7_51.eq_1) (And.intro (uR Try.prog c7_52.eq_1) (And.intro (uC Try.prog c7_53.eq_1) (And.intro (uC Try.prog c7_54.eq_1) (And.intro (uC Try.prog c7_55.eq_1) (And.intro (uC Try.prog c7_56.eq_1) (And.intro (uC Try.prog c7_57.eq_1) (And.intro (uC Try.prog c7_58.eq_1) (And.intro (uC Try.prog c7_59.eq_1) (And.intro (uC Try.prog c7_60.eq_1) (And.intro (uC Try.prog c7_61.eq_1) (uC Try.prog c7.eq_1))))))))))))))))))))))))))))))))))))))))))))))))))))))))))))))) := (And.intro (uR Try.prog c7_0.eq_1) (And.intro (uR Try.prog c7_1.eq_1) (And.intro (uR Try.prog c7_2.eq_1) (And.intro (uC Try.prog c7_3.eq_1) (And.intro (uC Try.prog c7_4.eq_1) (And.intro (uC Try.prog c7_5.eq_1) (And.intro (uR Try.prog c7_6.eq_1) (And.intro (uR Try.prog c7_7.eq_1) (And.intro (uR Try.prog c7_8.eq_1) (And.intro (uR Try.prog c7_9.eq_1) (And.intro (uR Try.prog c7_10.eq_1) (And.intro (uC Try.prog c7_11.eq_1) (And.intro (uC Try.prog c7_12.eq_1) (And.intro (uC Try.prog c7_13.eq_1) (And.intro (uC Try.prog c7_14.eq_1) (And.intro (uR Try.prog c7_15.eq_1) (And.intro (uR Try.prog c7_16.eq_1) (And.intro (uC Try.prog c7_17.eq_1) (And.intro (uC Try.prog c7_18.eq_1) (And.intro (uC Try.prog c7_19.eq_1) (And.intro (uR Try.prog c7_20.eq_1) (And.intro (uR Try.prog c7_21.eq_1) (And.intro (uC Try.prog c7_22.eq_1) (And.intro (uC Try.prog c7_23.eq_1) (And.intro (uC Try.prog c7_24.eq_1) (And.intro (uR Try.prog c7_25.eq_1) (And.intro (uR Try.prog c7_26.eq_1) (And.intro (uC Try.prog c7_27.eq_1) (And.intro (uC Try.prog c7_28.eq_1) (And.intro (uR Try.prog c7_29.eq_1) (And.intro (uR Try.prog c7_30.eq_1) (And.intro (uR Try.prog c7_31.eq_1) (And.intro (uR Try.prog c7_32.eq_1) (And.intro (uR Try.prog c7_33.eq_1) (And.intro (uC Try.prog c7_34.eq_1) (And.intro (uC Try.prog c7_35.eq_1) (And.intro (uC Try.prog c7_36.eq_1) (And.intro (uR Try.prog c7_37.eq_1) (And.intro (uR Try.prog c7_38.eq_1) (And.intro (uC Try.prog c7_39.eq_1) (And.intro (uC Try.prog c7_40.eq_1) (And.intro (uC Try.prog c7_41.eq_1) (And.intro (uC Try.prog c7_42.eq_1) (And.intro (uC Try.prog c7_43.eq_1) (And.intro (uC Try.prog c7_44.eq_1) (And.intro (uC Try.prog c7_45.eq_1) (And.intro (uR Try.prog c7_46.eq_1) (And.intro (uC Try.prog c7_47.eq_1) (And.intro (uC Try.prog c7_48.eq_1) (And.intro (uC Try.prog c7_49.eq_1) (And.intro (uC Try.prog c7_50.eq_1) (And.intro (uC Try.prog c7_51.eq_1) (And.intro (uR Try.prog c7_52.eq_1) (And.intro (uC Try.prog c7_53.eq_1) (And.intro (uC Try.prog c7_54.eq_1) (And.intro (uC Try.prog c7_55.eq_1) (And.intro (uC Try.prog c7_56.eq_1) (And.intro (uC Try.prog c7_57.eq_1) (And.intro (uC Try.prog c7_58.eq_1) (And.intro (uC Try.prog c7_59.eq_1) (And.intro (uC Try.prog c7_60.eq_1) (And.intro (uC Try.prog c7_61.eq_1) (uC Try.prog c7.eq_1)))))))))))))))))))))))))))))))))))))))))))))))))))))))))))))))
def v7 : List RV := [.t 2]
theorem s7 : slimF Try.prog Try.f7 = some (c7.bare, v7) := by kernel_rfl

theorem liftS_facts {l u : List Clip} {i n : Int} (h : liftS l i n = (u, true)) : rangeOk l i n ∧ trackOk u ∧ ex u = (ex l).take i.toNat ++ ex [⟨0, 0, n⟩] ++ (ex l).drop (i + n).toNat := by
  unfold liftS at h
  split at h
  · rename_i hc
    have := putS_facts hc.1.2.1 hc.1.2.2 (by have := hc.2; omega) h
    exact ⟨hc, this.1, this.2.1⟩
  · cases h
theorem liftS_false {l u : List Clip} {i n : Int} (h : liftS l i n = (u, false)) : u = [] := by
  unfold liftS at h
  split at h
  · exact putS_false h
  · cases h; rfl
theorem liftS_length (l : List Clip) (i n : Int) : (liftS l i n).1.length ≤ 300 := by
  unfold liftS putS editF; split
  · split
    · rename_i h; exact h.2.1
    · simp
  · simp
theorem FnLift_ok (h : Heap) (v : Value) (code : List Int) (s : SlT h encByte 1 v code) (hl : code.length ≤ 9223372036854775807) :
    ACall Try.prog 7 [v] h fun r h' => r = .bool true := by
  refine ACall.of Try.func7 s7 (of_decide_eq_true rfl) ?_
  simp (maxSteps := 4000000) (disch := omega) only [ah, am, Nat.reduceEqDiff, reduceCtorEq, Nat.reduceAdd, Nat.reduceLeDiff, Nat.reduceMul, Nat.reduceLT, if_true, if_false, true_and, and_true, and_self, Nat.reduceBEq, QOp.loads, boxO, bslO, buildO, cutL, fillV, putL, w7, v7]
  refine stepC.of (big_ok _ _ _ s) ?_
  rintro _ Hx ⟨hx, rfl⟩; rw [hx]; clear hx Hx
  by_cases hb : 4096 < code.length
  · have hb' : decide (4096 < (code.length : Int)) = true := decide_eq_true (by omega)
    simp (maxSteps := 4000000) (disch := omega) only [ah, am, Nat.reduceEqDiff, reduceCtorEq, Nat.reduceAdd, Nat.reduceLeDiff, Nat.reduceMul, Nat.reduceLT, if_true, if_false, true_and, and_true, and_self, Nat.reduceBEq, QOp.loads, boxO, bslO, buildO, cutL, fillV, putL, w7, v7, hb']
  have hb' : decide (4096 < (code.length : Int)) = false := decide_eq_false (by omega)
  simp (maxSteps := 4000000) (disch := omega) only [ah, am, Nat.reduceEqDiff, reduceCtorEq, Nat.reduceAdd, Nat.reduceLeDiff, Nat.reduceMul, Nat.reduceLT, if_true, if_false, true_and, and_true, and_self, Nat.reduceBEq, QOp.loads, boxO, bslO, buildO, cutL, fillV, putL, w7, v7, hb']
  refine stepC.of (DrawLift_ok _ _ _ s (by omega)) ?_
  rintro _ H1 ⟨tv, l, a, n, rfl, F, D⟩
  have S1 := F.slt
  simp (maxSteps := 4000000) (disch := omega) only [ah, am, Nat.reduceEqDiff, reduceCtorEq, Nat.reduceAdd, Nat.reduceLeDiff, Nat.reduceMul, Nat.reduceLT, if_true, if_false, true_and, and_true, and_self, Nat.reduceBEq, QOp.loads, boxO, bslO, buildO, cutL, fillV, putL, w7, v7]
  refine stepC.of (Lift_ok _ _ _ _ _ S1 (by omega)) ?_
  rintro _ H2 ⟨uv, rfl, F2⟩
  have S2 := S1.ext F2.1
  have hlen := liftS_length l a n
  obtain ⟨u, is, hR⟩ : ∃ u is, liftS l a n = (u, is) := ⟨_, _, rfl⟩
  simp (maxSteps := 4000000) (disch := omega) only [ah, am, Nat.reduceEqDiff, reduceCtorEq, Nat.reduceAdd, Nat.reduceLeDiff, Nat.reduceMul, Nat.reduceLT, if_true, if_false, true_and, and_true, and_self, Nat.reduceBEq, QOp.loads, boxO, bslO, buildO, cutL, fillV, putL, w7, v7]
  refine stepC.of (specLift_ok _ _ _ _ _ S2 (by omega)) ?_
  rintro _ H3 ⟨wv, rfl, F3⟩
  rw [hR] at F2 F3 hlen ⊢
  simp only at F2 F3 hlen ⊢
  have S3 := S2.ext F3.1
  have U3 := F2.slt.ext F3.1
  have RU := U3.rulesN
  cases is with
  | false =>
    obtain rfl := liftS_false hR
    have z : decide (((0 : Nat) : Int) = 0) = true := rfl
    simp (maxSteps := 4000000) (disch := omega) only [ah, am, Nat.reduceEqDiff, reduceCtorEq, Nat.reduceAdd, Nat.reduceLeDiff, Nat.reduceMul, Nat.reduceLT, if_true, if_false, true_and, and_true, and_self, Nat.reduceBEq, QOp.loads, boxO, bslO, buildO, cutL, fillV, putL, w7, v7, eqbV_bool', beq_self_eq_true, RU, z]
  | true =>
    obtain ⟨⟨ht, ha, hn⟩, hu, he⟩ := liftS_facts hR
    have hlen2 := ht.1; have hsum := ht.2.2
    have wk : wfC ⟨0, 0, n⟩ := ⟨hn.1, fun _ => rfl⟩
    have SM := sum_mid wk ht hu ha.1 ha.2 he
    have FM := frameAt_mid wk ht hu ha.1 ha.2 he
    simp only at SM FM
    rw [if_neg (by omega)] at SM
    simp (maxSteps := 4000000) (disch := omega) only [ah, am, Nat.reduceEqDiff, reduceCtorEq, Nat.reduceAdd, Nat.reduceLeDiff, Nat.reduceMul, Nat.reduceLT, if_true, if_false, true_and, and_true, and_self, Nat.reduceBEq, QOp.loads, boxO, bslO, buildO, cutL, fillV, putL, w7, v7, eqbV_bool', beq_self_eq_true, RU]
    refine stepC.of (Length_ok _ _ _ U3 (by omega)) ?_
    rintro _ H4 ⟨e4, rfl⟩
    rw [show lengthI u = sumLen u from if_pos hu, SM]
    have S4 := S3.ext e4
    have U4 := U3.ext e4
    simp (maxSteps := 4000000) (disch := omega) only [ah, am, Nat.reduceEqDiff, reduceCtorEq, Nat.reduceAdd, Nat.reduceLeDiff, Nat.reduceMul, Nat.reduceLT, if_true, if_false, true_and, and_true, and_self, Nat.reduceBEq, QOp.loads, boxO, bslO, buildO, cutL, fillV, putL, w7, v7]
    refine stepC.of (Length_ok _ _ _ S4 (by omega)) ?_
    rintro _ H5 ⟨e5, rfl⟩
    rw [show lengthI l = sumLen l from if_pos ht]
    have W0 : IntKind.i64.wrap (a - 3) = a - 3 + ((0 : Nat) : Int) := i64e (by omega) (by omega)
    simp (maxSteps := 4000000) (disch := omega) only [ah, am, Nat.reduceEqDiff, reduceCtorEq, Nat.reduceAdd, Nat.reduceLeDiff, Nat.reduceMul, Nat.reduceLT, if_true, if_false, true_and, and_true, and_self, Nat.reduceBEq, QOp.loads, boxO, bslO, buildO, cutL, fillV, putL, w7, v7, eq_self, decide_true, W0]
    refine SW_loop_up (fun j E H => E = [(3, tv), (4, .int .i64 a), (5, .int .i64 n), (6, uv), (10, .int .i64 (a - 3 + (j : Int)))] ∧ Ext H5 H) 43 0 (by omega) ⟨rfl, Ext.refl _⟩ ?_
    rintro j E H hj ⟨rfl, e⟩
    have W1 : IntKind.i64.wrap (a - 3 + (j : Int) + 1) = a - 3 + ((j + 1 : Nat) : Int) := i64e (by omega) (by omega)
    simp (maxSteps := 4000000) (disch := omega) only [ah, am, Nat.reduceEqDiff, reduceCtorEq, Nat.reduceAdd, Nat.reduceLeDiff, Nat.reduceMul, Nat.reduceLT, if_true, if_false, true_and, and_true, and_self, Nat.reduceBEq, QOp.loads, boxO, bslO, buildO, cutL, fillV, putL, w7, v7, i64w]
    by_cases hc : a - 3 + (j : Int) < a + n + 3 ∧ a - 3 + (j : Int) < a + 40
    · have hc1 : decide (a - 3 + (j : Int) < a + n + 3) = true := decide_eq_true hc.1
      have hc2 : decide (a - 3 + (j : Int) < a + 40) = true := decide_eq_true hc.2
      simp (maxSteps := 4000000) (disch := omega) only [ah, am, Nat.reduceEqDiff, reduceCtorEq, Nat.reduceAdd, Nat.reduceLeDiff, Nat.reduceMul, Nat.reduceLT, if_true, if_false, true_and, and_true, and_self, Nat.reduceBEq, QOp.loads, boxO, bslO, buildO, cutL, fillV, putL, w7, v7, hc1, hc2, i64w]
      refine stepC.of (FrameAt_ok _ _ _ _ ((U4.ext e5).ext e) (by omega)) ?_
      rintro _ H6 ⟨e6, rfl⟩
      simp (maxSteps := 4000000) (disch := omega) only [ah, am, Nat.reduceEqDiff, reduceCtorEq, Nat.reduceAdd, Nat.reduceLeDiff, Nat.reduceMul, Nat.reduceLT, if_true, if_false, true_and, and_true, and_self, Nat.reduceBEq, QOp.loads, boxO, bslO, buildO, cutL, fillV, putL, w7, v7]
      refine stepC.of (FrameAt_ok _ _ _ _ (((S4.ext e5).ext e).ext e6) (by omega)) ?_
      rintro _ H7 ⟨e7, rfl⟩
      have Q := FM (a - 3 + (j : Int))
      generalize hii : a - 3 + (j : Int) = i at *
      by_cases h1 : a ≤ i ∧ i < a + n
      · have d1 : decide (a ≤ i) = true := decide_eq_true h1.1
        have d2 : decide (i < a + n) = true := decide_eq_true h1.2
        rw [if_pos h1, if_pos trivial] at Q
        rw [Q]
        simp (maxSteps := 4000000) (disch := omega) only [ah, am, Nat.reduceEqDiff, reduceCtorEq, Nat.reduceAdd, Nat.reduceLeDiff, Nat.reduceMul, Nat.reduceLT, if_true, if_false, true_and, and_true, and_self, Nat.reduceBEq, QOp.loads, boxO, bslO, buildO, cutL, fillV, putL, w7, v7, d1, d2, i64w, eq_self, decide_true, W1]
        exact ⟨by omega, (e.trans e6).trans e7⟩
      · rw [if_neg h1] at Q
        rw [Q]
        by_cases h2 : a ≤ i
        · have d1 : decide (a ≤ i) = true := decide_eq_true h2
          have d2 : decide (i < a + n) = false := decide_eq_false (by omega)
          simp (maxSteps := 4000000) (disch := omega) only [ah, am, Nat.reduceEqDiff, reduceCtorEq, Nat.reduceAdd, Nat.reduceLeDiff, Nat.reduceMul, Nat.reduceLT, if_true, if_false, true_and, and_true, and_self, Nat.reduceBEq, QOp.loads, boxO, bslO, buildO, cutL, fillV, putL, w7, v7, d1, d2, i64w, eq_self, decide_true, W1]
          exact ⟨by omega, (e.trans e6).trans e7⟩
        · have d1 : decide (a ≤ i) = false := decide_eq_false h2
          simp (maxSteps := 4000000) (disch := omega) only [ah, am, Nat.reduceEqDiff, reduceCtorEq, Nat.reduceAdd, Nat.reduceLeDiff, Nat.reduceMul, Nat.reduceLT, if_true, if_false, true_and, and_true, and_self, Nat.reduceBEq, QOp.loads, boxO, bslO, buildO, cutL, fillV, putL, w7, v7, d1, i64w, eq_self, decide_true, W1]
          exact ⟨by omega, (e.trans e6).trans e7⟩
    · by_cases h1 : a - 3 + (j : Int) < a + n + 3
      · have hc1 : decide (a - 3 + (j : Int) < a + n + 3) = true := decide_eq_true h1
        have hc2 : decide (a - 3 + (j : Int) < a + 40) = false := decide_eq_false (by omega)
        simp (maxSteps := 4000000) (disch := omega) only [ah, am, Nat.reduceEqDiff, reduceCtorEq, Nat.reduceAdd, Nat.reduceLeDiff, Nat.reduceMul, Nat.reduceLT, if_true, if_false, true_and, and_true, and_self, Nat.reduceBEq, QOp.loads, boxO, bslO, buildO, cutL, fillV, putL, w7, v7, hc1, hc2, i64w]
      · have hc1 : decide (a - 3 + (j : Int) < a + n + 3) = false := decide_eq_false h1
        simp (maxSteps := 4000000) (disch := omega) only [ah, am, Nat.reduceEqDiff, reduceCtorEq, Nat.reduceAdd, Nat.reduceLeDiff, Nat.reduceMul, Nat.reduceLT, if_true, if_false, true_and, and_true, and_self, Nat.reduceBEq, QOp.loads, boxO, bslO, buildO, cutL, fillV, putL, w7, v7, hc1, i64w]
end Go.Proofs.Ytknpombiomnkbaa
