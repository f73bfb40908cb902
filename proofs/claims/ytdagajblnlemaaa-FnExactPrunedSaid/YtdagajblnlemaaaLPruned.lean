import Derived.Test.YtdagajblnlemaaaP18
namespace Go.Proofs.Ytdagajblnlemaaa
open Go Go.Ah
set_option linter.unusedSimpArgs false
set_option linter.unusedVariables false
set_option maxRecDepth 10000
set_option maxHeartbeats 4000000
/-! 3 loop.example/g00066/laws.FnExactPruned: parameters 1, live [0], slots [0:aNodes, 1:aNodes, 3:left, 4:w0, 5:x0, 6:g0, 7:k, 8:m, 9:q, 10:h0] -/
def c3_0 : List SOper := [⟨some 2, .q (.mv (.c (.bool false))), none⟩]
def c3_1 : List SOper := [⟨some 3, .q (.mv (.c (.int .i64 1048576))), none⟩]
def c3_2 : List SOper := [⟨some 11, .q (.mv (.t 0)), none⟩, ⟨some 12, .q (.mv (.t 3)), none⟩, ⟨some 13, .e (.call 9 [(.t 11), (.t 12)]), none⟩, ⟨some 3, .q (.mv (.t 13)), none⟩]
def c3_3 : List SOper := [⟨some 14, .q (.mv (.t 3)), none⟩, ⟨some 15, .q (.bin .lss (.t 14) (.c (.int .i64 0))), none⟩]
def c3_4 : List SOper := [⟨some 2, .q (.mv (.c (.bool true))), none⟩]
def c3_5 : SCode := .seq (.region c3_4 [2]) .ret
def c3_6 : SCode := .cond (.t 15) c3_5 .skip
def c3_7 : SCode := .seq (.region c3_3 [0, 15]) c3_6
def c3_8 : List SOper := [⟨some 16, .q (.mv (.t 0)), none⟩, ⟨some 17, .e (.call 11 [(.t 16)]), none⟩, ⟨some 18, .e (.call 10 [(.t 17)]), none⟩, ⟨some 4, .q (.mv (.t 18)), none⟩]
def c3_9 : List SOper := [⟨some 19, .q (.mv (.t 0)), none⟩, ⟨some 20, .e (.call 11 [(.t 19)]), none⟩, ⟨some 5, .q (.mv (.t 20)), none⟩]
def c3_10 : List SOper := [⟨some 21, .q (.mv (.t 5)), none⟩, ⟨some 22, .e (.call 12 [(.t 21)]), none⟩, ⟨some 6, .q (.mv (.t 22)), none⟩]
def c3_11 : List SOper := [⟨some 23, .q (.mv (.t 6)), none⟩, ⟨some 24, .q (.mv (.t 4)), none⟩, ⟨some 25, .e (.call 13 [(.t 23), (.t 24)]), none⟩, ⟨some 26, .q (.not (.t 25)), none⟩]
def c3_12 : List SOper := [⟨some 2, .q (.mv (.c (.bool false))), none⟩]
def c3_13 : SCode := .seq (.region c3_12 [2]) .ret
def c3_14 : SCode := .cond (.t 26) c3_13 .skip
def c3_15 : SCode := .seq (.region c3_11 [0, 4, 5, 6, 26]) c3_14
def c3_16 : List SOper := [⟨some 27, .q (.mv (.t 5)), none⟩, ⟨some 28, .q (.mv (.t 0)), none⟩, ⟨some 29, .e (.call 11 [(.t 28)]), none⟩, ⟨some 30, .e (.call 13 [(.t 27), (.t 29)]), none⟩, ⟨some 31, .q (.not (.t 30)), none⟩]
def c3_17 : List SOper := [⟨some 2, .q (.mv (.c (.bool false))), none⟩]
def c3_18 : SCode := .seq (.region c3_17 [2]) .ret
def c3_19 : SCode := .cond (.t 31) c3_18 .skip
def c3_20 : SCode := .seq (.region c3_16 [0, 4, 5, 6, 31]) c3_19
def c3_21 : List SOper := [⟨some 7, .q (.mv (.c (.int .i64 1))), none⟩]
def c3_22 : List SOper := [⟨some 32, .q (.mv (.t 5)), none⟩, ⟨some 33, .q (.mv (.t 7)), none⟩, ⟨some 34, .e (.call 14 [(.t 32), (.t 33)]), none⟩, ⟨some 7, .q (.mv (.t 34)), none⟩]
def c3_23 : List SOper := [⟨some 35, .q (.mv (.t 7)), none⟩, ⟨some 36, .q (.bin .lss (.t 35) (.c (.int .i64 0))), none⟩, ⟨some 37, .q (.mv (.t 36)), none⟩, ⟨some 38, .q (.mv (.t 6)), some (37, false)⟩, ⟨some 39, .q (.mv (.t 4)), some (37, false)⟩, ⟨some 40, .e (.call 13 [(.t 38), (.t 39)]), some (37, false)⟩, ⟨some 41, .q (.not (.t 40)), some (37, false)⟩, ⟨some 42, .q (.pick (.t 37) (.c (.bool true)) (.t 41)), none⟩]
def c3_24 : List SOper := [⟨some 2, .q (.mv (.c (.bool false))), none⟩]
def c3_25 : SCode := .seq (.region c3_24 [2]) .ret
def c3_26 : SCode := .cond (.t 42) c3_25 .skip
def c3_27 : SCode := .seq (.region c3_23 [0, 4, 6, 42]) c3_26
def c3_28 : List SOper := [⟨some 8, .q (.mv (.c (.int .i64 1))), none⟩]
def c3_29 : List SOper := [⟨some 43, .q (.mv (.t 6)), none⟩, ⟨some 44, .q (.mv (.t 8)), none⟩, ⟨some 45, .e (.call 14 [(.t 43), (.t 44)]), none⟩, ⟨some 8, .q (.mv (.t 45)), none⟩]
def c3_30 : List SOper := [⟨some 9, .q (.mv (.c (.int .i64 1))), none⟩]
def c3_31 : List SOper := [⟨some 46, .q (.mv (.t 6)), none⟩, ⟨some 47, .q (.mv (.t 9)), none⟩, ⟨some 48, .e (.call 15 [(.t 46), (.t 47)]), none⟩, ⟨some 9, .q (.mv (.t 48)), none⟩]
def c3_32 : List SOper := [⟨some 49, .q (.mv (.t 9)), none⟩, ⟨some 50, .q (.bin .lss (.t 49) (.c (.int .i64 0))), none⟩]
def c3_33 : List SOper := [⟨some 2, .q (.mv (.c (.bool false))), none⟩]
def c3_34 : SCode := .seq (.region c3_33 [2]) .ret
def c3_35 : SCode := .cond (.t 50) c3_34 .skip
def c3_36 : SCode := .seq (.region c3_32 [0, 4, 6, 8, 9, 50]) c3_35
def c3_37 : List SOper := [⟨some 51, .q (.mv (.t 9)), none⟩, ⟨some 52, .q (.mv (.t 8)), none⟩, ⟨some 53, .q (.bin .neq (.t 51) (.t 52)), none⟩]
def c3_38 : List SOper := [⟨some 2, .q (.mv (.c (.bool false))), none⟩]
def c3_39 : SCode := .seq (.region c3_38 [2]) .ret
def c3_40 : SCode := .cond (.t 53) c3_39 .skip
def c3_41 : SCode := .seq (.region c3_37 [0, 4, 6, 8, 53]) c3_40
def c3_42 : List SOper := [⟨some 54, .q (.mv (.t 0)), none⟩, ⟨some 55, .e (.call 11 [(.t 54)]), none⟩, ⟨some 56, .e (.call 12 [(.t 55)]), none⟩, ⟨some 10, .q (.mv (.t 56)), none⟩]
def c3_43 : List SOper := [⟨some 57, .q (.mv (.t 10)), none⟩, ⟨some 58, .q (.mv (.t 4)), none⟩, ⟨some 59, .e (.call 13 [(.t 57), (.t 58)]), none⟩, ⟨some 60, .q (.not (.t 59)), none⟩]
def c3_44 : List SOper := [⟨some 2, .q (.mv (.c (.bool false))), none⟩]
def c3_45 : SCode := .seq (.region c3_44 [2]) .ret
def c3_46 : SCode := .cond (.t 60) c3_45 .skip
def c3_47 : SCode := .seq (.region c3_43 [6, 8, 60]) c3_46
def c3_48 : List SOper := [⟨some 9, .q (.mv (.c (.int .i64 1))), none⟩]
def c3_49 : List SOper := [⟨some 61, .q (.mv (.t 6)), none⟩, ⟨some 62, .q (.mv (.t 9)), none⟩, ⟨some 63, .e (.call 15 [(.t 61), (.t 62)]), none⟩, ⟨some 9, .q (.mv (.t 63)), none⟩]
def c3_50 : List SOper := [⟨some 64, .q (.mv (.t 9)), none⟩, ⟨some 65, .q (.bin .lss (.t 64) (.c (.int .i64 0))), none⟩]
def c3_51 : List SOper := [⟨some 2, .q (.mv (.c (.bool false))), none⟩]
def c3_52 : SCode := .seq (.region c3_51 [2]) .ret
def c3_53 : SCode := .cond (.t 65) c3_52 .skip
def c3_54 : SCode := .seq (.region c3_50 [8, 9, 65]) c3_53
def c3_55 : List SOper := [⟨some 66, .q (.mv (.t 9)), none⟩, ⟨some 67, .q (.mv (.t 8)), none⟩, ⟨some 68, .q (.bin .neq (.t 66) (.t 67)), none⟩]
def c3_56 : List SOper := [⟨some 2, .q (.mv (.c (.bool false))), none⟩]
def c3_57 : SCode := .seq (.region c3_56 [2]) .ret
def c3_58 : SCode := .cond (.t 68) c3_57 .skip
def c3_59 : SCode := .seq (.region c3_55 [68]) c3_58
def c3_60 : List SOper := [⟨some 2, .q (.mv (.c (.bool true))), none⟩]
def c3_61 : SCode := .seq (.region c3_60 [2]) .ret
def c3_62 : SCode := .seq c3_59 c3_61
def c3_63 : SCode := .seq c3_54 c3_62
def c3_64 : SCode := .seq (.region c3_49 [8, 9]) c3_63
def c3_65 : SCode := .seq (.region c3_48 [6, 8, 9]) c3_64
def c3_66 : SCode := .seq c3_47 c3_65
def c3_67 : SCode := .seq (.region c3_42 [4, 6, 8, 10]) c3_66
def c3_68 : SCode := .seq c3_41 c3_67
def c3_69 : SCode := .seq c3_36 c3_68
def c3_70 : SCode := .seq (.region c3_31 [0, 4, 6, 8, 9]) c3_69
def c3_71 : SCode := .seq (.region c3_30 [0, 4, 6, 8, 9]) c3_70
def c3_72 : SCode := .seq (.region c3_29 [0, 4, 6, 8]) c3_71
def c3_73 : SCode := .seq (.region c3_28 [0, 4, 6, 8]) c3_72
def c3_74 : SCode := .seq c3_27 c3_73
def c3_75 : SCode := .seq (.region c3_22 [0, 4, 6, 7]) c3_74
def c3_76 : SCode := .seq (.region c3_21 [0, 4, 5, 6, 7]) c3_75
def c3_77 : SCode := .seq c3_20 c3_76
def c3_78 : SCode := .seq c3_15 c3_77
def c3_79 : SCode := .seq (.region c3_10 [0, 4, 5, 6]) c3_78
def c3_80 : SCode := .seq (.region c3_9 [0, 4, 5]) c3_79
def c3_81 : SCode := .seq (.region c3_8 [0, 4]) c3_80
def c3_82 : SCode := .seq c3_7 c3_81
def c3_83 : SCode := .seq (.region c3_2 [0, 3]) c3_82
def c3_84 : SCode := .seq (.region c3_1 [0, 3]) c3_83
def c3_85 : SCode := .seq (.region c3_0 [0]) c3_84
def c3 : SCode := c3_85
theorem w3 : type_of% (And.intro (uR Try.prog c3_0.eq_1) (And.intro (uR Try.prog c3_1.eq_1) (And.intro (uR Try.prog c3_2.eq_1) (And.intro (uR Try.prog c3_3.eq_1) (And.intro (uR Try.prog c3_4.eq_1) (And.intro (uC Try.prog c3_5.eq_1) (And.intro (uC Try.prog c3_6.eq_1) (And.intro (uC Try.prog c3_7.eq_1) (And.intro (uR Try.prog c3_8.eq_1) (And.intro (uR Try.prog c3_9.eq_1) (And.intro (uR Try.prog c3_10.eq_1) (And.intro (uR Try.prog c3_11.eq_1) (And.intro (uR Try.prog c3_12.eq_1) (And.intro (uC Try.prog c3_13.eq_1) (And.intro (uC Try.prog c3_14.eq_1) (And.intro (uC Try.prog c3_15.eq_1) (And.intro (uR Try.prog c3_16.eq_1) (And.intro (uR Try.prog c3_17.eq_1) (And.intro (uC Try.prog c3_18.eq_1) (And.intro (uC Try.prog c3_19.eq_1) (And.intro (uC Try.prog c3_20.eq_1) (And.intro (uR Try.prog c3_21.eq_1) (And.intro (uR Try.prog c3_22.eq_1) (And.intro (uR Try.prog c3_23.eq_1) (And.intro (uR Try.prog c3_24.eq_1) (And.intro (uC Try.prog c3_25.eq_1) (And.intro (uC Try.prog c3_26.eq_1) (And.intro (uC Try.prog c3_27.eq_1) (And.intro (uR Try.prog c3_28.eq_1) (And.intro (uR Try.prog c3_29.eq_1) (And.intro (uR Try.prog c3_30.eq_1) (And.intro (uR Try.prog c3_31.eq_1) (And.intro (uR Try.prog c3_32.eq_1) (And.intro (uR Try.prog c3_33.eq_1) (And.intro (uC Try.prog c3_34.eq_1) (And.intro (uC Try.prog c3_35.eq_1) (And.intro (uC Try.prog c3_36.eq_1) (And.intro (uR Try.prog c3_37.eq_1) (And.intro (uR Try.prog c3_38.eq_1) (And.intro (uC Try.prog c3_39.eq_1) (And.intro (uC Try.prog c3_40.eq_1) (And.intro (uC Try.prog c3_41.eq_1) (And.intro (uR Try.prog c3_42.eq_1) (And.intro (uR Try.prog c3_43.eq_1) (And.intro (uR Try.prog c3_44.eq_1) (And.intro (uC Try.prog c3_45.eq_1) (And.intro (uC Try.prog c3_46.eq_1) (And.intro (uC Try.prog c3_47.eq_1) (And.intro (uR Try.prog c3_48.eq_1) (And.intro (uR Try.prog c3_49.eq_1) (And.intro (uR Try.prog c3_50.eq_1) (And.intro (uR Try.prog c3_51.eq_1) (And.intro (uC Try.prog c3_52.eq_1) (And.intro (uC Try.prog c3_53.eq_1) (And.intro (uC Try.prog c3_54.eq_1) (And.intro (uR Try.prog c3_55.eq_1) (And.intro (uR Try.prog c3_56.eq_1) (And.intro (uC Try.prog c3_57.eq_1) (And.intro (uC Try.prog c3_58.eq_1) (And.intro (uC Try.prog c3_59.eq_1) (And.intro (uR Try.prog c3_60.eq_1) (And.intro (uC Try.prog c3_61.eq_1) (And.intro (uC Try.prog c3_62.eq_1) (And.intro (uC Try.prog c3_63.eq_1) (And.intro (uC Try.prog c3_64.eq_1) (And.intro (uC Try.prog c3_65.eq_1) (And.intro (uC Try.prog c3_66.eq_1) (And.intro (uC Try.prog c3_67.eq_1) (And.intro (uC Try.prog c3_68.eq_1) (And.intro (uC Try.prog c3_69.eq_1) (And.intro (uC Try.prog c3_70.eq_1) (And.intro (uC Try.prog c3_71.eq_1) (And.intro (uC Try.prog c3_72.eq_1) (And.intro (uC Try.prog c3_73.eq_1) (And.intro (uC Try.prog c3_74.eq_1) (And.intro (uC Try.prog c3_75.eq_1) (And.intro (uC Try.prog c3_76.eq_1) (And.intro (uC Try.prog c3_77.eq_1) (And.intro (uC Try.prog c3_78.eq_1) (And.intro (uC Try.prog c3_79.eq_1) (And.intro (uC Try.prog c3_80.eq_1) (And.intro (uC Try.prog c3_81.eq_1) (And.intro (uC Try.prog c3_82.eq_1) (And.intro (uC Try.prog c3_83.eq_1) (And.intro (uC Try.prog c3_84.eq_1) (And.intro (uC Try.prog c3_85.eq_1) (uC Try.prog c3.eq_1))))))))))))))))))))))))))))))))))))))))))))))))))))))))))))))))))))))))))))))))))))))) := (And.intro (uR Try.prog c3_0.eq_1) (And.intro (uR Try.prog c3_1.eq_1) (And.intro (uR Try.prog c3_2.eq_1) (And.intro (uR Try.prog c3_3.eq_1) (And.intro (uR Try.prog c3_4.eq_1) (And.intro (uC Try.prog c3_5.eq_1) (And.intro (uC Try.prog c3_6.eq_1) (And.intro (uC Try.prog c3_7.eq_1) (And.intro (uR Try.prog c3_8.eq_1) (And.intro (uR Try.prog c3_9.eq_1) (And.intro (uR Try.prog c3_10.eq_1) (And.intro (uR Try.prog c3_11.eq_1) (And.intro (uR Try.prog c3_12.eq_1) (And.intro (uC Try.prog c3_13.eq_1) (And.intro (uC Try.prog c3_14.eq_1) (And.intro (uC Try.prog c3_15.eq_1) (And.intro (uR Try.prog c3_16.eq_1) (And.intro (uR Try.prog c3_17.eq_1) (And.intro (uC Try.prog c3_18.eq_1) (And.intro (uC Try.prog c3_19.eq_1) (And.intro (uC Try.prog c3_20.eq_1) (And.intro (uR Try.prog c3_21.eq_1) (And.intro (uR Try.prog c3_22.eq_1) (And.intro (uR Try.prog c3_23.eq_1) (And.intro (uR Try.prog c3_24.eq_1) (And.intro (uC Try.prog c3_25.eq_1) (And.intro (uC Try.prog c3_26.eq_1) (And.intro (uC Try.prog c3_27.eq_1) (And.intro (uR Try.prog c3_28.eq_1) (And.intro (uR Try.prog c3_29.eq_1) (And.intro (uR Try.prog c3_30.eq_1) (And.intro (uR Try.prog c3_31.eq_1) (And.intro (uR Try.prog c3_32.eq_1) (And.intro (uR Try.prog c3_33.eq_1) (And.intro (uC Try.prog c3_34.eq_1) (And.intro (uC Try.prog c3_35.eq_1) (And.intro (uC Try.prog c3_36.eq_1) (And.intro (uR Try.prog c3_37.eq_1) (And.intro (uR Try.prog c3_38.eq_1) (And.intro (uC Try.prog c3_39.eq_1) (And.intro (uC Try.prog c3_40.eq_1) (And.intro (uC Try.prog c3_41.eq_1) (And.intro (uR Try.prog c3_42.eq_1) (And.intro (uR Try.prog c3_43.eq_1) (And.intro (uR Try.prog c3_44.eq_1) (And.intro (uC Try.prog c3_45.eq_1) (And.intro (uC Try.prog c3_46.eq_1) (And.intro (uC Try.prog c3_47.eq_1) (And.intro (uR Try.prog c3_48.eq_1) (And.intro (uR Try.prog c3_49.eq_1) (And.intro (uR Try.prog c3_50.eq_1) (And.intro (uR Try.prog c3_51.eq_1) (And.intro (uC Try.prog c3_52.eq_1) (And.intro (uC Try.prog c3_53.eq_1) (And.intro (uC Try.prog c3_54.eq_1) (And.intro (uR Try.prog c3_55.eq_1) (And.intro (uR Try.prog c3_56.eq_1) (And.intro (uC Try.prog c3_57.eq_1) (And.intro (uC Try.prog c3_58.eq_1) (And.intro (uC Try.prog c3_59.eq_1) (And.intro (uR Try.prog c3_60.eq_1) (And.intro (uC Try.prog c3_61.eq_1) (And.intro (uC Try.prog c3_62.eq_1) (And.intro (uC Try.prog c3_63.eq_1) (And.intro (uC Try.prog c3_64.eq_1) (And.intro (uC Try.prog c3_65.eq_1) (And.intro (uC Try.prog c3_66.eq_1) (And.intro (uC Try.prog c3_67.eq_1) (And.intro (uC Try.prog c3_68.eq_1) (And.intro (uC Try.prog c3_69.eq_1) (And.intro (uC Try.prog c3_70.eq_1) (And.intro (uC Try.prog c3_71.eq_1) (And.intro (uC Try.prog c3_72.eq_1) (And.intro (uC Try.prog c3_73.eq_1) (And.intro (uC Try.prog c3_74.eq_1) (And.intro (uC Try.prog c3_75.eq_1) (And.intro (uC Try.prog c3_76.eq_1) (And.intro (uC Try.prog c3_77.eq_1) (And.intro (uC Try.prog c3_78.eq_1) (And.intro (uC Try.prog c3_79.eq_1) (And.intro (uC Try.prog c3_80.eq_1) (And.intro (uC Try.prog c3_81.eq_1) (And.intro (uC Try.prog c3_82.eq_1) (And.intro (uC Try.prog c3_83.eq_1) (And.intro (uC Try.prog c3_84.eq_1) (And.intro (uC Try.prog c3_85.eq_1) (uC Try.prog c3.eq_1)))))))))))))))))))))))))))))))))))))))))))))))))))))))))))))))))))))))))))))))))))))))
def v3 : List RV := [.t 2]
theorem s3 : slimF Try.prog Try.f3 = some (c3.bare, v3) := by kernel_rfl

theorem pruned_len (a : List Node) : (prunedF a).length ≤ 1000000 := by
  unfold prunedF; split
  · rename_i ok; have := (outK_len a (needK a a.length) a.length).2; have := ok.1; omega
  · simp
theorem FnExactPruned_ok (h : Heap) (va : Value) (a : List Node) (sa : SlT h encNode 4 va a) (hla : a.length ≤ 9223372036854775807) :
    ACall Try.prog 3 [va] h fun r h' => r = .bool true := by
  refine ACall.of Try.func3 s3 (of_decide_eq_true rfl) ?_
  simp (maxSteps := 4000000) (disch := omega) only [ah, am, Nat.reduceEqDiff, reduceCtorEq, Nat.reduceAdd, Nat.reduceLeDiff, Nat.reduceMul, Nat.reduceLT, if_true, if_false, true_and, and_true, and_self, Nat.reduceBEq, QOp.loads, boxO, bslO, buildO, cutL, fillV, putL, w3, v3]
  refine stepC.of (szNodeS_ok _ va a (1048576) sa (by omega) (by omega) hla) ?_
  rintro _ Hx ⟨hx, rfl⟩; rw [hx]; clear hx Hx
  simp (maxSteps := 4000000) (disch := omega) only [ah, am, Nat.reduceEqDiff, reduceCtorEq, Nat.reduceAdd, Nat.reduceLeDiff, Nat.reduceMul, Nat.reduceLT, if_true, if_false, true_and, and_true, and_self, Nat.reduceBEq, QOp.loads, boxO, bslO, buildO, cutL, fillV, putL, w3, v3]
  by_cases hsz0 : (1048576 : Int) - a.length < 0
  · have hz : decide ((if (1048576 : Int) - a.length < 0 then -1 else 1048576 - (a.length : Int)) < 0) = true := by rw [if_pos hsz0]; rfl
    simp (maxSteps := 4000000) (disch := omega) only [ah, am, Nat.reduceEqDiff, reduceCtorEq, Nat.reduceAdd, Nat.reduceLeDiff, Nat.reduceMul, Nat.reduceLT, if_true, if_false, true_and, and_true, and_self, Nat.reduceBEq, QOp.loads, boxO, bslO, buildO, cutL, fillV, putL, w3, v3, hz]
  have hz0 : decide ((if (1048576 : Int) - a.length < 0 then -1 else 1048576 - (a.length : Int)) < 0) = false := by rw [if_neg hsz0]; exact decide_eq_false hsz0
  have hq0 : (if (1048576 : Int) - a.length < 0 then -1 else 1048576 - (a.length : Int)) = 1048576 - a.length := if_neg hsz0
  first | rw [hq0] at hz0 ⊢ | skip
  simp (maxSteps := 4000000) (disch := omega) only [ah, am, Nat.reduceEqDiff, reduceCtorEq, Nat.reduceAdd, Nat.reduceLeDiff, Nat.reduceMul, Nat.reduceLT, if_true, if_false, true_and, and_true, and_self, Nat.reduceBEq, QOp.loads, boxO, bslO, buildO, cutL, fillV, putL, w3, v3, hz0]
  clear hz0
  have hlla : a.length ≤ 1048576 := by omega
  have hF := pruned_len a
  refine stepC.of (toNodeS_ok _ _ _ sa hlla) ?_
  intro tpa H1 Fpa
  have E1 := (show Ext h _ from Fpa.1)
  have zE1 := Fpa.1.1
  have Mpa := Fpa.mine
  simp (maxSteps := 4000000) (disch := omega) only [ah, am, Nat.reduceEqDiff, reduceCtorEq, Nat.reduceAdd, Nat.reduceLeDiff, Nat.reduceMul, Nat.reduceLT, if_true, if_false, true_and, and_true, and_self, Nat.reduceBEq, QOp.loads, boxO, bslO, buildO, cutL, fillV, putL, w3, v3]
  refine stepC.of (specPruned_ok _ _ _ Mpa.slt (by omega)) ?_
  intro w0 H2 Fw
  have Mpa := Mpa.ext Fw.1
  have E2 := Ext.trans E1 Fw.1
  have zE2 := Fw.1.1
  have Mw := Fw.mine
  simp (maxSteps := 4000000) (disch := omega) only [ah, am, Nat.reduceEqDiff, reduceCtorEq, Nat.reduceAdd, Nat.reduceLeDiff, Nat.reduceMul, Nat.reduceLT, if_true, if_false, true_and, and_true, and_self, Nat.reduceBEq, QOp.loads, boxO, bslO, buildO, cutL, fillV, putL, w3, v3]
  refine stepC.of (toNodeS_ok _ _ _ (sa.ext E2) hlla) ?_
  intro txa H3 Fxa
  have Mw := Mw.ext Fxa.1
  have E3 := Ext.trans E2 Fxa.1
  have zE3 := Fxa.1.1
  have Mxa := Fxa.mine
  simp (maxSteps := 4000000) (disch := omega) only [ah, am, Nat.reduceEqDiff, reduceCtorEq, Nat.reduceAdd, Nat.reduceLeDiff, Nat.reduceMul, Nat.reduceLT, if_true, if_false, true_and, and_true, and_self, Nat.reduceBEq, QOp.loads, boxO, bslO, buildO, cutL, fillV, putL, w3, v3]
  refine stepC.of (implPruned_ok _ _ _ Mxa.slt (by omega)) ?_
  intro g0 H4 Fg
  have Mw := Mw.ext Fg.1
  have Mxa := Mxa.ext Fg.1
  have E4 := Ext.trans E3 Fg.1
  have zE4 := Fg.1.1
  have Mg := Fg.mine
  generalize hR : prunedF a = rl at Mw Mg hF
  simp (maxSteps := 4000000) (disch := omega) only [ah, am, Nat.reduceEqDiff, reduceCtorEq, Nat.reduceAdd, Nat.reduceLeDiff, Nat.reduceMul, Nat.reduceLT, if_true, if_false, true_and, and_true, and_self, Nat.reduceBEq, QOp.loads, boxO, bslO, buildO, cutL, fillV, putL, w3, v3]
  refine stepC.of (eqNodeS_ok _ _ _ _ Mg.slt Mw.slt (by omega)) ?_
  rintro _ H5 ⟨eH5, rfl⟩
  have Mw := Mw.ext eH5
  have Mxa := Mxa.ext eH5
  have Mg := Mg.ext eH5
  have E5 := Ext.trans E4 eH5
  have zE5 := eH5.1
  simp (maxSteps := 4000000) (disch := omega) only [ah, am, Nat.reduceEqDiff, reduceCtorEq, Nat.reduceAdd, Nat.reduceLeDiff, Nat.reduceMul, Nat.reduceLT, if_true, if_false, true_and, and_true, and_self, Nat.reduceBEq, QOp.loads, boxO, bslO, buildO, cutL, fillV, putL, w3, v3, eq_self, decide_true]
  refine stepC.of (toNodeS_ok _ _ _ (sa.ext E5) hlla) ?_
  intro tya H6 Fya
  have Mw := Mw.ext Fya.1
  have Mxa := Mxa.ext Fya.1
  have Mg := Mg.ext Fya.1
  have E6 := Ext.trans E5 Fya.1
  have zE6 := Fya.1.1
  have Mya := Fya.mine
  simp (maxSteps := 4000000) (disch := omega) only [ah, am, Nat.reduceEqDiff, reduceCtorEq, Nat.reduceAdd, Nat.reduceLeDiff, Nat.reduceMul, Nat.reduceLT, if_true, if_false, true_and, and_true, and_self, Nat.reduceBEq, QOp.loads, boxO, bslO, buildO, cutL, fillV, putL, w3, v3]
  refine stepC.of (eqNodeS_ok _ _ _ _ Mxa.slt Mya.slt (by omega)) ?_
  rintro _ H7 ⟨eH7, rfl⟩
  have Mw := Mw.ext eH7
  have Mxa := Mxa.ext eH7
  have Mg := Mg.ext eH7
  have Mya := Mya.ext eH7
  have E7 := Ext.trans E6 eH7
  have zE7 := eH7.1
  simp (maxSteps := 4000000) (disch := omega) only [ah, am, Nat.reduceEqDiff, reduceCtorEq, Nat.reduceAdd, Nat.reduceLeDiff, Nat.reduceMul, Nat.reduceLT, if_true, if_false, true_and, and_true, and_self, Nat.reduceBEq, QOp.loads, boxO, bslO, buildO, cutL, fillV, putL, w3, v3, eq_self, decide_true]
  refine stepC.of (markNodeS_mine (1) Mxa (by omega) (by omega)) ?_
  rintro _ H8 ⟨cH8, Mxa', rfl⟩
  have Mw := Mw.chg cH8 (by omega)
  have Mg := Mg.chg cH8 (by omega)
  have Mxa := Mxa'
  have E8 := cH8.ext E7 (by omega)
  have zE8 := cH8.1
  have hk : decide (((1 : Int) + 4 * a.length : Int) < 0) = false := decide_eq_false (by omega)
  simp (maxSteps := 4000000) (disch := omega) only [ah, am, Nat.reduceEqDiff, reduceCtorEq, Nat.reduceAdd, Nat.reduceLeDiff, Nat.reduceMul, Nat.reduceLT, if_true, if_false, true_and, and_true, and_self, Nat.reduceBEq, QOp.loads, boxO, bslO, buildO, cutL, fillV, putL, w3, v3, hk]
  refine stepC.of (eqNodeS_ok _ _ _ _ Mg.slt Mw.slt (by omega)) ?_
  rintro _ H9 ⟨eH9, rfl⟩
  have Mw := Mw.ext eH9
  have Mxa := Mxa.ext eH9
  have Mg := Mg.ext eH9
  have E9 := Ext.trans E8 eH9
  have zE9 := eH9.1
  simp (maxSteps := 4000000) (disch := omega) only [ah, am, Nat.reduceEqDiff, reduceCtorEq, Nat.reduceAdd, Nat.reduceLeDiff, Nat.reduceMul, Nat.reduceLT, if_true, if_false, true_and, and_true, and_self, Nat.reduceBEq, QOp.loads, boxO, bslO, buildO, cutL, fillV, putL, w3, v3, eq_self, decide_true]
  refine stepC.of (markNodeS_mine (1) Mg (by omega) (by omega)) ?_
  rintro _ H10 ⟨cH10, Mg', rfl⟩
  have Mw := Mw.chg cH10 (by omega)
  have Mg := Mg'
  have E10 := cH10.ext E9 (by omega)
  have zE10 := cH10.1
  have hm : decide ((1 : Int) + 4 * rl.length < 0) = false := decide_eq_false (by omega)
  simp (maxSteps := 4000000) (disch := omega) only [ah, am, Nat.reduceEqDiff, reduceCtorEq, Nat.reduceAdd, Nat.reduceLeDiff, Nat.reduceMul, Nat.reduceLT, if_true, if_false, true_and, and_true, and_self, Nat.reduceBEq, QOp.loads, boxO, bslO, buildO, cutL, fillV, putL, w3, v3]
  refine stepC.of (heldNodeS_ok _ _ _ 1 Mg.slt (by omega) (by omega)) ?_
  rintro _ Hx ⟨hx, rfl⟩; rw [hx]; clear hx Hx
  simp (maxSteps := 4000000) (disch := omega) only [ah, am, Nat.reduceEqDiff, reduceCtorEq, Nat.reduceAdd, Nat.reduceLeDiff, Nat.reduceMul, Nat.reduceLT, if_true, if_false, true_and, and_true, and_self, Nat.reduceBEq, QOp.loads, boxO, bslO, buildO, cutL, fillV, putL, w3, v3, hm, eq_self, decide_true]
  refine stepC.of (toNodeS_ok _ _ _ (sa.ext E10) hlla) ?_
  intro tqa H11 Fqa
  have Mw := Mw.ext Fqa.1
  have Mg := Mg.ext Fqa.1
  have E11 := Ext.trans E10 Fqa.1
  have zE11 := Fqa.1.1
  have Mqa := Fqa.mine
  simp (maxSteps := 4000000) (disch := omega) only [ah, am, Nat.reduceEqDiff, reduceCtorEq, Nat.reduceAdd, Nat.reduceLeDiff, Nat.reduceMul, Nat.reduceLT, if_true, if_false, true_and, and_true, and_self, Nat.reduceBEq, QOp.loads, boxO, bslO, buildO, cutL, fillV, putL, w3, v3]
  refine stepC.of (implPruned_ok _ _ _ Mqa.slt (by omega)) ?_
  intro k0 H12 Fk
  have Mw := Mw.ext Fk.1
  have Mg := Mg.ext Fk.1
  have Mqa := Mqa.ext Fk.1
  have E12 := Ext.trans E11 Fk.1
  have zE12 := Fk.1.1
  have Mk := Fk.mine
  rw [hR] at Mk
  simp (maxSteps := 4000000) (disch := omega) only [ah, am, Nat.reduceEqDiff, reduceCtorEq, Nat.reduceAdd, Nat.reduceLeDiff, Nat.reduceMul, Nat.reduceLT, if_true, if_false, true_and, and_true, and_self, Nat.reduceBEq, QOp.loads, boxO, bslO, buildO, cutL, fillV, putL, w3, v3]
  refine stepC.of (eqNodeS_ok _ _ _ _ Mk.slt Mw.slt (by omega)) ?_
  rintro _ H13 ⟨eH13, rfl⟩
  have Mw := Mw.ext eH13
  have Mg := Mg.ext eH13
  have Mqa := Mqa.ext eH13
  have Mk := Mk.ext eH13
  have E13 := Ext.trans E12 eH13
  have zE13 := eH13.1
  simp (maxSteps := 4000000) (disch := omega) only [ah, am, Nat.reduceEqDiff, reduceCtorEq, Nat.reduceAdd, Nat.reduceLeDiff, Nat.reduceMul, Nat.reduceLT, if_true, if_false, true_and, and_true, and_self, Nat.reduceBEq, QOp.loads, boxO, bslO, buildO, cutL, fillV, putL, w3, v3, eq_self, decide_true]
  refine stepC.of (heldNodeS_ok _ _ _ 1 Mg.slt (by omega) (by omega)) ?_
  rintro _ Hx ⟨hx, rfl⟩; rw [hx]; clear hx Hx
  simp (maxSteps := 4000000) (disch := omega) only [ah, am, Nat.reduceEqDiff, reduceCtorEq, Nat.reduceAdd, Nat.reduceLeDiff, Nat.reduceMul, Nat.reduceLT, if_true, if_false, true_and, and_true, and_self, Nat.reduceBEq, QOp.loads, boxO, bslO, buildO, cutL, fillV, putL, w3, v3, hm, eq_self, decide_true]
end Go.Proofs.Ytdagajblnlemaaa
