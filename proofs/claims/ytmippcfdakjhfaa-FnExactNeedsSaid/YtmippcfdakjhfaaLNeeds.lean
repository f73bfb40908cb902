import Derived.Test.YtmippcfdakjhfaaG1
import Derived.Test.YtmippcfdakjhfaaT4
namespace Go.Proofs.Ytmippcfdakjhfaa
open Go Go.Ah
set_option linter.unusedSimpArgs false
set_option linter.unusedVariables false
set_option maxRecDepth 10000
set_option maxHeartbeats 4000000
/-! 7 loop.example/g00066/laws.FnExactNeeds: parameters 2, live [0, 1], slots [0:aTracks, 1:aHandle, 2:aTracks, 3:aHandle, 5:left, 6:w0, 7:x0, 8:g0, 9:k, 10:m, 11:q, 12:h0] -/
def c7_0 : List SOper := [⟨some 4, .q (.mv (.c (.bool false))), none⟩]
def c7_1 : List SOper := [⟨some 5, .q (.mv (.c (.int .i64 1048576))), none⟩]
def c7_2 : List SOper := [⟨some 13, .q (.mv (.t 0)), none⟩, ⟨some 14, .q (.mv (.t 5)), none⟩, ⟨some 15, .e (.call 23 [(.t 13), (.t 14)]), none⟩, ⟨some 5, .q (.mv (.t 15)), none⟩]
def c7_3 : List SOper := [⟨some 16, .q (.mv (.t 5)), none⟩, ⟨some 17, .q (.bin .lss (.t 16) (.c (.int .i64 0))), none⟩]
def c7_4 : List SOper := [⟨some 4, .q (.mv (.c (.bool true))), none⟩]
def c7_5 : SCode := .seq (.region c7_4 [4]) .ret
def c7_6 : SCode := .cond (.t 17) c7_5 .skip
def c7_7 : SCode := .seq (.region c7_3 [0, 1, 17]) c7_6
def c7_8 : List SOper := [⟨some 18, .q (.mv (.t 0)), none⟩, ⟨some 19, .e (.call 24 [(.t 18)]), none⟩, ⟨some 20, .q (.mv (.t 1)), none⟩, ⟨some 21, .e (.call 22 [(.t 19), (.t 20)]), none⟩, ⟨some 6, .q (.mv (.t 21)), none⟩]
def c7_9 : List SOper := [⟨some 22, .q (.mv (.t 0)), none⟩, ⟨some 23, .e (.call 24 [(.t 22)]), none⟩, ⟨some 7, .q (.mv (.t 23)), none⟩]
def c7_10 : List SOper := [⟨some 24, .q (.mv (.t 7)), none⟩, ⟨some 25, .q (.mv (.t 1)), none⟩, ⟨some 26, .e (.call 21 [(.t 24), (.t 25)]), none⟩, ⟨some 8, .q (.mv (.t 26)), none⟩]
def c7_11 : List SOper := [⟨some 27, .q (.mv (.t 8)), none⟩, ⟨some 28, .q (.mv (.t 6)), none⟩, ⟨some 29, .e (.call 12 [(.t 27), (.t 28)]), none⟩, ⟨some 30, .q (.not (.t 29)), none⟩]
def c7_12 : List SOper := [⟨some 4, .q (.mv (.c (.bool false))), none⟩]
def c7_13 : SCode := .seq (.region c7_12 [4]) .ret
def c7_14 : SCode := .cond (.t 30) c7_13 .skip
def c7_15 : SCode := .seq (.region c7_11 [0, 1, 6, 7, 8, 30]) c7_14
def c7_16 : List SOper := [⟨some 31, .q (.mv (.t 7)), none⟩, ⟨some 32, .q (.mv (.t 0)), none⟩, ⟨some 33, .e (.call 24 [(.t 32)]), none⟩, ⟨some 34, .e (.call 25 [(.t 31), (.t 33)]), none⟩, ⟨some 35, .q (.not (.t 34)), none⟩]
def c7_17 : List SOper := [⟨some 4, .q (.mv (.c (.bool false))), none⟩]
def c7_18 : SCode := .seq (.region c7_17 [4]) .ret
def c7_19 : SCode := .cond (.t 35) c7_18 .skip
def c7_20 : SCode := .seq (.region c7_16 [0, 1, 6, 7, 8, 35]) c7_19
def c7_21 : List SOper := [⟨some 9, .q (.mv (.c (.int .i64 1))), none⟩]
def c7_22 : List SOper := [⟨some 36, .q (.mv (.t 7)), none⟩, ⟨some 37, .q (.mv (.t 9)), none⟩, ⟨some 38, .e (.call 26 [(.t 36), (.t 37)]), none⟩, ⟨some 9, .q (.mv (.t 38)), none⟩]
def c7_23 : List SOper := [⟨some 39, .q (.mv (.t 9)), none⟩, ⟨some 40, .q (.bin .lss (.t 39) (.c (.int .i64 0))), none⟩, ⟨some 41, .q (.mv (.t 40)), none⟩, ⟨some 42, .q (.mv (.t 8)), some (41, false)⟩, ⟨some 43, .q (.mv (.t 6)), some (41, false)⟩, ⟨some 44, .e (.call 12 [(.t 42), (.t 43)]), some (41, false)⟩, ⟨some 45, .q (.not (.t 44)), some (41, false)⟩, ⟨some 46, .q (.pick (.t 41) (.c (.bool true)) (.t 45)), none⟩]
def c7_24 : List SOper := [⟨some 4, .q (.mv (.c (.bool false))), none⟩]
def c7_25 : SCode := .seq (.region c7_24 [4]) .ret
def c7_26 : SCode := .cond (.t 46) c7_25 .skip
def c7_27 : SCode := .seq (.region c7_23 [0, 1, 6, 8, 46]) c7_26
def c7_28 : List SOper := [⟨some 10, .q (.mv (.c (.int .i64 1))), none⟩]
def c7_29 : List SOper := [⟨some 47, .q (.mv (.t 8)), none⟩, ⟨some 48, .q (.mv (.t 10)), none⟩, ⟨some 49, .e (.call 15 [(.t 47), (.t 48)]), none⟩, ⟨some 10, .q (.mv (.t 49)), none⟩]
def c7_30 : List SOper := [⟨some 11, .q (.mv (.c (.int .i64 1))), none⟩]
def c7_31 : List SOper := [⟨some 50, .q (.mv (.t 8)), none⟩, ⟨some 51, .q (.mv (.t 11)), none⟩, ⟨some 52, .e (.call 16 [(.t 50), (.t 51)]), none⟩, ⟨some 11, .q (.mv (.t 52)), none⟩]
def c7_32 : List SOper := [⟨some 53, .q (.mv (.t 11)), none⟩, ⟨some 54, .q (.bin .lss (.t 53) (.c (.int .i64 0))), none⟩]
def c7_33 : List SOper := [⟨some 4, .q (.mv (.c (.bool false))), none⟩]
def c7_34 : SCode := .seq (.region c7_33 [4]) .ret
def c7_35 : SCode := .cond (.t 54) c7_34 .skip
def c7_36 : SCode := .seq (.region c7_32 [0, 1, 6, 8, 10, 11, 54]) c7_35
def c7_37 : List SOper := [⟨some 55, .q (.mv (.t 11)), none⟩, ⟨some 56, .q (.mv (.t 10)), none⟩, ⟨some 57, .q (.bin .neq (.t 55) (.t 56)), none⟩]
def c7_38 : List SOper := [⟨some 4, .q (.mv (.c (.bool false))), none⟩]
def c7_39 : SCode := .seq (.region c7_38 [4]) .ret
def c7_40 : SCode := .cond (.t 57) c7_39 .skip
def c7_41 : SCode := .seq (.region c7_37 [0, 1, 6, 8, 10, 57]) c7_40
def c7_42 : List SOper := [⟨some 58, .q (.mv (.t 0)), none⟩, ⟨some 59, .e (.call 24 [(.t 58)]), none⟩, ⟨some 60, .q (.mv (.t 1)), none⟩, ⟨some 61, .e (.call 21 [(.t 59), (.t 60)]), none⟩, ⟨some 12, .q (.mv (.t 61)), none⟩]
def c7_43 : List SOper := [⟨some 62, .q (.mv (.t 12)), none⟩, ⟨some 63, .q (.mv (.t 6)), none⟩, ⟨some 64, .e (.call 12 [(.t 62), (.t 63)]), none⟩, ⟨some 65, .q (.not (.t 64)), none⟩]
def c7_44 : List SOper := [⟨some 4, .q (.mv (.c (.bool false))), none⟩]
def c7_45 : SCode := .seq (.region c7_44 [4]) .ret
def c7_46 : SCode := .cond (.t 65) c7_45 .skip
def c7_47 : SCode := .seq (.region c7_43 [8, 10, 65]) c7_46
def c7_48 : List SOper := [⟨some 11, .q (.mv (.c (.int .i64 1))), none⟩]
def c7_49 : List SOper := [⟨some 66, .q (.mv (.t 8)), none⟩, ⟨some 67, .q (.mv (.t 11)), none⟩, ⟨some 68, .e (.call 16 [(.t 66), (.t 67)]), none⟩, ⟨some 11, .q (.mv (.t 68)), none⟩]
def c7_50 : List SOper := [⟨some 69, .q (.mv (.t 11)), none⟩, ⟨some 70, .q (.bin .lss (.t 69) (.c (.int .i64 0))), none⟩]
def c7_51 : List SOper := [⟨some 4, .q (.mv (.c (.bool false))), none⟩]
def c7_52 : SCode := .seq (.region c7_51 [4]) .ret
def c7_53 : SCode := .cond (.t 70) c7_52 .skip
def c7_54 : SCode := .seq (.region c7_50 [10, 11, 70]) c7_53
def c7_55 : List SOper := [⟨some 71, .q (.mv (.t 11)), none⟩, ⟨some 72, .q (.mv (.t 10)), none⟩, ⟨some 73, .q (.bin .neq (.t 71) (.t 72)), none⟩]
def c7_56 : List SOper := [⟨some 4, .q (.mv (.c (.bool false))), none⟩]
def c7_57 : SCode := .seq (.region c7_56 [4]) .ret
def c7_58 : SCode := .cond (.t 73) c7_57 .skip
def c7_59 : SCode := .seq (.region c7_55 [73]) c7_58
def c7_60 : List SOper := [⟨some 4, .q (.mv (.c (.bool true))), none⟩]
def c7_61 : SCode := .seq (.region c7_60 [4]) .ret
def c7_62 : SCode := .seq c7_59 c7_61
def c7_63 : SCode := .seq c7_54 c7_62
def c7_64 : SCode := .seq (.region c7_49 [10, 11]) c7_63
def c7_65 : SCode := .seq (.region c7_48 [8, 10, 11]) c7_64
def c7_66 : SCode := .seq c7_47 c7_65
def c7_67 : SCode := .seq (.region c7_42 [6, 8, 10, 12]) c7_66
def c7_68 : SCode := .seq c7_41 c7_67
def c7_69 : SCode := .seq c7_36 c7_68
def c7_70 : SCode := .seq (.region c7_31 [0, 1, 6, 8, 10, 11]) c7_69
def c7_71 : SCode := .seq (.region c7_30 [0, 1, 6, 8, 10, 11]) c7_70
def c7_72 : SCode := .seq (.region c7_29 [0, 1, 6, 8, 10]) c7_71
def c7_73 : SCode := .seq (.region c7_28 [0, 1, 6, 8, 10]) c7_72
def c7_74 : SCode := .seq c7_27 c7_73
def c7_75 : SCode := .seq (.region c7_22 [0, 1, 6, 8, 9]) c7_74
def c7_76 : SCode := .seq (.region c7_21 [0, 1, 6, 7, 8, 9]) c7_75
def c7_77 : SCode := .seq c7_20 c7_76
def c7_78 : SCode := .seq c7_15 c7_77
def c7_79 : SCode := .seq (.region c7_10 [0, 1, 6, 7, 8]) c7_78
def c7_80 : SCode := .seq (.region c7_9 [0, 1, 6, 7]) c7_79
def c7_81 : SCode := .seq (.region c7_8 [0, 1, 6]) c7_80
def c7_82 : SCode := .seq c7_7 c7_81
def c7_83 : SCode := .seq (.region c7_2 [0, 1, 5]) c7_82
def c7_84 : SCode := .seq (.region c7_1 [0, 1, 5]) c7_83
def c7_85 : SCode := .seq (.region c7_0 [0, 1]) c7_84
def c7 : SCode := c7_85
theorem w7 : type_of% (And.intro (uR Try.prog c7_0.eq_1) (And.intro (uR Try.prog c7_1.eq_1) (And.intro (uR Try.prog c7_2.eq_1) (And.intro (uR Try.prog c7_3.eq_1) (And.intro (uR Try.prog c7_4.eq_1) (And.intro (uC Try.prog c7_5.eq_1) (And.intro (uC Try.prog c7_6.eq_1) (And.intro (uC Try.prog c7_7.eq_1) (And.intro (uR Try.prog c7_8.eq_1) (And.intro (uR Try.prog c7_9.eq_1) (And.intro (uR Try.prog c7_10.eq_1) (And.intro (uR Try.prog c7_11.eq_1) (And.intro (uR Try.prog c7_12.eq_1) (And.intro (uC Try.prog c7_13.eq_1) (And.intro (uC Try.prog c7_14.eq_1) (And.intro (uC Try.prog c7_15.eq_1) (And.intro (uR Try.prog c7_16.eq_1) (And.intro (uR Try.prog c7_17.eq_1) (And.intro (uC Try.prog c7_18.eq_1) (And.intro (uC Try.prog c7_19.eq_1) (And.intro (uC Try.prog c7_20.eq_1) (And.intro (uR Try.prog c7_21.eq_1) (And.intro (uR Try.prog c7_22.eq_1) (And.intro (uR Try.prog c7_23.eq_1) (And.intro (uR Try.prog c7_24.eq_1) (And.intro (uC Try.prog c7_25.eq_1) (And.intro (uC Try.prog c7_26.eq_1) (And.intro (uC Try.prog c7_27.eq_1) (And.intro (uR Try.prog c7_28.eq_1) (And.intro (uR Try.prog c7_29.eq_1) (And.intro (uR Try.prog c7_30.eq_1) (And.intro (uR Try.prog c7_31.eq_1) (And.intro (uR Try.prog c7_32.eq_1) (And.intro (uR Try.prog c7_33.eq_1) (And.intro (uC Try.prog c7_34.eq_1) (And.intro (uC Try.prog c7_35.eq_1) (And.intro (uC Try.prog c7_36.eq_1) (And.intro (uR Try.prog c7_37.eq_1) (And.intro (uR Try.prog c7_38.eq_1) (And.intro (uC Try.prog c7_39.eq_1) (And.intro (uC Try.prog c7_40.eq_1) (And.intro (uC Try.prog c7_41.eq_1) (And.intro (uR Try.prog c7_42.eq_1) (And.intro (uR Try.prog c7_43.eq_1) (And.intro (uR Try.prog c7_44.eq_1) (And.intro (uC Try.prog c7_45.eq_1) (And.intro (uC Try.prog c7_46.eq_1) (And.intro (uC Try.prog c7_47.eq_1) (And.intro (uR Try.prog c7_48.eq_1) (And.intro (uR Try.prog c7_49.eq_1) (And.intro (uR Try.prog c7_50.eq_1) (And.intro (uR Try.prog c7_51.eq_1) (And.intro (uC Try.prog c7_52.eq_1) (And.intro (uC Try.prog c7_53.eq_1) (And.intro (uC Try.prog c7_54.eq_1) (And.intro (uR Try.prog c7_55.eq_1) (And.intro (uR Try.prog c7_56.eq_1) (And.intro (uC Try.prog c7_57.eq_1) (And.intro (uC Try.prog c7_58.eq_1) (And.intro (uC Try.prog c7_59.eq_1) (And.intro (uR Try.prog c7_60.eq_1) (And.intro (uC Try.prog c7_61.eq_1) (And.intro (uC Try.prog c7_62.eq_1) (And.intro (uC Try.prog c7_63.eq_1) (And.intro (uC Try.prog c7_64.eq_1) (And.intro (uC Try.prog c7_65.eq_1) (And.intro (uC Try.prog c7_66.eq_1) (And.intro (uC Try.prog c7_67.eq_1) (And.intro (uC Try.prog c7_68.eq_1) (And.intro (uC Try.prog c7_69.eq_1) (And.intro (uC Try.prog c7_70.eq_1) (And.intro (uC Try.prog c7_71.eq_1) (And.intro (uC Try.prog c7_72.eq_1) (And.intro (uC Try.prog c7_73.eq_1) (And.intro (uC Try.prog c7_74.eq_1) (And.intro (uC Try.prog c7_75.eq_1) (And.intro (uC Try.prog c7_76.eq_1) (And.intro (uC Try.prog c7_77.eq_1) (And.intro (uC Try.prog c7_78.eq_1) (And.intro (uC Try.prog c7_79.eq_1) (And.intro (uC Try.prog c7_80.eq_1) (And.intro (uC Try.prog c7_81.eq_1) (And.intro (uC Try.prog c7_82.eq_1) (And.intro (uC Try.prog c7_83.eq_1) (And.intro (uC Try.prog c7_84.eq_1) (And.intro (uC Try.prog c7_85.eq_1) (uC Try.prog c7.eq_1))))))))))))))))))))))))))))))))))))))))))))))))))))))))))))))))))))))))))))))))))))))) := (And.intro (uR Try.prog c7_0.eq_1) (And.intro (uR Try.prog c7_1.eq_1) (And.intro (uR Try.prog c7_2.eq_1) (And.intro (uR Try.prog c7_3.eq_1) (And.intro (uR Try.prog c7_4.eq_1) (And.intro (uC Try.prog c7_5.eq_1) (And.intro (uC Try.prog c7_6.eq_1) (And.intro (uC Try.prog c7_7.eq_1) (And.intro (uR Try.prog c7_8.eq_1) (And.intro (uR Try.prog c7_9.eq_1) (And.intro (uR Try.prog c7_10.eq_1) (And.intro (uR Try.prog c7_11.eq_1) (And.intro (uR Try.prog c7_12.eq_1) (And.intro (uC Try.prog c7_13.eq_1) (And.intro (uC Try.prog c7_14.eq_1) (And.intro (uC Try.prog c7_15.eq_1) (And.intro (uR Try.prog c7_16.eq_1) (And.intro (uR Try.prog c7_17.eq_1) (And.intro (uC Try.prog c7_18.eq_1) (And.intro (uC Try.prog c7_19.eq_1) (And.intro (uC Try.prog c7_20.eq_1) (And.intro (uR Try.prog c7_21.eq_1) (And.intro (uR Try.prog c7_22.eq_1) (And.intro (uR Try.prog c7_23.eq_1) (And.intro (uR Try.prog c7_24.eq_1) (And.intro (uC Try.prog c7_25.eq_1) (And.intro (uC Try.prog c7_26.eq_1) (And.intro (uC Try.prog c7_27.eq_1) (And.intro (uR Try.prog c7_28.eq_1) (And.intro (uR Try.prog c7_29.eq_1) (And.intro (uR Try.prog c7_30.eq_1) (And.intro (uR Try.prog c7_31.eq_1) (And.intro (uR Try.prog c7_32.eq_1) (And.intro (uR Try.prog c7_33.eq_1) (And.intro (uC Try.prog c7_34.eq_1) (And.intro (uC Try.prog c7_35.eq_1) (And.intro (uC Try.prog c7_36.eq_1) (And.intro (uR Try.prog c7_37.eq_1) (And.intro (uR Try.prog c7_38.eq_1) (And.intro (uC Try.prog c7_39.eq_1) (And.intro (uC Try.prog c7_40.eq_1) (And.intro (uC Try.prog c7_41.eq_1) (And.intro (uR Try.prog c7_42.eq_1) (And.intro (uR Try.prog c7_43.eq_1) (And.intro (uR Try.prog c7_44.eq_1) (And.intro (uC Try.prog c7_45.eq_1) (And.intro (uC Try.prog c7_46.eq_1) (And.intro (uC Try.prog c7_47.eq_1) (And.intro (uR Try.prog c7_48.eq_1) (And.intro (uR Try.prog c7_49.eq_1) (And.intro (uR Try.prog c7_50.eq_1) (And.intro (uR Try.prog c7_51.eq_1) (And.intro (uC Try.prog c7_52.eq_1) (And.intro (uC Try.prog c7_53.eq_1) (And.intro (uC Try.prog c7_54.eq_1) (And.intro (uR Try.prog c7_55.eq_1) (And.intro (uR Try.prog c7_56.eq_1) (And.intro (uC Try.prog c7_57.eq_1) (And.intro (uC Try.prog c7_58.eq_1) (And.intro (uC Try.prog c7_59.eq_1) (And.intro (uR Try.prog c7_60.eq_1) (And.intro (uC Try.prog c7_61.eq_1) (And.intro (uC Try.prog c7_62.eq_1) (And.intro (uC Try.prog c7_63.eq_1) (And.intro (uC Try.prog c7_64.eq_1) (And.intro (uC Try.prog c7_65.eq_1) (And.intro (uC Try.prog c7_66.eq_1) (And.intro (uC Try.prog c7_67.eq_1) (And.intro (uC Try.prog c7_68.eq_1) (And.intro (uC Try.prog c7_69.eq_1) (And.intro (uC Try.prog c7_70.eq_1) (And.intro (uC Try.prog c7_71.eq_1) (And.intro (uC Try.prog c7_72.eq_1) (And.intro (uC Try.prog c7_73.eq_1) (And.intro (uC Try.prog c7_74.eq_1) (And.intro (uC Try.prog c7_75.eq_1) (And.intro (uC Try.prog c7_76.eq_1) (And.intro (uC Try.prog c7_77.eq_1) (And.intro (uC Try.prog c7_78.eq_1) (And.intro (uC Try.prog c7_79.eq_1) (And.intro (uC Try.prog c7_80.eq_1) (And.intro (uC Try.prog c7_81.eq_1) (And.intro (uC Try.prog c7_82.eq_1) (And.intro (uC Try.prog c7_83.eq_1) (And.intro (uC Try.prog c7_84.eq_1) (And.intro (uC Try.prog c7_85.eq_1) (uC Try.prog c7.eq_1)))))))))))))))))))))))))))))))))))))))))))))))))))))))))))))))))))))))))))))))))))))))
def v7 : List RV := [.t 4]
theorem s7 : slimF Try.prog Try.f7 = some (c7.bare, v7) := by kernel_rfl

theorem FnExactNeeds_ok (h : Heap) (vts : Value) (ts : List (List Clip)) (n : Int) (sts : TracksAt h vts ts) (hlts : ts.length ≤ 9223372036854775807) (hnts : ∀ t ∈ ts, t.length ≤ 9223372036854775807) :
    ACall Try.prog 7 [vts, .int .i64 n] h fun r h' => r = .bool true := by
  refine ACall.of Try.func7 s7 (of_decide_eq_true rfl) ?_
  simp (maxSteps := 4000000) (disch := omega) only [ah, am, Nat.reduceEqDiff, reduceCtorEq, Nat.reduceAdd, Nat.reduceLeDiff, Nat.reduceMul, Nat.reduceLT, if_true, if_false, true_and, and_true, and_self, Nat.reduceBEq, QOp.loads, boxO, bslO, buildO, cutL, fillV, putL, w7, v7]
  refine stepC.of (szClipSS_ok _ vts ts (1048576) sts (by omega) (by omega) hlts hnts) ?_
  rintro _ H1 ⟨eH1, zts, rfl, hzts⟩
  have E1 := (show Ext h _ from eH1)
  have zE1 := eH1.1
  simp (maxSteps := 4000000) (disch := omega) only [ah, am, Nat.reduceEqDiff, reduceCtorEq, Nat.reduceAdd, Nat.reduceLeDiff, Nat.reduceMul, Nat.reduceLT, if_true, if_false, true_and, and_true, and_self, Nat.reduceBEq, QOp.loads, boxO, bslO, buildO, cutL, fillV, putL, w7, v7]
  by_cases hsz0 : zts < 0
  · simp (maxSteps := 4000000) (disch := omega) only [ah, am, Nat.reduceEqDiff, reduceCtorEq, Nat.reduceAdd, Nat.reduceLeDiff, Nat.reduceMul, Nat.reduceLT, if_true, if_false, true_and, and_true, and_self, Nat.reduceBEq, QOp.loads, boxO, bslO, buildO, cutL, fillV, putL, w7, v7, decide_eq_true hsz0]
  have hzzts : (zts : Int) = 1048576 - ts.length - totK ts := by omega
  simp (maxSteps := 4000000) (disch := omega) only [ah, am, Nat.reduceEqDiff, reduceCtorEq, Nat.reduceAdd, Nat.reduceLeDiff, Nat.reduceMul, Nat.reduceLT, if_true, if_false, true_and, and_true, and_self, Nat.reduceBEq, QOp.loads, boxO, bslO, buildO, cutL, fillV, putL, w7, v7, decide_eq_false hsz0]
  have hllts : ts.length ≤ 1048576 ∧ totK ts ≤ 1048576 := by omega
  have hF := needsF_len ts n
  refine stepC.of (toClipSS_ok _ _ _ (sts.ext E1) hllts.1 hllts.2) ?_
  rintro tpts H2 ⟨Fpts, Mpts⟩
  have E2 := Ext.trans E1 Fpts
  have zE2 := Fpts.1
  simp (maxSteps := 4000000) (disch := omega) only [ah, am, Nat.reduceEqDiff, reduceCtorEq, Nat.reduceAdd, Nat.reduceLeDiff, Nat.reduceMul, Nat.reduceLT, if_true, if_false, true_and, and_true, and_self, Nat.reduceBEq, QOp.loads, boxO, bslO, buildO, cutL, fillV, putL, w7, v7]
  refine stepC.of (specNeeds_ok _ _ ts n Mpts.at (by omega) (row_len hllts.2)) ?_
  intro w0 H3 Fw
  have Mpts := Mpts.ext Fw.1
  have E3 := Ext.trans E2 Fw.1
  have zE3 := Fw.1.1
  have Mw := Fw.mine
  simp (maxSteps := 4000000) (disch := omega) only [ah, am, Nat.reduceEqDiff, reduceCtorEq, Nat.reduceAdd, Nat.reduceLeDiff, Nat.reduceMul, Nat.reduceLT, if_true, if_false, true_and, and_true, and_self, Nat.reduceBEq, QOp.loads, boxO, bslO, buildO, cutL, fillV, putL, w7, v7]
  refine stepC.of (toClipSS_ok _ _ _ (sts.ext E3) hllts.1 hllts.2) ?_
  rintro txts H4 ⟨Fxts, Mxts⟩
  have Mw := Mw.ext Fxts
  have E4 := Ext.trans E3 Fxts
  have zE4 := Fxts.1
  simp (maxSteps := 4000000) (disch := omega) only [ah, am, Nat.reduceEqDiff, reduceCtorEq, Nat.reduceAdd, Nat.reduceLeDiff, Nat.reduceMul, Nat.reduceLT, if_true, if_false, true_and, and_true, and_self, Nat.reduceBEq, QOp.loads, boxO, bslO, buildO, cutL, fillV, putL, w7, v7]
  refine stepC.of (Needs_ok _ _ ts n Mxts.at (by omega) (row_len hllts.2)) ?_
  intro g0 H5 Fg
  have Mw := Mw.ext Fg.1
  have Mxts := Mxts.ext Fg.1
  have E5 := Ext.trans E4 Fg.1
  have zE5 := Fg.1.1
  have Mg := Fg.mine
  generalize hR : needsF ts n = rl at Mw Mg hF
  simp (maxSteps := 4000000) (disch := omega) only [ah, am, Nat.reduceEqDiff, reduceCtorEq, Nat.reduceAdd, Nat.reduceLeDiff, Nat.reduceMul, Nat.reduceLT, if_true, if_false, true_and, and_true, and_self, Nat.reduceBEq, QOp.loads, boxO, bslO, buildO, cutL, fillV, putL, w7, v7]
  refine stepC.of (eqReelS_ok _ _ _ _ _ Mg.slt Mw.slt (by omega) (by omega)) ?_
  rintro _ H6 ⟨eH6, rfl⟩
  have Mw := Mw.ext eH6
  have Mxts := Mxts.ext eH6
  have Mg := Mg.ext eH6
  have E6 := Ext.trans E5 eH6
  have zE6 := eH6.1
  simp (maxSteps := 4000000) (disch := omega) only [ah, am, Nat.reduceEqDiff, reduceCtorEq, Nat.reduceAdd, Nat.reduceLeDiff, Nat.reduceMul, Nat.reduceLT, if_true, if_false, true_and, and_true, and_self, Nat.reduceBEq, QOp.loads, boxO, bslO, buildO, cutL, fillV, putL, w7, v7, eq_self, decide_true]
  refine stepC.of (toClipSS_ok _ _ _ (sts.ext E6) hllts.1 hllts.2) ?_
  rintro tyts H7 ⟨Fyts, Myts⟩
  have Mw := Mw.ext Fyts
  have Mxts := Mxts.ext Fyts
  have Mg := Mg.ext Fyts
  have E7 := Ext.trans E6 Fyts
  have zE7 := Fyts.1
  simp (maxSteps := 4000000) (disch := omega) only [ah, am, Nat.reduceEqDiff, reduceCtorEq, Nat.reduceAdd, Nat.reduceLeDiff, Nat.reduceMul, Nat.reduceLT, if_true, if_false, true_and, and_true, and_self, Nat.reduceBEq, QOp.loads, boxO, bslO, buildO, cutL, fillV, putL, w7, v7]
  refine stepC.of (eqClipSS_ok _ _ _ _ _ Mxts.at Myts.at (by omega) (by omega) (by omega) (by omega)) ?_
  rintro _ H8 ⟨eH8, rfl⟩
  have Mw := Mw.ext eH8
  have Mxts := Mxts.ext eH8
  have Mg := Mg.ext eH8
  have Myts := Myts.ext eH8
  have E8 := Ext.trans E7 eH8
  have zE8 := eH8.1
  simp (maxSteps := 4000000) (disch := omega) only [ah, am, Nat.reduceEqDiff, reduceCtorEq, Nat.reduceAdd, Nat.reduceLeDiff, Nat.reduceMul, Nat.reduceLT, if_true, if_false, true_and, and_true, and_self, Nat.reduceBEq, QOp.loads, boxO, bslO, buildO, cutL, fillV, putL, w7, v7, eq_self, decide_true]
  refine stepC.of (markClipSS_mine (1) Mxts (by omega) (by omega) (by omega)) ?_
  rintro _ H9 ⟨cH9, rfl⟩
  have Mw := Mw.chg cH9 (by omega)
  have Mg := Mg.chg cH9 (by omega)
  have E9 := cH9.ext E8 (by omega)
  have zE9 := cH9.1
  have hk : decide (((1 : Int) + 3 * totK ts : Int) < 0) = false := decide_eq_false (by omega)
  simp (maxSteps := 4000000) (disch := omega) only [ah, am, Nat.reduceEqDiff, reduceCtorEq, Nat.reduceAdd, Nat.reduceLeDiff, Nat.reduceMul, Nat.reduceLT, if_true, if_false, true_and, and_true, and_self, Nat.reduceBEq, QOp.loads, boxO, bslO, buildO, cutL, fillV, putL, w7, v7, hk]
  refine stepC.of (eqReelS_ok _ _ _ _ _ Mg.slt Mw.slt (by omega) (by omega)) ?_
  rintro _ H10 ⟨eH10, rfl⟩
  have Mw := Mw.ext eH10
  have Mg := Mg.ext eH10
  have E10 := Ext.trans E9 eH10
  have zE10 := eH10.1
  simp (maxSteps := 4000000) (disch := omega) only [ah, am, Nat.reduceEqDiff, reduceCtorEq, Nat.reduceAdd, Nat.reduceLeDiff, Nat.reduceMul, Nat.reduceLT, if_true, if_false, true_and, and_true, and_self, Nat.reduceBEq, QOp.loads, boxO, bslO, buildO, cutL, fillV, putL, w7, v7, eq_self, decide_true]
  refine stepC.of (markReelS_mine (1) Mg (by omega) (by omega)) ?_
  rintro _ H11 ⟨cH11, Mg', rfl⟩
  have Mw := Mw.chg cH11 (by omega)
  have Mg := Mg'
  have E11 := cH11.ext E10 (by omega)
  have zE11 := cH11.1
  have hm : decide ((1 : Int) + 3 * rl.length < 0) = false := decide_eq_false (by omega)
  simp (maxSteps := 4000000) (disch := omega) only [ah, am, Nat.reduceEqDiff, reduceCtorEq, Nat.reduceAdd, Nat.reduceLeDiff, Nat.reduceMul, Nat.reduceLT, if_true, if_false, true_and, and_true, and_self, Nat.reduceBEq, QOp.loads, boxO, bslO, buildO, cutL, fillV, putL, w7, v7]
  refine stepC.of (heldReelS_ok _ _ _ 1 Mg.slt (by omega) (by omega)) ?_
  rintro _ Hx ⟨hx, rfl⟩; rw [hx]; clear hx Hx
  simp (maxSteps := 4000000) (disch := omega) only [ah, am, Nat.reduceEqDiff, reduceCtorEq, Nat.reduceAdd, Nat.reduceLeDiff, Nat.reduceMul, Nat.reduceLT, if_true, if_false, true_and, and_true, and_self, Nat.reduceBEq, QOp.loads, boxO, bslO, buildO, cutL, fillV, putL, w7, v7, hm, eq_self, decide_true]
  refine stepC.of (toClipSS_ok _ _ _ (sts.ext E11) hllts.1 hllts.2) ?_
  rintro tqts H12 ⟨Fqts, Mqts⟩
  have Mw := Mw.ext Fqts
  have Mg := Mg.ext Fqts
  have E12 := Ext.trans E11 Fqts
  have zE12 := Fqts.1
  simp (maxSteps := 4000000) (disch := omega) only [ah, am, Nat.reduceEqDiff, reduceCtorEq, Nat.reduceAdd, Nat.reduceLeDiff, Nat.reduceMul, Nat.reduceLT, if_true, if_false, true_and, and_true, and_self, Nat.reduceBEq, QOp.loads, boxO, bslO, buildO, cutL, fillV, putL, w7, v7]
  refine stepC.of (Needs_ok _ _ ts n Mqts.at (by omega) (row_len hllts.2)) ?_
  intro k0 H13 Fk
  have Mw := Mw.ext Fk.1
  have Mg := Mg.ext Fk.1
  have Mqts := Mqts.ext Fk.1
  have E13 := Ext.trans E12 Fk.1
  have zE13 := Fk.1.1
  have Mk := Fk.mine
  rw [hR] at Mk
  simp (maxSteps := 4000000) (disch := omega) only [ah, am, Nat.reduceEqDiff, reduceCtorEq, Nat.reduceAdd, Nat.reduceLeDiff, Nat.reduceMul, Nat.reduceLT, if_true, if_false, true_and, and_true, and_self, Nat.reduceBEq, QOp.loads, boxO, bslO, buildO, cutL, fillV, putL, w7, v7]
  refine stepC.of (eqReelS_ok _ _ _ _ _ Mk.slt Mw.slt (by omega) (by omega)) ?_
  rintro _ H14 ⟨eH14, rfl⟩
  have Mw := Mw.ext eH14
  have Mg := Mg.ext eH14
  have Mqts := Mqts.ext eH14
  have Mk := Mk.ext eH14
  have E14 := Ext.trans E13 eH14
  have zE14 := eH14.1
  simp (maxSteps := 4000000) (disch := omega) only [ah, am, Nat.reduceEqDiff, reduceCtorEq, Nat.reduceAdd, Nat.reduceLeDiff, Nat.reduceMul, Nat.reduceLT, if_true, if_false, true_and, and_true, and_self, Nat.reduceBEq, QOp.loads, boxO, bslO, buildO, cutL, fillV, putL, w7, v7, eq_self, decide_true]
  refine stepC.of (heldReelS_ok _ _ _ 1 Mg.slt (by omega) (by omega)) ?_
  rintro _ Hx ⟨hx, rfl⟩; rw [hx]; clear hx Hx
  simp (maxSteps := 4000000) (disch := omega) only [ah, am, Nat.reduceEqDiff, reduceCtorEq, Nat.reduceAdd, Nat.reduceLeDiff, Nat.reduceMul, Nat.reduceLT, if_true, if_false, true_and, and_true, and_self, Nat.reduceBEq, QOp.loads, boxO, bslO, buildO, cutL, fillV, putL, w7, v7, hm, eq_self, decide_true]
end Go.Proofs.Ytmippcfdakjhfaa
