import Derived.Test.YtdagajblnlemaaaP2

namespace Go.Proofs.Ytdagajblnlemaaa
open Go Go.Ah
set_option linter.unusedSimpArgs false
set_option linter.unusedVariables false
set_option maxRecDepth 10000
set_option maxHeartbeats 4000000
/-! 10 loop.example/g00066/spec.Pruned: parameters 1, live [0], slots [0:nodes, 1:nodes, 3:out, 4:n, 5:need, 6:i, 7:to, 8:i, 9:x] -/
def c10_0 : List SOper := [⟨some 2, .q (.mv (.c (.slice none 0 0))), none⟩]
def c10_1 : List SOper := [⟨some 10, .a (.bsl 0 4 [] []), none⟩, ⟨some 3, .q (.mv (.t 10)), none⟩]
def c10_2 : List SOper := [⟨some 11, .q (.mv (.t 0)), none⟩, ⟨some 12, .e (.call 35 [(.t 11)]), none⟩, ⟨some 13, .q (.not (.t 12)), none⟩]
def c10_3 : List SOper := [⟨some 14, .q (.mv (.t 3)), none⟩, ⟨some 2, .q (.mv (.t 14)), none⟩]
def c10_4 : SCode := .seq (.region c10_3 [2]) .ret
def c10_5 : SCode := .cond (.t 13) c10_4 .skip
def c10_6 : SCode := .seq (.region c10_2 [0, 3, 13]) c10_5
def c10_7 : List SOper := [⟨some 15, .q (.mv (.t 0)), none⟩, ⟨some 16, .q (.len (.t 15)), none⟩, ⟨some 4, .q (.mv (.t 16)), none⟩]
def c10_8 : List SOper := [⟨some 17, .q (.mv (.t 4)), none⟩, ⟨some 18, .a (.mks 1 1 [(.bool false)] (.t 17) (.t 17)), none⟩, ⟨some 5, .q (.mv (.t 18)), none⟩]
def c10_9 : List SOper := [⟨some 19, .q (.mv (.t 5)), none⟩, ⟨some 20, .q (.mv (.t 4)), none⟩, ⟨some 21, .q (.bin .sub (.t 20) (.c (.int .i64 1))), none⟩, ⟨some 22, .q (.ia 1 (.t 19) (.t 21)), none⟩, ⟨none, .e (.st 1 (.t 22) (.c (.bool true))), none⟩]
def c10_10 : List SOper := [⟨some 23, .q (.mv (.t 4)), none⟩, ⟨some 24, .q (.bin .sub (.t 23) (.c (.int .i64 1))), none⟩, ⟨some 6, .q (.mv (.t 24)), none⟩]
def c10_11 : List SOper := [⟨some 25, .q (.mv (.t 6)), none⟩, ⟨some 26, .q (.bin .geq (.t 25) (.c (.int .i64 0))), none⟩]
def c10_12 : SCode := .cond (.t 26) .skip (.exit 0)
def c10_13 : SCode := .seq (.region c10_11 [0, 3, 4, 5, 6, 26]) c10_12
def c10_14 : List SOper := [⟨some 29, .q (.mv (.t 5)), none⟩, ⟨some 30, .q (.mv (.t 6)), none⟩, ⟨some 31, .q (.ia 1 (.t 29) (.t 30)), none⟩, ⟨some 32, .q (.ld (.t 31)), none⟩, ⟨some 33, .q (.not (.t 32)), none⟩, ⟨some 34, .q (.mv (.t 33)), none⟩, ⟨some 35, .q (.mv (.t 0)), some (34, false)⟩, ⟨some 36, .q (.mv (.t 6)), some (34, false)⟩, ⟨some 37, .q (.ia 4 (.t 35) (.t 36)), some (34, false)⟩, ⟨some 38, .q (.fa 0 (.t 37)), some (34, false)⟩, ⟨some 39, .q (.ld (.t 38)), some (34, false)⟩, ⟨some 40, .q (.bin .eql (.t 39) (.c (.int .i64 1))), some (34, false)⟩, ⟨some 41, .q (.pick (.t 34) (.c (.bool true)) (.t 40)), none⟩]
def c10_15 : SCode := .cond (.t 41) (.exit 1) .skip
def c10_16 : SCode := .seq (.region c10_14 [0, 3, 4, 5, 6, 41]) c10_15
def c10_17 : List SOper := [⟨some 42, .q (.mv (.t 5)), none⟩, ⟨some 43, .q (.mv (.t 0)), none⟩, ⟨some 44, .q (.mv (.t 6)), none⟩, ⟨some 45, .q (.ia 4 (.t 43) (.t 44)), none⟩, ⟨some 46, .q (.fa 1 (.t 45)), none⟩, ⟨some 47, .q (.ld (.t 46)), none⟩, ⟨some 48, .q (.ia 1 (.t 42) (.t 47)), none⟩, ⟨none, .e (.st 1 (.t 48) (.c (.bool true))), none⟩]
def c10_18 : List SOper := [⟨some 49, .q (.mv (.t 0)), none⟩, ⟨some 50, .q (.mv (.t 6)), none⟩, ⟨some 51, .q (.ia 4 (.t 49) (.t 50)), none⟩, ⟨some 52, .q (.fa 0 (.t 51)), none⟩, ⟨some 53, .q (.ld (.t 52)), none⟩, ⟨some 54, .e (.call 36 [(.t 53)]), none⟩]
def c10_19 : List SOper := [⟨some 55, .q (.mv (.t 5)), none⟩, ⟨some 56, .q (.mv (.t 0)), none⟩, ⟨some 57, .q (.mv (.t 6)), none⟩, ⟨some 58, .q (.ia 4 (.t 56) (.t 57)), none⟩, ⟨some 59, .q (.fa 2 (.t 58)), none⟩, ⟨some 60, .q (.ld (.t 59)), none⟩, ⟨some 61, .q (.ia 1 (.t 55) (.t 60)), none⟩, ⟨none, .e (.st 1 (.t 61) (.c (.bool true))), none⟩]
def c10_20 : SCode := .cond (.t 54) (.region c10_19 [0, 3, 4, 5, 6]) .skip
def c10_21 : SCode := .seq (.region c10_18 [0, 3, 4, 5, 6, 54]) c10_20
def c10_22 : SCode := .seq (.region c10_17 [0, 3, 4, 5, 6]) c10_21
def c10_23 : SCode := .seq c10_16 c10_22
def c10_24 : SCode := .block 1 c10_23
def c10_25 : List SOper := [⟨some 27, .q (.mv (.t 6)), none⟩, ⟨some 28, .q (.bin .sub (.t 27) (.c (.int .i64 1))), none⟩, ⟨some 6, .q (.mv (.t 28)), none⟩]
def c10_26 : SCode := .seq c10_24 (.region c10_25 [0, 3, 4, 5, 6])
def c10_27 : SCode := .seq c10_13 c10_26
def c10_28 : SCode := .loop c10_27
def c10_29 : SCode := .block 0 c10_28
def c10_30 : SCode := .seq (.region c10_10 [0, 3, 4, 5, 6]) c10_29
def c10_31 : List SOper := [⟨some 62, .q (.mv (.t 4)), none⟩, ⟨some 63, .a (.mks 8 1 [(.int .i64 0)] (.t 62) (.t 62)), none⟩, ⟨some 7, .q (.mv (.t 63)), none⟩]
def c10_32 : List SOper := [⟨some 8, .q (.mv (.c (.int .i64 0))), none⟩]
def c10_33 : List SOper := [⟨some 64, .q (.mv (.t 8)), none⟩, ⟨some 65, .q (.mv (.t 4)), none⟩, ⟨some 66, .q (.bin .lss (.t 64) (.t 65)), none⟩]
def c10_34 : SCode := .cond (.t 66) .skip (.exit 2)
def c10_35 : SCode := .seq (.region c10_33 [0, 3, 4, 5, 7, 8, 66]) c10_34
def c10_36 : List SOper := [⟨some 69, .q (.mv (.t 5)), none⟩, ⟨some 70, .q (.mv (.t 8)), none⟩, ⟨some 71, .q (.ia 1 (.t 69) (.t 70)), none⟩, ⟨some 72, .q (.ld (.t 71)), none⟩, ⟨some 73, .q (.not (.t 72)), none⟩]
def c10_37 : SCode := .cond (.t 73) (.exit 3) .skip
def c10_38 : SCode := .seq (.region c10_36 [0, 3, 4, 5, 7, 8, 73]) c10_37
def c10_39 : List SOper := [⟨some 74, .q (.mv (.t 7)), none⟩, ⟨some 75, .q (.mv (.t 8)), none⟩, ⟨some 76, .q (.mv (.t 3)), none⟩, ⟨some 77, .q (.len (.t 76)), none⟩, ⟨some 78, .q (.ia 1 (.t 74) (.t 75)), none⟩, ⟨none, .e (.st 1 (.t 78) (.t 77)), none⟩]
def c10_40 : List SOper := [⟨some 79, .q (.mv (.t 0)), none⟩, ⟨some 80, .q (.mv (.t 8)), none⟩, ⟨some 81, .q (.ia 4 (.t 79) (.t 80)), none⟩, ⟨some 82, .q (.ldn 4 (.t 81)), none⟩, ⟨some 9, .a (.new [(.int .i64 0), (.int .i64 0), (.int .i64 0), (.float .f64 0)]), none⟩, ⟨none, .e (.st 4 (.t 9) (.t 82)), none⟩]
def c10_41 : List SOper := [⟨some 83, .q (.fa 0 (.t 9)), none⟩, ⟨some 84, .q (.ld (.t 83)), none⟩, ⟨some 85, .q (.bin .neq (.t 84) (.c (.int .i64 1))), none⟩]
def c10_42 : List SOper := [⟨some 86, .q (.mv (.t 7)), none⟩, ⟨some 87, .q (.fa 1 (.t 9)), none⟩, ⟨some 88, .q (.ld (.t 87)), none⟩, ⟨some 89, .q (.ia 1 (.t 86) (.t 88)), none⟩, ⟨some 90, .q (.ld (.t 89)), none⟩, ⟨some 91, .q (.fa 1 (.t 9)), none⟩, ⟨none, .e (.st 1 (.t 91) (.t 90)), none⟩]
def c10_43 : SCode := .cond (.t 85) (.region c10_42 [0, 3, 4, 5, 7, 8, 9]) .skip
def c10_44 : SCode := .seq (.region c10_41 [0, 3, 4, 5, 7, 8, 9, 85]) c10_43
def c10_45 : List SOper := [⟨some 92, .q (.fa 0 (.t 9)), none⟩, ⟨some 93, .q (.ld (.t 92)), none⟩, ⟨some 94, .e (.call 36 [(.t 93)]), none⟩]
def c10_46 : List SOper := [⟨some 95, .q (.mv (.t 7)), none⟩, ⟨some 96, .q (.fa 2 (.t 9)), none⟩, ⟨some 97, .q (.ld (.t 96)), none⟩, ⟨some 98, .q (.ia 1 (.t 95) (.t 97)), none⟩, ⟨some 99, .q (.ld (.t 98)), none⟩, ⟨some 100, .q (.fa 2 (.t 9)), none⟩, ⟨none, .e (.st 1 (.t 100) (.t 99)), none⟩]
def c10_47 : SCode := .cond (.t 94) (.region c10_46 [0, 3, 4, 5, 7, 8, 9]) .skip
def c10_48 : SCode := .seq (.region c10_45 [0, 3, 4, 5, 7, 8, 9, 94]) c10_47
def c10_49 : List SOper := [⟨some 101, .q (.mv (.t 3)), none⟩, ⟨some 102, .q (.ldn 4 (.t 9)), none⟩, ⟨some 103, .a (.bsl 1 4 [(.int .i64 0), (.int .i64 0), (.int .i64 0), (.float .f64 0)] [(0, 4, (.t 102))]), none⟩, ⟨some 104, .e (.app 32 4 (.t 101) (.t 103)), none⟩, ⟨some 3, .q (.mv (.t 104)), none⟩]
def c10_50 : SCode := .seq c10_48 (.region c10_49 [0, 3, 4, 5, 7, 8])
def c10_51 : SCode := .seq c10_44 c10_50
def c10_52 : SCode := .seq (.region c10_40 [0, 3, 4, 5, 7, 8, 9]) c10_51
def c10_53 : SCode := .seq (.region c10_39 [0, 3, 4, 5, 7, 8]) c10_52
def c10_54 : SCode := .seq c10_38 c10_53
def c10_55 : SCode := .block 3 c10_54
def c10_56 : List SOper := [⟨some 67, .q (.mv (.t 8)), none⟩, ⟨some 68, .q (.bin .add (.t 67) (.c (.int .i64 1))), none⟩, ⟨some 8, .q (.mv (.t 68)), none⟩]
def c10_57 : SCode := .seq c10_55 (.region c10_56 [0, 3, 4, 5, 7, 8])
def c10_58 : SCode := .seq c10_35 c10_57
def c10_59 : SCode := .loop c10_58
def c10_60 : SCode := .block 2 c10_59
def c10_61 : SCode := .seq (.region c10_32 [0, 3, 4, 5, 7, 8]) c10_60
def c10_62 : List SOper := [⟨some 105, .q (.mv (.t 3)), none⟩, ⟨some 2, .q (.mv (.t 105)), none⟩]
def c10_63 : SCode := .seq (.region c10_62 [2]) .ret
def c10_64 : SCode := .seq c10_61 c10_63
def c10_65 : SCode := .seq (.region c10_31 [0, 3, 4, 5, 7]) c10_64
def c10_66 : SCode := .seq c10_30 c10_65
def c10_67 : SCode := .seq (.region c10_9 [0, 3, 4, 5]) c10_66
def c10_68 : SCode := .seq (.region c10_8 [0, 3, 4, 5]) c10_67
def c10_69 : SCode := .seq (.region c10_7 [0, 3, 4]) c10_68
def c10_70 : SCode := .seq c10_6 c10_69
def c10_71 : SCode := .seq (.region c10_1 [0, 3]) c10_70
def c10_72 : SCode := .seq (.region c10_0 [0]) c10_71
def c10 : SCode := c10_72
theorem w10 : type_of% (And.intro (uR Try.prog c10_0.eq_1) (And.intro (uR Try.prog c10_1.eq_1) (And.intro (uR Try.prog c10_2.eq_1) (And.intro (uR Try.prog c10_3.eq_1) (And.intro (uC Try.prog c10_4.eq_1) (And.intro (uC Try.prog c10_5.eq_1) (And.intro (uC Try.prog c10_6.eq_1) (And.intro (uR Try.prog c10_7.eq_1) (And.intro (uR Try.prog c10_8.eq_1) (And.intro (uR Try.prog c10_9.eq_1) (And.intro (uR Try.prog c10_10.eq_1) (And.intro (uR Try.prog c10_11.eq_1) (And.intro (uC Try.prog c10_12.eq_1) (And.intro (uC Try.prog c10_13.eq_1) (And.intro (uR Try.prog c10_14.eq_1) (And.intro (uC Try.prog c10_15.eq_1) (And.intro (uC Try.prog c10_16.eq_1) (And.intro (uR Try.prog c10_17.eq_1) (And.intro (uR Try.prog c10_18.eq_1) (And.intro (uR Try.prog c10_19.eq_1) (And.intro (uC Try.prog c10_20.eq_1) (And.intro (uC Try.prog c10_21.eq_1) (And.intro (uC Try.prog c10_22.eq_1) (And.intro (uC Try.prog c10_23.eq_1) (And.intro (uC Try.prog c10_24.eq_1) (And.intro (uR Try.prog c10_25.eq_1) (And.intro (uC Try.prog c10_26.eq_1) (And.intro (uC Try.prog c10_27.eq_1) (And.intro (uC Try.prog c10_28.eq_1) (And.intro (uC Try.prog c10_29.eq_1) (And.intro (uC Try.prog c10_30.eq_1) (And.intro (uR Try.prog c10_31.eq_1) (And.intro (uR Try.prog c10_32.eq_1) (And.intro (uR Try.prog c10_33.eq_1) (And.intro (uC Try.prog c10_34.eq_1) (And.intro (uC Try.prog c10_35.eq_1) (And.intro (uR Try.prog c10_36.eq_1) (And.intro (uC Try.prog c10_37.eq_1) (And.intro (uC Try.prog c10_38.eq_1) (And.intro (uR Try.prog c10_39.eq_1) (And.intro (uR Try.prog c10_40.eq_1) (And.intro (uR Try.prog c10_41.eq_1) (And.intro (uR Try.prog c10_42.eq_1) (And.intro (uC Try.prog c10_43.eq_1) (And.intro (uC Try.prog c10_44.eq_1) (And.intro (uR Try.prog c10_45.eq_1) (And.intro (uR Try.prog c10_46.eq_1) (And.intro (uC Try.prog c10_47.eq_1) (And.intro (uC Try.prog c10_48.eq_1) (And.intro (uR Try.prog c10_49.eq_1) (And.intro (uC Try.prog c10_50.eq_1) (And.intro (uC Try.prog c10_51.eq_1) (And.intro (uC Try.prog c10_52.eq_1) (And.intro (uC Try.prog c10_53.eq_1) (And.intro (uC Try.prog c10_54.eq_1) (And.intro (uC Try.prog c10_55.eq_1) (And.intro (uR Try.prog c10_56.eq_1) (And.intro (uC Try.prog c10_57.eq_1) (And.intro (uC Try.prog c10_58.eq_1) (And.intro (uC Try.prog c10_59.eq_1) (And.intro (uC Try.prog c10_60.eq_1) (And.intro (uC Try.prog c10_61.eq_1) (And.intro (uR Try.prog c10_62.eq_1) (And.intro (uC Try.prog c10_63.eq_1) (And.intro (uC Try.prog c10_64.eq_1) (And.intro (uC Try.prog c10_65.eq_1) (And.intro (uC Try.prog c10_66.eq_1) (And.intro (uC Try.prog c10_67.eq_1) (And.intro (uC Try.prog c10_68.eq_1) (And.intro (uC Try.prog c10_69.eq_1) (And.intro (uC Try.prog c10_70.eq_1) (And.intro (uC Try.prog c10_71.eq_1) (And.intro (uC Try.prog c10_72.eq_1) (uC Try.prog c10.eq_1)))))))))))))))))))))))))))))))))))))))))))))))))))))))))))))))))))))))))) := (And.intro (uR Try.prog c10_0.eq_1) (And.intro (uR Try.prog c10_1.eq_1) (And.intro (uR Try.prog c10_2.eq_1) (And.intro (uR Try.prog c10_3.eq_1) (And.intro (uC Try.prog c10_4.eq_1) (And.intro (uC Try.prog c10_5.eq_1) (And.intro (uC Try.prog c10_6.eq_1) (And.intro (uR Try.prog c10_7.eq_1) (And.intro (uR Try.prog c10_8.eq_1) (And.intro (uR Try.prog c10_9.eq_1) (And.intro (uR Try.prog c10_10.eq_1) (And.intro (uR Try.prog c10_11.eq_1) (And.intro (uC Try.prog c10_12.eq_1) (And.intro (uC Try.prog c10_13.eq_1) (And.intro (uR Try.prog c10_14.eq_1) (And.intro (uC Try.prog c10_15.eq_1) (And.intro (uC Try.prog c10_16.eq_1) (And.intro (uR Try.prog c10_17.eq_1) (And.intro (uR Try.prog c10_18.eq_1) (And.intro (uR Try.prog c10_19.eq_1) (And.intro (uC Try.prog c10_20.eq_1) (And.intro (uC Try.prog c10_21.eq_1) (And.intro (uC Try.prog c10_22.eq_1) (And.intro (uC Try.prog c10_23.eq_1) (And.intro (uC Try.prog c10_24.eq_1) (And.intro (uR Try.prog c10_25.eq_1) (And.intro (uC Try.prog c10_26.eq_1) (And.intro (uC Try.prog c10_27.eq_1) (And.intro (uC Try.prog c10_28.eq_1) (And.intro (uC Try.prog c10_29.eq_1) (And.intro (uC Try.prog c10_30.eq_1) (And.intro (uR Try.prog c10_31.eq_1) (And.intro (uR Try.prog c10_32.eq_1) (And.intro (uR Try.prog c10_33.eq_1) (And.intro (uC Try.prog c10_34.eq_1) (And.intro (uC Try.prog c10_35.eq_1) (And.intro (uR Try.prog c10_36.eq_1) (And.intro (uC Try.prog c10_37.eq_1) (And.intro (uC Try.prog c10_38.eq_1) (And.intro (uR Try.prog c10_39.eq_1) (And.intro (uR Try.prog c10_40.eq_1) (And.intro (uR Try.prog c10_41.eq_1) (And.intro (uR Try.prog c10_42.eq_1) (And.intro (uC Try.prog c10_43.eq_1) (And.intro (uC Try.prog c10_44.eq_1) (And.intro (uR Try.prog c10_45.eq_1) (And.intro (uR Try.prog c10_46.eq_1) (And.intro (uC Try.prog c10_47.eq_1) (And.intro (uC Try.prog c10_48.eq_1) (And.intro (uR Try.prog c10_49.eq_1) (And.intro (uC Try.prog c10_50.eq_1) (And.intro (uC Try.prog c10_51.eq_1) (And.intro (uC Try.prog c10_52.eq_1) (And.intro (uC Try.prog c10_53.eq_1) (And.intro (uC Try.prog c10_54.eq_1) (And.intro (uC Try.prog c10_55.eq_1) (And.intro (uR Try.prog c10_56.eq_1) (And.intro (uC Try.prog c10_57.eq_1) (And.intro (uC Try.prog c10_58.eq_1) (And.intro (uC Try.prog c10_59.eq_1) (And.intro (uC Try.prog c10_60.eq_1) (And.intro (uC Try.prog c10_61.eq_1) (And.intro (uR Try.prog c10_62.eq_1) (And.intro (uC Try.prog c10_63.eq_1) (And.intro (uC Try.prog c10_64.eq_1) (And.intro (uC Try.prog c10_65.eq_1) (And.intro (uC Try.prog c10_66.eq_1) (And.intro (uC Try.prog c10_67.eq_1) (And.intro (uC Try.prog c10_68.eq_1) (And.intro (uC Try.prog c10_69.eq_1) (And.intro (uC Try.prog c10_70.eq_1) (And.intro (uC Try.prog c10_71.eq_1) (And.intro (uC Try.prog c10_72.eq_1) (uC Try.prog c10.eq_1))))))))))))))))))))))))))))))))))))))))))))))))))))))))))))))))))))))))))
def v10 : List RV := [.t 2]
theorem s10 : slimF Try.prog Try.f10 = some (c10.bare, v10) := by kernel_rfl

/-! ### What is needed of a graph, and the graph of it -/
def nd (l : List Node) (i : Nat) : Node := l.getD i zNode
theorem nd_eq {l : List Node} {i : Nat} (hi : i < l.length) : nd l i = l[i] := by unfold nd; rw [List.getD, List.getElem?_eq_getElem hi]; rfl
def stepW (x : Node) (w : List Bool) : List Bool := if x.kind = 4 then (w.set x.inn.toNat true).set x.in2.toNat true else w.set x.inn.toNat true
def needS (l : List Node) (i : Nat) (w : List Bool) : List Bool := if w.getD i false = true ∧ (nd l i).kind ≠ 1 then stepW (nd l i) w else w
def needK (l : List Node) : Nat → List Bool
  | 0 => (List.replicate l.length false).set (l.length - 1) true
  | k + 1 => needS l (l.length - 1 - k) (needK l k)
theorem stepW_len (x : Node) (w : List Bool) : (stepW x w).length = w.length := by unfold stepW; split <;> simp
theorem needK_len (l : List Node) : ∀ k, (needK l k).length = l.length := by
  intro k
  induction k with
  | zero => simp [needK]
  | succ k ih => unfold needK needS; split <;> simp [stepW_len, ih]
def outS (l : List Node) (need : List Bool) (i : Nat) (p : List Int × List Node) : List Int × List Node :=
  if need.getD i false = true then
    (p.1.set i p.2.length, p.2 ++ [⟨(nd l i).kind, if (nd l i).kind ≠ 1 then (p.1.set i p.2.length).getD (nd l i).inn.toNat 0 else (nd l i).inn, if (nd l i).kind = 4 then (p.1.set i p.2.length).getD (nd l i).in2.toNat 0 else (nd l i).in2, (nd l i).v⟩])
  else p
def outK (l : List Node) (need : List Bool) : Nat → List Int × List Node
  | 0 => (List.replicate l.length 0, [])
  | k + 1 => outS l need k (outK l need k)
theorem outK_len (l : List Node) (need : List Bool) : ∀ k, (outK l need k).1.length = l.length ∧ (outK l need k).2.length ≤ k := by
  intro k
  induction k with
  | zero => simp [outK]
  | succ k ih =>
    unfold outK outS
    split
    · exact ⟨by simp [ih.1], by simp; omega⟩
    · exact ⟨ih.1, by omega⟩
def prunedF (l : List Node) : List Node := if graphOk l then (outK l (needK l l.length) l.length).2 else []
/-! ### Rows in boxes -/
theorem box_ia {b n : Nat} {j : Int} (h0 : 0 ≤ j) (h1 : j < n) : iaV 1 (.slice (some ⟨b, 0, none⟩) n 1) (.int .i64 j) = some (.pointer (some ⟨b, j.toNat, none⟩)) := by
  rw [iaV_slice _ _ _ _ _ _ h0 (by omega)]; simp
theorem box_ldB {K : Heap} {b : Nat} {w : List Bool} (B : Bx K b (w.map Value.bool)) {j : Nat} (hj : j < w.length) : ldV K (.pointer (some ⟨b, j, none⟩)) = some (.bool (w.getD j false)) := by
  rw [B.ld.1, List.getElem?_map, List.getD, List.getElem?_eq_getElem hj]; rfl
theorem box_ldI {K : Heap} {b : Nat} {w : List Int} (B : Bx K b (w.map (Value.int .i64))) {j : Nat} (hj : j < w.length) : ldV K (.pointer (some ⟨b, j, none⟩)) = some (.int .i64 (w.getD j 0)) := by
  rw [B.ld.1, List.getElem?_map, List.getD, List.getElem?_eq_getElem hj]; rfl
theorem map_splice {α : Type} (f : α → Value) (w : List α) (j : Nat) (x : α) (hj : j < w.length) : splice (w.map f) j [f x] = (w.set j x).map f := by
  unfold splice
  rw [List.map_set, List.set_eq_take_append_cons_drop, if_pos (by simpa using hj)]
  simp
theorem box_putB {K : Heap} {b : Nat} {w : List Bool} (B : Bx K b (w.map Value.bool)) {j : Nat} (hj : j < w.length) (x : Bool) :
    ∃ K', stV K 1 (.pointer (some ⟨b, j, none⟩)) (.bool x) = some K' ∧ Bx K' b ((w.set j x).map Value.bool) ∧ ExtG b K K' := by
  obtain ⟨K', e, B', G⟩ := B.put (o := j) (n := 1) (y := .bool x) rfl (by simp; omega) rfl
  rw [show (Value.bool x).cells.toList = [Value.bool x] from rfl, map_splice Value.bool w j x hj] at B'
  exact ⟨K', e, B', G⟩
theorem box_putI {K : Heap} {b : Nat} {w : List Int} (B : Bx K b (w.map (Value.int .i64))) {j : Nat} (hj : j < w.length) (x : Int) :
    ∃ K', stV K 1 (.pointer (some ⟨b, j, none⟩)) (.int .i64 x) = some K' ∧ Bx K' b ((w.set j x).map (Value.int .i64)) ∧ ExtG b K K' := by
  obtain ⟨K', e, B', G⟩ := B.put (o := j) (n := 1) (y := .int .i64 x) rfl (by simp; omega) rfl
  rw [show (Value.int .i64 x).cells.toList = [Value.int .i64 x] from rfl, map_splice (Value.int .i64) w j x hj] at B'
  exact ⟨K', e, B', G⟩
theorem nodeOk_in {x : Node} {i : Int} (h : nodeOk x i) : (x.kind ≠ 1 → 0 ≤ x.inn ∧ x.inn < i) ∧ (x.kind = 4 → 0 ≤ x.in2 ∧ x.in2 < i) ∧ (1 ≤ x.kind ∧ x.kind ≤ 7) ∧ (x.kind = 1 → x.inn = 0) ∧ (x.kind ≠ 4 → x.in2 = 0) := by
  unfold nodeOk at h
  rcases h with h | h | h | h <;> refine ⟨fun _ => ?_, fun _ => ?_, ?_, fun _ => ?_, fun _ => ?_⟩ <;> omega
/-- A store into one of two boxes beside an own slice. -/
theorem Fk_putI {h K : Heap} {α : Type} {enc : α → List Value} {sz : Nat} {v : Value} {l : List α} {b b2 : Nat} {w : List Int} {cs : List Value} (F : Fk [] h K enc sz v l [(b, w.map (Value.int .i64)), (b2, cs)]) (hb : b2 ≠ b) {j : Nat} (hj : j < w.length) (x : Int) :
    ∃ K', stV K 1 (.pointer (some ⟨b, j, none⟩)) (.int .i64 x) = some K' ∧ Fk [] h K' enc sz v l [(b, (w.set j x).map (Value.int .i64)), (b2, cs)] ∧ ExtG b K K' := by
  obtain ⟨K', e, F', G⟩ := F.put (i := b) (List.mem_cons_self) (o := j) (n := 1) (y := .int .i64 x) rfl (by simp; omega) rfl
  rw [show (Value.int .i64 x).cells.toList = [Value.int .i64 x] from rfl, map_splice (Value.int .i64) w j x hj] at F'
  refine ⟨K', e, F'.sub (fun p hp => ?_), G⟩
  simp only [List.mem_cons, List.not_mem_nil, or_false] at hp
  rcases hp with rfl | rfl
  · exact List.mem_cons_self
  · refine List.mem_cons_of_mem _ ?_
    simp [hb]
theorem l10Two_ok (h : Heap) (k : Int) : ACall Try.prog 36 [.int .i64 k] h fun r h' => h' = h ∧ r = .bool (decide (k = 4)) := by
  refine ACall.of Try.func36 s36 (of_decide_eq_true rfl) ?_
  simp (maxSteps := 4000000) (disch := omega) only [ah, am, Nat.reduceEqDiff, reduceCtorEq, Nat.reduceAdd, Nat.reduceLeDiff, Nat.reduceMul, Nat.reduceLT, if_true, if_false, true_and, and_true, and_self, Nat.reduceBEq, QOp.loads, boxO, bslO, buildO, cutL, fillV, putL, w36, v36]
theorem specPruned_ok (h : Heap) (v : Value) (l : List Node) (s : SlT h encNode 4 v l) (hl : l.length ≤ 281474976710656) : ACall Try.prog 10 [v] h fun r h' => Fresh h h' encNode 4 r (prunedF l) := by
  have F0 := Fresh.new0 (enc := encNode) (sz := 4) h encNode_len (by omega)
  have e0 := F0.1
  refine ACall.of Try.func10 s10 (of_decide_eq_true rfl) ?_
  simp (maxSteps := 4000000) (disch := omega) only [ah, am, Nat.reduceEqDiff, reduceCtorEq, Nat.reduceAdd, Nat.reduceLeDiff, Nat.reduceMul, Nat.reduceLT, if_true, if_false, true_and, and_true, and_self, Nat.reduceBEq, QOp.loads, boxO, bslO, buildO, cutL, fillV, putL, w10, v10]
  refine stepC.of (specGraphOk_ok (h.more [[]]) v l (s.ext e0) hl) ?_
  rintro _ H1 ⟨e1, rfl⟩
  have F1 := F0.ext e1
  by_cases ok : graphOk l
  rotate_left
  · simp (maxSteps := 4000000) (disch := omega) only [ah, am, Nat.reduceEqDiff, reduceCtorEq, Nat.reduceAdd, Nat.reduceLeDiff, Nat.reduceMul, Nat.reduceLT, if_true, if_false, true_and, and_true, and_self, Nat.reduceBEq, QOp.loads, boxO, bslO, buildO, cutL, fillV, putL, w10, v10, decide_eq_false ok, Bool.not_false]
    rw [show prunedF l = [] from if_neg ok]; exact F1
  have hn := ok.1
  have nodes := ok.2
  rw [show prunedF l = (outK l (needK l l.length) l.length).2 from if_pos ok]
  have R := s.rulesN
  have w1 : IntKind.i64.wrap ((l.length : Int) - 1) = ((l.length - 1 : Nat) : Int) := i64e (by omega) (by omega)
  have B0 : Bx (H1.more [(List.replicate l.length false).map Value.bool]) H1.size ((List.replicate l.length false).map Value.bool) := Bx.new H1 _ []
  obtain ⟨H2, es2, B2, G2⟩ := box_putB B0 (j := l.length - 1) (by simp; omega) true
  have e2 := Ext.more H1 [(List.replicate l.length false).map Value.bool]
  have ia1 : iaV 1 (.slice (some ⟨H1.size, 0, none⟩) l.length 1) (.int .i64 ((l.length - 1 : Nat) : Int)) = some (.pointer (some ⟨H1.size, l.length - 1, none⟩)) := by rw [box_ia (by omega) (by omega)]; simp
  have hrep : (List.replicate l.length [Value.bool false]).flatten = (List.replicate l.length false).map Value.bool := by simp
  simp (maxSteps := 4000000) (disch := omega) only [ah, am, Nat.reduceEqDiff, reduceCtorEq, Nat.reduceAdd, Nat.reduceLeDiff, Nat.reduceMul, Nat.reduceLT, if_true, if_false, true_and, and_true, and_self, Nat.reduceBEq, QOp.loads, boxO, bslO, buildO, cutL, fillV, putL, w10, v10, decide_eq_true ok, Bool.not_true, R.1, mksV_nat, hrep, w1, ia1, es2]
  obtain ⟨nb, hnb⟩ : ∃ q, q = H1.size := ⟨_, rfl⟩
  rw [← hnb] at B2 G2 ⊢
  have E1 := e0.trans e1
  have hge : h.size < nb := by have := F1.1.1; have := e1.1; have := size_more h [([] : List Value)]; simp at this; omega
  have E2 : Ext h H2 := G2.ext (E1.trans e2) (by omega)
  refine SW_loop_up (fun k E K => ExtG nb H2 K ∧ Bx K nb ((needK l k).map Value.bool) ∧
    E = [(0, v), (3, .slice (some ⟨h.size, 0, none⟩) 0 4), (4, .int .i64 (l.length : Int)), (5, .slice (some ⟨nb, 0, none⟩) l.length 1), (6, .int .i64 ((l.length : Int) - 1 - (k : Int)))]) l.length 0 (by omega)
    ⟨ExtG.refl _ _, by have := B2; unfold needK; exact this, by congr; omega⟩ ?_
  rintro k E K hk ⟨G, BK, rfl⟩
  have EK : Ext h K := G.ext E2 (by omega)
  have RK := (s.ext EK).rulesN
  have wd : IntKind.i64.wrap ((l.length : Int) - 1 - (k : Int) - 1) = (l.length : Int) - 1 - ((k + 1 : Nat) : Int) := i64e (by omega) (by omega)
  have hnl := needK_len l k
  by_cases c0 : k < l.length
  · obtain ⟨i, hi⟩ : ∃ i : Nat, i = l.length - 1 - k := ⟨_, rfl⟩
    have hi2 : (l.length : Int) - 1 - (k : Int) = (i : Int) := by omega
    have hil : i < l.length := by omega
    have hnx : needK l (k + 1) = needS l i (needK l k) := by rw [hi]; rfl
    rw [hi2] at wd ⊢
    have iai : iaV 1 (.slice (some ⟨nb, 0, none⟩) l.length 1) (.int .i64 (i : Int)) = some (.pointer (some ⟨nb, i, none⟩)) := by rw [box_ia (by omega) (by omega)]; simp
    have ldi := box_ldB BK (j := i) (by omega)
    have ge : decide ((0 : Int) ≤ (i : Int)) = true := decide_eq_true (by omega)
    have IA := RK.2.1 .i64 i hil
    have FA := RK.2.2.1
    have hl0 : 0 < l.length := by omega
    have LK : ldV K (ptrAt v (i * 4)) = some (.int .i64 l[i].kind) := RK.2.2.2.2.1 i hil
    have LI : ldV K (ptrAt v (i * 4 + 1)) = some (.int .i64 l[i].inn) := RK.2.2.2.1 i 1 hil (by omega)
    have nk := nodeOk_in (nodes i hil)
    by_cases cn : (needK l k).getD i false = true
    rotate_left
    · have cn' : (needK l k).getD i false = false := by simpa using cn
      have hst : needK l (k + 1) = needK l k := by rw [hnx]; unfold needS; rw [if_neg fun q => cn q.1]
      rw [cn'] at ldi
      simp (maxSteps := 4000000) (disch := omega) only [ah, am, Nat.reduceEqDiff, reduceCtorEq, Nat.reduceAdd, Nat.reduceLeDiff, Nat.reduceMul, Nat.reduceLT, if_true, if_false, true_and, and_true, and_self, Nat.reduceBEq, QOp.loads, boxO, bslO, buildO, cutL, fillV, putL, w10, v10, ge, iai, ldi, Bool.not_false, wd]
      exact ⟨c0, G, by rw [hst]; exact BK⟩
    rw [cn] at ldi
    by_cases ck : l[i].kind = 1
    · have hst : needK l (k + 1) = needK l k := by rw [hnx]; unfold needS; rw [if_neg fun q => q.2 (by rw [nd_eq hil]; exact ck)]
      simp (maxSteps := 4000000) (disch := omega) only [ah, am, Nat.reduceEqDiff, reduceCtorEq, Nat.reduceAdd, Nat.reduceLeDiff, Nat.reduceMul, Nat.reduceLT, if_true, if_false, true_and, and_true, and_self, Nat.reduceBEq, QOp.loads, boxO, bslO, buildO, cutL, fillV, putL, w10, v10, ge, iai, ldi, Bool.not_true, IA, FA 0 _ hl0, Nat.add_zero, LK, decide_eq_true ck, wd]
      exact ⟨c0, G, by rw [hst]; exact BK⟩
    have hst : needK l (k + 1) = stepW l[i] (needK l k) := by rw [hnx]; unfold needS; rw [if_pos ⟨cn, by rw [nd_eq hil]; exact ck⟩, nd_eq hil]
    have hin := nk.1 ck
    have iaj := box_ia (b := nb) (n := l.length) hin.1 (by omega)
    obtain ⟨K2, es, B3, G3⟩ := box_putB BK (j := l[i].inn.toNat) (by omega) true
    have R2 := (s.ext (G3.ext EK (by omega))).rulesN
    have LK2 : ldV K2 (ptrAt v (i * 4)) = some (.int .i64 l[i].kind) := R2.2.2.2.2.1 i hil
    have LJ2 : ldV K2 (ptrAt v (i * 4 + 2)) = some (.int .i64 l[i].in2) := R2.2.2.2.1 i 2 hil (by omega)
    simp (maxSteps := 4000000) (disch := omega) only [ah, am, Nat.reduceEqDiff, reduceCtorEq, Nat.reduceAdd, Nat.reduceLeDiff, Nat.reduceMul, Nat.reduceLT, if_true, if_false, true_and, and_true, and_self, Nat.reduceBEq, QOp.loads, boxO, bslO, buildO, cutL, fillV, putL, w10, v10, ge, iai, ldi, Bool.not_true, IA, FA 0 _ hl0, FA 1 _ hl0, Nat.add_zero, LK, LI, decide_eq_false ck, iaj, es, LK2]
    refine stepC.of (l10Two_ok K2 l[i].kind) ?_
    rintro _ Hx ⟨hx, rfl⟩; rw [hx]; clear hx Hx
    by_cases c4 : l[i].kind = 4
    · have hin2 := nk.2.1 c4
      have iak := box_ia (b := nb) (n := l.length) hin2.1 (by omega)
      obtain ⟨K3, es3, B4, G4⟩ := box_putB B3 (j := l[i].in2.toNat) (by simp; omega) true
      simp (maxSteps := 4000000) (disch := omega) only [ah, am, Nat.reduceEqDiff, reduceCtorEq, Nat.reduceAdd, Nat.reduceLeDiff, Nat.reduceMul, Nat.reduceLT, if_true, if_false, true_and, and_true, and_self, Nat.reduceBEq, QOp.loads, boxO, bslO, buildO, cutL, fillV, putL, w10, v10, decide_eq_true c4, IA, FA 2 _ hl0, LJ2, iak, es3, wd]
      refine ⟨c0, (G.trans G3).trans G4, ?_⟩
      rw [hst]; unfold stepW; rw [if_pos c4]; exact B4
    · simp (maxSteps := 4000000) (disch := omega) only [ah, am, Nat.reduceEqDiff, reduceCtorEq, Nat.reduceAdd, Nat.reduceLeDiff, Nat.reduceMul, Nat.reduceLT, if_true, if_false, true_and, and_true, and_self, Nat.reduceBEq, QOp.loads, boxO, bslO, buildO, cutL, fillV, putL, w10, v10, decide_eq_false c4, wd]
      refine ⟨c0, G.trans G3, ?_⟩
      rw [hst]; unfold stepW; rw [if_neg c4]; exact B3
  have hkn : k = l.length := by omega
  subst hkn
  have lt : decide ((0 : Int) ≤ (l.length : Int) - 1 - (l.length : Int)) = false := decide_eq_false (by omega)
  have hrepI : (List.replicate l.length [Value.int .i64 0]).flatten = (List.replicate l.length (0 : Int)).map (Value.int .i64) := by simp
  have eT := Ext.more K [(List.replicate l.length (0 : Int)).map (Value.int .i64)]
  have BT := Bx.new K ((List.replicate l.length (0 : Int)).map (Value.int .i64)) []
  have hbk0 := Heap.get_lt BK
  obtain ⟨g, hg0, hg1, O, _⟩ := (Fk.of (X := []) F1).grp (K.size + 7) (by omega)
  obtain ⟨need, hneed⟩ : ∃ w, w = needK l l.length := ⟨_, rfl⟩
  rw [← hneed] at BK hnl ⊢
  have hbk := Heap.get_lt BK
  have F2 : Fk [] h (K.more [(List.replicate l.length (0 : Int)).map (Value.int .i64)]) encNode 4 (.slice (some ⟨h.size, 0, none⟩) 0 4) (outK l need 0).2 [(K.size, (outK l need 0).1.map (Value.int .i64)), (nb, need.map Value.bool)] := by
    refine ⟨(EK.trans eT).toX, ⟨g, hg0, ((((O.ext e2).extG G2 (by omega)).extG G (by omega)).ext eT), fun p hp => ?_⟩, fun p hp => ?_⟩
    · simp only [List.mem_cons, List.not_mem_nil, or_false] at hp
      rcases hp with rfl | rfl <;> simp only <;> omega
    · simp only [List.mem_cons, List.not_mem_nil, or_false] at hp
      rcases hp with rfl | rfl
      · exact ⟨EK.1, BT⟩
      · exact ⟨by simp only; omega, BK.ext eT⟩
  simp (maxSteps := 4000000) (disch := omega) only [ah, am, Nat.reduceEqDiff, reduceCtorEq, Nat.reduceAdd, Nat.reduceLeDiff, Nat.reduceMul, Nat.reduceLT, if_true, if_false, true_and, and_true, and_self, Nat.reduceBEq, QOp.loads, boxO, bslO, buildO, cutL, fillV, putL, w10, v10, lt, mksV_nat, hrepI]
  obtain ⟨tb, htb⟩ : ∃ q, q = K.size := ⟨_, rfl⟩
  rw [← htb] at F2 ⊢
  have hbt : nb ≠ tb := by omega
  refine SW_loop_up (fun i E K => ∃ ov, Fk [] h K encNode 4 ov (outK l need i).2 [(tb, (outK l need i).1.map (Value.int .i64)), (nb, need.map Value.bool)] ∧
    E = [(0, v), (3, ov), (4, .int .i64 (l.length : Int)), (5, .slice (some ⟨nb, 0, none⟩) l.length 1), (7, .slice (some ⟨tb, 0, none⟩) l.length 1), (8, .int .i64 (i : Int))]) l.length 0 (by omega) ⟨_, F2, rfl⟩ ?_
  clear F2 BT eT O hg1 hg0 BK G RK EK R wd
  rintro i E K hi ⟨ov, F, rfl⟩
  have hol := outK_len l need i
  have EK : Ext h K := F.ext.ext
  have RK := (s.ext EK).rulesN
  have RO := F.slt.rulesN.1
  have wi : IntKind.i64.wrap ((i : Int) + 1) = ((i + 1 : Nat) : Int) := i64e (by omega) (by omega)
  by_cases c0 : i < l.length
  rotate_left
  · have hin : i = l.length := by omega
    subst hin
    simp (maxSteps := 4000000) (disch := omega) only [ah, am, Nat.reduceEqDiff, reduceCtorEq, Nat.reduceAdd, Nat.reduceLeDiff, Nat.reduceMul, Nat.reduceLT, if_true, if_false, true_and, and_true, and_self, Nat.reduceBEq, QOp.loads, boxO, bslO, buildO, cutL, fillV, putL, w10, v10, decide_eq_false (show ¬ ((l.length : Int) < (l.length : Int)) by omega)]
    exact F.fresh
  have lt1 : decide ((i : Int) < (l.length : Int)) = true := decide_eq_true (by omega)
  have BN : Bx K nb (need.map Value.bool) := (F.box (nb, need.map Value.bool) (by simp)).2
  have ian : iaV 1 (.slice (some ⟨nb, 0, none⟩) l.length 1) (.int .i64 (i : Int)) = some (.pointer (some ⟨nb, i, none⟩)) := by rw [box_ia (by omega) (by omega)]; simp
  have iat : iaV 1 (.slice (some ⟨tb, 0, none⟩) l.length 1) (.int .i64 (i : Int)) = some (.pointer (some ⟨tb, i, none⟩)) := by rw [box_ia (by omega) (by omega)]; simp
  have ldn' := box_ldB BN (j := i) (by omega)
  have hnx : outK l need (i + 1) = outS l need i (outK l need i) := rfl
  by_cases cn : need.getD i false = true
  rotate_left
  · have cn' : need.getD i false = false := by simpa using cn
    have hst : outK l need (i + 1) = outK l need i := by rw [hnx]; unfold outS; rw [if_neg cn]
    rw [cn'] at ldn'
    simp (maxSteps := 4000000) (disch := omega) only [ah, am, Nat.reduceEqDiff, reduceCtorEq, Nat.reduceAdd, Nat.reduceLeDiff, Nat.reduceMul, Nat.reduceLT, if_true, if_false, true_and, and_true, and_self, Nat.reduceBEq, QOp.loads, boxO, bslO, buildO, cutL, fillV, putL, w10, v10, lt1, ian, ldn', Bool.not_false, wi]
    exact ⟨c0, ov, by rw [hst]; exact F, rfl⟩
  rw [cn] at ldn'
  have hst : outK l need (i + 1) = ((outK l need i).1.set i (outK l need i).2.length, (outK l need i).2 ++ [⟨(nd l i).kind, if (nd l i).kind ≠ 1 then ((outK l need i).1.set i (outK l need i).2.length).getD (nd l i).inn.toNat 0 else (nd l i).inn, if (nd l i).kind = 4 then ((outK l need i).1.set i (outK l need i).2.length).getD (nd l i).in2.toNat 0 else (nd l i).in2, (nd l i).v⟩]) := by rw [hnx]; unfold outS; rw [if_pos cn]
  rw [nd_eq c0] at hst
  rw [hst]
  generalize outK l need i = p at *
  obtain ⟨to, out⟩ := p
  simp only at F hol RO ⊢
  obtain ⟨K1, es1, F1', G1⟩ := Fk_putI F hbt (j := i) (by omega) (out.length : Int)
  have RO1 := F1'.slt.rulesN.1
  have EK1 : Ext h K1 := F1'.ext.ext
  have RK1 := (s.ext EK1).rulesN
  have IA := RK1.2.1 .i64 i c0
  have LN : ldnV K1 4 (ptrAt v (i * 4)) = some (.agg (encNode l[i]).toArray) := RK1.2.2.2.2.2 i c0
  have nk := nodeOk_in (nodes i c0)
  have eX := fun cs => Ext.more K1 [cs]
  have BT1 : Bx K1 tb ((to.set i (out.length : Int)).map (Value.int .i64)) := (F1'.box (tb, (to.set i (out.length : Int)).map (Value.int .i64)) (by simp)).2
  obtain ⟨to1, hto1⟩ : ∃ q, q = to.set i (out.length : Int) := ⟨_, rfl⟩
  have hl1 : to1.length = l.length := by rw [hto1]; simp [hol.1]
  rw [← hto1] at F1' BT1 ⊢
  have LT : ∀ (cs : List Value) (j : Nat), j < l.length → ldV (K1.more [cs]) (.pointer (some ⟨tb, j, none⟩)) = some (.int .i64 (to1.getD j 0)) := fun cs j hj => box_ldI (BT1.ext (Ext.more K1 [cs])) (by omega)
  have app := fun (x : Node) (cs : List Value) => F1'.app1 [cs] x (bytes := 32) (by have := hol.2; omega)
  simp only [List.singleton_append, List.length_singleton] at app
  generalize hx : l[i] = x at *
  obtain ⟨xk, xi, xj, xv⟩ := x
  simp only [encNode] at LN app nk ⊢
  by_cases k1 : xk = 1
  · subst k1
    obtain ⟨w, K2, ap, F2⟩ := app ⟨1, xi, xj, xv⟩ [.int .i64 1, .int .i64 xi, .int .i64 xj, .float .f64 xv]
    simp only [encNode] at ap
    simp (maxSteps := 4000000) (disch := omega) only [ah, am, Nat.reduceEqDiff, reduceCtorEq, Nat.reduceAdd, Nat.reduceLeDiff, Nat.reduceMul, Nat.reduceLT, if_true, if_false, true_and, and_true, and_self, Nat.reduceBEq, QOp.loads, boxO, bslO, buildO, cutL, fillV, putL, w10, v10, lt1, ian, ldn', Bool.not_true, iat, RO, es1, IA, LN, fl, decide_eq_true (rfl : (1 : Int) = 1)]
    refine stepC.of (l10Two_ok _ 1) ?_
    rintro _ Hx ⟨hx, rfl⟩; rw [hx]; clear hx Hx
    simp (maxSteps := 4000000) (disch := omega) only [ah, am, Nat.reduceEqDiff, reduceCtorEq, Nat.reduceAdd, Nat.reduceLeDiff, Nat.reduceMul, Nat.reduceLT, if_true, if_false, true_and, and_true, and_self, Nat.reduceBEq, QOp.loads, boxO, bslO, buildO, cutL, fillV, putL, w10, v10, decide_eq_false (show ¬ ((1 : Int) = 4) by omega), fl, ap, wi]
    refine ⟨c0, w, ?_, rfl⟩
    simpa using F2.sub (fun p hp => by simp at hp ⊢; rcases hp with hp | hp <;> simp [hp])
  have hin := nk.1 k1
  have iax := box_ia (b := tb) (n := l.length) hin.1 (by omega)
  rw [if_pos k1]
  by_cases k4 : xk = 4
  · subst k4
    have hin2 := nk.2.1 rfl
    have iay := box_ia (b := tb) (n := l.length) hin2.1 (by omega)
    obtain ⟨w, K2, ap, F2⟩ := app ⟨4, to1.getD xi.toNat 0, to1.getD xj.toNat 0, xv⟩ [.int .i64 4, .int .i64 (to1.getD xi.toNat 0), .int .i64 (to1.getD xj.toNat 0), .float .f64 xv]
    simp only [encNode] at ap
    simp (maxSteps := 4000000) (disch := omega) only [ah, am, Nat.reduceEqDiff, reduceCtorEq, Nat.reduceAdd, Nat.reduceLeDiff, Nat.reduceMul, Nat.reduceLT, if_true, if_false, true_and, and_true, and_self, Nat.reduceBEq, QOp.loads, boxO, bslO, buildO, cutL, fillV, putL, w10, v10, lt1, ian, ldn', Bool.not_true, iat, RO, es1, IA, LN, fl, decide_eq_false k1, iax, LT _ _ (show xi.toNat < l.length by omega)]
    refine stepC.of (l10Two_ok _ 4) ?_
    rintro _ Hx ⟨hx, rfl⟩; rw [hx]; clear hx Hx
    simp (maxSteps := 4000000) (disch := omega) only [ah, am, Nat.reduceEqDiff, reduceCtorEq, Nat.reduceAdd, Nat.reduceLeDiff, Nat.reduceMul, Nat.reduceLT, if_true, if_false, true_and, and_true, and_self, Nat.reduceBEq, QOp.loads, boxO, bslO, buildO, cutL, fillV, putL, w10, v10, decide_eq_true (rfl : (4 : Int) = 4), fl, iay, LT _ _ (show xj.toNat < l.length by omega), ap, wi]
    refine ⟨c0, w, ?_, rfl⟩
    simpa using F2.sub (fun p hp => by simp at hp ⊢; rcases hp with hp | hp <;> simp [hp])
  · obtain ⟨w, K2, ap, F2⟩ := app ⟨xk, to1.getD xi.toNat 0, xj, xv⟩ [.int .i64 xk, .int .i64 (to1.getD xi.toNat 0), .int .i64 xj, .float .f64 xv]
    simp only [encNode] at ap
    rw [if_neg k4]
    simp (maxSteps := 4000000) (disch := omega) only [ah, am, Nat.reduceEqDiff, reduceCtorEq, Nat.reduceAdd, Nat.reduceLeDiff, Nat.reduceMul, Nat.reduceLT, if_true, if_false, true_and, and_true, and_self, Nat.reduceBEq, QOp.loads, boxO, bslO, buildO, cutL, fillV, putL, w10, v10, lt1, ian, ldn', Bool.not_true, iat, RO, es1, IA, LN, fl, decide_eq_false k1, iax, LT _ _ (show xi.toNat < l.length by omega)]
    refine stepC.of (l10Two_ok _ xk) ?_
    rintro _ Hx ⟨hx, rfl⟩; rw [hx]; clear hx Hx
    simp (maxSteps := 4000000) (disch := omega) only [ah, am, Nat.reduceEqDiff, reduceCtorEq, Nat.reduceAdd, Nat.reduceLeDiff, Nat.reduceMul, Nat.reduceLT, if_true, if_false, true_and, and_true, and_self, Nat.reduceBEq, QOp.loads, boxO, bslO, buildO, cutL, fillV, putL, w10, v10, decide_eq_false k4, fl, ap, wi]
    refine ⟨c0, w, ?_, rfl⟩
    simpa using F2.sub (fun p hp => by simp at hp ⊢; rcases hp with hp | hp <;> simp [hp])
end Go.Proofs.Ytdagajblnlemaaa
