/- Merged texts of this claim: LReadList. -/
import Derived.Test.YtgmimgmdbpcecaaGreatDoorAhU
import Derived.Test.YtgmimgmdbpcecaaGreatDoorZrI
section
namespace Go.Proofs.YtgmimgmdbpcecaaGreatDoor
open Go Go.Ah
set_option linter.unusedSimpArgs false
set_option linter.unusedVariables false
set_option maxRecDepth 10000
set_option maxHeartbeats 4000000
/-! 3 loop.example/g00066/laws.FnExactReadList: parameters 2, live [0, 1], slots [0:aR, 1:aText, 2:aR, 3:aText, 5:w0, 6:w1, 7:g0, 8:g1, 9:m, 10:q, 11:h0, 12:h1] -/
def c3_0 : List SOper := [⟨some 2, .a (.box (.t 0)), none⟩, ⟨some 4, .q (.mv (.c (.bool false))), none⟩]
def c3_1 : List SOper := [⟨some 13, .q (.mv (.t 1)), none⟩, ⟨some 14, .q (.lens (.t 13)), none⟩, ⟨some 15, .q (.bin .gtr (.t 14) (.c (.int .i64 1048576))), none⟩]
def c3_2 : List SOper := [⟨some 4, .q (.mv (.c (.bool true))), none⟩]
def c3_3 : SCode := .seq (.region c3_2 [4]) .ret
def c3_4 : SCode := .cond (.t 15) c3_3 .skip
def c3_5 : SCode := .seq (.region c3_1 [1, 2, 15]) c3_4
def c3_6 : List SOper := [⟨some 17, .q (.ldn 3 (.t 2)), none⟩, ⟨some 18, .e (.call 6 [(.t 17)]), none⟩, ⟨some 19, .q (.mv (.t 1)), none⟩, ⟨some 20, .e (.call 5 [(.t 18), (.t 19)]), none⟩, ⟨some 16, .q (.mv (.t 20)), none⟩, ⟨some 21, .q (.ext (.t 16) 0), none⟩, ⟨some 22, .q (.ext (.t 16) 1), none⟩, ⟨some 6, .a (.new [(.int .i64 0), (.int .i64 0)]), none⟩, ⟨some 5, .q (.mv (.t 21)), none⟩, ⟨none, .e (.st 2 (.t 6) (.t 22)), none⟩]
def c3_7 : List SOper := [⟨some 24, .q (.ldn 3 (.t 2)), none⟩, ⟨some 25, .e (.call 6 [(.t 24)]), none⟩, ⟨some 26, .q (.mv (.t 1)), none⟩, ⟨some 27, .e (.call 7 [(.t 25), (.t 26)]), none⟩, ⟨some 23, .q (.mv (.t 27)), none⟩, ⟨some 28, .q (.ext (.t 23) 0), none⟩, ⟨some 29, .q (.ext (.t 23) 1), none⟩, ⟨some 8, .a (.new [(.int .i64 0), (.int .i64 0)]), none⟩, ⟨some 7, .q (.mv (.t 28)), none⟩, ⟨none, .e (.st 2 (.t 8) (.t 29)), none⟩]
def c3_8 : List SOper := [⟨some 30, .q (.mv (.t 7)), none⟩, ⟨some 31, .q (.mv (.t 5)), none⟩, ⟨some 32, .e (.call 8 [(.t 30), (.t 31)]), none⟩, ⟨some 33, .q (.not (.t 32)), none⟩, ⟨some 34, .q (.mv (.t 33)), none⟩, ⟨some 35, .q (.ldn 2 (.t 8)), some (34, false)⟩, ⟨some 36, .q (.ldn 2 (.t 6)), some (34, false)⟩, ⟨some 37, .e (.call 9 [(.t 35), (.t 36)]), some (34, false)⟩, ⟨some 38, .q (.not (.t 37)), some (34, false)⟩, ⟨some 39, .q (.pick (.t 34) (.c (.bool true)) (.t 38)), none⟩]
def c3_9 : List SOper := [⟨some 4, .q (.mv (.c (.bool false))), none⟩]
def c3_10 : SCode := .seq (.region c3_9 [4]) .ret
def c3_11 : SCode := .cond (.t 39) c3_10 .skip
def c3_12 : SCode := .seq (.region c3_8 [1, 2, 5, 6, 7, 39]) c3_11
def c3_13 : List SOper := [⟨some 9, .q (.mv (.c (.int .i64 1))), none⟩]
def c3_14 : List SOper := [⟨some 40, .q (.mv (.t 7)), none⟩, ⟨some 41, .q (.mv (.t 9)), none⟩, ⟨some 42, .e (.call 10 [(.t 40), (.t 41)]), none⟩, ⟨some 9, .q (.mv (.t 42)), none⟩]
def c3_15 : List SOper := [⟨some 10, .q (.mv (.c (.int .i64 1))), none⟩]
def c3_16 : List SOper := [⟨some 43, .q (.mv (.t 7)), none⟩, ⟨some 44, .q (.mv (.t 10)), none⟩, ⟨some 45, .e (.call 11 [(.t 43), (.t 44)]), none⟩, ⟨some 10, .q (.mv (.t 45)), none⟩]
def c3_17 : List SOper := [⟨some 46, .q (.mv (.t 10)), none⟩, ⟨some 47, .q (.bin .lss (.t 46) (.c (.int .i64 0))), none⟩]
def c3_18 : List SOper := [⟨some 4, .q (.mv (.c (.bool false))), none⟩]
def c3_19 : SCode := .seq (.region c3_18 [4]) .ret
def c3_20 : SCode := .cond (.t 47) c3_19 .skip
def c3_21 : SCode := .seq (.region c3_17 [1, 2, 5, 6, 7, 9, 10, 47]) c3_20
def c3_22 : List SOper := [⟨some 48, .q (.mv (.t 10)), none⟩, ⟨some 49, .q (.mv (.t 9)), none⟩, ⟨some 50, .q (.bin .neq (.t 48) (.t 49)), none⟩]
def c3_23 : List SOper := [⟨some 4, .q (.mv (.c (.bool false))), none⟩]
def c3_24 : SCode := .seq (.region c3_23 [4]) .ret
def c3_25 : SCode := .cond (.t 50) c3_24 .skip
def c3_26 : SCode := .seq (.region c3_22 [1, 2, 5, 6, 7, 9, 50]) c3_25
def c3_27 : List SOper := [⟨some 52, .q (.ldn 3 (.t 2)), none⟩, ⟨some 53, .e (.call 6 [(.t 52)]), none⟩, ⟨some 54, .q (.mv (.t 1)), none⟩, ⟨some 55, .e (.call 7 [(.t 53), (.t 54)]), none⟩, ⟨some 51, .q (.mv (.t 55)), none⟩, ⟨some 56, .q (.ext (.t 51) 0), none⟩, ⟨some 57, .q (.ext (.t 51) 1), none⟩, ⟨some 12, .a (.new [(.int .i64 0), (.int .i64 0)]), none⟩, ⟨some 11, .q (.mv (.t 56)), none⟩, ⟨none, .e (.st 2 (.t 12) (.t 57)), none⟩]
def c3_28 : List SOper := [⟨some 58, .q (.mv (.t 11)), none⟩, ⟨some 59, .q (.mv (.t 5)), none⟩, ⟨some 60, .e (.call 8 [(.t 58), (.t 59)]), none⟩, ⟨some 61, .q (.not (.t 60)), none⟩, ⟨some 62, .q (.mv (.t 61)), none⟩, ⟨some 63, .q (.ldn 2 (.t 12)), some (62, false)⟩, ⟨some 64, .q (.ldn 2 (.t 6)), some (62, false)⟩, ⟨some 65, .e (.call 9 [(.t 63), (.t 64)]), some (62, false)⟩, ⟨some 66, .q (.not (.t 65)), some (62, false)⟩, ⟨some 67, .q (.pick (.t 62) (.c (.bool true)) (.t 66)), none⟩]
def c3_29 : List SOper := [⟨some 4, .q (.mv (.c (.bool false))), none⟩]
def c3_30 : SCode := .seq (.region c3_29 [4]) .ret
def c3_31 : SCode := .cond (.t 67) c3_30 .skip
def c3_32 : SCode := .seq (.region c3_28 [7, 9, 67]) c3_31
def c3_33 : List SOper := [⟨some 10, .q (.mv (.c (.int .i64 1))), none⟩]
def c3_34 : List SOper := [⟨some 68, .q (.mv (.t 7)), none⟩, ⟨some 69, .q (.mv (.t 10)), none⟩, ⟨some 70, .e (.call 11 [(.t 68), (.t 69)]), none⟩, ⟨some 10, .q (.mv (.t 70)), none⟩]
def c3_35 : List SOper := [⟨some 71, .q (.mv (.t 10)), none⟩, ⟨some 72, .q (.bin .lss (.t 71) (.c (.int .i64 0))), none⟩]
def c3_36 : List SOper := [⟨some 4, .q (.mv (.c (.bool false))), none⟩]
def c3_37 : SCode := .seq (.region c3_36 [4]) .ret
def c3_38 : SCode := .cond (.t 72) c3_37 .skip
def c3_39 : SCode := .seq (.region c3_35 [9, 10, 72]) c3_38
def c3_40 : List SOper := [⟨some 73, .q (.mv (.t 10)), none⟩, ⟨some 74, .q (.mv (.t 9)), none⟩, ⟨some 75, .q (.bin .neq (.t 73) (.t 74)), none⟩]
def c3_41 : List SOper := [⟨some 4, .q (.mv (.c (.bool false))), none⟩]
def c3_42 : SCode := .seq (.region c3_41 [4]) .ret
def c3_43 : SCode := .cond (.t 75) c3_42 .skip
def c3_44 : SCode := .seq (.region c3_40 [75]) c3_43
def c3_45 : List SOper := [⟨some 4, .q (.mv (.c (.bool true))), none⟩]
def c3_46 : SCode := .seq (.region c3_45 [4]) .ret
def c3_47 : SCode := .seq c3_44 c3_46
def c3_48 : SCode := .seq c3_39 c3_47
def c3_49 : SCode := .seq (.region c3_34 [9, 10]) c3_48
def c3_50 : SCode := .seq (.region c3_33 [7, 9, 10]) c3_49
def c3_51 : SCode := .seq c3_32 c3_50
def c3_52 : SCode := .seq (.region c3_27 [5, 6, 7, 9, 11, 12]) c3_51
def c3_53 : SCode := .seq c3_26 c3_52
def c3_54 : SCode := .seq c3_21 c3_53
def c3_55 : SCode := .seq (.region c3_16 [1, 2, 5, 6, 7, 9, 10]) c3_54
def c3_56 : SCode := .seq (.region c3_15 [1, 2, 5, 6, 7, 9, 10]) c3_55
def c3_57 : SCode := .seq (.region c3_14 [1, 2, 5, 6, 7, 9]) c3_56
def c3_58 : SCode := .seq (.region c3_13 [1, 2, 5, 6, 7, 9]) c3_57
def c3_59 : SCode := .seq c3_12 c3_58
def c3_60 : SCode := .seq (.region c3_7 [1, 2, 5, 6, 7, 8]) c3_59
def c3_61 : SCode := .seq (.region c3_6 [1, 2, 5, 6]) c3_60
def c3_62 : SCode := .seq c3_5 c3_61
def c3_63 : SCode := .seq (.region c3_0 [1, 2]) c3_62
def c3 : SCode := c3_63
theorem w3 : type_of% (And.intro (uR Tryz.prog c3_0.eq_1) (And.intro (uR Tryz.prog c3_1.eq_1) (And.intro (uR Tryz.prog c3_2.eq_1) (And.intro (uC Tryz.prog c3_3.eq_1) (And.intro (uC Tryz.prog c3_4.eq_1) (And.intro (uC Tryz.prog c3_5.eq_1) (And.intro (uR Tryz.prog c3_6.eq_1) (And.intro (uR Tryz.prog c3_7.eq_1) (And.intro (uR Tryz.prog c3_8.eq_1) (And.intro (uR Tryz.prog c3_9.eq_1) (And.intro (uC Tryz.prog c3_10.eq_1) (And.intro (uC Tryz.prog c3_11.eq_1) (And.intro (uC Tryz.prog c3_12.eq_1) (And.intro (uR Tryz.prog c3_13.eq_1) (And.intro (uR Tryz.prog c3_14.eq_1) (And.intro (uR Tryz.prog c3_15.eq_1) (And.intro (uR Tryz.prog c3_16.eq_1) (And.intro (uR Tryz.prog c3_17.eq_1) (And.intro (uR Tryz.prog c3_18.eq_1) (And.intro (uC Tryz.prog c3_19.eq_1) (And.intro (uC Tryz.prog c3_20.eq_1) (And.intro (uC Tryz.prog c3_21.eq_1) (And.intro (uR Tryz.prog c3_22.eq_1) (And.intro (uR Tryz.prog c3_23.eq_1) (And.intro (uC Tryz.prog c3_24.eq_1) (And.intro (uC Tryz.prog c3_25.eq_1) (And.intro (uC Tryz.prog c3_26.eq_1) (And.intro (uR Tryz.prog c3_27.eq_1) (And.intro (uR Tryz.prog c3_28.eq_1) (And.intro (uR Tryz.prog c3_29.eq_1) (And.intro (uC Tryz.prog c3_30.eq_1) (And.intro (uC Tryz.prog c3_31.eq_1) (And.intro (uC Tryz.prog c3_32.eq_1) (And.intro (uR Tryz.prog c3_33.eq_1) (And.intro (uR Tryz.prog c3_34.eq_1) (And.intro (uR Tryz.prog c3_35.eq_1) (And.intro (uR Tryz.prog c3_36.eq_1) (And.intro (uC Tryz.prog c3_37.eq_1) (And.intro (uC Tryz.prog c3_38.eq_1) (And.intro (uC Tryz.prog c3_39.eq_1) (And.intro (uR Tryz.prog c3_40.eq_1) (And.intro (uR Tryz.prog c3_41.eq_1) (And.intro (uC Tryz.prog c3_42.eq_1) (And.intro (uC Tryz.prog c3_43.eq_1) (And.intro (uC Tryz.prog c3_44.eq_1) (And.intro (uR Tryz.prog c3_45.eq_1) (And.intro (uC Tryz.prog c3_46.eq_1) (And.intro (uC Tryz.prog c3_47.eq_1) (And.intro (uC Tryz.prog c3_48.eq_1) (And.intro (uC Tryz.prog c3_49.eq_1) (And.intro (uC Tryz.prog c3_50.eq_1) (And.intro (uC Tryz.prog c3_51.eq_1) (And.intro (uC Tryz.prog c3_52.eq_1) (And.intro (uC Tryz.prog c3_53.eq_1) (And.intro (uC Tryz.prog c3_54.eq_1) (And.intro (uC Tryz.prog c3_55.eq_1) (And.intro (uC Tryz.prog c3_56.eq_1) (And.intro (uC Tryz.prog c3_57.eq_1) (And.intro (uC Tryz.prog c3_58.eq_1) (And.intro (uC Tryz.prog c3_59.eq_1) (And.intro (uC Tryz.prog c3_60.eq_1) (And.intro (uC Tryz.prog c3_61.eq_1) (And.intro (uC Tryz.prog c3_62.eq_1) (And.intro (uC Tryz.prog c3_63.eq_1) (uC Tryz.prog c3.eq_1))))))))))))))))))))))))))))))))))))))))))))))))))))))))))))))))) := (And.intro (uR Tryz.prog c3_0.eq_1) (And.intro (uR Tryz.prog c3_1.eq_1) (And.intro (uR Tryz.prog c3_2.eq_1) (And.intro (uC Tryz.prog c3_3.eq_1) (And.intro (uC Tryz.prog c3_4.eq_1) (And.intro (uC Tryz.prog c3_5.eq_1) (And.intro (uR Tryz.prog c3_6.eq_1) (And.intro (uR Tryz.prog c3_7.eq_1) (And.intro (uR Tryz.prog c3_8.eq_1) (And.intro (uR Tryz.prog c3_9.eq_1) (And.intro (uC Tryz.prog c3_10.eq_1) (And.intro (uC Tryz.prog c3_11.eq_1) (And.intro (uC Tryz.prog c3_12.eq_1) (And.intro (uR Tryz.prog c3_13.eq_1) (And.intro (uR Tryz.prog c3_14.eq_1) (And.intro (uR Tryz.prog c3_15.eq_1) (And.intro (uR Tryz.prog c3_16.eq_1) (And.intro (uR Tryz.prog c3_17.eq_1) (And.intro (uR Tryz.prog c3_18.eq_1) (And.intro (uC Tryz.prog c3_19.eq_1) (And.intro (uC Tryz.prog c3_20.eq_1) (And.intro (uC Tryz.prog c3_21.eq_1) (And.intro (uR Tryz.prog c3_22.eq_1) (And.intro (uR Tryz.prog c3_23.eq_1) (And.intro (uC Tryz.prog c3_24.eq_1) (And.intro (uC Tryz.prog c3_25.eq_1) (And.intro (uC Tryz.prog c3_26.eq_1) (And.intro (uR Tryz.prog c3_27.eq_1) (And.intro (uR Tryz.prog c3_28.eq_1) (And.intro (uR Tryz.prog c3_29.eq_1) (And.intro (uC Tryz.prog c3_30.eq_1) (And.intro (uC Tryz.prog c3_31.eq_1) (And.intro (uC Tryz.prog c3_32.eq_1) (And.intro (uR Tryz.prog c3_33.eq_1) (And.intro (uR Tryz.prog c3_34.eq_1) (And.intro (uR Tryz.prog c3_35.eq_1) (And.intro (uR Tryz.prog c3_36.eq_1) (And.intro (uC Tryz.prog c3_37.eq_1) (And.intro (uC Tryz.prog c3_38.eq_1) (And.intro (uC Tryz.prog c3_39.eq_1) (And.intro (uR Tryz.prog c3_40.eq_1) (And.intro (uR Tryz.prog c3_41.eq_1) (And.intro (uC Tryz.prog c3_42.eq_1) (And.intro (uC Tryz.prog c3_43.eq_1) (And.intro (uC Tryz.prog c3_44.eq_1) (And.intro (uR Tryz.prog c3_45.eq_1) (And.intro (uC Tryz.prog c3_46.eq_1) (And.intro (uC Tryz.prog c3_47.eq_1) (And.intro (uC Tryz.prog c3_48.eq_1) (And.intro (uC Tryz.prog c3_49.eq_1) (And.intro (uC Tryz.prog c3_50.eq_1) (And.intro (uC Tryz.prog c3_51.eq_1) (And.intro (uC Tryz.prog c3_52.eq_1) (And.intro (uC Tryz.prog c3_53.eq_1) (And.intro (uC Tryz.prog c3_54.eq_1) (And.intro (uC Tryz.prog c3_55.eq_1) (And.intro (uC Tryz.prog c3_56.eq_1) (And.intro (uC Tryz.prog c3_57.eq_1) (And.intro (uC Tryz.prog c3_58.eq_1) (And.intro (uC Tryz.prog c3_59.eq_1) (And.intro (uC Tryz.prog c3_60.eq_1) (And.intro (uC Tryz.prog c3_61.eq_1) (And.intro (uC Tryz.prog c3_62.eq_1) (And.intro (uC Tryz.prog c3_63.eq_1) (uC Tryz.prog c3.eq_1)))))))))))))))))))))))))))))))))))))))))))))))))))))))))))))))))
def v3 : List RV := [.t 4]
theorem s3 : slimF Tryz.prog Tryz.f3 = some (c3.bare, v3) := by kernel_rfl
/-! 9 loop.example/g00066/laws.eqListFault: parameters 2, live [0, 1], slots [0:a, 1:b, 2:a, 3:b] -/
def c9_0 : List SOper := [⟨some 2, .a (.box (.t 0)), none⟩, ⟨some 3, .a (.box (.t 1)), none⟩, ⟨some 4, .q (.mv (.c (.bool false))), none⟩]
def c9_1 : List SOper := [⟨some 5, .q (.fa 0 (.t 2)), none⟩, ⟨some 6, .q (.ld (.t 5)), none⟩, ⟨some 7, .q (.fa 0 (.t 3)), none⟩, ⟨some 8, .q (.ld (.t 7)), none⟩, ⟨some 9, .q (.bin .neq (.t 6) (.t 8)), none⟩]
def c9_2 : List SOper := [⟨some 4, .q (.mv (.c (.bool false))), none⟩]
def c9_3 : SCode := .seq (.region c9_2 [4]) .ret
def c9_4 : SCode := .cond (.t 9) c9_3 .skip
def c9_5 : SCode := .seq (.region c9_1 [2, 3, 9]) c9_4
def c9_6 : List SOper := [⟨some 10, .q (.fa 1 (.t 2)), none⟩, ⟨some 11, .q (.ld (.t 10)), none⟩, ⟨some 12, .q (.fa 1 (.t 3)), none⟩, ⟨some 13, .q (.ld (.t 12)), none⟩, ⟨some 14, .q (.bin .neq (.t 11) (.t 13)), none⟩]
def c9_7 : List SOper := [⟨some 4, .q (.mv (.c (.bool false))), none⟩]
def c9_8 : SCode := .seq (.region c9_7 [4]) .ret
def c9_9 : SCode := .cond (.t 14) c9_8 .skip
def c9_10 : SCode := .seq (.region c9_6 [14]) c9_9
def c9_11 : List SOper := [⟨some 4, .q (.mv (.c (.bool true))), none⟩]
def c9_12 : SCode := .seq (.region c9_11 [4]) .ret
def c9_13 : SCode := .seq c9_10 c9_12
def c9_14 : SCode := .seq c9_5 c9_13
def c9_15 : SCode := .seq (.region c9_0 [2, 3]) c9_14
def c9 : SCode := c9_15
theorem w9 : type_of% (And.intro (uR Tryz.prog c9_0.eq_1) (And.intro (uR Tryz.prog c9_1.eq_1) (And.intro (uR Tryz.prog c9_2.eq_1) (And.intro (uC Tryz.prog c9_3.eq_1) (And.intro (uC Tryz.prog c9_4.eq_1) (And.intro (uC Tryz.prog c9_5.eq_1) (And.intro (uR Tryz.prog c9_6.eq_1) (And.intro (uR Tryz.prog c9_7.eq_1) (And.intro (uC Tryz.prog c9_8.eq_1) (And.intro (uC Tryz.prog c9_9.eq_1) (And.intro (uC Tryz.prog c9_10.eq_1) (And.intro (uR Tryz.prog c9_11.eq_1) (And.intro (uC Tryz.prog c9_12.eq_1) (And.intro (uC Tryz.prog c9_13.eq_1) (And.intro (uC Tryz.prog c9_14.eq_1) (And.intro (uC Tryz.prog c9_15.eq_1) (uC Tryz.prog c9.eq_1))))))))))))))))) := (And.intro (uR Tryz.prog c9_0.eq_1) (And.intro (uR Tryz.prog c9_1.eq_1) (And.intro (uR Tryz.prog c9_2.eq_1) (And.intro (uC Tryz.prog c9_3.eq_1) (And.intro (uC Tryz.prog c9_4.eq_1) (And.intro (uC Tryz.prog c9_5.eq_1) (And.intro (uR Tryz.prog c9_6.eq_1) (And.intro (uR Tryz.prog c9_7.eq_1) (And.intro (uC Tryz.prog c9_8.eq_1) (And.intro (uC Tryz.prog c9_9.eq_1) (And.intro (uC Tryz.prog c9_10.eq_1) (And.intro (uR Tryz.prog c9_11.eq_1) (And.intro (uC Tryz.prog c9_12.eq_1) (And.intro (uC Tryz.prog c9_13.eq_1) (And.intro (uC Tryz.prog c9_14.eq_1) (And.intro (uC Tryz.prog c9_15.eq_1) (uC Tryz.prog c9.eq_1)))))))))))))))))
def v9 : List RV := [.t 4]
theorem s9 : slimF Tryz.prog Tryz.f9 = some (c9.bare, v9) := by kernel_rfl

theorem toRate_ok (h : Heap) (r : Rate) : ACall Tryz.prog 6 [.agg (encRate r).toArray] h fun x h' => Ext h h' ∧ x = .agg (encRate r).toArray := by
  refine ACall.of Tryz.func6 s6 (of_decide_eq_true rfl) ?_
  simp (maxSteps := 4000000) (disch := omega) only [ah, am, Nat.reduceEqDiff, reduceCtorEq, Nat.reduceAdd, Nat.reduceLeDiff, Nat.reduceMul, Nat.reduceLT, if_true, if_false, true_and, and_true, and_self, Nat.reduceBEq, QOp.loads, boxO, bslO, buildO, cutL, fillV, putL, w6, v6, encRate]
  exact Ext.more _ _
theorem eqListFault_ok (h : Heap) (a b : Int) : ACall Tryz.prog 9 [.agg #[.int .i64 a, .int .i64 b], .agg #[.int .i64 a, .int .i64 b]] h fun x h' => Ext h h' ∧ x = .bool true := by
  refine ACall.of Tryz.func9 s9 (of_decide_eq_true rfl) ?_
  simp (maxSteps := 4000000) (disch := omega) only [ah, am, Nat.reduceEqDiff, reduceCtorEq, Nat.reduceAdd, Nat.reduceLeDiff, Nat.reduceMul, Nat.reduceLT, if_true, if_false, true_and, and_true, and_self, Nat.reduceBEq, QOp.loads, boxO, bslO, buildO, cutL, fillV, putL, w9, v9, eq_self, decide_true, Bool.not_true]
  exact Ext.more _ _
theorem markC_mine {a b : Nat} {h : Heap} {v : Value} {l : List Clip} (k : Int) (m : Mine a b h encClip 3 v l) (hl : l.length ≤ 1000000000) (hk : 0 ≤ k ∧ k ≤ 1000000000000) :
    ACall Tryz.prog 10 [v, .int .i64 k] h fun r h' => Chg a b h h' ∧ Mine a b h' encClip 3 v (markClip k l.length) ∧ r = .int .i64 (k + 3 * l.length) :=
  ACall.mine m (fun g o => markClipS_ok h g v l k o hl hk) (fun e => by rw [e]; rfl)
theorem bx_chg {a b i : Nat} {h h' : Heap} {cs : List Value} (x : Bx h i cs) (c : Chg a b h h') (hi : i < a ∨ b ≤ i) : Bx h' i cs := by
  unfold Bx at x ⊢; exact c.2 _ _ x (by simp only; omega)
theorem FnExactReadList_ok (h : Heap) (r : Rate) (s : ByteArray) (hn : s.size ≤ 9223372036854775807) :
    ACall Tryz.prog 3 [.agg (encRate r).toArray, .string s] h fun x h' => x = .bool true := by
  obtain ⟨l, rfl⟩ : ∃ l, s = bL l := ⟨_, (bL_of s).symm⟩
  have hsz : (bL l).size = l.length := bL_size l
  rw [hsz] at hn
  have B := Bx.new h (encRate r) []
  have eM := Ext.more h [encRate r]
  have toR := fun K => toRate_ok K r
  have sp := fun K => specReadList_ok K r l (by omega)
  have ip := fun K => ReadList_ok K r l (by omega)
  have hF : (readL r l).1.length ≤ 300 := by
    rcases readL_facts r l with ⟨_, q, _⟩ | ⟨_, q⟩
    · exact q.1.1
    · rw [q]; simp
  simp only [encRate] at B eM toR sp ip
  refine ACall.of Tryz.func3 s3 (of_decide_eq_true rfl) ?_
  by_cases cl : (1048576 : Int) < (l.length : Int)
  · simp (maxSteps := 4000000) (disch := omega) only [ah, am, Nat.reduceEqDiff, reduceCtorEq, Nat.reduceAdd, Nat.reduceLeDiff, Nat.reduceMul, Nat.reduceLT, if_true, if_false, true_and, and_true, and_self, Nat.reduceBEq, QOp.loads, boxO, bslO, buildO, cutL, fillV, putL, w3, v3, encRate, hsz, decide_eq_true cl]
  simp (maxSteps := 4000000) (disch := omega) only [ah, am, Nat.reduceEqDiff, reduceCtorEq, Nat.reduceAdd, Nat.reduceLeDiff, Nat.reduceMul, Nat.reduceLT, if_true, if_false, true_and, and_true, and_self, Nat.reduceBEq, QOp.loads, boxO, bslO, buildO, cutL, fillV, putL, w3, v3, encRate, hsz, decide_eq_false cl]
  obtain ⟨K, hK⟩ : ∃ K, K = h.more [[.int .i64 r.num, .int .i64 r.den, .bool r.drop]] := ⟨_, rfl⟩
  rw [← hK] at B eM ⊢
  clear hK
  refine stepC.of (toR K) ?_
  rintro _ K1 ⟨e1, rfl⟩
  simp (maxSteps := 4000000) (disch := omega) only [ah, am, Nat.reduceEqDiff, reduceCtorEq, Nat.reduceAdd, Nat.reduceLeDiff, Nat.reduceMul, Nat.reduceLT, if_true, if_false, true_and, and_true, and_self, Nat.reduceBEq, QOp.loads, boxO, bslO, buildO, cutL, fillV, putL, w3, v3]
  refine stepC.of (sp K1) ?_
  rintro _ K2 ⟨w, rfl, F2⟩
  have E2 := e1.trans F2.1
  have Bw := Bx.new K2 [.int .i64 (readL r l).2.1, .int .i64 (readL r l).2.2] []
  have e3 := Ext.more K2 [[.int .i64 (readL r l).2.1, .int .i64 (readL r l).2.2]]
  have M2 := F2.slt
  simp (maxSteps := 4000000) (disch := omega) only [ah, am, Nat.reduceEqDiff, reduceCtorEq, Nat.reduceAdd, Nat.reduceLeDiff, Nat.reduceMul, Nat.reduceLT, if_true, if_false, true_and, and_true, and_self, Nat.reduceBEq, QOp.loads, boxO, bslO, buildO, cutL, fillV, putL, w3, v3, (B.ext E2).ld, (B.ext (E2.trans e3)).ld]
  obtain ⟨K3, hK3⟩ : ∃ K3, K3 = K2.more [[.int .i64 (readL r l).2.1, .int .i64 (readL r l).2.2]] := ⟨_, rfl⟩
  obtain ⟨wb, hwb⟩ : ∃ q, q = K2.size := ⟨_, rfl⟩
  rw [← hK3] at Bw e3 ⊢
  rw [← hwb] at Bw ⊢
  have Mw := F2.mine.ext e3
  have E3 := E2.trans e3
  have hwl := Heap.get_lt Bw
  clear hK3
  refine stepC.of (toR K3) ?_
  rintro _ K4 ⟨e4, rfl⟩
  simp (maxSteps := 4000000) (disch := omega) only [ah, am, Nat.reduceEqDiff, reduceCtorEq, Nat.reduceAdd, Nat.reduceLeDiff, Nat.reduceMul, Nat.reduceLT, if_true, if_false, true_and, and_true, and_self, Nat.reduceBEq, QOp.loads, boxO, bslO, buildO, cutL, fillV, putL, w3, v3]
  refine stepC.of (ip K4) ?_
  rintro _ K5 ⟨g, rfl, F5⟩
  have e5 := Ext.more K5 [[.int .i64 (readL r l).2.1, .int .i64 (readL r l).2.2]]
  have Bg := Bx.new K5 [.int .i64 (readL r l).2.1, .int .i64 (readL r l).2.2] []
  have E5 := ((E3.trans e4).trans F5.1).trans e5
  have X5 := (e4.trans F5.1).trans e5
  have Mg := F5.mine.ext e5
  have Mw := Mw.ext X5
  have Bw := Bw.ext X5
  have z2 : K2.size ≤ K4.size := by have := e3.1; have := e4.1; omega
  have z3 : wb < K4.size := by have := e4.1; omega
  simp (maxSteps := 4000000) (disch := omega) only [ah, am, Nat.reduceEqDiff, reduceCtorEq, Nat.reduceAdd, Nat.reduceLeDiff, Nat.reduceMul, Nat.reduceLT, if_true, if_false, true_and, and_true, and_self, Nat.reduceBEq, QOp.loads, boxO, bslO, buildO, cutL, fillV, putL, w3, v3]
  obtain ⟨K6, hK6⟩ : ∃ K6, K6 = K5.more [[.int .i64 (readL r l).2.1, .int .i64 (readL r l).2.2]] := ⟨_, rfl⟩
  obtain ⟨gb, hgb⟩ : ∃ q, q = K5.size := ⟨_, rfl⟩
  rw [← hK6] at Bg Bw Mg Mw E5 ⊢
  rw [← hgb] at Bg ⊢
  clear hK6 X5 e5 F5 F2
  refine stepC.of (eqClipS_ok K6 g w _ _ Mg.slt Mw.slt (by omega) (by omega)) ?_
  rintro _ K7 ⟨e7, rfl⟩
  have E7 := E5.trans e7
  simp (maxSteps := 4000000) (disch := omega) only [ah, am, Nat.reduceEqDiff, reduceCtorEq, Nat.reduceAdd, Nat.reduceLeDiff, Nat.reduceMul, Nat.reduceLT, if_true, if_false, true_and, and_true, and_self, Nat.reduceBEq, QOp.loads, boxO, bslO, buildO, cutL, fillV, putL, w3, v3, eq_self, decide_true, Bool.not_true, (Bg.ext e7).ld, (Bw.ext e7).ld]
  refine stepC.of (eqListFault_ok K7 _ _) ?_
  rintro _ K8 ⟨e8, rfl⟩
  have E8 := E7.trans e8
  have x8 := e7.trans e8
  have Mg := Mg.ext x8
  have Mw := Mw.ext x8
  have Bw := Bw.ext x8
  simp (maxSteps := 4000000) (disch := omega) only [ah, am, Nat.reduceEqDiff, reduceCtorEq, Nat.reduceAdd, Nat.reduceLeDiff, Nat.reduceMul, Nat.reduceLT, if_true, if_false, true_and, and_true, and_self, Nat.reduceBEq, QOp.loads, boxO, bslO, buildO, cutL, fillV, putL, w3, v3, Bool.not_true]
  refine stepC.of (markC_mine 1 Mg (by omega) (by omega)) ?_
  rintro _ K9 ⟨c9, Mg, rfl⟩
  have E9 := c9.ext E8 (by have := E3.1; have := e4.1; omega)
  have Mw := Mw.chg c9 (by omega)
  have Bw := bx_chg Bw c9 (by omega)
  simp (maxSteps := 4000000) (disch := omega) only [ah, am, Nat.reduceEqDiff, reduceCtorEq, Nat.reduceAdd, Nat.reduceLeDiff, Nat.reduceMul, Nat.reduceLT, if_true, if_false, true_and, and_true, and_self, Nat.reduceBEq, QOp.loads, boxO, bslO, buildO, cutL, fillV, putL, w3, v3]
  refine stepC.of (heldClipS_ok K9 g _ 1 Mg.slt (by omega) (by omega)) ?_
  rintro _ Hx ⟨hx, rfl⟩; rw [hx]; clear hx Hx
  have c1 : decide ((1 : Int) + 3 * ((readL r l).1.length : Int) < 0) = false := decide_eq_false (by omega)
  simp (maxSteps := 4000000) (disch := omega) only [ah, am, Nat.reduceEqDiff, reduceCtorEq, Nat.reduceAdd, Nat.reduceLeDiff, Nat.reduceMul, Nat.reduceLT, if_true, if_false, true_and, and_true, and_self, Nat.reduceBEq, QOp.loads, boxO, bslO, buildO, cutL, fillV, putL, w3, v3, c1, eq_self, decide_true, Bool.not_true, (B.ext E9).ld]
  refine stepC.of (toR K9) ?_
  rintro _ K10 ⟨e10, rfl⟩
  simp (maxSteps := 4000000) (disch := omega) only [ah, am, Nat.reduceEqDiff, reduceCtorEq, Nat.reduceAdd, Nat.reduceLeDiff, Nat.reduceMul, Nat.reduceLT, if_true, if_false, true_and, and_true, and_self, Nat.reduceBEq, QOp.loads, boxO, bslO, buildO, cutL, fillV, putL, w3, v3]
  refine stepC.of (ip K10) ?_
  rintro _ K11 ⟨q, rfl, F11⟩
  have Bq := Bx.new K11 [.int .i64 (readL r l).2.1, .int .i64 (readL r l).2.2] []
  have e11 := Ext.more K11 [[.int .i64 (readL r l).2.1, .int .i64 (readL r l).2.2]]
  have x11 := (e10.trans F11.1).trans e11
  have sq := F11.slt.ext e11
  have Mw := Mw.ext x11
  have Mg := Mg.ext x11
  have Bw := Bw.ext x11
  simp (maxSteps := 4000000) (disch := omega) only [ah, am, Nat.reduceEqDiff, reduceCtorEq, Nat.reduceAdd, Nat.reduceLeDiff, Nat.reduceMul, Nat.reduceLT, if_true, if_false, true_and, and_true, and_self, Nat.reduceBEq, QOp.loads, boxO, bslO, buildO, cutL, fillV, putL, w3, v3]
  obtain ⟨K12, hK12⟩ : ∃ K12, K12 = K11.more [[.int .i64 (readL r l).2.1, .int .i64 (readL r l).2.2]] := ⟨_, rfl⟩
  obtain ⟨qb, hqb⟩ : ∃ q, q = K11.size := ⟨_, rfl⟩
  rw [← hK12] at Bq sq Bw Mw Mg ⊢
  rw [← hqb] at Bq ⊢
  clear hK12
  refine stepC.of (eqClipS_ok K12 q w _ _ sq Mw.slt (by omega) (by omega)) ?_
  rintro _ K13 ⟨e13, rfl⟩
  simp (maxSteps := 4000000) (disch := omega) only [ah, am, Nat.reduceEqDiff, reduceCtorEq, Nat.reduceAdd, Nat.reduceLeDiff, Nat.reduceMul, Nat.reduceLT, if_true, if_false, true_and, and_true, and_self, Nat.reduceBEq, QOp.loads, boxO, bslO, buildO, cutL, fillV, putL, w3, v3, eq_self, decide_true, Bool.not_true, (Bq.ext e13).ld, (Bw.ext e13).ld]
  refine stepC.of (eqListFault_ok K13 _ _) ?_
  rintro _ K14 ⟨e14, rfl⟩
  simp (maxSteps := 4000000) (disch := omega) only [ah, am, Nat.reduceEqDiff, reduceCtorEq, Nat.reduceAdd, Nat.reduceLeDiff, Nat.reduceMul, Nat.reduceLT, if_true, if_false, true_and, and_true, and_self, Nat.reduceBEq, QOp.loads, boxO, bslO, buildO, cutL, fillV, putL, w3, v3, Bool.not_true]
  refine stepC.of (heldClipS_ok K14 g _ 1 (Mg.ext (e13.trans e14)).slt (by omega) (by omega)) ?_
  rintro _ Hx ⟨hx, rfl⟩; rw [hx]; clear hx Hx
  simp (maxSteps := 4000000) (disch := omega) only [ah, am, Nat.reduceEqDiff, reduceCtorEq, Nat.reduceAdd, Nat.reduceLeDiff, Nat.reduceMul, Nat.reduceLT, if_true, if_false, true_and, and_true, and_self, Nat.reduceBEq, QOp.loads, boxO, bslO, buildO, cutL, fillV, putL, w3, v3, c1, eq_self, decide_true, Bool.not_true]
end Go.Proofs.YtgmimgmdbpcecaaGreatDoor
end
