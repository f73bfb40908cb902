import Derived.Test.YtgmimgmdbpcecaaDoorR5
namespace Go.Proofs.YtgmimgmdbpcecaaDoor
open Go Go.Ah
set_option linter.unusedSimpArgs false
set_option linter.unusedVariables false
set_option maxRecDepth 10000
set_option maxHeartbeats 4000000
/-! 37 loop.example/g00066/impl.TimeText: parameters 2, live [0, 1], slots [0:r, 1:frame, 2:r, 3:frame, 5:b, 6:n, 7:seconds, 8:mark, 9:wide] -/
def c37_0 : List SOper := [⟨some 2, .a (.box (.t 0)), none⟩, ⟨some 4, .q (.mv (.c (.string ⟨#[]⟩))), none⟩]
def c37_1 : List SOper := [⟨some 10, .q (.ldn 3 (.t 2)), none⟩, ⟨some 11, .e (.call 17 [(.t 10)]), none⟩, ⟨some 12, .q (.not (.t 11)), none⟩, ⟨some 13, .q (.mv (.t 12)), none⟩, ⟨some 14, .q (.mv (.t 1)), some (13, false)⟩, ⟨some 15, .e (.call 45 [(.t 14)]), some (13, false)⟩, ⟨some 16, .q (.not (.t 15)), some (13, false)⟩, ⟨some 17, .q (.pick (.t 13) (.c (.bool true)) (.t 16)), none⟩]
def c37_2 : List SOper := [⟨some 4, .q (.mv (.c (.string ⟨#[]⟩))), none⟩]
def c37_3 : SCode := .seq (.region c37_2 [4]) .ret
def c37_4 : SCode := .cond (.t 17) c37_3 .skip
def c37_5 : SCode := .seq (.region c37_1 [1, 2, 17]) c37_4
def c37_6 : List DOper := [⟨0, ⟨some 18, .q (.ldn 3 (.t 2)), none⟩, [], []⟩, ⟨2, ⟨some 20, .q (.ldn 3 (.t 2)), none⟩, [], []⟩, ⟨3, ⟨some 21, .q (.mv (.t 1)), none⟩, [], []⟩, ⟨1, ⟨some 19, .e (.call 46 [(.t 18)]), none⟩, [], [2]⟩, ⟨4, ⟨some 22, .e (.call 47 [(.t 20), (.t 21)]), none⟩, [], []⟩, ⟨5, ⟨some 5, .q (.mv (.t 19)), none⟩, [], []⟩, ⟨6, ⟨some 6, .q (.mv (.t 22)), none⟩, [], []⟩]
def c37_7 : List SOper := [⟨some 23, .q (.mv (.t 6)), none⟩, ⟨some 24, .q (.mv (.t 5)), none⟩, ⟨some 25, .q (.bin .quo (.t 23) (.t 24)), none⟩, ⟨some 7, .q (.mv (.t 25)), none⟩]
def c37_8 : List SOper := [⟨some 26, .q (.mv (.t 7)), none⟩, ⟨some 27, .q (.bin .quo (.t 26) (.c (.int .i64 3600))), none⟩, ⟨some 28, .q (.bin .gtr (.t 27) (.c (.int .i64 99))), none⟩]
def c37_9 : List SOper := [⟨some 4, .q (.mv (.c (.string ⟨#[]⟩))), none⟩]
def c37_10 : SCode := .seq (.region c37_9 [4]) .ret
def c37_11 : SCode := .cond (.t 28) c37_10 .skip
def c37_12 : SCode := .seq (.region c37_8 [2, 5, 6, 7, 28]) c37_11
def c37_13 : List SOper := [⟨some 8, .q (.mv (.c (.string ⟨#[58]⟩))), none⟩, ⟨some 9, .q (.mv (.c (.int .i64 2))), none⟩]
def c37_14 : List SOper := [⟨some 29, .q (.fa 2 (.t 2)), none⟩, ⟨some 30, .q (.ld (.t 29)), none⟩]
def c37_15 : List SOper := [⟨some 8, .q (.mv (.c (.string ⟨#[59]⟩))), none⟩]
def c37_16 : SCode := .cond (.t 30) (.region c37_15 [5, 6, 7, 8, 9]) .skip
def c37_17 : SCode := .seq (.region c37_14 [5, 6, 7, 8, 9, 30]) c37_16
def c37_18 : List SOper := [⟨some 31, .q (.mv (.t 5)), none⟩, ⟨some 32, .q (.bin .gtr (.t 31) (.c (.int .i64 100))), none⟩]
def c37_19 : List SOper := [⟨some 9, .q (.mv (.c (.int .i64 3))), none⟩]
def c37_20 : SCode := .cond (.t 32) (.region c37_19 [5, 6, 7, 8, 9]) .skip
def c37_21 : SCode := .seq (.region c37_18 [5, 6, 7, 8, 9, 32]) c37_20
def c37_22 : List SOper := [⟨some 33, .q (.mv (.t 7)), none⟩, ⟨some 34, .q (.bin .quo (.t 33) (.c (.int .i64 3600))), none⟩, ⟨some 37, .q (.mv (.t 7)), none⟩, ⟨some 38, .q (.bin .quo (.t 37) (.c (.int .i64 60))), none⟩, ⟨some 39, .q (.bin .rem (.t 38) (.c (.int .i64 60))), none⟩, ⟨some 43, .q (.mv (.t 7)), none⟩, ⟨some 44, .q (.bin .rem (.t 43) (.c (.int .i64 60))), none⟩, ⟨some 47, .q (.mv (.t 8)), none⟩, ⟨some 49, .q (.mv (.t 6)), none⟩, ⟨some 50, .q (.mv (.t 5)), none⟩, ⟨some 51, .q (.bin .rem (.t 49) (.t 50)), none⟩, ⟨some 52, .q (.mv (.t 9)), none⟩, ⟨some 35, .e (.call 35 [(.t 34), (.c (.int .i64 2))]), none⟩, ⟨some 36, .q (.bin .add (.t 35) (.c (.string ⟨#[58]⟩))), none⟩, ⟨some 40, .e (.call 35 [(.t 39), (.c (.int .i64 2))]), none⟩, ⟨some 41, .q (.bin .add (.t 36) (.t 40)), none⟩, ⟨some 42, .q (.bin .add (.t 41) (.c (.string ⟨#[58]⟩))), none⟩, ⟨some 45, .e (.call 35 [(.t 44), (.c (.int .i64 2))]), none⟩, ⟨some 46, .q (.bin .add (.t 42) (.t 45)), none⟩, ⟨some 48, .q (.bin .add (.t 46) (.t 47)), none⟩, ⟨some 53, .e (.call 35 [(.t 51), (.t 52)]), none⟩, ⟨some 54, .q (.bin .add (.t 48) (.t 53)), none⟩, ⟨some 4, .q (.mv (.t 54)), none⟩]
def c37_23 : SCode := .seq (.region c37_22 [4]) .ret
def c37_24 : SCode := .seq c37_21 c37_23
def c37_25 : SCode := .seq c37_17 c37_24
def c37_26 : SCode := .seq (.region c37_13 [2, 5, 6, 7, 8, 9]) c37_25
def c37_27 : SCode := .seq c37_12 c37_26
def c37_28 : SCode := .seq (.region c37_7 [2, 5, 6, 7]) c37_27
def c37_29 : SCode := .seq (.dregion c37_6 [2, 5, 6]) c37_28
def c37_30 : SCode := .seq c37_5 c37_29
def c37_31 : SCode := .seq (.region c37_0 [1, 2]) c37_30
def c37 : SCode := c37_31
theorem w37 : type_of% (And.intro (uR Tryd.prog c37_0.eq_1) (And.intro (uR Tryd.prog c37_1.eq_1) (And.intro (uR Tryd.prog c37_2.eq_1) (And.intro (uC Tryd.prog c37_3.eq_1) (And.intro (uC Tryd.prog c37_4.eq_1) (And.intro (uC Tryd.prog c37_5.eq_1) (And.intro (uD Tryd.prog c37_6.eq_1) (And.intro (uR Tryd.prog c37_7.eq_1) (And.intro (uR Tryd.prog c37_8.eq_1) (And.intro (uR Tryd.prog c37_9.eq_1) (And.intro (uC Tryd.prog c37_10.eq_1) (And.intro (uC Tryd.prog c37_11.eq_1) (And.intro (uC Tryd.prog c37_12.eq_1) (And.intro (uR Tryd.prog c37_13.eq_1) (And.intro (uR Tryd.prog c37_14.eq_1) (And.intro (uR Tryd.prog c37_15.eq_1) (And.intro (uC Tryd.prog c37_16.eq_1) (And.intro (uC Tryd.prog c37_17.eq_1) (And.intro (uR Tryd.prog c37_18.eq_1) (And.intro (uR Tryd.prog c37_19.eq_1) (And.intro (uC Tryd.prog c37_20.eq_1) (And.intro (uC Tryd.prog c37_21.eq_1) (And.intro (uR Tryd.prog c37_22.eq_1) (And.intro (uC Tryd.prog c37_23.eq_1) (And.intro (uC Tryd.prog c37_24.eq_1) (And.intro (uC Tryd.prog c37_25.eq_1) (And.intro (uC Tryd.prog c37_26.eq_1) (And.intro (uC Tryd.prog c37_27.eq_1) (And.intro (uC Tryd.prog c37_28.eq_1) (And.intro (uC Tryd.prog c37_29.eq_1) (And.intro (uC Tryd.prog c37_30.eq_1) (And.intro (uC Tryd.prog c37_31.eq_1) (uC Tryd.prog c37.eq_1))))))))))))))))))))))))))))))))) := (And.intro (uR Tryd.prog c37_0.eq_1) (And.intro (uR Tryd.prog c37_1.eq_1) (And.intro (uR Tryd.prog c37_2.eq_1) (And.intro (uC Tryd.prog c37_3.eq_1) (And.intro (uC Tryd.prog c37_4.eq_1) (And.intro (uC Tryd.prog c37_5.eq_1) (And.intro (uD Tryd.prog c37_6.eq_1) (And.intro (uR Tryd.prog c37_7.eq_1) (And.intro (uR Tryd.prog c37_8.eq_1) (And.intro (uR Tryd.prog c37_9.eq_1) (And.intro (uC Tryd.prog c37_10.eq_1) (And.intro (uC Tryd.prog c37_11.eq_1) (And.intro (uC Tryd.prog c37_12.eq_1) (And.intro (uR Tryd.prog c37_13.eq_1) (And.intro (uR Tryd.prog c37_14.eq_1) (And.intro (uR Tryd.prog c37_15.eq_1) (And.intro (uC Tryd.prog c37_16.eq_1) (And.intro (uC Tryd.prog c37_17.eq_1) (And.intro (uR Tryd.prog c37_18.eq_1) (And.intro (uR Tryd.prog c37_19.eq_1) (And.intro (uC Tryd.prog c37_20.eq_1) (And.intro (uC Tryd.prog c37_21.eq_1) (And.intro (uR Tryd.prog c37_22.eq_1) (And.intro (uC Tryd.prog c37_23.eq_1) (And.intro (uC Tryd.prog c37_24.eq_1) (And.intro (uC Tryd.prog c37_25.eq_1) (And.intro (uC Tryd.prog c37_26.eq_1) (And.intro (uC Tryd.prog c37_27.eq_1) (And.intro (uC Tryd.prog c37_28.eq_1) (And.intro (uC Tryd.prog c37_29.eq_1) (And.intro (uC Tryd.prog c37_30.eq_1) (And.intro (uC Tryd.prog c37_31.eq_1) (uC Tryd.prog c37.eq_1)))))))))))))))))))))))))))))))))
def v37 : List RV := [.t 4]
theorem s37 : slimF Tryd.prog Tryd.f37 = some (c37.bare, v37) := by kernel_rfl
/-! 14 loop.example/g00066/spec.TimeText: parameters 2, live [0, 1], slots [0:r, 1:frame, 2:r, 3:frame, 5:b, 6:n, 7:mark, 8:out, 9:ten, 10:one, 11:tens, 12:rest, 13:ff, 14:k] -/
def c14_0 : List SOper := [⟨some 2, .a (.box (.t 0)), none⟩, ⟨some 4, .q (.mv (.c (.string ⟨#[]⟩))), none⟩]
def c14_1 : List SOper := [⟨some 15, .q (.ldn 3 (.t 2)), none⟩, ⟨some 16, .e (.call 25 [(.t 15)]), none⟩, ⟨some 5, .q (.mv (.t 16)), none⟩]
def c14_2 : List SOper := [⟨some 17, .q (.mv (.t 5)), none⟩, ⟨some 18, .q (.bin .eql (.t 17) (.c (.int .i64 0))), none⟩, ⟨some 19, .q (.mv (.t 18)), none⟩, ⟨some 20, .q (.mv (.t 1)), some (19, false)⟩, ⟨some 21, .e (.call 26 [(.t 20)]), some (19, false)⟩, ⟨some 22, .q (.not (.t 21)), some (19, false)⟩, ⟨some 23, .q (.pick (.t 19) (.c (.bool true)) (.t 22)), none⟩]
def c14_3 : List SOper := [⟨some 4, .q (.mv (.c (.string ⟨#[]⟩))), none⟩]
def c14_4 : SCode := .seq (.region c14_3 [4]) .ret
def c14_5 : SCode := .cond (.t 23) c14_4 .skip
def c14_6 : SCode := .seq (.region c14_2 [1, 2, 5, 23]) c14_5
def c14_7 : List SOper := [⟨some 24, .q (.mv (.t 1)), none⟩, ⟨some 6, .q (.mv (.t 24)), none⟩]
def c14_8 : List SOper := [⟨some 7, .q (.mv (.c (.string ⟨#[58]⟩))), none⟩]
def c14_9 : List SOper := [⟨some 25, .q (.fa 2 (.t 2)), none⟩, ⟨some 26, .q (.ld (.t 25)), none⟩]
def c14_10 : List SOper := [⟨some 7, .q (.mv (.c (.string ⟨#[59]⟩))), none⟩]
def c14_11 : List SOper := [⟨some 27, .q (.mv (.t 5)), none⟩, ⟨some 28, .q (.bin .quo (.t 27) (.c (.int .i64 15))), none⟩, ⟨some 8, .q (.mv (.t 28)), none⟩]
def c14_12 : List SOper := [⟨some 29, .q (.mv (.t 5)), none⟩, ⟨some 30, .q (.bin .mul (.c (.int .i64 600)) (.t 29)), none⟩, ⟨some 31, .q (.mv (.t 8)), none⟩, ⟨some 32, .q (.bin .mul (.c (.int .i64 9)) (.t 31)), none⟩, ⟨some 33, .q (.bin .sub (.t 30) (.t 32)), none⟩, ⟨some 9, .q (.mv (.t 33)), none⟩]
def c14_13 : List SOper := [⟨some 34, .q (.mv (.t 5)), none⟩, ⟨some 35, .q (.bin .mul (.c (.int .i64 60)) (.t 34)), none⟩, ⟨some 36, .q (.mv (.t 8)), none⟩, ⟨some 37, .q (.bin .sub (.t 35) (.t 36)), none⟩, ⟨some 10, .q (.mv (.t 37)), none⟩]
def c14_14 : List SOper := [⟨some 38, .q (.mv (.t 6)), none⟩, ⟨some 39, .q (.mv (.t 9)), none⟩, ⟨some 40, .q (.bin .quo (.t 38) (.t 39)), none⟩, ⟨some 11, .q (.mv (.t 40)), none⟩]
def c14_15 : List SOper := [⟨some 41, .q (.mv (.t 6)), none⟩, ⟨some 42, .q (.mv (.t 9)), none⟩, ⟨some 43, .q (.bin .rem (.t 41) (.t 42)), none⟩, ⟨some 12, .q (.mv (.t 43)), none⟩]
def c14_16 : List SOper := [⟨some 44, .q (.mv (.t 6)), none⟩, ⟨some 45, .q (.mv (.t 8)), none⟩, ⟨some 46, .q (.bin .mul (.c (.int .i64 9)) (.t 45)), none⟩, ⟨some 47, .q (.mv (.t 11)), none⟩, ⟨some 48, .q (.bin .mul (.t 46) (.t 47)), none⟩, ⟨some 49, .q (.bin .add (.t 44) (.t 48)), none⟩, ⟨some 6, .q (.mv (.t 49)), none⟩]
def c14_17 : List SOper := [⟨some 50, .q (.mv (.t 12)), none⟩, ⟨some 51, .q (.mv (.t 5)), none⟩, ⟨some 52, .q (.bin .mul (.c (.int .i64 60)) (.t 51)), none⟩, ⟨some 53, .q (.bin .geq (.t 50) (.t 52)), none⟩]
def c14_18 : List SOper := [⟨some 54, .q (.mv (.t 6)), none⟩, ⟨some 55, .q (.mv (.t 8)), none⟩, ⟨some 56, .q (.mv (.t 12)), none⟩, ⟨some 57, .q (.mv (.t 5)), none⟩, ⟨some 58, .q (.bin .mul (.c (.int .i64 60)) (.t 57)), none⟩, ⟨some 59, .q (.bin .sub (.t 56) (.t 58)), none⟩, ⟨some 60, .q (.mv (.t 10)), none⟩, ⟨some 61, .q (.bin .quo (.t 59) (.t 60)), none⟩, ⟨some 62, .q (.bin .add (.t 61) (.c (.int .i64 1))), none⟩, ⟨some 63, .q (.bin .mul (.t 55) (.t 62)), none⟩, ⟨some 64, .q (.bin .add (.t 54) (.t 63)), none⟩, ⟨some 6, .q (.mv (.t 64)), none⟩]
def c14_19 : SCode := .cond (.t 53) (.region c14_18 [5, 6, 7]) .skip
def c14_20 : SCode := .seq (.region c14_17 [5, 6, 7, 8, 10, 12, 53]) c14_19
def c14_21 : SCode := .seq (.region c14_16 [5, 6, 7, 8, 10, 12]) c14_20
def c14_22 : SCode := .seq (.region c14_15 [5, 6, 7, 8, 10, 11, 12]) c14_21
def c14_23 : SCode := .seq (.region c14_14 [5, 6, 7, 8, 9, 10, 11]) c14_22
def c14_24 : SCode := .seq (.region c14_13 [5, 6, 7, 8, 9, 10]) c14_23
def c14_25 : SCode := .seq (.region c14_12 [5, 6, 7, 8, 9]) c14_24
def c14_26 : SCode := .seq (.region c14_11 [5, 6, 7, 8]) c14_25
def c14_27 : SCode := .seq (.region c14_10 [5, 6, 7]) c14_26
def c14_28 : SCode := .cond (.t 26) c14_27 .skip
def c14_29 : SCode := .seq (.region c14_9 [5, 6, 7, 26]) c14_28
def c14_30 : List SOper := [⟨some 65, .q (.mv (.t 6)), none⟩, ⟨some 66, .q (.mv (.t 5)), none⟩, ⟨some 67, .q (.bin .rem (.t 65) (.t 66)), none⟩, ⟨some 13, .q (.mv (.t 67)), none⟩]
def c14_31 : List SOper := [⟨some 68, .q (.mv (.t 6)), none⟩, ⟨some 69, .q (.mv (.t 5)), none⟩, ⟨some 70, .q (.bin .quo (.t 68) (.t 69)), none⟩, ⟨some 6, .q (.mv (.t 70)), none⟩]
def c14_32 : List SOper := [⟨some 71, .q (.mv (.t 6)), none⟩, ⟨some 72, .q (.bin .quo (.t 71) (.c (.int .i64 3600))), none⟩, ⟨some 73, .q (.bin .gtr (.t 72) (.c (.int .i64 99))), none⟩]
def c14_33 : List SOper := [⟨some 4, .q (.mv (.c (.string ⟨#[]⟩))), none⟩]
def c14_34 : SCode := .seq (.region c14_33 [4]) .ret
def c14_35 : SCode := .cond (.t 73) c14_34 .skip
def c14_36 : SCode := .seq (.region c14_32 [5, 6, 7, 13, 73]) c14_35
def c14_37 : List SOper := [⟨some 14, .q (.mv (.c (.int .i64 2))), none⟩]
def c14_38 : List SOper := [⟨some 74, .q (.mv (.t 5)), none⟩, ⟨some 75, .q (.bin .gtr (.t 74) (.c (.int .i64 100))), none⟩]
def c14_39 : List SOper := [⟨some 14, .q (.mv (.c (.int .i64 3))), none⟩]
def c14_40 : SCode := .cond (.t 75) (.region c14_39 [6, 7, 13, 14]) .skip
def c14_41 : SCode := .seq (.region c14_38 [6, 7, 13, 14, 75]) c14_40
def c14_42 : List SOper := [⟨some 76, .q (.mv (.t 6)), none⟩, ⟨some 77, .q (.bin .quo (.t 76) (.c (.int .i64 3600))), none⟩, ⟨some 78, .e (.call 27 [(.t 77), (.c (.int .i64 2))]), none⟩, ⟨some 79, .q (.bin .add (.t 78) (.c (.string ⟨#[58]⟩))), none⟩, ⟨some 80, .q (.mv (.t 6)), none⟩, ⟨some 81, .q (.bin .quo (.t 80) (.c (.int .i64 60))), none⟩, ⟨some 82, .q (.bin .rem (.t 81) (.c (.int .i64 60))), none⟩, ⟨some 83, .e (.call 27 [(.t 82), (.c (.int .i64 2))]), none⟩, ⟨some 84, .q (.bin .add (.t 79) (.t 83)), none⟩, ⟨some 85, .q (.bin .add (.t 84) (.c (.string ⟨#[58]⟩))), none⟩, ⟨some 86, .q (.mv (.t 6)), none⟩, ⟨some 87, .q (.bin .rem (.t 86) (.c (.int .i64 60))), none⟩, ⟨some 88, .e (.call 27 [(.t 87), (.c (.int .i64 2))]), none⟩, ⟨some 89, .q (.bin .add (.t 85) (.t 88)), none⟩, ⟨some 90, .q (.mv (.t 7)), none⟩, ⟨some 91, .q (.bin .add (.t 89) (.t 90)), none⟩, ⟨some 92, .q (.mv (.t 13)), none⟩, ⟨some 93, .q (.mv (.t 14)), none⟩, ⟨some 94, .e (.call 27 [(.t 92), (.t 93)]), none⟩, ⟨some 95, .q (.bin .add (.t 91) (.t 94)), none⟩, ⟨some 4, .q (.mv (.t 95)), none⟩]
def c14_43 : SCode := .seq (.region c14_42 [4]) .ret
def c14_44 : SCode := .seq c14_41 c14_43
def c14_45 : SCode := .seq (.region c14_37 [5, 6, 7, 13, 14]) c14_44
def c14_46 : SCode := .seq c14_36 c14_45
def c14_47 : SCode := .seq (.region c14_31 [5, 6, 7, 13]) c14_46
def c14_48 : SCode := .seq (.region c14_30 [5, 6, 7, 13]) c14_47
def c14_49 : SCode := .seq c14_29 c14_48
def c14_50 : SCode := .seq (.region c14_8 [2, 5, 6, 7]) c14_49
def c14_51 : SCode := .seq (.region c14_7 [2, 5, 6]) c14_50
def c14_52 : SCode := .seq c14_6 c14_51
def c14_53 : SCode := .seq (.region c14_1 [1, 2, 5]) c14_52
def c14_54 : SCode := .seq (.region c14_0 [1, 2]) c14_53
def c14 : SCode := c14_54
theorem w14 : type_of% (And.intro (uR Tryd.prog c14_0.eq_1) (And.intro (uR Tryd.prog c14_1.eq_1) (And.intro (uR Tryd.prog c14_2.eq_1) (And.intro (uR Tryd.prog c14_3.eq_1) (And.intro (uC Tryd.prog c14_4.eq_1) (And.intro (uC Tryd.prog c14_5.eq_1) (And.intro (uC Tryd.prog c14_6.eq_1) (And.intro (uR Tryd.prog c14_7.eq_1) (And.intro (uR Tryd.prog c14_8.eq_1) (And.intro (uR Tryd.prog c14_9.eq_1) (And.intro (uR Tryd.prog c14_10.eq_1) (And.intro (uR Tryd.prog c14_11.eq_1) (And.intro (uR Tryd.prog c14_12.eq_1) (And.intro (uR Tryd.prog c14_13.eq_1) (And.intro (uR Tryd.prog c14_14.eq_1) (And.intro (uR Tryd.prog c14_15.eq_1) (And.intro (uR Tryd.prog c14_16.eq_1) (And.intro (uR Tryd.prog c14_17.eq_1) (And.intro (uR Tryd.prog c14_18.eq_1) (And.intro (uC Tryd.prog c14_19.eq_1) (And.intro (uC Tryd.prog c14_20.eq_1) (And.intro (uC Tryd.prog c14_21.eq_1) (And.intro (uC Tryd.prog c14_22.eq_1) (And.intro (uC Tryd.prog c14_23.eq_1) (And.intro (uC Tryd.prog c14_24.eq_1) (And.intro (uC Tryd.prog c14_25.eq_1) (And.intro (uC Tryd.prog c14_26.eq_1) (And.intro (uC Tryd.prog c14_27.eq_1) (And.intro (uC Tryd.prog c14_28.eq_1) (And.intro (uC Tryd.prog c14_29.eq_1) (And.intro (uR Tryd.prog c14_30.eq_1) (And.intro (uR Tryd.prog c14_31.eq_1) (And.intro (uR Tryd.prog c14_32.eq_1) (And.intro (uR Tryd.prog c14_33.eq_1) (And.intro (uC Tryd.prog c14_34.eq_1) (And.intro (uC Tryd.prog c14_35.eq_1) (And.intro (uC Tryd.prog c14_36.eq_1) (And.intro (uR Tryd.prog c14_37.eq_1) (And.intro (uR Tryd.prog c14_38.eq_1) (And.intro (uR Tryd.prog c14_39.eq_1) (And.intro (uC Tryd.prog c14_40.eq_1) (And.intro (uC Tryd.prog c14_41.eq_1) (And.intro (uR Tryd.prog c14_42.eq_1) (And.intro (uC Tryd.prog c14_43.eq_1) (And.intro (uC Tryd.prog c14_44.eq_1) (And.intro (uC Tryd.prog c14_45.eq_1) (And.intro (uC Tryd.prog c14_46.eq_1) (And.intro (uC Tryd.prog c14_47.eq_1) (And.intro (uC Tryd.prog c14_48.eq_1) (And.intro (uC Tryd.prog c14_49.eq_1) (And.intro (uC Tryd.prog c14_50.eq_1) (And.intro (uC Tryd.prog c14_51.eq_1) (And.intro (uC Tryd.prog c14_52.eq_1) (And.intro (uC Tryd.prog c14_53.eq_1) (And.intro (uC Tryd.prog c14_54.eq_1) (uC Tryd.prog c14.eq_1)))))))))))))))))))))))))))))))))))))))))))))))))))))))) := (And.intro (uR Tryd.prog c14_0.eq_1) (And.intro (uR Tryd.prog c14_1.eq_1) (And.intro (uR Tryd.prog c14_2.eq_1) (And.intro (uR Tryd.prog c14_3.eq_1) (And.intro (uC Tryd.prog c14_4.eq_1) (And.intro (uC Tryd.prog c14_5.eq_1) (And.intro (uC Tryd.prog c14_6.eq_1) (And.intro (uR Tryd.prog c14_7.eq_1) (And.intro (uR Tryd.prog c14_8.eq_1) (And.intro (uR Tryd.prog c14_9.eq_1) (And.intro (uR Tryd.prog c14_10.eq_1) (And.intro (uR Tryd.prog c14_11.eq_1) (And.intro (uR Tryd.prog c14_12.eq_1) (And.intro (uR Tryd.prog c14_13.eq_1) (And.intro (uR Tryd.prog c14_14.eq_1) (And.intro (uR Tryd.prog c14_15.eq_1) (And.intro (uR Tryd.prog c14_16.eq_1) (And.intro (uR Tryd.prog c14_17.eq_1) (And.intro (uR Tryd.prog c14_18.eq_1) (And.intro (uC Tryd.prog c14_19.eq_1) (And.intro (uC Tryd.prog c14_20.eq_1) (And.intro (uC Tryd.prog c14_21.eq_1) (And.intro (uC Tryd.prog c14_22.eq_1) (And.intro (uC Tryd.prog c14_23.eq_1) (And.intro (uC Tryd.prog c14_24.eq_1) (And.intro (uC Tryd.prog c14_25.eq_1) (And.intro (uC Tryd.prog c14_26.eq_1) (And.intro (uC Tryd.prog c14_27.eq_1) (And.intro (uC Tryd.prog c14_28.eq_1) (And.intro (uC Tryd.prog c14_29.eq_1) (And.intro (uR Tryd.prog c14_30.eq_1) (And.intro (uR Tryd.prog c14_31.eq_1) (And.intro (uR Tryd.prog c14_32.eq_1) (And.intro (uR Tryd.prog c14_33.eq_1) (And.intro (uC Tryd.prog c14_34.eq_1) (And.intro (uC Tryd.prog c14_35.eq_1) (And.intro (uC Tryd.prog c14_36.eq_1) (And.intro (uR Tryd.prog c14_37.eq_1) (And.intro (uR Tryd.prog c14_38.eq_1) (And.intro (uR Tryd.prog c14_39.eq_1) (And.intro (uC Tryd.prog c14_40.eq_1) (And.intro (uC Tryd.prog c14_41.eq_1) (And.intro (uR Tryd.prog c14_42.eq_1) (And.intro (uC Tryd.prog c14_43.eq_1) (And.intro (uC Tryd.prog c14_44.eq_1) (And.intro (uC Tryd.prog c14_45.eq_1) (And.intro (uC Tryd.prog c14_46.eq_1) (And.intro (uC Tryd.prog c14_47.eq_1) (And.intro (uC Tryd.prog c14_48.eq_1) (And.intro (uC Tryd.prog c14_49.eq_1) (And.intro (uC Tryd.prog c14_50.eq_1) (And.intro (uC Tryd.prog c14_51.eq_1) (And.intro (uC Tryd.prog c14_52.eq_1) (And.intro (uC Tryd.prog c14_53.eq_1) (And.intro (uC Tryd.prog c14_54.eq_1) (uC Tryd.prog c14.eq_1))))))))))))))))))))))))))))))))))))))))))))))))))))))))
def v14 : List RV := [.t 4]
theorem s14 : slimF Tryd.prog Tryd.f14 = some (c14.bare, v14) := by kernel_rfl

theorem tdivN (a b : Nat) : ((a : Int)).tdiv (b : Int) = ((a / b : Nat) : Int) := by rw [Int.tdiv_eq_ediv_of_nonneg (by omega)]; rfl
theorem tmodN (a b : Nat) : ((a : Int)).tmod (b : Int) = ((a % b : Nat) : Int) := by rw [Int.tmod_eq_emod_of_nonneg (by omega)]; rfl
theorem told_bd (r : Rate) (f : Nat) (hr : rateOk r) (hf : f ≤ 10000000) : toldN r f ≤ 500000000 := by
  have hl := left_le r
  unfold toldN
  have h1 : 9 * leftN r * (f / (10 * (60 * baseN r) - 9 * leftN r)) ≤ 36 * 10000000 := Nat.mul_le_mul (by omega) (Nat.le_trans (Nat.div_le_self _ _) hf)
  split
  · have h2 : f % (10 * (60 * baseN r) - 9 * leftN r) ≤ f := Nat.mod_le _ _
    have h3 : leftN r * (1 + (f % (10 * (60 * baseN r) - 9 * leftN r) - 60 * baseN r) / (60 * baseN r - leftN r)) ≤ 4 * (1 + 10000000) :=
      Nat.mul_le_mul hl (Nat.add_le_add_left (Nat.le_trans (Nat.div_le_self _ _) (by omega)) 1)
    omega
  · omega
def timeN (b n : Nat) (mk : UInt8) (wd : Nat) : List UInt8 :=
  padL 2 (digs (n / b / 3600)) ++ [58] ++ padL 2 (digs (n / b / 60 % 60)) ++ [58] ++ padL 2 (digs (n / b % 60)) ++ [mk] ++ padL wd (digs (n % b))
def timeL (r : Rate) (f : Int) : List UInt8 :=
  if rateOk r ∧ 0 ≤ f ∧ f ≤ 10000000 then (if 99 < toldN r f.toNat / baseN r / 3600 then [] else timeN (baseN r) (toldN r f.toNat) (if r.drop = true then 59 else 58) (if 100 < baseN r then 3 else 2)) else []
theorem isFrame_ok (h : Heap) (f : Int) : ACall Tryd.prog 45 [.int .i64 f] h fun x h' => h' = h ∧ x = .bool (decide (0 ≤ f ∧ f ≤ 10000000)) := by
  refine ACall.of Tryd.func45 s45 (of_decide_eq_true rfl) ?_
  simp (maxSteps := 4000000) (disch := omega) only [ah, am, Nat.reduceEqDiff, reduceCtorEq, Nat.reduceAdd, Nat.reduceLeDiff, Nat.reduceMul, Nat.reduceLT, if_true, if_false, true_and, and_true, and_self, Nat.reduceBEq, QOp.loads, boxO, bslO, buildO, cutL, fillV, putL, w45, v45]
  refine stepC.of (in_ok h f 0 10000000) ?_
  rintro _ Hx ⟨hx, rfl⟩; rw [hx]; clear hx Hx
  simp (maxSteps := 4000000) (disch := omega) only [ah, am, Nat.reduceEqDiff, reduceCtorEq, Nat.reduceAdd, Nat.reduceLeDiff, Nat.reduceMul, Nat.reduceLT, if_true, if_false, true_and, and_true, and_self, Nat.reduceBEq, QOp.loads, boxO, bslO, buildO, cutL, fillV, putL, w45, v45]
theorem l1Frame_ok (h : Heap) (f : Int) : ACall Tryd.prog 26 [.int .i64 f] h fun x h' => h' = h ∧ x = .bool (decide (0 ≤ f ∧ f ≤ 10000000)) := by
  refine ACall.of Tryd.func26 s26 (of_decide_eq_true rfl) ?_
  simp (maxSteps := 4000000) (disch := omega) only [ah, am, Nat.reduceEqDiff, reduceCtorEq, Nat.reduceAdd, Nat.reduceLeDiff, Nat.reduceMul, Nat.reduceLT, if_true, if_false, true_and, and_true, and_self, Nat.reduceBEq, QOp.loads, boxO, bslO, buildO, cutL, fillV, putL, w26, v26]
  refine stepC.of (l1In_ok h f 0 10000000) ?_
  rintro _ Hx ⟨hx, rfl⟩; rw [hx]; clear hx Hx
  simp (maxSteps := 4000000) (disch := omega) only [ah, am, Nat.reduceEqDiff, reduceCtorEq, Nat.reduceAdd, Nat.reduceLeDiff, Nat.reduceMul, Nat.reduceLT, if_true, if_false, true_and, and_true, and_self, Nat.reduceBEq, QOp.loads, boxO, bslO, buildO, cutL, fillV, putL, w26, v26]
theorem padL_le {k n : Nat} (hk : k ≤ 19) (hn : n ≤ 9223372036854775807) : (padL k (digs n)).length ≤ 19 := by
  rw [padL_len]; have := digs_len19 hn; omega
theorem TimeText_last (h K : Heap) (b n : Nat) (mk : UInt8) (wd : Nat) (R : Env) (e : Ext h K) (hb : 1 ≤ b) (hb2 : b ≤ 120) (hn : n ≤ 500000000) (hw : wd ≤ 3) :
    SW Tryd.prog c37_23 (retQ v37 fun x h' => Ext h h' ∧ x = .string (bL (timeN b n mk wd))) ((5, .int .i64 (b : Int)) :: (6, .int .i64 (n : Int)) :: (7, .int .i64 ((n / b : Nat) : Int)) :: (8, .string (bL [mk])) :: (9, .int .i64 (wd : Int)) :: R) K := by
  skip
  unfold timeN
  obtain ⟨s, hs⟩ : ∃ s, s = n / b := ⟨_, rfl⟩
  have hsn : s ≤ n := by rw [hs]; exact Nat.div_le_self _ _
  rw [← hs]
  have bn : (b : Int) ≠ 0 := by omega
  have hmb : n % b ≤ n := Nat.mod_le _ _
  have n36 : (3600 : Int) ≠ 0 := by omega
  have n60 : (60 : Int) ≠ 0 := by omega
  have q3 : IntKind.i64.wrap ((s : Int).tdiv 3600) = ((s / 3600 : Nat) : Int) := i64e (tdivN s 3600) (by omega)
  have q4 : IntKind.i64.wrap ((s : Int).tdiv 60) = ((s / 60 : Nat) : Int) := i64e (tdivN s 60) (by omega)
  have q5 : ((s / 60 : Nat) : Int).tmod 60 = ((s / 60 % 60 : Nat) : Int) := tmodN (s / 60) 60
  have q6 : ((s : Nat) : Int).tmod 60 = ((s % 60 : Nat) : Int) := tmodN s 60
  have q7 : (n : Int).tmod (b : Int) = ((n % b : Nat) : Int) := tmodN n b
  have l1 := padL_le (k := 2) (n := s / 3600) (by omega) (by omega)
  have l2 := padL_le (k := 2) (n := s / 60 % 60) (by omega) (by omega)
  have l3 := padL_le (k := 2) (n := s % 60) (by omega) (by omega)
  have l4 := padL_le (k := wd) (n := n % b) (by omega) (by omega)
  have p1 := padded_ok K (s / 3600) 2 (by omega) (by omega)
  have p2 := padded_ok K (s / 60 % 60) 2 (by omega) (by omega)
  have p3 := padded_ok K (s % 60) 2 (by omega) (by omega)
  have p4 := padded_ok K (n % b) wd (by omega) (by omega)
  rw [show (((2 : Nat) : Int)) = 2 from rfl] at p1 p2 p3
  generalize padL 2 (digs (s / 3600)) = a1 at *
  generalize padL 2 (digs (s / 60 % 60)) = a2 at *
  generalize padL 2 (digs (s % 60)) = a3 at *
  generalize padL wd (digs (n % b)) = a4 at *
  have A1 : strB .add (bL a1) ⟨#[58]⟩ = some (.string (bL (a1 ++ [58]))) := strB_addL a1 [58] (by simp; omega)
  have A2 := strB_addL (a1 ++ [58]) a2 (by simp; omega)
  have A3 : strB .add (bL (a1 ++ [58] ++ a2)) ⟨#[58]⟩ = some (.string (bL (a1 ++ [58] ++ a2 ++ [58]))) := strB_addL (a1 ++ [58] ++ a2) [58] (by simp; omega)
  have A4 := strB_addL (a1 ++ [58] ++ a2 ++ [58]) a3 (by simp; omega)
  have A5 := strB_addL (a1 ++ [58] ++ a2 ++ [58] ++ a3) [mk] (by simp; omega)
  have A6 := strB_addL (a1 ++ [58] ++ a2 ++ [58] ++ a3 ++ [mk]) a4 (by simp; omega)
  simp (maxSteps := 4000000) (disch := omega) only [ah, am, Nat.reduceEqDiff, reduceCtorEq, Nat.reduceAdd, Nat.reduceLeDiff, Nat.reduceMul, Nat.reduceLT, if_true, if_false, true_and, and_true, and_self, Nat.reduceBEq, QOp.loads, boxO, bslO, buildO, cutL, fillV, putL, w37, v37, bn, n36, n60, ne_eq, not_false_eq_true, q3, q4, q5, q6, q7]
  refine stepC.of p1 ?_
  rintro _ Hx ⟨hx, rfl⟩; rw [hx]; clear hx Hx
  simp (maxSteps := 4000000) (disch := omega) only [ah, am, Nat.reduceEqDiff, reduceCtorEq, Nat.reduceAdd, Nat.reduceLeDiff, Nat.reduceMul, Nat.reduceLT, if_true, if_false, true_and, and_true, and_self, Nat.reduceBEq, QOp.loads, boxO, bslO, buildO, cutL, fillV, putL, w37, v37, A1]
  refine stepC.of p2 ?_
  rintro _ Hx ⟨hx, rfl⟩; rw [hx]; clear hx Hx
  simp (maxSteps := 4000000) (disch := omega) only [ah, am, Nat.reduceEqDiff, reduceCtorEq, Nat.reduceAdd, Nat.reduceLeDiff, Nat.reduceMul, Nat.reduceLT, if_true, if_false, true_and, and_true, and_self, Nat.reduceBEq, QOp.loads, boxO, bslO, buildO, cutL, fillV, putL, w37, v37, A2, A3]
  refine stepC.of p3 ?_
  rintro _ Hx ⟨hx, rfl⟩; rw [hx]; clear hx Hx
  simp (maxSteps := 4000000) (disch := omega) only [ah, am, Nat.reduceEqDiff, reduceCtorEq, Nat.reduceAdd, Nat.reduceLeDiff, Nat.reduceMul, Nat.reduceLT, if_true, if_false, true_and, and_true, and_self, Nat.reduceBEq, QOp.loads, boxO, bslO, buildO, cutL, fillV, putL, w37, v37, A4, A5]
  refine stepC.of p4 ?_
  rintro _ Hx ⟨hx, rfl⟩; rw [hx]; clear hx Hx
  simp (maxSteps := 4000000) (disch := omega) only [ah, am, Nat.reduceEqDiff, reduceCtorEq, Nat.reduceAdd, Nat.reduceLeDiff, Nat.reduceMul, Nat.reduceLT, if_true, if_false, true_and, and_true, and_self, Nat.reduceBEq, QOp.loads, boxO, bslO, buildO, cutL, fillV, putL, w37, v37, A6]
  exact e
theorem TimeText_ok (h : Heap) (r : Rate) (f : Int) : ACall Tryd.prog 37 [.agg (encRate r).toArray, .int .i64 f] h fun x h' => Ext h h' ∧ x = .string (bL (timeL r f)) := by
  have B := Bx.new h (encRate r) []
  have eM := Ext.more h [encRate r]
  have rk := RateOk_ok (h.more [encRate r]) r
  simp only [encRate] at B eM rk
  refine ACall.of Tryd.func37 s37 (of_decide_eq_true rfl) ?_
  simp (maxSteps := 4000000) (disch := omega) only [ah, am, Nat.reduceEqDiff, reduceCtorEq, Nat.reduceAdd, Nat.reduceLeDiff, Nat.reduceMul, Nat.reduceLT, if_true, if_false, true_and, and_true, and_self, Nat.reduceBEq, QOp.loads, boxO, bslO, buildO, cutL, fillV, putL, w37, v37, encRate, B.ld]
  refine stepC.of rk ?_
  rintro _ H1 ⟨e1, rfl⟩
  have B1 := B.ext e1
  have E1 := eM.trans e1
  have bad : ¬ (rateOk r ∧ 0 ≤ f ∧ f ≤ 10000000) → Ext h H1 ∧ Value.string ⟨#[]⟩ = .string (bL (timeL r f)) := fun q => ⟨E1, by unfold timeL; rw [if_neg q]; rfl⟩
  by_cases hr : rateOk r
  rotate_left
  · simp (maxSteps := 4000000) (disch := omega) only [ah, am, Nat.reduceEqDiff, reduceCtorEq, Nat.reduceAdd, Nat.reduceLeDiff, Nat.reduceMul, Nat.reduceLT, if_true, if_false, true_and, and_true, and_self, Nat.reduceBEq, QOp.loads, boxO, bslO, buildO, cutL, fillV, putL, w37, v37, decide_eq_false hr]
    exact bad fun q => hr q.1
  simp (maxSteps := 4000000) (disch := omega) only [ah, am, Nat.reduceEqDiff, reduceCtorEq, Nat.reduceAdd, Nat.reduceLeDiff, Nat.reduceMul, Nat.reduceLT, if_true, if_false, true_and, and_true, and_self, Nat.reduceBEq, QOp.loads, boxO, bslO, buildO, cutL, fillV, putL, w37, v37, decide_eq_true hr]
  refine stepC.of (isFrame_ok H1 f) ?_
  rintro _ Hx ⟨hx, rfl⟩; rw [hx]; clear hx Hx
  by_cases hf : 0 ≤ f ∧ f ≤ 10000000
  rotate_left
  · simp (maxSteps := 4000000) (disch := omega) only [ah, am, Nat.reduceEqDiff, reduceCtorEq, Nat.reduceAdd, Nat.reduceLeDiff, Nat.reduceMul, Nat.reduceLT, if_true, if_false, true_and, and_true, and_self, Nat.reduceBEq, QOp.loads, boxO, bslO, buildO, cutL, fillV, putL, w37, v37, decide_eq_false hf]
    exact bad fun q => hf q.2
  obtain ⟨fn, rfl⟩ := Int.eq_ofNat_of_zero_le hf.1
  have hfn : fn ≤ 10000000 := by omega
  have ht : timeL r (fn : Int) = if 99 < toldN r fn / baseN r / 3600 then [] else timeN (baseN r) (toldN r fn) (if r.drop = true then 59 else 58) (if 100 < baseN r then 3 else 2) := by
    unfold timeL; rw [if_pos ⟨hr, hf⟩, Int.toNat_natCast]
  have bk := base_ok H1 r hr
  simp only [encRate] at bk
  simp (maxSteps := 4000000) (disch := omega) only [ah, am, Nat.reduceEqDiff, reduceCtorEq, Nat.reduceAdd, Nat.reduceLeDiff, Nat.reduceMul, Nat.reduceLT, if_true, if_false, true_and, and_true, and_self, Nat.reduceBEq, QOp.loads, boxO, bslO, buildO, cutL, fillV, putL, w37, v37, decide_eq_true hf, B1.ld]
  refine stepC.of bk ?_
  rintro _ H2 ⟨e2, rfl⟩
  have B2 := B1.ext e2
  have tk := told_ok H2 r fn hr hfn
  simp only [encRate] at tk
  simp (maxSteps := 4000000) (disch := omega) only [ah, am, Nat.reduceEqDiff, reduceCtorEq, Nat.reduceAdd, Nat.reduceLeDiff, Nat.reduceMul, Nat.reduceLT, if_true, if_false, true_and, and_true, and_self, Nat.reduceBEq, QOp.loads, boxO, bslO, buildO, cutL, fillV, putL, w37, v37, rechk_cons, rechk_end, chkV_some, chkV_false, B2.ld]
  refine stepC.of tk ?_
  rintro _ H3 ⟨e3, rfl⟩
  have B3 := B2.ext e3
  have E3 := (E1.trans e2).trans e3
  obtain ⟨b1, b2, b3⟩ := base_bd hr
  have hn := told_bd r fn hr hfn
  obtain ⟨b, hb⟩ : ∃ b, b = baseN r := ⟨_, rfl⟩
  obtain ⟨n, hnn⟩ : ∃ n, n = toldN r fn := ⟨_, rfl⟩
  rw [← hb] at b2 b3 ht ⊢
  rw [← hnn] at hn ht ⊢
  obtain ⟨s, hs⟩ : ∃ s, s = n / b := ⟨_, rfl⟩
  have hsn : s ≤ n := by rw [hs]; exact Nat.div_le_self _ _
  have bn : (b : Int) ≠ 0 := by omega
  have q1 := tdivN n b
  rw [← hs] at q1
  have q2 : IntKind.i64.wrap (s : Int) = (s : Int) := i64e rfl (by omega)
  have q3 : IntKind.i64.wrap ((s : Int).tdiv 3600) = ((s / 3600 : Nat) : Int) := i64e (tdivN s 3600) (by omega)
  have n36 : (3600 : Int) ≠ 0 := by omega
  simp (maxSteps := 4000000) (disch := omega) only [ah, am, Nat.reduceEqDiff, reduceCtorEq, Nat.reduceAdd, Nat.reduceLeDiff, Nat.reduceMul, Nat.reduceLT, if_true, if_false, true_and, and_true, and_self, Nat.reduceBEq, QOp.loads, boxO, bslO, buildO, cutL, fillV, putL, w37, v37, bn, n36, ne_eq, not_false_eq_true, q1, q2, q3]
  have last := fun mk wd R => TimeText_last h H3 b n mk wd R E3 b2 b3 hn
  rw [← hs] at last
  by_cases c9 : 99 < s / 3600
  · have c9' : decide ((99 : Int) < ((s / 3600 : Nat) : Int)) = true := decide_eq_true (by omega)
    simp (maxSteps := 4000000) (disch := omega) only [ah, am, Nat.reduceEqDiff, reduceCtorEq, Nat.reduceAdd, Nat.reduceLeDiff, Nat.reduceMul, Nat.reduceLT, if_true, if_false, true_and, and_true, and_self, Nat.reduceBEq, QOp.loads, boxO, bslO, buildO, cutL, fillV, putL, w37, v37, c9']
    exact ⟨E3, by rw [ht, ← hs, if_pos c9]; rfl⟩
  have c9' : decide ((99 : Int) < ((s / 3600 : Nat) : Int)) = false := decide_eq_false (by omega)
  rw [← hs, if_neg c9] at ht
  rw [ht]
  rw [c37_26.eq_1, c37_25.eq_1, c37_24.eq_1]
  generalize c37_23 = fc at last ⊢
  have d100 : decide ((100 : Int) < (b : Int)) = decide (100 < b) := decide_eq_decide.mpr (by omega)
  cases hd : r.drop with
  | false =>
    rw [hd] at B3
    by_cases c : 100 < b
    · simp (maxSteps := 4000000) (disch := omega) only [ah, am, Nat.reduceEqDiff, reduceCtorEq, Nat.reduceAdd, Nat.reduceLeDiff, Nat.reduceMul, Nat.reduceLT, if_true, if_false, true_and, and_true, and_self, Nat.reduceBEq, QOp.loads, boxO, bslO, buildO, cutL, fillV, putL, w37, v37, c9', B3.ld, d100, decide_eq_true c]
      rw [if_pos c]
      exact last 58 3 _ (by omega)
    · simp (maxSteps := 4000000) (disch := omega) only [ah, am, Nat.reduceEqDiff, reduceCtorEq, Nat.reduceAdd, Nat.reduceLeDiff, Nat.reduceMul, Nat.reduceLT, if_true, if_false, true_and, and_true, and_self, Nat.reduceBEq, QOp.loads, boxO, bslO, buildO, cutL, fillV, putL, w37, v37, c9', B3.ld, d100, decide_eq_false c]
      rw [if_neg c]
      exact last 58 2 _ (by omega)
  | true =>
    rw [hd] at B3
    by_cases c : 100 < b
    · simp (maxSteps := 4000000) (disch := omega) only [ah, am, Nat.reduceEqDiff, reduceCtorEq, Nat.reduceAdd, Nat.reduceLeDiff, Nat.reduceMul, Nat.reduceLT, if_true, if_false, true_and, and_true, and_self, Nat.reduceBEq, QOp.loads, boxO, bslO, buildO, cutL, fillV, putL, w37, v37, c9', B3.ld, d100, decide_eq_true c]
      rw [if_pos c]
      exact last 59 3 _ (by omega)
    · simp (maxSteps := 4000000) (disch := omega) only [ah, am, Nat.reduceEqDiff, reduceCtorEq, Nat.reduceAdd, Nat.reduceLeDiff, Nat.reduceMul, Nat.reduceLT, if_true, if_false, true_and, and_true, and_self, Nat.reduceBEq, QOp.loads, boxO, bslO, buildO, cutL, fillV, putL, w37, v37, c9', B3.ld, d100, decide_eq_false c]
      rw [if_neg c]
      exact last 59 2 _ (by omega)
theorem specTimeText_last (h K : Heap) (b n : Nat) (mk : UInt8) (R : Env) (e : Ext h K) (hb : 1 ≤ b) (hb2 : b ≤ 120) (hn : n ≤ 500000000) :
    SW Tryd.prog c14_48 (retQ v14 fun x h' => Ext h h' ∧ x = .string (bL (if 99 < n / b / 3600 then [] else timeN b n mk (if 100 < b then 3 else 2)))) ((5, .int .i64 (b : Int)) :: (6, .int .i64 (n : Int)) :: (7, .string (bL [mk])) :: R) K := by
  skip
  unfold timeN
  obtain ⟨s, hs⟩ : ∃ s, s = n / b := ⟨_, rfl⟩
  have hsn : s ≤ n := by rw [hs]; exact Nat.div_le_self _ _
  rw [← hs]
  have bn : (b : Int) ≠ 0 := by omega
  have hmb : n % b ≤ n := Nat.mod_le _ _
  have n36 : (3600 : Int) ≠ 0 := by omega
  have n60 : (60 : Int) ≠ 0 := by omega
  have q1 := tdivN n b
  rw [← hs] at q1
  have q2 : IntKind.i64.wrap (s : Int) = (s : Int) := i64e rfl (by omega)
  have q3 : IntKind.i64.wrap ((s : Int).tdiv 3600) = ((s / 3600 : Nat) : Int) := i64e (tdivN s 3600) (by omega)
  have q4 : IntKind.i64.wrap ((s : Int).tdiv 60) = ((s / 60 : Nat) : Int) := i64e (tdivN s 60) (by omega)
  have q5 : ((s / 60 : Nat) : Int).tmod 60 = ((s / 60 % 60 : Nat) : Int) := tmodN (s / 60) 60
  have q6 : ((s : Nat) : Int).tmod 60 = ((s % 60 : Nat) : Int) := tmodN s 60
  have q7 : (n : Int).tmod (b : Int) = ((n % b : Nat) : Int) := tmodN n b
  by_cases c9 : 99 < s / 3600
  · have c9' : decide ((99 : Int) < ((s / 3600 : Nat) : Int)) = true := decide_eq_true (by omega)
    simp (maxSteps := 4000000) (disch := omega) only [ah, am, Nat.reduceEqDiff, reduceCtorEq, Nat.reduceAdd, Nat.reduceLeDiff, Nat.reduceMul, Nat.reduceLT, if_true, if_false, true_and, and_true, and_self, Nat.reduceBEq, QOp.loads, boxO, bslO, buildO, cutL, fillV, putL, w14, v14, bn, n36, n60, ne_eq, not_false_eq_true, q1, q2, q3, q7, c9']
    exact ⟨e, by rw [if_pos c9]; rfl⟩
  have c9' : decide ((99 : Int) < ((s / 3600 : Nat) : Int)) = false := decide_eq_false (by omega)
  rw [if_neg c9]
  obtain ⟨wd, hwd⟩ : ∃ wd : Nat, wd = if 100 < b then 3 else 2 := ⟨_, rfl⟩
  rw [← hwd]
  have hw3 : wd ≤ 3 := by rw [hwd]; split <;> omega
  have l1 := padL_le (k := 2) (n := s / 3600) (by omega) (by omega)
  have l2 := padL_le (k := 2) (n := s / 60 % 60) (by omega) (by omega)
  have l3 := padL_le (k := 2) (n := s % 60) (by omega) (by omega)
  have l4 := padL_le (k := wd) (n := n % b) (by omega) (by omega)
  have p1 := fun K => l1Wide_ok K (s / 3600) 2 (by omega) (by omega)
  have p2 := fun K => l1Wide_ok K (s / 60 % 60) 2 (by omega) (by omega)
  have p3 := fun K => l1Wide_ok K (s % 60) 2 (by omega) (by omega)
  have p4 := fun K => l1Wide_ok K (n % b) wd (by omega) (by omega)
  simp only [show (((2 : Nat) : Int)) = 2 from rfl] at p1 p2 p3
  generalize padL 2 (digs (s / 3600)) = a1 at *
  generalize padL 2 (digs (s / 60 % 60)) = a2 at *
  generalize padL 2 (digs (s % 60)) = a3 at *
  generalize padL wd (digs (n % b)) = a4 at *
  have A1 : strB .add (bL a1) ⟨#[58]⟩ = some (.string (bL (a1 ++ [58]))) := strB_addL a1 [58] (by simp; omega)
  have A2 := strB_addL (a1 ++ [58]) a2 (by simp; omega)
  have A3 : strB .add (bL (a1 ++ [58] ++ a2)) ⟨#[58]⟩ = some (.string (bL (a1 ++ [58] ++ a2 ++ [58]))) := strB_addL (a1 ++ [58] ++ a2) [58] (by simp; omega)
  have A4 := strB_addL (a1 ++ [58] ++ a2 ++ [58]) a3 (by simp; omega)
  have A5 := strB_addL (a1 ++ [58] ++ a2 ++ [58] ++ a3) [mk] (by simp; omega)
  have A6 := strB_addL (a1 ++ [58] ++ a2 ++ [58] ++ a3 ++ [mk]) a4 (by simp; omega)
  have fin : ∀ R : Env, SW Tryd.prog c14_43 (retQ v14 fun x h' => Ext h h' ∧ x = .string (bL (a1 ++ [58] ++ a2 ++ [58] ++ a3 ++ [mk] ++ a4))) ((6, .int .i64 (s : Int)) :: (7, .string (bL [mk])) :: (13, .int .i64 ((n % b : Nat) : Int)) :: (14, .int .i64 (wd : Int)) :: R) K := by
    intro R
    simp (maxSteps := 4000000) (disch := omega) only [ah, am, Nat.reduceEqDiff, reduceCtorEq, Nat.reduceAdd, Nat.reduceLeDiff, Nat.reduceMul, Nat.reduceLT, if_true, if_false, true_and, and_true, and_self, Nat.reduceBEq, QOp.loads, boxO, bslO, buildO, cutL, fillV, putL, w14, v14, n36, n60, ne_eq, not_false_eq_true, q3]
    refine stepC.of (p1 K) ?_
    rintro _ K1 ⟨e1, rfl⟩
    simp (maxSteps := 4000000) (disch := omega) only [ah, am, Nat.reduceEqDiff, reduceCtorEq, Nat.reduceAdd, Nat.reduceLeDiff, Nat.reduceMul, Nat.reduceLT, if_true, if_false, true_and, and_true, and_self, Nat.reduceBEq, QOp.loads, boxO, bslO, buildO, cutL, fillV, putL, w14, v14, A1, n36, n60, ne_eq, not_false_eq_true, q4, q5]
    refine stepC.of (p2 K1) ?_
    rintro _ K2 ⟨e2, rfl⟩
    simp (maxSteps := 4000000) (disch := omega) only [ah, am, Nat.reduceEqDiff, reduceCtorEq, Nat.reduceAdd, Nat.reduceLeDiff, Nat.reduceMul, Nat.reduceLT, if_true, if_false, true_and, and_true, and_self, Nat.reduceBEq, QOp.loads, boxO, bslO, buildO, cutL, fillV, putL, w14, v14, A2, A3, n36, n60, ne_eq, not_false_eq_true, q6]
    refine stepC.of (p3 K2) ?_
    rintro _ K3 ⟨e3, rfl⟩
    simp (maxSteps := 4000000) (disch := omega) only [ah, am, Nat.reduceEqDiff, reduceCtorEq, Nat.reduceAdd, Nat.reduceLeDiff, Nat.reduceMul, Nat.reduceLT, if_true, if_false, true_and, and_true, and_self, Nat.reduceBEq, QOp.loads, boxO, bslO, buildO, cutL, fillV, putL, w14, v14, A4, A5]
    refine stepC.of (p4 K3) ?_
    rintro _ K4 ⟨e4, rfl⟩
    simp (maxSteps := 4000000) (disch := omega) only [ah, am, Nat.reduceEqDiff, reduceCtorEq, Nat.reduceAdd, Nat.reduceLeDiff, Nat.reduceMul, Nat.reduceLT, if_true, if_false, true_and, and_true, and_self, Nat.reduceBEq, QOp.loads, boxO, bslO, buildO, cutL, fillV, putL, w14, v14, A6]
    exact (((e.trans e1).trans e2).trans e3).trans e4
  rw [c14_48.eq_1, c14_47.eq_1, c14_46.eq_1, c14_45.eq_1, c14_44.eq_1]
  generalize c14_43 = fc at fin ⊢
  have d100 : decide ((100 : Int) < (b : Int)) = decide (100 < b) := decide_eq_decide.mpr (by omega)
  by_cases c : 100 < b
  · rw [if_pos c] at hwd
    subst hwd
    simp (maxSteps := 4000000) (disch := omega) only [ah, am, Nat.reduceEqDiff, reduceCtorEq, Nat.reduceAdd, Nat.reduceLeDiff, Nat.reduceMul, Nat.reduceLT, if_true, if_false, true_and, and_true, and_self, Nat.reduceBEq, QOp.loads, boxO, bslO, buildO, cutL, fillV, putL, w14, v14, bn, n36, n60, ne_eq, not_false_eq_true, q1, q2, q3, q7, c9', d100, decide_eq_true c]
    exact fin _
  · rw [if_neg c] at hwd
    subst hwd
    simp (maxSteps := 4000000) (disch := omega) only [ah, am, Nat.reduceEqDiff, reduceCtorEq, Nat.reduceAdd, Nat.reduceLeDiff, Nat.reduceMul, Nat.reduceLT, if_true, if_false, true_and, and_true, and_self, Nat.reduceBEq, QOp.loads, boxO, bslO, buildO, cutL, fillV, putL, w14, v14, bn, n36, n60, ne_eq, not_false_eq_true, q1, q2, q3, q7, c9', d100, decide_eq_false c]
    exact fin _
theorem specTimeText_ok (h : Heap) (r : Rate) (f : Int) : ACall Tryd.prog 14 [.agg (encRate r).toArray, .int .i64 f] h fun x h' => Ext h h' ∧ x = .string (bL (timeL r f)) := by
  have B := Bx.new h (encRate r) []
  have eM := Ext.more h [encRate r]
  have rk := specBase_ok (h.more [encRate r]) r
  simp only [encRate] at B eM rk
  refine ACall.of Tryd.func14 s14 (of_decide_eq_true rfl) ?_
  simp (maxSteps := 4000000) (disch := omega) only [ah, am, Nat.reduceEqDiff, reduceCtorEq, Nat.reduceAdd, Nat.reduceLeDiff, Nat.reduceMul, Nat.reduceLT, if_true, if_false, true_and, and_true, and_self, Nat.reduceBEq, QOp.loads, boxO, bslO, buildO, cutL, fillV, putL, w14, v14, encRate, B.ld]
  refine stepC.of rk ?_
  rintro _ H1 ⟨e1, rfl⟩
  have B1 := B.ext e1
  have E1 := eM.trans e1
  have bad : ¬ (rateOk r ∧ 0 ≤ f ∧ f ≤ 10000000) → Ext h H1 ∧ Value.string ⟨#[]⟩ = .string (bL (timeL r f)) := fun q => ⟨E1, by unfold timeL; rw [if_neg q]; rfl⟩
  by_cases hr : rateOk r
  rotate_left
  · rw [if_neg hr]
    simp (maxSteps := 4000000) (disch := omega) only [ah, am, Nat.reduceEqDiff, reduceCtorEq, Nat.reduceAdd, Nat.reduceLeDiff, Nat.reduceMul, Nat.reduceLT, if_true, if_false, true_and, and_true, and_self, Nat.reduceBEq, QOp.loads, boxO, bslO, buildO, cutL, fillV, putL, w14, v14, decide_eq_true (rfl : (0 : Int) = 0)]
    exact bad fun q => hr q.1
  rw [if_pos hr]
  obtain ⟨b1, b2, b3⟩ := base_bd hr
  have cb : decide (((baseN r : Nat) : Int) = 0) = false := decide_eq_false (by omega)
  simp (maxSteps := 4000000) (disch := omega) only [ah, am, Nat.reduceEqDiff, reduceCtorEq, Nat.reduceAdd, Nat.reduceLeDiff, Nat.reduceMul, Nat.reduceLT, if_true, if_false, true_and, and_true, and_self, Nat.reduceBEq, QOp.loads, boxO, bslO, buildO, cutL, fillV, putL, w14, v14, cb]
  refine stepC.of (l1Frame_ok H1 f) ?_
  rintro _ Hx ⟨hx, rfl⟩; rw [hx]; clear hx Hx
  by_cases hf : 0 ≤ f ∧ f ≤ 10000000
  rotate_left
  · simp (maxSteps := 4000000) (disch := omega) only [ah, am, Nat.reduceEqDiff, reduceCtorEq, Nat.reduceAdd, Nat.reduceLeDiff, Nat.reduceMul, Nat.reduceLT, if_true, if_false, true_and, and_true, and_self, Nat.reduceBEq, QOp.loads, boxO, bslO, buildO, cutL, fillV, putL, w14, v14, decide_eq_false hf]
    exact bad fun q => hf q.2
  obtain ⟨fn, rfl⟩ := Int.eq_ofNat_of_zero_le hf.1
  have hfn : fn ≤ 10000000 := by omega
  have ht : timeL r (fn : Int) = if 99 < toldN r fn / baseN r / 3600 then [] else timeN (baseN r) (toldN r fn) (if r.drop = true then 59 else 58) (if 100 < baseN r then 3 else 2) := by
    unfold timeL; rw [if_pos ⟨hr, hf⟩, Int.toNat_natCast]
  rw [ht]
  have hn := told_bd r fn hr hfn
  have last := fun mk R => specTimeText_last h H1 (baseN r) (toldN r fn) mk R E1 b2 b3 hn
  rw [c14_51.eq_1, c14_50.eq_1, c14_49.eq_1]
  generalize c14_48 = fc at last ⊢
  cases hd : r.drop with
  | false =>
    rw [hd] at B1
    have ez : toldN r fn = fn := by unfold toldN leftN; rw [hd]; simp
    rw [ez] at last ⊢
    simp (maxSteps := 4000000) (disch := omega) only [ah, am, Nat.reduceEqDiff, reduceCtorEq, Nat.reduceAdd, Nat.reduceLeDiff, Nat.reduceMul, Nat.reduceLT, if_true, if_false, true_and, and_true, and_self, Nat.reduceBEq, QOp.loads, boxO, bslO, buildO, cutL, fillV, putL, w14, v14, decide_eq_true hf, B1.ld]
    exact last 58 _
  | true =>
    rw [hd] at B1
    have hbl := drop_two hr hd
    have hT : toldN r fn = fn + 9 * leftN r * (fn / (10 * (60 * baseN r) - 9 * leftN r)) + (if 60 * baseN r ≤ fn % (10 * (60 * baseN r) - 9 * leftN r) then
        leftN r * (1 + (fn % (10 * (60 * baseN r) - 9 * leftN r) - 60 * baseN r) / (60 * baseN r - leftN r)) else 0) := by unfold toldN; rw [hd]; simp
    clear b1 ht cb
    revert last hT
    generalize toldN r fn = n at *
    generalize baseN r = b at *
    generalize leftN r = l at *
    intro last hT
    obtain ⟨t, ht⟩ : ∃ t, t = 10 * (60 * b) - 9 * l := ⟨_, rfl⟩
    rw [← ht] at hT
    have t0 : 0 < t := by omega
    obtain ⟨qn, hqn⟩ : ∃ q, q = fn / t := ⟨_, rfl⟩
    obtain ⟨rn, hrn⟩ : ∃ q, q = fn % t := ⟨_, rfl⟩
    have hq : qn ≤ fn := by rw [hqn]; exact Nat.div_le_self _ _
    have hm : rn < t := by rw [hrn]; exact Nat.mod_lt _ t0
    have q1 := tdivN fn t
    have r1 := tmodN fn t
    rw [← hqn] at q1 hT
    rw [← hrn] at r1 hT
    have pm : (9 * l) * qn ≤ 36 * 10000000 := Nat.mul_le_mul (by omega) (by omega)
    obtain ⟨pn, hpn⟩ : ∃ q, q = (9 * l) * qn := ⟨_, rfl⟩
    rw [← hpn] at pm hT
    have tn : (t : Int) ≠ 0 := by omega
    have n15 : (15 : Int) ≠ 0 := by omega
    have wo : IntKind.i64.wrap ((b : Int).tdiv 15) = (l : Int) := i64e ((tdivN b 15).trans (by omega)) (by omega)
    have w600 : IntKind.i64.wrap (600 * (b : Int)) = ((600 * b : Nat) : Int) := i64e (by omega) (by omega)
    have w9 : IntKind.i64.wrap (9 * (l : Int)) = ((9 * l : Nat) : Int) := i64e (by omega) (by omega)
    have wten : IntKind.i64.wrap (((600 * b : Nat) : Int) - ((9 * l : Nat) : Int)) = (t : Int) := i64e (by omega) (by omega)
    have w60 : IntKind.i64.wrap (60 * (b : Int)) = ((60 * b : Nat) : Int) := i64e (by omega) (by omega)
    have wone : IntKind.i64.wrap (((60 * b : Nat) : Int) - (l : Int)) = ((60 * b - l : Nat) : Int) := i64e (by omega) (by omega)
    have q2 : IntKind.i64.wrap (qn : Int) = (qn : Int) := i64e rfl (by omega)
    have w5 : IntKind.i64.wrap (((9 * l : Nat) : Int) * (qn : Int)) = (pn : Int) := i64e (by rw [hpn, Int.natCast_mul (9 * l)]) (by omega)
    have w6 : IntKind.i64.wrap ((fn : Int) + (pn : Int)) = ((fn + pn : Nat) : Int) := i64e (by omega) (by omega)
    by_cases c : 60 * b ≤ rn
    · have c' : decide (((60 * b : Nat) : Int) ≤ (rn : Int)) = true := decide_eq_true (by omega)
      rw [if_pos c] at hT
      obtain ⟨dn, hdn⟩ : ∃ q, q = (rn - 60 * b) / (60 * b - l) := ⟨_, rfl⟩
      have hdq : dn ≤ rn - 60 * b := by rw [hdn]; exact Nat.div_le_self _ _
      have q8 := tdivN (rn - 60 * b) (60 * b - l)
      rw [← hdn] at q8 hT
      have w7 : IntKind.i64.wrap ((rn : Int) - ((60 * b : Nat) : Int)) = ((rn - 60 * b : Nat) : Int) := i64e (by omega) (by omega)
      have n8 : ((60 * b - l : Nat) : Int) ≠ 0 := by omega
      have w9' : IntKind.i64.wrap (dn : Int) = (dn : Int) := i64e rfl (by omega)
      have w10 : IntKind.i64.wrap ((dn : Int) + 1) = ((1 + dn : Nat) : Int) := i64e (by omega) (by omega)
      have pm2 : l * (1 + dn) ≤ 4 * 10000001 := Nat.mul_le_mul (by omega) (by omega)
      obtain ⟨sn, hsn⟩ : ∃ q, q = l * (1 + dn) := ⟨_, rfl⟩
      rw [← hsn] at pm2 hT
      have w11 : IntKind.i64.wrap ((l : Int) * ((1 + dn : Nat) : Int)) = (sn : Int) := i64e (by rw [hsn, Int.natCast_mul l]) (by omega)
      have w12 : IntKind.i64.wrap (((fn + pn : Nat) : Int) + (sn : Int)) = (n : Int) := i64e (by omega) (by omega)
      simp (maxSteps := 4000000) (disch := omega) only [ah, am, Nat.reduceEqDiff, reduceCtorEq, Nat.reduceAdd, Nat.reduceLeDiff, Nat.reduceMul, Nat.reduceLT, if_true, if_false, true_and, and_true, and_self, Nat.reduceBEq, QOp.loads, boxO, bslO, buildO, cutL, fillV, putL, w14, v14, decide_eq_true hf, B1.ld, tn, n15, ne_eq, not_false_eq_true, wo, w600, w9, wten, w60, wone, q1, q2, r1, w5, w6, c', w7, n8, q8, w9', w10, w11, w12]
      exact last 59 _
    · have c' : decide (((60 * b : Nat) : Int) ≤ (rn : Int)) = false := decide_eq_false (by omega)
      rw [if_neg c] at hT
      have w6' : IntKind.i64.wrap ((fn : Int) + (pn : Int)) = (n : Int) := i64e (by omega) (by omega)
      simp (maxSteps := 4000000) (disch := omega) only [ah, am, Nat.reduceEqDiff, reduceCtorEq, Nat.reduceAdd, Nat.reduceLeDiff, Nat.reduceMul, Nat.reduceLT, if_true, if_false, true_and, and_true, and_self, Nat.reduceBEq, QOp.loads, boxO, bslO, buildO, cutL, fillV, putL, w14, v14, decide_eq_true hf, B1.ld, tn, n15, ne_eq, not_false_eq_true, wo, w600, w9, wten, w60, wone, q1, q2, r1, w5, w6', c']
      exact last 59 _
end Go.Proofs.YtgmimgmdbpcecaaDoor
