/- Merged texts of this claim: R6, R7, R8, N0, M0. -/
import Derived.Test.YtgmimgmdbpcecaaGreatDoorAhY
import Derived.Lib.Join
import Derived.Test.YtgmimgmdbpcecaaGreatDoorProg
import Derived.Test.YtgmimgmdbpcecaaGreatDoorAhAA
import Derived.Test.YtgmimgmdbpcecaaGreatDoorZbD
section
namespace Go.Proofs.YtgmimgmdbpcecaaGreatDoor
open Go Go.Ah
set_option linter.unusedSimpArgs false
set_option linter.unusedVariables false
set_option maxRecDepth 10000
set_option maxHeartbeats 4000000
/-! 62 loop.example/g00066/impl.TimeText: parameters 2, live [0, 1], slots [0:r, 1:frame, 2:r, 3:frame, 5:b, 6:n, 7:seconds, 8:mark, 9:wide] -/
def c62_0 : List SOper := [⟨some 2, .a (.box (.t 0)), none⟩, ⟨some 4, .q (.mv (.c (.string ⟨#[]⟩))), none⟩]
def c62_1 : List SOper := [⟨some 10, .q (.ldn 3 (.t 2)), none⟩, ⟨some 11, .e (.call 21 [(.t 10)]), none⟩, ⟨some 12, .q (.not (.t 11)), none⟩, ⟨some 13, .q (.mv (.t 12)), none⟩, ⟨some 14, .q (.mv (.t 1)), some (13, false)⟩, ⟨some 15, .e (.call 80 [(.t 14)]), some (13, false)⟩, ⟨some 16, .q (.not (.t 15)), some (13, false)⟩, ⟨some 17, .q (.pick (.t 13) (.c (.bool true)) (.t 16)), none⟩]
def c62_2 : List SOper := [⟨some 4, .q (.mv (.c (.string ⟨#[]⟩))), none⟩]
def c62_3 : SCode := .seq (.region c62_2 [4]) .ret
def c62_4 : SCode := .cond (.t 17) c62_3 .skip
def c62_5 : SCode := .seq (.region c62_1 [1, 2, 17]) c62_4
def c62_6 : List DOper := [⟨0, ⟨some 18, .q (.ldn 3 (.t 2)), none⟩, [], []⟩, ⟨2, ⟨some 20, .q (.ldn 3 (.t 2)), none⟩, [], []⟩, ⟨3, ⟨some 21, .q (.mv (.t 1)), none⟩, [], []⟩, ⟨1, ⟨some 19, .e (.call 76 [(.t 18)]), none⟩, [], [2]⟩, ⟨4, ⟨some 22, .e (.call 81 [(.t 20), (.t 21)]), none⟩, [], []⟩, ⟨5, ⟨some 5, .q (.mv (.t 19)), none⟩, [], []⟩, ⟨6, ⟨some 6, .q (.mv (.t 22)), none⟩, [], []⟩]
def c62_7 : List SOper := [⟨some 23, .q (.mv (.t 6)), none⟩, ⟨some 24, .q (.mv (.t 5)), none⟩, ⟨some 25, .q (.bin .quo (.t 23) (.t 24)), none⟩, ⟨some 7, .q (.mv (.t 25)), none⟩]
def c62_8 : List SOper := [⟨some 26, .q (.mv (.t 7)), none⟩, ⟨some 27, .q (.bin .quo (.t 26) (.c (.int .i64 3600))), none⟩, ⟨some 28, .q (.bin .gtr (.t 27) (.c (.int .i64 99))), none⟩]
def c62_9 : List SOper := [⟨some 4, .q (.mv (.c (.string ⟨#[]⟩))), none⟩]
def c62_10 : SCode := .seq (.region c62_9 [4]) .ret
def c62_11 : SCode := .cond (.t 28) c62_10 .skip
def c62_12 : SCode := .seq (.region c62_8 [2, 5, 6, 7, 28]) c62_11
def c62_13 : List SOper := [⟨some 8, .q (.mv (.c (.string ⟨#[58]⟩))), none⟩, ⟨some 9, .q (.mv (.c (.int .i64 2))), none⟩]
def c62_14 : List SOper := [⟨some 29, .q (.fa 2 (.t 2)), none⟩, ⟨some 30, .q (.ld (.t 29)), none⟩]
def c62_15 : List SOper := [⟨some 8, .q (.mv (.c (.string ⟨#[59]⟩))), none⟩]
def c62_16 : SCode := .cond (.t 30) (.region c62_15 [5, 6, 7, 8, 9]) .skip
def c62_17 : SCode := .seq (.region c62_14 [5, 6, 7, 8, 9, 30]) c62_16
def c62_18 : List SOper := [⟨some 31, .q (.mv (.t 5)), none⟩, ⟨some 32, .q (.bin .gtr (.t 31) (.c (.int .i64 100))), none⟩]
def c62_19 : List SOper := [⟨some 9, .q (.mv (.c (.int .i64 3))), none⟩]
def c62_20 : SCode := .cond (.t 32) (.region c62_19 [5, 6, 7, 8, 9]) .skip
def c62_21 : SCode := .seq (.region c62_18 [5, 6, 7, 8, 9, 32]) c62_20
def c62_22 : List SOper := [⟨some 33, .q (.mv (.t 7)), none⟩, ⟨some 34, .q (.bin .quo (.t 33) (.c (.int .i64 3600))), none⟩, ⟨some 37, .q (.mv (.t 7)), none⟩, ⟨some 38, .q (.bin .quo (.t 37) (.c (.int .i64 60))), none⟩, ⟨some 39, .q (.bin .rem (.t 38) (.c (.int .i64 60))), none⟩, ⟨some 43, .q (.mv (.t 7)), none⟩, ⟨some 44, .q (.bin .rem (.t 43) (.c (.int .i64 60))), none⟩, ⟨some 47, .q (.mv (.t 8)), none⟩, ⟨some 49, .q (.mv (.t 6)), none⟩, ⟨some 50, .q (.mv (.t 5)), none⟩, ⟨some 51, .q (.bin .rem (.t 49) (.t 50)), none⟩, ⟨some 52, .q (.mv (.t 9)), none⟩, ⟨some 35, .e (.call 51 [(.t 34), (.c (.int .i64 2))]), none⟩, ⟨some 36, .q (.bin .add (.t 35) (.c (.string ⟨#[58]⟩))), none⟩, ⟨some 40, .e (.call 51 [(.t 39), (.c (.int .i64 2))]), none⟩, ⟨some 41, .q (.bin .add (.t 36) (.t 40)), none⟩, ⟨some 42, .q (.bin .add (.t 41) (.c (.string ⟨#[58]⟩))), none⟩, ⟨some 45, .e (.call 51 [(.t 44), (.c (.int .i64 2))]), none⟩, ⟨some 46, .q (.bin .add (.t 42) (.t 45)), none⟩, ⟨some 48, .q (.bin .add (.t 46) (.t 47)), none⟩, ⟨some 53, .e (.call 51 [(.t 51), (.t 52)]), none⟩, ⟨some 54, .q (.bin .add (.t 48) (.t 53)), none⟩, ⟨some 4, .q (.mv (.t 54)), none⟩]
def c62_23 : SCode := .seq (.region c62_22 [4]) .ret
def c62_24 : SCode := .seq c62_21 c62_23
def c62_25 : SCode := .seq c62_17 c62_24
def c62_26 : SCode := .seq (.region c62_13 [2, 5, 6, 7, 8, 9]) c62_25
def c62_27 : SCode := .seq c62_12 c62_26
def c62_28 : SCode := .seq (.region c62_7 [2, 5, 6, 7]) c62_27
def c62_29 : SCode := .seq (.dregion c62_6 [2, 5, 6]) c62_28
def c62_30 : SCode := .seq c62_5 c62_29
def c62_31 : SCode := .seq (.region c62_0 [1, 2]) c62_30
def c62 : SCode := c62_31
theorem w62 : type_of% (And.intro (uR Tryz.prog c62_0.eq_1) (And.intro (uR Tryz.prog c62_1.eq_1) (And.intro (uR Tryz.prog c62_2.eq_1) (And.intro (uC Tryz.prog c62_3.eq_1) (And.intro (uC Tryz.prog c62_4.eq_1) (And.intro (uC Tryz.prog c62_5.eq_1) (And.intro (uD Tryz.prog c62_6.eq_1) (And.intro (uR Tryz.prog c62_7.eq_1) (And.intro (uR Tryz.prog c62_8.eq_1) (And.intro (uR Tryz.prog c62_9.eq_1) (And.intro (uC Tryz.prog c62_10.eq_1) (And.intro (uC Tryz.prog c62_11.eq_1) (And.intro (uC Tryz.prog c62_12.eq_1) (And.intro (uR Tryz.prog c62_13.eq_1) (And.intro (uR Tryz.prog c62_14.eq_1) (And.intro (uR Tryz.prog c62_15.eq_1) (And.intro (uC Tryz.prog c62_16.eq_1) (And.intro (uC Tryz.prog c62_17.eq_1) (And.intro (uR Tryz.prog c62_18.eq_1) (And.intro (uR Tryz.prog c62_19.eq_1) (And.intro (uC Tryz.prog c62_20.eq_1) (And.intro (uC Tryz.prog c62_21.eq_1) (And.intro (uR Tryz.prog c62_22.eq_1) (And.intro (uC Tryz.prog c62_23.eq_1) (And.intro (uC Tryz.prog c62_24.eq_1) (And.intro (uC Tryz.prog c62_25.eq_1) (And.intro (uC Tryz.prog c62_26.eq_1) (And.intro (uC Tryz.prog c62_27.eq_1) (And.intro (uC Tryz.prog c62_28.eq_1) (And.intro (uC Tryz.prog c62_29.eq_1) (And.intro (uC Tryz.prog c62_30.eq_1) (And.intro (uC Tryz.prog c62_31.eq_1) (uC Tryz.prog c62.eq_1))))))))))))))))))))))))))))))))) := (And.intro (uR Tryz.prog c62_0.eq_1) (And.intro (uR Tryz.prog c62_1.eq_1) (And.intro (uR Tryz.prog c62_2.eq_1) (And.intro (uC Tryz.prog c62_3.eq_1) (And.intro (uC Tryz.prog c62_4.eq_1) (And.intro (uC Tryz.prog c62_5.eq_1) (And.intro (uD Tryz.prog c62_6.eq_1) (And.intro (uR Tryz.prog c62_7.eq_1) (And.intro (uR Tryz.prog c62_8.eq_1) (And.intro (uR Tryz.prog c62_9.eq_1) (And.intro (uC Tryz.prog c62_10.eq_1) (And.intro (uC Tryz.prog c62_11.eq_1) (And.intro (uC Tryz.prog c62_12.eq_1) (And.intro (uR Tryz.prog c62_13.eq_1) (And.intro (uR Tryz.prog c62_14.eq_1) (And.intro (uR Tryz.prog c62_15.eq_1) (And.intro (uC Tryz.prog c62_16.eq_1) (And.intro (uC Tryz.prog c62_17.eq_1) (And.intro (uR Tryz.prog c62_18.eq_1) (And.intro (uR Tryz.prog c62_19.eq_1) (And.intro (uC Tryz.prog c62_20.eq_1) (And.intro (uC Tryz.prog c62_21.eq_1) (And.intro (uR Tryz.prog c62_22.eq_1) (And.intro (uC Tryz.prog c62_23.eq_1) (And.intro (uC Tryz.prog c62_24.eq_1) (And.intro (uC Tryz.prog c62_25.eq_1) (And.intro (uC Tryz.prog c62_26.eq_1) (And.intro (uC Tryz.prog c62_27.eq_1) (And.intro (uC Tryz.prog c62_28.eq_1) (And.intro (uC Tryz.prog c62_29.eq_1) (And.intro (uC Tryz.prog c62_30.eq_1) (And.intro (uC Tryz.prog c62_31.eq_1) (uC Tryz.prog c62.eq_1)))))))))))))))))))))))))))))))))
def v62 : List RV := [.t 4]
theorem s62 : slimF Tryz.prog Tryz.f62 = some (c62.bare, v62) := by kernel_rfl
/-! 36 loop.example/g00066/spec.TimeText: parameters 2, live [0, 1], slots [0:r, 1:frame, 2:r, 3:frame, 5:b, 6:n, 7:mark, 8:out, 9:ten, 10:one, 11:tens, 12:rest, 13:ff, 14:k] -/
def c36_0 : List SOper := [⟨some 2, .a (.box (.t 0)), none⟩, ⟨some 4, .q (.mv (.c (.string ⟨#[]⟩))), none⟩]
def c36_1 : List SOper := [⟨some 15, .q (.ldn 3 (.t 2)), none⟩, ⟨some 16, .e (.call 64 [(.t 15)]), none⟩, ⟨some 5, .q (.mv (.t 16)), none⟩]
def c36_2 : List SOper := [⟨some 17, .q (.mv (.t 5)), none⟩, ⟨some 18, .q (.bin .eql (.t 17) (.c (.int .i64 0))), none⟩, ⟨some 19, .q (.mv (.t 18)), none⟩, ⟨some 20, .q (.mv (.t 1)), some (19, false)⟩, ⟨some 21, .e (.call 65 [(.t 20)]), some (19, false)⟩, ⟨some 22, .q (.not (.t 21)), some (19, false)⟩, ⟨some 23, .q (.pick (.t 19) (.c (.bool true)) (.t 22)), none⟩]
def c36_3 : List SOper := [⟨some 4, .q (.mv (.c (.string ⟨#[]⟩))), none⟩]
def c36_4 : SCode := .seq (.region c36_3 [4]) .ret
def c36_5 : SCode := .cond (.t 23) c36_4 .skip
def c36_6 : SCode := .seq (.region c36_2 [1, 2, 5, 23]) c36_5
def c36_7 : List SOper := [⟨some 24, .q (.mv (.t 1)), none⟩, ⟨some 6, .q (.mv (.t 24)), none⟩]
def c36_8 : List SOper := [⟨some 7, .q (.mv (.c (.string ⟨#[58]⟩))), none⟩]
def c36_9 : List SOper := [⟨some 25, .q (.fa 2 (.t 2)), none⟩, ⟨some 26, .q (.ld (.t 25)), none⟩]
def c36_10 : List SOper := [⟨some 7, .q (.mv (.c (.string ⟨#[59]⟩))), none⟩]
def c36_11 : List SOper := [⟨some 27, .q (.mv (.t 5)), none⟩, ⟨some 28, .q (.bin .quo (.t 27) (.c (.int .i64 15))), none⟩, ⟨some 8, .q (.mv (.t 28)), none⟩]
def c36_12 : List SOper := [⟨some 29, .q (.mv (.t 5)), none⟩, ⟨some 30, .q (.bin .mul (.c (.int .i64 600)) (.t 29)), none⟩, ⟨some 31, .q (.mv (.t 8)), none⟩, ⟨some 32, .q (.bin .mul (.c (.int .i64 9)) (.t 31)), none⟩, ⟨some 33, .q (.bin .sub (.t 30) (.t 32)), none⟩, ⟨some 9, .q (.mv (.t 33)), none⟩]
def c36_13 : List SOper := [⟨some 34, .q (.mv (.t 5)), none⟩, ⟨some 35, .q (.bin .mul (.c (.int .i64 60)) (.t 34)), none⟩, ⟨some 36, .q (.mv (.t 8)), none⟩, ⟨some 37, .q (.bin .sub (.t 35) (.t 36)), none⟩, ⟨some 10, .q (.mv (.t 37)), none⟩]
def c36_14 : List SOper := [⟨some 38, .q (.mv (.t 6)), none⟩, ⟨some 39, .q (.mv (.t 9)), none⟩, ⟨some 40, .q (.bin .quo (.t 38) (.t 39)), none⟩, ⟨some 11, .q (.mv (.t 40)), none⟩]
def c36_15 : List SOper := [⟨some 41, .q (.mv (.t 6)), none⟩, ⟨some 42, .q (.mv (.t 9)), none⟩, ⟨some 43, .q (.bin .rem (.t 41) (.t 42)), none⟩, ⟨some 12, .q (.mv (.t 43)), none⟩]
def c36_16 : List SOper := [⟨some 44, .q (.mv (.t 6)), none⟩, ⟨some 45, .q (.mv (.t 8)), none⟩, ⟨some 46, .q (.bin .mul (.c (.int .i64 9)) (.t 45)), none⟩, ⟨some 47, .q (.mv (.t 11)), none⟩, ⟨some 48, .q (.bin .mul (.t 46) (.t 47)), none⟩, ⟨some 49, .q (.bin .add (.t 44) (.t 48)), none⟩, ⟨some 6, .q (.mv (.t 49)), none⟩]
def c36_17 : List SOper := [⟨some 50, .q (.mv (.t 12)), none⟩, ⟨some 51, .q (.mv (.t 5)), none⟩, ⟨some 52, .q (.bin .mul (.c (.int .i64 60)) (.t 51)), none⟩, ⟨some 53, .q (.bin .geq (.t 50) (.t 52)), none⟩]
def c36_18 : List SOper := [⟨some 54, .q (.mv (.t 6)), none⟩, ⟨some 55, .q (.mv (.t 8)), none⟩, ⟨some 56, .q (.mv (.t 12)), none⟩, ⟨some 57, .q (.mv (.t 5)), none⟩, ⟨some 58, .q (.bin .mul (.c (.int .i64 60)) (.t 57)), none⟩, ⟨some 59, .q (.bin .sub (.t 56) (.t 58)), none⟩, ⟨some 60, .q (.mv (.t 10)), none⟩, ⟨some 61, .q (.bin .quo (.t 59) (.t 60)), none⟩, ⟨some 62, .q (.bin .add (.t 61) (.c (.int .i64 1))), none⟩, ⟨some 63, .q (.bin .mul (.t 55) (.t 62)), none⟩, ⟨some 64, .q (.bin .add (.t 54) (.t 63)), none⟩, ⟨some 6, .q (.mv (.t 64)), none⟩]
def c36_19 : SCode := .cond (.t 53) (.region c36_18 [5, 6, 7]) .skip
def c36_20 : SCode := .seq (.region c36_17 [5, 6, 7, 8, 10, 12, 53]) c36_19
def c36_21 : SCode := .seq (.region c36_16 [5, 6, 7, 8, 10, 12]) c36_20
def c36_22 : SCode := .seq (.region c36_15 [5, 6, 7, 8, 10, 11, 12]) c36_21
def c36_23 : SCode := .seq (.region c36_14 [5, 6, 7, 8, 9, 10, 11]) c36_22
def c36_24 : SCode := .seq (.region c36_13 [5, 6, 7, 8, 9, 10]) c36_23
def c36_25 : SCode := .seq (.region c36_12 [5, 6, 7, 8, 9]) c36_24
def c36_26 : SCode := .seq (.region c36_11 [5, 6, 7, 8]) c36_25
def c36_27 : SCode := .seq (.region c36_10 [5, 6, 7]) c36_26
def c36_28 : SCode := .cond (.t 26) c36_27 .skip
def c36_29 : SCode := .seq (.region c36_9 [5, 6, 7, 26]) c36_28
def c36_30 : List SOper := [⟨some 65, .q (.mv (.t 6)), none⟩, ⟨some 66, .q (.mv (.t 5)), none⟩, ⟨some 67, .q (.bin .rem (.t 65) (.t 66)), none⟩, ⟨some 13, .q (.mv (.t 67)), none⟩]
def c36_31 : List SOper := [⟨some 68, .q (.mv (.t 6)), none⟩, ⟨some 69, .q (.mv (.t 5)), none⟩, ⟨some 70, .q (.bin .quo (.t 68) (.t 69)), none⟩, ⟨some 6, .q (.mv (.t 70)), none⟩]
def c36_32 : List SOper := [⟨some 71, .q (.mv (.t 6)), none⟩, ⟨some 72, .q (.bin .quo (.t 71) (.c (.int .i64 3600))), none⟩, ⟨some 73, .q (.bin .gtr (.t 72) (.c (.int .i64 99))), none⟩]
def c36_33 : List SOper := [⟨some 4, .q (.mv (.c (.string ⟨#[]⟩))), none⟩]
def c36_34 : SCode := .seq (.region c36_33 [4]) .ret
def c36_35 : SCode := .cond (.t 73) c36_34 .skip
def c36_36 : SCode := .seq (.region c36_32 [5, 6, 7, 13, 73]) c36_35
def c36_37 : List SOper := [⟨some 14, .q (.mv (.c (.int .i64 2))), none⟩]
def c36_38 : List SOper := [⟨some 74, .q (.mv (.t 5)), none⟩, ⟨some 75, .q (.bin .gtr (.t 74) (.c (.int .i64 100))), none⟩]
def c36_39 : List SOper := [⟨some 14, .q (.mv (.c (.int .i64 3))), none⟩]
def c36_40 : SCode := .cond (.t 75) (.region c36_39 [6, 7, 13, 14]) .skip
def c36_41 : SCode := .seq (.region c36_38 [6, 7, 13, 14, 75]) c36_40
def c36_42 : List SOper := [⟨some 76, .q (.mv (.t 6)), none⟩, ⟨some 77, .q (.bin .quo (.t 76) (.c (.int .i64 3600))), none⟩, ⟨some 78, .e (.call 66 [(.t 77), (.c (.int .i64 2))]), none⟩, ⟨some 79, .q (.bin .add (.t 78) (.c (.string ⟨#[58]⟩))), none⟩, ⟨some 80, .q (.mv (.t 6)), none⟩, ⟨some 81, .q (.bin .quo (.t 80) (.c (.int .i64 60))), none⟩, ⟨some 82, .q (.bin .rem (.t 81) (.c (.int .i64 60))), none⟩, ⟨some 83, .e (.call 66 [(.t 82), (.c (.int .i64 2))]), none⟩, ⟨some 84, .q (.bin .add (.t 79) (.t 83)), none⟩, ⟨some 85, .q (.bin .add (.t 84) (.c (.string ⟨#[58]⟩))), none⟩, ⟨some 86, .q (.mv (.t 6)), none⟩, ⟨some 87, .q (.bin .rem (.t 86) (.c (.int .i64 60))), none⟩, ⟨some 88, .e (.call 66 [(.t 87), (.c (.int .i64 2))]), none⟩, ⟨some 89, .q (.bin .add (.t 85) (.t 88)), none⟩, ⟨some 90, .q (.mv (.t 7)), none⟩, ⟨some 91, .q (.bin .add (.t 89) (.t 90)), none⟩, ⟨some 92, .q (.mv (.t 13)), none⟩, ⟨some 93, .q (.mv (.t 14)), none⟩, ⟨some 94, .e (.call 66 [(.t 92), (.t 93)]), none⟩, ⟨some 95, .q (.bin .add (.t 91) (.t 94)), none⟩, ⟨some 4, .q (.mv (.t 95)), none⟩]
def c36_43 : SCode := .seq (.region c36_42 [4]) .ret
def c36_44 : SCode := .seq c36_41 c36_43
def c36_45 : SCode := .seq (.region c36_37 [5, 6, 7, 13, 14]) c36_44
def c36_46 : SCode := .seq c36_36 c36_45
def c36_47 : SCode := .seq (.region c36_31 [5, 6, 7, 13]) c36_46
def c36_48 : SCode := .seq (.region c36_30 [5, 6, 7, 13]) c36_47
def c36_49 : SCode := .seq c36_29 c36_48
def c36_50 : SCode := .seq (.region c36_8 [2, 5, 6, 7]) c36_49
def c36_51 : SCode := .seq (.region c36_7 [2, 5, 6]) c36_50
def c36_52 : SCode := .seq c36_6 c36_51
def c36_53 : SCode := .seq (.region c36_1 [1, 2, 5]) c36_52
def c36_54 : SCode := .seq (.region c36_0 [1, 2]) c36_53
def c36 : SCode := c36_54
theorem w36 : type_of% (And.intro (uR Tryz.prog c36_0.eq_1) (And.intro (uR Tryz.prog c36_1.eq_1) (And.intro (uR Tryz.prog c36_2.eq_1) (And.intro (uR Tryz.prog c36_3.eq_1) (And.intro (uC Tryz.prog c36_4.eq_1) (And.intro (uC Tryz.prog c36_5.eq_1) (And.intro (uC Tryz.prog c36_6.eq_1) (And.intro (uR Tryz.prog c36_7.eq_1) (And.intro (uR Tryz.prog c36_8.eq_1) (And.intro (uR Tryz.prog c36_9.eq_1) (And.intro (uR Tryz.prog c36_10.eq_1) (And.intro (uR Tryz.prog c36_11.eq_1) (And.intro (uR Tryz.prog c36_12.eq_1) (And.intro (uR Tryz.prog c36_13.eq_1) (And.intro (uR Tryz.prog c36_14.eq_1) (And.intro (uR Tryz.prog c36_15.eq_1) (And.intro (uR Tryz.prog c36_16.eq_1) (And.intro (uR Tryz.prog c36_17.eq_1) (And.intro (uR Tryz.prog c36_18.eq_1) (And.intro (uC Tryz.prog c36_19.eq_1) (And.intro (uC Tryz.prog c36_20.eq_1) (And.intro (uC Tryz.prog c36_21.eq_1) (And.intro (uC Tryz.prog c36_22.eq_1) (And.intro (uC Tryz.prog c36_23.eq_1) (And.intro (uC Tryz.prog c36_24.eq_1) (And.intro (uC Tryz.prog c36_25.eq_1) (And.intro (uC Tryz.prog c36_26.eq_1) (And.intro (uC Tryz.prog c36_27.eq_1) (And.intro (uC Tryz.prog c36_28.eq_1) (And.intro (uC Tryz.prog c36_29.eq_1) (And.intro (uR Tryz.prog c36_30.eq_1) (And.intro (uR Tryz.prog c36_31.eq_1) (And.intro (uR Tryz.prog c36_32.eq_1) (And.intro (uR Tryz.prog c36_33.eq_1) (And.intro (uC Tryz.prog c36_34.eq_1) (And.intro (uC Tryz.prog c36_35.eq_1) (And.intro (uC Tryz.prog c36_36.eq_1) (And.intro (uR Tryz.prog c36_37.eq_1) (And.intro (uR Tryz.prog c36_38.eq_1) (And.intro (uR Tryz.prog c36_39.eq_1) (And.intro (uC Tryz.prog c36_40.eq_1) (And.intro (uC Tryz.prog c36_41.eq_1) (And.intro (uR Tryz.prog c36_42.eq_1) (And.intro (uC Tryz.prog c36_43.eq_1) (And.intro (uC Tryz.prog c36_44.eq_1) (And.intro (uC Tryz.prog c36_45.eq_1) (And.intro (uC Tryz.prog c36_46.eq_1) (And.intro (uC Tryz.prog c36_47.eq_1) (And.intro (uC Tryz.prog c36_48.eq_1) (And.intro (uC Tryz.prog c36_49.eq_1) (And.intro (uC Tryz.prog c36_50.eq_1) (And.intro (uC Tryz.prog c36_51.eq_1) (And.intro (uC Tryz.prog c36_52.eq_1) (And.intro (uC Tryz.prog c36_53.eq_1) (And.intro (uC Tryz.prog c36_54.eq_1) (uC Tryz.prog c36.eq_1)))))))))))))))))))))))))))))))))))))))))))))))))))))))) := (And.intro (uR Tryz.prog c36_0.eq_1) (And.intro (uR Tryz.prog c36_1.eq_1) (And.intro (uR Tryz.prog c36_2.eq_1) (And.intro (uR Tryz.prog c36_3.eq_1) (And.intro (uC Tryz.prog c36_4.eq_1) (And.intro (uC Tryz.prog c36_5.eq_1) (And.intro (uC Tryz.prog c36_6.eq_1) (And.intro (uR Tryz.prog c36_7.eq_1) (And.intro (uR Tryz.prog c36_8.eq_1) (And.intro (uR Tryz.prog c36_9.eq_1) (And.intro (uR Tryz.prog c36_10.eq_1) (And.intro (uR Tryz.prog c36_11.eq_1) (And.intro (uR Tryz.prog c36_12.eq_1) (And.intro (uR Tryz.prog c36_13.eq_1) (And.intro (uR Tryz.prog c36_14.eq_1) (And.intro (uR Tryz.prog c36_15.eq_1) (And.intro (uR Tryz.prog c36_16.eq_1) (And.intro (uR Tryz.prog c36_17.eq_1) (And.intro (uR Tryz.prog c36_18.eq_1) (And.intro (uC Tryz.prog c36_19.eq_1) (And.intro (uC Tryz.prog c36_20.eq_1) (And.intro (uC Tryz.prog c36_21.eq_1) (And.intro (uC Tryz.prog c36_22.eq_1) (And.intro (uC Tryz.prog c36_23.eq_1) (And.intro (uC Tryz.prog c36_24.eq_1) (And.intro (uC Tryz.prog c36_25.eq_1) (And.intro (uC Tryz.prog c36_26.eq_1) (And.intro (uC Tryz.prog c36_27.eq_1) (And.intro (uC Tryz.prog c36_28.eq_1) (And.intro (uC Tryz.prog c36_29.eq_1) (And.intro (uR Tryz.prog c36_30.eq_1) (And.intro (uR Tryz.prog c36_31.eq_1) (And.intro (uR Tryz.prog c36_32.eq_1) (And.intro (uR Tryz.prog c36_33.eq_1) (And.intro (uC Tryz.prog c36_34.eq_1) (And.intro (uC Tryz.prog c36_35.eq_1) (And.intro (uC Tryz.prog c36_36.eq_1) (And.intro (uR Tryz.prog c36_37.eq_1) (And.intro (uR Tryz.prog c36_38.eq_1) (And.intro (uR Tryz.prog c36_39.eq_1) (And.intro (uC Tryz.prog c36_40.eq_1) (And.intro (uC Tryz.prog c36_41.eq_1) (And.intro (uR Tryz.prog c36_42.eq_1) (And.intro (uC Tryz.prog c36_43.eq_1) (And.intro (uC Tryz.prog c36_44.eq_1) (And.intro (uC Tryz.prog c36_45.eq_1) (And.intro (uC Tryz.prog c36_46.eq_1) (And.intro (uC Tryz.prog c36_47.eq_1) (And.intro (uC Tryz.prog c36_48.eq_1) (And.intro (uC Tryz.prog c36_49.eq_1) (And.intro (uC Tryz.prog c36_50.eq_1) (And.intro (uC Tryz.prog c36_51.eq_1) (And.intro (uC Tryz.prog c36_52.eq_1) (And.intro (uC Tryz.prog c36_53.eq_1) (And.intro (uC Tryz.prog c36_54.eq_1) (uC Tryz.prog c36.eq_1))))))))))))))))))))))))))))))))))))))))))))))))))))))))
def v36 : List RV := [.t 4]
theorem s36 : slimF Tryz.prog Tryz.f36 = some (c36.bare, v36) := by kernel_rfl

theorem tdivN (a b : Nat) : ((a : Int)).tdiv (b : Int) = ((a / b : Nat) : Int) := by rw [Int.tdiv_eq_ediv_of_nonneg (by omega)]; rfl
theorem tmodN (a b : Nat) : ((a : Int)).tmod (b : Int) = ((a % b : Nat) : Int) := by rw [Int.tmod_eq_emod_of_nonneg (by omega)]; rfl
theorem told_bd (r : Rate) (f : Nat) (hr : rateOk r) (hf : f ≤ 10000000) : toldN r f ≤ 500000000 := by
  have hl := left_le r
  unfold toldN
  have h1 : 9 * leftN r * (f / (10 * (60 * baseN r) - 9 * leftN r)) ≤ 36 * 10000000 := Nat.mul_le_mul (by omega) (Nat.le_trans (Nat.div_le_self _ _) hf)
  split
  · have h2 : f % (10 * (60 * baseN r) - 9 * leftN r) ≤ f := Nat.mod_le _ _
    have h3 : leftN r * (1 + (f % (10 * (60 * baseN r) - 9 * leftN r) - 60 * baseN r) / (60 * baseN r - leftN r)) ≤ 4 * (1 + 10000000) :=
      Nat.mul_le_mul hl (Nat.add_le_add_left (Nat.le_trans (Nat.div_le_self _ _) (by omega)) 1)
    omega
  · omega
def timeN (b n : Nat) (mk : UInt8) (wd : Nat) : List UInt8 :=
  padL 2 (digs (n / b / 3600)) ++ [58] ++ padL 2 (digs (n / b / 60 % 60)) ++ [58] ++ padL 2 (digs (n / b % 60)) ++ [mk] ++ padL wd (digs (n % b))
def timeL (r : Rate) (f : Int) : List UInt8 :=
  if rateOk r ∧ 0 ≤ f ∧ f ≤ 10000000 then (if 99 < toldN r f.toNat / baseN r / 3600 then [] else timeN (baseN r) (toldN r f.toNat) (if r.drop = true then 59 else 58) (if 100 < baseN r then 3 else 2)) else []
theorem isFrame_ok (h : Heap) (f : Int) : ACall Tryz.prog 80 [.int .i64 f] h fun x h' => h' = h ∧ x = .bool (decide (0 ≤ f ∧ f ≤ 10000000)) := by
  refine ACall.of Tryz.func80 s80 (of_decide_eq_true rfl) ?_
  simp (maxSteps := 4000000) (disch := omega) only [ah, am, Nat.reduceEqDiff, reduceCtorEq, Nat.reduceAdd, Nat.reduceLeDiff, Nat.reduceMul, Nat.reduceLT, if_true, if_false, true_and, and_true, and_self, Nat.reduceBEq, QOp.loads, boxO, bslO, buildO, cutL, fillV, putL, w80, v80]
  refine stepC.of (in_ok h f 0 10000000) ?_
  rintro _ Hx ⟨hx, rfl⟩; rw [hx]; clear hx Hx
  simp (maxSteps := 4000000) (disch := omega) only [ah, am, Nat.reduceEqDiff, reduceCtorEq, Nat.reduceAdd, Nat.reduceLeDiff, Nat.reduceMul, Nat.reduceLT, if_true, if_false, true_and, and_true, and_self, Nat.reduceBEq, QOp.loads, boxO, bslO, buildO, cutL, fillV, putL, w80, v80]
theorem l1Frame_ok (h : Heap) (f : Int) : ACall Tryz.prog 65 [.int .i64 f] h fun x h' => h' = h ∧ x = .bool (decide (0 ≤ f ∧ f ≤ 10000000)) := by
  refine ACall.of Tryz.func65 s65 (of_decide_eq_true rfl) ?_
  simp (maxSteps := 4000000) (disch := omega) only [ah, am, Nat.reduceEqDiff, reduceCtorEq, Nat.reduceAdd, Nat.reduceLeDiff, Nat.reduceMul, Nat.reduceLT, if_true, if_false, true_and, and_true, and_self, Nat.reduceBEq, QOp.loads, boxO, bslO, buildO, cutL, fillV, putL, w65, v65]
  refine stepC.of (l1In_ok h f 0 10000000) ?_
  rintro _ Hx ⟨hx, rfl⟩; rw [hx]; clear hx Hx
  simp (maxSteps := 4000000) (disch := omega) only [ah, am, Nat.reduceEqDiff, reduceCtorEq, Nat.reduceAdd, Nat.reduceLeDiff, Nat.reduceMul, Nat.reduceLT, if_true, if_false, true_and, and_true, and_self, Nat.reduceBEq, QOp.loads, boxO, bslO, buildO, cutL, fillV, putL, w65, v65]
theorem padL_le {k n : Nat} (hk : k ≤ 19) (hn : n ≤ 9223372036854775807) : (padL k (digs n)).length ≤ 19 := by
  rw [padL_len]; have := digs_len19 hn; omega
theorem TimeText_last (h K : Heap) (b n : Nat) (mk : UInt8) (wd : Nat) (R : Env) (e : Ext h K) (hb : 1 ≤ b) (hb2 : b ≤ 120) (hn : n ≤ 500000000) (hw : wd ≤ 3) :
    SW Tryz.prog c62_23 (retQ v62 fun x h' => Ext h h' ∧ x = .string (bL (timeN b n mk wd))) ((5, .int .i64 (b : Int)) :: (6, .int .i64 (n : Int)) :: (7, .int .i64 ((n / b : Nat) : Int)) :: (8, .string (bL [mk])) :: (9, .int .i64 (wd : Int)) :: R) K := by
  skip
  unfold timeN
  obtain ⟨s, hs⟩ : ∃ s, s = n / b := ⟨_, rfl⟩
  have hsn : s ≤ n := by rw [hs]; exact Nat.div_le_self _ _
  rw [← hs]
  have bn : (b : Int) ≠ 0 := by omega
  have hmb : n % b ≤ n := Nat.mod_le _ _
  have n36 : (3600 : Int) ≠ 0 := by omega
  have n60 : (60 : Int) ≠ 0 := by omega
  have q3 : IntKind.i64.wrap ((s : Int).tdiv 3600) = ((s / 3600 : Nat) : Int) := i64e (tdivN s 3600) (by omega)
  have q4 : IntKind.i64.wrap ((s : Int).tdiv 60) = ((s / 60 : Nat) : Int) := i64e (tdivN s 60) (by omega)
  have q5 : ((s / 60 : Nat) : Int).tmod 60 = ((s / 60 % 60 : Nat) : Int) := tmodN (s / 60) 60
  have q6 : ((s : Nat) : Int).tmod 60 = ((s % 60 : Nat) : Int) := tmodN s 60
  have q7 : (n : Int).tmod (b : Int) = ((n % b : Nat) : Int) := tmodN n b
  have l1 := padL_le (k := 2) (n := s / 3600) (by omega) (by omega)
  have l2 := padL_le (k := 2) (n := s / 60 % 60) (by omega) (by omega)
  have l3 := padL_le (k := 2) (n := s % 60) (by omega) (by omega)
  have l4 := padL_le (k := wd) (n := n % b) (by omega) (by omega)
  have p1 := padded_ok K (s / 3600) 2 (by omega) (by omega)
  have p2 := padded_ok K (s / 60 % 60) 2 (by omega) (by omega)
  have p3 := padded_ok K (s % 60) 2 (by omega) (by omega)
  have p4 := padded_ok K (n % b) wd (by omega) (by omega)
  rw [show (((2 : Nat) : Int)) = 2 from rfl] at p1 p2 p3
  generalize padL 2 (digs (s / 3600)) = a1 at *
  generalize padL 2 (digs (s / 60 % 60)) = a2 at *
  generalize padL 2 (digs (s % 60)) = a3 at *
  generalize padL wd (digs (n % b)) = a4 at *
  have A1 : strB .add (bL a1) ⟨#[58]⟩ = some (.string (bL (a1 ++ [58]))) := strB_addL a1 [58] (by simp; omega)
  have A2 := strB_addL (a1 ++ [58]) a2 (by simp; omega)
  have A3 : strB .add (bL (a1 ++ [58] ++ a2)) ⟨#[58]⟩ = some (.string (bL (a1 ++ [58] ++ a2 ++ [58]))) := strB_addL (a1 ++ [58] ++ a2) [58] (by simp; omega)
  have A4 := strB_addL (a1 ++ [58] ++ a2 ++ [58]) a3 (by simp; omega)
  have A5 := strB_addL (a1 ++ [58] ++ a2 ++ [58] ++ a3) [mk] (by simp; omega)
  have A6 := strB_addL (a1 ++ [58] ++ a2 ++ [58] ++ a3 ++ [mk]) a4 (by simp; omega)
  simp (maxSteps := 4000000) (disch := omega) only [ah, am, Nat.reduceEqDiff, reduceCtorEq, Nat.reduceAdd, Nat.reduceLeDiff, Nat.reduceMul, Nat.reduceLT, if_true, if_false, true_and, and_true, and_self, Nat.reduceBEq, QOp.loads, boxO, bslO, buildO, cutL, fillV, putL, w62, v62, bn, n36, n60, ne_eq, not_false_eq_true, q3, q4, q5, q6, q7]
  refine stepC.of p1 ?_
  rintro _ Hx ⟨hx, rfl⟩; rw [hx]; clear hx Hx
  simp (maxSteps := 4000000) (disch := omega) only [ah, am, Nat.reduceEqDiff, reduceCtorEq, Nat.reduceAdd, Nat.reduceLeDiff, Nat.reduceMul, Nat.reduceLT, if_true, if_false, true_and, and_true, and_self, Nat.reduceBEq, QOp.loads, boxO, bslO, buildO, cutL, fillV, putL, w62, v62, A1]
  refine stepC.of p2 ?_
  rintro _ Hx ⟨hx, rfl⟩; rw [hx]; clear hx Hx
  simp (maxSteps := 4000000) (disch := omega) only [ah, am, Nat.reduceEqDiff, reduceCtorEq, Nat.reduceAdd, Nat.reduceLeDiff, Nat.reduceMul, Nat.reduceLT, if_true, if_false, true_and, and_true, and_self, Nat.reduceBEq, QOp.loads, boxO, bslO, buildO, cutL, fillV, putL, w62, v62, A2, A3]
  refine stepC.of p3 ?_
  rintro _ Hx ⟨hx, rfl⟩; rw [hx]; clear hx Hx
  simp (maxSteps := 4000000) (disch := omega) only [ah, am, Nat.reduceEqDiff, reduceCtorEq, Nat.reduceAdd, Nat.reduceLeDiff, Nat.reduceMul, Nat.reduceLT, if_true, if_false, true_and, and_true, and_self, Nat.reduceBEq, QOp.loads, boxO, bslO, buildO, cutL, fillV, putL, w62, v62, A4, A5]
  refine stepC.of p4 ?_
  rintro _ Hx ⟨hx, rfl⟩; rw [hx]; clear hx Hx
  simp (maxSteps := 4000000) (disch := omega) only [ah, am, Nat.reduceEqDiff, reduceCtorEq, Nat.reduceAdd, Nat.reduceLeDiff, Nat.reduceMul, Nat.reduceLT, if_true, if_false, true_and, and_true, and_self, Nat.reduceBEq, QOp.loads, boxO, bslO, buildO, cutL, fillV, putL, w62, v62, A6]
  exact e
theorem TimeText_ok (h : Heap) (r : Rate) (f : Int) : ACall Tryz.prog 62 [.agg (encRate r).toArray, .int .i64 f] h fun x h' => Ext h h' ∧ x = .string (bL (timeL r f)) := by
  have B := Bx.new h (encRate r) []
  have eM := Ext.more h [encRate r]
  have rk := RateOk_ok (h.more [encRate r]) r
  simp only [encRate] at B eM rk
  refine ACall.of Tryz.func62 s62 (of_decide_eq_true rfl) ?_
  simp (maxSteps := 4000000) (disch := omega) only [ah, am, Nat.reduceEqDiff, reduceCtorEq, Nat.reduceAdd, Nat.reduceLeDiff, Nat.reduceMul, Nat.reduceLT, if_true, if_false, true_and, and_true, and_self, Nat.reduceBEq, QOp.loads, boxO, bslO, buildO, cutL, fillV, putL, w62, v62, encRate, B.ld]
  refine stepC.of rk ?_
  rintro _ H1 ⟨e1, rfl⟩
  have B1 := B.ext e1
  have E1 := eM.trans e1
  have bad : ¬ (rateOk r ∧ 0 ≤ f ∧ f ≤ 10000000) → Ext h H1 ∧ Value.string ⟨#[]⟩ = .string (bL (timeL r f)) := fun q => ⟨E1, by unfold timeL; rw [if_neg q]; rfl⟩
  by_cases hr : rateOk r
  rotate_left
  · simp (maxSteps := 4000000) (disch := omega) only [ah, am, Nat.reduceEqDiff, reduceCtorEq, Nat.reduceAdd, Nat.reduceLeDiff, Nat.reduceMul, Nat.reduceLT, if_true, if_false, true_and, and_true, and_self, Nat.reduceBEq, QOp.loads, boxO, bslO, buildO, cutL, fillV, putL, w62, v62, decide_eq_false hr]
    exact bad fun q => hr q.1
  simp (maxSteps := 4000000) (disch := omega) only [ah, am, Nat.reduceEqDiff, reduceCtorEq, Nat.reduceAdd, Nat.reduceLeDiff, Nat.reduceMul, Nat.reduceLT, if_true, if_false, true_and, and_true, and_self, Nat.reduceBEq, QOp.loads, boxO, bslO, buildO, cutL, fillV, putL, w62, v62, decide_eq_true hr]
  refine stepC.of (isFrame_ok H1 f) ?_
  rintro _ Hx ⟨hx, rfl⟩; rw [hx]; clear hx Hx
  by_cases hf : 0 ≤ f ∧ f ≤ 10000000
  rotate_left
  · simp (maxSteps := 4000000) (disch := omega) only [ah, am, Nat.reduceEqDiff, reduceCtorEq, Nat.reduceAdd, Nat.reduceLeDiff, Nat.reduceMul, Nat.reduceLT, if_true, if_false, true_and, and_true, and_self, Nat.reduceBEq, QOp.loads, boxO, bslO, buildO, cutL, fillV, putL, w62, v62, decide_eq_false hf]
    exact bad fun q => hf q.2
  obtain ⟨fn, rfl⟩ := Int.eq_ofNat_of_zero_le hf.1
  have hfn : fn ≤ 10000000 := by omega
  have ht : timeL r (fn : Int) = if 99 < toldN r fn / baseN r / 3600 then [] else timeN (baseN r) (toldN r fn) (if r.drop = true then 59 else 58) (if 100 < baseN r then 3 else 2) := by
    unfold timeL; rw [if_pos ⟨hr, hf⟩, Int.toNat_natCast]
  have bk := base_ok H1 r hr
  simp only [encRate] at bk
  simp (maxSteps := 4000000) (disch := omega) only [ah, am, Nat.reduceEqDiff, reduceCtorEq, Nat.reduceAdd, Nat.reduceLeDiff, Nat.reduceMul, Nat.reduceLT, if_true, if_false, true_and, and_true, and_self, Nat.reduceBEq, QOp.loads, boxO, bslO, buildO, cutL, fillV, putL, w62, v62, decide_eq_true hf, B1.ld]
  refine stepC.of bk ?_
  rintro _ H2 ⟨e2, rfl⟩
  have B2 := B1.ext e2
  have tk := told_ok H2 r fn hr hfn
  simp only [encRate] at tk
  simp (maxSteps := 4000000) (disch := omega) only [ah, am, Nat.reduceEqDiff, reduceCtorEq, Nat.reduceAdd, Nat.reduceLeDiff, Nat.reduceMul, Nat.reduceLT, if_true, if_false, true_and, and_true, and_self, Nat.reduceBEq, QOp.loads, boxO, bslO, buildO, cutL, fillV, putL, w62, v62, rechk_cons, rechk_end, chkV_some, chkV_false, B2.ld]
  refine stepC.of tk ?_
  rintro _ H3 ⟨e3, rfl⟩
  have B3 := B2.ext e3
  have E3 := (E1.trans e2).trans e3
  obtain ⟨b1, b2, b3⟩ := base_bd hr
  have hn := told_bd r fn hr hfn
  obtain ⟨b, hb⟩ : ∃ b, b = baseN r := ⟨_, rfl⟩
  obtain ⟨n, hnn⟩ : ∃ n, n = toldN r fn := ⟨_, rfl⟩
  rw [← hb] at b2 b3 ht ⊢
  rw [← hnn] at hn ht ⊢
  obtain ⟨s, hs⟩ : ∃ s, s = n / b := ⟨_, rfl⟩
  have hsn : s ≤ n := by rw [hs]; exact Nat.div_le_self _ _
  have bn : (b : Int) ≠ 0 := by omega
  have q1 := tdivN n b
  rw [← hs] at q1
  have q2 : IntKind.i64.wrap (s : Int) = (s : Int) := i64e rfl (by omega)
  have q3 : IntKind.i64.wrap ((s : Int).tdiv 3600) = ((s / 3600 : Nat) : Int) := i64e (tdivN s 3600) (by omega)
  have n36 : (3600 : Int) ≠ 0 := by omega
  simp (maxSteps := 4000000) (disch := omega) only [ah, am, Nat.reduceEqDiff, reduceCtorEq, Nat.reduceAdd, Nat.reduceLeDiff, Nat.reduceMul, Nat.reduceLT, if_true, if_false, true_and, and_true, and_self, Nat.reduceBEq, QOp.loads, boxO, bslO, buildO, cutL, fillV, putL, w62, v62, bn, n36, ne_eq, not_false_eq_true, q1, q2, q3]
  have last := fun mk wd R => TimeText_last h H3 b n mk wd R E3 b2 b3 hn
  rw [← hs] at last
  by_cases c9 : 99 < s / 3600
  · have c9' : decide ((99 : Int) < ((s / 3600 : Nat) : Int)) = true := decide_eq_true (by omega)
    simp (maxSteps := 4000000) (disch := omega) only [ah, am, Nat.reduceEqDiff, reduceCtorEq, Nat.reduceAdd, Nat.reduceLeDiff, Nat.reduceMul, Nat.reduceLT, if_true, if_false, true_and, and_true, and_self, Nat.reduceBEq, QOp.loads, boxO, bslO, buildO, cutL, fillV, putL, w62, v62, c9']
    exact ⟨E3, by rw [ht, ← hs, if_pos c9]; rfl⟩
  have c9' : decide ((99 : Int) < ((s / 3600 : Nat) : Int)) = false := decide_eq_false (by omega)
  rw [← hs, if_neg c9] at ht
  rw [ht]
  rw [c62_26.eq_1, c62_25.eq_1, c62_24.eq_1]
  generalize c62_23 = fc at last ⊢
  have d100 : decide ((100 : Int) < (b : Int)) = decide (100 < b) := decide_eq_decide.mpr (by omega)
  cases hd : r.drop with
  | false =>
    rw [hd] at B3
    by_cases c : 100 < b
    · simp (maxSteps := 4000000) (disch := omega) only [ah, am, Nat.reduceEqDiff, reduceCtorEq, Nat.reduceAdd, Nat.reduceLeDiff, Nat.reduceMul, Nat.reduceLT, if_true, if_false, true_and, and_true, and_self, Nat.reduceBEq, QOp.loads, boxO, bslO, buildO, cutL, fillV, putL, w62, v62, c9', B3.ld, d100, decide_eq_true c]
      rw [if_pos c]
      exact last 58 3 _ (by omega)
    · simp (maxSteps := 4000000) (disch := omega) only [ah, am, Nat.reduceEqDiff, reduceCtorEq, Nat.reduceAdd, Nat.reduceLeDiff, Nat.reduceMul, Nat.reduceLT, if_true, if_false, true_and, and_true, and_self, Nat.reduceBEq, QOp.loads, boxO, bslO, buildO, cutL, fillV, putL, w62, v62, c9', B3.ld, d100, decide_eq_false c]
      rw [if_neg c]
      exact last 58 2 _ (by omega)
  | true =>
    rw [hd] at B3
    by_cases c : 100 < b
    · simp (maxSteps := 4000000) (disch := omega) only [ah, am, Nat.reduceEqDiff, reduceCtorEq, Nat.reduceAdd, Nat.reduceLeDiff, Nat.reduceMul, Nat.reduceLT, if_true, if_false, true_and, and_true, and_self, Nat.reduceBEq, QOp.loads, boxO, bslO, buildO, cutL, fillV, putL, w62, v62, c9', B3.ld, d100, decide_eq_true c]
      rw [if_pos c]
      exact last 59 3 _ (by omega)
    · simp (maxSteps := 4000000) (disch := omega) only [ah, am, Nat.reduceEqDiff, reduceCtorEq, Nat.reduceAdd, Nat.reduceLeDiff, Nat.reduceMul, Nat.reduceLT, if_true, if_false, true_and, and_true, and_self, Nat.reduceBEq, QOp.loads, boxO, bslO, buildO, cutL, fillV, putL, w62, v62, c9', B3.ld, d100, decide_eq_false c]
      rw [if_neg c]
      exact last 59 2 _ (by omega)
theorem specTimeText_last (h K : Heap) (b n : Nat) (mk : UInt8) (R : Env) (e : Ext h K) (hb : 1 ≤ b) (hb2 : b ≤ 120) (hn : n ≤ 500000000) :
    SW Tryz.prog c36_48 (retQ v36 fun x h' => Ext h h' ∧ x = .string (bL (if 99 < n / b / 3600 then [] else timeN b n mk (if 100 < b then 3 else 2)))) ((5, .int .i64 (b : Int)) :: (6, .int .i64 (n : Int)) :: (7, .string (bL [mk])) :: R) K := by
  skip
  unfold timeN
  obtain ⟨s, hs⟩ : ∃ s, s = n / b := ⟨_, rfl⟩
  have hsn : s ≤ n := by rw [hs]; exact Nat.div_le_self _ _
  rw [← hs]
  have bn : (b : Int) ≠ 0 := by omega
  have hmb : n % b ≤ n := Nat.mod_le _ _
  have n36 : (3600 : Int) ≠ 0 := by omega
  have n60 : (60 : Int) ≠ 0 := by omega
  have q1 := tdivN n b
  rw [← hs] at q1
  have q2 : IntKind.i64.wrap (s : Int) = (s : Int) := i64e rfl (by omega)
  have q3 : IntKind.i64.wrap ((s : Int).tdiv 3600) = ((s / 3600 : Nat) : Int) := i64e (tdivN s 3600) (by omega)
  have q4 : IntKind.i64.wrap ((s : Int).tdiv 60) = ((s / 60 : Nat) : Int) := i64e (tdivN s 60) (by omega)
  have q5 : ((s / 60 : Nat) : Int).tmod 60 = ((s / 60 % 60 : Nat) : Int) := tmodN (s / 60) 60
  have q6 : ((s : Nat) : Int).tmod 60 = ((s % 60 : Nat) : Int) := tmodN s 60
  have q7 : (n : Int).tmod (b : Int) = ((n % b : Nat) : Int) := tmodN n b
  by_cases c9 : 99 < s / 3600
  · have c9' : decide ((99 : Int) < ((s / 3600 : Nat) : Int)) = true := decide_eq_true (by omega)
    simp (maxSteps := 4000000) (disch := omega) only [ah, am, Nat.reduceEqDiff, reduceCtorEq, Nat.reduceAdd, Nat.reduceLeDiff, Nat.reduceMul, Nat.reduceLT, if_true, if_false, true_and, and_true, and_self, Nat.reduceBEq, QOp.loads, boxO, bslO, buildO, cutL, fillV, putL, w36, v36, bn, n36, n60, ne_eq, not_false_eq_true, q1, q2, q3, q7, c9']
    exact ⟨e, by rw [if_pos c9]; rfl⟩
  have c9' : decide ((99 : Int) < ((s / 3600 : Nat) : Int)) = false := decide_eq_false (by omega)
  rw [if_neg c9]
  obtain ⟨wd, hwd⟩ : ∃ wd : Nat, wd = if 100 < b then 3 else 2 := ⟨_, rfl⟩
  rw [← hwd]
  have hw3 : wd ≤ 3 := by rw [hwd]; split <;> omega
  have l1 := padL_le (k := 2) (n := s / 3600) (by omega) (by omega)
  have l2 := padL_le (k := 2) (n := s / 60 % 60) (by omega) (by omega)
  have l3 := padL_le (k := 2) (n := s % 60) (by omega) (by omega)
  have l4 := padL_le (k := wd) (n := n % b) (by omega) (by omega)
  have p1 := fun K => l1Wide_ok K (s / 3600) 2 (by omega) (by omega)
  have p2 := fun K => l1Wide_ok K (s / 60 % 60) 2 (by omega) (by omega)
  have p3 := fun K => l1Wide_ok K (s % 60) 2 (by omega) (by omega)
  have p4 := fun K => l1Wide_ok K (n % b) wd (by omega) (by omega)
  simp only [show (((2 : Nat) : Int)) = 2 from rfl] at p1 p2 p3
  generalize padL 2 (digs (s / 3600)) = a1 at *
  generalize padL 2 (digs (s / 60 % 60)) = a2 at *
  generalize padL 2 (digs (s % 60)) = a3 at *
  generalize padL wd (digs (n % b)) = a4 at *
  have A1 : strB .add (bL a1) ⟨#[58]⟩ = some (.string (bL (a1 ++ [58]))) := strB_addL a1 [58] (by simp; omega)
  have A2 := strB_addL (a1 ++ [58]) a2 (by simp; omega)
  have A3 : strB .add (bL (a1 ++ [58] ++ a2)) ⟨#[58]⟩ = some (.string (bL (a1 ++ [58] ++ a2 ++ [58]))) := strB_addL (a1 ++ [58] ++ a2) [58] (by simp; omega)
  have A4 := strB_addL (a1 ++ [58] ++ a2 ++ [58]) a3 (by simp; omega)
  have A5 := strB_addL (a1 ++ [58] ++ a2 ++ [58] ++ a3) [mk] (by simp; omega)
  have A6 := strB_addL (a1 ++ [58] ++ a2 ++ [58] ++ a3 ++ [mk]) a4 (by simp; omega)
  have fin : ∀ R : Env, SW Tryz.prog c36_43 (retQ v36 fun x h' => Ext h h' ∧ x = .string (bL (a1 ++ [58] ++ a2 ++ [58] ++ a3 ++ [mk] ++ a4))) ((6, .int .i64 (s : Int)) :: (7, .string (bL [mk])) :: (13, .int .i64 ((n % b : Nat) : Int)) :: (14, .int .i64 (wd : Int)) :: R) K := by
    intro R
    simp (maxSteps := 4000000) (disch := omega) only [ah, am, Nat.reduceEqDiff, reduceCtorEq, Nat.reduceAdd, Nat.reduceLeDiff, Nat.reduceMul, Nat.reduceLT, if_true, if_false, true_and, and_true, and_self, Nat.reduceBEq, QOp.loads, boxO, bslO, buildO, cutL, fillV, putL, w36, v36, n36, n60, ne_eq, not_false_eq_true, q3]
    refine stepC.of (p1 K) ?_
    rintro _ K1 ⟨e1, rfl⟩
    simp (maxSteps := 4000000) (disch := omega) only [ah, am, Nat.reduceEqDiff, reduceCtorEq, Nat.reduceAdd, Nat.reduceLeDiff, Nat.reduceMul, Nat.reduceLT, if_true, if_false, true_and, and_true, and_self, Nat.reduceBEq, QOp.loads, boxO, bslO, buildO, cutL, fillV, putL, w36, v36, A1, n36, n60, ne_eq, not_false_eq_true, q4, q5]
    refine stepC.of (p2 K1) ?_
    rintro _ K2 ⟨e2, rfl⟩
    simp (maxSteps := 4000000) (disch := omega) only [ah, am, Nat.reduceEqDiff, reduceCtorEq, Nat.reduceAdd, Nat.reduceLeDiff, Nat.reduceMul, Nat.reduceLT, if_true, if_false, true_and, and_true, and_self, Nat.reduceBEq, QOp.loads, boxO, bslO, buildO, cutL, fillV, putL, w36, v36, A2, A3, n36, n60, ne_eq, not_false_eq_true, q6]
    refine stepC.of (p3 K2) ?_
    rintro _ K3 ⟨e3, rfl⟩
    simp (maxSteps := 4000000) (disch := omega) only [ah, am, Nat.reduceEqDiff, reduceCtorEq, Nat.reduceAdd, Nat.reduceLeDiff, Nat.reduceMul, Nat.reduceLT, if_true, if_false, true_and, and_true, and_self, Nat.reduceBEq, QOp.loads, boxO, bslO, buildO, cutL, fillV, putL, w36, v36, A4, A5]
    refine stepC.of (p4 K3) ?_
    rintro _ K4 ⟨e4, rfl⟩
    simp (maxSteps := 4000000) (disch := omega) only [ah, am, Nat.reduceEqDiff, reduceCtorEq, Nat.reduceAdd, Nat.reduceLeDiff, Nat.reduceMul, Nat.reduceLT, if_true, if_false, true_and, and_true, and_self, Nat.reduceBEq, QOp.loads, boxO, bslO, buildO, cutL, fillV, putL, w36, v36, A6]
    exact (((e.trans e1).trans e2).trans e3).trans e4
  rw [c36_48.eq_1, c36_47.eq_1, c36_46.eq_1, c36_45.eq_1, c36_44.eq_1]
  generalize c36_43 = fc at fin ⊢
  have d100 : decide ((100 : Int) < (b : Int)) = decide (100 < b) := decide_eq_decide.mpr (by omega)
  by_cases c : 100 < b
  · rw [if_pos c] at hwd
    subst hwd
    simp (maxSteps := 4000000) (disch := omega) only [ah, am, Nat.reduceEqDiff, reduceCtorEq, Nat.reduceAdd, Nat.reduceLeDiff, Nat.reduceMul, Nat.reduceLT, if_true, if_false, true_and, and_true, and_self, Nat.reduceBEq, QOp.loads, boxO, bslO, buildO, cutL, fillV, putL, w36, v36, bn, n36, n60, ne_eq, not_false_eq_true, q1, q2, q3, q7, c9', d100, decide_eq_true c]
    exact fin _
  · rw [if_neg c] at hwd
    subst hwd
    simp (maxSteps := 4000000) (disch := omega) only [ah, am, Nat.reduceEqDiff, reduceCtorEq, Nat.reduceAdd, Nat.reduceLeDiff, Nat.reduceMul, Nat.reduceLT, if_true, if_false, true_and, and_true, and_self, Nat.reduceBEq, QOp.loads, boxO, bslO, buildO, cutL, fillV, putL, w36, v36, bn, n36, n60, ne_eq, not_false_eq_true, q1, q2, q3, q7, c9', d100, decide_eq_false c]
    exact fin _
theorem specTimeText_ok (h : Heap) (r : Rate) (f : Int) : ACall Tryz.prog 36 [.agg (encRate r).toArray, .int .i64 f] h fun x h' => Ext h h' ∧ x = .string (bL (timeL r f)) := by
  have B := Bx.new h (encRate r) []
  have eM := Ext.more h [encRate r]
  have rk := specBase_ok (h.more [encRate r]) r
  simp only [encRate] at B eM rk
  refine ACall.of Tryz.func36 s36 (of_decide_eq_true rfl) ?_
  simp (maxSteps := 4000000) (disch := omega) only [ah, am, Nat.reduceEqDiff, reduceCtorEq, Nat.reduceAdd, Nat.reduceLeDiff, Nat.reduceMul, Nat.reduceLT, if_true, if_false, true_and, and_true, and_self, Nat.reduceBEq, QOp.loads, boxO, bslO, buildO, cutL, fillV, putL, w36, v36, encRate, B.ld]
  refine stepC.of rk ?_
  rintro _ H1 ⟨e1, rfl⟩
  have B1 := B.ext e1
  have E1 := eM.trans e1
  have bad : ¬ (rateOk r ∧ 0 ≤ f ∧ f ≤ 10000000) → Ext h H1 ∧ Value.string ⟨#[]⟩ = .string (bL (timeL r f)) := fun q => ⟨E1, by unfold timeL; rw [if_neg q]; rfl⟩
  by_cases hr : rateOk r
  rotate_left
  · rw [if_neg hr]
    simp (maxSteps := 4000000) (disch := omega) only [ah, am, Nat.reduceEqDiff, reduceCtorEq, Nat.reduceAdd, Nat.reduceLeDiff, Nat.reduceMul, Nat.reduceLT, if_true, if_false, true_and, and_true, and_self, Nat.reduceBEq, QOp.loads, boxO, bslO, buildO, cutL, fillV, putL, w36, v36, decide_eq_true (rfl : (0 : Int) = 0)]
    exact bad fun q => hr q.1
  rw [if_pos hr]
  obtain ⟨b1, b2, b3⟩ := base_bd hr
  have cb : decide (((baseN r : Nat) : Int) = 0) = false := decide_eq_false (by omega)
  simp (maxSteps := 4000000) (disch := omega) only [ah, am, Nat.reduceEqDiff, reduceCtorEq, Nat.reduceAdd, Nat.reduceLeDiff, Nat.reduceMul, Nat.reduceLT, if_true, if_false, true_and, and_true, and_self, Nat.reduceBEq, QOp.loads, boxO, bslO, buildO, cutL, fillV, putL, w36, v36, cb]
  refine stepC.of (l1Frame_ok H1 f) ?_
  rintro _ Hx ⟨hx, rfl⟩; rw [hx]; clear hx Hx
  by_cases hf : 0 ≤ f ∧ f ≤ 10000000
  rotate_left
  · simp (maxSteps := 4000000) (disch := omega) only [ah, am, Nat.reduceEqDiff, reduceCtorEq, Nat.reduceAdd, Nat.reduceLeDiff, Nat.reduceMul, Nat.reduceLT, if_true, if_false, true_and, and_true, and_self, Nat.reduceBEq, QOp.loads, boxO, bslO, buildO, cutL, fillV, putL, w36, v36, decide_eq_false hf]
    exact bad fun q => hf q.2
  obtain ⟨fn, rfl⟩ := Int.eq_ofNat_of_zero_le hf.1
  have hfn : fn ≤ 10000000 := by omega
  have ht : timeL r (fn : Int) = if 99 < toldN r fn / baseN r / 3600 then [] else timeN (baseN r) (toldN r fn) (if r.drop = true then 59 else 58) (if 100 < baseN r then 3 else 2) := by
    unfold timeL; rw [if_pos ⟨hr, hf⟩, Int.toNat_natCast]
  rw [ht]
  have hn := told_bd r fn hr hfn
  have last := fun mk R => specTimeText_last h H1 (baseN r) (toldN r fn) mk R E1 b2 b3 hn
  rw [c36_51.eq_1, c36_50.eq_1, c36_49.eq_1]
  generalize c36_48 = fc at last ⊢
  cases hd : r.drop with
  | false =>
    rw [hd] at B1
    have ez : toldN r fn = fn := by unfold toldN leftN; rw [hd]; simp
    rw [ez] at last ⊢
    simp (maxSteps := 4000000) (disch := omega) only [ah, am, Nat.reduceEqDiff, reduceCtorEq, Nat.reduceAdd, Nat.reduceLeDiff, Nat.reduceMul, Nat.reduceLT, if_true, if_false, true_and, and_true, and_self, Nat.reduceBEq, QOp.loads, boxO, bslO, buildO, cutL, fillV, putL, w36, v36, decide_eq_true hf, B1.ld]
    exact last 58 _
  | true =>
    rw [hd] at B1
    have hbl := drop_two hr hd
    have hT : toldN r fn = fn + 9 * leftN r * (fn / (10 * (60 * baseN r) - 9 * leftN r)) + (if 60 * baseN r ≤ fn % (10 * (60 * baseN r) - 9 * leftN r) then
        leftN r * (1 + (fn % (10 * (60 * baseN r) - 9 * leftN r) - 60 * baseN r) / (60 * baseN r - leftN r)) else 0) := by unfold toldN; rw [hd]; simp
    clear b1 ht cb
    revert last hT
    generalize toldN r fn = n at *
    generalize baseN r = b at *
    generalize leftN r = l at *
    intro last hT
    obtain ⟨t, ht⟩ : ∃ t, t = 10 * (60 * b) - 9 * l := ⟨_, rfl⟩
    rw [← ht] at hT
    have t0 : 0 < t := by omega
    obtain ⟨qn, hqn⟩ : ∃ q, q = fn / t := ⟨_, rfl⟩
    obtain ⟨rn, hrn⟩ : ∃ q, q = fn % t := ⟨_, rfl⟩
    have hq : qn ≤ fn := by rw [hqn]; exact Nat.div_le_self _ _
    have hm : rn < t := by rw [hrn]; exact Nat.mod_lt _ t0
    have q1 := tdivN fn t
    have r1 := tmodN fn t
    rw [← hqn] at q1 hT
    rw [← hrn] at r1 hT
    have pm : (9 * l) * qn ≤ 36 * 10000000 := Nat.mul_le_mul (by omega) (by omega)
    obtain ⟨pn, hpn⟩ : ∃ q, q = (9 * l) * qn := ⟨_, rfl⟩
    rw [← hpn] at pm hT
    have tn : (t : Int) ≠ 0 := by omega
    have n15 : (15 : Int) ≠ 0 := by omega
    have wo : IntKind.i64.wrap ((b : Int).tdiv 15) = (l : Int) := i64e ((tdivN b 15).trans (by omega)) (by omega)
    have w600 : IntKind.i64.wrap (600 * (b : Int)) = ((600 * b : Nat) : Int) := i64e (by omega) (by omega)
    have w9 : IntKind.i64.wrap (9 * (l : Int)) = ((9 * l : Nat) : Int) := i64e (by omega) (by omega)
    have wten : IntKind.i64.wrap (((600 * b : Nat) : Int) - ((9 * l : Nat) : Int)) = (t : Int) := i64e (by omega) (by omega)
    have w60 : IntKind.i64.wrap (60 * (b : Int)) = ((60 * b : Nat) : Int) := i64e (by omega) (by omega)
    have wone : IntKind.i64.wrap (((60 * b : Nat) : Int) - (l : Int)) = ((60 * b - l : Nat) : Int) := i64e (by omega) (by omega)
    have q2 : IntKind.i64.wrap (qn : Int) = (qn : Int) := i64e rfl (by omega)
    have w5 : IntKind.i64.wrap (((9 * l : Nat) : Int) * (qn : Int)) = (pn : Int) := i64e (by rw [hpn, Int.natCast_mul (9 * l)]) (by omega)
    have w6 : IntKind.i64.wrap ((fn : Int) + (pn : Int)) = ((fn + pn : Nat) : Int) := i64e (by omega) (by omega)
    by_cases c : 60 * b ≤ rn
    · have c' : decide (((60 * b : Nat) : Int) ≤ (rn : Int)) = true := decide_eq_true (by omega)
      rw [if_pos c] at hT
      obtain ⟨dn, hdn⟩ : ∃ q, q = (rn - 60 * b) / (60 * b - l) := ⟨_, rfl⟩
      have hdq : dn ≤ rn - 60 * b := by rw [hdn]; exact Nat.div_le_self _ _
      have q8 := tdivN (rn - 60 * b) (60 * b - l)
      rw [← hdn] at q8 hT
      have w7 : IntKind.i64.wrap ((rn : Int) - ((60 * b : Nat) : Int)) = ((rn - 60 * b : Nat) : Int) := i64e (by omega) (by omega)
      have n8 : ((60 * b - l : Nat) : Int) ≠ 0 := by omega
      have w9' : IntKind.i64.wrap (dn : Int) = (dn : Int) := i64e rfl (by omega)
      have w10 : IntKind.i64.wrap ((dn : Int) + 1) = ((1 + dn : Nat) : Int) := i64e (by omega) (by omega)
      have pm2 : l * (1 + dn) ≤ 4 * 10000001 := Nat.mul_le_mul (by omega) (by omega)
      obtain ⟨sn, hsn⟩ : ∃ q, q = l * (1 + dn) := ⟨_, rfl⟩
      rw [← hsn] at pm2 hT
      have w11 : IntKind.i64.wrap ((l : Int) * ((1 + dn : Nat) : Int)) = (sn : Int) := i64e (by rw [hsn, Int.natCast_mul l]) (by omega)
      have w12 : IntKind.i64.wrap (((fn + pn : Nat) : Int) + (sn : Int)) = (n : Int) := i64e (by omega) (by omega)
      simp (maxSteps := 4000000) (disch := omega) only [ah, am, Nat.reduceEqDiff, reduceCtorEq, Nat.reduceAdd, Nat.reduceLeDiff, Nat.reduceMul, Nat.reduceLT, if_true, if_false, true_and, and_true, and_self, Nat.reduceBEq, QOp.loads, boxO, bslO, buildO, cutL, fillV, putL, w36, v36, decide_eq_true hf, B1.ld, tn, n15, ne_eq, not_false_eq_true, wo, w600, w9, wten, w60, wone, q1, q2, r1, w5, w6, c', w7, n8, q8, w9', w10, w11, w12]
      exact last 59 _
    · have c' : decide (((60 * b : Nat) : Int) ≤ (rn : Int)) = false := decide_eq_false (by omega)
      rw [if_neg c] at hT
      have w6' : IntKind.i64.wrap ((fn : Int) + (pn : Int)) = (n : Int) := i64e (by omega) (by omega)
      simp (maxSteps := 4000000) (disch := omega) only [ah, am, Nat.reduceEqDiff, reduceCtorEq, Nat.reduceAdd, Nat.reduceLeDiff, Nat.reduceMul, Nat.reduceLT, if_true, if_false, true_and, and_true, and_self, Nat.reduceBEq, QOp.loads, boxO, bslO, buildO, cutL, fillV, putL, w36, v36, decide_eq_true hf, B1.ld, tn, n15, ne_eq, not_false_eq_true, wo, w600, w9, wten, w60, wone, q1, q2, r1, w5, w6', c']
      exact last 59 _
end Go.Proofs.YtgmimgmdbpcecaaGreatDoor
end

section
namespace Go.Proofs.YtgmimgmdbpcecaaGreatDoor
open Go Go.Ah
set_option linter.unusedSimpArgs false
set_option linter.unusedVariables false
set_option maxRecDepth 10000
set_option maxHeartbeats 4000000
/-! 61 (loop.example/g00066/impl.Clip).named: parameters 1, live [0], slots [0:c, 1:c] -/
def c61_0 : List SOper := [⟨some 1, .a (.box (.t 0)), none⟩, ⟨some 2, .q (.mv (.c (.string ⟨#[]⟩))), none⟩]
def c61_1 : List SOper := [⟨some 3, .q (.ldn 3 (.t 1)), none⟩, ⟨some 4, .e (.call 78 [(.t 3)]), none⟩]
def c61_2 : List SOper := [⟨some 2, .q (.mv (.c (.string ⟨#[66, 76]⟩))), none⟩]
def c61_3 : SCode := .seq (.region c61_2 [2]) .ret
def c61_4 : SCode := .cond (.t 4) c61_3 .skip
def c61_5 : SCode := .seq (.region c61_1 [1, 4]) c61_4
def c61_6 : List SOper := [⟨some 5, .q (.fa 0 (.t 1)), none⟩, ⟨some 6, .q (.ld (.t 5)), none⟩, ⟨some 7, .e (.call 71 [(.t 6), (.c (.int .i64 10))]), none⟩, ⟨some 8, .q (.bin .add (.c (.string ⟨#[82]⟩)) (.t 7)), none⟩, ⟨some 2, .q (.mv (.t 8)), none⟩]
def c61_7 : SCode := .seq (.region c61_6 [2]) .ret
def c61_8 : SCode := .seq c61_5 c61_7
def c61_9 : SCode := .seq (.region c61_0 [1]) c61_8
def c61 : SCode := c61_9
theorem w61 : type_of% (And.intro (uR Tryz.prog c61_0.eq_1) (And.intro (uR Tryz.prog c61_1.eq_1) (And.intro (uR Tryz.prog c61_2.eq_1) (And.intro (uC Tryz.prog c61_3.eq_1) (And.intro (uC Tryz.prog c61_4.eq_1) (And.intro (uC Tryz.prog c61_5.eq_1) (And.intro (uR Tryz.prog c61_6.eq_1) (And.intro (uC Tryz.prog c61_7.eq_1) (And.intro (uC Tryz.prog c61_8.eq_1) (And.intro (uC Tryz.prog c61_9.eq_1) (uC Tryz.prog c61.eq_1))))))))))) := (And.intro (uR Tryz.prog c61_0.eq_1) (And.intro (uR Tryz.prog c61_1.eq_1) (And.intro (uR Tryz.prog c61_2.eq_1) (And.intro (uC Tryz.prog c61_3.eq_1) (And.intro (uC Tryz.prog c61_4.eq_1) (And.intro (uC Tryz.prog c61_5.eq_1) (And.intro (uR Tryz.prog c61_6.eq_1) (And.intro (uC Tryz.prog c61_7.eq_1) (And.intro (uC Tryz.prog c61_8.eq_1) (And.intro (uC Tryz.prog c61_9.eq_1) (uC Tryz.prog c61.eq_1)))))))))))
def v61 : List RV := [.t 2]
theorem s61 : slimF Tryz.prog Tryz.f61 = some (c61.bare, v61) := by kernel_rfl
/-! 32 (loop.example/g00066/impl.Rate).lineOf: parameters 4, live [0, 1, 2, 3], slots [0:r, 1:k, 2:c, 3:at, 4:r, 5:k, 6:c, 7:at, 9:words, 10:_, 11:frame, 12:t] -/
def c32_0 : List SOper := [⟨some 4, .a (.box (.t 0)), none⟩, ⟨some 6, .a (.box (.t 2)), none⟩, ⟨some 8, .q (.mv (.c (.string ⟨#[]⟩))), none⟩]
def c32_1 : List DOper := [⟨0, ⟨some 13, .q (.mv (.t 1)), none⟩, [], []⟩, ⟨1, ⟨some 14, .q (.bin .add (.t 13) (.c (.int .i64 1))), none⟩, [], []⟩, ⟨3, ⟨some 16, .q (.ldn 3 (.t 6)), none⟩, [], []⟩, ⟨2, ⟨some 15, .e (.call 51 [(.t 14), (.c (.int .i64 3))]), none⟩, [], [3]⟩, ⟨4, ⟨some 17, .e (.call 61 [(.t 16)]), none⟩, [], []⟩, ⟨5, ⟨some 18, .a (.bsl 3 1 [(.string ⟨#[]⟩), (.string ⟨#[]⟩), (.string ⟨#[]⟩)] [(0, 1, (.t 15)), (1, 1, (.t 17)), (2, 1, (.c (.string ⟨#[67]⟩)))]), none⟩, [], []⟩, ⟨6, ⟨some 9, .q (.mv (.t 18)), none⟩, [], []⟩]
def c32_2 : List SOper := [⟨some 19, .q (.fa 1 (.t 6)), none⟩, ⟨some 20, .q (.ld (.t 19)), none⟩, ⟨some 21, .q (.fa 1 (.t 6)), none⟩, ⟨some 22, .q (.ld (.t 21)), none⟩, ⟨some 23, .q (.fa 2 (.t 6)), none⟩, ⟨some 24, .q (.ld (.t 23)), none⟩, ⟨some 25, .q (.bin .add (.t 22) (.t 24)), none⟩, ⟨some 26, .q (.mv (.t 3)), none⟩, ⟨some 27, .q (.mv (.t 3)), none⟩, ⟨some 28, .q (.fa 2 (.t 6)), none⟩, ⟨some 29, .q (.ld (.t 28)), none⟩, ⟨some 30, .q (.bin .add (.t 27) (.t 29)), none⟩, ⟨some 31, .a (.bsl 4 1 [(.int .i64 0), (.int .i64 0), (.int .i64 0), (.int .i64 0)] [(0, 1, (.t 20)), (1, 1, (.t 25)), (2, 1, (.t 26)), (3, 1, (.t 30))]), none⟩, ⟨some 32, .q (.len (.t 31)), none⟩, ⟨some 33, .q (.mv (.c (.int .i64 0))), none⟩]
def c32_3 : List SOper := [⟨some 34, .q (.bin .lss (.t 33) (.t 32)), none⟩]
def c32_4 : SCode := .cond (.t 34) .skip (.exit 0)
def c32_5 : List SOper := [⟨some 35, .q (.ia 1 (.t 31) (.t 33)), none⟩, ⟨some 36, .q (.ld (.t 35)), none⟩, ⟨some 11, .q (.mv (.t 36)), none⟩]
def c32_6 : List SOper := [⟨some 37, .q (.ldn 3 (.t 4)), none⟩, ⟨some 38, .q (.mv (.t 11)), none⟩, ⟨some 39, .e (.call 62 [(.t 37), (.t 38)]), none⟩, ⟨some 12, .q (.mv (.t 39)), none⟩]
def c32_7 : List SOper := [⟨some 40, .q (.mv (.t 12)), none⟩, ⟨some 41, .q (.bin .eql (.t 40) (.c (.string ⟨#[]⟩))), none⟩]
def c32_8 : List SOper := [⟨some 8, .q (.mv (.c (.string ⟨#[]⟩))), none⟩]
def c32_9 : SCode := .seq (.region c32_8 [8]) .ret
def c32_10 : SCode := .cond (.t 41) c32_9 .skip
def c32_11 : SCode := .seq (.region c32_7 [4, 9, 12, 31, 32, 33, 41]) c32_10
def c32_12 : List SOper := [⟨some 42, .q (.mv (.t 9)), none⟩, ⟨some 43, .q (.mv (.t 12)), none⟩, ⟨some 44, .a (.bsl 1 1 [(.string ⟨#[]⟩)] [(0, 1, (.t 43))]), none⟩, ⟨some 45, .e (.app 16 1 (.t 42) (.t 44)), none⟩, ⟨some 9, .q (.mv (.t 45)), none⟩]
def c32_13 : SCode := .seq c32_11 (.region c32_12 [4, 9, 31, 32, 33])
def c32_14 : SCode := .seq (.region c32_6 [4, 9, 12, 31, 32, 33]) c32_13
def c32_15 : SCode := .seq (.region c32_5 [4, 9, 11, 31, 32, 33]) c32_14
def c32_16 : SCode := .block 1 c32_15
def c32_17 : List SOper := [⟨some 46, .q (.bin .add (.t 33) (.c (.int .i64 1))), none⟩, ⟨some 33, .q (.mv (.t 46)), none⟩]
def c32_18 : SCode := .seq c32_16 (.region c32_17 [4, 9, 31, 32, 33])
def c32_19 : SCode := .seq c32_4 c32_18
def c32_20 : SCode := .seq (.region c32_3 [4, 9, 31, 32, 33, 34]) c32_19
def c32_21 : SCode := .loop c32_20
def c32_22 : SCode := .block 0 c32_21
def c32_23 : SCode := .seq (.region c32_2 [4, 9, 31, 32, 33]) c32_22
def c32_24 : List SOper := [⟨some 47, .q (.mv (.t 9)), none⟩, ⟨some 48, .e (.call 63 [(.t 47), (.c (.string ⟨#[32]⟩))]), none⟩, ⟨some 49, .q (.bin .add (.t 48) (.c (.string ⟨#[10]⟩))), none⟩, ⟨some 8, .q (.mv (.t 49)), none⟩]
def c32_25 : SCode := .seq (.region c32_24 [8]) .ret
def c32_26 : SCode := .seq c32_23 c32_25
def c32_27 : SCode := .seq (.dregion c32_1 [3, 4, 6, 9]) c32_26
def c32_28 : SCode := .seq (.region c32_0 [1, 3, 4, 6]) c32_27
def c32 : SCode := c32_28
theorem w32 : type_of% (And.intro (uR Tryz.prog c32_0.eq_1) (And.intro (uD Tryz.prog c32_1.eq_1) (And.intro (uR Tryz.prog c32_2.eq_1) (And.intro (uR Tryz.prog c32_3.eq_1) (And.intro (uC Tryz.prog c32_4.eq_1) (And.intro (uR Tryz.prog c32_5.eq_1) (And.intro (uR Tryz.prog c32_6.eq_1) (And.intro (uR Tryz.prog c32_7.eq_1) (And.intro (uR Tryz.prog c32_8.eq_1) (And.intro (uC Tryz.prog c32_9.eq_1) (And.intro (uC Tryz.prog c32_10.eq_1) (And.intro (uC Tryz.prog c32_11.eq_1) (And.intro (uR Tryz.prog c32_12.eq_1) (And.intro (uC Tryz.prog c32_13.eq_1) (And.intro (uC Tryz.prog c32_14.eq_1) (And.intro (uC Tryz.prog c32_15.eq_1) (And.intro (uC Tryz.prog c32_16.eq_1) (And.intro (uR Tryz.prog c32_17.eq_1) (And.intro (uC Tryz.prog c32_18.eq_1) (And.intro (uC Tryz.prog c32_19.eq_1) (And.intro (uC Tryz.prog c32_20.eq_1) (And.intro (uC Tryz.prog c32_21.eq_1) (And.intro (uC Tryz.prog c32_22.eq_1) (And.intro (uC Tryz.prog c32_23.eq_1) (And.intro (uR Tryz.prog c32_24.eq_1) (And.intro (uC Tryz.prog c32_25.eq_1) (And.intro (uC Tryz.prog c32_26.eq_1) (And.intro (uC Tryz.prog c32_27.eq_1) (And.intro (uC Tryz.prog c32_28.eq_1) (uC Tryz.prog c32.eq_1)))))))))))))))))))))))))))))) := (And.intro (uR Tryz.prog c32_0.eq_1) (And.intro (uD Tryz.prog c32_1.eq_1) (And.intro (uR Tryz.prog c32_2.eq_1) (And.intro (uR Tryz.prog c32_3.eq_1) (And.intro (uC Tryz.prog c32_4.eq_1) (And.intro (uR Tryz.prog c32_5.eq_1) (And.intro (uR Tryz.prog c32_6.eq_1) (And.intro (uR Tryz.prog c32_7.eq_1) (And.intro (uR Tryz.prog c32_8.eq_1) (And.intro (uC Tryz.prog c32_9.eq_1) (And.intro (uC Tryz.prog c32_10.eq_1) (And.intro (uC Tryz.prog c32_11.eq_1) (And.intro (uR Tryz.prog c32_12.eq_1) (And.intro (uC Tryz.prog c32_13.eq_1) (And.intro (uC Tryz.prog c32_14.eq_1) (And.intro (uC Tryz.prog c32_15.eq_1) (And.intro (uC Tryz.prog c32_16.eq_1) (And.intro (uR Tryz.prog c32_17.eq_1) (And.intro (uC Tryz.prog c32_18.eq_1) (And.intro (uC Tryz.prog c32_19.eq_1) (And.intro (uC Tryz.prog c32_20.eq_1) (And.intro (uC Tryz.prog c32_21.eq_1) (And.intro (uC Tryz.prog c32_22.eq_1) (And.intro (uC Tryz.prog c32_23.eq_1) (And.intro (uR Tryz.prog c32_24.eq_1) (And.intro (uC Tryz.prog c32_25.eq_1) (And.intro (uC Tryz.prog c32_26.eq_1) (And.intro (uC Tryz.prog c32_27.eq_1) (And.intro (uC Tryz.prog c32_28.eq_1) (uC Tryz.prog c32.eq_1))))))))))))))))))))))))))))))
def v32 : List RV := [.t 8]
theorem s32 : slimF Tryz.prog Tryz.f32 = some (c32.bare, v32) := by kernel_rfl

theorem joinStep_src {out : List Clip} {k : Clip} (ho : ∀ a ∈ out, 0 ≤ a.src ∧ a.src ≤ 500) (hk : 0 ≤ k.src ∧ k.src ≤ 500) : ∀ a ∈ joinStep out k, 0 ≤ a.src ∧ a.src ≤ 500 := by
  have h1 : ∀ a ∈ out ++ [k], 0 ≤ a.src ∧ a.src ≤ 500 := by
    intro a ha
    simp only [List.mem_append, List.mem_singleton] at ha
    rcases ha with ha | rfl
    · exact ho a ha
    · exact hk
  unfold joinStep; split
  · split
    · intro a ha
      rcases List.mem_or_eq_of_mem_set ha with ha | rfl
      · exact ho a ha
      · exact ho (out[out.length - 1]) (List.getElem_mem (by omega))
    · exact h1
  · exact h1
theorem join_src {l : List Clip} (hl : ∀ k ∈ l, 0 ≤ k.src ∧ k.src ≤ 500) : ∀ a ∈ join l, 0 ≤ a.src ∧ a.src ≤ 500 := by
  have : ∀ (l : List Clip), (∀ k ∈ l, 0 ≤ k.src ∧ k.src ≤ 500) → ∀ (out : List Clip), (∀ a ∈ out, 0 ≤ a.src ∧ a.src ≤ 500) → ∀ a ∈ l.foldl joinStep out, 0 ≤ a.src ∧ a.src ≤ 500 := by
    intro l; induction l with
    | nil => intro _ out ho; exact ho
    | cons k l ih => intro hl out ho; exact ih (fun k hk => hl k (by simp [hk])) _ (joinStep_src ho (hl k (by simp)))
  exact this l hl [] (by simp)
/-! ### Lines -/
def namedL (c : Clip) : List UInt8 := if c.src = 0 then [66, 76] else 82 :: digs c.src.toNat
def frames (c : Clip) (at' : Int) : List Int := [c.inn, IntKind.i64.wrap (c.inn + c.len), at', IntKind.i64.wrap (at' + c.len)]
def lineL (r : Rate) (k : Nat) (c : Clip) (at' : Int) : List UInt8 :=
  if timeL r c.inn = [] ∨ timeL r (IntKind.i64.wrap (c.inn + c.len)) = [] ∨ timeL r at' = [] ∨ timeL r (IntKind.i64.wrap (at' + c.len)) = [] then [] else
    padL 3 (digs (k + 1)) ++ [32] ++ namedL c ++ [32, 67, 32] ++ timeL r c.inn ++ [32] ++ timeL r (IntKind.i64.wrap (c.inn + c.len)) ++ [32] ++ timeL r at' ++ [32] ++ timeL r (IntKind.i64.wrap (at' + c.len)) ++ [10]
theorem timeL_len (r : Rate) (f : Int) : (timeL r f).length ≤ 100 := by
  unfold timeL
  split
  · rename_i h
    split
    · simp
    · have hn := told_bd r f.toNat h.1 (by omega)
      have q1 : toldN r f.toNat / baseN r ≤ toldN r f.toNat := Nat.div_le_self _ _
      have q2 : toldN r f.toNat % baseN r ≤ toldN r f.toNat := Nat.mod_le _ _
      unfold timeN
      generalize toldN r f.toNat / baseN r = s at *
      have l1 := padL_le (k := 2) (n := s / 3600) (by omega) (by omega)
      have l2 := padL_le (k := 2) (n := s / 60 % 60) (by omega) (by omega)
      have l3 := padL_le (k := 2) (n := s % 60) (by omega) (by omega)
      have l4 := padL_le (k := if 100 < baseN r then 3 else 2) (n := toldN r f.toNat % baseN r) (by split <;> omega) (by omega)
      simp only [List.length_append, List.length_cons, List.length_nil]
      omega
  · simp
theorem namedL_len (c : Clip) (hs : 0 ≤ c.src ∧ c.src ≤ 500) : (namedL c).length ≤ 20 := by
  unfold namedL
  split
  · simp
  · have := digs_len19 (n := c.src.toNat) (by omega); simp; omega
theorem lineL_len (r : Rate) (k : Nat) (c : Clip) (at' : Int) (hs : 0 ≤ c.src ∧ c.src ≤ 500) (hk : k ≤ 1000000) : (lineL r k c at').length ≤ 1000 := by
  unfold lineL
  split
  · simp
  · have l1 := padL_le (k := 3) (n := k + 1) (by omega) (by omega)
    have l2 := namedL_len c hs
    have l3 := timeL_len r c.inn
    have l4 := timeL_len r (IntKind.i64.wrap (c.inn + c.len))
    have l5 := timeL_len r at'
    have l6 := timeL_len r (IntKind.i64.wrap (at' + c.len))
    simp only [List.length_append, List.length_cons, List.length_nil]
    omega
theorem named_ok (h : Heap) (c : Clip) (hs : 0 ≤ c.src ∧ c.src ≤ 500) : ACall Tryz.prog 61 [.agg (encClip c).toArray] h fun x h' => Ext h h' ∧ x = .string (bL (namedL c)) := by
  have B := Bx.new h (encClip c) []
  have eM := Ext.more h [encClip c]
  have gk := isGap_ok (h.more [encClip c]) c
  simp only [encClip] at B eM gk
  refine ACall.of Tryz.func61 s61 (of_decide_eq_true rfl) ?_
  simp (maxSteps := 4000000) (disch := omega) only [ah, am, Nat.reduceEqDiff, reduceCtorEq, Nat.reduceAdd, Nat.reduceLeDiff, Nat.reduceMul, Nat.reduceLT, if_true, if_false, true_and, and_true, and_self, Nat.reduceBEq, QOp.loads, boxO, bslO, buildO, cutL, fillV, putL, w61, v61, encClip, B.ld]
  refine stepC.of gk ?_
  rintro _ H1 ⟨e0, rfl⟩
  have e1 : Ext h H1 := by rw [e0]; exact eM.trans (Ext.more _ _)
  have B1 : Bx H1 h.size [.int .i64 c.src, .int .i64 c.inn, .int .i64 c.len] := by rw [e0]; exact B.ext (Ext.more _ _)
  unfold namedL
  by_cases c0 : c.src = 0
  · simp (maxSteps := 4000000) (disch := omega) only [ah, am, Nat.reduceEqDiff, reduceCtorEq, Nat.reduceAdd, Nat.reduceLeDiff, Nat.reduceMul, Nat.reduceLT, if_true, if_false, true_and, and_true, and_self, Nat.reduceBEq, QOp.loads, boxO, bslO, buildO, cutL, fillV, putL, w61, v61, decide_eq_true c0]
    exact ⟨e1, by rw [if_pos c0]; rfl⟩
  · simp (maxSteps := 4000000) (disch := omega) only [ah, am, Nat.reduceEqDiff, reduceCtorEq, Nat.reduceAdd, Nat.reduceLeDiff, Nat.reduceMul, Nat.reduceLT, if_true, if_false, true_and, and_true, and_self, Nat.reduceBEq, QOp.loads, boxO, bslO, buildO, cutL, fillV, putL, w61, v61, decide_eq_false c0, B1.ld]
    refine stepC.of (FormatInt_ok H1 c.src (by omega) (by omega)) ?_
    rintro _ Hx ⟨hx, rfl⟩; rw [hx]; clear hx Hx
    have ei : itoaB c.src = bL (digs c.src.toNat) := by
      have := itoa_nat c.src.toNat
      rw [show ((c.src.toNat : Nat) : Int) = c.src from by omega] at this; exact this
    have hl := digs_len19 (n := c.src.toNat) (by omega)
    have A : strB .add ⟨#[82]⟩ (bL (digs c.src.toNat)) = some (.string (bL (82 :: digs c.src.toNat))) := strB_addL [82] (digs c.src.toNat) (by simp; omega)
    rw [ei]
    simp (maxSteps := 4000000) (disch := omega) only [ah, am, Nat.reduceEqDiff, reduceCtorEq, Nat.reduceAdd, Nat.reduceLeDiff, Nat.reduceMul, Nat.reduceLT, if_true, if_false, true_and, and_true, and_self, Nat.reduceBEq, QOp.loads, boxO, bslO, buildO, cutL, fillV, putL, w61, v61, A]
    exact ⟨e1, by rw [if_neg c0]⟩
theorem join7 (a b d x y u v : List UInt8) : Go.Lib.join [a, b, d, x, y, u, v] [32] = a ++ [32] ++ b ++ [32] ++ d ++ [32] ++ x ++ [32] ++ y ++ [32] ++ u ++ [32] ++ v := by
  simp [Go.Lib.join, List.intercalate, List.intersperse]
theorem lineL_none {r : Rate} {k : Nat} {c : Clip} {at' f : Int} (hf : f ∈ frames c at') (h : timeL r f = []) : lineL r k c at' = [] := by
  unfold lineL
  refine if_pos ?_
  simp only [frames, List.mem_cons, List.not_mem_nil, or_false] at hf
  rcases hf with rfl | rfl | rfl | rfl
  · exact .inl h
  · exact .inr (.inl h)
  · exact .inr (.inr (.inl h))
  · exact .inr (.inr (.inr h))
theorem lineL_some {r : Rate} {k : Nat} {c : Clip} {at' : Int} (h : ∀ f ∈ frames c at', timeL r f ≠ []) :
    lineL r k c at' = Go.Lib.join ((([bL (padL 3 (digs (k + 1))), bL (namedL c), bL [67]] ++ (frames c at').map fun f => bL (timeL r f))).map (·.data.toList)) [32] ++ [10] := by
  have h1 := h c.inn (by simp [frames])
  have h2 := h (IntKind.i64.wrap (c.inn + c.len)) (by simp [frames])
  have h3 := h at' (by simp [frames])
  have h4 := h (IntKind.i64.wrap (at' + c.len)) (by simp [frames])
  unfold lineL
  rw [if_neg (by rintro (q | q | q | q) <;> contradiction)]
  show _ = Go.Lib.join [padL 3 (digs (k + 1)), namedL c, [67], timeL r c.inn, timeL r (IntKind.i64.wrap (c.inn + c.len)), timeL r at', timeL r (IntKind.i64.wrap (at' + c.len))] [32] ++ [10]
  rw [join7]
  simp
theorem lineOf_ok (h : Heap) (r : Rate) (k : Nat) (c : Clip) (at' : Int) (hs : 0 ≤ c.src ∧ c.src ≤ 500) (hk : k ≤ 1000000) :
    ACall Tryz.prog 32 [.agg (encRate r).toArray, .int .i64 (k : Int), .agg (encClip c).toArray, .int .i64 at'] h fun x h' => Ext h h' ∧ x = .string (bL (lineL r k c at')) := by
  have B0 := Bx.new h [.int .i64 r.num, .int .i64 r.den, .bool r.drop] [[.int .i64 c.src, .int .i64 c.inn, .int .i64 c.len]]
  have eM := Ext.more h [[.int .i64 r.num, .int .i64 r.den, .bool r.drop], [.int .i64 c.src, .int .i64 c.inn, .int .i64 c.len]]
  have C0 : Bx (h.more [[.int .i64 r.num, .int .i64 r.den, .bool r.drop], [.int .i64 c.src, .int .i64 c.inn, .int .i64 c.len]]) (h.size + 1) [.int .i64 c.src, .int .i64 c.inn, .int .i64 c.len] := by
    have := Bx.new (h.more [[.int .i64 r.num, .int .i64 r.den, .bool r.drop]]) [.int .i64 c.src, .int .i64 c.inn, .int .i64 c.len] []
    rw [more_more, size_more] at this; exact this
  have w1 : IntKind.i64.wrap ((k : Int) + 1) = ((k + 1 : Nat) : Int) := i64e (by omega) (by omega)
  refine ACall.of Tryz.func32 s32 (of_decide_eq_true rfl) ?_
  simp (maxSteps := 4000000) (disch := omega) only [ah, am, Nat.reduceEqDiff, reduceCtorEq, Nat.reduceAdd, Nat.reduceLeDiff, Nat.reduceMul, Nat.reduceLT, if_true, if_false, true_and, and_true, and_self, Nat.reduceBEq, QOp.loads, boxO, bslO, buildO, cutL, fillV, putL, w32, v32, encRate, encClip, w1, C0.ld]
  obtain ⟨K0, hK0⟩ : ∃ K0, K0 = h.more [[.int .i64 r.num, .int .i64 r.den, .bool r.drop], [.int .i64 c.src, .int .i64 c.inn, .int .i64 c.len]] := ⟨_, rfl⟩
  rw [← hK0] at B0 C0 eM ⊢
  have pk := padded_ok K0 (k + 1) 3 (by omega) (by omega)
  rw [show (((3 : Nat) : Int)) = 3 from rfl] at pk
  refine stepC.of pk ?_
  rintro _ Hx ⟨hx, rfl⟩; rw [hx]; clear hx Hx
  have nk := named_ok K0 c hs
  simp only [encClip] at nk
  simp (maxSteps := 4000000) (disch := omega) only [ah, am, Nat.reduceEqDiff, reduceCtorEq, Nat.reduceAdd, Nat.reduceLeDiff, Nat.reduceMul, Nat.reduceLT, if_true, if_false, true_and, and_true, and_self, Nat.reduceBEq, QOp.loads, boxO, bslO, buildO, cutL, fillV, putL, w32, v32, rechk_cons, rechk_end, chkV_some, chkV_false, C0.ld]
  refine stepC.of nk ?_
  rintro _ H1 ⟨e1, rfl⟩
  have B1 := B0.ext e1
  have C1 := C0.ext e1
  have E1 := eM.trans e1
  have F0 : Fresh H1 (H1.more [[.string (bL (padL 3 (digs (k + 1)))), .string (bL (namedL c)), .string ⟨#[67]⟩]]) encS 1 (.slice (some ⟨H1.size, 0, none⟩) 3 1) [bL (padL 3 (digs (k + 1))), bL (namedL c), bL [67]] :=
    Fresh.new H1 [bL (padL 3 (digs (k + 1))), bL (namedL c), bL [67]] encS_len (by omega)
  have C2 := C1.ext F0.1
  simp (maxSteps := 4000000) (disch := omega) only [ah, am, Nat.reduceEqDiff, reduceCtorEq, Nat.reduceAdd, Nat.reduceLeDiff, Nat.reduceMul, Nat.reduceLT, if_true, if_false, true_and, and_true, and_self, Nat.reduceBEq, QOp.loads, boxO, bslO, buildO, cutL, fillV, putL, w32, v32, C2.ld]
  obtain ⟨K1, hK1⟩ : ∃ K1, K1 = H1.more [[.string (bL (padL 3 (digs (k + 1)))), .string (bL (namedL c)), .string ⟨#[67]⟩]] := ⟨_, rfl⟩
  obtain ⟨fs, hfs⟩ : ∃ fs, fs = frames c at' := ⟨_, rfl⟩
  have hf4 : fs.length = 4 := by rw [hfs]; rfl
  rw [← hK1] at F0 C2
  have FK : Fk [] H1 _ encS 1 _ ([bL (padL 3 (digs (k + 1))), bL (namedL c), bL [67]] ++ (fs.take 0).map fun f => bL (timeL r f)) ([] ++ boxesAt K1.size [fs.map (Value.int .i64)]) := (Fk.of (X := []) F0).more [fs.map (Value.int .i64)]
  simp only [boxesAt, List.nil_append] at FK
  have hK2 : K1.more [fs.map (Value.int .i64)] = H1.more [[.string (bL (padL 3 (digs (k + 1)))), .string (bL (namedL c)), .string ⟨#[67]⟩], [.int .i64 c.inn, .int .i64 (IntKind.i64.wrap (c.inn + c.len)), .int .i64 at', .int .i64 (IntKind.i64.wrap (at' + c.len))]] := by
    rw [hK1, hfs, more_more]; rfl
  have hq : K1.size = H1.size + 1 := by rw [hK1, size_more]; rfl
  rw [hK2, hq] at FK
  refine SW_loop_up (fun j E K => ∃ w, Fk [] H1 K encS 1 w ([bL (padL 3 (digs (k + 1))), bL (namedL c), bL [67]] ++ (fs.take j).map fun f => bL (timeL r f)) [(H1.size + 1, fs.map (Value.int .i64))] ∧ (∀ f ∈ fs.take j, timeL r f ≠ []) ∧
    E = [(4, .pointer (some ⟨h.size, 0, none⟩)), (9, w), (31, .slice (some ⟨H1.size + 1, 0, none⟩) 4 1), (32, .int .i64 ((4 : Nat) : Int)), (33, .int .i64 (j : Int))]) 4 0 (by omega) ⟨_, FK, by simp, rfl⟩ ?_
  clear FK hK2 hK1 F0
  rintro j E K hj ⟨w, F, A, rfl⟩
  have wj : IntKind.i64.wrap ((j : Int) + 1) = ((j + 1 : Nat) : Int) := i64e (by omega) (by omega)
  have eK := F.ext.ext
  simp (maxSteps := 4000000) (disch := omega) only [ah, am, Nat.reduceEqDiff, reduceCtorEq, Nat.reduceAdd, Nat.reduceLeDiff, Nat.reduceMul, Nat.reduceLT, if_true, if_false, true_and, and_true, and_self, Nat.reduceBEq, QOp.loads, boxO, bslO, buildO, cutL, fillV, putL, w32, v32]
  refine stepI.split (fun hp => ?_) (fun hp => ?_)
  · have hj4 : j < fs.length := by omega
    have IA : iaV 1 (.slice (some ⟨H1.size + 1, 0, none⟩) 4 1) (.int .i64 (j : Int)) = some (.pointer (some ⟨H1.size + 1, j, none⟩)) := by
      rw [iaV_slice _ _ _ _ _ _ (by omega) (by omega)]; simp
    have LD : ldV K (.pointer (some ⟨H1.size + 1, j, none⟩)) = some (.int .i64 fs[j]) := by
      rw [(F.ld (i := H1.size + 1) (cs := fs.map (Value.int .i64)) (by simp)).1, List.getElem?_map, List.getElem?_eq_getElem hj4]; rfl
    have tk := TimeText_ok K r fs[j]
    simp only [encRate] at tk
    simp (maxSteps := 4000000) (disch := omega) only [ah, am, Nat.reduceEqDiff, reduceCtorEq, Nat.reduceAdd, Nat.reduceLeDiff, Nat.reduceMul, Nat.reduceLT, if_true, if_false, true_and, and_true, and_self, Nat.reduceBEq, QOp.loads, boxO, bslO, buildO, cutL, fillV, putL, w32, v32, IA, LD, (B1.ext eK).ld]
    refine stepC.of tk ?_
    rintro _ K2 ⟨e2, rfl⟩
    have F2 := F.step e2
    have hin : fs[j] ∈ frames c at' := by rw [← hfs]; exact List.getElem_mem hj4
    by_cases ct : timeL r fs[j] = []
    · simp (maxSteps := 4000000) (disch := omega) only [ah, am, Nat.reduceEqDiff, reduceCtorEq, Nat.reduceAdd, Nat.reduceLeDiff, Nat.reduceMul, Nat.reduceLT, if_true, if_false, true_and, and_true, and_self, Nat.reduceBEq, QOp.loads, boxO, bslO, buildO, cutL, fillV, putL, w32, v32, strB_nil, decide_eq_true ct]
      exact ⟨E1.trans F2.ext.ext, by rw [lineL_none hin ct]; rfl⟩
    · obtain ⟨w2, K3, ap, F3⟩ := F2.app1 [] (bL (timeL r fs[j])) (bytes := 16) (by simp; omega)
      simp only [boxesAt, List.nil_append, List.append_nil, List.length_nil, Nat.add_zero, encS] at ap F3
      simp (maxSteps := 4000000) (disch := omega) only [ah, am, Nat.reduceEqDiff, reduceCtorEq, Nat.reduceAdd, Nat.reduceLeDiff, Nat.reduceMul, Nat.reduceLT, if_true, if_false, true_and, and_true, and_self, Nat.reduceBEq, QOp.loads, boxO, bslO, buildO, cutL, fillV, putL, w32, v32, strB_nil, decide_eq_false ct, ap, wj]
      refine ⟨by omega, w2, ?_, ?_, rfl⟩
      · rw [List.take_succ_eq_append_getElem hj4, List.map_append]
        simp only [List.cons_append, List.nil_append, List.append_assoc, List.map_cons, List.map_nil] at F3 ⊢
        exact F3
      · intro f hf
        rw [List.take_succ_eq_append_getElem hj4] at hf
        rcases List.mem_append.mp hf with hf | hf
        · exact A f hf
        · rw [List.mem_singleton] at hf; rw [hf]; exact ct
  · have hj4 : j = 4 := by omega
    subst hj4
    rw [List.take_of_length_le (by omega)] at F A
    rw [hfs] at F A
    have hL := lineL_some (k := k) A
    have hlen := lineL_len r k c at' hs hk
    rw [hL, List.length_append] at hlen
    simp (maxSteps := 4000000) (disch := omega) only [ah, am, Nat.reduceEqDiff, reduceCtorEq, Nat.reduceAdd, Nat.reduceLeDiff, Nat.reduceMul, Nat.reduceLT, if_true, if_false, true_and, and_true, and_self, Nat.reduceBEq, QOp.loads, boxO, bslO, buildO, cutL, fillV, putL, w32, v32]
    refine stepC.of (Join_ok K w _ ⟨#[32]⟩ F.slt (by simp) (by simp [frames]) (by rw [show (⟨#[32]⟩ : ByteArray).data.toList = [32] from rfl]; omega)) ?_
    rintro _ Hx ⟨hx, rfl⟩; rw [hx]; clear hx Hx
    have A2 := strB_addL (Go.Lib.join ((([bL (padL 3 (digs (k + 1))), bL (namedL c), bL [67]] ++ (frames c at').map fun f => bL (timeL r f))).map (·.data.toList)) [32]) [10] (by simp at hlen ⊢; omega)
    rw [hL]
    generalize Go.Lib.join ((([bL (padL 3 (digs (k + 1))), bL (namedL c), bL [67]] ++ (frames c at').map fun f => bL (timeL r f))).map (·.data.toList)) [32] = J at *
    have A3 : strB .add ⟨J.toArray⟩ ⟨#[10]⟩ = some (.string (bL (J ++ [10]))) := A2
    simp (maxSteps := 4000000) (disch := omega) only [ah, am, Nat.reduceEqDiff, reduceCtorEq, Nat.reduceAdd, Nat.reduceLeDiff, Nat.reduceMul, Nat.reduceLT, if_true, if_false, true_and, and_true, and_self, Nat.reduceBEq, QOp.loads, boxO, bslO, buildO, cutL, fillV, putL, w32, v32, A3]
    exact E1.trans eK
end Go.Proofs.YtgmimgmdbpcecaaGreatDoor
end

section
namespace Go.Proofs.YtgmimgmdbpcecaaGreatDoor
open Go Go.Ah
set_option linter.unusedSimpArgs false
set_option linter.unusedVariables false
set_option maxRecDepth 10000
set_option maxHeartbeats 4000000
/-! 14 loop.example/g00066/impl.ShowList: parameters 2, live [0, 1], slots [0:r, 1:track, 2:r, 3:track, 5:at, 6:out, 7:k, 8:c, 9:line] -/
def c14_0 : List SOper := [⟨some 2, .a (.box (.t 0)), none⟩, ⟨some 4, .q (.mv (.c (.string ⟨#[]⟩))), none⟩]
def c14_1 : List SOper := [⟨some 10, .q (.ldn 3 (.t 2)), none⟩, ⟨some 11, .e (.call 21 [(.t 10)]), none⟩, ⟨some 12, .q (.not (.t 11)), none⟩, ⟨some 13, .q (.mv (.t 12)), none⟩, ⟨some 14, .q (.mv (.t 1)), some (13, false)⟩, ⟨some 15, .e (.call 30 [(.t 14)]), some (13, false)⟩, ⟨some 16, .q (.not (.t 15)), some (13, false)⟩, ⟨some 17, .q (.pick (.t 13) (.c (.bool true)) (.t 16)), none⟩]
def c14_2 : List SOper := [⟨some 4, .q (.mv (.c (.string ⟨#[]⟩))), none⟩]
def c14_3 : SCode := .seq (.region c14_2 [4]) .ret
def c14_4 : SCode := .cond (.t 17) c14_3 .skip
def c14_5 : SCode := .seq (.region c14_1 [1, 2, 17]) c14_4
def c14_6 : List SOper := [⟨some 5, .q (.mv (.c (.int .i64 0))), none⟩, ⟨some 6, .q (.mv (.c (.string ⟨#[]⟩))), none⟩]
def c14_7 : List SOper := [⟨some 18, .q (.mv (.t 1)), none⟩, ⟨some 19, .e (.call 31 [(.t 18)]), none⟩, ⟨some 20, .q (.len (.t 19)), none⟩, ⟨some 21, .q (.mv (.c (.int .i64 0))), none⟩]
def c14_8 : List SOper := [⟨some 22, .q (.bin .lss (.t 21) (.t 20)), none⟩]
def c14_9 : SCode := .cond (.t 22) .skip (.exit 0)
def c14_10 : List SOper := [⟨some 23, .q (.mv (.t 21)), none⟩, ⟨some 24, .q (.ia 3 (.t 19) (.t 21)), none⟩, ⟨some 25, .q (.ldn 3 (.t 24)), none⟩, ⟨some 8, .a (.new [(.int .i64 0), (.int .i64 0), (.int .i64 0)]), none⟩, ⟨some 7, .q (.mv (.t 23)), none⟩, ⟨none, .e (.st 3 (.t 8) (.t 25)), none⟩]
def c14_11 : List SOper := [⟨some 26, .q (.ldn 3 (.t 2)), none⟩, ⟨some 27, .q (.mv (.t 7)), none⟩, ⟨some 28, .q (.ldn 3 (.t 8)), none⟩, ⟨some 29, .q (.mv (.t 5)), none⟩, ⟨some 30, .e (.call 32 [(.t 26), (.t 27), (.t 28), (.t 29)]), none⟩, ⟨some 9, .q (.mv (.t 30)), none⟩]
def c14_12 : List SOper := [⟨some 31, .q (.mv (.t 9)), none⟩, ⟨some 32, .q (.bin .eql (.t 31) (.c (.string ⟨#[]⟩))), none⟩]
def c14_13 : List SOper := [⟨some 4, .q (.mv (.c (.string ⟨#[]⟩))), none⟩]
def c14_14 : SCode := .seq (.region c14_13 [4]) .ret
def c14_15 : SCode := .cond (.t 32) c14_14 .skip
def c14_16 : SCode := .seq (.region c14_12 [2, 5, 6, 8, 9, 19, 20, 21, 32]) c14_15
def c14_17 : List SOper := [⟨some 33, .q (.mv (.t 6)), none⟩, ⟨some 34, .q (.mv (.t 9)), none⟩, ⟨some 35, .q (.bin .add (.t 33) (.t 34)), none⟩, ⟨some 36, .q (.mv (.t 5)), none⟩, ⟨some 37, .q (.fa 2 (.t 8)), none⟩, ⟨some 38, .q (.ld (.t 37)), none⟩, ⟨some 39, .q (.bin .add (.t 36) (.t 38)), none⟩, ⟨some 6, .q (.mv (.t 35)), none⟩, ⟨some 5, .q (.mv (.t 39)), none⟩]
def c14_18 : SCode := .seq c14_16 (.region c14_17 [2, 5, 6, 19, 20, 21])
def c14_19 : SCode := .seq (.region c14_11 [2, 5, 6, 8, 9, 19, 20, 21]) c14_18
def c14_20 : SCode := .seq (.region c14_10 [2, 5, 6, 7, 8, 19, 20, 21]) c14_19
def c14_21 : SCode := .block 1 c14_20
def c14_22 : List SOper := [⟨some 40, .q (.bin .add (.t 21) (.c (.int .i64 1))), none⟩, ⟨some 21, .q (.mv (.t 40)), none⟩]
def c14_23 : SCode := .seq c14_21 (.region c14_22 [2, 5, 6, 19, 20, 21])
def c14_24 : SCode := .seq c14_9 c14_23
def c14_25 : SCode := .seq (.region c14_8 [2, 5, 6, 19, 20, 21, 22]) c14_24
def c14_26 : SCode := .loop c14_25
def c14_27 : SCode := .block 0 c14_26
def c14_28 : SCode := .seq (.region c14_7 [2, 5, 6, 19, 20, 21]) c14_27
def c14_29 : List SOper := [⟨some 41, .q (.mv (.t 6)), none⟩, ⟨some 4, .q (.mv (.t 41)), none⟩]
def c14_30 : SCode := .seq (.region c14_29 [4]) .ret
def c14_31 : SCode := .seq c14_28 c14_30
def c14_32 : SCode := .seq (.region c14_6 [1, 2, 5, 6]) c14_31
def c14_33 : SCode := .seq c14_5 c14_32
def c14_34 : SCode := .seq (.region c14_0 [1, 2]) c14_33
def c14 : SCode := c14_34
theorem w14 : type_of% (And.intro (uR Tryz.prog c14_0.eq_1) (And.intro (uR Tryz.prog c14_1.eq_1) (And.intro (uR Tryz.prog c14_2.eq_1) (And.intro (uC Tryz.prog c14_3.eq_1) (And.intro (uC Tryz.prog c14_4.eq_1) (And.intro (uC Tryz.prog c14_5.eq_1) (And.intro (uR Tryz.prog c14_6.eq_1) (And.intro (uR Tryz.prog c14_7.eq_1) (And.intro (uR Tryz.prog c14_8.eq_1) (And.intro (uC Tryz.prog c14_9.eq_1) (And.intro (uR Tryz.prog c14_10.eq_1) (And.intro (uR Tryz.prog c14_11.eq_1) (And.intro (uR Tryz.prog c14_12.eq_1) (And.intro (uR Tryz.prog c14_13.eq_1) (And.intro (uC Tryz.prog c14_14.eq_1) (And.intro (uC Tryz.prog c14_15.eq_1) (And.intro (uC Tryz.prog c14_16.eq_1) (And.intro (uR Tryz.prog c14_17.eq_1) (And.intro (uC Tryz.prog c14_18.eq_1) (And.intro (uC Tryz.prog c14_19.eq_1) (And.intro (uC Tryz.prog c14_20.eq_1) (And.intro (uC Tryz.prog c14_21.eq_1) (And.intro (uR Tryz.prog c14_22.eq_1) (And.intro (uC Tryz.prog c14_23.eq_1) (And.intro (uC Tryz.prog c14_24.eq_1) (And.intro (uC Tryz.prog c14_25.eq_1) (And.intro (uC Tryz.prog c14_26.eq_1) (And.intro (uC Tryz.prog c14_27.eq_1) (And.intro (uC Tryz.prog c14_28.eq_1) (And.intro (uR Tryz.prog c14_29.eq_1) (And.intro (uC Tryz.prog c14_30.eq_1) (And.intro (uC Tryz.prog c14_31.eq_1) (And.intro (uC Tryz.prog c14_32.eq_1) (And.intro (uC Tryz.prog c14_33.eq_1) (And.intro (uC Tryz.prog c14_34.eq_1) (uC Tryz.prog c14.eq_1)))))))))))))))))))))))))))))))))))) := (And.intro (uR Tryz.prog c14_0.eq_1) (And.intro (uR Tryz.prog c14_1.eq_1) (And.intro (uR Tryz.prog c14_2.eq_1) (And.intro (uC Tryz.prog c14_3.eq_1) (And.intro (uC Tryz.prog c14_4.eq_1) (And.intro (uC Tryz.prog c14_5.eq_1) (And.intro (uR Tryz.prog c14_6.eq_1) (And.intro (uR Tryz.prog c14_7.eq_1) (And.intro (uR Tryz.prog c14_8.eq_1) (And.intro (uC Tryz.prog c14_9.eq_1) (And.intro (uR Tryz.prog c14_10.eq_1) (And.intro (uR Tryz.prog c14_11.eq_1) (And.intro (uR Tryz.prog c14_12.eq_1) (And.intro (uR Tryz.prog c14_13.eq_1) (And.intro (uC Tryz.prog c14_14.eq_1) (And.intro (uC Tryz.prog c14_15.eq_1) (And.intro (uC Tryz.prog c14_16.eq_1) (And.intro (uR Tryz.prog c14_17.eq_1) (And.intro (uC Tryz.prog c14_18.eq_1) (And.intro (uC Tryz.prog c14_19.eq_1) (And.intro (uC Tryz.prog c14_20.eq_1) (And.intro (uC Tryz.prog c14_21.eq_1) (And.intro (uR Tryz.prog c14_22.eq_1) (And.intro (uC Tryz.prog c14_23.eq_1) (And.intro (uC Tryz.prog c14_24.eq_1) (And.intro (uC Tryz.prog c14_25.eq_1) (And.intro (uC Tryz.prog c14_26.eq_1) (And.intro (uC Tryz.prog c14_27.eq_1) (And.intro (uC Tryz.prog c14_28.eq_1) (And.intro (uR Tryz.prog c14_29.eq_1) (And.intro (uC Tryz.prog c14_30.eq_1) (And.intro (uC Tryz.prog c14_31.eq_1) (And.intro (uC Tryz.prog c14_32.eq_1) (And.intro (uC Tryz.prog c14_33.eq_1) (And.intro (uC Tryz.prog c14_34.eq_1) (uC Tryz.prog c14.eq_1))))))))))))))))))))))))))))))))))))
def v14 : List RV := [.t 4]
theorem s14 : slimF Tryz.prog Tryz.f14 = some (c14.bare, v14) := by kernel_rfl

def atN (L : List Clip) (i : Nat) : Int := (L.take i).foldl (fun a c => IntKind.i64.wrap (a + c.len)) 0
theorem atN_succ {L : List Clip} {i : Nat} (hi : i < L.length) : atN L (i + 1) = IntKind.i64.wrap (atN L i + L[i].len) := by
  unfold atN; rw [List.take_succ_eq_append_getElem hi, List.foldl_append]; rfl
def lnN (r : Rate) (L : List Clip) (j : Nat) : List UInt8 := lineL r j (L.getD j zClip) (atN L j)
theorem lnN_eq {r : Rate} {L : List Clip} {j : Nat} (hj : j < L.length) : lnN r L j = lineL r j L[j] (atN L j) := by
  unfold lnN; rw [List.getD, List.getElem?_eq_getElem hj]; rfl
def outN (r : Rate) (L : List Clip) (i : Nat) : List UInt8 := (List.range i).flatMap (lnN r L)
theorem outN_succ (r : Rate) (L : List Clip) (i : Nat) : outN r L (i + 1) = outN r L i ++ lnN r L i := by
  unfold outN; rw [List.range_succ, List.flatMap_append]; simp
theorem outN_len (r : Rate) (L : List Clip) (hL : ∀ a ∈ L, 0 ≤ a.src ∧ a.src ≤ 500) (hn : L.length ≤ 1000000) : ∀ i, i ≤ L.length → (outN r L i).length ≤ 1000 * i := by
  intro i
  induction i with
  | zero => intro _; simp [outN]
  | succ i ih =>
    intro hi
    have := ih (by omega)
    have h2 := lineL_len r i L[i] (atN L i) (hL _ (List.getElem_mem (by omega))) (by omega)
    rw [outN_succ, List.length_append, lnN_eq (by omega)]; omega
noncomputable def showL (r : Rate) (l : List Clip) : List UInt8 := by
  classical exact if rateOk r ∧ trackOk l then (if ∀ j, j < (join l).length → lnN r (join l) j ≠ [] then outN r (join l) (join l).length else []) else []
theorem showL_bad {r : Rate} {l : List Clip} (h : ¬ (rateOk r ∧ trackOk l)) : showL r l = [] := by unfold showL; exact if_neg h
theorem showL_none {r : Rate} {l : List Clip} (h : rateOk r ∧ trackOk l) {j : Nat} (hj : j < (join l).length) (e : lnN r (join l) j = []) : showL r l = [] := by
  unfold showL; rw [if_pos h, if_neg fun q => q j hj e]
theorem showL_some {r : Rate} {l : List Clip} (h : rateOk r ∧ trackOk l) (e : ∀ j, j < (join l).length → lnN r (join l) j ≠ []) : showL r l = outN r (join l) (join l).length := by
  unfold showL; rw [if_pos h, if_pos e]
theorem ShowList_ok (h : Heap) (v : Value) (r : Rate) (l : List Clip) (s : SlT h encClip 3 v l) (hl : l.length ≤ 1100000) :
    ACall Tryz.prog 14 [.agg (encRate r).toArray, v] h fun x h' => Ext h h' ∧ x = .string (bL (showL r l)) := by
  have B := Bx.new h (encRate r) []
  have eM := Ext.more h [encRate r]
  have rk := RateOk_ok (h.more [encRate r]) r
  simp only [encRate] at B eM rk
  refine ACall.of Tryz.func14 s14 (of_decide_eq_true rfl) ?_
  simp (maxSteps := 4000000) (disch := omega) only [ah, am, Nat.reduceEqDiff, reduceCtorEq, Nat.reduceAdd, Nat.reduceLeDiff, Nat.reduceMul, Nat.reduceLT, if_true, if_false, true_and, and_true, and_self, Nat.reduceBEq, QOp.loads, boxO, bslO, buildO, cutL, fillV, putL, w14, v14, encRate, B.ld]
  refine stepC.of rk ?_
  rintro _ H1 ⟨e1, rfl⟩
  have E1 := eM.trans e1
  by_cases hr : rateOk r
  rotate_left
  · simp (maxSteps := 4000000) (disch := omega) only [ah, am, Nat.reduceEqDiff, reduceCtorEq, Nat.reduceAdd, Nat.reduceLeDiff, Nat.reduceMul, Nat.reduceLT, if_true, if_false, true_and, and_true, and_self, Nat.reduceBEq, QOp.loads, boxO, bslO, buildO, cutL, fillV, putL, w14, v14, decide_eq_false hr]
    exact ⟨E1, by rw [showL_bad fun q => hr q.1]; rfl⟩
  simp (maxSteps := 4000000) (disch := omega) only [ah, am, Nat.reduceEqDiff, reduceCtorEq, Nat.reduceAdd, Nat.reduceLeDiff, Nat.reduceMul, Nat.reduceLT, if_true, if_false, true_and, and_true, and_self, Nat.reduceBEq, QOp.loads, boxO, bslO, buildO, cutL, fillV, putL, w14, v14, decide_eq_true hr]
  refine stepC.of (implTrackOk_ok H1 v l (s.ext E1) hl) ?_
  rintro _ H2 ⟨e2, rfl⟩
  have E2 := E1.trans e2
  by_cases ht : trackOk l
  rotate_left
  · simp (maxSteps := 4000000) (disch := omega) only [ah, am, Nat.reduceEqDiff, reduceCtorEq, Nat.reduceAdd, Nat.reduceLeDiff, Nat.reduceMul, Nat.reduceLT, if_true, if_false, true_and, and_true, and_self, Nat.reduceBEq, QOp.loads, boxO, bslO, buildO, cutL, fillV, putL, w14, v14, decide_eq_false ht]
    exact ⟨E2, by rw [showL_bad fun q => ht q.2]; rfl⟩
  have OK : rateOk r ∧ trackOk l := ⟨hr, ht⟩
  have hck : ∀ k ∈ l, clipOk k := ht.2.1
  have hjl := join_length l
  have hl300 : l.length ≤ 300 := ht.1
  have hjs : ∀ a ∈ join l, 0 ≤ a.src ∧ a.src ≤ 500 := join_src fun k hk => by have := hck k hk; unfold clipOk at this; omega
  simp (maxSteps := 4000000) (disch := omega) only [ah, am, Nat.reduceEqDiff, reduceCtorEq, Nat.reduceAdd, Nat.reduceLeDiff, Nat.reduceMul, Nat.reduceLT, if_true, if_false, true_and, and_true, and_self, Nat.reduceBEq, QOp.loads, boxO, bslO, buildO, cutL, fillV, putL, w14, v14, decide_eq_true ht]
  refine stepC.of (joined_ok H2 v l (s.ext E2) hl fun k hk => (hck k hk).in) ?_
  intro jv H3 F3
  have sj := F3.slt
  have E3 := E2.trans F3.1
  have B3 := ((B.ext e1).ext e2).ext F3.1
  generalize hJ : join l = J at sj hjs hjl
  have RJ := sj.rulesN
  simp (maxSteps := 4000000) (disch := omega) only [ah, am, Nat.reduceEqDiff, reduceCtorEq, Nat.reduceAdd, Nat.reduceLeDiff, Nat.reduceMul, Nat.reduceLT, if_true, if_false, true_and, and_true, and_self, Nat.reduceBEq, QOp.loads, boxO, bslO, buildO, cutL, fillV, putL, w14, v14, RJ.1]
  refine SW_loop_up (fun i E K => Ext H3 K ∧ (∀ j, j < i → lnN r J j ≠ []) ∧ E = [(2, .pointer (some ⟨h.size, 0, none⟩)), (5, .int .i64 (atN J i)), (6, .string (bL (outN r J i))), (19, jv), (20, .int .i64 (J.length : Int)), (21, .int .i64 (i : Int))]) J.length 0 (by omega) ⟨Ext.refl _, fun j hj => by omega, rfl⟩ ?_
  rintro i E K hi ⟨eK, A, rfl⟩
  have wi : IntKind.i64.wrap ((i : Int) + 1) = ((i + 1 : Nat) : Int) := i64e (by omega) (by omega)
  have RK := (sj.ext eK).rulesN
  simp (maxSteps := 4000000) (disch := omega) only [ah, am, Nat.reduceEqDiff, reduceCtorEq, Nat.reduceAdd, Nat.reduceLeDiff, Nat.reduceMul, Nat.reduceLT, if_true, if_false, true_and, and_true, and_self, Nat.reduceBEq, QOp.loads, boxO, bslO, buildO, cutL, fillV, putL, w14, v14]
  refine stepI.split (fun hp => ?_) (fun hp => ?_)
  rotate_left
  · have hii : i = J.length := by omega
    subst hii
    simp (maxSteps := 4000000) (disch := omega) only [ah, am, Nat.reduceEqDiff, reduceCtorEq, Nat.reduceAdd, Nat.reduceLeDiff, Nat.reduceMul, Nat.reduceLT, if_true, if_false, true_and, and_true, and_self, Nat.reduceBEq, QOp.loads, boxO, bslO, buildO, cutL, fillV, putL, w14, v14]
    refine ⟨E3.trans eK, ?_⟩
    rw [showL_some OK (by rw [hJ]; exact A), hJ]
  have hi2 : i < J.length := by omega
  have IA := RK.2.1 .i64 i hi2
  have LN : ldnV K 3 (ptrAt jv (i * 3)) = some (.agg (encClip J[i]).toArray) := RK.2.2.2.2.2 i hi2
  have hsrc := hjs _ (List.getElem_mem hi2)
  have eN := Ext.more K [[.int .i64 J[i].src, .int .i64 J[i].inn, .int .i64 J[i].len]]
  have BN := Bx.new K [.int .i64 J[i].src, .int .i64 J[i].inn, .int .i64 J[i].len] []
  have BR := (B3.ext eK).ext eN
  have lk := lineOf_ok (K.more [[.int .i64 J[i].src, .int .i64 J[i].inn, .int .i64 J[i].len]]) r i J[i] (atN J i) hsrc (by omega)
  rw [← lnN_eq hi2] at lk
  simp only [encRate, encClip] at lk
  simp (maxSteps := 4000000) (disch := omega) only [ah, am, Nat.reduceEqDiff, reduceCtorEq, Nat.reduceAdd, Nat.reduceLeDiff, Nat.reduceMul, Nat.reduceLT, if_true, if_false, true_and, and_true, and_self, Nat.reduceBEq, QOp.loads, boxO, bslO, buildO, cutL, fillV, putL, w14, v14, IA, LN, encClip, BR.ld]
  refine stepC.of lk ?_
  rintro _ K2 ⟨e4, rfl⟩
  have BN2 := BN.ext e4
  by_cases cl : lnN r J i = []
  · simp (maxSteps := 4000000) (disch := omega) only [ah, am, Nat.reduceEqDiff, reduceCtorEq, Nat.reduceAdd, Nat.reduceLeDiff, Nat.reduceMul, Nat.reduceLT, if_true, if_false, true_and, and_true, and_self, Nat.reduceBEq, QOp.loads, boxO, bslO, buildO, cutL, fillV, putL, w14, v14, strB_nil, decide_eq_true cl]
    exact ⟨((E3.trans eK).trans eN).trans e4, by rw [showL_none OK (j := i) (by rw [hJ]; exact hi2) (by rw [hJ]; exact cl)]; rfl⟩
  · have hol := outN_len r J hjs (by omega) i (by omega)
    have hll := lineL_len r i J[i] (atN J i) hsrc (by omega)
    rw [← lnN_eq hi2] at hll
    have AD := strB_addL (outN r J i) (lnN r J i) (by omega)
    rw [← outN_succ] at AD
    simp (maxSteps := 4000000) (disch := omega) only [ah, am, Nat.reduceEqDiff, reduceCtorEq, Nat.reduceAdd, Nat.reduceLeDiff, Nat.reduceMul, Nat.reduceLT, if_true, if_false, true_and, and_true, and_self, Nat.reduceBEq, QOp.loads, boxO, bslO, buildO, cutL, fillV, putL, w14, v14, strB_nil, decide_eq_false cl, AD, BN2.ld, ← atN_succ hi2, wi]
    refine ⟨hi2, (eK.trans eN).trans e4, fun j hj => ?_⟩
    by_cases e : j = i
    · rw [e]; exact cl
    · exact A j (by omega)
end Go.Proofs.YtgmimgmdbpcecaaGreatDoor
end

section
namespace Go.Proofs.YtgmimgmdbpcecaaGreatDoor
open Go Go.Ah
set_option linter.unusedSimpArgs false
set_option linter.unusedVariables false
set_option maxRecDepth 10000
set_option maxHeartbeats 4000000
/-! ### Rows of whole numbers, and what lies in other rows -/
def encI (n : Int) : List Value := [.int .i64 n]
theorem encI_len (n : Int) : (encI n).length = 1 := rfl
def encB (b : Bool) : List Value := [.bool b]
theorem encB_len (b : Bool) : (encB b).length = 1 := rfl
section
variable {α : Type} {enc : α → List Value} {sz : Nat} {h h' H : Heap} {v : Value} {l : List α}
theorem oneB_slT (s : SlT h enc sz v l) (L : List Value) : oneB (v :: L) = oneB L := by
  rcases s.sl with ⟨rfl, _⟩ | ⟨rfl, _⟩ | ⟨i, o, n, ob, rfl, _⟩ <;> rfl
theorem cells_slT (s : SlT h enc sz v l) : v.cells = #[v] := by
  rcases s.sl with ⟨rfl, _⟩ | ⟨rfl, _⟩ | ⟨i, o, n, ob, rfl, _⟩ <;> rfl
/-- A new slice made behind new boxes. -/
theorem Fk.ofMore {L : List (List Value)} (F : Fresh (h.more L) H enc sz v l) : Fk [] h H enc sz v l (boxesAt h.size L) := by
  obtain ⟨e, g, g1, o⟩ := F
  have e0 := Ext.more h L
  refine ⟨(e0.trans e).toX, ⟨g, Nat.le_trans e0.1 g1, o, fun p hp => ?_⟩, fun p hp => ?_⟩
  · obtain ⟨k, k1, k2, _⟩ := mem_boxesAt hp; rw [size_more] at g1; omega
  · obtain ⟨k, k1, k2, k3⟩ := mem_boxesAt hp
    refine ⟨by omega, ?_⟩
    rw [e.2 _ (by rw [size_more]; omega), k2, get_more, k3]; rfl
end
theorem take_set_repG {α : Type} (l : List α) (z : α) (i : Nat) (hi : i < l.length) : (l.take i ++ List.replicate (l.length - i) z).set i l[i] = l.take (i + 1) ++ List.replicate (l.length - (i + 1)) z := by
  have hlen : (l.take i).length = i := by simp; omega
  rw [show l.length - i = (l.length - (i + 1)) + 1 by omega, List.replicate_succ, List.set_append_right _ _ (by omega), hlen, Nat.sub_self, List.set_cons_zero,
    List.take_succ_eq_append_getElem hi, List.append_assoc]
  rfl
theorem mark_stepG {α : Type} (f : Nat → α) (l : List α) (i : Nat) (hi : i < l.length) : ((List.range i).map f ++ l.drop i).set i (f i) = (List.range (i + 1)).map f ++ l.drop (i + 1) := by
  rw [List.set_append_right _ _ (by simp), List.length_map, List.length_range, Nat.sub_self, List.drop_eq_getElem_cons hi, List.set_cons_zero, List.range_succ, List.map_append, List.append_assoc]
  rfl
def markI (k : Int) (n : Nat) : List Int := (List.range n).map fun i : Nat => k + (i : Int)
end Go.Proofs.YtgmimgmdbpcecaaGreatDoor
end

section
namespace Go.Proofs.YtgmimgmdbpcecaaGreatDoor
open Go Go.Ah
set_option linter.unusedSimpArgs false
set_option linter.unusedVariables false
theorem SW_mono {P : Program} : ∀ (c : SCode) (Q1 Q2 : Go.Exit → Env → Heap → Prop) (E : Env) (h : Heap), (∀ e E h, Q1 e E h → Q2 e E h) → SW P c Q1 E h → SW P c Q2 E h := by
    intro c
    induction c with
    | skip => intro Q1 Q2 E h k H; exact k _ _ _ H
    | region ops keep =>
      intro Q1 Q2 E h k H
      have am : ∀ (ops : List SOper) (K1 K2 : Env → Heap → Prop) (E : Env) (h : Heap), (∀ E h, K1 E h → K2 E h) → AOps P ops K1 E h → AOps P ops K2 E h := by
        intro ops
        induction ops with
        | nil => intro K1 K2 E h k H; exact k _ _ H
        | cons o os ih => intro K1 K2 E h k H; exact AOne_same (E := E) (E' := E) (fun _ _ => rfl) (fun v h' k' => ih _ _ _ _ k k') H
      exact am ops _ _ E h (fun E h => k _ _ _) H
    | dregion ops keep =>
      intro Q1 Q2 E h k H
      have dm : ∀ (ops : List DOper) (pend : List PE) (K1 K2 : Env → Heap → Prop) (E : Env) (h : Heap), (∀ E h, K1 E h → K2 E h) → DOps P ops pend K1 E h → DOps P ops pend K2 E h := by
        intro ops
        induction ops with
        | nil => intro pend K1 K2 E h k H; exact k _ _ H
        | cons d os ih =>
          intro pend K1 K2 E h k H
          simp only [DOps] at H ⊢
          split at H
          · exact H
          · exact ih _ _ _ _ _ k H
          · split at H
            · obtain ⟨v, h1, h2⟩ := H; exact ⟨v, h1, ih _ _ _ _ _ k h2⟩
            · obtain ⟨v, h1, h2⟩ := H; exact ⟨v, h1, ih _ _ _ _ _ k h2⟩
            · exact AOne_same (E := E) (E' := E) (fun _ _ => rfl) (fun v h' k' => ⟨k'.1, ih _ _ _ _ _ k k'.2⟩) H
      exact dm ops [] _ _ E h (fun E h => k _ _ _) H
    | seq a b iha ihb =>
      intro Q1 Q2 E h k H
      refine iha _ _ E h (fun e E h H => ?_) H
      cases e with
      | normal => exact ihb _ _ E h k H
      | _ => exact k _ _ _ H
    | cond c t e iht ihe =>
      intro Q1 Q2 E h k H
      obtain ⟨b, hb, h1, h2⟩ := H
      exact ⟨b, hb, fun x => iht _ _ _ _ k (h1 x), fun x => ihe _ _ _ _ k (h2 x)⟩
    | block i b ih =>
      intro Q1 Q2 E h k H
      refine ih _ _ E h (fun e E h H => ?_) H
      cases e with
      | exit j => simp only [blockQ] at H ⊢; split at H <;> (rename_i hj; simp only [hj, if_true, if_false]; exact k _ _ _ H)
      | _ => exact k _ _ _ H
    | loop b ih =>
      intro Q1 Q2 E h k H
      obtain ⟨I, hI, hr⟩ := H
      refine ⟨I, hI, fun n E h hn => ih _ _ E h (fun e E h H => ?_) (hr n E h hn)⟩
      cases e with
      | normal => exact H
      | _ => exact k _ _ _ H
    | exit i => intro Q1 Q2 E h k H; exact k _ _ _ H
    | ret => intro Q1 Q2 E h k H; exact k _ _ _ H

/-- Two ways that meet again. -/
theorem SW_if {P : Program} {A : SCode} {Q : Go.Exit → Env → Heap → Prop} {E : Env} {h : Heap} {b : Bool} (S : Env → Heap → Prop)
    (h1 : b = true → SW P A (fun e E h => e = .normal ∧ S E h) E h) (h2 : b = false → S E h) (h3 : ∀ E h, S E h → Q .normal E h) : stepI (some (.bool b)) (SW P A Q) (SW P .skip Q) E h := by
  refine stepI.splitB (fun hb => ?_) (fun hb => h3 _ _ (h2 hb))
  exact SW_mono A _ _ E h (fun e E h H => by obtain ⟨rfl, H⟩ := H; exact h3 _ _ H) (h1 hb)
theorem SW_ifN {P : Program} {A : SCode} {Q : Go.Exit → Env → Heap → Prop} {E : Env} {h : Heap} {b : Bool} (S : Env → Heap → Prop)
    (h1 : b = false → SW P A (fun e E h => e = .normal ∧ S E h) E h) (h2 : b = true → S E h) (h3 : ∀ E h, S E h → Q .normal E h) : stepI (some (.bool b)) (SW P .skip Q) (SW P A Q) E h := by
  refine stepI.splitB (fun hb => h3 _ _ (h2 hb)) (fun hb => ?_)
  exact SW_mono A _ _ E h (fun e E h H => by obtain ⟨rfl, H⟩ := H; exact h3 _ _ H) (h1 hb)
/-- A first part that goes on in one state, or leaves. -/
theorem SW_seq_to {P : Program} {A B : SCode} {Q : Go.Exit → Env → Heap → Prop} {E : Env} {h : Heap} (S : Env → Heap → Prop)
    (h1 : SW P A (fun e E h => (e = .normal ∧ S E h) ∨ (e ≠ .normal ∧ Q e E h)) E h) (h2 : ∀ E h, S E h → SW P B Q E h) : SW P (.seq A B) Q E h := by
  rw [SW_seq]
  refine SW_mono _ _ _ E h (fun e E h H => ?_) h1
  rcases H with ⟨rfl, H⟩ | ⟨hne, H⟩
  · exact h2 _ _ H
  · cases e with
    | normal => exact absurd rfl hne
    | _ => exact H
/-- A loop whose ways out meet again. -/
theorem SW_loop_to {P : Program} {b : SCode} {Q : Go.Exit → Env → Heap → Prop} {E : Env} {h : Heap} (i : Nat) (S : Env → Heap → Prop)
    (h1 : SW P (.loop b) (blockQ i fun e E h => e = .normal ∧ S E h) E h) (h2 : ∀ E h, S E h → Q .normal E h) : SW P (.loop b) (blockQ i Q) E h := by
  refine SW_mono _ _ _ E h (fun e E h H => ?_) h1
  cases e with
  | normal => obtain ⟨_, H⟩ := H; exact h2 _ _ H
  | exit j =>
    simp only [blockQ] at H ⊢
    split at H
    · rename_i hj; rw [if_pos hj]; exact h2 _ _ H.2
    · cases H.1
  | _ => cases H.1
theorem SlT_upTo {α : Type} {h : Heap} {enc : α → List Value} {sz : Nat} {v : Value} {l : List α} (s : SlT h enc sz v l) (k : Nat) (hk : k ≤ l.length) (h0 : 0 < l.length) :
    ∃ u, slcV sz v none (some (.int .i64 (k : Int))) = some u ∧ SlT h enc sz u (l.take k) := by
  have hlen := s.slLen
  rcases s.sl with ⟨rfl, h2⟩ | ⟨rfl, h2⟩ | ⟨i, o, n, ob, rfl, h2, h3, h4, h5⟩
  · simp [slLen] at hlen; omega
  · simp [slLen] at hlen; omega
  · simp only [slLen] at hlen
    have hkn : k * sz ≤ n * sz := Nat.mul_le_mul_right _ (by omega)
    refine ⟨.slice (some ⟨i, o, none⟩) k sz, ?_, ⟨.inr (.inr ⟨i, o, k, ob, rfl, h2, h3, by omega, ?_⟩), s.hs, s.pos⟩⟩
    · simp only [slcV, Option.map_none, Option.getD_none, Option.bind_some, Option.map_some, Option.getD_some, bndV]
      rw [if_pos ⟨by omega, by omega⟩]
      simp [Addr.add]
    · have : (l.take k).flatMap enc = (l.flatMap enc).take (k * sz) := by
        have hsp : l.flatMap enc = (l.take k).flatMap enc ++ (l.drop k).flatMap enc := by rw [← List.flatMap_append, List.take_append_drop]
        have hl1 : ((l.take k).flatMap enc).length = k * sz := by rw [flat_len s.hs, List.length_take, Nat.min_eq_left hk]
        rw [hsp, List.take_append_of_le_length (by omega)]
        exact (List.take_of_length_le (by omega)).symm
      rw [this, ← h5, List.take_take, Nat.min_eq_left hkn]
theorem SlT_from {α : Type} {h : Heap} {enc : α → List Value} {sz : Nat} {v : Value} {l : List α} (s : SlT h enc sz v l) (k : Nat) (hk : k ≤ l.length) (h0 : 0 < l.length) :
    ∃ u, slcV sz v (some (.int .i64 (k : Int))) none = some u ∧ SlT h enc sz u (l.drop k) := by
  have hlen := s.slLen
  rcases s.sl with ⟨rfl, h2⟩ | ⟨rfl, h2⟩ | ⟨i, o, n, ob, rfl, h2, h3, h4, h5⟩
  · simp [slLen] at hlen; omega
  · simp [slLen] at hlen; omega
  · simp only [slLen] at hlen
    have hkn : k * sz ≤ n * sz := Nat.mul_le_mul_right _ (by omega)
    have hsub : (n - k) * sz = n * sz - k * sz := Nat.sub_mul _ _ _
    refine ⟨.slice (some ⟨i, o + k * sz, none⟩) (n - k) sz, ?_, ⟨.inr (.inr ⟨i, o + k * sz, n - k, ob, rfl, h2, h3, by omega, ?_⟩), s.hs, s.pos⟩⟩
    · simp only [slcV, Option.map_none, Option.getD_none, Option.bind_some, Option.map_some, Option.getD_some, bndV]
      rw [if_pos ⟨by omega, by omega⟩]
      simp [Addr.add]
    · have : (l.drop k).flatMap enc = (l.flatMap enc).drop (k * sz) := by
        have hsp : l.flatMap enc = (l.take k).flatMap enc ++ (l.drop k).flatMap enc := by rw [← List.flatMap_append, List.take_append_drop]
        have hl1 : ((l.take k).flatMap enc).length = k * sz := by rw [flat_len s.hs, List.length_take, Nat.min_eq_left hk]
        have hd : List.drop (k * sz) ((l.take k).flatMap enc) = [] := List.drop_eq_nil_of_le (by omega)
        rw [hsp, List.drop_append_of_le_length (by omega), hd, List.nil_append]
      rw [this, ← h5, hsub, List.drop_take, List.drop_drop]
theorem OwnT_upTo {α : Type} {g : Nat} {h : Heap} {enc : α → List Value} {sz : Nat} {v : Value} {l : List α} (s : OwnT g h enc sz v l) (k : Nat) (hk : k ≤ l.length) (h0 : 0 < l.length) :
    ∃ u, slcV sz v none (some (.int .i64 (k : Int))) = some u ∧ OwnT g h enc sz u (l.take k) := by
  have hlen := s.slt.slLen
  rcases s.own with ⟨rfl, h2⟩ | ⟨i, o, n, ob, rfl, h2, h3, h4, h5, h6, h7⟩
  · simp [slLen] at hlen; omega
  · simp only [slLen] at hlen
    have hkn : k * sz ≤ n * sz := Nat.mul_le_mul_right _ (by omega)
    refine ⟨.slice (some ⟨i, o, none⟩) k sz, ?_, ⟨.inr ⟨i, o, k, ob, rfl, h2, h3, by omega, ?_, h6, h7⟩, s.hs, s.pos⟩⟩
    · simp only [slcV, Option.map_none, Option.getD_none, Option.bind_some, Option.map_some, Option.getD_some, bndV]
      rw [if_pos ⟨by omega, by omega⟩]
      simp [Addr.add]
    · have : (l.take k).flatMap enc = (l.flatMap enc).take (k * sz) := by
        have hsp : l.flatMap enc = (l.take k).flatMap enc ++ (l.drop k).flatMap enc := by rw [← List.flatMap_append, List.take_append_drop]
        have hl1 : ((l.take k).flatMap enc).length = k * sz := by rw [flat_len s.hs, List.length_take, Nat.min_eq_left hk]
        rw [hsp, List.take_append_of_le_length (by omega)]
        exact (List.take_of_length_le (by omega)).symm
      rw [this, ← h5, List.take_take, Nat.min_eq_left hkn]
theorem OwnT_from {α : Type} {g : Nat} {h : Heap} {enc : α → List Value} {sz : Nat} {v : Value} {l : List α} (s : OwnT g h enc sz v l) (k : Nat) (hk : k ≤ l.length) (h0 : 0 < l.length) :
    ∃ u, slcV sz v (some (.int .i64 (k : Int))) none = some u ∧ OwnT g h enc sz u (l.drop k) := by
  have hlen := s.slt.slLen
  rcases s.own with ⟨rfl, h2⟩ | ⟨i, o, n, ob, rfl, h2, h3, h4, h5, h6, h7⟩
  · simp [slLen] at hlen; omega
  · simp only [slLen] at hlen
    have hkn : k * sz ≤ n * sz := Nat.mul_le_mul_right _ (by omega)
    have hsub : (n - k) * sz = n * sz - k * sz := Nat.sub_mul _ _ _
    refine ⟨.slice (some ⟨i, o + k * sz, none⟩) (n - k) sz, ?_, ⟨.inr ⟨i, o + k * sz, n - k, ob, rfl, h2, h3, by omega, ?_, h6, h7⟩, s.hs, s.pos⟩⟩
    · simp only [slcV, Option.map_none, Option.getD_none, Option.bind_some, Option.map_some, Option.getD_some, bndV]
      rw [if_pos ⟨by omega, by omega⟩]
      simp [Addr.add]
    · have : (l.drop k).flatMap enc = (l.flatMap enc).drop (k * sz) := by
        have hsp : l.flatMap enc = (l.take k).flatMap enc ++ (l.drop k).flatMap enc := by rw [← List.flatMap_append, List.take_append_drop]
        have hl1 : ((l.take k).flatMap enc).length = k * sz := by rw [flat_len s.hs, List.length_take, Nat.min_eq_left hk]
        have hd : List.drop (k * sz) ((l.take k).flatMap enc) = [] := List.drop_eq_nil_of_le (by omega)
        rw [hsp, List.drop_append_of_le_length (by omega), hd, List.nil_append]
      rw [this, ← h5, hsub, List.drop_take, List.drop_drop]
end Go.Proofs.YtgmimgmdbpcecaaGreatDoor
end
