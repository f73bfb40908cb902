/- Merged texts of this claim: R3, R4, R5. -/
import Derived.Test.YtgmimgmdbpcecaaGreatDoorZbC
section
namespace Go.Proofs.YtgmimgmdbpcecaaGreatDoor
open Go Go.Ah
set_option linter.unusedSimpArgs false
set_option linter.unusedVariables false
set_option maxRecDepth 10000
set_option maxHeartbeats 4000000
/-! 47 loop.example/g00066/impl.gcd: parameters 2, live [0, 1], slots [0:a, 1:b, 2:a, 3:b] -/
def c47_0 : List SOper := [⟨some 4, .q (.mv (.c (.int .i64 0))), none⟩]
def c47_1 : List SOper := [⟨some 5, .q (.mv (.t 1)), none⟩, ⟨some 6, .q (.bin .neq (.t 5) (.c (.int .i64 0))), none⟩]
def c47_2 : SCode := .cond (.t 6) .skip (.exit 0)
def c47_3 : SCode := .seq (.region c47_1 [0, 1, 6]) c47_2
def c47_4 : List SOper := [⟨some 7, .q (.mv (.t 1)), none⟩, ⟨some 8, .q (.mv (.t 0)), none⟩, ⟨some 9, .q (.mv (.t 1)), none⟩, ⟨some 10, .q (.bin .rem (.t 8) (.t 9)), none⟩, ⟨some 0, .q (.mv (.t 7)), none⟩, ⟨some 1, .q (.mv (.t 10)), none⟩]
def c47_5 : SCode := .block 1 (.region c47_4 [0, 1])
def c47_6 : SCode := .seq c47_3 c47_5
def c47_7 : SCode := .loop c47_6
def c47_8 : SCode := .block 0 c47_7
def c47_9 : List SOper := [⟨some 11, .q (.mv (.t 0)), none⟩, ⟨some 4, .q (.mv (.t 11)), none⟩]
def c47_10 : SCode := .seq (.region c47_9 [4]) .ret
def c47_11 : SCode := .seq c47_8 c47_10
def c47_12 : SCode := .seq (.region c47_0 [0, 1]) c47_11
def c47 : SCode := c47_12
theorem w47 : type_of% (And.intro (uR Tryz.prog c47_0.eq_1) (And.intro (uR Tryz.prog c47_1.eq_1) (And.intro (uC Tryz.prog c47_2.eq_1) (And.intro (uC Tryz.prog c47_3.eq_1) (And.intro (uR Tryz.prog c47_4.eq_1) (And.intro (uC Tryz.prog c47_5.eq_1) (And.intro (uC Tryz.prog c47_6.eq_1) (And.intro (uC Tryz.prog c47_7.eq_1) (And.intro (uC Tryz.prog c47_8.eq_1) (And.intro (uR Tryz.prog c47_9.eq_1) (And.intro (uC Tryz.prog c47_10.eq_1) (And.intro (uC Tryz.prog c47_11.eq_1) (And.intro (uC Tryz.prog c47_12.eq_1) (uC Tryz.prog c47.eq_1)))))))))))))) := (And.intro (uR Tryz.prog c47_0.eq_1) (And.intro (uR Tryz.prog c47_1.eq_1) (And.intro (uC Tryz.prog c47_2.eq_1) (And.intro (uC Tryz.prog c47_3.eq_1) (And.intro (uR Tryz.prog c47_4.eq_1) (And.intro (uC Tryz.prog c47_5.eq_1) (And.intro (uC Tryz.prog c47_6.eq_1) (And.intro (uC Tryz.prog c47_7.eq_1) (And.intro (uC Tryz.prog c47_8.eq_1) (And.intro (uR Tryz.prog c47_9.eq_1) (And.intro (uC Tryz.prog c47_10.eq_1) (And.intro (uC Tryz.prog c47_11.eq_1) (And.intro (uC Tryz.prog c47_12.eq_1) (uC Tryz.prog c47.eq_1))))))))))))))
def v47 : List RV := [.t 4]
theorem s47 : slimF Tryz.prog Tryz.f47 = some (c47.bare, v47) := by kernel_rfl
/-! 40 loop.example/g00066/spec.l1Gcd: parameters 2, live [0, 1], slots [0:a, 1:b, 2:a, 3:b, 5:r] -/
def c40_0 : List SOper := [⟨some 4, .q (.mv (.c (.int .i64 0))), none⟩]
def c40_1 : List SOper := [⟨some 6, .q (.mv (.t 0)), none⟩, ⟨some 7, .e (.call 68 [(.t 6)]), none⟩, ⟨some 0, .q (.mv (.t 7)), none⟩]
def c40_2 : List SOper := [⟨some 8, .q (.mv (.t 1)), none⟩, ⟨some 9, .e (.call 68 [(.t 8)]), none⟩, ⟨some 1, .q (.mv (.t 9)), none⟩]
def c40_3 : List SOper := [⟨some 10, .q (.mv (.t 1)), none⟩, ⟨some 11, .q (.bin .neq (.t 10) (.c (.int .i64 0))), none⟩]
def c40_4 : SCode := .cond (.t 11) .skip (.exit 0)
def c40_5 : SCode := .seq (.region c40_3 [0, 1, 11]) c40_4
def c40_6 : List SOper := [⟨some 12, .q (.mv (.t 0)), none⟩, ⟨some 13, .q (.mv (.t 1)), none⟩, ⟨some 14, .q (.bin .rem (.t 12) (.t 13)), none⟩, ⟨some 5, .q (.mv (.t 14)), none⟩]
def c40_7 : List SOper := [⟨some 15, .q (.mv (.t 1)), none⟩, ⟨some 0, .q (.mv (.t 15)), none⟩]
def c40_8 : List SOper := [⟨some 16, .q (.mv (.t 5)), none⟩, ⟨some 1, .q (.mv (.t 16)), none⟩]
def c40_9 : SCode := .seq (.region c40_7 [0, 5]) (.region c40_8 [0, 1])
def c40_10 : SCode := .seq (.region c40_6 [1, 5]) c40_9
def c40_11 : SCode := .block 1 c40_10
def c40_12 : SCode := .seq c40_5 c40_11
def c40_13 : SCode := .loop c40_12
def c40_14 : SCode := .block 0 c40_13
def c40_15 : List SOper := [⟨some 17, .q (.mv (.t 0)), none⟩, ⟨some 4, .q (.mv (.t 17)), none⟩]
def c40_16 : SCode := .seq (.region c40_15 [4]) .ret
def c40_17 : SCode := .seq c40_14 c40_16
def c40_18 : SCode := .seq (.region c40_2 [0, 1]) c40_17
def c40_19 : SCode := .seq (.region c40_1 [0, 1]) c40_18
def c40_20 : SCode := .seq (.region c40_0 [0, 1]) c40_19
def c40 : SCode := c40_20
theorem w40 : type_of% (And.intro (uR Tryz.prog c40_0.eq_1) (And.intro (uR Tryz.prog c40_1.eq_1) (And.intro (uR Tryz.prog c40_2.eq_1) (And.intro (uR Tryz.prog c40_3.eq_1) (And.intro (uC Tryz.prog c40_4.eq_1) (And.intro (uC Tryz.prog c40_5.eq_1) (And.intro (uR Tryz.prog c40_6.eq_1) (And.intro (uR Tryz.prog c40_7.eq_1) (And.intro (uR Tryz.prog c40_8.eq_1) (And.intro (uC Tryz.prog c40_9.eq_1) (And.intro (uC Tryz.prog c40_10.eq_1) (And.intro (uC Tryz.prog c40_11.eq_1) (And.intro (uC Tryz.prog c40_12.eq_1) (And.intro (uC Tryz.prog c40_13.eq_1) (And.intro (uC Tryz.prog c40_14.eq_1) (And.intro (uR Tryz.prog c40_15.eq_1) (And.intro (uC Tryz.prog c40_16.eq_1) (And.intro (uC Tryz.prog c40_17.eq_1) (And.intro (uC Tryz.prog c40_18.eq_1) (And.intro (uC Tryz.prog c40_19.eq_1) (And.intro (uC Tryz.prog c40_20.eq_1) (uC Tryz.prog c40.eq_1)))))))))))))))))))))) := (And.intro (uR Tryz.prog c40_0.eq_1) (And.intro (uR Tryz.prog c40_1.eq_1) (And.intro (uR Tryz.prog c40_2.eq_1) (And.intro (uR Tryz.prog c40_3.eq_1) (And.intro (uC Tryz.prog c40_4.eq_1) (And.intro (uC Tryz.prog c40_5.eq_1) (And.intro (uR Tryz.prog c40_6.eq_1) (And.intro (uR Tryz.prog c40_7.eq_1) (And.intro (uR Tryz.prog c40_8.eq_1) (And.intro (uC Tryz.prog c40_9.eq_1) (And.intro (uC Tryz.prog c40_10.eq_1) (And.intro (uC Tryz.prog c40_11.eq_1) (And.intro (uC Tryz.prog c40_12.eq_1) (And.intro (uC Tryz.prog c40_13.eq_1) (And.intro (uC Tryz.prog c40_14.eq_1) (And.intro (uR Tryz.prog c40_15.eq_1) (And.intro (uC Tryz.prog c40_16.eq_1) (And.intro (uC Tryz.prog c40_17.eq_1) (And.intro (uC Tryz.prog c40_18.eq_1) (And.intro (uC Tryz.prog c40_19.eq_1) (And.intro (uC Tryz.prog c40_20.eq_1) (uC Tryz.prog c40.eq_1))))))))))))))))))))))
def v40 : List RV := [.t 4]
theorem s40 : slimF Tryz.prog Tryz.f40 = some (c40.bare, v40) := by kernel_rfl
/-! 68 loop.example/g00066/spec.l1Abs: parameters 1, live [0], slots [0:x, 1:x] -/
def c68_0 : List SOper := [⟨some 2, .q (.mv (.c (.int .i64 0))), none⟩]
def c68_1 : List SOper := [⟨some 3, .q (.mv (.t 0)), none⟩, ⟨some 4, .q (.bin .lss (.t 3) (.c (.int .i64 0))), none⟩]
def c68_2 : List SOper := [⟨some 5, .q (.mv (.t 0)), none⟩, ⟨some 6, .q (.neg (.t 5)), none⟩, ⟨some 2, .q (.mv (.t 6)), none⟩]
def c68_3 : SCode := .seq (.region c68_2 [2]) .ret
def c68_4 : SCode := .cond (.t 4) c68_3 .skip
def c68_5 : SCode := .seq (.region c68_1 [0, 4]) c68_4
def c68_6 : List SOper := [⟨some 7, .q (.mv (.t 0)), none⟩, ⟨some 2, .q (.mv (.t 7)), none⟩]
def c68_7 : SCode := .seq (.region c68_6 [2]) .ret
def c68_8 : SCode := .seq c68_5 c68_7
def c68_9 : SCode := .seq (.region c68_0 [0]) c68_8
def c68 : SCode := c68_9
theorem w68 : type_of% (And.intro (uR Tryz.prog c68_0.eq_1) (And.intro (uR Tryz.prog c68_1.eq_1) (And.intro (uR Tryz.prog c68_2.eq_1) (And.intro (uC Tryz.prog c68_3.eq_1) (And.intro (uC Tryz.prog c68_4.eq_1) (And.intro (uC Tryz.prog c68_5.eq_1) (And.intro (uR Tryz.prog c68_6.eq_1) (And.intro (uC Tryz.prog c68_7.eq_1) (And.intro (uC Tryz.prog c68_8.eq_1) (And.intro (uC Tryz.prog c68_9.eq_1) (uC Tryz.prog c68.eq_1))))))))))) := (And.intro (uR Tryz.prog c68_0.eq_1) (And.intro (uR Tryz.prog c68_1.eq_1) (And.intro (uR Tryz.prog c68_2.eq_1) (And.intro (uC Tryz.prog c68_3.eq_1) (And.intro (uC Tryz.prog c68_4.eq_1) (And.intro (uC Tryz.prog c68_5.eq_1) (And.intro (uR Tryz.prog c68_6.eq_1) (And.intro (uC Tryz.prog c68_7.eq_1) (And.intro (uC Tryz.prog c68_8.eq_1) (And.intro (uC Tryz.prog c68_9.eq_1) (uC Tryz.prog c68.eq_1)))))))))))
def v68 : List RV := [.t 2]
theorem s68 : slimF Tryz.prog Tryz.f68 = some (c68.bare, v68) := by kernel_rfl
/-! 21 loop.example/g00066/impl.RateOk: parameters 1, live [0], slots [0:r, 1:r] -/
def c21_0 : List SOper := [⟨some 1, .a (.box (.t 0)), none⟩, ⟨some 2, .q (.mv (.c (.bool false))), none⟩]
def c21_1 : List SOper := [⟨some 3, .q (.fa 0 (.t 1)), none⟩, ⟨some 4, .q (.ld (.t 3)), none⟩, ⟨some 5, .e (.call 46 [(.t 4), (.c (.int .i64 1)), (.c (.int .i64 240000))]), none⟩, ⟨some 6, .q (.not (.t 5)), none⟩, ⟨some 7, .q (.mv (.t 6)), none⟩, ⟨some 8, .q (.fa 1 (.t 1)), some (7, false)⟩, ⟨some 9, .q (.ld (.t 8)), some (7, false)⟩, ⟨some 10, .e (.call 46 [(.t 9), (.c (.int .i64 1)), (.c (.int .i64 1001))]), some (7, false)⟩, ⟨some 11, .q (.not (.t 10)), some (7, false)⟩, ⟨some 12, .q (.pick (.t 7) (.c (.bool true)) (.t 11)), none⟩, ⟨some 13, .q (.mv (.t 12)), none⟩, ⟨some 14, .q (.fa 0 (.t 1)), some (13, false)⟩, ⟨some 15, .q (.ld (.t 14)), some (13, false)⟩, ⟨some 16, .q (.fa 1 (.t 1)), some (13, false)⟩, ⟨some 17, .q (.ld (.t 16)), some (13, false)⟩, ⟨some 18, .e (.call 47 [(.t 15), (.t 17)]), some (13, false)⟩, ⟨some 19, .q (.bin .neq (.t 18) (.c (.int .i64 1))), some (13, false)⟩, ⟨some 20, .q (.pick (.t 13) (.c (.bool true)) (.t 19)), none⟩, ⟨some 21, .q (.mv (.t 20)), none⟩, ⟨some 22, .q (.fa 0 (.t 1)), some (21, false)⟩, ⟨some 23, .q (.ld (.t 22)), some (21, false)⟩, ⟨some 24, .q (.fa 1 (.t 1)), some (21, false)⟩, ⟨some 25, .q (.ld (.t 24)), some (21, false)⟩, ⟨some 26, .q (.bin .mul (.c (.int .i64 120)) (.t 25)), some (21, false)⟩, ⟨some 27, .q (.bin .gtr (.t 23) (.t 26)), some (21, false)⟩, ⟨some 28, .q (.pick (.t 21) (.c (.bool true)) (.t 27)), none⟩]
def c21_2 : List SOper := [⟨some 2, .q (.mv (.c (.bool false))), none⟩]
def c21_3 : SCode := .seq (.region c21_2 [2]) .ret
def c21_4 : SCode := .cond (.t 28) c21_3 .skip
def c21_5 : SCode := .seq (.region c21_1 [1, 28]) c21_4
def c21_6 : List SOper := [⟨some 29, .q (.fa 2 (.t 1)), none⟩, ⟨some 30, .q (.ld (.t 29)), none⟩, ⟨some 31, .q (.not (.t 30)), none⟩, ⟨some 32, .q (.mv (.t 31)), none⟩, ⟨some 33, .q (.fa 1 (.t 1)), some (32, false)⟩, ⟨some 34, .q (.ld (.t 33)), some (32, false)⟩, ⟨some 35, .q (.bin .eql (.t 34) (.c (.int .i64 1001))), some (32, false)⟩, ⟨some 36, .q (.mv (.t 35)), some (32, false)⟩, ⟨some 37, .q (.fa 0 (.t 1)), some (36, true)⟩, ⟨some 38, .q (.ld (.t 37)), some (36, true)⟩, ⟨some 39, .q (.bin .eql (.t 38) (.c (.int .i64 30000))), some (36, true)⟩, ⟨some 40, .q (.mv (.t 39)), some (36, true)⟩, ⟨some 41, .q (.fa 0 (.t 1)), some (40, false)⟩, ⟨some 42, .q (.ld (.t 41)), some (40, false)⟩, ⟨some 43, .q (.bin .eql (.t 42) (.c (.int .i64 60000))), some (40, false)⟩, ⟨some 44, .q (.pick (.t 40) (.c (.bool true)) (.t 43)), some (36, true)⟩, ⟨some 45, .q (.pick (.t 36) (.t 44) (.c (.bool false))), some (32, false)⟩, ⟨some 46, .q (.pick (.t 32) (.c (.bool true)) (.t 45)), none⟩, ⟨some 2, .q (.mv (.t 46)), none⟩]
def c21_7 : SCode := .seq (.region c21_6 [2]) .ret
def c21_8 : SCode := .seq c21_5 c21_7
def c21_9 : SCode := .seq (.region c21_0 [1]) c21_8
def c21 : SCode := c21_9
theorem w21 : type_of% (And.intro (uR Tryz.prog c21_0.eq_1) (And.intro (uR Tryz.prog c21_1.eq_1) (And.intro (uR Tryz.prog c21_2.eq_1) (And.intro (uC Tryz.prog c21_3.eq_1) (And.intro (uC Tryz.prog c21_4.eq_1) (And.intro (uC Tryz.prog c21_5.eq_1) (And.intro (uR Tryz.prog c21_6.eq_1) (And.intro (uC Tryz.prog c21_7.eq_1) (And.intro (uC Tryz.prog c21_8.eq_1) (And.intro (uC Tryz.prog c21_9.eq_1) (uC Tryz.prog c21.eq_1))))))))))) := (And.intro (uR Tryz.prog c21_0.eq_1) (And.intro (uR Tryz.prog c21_1.eq_1) (And.intro (uR Tryz.prog c21_2.eq_1) (And.intro (uC Tryz.prog c21_3.eq_1) (And.intro (uC Tryz.prog c21_4.eq_1) (And.intro (uC Tryz.prog c21_5.eq_1) (And.intro (uR Tryz.prog c21_6.eq_1) (And.intro (uC Tryz.prog c21_7.eq_1) (And.intro (uC Tryz.prog c21_8.eq_1) (And.intro (uC Tryz.prog c21_9.eq_1) (uC Tryz.prog c21.eq_1)))))))))))
def v21 : List RV := [.t 2]
theorem s21 : slimF Tryz.prog Tryz.f21 = some (c21.bare, v21) := by kernel_rfl
/-! 19 loop.example/g00066/spec.RateOk: parameters 1, live [0], slots [0:r, 1:r] -/
def c19_0 : List SOper := [⟨some 1, .a (.box (.t 0)), none⟩, ⟨some 2, .q (.mv (.c (.bool false))), none⟩]
def c19_1 : List SOper := [⟨some 3, .q (.fa 0 (.t 1)), none⟩, ⟨some 4, .q (.ld (.t 3)), none⟩, ⟨some 5, .e (.call 39 [(.t 4), (.c (.int .i64 1)), (.c (.int .i64 240000))]), none⟩, ⟨some 6, .q (.not (.t 5)), none⟩, ⟨some 7, .q (.mv (.t 6)), none⟩, ⟨some 8, .q (.fa 1 (.t 1)), some (7, false)⟩, ⟨some 9, .q (.ld (.t 8)), some (7, false)⟩, ⟨some 10, .e (.call 39 [(.t 9), (.c (.int .i64 1)), (.c (.int .i64 1001))]), some (7, false)⟩, ⟨some 11, .q (.not (.t 10)), some (7, false)⟩, ⟨some 12, .q (.pick (.t 7) (.c (.bool true)) (.t 11)), none⟩, ⟨some 13, .q (.mv (.t 12)), none⟩, ⟨some 14, .q (.fa 0 (.t 1)), some (13, false)⟩, ⟨some 15, .q (.ld (.t 14)), some (13, false)⟩, ⟨some 16, .q (.fa 1 (.t 1)), some (13, false)⟩, ⟨some 17, .q (.ld (.t 16)), some (13, false)⟩, ⟨some 18, .e (.call 40 [(.t 15), (.t 17)]), some (13, false)⟩, ⟨some 19, .q (.bin .neq (.t 18) (.c (.int .i64 1))), some (13, false)⟩, ⟨some 20, .q (.pick (.t 13) (.c (.bool true)) (.t 19)), none⟩, ⟨some 21, .q (.mv (.t 20)), none⟩, ⟨some 22, .q (.fa 0 (.t 1)), some (21, false)⟩, ⟨some 23, .q (.ld (.t 22)), some (21, false)⟩, ⟨some 24, .q (.fa 1 (.t 1)), some (21, false)⟩, ⟨some 25, .q (.ld (.t 24)), some (21, false)⟩, ⟨some 26, .q (.bin .mul (.c (.int .i64 120)) (.t 25)), some (21, false)⟩, ⟨some 27, .q (.bin .gtr (.t 23) (.t 26)), some (21, false)⟩, ⟨some 28, .q (.pick (.t 21) (.c (.bool true)) (.t 27)), none⟩]
def c19_2 : List SOper := [⟨some 2, .q (.mv (.c (.bool false))), none⟩]
def c19_3 : SCode := .seq (.region c19_2 [2]) .ret
def c19_4 : SCode := .cond (.t 28) c19_3 .skip
def c19_5 : SCode := .seq (.region c19_1 [1, 28]) c19_4
def c19_6 : List SOper := [⟨some 29, .q (.fa 2 (.t 1)), none⟩, ⟨some 30, .q (.ld (.t 29)), none⟩, ⟨some 31, .q (.not (.t 30)), none⟩, ⟨some 32, .q (.mv (.t 31)), none⟩, ⟨some 33, .q (.fa 1 (.t 1)), some (32, false)⟩, ⟨some 34, .q (.ld (.t 33)), some (32, false)⟩, ⟨some 35, .q (.bin .eql (.t 34) (.c (.int .i64 1001))), some (32, false)⟩, ⟨some 36, .q (.mv (.t 35)), some (32, false)⟩, ⟨some 37, .q (.fa 0 (.t 1)), some (36, true)⟩, ⟨some 38, .q (.ld (.t 37)), some (36, true)⟩, ⟨some 39, .q (.bin .eql (.t 38) (.c (.int .i64 30000))), some (36, true)⟩, ⟨some 40, .q (.mv (.t 39)), some (36, true)⟩, ⟨some 41, .q (.fa 0 (.t 1)), some (40, false)⟩, ⟨some 42, .q (.ld (.t 41)), some (40, false)⟩, ⟨some 43, .q (.bin .eql (.t 42) (.c (.int .i64 60000))), some (40, false)⟩, ⟨some 44, .q (.pick (.t 40) (.c (.bool true)) (.t 43)), some (36, true)⟩, ⟨some 45, .q (.pick (.t 36) (.t 44) (.c (.bool false))), some (32, false)⟩, ⟨some 46, .q (.pick (.t 32) (.c (.bool true)) (.t 45)), none⟩, ⟨some 2, .q (.mv (.t 46)), none⟩]
def c19_7 : SCode := .seq (.region c19_6 [2]) .ret
def c19_8 : SCode := .seq c19_5 c19_7
def c19_9 : SCode := .seq (.region c19_0 [1]) c19_8
def c19 : SCode := c19_9
theorem w19 : type_of% (And.intro (uR Tryz.prog c19_0.eq_1) (And.intro (uR Tryz.prog c19_1.eq_1) (And.intro (uR Tryz.prog c19_2.eq_1) (And.intro (uC Tryz.prog c19_3.eq_1) (And.intro (uC Tryz.prog c19_4.eq_1) (And.intro (uC Tryz.prog c19_5.eq_1) (And.intro (uR Tryz.prog c19_6.eq_1) (And.intro (uC Tryz.prog c19_7.eq_1) (And.intro (uC Tryz.prog c19_8.eq_1) (And.intro (uC Tryz.prog c19_9.eq_1) (uC Tryz.prog c19.eq_1))))))))))) := (And.intro (uR Tryz.prog c19_0.eq_1) (And.intro (uR Tryz.prog c19_1.eq_1) (And.intro (uR Tryz.prog c19_2.eq_1) (And.intro (uC Tryz.prog c19_3.eq_1) (And.intro (uC Tryz.prog c19_4.eq_1) (And.intro (uC Tryz.prog c19_5.eq_1) (And.intro (uR Tryz.prog c19_6.eq_1) (And.intro (uC Tryz.prog c19_7.eq_1) (And.intro (uC Tryz.prog c19_8.eq_1) (And.intro (uC Tryz.prog c19_9.eq_1) (uC Tryz.prog c19.eq_1)))))))))))
def v19 : List RV := [.t 2]
theorem s19 : slimF Tryz.prog Tryz.f19 = some (c19.bare, v19) := by kernel_rfl

structure Rate where
  num : Int
  den : Int
  drop : Bool
def encRate (r : Rate) : List Value := [.int .i64 r.num, .int .i64 r.den, .bool r.drop]
theorem gcd_ok (h : Heap) (a b : Nat) (ha : a ≤ 1000000) (hb : b ≤ 1000000) : ACall Tryz.prog 47 [.int .i64 (a : Int), .int .i64 (b : Int)] h fun r h' => h' = h ∧ r = .int .i64 (Nat.gcd a b : Int) := by
  refine ACall.of Tryz.func47 s47 (of_decide_eq_true rfl) ?_
  simp (maxSteps := 4000000) (disch := omega) only [ah, am, Nat.reduceEqDiff, reduceCtorEq, Nat.reduceAdd, Nat.reduceLeDiff, Nat.reduceMul, Nat.reduceLT, if_true, if_false, true_and, and_true, and_self, Nat.reduceBEq, QOp.loads, boxO, bslO, buildO, cutL, fillV, putL, w47, v47]
  refine ⟨fun t E H => ∃ (x y : Nat), H = h ∧ E = [(0, .int .i64 (x : Int)), (1, .int .i64 (y : Int))] ∧ Nat.gcd x y = Nat.gcd a b ∧ x ≤ 1000000 ∧ y ≤ 1000000 ∧ t = y, ⟨b, a, b, rfl, rfl, rfl, ha, hb, rfl⟩, ?_⟩
  rintro t E H ⟨x, y, rfl, rfl, g, hx, hy, rfl⟩
  by_cases c : t = 0
  · have c' : decide ((t : Int) = 0) = true := decide_eq_true (by omega)
    simp (maxSteps := 4000000) (disch := omega) only [ah, am, Nat.reduceEqDiff, reduceCtorEq, Nat.reduceAdd, Nat.reduceLeDiff, Nat.reduceMul, Nat.reduceLT, if_true, if_false, true_and, and_true, and_self, Nat.reduceBEq, QOp.loads, boxO, bslO, buildO, cutL, fillV, putL, w47, v47, c', Bool.not_true]
    rw [← g, c, Nat.gcd_zero_right]
  · have c' : decide ((t : Int) = 0) = false := decide_eq_false (by omega)
    have t0 : (t : Int) ≠ 0 := by omega
    have m1 : ((x : Int)).tmod (t : Int) = ((x % t : Nat) : Int) := by rw [Int.tmod_eq_emod_of_nonneg (by omega)]; rfl
    have hm : x % t < t := Nat.mod_lt _ (by omega)
    simp (maxSteps := 4000000) (disch := omega) only [ah, am, Nat.reduceEqDiff, reduceCtorEq, Nat.reduceAdd, Nat.reduceLeDiff, Nat.reduceMul, Nat.reduceLT, if_true, if_false, true_and, and_true, and_self, Nat.reduceBEq, QOp.loads, boxO, bslO, buildO, cutL, fillV, putL, w47, v47, c', Bool.not_false, t0, ne_eq, not_false_eq_true, m1]
    refine ⟨x % t, hm, t, x % t, rfl, ?_, hy, by omega, rfl⟩
    rw [← g, Nat.gcd_comm x t, Nat.gcd_rec t x, Nat.gcd_comm]
theorem l1Abs_ok (h : Heap) (a : Nat) : ACall Tryz.prog 68 [.int .i64 (a : Int)] h fun r h' => h' = h ∧ r = .int .i64 (a : Int) := by
  refine ACall.of Tryz.func68 s68 (of_decide_eq_true rfl) ?_
  have c : decide ((a : Int) < 0) = false := decide_eq_false (by omega)
  simp (maxSteps := 4000000) (disch := omega) only [ah, am, Nat.reduceEqDiff, reduceCtorEq, Nat.reduceAdd, Nat.reduceLeDiff, Nat.reduceMul, Nat.reduceLT, if_true, if_false, true_and, and_true, and_self, Nat.reduceBEq, QOp.loads, boxO, bslO, buildO, cutL, fillV, putL, w68, v68, c]
theorem l1Gcd_ok (h : Heap) (a b : Nat) (ha : a ≤ 1000000) (hb : b ≤ 1000000) : ACall Tryz.prog 40 [.int .i64 (a : Int), .int .i64 (b : Int)] h fun r h' => h' = h ∧ r = .int .i64 (Nat.gcd a b : Int) := by
  refine ACall.of Tryz.func40 s40 (of_decide_eq_true rfl) ?_
  simp (maxSteps := 4000000) (disch := omega) only [ah, am, Nat.reduceEqDiff, reduceCtorEq, Nat.reduceAdd, Nat.reduceLeDiff, Nat.reduceMul, Nat.reduceLT, if_true, if_false, true_and, and_true, and_self, Nat.reduceBEq, QOp.loads, boxO, bslO, buildO, cutL, fillV, putL, w40, v40]
  refine stepC.of (l1Abs_ok h a) ?_
  rintro _ Hx ⟨hx, rfl⟩; rw [hx]; clear hx Hx
  simp (maxSteps := 4000000) (disch := omega) only [ah, am, Nat.reduceEqDiff, reduceCtorEq, Nat.reduceAdd, Nat.reduceLeDiff, Nat.reduceMul, Nat.reduceLT, if_true, if_false, true_and, and_true, and_self, Nat.reduceBEq, QOp.loads, boxO, bslO, buildO, cutL, fillV, putL, w40, v40]
  refine stepC.of (l1Abs_ok h b) ?_
  rintro _ Hx ⟨hx, rfl⟩; rw [hx]; clear hx Hx
  simp (maxSteps := 4000000) (disch := omega) only [ah, am, Nat.reduceEqDiff, reduceCtorEq, Nat.reduceAdd, Nat.reduceLeDiff, Nat.reduceMul, Nat.reduceLT, if_true, if_false, true_and, and_true, and_self, Nat.reduceBEq, QOp.loads, boxO, bslO, buildO, cutL, fillV, putL, w40, v40]
  refine ⟨fun t E H => ∃ (x y : Nat), H = h ∧ E = [(0, .int .i64 (x : Int)), (1, .int .i64 (y : Int))] ∧ Nat.gcd x y = Nat.gcd a b ∧ x ≤ 1000000 ∧ y ≤ 1000000 ∧ t = y, ⟨b, a, b, rfl, rfl, rfl, ha, hb, rfl⟩, ?_⟩
  rintro t E H ⟨x, y, rfl, rfl, g, hx, hy, rfl⟩
  by_cases c : t = 0
  · have c' : decide ((t : Int) = 0) = true := decide_eq_true (by omega)
    simp (maxSteps := 4000000) (disch := omega) only [ah, am, Nat.reduceEqDiff, reduceCtorEq, Nat.reduceAdd, Nat.reduceLeDiff, Nat.reduceMul, Nat.reduceLT, if_true, if_false, true_and, and_true, and_self, Nat.reduceBEq, QOp.loads, boxO, bslO, buildO, cutL, fillV, putL, w40, v40, c', Bool.not_true]
    rw [← g, c, Nat.gcd_zero_right]
  · have c' : decide ((t : Int) = 0) = false := decide_eq_false (by omega)
    have t0 : (t : Int) ≠ 0 := by omega
    have m1 : ((x : Int)).tmod (t : Int) = ((x % t : Nat) : Int) := by rw [Int.tmod_eq_emod_of_nonneg (by omega)]; rfl
    have hm : x % t < t := Nat.mod_lt _ (by omega)
    simp (maxSteps := 4000000) (disch := omega) only [ah, am, Nat.reduceEqDiff, reduceCtorEq, Nat.reduceAdd, Nat.reduceLeDiff, Nat.reduceMul, Nat.reduceLT, if_true, if_false, true_and, and_true, and_self, Nat.reduceBEq, QOp.loads, boxO, bslO, buildO, cutL, fillV, putL, w40, v40, c', Bool.not_false, t0, ne_eq, not_false_eq_true, m1]
    refine ⟨x % t, hm, t, x % t, rfl, ?_, hy, by omega, rfl⟩
    rw [← g, Nat.gcd_comm x t, Nat.gcd_rec t x, Nat.gcd_comm]
def rateOk (r : Rate) : Prop := (1 ≤ r.num ∧ r.num ≤ 240000) ∧ (1 ≤ r.den ∧ r.den ≤ 1001) ∧ Nat.gcd r.num.toNat r.den.toNat = 1 ∧ r.num ≤ 120 * r.den ∧ (r.drop = true → r.den = 1001 ∧ (r.num = 30000 ∨ r.num = 60000))
instance (r : Rate) : Decidable (rateOk r) := by unfold rateOk; infer_instance
theorem RateOk_ok (h : Heap) (r : Rate) : ACall Tryz.prog 21 [.agg (encRate r).toArray] h fun x h' => Ext h h' ∧ x = .bool (decide (rateOk r)) := by
  have B := Bx.new h (encRate r) []
  have eM := Ext.more h [encRate r]
  have D := B.ld
  simp only [encRate] at D eM
  refine ACall.of Tryz.func21 s21 (of_decide_eq_true rfl) ?_
  simp (maxSteps := 4000000) (disch := omega) only [ah, am, Nat.reduceEqDiff, reduceCtorEq, Nat.reduceAdd, Nat.reduceLeDiff, Nat.reduceMul, Nat.reduceLT, if_true, if_false, true_and, and_true, and_self, Nat.reduceBEq, QOp.loads, boxO, bslO, buildO, cutL, fillV, putL, w21, v21, encRate]
  obtain ⟨K, hK⟩ : ∃ K, K = h.more [[.int .i64 r.num, .int .i64 r.den, .bool r.drop]] := ⟨_, rfl⟩
  rw [← hK] at D eM ⊢
  have no : ¬ rateOk r → Ext h K ∧ Value.bool false = .bool (decide (rateOk r)) := fun q => ⟨eM, by rw [decide_eq_false q]⟩
  refine stepC.of (in_ok K r.num 1 240000) ?_
  rintro _ Hx ⟨hx, rfl⟩; rw [hx]; clear hx Hx
  by_cases c1 : 1 ≤ r.num ∧ r.num ≤ 240000
  rotate_left
  · simp (maxSteps := 4000000) (disch := omega) only [ah, am, Nat.reduceEqDiff, reduceCtorEq, Nat.reduceAdd, Nat.reduceLeDiff, Nat.reduceMul, Nat.reduceLT, if_true, if_false, true_and, and_true, and_self, Nat.reduceBEq, QOp.loads, boxO, bslO, buildO, cutL, fillV, putL, w21, v21, decide_eq_false c1, D]
    exact no fun q => c1 q.1
  simp (maxSteps := 4000000) (disch := omega) only [ah, am, Nat.reduceEqDiff, reduceCtorEq, Nat.reduceAdd, Nat.reduceLeDiff, Nat.reduceMul, Nat.reduceLT, if_true, if_false, true_and, and_true, and_self, Nat.reduceBEq, QOp.loads, boxO, bslO, buildO, cutL, fillV, putL, w21, v21, decide_eq_true c1, D]
  refine stepC.of (in_ok K r.den 1 1001) ?_
  rintro _ Hx ⟨hx, rfl⟩; rw [hx]; clear hx Hx
  by_cases c2 : 1 ≤ r.den ∧ r.den ≤ 1001
  rotate_left
  · simp (maxSteps := 4000000) (disch := omega) only [ah, am, Nat.reduceEqDiff, reduceCtorEq, Nat.reduceAdd, Nat.reduceLeDiff, Nat.reduceMul, Nat.reduceLT, if_true, if_false, true_and, and_true, and_self, Nat.reduceBEq, QOp.loads, boxO, bslO, buildO, cutL, fillV, putL, w21, v21, decide_eq_false c2, D]
    exact no fun q => c2 q.2.1
  have g := gcd_ok K r.num.toNat r.den.toNat (by omega) (by omega)
  rw [show ((r.num.toNat : Nat) : Int) = r.num from by omega, show ((r.den.toNat : Nat) : Int) = r.den from by omega] at g
  simp (maxSteps := 4000000) (disch := omega) only [ah, am, Nat.reduceEqDiff, reduceCtorEq, Nat.reduceAdd, Nat.reduceLeDiff, Nat.reduceMul, Nat.reduceLT, if_true, if_false, true_and, and_true, and_self, Nat.reduceBEq, QOp.loads, boxO, bslO, buildO, cutL, fillV, putL, w21, v21, decide_eq_true c2, D]
  refine stepC.of g ?_
  rintro _ Hx ⟨hx, rfl⟩; rw [hx]; clear hx Hx
  have hg : decide (((Nat.gcd r.num.toNat r.den.toNat : Nat) : Int) = 1) = decide (Nat.gcd r.num.toNat r.den.toNat = 1) := decide_eq_decide.mpr ⟨fun q => by omega, fun q => by omega⟩
  have wm : IntKind.i64.wrap (120 * r.den) = 120 * r.den := i64e rfl (by omega)
  by_cases c3 : Nat.gcd r.num.toNat r.den.toNat = 1
  rotate_left
  · simp (maxSteps := 4000000) (disch := omega) only [ah, am, Nat.reduceEqDiff, reduceCtorEq, Nat.reduceAdd, Nat.reduceLeDiff, Nat.reduceMul, Nat.reduceLT, if_true, if_false, true_and, and_true, and_self, Nat.reduceBEq, QOp.loads, boxO, bslO, buildO, cutL, fillV, putL, w21, v21, hg, decide_eq_false c3, Bool.not_false, D]
    exact no fun q => c3 q.2.2.1
  by_cases c4 : 120 * r.den < r.num
  · simp (maxSteps := 4000000) (disch := omega) only [ah, am, Nat.reduceEqDiff, reduceCtorEq, Nat.reduceAdd, Nat.reduceLeDiff, Nat.reduceMul, Nat.reduceLT, if_true, if_false, true_and, and_true, and_self, Nat.reduceBEq, QOp.loads, boxO, bslO, buildO, cutL, fillV, putL, w21, v21, hg, decide_eq_true c3, Bool.not_true, D, wm, decide_eq_true c4]
    exact no fun q => by have := q.2.2.2.1; omega
  have yes : (r.drop = true → r.den = 1001 ∧ (r.num = 30000 ∨ r.num = 60000)) → Ext h K ∧ Value.bool true = .bool (decide (rateOk r)) := fun q => ⟨eM, by rw [decide_eq_true ⟨c1, c2, c3, by omega, q⟩]⟩
  cases hd : r.drop with
  | false =>
    rw [hd] at D
    simp (maxSteps := 4000000) (disch := omega) only [ah, am, Nat.reduceEqDiff, reduceCtorEq, Nat.reduceAdd, Nat.reduceLeDiff, Nat.reduceMul, Nat.reduceLT, if_true, if_false, true_and, and_true, and_self, Nat.reduceBEq, QOp.loads, boxO, bslO, buildO, cutL, fillV, putL, w21, v21, hg, decide_eq_true c3, Bool.not_true, D, wm, decide_eq_false c4]
    exact yes fun q => by rw [hd] at q; cases q
  | true =>
    rw [hd] at D
    by_cases c5 : r.den = 1001
    rotate_left
    · simp (maxSteps := 4000000) (disch := omega) only [ah, am, Nat.reduceEqDiff, reduceCtorEq, Nat.reduceAdd, Nat.reduceLeDiff, Nat.reduceMul, Nat.reduceLT, if_true, if_false, true_and, and_true, and_self, Nat.reduceBEq, QOp.loads, boxO, bslO, buildO, cutL, fillV, putL, w21, v21, hg, decide_eq_true c3, Bool.not_true, D, wm, decide_eq_false c4, decide_eq_false c5]
      exact no fun q => c5 (q.2.2.2.2 hd).1
    by_cases c6 : r.num = 30000
    · simp (maxSteps := 4000000) (disch := omega) only [ah, am, Nat.reduceEqDiff, reduceCtorEq, Nat.reduceAdd, Nat.reduceLeDiff, Nat.reduceMul, Nat.reduceLT, if_true, if_false, true_and, and_true, and_self, Nat.reduceBEq, QOp.loads, boxO, bslO, buildO, cutL, fillV, putL, w21, v21, hg, decide_eq_true c3, Bool.not_true, D, wm, decide_eq_false c4, decide_eq_true c5, decide_eq_true c6]
      exact yes fun _ => ⟨c5, .inl c6⟩
    by_cases c7 : r.num = 60000
    · simp (maxSteps := 4000000) (disch := omega) only [ah, am, Nat.reduceEqDiff, reduceCtorEq, Nat.reduceAdd, Nat.reduceLeDiff, Nat.reduceMul, Nat.reduceLT, if_true, if_false, true_and, and_true, and_self, Nat.reduceBEq, QOp.loads, boxO, bslO, buildO, cutL, fillV, putL, w21, v21, hg, decide_eq_true c3, Bool.not_true, D, wm, decide_eq_false c4, decide_eq_true c5, decide_eq_false c6, decide_eq_true c7]
      exact yes fun _ => ⟨c5, .inr c7⟩
    · simp (maxSteps := 4000000) (disch := omega) only [ah, am, Nat.reduceEqDiff, reduceCtorEq, Nat.reduceAdd, Nat.reduceLeDiff, Nat.reduceMul, Nat.reduceLT, if_true, if_false, true_and, and_true, and_self, Nat.reduceBEq, QOp.loads, boxO, bslO, buildO, cutL, fillV, putL, w21, v21, hg, decide_eq_true c3, Bool.not_true, D, wm, decide_eq_false c4, decide_eq_true c5, decide_eq_false c6, decide_eq_false c7]
      exact no fun q => by rcases (q.2.2.2.2 hd).2 with q | q <;> omega
theorem specRateOk_ok (h : Heap) (r : Rate) : ACall Tryz.prog 19 [.agg (encRate r).toArray] h fun x h' => Ext h h' ∧ x = .bool (decide (rateOk r)) := by
  have B := Bx.new h (encRate r) []
  have eM := Ext.more h [encRate r]
  have D := B.ld
  simp only [encRate] at D eM
  refine ACall.of Tryz.func19 s19 (of_decide_eq_true rfl) ?_
  simp (maxSteps := 4000000) (disch := omega) only [ah, am, Nat.reduceEqDiff, reduceCtorEq, Nat.reduceAdd, Nat.reduceLeDiff, Nat.reduceMul, Nat.reduceLT, if_true, if_false, true_and, and_true, and_self, Nat.reduceBEq, QOp.loads, boxO, bslO, buildO, cutL, fillV, putL, w19, v19, encRate]
  obtain ⟨K, hK⟩ : ∃ K, K = h.more [[.int .i64 r.num, .int .i64 r.den, .bool r.drop]] := ⟨_, rfl⟩
  rw [← hK] at D eM ⊢
  have no : ¬ rateOk r → Ext h K ∧ Value.bool false = .bool (decide (rateOk r)) := fun q => ⟨eM, by rw [decide_eq_false q]⟩
  refine stepC.of (l1In_ok K r.num 1 240000) ?_
  rintro _ Hx ⟨hx, rfl⟩; rw [hx]; clear hx Hx
  by_cases c1 : 1 ≤ r.num ∧ r.num ≤ 240000
  rotate_left
  · simp (maxSteps := 4000000) (disch := omega) only [ah, am, Nat.reduceEqDiff, reduceCtorEq, Nat.reduceAdd, Nat.reduceLeDiff, Nat.reduceMul, Nat.reduceLT, if_true, if_false, true_and, and_true, and_self, Nat.reduceBEq, QOp.loads, boxO, bslO, buildO, cutL, fillV, putL, w19, v19, decide_eq_false c1, D]
    exact no fun q => c1 q.1
  simp (maxSteps := 4000000) (disch := omega) only [ah, am, Nat.reduceEqDiff, reduceCtorEq, Nat.reduceAdd, Nat.reduceLeDiff, Nat.reduceMul, Nat.reduceLT, if_true, if_false, true_and, and_true, and_self, Nat.reduceBEq, QOp.loads, boxO, bslO, buildO, cutL, fillV, putL, w19, v19, decide_eq_true c1, D]
  refine stepC.of (l1In_ok K r.den 1 1001) ?_
  rintro _ Hx ⟨hx, rfl⟩; rw [hx]; clear hx Hx
  by_cases c2 : 1 ≤ r.den ∧ r.den ≤ 1001
  rotate_left
  · simp (maxSteps := 4000000) (disch := omega) only [ah, am, Nat.reduceEqDiff, reduceCtorEq, Nat.reduceAdd, Nat.reduceLeDiff, Nat.reduceMul, Nat.reduceLT, if_true, if_false, true_and, and_true, and_self, Nat.reduceBEq, QOp.loads, boxO, bslO, buildO, cutL, fillV, putL, w19, v19, decide_eq_false c2, D]
    exact no fun q => c2 q.2.1
  have g := l1Gcd_ok K r.num.toNat r.den.toNat (by omega) (by omega)
  rw [show ((r.num.toNat : Nat) : Int) = r.num from by omega, show ((r.den.toNat : Nat) : Int) = r.den from by omega] at g
  simp (maxSteps := 4000000) (disch := omega) only [ah, am, Nat.reduceEqDiff, reduceCtorEq, Nat.reduceAdd, Nat.reduceLeDiff, Nat.reduceMul, Nat.reduceLT, if_true, if_false, true_and, and_true, and_self, Nat.reduceBEq, QOp.loads, boxO, bslO, buildO, cutL, fillV, putL, w19, v19, decide_eq_true c2, D]
  refine stepC.of g ?_
  rintro _ Hx ⟨hx, rfl⟩; rw [hx]; clear hx Hx
  have hg : decide (((Nat.gcd r.num.toNat r.den.toNat : Nat) : Int) = 1) = decide (Nat.gcd r.num.toNat r.den.toNat = 1) := decide_eq_decide.mpr ⟨fun q => by omega, fun q => by omega⟩
  have wm : IntKind.i64.wrap (120 * r.den) = 120 * r.den := i64e rfl (by omega)
  by_cases c3 : Nat.gcd r.num.toNat r.den.toNat = 1
  rotate_left
  · simp (maxSteps := 4000000) (disch := omega) only [ah, am, Nat.reduceEqDiff, reduceCtorEq, Nat.reduceAdd, Nat.reduceLeDiff, Nat.reduceMul, Nat.reduceLT, if_true, if_false, true_and, and_true, and_self, Nat.reduceBEq, QOp.loads, boxO, bslO, buildO, cutL, fillV, putL, w19, v19, hg, decide_eq_false c3, Bool.not_false, D]
    exact no fun q => c3 q.2.2.1
  by_cases c4 : 120 * r.den < r.num
  · simp (maxSteps := 4000000) (disch := omega) only [ah, am, Nat.reduceEqDiff, reduceCtorEq, Nat.reduceAdd, Nat.reduceLeDiff, Nat.reduceMul, Nat.reduceLT, if_true, if_false, true_and, and_true, and_self, Nat.reduceBEq, QOp.loads, boxO, bslO, buildO, cutL, fillV, putL, w19, v19, hg, decide_eq_true c3, Bool.not_true, D, wm, decide_eq_true c4]
    exact no fun q => by have := q.2.2.2.1; omega
  have yes : (r.drop = true → r.den = 1001 ∧ (r.num = 30000 ∨ r.num = 60000)) → Ext h K ∧ Value.bool true = .bool (decide (rateOk r)) := fun q => ⟨eM, by rw [decide_eq_true ⟨c1, c2, c3, by omega, q⟩]⟩
  cases hd : r.drop with
  | false =>
    rw [hd] at D
    simp (maxSteps := 4000000) (disch := omega) only [ah, am, Nat.reduceEqDiff, reduceCtorEq, Nat.reduceAdd, Nat.reduceLeDiff, Nat.reduceMul, Nat.reduceLT, if_true, if_false, true_and, and_true, and_self, Nat.reduceBEq, QOp.loads, boxO, bslO, buildO, cutL, fillV, putL, w19, v19, hg, decide_eq_true c3, Bool.not_true, D, wm, decide_eq_false c4]
    exact yes fun q => by rw [hd] at q; cases q
  | true =>
    rw [hd] at D
    by_cases c5 : r.den = 1001
    rotate_left
    · simp (maxSteps := 4000000) (disch := omega) only [ah, am, Nat.reduceEqDiff, reduceCtorEq, Nat.reduceAdd, Nat.reduceLeDiff, Nat.reduceMul, Nat.reduceLT, if_true, if_false, true_and, and_true, and_self, Nat.reduceBEq, QOp.loads, boxO, bslO, buildO, cutL, fillV, putL, w19, v19, hg, decide_eq_true c3, Bool.not_true, D, wm, decide_eq_false c4, decide_eq_false c5]
      exact no fun q => c5 (q.2.2.2.2 hd).1
    by_cases c6 : r.num = 30000
    · simp (maxSteps := 4000000) (disch := omega) only [ah, am, Nat.reduceEqDiff, reduceCtorEq, Nat.reduceAdd, Nat.reduceLeDiff, Nat.reduceMul, Nat.reduceLT, if_true, if_false, true_and, and_true, and_self, Nat.reduceBEq, QOp.loads, boxO, bslO, buildO, cutL, fillV, putL, w19, v19, hg, decide_eq_true c3, Bool.not_true, D, wm, decide_eq_false c4, decide_eq_true c5, decide_eq_true c6]
      exact yes fun _ => ⟨c5, .inl c6⟩
    by_cases c7 : r.num = 60000
    · simp (maxSteps := 4000000) (disch := omega) only [ah, am, Nat.reduceEqDiff, reduceCtorEq, Nat.reduceAdd, Nat.reduceLeDiff, Nat.reduceMul, Nat.reduceLT, if_true, if_false, true_and, and_true, and_self, Nat.reduceBEq, QOp.loads, boxO, bslO, buildO, cutL, fillV, putL, w19, v19, hg, decide_eq_true c3, Bool.not_true, D, wm, decide_eq_false c4, decide_eq_true c5, decide_eq_false c6, decide_eq_true c7]
      exact yes fun _ => ⟨c5, .inr c7⟩
    · simp (maxSteps := 4000000) (disch := omega) only [ah, am, Nat.reduceEqDiff, reduceCtorEq, Nat.reduceAdd, Nat.reduceLeDiff, Nat.reduceMul, Nat.reduceLT, if_true, if_false, true_and, and_true, and_self, Nat.reduceBEq, QOp.loads, boxO, bslO, buildO, cutL, fillV, putL, w19, v19, hg, decide_eq_true c3, Bool.not_true, D, wm, decide_eq_false c4, decide_eq_true c5, decide_eq_false c6, decide_eq_false c7]
      exact no fun q => by rcases (q.2.2.2.2 hd).2 with q | q <;> omega
end Go.Proofs.YtgmimgmdbpcecaaGreatDoor
end

section
namespace Go.Proofs.YtgmimgmdbpcecaaGreatDoor
open Go Go.Ah
set_option linter.unusedSimpArgs false
set_option linter.unusedVariables false
set_option maxRecDepth 10000
set_option maxHeartbeats 4000000
/-! 64 loop.example/g00066/spec.Base: parameters 1, live [0], slots [0:r, 1:r] -/
def c64_0 : List SOper := [⟨some 1, .a (.box (.t 0)), none⟩, ⟨some 2, .q (.mv (.c (.int .i64 0))), none⟩]
def c64_1 : List SOper := [⟨some 3, .q (.ldn 3 (.t 1)), none⟩, ⟨some 4, .e (.call 19 [(.t 3)]), none⟩, ⟨some 5, .q (.not (.t 4)), none⟩]
def c64_2 : List SOper := [⟨some 2, .q (.mv (.c (.int .i64 0))), none⟩]
def c64_3 : SCode := .seq (.region c64_2 [2]) .ret
def c64_4 : SCode := .cond (.t 5) c64_3 .skip
def c64_5 : SCode := .seq (.region c64_1 [1, 5]) c64_4
def c64_6 : List SOper := [⟨some 6, .q (.fa 0 (.t 1)), none⟩, ⟨some 7, .q (.ld (.t 6)), none⟩, ⟨some 8, .q (.fa 1 (.t 1)), none⟩, ⟨some 9, .q (.ld (.t 8)), none⟩, ⟨some 10, .q (.bin .add (.t 7) (.t 9)), none⟩, ⟨some 11, .q (.bin .sub (.t 10) (.c (.int .i64 1))), none⟩, ⟨some 12, .q (.fa 1 (.t 1)), none⟩, ⟨some 13, .q (.ld (.t 12)), none⟩, ⟨some 14, .q (.bin .quo (.t 11) (.t 13)), none⟩, ⟨some 2, .q (.mv (.t 14)), none⟩]
def c64_7 : SCode := .seq (.region c64_6 [2]) .ret
def c64_8 : SCode := .seq c64_5 c64_7
def c64_9 : SCode := .seq (.region c64_0 [1]) c64_8
def c64 : SCode := c64_9
theorem w64 : type_of% (And.intro (uR Tryz.prog c64_0.eq_1) (And.intro (uR Tryz.prog c64_1.eq_1) (And.intro (uR Tryz.prog c64_2.eq_1) (And.intro (uC Tryz.prog c64_3.eq_1) (And.intro (uC Tryz.prog c64_4.eq_1) (And.intro (uC Tryz.prog c64_5.eq_1) (And.intro (uR Tryz.prog c64_6.eq_1) (And.intro (uC Tryz.prog c64_7.eq_1) (And.intro (uC Tryz.prog c64_8.eq_1) (And.intro (uC Tryz.prog c64_9.eq_1) (uC Tryz.prog c64.eq_1))))))))))) := (And.intro (uR Tryz.prog c64_0.eq_1) (And.intro (uR Tryz.prog c64_1.eq_1) (And.intro (uR Tryz.prog c64_2.eq_1) (And.intro (uC Tryz.prog c64_3.eq_1) (And.intro (uC Tryz.prog c64_4.eq_1) (And.intro (uC Tryz.prog c64_5.eq_1) (And.intro (uR Tryz.prog c64_6.eq_1) (And.intro (uC Tryz.prog c64_7.eq_1) (And.intro (uC Tryz.prog c64_8.eq_1) (And.intro (uC Tryz.prog c64_9.eq_1) (uC Tryz.prog c64.eq_1)))))))))))
def v64 : List RV := [.t 2]
theorem s64 : slimF Tryz.prog Tryz.f64 = some (c64.bare, v64) := by kernel_rfl
/-! 76 (loop.example/g00066/impl.Rate).base: parameters 1, live [0], slots [0:r, 1:r] -/
def c76_0 : List SOper := [⟨some 1, .a (.box (.t 0)), none⟩, ⟨some 2, .q (.mv (.c (.int .i64 0))), none⟩]
def c76_1 : List SOper := [⟨some 3, .q (.fa 0 (.t 1)), none⟩, ⟨some 4, .q (.ld (.t 3)), none⟩, ⟨some 5, .q (.fa 1 (.t 1)), none⟩, ⟨some 6, .q (.ld (.t 5)), none⟩, ⟨some 7, .q (.bin .add (.t 4) (.t 6)), none⟩, ⟨some 8, .q (.bin .sub (.t 7) (.c (.int .i64 1))), none⟩, ⟨some 9, .q (.fa 1 (.t 1)), none⟩, ⟨some 10, .q (.ld (.t 9)), none⟩, ⟨some 11, .q (.bin .quo (.t 8) (.t 10)), none⟩, ⟨some 2, .q (.mv (.t 11)), none⟩]
def c76_2 : SCode := .seq (.region c76_1 [2]) .ret
def c76_3 : SCode := .seq (.region c76_0 [1]) c76_2
def c76 : SCode := c76_3
theorem w76 : type_of% (And.intro (uR Tryz.prog c76_0.eq_1) (And.intro (uR Tryz.prog c76_1.eq_1) (And.intro (uC Tryz.prog c76_2.eq_1) (And.intro (uC Tryz.prog c76_3.eq_1) (uC Tryz.prog c76.eq_1))))) := (And.intro (uR Tryz.prog c76_0.eq_1) (And.intro (uR Tryz.prog c76_1.eq_1) (And.intro (uC Tryz.prog c76_2.eq_1) (And.intro (uC Tryz.prog c76_3.eq_1) (uC Tryz.prog c76.eq_1)))))
def v76 : List RV := [.t 2]
theorem s76 : slimF Tryz.prog Tryz.f76 = some (c76.bare, v76) := by kernel_rfl
/-! 77 (loop.example/g00066/impl.Rate).left: parameters 1, live [0], slots [0:r, 1:r] -/
def c77_0 : List SOper := [⟨some 1, .a (.box (.t 0)), none⟩, ⟨some 2, .q (.mv (.c (.int .i64 0))), none⟩]
def c77_1 : List SOper := [⟨some 4, .q (.fa 2 (.t 1)), none⟩, ⟨some 5, .q (.ld (.t 4)), none⟩, ⟨some 6, .q (.not (.t 5)), none⟩, ⟨some 3, .q (.mv (.t 6)), none⟩]
def c77_2 : List SOper := [⟨some 2, .q (.mv (.c (.int .i64 0))), none⟩]
def c77_3 : SCode := .seq (.region c77_2 [2]) .ret
def c77_4 : List SOper := [⟨some 8, .q (.fa 0 (.t 1)), none⟩, ⟨some 9, .q (.ld (.t 8)), none⟩, ⟨some 10, .q (.bin .eql (.t 9) (.c (.int .i64 60000))), none⟩, ⟨some 7, .q (.mv (.t 10)), none⟩]
def c77_5 : List SOper := [⟨some 2, .q (.mv (.c (.int .i64 4))), none⟩]
def c77_6 : SCode := .seq (.region c77_5 [2]) .ret
def c77_7 : SCode := .cond (.t 7) c77_6 .skip
def c77_8 : SCode := .seq (.region c77_4 [7]) c77_7
def c77_9 : SCode := .cond (.t 3) c77_3 c77_8
def c77_10 : SCode := .seq (.region c77_1 [1, 3]) c77_9
def c77_11 : SCode := .block 0 c77_10
def c77_12 : List SOper := [⟨some 2, .q (.mv (.c (.int .i64 2))), none⟩]
def c77_13 : SCode := .seq (.region c77_12 [2]) .ret
def c77_14 : SCode := .seq c77_11 c77_13
def c77_15 : SCode := .seq (.region c77_0 [1]) c77_14
def c77 : SCode := c77_15
theorem w77 : type_of% (And.intro (uR Tryz.prog c77_0.eq_1) (And.intro (uR Tryz.prog c77_1.eq_1) (And.intro (uR Tryz.prog c77_2.eq_1) (And.intro (uC Tryz.prog c77_3.eq_1) (And.intro (uR Tryz.prog c77_4.eq_1) (And.intro (uR Tryz.prog c77_5.eq_1) (And.intro (uC Tryz.prog c77_6.eq_1) (And.intro (uC Tryz.prog c77_7.eq_1) (And.intro (uC Tryz.prog c77_8.eq_1) (And.intro (uC Tryz.prog c77_9.eq_1) (And.intro (uC Tryz.prog c77_10.eq_1) (And.intro (uC Tryz.prog c77_11.eq_1) (And.intro (uR Tryz.prog c77_12.eq_1) (And.intro (uC Tryz.prog c77_13.eq_1) (And.intro (uC Tryz.prog c77_14.eq_1) (And.intro (uC Tryz.prog c77_15.eq_1) (uC Tryz.prog c77.eq_1))))))))))))))))) := (And.intro (uR Tryz.prog c77_0.eq_1) (And.intro (uR Tryz.prog c77_1.eq_1) (And.intro (uR Tryz.prog c77_2.eq_1) (And.intro (uC Tryz.prog c77_3.eq_1) (And.intro (uR Tryz.prog c77_4.eq_1) (And.intro (uR Tryz.prog c77_5.eq_1) (And.intro (uC Tryz.prog c77_6.eq_1) (And.intro (uC Tryz.prog c77_7.eq_1) (And.intro (uC Tryz.prog c77_8.eq_1) (And.intro (uC Tryz.prog c77_9.eq_1) (And.intro (uC Tryz.prog c77_10.eq_1) (And.intro (uC Tryz.prog c77_11.eq_1) (And.intro (uR Tryz.prog c77_12.eq_1) (And.intro (uC Tryz.prog c77_13.eq_1) (And.intro (uC Tryz.prog c77_14.eq_1) (And.intro (uC Tryz.prog c77_15.eq_1) (uC Tryz.prog c77.eq_1)))))))))))))))))
def v77 : List RV := [.t 2]
theorem s77 : slimF Tryz.prog Tryz.f77 = some (c77.bare, v77) := by kernel_rfl
/-! 81 (loop.example/g00066/impl.Rate).told: parameters 2, live [0, 1], slots [0:r, 1:frame, 2:r, 3:frame, 5:minute, 6:ten, 7:out, 8:rest] -/
def c81_0 : List SOper := [⟨some 2, .a (.box (.t 0)), none⟩, ⟨some 4, .q (.mv (.c (.int .i64 0))), none⟩]
def c81_1 : List SOper := [⟨some 9, .q (.ldn 3 (.t 2)), none⟩, ⟨some 10, .e (.call 76 [(.t 9)]), none⟩, ⟨some 11, .q (.bin .mul (.c (.int .i64 60)) (.t 10)), none⟩, ⟨some 5, .q (.mv (.t 11)), none⟩]
def c81_2 : List SOper := [⟨some 12, .q (.mv (.t 5)), none⟩, ⟨some 13, .q (.bin .mul (.c (.int .i64 10)) (.t 12)), none⟩, ⟨some 14, .q (.ldn 3 (.t 2)), none⟩, ⟨some 15, .e (.call 77 [(.t 14)]), none⟩, ⟨some 16, .q (.bin .mul (.c (.int .i64 9)) (.t 15)), none⟩, ⟨some 17, .q (.bin .sub (.t 13) (.t 16)), none⟩, ⟨some 6, .q (.mv (.t 17)), none⟩]
def c81_3 : List SOper := [⟨some 18, .q (.mv (.t 1)), none⟩, ⟨some 19, .q (.ldn 3 (.t 2)), none⟩, ⟨some 22, .q (.mv (.t 1)), none⟩, ⟨some 23, .q (.mv (.t 6)), none⟩, ⟨some 24, .q (.bin .quo (.t 22) (.t 23)), none⟩, ⟨some 27, .q (.mv (.t 1)), none⟩, ⟨some 28, .q (.mv (.t 6)), none⟩, ⟨some 29, .q (.bin .rem (.t 27) (.t 28)), none⟩, ⟨some 20, .e (.call 77 [(.t 19)]), none⟩, ⟨some 21, .q (.bin .mul (.c (.int .i64 9)) (.t 20)), none⟩, ⟨some 25, .q (.bin .mul (.t 21) (.t 24)), none⟩, ⟨some 26, .q (.bin .add (.t 18) (.t 25)), none⟩, ⟨some 7, .q (.mv (.t 26)), none⟩, ⟨some 8, .q (.mv (.t 29)), none⟩]
def c81_4 : List SOper := [⟨some 30, .q (.fa 2 (.t 2)), none⟩, ⟨some 31, .q (.ld (.t 30)), none⟩, ⟨some 32, .q (.mv (.t 31)), none⟩, ⟨some 33, .q (.mv (.t 8)), some (32, true)⟩, ⟨some 34, .q (.mv (.t 5)), some (32, true)⟩, ⟨some 35, .q (.bin .geq (.t 33) (.t 34)), some (32, true)⟩, ⟨some 36, .q (.pick (.t 32) (.t 35) (.c (.bool false))), none⟩]
def c81_5 : List DOper := [⟨0, ⟨some 37, .q (.mv (.t 7)), none⟩, [], []⟩, ⟨1, ⟨some 38, .q (.ldn 3 (.t 2)), none⟩, [], []⟩, ⟨3, ⟨some 40, .q (.mv (.t 8)), none⟩, [], []⟩, ⟨4, ⟨some 41, .q (.mv (.t 5)), none⟩, [], []⟩, ⟨5, ⟨some 42, .q (.bin .sub (.t 40) (.t 41)), none⟩, [], []⟩, ⟨6, ⟨some 43, .q (.mv (.t 5)), none⟩, [], []⟩, ⟨7, ⟨some 44, .q (.ldn 3 (.t 2)), none⟩, [], []⟩, ⟨2, ⟨some 39, .e (.call 77 [(.t 38)]), none⟩, [], [7]⟩, ⟨8, ⟨some 45, .e (.call 77 [(.t 44)]), none⟩, [], []⟩, ⟨9, ⟨some 46, .q (.bin .sub (.t 43) (.t 45)), none⟩, [], []⟩, ⟨10, ⟨some 47, .q (.bin .quo (.t 42) (.t 46)), none⟩, [], []⟩, ⟨11, ⟨some 48, .q (.bin .add (.c (.int .i64 1)) (.t 47)), none⟩, [], []⟩, ⟨12, ⟨some 49, .q (.bin .mul (.t 39) (.t 48)), none⟩, [], []⟩, ⟨13, ⟨some 50, .q (.bin .add (.t 37) (.t 49)), none⟩, [], []⟩, ⟨14, ⟨some 7, .q (.mv (.t 50)), none⟩, [], []⟩]
def c81_6 : SCode := .cond (.t 36) (.dregion c81_5 [7]) .skip
def c81_7 : SCode := .seq (.region c81_4 [2, 5, 7, 8, 36]) c81_6
def c81_8 : List SOper := [⟨some 51, .q (.mv (.t 7)), none⟩, ⟨some 4, .q (.mv (.t 51)), none⟩]
def c81_9 : SCode := .seq (.region c81_8 [4]) .ret
def c81_10 : SCode := .seq c81_7 c81_9
def c81_11 : SCode := .seq (.region c81_3 [2, 5, 7, 8]) c81_10
def c81_12 : SCode := .seq (.region c81_2 [1, 2, 5, 6]) c81_11
def c81_13 : SCode := .seq (.region c81_1 [1, 2, 5]) c81_12
def c81_14 : SCode := .seq (.region c81_0 [1, 2]) c81_13
def c81 : SCode := c81_14
theorem w81 : type_of% (And.intro (uR Tryz.prog c81_0.eq_1) (And.intro (uR Tryz.prog c81_1.eq_1) (And.intro (uR Tryz.prog c81_2.eq_1) (And.intro (uR Tryz.prog c81_3.eq_1) (And.intro (uR Tryz.prog c81_4.eq_1) (And.intro (uD Tryz.prog c81_5.eq_1) (And.intro (uC Tryz.prog c81_6.eq_1) (And.intro (uC Tryz.prog c81_7.eq_1) (And.intro (uR Tryz.prog c81_8.eq_1) (And.intro (uC Tryz.prog c81_9.eq_1) (And.intro (uC Tryz.prog c81_10.eq_1) (And.intro (uC Tryz.prog c81_11.eq_1) (And.intro (uC Tryz.prog c81_12.eq_1) (And.intro (uC Tryz.prog c81_13.eq_1) (And.intro (uC Tryz.prog c81_14.eq_1) (uC Tryz.prog c81.eq_1)))))))))))))))) := (And.intro (uR Tryz.prog c81_0.eq_1) (And.intro (uR Tryz.prog c81_1.eq_1) (And.intro (uR Tryz.prog c81_2.eq_1) (And.intro (uR Tryz.prog c81_3.eq_1) (And.intro (uR Tryz.prog c81_4.eq_1) (And.intro (uD Tryz.prog c81_5.eq_1) (And.intro (uC Tryz.prog c81_6.eq_1) (And.intro (uC Tryz.prog c81_7.eq_1) (And.intro (uR Tryz.prog c81_8.eq_1) (And.intro (uC Tryz.prog c81_9.eq_1) (And.intro (uC Tryz.prog c81_10.eq_1) (And.intro (uC Tryz.prog c81_11.eq_1) (And.intro (uC Tryz.prog c81_12.eq_1) (And.intro (uC Tryz.prog c81_13.eq_1) (And.intro (uC Tryz.prog c81_14.eq_1) (uC Tryz.prog c81.eq_1))))))))))))))))
def v81 : List RV := [.t 4]
theorem s81 : slimF Tryz.prog Tryz.f81 = some (c81.bare, v81) := by kernel_rfl
/-! 80 loop.example/g00066/impl.isFrame: parameters 1, live [0], slots [0:n, 1:n] -/
def c80_0 : List SOper := [⟨some 2, .q (.mv (.c (.bool false))), none⟩]
def c80_1 : List SOper := [⟨some 3, .q (.mv (.t 0)), none⟩, ⟨some 4, .e (.call 46 [(.t 3), (.c (.int .i64 0)), (.c (.int .i64 10000000))]), none⟩, ⟨some 2, .q (.mv (.t 4)), none⟩]
def c80_2 : SCode := .seq (.region c80_1 [2]) .ret
def c80_3 : SCode := .seq (.region c80_0 [0]) c80_2
def c80 : SCode := c80_3
theorem w80 : type_of% (And.intro (uR Tryz.prog c80_0.eq_1) (And.intro (uR Tryz.prog c80_1.eq_1) (And.intro (uC Tryz.prog c80_2.eq_1) (And.intro (uC Tryz.prog c80_3.eq_1) (uC Tryz.prog c80.eq_1))))) := (And.intro (uR Tryz.prog c80_0.eq_1) (And.intro (uR Tryz.prog c80_1.eq_1) (And.intro (uC Tryz.prog c80_2.eq_1) (And.intro (uC Tryz.prog c80_3.eq_1) (uC Tryz.prog c80.eq_1)))))
def v80 : List RV := [.t 2]
theorem s80 : slimF Tryz.prog Tryz.f80 = some (c80.bare, v80) := by kernel_rfl
/-! 65 loop.example/g00066/spec.l1Frame: parameters 1, live [0], slots [0:f, 1:f] -/
def c65_0 : List SOper := [⟨some 2, .q (.mv (.c (.bool false))), none⟩]
def c65_1 : List SOper := [⟨some 3, .q (.mv (.t 0)), none⟩, ⟨some 4, .e (.call 39 [(.t 3), (.c (.int .i64 0)), (.c (.int .i64 10000000))]), none⟩, ⟨some 2, .q (.mv (.t 4)), none⟩]
def c65_2 : SCode := .seq (.region c65_1 [2]) .ret
def c65_3 : SCode := .seq (.region c65_0 [0]) c65_2
def c65 : SCode := c65_3
theorem w65 : type_of% (And.intro (uR Tryz.prog c65_0.eq_1) (And.intro (uR Tryz.prog c65_1.eq_1) (And.intro (uC Tryz.prog c65_2.eq_1) (And.intro (uC Tryz.prog c65_3.eq_1) (uC Tryz.prog c65.eq_1))))) := (And.intro (uR Tryz.prog c65_0.eq_1) (And.intro (uR Tryz.prog c65_1.eq_1) (And.intro (uC Tryz.prog c65_2.eq_1) (And.intro (uC Tryz.prog c65_3.eq_1) (uC Tryz.prog c65.eq_1)))))
def v65 : List RV := [.t 2]
theorem s65 : slimF Tryz.prog Tryz.f65 = some (c65.bare, v65) := by kernel_rfl
/-! 6 loop.example/g00066/laws.toRate: parameters 1, live [0], slots [0:a, 1:a, 3:out] -/
def c6_0 : List SOper := [⟨some 1, .a (.box (.t 0)), none⟩, ⟨some 2, .a (.new [(.int .i64 0), (.int .i64 0), (.bool false)]), none⟩]
def c6_1 : List SOper := [⟨some 3, .a (.new [(.int .i64 0), (.int .i64 0), (.bool false)]), none⟩]
def c6_2 : List SOper := [⟨some 4, .q (.fa 0 (.t 1)), none⟩, ⟨some 5, .q (.ld (.t 4)), none⟩, ⟨some 6, .q (.fa 0 (.t 3)), none⟩, ⟨none, .e (.st 1 (.t 6) (.t 5)), none⟩]
def c6_3 : List SOper := [⟨some 7, .q (.fa 1 (.t 1)), none⟩, ⟨some 8, .q (.ld (.t 7)), none⟩, ⟨some 9, .q (.fa 1 (.t 3)), none⟩, ⟨none, .e (.st 1 (.t 9) (.t 8)), none⟩]
def c6_4 : List SOper := [⟨some 10, .q (.fa 2 (.t 1)), none⟩, ⟨some 11, .q (.ld (.t 10)), none⟩, ⟨some 12, .q (.fa 2 (.t 3)), none⟩, ⟨none, .e (.st 1 (.t 12) (.t 11)), none⟩]
def c6_5 : List SOper := [⟨some 13, .q (.ldn 3 (.t 3)), none⟩, ⟨none, .e (.st 3 (.t 2) (.t 13)), none⟩]
def c6_6 : SCode := .seq (.region c6_5 [2]) .ret
def c6_7 : SCode := .seq (.region c6_4 [2, 3]) c6_6
def c6_8 : SCode := .seq (.region c6_3 [1, 2, 3]) c6_7
def c6_9 : SCode := .seq (.region c6_2 [1, 2, 3]) c6_8
def c6_10 : SCode := .seq (.region c6_1 [1, 2, 3]) c6_9
def c6_11 : SCode := .seq (.region c6_0 [1, 2]) c6_10
def c6 : SCode := c6_11
theorem w6 : type_of% (And.intro (uR Tryz.prog c6_0.eq_1) (And.intro (uR Tryz.prog c6_1.eq_1) (And.intro (uR Tryz.prog c6_2.eq_1) (And.intro (uR Tryz.prog c6_3.eq_1) (And.intro (uR Tryz.prog c6_4.eq_1) (And.intro (uR Tryz.prog c6_5.eq_1) (And.intro (uC Tryz.prog c6_6.eq_1) (And.intro (uC Tryz.prog c6_7.eq_1) (And.intro (uC Tryz.prog c6_8.eq_1) (And.intro (uC Tryz.prog c6_9.eq_1) (And.intro (uC Tryz.prog c6_10.eq_1) (And.intro (uC Tryz.prog c6_11.eq_1) (uC Tryz.prog c6.eq_1))))))))))))) := (And.intro (uR Tryz.prog c6_0.eq_1) (And.intro (uR Tryz.prog c6_1.eq_1) (And.intro (uR Tryz.prog c6_2.eq_1) (And.intro (uR Tryz.prog c6_3.eq_1) (And.intro (uR Tryz.prog c6_4.eq_1) (And.intro (uR Tryz.prog c6_5.eq_1) (And.intro (uC Tryz.prog c6_6.eq_1) (And.intro (uC Tryz.prog c6_7.eq_1) (And.intro (uC Tryz.prog c6_8.eq_1) (And.intro (uC Tryz.prog c6_9.eq_1) (And.intro (uC Tryz.prog c6_10.eq_1) (And.intro (uC Tryz.prog c6_11.eq_1) (uC Tryz.prog c6.eq_1)))))))))))))
def v6 : List RV := [.c 2 (some 3)]
theorem s6 : slimF Tryz.prog Tryz.f6 = some (c6.bare, v6) := by kernel_rfl

def baseN (r : Rate) : Nat := ((r.num + r.den - 1) / r.den).toNat
def leftN (r : Rate) : Nat := if r.drop = true then (if r.num = 60000 then 4 else 2) else 0
def toldN (r : Rate) (f : Nat) : Nat :=
  f + 9 * leftN r * (f / (10 * (60 * baseN r) - 9 * leftN r)) + (if r.drop = true ∧ 60 * baseN r ≤ f % (10 * (60 * baseN r) - 9 * leftN r) then
    leftN r * (1 + (f % (10 * (60 * baseN r) - 9 * leftN r) - 60 * baseN r) / (60 * baseN r - leftN r)) else 0)
theorem base_bd {r : Rate} (h : rateOk r) : ((baseN r : Nat) : Int) = (r.num + r.den - 1) / r.den ∧ 1 ≤ baseN r ∧ baseN r ≤ 120 := by
  obtain ⟨h1, h2, _, h4, _⟩ := h
  have e1 : 1 ≤ (r.num + r.den - 1) / r.den := by
    rw [Int.le_ediv_iff_mul_le (by omega)]; omega
  have e2 : (r.num + r.den - 1) / r.den < 121 := by
    rw [Int.ediv_lt_iff_lt_mul (by omega)]; omega
  unfold baseN
  omega
theorem drop_two {r : Rate} (h : rateOk r) (hd : r.drop = true) : (baseN r = 30 ∧ leftN r = 2) ∨ (baseN r = 60 ∧ leftN r = 4) := by
  obtain ⟨_, _, _, _, h5⟩ := h
  obtain ⟨h6, h7⟩ := h5 hd
  rcases h7 with h7 | h7
  · left; unfold baseN leftN; rw [h6, h7, hd]; decide
  · right; unfold baseN leftN; rw [h6, h7, hd]; decide
theorem left_le (r : Rate) : leftN r ≤ 4 := by
  unfold leftN
  split
  · split <;> omega
  · omega
theorem base_ok (h : Heap) (r : Rate) (hr : rateOk r) : ACall Tryz.prog 76 [.agg (encRate r).toArray] h fun x h' => Ext h h' ∧ x = .int .i64 (baseN r : Int) := by
  have D := (Bx.new h (encRate r) []).ld
  obtain ⟨b1, b2, b3⟩ := base_bd hr
  obtain ⟨h1, h2, _⟩ := hr
  simp only [encRate] at D
  have w1 : IntKind.i64.wrap (r.num + r.den) = r.num + r.den := i64e rfl (by omega)
  have w2 : IntKind.i64.wrap (r.num + r.den - 1) = r.num + r.den - 1 := i64e rfl (by omega)
  have d1 : IntKind.i64.wrap ((r.num + r.den - 1).tdiv r.den) = (baseN r : Int) := i64e (by rw [Int.tdiv_eq_ediv_of_nonneg (by omega), b1]) (by omega)
  have n0 : r.den ≠ 0 := by omega
  refine ACall.of Tryz.func76 s76 (of_decide_eq_true rfl) ?_
  simp (maxSteps := 4000000) (disch := omega) only [ah, am, Nat.reduceEqDiff, reduceCtorEq, Nat.reduceAdd, Nat.reduceLeDiff, Nat.reduceMul, Nat.reduceLT, if_true, if_false, true_and, and_true, and_self, Nat.reduceBEq, QOp.loads, boxO, bslO, buildO, cutL, fillV, putL, w76, v76, encRate, D, w1, w2, d1, n0, ne_eq, not_false_eq_true]
  exact Ext.more _ _
theorem specBase_ok (h : Heap) (r : Rate) : ACall Tryz.prog 64 [.agg (encRate r).toArray] h fun x h' => Ext h h' ∧ x = .int .i64 (if rateOk r then (baseN r : Int) else 0) := by
  have B := Bx.new h (encRate r) []
  have eM := Ext.more h [encRate r]
  have rk := specRateOk_ok (h.more [encRate r]) r
  simp only [encRate] at B eM rk
  refine ACall.of Tryz.func64 s64 (of_decide_eq_true rfl) ?_
  simp (maxSteps := 4000000) (disch := omega) only [ah, am, Nat.reduceEqDiff, reduceCtorEq, Nat.reduceAdd, Nat.reduceLeDiff, Nat.reduceMul, Nat.reduceLT, if_true, if_false, true_and, and_true, and_self, Nat.reduceBEq, QOp.loads, boxO, bslO, buildO, cutL, fillV, putL, w64, v64, encRate, B.ld]
  refine stepC.of rk ?_
  rintro _ H1 ⟨e1, rfl⟩
  by_cases hr : rateOk r
  · rw [if_pos hr]
    obtain ⟨b1, b2, b3⟩ := base_bd hr
    have hr0 := hr
    obtain ⟨h1, h2, _⟩ := hr
    have w1 : IntKind.i64.wrap (r.num + r.den) = r.num + r.den := i64e rfl (by omega)
    have w2 : IntKind.i64.wrap (r.num + r.den - 1) = r.num + r.den - 1 := i64e rfl (by omega)
    have d1 : IntKind.i64.wrap ((r.num + r.den - 1).tdiv r.den) = (baseN r : Int) := i64e (by rw [Int.tdiv_eq_ediv_of_nonneg (by omega), b1]) (by omega)
    have n0 : r.den ≠ 0 := by omega
    simp (maxSteps := 4000000) (disch := omega) only [ah, am, Nat.reduceEqDiff, reduceCtorEq, Nat.reduceAdd, Nat.reduceLeDiff, Nat.reduceMul, Nat.reduceLT, if_true, if_false, true_and, and_true, and_self, Nat.reduceBEq, QOp.loads, boxO, bslO, buildO, cutL, fillV, putL, w64, v64, decide_eq_true hr0, (B.ext e1).ld, w1, w2, d1, n0, ne_eq, not_false_eq_true]
    exact eM.trans e1
  · rw [if_neg hr]
    simp (maxSteps := 4000000) (disch := omega) only [ah, am, Nat.reduceEqDiff, reduceCtorEq, Nat.reduceAdd, Nat.reduceLeDiff, Nat.reduceMul, Nat.reduceLT, if_true, if_false, true_and, and_true, and_self, Nat.reduceBEq, QOp.loads, boxO, bslO, buildO, cutL, fillV, putL, w64, v64, decide_eq_false hr]
    exact eM.trans e1
theorem left_ok (h : Heap) (r : Rate) : ACall Tryz.prog 77 [.agg (encRate r).toArray] h fun x h' => Ext h h' ∧ x = .int .i64 (leftN r : Int) := by
  have D := (Bx.new h (encRate r) []).ld
  simp only [encRate] at D
  refine ACall.of Tryz.func77 s77 (of_decide_eq_true rfl) ?_
  unfold leftN
  cases hd : r.drop with
  | false =>
    rw [hd] at D
    simp (maxSteps := 4000000) (disch := omega) only [ah, am, Nat.reduceEqDiff, reduceCtorEq, Nat.reduceAdd, Nat.reduceLeDiff, Nat.reduceMul, Nat.reduceLT, if_true, if_false, true_and, and_true, and_self, Nat.reduceBEq, QOp.loads, boxO, bslO, buildO, cutL, fillV, putL, w77, v77, encRate, hd, D]
    exact ⟨Ext.more _ _, rfl⟩
  | true =>
    rw [hd] at D
    by_cases c : r.num = 60000
    · simp (maxSteps := 4000000) (disch := omega) only [ah, am, Nat.reduceEqDiff, reduceCtorEq, Nat.reduceAdd, Nat.reduceLeDiff, Nat.reduceMul, Nat.reduceLT, if_true, if_false, true_and, and_true, and_self, Nat.reduceBEq, QOp.loads, boxO, bslO, buildO, cutL, fillV, putL, w77, v77, encRate, hd, D, decide_eq_true c]
      exact ⟨Ext.more _ _, by simp [c]⟩
    · simp (maxSteps := 4000000) (disch := omega) only [ah, am, Nat.reduceEqDiff, reduceCtorEq, Nat.reduceAdd, Nat.reduceLeDiff, Nat.reduceMul, Nat.reduceLT, if_true, if_false, true_and, and_true, and_self, Nat.reduceBEq, QOp.loads, boxO, bslO, buildO, cutL, fillV, putL, w77, v77, encRate, hd, D, decide_eq_false c]
      exact ⟨Ext.more _ _, by simp [c]⟩
end Go.Proofs.YtgmimgmdbpcecaaGreatDoor
end

section
namespace Go.Proofs.YtgmimgmdbpcecaaGreatDoor
open Go Go.Ah
set_option linter.unusedSimpArgs false
set_option linter.unusedVariables false
set_option maxRecDepth 10000
set_option maxHeartbeats 4000000
theorem told_ok (h : Heap) (r : Rate) (f : Nat) (hr : rateOk r) (hf : f ≤ 10000000) : ACall Tryz.prog 81 [.agg (encRate r).toArray, .int .i64 (f : Int)] h fun x h' => Ext h h' ∧ x = .int .i64 (toldN r f : Int) := by
  have B := Bx.new h (encRate r) []
  have eM := Ext.more h [encRate r]
  obtain ⟨b1, b2, b3⟩ := base_bd hr
  have hl := left_le r
  have e := base_ok (h.more [encRate r]) r hr
  simp only [encRate] at B eM e
  unfold toldN
  obtain ⟨b, hb⟩ : ∃ b, b = baseN r := ⟨_, rfl⟩
  obtain ⟨l, hll⟩ : ∃ l, l = leftN r := ⟨_, rfl⟩
  have LO := fun (K : Heap) => left_ok K r
  simp only [encRate] at LO
  rw [← hb] at b2 b3 e ⊢
  rw [← hll] at hl ⊢
  simp only [← hll] at LO
  obtain ⟨t, ht⟩ : ∃ t, t = 10 * (60 * b) - 9 * l := ⟨_, rfl⟩
  rw [← ht]
  have t0 : 0 < t := by omega
  have w1 : IntKind.i64.wrap (60 * (b : Int)) = ((60 * b : Nat) : Int) := i64e (by omega) (by omega)
  have w2 : IntKind.i64.wrap (10 * ((60 * b : Nat) : Int)) = ((10 * (60 * b) : Nat) : Int) := i64e (by omega) (by omega)
  have w3 : IntKind.i64.wrap (9 * (l : Int)) = ((9 * l : Nat) : Int) := i64e (by omega) (by omega)
  have w4 : IntKind.i64.wrap (((10 * (60 * b) : Nat) : Int) - ((9 * l : Nat) : Int)) = (t : Int) := i64e (by omega) (by omega)
  have hq : f / t ≤ f := Nat.div_le_self _ _
  have hm : f % t < t := Nat.mod_lt _ t0
  obtain ⟨qn, hqn⟩ : ∃ q, q = f / t := ⟨_, rfl⟩
  obtain ⟨rn, hrn⟩ : ∃ q, q = f % t := ⟨_, rfl⟩
  have q1 : (f : Int).tdiv (t : Int) = (qn : Int) := by rw [Int.tdiv_eq_ediv_of_nonneg (by omega), hqn]; rfl
  have r1 : (f : Int).tmod (t : Int) = (rn : Int) := by rw [Int.tmod_eq_emod_of_nonneg (by omega), hrn]; rfl
  rw [← hqn] at hq ⊢
  rw [← hrn] at hm ⊢
  have q2 : IntKind.i64.wrap (qn : Int) = (qn : Int) := i64e rfl (by omega)
  have r2 : IntKind.i64.wrap (rn : Int) = (rn : Int) := i64e rfl (by omega)
  have pm : (9 * l) * qn ≤ 36 * 10000000 := Nat.mul_le_mul (by omega) (by omega)
  obtain ⟨pn, hpn⟩ : ∃ q, q = (9 * l) * qn := ⟨_, rfl⟩
  rw [← hpn] at pm ⊢
  have w5 : IntKind.i64.wrap (((9 * l : Nat) : Int) * (qn : Int)) = (pn : Int) := i64e (by rw [hpn, Int.natCast_mul (9 * l)]) (by omega)
  have w6 : IntKind.i64.wrap ((f : Int) + (pn : Int)) = ((f + pn : Nat) : Int) := i64e (by omega) (by omega)
  have tn : (t : Int) ≠ 0 := by omega
  refine ACall.of Tryz.func81 s81 (of_decide_eq_true rfl) ?_
  simp (maxSteps := 4000000) (disch := omega) only [ah, am, Nat.reduceEqDiff, reduceCtorEq, Nat.reduceAdd, Nat.reduceLeDiff, Nat.reduceMul, Nat.reduceLT, if_true, if_false, true_and, and_true, and_self, Nat.reduceBEq, QOp.loads, boxO, bslO, buildO, cutL, fillV, putL, w81, v81, encRate, B.ld]
  refine stepC.of e ?_
  rintro _ H1 ⟨e1, rfl⟩
  simp (maxSteps := 4000000) (disch := omega) only [ah, am, Nat.reduceEqDiff, reduceCtorEq, Nat.reduceAdd, Nat.reduceLeDiff, Nat.reduceMul, Nat.reduceLT, if_true, if_false, true_and, and_true, and_self, Nat.reduceBEq, QOp.loads, boxO, bslO, buildO, cutL, fillV, putL, w81, v81, (B.ext e1).ld, w1, w2]
  refine stepC.of (LO H1) ?_
  rintro _ H2 ⟨e2, rfl⟩
  have B2 := (B.ext e1).ext e2
  simp (maxSteps := 4000000) (disch := omega) only [ah, am, Nat.reduceEqDiff, reduceCtorEq, Nat.reduceAdd, Nat.reduceLeDiff, Nat.reduceMul, Nat.reduceLT, if_true, if_false, true_and, and_true, and_self, Nat.reduceBEq, QOp.loads, boxO, bslO, buildO, cutL, fillV, putL, w81, v81, B2.ld, w3, w4, tn, ne_eq, not_false_eq_true, q1, q2, r1, r2]
  refine stepC.of (LO H2) ?_
  rintro _ H3 ⟨e3, rfl⟩
  have B3 := B2.ext e3
  have E3 := ((eM.trans e1).trans e2).trans e3
  cases hd : r.drop with
  | false =>
    rw [hd] at B3
    simp (maxSteps := 4000000) (disch := omega) only [ah, am, Nat.reduceEqDiff, reduceCtorEq, Nat.reduceAdd, Nat.reduceLeDiff, Nat.reduceMul, Nat.reduceLT, if_true, if_false, true_and, and_true, and_self, Nat.reduceBEq, QOp.loads, boxO, bslO, buildO, cutL, fillV, putL, w81, v81, B3.ld, w3, w5, w6]
    exact ⟨E3, by simp⟩
  | true =>
    rw [hd] at B3
    rw [hd] at LO
    by_cases c : 60 * b ≤ rn
    · have c' : decide (((60 * b : Nat) : Int) ≤ (rn : Int)) = true := decide_eq_true (by omega)
      have w7 : IntKind.i64.wrap ((rn : Int) - ((60 * b : Nat) : Int)) = ((rn - 60 * b : Nat) : Int) := i64e (by omega) (by omega)
      simp (maxSteps := 4000000) (disch := omega) only [ah, am, Nat.reduceEqDiff, reduceCtorEq, Nat.reduceAdd, Nat.reduceLeDiff, Nat.reduceMul, Nat.reduceLT, if_true, if_false, true_and, and_true, and_self, Nat.reduceBEq, QOp.loads, boxO, bslO, buildO, cutL, fillV, putL, w81, v81, B3.ld, w3, w5, w6, c', w7]
      refine stepC.of (LO H3) ?_
      rintro _ H4 ⟨e4, rfl⟩
      have B4 := B3.ext e4
      simp (maxSteps := 4000000) (disch := omega) only [ah, am, Nat.reduceEqDiff, reduceCtorEq, Nat.reduceAdd, Nat.reduceLeDiff, Nat.reduceMul, Nat.reduceLT, if_true, if_false, true_and, and_true, and_self, Nat.reduceBEq, QOp.loads, boxO, bslO, buildO, cutL, fillV, putL, w81, v81, rechk_cons, rechk_end, chkV_some, chkV_false, B4.ld, w7]
      refine stepC.of (LO H4) ?_
      rintro _ H5 ⟨e5, rfl⟩
      obtain ⟨dn, hdn⟩ : ∃ q, q = (rn - 60 * b) / (60 * b - l) := ⟨_, rfl⟩
      have hdq : dn ≤ rn - 60 * b := by rw [hdn]; exact Nat.div_le_self _ _
      have w8 : IntKind.i64.wrap (((60 * b : Nat) : Int) - (l : Int)) = ((60 * b - l : Nat) : Int) := i64e (by omega) (by omega)
      have n8 : ((60 * b - l : Nat) : Int) ≠ 0 := by omega
      have q8 : (((rn - 60 * b : Nat) : Int)).tdiv ((60 * b - l : Nat) : Int) = (dn : Int) := by rw [Int.tdiv_eq_ediv_of_nonneg (by omega), hdn]; rfl
      have w9 : IntKind.i64.wrap (dn : Int) = (dn : Int) := i64e rfl (by omega)
      have w10 : IntKind.i64.wrap (1 + (dn : Int)) = ((1 + dn : Nat) : Int) := i64e (by omega) (by omega)
      have pm2 : l * (1 + dn) ≤ 4 * 10000001 := Nat.mul_le_mul (by omega) (by omega)
      obtain ⟨sn, hsn⟩ : ∃ q, q = l * (1 + dn) := ⟨_, rfl⟩
      rw [← hsn] at pm2
      have w11 : IntKind.i64.wrap ((l : Int) * ((1 + dn : Nat) : Int)) = (sn : Int) := i64e (by rw [hsn, Int.natCast_mul l]) (by omega)
      have w12 : IntKind.i64.wrap (((f + pn : Nat) : Int) + (sn : Int)) = ((f + pn + sn : Nat) : Int) := i64e (by omega) (by omega)
      simp (maxSteps := 4000000) (disch := omega) only [ah, am, Nat.reduceEqDiff, reduceCtorEq, Nat.reduceAdd, Nat.reduceLeDiff, Nat.reduceMul, Nat.reduceLT, if_true, if_false, true_and, and_true, and_self, Nat.reduceBEq, QOp.loads, boxO, bslO, buildO, cutL, fillV, putL, w81, v81, w8, n8, ne_eq, not_false_eq_true, q8, w9, w10, w11, w12]
      refine ⟨(E3.trans e4).trans e5, ?_⟩
      rw [if_pos c, ← hdn, ← hsn]
    · have c' : decide (((60 * b : Nat) : Int) ≤ (rn : Int)) = false := decide_eq_false (by omega)
      simp (maxSteps := 4000000) (disch := omega) only [ah, am, Nat.reduceEqDiff, reduceCtorEq, Nat.reduceAdd, Nat.reduceLeDiff, Nat.reduceMul, Nat.reduceLT, if_true, if_false, true_and, and_true, and_self, Nat.reduceBEq, QOp.loads, boxO, bslO, buildO, cutL, fillV, putL, w81, v81, B3.ld, w3, w5, w6, c']
      exact ⟨E3, by rw [if_neg c]; rfl⟩
end Go.Proofs.YtgmimgmdbpcecaaGreatDoor
end
