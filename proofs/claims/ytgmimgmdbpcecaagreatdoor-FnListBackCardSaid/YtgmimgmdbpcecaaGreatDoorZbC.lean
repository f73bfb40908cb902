/- Merged texts of this claim: I4, I5, R2. -/
import Derived.Lib.ItoaNum
import Derived.Test.YtgmimgmdbpcecaaGreatDoorZbB
section
namespace Go.Proofs.YtgmimgmdbpcecaaGreatDoor
open Go Go.Ah
set_option linter.unusedSimpArgs false
set_option linter.unusedVariables false
set_option maxRecDepth 10000
set_option maxHeartbeats 4000000
/-! 46 loop.example/g00066/impl.in: parameters 3, live [0, 1, 2], slots [0:x, 1:least, 2:most, 3:x, 4:least, 5:most] -/
def c46_0 : List SOper := [⟨some 6, .q (.mv (.c (.bool false))), none⟩]
def c46_1 : List SOper := [⟨some 7, .q (.mv (.t 1)), none⟩, ⟨some 8, .q (.mv (.t 0)), none⟩, ⟨some 9, .q (.bin .leq (.t 7) (.t 8)), none⟩, ⟨some 10, .q (.mv (.t 9)), none⟩, ⟨some 11, .q (.mv (.t 0)), some (10, true)⟩, ⟨some 12, .q (.mv (.t 2)), some (10, true)⟩, ⟨some 13, .q (.bin .leq (.t 11) (.t 12)), some (10, true)⟩, ⟨some 14, .q (.pick (.t 10) (.t 13) (.c (.bool false))), none⟩, ⟨some 6, .q (.mv (.t 14)), none⟩]
def c46_2 : SCode := .seq (.region c46_1 [6]) .ret
def c46_3 : SCode := .seq (.region c46_0 [0, 1, 2]) c46_2
def c46 : SCode := c46_3
theorem w46 : type_of% (And.intro (uR Tryz.prog c46_0.eq_1) (And.intro (uR Tryz.prog c46_1.eq_1) (And.intro (uC Tryz.prog c46_2.eq_1) (And.intro (uC Tryz.prog c46_3.eq_1) (uC Tryz.prog c46.eq_1))))) := (And.intro (uR Tryz.prog c46_0.eq_1) (And.intro (uR Tryz.prog c46_1.eq_1) (And.intro (uC Tryz.prog c46_2.eq_1) (And.intro (uC Tryz.prog c46_3.eq_1) (uC Tryz.prog c46.eq_1)))))
def v46 : List RV := [.t 6]
theorem s46 : slimF Tryz.prog Tryz.f46 = some (c46.bare, v46) := by kernel_rfl
/-! 78 (loop.example/g00066/impl.Clip).isGap: parameters 1, live [0], slots [0:c, 1:c] -/
def c78_0 : List SOper := [⟨some 1, .a (.box (.t 0)), none⟩, ⟨some 2, .q (.mv (.c (.bool false))), none⟩]
def c78_1 : List SOper := [⟨some 3, .q (.fa 0 (.t 1)), none⟩, ⟨some 4, .q (.ld (.t 3)), none⟩, ⟨some 5, .q (.bin .eql (.t 4) (.c (.int .i64 0))), none⟩, ⟨some 2, .q (.mv (.t 5)), none⟩]
def c78_2 : SCode := .seq (.region c78_1 [2]) .ret
def c78_3 : SCode := .seq (.region c78_0 [1]) c78_2
def c78 : SCode := c78_3
theorem w78 : type_of% (And.intro (uR Tryz.prog c78_0.eq_1) (And.intro (uR Tryz.prog c78_1.eq_1) (And.intro (uC Tryz.prog c78_2.eq_1) (And.intro (uC Tryz.prog c78_3.eq_1) (uC Tryz.prog c78.eq_1))))) := (And.intro (uR Tryz.prog c78_0.eq_1) (And.intro (uR Tryz.prog c78_1.eq_1) (And.intro (uC Tryz.prog c78_2.eq_1) (And.intro (uC Tryz.prog c78_3.eq_1) (uC Tryz.prog c78.eq_1)))))
def v78 : List RV := [.t 2]
theorem s78 : slimF Tryz.prog Tryz.f78 = some (c78.bare, v78) := by kernel_rfl
/-! 54 (loop.example/g00066/impl.Clip).ok: parameters 1, live [0], slots [0:c, 1:c] -/
def c54_0 : List SOper := [⟨some 1, .a (.box (.t 0)), none⟩, ⟨some 2, .q (.mv (.c (.bool false))), none⟩]
def c54_1 : List SOper := [⟨some 3, .q (.fa 0 (.t 1)), none⟩, ⟨some 4, .q (.ld (.t 3)), none⟩, ⟨some 5, .e (.call 46 [(.t 4), (.c (.int .i64 0)), (.c (.int .i64 500))]), none⟩, ⟨some 6, .q (.not (.t 5)), none⟩, ⟨some 7, .q (.mv (.t 6)), none⟩, ⟨some 8, .q (.fa 1 (.t 1)), some (7, false)⟩, ⟨some 9, .q (.ld (.t 8)), some (7, false)⟩, ⟨some 10, .e (.call 46 [(.t 9), (.c (.int .i64 0)), (.c (.int .i64 10000000))]), some (7, false)⟩, ⟨some 11, .q (.not (.t 10)), some (7, false)⟩, ⟨some 12, .q (.pick (.t 7) (.c (.bool true)) (.t 11)), none⟩, ⟨some 13, .q (.mv (.t 12)), none⟩, ⟨some 14, .q (.fa 2 (.t 1)), some (13, false)⟩, ⟨some 15, .q (.ld (.t 14)), some (13, false)⟩, ⟨some 16, .e (.call 46 [(.t 15), (.c (.int .i64 1)), (.c (.int .i64 10000000))]), some (13, false)⟩, ⟨some 17, .q (.not (.t 16)), some (13, false)⟩, ⟨some 18, .q (.pick (.t 13) (.c (.bool true)) (.t 17)), none⟩]
def c54_2 : List SOper := [⟨some 2, .q (.mv (.c (.bool false))), none⟩]
def c54_3 : SCode := .seq (.region c54_2 [2]) .ret
def c54_4 : SCode := .cond (.t 18) c54_3 .skip
def c54_5 : SCode := .seq (.region c54_1 [1, 18]) c54_4
def c54_6 : List SOper := [⟨some 19, .q (.ldn 3 (.t 1)), none⟩, ⟨some 20, .e (.call 78 [(.t 19)]), none⟩, ⟨some 21, .q (.mv (.t 20)), none⟩, ⟨some 22, .q (.fa 1 (.t 1)), some (21, true)⟩, ⟨some 23, .q (.ld (.t 22)), some (21, true)⟩, ⟨some 24, .q (.bin .eql (.t 23) (.c (.int .i64 0))), some (21, true)⟩, ⟨some 25, .q (.pick (.t 21) (.t 24) (.c (.bool false))), none⟩, ⟨some 26, .q (.mv (.t 25)), none⟩, ⟨some 27, .q (.ldn 3 (.t 1)), some (26, false)⟩, ⟨some 28, .e (.call 78 [(.t 27)]), some (26, false)⟩, ⟨some 29, .q (.not (.t 28)), some (26, false)⟩, ⟨some 30, .q (.mv (.t 29)), some (26, false)⟩, ⟨some 31, .q (.fa 1 (.t 1)), some (30, true)⟩, ⟨some 32, .q (.ld (.t 31)), some (30, true)⟩, ⟨some 33, .q (.fa 2 (.t 1)), some (30, true)⟩, ⟨some 34, .q (.ld (.t 33)), some (30, true)⟩, ⟨some 35, .q (.bin .add (.t 32) (.t 34)), some (30, true)⟩, ⟨some 36, .q (.bin .leq (.t 35) (.c (.int .i64 10000000))), some (30, true)⟩, ⟨some 37, .q (.pick (.t 30) (.t 36) (.c (.bool false))), some (26, false)⟩, ⟨some 38, .q (.pick (.t 26) (.c (.bool true)) (.t 37)), none⟩, ⟨some 2, .q (.mv (.t 38)), none⟩]
def c54_7 : SCode := .seq (.region c54_6 [2]) .ret
def c54_8 : SCode := .seq c54_5 c54_7
def c54_9 : SCode := .seq (.region c54_0 [1]) c54_8
def c54 : SCode := c54_9
theorem w54 : type_of% (And.intro (uR Tryz.prog c54_0.eq_1) (And.intro (uR Tryz.prog c54_1.eq_1) (And.intro (uR Tryz.prog c54_2.eq_1) (And.intro (uC Tryz.prog c54_3.eq_1) (And.intro (uC Tryz.prog c54_4.eq_1) (And.intro (uC Tryz.prog c54_5.eq_1) (And.intro (uR Tryz.prog c54_6.eq_1) (And.intro (uC Tryz.prog c54_7.eq_1) (And.intro (uC Tryz.prog c54_8.eq_1) (And.intro (uC Tryz.prog c54_9.eq_1) (uC Tryz.prog c54.eq_1))))))))))) := (And.intro (uR Tryz.prog c54_0.eq_1) (And.intro (uR Tryz.prog c54_1.eq_1) (And.intro (uR Tryz.prog c54_2.eq_1) (And.intro (uC Tryz.prog c54_3.eq_1) (And.intro (uC Tryz.prog c54_4.eq_1) (And.intro (uC Tryz.prog c54_5.eq_1) (And.intro (uR Tryz.prog c54_6.eq_1) (And.intro (uC Tryz.prog c54_7.eq_1) (And.intro (uC Tryz.prog c54_8.eq_1) (And.intro (uC Tryz.prog c54_9.eq_1) (uC Tryz.prog c54.eq_1)))))))))))
def v54 : List RV := [.t 2]
theorem s54 : slimF Tryz.prog Tryz.f54 = some (c54.bare, v54) := by kernel_rfl
/-! 60 loop.example/g00066/impl.TrackOk$1: parameters 1, live [0], slots [0:c, 1:c] -/
def c60_0 : List SOper := [⟨some 1, .a (.box (.t 0)), none⟩, ⟨some 2, .q (.mv (.c (.bool false))), none⟩]
def c60_1 : List SOper := [⟨some 3, .q (.ldn 3 (.t 1)), none⟩, ⟨some 4, .e (.call 54 [(.t 3)]), none⟩, ⟨some 5, .q (.not (.t 4)), none⟩, ⟨some 2, .q (.mv (.t 5)), none⟩]
def c60_2 : SCode := .seq (.region c60_1 [2]) .ret
def c60_3 : SCode := .seq (.region c60_0 [1]) c60_2
def c60 : SCode := c60_3
theorem w60 : type_of% (And.intro (uR Tryz.prog c60_0.eq_1) (And.intro (uR Tryz.prog c60_1.eq_1) (And.intro (uC Tryz.prog c60_2.eq_1) (And.intro (uC Tryz.prog c60_3.eq_1) (uC Tryz.prog c60.eq_1))))) := (And.intro (uR Tryz.prog c60_0.eq_1) (And.intro (uR Tryz.prog c60_1.eq_1) (And.intro (uC Tryz.prog c60_2.eq_1) (And.intro (uC Tryz.prog c60_3.eq_1) (uC Tryz.prog c60.eq_1)))))
def v60 : List RV := [.t 2]
theorem s60 : slimF Tryz.prog Tryz.f60 = some (c60.bare, v60) := by kernel_rfl
/-! 79 slices.IndexFunc[[]loop.example/g00066/impl.Clip,loop.example/g00066/impl.Clip]: parameters 2, live [0, 1], slots [0:s, 1:f, 2:s, 3:f, 5:i] -/
def c79_0 : List SOper := [⟨some 4, .q (.mv (.c (.int .i64 0))), none⟩]
def c79_1 : List SOper := [⟨some 6, .q (.mv (.t 0)), none⟩, ⟨some 7, .q (.len (.t 6)), none⟩, ⟨some 8, .q (.mv (.c (.int .i64 0))), none⟩]
def c79_2 : List SOper := [⟨some 9, .q (.bin .lss (.t 8) (.t 7)), none⟩]
def c79_3 : SCode := .cond (.t 9) .skip (.exit 0)
def c79_4 : List SOper := [⟨some 10, .q (.mv (.t 8)), none⟩, ⟨some 5, .q (.mv (.t 10)), none⟩]
def c79_5 : List SOper := [⟨some 11, .q (.mv (.t 1)), none⟩, ⟨some 12, .q (.mv (.t 0)), none⟩, ⟨some 13, .q (.mv (.t 5)), none⟩, ⟨some 14, .q (.ia 3 (.t 12) (.t 13)), none⟩, ⟨some 15, .q (.ldn 3 (.t 14)), none⟩, ⟨some 16, .e (.callv (.t 11) [(.t 15)]), none⟩]
def c79_6 : List SOper := [⟨some 17, .q (.mv (.t 5)), none⟩, ⟨some 4, .q (.mv (.t 17)), none⟩]
def c79_7 : SCode := .seq (.region c79_6 [4]) .ret
def c79_8 : SCode := .cond (.t 16) c79_7 .skip
def c79_9 : SCode := .seq (.region c79_5 [0, 1, 5, 7, 8, 16]) c79_8
def c79_10 : SCode := .seq (.region c79_4 [0, 1, 5, 7, 8]) c79_9
def c79_11 : SCode := .block 1 c79_10
def c79_12 : List SOper := [⟨some 18, .q (.bin .add (.t 8) (.c (.int .i64 1))), none⟩, ⟨some 8, .q (.mv (.t 18)), none⟩]
def c79_13 : SCode := .seq c79_11 (.region c79_12 [0, 1, 7, 8])
def c79_14 : SCode := .seq c79_3 c79_13
def c79_15 : SCode := .seq (.region c79_2 [0, 1, 7, 8, 9]) c79_14
def c79_16 : SCode := .loop c79_15
def c79_17 : SCode := .block 0 c79_16
def c79_18 : SCode := .seq (.region c79_1 [0, 1, 7, 8]) c79_17
def c79_19 : List SOper := [⟨some 4, .q (.mv (.c (.int .i64 (-1)))), none⟩]
def c79_20 : SCode := .seq (.region c79_19 [4]) .ret
def c79_21 : SCode := .seq c79_18 c79_20
def c79_22 : SCode := .seq (.region c79_0 [0, 1]) c79_21
def c79 : SCode := c79_22
theorem w79 : type_of% (And.intro (uR Tryz.prog c79_0.eq_1) (And.intro (uR Tryz.prog c79_1.eq_1) (And.intro (uR Tryz.prog c79_2.eq_1) (And.intro (uC Tryz.prog c79_3.eq_1) (And.intro (uR Tryz.prog c79_4.eq_1) (And.intro (uR Tryz.prog c79_5.eq_1) (And.intro (uR Tryz.prog c79_6.eq_1) (And.intro (uC Tryz.prog c79_7.eq_1) (And.intro (uC Tryz.prog c79_8.eq_1) (And.intro (uC Tryz.prog c79_9.eq_1) (And.intro (uC Tryz.prog c79_10.eq_1) (And.intro (uC Tryz.prog c79_11.eq_1) (And.intro (uR Tryz.prog c79_12.eq_1) (And.intro (uC Tryz.prog c79_13.eq_1) (And.intro (uC Tryz.prog c79_14.eq_1) (And.intro (uC Tryz.prog c79_15.eq_1) (And.intro (uC Tryz.prog c79_16.eq_1) (And.intro (uC Tryz.prog c79_17.eq_1) (And.intro (uC Tryz.prog c79_18.eq_1) (And.intro (uR Tryz.prog c79_19.eq_1) (And.intro (uC Tryz.prog c79_20.eq_1) (And.intro (uC Tryz.prog c79_21.eq_1) (And.intro (uC Tryz.prog c79_22.eq_1) (uC Tryz.prog c79.eq_1)))))))))))))))))))))))) := (And.intro (uR Tryz.prog c79_0.eq_1) (And.intro (uR Tryz.prog c79_1.eq_1) (And.intro (uR Tryz.prog c79_2.eq_1) (And.intro (uC Tryz.prog c79_3.eq_1) (And.intro (uR Tryz.prog c79_4.eq_1) (And.intro (uR Tryz.prog c79_5.eq_1) (And.intro (uR Tryz.prog c79_6.eq_1) (And.intro (uC Tryz.prog c79_7.eq_1) (And.intro (uC Tryz.prog c79_8.eq_1) (And.intro (uC Tryz.prog c79_9.eq_1) (And.intro (uC Tryz.prog c79_10.eq_1) (And.intro (uC Tryz.prog c79_11.eq_1) (And.intro (uR Tryz.prog c79_12.eq_1) (And.intro (uC Tryz.prog c79_13.eq_1) (And.intro (uC Tryz.prog c79_14.eq_1) (And.intro (uC Tryz.prog c79_15.eq_1) (And.intro (uC Tryz.prog c79_16.eq_1) (And.intro (uC Tryz.prog c79_17.eq_1) (And.intro (uC Tryz.prog c79_18.eq_1) (And.intro (uR Tryz.prog c79_19.eq_1) (And.intro (uC Tryz.prog c79_20.eq_1) (And.intro (uC Tryz.prog c79_21.eq_1) (And.intro (uC Tryz.prog c79_22.eq_1) (uC Tryz.prog c79.eq_1))))))))))))))))))))))))
def v79 : List RV := [.t 4]
theorem s79 : slimF Tryz.prog Tryz.f79 = some (c79.bare, v79) := by kernel_rfl
/-! 59 slices.ContainsFunc[[]loop.example/g00066/impl.Clip,loop.example/g00066/impl.Clip]: parameters 2, live [0, 1], slots [0:s, 1:f, 2:s, 3:f] -/
def c59_0 : List SOper := [⟨some 4, .q (.mv (.c (.bool false))), none⟩]
def c59_1 : List SOper := [⟨some 5, .q (.mv (.t 0)), none⟩, ⟨some 6, .q (.mv (.t 1)), none⟩, ⟨some 7, .e (.call 79 [(.t 5), (.t 6)]), none⟩, ⟨some 8, .q (.bin .geq (.t 7) (.c (.int .i64 0))), none⟩, ⟨some 4, .q (.mv (.t 8)), none⟩]
def c59_2 : SCode := .seq (.region c59_1 [4]) .ret
def c59_3 : SCode := .seq (.region c59_0 [0, 1]) c59_2
def c59 : SCode := c59_3
theorem w59 : type_of% (And.intro (uR Tryz.prog c59_0.eq_1) (And.intro (uR Tryz.prog c59_1.eq_1) (And.intro (uC Tryz.prog c59_2.eq_1) (And.intro (uC Tryz.prog c59_3.eq_1) (uC Tryz.prog c59.eq_1))))) := (And.intro (uR Tryz.prog c59_0.eq_1) (And.intro (uR Tryz.prog c59_1.eq_1) (And.intro (uC Tryz.prog c59_2.eq_1) (And.intro (uC Tryz.prog c59_3.eq_1) (uC Tryz.prog c59.eq_1)))))
def v59 : List RV := [.t 4]
theorem s59 : slimF Tryz.prog Tryz.f59 = some (c59.bare, v59) := by kernel_rfl
/-! 30 loop.example/g00066/impl.TrackOk: parameters 1, live [0], slots [0:track, 1:track] -/
def c30_0 : List SOper := [⟨some 2, .q (.mv (.c (.bool false))), none⟩]
def c30_1 : List SOper := [⟨some 3, .q (.mv (.t 0)), none⟩, ⟨some 4, .q (.len (.t 3)), none⟩, ⟨some 5, .q (.bin .leq (.t 4) (.c (.int .i64 300))), none⟩, ⟨some 6, .q (.mv (.t 5)), none⟩, ⟨some 7, .q (.mv (.t 0)), some (6, true)⟩, ⟨some 8, .e (.call 59 [(.t 7), (.f 60)]), some (6, true)⟩, ⟨some 9, .q (.not (.t 8)), some (6, true)⟩, ⟨some 10, .q (.pick (.t 6) (.t 9) (.c (.bool false))), none⟩, ⟨some 11, .q (.mv (.t 10)), none⟩, ⟨some 12, .q (.mv (.t 0)), some (11, true)⟩, ⟨some 13, .e (.call 55 [(.t 12)]), some (11, true)⟩, ⟨some 14, .q (.bin .leq (.t 13) (.c (.int .i64 10000000))), some (11, true)⟩, ⟨some 15, .q (.pick (.t 11) (.t 14) (.c (.bool false))), none⟩, ⟨some 2, .q (.mv (.t 15)), none⟩]
def c30_2 : SCode := .seq (.region c30_1 [2]) .ret
def c30_3 : SCode := .seq (.region c30_0 [0]) c30_2
def c30 : SCode := c30_3
theorem w30 : type_of% (And.intro (uR Tryz.prog c30_0.eq_1) (And.intro (uR Tryz.prog c30_1.eq_1) (And.intro (uC Tryz.prog c30_2.eq_1) (And.intro (uC Tryz.prog c30_3.eq_1) (uC Tryz.prog c30.eq_1))))) := (And.intro (uR Tryz.prog c30_0.eq_1) (And.intro (uR Tryz.prog c30_1.eq_1) (And.intro (uC Tryz.prog c30_2.eq_1) (And.intro (uC Tryz.prog c30_3.eq_1) (uC Tryz.prog c30.eq_1)))))
def v30 : List RV := [.t 2]
theorem s30 : slimF Tryz.prog Tryz.f30 = some (c30.bare, v30) := by kernel_rfl
/-! 55 loop.example/g00066/impl.long: parameters 1, live [0], slots [0:track, 1:track, 3:out, 4:_, 5:c] -/
def c55_0 : List SOper := [⟨some 2, .q (.mv (.c (.int .i64 0))), none⟩]
def c55_1 : List SOper := [⟨some 3, .q (.mv (.c (.int .i64 0))), none⟩]
def c55_2 : List SOper := [⟨some 6, .q (.mv (.t 0)), none⟩, ⟨some 7, .q (.len (.t 6)), none⟩, ⟨some 8, .q (.mv (.c (.int .i64 0))), none⟩]
def c55_3 : List SOper := [⟨some 9, .q (.bin .lss (.t 8) (.t 7)), none⟩]
def c55_4 : SCode := .cond (.t 9) .skip (.exit 0)
def c55_5 : List SOper := [⟨some 10, .q (.ia 3 (.t 6) (.t 8)), none⟩, ⟨some 11, .q (.ldn 3 (.t 10)), none⟩, ⟨some 5, .a (.new [(.int .i64 0), (.int .i64 0), (.int .i64 0)]), none⟩, ⟨none, .e (.st 3 (.t 5) (.t 11)), none⟩]
def c55_6 : List SOper := [⟨some 12, .q (.mv (.t 3)), none⟩, ⟨some 13, .q (.fa 2 (.t 5)), none⟩, ⟨some 14, .q (.ld (.t 13)), none⟩, ⟨some 15, .q (.bin .add (.t 12) (.t 14)), none⟩, ⟨some 3, .q (.mv (.t 15)), none⟩]
def c55_7 : SCode := .seq (.region c55_5 [3, 5, 6, 7, 8]) (.region c55_6 [3, 6, 7, 8])
def c55_8 : SCode := .block 1 c55_7
def c55_9 : List SOper := [⟨some 16, .q (.bin .add (.t 8) (.c (.int .i64 1))), none⟩, ⟨some 8, .q (.mv (.t 16)), none⟩]
def c55_10 : SCode := .seq c55_8 (.region c55_9 [3, 6, 7, 8])
def c55_11 : SCode := .seq c55_4 c55_10
def c55_12 : SCode := .seq (.region c55_3 [3, 6, 7, 8, 9]) c55_11
def c55_13 : SCode := .loop c55_12
def c55_14 : SCode := .block 0 c55_13
def c55_15 : SCode := .seq (.region c55_2 [3, 6, 7, 8]) c55_14
def c55_16 : List SOper := [⟨some 17, .q (.mv (.t 3)), none⟩, ⟨some 2, .q (.mv (.t 17)), none⟩]
def c55_17 : SCode := .seq (.region c55_16 [2]) .ret
def c55_18 : SCode := .seq c55_15 c55_17
def c55_19 : SCode := .seq (.region c55_1 [0, 3]) c55_18
def c55_20 : SCode := .seq (.region c55_0 [0]) c55_19
def c55 : SCode := c55_20
theorem w55 : type_of% (And.intro (uR Tryz.prog c55_0.eq_1) (And.intro (uR Tryz.prog c55_1.eq_1) (And.intro (uR Tryz.prog c55_2.eq_1) (And.intro (uR Tryz.prog c55_3.eq_1) (And.intro (uC Tryz.prog c55_4.eq_1) (And.intro (uR Tryz.prog c55_5.eq_1) (And.intro (uR Tryz.prog c55_6.eq_1) (And.intro (uC Tryz.prog c55_7.eq_1) (And.intro (uC Tryz.prog c55_8.eq_1) (And.intro (uR Tryz.prog c55_9.eq_1) (And.intro (uC Tryz.prog c55_10.eq_1) (And.intro (uC Tryz.prog c55_11.eq_1) (And.intro (uC Tryz.prog c55_12.eq_1) (And.intro (uC Tryz.prog c55_13.eq_1) (And.intro (uC Tryz.prog c55_14.eq_1) (And.intro (uC Tryz.prog c55_15.eq_1) (And.intro (uR Tryz.prog c55_16.eq_1) (And.intro (uC Tryz.prog c55_17.eq_1) (And.intro (uC Tryz.prog c55_18.eq_1) (And.intro (uC Tryz.prog c55_19.eq_1) (And.intro (uC Tryz.prog c55_20.eq_1) (uC Tryz.prog c55.eq_1)))))))))))))))))))))) := (And.intro (uR Tryz.prog c55_0.eq_1) (And.intro (uR Tryz.prog c55_1.eq_1) (And.intro (uR Tryz.prog c55_2.eq_1) (And.intro (uR Tryz.prog c55_3.eq_1) (And.intro (uC Tryz.prog c55_4.eq_1) (And.intro (uR Tryz.prog c55_5.eq_1) (And.intro (uR Tryz.prog c55_6.eq_1) (And.intro (uC Tryz.prog c55_7.eq_1) (And.intro (uC Tryz.prog c55_8.eq_1) (And.intro (uR Tryz.prog c55_9.eq_1) (And.intro (uC Tryz.prog c55_10.eq_1) (And.intro (uC Tryz.prog c55_11.eq_1) (And.intro (uC Tryz.prog c55_12.eq_1) (And.intro (uC Tryz.prog c55_13.eq_1) (And.intro (uC Tryz.prog c55_14.eq_1) (And.intro (uC Tryz.prog c55_15.eq_1) (And.intro (uR Tryz.prog c55_16.eq_1) (And.intro (uC Tryz.prog c55_17.eq_1) (And.intro (uC Tryz.prog c55_18.eq_1) (And.intro (uC Tryz.prog c55_19.eq_1) (And.intro (uC Tryz.prog c55_20.eq_1) (uC Tryz.prog c55.eq_1))))))))))))))))))))))
def v55 : List RV := [.t 2]
theorem s55 : slimF Tryz.prog Tryz.f55 = some (c55.bare, v55) := by kernel_rfl
/-! 56 (loop.example/g00066/impl.Clip).follows: parameters 2, live [0, 1], slots [0:c, 1:ahead, 2:c, 3:ahead] -/
def c56_0 : List SOper := [⟨some 2, .a (.box (.t 0)), none⟩, ⟨some 3, .a (.box (.t 1)), none⟩, ⟨some 4, .q (.mv (.c (.bool false))), none⟩]
def c56_1 : List SOper := [⟨some 5, .q (.fa 0 (.t 2)), none⟩, ⟨some 6, .q (.ld (.t 5)), none⟩, ⟨some 7, .q (.fa 0 (.t 3)), none⟩, ⟨some 8, .q (.ld (.t 7)), none⟩, ⟨some 9, .q (.bin .eql (.t 6) (.t 8)), none⟩, ⟨some 10, .q (.mv (.t 9)), none⟩, ⟨some 11, .q (.ldn 3 (.t 2)), some (10, true)⟩, ⟨some 12, .e (.call 78 [(.t 11)]), some (10, true)⟩, ⟨some 13, .q (.mv (.t 12)), some (10, true)⟩, ⟨some 14, .q (.fa 1 (.t 2)), some (13, false)⟩, ⟨some 15, .q (.ld (.t 14)), some (13, false)⟩, ⟨some 16, .q (.fa 1 (.t 3)), some (13, false)⟩, ⟨some 17, .q (.ld (.t 16)), some (13, false)⟩, ⟨some 18, .q (.fa 2 (.t 3)), some (13, false)⟩, ⟨some 19, .q (.ld (.t 18)), some (13, false)⟩, ⟨some 20, .q (.bin .add (.t 17) (.t 19)), some (13, false)⟩, ⟨some 21, .q (.bin .eql (.t 15) (.t 20)), some (13, false)⟩, ⟨some 22, .q (.pick (.t 13) (.c (.bool true)) (.t 21)), some (10, true)⟩, ⟨some 23, .q (.pick (.t 10) (.t 22) (.c (.bool false))), none⟩, ⟨some 4, .q (.mv (.t 23)), none⟩]
def c56_2 : SCode := .seq (.region c56_1 [4]) .ret
def c56_3 : SCode := .seq (.region c56_0 [2, 3]) c56_2
def c56 : SCode := c56_3
theorem w56 : type_of% (And.intro (uR Tryz.prog c56_0.eq_1) (And.intro (uR Tryz.prog c56_1.eq_1) (And.intro (uC Tryz.prog c56_2.eq_1) (And.intro (uC Tryz.prog c56_3.eq_1) (uC Tryz.prog c56.eq_1))))) := (And.intro (uR Tryz.prog c56_0.eq_1) (And.intro (uR Tryz.prog c56_1.eq_1) (And.intro (uC Tryz.prog c56_2.eq_1) (And.intro (uC Tryz.prog c56_3.eq_1) (uC Tryz.prog c56.eq_1)))))
def v56 : List RV := [.t 4]
theorem s56 : slimF Tryz.prog Tryz.f56 = some (c56.bare, v56) := by kernel_rfl

theorem in_ok (h : Heap) (x lo hi : Int) : ACall Tryz.prog 46 [.int .i64 x, .int .i64 lo, .int .i64 hi] h fun r h' => h' = h ∧ r = .bool (decide (lo ≤ x ∧ x ≤ hi)) := by
  refine ACall.of Tryz.func46 s46 (of_decide_eq_true rfl) ?_
  simp (maxSteps := 4000000) (disch := omega) only [ah, am, Nat.reduceEqDiff, reduceCtorEq, Nat.reduceAdd, Nat.reduceLeDiff, Nat.reduceMul, Nat.reduceLT, if_true, if_false, true_and, and_true, and_self, Nat.reduceBEq, QOp.loads, boxO, bslO, buildO, cutL, fillV, putL, w46, v46]
  (repeat' first
    | (refine stepG.cases (fun _ hp => ?_) (fun _ hp => ?_) <;> simp (maxSteps := 4000000) (disch := omega) only [hp, ah, am, Nat.reduceEqDiff, reduceCtorEq, Nat.reduceAdd, Nat.reduceLeDiff, Nat.reduceMul, Nat.reduceLT, if_true, if_false, true_and, and_true, and_self, Nat.reduceBEq, QOp.loads, boxO, bslO, buildO, cutL, fillV, putL, i64w, w46, v46])
    | (refine stepI.cases (fun _ hp => ?_) (fun _ hp => ?_) <;> simp (maxSteps := 4000000) (disch := omega) only [hp, ah, am, Nat.reduceEqDiff, reduceCtorEq, Nat.reduceAdd, Nat.reduceLeDiff, Nat.reduceMul, Nat.reduceLT, if_true, if_false, true_and, and_true, and_self, Nat.reduceBEq, QOp.loads, boxO, bslO, buildO, cutL, fillV, putL, i64w, w46, v46]))
  all_goals (refine bool_dec ?_; try simp only [decide_eq_true_eq, Bool.false_eq_true, false_and, and_false, true_and, and_true, false_iff, iff_false, true_iff, iff_true, not_false_eq_true, false_or, or_false, true_or, or_true]; first | done | omega | (refine Iff.intro (fun hq => ?_) (fun hq => ?_) <;> omega))
theorem isGap_ok (h : Heap) (k : Clip) : ACall Tryz.prog 78 [.agg (encClip k).toArray] h fun r h' => h' = h.more [encClip k] ∧ r = .bool (decide (k.src = 0)) := by
  obtain ⟨a, b, c⟩ := k
  refine ACall.of Tryz.func78 s78 (of_decide_eq_true rfl) ?_
  simp (maxSteps := 4000000) (disch := omega) only [ah, am, Nat.reduceEqDiff, reduceCtorEq, Nat.reduceAdd, Nat.reduceLeDiff, Nat.reduceMul, Nat.reduceLT, if_true, if_false, true_and, and_true, and_self, Nat.reduceBEq, QOp.loads, boxO, bslO, buildO, cutL, fillV, putL, w78, v78, encClip]
theorem isGap_ok' (h : Heap) (a b c : Int) : ACall Tryz.prog 78 [.agg [.int .i64 a, .int .i64 b, .int .i64 c].toArray] h fun r h' => h' = h.more [[.int .i64 a, .int .i64 b, .int .i64 c]] ∧ r = .bool (decide (a = 0)) := isGap_ok h ⟨a, b, c⟩
theorem ok_ok (h : Heap) (k : Clip) : ACall Tryz.prog 54 [.agg (encClip k).toArray] h fun r h' => Ext h h' ∧ r = .bool (decide (clipOk k)) := by
  obtain ⟨a, b, c⟩ := k
  refine ACall.of Tryz.func54 s54 (of_decide_eq_true rfl) ?_
  simp (maxSteps := 4000000) (disch := omega) only [ah, am, Nat.reduceEqDiff, reduceCtorEq, Nat.reduceAdd, Nat.reduceLeDiff, Nat.reduceMul, Nat.reduceLT, if_true, if_false, true_and, and_true, and_self, Nat.reduceBEq, QOp.loads, boxO, bslO, buildO, cutL, fillV, putL, w54, v54, encClip]
  (repeat' first
    | (refine stepC.of (in_ok _ _ _ _) ?_; rintro _ _ ⟨rfl, rfl⟩; simp (maxSteps := 4000000) (disch := omega) only [ah, am, Nat.reduceEqDiff, reduceCtorEq, Nat.reduceAdd, Nat.reduceLeDiff, Nat.reduceMul, Nat.reduceLT, if_true, if_false, true_and, and_true, and_self, Nat.reduceBEq, QOp.loads, boxO, bslO, buildO, cutL, fillV, putL, i64w, w54, v54])
    | (refine stepC.of (isGap_ok' _ _ _ _) ?_; rintro _ _ ⟨rfl, rfl⟩; simp (maxSteps := 4000000) (disch := omega) only [ah, am, Nat.reduceEqDiff, reduceCtorEq, Nat.reduceAdd, Nat.reduceLeDiff, Nat.reduceMul, Nat.reduceLT, if_true, if_false, true_and, and_true, and_self, Nat.reduceBEq, QOp.loads, boxO, bslO, buildO, cutL, fillV, putL, i64w, w54, v54])
    | (refine stepG.cases (fun _ hp => ?_) (fun _ hp => ?_) <;> simp (maxSteps := 4000000) (disch := omega) only [hp, ah, am, Nat.reduceEqDiff, reduceCtorEq, Nat.reduceAdd, Nat.reduceLeDiff, Nat.reduceMul, Nat.reduceLT, if_true, if_false, true_and, and_true, and_self, Nat.reduceBEq, QOp.loads, boxO, bslO, buildO, cutL, fillV, putL, i64w, w54, v54])
    | (refine stepI.cases (fun _ hp => ?_) (fun _ hp => ?_) <;> simp (maxSteps := 4000000) (disch := omega) only [hp, ah, am, Nat.reduceEqDiff, reduceCtorEq, Nat.reduceAdd, Nat.reduceLeDiff, Nat.reduceMul, Nat.reduceLT, if_true, if_false, true_and, and_true, and_self, Nat.reduceBEq, QOp.loads, boxO, bslO, buildO, cutL, fillV, putL, i64w, w54, v54]))
  all_goals (refine ⟨Ext.more _ _, ?_⟩; refine bool_dec ?_; try simp only [decide_eq_true_eq, Bool.false_eq_true, false_and, and_false, true_and, and_true, false_iff, iff_false, true_iff, iff_true, not_false_eq_true, false_or, or_false, true_or, or_true, clipOk]; first | done | omega | (refine Iff.intro (fun hq => ?_) (fun hq => ?_) <;> omega))
theorem TrackOk1_ok (h : Heap) (k : Clip) : ACall Tryz.prog 60 [.agg (encClip k).toArray] h fun r h' => Ext h h' ∧ r = .bool (!decide (clipOk k)) := by
  have g := ok_ok (h.more [encClip k]) k
  obtain ⟨a, b, c⟩ := k
  refine ACall.of Tryz.func60 s60 (of_decide_eq_true rfl) ?_
  simp (maxSteps := 4000000) (disch := omega) only [ah, am, Nat.reduceEqDiff, reduceCtorEq, Nat.reduceAdd, Nat.reduceLeDiff, Nat.reduceMul, Nat.reduceLT, if_true, if_false, true_and, and_true, and_self, Nat.reduceBEq, QOp.loads, boxO, bslO, buildO, cutL, fillV, putL, w60, v60, encClip]
  refine stepC.of g ?_
  rintro _ H ⟨e, rfl⟩
  simp (maxSteps := 4000000) (disch := omega) only [ah, am, Nat.reduceEqDiff, reduceCtorEq, Nat.reduceAdd, Nat.reduceLeDiff, Nat.reduceMul, Nat.reduceLT, if_true, if_false, true_and, and_true, and_self, Nat.reduceBEq, QOp.loads, boxO, bslO, buildO, cutL, fillV, putL, w60, v60]
  exact (Ext.more h _).trans e
theorem IndexFunc_ok (h : Heap) (v : Value) (l : List Clip) (n : Nat) (cap : Array Value) (p : Clip → Bool) (s : SlT h encClip 3 v l) (hl : l.length ≤ 1100000)
    (hf : ∃ fn, Tryz.prog.funcs[n]? = some fn ∧ fn.body.isSome = true ∧ fn.name ≠ "runtime.NumGoroutine")
    (H : ∀ h' k, Ext h h' → k ∈ l → ACall Tryz.prog n ([.agg (encClip k).toArray] ++ cap.toList) h' fun r h2 => Ext h' h2 ∧ r = .bool (p k)) :
    ACall Tryz.prog 79 [v, .func (.func n) #[] cap] h fun r h' => Ext h h' ∧ r = .int .i64 (match l.findIdx? p with | some j => (j : Int) | none => -1) := by
  obtain ⟨fn, hf1, hf2, hf3⟩ := hf
  refine ACall.of Tryz.func79 s79 (of_decide_eq_true rfl) ?_
  have R := s.rulesN
  simp (maxSteps := 4000000) (disch := omega) only [ah, am, Nat.reduceEqDiff, reduceCtorEq, Nat.reduceAdd, Nat.reduceLeDiff, Nat.reduceMul, Nat.reduceLT, if_true, if_false, true_and, and_true, and_self, Nat.reduceBEq, QOp.loads, boxO, bslO, buildO, cutL, fillV, putL, w79, v79, R]
  refine SW_loop_up (fun i E H => E = [(0, v), (1, .func (.func n) #[] cap), (7, .int .i64 l.length), (8, .int .i64 i)] ∧ Ext h H ∧ ∀ j (hj : j < l.length), j < i → p l[j] = false) l.length 0 (by omega)
    ⟨rfl, Ext.refl h, fun j _ hj => absurd hj (by omega)⟩ ?_
  rintro i E H1 hi ⟨rfl, e, F⟩
  have R := (s.ext e).rulesN
  have W : IntKind.i64.wrap ((i : Int) + 1) = ((i + 1 : Nat) : Int) := i64e (by omega) (by omega)
  simp (maxSteps := 4000000) (disch := omega) only [ah, am, Nat.reduceEqDiff, reduceCtorEq, Nat.reduceAdd, Nat.reduceLeDiff, Nat.reduceMul, Nat.reduceLT, if_true, if_false, true_and, and_true, and_self, Nat.reduceBEq, QOp.loads, boxO, bslO, buildO, cutL, fillV, putL, w79, v79, R]
  refine stepI.split (fun hp => ?_) (fun hp => ?_)
  · have hi' : i < l.length := by omega
    simp (maxSteps := 4000000) (disch := omega) only [ah, am, Nat.reduceEqDiff, reduceCtorEq, Nat.reduceAdd, Nat.reduceLeDiff, Nat.reduceMul, Nat.reduceLT, if_true, if_false, true_and, and_true, and_self, Nat.reduceBEq, QOp.loads, boxO, bslO, buildO, cutL, fillV, putL, w79, v79, R, nilV_func]
    refine stepV.of hf1 hf2 hf3 (H H1 _ e (List.getElem_mem hi')) ?_
    rintro _ H2 ⟨e2, rfl⟩
    simp (maxSteps := 4000000) (disch := omega) only [ah, am, Nat.reduceEqDiff, reduceCtorEq, Nat.reduceAdd, Nat.reduceLeDiff, Nat.reduceMul, Nat.reduceLT, if_true, if_false, true_and, and_true, and_self, Nat.reduceBEq, QOp.loads, boxO, bslO, buildO, cutL, fillV, putL, w79, v79, W]
    refine stepI.splitB (fun hk => ?_) (fun hk => ?_)
    · simp (maxSteps := 4000000) (disch := omega) only [ah, am, Nat.reduceEqDiff, reduceCtorEq, Nat.reduceAdd, Nat.reduceLeDiff, Nat.reduceMul, Nat.reduceLT, if_true, if_false, true_and, and_true, and_self, Nat.reduceBEq, QOp.loads, boxO, bslO, buildO, cutL, fillV, putL, w79, v79, W]
      refine ⟨e.trans e2, ?_⟩
      have : l.findIdx? p = some i := by
        rw [List.findIdx?_eq_some_iff_getElem]
        exact ⟨hi', hk, fun j hj => by rw [F j (by omega) hj]; decide⟩
      rw [this]
    · simp (maxSteps := 4000000) (disch := omega) only [ah, am, Nat.reduceEqDiff, reduceCtorEq, Nat.reduceAdd, Nat.reduceLeDiff, Nat.reduceMul, Nat.reduceLT, if_true, if_false, true_and, and_true, and_self, Nat.reduceBEq, QOp.loads, boxO, bslO, buildO, cutL, fillV, putL, w79, v79, W]
      refine ⟨hi', e.trans e2, fun j hj hj2 => ?_⟩
      by_cases hji : j = i
      · subst hji; exact hk
      · exact F j hj (by omega)
  · simp (maxSteps := 4000000) (disch := omega) only [ah, am, Nat.reduceEqDiff, reduceCtorEq, Nat.reduceAdd, Nat.reduceLeDiff, Nat.reduceMul, Nat.reduceLT, if_true, if_false, true_and, and_true, and_self, Nat.reduceBEq, QOp.loads, boxO, bslO, buildO, cutL, fillV, putL, w79, v79, R, W]
    obtain rfl : i = l.length := by omega
    refine ⟨e, ?_⟩
    have : l.findIdx? p = none := by
      rw [List.findIdx?_eq_none_iff]
      intro x hx
      obtain ⟨j, hj, rfl⟩ := List.getElem_of_mem hx
      exact F j hj hj
    rw [this]
theorem ContainsFunc_ok (h : Heap) (v : Value) (l : List Clip) (n : Nat) (cap : Array Value) (p : Clip → Bool) (s : SlT h encClip 3 v l) (hl : l.length ≤ 1100000)
    (hf : ∃ fn, Tryz.prog.funcs[n]? = some fn ∧ fn.body.isSome = true ∧ fn.name ≠ "runtime.NumGoroutine")
    (H : ∀ h' k, Ext h h' → k ∈ l → ACall Tryz.prog n ([.agg (encClip k).toArray] ++ cap.toList) h' fun r h2 => Ext h' h2 ∧ r = .bool (p k)) :
    ACall Tryz.prog 59 [v, .func (.func n) #[] cap] h fun r h' => Ext h h' ∧ r = .bool (l.any p) := by
  refine ACall.of Tryz.func59 s59 (of_decide_eq_true rfl) ?_
  simp (maxSteps := 4000000) (disch := omega) only [ah, am, Nat.reduceEqDiff, reduceCtorEq, Nat.reduceAdd, Nat.reduceLeDiff, Nat.reduceMul, Nat.reduceLT, if_true, if_false, true_and, and_true, and_self, Nat.reduceBEq, QOp.loads, boxO, bslO, buildO, cutL, fillV, putL, w59, v59]
  refine stepC.of (IndexFunc_ok h v l n cap p s hl hf H) ?_
  rintro _ H1 ⟨e, rfl⟩
  simp (maxSteps := 4000000) (disch := omega) only [ah, am, Nat.reduceEqDiff, reduceCtorEq, Nat.reduceAdd, Nat.reduceLeDiff, Nat.reduceMul, Nat.reduceLT, if_true, if_false, true_and, and_true, and_self, Nat.reduceBEq, QOp.loads, boxO, bslO, buildO, cutL, fillV, putL, w59, v59]
  refine ⟨e, ?_⟩
  cases hq : l.findIdx? p with
  | none =>
    rw [List.findIdx?_eq_none_iff] at hq
    have : l.any p = false := by rw [List.any_eq_false]; intro x hx; rw [hq x hx]; decide
    rw [this]; rfl
  | some j =>
    rw [List.findIdx?_eq_some_iff_getElem] at hq
    obtain ⟨hj, hp, _⟩ := hq
    have : l.any p = true := List.any_eq_true.mpr ⟨_, List.getElem_mem hj, hp⟩
    rw [this]
    congr 1
theorem long_ok (h : Heap) (v : Value) (l : List Clip) (s : SlT h encClip 3 v l) (hl : l.length ≤ 300) (ho : ∀ k ∈ l, clipOk k) : ACall Tryz.prog 55 [v] h fun r h' => Ext h h' ∧ r = .int .i64 (sumLen l) := by
  refine ACall.of Tryz.func55 s55 (of_decide_eq_true rfl) ?_
  have R := s.rulesN
  simp (maxSteps := 4000000) (disch := omega) only [ah, am, Nat.reduceEqDiff, reduceCtorEq, Nat.reduceAdd, Nat.reduceLeDiff, Nat.reduceMul, Nat.reduceLT, if_true, if_false, true_and, and_true, and_self, Nat.reduceBEq, QOp.loads, boxO, bslO, buildO, cutL, fillV, putL, w55, v55, R]
  refine SW_loop_up (fun i E H => E = [(3, .int .i64 (sumLen (l.take i))), (6, v), (7, .int .i64 l.length), (8, .int .i64 i)] ∧ Ext h H) l.length 0 (by omega) ⟨by simp [sumLen], Ext.refl h⟩ ?_
  rintro i E H hi ⟨rfl, e⟩
  have R := (s.ext e).rulesN
  have W : IntKind.i64.wrap ((i : Int) + 1) = ((i + 1 : Nat) : Int) := i64e (by omega) (by omega)
  simp (maxSteps := 4000000) (disch := omega) only [ah, am, Nat.reduceEqDiff, reduceCtorEq, Nat.reduceAdd, Nat.reduceLeDiff, Nat.reduceMul, Nat.reduceLT, if_true, if_false, true_and, and_true, and_self, Nat.reduceBEq, QOp.loads, boxO, bslO, buildO, cutL, fillV, putL, w55, v55, R]
  refine stepI.split (fun hp => ?_) (fun hp => ?_)
  · have B := sumLen_bound (l := l.take (i + 1)) (fun k hk => ho k (List.mem_of_mem_take hk))
    rw [sumLen_take l i (by omega)] at B
    have hlen : (l.take (i + 1)).length ≤ 300 := by simp; omega
    simp (maxSteps := 4000000) (disch := omega) only [ah, am, Nat.reduceEqDiff, reduceCtorEq, Nat.reduceAdd, Nat.reduceLeDiff, Nat.reduceMul, Nat.reduceLT, if_true, if_false, true_and, and_true, and_self, Nat.reduceBEq, QOp.loads, boxO, bslO, buildO, cutL, fillV, putL, w55, v55, R, W, encClip, i64w]
    exact ⟨by omega, by rw [sumLen_take l i (by omega)], e.trans (Ext.more _ _)⟩
  · simp (maxSteps := 4000000) (disch := omega) only [ah, am, Nat.reduceEqDiff, reduceCtorEq, Nat.reduceAdd, Nat.reduceLeDiff, Nat.reduceMul, Nat.reduceLT, if_true, if_false, true_and, and_true, and_self, Nat.reduceBEq, QOp.loads, boxO, bslO, buildO, cutL, fillV, putL, w55, v55, R, W]
    obtain rfl : i = l.length := by omega
    rw [List.take_length]
    exact ⟨e, rfl⟩
theorem implTrackOk_ok (h : Heap) (v : Value) (l : List Clip) (s : SlT h encClip 3 v l) (hl : l.length ≤ 1100000) : ACall Tryz.prog 30 [v] h fun r h' => Ext h h' ∧ r = .bool (decide (trackOk l)) := by
  refine ACall.of Tryz.func30 s30 (of_decide_eq_true rfl) ?_
  have R := s.rulesN
  simp (maxSteps := 4000000) (disch := omega) only [ah, am, Nat.reduceEqDiff, reduceCtorEq, Nat.reduceAdd, Nat.reduceLeDiff, Nat.reduceMul, Nat.reduceLT, if_true, if_false, true_and, and_true, and_self, Nat.reduceBEq, QOp.loads, boxO, bslO, buildO, cutL, fillV, putL, w30, v30, R]
  refine stepG.cases (fun h0 hp => ?_) (fun h0 hp => ?_)
  · simp (maxSteps := 4000000) (disch := omega) only [ah, am, Nat.reduceEqDiff, reduceCtorEq, Nat.reduceAdd, Nat.reduceLeDiff, Nat.reduceMul, Nat.reduceLT, if_true, if_false, true_and, and_true, and_self, Nat.reduceBEq, QOp.loads, boxO, bslO, buildO, cutL, fillV, putL, w30, v30, hp, R]
    refine stepC.of (ContainsFunc_ok h v l 60 #[] (fun k => !decide (clipOk k)) s hl ⟨_, Tryz.func60, rfl, by decide⟩ (fun h' k _ _ => TrackOk1_ok h' k)) ?_
    rintro _ H1 ⟨e, rfl⟩
    simp (maxSteps := 4000000) (disch := omega) only [ah, am, Nat.reduceEqDiff, reduceCtorEq, Nat.reduceAdd, Nat.reduceLeDiff, Nat.reduceMul, Nat.reduceLT, if_true, if_false, true_and, and_true, and_self, Nat.reduceBEq, QOp.loads, boxO, bslO, buildO, cutL, fillV, putL, w30, v30, hp, R]
    cases hq : l.any (fun k => !decide (clipOk k)) with
    | false =>
      have ho : ∀ k ∈ l, clipOk k := by
        intro k hk; rw [List.any_eq_false] at hq; have := hq k hk; simpa using this
      simp (maxSteps := 4000000) (disch := omega) only [ah, am, Nat.reduceEqDiff, reduceCtorEq, Nat.reduceAdd, Nat.reduceLeDiff, Nat.reduceMul, Nat.reduceLT, if_true, if_false, true_and, and_true, and_self, Nat.reduceBEq, QOp.loads, boxO, bslO, buildO, cutL, fillV, putL, w30, v30, hp, R]
      refine stepC.of (long_ok _ _ _ (s.ext e) (by omega) ho) ?_
      rintro _ H2 ⟨e2, rfl⟩
      simp (maxSteps := 4000000) (disch := omega) only [ah, am, Nat.reduceEqDiff, reduceCtorEq, Nat.reduceAdd, Nat.reduceLeDiff, Nat.reduceMul, Nat.reduceLT, if_true, if_false, true_and, and_true, and_self, Nat.reduceBEq, QOp.loads, boxO, bslO, buildO, cutL, fillV, putL, w30, v30, hp, R]
      refine ⟨e.trans e2, ?_⟩
      refine bool_dec ?_
      simp only [decide_eq_true_eq, trackOk]
      exact ⟨fun hq => ⟨by omega, ho, hq⟩, fun hq => hq.2.2⟩
    | true =>
      simp (maxSteps := 4000000) (disch := omega) only [ah, am, Nat.reduceEqDiff, reduceCtorEq, Nat.reduceAdd, Nat.reduceLeDiff, Nat.reduceMul, Nat.reduceLT, if_true, if_false, true_and, and_true, and_self, Nat.reduceBEq, QOp.loads, boxO, bslO, buildO, cutL, fillV, putL, w30, v30, hp, R]
      refine ⟨e, ?_⟩
      refine bool_dec ?_
      simp only [Bool.false_eq_true, false_iff, trackOk]
      rw [List.any_eq_true] at hq
      obtain ⟨k, hk, hq⟩ := hq
      intro ht
      have := ht.2.1 k hk
      simp [this] at hq
  · simp (maxSteps := 4000000) (disch := omega) only [ah, am, Nat.reduceEqDiff, reduceCtorEq, Nat.reduceAdd, Nat.reduceLeDiff, Nat.reduceMul, Nat.reduceLT, if_true, if_false, true_and, and_true, and_self, Nat.reduceBEq, QOp.loads, boxO, bslO, buildO, cutL, fillV, putL, w30, v30, hp, R]
    refine ⟨Ext.refl h, ?_⟩; refine bool_dec ?_; try simp only [decide_eq_true_eq, Bool.false_eq_true, false_and, and_false, true_and, and_true, false_iff, iff_false, true_iff, iff_true, not_false_eq_true, false_or, or_false, true_or, or_true, trackOk]; first | done | omega | (refine Iff.intro (fun hq => ?_) (fun hq => ?_) <;> omega)
end Go.Proofs.YtgmimgmdbpcecaaGreatDoor
end

section
namespace Go.Proofs.YtgmimgmdbpcecaaGreatDoor
open Go Go.Ah
set_option linter.unusedSimpArgs false
set_option linter.unusedVariables false
set_option maxRecDepth 10000
set_option maxHeartbeats 4000000
/-! 31 loop.example/g00066/impl.joined: parameters 1, live [0], slots [0:track, 1:track, 3:out, 4:_, 5:c, 6:n] -/
def c31_0 : List SOper := [⟨some 2, .q (.mv (.c (.slice none 0 0))), none⟩]
def c31_1 : List SOper := [⟨some 7, .a (.bsl 0 3 [] []), none⟩, ⟨some 3, .q (.mv (.t 7)), none⟩]
def c31_2 : List SOper := [⟨some 8, .q (.mv (.t 0)), none⟩, ⟨some 9, .q (.len (.t 8)), none⟩, ⟨some 10, .q (.mv (.c (.int .i64 0))), none⟩]
def c31_3 : List SOper := [⟨some 11, .q (.bin .lss (.t 10) (.t 9)), none⟩]
def c31_4 : SCode := .cond (.t 11) .skip (.exit 0)
def c31_5 : List SOper := [⟨some 12, .q (.ia 3 (.t 8) (.t 10)), none⟩, ⟨some 13, .q (.ldn 3 (.t 12)), none⟩, ⟨some 5, .a (.new [(.int .i64 0), (.int .i64 0), (.int .i64 0)]), none⟩, ⟨none, .e (.st 3 (.t 5) (.t 13)), none⟩]
def c31_6 : List SOper := [⟨some 14, .q (.mv (.t 3)), none⟩, ⟨some 15, .q (.len (.t 14)), none⟩, ⟨some 6, .q (.mv (.t 15)), none⟩]
def c31_7 : List SOper := [⟨some 16, .q (.mv (.t 6)), none⟩, ⟨some 17, .q (.bin .gtr (.t 16) (.c (.int .i64 0))), none⟩, ⟨some 18, .q (.mv (.t 17)), none⟩, ⟨some 19, .q (.ldn 3 (.t 5)), some (18, true)⟩, ⟨some 20, .q (.mv (.t 3)), some (18, true)⟩, ⟨some 21, .q (.mv (.t 6)), some (18, true)⟩, ⟨some 22, .q (.bin .sub (.t 21) (.c (.int .i64 1))), some (18, true)⟩, ⟨some 23, .q (.ia 3 (.t 20) (.t 22)), some (18, true)⟩, ⟨some 24, .q (.ldn 3 (.t 23)), some (18, true)⟩, ⟨some 25, .e (.call 56 [(.t 19), (.t 24)]), some (18, true)⟩, ⟨some 26, .q (.pick (.t 18) (.t 25) (.c (.bool false))), none⟩]
def c31_8 : List SOper := [⟨some 27, .q (.mv (.t 3)), none⟩, ⟨some 28, .q (.mv (.t 6)), none⟩, ⟨some 29, .q (.bin .sub (.t 28) (.c (.int .i64 1))), none⟩, ⟨some 30, .q (.ia 3 (.t 27) (.t 29)), none⟩, ⟨some 31, .q (.fa 2 (.t 30)), none⟩, ⟨some 32, .q (.ld (.t 31)), none⟩, ⟨some 33, .q (.fa 2 (.t 5)), none⟩, ⟨some 34, .q (.ld (.t 33)), none⟩, ⟨some 35, .q (.bin .add (.t 32) (.t 34)), none⟩, ⟨some 36, .q (.ia 3 (.t 27) (.t 29)), none⟩, ⟨some 37, .q (.fa 2 (.t 36)), none⟩, ⟨none, .e (.st 1 (.t 37) (.t 35)), none⟩]
def c31_9 : SCode := .seq (.region c31_8 [3, 8, 9, 10]) (.exit 1)
def c31_10 : SCode := .cond (.t 26) c31_9 .skip
def c31_11 : SCode := .seq (.region c31_7 [3, 5, 6, 8, 9, 10, 26]) c31_10
def c31_12 : SCode := .seq (.region c31_6 [3, 5, 6, 8, 9, 10]) c31_11
def c31_13 : List SOper := [⟨some 38, .q (.mv (.t 3)), none⟩, ⟨some 39, .q (.ldn 3 (.t 5)), none⟩, ⟨some 40, .a (.bsl 1 3 [(.int .i64 0), (.int .i64 0), (.int .i64 0)] [(0, 3, (.t 39))]), none⟩, ⟨some 41, .e (.app 24 3 (.t 38) (.t 40)), none⟩, ⟨some 3, .q (.mv (.t 41)), none⟩]
def c31_14 : SCode := .seq c31_12 (.region c31_13 [3, 8, 9, 10])
def c31_15 : SCode := .seq (.region c31_5 [3, 5, 8, 9, 10]) c31_14
def c31_16 : SCode := .block 1 c31_15
def c31_17 : List SOper := [⟨some 42, .q (.bin .add (.t 10) (.c (.int .i64 1))), none⟩, ⟨some 10, .q (.mv (.t 42)), none⟩]
def c31_18 : SCode := .seq c31_16 (.region c31_17 [3, 8, 9, 10])
def c31_19 : SCode := .seq c31_4 c31_18
def c31_20 : SCode := .seq (.region c31_3 [3, 8, 9, 10, 11]) c31_19
def c31_21 : SCode := .loop c31_20
def c31_22 : SCode := .block 0 c31_21
def c31_23 : SCode := .seq (.region c31_2 [3, 8, 9, 10]) c31_22
def c31_24 : List SOper := [⟨some 43, .q (.mv (.t 3)), none⟩, ⟨some 2, .q (.mv (.t 43)), none⟩]
def c31_25 : SCode := .seq (.region c31_24 [2]) .ret
def c31_26 : SCode := .seq c31_23 c31_25
def c31_27 : SCode := .seq (.region c31_1 [0, 3]) c31_26
def c31_28 : SCode := .seq (.region c31_0 [0]) c31_27
def c31 : SCode := c31_28
theorem w31 : type_of% (And.intro (uR Tryz.prog c31_0.eq_1) (And.intro (uR Tryz.prog c31_1.eq_1) (And.intro (uR Tryz.prog c31_2.eq_1) (And.intro (uR Tryz.prog c31_3.eq_1) (And.intro (uC Tryz.prog c31_4.eq_1) (And.intro (uR Tryz.prog c31_5.eq_1) (And.intro (uR Tryz.prog c31_6.eq_1) (And.intro (uR Tryz.prog c31_7.eq_1) (And.intro (uR Tryz.prog c31_8.eq_1) (And.intro (uC Tryz.prog c31_9.eq_1) (And.intro (uC Tryz.prog c31_10.eq_1) (And.intro (uC Tryz.prog c31_11.eq_1) (And.intro (uC Tryz.prog c31_12.eq_1) (And.intro (uR Tryz.prog c31_13.eq_1) (And.intro (uC Tryz.prog c31_14.eq_1) (And.intro (uC Tryz.prog c31_15.eq_1) (And.intro (uC Tryz.prog c31_16.eq_1) (And.intro (uR Tryz.prog c31_17.eq_1) (And.intro (uC Tryz.prog c31_18.eq_1) (And.intro (uC Tryz.prog c31_19.eq_1) (And.intro (uC Tryz.prog c31_20.eq_1) (And.intro (uC Tryz.prog c31_21.eq_1) (And.intro (uC Tryz.prog c31_22.eq_1) (And.intro (uC Tryz.prog c31_23.eq_1) (And.intro (uR Tryz.prog c31_24.eq_1) (And.intro (uC Tryz.prog c31_25.eq_1) (And.intro (uC Tryz.prog c31_26.eq_1) (And.intro (uC Tryz.prog c31_27.eq_1) (And.intro (uC Tryz.prog c31_28.eq_1) (uC Tryz.prog c31.eq_1)))))))))))))))))))))))))))))) := (And.intro (uR Tryz.prog c31_0.eq_1) (And.intro (uR Tryz.prog c31_1.eq_1) (And.intro (uR Tryz.prog c31_2.eq_1) (And.intro (uR Tryz.prog c31_3.eq_1) (And.intro (uC Tryz.prog c31_4.eq_1) (And.intro (uR Tryz.prog c31_5.eq_1) (And.intro (uR Tryz.prog c31_6.eq_1) (And.intro (uR Tryz.prog c31_7.eq_1) (And.intro (uR Tryz.prog c31_8.eq_1) (And.intro (uC Tryz.prog c31_9.eq_1) (And.intro (uC Tryz.prog c31_10.eq_1) (And.intro (uC Tryz.prog c31_11.eq_1) (And.intro (uC Tryz.prog c31_12.eq_1) (And.intro (uR Tryz.prog c31_13.eq_1) (And.intro (uC Tryz.prog c31_14.eq_1) (And.intro (uC Tryz.prog c31_15.eq_1) (And.intro (uC Tryz.prog c31_16.eq_1) (And.intro (uR Tryz.prog c31_17.eq_1) (And.intro (uC Tryz.prog c31_18.eq_1) (And.intro (uC Tryz.prog c31_19.eq_1) (And.intro (uC Tryz.prog c31_20.eq_1) (And.intro (uC Tryz.prog c31_21.eq_1) (And.intro (uC Tryz.prog c31_22.eq_1) (And.intro (uC Tryz.prog c31_23.eq_1) (And.intro (uR Tryz.prog c31_24.eq_1) (And.intro (uC Tryz.prog c31_25.eq_1) (And.intro (uC Tryz.prog c31_26.eq_1) (And.intro (uC Tryz.prog c31_27.eq_1) (And.intro (uC Tryz.prog c31_28.eq_1) (uC Tryz.prog c31.eq_1))))))))))))))))))))))))))))))
def v31 : List RV := [.t 2]
theorem s31 : slimF Tryz.prog Tryz.f31 = some (c31.bare, v31) := by kernel_rfl

theorem follows_ok (h : Heap) (k a : Clip) (ha : clipIn 1000000000000000 a) : ACall Tryz.prog 56 [.agg (encClip k).toArray, .agg (encClip a).toArray] h
    fun r h' => Ext h h' ∧ r = .bool (decide (a.src = k.src ∧ (k.src = 0 ∨ a.inn + a.len = k.inn))) := by
  obtain ⟨a1, a2, a3⟩ := k; obtain ⟨b1, b2, b3⟩ := a
  simp only [clipIn] at ha
  refine ACall.of Tryz.func56 s56 (of_decide_eq_true rfl) ?_
  simp (maxSteps := 4000000) (disch := omega) only [ah, am, Nat.reduceEqDiff, reduceCtorEq, Nat.reduceAdd, Nat.reduceLeDiff, Nat.reduceMul, Nat.reduceLT, if_true, if_false, true_and, and_true, and_self, Nat.reduceBEq, QOp.loads, boxO, bslO, buildO, cutL, fillV, putL, w56, v56, encClip]
  (repeat' first
    | (refine stepC.of (isGap_ok' _ _ _ _) ?_; rintro _ _ ⟨rfl, rfl⟩; simp (maxSteps := 4000000) (disch := omega) only [ah, am, Nat.reduceEqDiff, reduceCtorEq, Nat.reduceAdd, Nat.reduceLeDiff, Nat.reduceMul, Nat.reduceLT, if_true, if_false, true_and, and_true, and_self, Nat.reduceBEq, QOp.loads, boxO, bslO, buildO, cutL, fillV, putL, i64w, w56, v56])
    | (refine stepG.cases (fun _ hp => ?_) (fun _ hp => ?_) <;> simp (maxSteps := 4000000) (disch := omega) only [hp, ah, am, Nat.reduceEqDiff, reduceCtorEq, Nat.reduceAdd, Nat.reduceLeDiff, Nat.reduceMul, Nat.reduceLT, if_true, if_false, true_and, and_true, and_self, Nat.reduceBEq, QOp.loads, boxO, bslO, buildO, cutL, fillV, putL, i64w, w56, v56])
    | (refine stepI.cases (fun _ hp => ?_) (fun _ hp => ?_) <;> simp (maxSteps := 4000000) (disch := omega) only [hp, ah, am, Nat.reduceEqDiff, reduceCtorEq, Nat.reduceAdd, Nat.reduceLeDiff, Nat.reduceMul, Nat.reduceLT, if_true, if_false, true_and, and_true, and_self, Nat.reduceBEq, QOp.loads, boxO, bslO, buildO, cutL, fillV, putL, i64w, w56, v56]))
  all_goals (refine ⟨Ext.more _ _, ?_⟩; refine bool_dec ?_; try simp only [decide_eq_true_eq, Bool.false_eq_true, false_and, and_false, true_and, and_true, false_iff, iff_false, true_iff, iff_true, not_false_eq_true, false_or, or_false, true_or, or_true]; first | done | omega | (refine Iff.intro (fun hq => ?_) (fun hq => ?_) <;> omega))
/-- A row of slices. -/
structure Rows (h : Heap) (v : Value) (ls : List (List Clip)) : Prop where
  rows : ∃ vs : List Value, SlT h encV 1 v vs ∧ vs.length = ls.length ∧ ∀ i (h1 : i < vs.length) (h2 : i < ls.length), SlT h encClip 3 vs[i] ls[i]
theorem flat_take (ls : List (List Clip)) (i : Nat) (hi : i < ls.length) : (ls.take (i + 1)).flatten = (ls.take i).flatten ++ ls[i] := by
  rw [List.take_succ_eq_append_getElem hi, List.flatten_append]; simp
theorem flat_take_le (ls : List (List Clip)) (i : Nat) : (ls.take i).flatten.length ≤ ls.flatten.length := by
  conv => rhs; rw [← List.take_append_drop i ls]
  rw [List.flatten_append, List.length_append]; omega
theorem joined_ok (h : Heap) (v : Value) (l : List Clip) (s : SlT h encClip 3 v l) (hl : l.length ≤ 1100000) (ho : ∀ k ∈ l, clipIn 10000000 k) : ACall Tryz.prog 31 [v] h fun r h' => Fresh h h' encClip 3 r (join l) := by
  refine ACall.of Tryz.func31 s31 (of_decide_eq_true rfl) ?_
  have R := s.rulesN
  simp (maxSteps := 4000000) (disch := omega) only [ah, am, Nat.reduceEqDiff, reduceCtorEq, Nat.reduceAdd, Nat.reduceLeDiff, Nat.reduceMul, Nat.reduceLT, if_true, if_false, true_and, and_true, and_self, Nat.reduceBEq, QOp.loads, boxO, bslO, buildO, cutL, fillV, putL, w31, v31, R]
  refine SW_loop_up (fun i E H => ∃ ov, E = [(3, ov), (8, v), (9, .int .i64 l.length), (10, .int .i64 i)] ∧ Fresh h H encClip 3 ov (join (l.take i))) l.length 0 (by omega) ⟨_, rfl, Fresh.new0 h encClip_len (by omega)⟩ ?_
  rintro i E H hi ⟨ov, rfl, F⟩
  have R := (s.ext F.1).rulesN
  have W : IntKind.i64.wrap ((i : Int) + 1) = ((i + 1 : Nat) : Int) := i64e (by omega) (by omega)
  simp (maxSteps := 4000000) (disch := omega) only [ah, am, Nat.reduceEqDiff, reduceCtorEq, Nat.reduceAdd, Nat.reduceLeDiff, Nat.reduceMul, Nat.reduceLT, if_true, if_false, true_and, and_true, and_self, Nat.reduceBEq, QOp.loads, boxO, bslO, buildO, cutL, fillV, putL, w31, v31, R]
  refine stepI.split (fun hp => ?_) (fun hp => ?_)
  · have hi' : i < l.length := by omega
    have J := join_take l i hi'
    have F' := F.ext (Ext.more H [encClip l[i]])
    have R' := F'.slt.rules
    have L := join_length (l.take i)
    rw [List.length_take] at L
    have B := join_in (l := l.take i) (fun k hk => ho k (List.mem_of_mem_take hk))
    have Bk := ho _ (List.getElem_mem hi')
    generalize join (l.take i) = out at *
    have T : ((out.length : Int) - 1).toNat = out.length - 1 := by omega
    simp only [encClip] at R'
    by_cases hn : 0 < out.length
    · have Bo := B _ (List.getElem_mem (l := out) (n := out.length - 1) (by omega))
      simp only [clipIn, List.length_take] at Bo Bk
      have fo := follows_ok (H.more [encClip l[i]]) l[i] out[out.length - 1] (by simp only [clipIn]; omega)
      simp only [encClip] at fo
      have hn' : decide (0 < (out.length : Int)) = true := decide_eq_true (by omega)
      simp (maxSteps := 4000000) (disch := omega) only [ah, am, Nat.reduceEqDiff, reduceCtorEq, Nat.reduceAdd, Nat.reduceLeDiff, Nat.reduceMul, Nat.reduceLT, if_true, if_false, true_and, and_true, and_self, Nat.reduceBEq, QOp.loads, boxO, bslO, buildO, cutL, fillV, putL, w31, v31, R, R', W, encClip, i64w, T, hn']
      refine stepC.of fo ?_
      rintro _ H2 ⟨e2, rfl⟩
      have X := e2.ld0
      have F2 := F'.ext e2
      have R2 := F2.slt.rules
      simp (maxSteps := 4000000) (disch := omega) only [ah, am, Nat.reduceEqDiff, reduceCtorEq, Nat.reduceAdd, Nat.reduceLeDiff, Nat.reduceMul, Nat.reduceLT, if_true, if_false, true_and, and_true, and_self, Nat.reduceBEq, QOp.loads, boxO, bslO, buildO, cutL, fillV, putL, w31, v31, R2, W, encClip, i64w, T, hn', X]
      refine stepI.cases (fun hc hp => ?_) (fun hc hp => ?_)
      · obtain ⟨H3, es, F3, -⟩ := F2.setF (j := out.length - 1) (f := 2) (n := 1) (by omega) (x := ⟨(out[out.length - 1]).src, (out[out.length - 1]).inn, (out[out.length - 1]).len + l[i].len⟩)
          (y := .int .i64 ((out[out.length - 1]).len + l[i].len)) (by simp [encClip, splice, cells_int]) (by omega) rfl (by omega) rfl
        simp (maxSteps := 4000000) (disch := omega) only [ah, am, Nat.reduceEqDiff, reduceCtorEq, Nat.reduceAdd, Nat.reduceLeDiff, Nat.reduceMul, Nat.reduceLT, if_true, if_false, true_and, and_true, and_self, Nat.reduceBEq, QOp.loads, boxO, bslO, buildO, cutL, fillV, putL, w31, v31, hp, R2, W, encClip, i64w, T, hn', X, es]
        refine ⟨by omega, _, rfl, ?_⟩; rw [J, joinStep, dif_pos hn, if_pos hc]; exact F3
      · obtain ⟨v2, H3, ea, F3⟩ := F2.app1 l[i] (bytes := 24) (by omega)
        simp only [encClip] at ea
        simp (maxSteps := 4000000) (disch := omega) only [ah, am, Nat.reduceEqDiff, reduceCtorEq, Nat.reduceAdd, Nat.reduceLeDiff, Nat.reduceMul, Nat.reduceLT, if_true, if_false, true_and, and_true, and_self, Nat.reduceBEq, QOp.loads, boxO, bslO, buildO, cutL, fillV, putL, w31, v31, hp, R2, W, encClip, i64w, T, hn', X, ea]
        refine ⟨by omega, _, rfl, ?_⟩; rw [J, joinStep, dif_pos hn, if_neg hc]; exact F3
    · have hn' : decide (0 < (out.length : Int)) = false := decide_eq_false (by omega)
      obtain ⟨v2, H2, ea, F2⟩ := F'.app1 l[i] (bytes := 24) (by omega)
      simp only [more_more, size_more, List.cons_append, List.nil_append, List.length_cons, List.length_nil, Nat.zero_add, encClip] at ea
      simp (maxSteps := 4000000) (disch := omega) only [ah, am, Nat.reduceEqDiff, reduceCtorEq, Nat.reduceAdd, Nat.reduceLeDiff, Nat.reduceMul, Nat.reduceLT, if_true, if_false, true_and, and_true, and_self, Nat.reduceBEq, QOp.loads, boxO, bslO, buildO, cutL, fillV, putL, w31, v31, R, R', W, encClip, i64w, T, hn', ea]
      refine ⟨by omega, _, rfl, ?_⟩; rw [J, joinStep, dif_neg hn]; exact F2
  · simp (maxSteps := 4000000) (disch := omega) only [ah, am, Nat.reduceEqDiff, reduceCtorEq, Nat.reduceAdd, Nat.reduceLeDiff, Nat.reduceMul, Nat.reduceLT, if_true, if_false, true_and, and_true, and_self, Nat.reduceBEq, QOp.loads, boxO, bslO, buildO, cutL, fillV, putL, w31, v31, R, W]
    obtain rfl : i = l.length := by omega
    rw [List.take_length] at F
    exact F
def editI (l : List Clip) : List Clip × Bool := if trackOk (join l) then (join l, true) else ([], false)
end Go.Proofs.YtgmimgmdbpcecaaGreatDoor
end

section
namespace Go.Proofs.YtgmimgmdbpcecaaGreatDoor
open Go Go.Ah
set_option linter.unusedSimpArgs false
set_option linter.unusedVariables false
set_option maxRecDepth 10000
set_option maxHeartbeats 4000000
/-! 35 loop.example/g00066/spec.l1Int: parameters 1, live [0], slots [0:n, 1:n, 3:s] -/
def c35_0 : List SOper := [⟨some 2, .q (.mv (.c (.string ⟨#[]⟩))), none⟩]
def c35_1 : List SOper := [⟨some 4, .q (.mv (.t 0)), none⟩, ⟨some 5, .q (.bin .lss (.t 4) (.c (.int .i64 0))), none⟩]
def c35_2 : List SOper := [⟨some 6, .q (.mv (.t 0)), none⟩, ⟨some 7, .q (.neg (.t 6)), none⟩, ⟨some 8, .e (.call 35 [(.t 7)]), none⟩, ⟨some 9, .q (.bin .add (.c (.string ⟨#[45]⟩)) (.t 8)), none⟩, ⟨some 2, .q (.mv (.t 9)), none⟩]
def c35_3 : SCode := .seq (.region c35_2 [2]) .ret
def c35_4 : SCode := .cond (.t 5) c35_3 .skip
def c35_5 : SCode := .seq (.region c35_1 [0, 5]) c35_4
def c35_6 : List SOper := [⟨some 3, .q (.mv (.c (.string ⟨#[]⟩))), none⟩]
def c35_7 : List SOper := [⟨some 10, .q (.mv (.t 3)), none⟩, ⟨some 11, .q (.bin .eql (.t 10) (.c (.string ⟨#[]⟩))), none⟩, ⟨some 12, .q (.mv (.t 11)), none⟩, ⟨some 13, .q (.mv (.t 0)), some (12, false)⟩, ⟨some 14, .q (.bin .gtr (.t 13) (.c (.int .i64 0))), some (12, false)⟩, ⟨some 15, .q (.pick (.t 12) (.c (.bool true)) (.t 14)), none⟩]
def c35_8 : SCode := .cond (.t 15) .skip (.exit 0)
def c35_9 : SCode := .seq (.region c35_7 [0, 3, 15]) c35_8
def c35_10 : List SOper := [⟨some 16, .q (.mv (.t 0)), none⟩, ⟨some 17, .q (.bin .rem (.t 16) (.c (.int .i64 10))), none⟩, ⟨some 18, .q (.bin .add (.c (.int .i64 48)) (.t 17)), none⟩, ⟨some 19, .q (.cvi .u8 (.t 18)), none⟩, ⟨some 20, .a (.bsl 1 1 [(.int .u8 0)] [(0, 1, (.t 19))]), none⟩, ⟨some 21, .q (.cbs (.t 20)), none⟩, ⟨some 22, .q (.mv (.t 3)), none⟩, ⟨some 23, .q (.bin .add (.t 21) (.t 22)), none⟩, ⟨some 3, .q (.mv (.t 23)), none⟩]
def c35_11 : List SOper := [⟨some 24, .q (.mv (.t 0)), none⟩, ⟨some 25, .q (.bin .quo (.t 24) (.c (.int .i64 10))), none⟩, ⟨some 0, .q (.mv (.t 25)), none⟩]
def c35_12 : SCode := .seq (.region c35_10 [0, 3]) (.region c35_11 [0, 3])
def c35_13 : SCode := .block 1 c35_12
def c35_14 : SCode := .seq c35_9 c35_13
def c35_15 : SCode := .loop c35_14
def c35_16 : SCode := .block 0 c35_15
def c35_17 : List SOper := [⟨some 26, .q (.mv (.t 3)), none⟩, ⟨some 2, .q (.mv (.t 26)), none⟩]
def c35_18 : SCode := .seq (.region c35_17 [2]) .ret
def c35_19 : SCode := .seq c35_16 c35_18
def c35_20 : SCode := .seq (.region c35_6 [0, 3]) c35_19
def c35_21 : SCode := .seq c35_5 c35_20
def c35_22 : SCode := .seq (.region c35_0 [0]) c35_21
def c35 : SCode := c35_22
theorem w35 : type_of% (And.intro (uR Tryz.prog c35_0.eq_1) (And.intro (uR Tryz.prog c35_1.eq_1) (And.intro (uR Tryz.prog c35_2.eq_1) (And.intro (uC Tryz.prog c35_3.eq_1) (And.intro (uC Tryz.prog c35_4.eq_1) (And.intro (uC Tryz.prog c35_5.eq_1) (And.intro (uR Tryz.prog c35_6.eq_1) (And.intro (uR Tryz.prog c35_7.eq_1) (And.intro (uC Tryz.prog c35_8.eq_1) (And.intro (uC Tryz.prog c35_9.eq_1) (And.intro (uR Tryz.prog c35_10.eq_1) (And.intro (uR Tryz.prog c35_11.eq_1) (And.intro (uC Tryz.prog c35_12.eq_1) (And.intro (uC Tryz.prog c35_13.eq_1) (And.intro (uC Tryz.prog c35_14.eq_1) (And.intro (uC Tryz.prog c35_15.eq_1) (And.intro (uC Tryz.prog c35_16.eq_1) (And.intro (uR Tryz.prog c35_17.eq_1) (And.intro (uC Tryz.prog c35_18.eq_1) (And.intro (uC Tryz.prog c35_19.eq_1) (And.intro (uC Tryz.prog c35_20.eq_1) (And.intro (uC Tryz.prog c35_21.eq_1) (And.intro (uC Tryz.prog c35_22.eq_1) (uC Tryz.prog c35.eq_1)))))))))))))))))))))))) := (And.intro (uR Tryz.prog c35_0.eq_1) (And.intro (uR Tryz.prog c35_1.eq_1) (And.intro (uR Tryz.prog c35_2.eq_1) (And.intro (uC Tryz.prog c35_3.eq_1) (And.intro (uC Tryz.prog c35_4.eq_1) (And.intro (uC Tryz.prog c35_5.eq_1) (And.intro (uR Tryz.prog c35_6.eq_1) (And.intro (uR Tryz.prog c35_7.eq_1) (And.intro (uC Tryz.prog c35_8.eq_1) (And.intro (uC Tryz.prog c35_9.eq_1) (And.intro (uR Tryz.prog c35_10.eq_1) (And.intro (uR Tryz.prog c35_11.eq_1) (And.intro (uC Tryz.prog c35_12.eq_1) (And.intro (uC Tryz.prog c35_13.eq_1) (And.intro (uC Tryz.prog c35_14.eq_1) (And.intro (uC Tryz.prog c35_15.eq_1) (And.intro (uC Tryz.prog c35_16.eq_1) (And.intro (uR Tryz.prog c35_17.eq_1) (And.intro (uC Tryz.prog c35_18.eq_1) (And.intro (uC Tryz.prog c35_19.eq_1) (And.intro (uC Tryz.prog c35_20.eq_1) (And.intro (uC Tryz.prog c35_21.eq_1) (And.intro (uC Tryz.prog c35_22.eq_1) (uC Tryz.prog c35.eq_1))))))))))))))))))))))))
def v35 : List RV := [.t 2]
theorem s35 : slimF Tryz.prog Tryz.f35 = some (c35.bare, v35) := by kernel_rfl
/-! 66 loop.example/g00066/spec.l1Wide: parameters 2, live [0, 1], slots [0:n, 1:k, 2:n, 3:k, 5:s] -/
def c66_0 : List SOper := [⟨some 4, .q (.mv (.c (.string ⟨#[]⟩))), none⟩]
def c66_1 : List SOper := [⟨some 6, .q (.mv (.t 0)), none⟩, ⟨some 7, .e (.call 35 [(.t 6)]), none⟩, ⟨some 5, .q (.mv (.t 7)), none⟩]
def c66_2 : List SOper := [⟨some 8, .q (.mv (.t 5)), none⟩, ⟨some 9, .q (.lens (.t 8)), none⟩, ⟨some 10, .q (.mv (.t 1)), none⟩, ⟨some 11, .q (.bin .lss (.t 9) (.t 10)), none⟩]
def c66_3 : SCode := .cond (.t 11) .skip (.exit 0)
def c66_4 : SCode := .seq (.region c66_2 [1, 5, 11]) c66_3
def c66_5 : List SOper := [⟨some 12, .q (.mv (.t 5)), none⟩, ⟨some 13, .q (.bin .add (.c (.string ⟨#[48]⟩)) (.t 12)), none⟩, ⟨some 5, .q (.mv (.t 13)), none⟩]
def c66_6 : SCode := .block 1 (.region c66_5 [1, 5])
def c66_7 : SCode := .seq c66_4 c66_6
def c66_8 : SCode := .loop c66_7
def c66_9 : SCode := .block 0 c66_8
def c66_10 : List SOper := [⟨some 14, .q (.mv (.t 5)), none⟩, ⟨some 4, .q (.mv (.t 14)), none⟩]
def c66_11 : SCode := .seq (.region c66_10 [4]) .ret
def c66_12 : SCode := .seq c66_9 c66_11
def c66_13 : SCode := .seq (.region c66_1 [1, 5]) c66_12
def c66_14 : SCode := .seq (.region c66_0 [0, 1]) c66_13
def c66 : SCode := c66_14
theorem w66 : type_of% (And.intro (uR Tryz.prog c66_0.eq_1) (And.intro (uR Tryz.prog c66_1.eq_1) (And.intro (uR Tryz.prog c66_2.eq_1) (And.intro (uC Tryz.prog c66_3.eq_1) (And.intro (uC Tryz.prog c66_4.eq_1) (And.intro (uR Tryz.prog c66_5.eq_1) (And.intro (uC Tryz.prog c66_6.eq_1) (And.intro (uC Tryz.prog c66_7.eq_1) (And.intro (uC Tryz.prog c66_8.eq_1) (And.intro (uC Tryz.prog c66_9.eq_1) (And.intro (uR Tryz.prog c66_10.eq_1) (And.intro (uC Tryz.prog c66_11.eq_1) (And.intro (uC Tryz.prog c66_12.eq_1) (And.intro (uC Tryz.prog c66_13.eq_1) (And.intro (uC Tryz.prog c66_14.eq_1) (uC Tryz.prog c66.eq_1)))))))))))))))) := (And.intro (uR Tryz.prog c66_0.eq_1) (And.intro (uR Tryz.prog c66_1.eq_1) (And.intro (uR Tryz.prog c66_2.eq_1) (And.intro (uC Tryz.prog c66_3.eq_1) (And.intro (uC Tryz.prog c66_4.eq_1) (And.intro (uR Tryz.prog c66_5.eq_1) (And.intro (uC Tryz.prog c66_6.eq_1) (And.intro (uC Tryz.prog c66_7.eq_1) (And.intro (uC Tryz.prog c66_8.eq_1) (And.intro (uC Tryz.prog c66_9.eq_1) (And.intro (uR Tryz.prog c66_10.eq_1) (And.intro (uC Tryz.prog c66_11.eq_1) (And.intro (uC Tryz.prog c66_12.eq_1) (And.intro (uC Tryz.prog c66_13.eq_1) (And.intro (uC Tryz.prog c66_14.eq_1) (uC Tryz.prog c66.eq_1))))))))))))))))
def v66 : List RV := [.t 4]
theorem s66 : slimF Tryz.prog Tryz.f66 = some (c66.bare, v66) := by kernel_rfl
/-! 51 loop.example/g00066/impl.padded: parameters 2, live [0, 1], slots [0:n, 1:wide, 2:n, 3:wide, 5:s] -/
def c51_0 : List SOper := [⟨some 4, .q (.mv (.c (.string ⟨#[]⟩))), none⟩]
def c51_1 : List SOper := [⟨some 6, .q (.mv (.t 0)), none⟩, ⟨some 7, .e (.call 71 [(.t 6), (.c (.int .i64 10))]), none⟩, ⟨some 5, .q (.mv (.t 7)), none⟩]
def c51_2 : List SOper := [⟨some 8, .q (.mv (.t 1)), none⟩, ⟨some 9, .q (.mv (.t 5)), none⟩, ⟨some 10, .q (.lens (.t 9)), none⟩, ⟨some 11, .q (.bin .sub (.t 8) (.t 10)), none⟩, ⟨some 12, .q (.mx (.t 11) (.c (.int .i64 0))), none⟩, ⟨some 13, .e (.call 72 [(.c (.string ⟨#[48]⟩)), (.t 12)]), none⟩, ⟨some 14, .q (.mv (.t 5)), none⟩, ⟨some 15, .q (.bin .add (.t 13) (.t 14)), none⟩, ⟨some 4, .q (.mv (.t 15)), none⟩]
def c51_3 : SCode := .seq (.region c51_2 [4]) .ret
def c51_4 : SCode := .seq (.region c51_1 [1, 5]) c51_3
def c51_5 : SCode := .seq (.region c51_0 [0, 1]) c51_4
def c51 : SCode := c51_5
theorem w51 : type_of% (And.intro (uR Tryz.prog c51_0.eq_1) (And.intro (uR Tryz.prog c51_1.eq_1) (And.intro (uR Tryz.prog c51_2.eq_1) (And.intro (uC Tryz.prog c51_3.eq_1) (And.intro (uC Tryz.prog c51_4.eq_1) (And.intro (uC Tryz.prog c51_5.eq_1) (uC Tryz.prog c51.eq_1))))))) := (And.intro (uR Tryz.prog c51_0.eq_1) (And.intro (uR Tryz.prog c51_1.eq_1) (And.intro (uR Tryz.prog c51_2.eq_1) (And.intro (uC Tryz.prog c51_3.eq_1) (And.intro (uC Tryz.prog c51_4.eq_1) (And.intro (uC Tryz.prog c51_5.eq_1) (uC Tryz.prog c51.eq_1)))))))
def v51 : List RV := [.t 4]
theorem s51 : slimF Tryz.prog Tryz.f51 = some (c51.bare, v51) := by kernel_rfl
/-! 37 loop.example/g00066/spec.l6Digits: parameters 1, live [0], slots [0:n, 1:n] -/
def c37_0 : List SOper := [⟨some 2, .q (.mv (.c (.string ⟨#[]⟩))), none⟩]
def c37_1 : List SOper := [⟨some 3, .q (.mv (.t 0)), none⟩, ⟨some 4, .q (.bin .lss (.t 3) (.c (.int .i64 1000))), none⟩]
def c37_2 : List SOper := [⟨some 5, .q (.mv (.t 0)), none⟩, ⟨some 6, .e (.call 66 [(.t 5), (.c (.int .i64 3))]), none⟩, ⟨some 2, .q (.mv (.t 6)), none⟩]
def c37_3 : SCode := .seq (.region c37_2 [2]) .ret
def c37_4 : SCode := .cond (.t 4) c37_3 .skip
def c37_5 : SCode := .seq (.region c37_1 [0, 4]) c37_4
def c37_6 : List SOper := [⟨some 7, .q (.mv (.t 0)), none⟩, ⟨some 8, .e (.call 35 [(.t 7)]), none⟩, ⟨some 2, .q (.mv (.t 8)), none⟩]
def c37_7 : SCode := .seq (.region c37_6 [2]) .ret
def c37_8 : SCode := .seq c37_5 c37_7
def c37_9 : SCode := .seq (.region c37_0 [0]) c37_8
def c37 : SCode := c37_9
theorem w37 : type_of% (And.intro (uR Tryz.prog c37_0.eq_1) (And.intro (uR Tryz.prog c37_1.eq_1) (And.intro (uR Tryz.prog c37_2.eq_1) (And.intro (uC Tryz.prog c37_3.eq_1) (And.intro (uC Tryz.prog c37_4.eq_1) (And.intro (uC Tryz.prog c37_5.eq_1) (And.intro (uR Tryz.prog c37_6.eq_1) (And.intro (uC Tryz.prog c37_7.eq_1) (And.intro (uC Tryz.prog c37_8.eq_1) (And.intro (uC Tryz.prog c37_9.eq_1) (uC Tryz.prog c37.eq_1))))))))))) := (And.intro (uR Tryz.prog c37_0.eq_1) (And.intro (uR Tryz.prog c37_1.eq_1) (And.intro (uR Tryz.prog c37_2.eq_1) (And.intro (uC Tryz.prog c37_3.eq_1) (And.intro (uC Tryz.prog c37_4.eq_1) (And.intro (uC Tryz.prog c37_5.eq_1) (And.intro (uR Tryz.prog c37_6.eq_1) (And.intro (uC Tryz.prog c37_7.eq_1) (And.intro (uC Tryz.prog c37_8.eq_1) (And.intro (uC Tryz.prog c37_9.eq_1) (uC Tryz.prog c37.eq_1)))))))))))
def v37 : List RV := [.t 2]
theorem s37 : slimF Tryz.prog Tryz.f37 = some (c37.bare, v37) := by kernel_rfl

/-! ### Strings -/
theorem bytes_inj {a b : ByteArray} (h : a.data.toList = b.data.toList) : a = b := by
  obtain ⟨⟨a⟩⟩ := a
  obtain ⟨⟨b⟩⟩ := b
  simp only at h
  rw [h]
theorem bytes_beq (a b : ByteArray) : (a.toList == b.toList) = decide (a.data.toList = b.data.toList) := by
  rw [ByteArray.toList_eq, ByteArray.toList_eq]
  rw [Bool.eq_iff_iff]; simp
theorem strB_eql (a b : ByteArray) : strB .eql a b = some (.bool (decide (a.data.toList = b.data.toList))) := by
  rw [← bytes_beq]; rfl
theorem strB_neq (a b : ByteArray) : strB .neq a b = some (.bool (!decide (a.data.toList = b.data.toList))) := by
  rw [← bytes_beq]; rfl
theorem strB_add (a b : ByteArray) (h : a.size + b.size ≤ 9223372036854775807) : strB .add a b = some (.string (a ++ b)) := if_pos h
def bL (l : List UInt8) : ByteArray := ⟨l.toArray⟩
theorem bL_data (l : List UInt8) : (bL l).data.toList = l := rfl
theorem bL_size (l : List UInt8) : (bL l).size = l.length := by show l.toArray.size = _; simp
theorem bL_of (s : ByteArray) : bL s.data.toList = s := bytes_inj rfl
theorem bL_app (a b : List UInt8) : bL a ++ bL b = bL (a ++ b) := bytes_inj (by simp [bL])
theorem strB_nil (l : List UInt8) : strB .eql (bL l) ⟨#[]⟩ = some (.bool (decide (l = []))) := strB_eql (bL l) ⟨#[]⟩
theorem strB_addL (a b : List UInt8) (h : a.length + b.length ≤ 9223372036854775807) : strB .add (bL a) (bL b) = some (.string (bL (a ++ b))) := by
  rw [← bL_app]; exact if_pos (by rw [bL_size, bL_size]; exact h)
theorem u8w {x : Int} (h : 0 ≤ x ∧ x < 256) : IntKind.u8.wrap x = x := by
  simp [IntKind.wrap, IntKind.signed, IntKind.bits]; omega
theorem cbs_one (K : Heap) (L : List (List Value)) (n : Int) : cbsV (K.more (L ++ [[.int .u8 n]])) (.slice (some ⟨K.size + L.length, 0, none⟩) 1 1) = some (.string (bytesS [n])) := by
  have : rdn (K.more (L ++ [[.int .u8 n]])) (K.size + L.length) 0 1 = some [.int .u8 n] := by
    unfold rdn
    rw [get_more]
    simp
  simp only [cbsV, this, Option.bind_some, bytesV, Option.map_some]
theorem cbs_one0 (K : Heap) (n : Int) : cbsV (K.more [[.int .u8 n]]) (.slice (some ⟨K.size, 0, none⟩) 1 1) = some (.string (bytesS [n])) := cbs_one K [] n
theorem bytesS_bL (n : Int) : bytesS [n] = bL [UInt8.ofNat n.toNat] := rfl
/-! ### Digits -/
abbrev digs (n : Nat) : List UInt8 := Go.Lib.decDigits n
theorem digs_step {n : Nat} (h : ¬ n < 10) : digs n = digs (n / 10) ++ [UInt8.ofNat (48 + n % 10)] := by
  show Go.Lib.decDigits n = _
  rw [Go.Lib.decDigits, dif_neg h]
theorem digs_small {n : Nat} (h : n < 10) : digs n = [UInt8.ofNat (48 + n)] := Go.Lib.decDigits_one h
theorem digs_len : ∀ (k n : Nat), n < 10 ^ (k + 1) → (digs n).length ≤ k + 1 := by
  intro k
  induction k with
  | zero => intro n hn; rw [digs_small (by simpa using hn)]; simp
  | succ k ih =>
    intro n hn
    by_cases h : n < 10
    · rw [digs_small h]; simp
    · rw [digs_step h, List.length_append]
      have := ih (n / 10) (by rw [Nat.pow_succ] at hn; omega)
      simp; omega
theorem digs_pos (n : Nat) : 0 < (digs n).length := by
  by_cases h : n < 10
  · rw [digs_small h]; simp
  · rw [digs_step h]; simp
theorem digs_len19 {n : Nat} (h : n ≤ 9223372036854775807) : (digs n).length ≤ 19 := digs_len 18 n (by omega)
theorem itoa_nat (n : Nat) : itoaB (n : Int) = bL (digs n) := by
  unfold itoaB Go.Lib.itoa
  rw [if_neg (by omega)]; rfl
/-- What is left to write ahead of what is written. -/
def leftD (n : Nat) (sfx : List UInt8) (m : Nat) : Prop := (sfx = [] ∧ m = n) ∨ (sfx ≠ [] ∧ digs n = (if m = 0 then [] else digs m) ++ sfx)
theorem leftD_step {n m : Nat} {sfx : List UInt8} (h : leftD n sfx m) (hc : sfx = [] ∨ 0 < m) : leftD n (UInt8.ofNat (48 + m % 10) :: sfx) (m / 10) := by
  refine .inr ⟨by simp, ?_⟩
  have key : digs m = (if m / 10 = 0 then [] else digs (m / 10)) ++ [UInt8.ofNat (48 + m % 10)] := by
    by_cases h10 : m < 10
    · rw [digs_small h10, if_pos (by omega), Nat.mod_eq_of_lt h10]; rfl
    · rw [digs_step h10, if_neg (by omega)]
  rcases h with ⟨rfl, rfl⟩ | ⟨h1, h2⟩
  · exact key
  · have hm : m ≠ 0 := by rcases hc with hc | hc; exact absurd hc h1; omega
    rw [h2, if_neg hm, key, List.append_assoc]; rfl
theorem l1Int_ok (h : Heap) (n : Nat) (hn : n ≤ 9223372036854775807) : ACall Tryz.prog 35 [.int .i64 (n : Int)] h fun r h' => Ext h h' ∧ r = .string (bL (digs n)) := by
  refine ACall.of Tryz.func35 s35 (of_decide_eq_true rfl) ?_
  have c0 : decide ((n : Int) < 0) = false := decide_eq_false (by omega)
  simp (maxSteps := 4000000) (disch := omega) only [ah, am, Nat.reduceEqDiff, reduceCtorEq, Nat.reduceAdd, Nat.reduceLeDiff, Nat.reduceMul, Nat.reduceLT, if_true, if_false, true_and, and_true, and_self, Nat.reduceBEq, QOp.loads, boxO, bslO, buildO, cutL, fillV, putL, w35, v35, c0]
  refine ⟨fun t E H => ∃ (m : Nat) (sfx : List UInt8), E = [(0, .int .i64 (m : Int)), (3, .string (bL sfx))] ∧ Ext h H ∧ m ≤ n ∧ leftD n sfx m ∧ t = m + (if sfx = [] then 1 else 0), ⟨n + 1, n, [], rfl, Ext.refl h, Nat.le_refl _, .inl ⟨rfl, rfl⟩, rfl⟩, ?_⟩
  rintro t E H ⟨m, sfx, rfl, e, hm, D, rfl⟩
  have m1 : ((m : Int)).tmod 10 = ((m % 10 : Nat) : Int) := by rw [Int.tmod_eq_emod_of_nonneg (by omega)]; omega
  have d1 : ((m : Int)).tdiv 10 = ((m / 10 : Nat) : Int) := by rw [Int.tdiv_eq_ediv_of_nonneg (by omega)]; omega
  have w1 : IntKind.i64.wrap (48 + (m : Int).tmod 10) = 48 + ((m % 10 : Nat) : Int) := i64e (by rw [m1]) (by omega)
  have w2 : IntKind.i64.wrap ((m : Int).tdiv 10) = ((m / 10 : Nat) : Int) := i64e d1 (by omega)
  have w3 : IntKind.u8.wrap (48 + ((m % 10 : Nat) : Int)) = 48 + ((m % 10 : Nat) : Int) := u8w (by omega)
  have n10 : (10 : Int) ≠ 0 := by omega
  have hB : bytesS [48 + ((m % 10 : Nat) : Int)] = bL [UInt8.ofNat (48 + m % 10)] := by
    rw [bytesS_bL, show (48 + ((m % 10 : Nat) : Int)).toNat = 48 + m % 10 from by omega]
  have hsl : sfx.length ≤ 19 := by
    rcases D with ⟨rfl, _⟩ | ⟨_, D⟩
    · simp
    · have := digs_len19 hn; rw [D, List.length_append] at this; omega
  have A := strB_addL [UInt8.ofNat (48 + m % 10)] sfx (by simp; omega)
  rw [← hB] at A
  have go : (sfx = [] ∨ 0 < m) → ∃ n', (n' < m + if sfx = [] then 1 else 0) ∧ ∃ (m' : Nat) (sfx' : List UInt8), [(0, Value.int .i64 ((m / 10 : Nat) : Int)), (3, .string (bL (UInt8.ofNat (48 + m % 10) :: sfx)))] = [(0, .int .i64 (m' : Int)), (3, .string (bL sfx'))] ∧
      Ext h (H.more [[.int .u8 (48 + ((m % 10 : Nat) : Int))]]) ∧ m' ≤ n ∧ leftD n sfx' m' ∧ n' = m' + (if sfx' = [] then 1 else 0) := by
    intro hc
    refine ⟨_, ?_, m / 10, UInt8.ofNat (48 + m % 10) :: sfx, rfl, e.trans (Ext.more _ _), by omega, leftD_step D hc, rfl⟩
    rw [if_neg (by simp)]
    split
    · omega
    · rename_i hne
      have : 0 < m := by
        rcases hc with hc | hc
        · exact absurd hc hne
        · exact hc
      omega
  by_cases c1 : sfx = []
  · simp (maxSteps := 4000000) (disch := omega) only [ah, am, Nat.reduceEqDiff, reduceCtorEq, Nat.reduceAdd, Nat.reduceLeDiff, Nat.reduceMul, Nat.reduceLT, if_true, if_false, true_and, and_true, and_self, Nat.reduceBEq, QOp.loads, boxO, bslO, buildO, cutL, fillV, putL, w35, v35, strB_nil, decide_eq_true c1, n10, ne_eq, not_false_eq_true, w1, w2, w3, ev_cbs, cbs_one0, A]
    exact go (.inl c1)
  by_cases c2 : 0 < m
  · have c2' : decide ((0 : Int) < (m : Int)) = true := decide_eq_true (by omega)
    simp (maxSteps := 4000000) (disch := omega) only [ah, am, Nat.reduceEqDiff, reduceCtorEq, Nat.reduceAdd, Nat.reduceLeDiff, Nat.reduceMul, Nat.reduceLT, if_true, if_false, true_and, and_true, and_self, Nat.reduceBEq, QOp.loads, boxO, bslO, buildO, cutL, fillV, putL, w35, v35, strB_nil, decide_eq_false c1, c2', n10, ne_eq, not_false_eq_true, w1, w2, w3, ev_cbs, cbs_one0, A]
    exact go (.inr c2)
  · have c2' : decide ((0 : Int) < (m : Int)) = false := decide_eq_false (by omega)
    simp (maxSteps := 4000000) (disch := omega) only [ah, am, Nat.reduceEqDiff, reduceCtorEq, Nat.reduceAdd, Nat.reduceLeDiff, Nat.reduceMul, Nat.reduceLT, if_true, if_false, true_and, and_true, and_self, Nat.reduceBEq, QOp.loads, boxO, bslO, buildO, cutL, fillV, putL, w35, v35, strB_nil, decide_eq_false c1, c2']
    refine ⟨e, ?_⟩
    rcases D with ⟨h1, _⟩ | ⟨_, h2⟩
    · exact absurd h1 c1
    · rw [h2, if_pos (by omega)]; rfl
def padL (k : Nat) (l : List UInt8) : List UInt8 := List.replicate (k - l.length) 48 ++ l
theorem padL_len (k : Nat) (l : List UInt8) : (padL k l).length = max k l.length := by simp [padL]; omega
theorem l1Wide_ok (h : Heap) (n k : Nat) (hn : n ≤ 9223372036854775807) (hk : k ≤ 1000) : ACall Tryz.prog 66 [.int .i64 (n : Int), .int .i64 (k : Int)] h fun r h' => Ext h h' ∧ r = .string (bL (padL k (digs n))) := by
  refine ACall.of Tryz.func66 s66 (of_decide_eq_true rfl) ?_
  simp (maxSteps := 4000000) (disch := omega) only [ah, am, Nat.reduceEqDiff, reduceCtorEq, Nat.reduceAdd, Nat.reduceLeDiff, Nat.reduceMul, Nat.reduceLT, if_true, if_false, true_and, and_true, and_self, Nat.reduceBEq, QOp.loads, boxO, bslO, buildO, cutL, fillV, putL, w66, v66]
  refine stepC.of (l1Int_ok _ n hn) ?_
  rintro _ H1 ⟨e1, rfl⟩
  have hl := digs_len19 hn
  simp (maxSteps := 4000000) (disch := omega) only [ah, am, Nat.reduceEqDiff, reduceCtorEq, Nat.reduceAdd, Nat.reduceLeDiff, Nat.reduceMul, Nat.reduceLT, if_true, if_false, true_and, and_true, and_self, Nat.reduceBEq, QOp.loads, boxO, bslO, buildO, cutL, fillV, putL, w66, v66]
  refine SW_loop_up (fun j E H => H = H1 ∧ E = [(1, .int .i64 (k : Int)), (5, .string (bL (List.replicate j 48 ++ digs n)))]) (k - (digs n).length) 0 (by omega) ⟨rfl, rfl⟩ ?_
  rintro j E H hj ⟨rfl, rfl⟩
  have L := strB_addL [48] (List.replicate j 48 ++ digs n) (by simp; omega)
  have e48 : bL [48] = ⟨#[48]⟩ := rfl
  rw [e48, show [(48 : UInt8)] ++ (List.replicate j 48 ++ digs n) = List.replicate (j + 1) 48 ++ digs n from rfl] at L
  have hsz : (bL (List.replicate j 48 ++ digs n)).size = j + (digs n).length := by rw [bL_size]; simp
  simp (maxSteps := 4000000) (disch := omega) only [ah, am, Nat.reduceEqDiff, reduceCtorEq, Nat.reduceAdd, Nat.reduceLeDiff, Nat.reduceMul, Nat.reduceLT, if_true, if_false, true_and, and_true, and_self, Nat.reduceBEq, QOp.loads, boxO, bslO, buildO, cutL, fillV, putL, w66, v66, hsz]
  refine stepI.split (fun hp => ?_) (fun hp => ?_)
  · simp (maxSteps := 4000000) (disch := omega) only [ah, am, Nat.reduceEqDiff, reduceCtorEq, Nat.reduceAdd, Nat.reduceLeDiff, Nat.reduceMul, Nat.reduceLT, if_true, if_false, true_and, and_true, and_self, Nat.reduceBEq, QOp.loads, boxO, bslO, buildO, cutL, fillV, putL, w66, v66, L]
    omega
  · simp (maxSteps := 4000000) (disch := omega) only [ah, am, Nat.reduceEqDiff, reduceCtorEq, Nat.reduceAdd, Nat.reduceLeDiff, Nat.reduceMul, Nat.reduceLT, if_true, if_false, true_and, and_true, and_self, Nat.reduceBEq, QOp.loads, boxO, bslO, buildO, cutL, fillV, putL, w66, v66]
    refine ⟨e1, ?_⟩
    unfold padL
    rw [show k - (digs n).length = j from by omega]
theorem rep48 : ∀ c : Nat, Go.Lib.repeatL [48] c = List.replicate c 48 := by
  intro c
  induction c with
  | zero => rfl
  | succ c ih => rw [List.replicate_succ, ← ih]; rfl
theorem padded_ok (h : Heap) (n k : Nat) (hn : n ≤ 9223372036854775807) (hk : k ≤ 1000) : ACall Tryz.prog 51 [.int .i64 (n : Int), .int .i64 (k : Int)] h fun r h' => h' = h ∧ r = .string (bL (padL k (digs n))) := by
  refine ACall.of Tryz.func51 s51 (of_decide_eq_true rfl) ?_
  simp (maxSteps := 4000000) (disch := omega) only [ah, am, Nat.reduceEqDiff, reduceCtorEq, Nat.reduceAdd, Nat.reduceLeDiff, Nat.reduceMul, Nat.reduceLT, if_true, if_false, true_and, and_true, and_self, Nat.reduceBEq, QOp.loads, boxO, bslO, buildO, cutL, fillV, putL, w51, v51]
  refine stepC.of (FormatInt_ok h (n : Int) (by omega) (by omega)) ?_
  rintro _ Hx ⟨hx, rfl⟩; rw [hx]; clear hx Hx
  have hl := digs_len19 hn
  have hsz : (itoaB (n : Int)).size = (digs n).length := by rw [itoa_nat, bL_size]
  have w1 : IntKind.i64.wrap ((k : Int) - ((digs n).length : Int)) = (k : Int) - ((digs n).length : Int) := i64e rfl (by omega)
  have mx : (if (k : Int) - ((digs n).length : Int) < 0 then (0 : Int) else (k : Int) - ((digs n).length : Int)) = ((k - (digs n).length : Nat) : Int) := by split <;> omega
  simp (maxSteps := 4000000) (disch := omega) only [ah, am, Nat.reduceEqDiff, reduceCtorEq, Nat.reduceAdd, Nat.reduceLeDiff, Nat.reduceMul, Nat.reduceLT, if_true, if_false, true_and, and_true, and_self, Nat.reduceBEq, QOp.loads, boxO, bslO, buildO, cutL, fillV, putL, w51, v51, hsz, w1, mx]
  have rk := Repeat_ok h ⟨#[48]⟩ (k - (digs n).length) (by omega) (by decide)
  rw [show (⟨#[48]⟩ : ByteArray).data.toList = [48] from rfl, rep48] at rk
  refine stepC.of rk ?_
  rintro _ Hx ⟨hx, rfl⟩; rw [hx]; clear hx Hx
  have A := strB_addL (List.replicate (k - (digs n).length) 48) (digs n) (by simp; omega)
  rw [itoa_nat]
  simp (maxSteps := 4000000) (disch := omega) only [ah, am, Nat.reduceEqDiff, reduceCtorEq, Nat.reduceAdd, Nat.reduceLeDiff, Nat.reduceMul, Nat.reduceLT, if_true, if_false, true_and, and_true, and_self, Nat.reduceBEq, QOp.loads, boxO, bslO, buildO, cutL, fillV, putL, w51, v51, show (⟨(List.replicate (k - (digs n).length) (48 : UInt8)).toArray⟩ : ByteArray) = bL (List.replicate (k - (digs n).length) 48) from rfl, A]
  rfl
theorem l6Digits_ok (h : Heap) (n : Nat) (hn : n ≤ 9223372036854775807) : ACall Tryz.prog 37 [.int .i64 (n : Int)] h fun r h' => Ext h h' ∧ r = .string (bL (padL 3 (digs n))) := by
  refine ACall.of Tryz.func37 s37 (of_decide_eq_true rfl) ?_
  by_cases c : (n : Int) < 1000
  · simp (maxSteps := 4000000) (disch := omega) only [ah, am, Nat.reduceEqDiff, reduceCtorEq, Nat.reduceAdd, Nat.reduceLeDiff, Nat.reduceMul, Nat.reduceLT, if_true, if_false, true_and, and_true, and_self, Nat.reduceBEq, QOp.loads, boxO, bslO, buildO, cutL, fillV, putL, w37, v37, decide_eq_true c]
    refine stepC.of (l1Wide_ok h n 3 hn (by omega)) ?_
    rintro _ H1 ⟨e1, rfl⟩
    simp (maxSteps := 4000000) (disch := omega) only [ah, am, Nat.reduceEqDiff, reduceCtorEq, Nat.reduceAdd, Nat.reduceLeDiff, Nat.reduceMul, Nat.reduceLT, if_true, if_false, true_and, and_true, and_self, Nat.reduceBEq, QOp.loads, boxO, bslO, buildO, cutL, fillV, putL, w37, v37]
    exact e1
  · simp (maxSteps := 4000000) (disch := omega) only [ah, am, Nat.reduceEqDiff, reduceCtorEq, Nat.reduceAdd, Nat.reduceLeDiff, Nat.reduceMul, Nat.reduceLT, if_true, if_false, true_and, and_true, and_self, Nat.reduceBEq, QOp.loads, boxO, bslO, buildO, cutL, fillV, putL, w37, v37, decide_eq_false c]
    refine stepC.of (l1Int_ok h n hn) ?_
    rintro _ H1 ⟨e1, rfl⟩
    simp (maxSteps := 4000000) (disch := omega) only [ah, am, Nat.reduceEqDiff, reduceCtorEq, Nat.reduceAdd, Nat.reduceLeDiff, Nat.reduceMul, Nat.reduceLT, if_true, if_false, true_and, and_true, and_self, Nat.reduceBEq, QOp.loads, boxO, bslO, buildO, cutL, fillV, putL, w37, v37]
    refine ⟨e1, ?_⟩
    have : 3 < (digs n).length := by
      have h1 : ¬ n < 10 := by omega
      have h2 : ¬ n / 10 < 10 := by omega
      have h3 : ¬ n / 10 / 10 < 10 := by omega
      rw [digs_step h1, digs_step h2, digs_step h3]
      have := digs_pos (n / 10 / 10 / 10)
      simp; omega
    unfold padL
    rw [show 3 - (digs n).length = 0 from by omega]; rfl
end Go.Proofs.YtgmimgmdbpcecaaGreatDoor
end
