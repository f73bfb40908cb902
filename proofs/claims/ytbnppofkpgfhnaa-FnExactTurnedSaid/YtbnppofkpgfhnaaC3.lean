import Derived.Test.YtbnppofkpgfhnaaC2
namespace Go.Proofs.Ytbnppofkpgfhnaa
open Go Go.Ah
set_option linter.unusedSimpArgs false
set_option linter.unusedVariables false
set_option maxRecDepth 10000
set_option maxHeartbeats 4000000
/-! 56 (loop.example/g00066/impl.Change).clip: parameters 1, live [0], slots [0:c, 1:c] -/
def c56_0 : List SOper := [⟨some 1, .a (.box (.t 0)), none⟩, ⟨some 2, .a (.new [(.int .i64 0), (.int .i64 0), (.int .i64 0)]), none⟩]
def c56_1 : List SOper := [⟨some 3, .q (.fa 1 (.t 1)), none⟩, ⟨some 4, .q (.ld (.t 3)), none⟩, ⟨some 5, .q (.fa 2 (.t 1)), none⟩, ⟨some 6, .q (.ld (.t 5)), none⟩, ⟨some 7, .q (.fa 3 (.t 1)), none⟩, ⟨some 8, .q (.ld (.t 7)), none⟩, ⟨some 9, .q (.build [(.int .i64 0), (.int .i64 0), (.int .i64 0)] [(0, 1, (.t 4)), (1, 1, (.t 6)), (2, 1, (.t 8))]), none⟩, ⟨none, .e (.st 3 (.t 2) (.t 9)), none⟩]
def c56_2 : SCode := .seq (.region c56_1 [2]) .ret
def c56_3 : SCode := .seq (.region c56_0 [1, 2]) c56_2
def c56 : SCode := c56_3
theorem w56 : type_of% (And.intro (uR Try.prog c56_0.eq_1) (And.intro (uR Try.prog c56_1.eq_1) (And.intro (uC Try.prog c56_2.eq_1) (And.intro (uC Try.prog c56_3.eq_1) (uC Try.prog c56.eq_1))))) := (And.intro (uR Try.prog c56_0.eq_1) (And.intro (uR Try.prog c56_1.eq_1) (And.intro (uC Try.prog c56_2.eq_1) (And.intro (uC Try.prog c56_3.eq_1) (uC Try.prog c56.eq_1)))))
def v56 : List RV := [.c 2 (some 3)]
theorem s56 : slimF Try.prog Try.f56 = some (c56.bare, v56) := by kernel_rfl
/-! 86 (loop.example/g00066/impl.Change).ok: parameters 1, live [0], slots [0:c, 1:c] -/
def c86_0 : List SOper := [⟨some 1, .a (.box (.t 0)), none⟩, ⟨some 2, .q (.mv (.c (.bool false))), none⟩]
def c86_1 : List SOper := [⟨some 3, .q (.fa 0 (.t 1)), none⟩, ⟨some 4, .q (.ld (.t 3)), none⟩, ⟨some 5, .q (.bin .eql (.t 4) (.c (.int .i64 3))), none⟩]
def c86_2 : List SOper := [⟨some 6, .q (.ldn 4 (.t 1)), none⟩, ⟨some 7, .e (.call 56 [(.t 6)]), none⟩, ⟨some 8, .e (.call 75 [(.t 7)]), none⟩, ⟨some 2, .q (.mv (.t 8)), none⟩]
def c86_3 : SCode := .seq (.region c86_2 [2]) .ret
def c86_4 : SCode := .cond (.t 5) c86_3 .skip
def c86_5 : SCode := .seq (.region c86_1 [1, 5]) c86_4
def c86_6 : List SOper := [⟨some 9, .q (.fa 0 (.t 1)), none⟩, ⟨some 10, .q (.ld (.t 9)), none⟩, ⟨some 11, .q (.bin .eql (.t 10) (.c (.int .i64 1))), none⟩, ⟨some 12, .q (.mv (.t 11)), none⟩, ⟨some 13, .q (.fa 0 (.t 1)), some (12, false)⟩, ⟨some 14, .q (.ld (.t 13)), some (12, false)⟩, ⟨some 15, .q (.bin .eql (.t 14) (.c (.int .i64 2))), some (12, false)⟩, ⟨some 16, .q (.pick (.t 12) (.c (.bool true)) (.t 15)), none⟩, ⟨some 17, .q (.mv (.t 16)), none⟩, ⟨some 18, .q (.fa 1 (.t 1)), some (17, true)⟩, ⟨some 19, .q (.ld (.t 18)), some (17, true)⟩, ⟨some 20, .q (.bin .eql (.t 19) (.c (.int .i64 0))), some (17, true)⟩, ⟨some 21, .q (.pick (.t 17) (.t 20) (.c (.bool false))), none⟩, ⟨some 22, .q (.mv (.t 21)), none⟩, ⟨some 23, .q (.fa 2 (.t 1)), some (22, true)⟩, ⟨some 24, .q (.ld (.t 23)), some (22, true)⟩, ⟨some 25, .q (.bin .eql (.t 24) (.c (.int .i64 0))), some (22, true)⟩, ⟨some 26, .q (.pick (.t 22) (.t 25) (.c (.bool false))), none⟩, ⟨some 27, .q (.mv (.t 26)), none⟩, ⟨some 28, .q (.fa 3 (.t 1)), some (27, true)⟩, ⟨some 29, .q (.ld (.t 28)), some (27, true)⟩, ⟨some 30, .e (.call 58 [(.t 29), (.c (.int .i64 1)), (.c (.int .i64 10000000))]), some (27, true)⟩, ⟨some 31, .q (.pick (.t 27) (.t 30) (.c (.bool false))), none⟩, ⟨some 2, .q (.mv (.t 31)), none⟩]
def c86_7 : SCode := .seq (.region c86_6 [2]) .ret
def c86_8 : SCode := .seq c86_5 c86_7
def c86_9 : SCode := .seq (.region c86_0 [1]) c86_8
def c86 : SCode := c86_9
theorem w86 : type_of% (And.intro (uR Try.prog c86_0.eq_1) (And.intro (uR Try.prog c86_1.eq_1) (And.intro (uR Try.prog c86_2.eq_1) (And.intro (uC Try.prog c86_3.eq_1) (And.intro (uC Try.prog c86_4.eq_1) (And.intro (uC Try.prog c86_5.eq_1) (And.intro (uR Try.prog c86_6.eq_1) (And.intro (uC Try.prog c86_7.eq_1) (And.intro (uC Try.prog c86_8.eq_1) (And.intro (uC Try.prog c86_9.eq_1) (uC Try.prog c86.eq_1))))))))))) := (And.intro (uR Try.prog c86_0.eq_1) (And.intro (uR Try.prog c86_1.eq_1) (And.intro (uR Try.prog c86_2.eq_1) (And.intro (uC Try.prog c86_3.eq_1) (And.intro (uC Try.prog c86_4.eq_1) (And.intro (uC Try.prog c86_5.eq_1) (And.intro (uR Try.prog c86_6.eq_1) (And.intro (uC Try.prog c86_7.eq_1) (And.intro (uC Try.prog c86_8.eq_1) (And.intro (uC Try.prog c86_9.eq_1) (uC Try.prog c86.eq_1)))))))))))
def v86 : List RV := [.t 2]
theorem s86 : slimF Try.prog Try.f86 = some (c86.bare, v86) := by kernel_rfl
/-! 85 loop.example/g00066/impl.changesOk$1: parameters 1, live [0], slots [0:c, 1:c] -/
def c85_0 : List SOper := [⟨some 1, .a (.box (.t 0)), none⟩, ⟨some 2, .q (.mv (.c (.bool false))), none⟩]
def c85_1 : List SOper := [⟨some 3, .q (.ldn 4 (.t 1)), none⟩, ⟨some 4, .e (.call 86 [(.t 3)]), none⟩, ⟨some 5, .q (.not (.t 4)), none⟩, ⟨some 2, .q (.mv (.t 5)), none⟩]
def c85_2 : SCode := .seq (.region c85_1 [2]) .ret
def c85_3 : SCode := .seq (.region c85_0 [1]) c85_2
def c85 : SCode := c85_3
theorem w85 : type_of% (And.intro (uR Try.prog c85_0.eq_1) (And.intro (uR Try.prog c85_1.eq_1) (And.intro (uC Try.prog c85_2.eq_1) (And.intro (uC Try.prog c85_3.eq_1) (uC Try.prog c85.eq_1))))) := (And.intro (uR Try.prog c85_0.eq_1) (And.intro (uR Try.prog c85_1.eq_1) (And.intro (uC Try.prog c85_2.eq_1) (And.intro (uC Try.prog c85_3.eq_1) (uC Try.prog c85.eq_1)))))
def v85 : List RV := [.t 2]
theorem s85 : slimF Try.prog Try.f85 = some (c85.bare, v85) := by kernel_rfl
/-! 93 slices.IndexFunc[[]loop.example/g00066/impl.Change,loop.example/g00066/impl.Change]: parameters 2, live [0, 1], slots [0:s, 1:f, 2:s, 3:f, 5:i] -/
def c93_0 : List SOper := [⟨some 4, .q (.mv (.c (.int .i64 0))), none⟩]
def c93_1 : List SOper := [⟨some 6, .q (.mv (.t 0)), none⟩, ⟨some 7, .q (.len (.t 6)), none⟩, ⟨some 8, .q (.mv (.c (.int .i64 0))), none⟩]
def c93_2 : List SOper := [⟨some 9, .q (.bin .lss (.t 8) (.t 7)), none⟩]
def c93_3 : SCode := .cond (.t 9) .skip (.exit 0)
def c93_4 : List SOper := [⟨some 10, .q (.mv (.t 8)), none⟩, ⟨some 5, .q (.mv (.t 10)), none⟩]
def c93_5 : List SOper := [⟨some 11, .q (.mv (.t 1)), none⟩, ⟨some 12, .q (.mv (.t 0)), none⟩, ⟨some 13, .q (.mv (.t 5)), none⟩, ⟨some 14, .q (.ia 4 (.t 12) (.t 13)), none⟩, ⟨some 15, .q (.ldn 4 (.t 14)), none⟩, ⟨some 16, .e (.callv (.t 11) [(.t 15)]), none⟩]
def c93_6 : List SOper := [⟨some 17, .q (.mv (.t 5)), none⟩, ⟨some 4, .q (.mv (.t 17)), none⟩]
def c93_7 : SCode := .seq (.region c93_6 [4]) .ret
def c93_8 : SCode := .cond (.t 16) c93_7 .skip
def c93_9 : SCode := .seq (.region c93_5 [0, 1, 5, 7, 8, 16]) c93_8
def c93_10 : SCode := .seq (.region c93_4 [0, 1, 5, 7, 8]) c93_9
def c93_11 : SCode := .block 1 c93_10
def c93_12 : List SOper := [⟨some 18, .q (.bin .add (.t 8) (.c (.int .i64 1))), none⟩, ⟨some 8, .q (.mv (.t 18)), none⟩]
def c93_13 : SCode := .seq c93_11 (.region c93_12 [0, 1, 7, 8])
def c93_14 : SCode := .seq c93_3 c93_13
def c93_15 : SCode := .seq (.region c93_2 [0, 1, 7, 8, 9]) c93_14
def c93_16 : SCode := .loop c93_15
def c93_17 : SCode := .block 0 c93_16
def c93_18 : SCode := .seq (.region c93_1 [0, 1, 7, 8]) c93_17
def c93_19 : List SOper := [⟨some 4, .q (.mv (.c (.int .i64 (-1)))), none⟩]
def c93_20 : SCode := .seq (.region c93_19 [4]) .ret
def c93_21 : SCode := .seq c93_18 c93_20
def c93_22 : SCode := .seq (.region c93_0 [0, 1]) c93_21
def c93 : SCode := c93_22
theorem w93 : type_of% (And.intro (uR Try.prog c93_0.eq_1) (And.intro (uR Try.prog c93_1.eq_1) (And.intro (uR Try.prog c93_2.eq_1) (And.intro (uC Try.prog c93_3.eq_1) (And.intro (uR Try.prog c93_4.eq_1) (And.intro (uR Try.prog c93_5.eq_1) (And.intro (uR Try.prog c93_6.eq_1) (And.intro (uC Try.prog c93_7.eq_1) (And.intro (uC Try.prog c93_8.eq_1) (And.intro (uC Try.prog c93_9.eq_1) (And.intro (uC Try.prog c93_10.eq_1) (And.intro (uC Try.prog c93_11.eq_1) (And.intro (uR Try.prog c93_12.eq_1) (And.intro (uC Try.prog c93_13.eq_1) (And.intro (uC Try.prog c93_14.eq_1) (And.intro (uC Try.prog c93_15.eq_1) (And.intro (uC Try.prog c93_16.eq_1) (And.intro (uC Try.prog c93_17.eq_1) (And.intro (uC Try.prog c93_18.eq_1) (And.intro (uR Try.prog c93_19.eq_1) (And.intro (uC Try.prog c93_20.eq_1) (And.intro (uC Try.prog c93_21.eq_1) (And.intro (uC Try.prog c93_22.eq_1) (uC Try.prog c93.eq_1)))))))))))))))))))))))) := (And.intro (uR Try.prog c93_0.eq_1) (And.intro (uR Try.prog c93_1.eq_1) (And.intro (uR Try.prog c93_2.eq_1) (And.intro (uC Try.prog c93_3.eq_1) (And.intro (uR Try.prog c93_4.eq_1) (And.intro (uR Try.prog c93_5.eq_1) (And.intro (uR Try.prog c93_6.eq_1) (And.intro (uC Try.prog c93_7.eq_1) (And.intro (uC Try.prog c93_8.eq_1) (And.intro (uC Try.prog c93_9.eq_1) (And.intro (uC Try.prog c93_10.eq_1) (And.intro (uC Try.prog c93_11.eq_1) (And.intro (uR Try.prog c93_12.eq_1) (And.intro (uC Try.prog c93_13.eq_1) (And.intro (uC Try.prog c93_14.eq_1) (And.intro (uC Try.prog c93_15.eq_1) (And.intro (uC Try.prog c93_16.eq_1) (And.intro (uC Try.prog c93_17.eq_1) (And.intro (uC Try.prog c93_18.eq_1) (And.intro (uR Try.prog c93_19.eq_1) (And.intro (uC Try.prog c93_20.eq_1) (And.intro (uC Try.prog c93_21.eq_1) (And.intro (uC Try.prog c93_22.eq_1) (uC Try.prog c93.eq_1))))))))))))))))))))))))
def v93 : List RV := [.t 4]
theorem s93 : slimF Try.prog Try.f93 = some (c93.bare, v93) := by kernel_rfl
/-! 84 slices.ContainsFunc[[]loop.example/g00066/impl.Change,loop.example/g00066/impl.Change]: parameters 2, live [0, 1], slots [0:s, 1:f, 2:s, 3:f] -/
def c84_0 : List SOper := [⟨some 4, .q (.mv (.c (.bool false))), none⟩]
def c84_1 : List SOper := [⟨some 5, .q (.mv (.t 0)), none⟩, ⟨some 6, .q (.mv (.t 1)), none⟩, ⟨some 7, .e (.call 93 [(.t 5), (.t 6)]), none⟩, ⟨some 8, .q (.bin .geq (.t 7) (.c (.int .i64 0))), none⟩, ⟨some 4, .q (.mv (.t 8)), none⟩]
def c84_2 : SCode := .seq (.region c84_1 [4]) .ret
def c84_3 : SCode := .seq (.region c84_0 [0, 1]) c84_2
def c84 : SCode := c84_3
theorem w84 : type_of% (And.intro (uR Try.prog c84_0.eq_1) (And.intro (uR Try.prog c84_1.eq_1) (And.intro (uC Try.prog c84_2.eq_1) (And.intro (uC Try.prog c84_3.eq_1) (uC Try.prog c84.eq_1))))) := (And.intro (uR Try.prog c84_0.eq_1) (And.intro (uR Try.prog c84_1.eq_1) (And.intro (uC Try.prog c84_2.eq_1) (And.intro (uC Try.prog c84_3.eq_1) (uC Try.prog c84.eq_1)))))
def v84 : List RV := [.t 4]
theorem s84 : slimF Try.prog Try.f84 = some (c84.bare, v84) := by kernel_rfl
/-! 55 loop.example/g00066/impl.changesOk: parameters 1, live [0], slots [0:list, 1:list] -/
def c55_0 : List SOper := [⟨some 2, .q (.mv (.c (.bool false))), none⟩]
def c55_1 : List SOper := [⟨some 3, .q (.mv (.t 0)), none⟩, ⟨some 4, .q (.len (.t 3)), none⟩, ⟨some 5, .q (.bin .leq (.t 4) (.c (.int .i64 300))), none⟩, ⟨some 6, .q (.mv (.t 5)), none⟩, ⟨some 7, .q (.mv (.t 0)), some (6, true)⟩, ⟨some 8, .e (.call 84 [(.t 7), (.f 85)]), some (6, true)⟩, ⟨some 9, .q (.not (.t 8)), some (6, true)⟩, ⟨some 10, .q (.pick (.t 6) (.t 9) (.c (.bool false))), none⟩, ⟨some 2, .q (.mv (.t 10)), none⟩]
def c55_2 : SCode := .seq (.region c55_1 [2]) .ret
def c55_3 : SCode := .seq (.region c55_0 [0]) c55_2
def c55 : SCode := c55_3
theorem w55 : type_of% (And.intro (uR Try.prog c55_0.eq_1) (And.intro (uR Try.prog c55_1.eq_1) (And.intro (uC Try.prog c55_2.eq_1) (And.intro (uC Try.prog c55_3.eq_1) (uC Try.prog c55.eq_1))))) := (And.intro (uR Try.prog c55_0.eq_1) (And.intro (uR Try.prog c55_1.eq_1) (And.intro (uC Try.prog c55_2.eq_1) (And.intro (uC Try.prog c55_3.eq_1) (uC Try.prog c55.eq_1)))))
def v55 : List RV := [.t 2]
theorem s55 : slimF Try.prog Try.f55 = some (c55.bare, v55) := by kernel_rfl
/-! 13 loop.example/g00066/impl.Apply: parameters 2, live [0, 1], slots [0:a, 1:list, 2:a, 3:list, 6:at, 7:out, 8:_, 9:c] -/
def c13_0 : List SOper := [⟨some 4, .q (.mv (.c (.slice none 0 0))), none⟩, ⟨some 5, .q (.mv (.c (.bool false))), none⟩]
def c13_1 : List SOper := [⟨some 10, .q (.mv (.t 0)), none⟩, ⟨some 11, .e (.call 37 [(.t 10)]), none⟩, ⟨some 12, .q (.not (.t 11)), none⟩, ⟨some 13, .q (.mv (.t 12)), none⟩, ⟨some 14, .q (.mv (.t 1)), some (13, false)⟩, ⟨some 15, .e (.call 55 [(.t 14)]), some (13, false)⟩, ⟨some 16, .q (.not (.t 15)), some (13, false)⟩, ⟨some 17, .q (.pick (.t 13) (.c (.bool true)) (.t 16)), none⟩]
def c13_2 : List SOper := [⟨some 4, .q (.mv (.c (.slice none 0 0))), none⟩, ⟨some 5, .q (.mv (.c (.bool false))), none⟩]
def c13_3 : SCode := .seq (.region c13_2 [4, 5]) .ret
def c13_4 : SCode := .cond (.t 17) c13_3 .skip
def c13_5 : SCode := .seq (.region c13_1 [0, 1, 17]) c13_4
def c13_6 : List SOper := [⟨some 18, .a (.bsl 0 3 [] []), none⟩, ⟨some 6, .q (.mv (.c (.int .i64 0))), none⟩, ⟨some 7, .q (.mv (.t 18)), none⟩]
def c13_7 : List SOper := [⟨some 19, .q (.mv (.t 1)), none⟩, ⟨some 20, .q (.len (.t 19)), none⟩, ⟨some 21, .q (.mv (.c (.int .i64 0))), none⟩]
def c13_8 : List SOper := [⟨some 22, .q (.bin .lss (.t 21) (.t 20)), none⟩]
def c13_9 : SCode := .cond (.t 22) .skip (.exit 0)
def c13_10 : List SOper := [⟨some 23, .q (.ia 4 (.t 19) (.t 21)), none⟩, ⟨some 24, .q (.ldn 4 (.t 23)), none⟩, ⟨some 9, .a (.new [(.int .i64 0), (.int .i64 0), (.int .i64 0), (.int .i64 0)]), none⟩, ⟨none, .e (.st 4 (.t 9) (.t 24)), none⟩]
def c13_11 : List SOper := [⟨some 25, .q (.fa 0 (.t 9)), none⟩, ⟨some 26, .q (.ld (.t 25)), none⟩]
def c13_12 : List SOper := [⟨some 28, .q (.bin .eql (.t 26) (.c (.int .i64 3))), none⟩, ⟨some 27, .q (.mv (.t 28)), none⟩]
def c13_13 : List SOper := [⟨some 29, .q (.mv (.t 7)), none⟩, ⟨some 30, .q (.ldn 4 (.t 9)), none⟩, ⟨some 31, .e (.call 56 [(.t 30)]), none⟩, ⟨some 32, .a (.bsl 1 3 [(.int .i64 0), (.int .i64 0), (.int .i64 0)] [(0, 3, (.t 31))]), none⟩, ⟨some 33, .e (.app 24 3 (.t 29) (.t 32)), none⟩, ⟨some 7, .q (.mv (.t 33)), none⟩]
def c13_14 : SCode := .seq (.region c13_13 [0, 6, 7, 19, 20, 21]) (.exit 1)
def c13_15 : List SOper := [⟨some 35, .q (.bin .eql (.t 26) (.c (.int .i64 1))), none⟩, ⟨some 34, .q (.mv (.t 35)), none⟩]
def c13_16 : List SOper := [⟨some 36, .q (.mv (.t 7)), none⟩, ⟨some 37, .q (.mv (.t 0)), none⟩, ⟨some 38, .q (.mv (.t 6)), none⟩, ⟨some 39, .q (.mv (.t 6)), none⟩, ⟨some 40, .q (.fa 3 (.t 9)), none⟩, ⟨some 41, .q (.ld (.t 40)), none⟩, ⟨some 42, .q (.bin .add (.t 39) (.t 41)), none⟩, ⟨some 43, .e (.call 47 [(.t 37), (.t 38), (.t 42)]), none⟩, ⟨some 44, .e (.app 24 3 (.t 36) (.t 43)), none⟩, ⟨some 7, .q (.mv (.t 44)), none⟩]
def c13_17 : SCode := .cond (.t 34) (.region c13_16 [0, 6, 7, 9, 19, 20, 21]) .skip
def c13_18 : SCode := .seq (.region c13_15 [0, 6, 7, 9, 19, 20, 21, 34]) c13_17
def c13_19 : SCode := .cond (.t 27) c13_14 c13_18
def c13_20 : SCode := .seq (.region c13_12 [0, 6, 7, 9, 19, 20, 21, 26, 27]) c13_19
def c13_21 : SCode := .block 2 c13_20
def c13_22 : SCode := .seq (.region c13_11 [0, 6, 7, 9, 19, 20, 21, 26]) c13_21
def c13_23 : List SOper := [⟨some 45, .q (.mv (.t 6)), none⟩, ⟨some 46, .q (.fa 3 (.t 9)), none⟩, ⟨some 47, .q (.ld (.t 46)), none⟩, ⟨some 48, .q (.bin .add (.t 45) (.t 47)), none⟩, ⟨some 6, .q (.mv (.t 48)), none⟩]
def c13_24 : SCode := .seq c13_22 (.region c13_23 [0, 6, 7, 19, 20, 21])
def c13_25 : SCode := .seq (.region c13_10 [0, 6, 7, 9, 19, 20, 21]) c13_24
def c13_26 : SCode := .block 1 c13_25
def c13_27 : List SOper := [⟨some 49, .q (.bin .add (.t 21) (.c (.int .i64 1))), none⟩, ⟨some 21, .q (.mv (.t 49)), none⟩]
def c13_28 : SCode := .seq c13_26 (.region c13_27 [0, 6, 7, 19, 20, 21])
def c13_29 : SCode := .seq c13_9 c13_28
def c13_30 : SCode := .seq (.region c13_8 [0, 6, 7, 19, 20, 21, 22]) c13_29
def c13_31 : SCode := .loop c13_30
def c13_32 : SCode := .block 0 c13_31
def c13_33 : SCode := .seq (.region c13_7 [0, 6, 7, 19, 20, 21]) c13_32
def c13_34 : List SOper := [⟨some 50, .q (.mv (.t 6)), none⟩, ⟨some 51, .q (.mv (.t 0)), none⟩, ⟨some 52, .e (.call 39 [(.t 51)]), none⟩, ⟨some 53, .q (.bin .neq (.t 50) (.t 52)), none⟩]
def c13_35 : List SOper := [⟨some 4, .q (.mv (.c (.slice none 0 0))), none⟩, ⟨some 5, .q (.mv (.c (.bool false))), none⟩]
def c13_36 : SCode := .seq (.region c13_35 [4, 5]) .ret
def c13_37 : SCode := .cond (.t 53) c13_36 .skip
def c13_38 : SCode := .seq (.region c13_34 [7, 53]) c13_37
def c13_39 : List SOper := [⟨some 54, .q (.mv (.t 7)), none⟩, ⟨some 55, .a (.bsl 1 1 [(.slice none 0 0)] [(0, 1, (.t 54))]), none⟩, ⟨some 56, .e (.call 57 [(.t 55)]), none⟩, ⟨some 57, .q (.ext (.t 56) 0), none⟩, ⟨some 58, .q (.ext (.t 56) 1), none⟩, ⟨some 4, .q (.mv (.t 57)), none⟩, ⟨some 5, .q (.mv (.t 58)), none⟩]
def c13_40 : SCode := .seq (.region c13_39 [4, 5]) .ret
def c13_41 : SCode := .seq c13_38 c13_40
def c13_42 : SCode := .seq c13_33 c13_41
def c13_43 : SCode := .seq (.region c13_6 [0, 1, 6, 7]) c13_42
def c13_44 : SCode := .seq c13_5 c13_43
def c13_45 : SCode := .seq (.region c13_0 [0, 1]) c13_44
def c13 : SCode := c13_45
theorem w13 : type_of% (And.intro (uR Try.prog c13_0.eq_1) (And.intro (uR Try.prog c13_1.eq_1) (And.intro (uR Try.prog c13_2.eq_1) (And.intro (uC Try.prog c13_3.eq_1) (And.intro (uC Try.prog c13_4.eq_1) (And.intro (uC Try.prog c13_5.eq_1) (And.intro (uR Try.prog c13_6.eq_1) (And.intro (uR Try.prog c13_7.eq_1) (And.intro (uR Try.prog c13_8.eq_1) (And.intro (uC Try.prog c13_9.eq_1) (And.intro (uR Try.prog c13_10.eq_1) (And.intro (uR Try.prog c13_11.eq_1) (And.intro (uR Try.prog c13_12.eq_1) (And.intro (uR Try.prog c13_13.eq_1) (And.intro (uC Try.prog c13_14.eq_1) (And.intro (uR Try.prog c13_15.eq_1) (And.intro (uR Try.prog c13_16.eq_1) (And.intro (uC Try.prog c13_17.eq_1) (And.intro (uC Try.prog c13_18.eq_1) (And.intro (uC Try.prog c13_19.eq_1) (And.intro (uC Try.prog c13_20.eq_1) (And.intro (uC Try.prog c13_21.eq_1) (And.intro (uC Try.prog c13_22.eq_1) (And.intro (uR Try.prog c13_23.eq_1) (And.intro (uC Try.prog c13_24.eq_1) (And.intro (uC Try.prog c13_25.eq_1) (And.intro (uC Try.prog c13_26.eq_1) (And.intro (uR Try.prog c13_27.eq_1) (And.intro (uC Try.prog c13_28.eq_1) (And.intro (uC Try.prog c13_29.eq_1) (And.intro (uC Try.prog c13_30.eq_1) (And.intro (uC Try.prog c13_31.eq_1) (And.intro (uC Try.prog c13_32.eq_1) (And.intro (uC Try.prog c13_33.eq_1) (And.intro (uR Try.prog c13_34.eq_1) (And.intro (uR Try.prog c13_35.eq_1) (And.intro (uC Try.prog c13_36.eq_1) (And.intro (uC Try.prog c13_37.eq_1) (And.intro (uC Try.prog c13_38.eq_1) (And.intro (uR Try.prog c13_39.eq_1) (And.intro (uC Try.prog c13_40.eq_1) (And.intro (uC Try.prog c13_41.eq_1) (And.intro (uC Try.prog c13_42.eq_1) (And.intro (uC Try.prog c13_43.eq_1) (And.intro (uC Try.prog c13_44.eq_1) (And.intro (uC Try.prog c13_45.eq_1) (uC Try.prog c13.eq_1))))))))))))))))))))))))))))))))))))))))))))))) := (And.intro (uR Try.prog c13_0.eq_1) (And.intro (uR Try.prog c13_1.eq_1) (And.intro (uR Try.prog c13_2.eq_1) (And.intro (uC Try.prog c13_3.eq_1) (And.intro (uC Try.prog c13_4.eq_1) (And.intro (uC Try.prog c13_5.eq_1) (And.intro (uR Try.prog c13_6.eq_1) (And.intro (uR Try.prog c13_7.eq_1) (And.intro (uR Try.prog c13_8.eq_1) (And.intro (uC Try.prog c13_9.eq_1) (And.intro (uR Try.prog c13_10.eq_1) (And.intro (uR Try.prog c13_11.eq_1) (And.intro (uR Try.prog c13_12.eq_1) (And.intro (uR Try.prog c13_13.eq_1) (And.intro (uC Try.prog c13_14.eq_1) (And.intro (uR Try.prog c13_15.eq_1) (And.intro (uR Try.prog c13_16.eq_1) (And.intro (uC Try.prog c13_17.eq_1) (And.intro (uC Try.prog c13_18.eq_1) (And.intro (uC Try.prog c13_19.eq_1) (And.intro (uC Try.prog c13_20.eq_1) (And.intro (uC Try.prog c13_21.eq_1) (And.intro (uC Try.prog c13_22.eq_1) (And.intro (uR Try.prog c13_23.eq_1) (And.intro (uC Try.prog c13_24.eq_1) (And.intro (uC Try.prog c13_25.eq_1) (And.intro (uC Try.prog c13_26.eq_1) (And.intro (uR Try.prog c13_27.eq_1) (And.intro (uC Try.prog c13_28.eq_1) (And.intro (uC Try.prog c13_29.eq_1) (And.intro (uC Try.prog c13_30.eq_1) (And.intro (uC Try.prog c13_31.eq_1) (And.intro (uC Try.prog c13_32.eq_1) (And.intro (uC Try.prog c13_33.eq_1) (And.intro (uR Try.prog c13_34.eq_1) (And.intro (uR Try.prog c13_35.eq_1) (And.intro (uC Try.prog c13_36.eq_1) (And.intro (uC Try.prog c13_37.eq_1) (And.intro (uC Try.prog c13_38.eq_1) (And.intro (uR Try.prog c13_39.eq_1) (And.intro (uC Try.prog c13_40.eq_1) (And.intro (uC Try.prog c13_41.eq_1) (And.intro (uC Try.prog c13_42.eq_1) (And.intro (uC Try.prog c13_43.eq_1) (And.intro (uC Try.prog c13_44.eq_1) (And.intro (uC Try.prog c13_45.eq_1) (uC Try.prog c13.eq_1)))))))))))))))))))))))))))))))))))))))))))))))
def v13 : List RV := [.t 4, .t 5]
theorem s13 : slimF Try.prog Try.f13 = some (c13.bare, v13) := by kernel_rfl
/-! 46 loop.example/g00066/impl.adding: parameters 1, live [0], slots [0:clips, 1:clips, 3:out, 4:_, 5:c] -/
def c46_0 : List SOper := [⟨some 2, .q (.mv (.c (.slice none 0 0))), none⟩]
def c46_1 : List SOper := [⟨some 6, .a (.bsl 0 4 [] []), none⟩, ⟨some 3, .q (.mv (.t 6)), none⟩]
def c46_2 : List SOper := [⟨some 7, .q (.mv (.t 0)), none⟩, ⟨some 8, .q (.len (.t 7)), none⟩, ⟨some 9, .q (.mv (.c (.int .i64 0))), none⟩]
def c46_3 : List SOper := [⟨some 10, .q (.bin .lss (.t 9) (.t 8)), none⟩]
def c46_4 : SCode := .cond (.t 10) .skip (.exit 0)
def c46_5 : List SOper := [⟨some 11, .q (.ia 3 (.t 7) (.t 9)), none⟩, ⟨some 12, .q (.ldn 3 (.t 11)), none⟩, ⟨some 5, .a (.new [(.int .i64 0), (.int .i64 0), (.int .i64 0)]), none⟩, ⟨none, .e (.st 3 (.t 5) (.t 12)), none⟩]
def c46_6 : List SOper := [⟨some 13, .q (.mv (.t 3)), none⟩, ⟨some 14, .q (.fa 0 (.t 5)), none⟩, ⟨some 15, .q (.ld (.t 14)), none⟩, ⟨some 16, .q (.fa 1 (.t 5)), none⟩, ⟨some 17, .q (.ld (.t 16)), none⟩, ⟨some 18, .q (.fa 2 (.t 5)), none⟩, ⟨some 19, .q (.ld (.t 18)), none⟩, ⟨some 20, .q (.build [(.int .i64 0), (.int .i64 0), (.int .i64 0), (.int .i64 0)] [(0, 1, (.c (.int .i64 3))), (1, 1, (.t 15)), (2, 1, (.t 17)), (3, 1, (.t 19))]), none⟩, ⟨some 21, .a (.bsl 1 4 [(.int .i64 0), (.int .i64 0), (.int .i64 0), (.int .i64 0)] [(0, 4, (.t 20))]), none⟩, ⟨some 22, .e (.app 32 4 (.t 13) (.t 21)), none⟩, ⟨some 3, .q (.mv (.t 22)), none⟩]
def c46_7 : SCode := .seq (.region c46_5 [3, 5, 7, 8, 9]) (.region c46_6 [3, 7, 8, 9])
def c46_8 : SCode := .block 1 c46_7
def c46_9 : List SOper := [⟨some 23, .q (.bin .add (.t 9) (.c (.int .i64 1))), none⟩, ⟨some 9, .q (.mv (.t 23)), none⟩]
def c46_10 : SCode := .seq c46_8 (.region c46_9 [3, 7, 8, 9])
def c46_11 : SCode := .seq c46_4 c46_10
def c46_12 : SCode := .seq (.region c46_3 [3, 7, 8, 9, 10]) c46_11
def c46_13 : SCode := .loop c46_12
def c46_14 : SCode := .block 0 c46_13
def c46_15 : SCode := .seq (.region c46_2 [3, 7, 8, 9]) c46_14
def c46_16 : List SOper := [⟨some 24, .q (.mv (.t 3)), none⟩, ⟨some 2, .q (.mv (.t 24)), none⟩]
def c46_17 : SCode := .seq (.region c46_16 [2]) .ret
def c46_18 : SCode := .seq c46_15 c46_17
def c46_19 : SCode := .seq (.region c46_1 [0, 3]) c46_18
def c46_20 : SCode := .seq (.region c46_0 [0]) c46_19
def c46 : SCode := c46_20
theorem w46 : type_of% (And.intro (uR Try.prog c46_0.eq_1) (And.intro (uR Try.prog c46_1.eq_1) (And.intro (uR Try.prog c46_2.eq_1) (And.intro (uR Try.prog c46_3.eq_1) (And.intro (uC Try.prog c46_4.eq_1) (And.intro (uR Try.prog c46_5.eq_1) (And.intro (uR Try.prog c46_6.eq_1) (And.intro (uC Try.prog c46_7.eq_1) (And.intro (uC Try.prog c46_8.eq_1) (And.intro (uR Try.prog c46_9.eq_1) (And.intro (uC Try.prog c46_10.eq_1) (And.intro (uC Try.prog c46_11.eq_1) (And.intro (uC Try.prog c46_12.eq_1) (And.intro (uC Try.prog c46_13.eq_1) (And.intro (uC Try.prog c46_14.eq_1) (And.intro (uC Try.prog c46_15.eq_1) (And.intro (uR Try.prog c46_16.eq_1) (And.intro (uC Try.prog c46_17.eq_1) (And.intro (uC Try.prog c46_18.eq_1) (And.intro (uC Try.prog c46_19.eq_1) (And.intro (uC Try.prog c46_20.eq_1) (uC Try.prog c46.eq_1)))))))))))))))))))))) := (And.intro (uR Try.prog c46_0.eq_1) (And.intro (uR Try.prog c46_1.eq_1) (And.intro (uR Try.prog c46_2.eq_1) (And.intro (uR Try.prog c46_3.eq_1) (And.intro (uC Try.prog c46_4.eq_1) (And.intro (uR Try.prog c46_5.eq_1) (And.intro (uR Try.prog c46_6.eq_1) (And.intro (uC Try.prog c46_7.eq_1) (And.intro (uC Try.prog c46_8.eq_1) (And.intro (uR Try.prog c46_9.eq_1) (And.intro (uC Try.prog c46_10.eq_1) (And.intro (uC Try.prog c46_11.eq_1) (And.intro (uC Try.prog c46_12.eq_1) (And.intro (uC Try.prog c46_13.eq_1) (And.intro (uC Try.prog c46_14.eq_1) (And.intro (uC Try.prog c46_15.eq_1) (And.intro (uR Try.prog c46_16.eq_1) (And.intro (uC Try.prog c46_17.eq_1) (And.intro (uC Try.prog c46_18.eq_1) (And.intro (uC Try.prog c46_19.eq_1) (And.intro (uC Try.prog c46_20.eq_1) (uC Try.prog c46.eq_1))))))))))))))))))))))
def v46 : List RV := [.t 2]
theorem s46 : slimF Try.prog Try.f46 = some (c46.bare, v46) := by kernel_rfl
/-! 16 loop.example/g00066/impl.Turned: parameters 2, live [0, 1], slots [0:a, 1:list, 2:a, 3:list, 6:_, 7:ok, 8:at, 9:out, 10:_, 11:c] -/
def c16_0 : List SOper := [⟨some 4, .q (.mv (.c (.slice none 0 0))), none⟩, ⟨some 5, .q (.mv (.c (.bool false))), none⟩]
def c16_1 : List SOper := [⟨some 13, .q (.mv (.t 0)), none⟩, ⟨some 14, .q (.mv (.t 1)), none⟩, ⟨some 15, .e (.call 13 [(.t 13), (.t 14)]), none⟩, ⟨some 12, .q (.mv (.t 15)), none⟩, ⟨some 16, .q (.ext (.t 12) 0), none⟩, ⟨some 17, .q (.ext (.t 12) 1), none⟩, ⟨some 6, .q (.mv (.t 16)), none⟩, ⟨some 7, .q (.mv (.t 17)), none⟩]
def c16_2 : List SOper := [⟨some 18, .q (.mv (.t 7)), none⟩, ⟨some 19, .q (.not (.t 18)), none⟩]
def c16_3 : List SOper := [⟨some 4, .q (.mv (.c (.slice none 0 0))), none⟩, ⟨some 5, .q (.mv (.c (.bool false))), none⟩]
def c16_4 : SCode := .seq (.region c16_3 [4, 5]) .ret
def c16_5 : SCode := .cond (.t 19) c16_4 .skip
def c16_6 : SCode := .seq (.region c16_2 [0, 1, 19]) c16_5
def c16_7 : SCode := .seq (.region c16_1 [0, 1, 7]) c16_6
def c16_8 : List SOper := [⟨some 20, .a (.bsl 0 4 [] []), none⟩, ⟨some 8, .q (.mv (.c (.int .i64 0))), none⟩, ⟨some 9, .q (.mv (.t 20)), none⟩]
def c16_9 : List SOper := [⟨some 21, .q (.mv (.t 1)), none⟩, ⟨some 22, .q (.len (.t 21)), none⟩, ⟨some 23, .q (.mv (.c (.int .i64 0))), none⟩]
def c16_10 : List SOper := [⟨some 24, .q (.bin .lss (.t 23) (.t 22)), none⟩]
def c16_11 : SCode := .cond (.t 24) .skip (.exit 0)
def c16_12 : List SOper := [⟨some 25, .q (.ia 4 (.t 21) (.t 23)), none⟩, ⟨some 26, .q (.ldn 4 (.t 25)), none⟩, ⟨some 11, .a (.new [(.int .i64 0), (.int .i64 0), (.int .i64 0), (.int .i64 0)]), none⟩, ⟨none, .e (.st 4 (.t 11) (.t 26)), none⟩]
def c16_13 : List SOper := [⟨some 27, .q (.fa 0 (.t 11)), none⟩, ⟨some 28, .q (.ld (.t 27)), none⟩]
def c16_14 : List SOper := [⟨some 41, .q (.bin .eql (.t 28) (.c (.int .i64 3))), none⟩, ⟨some 40, .q (.mv (.t 41)), none⟩]
def c16_15 : List SOper := [⟨some 42, .q (.mv (.t 9)), none⟩, ⟨some 43, .q (.fa 3 (.t 11)), none⟩, ⟨some 44, .q (.ld (.t 43)), none⟩, ⟨some 45, .q (.build [(.int .i64 0), (.int .i64 0), (.int .i64 0), (.int .i64 0)] [(0, 1, (.c (.int .i64 2))), (3, 1, (.t 44))]), none⟩, ⟨some 46, .a (.bsl 1 4 [(.int .i64 0), (.int .i64 0), (.int .i64 0), (.int .i64 0)] [(0, 4, (.t 45))]), none⟩, ⟨some 47, .e (.app 32 4 (.t 42) (.t 46)), none⟩, ⟨some 9, .q (.mv (.t 47)), none⟩]
def c16_16 : SCode := .seq (.region c16_15 [0, 8, 9, 21, 22, 23]) (.exit 1)
def c16_17 : List SOper := [⟨some 49, .q (.bin .eql (.t 28) (.c (.int .i64 1))), none⟩, ⟨some 48, .q (.mv (.t 49)), none⟩]
def c16_18 : List SOper := [⟨some 50, .q (.mv (.t 9)), none⟩, ⟨some 51, .q (.ldn 4 (.t 11)), none⟩, ⟨some 52, .a (.bsl 1 4 [(.int .i64 0), (.int .i64 0), (.int .i64 0), (.int .i64 0)] [(0, 4, (.t 51))]), none⟩, ⟨some 53, .e (.app 32 4 (.t 50) (.t 52)), none⟩, ⟨some 9, .q (.mv (.t 53)), none⟩]
def c16_19 : List SOper := [⟨some 29, .q (.mv (.t 9)), none⟩, ⟨some 30, .q (.mv (.t 0)), none⟩, ⟨some 31, .q (.mv (.t 8)), none⟩, ⟨some 32, .q (.mv (.t 8)), none⟩, ⟨some 33, .q (.fa 3 (.t 11)), none⟩, ⟨some 34, .q (.ld (.t 33)), none⟩, ⟨some 35, .q (.bin .add (.t 32) (.t 34)), none⟩, ⟨some 36, .e (.call 47 [(.t 30), (.t 31), (.t 35)]), none⟩, ⟨some 37, .e (.call 38 [(.t 36)]), none⟩, ⟨some 38, .e (.call 46 [(.t 37)]), none⟩, ⟨some 39, .e (.app 32 4 (.t 29) (.t 38)), none⟩, ⟨some 9, .q (.mv (.t 39)), none⟩]
def c16_20 : SCode := .cond (.t 48) (.region c16_18 [0, 8, 9, 11, 21, 22, 23]) (.region c16_19 [0, 8, 9, 11, 21, 22, 23])
def c16_21 : SCode := .seq (.region c16_17 [0, 8, 9, 11, 21, 22, 23, 48]) c16_20
def c16_22 : SCode := .cond (.t 40) c16_16 c16_21
def c16_23 : SCode := .seq (.region c16_14 [0, 8, 9, 11, 21, 22, 23, 28, 40]) c16_22
def c16_24 : SCode := .block 2 c16_23
def c16_25 : SCode := .seq (.region c16_13 [0, 8, 9, 11, 21, 22, 23, 28]) c16_24
def c16_26 : List SOper := [⟨some 54, .q (.mv (.t 8)), none⟩, ⟨some 55, .q (.fa 3 (.t 11)), none⟩, ⟨some 56, .q (.ld (.t 55)), none⟩, ⟨some 57, .q (.bin .add (.t 54) (.t 56)), none⟩, ⟨some 8, .q (.mv (.t 57)), none⟩]
def c16_27 : SCode := .seq c16_25 (.region c16_26 [0, 8, 9, 21, 22, 23])
def c16_28 : SCode := .seq (.region c16_12 [0, 8, 9, 11, 21, 22, 23]) c16_27
def c16_29 : SCode := .block 1 c16_28
def c16_30 : List SOper := [⟨some 58, .q (.bin .add (.t 23) (.c (.int .i64 1))), none⟩, ⟨some 23, .q (.mv (.t 58)), none⟩]
def c16_31 : SCode := .seq c16_29 (.region c16_30 [0, 8, 9, 21, 22, 23])
def c16_32 : SCode := .seq c16_11 c16_31
def c16_33 : SCode := .seq (.region c16_10 [0, 8, 9, 21, 22, 23, 24]) c16_32
def c16_34 : SCode := .loop c16_33
def c16_35 : SCode := .block 0 c16_34
def c16_36 : SCode := .seq (.region c16_9 [0, 8, 9, 21, 22, 23]) c16_35
def c16_37 : List SOper := [⟨some 59, .q (.mv (.t 9)), none⟩, ⟨some 4, .q (.mv (.t 59)), none⟩, ⟨some 5, .q (.mv (.c (.bool true))), none⟩]
def c16_38 : SCode := .seq (.region c16_37 [4, 5]) .ret
def c16_39 : SCode := .seq c16_36 c16_38
def c16_40 : SCode := .seq (.region c16_8 [0, 1, 8, 9]) c16_39
def c16_41 : SCode := .seq c16_7 c16_40
def c16_42 : SCode := .seq (.region c16_0 [0, 1]) c16_41
def c16 : SCode := c16_42
theorem w16 : type_of% (And.intro (uR Try.prog c16_0.eq_1) (And.intro (uR Try.prog c16_1.eq_1) (And.intro (uR Try.prog c16_2.eq_1) (And.intro (uR Try.prog c16_3.eq_1) (And.intro (uC Try.prog c16_4.eq_1) (And.intro (uC Try.prog c16_5.eq_1) (And.intro (uC Try.prog c16_6.eq_1) (And.intro (uC Try.prog c16_7.eq_1) (And.intro (uR Try.prog c16_8.eq_1) (And.intro (uR Try.prog c16_9.eq_1) (And.intro (uR Try.prog c16_10.eq_1) (And.intro (uC Try.prog c16_11.eq_1) (And.intro (uR Try.prog c16_12.eq_1) (And.intro (uR Try.prog c16_13.eq_1) (And.intro (uR Try.prog c16_14.eq_1) (And.intro (uR Try.prog c16_15.eq_1) (And.intro (uC Try.prog c16_16.eq_1) (And.intro (uR Try.prog c16_17.eq_1) (And.intro (uR Try.prog c16_18.eq_1) (And.intro (uR Try.prog c16_19.eq_1) (And.intro (uC Try.prog c16_20.eq_1) (And.intro (uC Try.prog c16_21.eq_1) (And.intro (uC Try.prog c16_22.eq_1) (And.intro (uC Try.prog c16_23.eq_1) (And.intro (uC Try.prog c16_24.eq_1) (And.intro (uC Try.prog c16_25.eq_1) (And.intro (uR Try.prog c16_26.eq_1) (And.intro (uC Try.prog c16_27.eq_1) (And.intro (uC Try.prog c16_28.eq_1) (And.intro (uC Try.prog c16_29.eq_1) (And.intro (uR Try.prog c16_30.eq_1) (And.intro (uC Try.prog c16_31.eq_1) (And.intro (uC Try.prog c16_32.eq_1) (And.intro (uC Try.prog c16_33.eq_1) (And.intro (uC Try.prog c16_34.eq_1) (And.intro (uC Try.prog c16_35.eq_1) (And.intro (uC Try.prog c16_36.eq_1) (And.intro (uR Try.prog c16_37.eq_1) (And.intro (uC Try.prog c16_38.eq_1) (And.intro (uC Try.prog c16_39.eq_1) (And.intro (uC Try.prog c16_40.eq_1) (And.intro (uC Try.prog c16_41.eq_1) (And.intro (uC Try.prog c16_42.eq_1) (uC Try.prog c16.eq_1)))))))))))))))))))))))))))))))))))))))))))) := (And.intro (uR Try.prog c16_0.eq_1) (And.intro (uR Try.prog c16_1.eq_1) (And.intro (uR Try.prog c16_2.eq_1) (And.intro (uR Try.prog c16_3.eq_1) (And.intro (uC Try.prog c16_4.eq_1) (And.intro (uC Try.prog c16_5.eq_1) (And.intro (uC Try.prog c16_6.eq_1) (And.intro (uC Try.prog c16_7.eq_1) (And.intro (uR Try.prog c16_8.eq_1) (And.intro (uR Try.prog c16_9.eq_1) (And.intro (uR Try.prog c16_10.eq_1) (And.intro (uC Try.prog c16_11.eq_1) (And.intro (uR Try.prog c16_12.eq_1) (And.intro (uR Try.prog c16_13.eq_1) (And.intro (uR Try.prog c16_14.eq_1) (And.intro (uR Try.prog c16_15.eq_1) (And.intro (uC Try.prog c16_16.eq_1) (And.intro (uR Try.prog c16_17.eq_1) (And.intro (uR Try.prog c16_18.eq_1) (And.intro (uR Try.prog c16_19.eq_1) (And.intro (uC Try.prog c16_20.eq_1) (And.intro (uC Try.prog c16_21.eq_1) (And.intro (uC Try.prog c16_22.eq_1) (And.intro (uC Try.prog c16_23.eq_1) (And.intro (uC Try.prog c16_24.eq_1) (And.intro (uC Try.prog c16_25.eq_1) (And.intro (uR Try.prog c16_26.eq_1) (And.intro (uC Try.prog c16_27.eq_1) (And.intro (uC Try.prog c16_28.eq_1) (And.intro (uC Try.prog c16_29.eq_1) (And.intro (uR Try.prog c16_30.eq_1) (And.intro (uC Try.prog c16_31.eq_1) (And.intro (uC Try.prog c16_32.eq_1) (And.intro (uC Try.prog c16_33.eq_1) (And.intro (uC Try.prog c16_34.eq_1) (And.intro (uC Try.prog c16_35.eq_1) (And.intro (uC Try.prog c16_36.eq_1) (And.intro (uR Try.prog c16_37.eq_1) (And.intro (uC Try.prog c16_38.eq_1) (And.intro (uC Try.prog c16_39.eq_1) (And.intro (uC Try.prog c16_40.eq_1) (And.intro (uC Try.prog c16_41.eq_1) (And.intro (uC Try.prog c16_42.eq_1) (uC Try.prog c16.eq_1))))))))))))))))))))))))))))))))))))))))))))
def v16 : List RV := [.t 4, .t 5]
theorem s16 : slimF Try.prog Try.f16 = some (c16.bare, v16) := by kernel_rfl

theorem clip_ok (h : Heap) (c : Change) : ACall Try.prog 56 [.agg (encChange c).toArray] h fun r h' => Ext h h' ∧ r = .agg (encClip (clipOf c)).toArray := by
  obtain ⟨a, b, d, e⟩ := c
  refine ACall.of Try.func56 s56 (of_decide_eq_true rfl) ?_
  simp (maxSteps := 4000000) (disch := omega) only [ah, am, Nat.reduceEqDiff, reduceCtorEq, Nat.reduceAdd, Nat.reduceLeDiff, Nat.reduceMul, Nat.reduceLT, if_true, if_false, true_and, and_true, and_self, Nat.reduceBEq, QOp.loads, boxO, bslO, buildO, cutL, fillV, putL, w56, v56, encChange]
  exact ⟨Ext.more _ _, rfl⟩
theorem chOk_ok (h : Heap) (c : Change) : ACall Try.prog 86 [.agg (encChange c).toArray] h fun r h' => Ext h h' ∧ r = .bool (decide (changeOk c)) := by
  have cl := clip_ok (h.more [encChange c]) c
  obtain ⟨a, b, d, e⟩ := c
  simp only [encChange, clipOf] at cl
  refine ACall.of Try.func86 s86 (of_decide_eq_true rfl) ?_
  by_cases k3 : a = 3
  · have k3' : decide (a = 3) = true := decide_eq_true k3
    simp (maxSteps := 4000000) (disch := omega) only [ah, am, Nat.reduceEqDiff, reduceCtorEq, Nat.reduceAdd, Nat.reduceLeDiff, Nat.reduceMul, Nat.reduceLT, if_true, if_false, true_and, and_true, and_self, Nat.reduceBEq, QOp.loads, boxO, bslO, buildO, cutL, fillV, putL, w86, v86, encChange, k3']
    refine stepC.of cl ?_
    rintro _ H1 ⟨e1, rfl⟩
    simp (maxSteps := 4000000) (disch := omega) only [ah, am, Nat.reduceEqDiff, reduceCtorEq, Nat.reduceAdd, Nat.reduceLeDiff, Nat.reduceMul, Nat.reduceLT, if_true, if_false, true_and, and_true, and_self, Nat.reduceBEq, QOp.loads, boxO, bslO, buildO, cutL, fillV, putL, w86, v86]
    refine stepC.of (ok_ok _ ⟨b, d, e⟩) ?_
    rintro _ H2 ⟨e2, rfl⟩
    simp (maxSteps := 4000000) (disch := omega) only [ah, am, Nat.reduceEqDiff, reduceCtorEq, Nat.reduceAdd, Nat.reduceLeDiff, Nat.reduceMul, Nat.reduceLT, if_true, if_false, true_and, and_true, and_self, Nat.reduceBEq, QOp.loads, boxO, bslO, buildO, cutL, fillV, putL, w86, v86]
    refine ⟨((Ext.more _ _).trans e1).trans e2, ?_⟩
    refine bool_dec ?_
    simp only [decide_eq_true_eq, changeOk, clipOf]
    exact ⟨fun q => .inl ⟨k3, q⟩, fun q => by rcases q with q | q; exact q.2; omega⟩
  have k3' : decide (a = 3) = false := decide_eq_false k3
  simp (maxSteps := 4000000) (disch := omega) only [ah, am, Nat.reduceEqDiff, reduceCtorEq, Nat.reduceAdd, Nat.reduceLeDiff, Nat.reduceMul, Nat.reduceLT, if_true, if_false, true_and, and_true, and_self, Nat.reduceBEq, QOp.loads, boxO, bslO, buildO, cutL, fillV, putL, w86, v86, encChange, k3']
  (repeat' first
    | (refine stepC.of (in_ok _ _ _ _) ?_; rintro _ _ ⟨rfl, rfl⟩; simp (maxSteps := 4000000) (disch := omega) only [ah, am, Nat.reduceEqDiff, reduceCtorEq, Nat.reduceAdd, Nat.reduceLeDiff, Nat.reduceMul, Nat.reduceLT, if_true, if_false, true_and, and_true, and_self, Nat.reduceBEq, QOp.loads, boxO, bslO, buildO, cutL, fillV, putL, i64w, w86, v86, k3'])
    | (refine stepG.cases (fun _ hp => ?_) (fun _ hp => ?_) <;> simp (maxSteps := 4000000) (disch := omega) only [hp, ah, am, Nat.reduceEqDiff, reduceCtorEq, Nat.reduceAdd, Nat.reduceLeDiff, Nat.reduceMul, Nat.reduceLT, if_true, if_false, true_and, and_true, and_self, Nat.reduceBEq, QOp.loads, boxO, bslO, buildO, cutL, fillV, putL, i64w, w86, v86, k3'])
    | (refine stepI.cases (fun _ hp => ?_) (fun _ hp => ?_) <;> simp (maxSteps := 4000000) (disch := omega) only [hp, ah, am, Nat.reduceEqDiff, reduceCtorEq, Nat.reduceAdd, Nat.reduceLeDiff, Nat.reduceMul, Nat.reduceLT, if_true, if_false, true_and, and_true, and_self, Nat.reduceBEq, QOp.loads, boxO, bslO, buildO, cutL, fillV, putL, i64w, w86, v86, k3']))
  all_goals (refine ⟨Ext.more _ _, ?_⟩; refine bool_dec ?_; try simp only [decide_eq_true_eq, Bool.false_eq_true, false_and, and_false, true_and, and_true, false_iff, iff_false, true_iff, iff_true, not_false_eq_true, false_or, or_false, true_or, or_true, changeOk, clipOf]; first | done | omega | (refine Iff.intro (fun hq => ?_) (fun hq => ?_) <;> omega))
theorem changesOk1_ok (h : Heap) (k : Change) : ACall Try.prog 85 [.agg (encChange k).toArray] h fun r h' => Ext h h' ∧ r = .bool (!decide (changeOk k)) := by
  have g := chOk_ok (h.more [encChange k]) k
  obtain ⟨a, b, c, d⟩ := k
  refine ACall.of Try.func85 s85 (of_decide_eq_true rfl) ?_
  simp (maxSteps := 4000000) (disch := omega) only [ah, am, Nat.reduceEqDiff, reduceCtorEq, Nat.reduceAdd, Nat.reduceLeDiff, Nat.reduceMul, Nat.reduceLT, if_true, if_false, true_and, and_true, and_self, Nat.reduceBEq, QOp.loads, boxO, bslO, buildO, cutL, fillV, putL, w85, v85, encChange]
  refine stepC.of g ?_
  rintro _ H ⟨e, rfl⟩
  simp (maxSteps := 4000000) (disch := omega) only [ah, am, Nat.reduceEqDiff, reduceCtorEq, Nat.reduceAdd, Nat.reduceLeDiff, Nat.reduceMul, Nat.reduceLT, if_true, if_false, true_and, and_true, and_self, Nat.reduceBEq, QOp.loads, boxO, bslO, buildO, cutL, fillV, putL, w85, v85]
  exact (Ext.more h _).trans e
theorem IndexFuncC_ok (h : Heap) (v : Value) (l : List Change) (n : Nat) (cap : Array Value) (p : Change → Bool) (s : SlT h encChange 4 v l) (hl : l.length ≤ 1100000)
    (hf : ∃ fn, Try.prog.funcs[n]? = some fn ∧ fn.body.isSome = true ∧ fn.name ≠ "runtime.NumGoroutine")
    (H : ∀ h' k, Ext h h' → k ∈ l → ACall Try.prog n ([.agg (encChange k).toArray] ++ cap.toList) h' fun r h2 => Ext h' h2 ∧ r = .bool (p k)) :
    ACall Try.prog 93 [v, .func (.func n) #[] cap] h fun r h' => Ext h h' ∧ r = .int .i64 (match l.findIdx? p with | some j => (j : Int) | none => -1) := by
  obtain ⟨fn, hf1, hf2, hf3⟩ := hf
  refine ACall.of Try.func93 s93 (of_decide_eq_true rfl) ?_
  have R := s.rulesN
  simp (maxSteps := 4000000) (disch := omega) only [ah, am, Nat.reduceEqDiff, reduceCtorEq, Nat.reduceAdd, Nat.reduceLeDiff, Nat.reduceMul, Nat.reduceLT, if_true, if_false, true_and, and_true, and_self, Nat.reduceBEq, QOp.loads, boxO, bslO, buildO, cutL, fillV, putL, w93, v93, R]
  refine SW_loop_up (fun i E H => E = [(0, v), (1, .func (.func n) #[] cap), (7, .int .i64 l.length), (8, .int .i64 i)] ∧ Ext h H ∧ ∀ j (hj : j < l.length), j < i → p l[j] = false) l.length 0 (by omega)
    ⟨rfl, Ext.refl h, fun j _ hj => absurd hj (by omega)⟩ ?_
  rintro i E H1 hi ⟨rfl, e, F⟩
  have R := (s.ext e).rulesN
  have W : IntKind.i64.wrap ((i : Int) + 1) = ((i + 1 : Nat) : Int) := i64e (by omega) (by omega)
  simp (maxSteps := 4000000) (disch := omega) only [ah, am, Nat.reduceEqDiff, reduceCtorEq, Nat.reduceAdd, Nat.reduceLeDiff, Nat.reduceMul, Nat.reduceLT, if_true, if_false, true_and, and_true, and_self, Nat.reduceBEq, QOp.loads, boxO, bslO, buildO, cutL, fillV, putL, w93, v93, R]
  refine stepI.split (fun hp => ?_) (fun hp => ?_)
  · have hi' : i < l.length := by omega
    simp (maxSteps := 4000000) (disch := omega) only [ah, am, Nat.reduceEqDiff, reduceCtorEq, Nat.reduceAdd, Nat.reduceLeDiff, Nat.reduceMul, Nat.reduceLT, if_true, if_false, true_and, and_true, and_self, Nat.reduceBEq, QOp.loads, boxO, bslO, buildO, cutL, fillV, putL, w93, v93, R, nilV_func]
    refine stepV.of hf1 hf2 hf3 (H H1 _ e (List.getElem_mem hi')) ?_
    rintro _ H2 ⟨e2, rfl⟩
    simp (maxSteps := 4000000) (disch := omega) only [ah, am, Nat.reduceEqDiff, reduceCtorEq, Nat.reduceAdd, Nat.reduceLeDiff, Nat.reduceMul, Nat.reduceLT, if_true, if_false, true_and, and_true, and_self, Nat.reduceBEq, QOp.loads, boxO, bslO, buildO, cutL, fillV, putL, w93, v93, W]
    refine stepI.splitB (fun hk => ?_) (fun hk => ?_)
    · simp (maxSteps := 4000000) (disch := omega) only [ah, am, Nat.reduceEqDiff, reduceCtorEq, Nat.reduceAdd, Nat.reduceLeDiff, Nat.reduceMul, Nat.reduceLT, if_true, if_false, true_and, and_true, and_self, Nat.reduceBEq, QOp.loads, boxO, bslO, buildO, cutL, fillV, putL, w93, v93, W]
      refine ⟨e.trans e2, ?_⟩
      have : l.findIdx? p = some i := by
        rw [List.findIdx?_eq_some_iff_getElem]
        exact ⟨hi', hk, fun j hj => by rw [F j (by omega) hj]; decide⟩
      rw [this]
    · simp (maxSteps := 4000000) (disch := omega) only [ah, am, Nat.reduceEqDiff, reduceCtorEq, Nat.reduceAdd, Nat.reduceLeDiff, Nat.reduceMul, Nat.reduceLT, if_true, if_false, true_and, and_true, and_self, Nat.reduceBEq, QOp.loads, boxO, bslO, buildO, cutL, fillV, putL, w93, v93, W]
      refine ⟨hi', e.trans e2, fun j hj hj2 => ?_⟩
      by_cases hji : j = i
      · subst hji; exact hk
      · exact F j hj (by omega)
  · simp (maxSteps := 4000000) (disch := omega) only [ah, am, Nat.reduceEqDiff, reduceCtorEq, Nat.reduceAdd, Nat.reduceLeDiff, Nat.reduceMul, Nat.reduceLT, if_true, if_false, true_and, and_true, and_self, Nat.reduceBEq, QOp.loads, boxO, bslO, buildO, cutL, fillV, putL, w93, v93, R, W]
    obtain rfl : i = l.length := by omega
    refine ⟨e, ?_⟩
    have : l.findIdx? p = none := by
      rw [List.findIdx?_eq_none_iff]
      intro x hx
      obtain ⟨j, hj, rfl⟩ := List.getElem_of_mem hx
      exact F j hj hj
    rw [this]
theorem ContainsFuncC_ok (h : Heap) (v : Value) (l : List Change) (n : Nat) (cap : Array Value) (p : Change → Bool) (s : SlT h encChange 4 v l) (hl : l.length ≤ 1100000)
    (hf : ∃ fn, Try.prog.funcs[n]? = some fn ∧ fn.body.isSome = true ∧ fn.name ≠ "runtime.NumGoroutine")
    (H : ∀ h' k, Ext h h' → k ∈ l → ACall Try.prog n ([.agg (encChange k).toArray] ++ cap.toList) h' fun r h2 => Ext h' h2 ∧ r = .bool (p k)) :
    ACall Try.prog 84 [v, .func (.func n) #[] cap] h fun r h' => Ext h h' ∧ r = .bool (l.any p) := by
  refine ACall.of Try.func84 s84 (of_decide_eq_true rfl) ?_
  simp (maxSteps := 4000000) (disch := omega) only [ah, am, Nat.reduceEqDiff, reduceCtorEq, Nat.reduceAdd, Nat.reduceLeDiff, Nat.reduceMul, Nat.reduceLT, if_true, if_false, true_and, and_true, and_self, Nat.reduceBEq, QOp.loads, boxO, bslO, buildO, cutL, fillV, putL, w84, v84]
  refine stepC.of (IndexFuncC_ok h v l n cap p s hl hf H) ?_
  rintro _ H1 ⟨e, rfl⟩
  simp (maxSteps := 4000000) (disch := omega) only [ah, am, Nat.reduceEqDiff, reduceCtorEq, Nat.reduceAdd, Nat.reduceLeDiff, Nat.reduceMul, Nat.reduceLT, if_true, if_false, true_and, and_true, and_self, Nat.reduceBEq, QOp.loads, boxO, bslO, buildO, cutL, fillV, putL, w84, v84]
  refine ⟨e, ?_⟩
  cases hq : l.findIdx? p with
  | none =>
    rw [List.findIdx?_eq_none_iff] at hq
    have : l.any p = false := by rw [List.any_eq_false]; intro x hx; rw [hq x hx]; decide
    rw [this]; rfl
  | some j =>
    rw [List.findIdx?_eq_some_iff_getElem] at hq
    obtain ⟨hj, hp, _⟩ := hq
    have : l.any p = true := List.any_eq_true.mpr ⟨_, List.getElem_mem hj, hp⟩
    rw [this]
    congr 1
theorem changesOk_ok (h : Heap) (v : Value) (l : List Change) (s : SlT h encChange 4 v l) (hl : l.length ≤ 1100000) : ACall Try.prog 55 [v] h fun r h' => Ext h h' ∧ r = .bool (decide (changesOk l)) := by
  refine ACall.of Try.func55 s55 (of_decide_eq_true rfl) ?_
  have R := s.rulesN
  simp (maxSteps := 4000000) (disch := omega) only [ah, am, Nat.reduceEqDiff, reduceCtorEq, Nat.reduceAdd, Nat.reduceLeDiff, Nat.reduceMul, Nat.reduceLT, if_true, if_false, true_and, and_true, and_self, Nat.reduceBEq, QOp.loads, boxO, bslO, buildO, cutL, fillV, putL, w55, v55, R]
  refine stepG.cases (fun h0 hp => ?_) (fun h0 hp => ?_)
  · simp (maxSteps := 4000000) (disch := omega) only [ah, am, Nat.reduceEqDiff, reduceCtorEq, Nat.reduceAdd, Nat.reduceLeDiff, Nat.reduceMul, Nat.reduceLT, if_true, if_false, true_and, and_true, and_self, Nat.reduceBEq, QOp.loads, boxO, bslO, buildO, cutL, fillV, putL, w55, v55, hp, R]
    refine stepC.of (ContainsFuncC_ok h v l 85 #[] (fun k => !decide (changeOk k)) s hl ⟨_, Try.func85, rfl, by decide⟩ (fun h' k _ _ => changesOk1_ok h' k)) ?_
    rintro _ H1 ⟨e, rfl⟩
    simp (maxSteps := 4000000) (disch := omega) only [ah, am, Nat.reduceEqDiff, reduceCtorEq, Nat.reduceAdd, Nat.reduceLeDiff, Nat.reduceMul, Nat.reduceLT, if_true, if_false, true_and, and_true, and_self, Nat.reduceBEq, QOp.loads, boxO, bslO, buildO, cutL, fillV, putL, w55, v55, hp, R]
    refine ⟨e, ?_⟩
    refine bool_dec ?_
    simp only [decide_eq_true_eq, changesOk, Bool.not_eq_true', List.any_eq_false, decide_eq_false_iff_not, Classical.not_not]
    exact ⟨fun q => ⟨by omega, q⟩, fun q => q.2⟩
  · simp (maxSteps := 4000000) (disch := omega) only [ah, am, Nat.reduceEqDiff, reduceCtorEq, Nat.reduceAdd, Nat.reduceLeDiff, Nat.reduceMul, Nat.reduceLT, if_true, if_false, true_and, and_true, and_self, Nat.reduceBEq, QOp.loads, boxO, bslO, buildO, cutL, fillV, putL, w55, v55, hp, R]
    rw [show decide (changesOk l) = false from decide_eq_false fun q => by have := q.1; omega]
    exact ⟨Ext.refl h, rfl⟩
theorem applyL_mem (a : List Clip) (ha : ∀ k ∈ a, clipOk k) (l : List Change) (hl : ∀ c ∈ l, changeOk c) : ∀ k ∈ (applyL a l).1, clipOk k := by
  have key : ∀ (l : List Change) (s : List Clip × Int), (∀ c ∈ l, changeOk c) → (∀ k ∈ s.1, clipOk k) → ∀ k ∈ (l.foldl (applyStep a) s).1, clipOk k := by
    intro l
    induction l with
    | nil => intro s _ h; exact h
    | cons c l ih =>
      intro s h hs
      refine ih _ (fun x hx => h x (by simp [hx])) ?_
      have hc := h c (by simp)
      intro k hk
      unfold applyStep at hk
      split at hk
      · rename_i h3
        simp only [List.mem_append, List.mem_singleton] at hk
        rcases hk with hk | rfl
        · exact hs k hk
        · simp only [changeOk] at hc; rcases hc with q | q
          · exact q.2
          · omega
      · split at hk
        · simp only [List.mem_append] at hk
          rcases hk with hk | hk
          · exact hs k hk
          · exact partS_mem _ _ _ _ ha k hk
        · exact hs k hk
  exact key l ([], 0) hl (by simp)
theorem Apply_ok (h : Heap) (v w : Value) (l : List Clip) (m : List Change) (s : SlT h encClip 3 v l) (sw : SlT h encChange 4 w m) (hl : l.length ≤ 1100000) (hm : m.length ≤ 1100000) :
    ACall Try.prog 13 [v, w] h fun r h' => Pair h h' r (applyF l m) := by
  refine ACall.of Try.func13 s13 (of_decide_eq_true rfl) ?_
  simp (maxSteps := 4000000) (disch := omega) only [ah, am, Nat.reduceEqDiff, reduceCtorEq, Nat.reduceAdd, Nat.reduceLeDiff, Nat.reduceMul, Nat.reduceLT, if_true, if_false, true_and, and_true, and_self, Nat.reduceBEq, QOp.loads, boxO, bslO, buildO, cutL, fillV, putL, w13, v13]
  refine stepC.of (implTrackOk_ok _ _ _ s (by omega)) ?_
  rintro _ H1 ⟨e1, rfl⟩
  by_cases ht : trackOk l
  rotate_left
  · have ht' : decide (trackOk l) = false := decide_eq_false ht
    simp (maxSteps := 4000000) (disch := omega) only [ah, am, Nat.reduceEqDiff, reduceCtorEq, Nat.reduceAdd, Nat.reduceLeDiff, Nat.reduceMul, Nat.reduceLT, if_true, if_false, true_and, and_true, and_self, Nat.reduceBEq, QOp.loads, boxO, bslO, buildO, cutL, fillV, putL, w13, v13, ht']
    rw [show applyF l m = ([], false) from if_neg fun q => ht q.1]
    exact ⟨_, rfl, (Fresh.nil _ encClip_len (by omega)).mono e1⟩
  have ht' : decide (trackOk l) = true := decide_eq_true ht
  simp (maxSteps := 4000000) (disch := omega) only [ah, am, Nat.reduceEqDiff, reduceCtorEq, Nat.reduceAdd, Nat.reduceLeDiff, Nat.reduceMul, Nat.reduceLT, if_true, if_false, true_and, and_true, and_self, Nat.reduceBEq, QOp.loads, boxO, bslO, buildO, cutL, fillV, putL, w13, v13, ht']
  refine stepC.of (changesOk_ok _ _ _ (sw.ext e1) (by omega)) ?_
  rintro _ H2 ⟨e2, rfl⟩
  by_cases hc : changesOk m
  rotate_left
  · have hc' : decide (changesOk m) = false := decide_eq_false hc
    simp (maxSteps := 4000000) (disch := omega) only [ah, am, Nat.reduceEqDiff, reduceCtorEq, Nat.reduceAdd, Nat.reduceLeDiff, Nat.reduceMul, Nat.reduceLT, if_true, if_false, true_and, and_true, and_self, Nat.reduceBEq, QOp.loads, boxO, bslO, buildO, cutL, fillV, putL, w13, v13, ht', hc']
    rw [show applyF l m = ([], false) from if_neg fun q => hc q.2.1]
    exact ⟨_, rfl, (Fresh.nil _ encClip_len (by omega)).mono (e1.trans e2)⟩
  have hc' : decide (changesOk m) = true := decide_eq_true hc
  have hlen := ht.1; have hok := ht.2.1; have hsum := ht.2.2; have hmlen := hc.1; have hmok := hc.2
  have R := (sw.ext (e1.trans e2)).rulesN
  have R := (sw.ext ((e1.trans e2).trans (Ext.more H2 [[]]))).rulesN
  simp (maxSteps := 4000000) (disch := omega) only [ah, am, Nat.reduceEqDiff, reduceCtorEq, Nat.reduceAdd, Nat.reduceLeDiff, Nat.reduceMul, Nat.reduceLT, if_true, if_false, true_and, and_true, and_self, Nat.reduceBEq, QOp.loads, boxO, bslO, buildO, cutL, fillV, putL, w13, v13, ht', hc', R]
  refine SW_loop_up (fun i E H => ∃ ov, E = [(0, v), (6, .int .i64 (applyL l (m.take i)).2), (7, ov), (19, w), (20, .int .i64 m.length), (21, .int .i64 i)] ∧ Fresh H2 H encClip 3 ov (applyL l (m.take i)).1) m.length 0 (by omega)
    ⟨.slice (some ⟨H2.size, 0, none⟩) 0 3, by simp [applyL], by simpa [applyL] using Fresh.new0 H2 encClip_len (by omega)⟩ ?_
  rintro i E H hi ⟨ov, rfl, F⟩
  have E0 := (e1.trans e2).trans F.1
  have R := (sw.ext E0).rulesN
  have W : IntKind.i64.wrap ((i : Int) + 1) = ((i + 1 : Nat) : Int) := i64e (by omega) (by omega)
  have B := applyL_bound l (m.take i) (fun c hc => hmok c (List.mem_of_mem_take hc)) hlen
  have hti : (m.take i).length ≤ 300 := by simp; omega
  simp (maxSteps := 4000000) (disch := omega) only [ah, am, Nat.reduceEqDiff, reduceCtorEq, Nat.reduceAdd, Nat.reduceLeDiff, Nat.reduceMul, Nat.reduceLT, if_true, if_false, true_and, and_true, and_self, Nat.reduceBEq, QOp.loads, boxO, bslO, buildO, cutL, fillV, putL, w13, v13, R]
  refine stepI.split (fun hp => ?_) (fun hp => ?_)
  · have hi' : i < m.length := by omega
    have J := applyL_take l m i hi'
    have cl := changeOk_len (hmok _ (List.getElem_mem hi'))
    have hk3 : m[i].kind = 3 ∨ m[i].kind = 1 ∨ m[i].kind = 2 := by have := hmok _ (List.getElem_mem hi'); simp only [changeOk] at this; omega
    rw [J]
    generalize applyL l (m.take i) = st at *
    obtain ⟨out, pos⟩ := st
    simp only at B F ⊢
    have F0 : Fk [] H2 (H.more [encChange m[i]]) encClip 3 ov out [(H.size, encChange m[i])] := (Fk.of F).more [encChange m[i]]
    by_cases h3 : m[i].kind = 3
    · have h3' : decide (m[i].kind = 3) = true := decide_eq_true h3
      have cc := clip_ok (H.more [encChange m[i]]) m[i]
      simp only [encChange] at cc
      simp (maxSteps := 4000000) (disch := omega) only [ah, am, Nat.reduceEqDiff, reduceCtorEq, Nat.reduceAdd, Nat.reduceLeDiff, Nat.reduceMul, Nat.reduceLT, if_true, if_false, true_and, and_true, and_self, Nat.reduceBEq, QOp.loads, boxO, bslO, buildO, cutL, fillV, putL, w13, v13, R, encChange, h3']
      refine stepC.of cc ?_
      rintro _ H3 ⟨e3, rfl⟩
      obtain ⟨v2, H4, ea, F3⟩ := (F0.step e3).app1 [] (clipOf m[i]) (bytes := 24) (by omega)
      simp only [boxesAt, List.cons_append, List.append_nil, List.nil_append, List.length_nil, List.length_cons, Nat.zero_add, Nat.add_zero, encClip, clipOf] at ea
      simp (maxSteps := 4000000) (disch := omega) only [ah, am, Nat.reduceEqDiff, reduceCtorEq, Nat.reduceAdd, Nat.reduceLeDiff, Nat.reduceMul, Nat.reduceLT, if_true, if_false, true_and, and_true, and_self, Nat.reduceBEq, QOp.loads, boxO, bslO, buildO, cutL, fillV, putL, w13, v13, R, encClip, clipOf, h3', ea, W]
      refine ⟨hi', v2, by simp only [applyStep, if_pos h3], ?_⟩
      simp only [applyStep, if_pos h3]; exact F3.fresh
    · have h3' : decide (m[i].kind = 3) = false := decide_eq_false h3
      have W2 : IntKind.i64.wrap (pos + m[i].len) = pos + m[i].len := i64w (by omega)
      by_cases h1 : m[i].kind = 1
      · have h1' : decide (m[i].kind = 1) = true := decide_eq_true h1
        have pa := part_ok (H.more [encChange m[i]]) v l pos (pos + m[i].len) (s.ext (E0.trans (Ext.more H _))) hlen hok (by omega) (by omega) hsum
        have Q1 : partI pos (pos + m[i].len) l = partS pos (pos + m[i].len) 0 l := by have := part_eq pos (pos + m[i].len) l 0 hok; simpa using this
        rw [Q1] at pa
        simp only [encChange] at pa
        simp (maxSteps := 4000000) (disch := omega) only [ah, am, Nat.reduceEqDiff, reduceCtorEq, Nat.reduceAdd, Nat.reduceLeDiff, Nat.reduceMul, Nat.reduceLT, if_true, if_false, true_and, and_true, and_self, Nat.reduceBEq, QOp.loads, boxO, bslO, buildO, cutL, fillV, putL, w13, v13, R, encChange, h3', h1', W2]
        refine stepC.of pa ?_
        intro pv H3 F3
        have F4 := F0.step F3.1
        have X4 := F4.ld (i := H.size) (cs := encChange m[i]) (by simp)
        have pl := partS_length pos (pos + m[i].len) l 0
        obtain ⟨v2, H5, ea, F5⟩ := F4.app F3.slt (bytes := 24) (by omega)
        have X5 := F5.ld (i := H.size) (cs := encChange m[i]) (by simp)
        simp only [encChange] at X4 X5
        simp (maxSteps := 4000000) (disch := omega) only [ah, am, Nat.reduceEqDiff, reduceCtorEq, Nat.reduceAdd, Nat.reduceLeDiff, Nat.reduceMul, Nat.reduceLT, if_true, if_false, true_and, and_true, and_self, Nat.reduceBEq, QOp.loads, boxO, bslO, buildO, cutL, fillV, putL, w13, v13, X4, X5, ea, W, W2]
        refine ⟨hi', v2, by simp only [applyStep, if_neg h3, if_pos h1], ?_⟩
        simp only [applyStep, if_neg h3, if_pos h1]; exact F5.fresh
      · have h1' : decide (m[i].kind = 1) = false := decide_eq_false h1
        simp (maxSteps := 4000000) (disch := omega) only [ah, am, Nat.reduceEqDiff, reduceCtorEq, Nat.reduceAdd, Nat.reduceLeDiff, Nat.reduceMul, Nat.reduceLT, if_true, if_false, true_and, and_true, and_self, Nat.reduceBEq, QOp.loads, boxO, bslO, buildO, cutL, fillV, putL, w13, v13, R, encChange, h3', h1', W, W2]
        refine ⟨hi', ov, by simp only [applyStep, if_neg h3, if_neg h1], ?_⟩
        simp only [applyStep, if_neg h3, if_neg h1]; exact F0.fresh
  · simp (maxSteps := 4000000) (disch := omega) only [ah, am, Nat.reduceEqDiff, reduceCtorEq, Nat.reduceAdd, Nat.reduceLeDiff, Nat.reduceMul, Nat.reduceLT, if_true, if_false, true_and, and_true, and_self, Nat.reduceBEq, QOp.loads, boxO, bslO, buildO, cutL, fillV, putL, w13, v13, R, W]
    obtain rfl : i = m.length := by omega
    rw [List.take_length] at F B ⊢
    have A := applyL_mem l hok m hmok
    refine stepC.of (long_ok _ _ _ (s.ext E0) hlen hok) ?_
    rintro _ H3 ⟨e3, rfl⟩
    by_cases hs : (applyL l m).2 = sumLen l
    · have hs' : decide ((applyL l m).2 = sumLen l) = true := decide_eq_true hs
      have S1 := F.slt.ext e3
      have o1 := oneB_sl S1
      have c1 := cells_sl S1
      simp (maxSteps := 4000000) (disch := omega) only [ah, am, Nat.reduceEqDiff, reduceCtorEq, Nat.reduceAdd, Nat.reduceLeDiff, Nat.reduceMul, Nat.reduceLT, if_true, if_false, true_and, and_true, and_self, Nat.reduceBEq, QOp.loads, boxO, bslO, buildO, cutL, fillV, putL, w13, v13, hs', o1, c1, size_mk]
      refine stepC.of (edited_ok _ _ _ (Rows.one S1) (by simp) (by simp; omega) (fun k hk => (A k (by simpa using hk)).in)) ?_
      rintro _ H4 ⟨rv, rfl, F4⟩
      simp (maxSteps := 4000000) (disch := omega) only [ah, am, Nat.reduceEqDiff, reduceCtorEq, Nat.reduceAdd, Nat.reduceLeDiff, Nat.reduceMul, Nat.reduceLT, if_true, if_false, true_and, and_true, and_self, Nat.reduceBEq, QOp.loads, boxO, bslO, buildO, cutL, fillV, putL, w13, v13]
      rw [show applyF l m = editF (applyL l m).1 from if_pos ⟨ht, hc, hs⟩]
      rw [show [(applyL l m).1].flatten = (applyL l m).1 by simp, editFI _ A] at F4 ⊢
      exact ⟨rv, rfl, F4.mono ((E0.trans e3).trans (Ext.more _ _))⟩
    · have hs' : decide ((applyL l m).2 = sumLen l) = false := decide_eq_false hs
      simp (maxSteps := 4000000) (disch := omega) only [ah, am, Nat.reduceEqDiff, reduceCtorEq, Nat.reduceAdd, Nat.reduceLeDiff, Nat.reduceMul, Nat.reduceLT, if_true, if_false, true_and, and_true, and_self, Nat.reduceBEq, QOp.loads, boxO, bslO, buildO, cutL, fillV, putL, w13, v13, hs']
      rw [show applyF l m = ([], false) from if_neg fun q => hs q.2.2]
      exact ⟨_, rfl, (Fresh.nil _ encClip_len (by omega)).mono (E0.trans e3)⟩
theorem adding_ok (h : Heap) (v : Value) (l : List Clip) (s : SlT h encClip 3 v l) (hl : l.length ≤ 1100000) : ACall Try.prog 46 [v] h fun r h' => Fresh h h' encChange 4 r (l.map addOf) := by
  refine ACall.of Try.func46 s46 (of_decide_eq_true rfl) ?_
  have R := (s.ext (Ext.more h [[]])).rulesN
  simp (maxSteps := 4000000) (disch := omega) only [ah, am, Nat.reduceEqDiff, reduceCtorEq, Nat.reduceAdd, Nat.reduceLeDiff, Nat.reduceMul, Nat.reduceLT, if_true, if_false, true_and, and_true, and_self, Nat.reduceBEq, QOp.loads, boxO, bslO, buildO, cutL, fillV, putL, w46, v46, R]
  refine SW_loop_up (fun i E H => ∃ ov, E = [(3, ov), (7, v), (8, .int .i64 l.length), (9, .int .i64 i)] ∧ Fresh h H encChange 4 ov ((l.take i).map addOf)) l.length 0 (by omega)
    ⟨.slice (some ⟨h.size, 0, none⟩) 0 4, by simp, by simpa using Fresh.new0 h encChange_len (by omega)⟩ ?_
  rintro i E H hi ⟨ov, rfl, F⟩
  have R := (s.ext F.1).rulesN
  have W : IntKind.i64.wrap ((i : Int) + 1) = ((i + 1 : Nat) : Int) := i64e (by omega) (by omega)
  simp (maxSteps := 4000000) (disch := omega) only [ah, am, Nat.reduceEqDiff, reduceCtorEq, Nat.reduceAdd, Nat.reduceLeDiff, Nat.reduceMul, Nat.reduceLT, if_true, if_false, true_and, and_true, and_self, Nat.reduceBEq, QOp.loads, boxO, bslO, buildO, cutL, fillV, putL, w46, v46, R]
  refine stepI.split (fun hp => ?_) (fun hp => ?_)
  · have hi' : i < l.length := by omega
    obtain ⟨v2, H3, ea, F3⟩ := (Fk.of (X := []) F).app1 [encClip l[i]] (addOf l[i]) (bytes := 32) (by simp only [List.length_map, List.length_take]; omega)
    simp only [boxesAt, List.cons_append, List.append_nil, List.nil_append, List.length_nil, List.length_cons, Nat.zero_add, Nat.add_zero, encClip, encChange, addOf] at ea
    simp (maxSteps := 4000000) (disch := omega) only [ah, am, Nat.reduceEqDiff, reduceCtorEq, Nat.reduceAdd, Nat.reduceLeDiff, Nat.reduceMul, Nat.reduceLT, if_true, if_false, true_and, and_true, and_self, Nat.reduceBEq, QOp.loads, boxO, bslO, buildO, cutL, fillV, putL, w46, v46, R, encClip, ea, W]
    refine ⟨hi', v2, rfl, ?_⟩
    rw [List.take_succ_eq_append_getElem hi', List.map_append]
    exact F3.fresh
  · simp (maxSteps := 4000000) (disch := omega) only [ah, am, Nat.reduceEqDiff, reduceCtorEq, Nat.reduceAdd, Nat.reduceLeDiff, Nat.reduceMul, Nat.reduceLT, if_true, if_false, true_and, and_true, and_self, Nat.reduceBEq, QOp.loads, boxO, bslO, buildO, cutL, fillV, putL, w46, v46, R, W]
    obtain rfl : i = l.length := by omega
    rw [List.take_length] at F
    exact F
theorem Turned_ok (h : Heap) (v w : Value) (l : List Clip) (m : List Change) (s : SlT h encClip 3 v l) (sw : SlT h encChange 4 w m) (hl : l.length ≤ 1100000) (hm : m.length ≤ 1100000) :
    ACall Try.prog 16 [v, w] h fun r h' => PairC h h' r (turnedF l m) := by
  refine ACall.of Try.func16 s16 (of_decide_eq_true rfl) ?_
  simp (maxSteps := 4000000) (disch := omega) only [ah, am, Nat.reduceEqDiff, reduceCtorEq, Nat.reduceAdd, Nat.reduceLeDiff, Nat.reduceMul, Nat.reduceLT, if_true, if_false, true_and, and_true, and_self, Nat.reduceBEq, QOp.loads, boxO, bslO, buildO, cutL, fillV, putL, w16, v16]
  refine stepC.of (Apply_ok _ _ _ _ _ s sw hl hm) ?_
  rintro _ H1 ⟨av, rfl, FA⟩
  have e1 := FA.1
  simp (maxSteps := 4000000) (disch := omega) only [ah, am, Nat.reduceEqDiff, reduceCtorEq, Nat.reduceAdd, Nat.reduceLeDiff, Nat.reduceMul, Nat.reduceLT, if_true, if_false, true_and, and_true, and_self, Nat.reduceBEq, QOp.loads, boxO, bslO, buildO, cutL, fillV, putL, w16, v16]
  by_cases hk' : (applyF l m).2 = true
  rotate_left
  · have hk2 : (applyF l m).2 = false := by simpa using hk'
    simp (maxSteps := 4000000) (disch := omega) only [ah, am, Nat.reduceEqDiff, reduceCtorEq, Nat.reduceAdd, Nat.reduceLeDiff, Nat.reduceMul, Nat.reduceLT, if_true, if_false, true_and, and_true, and_self, Nat.reduceBEq, QOp.loads, boxO, bslO, buildO, cutL, fillV, putL, w16, v16, hk2]
    rw [show turnedF l m = ([], false) from if_neg hk']
    exact ⟨_, rfl, (Fresh.nil _ encChange_len (by omega)).mono e1⟩
  obtain ⟨ht, hc, hs⟩ := applyF_true hk'
  have hlen := ht.1; have hok := ht.2.1; have hsum := ht.2.2; have hmlen := hc.1; have hmok := hc.2
  have hT : turnedF l m = ((turnedL l m).1, true) := if_pos hk'
  rw [hT]
  have R := (sw.ext (e1.trans (Ext.more H1 [[]]))).rulesN
  simp (maxSteps := 4000000) (disch := omega) only [ah, am, Nat.reduceEqDiff, reduceCtorEq, Nat.reduceAdd, Nat.reduceLeDiff, Nat.reduceMul, Nat.reduceLT, if_true, if_false, true_and, and_true, and_self, Nat.reduceBEq, QOp.loads, boxO, bslO, buildO, cutL, fillV, putL, w16, v16, hk', R]
  refine SW_loop_up (fun i E H => ∃ ov, E = [(0, v), (8, .int .i64 (turnedL l (m.take i)).2), (9, ov), (21, w), (22, .int .i64 m.length), (23, .int .i64 i)] ∧ Fresh H1 H encChange 4 ov (turnedL l (m.take i)).1) m.length 0 (by omega)
    ⟨.slice (some ⟨H1.size, 0, none⟩) 0 4, by simp [turnedL], by simpa [turnedL] using Fresh.new0 H1 encChange_len (by omega)⟩ ?_
  rintro i E H hi ⟨ov, rfl, F⟩
  have E0 := e1.trans F.1
  have R := (sw.ext E0).rulesN
  have W : IntKind.i64.wrap ((i : Int) + 1) = ((i + 1 : Nat) : Int) := i64e (by omega) (by omega)
  have B := turnedL_bound l (m.take i) (fun c hc => hmok c (List.mem_of_mem_take hc)) hlen
  have hti : (m.take i).length ≤ 300 := by simp; omega
  simp (maxSteps := 4000000) (disch := omega) only [ah, am, Nat.reduceEqDiff, reduceCtorEq, Nat.reduceAdd, Nat.reduceLeDiff, Nat.reduceMul, Nat.reduceLT, if_true, if_false, true_and, and_true, and_self, Nat.reduceBEq, QOp.loads, boxO, bslO, buildO, cutL, fillV, putL, w16, v16, R]
  refine stepI.split (fun hp => ?_) (fun hp => ?_)
  · have hi' : i < m.length := by omega
    have J := turnedL_take l m i hi'
    have cl := changeOk_len (hmok _ (List.getElem_mem hi'))
    have hk3 : m[i].kind = 3 ∨ m[i].kind = 1 ∨ m[i].kind = 2 := by have := hmok _ (List.getElem_mem hi'); simp only [changeOk] at this; omega
    rw [J]
    generalize turnedL l (m.take i) = st at *
    obtain ⟨out, pos⟩ := st
    simp only at B F ⊢
    have F0 : Fk [] H1 (H.more [encChange m[i]]) encChange 4 ov out [(H.size, encChange m[i])] := (Fk.of F).more [encChange m[i]]
    by_cases h3 : m[i].kind = 3
    · have h3' : decide (m[i].kind = 3) = true := decide_eq_true h3
      obtain ⟨v2, H3, ea, F3⟩ := (Fk.of (X := []) F).app1 [encChange m[i]] ⟨2, 0, 0, m[i].len⟩ (bytes := 32) (by omega)
      simp only [boxesAt, List.cons_append, List.append_nil, List.nil_append, List.length_nil, List.length_cons, Nat.zero_add, Nat.add_zero, encChange] at ea
      simp (maxSteps := 4000000) (disch := omega) only [ah, am, Nat.reduceEqDiff, reduceCtorEq, Nat.reduceAdd, Nat.reduceLeDiff, Nat.reduceMul, Nat.reduceLT, if_true, if_false, true_and, and_true, and_self, Nat.reduceBEq, QOp.loads, boxO, bslO, buildO, cutL, fillV, putL, w16, v16, R, encChange, h3', ea, W]
      refine ⟨hi', v2, by simp only [turnedStep, if_pos h3], ?_⟩
      simp only [turnedStep, if_pos h3]; exact F3.fresh
    have h3' : decide (m[i].kind = 3) = false := decide_eq_false h3
    have W2 : IntKind.i64.wrap (pos + m[i].len) = pos + m[i].len := i64w (by omega)
    by_cases h1 : m[i].kind = 1
    · have h1' : decide (m[i].kind = 1) = true := decide_eq_true h1
      obtain ⟨v2, H3, ea, F3⟩ := (Fk.of (X := []) F).app1 [encChange m[i]] m[i] (bytes := 32) (by omega)
      have X3 := F3.ld (i := H.size) (cs := encChange m[i]) (by simp [boxesAt])
      simp only [boxesAt, List.cons_append, List.append_nil, List.nil_append, List.length_nil, List.length_cons, Nat.zero_add, Nat.add_zero, encChange] at ea X3
      simp (maxSteps := 4000000) (disch := omega) only [ah, am, Nat.reduceEqDiff, reduceCtorEq, Nat.reduceAdd, Nat.reduceLeDiff, Nat.reduceMul, Nat.reduceLT, if_true, if_false, true_and, and_true, and_self, Nat.reduceBEq, QOp.loads, boxO, bslO, buildO, cutL, fillV, putL, w16, v16, R, encChange, h3', h1', ea, W, W2, X3]
      refine ⟨hi', v2, by simp only [turnedStep, if_neg h3, if_pos h1], ?_⟩
      simp only [turnedStep, if_neg h3, if_pos h1]; exact F3.fresh
    have h1' : decide (m[i].kind = 1) = false := decide_eq_false h1
    have pa := part_ok (H.more [encChange m[i]]) v l pos (pos + m[i].len) (s.ext (E0.trans (Ext.more H _))) hlen hok (by omega) (by omega) hsum
    have Q1 : partI pos (pos + m[i].len) l = partS pos (pos + m[i].len) 0 l := by have := part_eq pos (pos + m[i].len) l 0 hok; simpa using this
    rw [Q1] at pa
    simp only [encChange] at pa
    simp (maxSteps := 4000000) (disch := omega) only [ah, am, Nat.reduceEqDiff, reduceCtorEq, Nat.reduceAdd, Nat.reduceLeDiff, Nat.reduceMul, Nat.reduceLT, if_true, if_false, true_and, and_true, and_self, Nat.reduceBEq, QOp.loads, boxO, bslO, buildO, cutL, fillV, putL, w16, v16, R, encChange, h1', h3', W2]
    refine stepC.of pa ?_
    intro pv H3 F3
    have hpl := partS_length pos (pos + m[i].len) l 0
    simp (maxSteps := 4000000) (disch := omega) only [ah, am, Nat.reduceEqDiff, reduceCtorEq, Nat.reduceAdd, Nat.reduceLeDiff, Nat.reduceMul, Nat.reduceLT, if_true, if_false, true_and, and_true, and_self, Nat.reduceBEq, QOp.loads, boxO, bslO, buildO, cutL, fillV, putL, w16, v16]
    refine stepC.of (joined_ok _ _ _ F3.slt (by omega) (fun k hk => (partS_mem _ _ _ _ hok k hk).in)) ?_
    intro jv H4 F4
    have hjl := join_length (partS pos (pos + m[i].len) 0 l)
    simp (maxSteps := 4000000) (disch := omega) only [ah, am, Nat.reduceEqDiff, reduceCtorEq, Nat.reduceAdd, Nat.reduceLeDiff, Nat.reduceMul, Nat.reduceLT, if_true, if_false, true_and, and_true, and_self, Nat.reduceBEq, QOp.loads, boxO, bslO, buildO, cutL, fillV, putL, w16, v16]
    refine stepC.of (adding_ok _ _ _ F4.slt (by omega)) ?_
    intro av2 H5 F5
    have F6 := F0.step ((F3.1.trans F4.1).trans F5.1)
    have X6 := F6.ld (i := H.size) (cs := encChange m[i]) (by simp)
    obtain ⟨v2, H7, ea, F7⟩ := F6.app F5.slt (bytes := 32) (by simp only [List.length_map]; omega)
    have X7 := F7.ld (i := H.size) (cs := encChange m[i]) (by simp)
    simp only [encChange] at X6 X7
    simp (maxSteps := 4000000) (disch := omega) only [ah, am, Nat.reduceEqDiff, reduceCtorEq, Nat.reduceAdd, Nat.reduceLeDiff, Nat.reduceMul, Nat.reduceLT, if_true, if_false, true_and, and_true, and_self, Nat.reduceBEq, QOp.loads, boxO, bslO, buildO, cutL, fillV, putL, w16, v16, X6, X7, ea, W, W2]
    refine ⟨hi', v2, by simp only [turnedStep, if_neg h3, if_neg h1], ?_⟩
    simp only [turnedStep, if_neg h3, if_neg h1]; exact F7.fresh
  · simp (maxSteps := 4000000) (disch := omega) only [ah, am, Nat.reduceEqDiff, reduceCtorEq, Nat.reduceAdd, Nat.reduceLeDiff, Nat.reduceMul, Nat.reduceLT, if_true, if_false, true_and, and_true, and_self, Nat.reduceBEq, QOp.loads, boxO, bslO, buildO, cutL, fillV, putL, w16, v16, R, W]
    obtain rfl : i = m.length := by omega
    rw [List.take_length] at F B
    exact ⟨_, rfl, F.mono e1⟩
end Go.Proofs.Ytbnppofkpgfhnaa
