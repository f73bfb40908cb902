import Derived.Test.YtmippcfdakjhfaaG9
namespace Go.Proofs.Ytmippcfdakjhfaa
open Go Go.Ah
set_option linter.unusedSimpArgs false
set_option linter.unusedVariables false
set_option maxRecDepth 10000
set_option maxHeartbeats 4000000
/-! 69 slices.IndexFunc[[]loop.example/g00066/impl.Reel,loop.example/g00066/impl.Reel]: parameters 2, live [0, 1], slots [0:s, 1:f, 2:s, 3:f, 5:i] -/
def c69_0 : List SOper := [⟨some 4, .q (.mv (.c (.int .i64 0))), none⟩]
def c69_1 : List SOper := [⟨some 6, .q (.mv (.t 0)), none⟩, ⟨some 7, .q (.len (.t 6)), none⟩, ⟨some 8, .q (.mv (.c (.int .i64 0))), none⟩]
def c69_2 : List SOper := [⟨some 9, .q (.bin .lss (.t 8) (.t 7)), none⟩]
def c69_3 : SCode := .cond (.t 9) .skip (.exit 0)
def c69_4 : List SOper := [⟨some 10, .q (.mv (.t 8)), none⟩, ⟨some 5, .q (.mv (.t 10)), none⟩]
def c69_5 : List SOper := [⟨some 11, .q (.mv (.t 1)), none⟩, ⟨some 12, .q (.mv (.t 0)), none⟩, ⟨some 13, .q (.mv (.t 5)), none⟩, ⟨some 14, .q (.ia 3 (.t 12) (.t 13)), none⟩, ⟨some 15, .q (.ldn 3 (.t 14)), none⟩, ⟨some 16, .e (.callv (.t 11) [(.t 15)]), none⟩]
def c69_6 : List SOper := [⟨some 17, .q (.mv (.t 5)), none⟩, ⟨some 4, .q (.mv (.t 17)), none⟩]
def c69_7 : SCode := .seq (.region c69_6 [4]) .ret
def c69_8 : SCode := .cond (.t 16) c69_7 .skip
def c69_9 : SCode := .seq (.region c69_5 [0, 1, 5, 7, 8, 16]) c69_8
def c69_10 : SCode := .seq (.region c69_4 [0, 1, 5, 7, 8]) c69_9
def c69_11 : SCode := .block 1 c69_10
def c69_12 : List SOper := [⟨some 18, .q (.bin .add (.t 8) (.c (.int .i64 1))), none⟩, ⟨some 8, .q (.mv (.t 18)), none⟩]
def c69_13 : SCode := .seq c69_11 (.region c69_12 [0, 1, 7, 8])
def c69_14 : SCode := .seq c69_3 c69_13
def c69_15 : SCode := .seq (.region c69_2 [0, 1, 7, 8, 9]) c69_14
def c69_16 : SCode := .loop c69_15
def c69_17 : SCode := .block 0 c69_16
def c69_18 : SCode := .seq (.region c69_1 [0, 1, 7, 8]) c69_17
def c69_19 : List SOper := [⟨some 4, .q (.mv (.c (.int .i64 (-1)))), none⟩]
def c69_20 : SCode := .seq (.region c69_19 [4]) .ret
def c69_21 : SCode := .seq c69_18 c69_20
def c69_22 : SCode := .seq (.region c69_0 [0, 1]) c69_21
def c69 : SCode := c69_22
theorem w69 : type_of% (And.intro (uR Try.prog c69_0.eq_1) (And.intro (uR Try.prog c69_1.eq_1) (And.intro (uR Try.prog c69_2.eq_1) (And.intro (uC Try.prog c69_3.eq_1) (And.intro (uR Try.prog c69_4.eq_1) (And.intro (uR Try.prog c69_5.eq_1) (And.intro (uR Try.prog c69_6.eq_1) (And.intro (uC Try.prog c69_7.eq_1) (And.intro (uC Try.prog c69_8.eq_1) (And.intro (uC Try.prog c69_9.eq_1) (And.intro (uC Try.prog c69_10.eq_1) (And.intro (uC Try.prog c69_11.eq_1) (And.intro (uR Try.prog c69_12.eq_1) (And.intro (uC Try.prog c69_13.eq_1) (And.intro (uC Try.prog c69_14.eq_1) (And.intro (uC Try.prog c69_15.eq_1) (And.intro (uC Try.prog c69_16.eq_1) (And.intro (uC Try.prog c69_17.eq_1) (And.intro (uC Try.prog c69_18.eq_1) (And.intro (uR Try.prog c69_19.eq_1) (And.intro (uC Try.prog c69_20.eq_1) (And.intro (uC Try.prog c69_21.eq_1) (And.intro (uC Try.prog c69_22.eq_1) (uC Try.prog c69.eq_1)))))))))))))))))))))))) := (And.intro (uR Try.prog c69_0.eq_1) (And.intro (uR Try.prog c69_1.eq_1) (And.intro (uR Try.prog c69_2.eq_1) (And.intro (uC Try.prog c69_3.eq_1) (And.intro (uR Try.prog c69_4.eq_1) (And.intro (uR Try.prog c69_5.eq_1) (And.intro (uR Try.prog c69_6.eq_1) (And.intro (uC Try.prog c69_7.eq_1) (And.intro (uC Try.prog c69_8.eq_1) (And.intro (uC Try.prog c69_9.eq_1) (And.intro (uC Try.prog c69_10.eq_1) (And.intro (uC Try.prog c69_11.eq_1) (And.intro (uR Try.prog c69_12.eq_1) (And.intro (uC Try.prog c69_13.eq_1) (And.intro (uC Try.prog c69_14.eq_1) (And.intro (uC Try.prog c69_15.eq_1) (And.intro (uC Try.prog c69_16.eq_1) (And.intro (uC Try.prog c69_17.eq_1) (And.intro (uC Try.prog c69_18.eq_1) (And.intro (uR Try.prog c69_19.eq_1) (And.intro (uC Try.prog c69_20.eq_1) (And.intro (uC Try.prog c69_21.eq_1) (And.intro (uC Try.prog c69_22.eq_1) (uC Try.prog c69.eq_1))))))))))))))))))))))))
def v69 : List RV := [.t 4]
theorem s69 : slimF Try.prog Try.f69 = some (c69.bare, v69) := by kernel_rfl
/-! 51 slices.ContainsFunc[[]loop.example/g00066/impl.Reel,loop.example/g00066/impl.Reel]: parameters 2, live [0, 1], slots [0:s, 1:f, 2:s, 3:f] -/
def c51_0 : List SOper := [⟨some 4, .q (.mv (.c (.bool false))), none⟩]
def c51_1 : List SOper := [⟨some 5, .q (.mv (.t 0)), none⟩, ⟨some 6, .q (.mv (.t 1)), none⟩, ⟨some 7, .e (.call 69 [(.t 5), (.t 6)]), none⟩, ⟨some 8, .q (.bin .geq (.t 7) (.c (.int .i64 0))), none⟩, ⟨some 4, .q (.mv (.t 8)), none⟩]
def c51_2 : SCode := .seq (.region c51_1 [4]) .ret
def c51_3 : SCode := .seq (.region c51_0 [0, 1]) c51_2
def c51 : SCode := c51_3
theorem w51 : type_of% (And.intro (uR Try.prog c51_0.eq_1) (And.intro (uR Try.prog c51_1.eq_1) (And.intro (uC Try.prog c51_2.eq_1) (And.intro (uC Try.prog c51_3.eq_1) (uC Try.prog c51.eq_1))))) := (And.intro (uR Try.prog c51_0.eq_1) (And.intro (uR Try.prog c51_1.eq_1) (And.intro (uC Try.prog c51_2.eq_1) (And.intro (uC Try.prog c51_3.eq_1) (uC Try.prog c51.eq_1)))))
def v51 : List RV := [.t 4]
theorem s51 : slimF Try.prog Try.f51 = some (c51.bare, v51) := by kernel_rfl
/-! 39 loop.example/g00066/impl.in: parameters 3, live [0, 1, 2], slots [0:x, 1:least, 2:most, 3:x, 4:least, 5:most] -/
def c39_0 : List SOper := [⟨some 6, .q (.mv (.c (.bool false))), none⟩]
def c39_1 : List SOper := [⟨some 7, .q (.mv (.t 1)), none⟩, ⟨some 8, .q (.mv (.t 0)), none⟩, ⟨some 9, .q (.bin .leq (.t 7) (.t 8)), none⟩, ⟨some 10, .q (.mv (.t 9)), none⟩, ⟨some 11, .q (.mv (.t 0)), some (10, true)⟩, ⟨some 12, .q (.mv (.t 2)), some (10, true)⟩, ⟨some 13, .q (.bin .leq (.t 11) (.t 12)), some (10, true)⟩, ⟨some 14, .q (.pick (.t 10) (.t 13) (.c (.bool false))), none⟩, ⟨some 6, .q (.mv (.t 14)), none⟩]
def c39_2 : SCode := .seq (.region c39_1 [6]) .ret
def c39_3 : SCode := .seq (.region c39_0 [0, 1, 2]) c39_2
def c39 : SCode := c39_3
theorem w39 : type_of% (And.intro (uR Try.prog c39_0.eq_1) (And.intro (uR Try.prog c39_1.eq_1) (And.intro (uC Try.prog c39_2.eq_1) (And.intro (uC Try.prog c39_3.eq_1) (uC Try.prog c39.eq_1))))) := (And.intro (uR Try.prog c39_0.eq_1) (And.intro (uR Try.prog c39_1.eq_1) (And.intro (uC Try.prog c39_2.eq_1) (And.intro (uC Try.prog c39_3.eq_1) (uC Try.prog c39.eq_1)))))
def v39 : List RV := [.t 6]
theorem s39 : slimF Try.prog Try.f39 = some (c39.bare, v39) := by kernel_rfl
/-! 42 loop.example/g00066/spec.l1In: parameters 3, live [0, 1, 2], slots [0:x, 1:lo, 2:hi, 3:x, 4:lo, 5:hi] -/
def c42_0 : List SOper := [⟨some 6, .q (.mv (.c (.bool false))), none⟩]
def c42_1 : List SOper := [⟨some 7, .q (.mv (.t 0)), none⟩, ⟨some 8, .q (.mv (.t 1)), none⟩, ⟨some 9, .q (.bin .geq (.t 7) (.t 8)), none⟩, ⟨some 10, .q (.mv (.t 9)), none⟩, ⟨some 11, .q (.mv (.t 0)), some (10, true)⟩, ⟨some 12, .q (.mv (.t 2)), some (10, true)⟩, ⟨some 13, .q (.bin .leq (.t 11) (.t 12)), some (10, true)⟩, ⟨some 14, .q (.pick (.t 10) (.t 13) (.c (.bool false))), none⟩, ⟨some 6, .q (.mv (.t 14)), none⟩]
def c42_2 : SCode := .seq (.region c42_1 [6]) .ret
def c42_3 : SCode := .seq (.region c42_0 [0, 1, 2]) c42_2
def c42 : SCode := c42_3
theorem w42 : type_of% (And.intro (uR Try.prog c42_0.eq_1) (And.intro (uR Try.prog c42_1.eq_1) (And.intro (uC Try.prog c42_2.eq_1) (And.intro (uC Try.prog c42_3.eq_1) (uC Try.prog c42.eq_1))))) := (And.intro (uR Try.prog c42_0.eq_1) (And.intro (uR Try.prog c42_1.eq_1) (And.intro (uC Try.prog c42_2.eq_1) (And.intro (uC Try.prog c42_3.eq_1) (uC Try.prog c42.eq_1)))))
def v42 : List RV := [.t 6]
theorem s42 : slimF Try.prog Try.f42 = some (c42.bare, v42) := by kernel_rfl
/-! 68 loop.example/g00066/spec.l4Src: parameters 1, live [0], slots [0:s, 1:s] -/
def c68_0 : List SOper := [⟨some 2, .q (.mv (.c (.bool false))), none⟩]
def c68_1 : List SOper := [⟨some 3, .q (.mv (.t 0)), none⟩, ⟨some 4, .e (.call 42 [(.t 3), (.c (.int .i64 1)), (.c (.int .i64 500))]), none⟩, ⟨some 2, .q (.mv (.t 4)), none⟩]
def c68_2 : SCode := .seq (.region c68_1 [2]) .ret
def c68_3 : SCode := .seq (.region c68_0 [0]) c68_2
def c68 : SCode := c68_3
theorem w68 : type_of% (And.intro (uR Try.prog c68_0.eq_1) (And.intro (uR Try.prog c68_1.eq_1) (And.intro (uC Try.prog c68_2.eq_1) (And.intro (uC Try.prog c68_3.eq_1) (uC Try.prog c68.eq_1))))) := (And.intro (uR Try.prog c68_0.eq_1) (And.intro (uR Try.prog c68_1.eq_1) (And.intro (uC Try.prog c68_2.eq_1) (And.intro (uC Try.prog c68_3.eq_1) (uC Try.prog c68.eq_1)))))
def v68 : List RV := [.t 2]
theorem s68 : slimF Try.prog Try.f68 = some (c68.bare, v68) := by kernel_rfl
/-! 53 (loop.example/g00066/impl.Reel).ok: parameters 1, live [0], slots [0:r, 1:r] -/
def c53_0 : List SOper := [⟨some 1, .a (.box (.t 0)), none⟩, ⟨some 2, .q (.mv (.c (.bool false))), none⟩]
def c53_1 : List SOper := [⟨some 3, .q (.fa 0 (.t 1)), none⟩, ⟨some 4, .q (.ld (.t 3)), none⟩, ⟨some 5, .e (.call 39 [(.t 4), (.c (.int .i64 1)), (.c (.int .i64 500))]), none⟩, ⟨some 6, .q (.mv (.t 5)), none⟩, ⟨some 7, .q (.fa 1 (.t 1)), some (6, true)⟩, ⟨some 8, .q (.ld (.t 7)), some (6, true)⟩, ⟨some 9, .q (.bin .leq (.c (.int .i64 0)) (.t 8)), some (6, true)⟩, ⟨some 10, .q (.pick (.t 6) (.t 9) (.c (.bool false))), none⟩, ⟨some 11, .q (.mv (.t 10)), none⟩, ⟨some 12, .q (.fa 1 (.t 1)), some (11, true)⟩, ⟨some 13, .q (.ld (.t 12)), some (11, true)⟩, ⟨some 14, .q (.fa 2 (.t 1)), some (11, true)⟩, ⟨some 15, .q (.ld (.t 14)), some (11, true)⟩, ⟨some 16, .q (.bin .lss (.t 13) (.t 15)), some (11, true)⟩, ⟨some 17, .q (.pick (.t 11) (.t 16) (.c (.bool false))), none⟩, ⟨some 18, .q (.mv (.t 17)), none⟩, ⟨some 19, .q (.fa 2 (.t 1)), some (18, true)⟩, ⟨some 20, .q (.ld (.t 19)), some (18, true)⟩, ⟨some 21, .q (.bin .leq (.t 20) (.c (.int .i64 10000000))), some (18, true)⟩, ⟨some 22, .q (.pick (.t 18) (.t 21) (.c (.bool false))), none⟩, ⟨some 2, .q (.mv (.t 22)), none⟩]
def c53_2 : SCode := .seq (.region c53_1 [2]) .ret
def c53_3 : SCode := .seq (.region c53_0 [1]) c53_2
def c53 : SCode := c53_3
theorem w53 : type_of% (And.intro (uR Try.prog c53_0.eq_1) (And.intro (uR Try.prog c53_1.eq_1) (And.intro (uC Try.prog c53_2.eq_1) (And.intro (uC Try.prog c53_3.eq_1) (uC Try.prog c53.eq_1))))) := (And.intro (uR Try.prog c53_0.eq_1) (And.intro (uR Try.prog c53_1.eq_1) (And.intro (uC Try.prog c53_2.eq_1) (And.intro (uC Try.prog c53_3.eq_1) (uC Try.prog c53.eq_1)))))
def v53 : List RV := [.t 2]
theorem s53 : slimF Try.prog Try.f53 = some (c53.bare, v53) := by kernel_rfl
/-! 50 loop.example/g00066/spec.l7Reel: parameters 1, live [0], slots [0:r, 1:r] -/
def c50_0 : List SOper := [⟨some 1, .a (.box (.t 0)), none⟩, ⟨some 2, .q (.mv (.c (.bool false))), none⟩]
def c50_1 : List SOper := [⟨some 3, .q (.fa 0 (.t 1)), none⟩, ⟨some 4, .q (.ld (.t 3)), none⟩, ⟨some 5, .e (.call 68 [(.t 4)]), none⟩, ⟨some 6, .q (.mv (.t 5)), none⟩, ⟨some 7, .q (.fa 1 (.t 1)), some (6, true)⟩, ⟨some 8, .q (.ld (.t 7)), some (6, true)⟩, ⟨some 9, .q (.bin .leq (.c (.int .i64 0)) (.t 8)), some (6, true)⟩, ⟨some 10, .q (.pick (.t 6) (.t 9) (.c (.bool false))), none⟩, ⟨some 11, .q (.mv (.t 10)), none⟩, ⟨some 12, .q (.fa 1 (.t 1)), some (11, true)⟩, ⟨some 13, .q (.ld (.t 12)), some (11, true)⟩, ⟨some 14, .q (.fa 2 (.t 1)), some (11, true)⟩, ⟨some 15, .q (.ld (.t 14)), some (11, true)⟩, ⟨some 16, .q (.bin .lss (.t 13) (.t 15)), some (11, true)⟩, ⟨some 17, .q (.pick (.t 11) (.t 16) (.c (.bool false))), none⟩, ⟨some 18, .q (.mv (.t 17)), none⟩, ⟨some 19, .q (.fa 2 (.t 1)), some (18, true)⟩, ⟨some 20, .q (.ld (.t 19)), some (18, true)⟩, ⟨some 21, .q (.bin .leq (.t 20) (.c (.int .i64 10000000))), some (18, true)⟩, ⟨some 22, .q (.pick (.t 18) (.t 21) (.c (.bool false))), none⟩, ⟨some 2, .q (.mv (.t 22)), none⟩]
def c50_2 : SCode := .seq (.region c50_1 [2]) .ret
def c50_3 : SCode := .seq (.region c50_0 [1]) c50_2
def c50 : SCode := c50_3
theorem w50 : type_of% (And.intro (uR Try.prog c50_0.eq_1) (And.intro (uR Try.prog c50_1.eq_1) (And.intro (uC Try.prog c50_2.eq_1) (And.intro (uC Try.prog c50_3.eq_1) (uC Try.prog c50.eq_1))))) := (And.intro (uR Try.prog c50_0.eq_1) (And.intro (uR Try.prog c50_1.eq_1) (And.intro (uC Try.prog c50_2.eq_1) (And.intro (uC Try.prog c50_3.eq_1) (uC Try.prog c50.eq_1)))))
def v50 : List RV := [.t 2]
theorem s50 : slimF Try.prog Try.f50 = some (c50.bare, v50) := by kernel_rfl
/-! 52 loop.example/g00066/impl.reelsOk$1: parameters 1, live [0], slots [0:r, 1:r] -/
def c52_0 : List SOper := [⟨some 1, .a (.box (.t 0)), none⟩, ⟨some 2, .q (.mv (.c (.bool false))), none⟩]
def c52_1 : List SOper := [⟨some 3, .q (.ldn 3 (.t 1)), none⟩, ⟨some 4, .e (.call 53 [(.t 3)]), none⟩, ⟨some 5, .q (.not (.t 4)), none⟩, ⟨some 2, .q (.mv (.t 5)), none⟩]
def c52_2 : SCode := .seq (.region c52_1 [2]) .ret
def c52_3 : SCode := .seq (.region c52_0 [1]) c52_2
def c52 : SCode := c52_3
theorem w52 : type_of% (And.intro (uR Try.prog c52_0.eq_1) (And.intro (uR Try.prog c52_1.eq_1) (And.intro (uC Try.prog c52_2.eq_1) (And.intro (uC Try.prog c52_3.eq_1) (uC Try.prog c52.eq_1))))) := (And.intro (uR Try.prog c52_0.eq_1) (And.intro (uR Try.prog c52_1.eq_1) (And.intro (uC Try.prog c52_2.eq_1) (And.intro (uC Try.prog c52_3.eq_1) (uC Try.prog c52.eq_1)))))
def v52 : List RV := [.t 2]
theorem s52 : slimF Try.prog Try.f52 = some (c52.bare, v52) := by kernel_rfl
/-! 29 loop.example/g00066/impl.reelsOk: parameters 1, live [0], slots [0:list, 1:list] -/
def c29_0 : List SOper := [⟨some 2, .q (.mv (.c (.bool false))), none⟩]
def c29_1 : List SOper := [⟨some 3, .q (.mv (.t 0)), none⟩, ⟨some 4, .q (.len (.t 3)), none⟩, ⟨some 5, .q (.bin .leq (.t 4) (.c (.int .i64 300))), none⟩, ⟨some 6, .q (.mv (.t 5)), none⟩, ⟨some 7, .q (.mv (.t 0)), some (6, true)⟩, ⟨some 8, .e (.call 51 [(.t 7), (.f 52)]), some (6, true)⟩, ⟨some 9, .q (.not (.t 8)), some (6, true)⟩, ⟨some 10, .q (.pick (.t 6) (.t 9) (.c (.bool false))), none⟩, ⟨some 2, .q (.mv (.t 10)), none⟩]
def c29_2 : SCode := .seq (.region c29_1 [2]) .ret
def c29_3 : SCode := .seq (.region c29_0 [0]) c29_2
def c29 : SCode := c29_3
theorem w29 : type_of% (And.intro (uR Try.prog c29_0.eq_1) (And.intro (uR Try.prog c29_1.eq_1) (And.intro (uC Try.prog c29_2.eq_1) (And.intro (uC Try.prog c29_3.eq_1) (uC Try.prog c29.eq_1))))) := (And.intro (uR Try.prog c29_0.eq_1) (And.intro (uR Try.prog c29_1.eq_1) (And.intro (uC Try.prog c29_2.eq_1) (And.intro (uC Try.prog c29_3.eq_1) (uC Try.prog c29.eq_1)))))
def v29 : List RV := [.t 2]
theorem s29 : slimF Try.prog Try.f29 = some (c29.bare, v29) := by kernel_rfl
/-! 27 loop.example/g00066/spec.l7Reels: parameters 1, live [0], slots [0:list, 1:list, 3:i] -/
def c27_0 : List SOper := [⟨some 2, .q (.mv (.c (.bool false))), none⟩]
def c27_1 : List SOper := [⟨some 4, .q (.mv (.t 0)), none⟩, ⟨some 5, .q (.len (.t 4)), none⟩, ⟨some 6, .q (.bin .gtr (.t 5) (.c (.int .i64 300))), none⟩]
def c27_2 : List SOper := [⟨some 2, .q (.mv (.c (.bool false))), none⟩]
def c27_3 : SCode := .seq (.region c27_2 [2]) .ret
def c27_4 : SCode := .cond (.t 6) c27_3 .skip
def c27_5 : SCode := .seq (.region c27_1 [0, 6]) c27_4
def c27_6 : List SOper := [⟨some 3, .q (.mv (.c (.int .i64 0))), none⟩]
def c27_7 : List SOper := [⟨some 7, .q (.mv (.t 3)), none⟩, ⟨some 8, .q (.mv (.t 0)), none⟩, ⟨some 9, .q (.len (.t 8)), none⟩, ⟨some 10, .q (.bin .lss (.t 7) (.t 9)), none⟩]
def c27_8 : SCode := .cond (.t 10) .skip (.exit 0)
def c27_9 : SCode := .seq (.region c27_7 [0, 3, 10]) c27_8
def c27_10 : List SOper := [⟨some 13, .q (.mv (.t 0)), none⟩, ⟨some 14, .q (.mv (.t 3)), none⟩, ⟨some 15, .q (.ia 3 (.t 13) (.t 14)), none⟩, ⟨some 16, .q (.ldn 3 (.t 15)), none⟩, ⟨some 17, .e (.call 50 [(.t 16)]), none⟩, ⟨some 18, .q (.not (.t 17)), none⟩]
def c27_11 : List SOper := [⟨some 2, .q (.mv (.c (.bool false))), none⟩]
def c27_12 : SCode := .seq (.region c27_11 [2]) .ret
def c27_13 : SCode := .cond (.t 18) c27_12 .skip
def c27_14 : SCode := .seq (.region c27_10 [0, 3, 18]) c27_13
def c27_15 : SCode := .block 1 c27_14
def c27_16 : List SOper := [⟨some 11, .q (.mv (.t 3)), none⟩, ⟨some 12, .q (.bin .add (.t 11) (.c (.int .i64 1))), none⟩, ⟨some 3, .q (.mv (.t 12)), none⟩]
def c27_17 : SCode := .seq c27_15 (.region c27_16 [0, 3])
def c27_18 : SCode := .seq c27_9 c27_17
def c27_19 : SCode := .loop c27_18
def c27_20 : SCode := .block 0 c27_19
def c27_21 : SCode := .seq (.region c27_6 [0, 3]) c27_20
def c27_22 : List SOper := [⟨some 2, .q (.mv (.c (.bool true))), none⟩]
def c27_23 : SCode := .seq (.region c27_22 [2]) .ret
def c27_24 : SCode := .seq c27_21 c27_23
def c27_25 : SCode := .seq c27_5 c27_24
def c27_26 : SCode := .seq (.region c27_0 [0]) c27_25
def c27 : SCode := c27_26
theorem w27 : type_of% (And.intro (uR Try.prog c27_0.eq_1) (And.intro (uR Try.prog c27_1.eq_1) (And.intro (uR Try.prog c27_2.eq_1) (And.intro (uC Try.prog c27_3.eq_1) (And.intro (uC Try.prog c27_4.eq_1) (And.intro (uC Try.prog c27_5.eq_1) (And.intro (uR Try.prog c27_6.eq_1) (And.intro (uR Try.prog c27_7.eq_1) (And.intro (uC Try.prog c27_8.eq_1) (And.intro (uC Try.prog c27_9.eq_1) (And.intro (uR Try.prog c27_10.eq_1) (And.intro (uR Try.prog c27_11.eq_1) (And.intro (uC Try.prog c27_12.eq_1) (And.intro (uC Try.prog c27_13.eq_1) (And.intro (uC Try.prog c27_14.eq_1) (And.intro (uC Try.prog c27_15.eq_1) (And.intro (uR Try.prog c27_16.eq_1) (And.intro (uC Try.prog c27_17.eq_1) (And.intro (uC Try.prog c27_18.eq_1) (And.intro (uC Try.prog c27_19.eq_1) (And.intro (uC Try.prog c27_20.eq_1) (And.intro (uC Try.prog c27_21.eq_1) (And.intro (uR Try.prog c27_22.eq_1) (And.intro (uC Try.prog c27_23.eq_1) (And.intro (uC Try.prog c27_24.eq_1) (And.intro (uC Try.prog c27_25.eq_1) (And.intro (uC Try.prog c27_26.eq_1) (uC Try.prog c27.eq_1)))))))))))))))))))))))))))) := (And.intro (uR Try.prog c27_0.eq_1) (And.intro (uR Try.prog c27_1.eq_1) (And.intro (uR Try.prog c27_2.eq_1) (And.intro (uC Try.prog c27_3.eq_1) (And.intro (uC Try.prog c27_4.eq_1) (And.intro (uC Try.prog c27_5.eq_1) (And.intro (uR Try.prog c27_6.eq_1) (And.intro (uR Try.prog c27_7.eq_1) (And.intro (uC Try.prog c27_8.eq_1) (And.intro (uC Try.prog c27_9.eq_1) (And.intro (uR Try.prog c27_10.eq_1) (And.intro (uR Try.prog c27_11.eq_1) (And.intro (uC Try.prog c27_12.eq_1) (And.intro (uC Try.prog c27_13.eq_1) (And.intro (uC Try.prog c27_14.eq_1) (And.intro (uC Try.prog c27_15.eq_1) (And.intro (uR Try.prog c27_16.eq_1) (And.intro (uC Try.prog c27_17.eq_1) (And.intro (uC Try.prog c27_18.eq_1) (And.intro (uC Try.prog c27_19.eq_1) (And.intro (uC Try.prog c27_20.eq_1) (And.intro (uC Try.prog c27_21.eq_1) (And.intro (uR Try.prog c27_22.eq_1) (And.intro (uC Try.prog c27_23.eq_1) (And.intro (uC Try.prog c27_24.eq_1) (And.intro (uC Try.prog c27_25.eq_1) (And.intro (uC Try.prog c27_26.eq_1) (uC Try.prog c27.eq_1))))))))))))))))))))))))))))
def v27 : List RV := [.t 2]
theorem s27 : slimF Try.prog Try.f27 = some (c27.bare, v27) := by kernel_rfl
/-! 33 (loop.example/g00066/impl.Reel).without: parameters 2, live [0, 1], slots [0:r, 1:have, 2:r, 3:have, 5:out, 6:_, 7:h] -/
def c33_0 : List SOper := [⟨some 2, .a (.box (.t 0)), none⟩, ⟨some 4, .q (.mv (.c (.slice none 0 0))), none⟩]
def c33_1 : List SOper := [⟨some 8, .a (.bsl 0 3 [] []), none⟩, ⟨some 5, .q (.mv (.t 8)), none⟩]
def c33_2 : List SOper := [⟨some 9, .q (.mv (.t 1)), none⟩, ⟨some 10, .q (.len (.t 9)), none⟩, ⟨some 11, .q (.mv (.c (.int .i64 0))), none⟩]
def c33_3 : List SOper := [⟨some 12, .q (.bin .lss (.t 11) (.t 10)), none⟩]
def c33_4 : SCode := .cond (.t 12) .skip (.exit 0)
def c33_5 : List SOper := [⟨some 13, .q (.ia 3 (.t 9) (.t 11)), none⟩, ⟨some 14, .q (.ldn 3 (.t 13)), none⟩, ⟨some 7, .a (.new [(.int .i64 0), (.int .i64 0), (.int .i64 0)]), none⟩, ⟨none, .e (.st 3 (.t 7) (.t 14)), none⟩]
def c33_6 : List SOper := [⟨some 15, .q (.fa 0 (.t 7)), none⟩, ⟨some 16, .q (.ld (.t 15)), none⟩, ⟨some 17, .q (.fa 0 (.t 2)), none⟩, ⟨some 18, .q (.ld (.t 17)), none⟩, ⟨some 19, .q (.bin .neq (.t 16) (.t 18)), none⟩, ⟨some 20, .q (.mv (.t 19)), none⟩, ⟨some 21, .q (.fa 2 (.t 7)), some (20, false)⟩, ⟨some 22, .q (.ld (.t 21)), some (20, false)⟩, ⟨some 23, .q (.fa 1 (.t 2)), some (20, false)⟩, ⟨some 24, .q (.ld (.t 23)), some (20, false)⟩, ⟨some 25, .q (.bin .leq (.t 22) (.t 24)), some (20, false)⟩, ⟨some 26, .q (.pick (.t 20) (.c (.bool true)) (.t 25)), none⟩, ⟨some 27, .q (.mv (.t 26)), none⟩, ⟨some 28, .q (.fa 1 (.t 7)), some (27, false)⟩, ⟨some 29, .q (.ld (.t 28)), some (27, false)⟩, ⟨some 30, .q (.fa 2 (.t 2)), some (27, false)⟩, ⟨some 31, .q (.ld (.t 30)), some (27, false)⟩, ⟨some 32, .q (.bin .geq (.t 29) (.t 31)), some (27, false)⟩, ⟨some 33, .q (.pick (.t 27) (.c (.bool true)) (.t 32)), none⟩]
def c33_7 : SCode := .cond (.t 33) (.exit 1) .skip
def c33_8 : SCode := .seq (.region c33_6 [2, 5, 7, 9, 10, 11, 33]) c33_7
def c33_9 : List SOper := [⟨some 34, .q (.fa 1 (.t 2)), none⟩, ⟨some 35, .q (.ld (.t 34)), none⟩, ⟨some 36, .q (.fa 1 (.t 7)), none⟩, ⟨some 37, .q (.ld (.t 36)), none⟩, ⟨some 38, .q (.bin .lss (.t 35) (.t 37)), none⟩]
def c33_10 : List SOper := [⟨some 39, .q (.mv (.t 5)), none⟩, ⟨some 40, .q (.fa 0 (.t 2)), none⟩, ⟨some 41, .q (.ld (.t 40)), none⟩, ⟨some 42, .q (.fa 1 (.t 2)), none⟩, ⟨some 43, .q (.ld (.t 42)), none⟩, ⟨some 44, .q (.fa 1 (.t 7)), none⟩, ⟨some 45, .q (.ld (.t 44)), none⟩, ⟨some 46, .q (.build [(.int .i64 0), (.int .i64 0), (.int .i64 0)] [(0, 1, (.t 41)), (1, 1, (.t 43)), (2, 1, (.t 45))]), none⟩, ⟨some 47, .a (.bsl 1 3 [(.int .i64 0), (.int .i64 0), (.int .i64 0)] [(0, 3, (.t 46))]), none⟩, ⟨some 48, .e (.app 24 3 (.t 39) (.t 47)), none⟩, ⟨some 5, .q (.mv (.t 48)), none⟩]
def c33_11 : SCode := .cond (.t 38) (.region c33_10 [2, 5, 7, 9, 10, 11]) .skip
def c33_12 : SCode := .seq (.region c33_9 [2, 5, 7, 9, 10, 11, 38]) c33_11
def c33_13 : List SOper := [⟨some 49, .q (.fa 2 (.t 7)), none⟩, ⟨some 50, .q (.ld (.t 49)), none⟩, ⟨some 51, .q (.fa 1 (.t 2)), none⟩, ⟨none, .e (.st 1 (.t 51) (.t 50)), none⟩]
def c33_14 : SCode := .seq c33_12 (.region c33_13 [2, 5, 9, 10, 11])
def c33_15 : SCode := .seq c33_8 c33_14
def c33_16 : SCode := .seq (.region c33_5 [2, 5, 7, 9, 10, 11]) c33_15
def c33_17 : SCode := .block 1 c33_16
def c33_18 : List SOper := [⟨some 52, .q (.bin .add (.t 11) (.c (.int .i64 1))), none⟩, ⟨some 11, .q (.mv (.t 52)), none⟩]
def c33_19 : SCode := .seq c33_17 (.region c33_18 [2, 5, 9, 10, 11])
def c33_20 : SCode := .seq c33_4 c33_19
def c33_21 : SCode := .seq (.region c33_3 [2, 5, 9, 10, 11, 12]) c33_20
def c33_22 : SCode := .loop c33_21
def c33_23 : SCode := .block 0 c33_22
def c33_24 : SCode := .seq (.region c33_2 [2, 5, 9, 10, 11]) c33_23
def c33_25 : List SOper := [⟨some 53, .q (.fa 1 (.t 2)), none⟩, ⟨some 54, .q (.ld (.t 53)), none⟩, ⟨some 55, .q (.fa 2 (.t 2)), none⟩, ⟨some 56, .q (.ld (.t 55)), none⟩, ⟨some 57, .q (.bin .lss (.t 54) (.t 56)), none⟩]
def c33_26 : List SOper := [⟨some 58, .q (.mv (.t 5)), none⟩, ⟨some 59, .q (.ldn 3 (.t 2)), none⟩, ⟨some 60, .a (.bsl 1 3 [(.int .i64 0), (.int .i64 0), (.int .i64 0)] [(0, 3, (.t 59))]), none⟩, ⟨some 61, .e (.app 24 3 (.t 58) (.t 60)), none⟩, ⟨some 5, .q (.mv (.t 61)), none⟩]
def c33_27 : SCode := .cond (.t 57) (.region c33_26 [5]) .skip
def c33_28 : SCode := .seq (.region c33_25 [2, 5, 57]) c33_27
def c33_29 : List SOper := [⟨some 62, .q (.mv (.t 5)), none⟩, ⟨some 4, .q (.mv (.t 62)), none⟩]
def c33_30 : SCode := .seq (.region c33_29 [4]) .ret
def c33_31 : SCode := .seq c33_28 c33_30
def c33_32 : SCode := .seq c33_24 c33_31
def c33_33 : SCode := .seq (.region c33_1 [1, 2, 5]) c33_32
def c33_34 : SCode := .seq (.region c33_0 [1, 2]) c33_33
def c33 : SCode := c33_34
theorem w33 : type_of% (And.intro (uR Try.prog c33_0.eq_1) (And.intro (uR Try.prog c33_1.eq_1) (And.intro (uR Try.prog c33_2.eq_1) (And.intro (uR Try.prog c33_3.eq_1) (And.intro (uC Try.prog c33_4.eq_1) (And.intro (uR Try.prog c33_5.eq_1) (And.intro (uR Try.prog c33_6.eq_1) (And.intro (uC Try.prog c33_7.eq_1) (And.intro (uC Try.prog c33_8.eq_1) (And.intro (uR Try.prog c33_9.eq_1) (And.intro (uR Try.prog c33_10.eq_1) (And.intro (uC Try.prog c33_11.eq_1) (And.intro (uC Try.prog c33_12.eq_1) (And.intro (uR Try.prog c33_13.eq_1) (And.intro (uC Try.prog c33_14.eq_1) (And.intro (uC Try.prog c33_15.eq_1) (And.intro (uC Try.prog c33_16.eq_1) (And.intro (uC Try.prog c33_17.eq_1) (And.intro (uR Try.prog c33_18.eq_1) (And.intro (uC Try.prog c33_19.eq_1) (And.intro (uC Try.prog c33_20.eq_1) (And.intro (uC Try.prog c33_21.eq_1) (And.intro (uC Try.prog c33_22.eq_1) (And.intro (uC Try.prog c33_23.eq_1) (And.intro (uC Try.prog c33_24.eq_1) (And.intro (uR Try.prog c33_25.eq_1) (And.intro (uR Try.prog c33_26.eq_1) (And.intro (uC Try.prog c33_27.eq_1) (And.intro (uC Try.prog c33_28.eq_1) (And.intro (uR Try.prog c33_29.eq_1) (And.intro (uC Try.prog c33_30.eq_1) (And.intro (uC Try.prog c33_31.eq_1) (And.intro (uC Try.prog c33_32.eq_1) (And.intro (uC Try.prog c33_33.eq_1) (And.intro (uC Try.prog c33_34.eq_1) (uC Try.prog c33.eq_1)))))))))))))))))))))))))))))))))))) := (And.intro (uR Try.prog c33_0.eq_1) (And.intro (uR Try.prog c33_1.eq_1) (And.intro (uR Try.prog c33_2.eq_1) (And.intro (uR Try.prog c33_3.eq_1) (And.intro (uC Try.prog c33_4.eq_1) (And.intro (uR Try.prog c33_5.eq_1) (And.intro (uR Try.prog c33_6.eq_1) (And.intro (uC Try.prog c33_7.eq_1) (And.intro (uC Try.prog c33_8.eq_1) (And.intro (uR Try.prog c33_9.eq_1) (And.intro (uR Try.prog c33_10.eq_1) (And.intro (uC Try.prog c33_11.eq_1) (And.intro (uC Try.prog c33_12.eq_1) (And.intro (uR Try.prog c33_13.eq_1) (And.intro (uC Try.prog c33_14.eq_1) (And.intro (uC Try.prog c33_15.eq_1) (And.intro (uC Try.prog c33_16.eq_1) (And.intro (uC Try.prog c33_17.eq_1) (And.intro (uR Try.prog c33_18.eq_1) (And.intro (uC Try.prog c33_19.eq_1) (And.intro (uC Try.prog c33_20.eq_1) (And.intro (uC Try.prog c33_21.eq_1) (And.intro (uC Try.prog c33_22.eq_1) (And.intro (uC Try.prog c33_23.eq_1) (And.intro (uC Try.prog c33_24.eq_1) (And.intro (uR Try.prog c33_25.eq_1) (And.intro (uR Try.prog c33_26.eq_1) (And.intro (uC Try.prog c33_27.eq_1) (And.intro (uC Try.prog c33_28.eq_1) (And.intro (uR Try.prog c33_29.eq_1) (And.intro (uC Try.prog c33_30.eq_1) (And.intro (uC Try.prog c33_31.eq_1) (And.intro (uC Try.prog c33_32.eq_1) (And.intro (uC Try.prog c33_33.eq_1) (And.intro (uC Try.prog c33_34.eq_1) (uC Try.prog c33.eq_1))))))))))))))))))))))))))))))))))))
def v33 : List RV := [.t 4]
theorem s33 : slimF Try.prog Try.f33 = some (c33.bare, v33) := by kernel_rfl
/-! 14 loop.example/g00066/impl.Missing: parameters 2, live [0, 1], slots [0:needs, 1:have, 2:needs, 3:have, 5:out, 6:there, 7:_, 8:r] -/
def c14_0 : List SOper := [⟨some 4, .q (.mv (.c (.slice none 0 0))), none⟩]
def c14_1 : List SOper := [⟨some 9, .q (.mv (.t 0)), none⟩, ⟨some 10, .e (.call 29 [(.t 9)]), none⟩, ⟨some 11, .q (.not (.t 10)), none⟩, ⟨some 12, .q (.mv (.t 11)), none⟩, ⟨some 13, .q (.mv (.t 1)), some (12, false)⟩, ⟨some 14, .e (.call 29 [(.t 13)]), some (12, false)⟩, ⟨some 15, .q (.not (.t 14)), some (12, false)⟩, ⟨some 16, .q (.pick (.t 12) (.c (.bool true)) (.t 15)), none⟩]
def c14_2 : List SOper := [⟨some 4, .q (.mv (.c (.slice none 0 0))), none⟩]
def c14_3 : SCode := .seq (.region c14_2 [4]) .ret
def c14_4 : SCode := .cond (.t 16) c14_3 .skip
def c14_5 : SCode := .seq (.region c14_1 [0, 1, 16]) c14_4
def c14_6 : List SOper := [⟨some 17, .a (.bsl 0 3 [] []), none⟩, ⟨some 18, .q (.mv (.t 1)), none⟩, ⟨some 19, .e (.call 32 [(.t 18)]), none⟩, ⟨some 5, .q (.mv (.t 17)), none⟩, ⟨some 6, .q (.mv (.t 19)), none⟩]
def c14_7 : List SOper := [⟨some 20, .q (.mv (.t 0)), none⟩, ⟨some 21, .e (.call 32 [(.t 20)]), none⟩, ⟨some 22, .q (.len (.t 21)), none⟩, ⟨some 23, .q (.mv (.c (.int .i64 0))), none⟩]
def c14_8 : List SOper := [⟨some 24, .q (.bin .lss (.t 23) (.t 22)), none⟩]
def c14_9 : SCode := .cond (.t 24) .skip (.exit 0)
def c14_10 : List SOper := [⟨some 25, .q (.ia 3 (.t 21) (.t 23)), none⟩, ⟨some 26, .q (.ldn 3 (.t 25)), none⟩, ⟨some 8, .a (.new [(.int .i64 0), (.int .i64 0), (.int .i64 0)]), none⟩, ⟨none, .e (.st 3 (.t 8) (.t 26)), none⟩]
def c14_11 : List SOper := [⟨some 27, .q (.mv (.t 5)), none⟩, ⟨some 28, .q (.ldn 3 (.t 8)), none⟩, ⟨some 29, .q (.mv (.t 6)), none⟩, ⟨some 30, .e (.call 33 [(.t 28), (.t 29)]), none⟩, ⟨some 31, .e (.app 24 3 (.t 27) (.t 30)), none⟩, ⟨some 5, .q (.mv (.t 31)), none⟩]
def c14_12 : SCode := .seq (.region c14_10 [5, 6, 8, 21, 22, 23]) (.region c14_11 [5, 6, 21, 22, 23])
def c14_13 : SCode := .block 1 c14_12
def c14_14 : List SOper := [⟨some 32, .q (.bin .add (.t 23) (.c (.int .i64 1))), none⟩, ⟨some 23, .q (.mv (.t 32)), none⟩]
def c14_15 : SCode := .seq c14_13 (.region c14_14 [5, 6, 21, 22, 23])
def c14_16 : SCode := .seq c14_9 c14_15
def c14_17 : SCode := .seq (.region c14_8 [5, 6, 21, 22, 23, 24]) c14_16
def c14_18 : SCode := .loop c14_17
def c14_19 : SCode := .block 0 c14_18
def c14_20 : SCode := .seq (.region c14_7 [5, 6, 21, 22, 23]) c14_19
def c14_21 : List SOper := [⟨some 33, .q (.mv (.t 5)), none⟩, ⟨some 4, .q (.mv (.t 33)), none⟩]
def c14_22 : SCode := .seq (.region c14_21 [4]) .ret
def c14_23 : SCode := .seq c14_20 c14_22
def c14_24 : SCode := .seq (.region c14_6 [0, 5, 6]) c14_23
def c14_25 : SCode := .seq c14_5 c14_24
def c14_26 : SCode := .seq (.region c14_0 [0, 1]) c14_25
def c14 : SCode := c14_26
theorem w14 : type_of% (And.intro (uR Try.prog c14_0.eq_1) (And.intro (uR Try.prog c14_1.eq_1) (And.intro (uR Try.prog c14_2.eq_1) (And.intro (uC Try.prog c14_3.eq_1) (And.intro (uC Try.prog c14_4.eq_1) (And.intro (uC Try.prog c14_5.eq_1) (And.intro (uR Try.prog c14_6.eq_1) (And.intro (uR Try.prog c14_7.eq_1) (And.intro (uR Try.prog c14_8.eq_1) (And.intro (uC Try.prog c14_9.eq_1) (And.intro (uR Try.prog c14_10.eq_1) (And.intro (uR Try.prog c14_11.eq_1) (And.intro (uC Try.prog c14_12.eq_1) (And.intro (uC Try.prog c14_13.eq_1) (And.intro (uR Try.prog c14_14.eq_1) (And.intro (uC Try.prog c14_15.eq_1) (And.intro (uC Try.prog c14_16.eq_1) (And.intro (uC Try.prog c14_17.eq_1) (And.intro (uC Try.prog c14_18.eq_1) (And.intro (uC Try.prog c14_19.eq_1) (And.intro (uC Try.prog c14_20.eq_1) (And.intro (uR Try.prog c14_21.eq_1) (And.intro (uC Try.prog c14_22.eq_1) (And.intro (uC Try.prog c14_23.eq_1) (And.intro (uC Try.prog c14_24.eq_1) (And.intro (uC Try.prog c14_25.eq_1) (And.intro (uC Try.prog c14_26.eq_1) (uC Try.prog c14.eq_1)))))))))))))))))))))))))))) := (And.intro (uR Try.prog c14_0.eq_1) (And.intro (uR Try.prog c14_1.eq_1) (And.intro (uR Try.prog c14_2.eq_1) (And.intro (uC Try.prog c14_3.eq_1) (And.intro (uC Try.prog c14_4.eq_1) (And.intro (uC Try.prog c14_5.eq_1) (And.intro (uR Try.prog c14_6.eq_1) (And.intro (uR Try.prog c14_7.eq_1) (And.intro (uR Try.prog c14_8.eq_1) (And.intro (uC Try.prog c14_9.eq_1) (And.intro (uR Try.prog c14_10.eq_1) (And.intro (uR Try.prog c14_11.eq_1) (And.intro (uC Try.prog c14_12.eq_1) (And.intro (uC Try.prog c14_13.eq_1) (And.intro (uR Try.prog c14_14.eq_1) (And.intro (uC Try.prog c14_15.eq_1) (And.intro (uC Try.prog c14_16.eq_1) (And.intro (uC Try.prog c14_17.eq_1) (And.intro (uC Try.prog c14_18.eq_1) (And.intro (uC Try.prog c14_19.eq_1) (And.intro (uC Try.prog c14_20.eq_1) (And.intro (uR Try.prog c14_21.eq_1) (And.intro (uC Try.prog c14_22.eq_1) (And.intro (uC Try.prog c14_23.eq_1) (And.intro (uC Try.prog c14_24.eq_1) (And.intro (uC Try.prog c14_25.eq_1) (And.intro (uC Try.prog c14_26.eq_1) (uC Try.prog c14.eq_1))))))))))))))))))))))))))))
def v14 : List RV := [.t 4]
theorem s14 : slimF Try.prog Try.f14 = some (c14.bare, v14) := by kernel_rfl
/-! 13 loop.example/g00066/spec.Missing: parameters 2, live [0, 1], slots [0:needs, 1:have, 2:needs, 3:have, 5:out, 6:a, 7:b, 8:i, 9:from, 10:k] -/
def c13_0 : List SOper := [⟨some 4, .q (.mv (.c (.slice none 0 0))), none⟩]
def c13_1 : List SOper := [⟨some 11, .a (.bsl 0 3 [] []), none⟩, ⟨some 5, .q (.mv (.t 11)), none⟩]
def c13_2 : List SOper := [⟨some 12, .q (.mv (.t 0)), none⟩, ⟨some 13, .e (.call 27 [(.t 12)]), none⟩, ⟨some 14, .q (.not (.t 13)), none⟩, ⟨some 15, .q (.mv (.t 14)), none⟩, ⟨some 16, .q (.mv (.t 1)), some (15, false)⟩, ⟨some 17, .e (.call 27 [(.t 16)]), some (15, false)⟩, ⟨some 18, .q (.not (.t 17)), some (15, false)⟩, ⟨some 19, .q (.pick (.t 15) (.c (.bool true)) (.t 18)), none⟩]
def c13_3 : List SOper := [⟨some 20, .q (.mv (.t 5)), none⟩, ⟨some 4, .q (.mv (.t 20)), none⟩]
def c13_4 : SCode := .seq (.region c13_3 [4]) .ret
def c13_5 : SCode := .cond (.t 19) c13_4 .skip
def c13_6 : SCode := .seq (.region c13_2 [0, 1, 5, 19]) c13_5
def c13_7 : List SOper := [⟨some 21, .q (.mv (.t 0)), none⟩, ⟨some 22, .e (.call 31 [(.t 21)]), none⟩, ⟨some 6, .q (.mv (.t 22)), none⟩]
def c13_8 : List SOper := [⟨some 23, .q (.mv (.t 1)), none⟩, ⟨some 24, .e (.call 31 [(.t 23)]), none⟩, ⟨some 7, .q (.mv (.t 24)), none⟩]
def c13_9 : List SOper := [⟨some 8, .q (.mv (.c (.int .i64 0))), none⟩]
def c13_10 : List SOper := [⟨some 25, .q (.mv (.t 8)), none⟩, ⟨some 26, .q (.mv (.t 6)), none⟩, ⟨some 27, .q (.len (.t 26)), none⟩, ⟨some 28, .q (.bin .lss (.t 25) (.t 27)), none⟩]
def c13_11 : SCode := .cond (.t 28) .skip (.exit 0)
def c13_12 : SCode := .seq (.region c13_10 [5, 6, 7, 8, 28]) c13_11
def c13_13 : List SOper := [⟨some 31, .q (.mv (.t 6)), none⟩, ⟨some 32, .q (.mv (.t 8)), none⟩, ⟨some 33, .q (.ia 3 (.t 31) (.t 32)), none⟩, ⟨some 34, .q (.fa 1 (.t 33)), none⟩, ⟨some 35, .q (.ld (.t 34)), none⟩, ⟨some 9, .q (.mv (.t 35)), none⟩]
def c13_14 : List SOper := [⟨some 10, .q (.mv (.c (.int .i64 0))), none⟩]
def c13_15 : List SOper := [⟨some 36, .q (.mv (.t 10)), none⟩, ⟨some 37, .q (.mv (.t 7)), none⟩, ⟨some 38, .q (.len (.t 37)), none⟩, ⟨some 39, .q (.bin .lss (.t 36) (.t 38)), none⟩]
def c13_16 : SCode := .cond (.t 39) .skip (.exit 2)
def c13_17 : SCode := .seq (.region c13_15 [5, 6, 7, 8, 9, 10, 39]) c13_16
def c13_18 : List SOper := [⟨some 42, .q (.mv (.t 7)), none⟩, ⟨some 43, .q (.mv (.t 10)), none⟩, ⟨some 44, .q (.ia 3 (.t 42) (.t 43)), none⟩, ⟨some 45, .q (.fa 0 (.t 44)), none⟩, ⟨some 46, .q (.ld (.t 45)), none⟩, ⟨some 47, .q (.mv (.t 6)), none⟩, ⟨some 48, .q (.mv (.t 8)), none⟩, ⟨some 49, .q (.ia 3 (.t 47) (.t 48)), none⟩, ⟨some 50, .q (.fa 0 (.t 49)), none⟩, ⟨some 51, .q (.ld (.t 50)), none⟩, ⟨some 52, .q (.bin .neq (.t 46) (.t 51)), none⟩, ⟨some 53, .q (.mv (.t 52)), none⟩, ⟨some 54, .q (.mv (.t 7)), some (53, false)⟩, ⟨some 55, .q (.mv (.t 10)), some (53, false)⟩, ⟨some 56, .q (.ia 3 (.t 54) (.t 55)), some (53, false)⟩, ⟨some 57, .q (.fa 2 (.t 56)), some (53, false)⟩, ⟨some 58, .q (.ld (.t 57)), some (53, false)⟩, ⟨some 59, .q (.mv (.t 9)), some (53, false)⟩, ⟨some 60, .q (.bin .leq (.t 58) (.t 59)), some (53, false)⟩, ⟨some 61, .q (.pick (.t 53) (.c (.bool true)) (.t 60)), none⟩, ⟨some 62, .q (.mv (.t 61)), none⟩, ⟨some 63, .q (.mv (.t 7)), some (62, false)⟩, ⟨some 64, .q (.mv (.t 10)), some (62, false)⟩, ⟨some 65, .q (.ia 3 (.t 63) (.t 64)), some (62, false)⟩, ⟨some 66, .q (.fa 1 (.t 65)), some (62, false)⟩, ⟨some 67, .q (.ld (.t 66)), some (62, false)⟩, ⟨some 68, .q (.mv (.t 6)), some (62, false)⟩, ⟨some 69, .q (.mv (.t 8)), some (62, false)⟩, ⟨some 70, .q (.ia 3 (.t 68) (.t 69)), some (62, false)⟩, ⟨some 71, .q (.fa 2 (.t 70)), some (62, false)⟩, ⟨some 72, .q (.ld (.t 71)), some (62, false)⟩, ⟨some 73, .q (.bin .geq (.t 67) (.t 72)), some (62, false)⟩, ⟨some 74, .q (.pick (.t 62) (.c (.bool true)) (.t 73)), none⟩]
def c13_19 : SCode := .cond (.t 74) (.exit 3) .skip
def c13_20 : SCode := .seq (.region c13_18 [5, 6, 7, 8, 9, 10, 74]) c13_19
def c13_21 : List SOper := [⟨some 75, .q (.mv (.t 7)), none⟩, ⟨some 76, .q (.mv (.t 10)), none⟩, ⟨some 77, .q (.ia 3 (.t 75) (.t 76)), none⟩, ⟨some 78, .q (.fa 1 (.t 77)), none⟩, ⟨some 79, .q (.ld (.t 78)), none⟩, ⟨some 80, .q (.mv (.t 9)), none⟩, ⟨some 81, .q (.bin .gtr (.t 79) (.t 80)), none⟩]
def c13_22 : List SOper := [⟨some 82, .q (.mv (.t 5)), none⟩, ⟨some 83, .q (.mv (.t 6)), none⟩, ⟨some 84, .q (.mv (.t 8)), none⟩, ⟨some 85, .q (.ia 3 (.t 83) (.t 84)), none⟩, ⟨some 86, .q (.fa 0 (.t 85)), none⟩, ⟨some 87, .q (.ld (.t 86)), none⟩, ⟨some 88, .q (.mv (.t 9)), none⟩, ⟨some 89, .q (.mv (.t 7)), none⟩, ⟨some 90, .q (.mv (.t 10)), none⟩, ⟨some 91, .q (.ia 3 (.t 89) (.t 90)), none⟩, ⟨some 92, .q (.fa 1 (.t 91)), none⟩, ⟨some 93, .q (.ld (.t 92)), none⟩, ⟨some 94, .q (.build [(.int .i64 0), (.int .i64 0), (.int .i64 0)] [(0, 1, (.t 87)), (1, 1, (.t 88)), (2, 1, (.t 93))]), none⟩, ⟨some 95, .a (.bsl 1 3 [(.int .i64 0), (.int .i64 0), (.int .i64 0)] [(0, 3, (.t 94))]), none⟩, ⟨some 96, .e (.app 24 3 (.t 82) (.t 95)), none⟩, ⟨some 5, .q (.mv (.t 96)), none⟩]
def c13_23 : SCode := .cond (.t 81) (.region c13_22 [5, 6, 7, 8, 10]) .skip
def c13_24 : SCode := .seq (.region c13_21 [5, 6, 7, 8, 9, 10, 81]) c13_23
def c13_25 : List SOper := [⟨some 97, .q (.mv (.t 7)), none⟩, ⟨some 98, .q (.mv (.t 10)), none⟩, ⟨some 99, .q (.ia 3 (.t 97) (.t 98)), none⟩, ⟨some 100, .q (.fa 2 (.t 99)), none⟩, ⟨some 101, .q (.ld (.t 100)), none⟩, ⟨some 9, .q (.mv (.t 101)), none⟩]
def c13_26 : SCode := .seq c13_24 (.region c13_25 [5, 6, 7, 8, 9, 10])
def c13_27 : SCode := .seq c13_20 c13_26
def c13_28 : SCode := .block 3 c13_27
def c13_29 : List SOper := [⟨some 40, .q (.mv (.t 10)), none⟩, ⟨some 41, .q (.bin .add (.t 40) (.c (.int .i64 1))), none⟩, ⟨some 10, .q (.mv (.t 41)), none⟩]
def c13_30 : SCode := .seq c13_28 (.region c13_29 [5, 6, 7, 8, 9, 10])
def c13_31 : SCode := .seq c13_17 c13_30
def c13_32 : SCode := .loop c13_31
def c13_33 : SCode := .block 2 c13_32
def c13_34 : SCode := .seq (.region c13_14 [5, 6, 7, 8, 9, 10]) c13_33
def c13_35 : List SOper := [⟨some 102, .q (.mv (.t 9)), none⟩, ⟨some 103, .q (.mv (.t 6)), none⟩, ⟨some 104, .q (.mv (.t 8)), none⟩, ⟨some 105, .q (.ia 3 (.t 103) (.t 104)), none⟩, ⟨some 106, .q (.fa 2 (.t 105)), none⟩, ⟨some 107, .q (.ld (.t 106)), none⟩, ⟨some 108, .q (.bin .lss (.t 102) (.t 107)), none⟩]
def c13_36 : List SOper := [⟨some 109, .q (.mv (.t 5)), none⟩, ⟨some 110, .q (.mv (.t 6)), none⟩, ⟨some 111, .q (.mv (.t 8)), none⟩, ⟨some 112, .q (.ia 3 (.t 110) (.t 111)), none⟩, ⟨some 113, .q (.fa 0 (.t 112)), none⟩, ⟨some 114, .q (.ld (.t 113)), none⟩, ⟨some 115, .q (.mv (.t 9)), none⟩, ⟨some 116, .q (.mv (.t 6)), none⟩, ⟨some 117, .q (.mv (.t 8)), none⟩, ⟨some 118, .q (.ia 3 (.t 116) (.t 117)), none⟩, ⟨some 119, .q (.fa 2 (.t 118)), none⟩, ⟨some 120, .q (.ld (.t 119)), none⟩, ⟨some 121, .q (.build [(.int .i64 0), (.int .i64 0), (.int .i64 0)] [(0, 1, (.t 114)), (1, 1, (.t 115)), (2, 1, (.t 120))]), none⟩, ⟨some 122, .a (.bsl 1 3 [(.int .i64 0), (.int .i64 0), (.int .i64 0)] [(0, 3, (.t 121))]), none⟩, ⟨some 123, .e (.app 24 3 (.t 109) (.t 122)), none⟩, ⟨some 5, .q (.mv (.t 123)), none⟩]
def c13_37 : SCode := .cond (.t 108) (.region c13_36 [5, 6, 7, 8]) .skip
def c13_38 : SCode := .seq (.region c13_35 [5, 6, 7, 8, 9, 108]) c13_37
def c13_39 : SCode := .seq c13_34 c13_38
def c13_40 : SCode := .seq (.region c13_13 [5, 6, 7, 8, 9]) c13_39
def c13_41 : SCode := .block 1 c13_40
def c13_42 : List SOper := [⟨some 29, .q (.mv (.t 8)), none⟩, ⟨some 30, .q (.bin .add (.t 29) (.c (.int .i64 1))), none⟩, ⟨some 8, .q (.mv (.t 30)), none⟩]
def c13_43 : SCode := .seq c13_41 (.region c13_42 [5, 6, 7, 8])
def c13_44 : SCode := .seq c13_12 c13_43
def c13_45 : SCode := .loop c13_44
def c13_46 : SCode := .block 0 c13_45
def c13_47 : SCode := .seq (.region c13_9 [5, 6, 7, 8]) c13_46
def c13_48 : List SOper := [⟨some 124, .q (.mv (.t 5)), none⟩, ⟨some 4, .q (.mv (.t 124)), none⟩]
def c13_49 : SCode := .seq (.region c13_48 [4]) .ret
def c13_50 : SCode := .seq c13_47 c13_49
def c13_51 : SCode := .seq (.region c13_8 [5, 6, 7]) c13_50
def c13_52 : SCode := .seq (.region c13_7 [1, 5, 6]) c13_51
def c13_53 : SCode := .seq c13_6 c13_52
def c13_54 : SCode := .seq (.region c13_1 [0, 1, 5]) c13_53
def c13_55 : SCode := .seq (.region c13_0 [0, 1]) c13_54
def c13 : SCode := c13_55
theorem w13 : type_of% (And.intro (uR Try.prog c13_0.eq_1) (And.intro (uR Try.prog c13_1.eq_1) (And.intro (uR Try.prog c13_2.eq_1) (And.intro (uR Try.prog c13_3.eq_1) (And.intro (uC Try.prog c13_4.eq_1) (And.intro (uC Try.prog c13_5.eq_1) (And.intro (uC Try.prog c13_6.eq_1) (And.intro (uR Try.prog c13_7.eq_1) (And.intro (uR Try.prog c13_8.eq_1) (And.intro (uR Try.prog c13_9.eq_1) (And.intro (uR Try.prog c13_10.eq_1) (And.intro (uC Try.prog c13_11.eq_1) (And.intro (uC Try.prog c13_12.eq_1) (And.intro (uR Try.prog c13_13.eq_1) (And.intro (uR Try.prog c13_14.eq_1) (And.intro (uR Try.prog c13_15.eq_1) (And.intro (uC Try.prog c13_16.eq_1) (And.intro (uC Try.prog c13_17.eq_1) (And.intro (uR Try.prog c13_18.eq_1) (And.intro (uC Try.prog c13_19.eq_1) (And.intro (uC Try.prog c13_20.eq_1) (And.intro (uR Try.prog c13_21.eq_1) (And.intro (uR Try.prog c13_22.eq_1) (And.intro (uC Try.prog c13_23.eq_1) (And.intro (uC Try.prog c13_24.eq_1) (And.intro (uR Try.prog c13_25.eq_1) (And.intro (uC Try.prog c13_26.eq_1) (And.intro (uC Try.prog c13_27.eq_1) (And.intro (uC Try.prog c13_28.eq_1) (And.intro (uR Try.prog c13_29.eq_1) (And.intro (uC Try.prog c13_30.eq_1) (And.intro (uC Try.prog c13_31.eq_1) (And.intro (uC Try.prog c13_32.eq_1) (And.intro (uC Try.prog c13_33.eq_1) (And.intro (uC Try.prog c13_34.eq_1) (And.intro (uR Try.prog c13_35.eq_1) (And.intro (uR Try.prog c13_36.eq_1) (And.intro (uC Try.prog c13_37.eq_1) (And.intro (uC Try.prog c13_38.eq_1) (And.intro (uC Try.prog c13_39.eq_1) (And.intro (uC Try.prog c13_40.eq_1) (And.intro (uC Try.prog c13_41.eq_1) (And.intro (uR Try.prog c13_42.eq_1) (And.intro (uC Try.prog c13_43.eq_1) (And.intro (uC Try.prog c13_44.eq_1) (And.intro (uC Try.prog c13_45.eq_1) (And.intro (uC Try.prog c13_46.eq_1) (And.intro (uC Try.prog c13_47.eq_1) (And.intro (uR Try.prog c13_48.eq_1) (And.intro (uC Try.prog c13_49.eq_1) (And.intro (uC Try.prog c13_50.eq_1) (And.intro (uC Try.prog c13_51.eq_1) (And.intro (uC Try.prog c13_52.eq_1) (And.intro (uC Try.prog c13_53.eq_1) (And.intro (uC Try.prog c13_54.eq_1) (And.intro (uC Try.prog c13_55.eq_1) (uC Try.prog c13.eq_1))))))))))))))))))))))))))))))))))))))))))))))))))))))))) := (And.intro (uR Try.prog c13_0.eq_1) (And.intro (uR Try.prog c13_1.eq_1) (And.intro (uR Try.prog c13_2.eq_1) (And.intro (uR Try.prog c13_3.eq_1) (And.intro (uC Try.prog c13_4.eq_1) (And.intro (uC Try.prog c13_5.eq_1) (And.intro (uC Try.prog c13_6.eq_1) (And.intro (uR Try.prog c13_7.eq_1) (And.intro (uR Try.prog c13_8.eq_1) (And.intro (uR Try.prog c13_9.eq_1) (And.intro (uR Try.prog c13_10.eq_1) (And.intro (uC Try.prog c13_11.eq_1) (And.intro (uC Try.prog c13_12.eq_1) (And.intro (uR Try.prog c13_13.eq_1) (And.intro (uR Try.prog c13_14.eq_1) (And.intro (uR Try.prog c13_15.eq_1) (And.intro (uC Try.prog c13_16.eq_1) (And.intro (uC Try.prog c13_17.eq_1) (And.intro (uR Try.prog c13_18.eq_1) (And.intro (uC Try.prog c13_19.eq_1) (And.intro (uC Try.prog c13_20.eq_1) (And.intro (uR Try.prog c13_21.eq_1) (And.intro (uR Try.prog c13_22.eq_1) (And.intro (uC Try.prog c13_23.eq_1) (And.intro (uC Try.prog c13_24.eq_1) (And.intro (uR Try.prog c13_25.eq_1) (And.intro (uC Try.prog c13_26.eq_1) (And.intro (uC Try.prog c13_27.eq_1) (And.intro (uC Try.prog c13_28.eq_1) (And.intro (uR Try.prog c13_29.eq_1) (And.intro (uC Try.prog c13_30.eq_1) (And.intro (uC Try.prog c13_31.eq_1) (And.intro (uC Try.prog c13_32.eq_1) (And.intro (uC Try.prog c13_33.eq_1) (And.intro (uC Try.prog c13_34.eq_1) (And.intro (uR Try.prog c13_35.eq_1) (And.intro (uR Try.prog c13_36.eq_1) (And.intro (uC Try.prog c13_37.eq_1) (And.intro (uC Try.prog c13_38.eq_1) (And.intro (uC Try.prog c13_39.eq_1) (And.intro (uC Try.prog c13_40.eq_1) (And.intro (uC Try.prog c13_41.eq_1) (And.intro (uR Try.prog c13_42.eq_1) (And.intro (uC Try.prog c13_43.eq_1) (And.intro (uC Try.prog c13_44.eq_1) (And.intro (uC Try.prog c13_45.eq_1) (And.intro (uC Try.prog c13_46.eq_1) (And.intro (uC Try.prog c13_47.eq_1) (And.intro (uR Try.prog c13_48.eq_1) (And.intro (uC Try.prog c13_49.eq_1) (And.intro (uC Try.prog c13_50.eq_1) (And.intro (uC Try.prog c13_51.eq_1) (And.intro (uC Try.prog c13_52.eq_1) (And.intro (uC Try.prog c13_53.eq_1) (And.intro (uC Try.prog c13_54.eq_1) (And.intro (uC Try.prog c13_55.eq_1) (uC Try.prog c13.eq_1)))))))))))))))))))))))))))))))))))))))))))))))))))))))))
def v13 : List RV := [.t 4]
theorem s13 : slimF Try.prog Try.f13 = some (c13.bare, v13) := by kernel_rfl
/-! 11 loop.example/g00066/impl.Covered: parameters 2, live [0, 1], slots [0:needs, 1:have, 2:needs, 3:have] -/
def c11_0 : List SOper := [⟨some 4, .q (.mv (.c (.bool false))), none⟩]
def c11_1 : List SOper := [⟨some 5, .q (.mv (.t 0)), none⟩, ⟨some 6, .e (.call 29 [(.t 5)]), none⟩, ⟨some 7, .q (.mv (.t 6)), none⟩, ⟨some 8, .q (.mv (.t 1)), some (7, true)⟩, ⟨some 9, .e (.call 29 [(.t 8)]), some (7, true)⟩, ⟨some 10, .q (.pick (.t 7) (.t 9) (.c (.bool false))), none⟩, ⟨some 11, .q (.mv (.t 10)), none⟩, ⟨some 12, .q (.mv (.t 0)), some (11, true)⟩, ⟨some 13, .q (.mv (.t 1)), some (11, true)⟩, ⟨some 14, .e (.call 14 [(.t 12), (.t 13)]), some (11, true)⟩, ⟨some 15, .q (.len (.t 14)), some (11, true)⟩, ⟨some 16, .q (.bin .eql (.t 15) (.c (.int .i64 0))), some (11, true)⟩, ⟨some 17, .q (.pick (.t 11) (.t 16) (.c (.bool false))), none⟩, ⟨some 4, .q (.mv (.t 17)), none⟩]
def c11_2 : SCode := .seq (.region c11_1 [4]) .ret
def c11_3 : SCode := .seq (.region c11_0 [0, 1]) c11_2
def c11 : SCode := c11_3
theorem w11 : type_of% (And.intro (uR Try.prog c11_0.eq_1) (And.intro (uR Try.prog c11_1.eq_1) (And.intro (uC Try.prog c11_2.eq_1) (And.intro (uC Try.prog c11_3.eq_1) (uC Try.prog c11.eq_1))))) := (And.intro (uR Try.prog c11_0.eq_1) (And.intro (uR Try.prog c11_1.eq_1) (And.intro (uC Try.prog c11_2.eq_1) (And.intro (uC Try.prog c11_3.eq_1) (uC Try.prog c11.eq_1)))))
def v11 : List RV := [.t 4]
theorem s11 : slimF Try.prog Try.f11 = some (c11.bare, v11) := by kernel_rfl
/-! 9 loop.example/g00066/spec.Covered: parameters 2, live [0, 1], slots [0:needs, 1:have, 2:needs, 3:have] -/
def c9_0 : List SOper := [⟨some 4, .q (.mv (.c (.bool false))), none⟩]
def c9_1 : List SOper := [⟨some 5, .q (.mv (.t 0)), none⟩, ⟨some 6, .e (.call 27 [(.t 5)]), none⟩, ⟨some 7, .q (.mv (.t 6)), none⟩, ⟨some 8, .q (.mv (.t 1)), some (7, true)⟩, ⟨some 9, .e (.call 27 [(.t 8)]), some (7, true)⟩, ⟨some 10, .q (.pick (.t 7) (.t 9) (.c (.bool false))), none⟩, ⟨some 11, .q (.mv (.t 10)), none⟩, ⟨some 12, .q (.mv (.t 0)), some (11, true)⟩, ⟨some 13, .q (.mv (.t 1)), some (11, true)⟩, ⟨some 14, .e (.call 13 [(.t 12), (.t 13)]), some (11, true)⟩, ⟨some 15, .q (.len (.t 14)), some (11, true)⟩, ⟨some 16, .q (.bin .eql (.t 15) (.c (.int .i64 0))), some (11, true)⟩, ⟨some 17, .q (.pick (.t 11) (.t 16) (.c (.bool false))), none⟩, ⟨some 4, .q (.mv (.t 17)), none⟩]
def c9_2 : SCode := .seq (.region c9_1 [4]) .ret
def c9_3 : SCode := .seq (.region c9_0 [0, 1]) c9_2
def c9 : SCode := c9_3
theorem w9 : type_of% (And.intro (uR Try.prog c9_0.eq_1) (And.intro (uR Try.prog c9_1.eq_1) (And.intro (uC Try.prog c9_2.eq_1) (And.intro (uC Try.prog c9_3.eq_1) (uC Try.prog c9.eq_1))))) := (And.intro (uR Try.prog c9_0.eq_1) (And.intro (uR Try.prog c9_1.eq_1) (And.intro (uC Try.prog c9_2.eq_1) (And.intro (uC Try.prog c9_3.eq_1) (uC Try.prog c9.eq_1)))))
def v9 : List RV := [.t 4]
theorem s9 : slimF Try.prog Try.f9 = some (c9.bare, v9) := by kernel_rfl

def reelOk (k : Reel) : Prop := (1 ≤ k.src ∧ k.src ≤ 500) ∧ 0 ≤ k.fr ∧ k.fr < k.to ∧ k.to ≤ 10000000
instance (k : Reel) : Decidable (reelOk k) := by unfold reelOk; infer_instance
def reelsF (l : List Reel) : Prop := l.length ≤ 300 ∧ ∀ x ∈ l, reelOk x
instance (l : List Reel) : Decidable (reelsF l) := by unfold reelsF; infer_instance
theorem in_ok (h : Heap) (x lo hi : Int) : ACall Try.prog 39 [.int .i64 x, .int .i64 lo, .int .i64 hi] h fun r h' => h' = h ∧ r = .bool (decide (lo ≤ x ∧ x ≤ hi)) := by
  refine ACall.of Try.func39 s39 (of_decide_eq_true rfl) ?_
  by_cases q : lo ≤ x
  · simp (maxSteps := 4000000) (disch := omega) only [ah, am, Nat.reduceEqDiff, reduceCtorEq, Nat.reduceAdd, Nat.reduceLeDiff, Nat.reduceMul, Nat.reduceLT, if_true, if_false, true_and, and_true, and_self, Nat.reduceBEq, QOp.loads, boxO, bslO, buildO, cutL, fillV, putL, w39, v39, decide_eq_true q]
    rw [show decide (lo ≤ x ∧ x ≤ hi) = decide (x ≤ hi) from decide_eq_decide.mpr ⟨fun h => h.2, fun h => ⟨q, h⟩⟩]
  · simp (maxSteps := 4000000) (disch := omega) only [ah, am, Nat.reduceEqDiff, reduceCtorEq, Nat.reduceAdd, Nat.reduceLeDiff, Nat.reduceMul, Nat.reduceLT, if_true, if_false, true_and, and_true, and_self, Nat.reduceBEq, QOp.loads, boxO, bslO, buildO, cutL, fillV, putL, w39, v39, decide_eq_false q]
    rw [decide_eq_false fun h => q h.1]
theorem l1In_ok (h : Heap) (x lo hi : Int) : ACall Try.prog 42 [.int .i64 x, .int .i64 lo, .int .i64 hi] h fun r h' => h' = h ∧ r = .bool (decide (lo ≤ x ∧ x ≤ hi)) := by
  refine ACall.of Try.func42 s42 (of_decide_eq_true rfl) ?_
  by_cases q : lo ≤ x
  · simp (maxSteps := 4000000) (disch := omega) only [ah, am, Nat.reduceEqDiff, reduceCtorEq, Nat.reduceAdd, Nat.reduceLeDiff, Nat.reduceMul, Nat.reduceLT, if_true, if_false, true_and, and_true, and_self, Nat.reduceBEq, QOp.loads, boxO, bslO, buildO, cutL, fillV, putL, w42, v42, decide_eq_true q]
    rw [show decide (lo ≤ x ∧ x ≤ hi) = decide (x ≤ hi) from decide_eq_decide.mpr ⟨fun h => h.2, fun h => ⟨q, h⟩⟩]
  · simp (maxSteps := 4000000) (disch := omega) only [ah, am, Nat.reduceEqDiff, reduceCtorEq, Nat.reduceAdd, Nat.reduceLeDiff, Nat.reduceMul, Nat.reduceLT, if_true, if_false, true_and, and_true, and_self, Nat.reduceBEq, QOp.loads, boxO, bslO, buildO, cutL, fillV, putL, w42, v42, decide_eq_false q]
    rw [decide_eq_false fun h => q h.1]
theorem l4Src_ok (h : Heap) (x : Int) : ACall Try.prog 68 [.int .i64 x] h fun r h' => h' = h ∧ r = .bool (decide (1 ≤ x ∧ x ≤ 500)) := by
  refine ACall.of Try.func68 s68 (of_decide_eq_true rfl) ?_
  simp (maxSteps := 4000000) (disch := omega) only [ah, am, Nat.reduceEqDiff, reduceCtorEq, Nat.reduceAdd, Nat.reduceLeDiff, Nat.reduceMul, Nat.reduceLT, if_true, if_false, true_and, and_true, and_self, Nat.reduceBEq, QOp.loads, boxO, bslO, buildO, cutL, fillV, putL, w68, v68]
  refine stepC.of (l1In_ok _ _ _ _) ?_
  rintro _ Hx ⟨hx, rfl⟩; rw [hx]; clear hx Hx
  simp (maxSteps := 4000000) (disch := omega) only [ah, am, Nat.reduceEqDiff, reduceCtorEq, Nat.reduceAdd, Nat.reduceLeDiff, Nat.reduceMul, Nat.reduceLT, if_true, if_false, true_and, and_true, and_self, Nat.reduceBEq, QOp.loads, boxO, bslO, buildO, cutL, fillV, putL, w68, v68]
theorem Reelok_ok (h : Heap) (k : Reel) : ACall Try.prog 53 [.agg (encReel k).toArray] h fun r h' => Ext h h' ∧ r = .bool (decide (reelOk k)) := by
  refine ACall.of Try.func53 s53 (of_decide_eq_true rfl) ?_
  simp (maxSteps := 4000000) (disch := omega) only [ah, am, Nat.reduceEqDiff, reduceCtorEq, Nat.reduceAdd, Nat.reduceLeDiff, Nat.reduceMul, Nat.reduceLT, if_true, if_false, true_and, and_true, and_self, Nat.reduceBEq, QOp.loads, boxO, bslO, buildO, cutL, fillV, putL, w53, v53, encReel]
  have e := Ext.more h [[.int .i64 k.src, .int .i64 k.fr, .int .i64 k.to]]
  have X := (Bx.new h [.int .i64 k.src, .int .i64 k.fr, .int .i64 k.to] []).ld
  refine stepC.of (in_ok _ _ _ _) ?_
  rintro _ Hx ⟨hx, rfl⟩; rw [hx]; clear hx Hx
  by_cases q1 : 1 ≤ k.src ∧ k.src ≤ 500
  · by_cases q2 : 0 ≤ k.fr
    · by_cases q3 : k.fr < k.to
      · simp (maxSteps := 4000000) (disch := omega) only [ah, am, Nat.reduceEqDiff, reduceCtorEq, Nat.reduceAdd, Nat.reduceLeDiff, Nat.reduceMul, Nat.reduceLT, if_true, if_false, true_and, and_true, and_self, Nat.reduceBEq, QOp.loads, boxO, bslO, buildO, cutL, fillV, putL, w53, v53, X, decide_eq_true q1, decide_eq_true q2, decide_eq_true q3]
        refine ⟨e, ?_⟩
        rw [show decide (reelOk k) = decide (k.to ≤ 10000000) from decide_eq_decide.mpr ⟨fun h => h.2.2.2, fun h => ⟨q1, q2, q3, h⟩⟩]
      · simp (maxSteps := 4000000) (disch := omega) only [ah, am, Nat.reduceEqDiff, reduceCtorEq, Nat.reduceAdd, Nat.reduceLeDiff, Nat.reduceMul, Nat.reduceLT, if_true, if_false, true_and, and_true, and_self, Nat.reduceBEq, QOp.loads, boxO, bslO, buildO, cutL, fillV, putL, w53, v53, X, decide_eq_true q1, decide_eq_true q2, decide_eq_false q3]
        exact ⟨e, by rw [decide_eq_false fun h => q3 h.2.2.1]⟩
    · simp (maxSteps := 4000000) (disch := omega) only [ah, am, Nat.reduceEqDiff, reduceCtorEq, Nat.reduceAdd, Nat.reduceLeDiff, Nat.reduceMul, Nat.reduceLT, if_true, if_false, true_and, and_true, and_self, Nat.reduceBEq, QOp.loads, boxO, bslO, buildO, cutL, fillV, putL, w53, v53, X, decide_eq_true q1, decide_eq_false q2]
      exact ⟨e, by rw [decide_eq_false fun h => q2 h.2.1]⟩
  · simp (maxSteps := 4000000) (disch := omega) only [ah, am, Nat.reduceEqDiff, reduceCtorEq, Nat.reduceAdd, Nat.reduceLeDiff, Nat.reduceMul, Nat.reduceLT, if_true, if_false, true_and, and_true, and_self, Nat.reduceBEq, QOp.loads, boxO, bslO, buildO, cutL, fillV, putL, w53, v53, X, decide_eq_false q1]
    exact ⟨e, by rw [decide_eq_false fun h => q1 h.1]⟩
theorem l7Reel_ok (h : Heap) (k : Reel) : ACall Try.prog 50 [.agg (encReel k).toArray] h fun r h' => Ext h h' ∧ r = .bool (decide (reelOk k)) := by
  refine ACall.of Try.func50 s50 (of_decide_eq_true rfl) ?_
  simp (maxSteps := 4000000) (disch := omega) only [ah, am, Nat.reduceEqDiff, reduceCtorEq, Nat.reduceAdd, Nat.reduceLeDiff, Nat.reduceMul, Nat.reduceLT, if_true, if_false, true_and, and_true, and_self, Nat.reduceBEq, QOp.loads, boxO, bslO, buildO, cutL, fillV, putL, w50, v50, encReel]
  have e := Ext.more h [[.int .i64 k.src, .int .i64 k.fr, .int .i64 k.to]]
  have X := (Bx.new h [.int .i64 k.src, .int .i64 k.fr, .int .i64 k.to] []).ld
  refine stepC.of (l4Src_ok _ _) ?_
  rintro _ Hx ⟨hx, rfl⟩; rw [hx]; clear hx Hx
  by_cases q1 : 1 ≤ k.src ∧ k.src ≤ 500
  · by_cases q2 : 0 ≤ k.fr
    · by_cases q3 : k.fr < k.to
      · simp (maxSteps := 4000000) (disch := omega) only [ah, am, Nat.reduceEqDiff, reduceCtorEq, Nat.reduceAdd, Nat.reduceLeDiff, Nat.reduceMul, Nat.reduceLT, if_true, if_false, true_and, and_true, and_self, Nat.reduceBEq, QOp.loads, boxO, bslO, buildO, cutL, fillV, putL, w50, v50, X, decide_eq_true q1, decide_eq_true q2, decide_eq_true q3]
        refine ⟨e, ?_⟩
        rw [show decide (reelOk k) = decide (k.to ≤ 10000000) from decide_eq_decide.mpr ⟨fun h => h.2.2.2, fun h => ⟨q1, q2, q3, h⟩⟩]
      · simp (maxSteps := 4000000) (disch := omega) only [ah, am, Nat.reduceEqDiff, reduceCtorEq, Nat.reduceAdd, Nat.reduceLeDiff, Nat.reduceMul, Nat.reduceLT, if_true, if_false, true_and, and_true, and_self, Nat.reduceBEq, QOp.loads, boxO, bslO, buildO, cutL, fillV, putL, w50, v50, X, decide_eq_true q1, decide_eq_true q2, decide_eq_false q3]
        exact ⟨e, by rw [decide_eq_false fun h => q3 h.2.2.1]⟩
    · simp (maxSteps := 4000000) (disch := omega) only [ah, am, Nat.reduceEqDiff, reduceCtorEq, Nat.reduceAdd, Nat.reduceLeDiff, Nat.reduceMul, Nat.reduceLT, if_true, if_false, true_and, and_true, and_self, Nat.reduceBEq, QOp.loads, boxO, bslO, buildO, cutL, fillV, putL, w50, v50, X, decide_eq_true q1, decide_eq_false q2]
      exact ⟨e, by rw [decide_eq_false fun h => q2 h.2.1]⟩
  · simp (maxSteps := 4000000) (disch := omega) only [ah, am, Nat.reduceEqDiff, reduceCtorEq, Nat.reduceAdd, Nat.reduceLeDiff, Nat.reduceMul, Nat.reduceLT, if_true, if_false, true_and, and_true, and_self, Nat.reduceBEq, QOp.loads, boxO, bslO, buildO, cutL, fillV, putL, w50, v50, X, decide_eq_false q1]
    exact ⟨e, by rw [decide_eq_false fun h => q1 h.1]⟩
theorem IndexFuncR_ok (h : Heap) (v : Value) (l : List Reel) (n : Nat) (cap : Array Value) (p : Reel → Bool) (s : SlT h encReel 3 v l) (hl : l.length ≤ 1100000)
    (hf : ∃ fn, Try.prog.funcs[n]? = some fn ∧ fn.body.isSome = true ∧ fn.name ≠ "runtime.NumGoroutine")
    (H : ∀ h' k, Ext h h' → k ∈ l → ACall Try.prog n ([.agg (encReel k).toArray] ++ cap.toList) h' fun r h2 => Ext h' h2 ∧ r = .bool (p k)) :
    ACall Try.prog 69 [v, .func (.func n) #[] cap] h fun r h' => Ext h h' ∧ r = .int .i64 (match l.findIdx? p with | some j => (j : Int) | none => -1) := by
  obtain ⟨fn, hf1, hf2, hf3⟩ := hf
  refine ACall.of Try.func69 s69 (of_decide_eq_true rfl) ?_
  have R := s.rulesN
  simp (maxSteps := 4000000) (disch := omega) only [ah, am, Nat.reduceEqDiff, reduceCtorEq, Nat.reduceAdd, Nat.reduceLeDiff, Nat.reduceMul, Nat.reduceLT, if_true, if_false, true_and, and_true, and_self, Nat.reduceBEq, QOp.loads, boxO, bslO, buildO, cutL, fillV, putL, w69, v69, R]
  refine SW_loop_up (fun i E H => E = [(0, v), (1, .func (.func n) #[] cap), (7, .int .i64 l.length), (8, .int .i64 i)] ∧ Ext h H ∧ ∀ j (hj : j < l.length), j < i → p l[j] = false) l.length 0 (by omega)
    ⟨rfl, Ext.refl h, fun j _ hj => absurd hj (by omega)⟩ ?_
  rintro i E H1 hi ⟨rfl, e, F⟩
  have R := (s.ext e).rulesN
  have W : IntKind.i64.wrap ((i : Int) + 1) = ((i + 1 : Nat) : Int) := i64e (by omega) (by omega)
  simp (maxSteps := 4000000) (disch := omega) only [ah, am, Nat.reduceEqDiff, reduceCtorEq, Nat.reduceAdd, Nat.reduceLeDiff, Nat.reduceMul, Nat.reduceLT, if_true, if_false, true_and, and_true, and_self, Nat.reduceBEq, QOp.loads, boxO, bslO, buildO, cutL, fillV, putL, w69, v69, R]
  refine stepI.split (fun hp => ?_) (fun hp => ?_)
  · have hi' : i < l.length := by omega
    simp (maxSteps := 4000000) (disch := omega) only [ah, am, Nat.reduceEqDiff, reduceCtorEq, Nat.reduceAdd, Nat.reduceLeDiff, Nat.reduceMul, Nat.reduceLT, if_true, if_false, true_and, and_true, and_self, Nat.reduceBEq, QOp.loads, boxO, bslO, buildO, cutL, fillV, putL, w69, v69, R, nilV_func]
    refine stepV.of hf1 hf2 hf3 (H H1 _ e (List.getElem_mem hi')) ?_
    rintro _ H2 ⟨e2, rfl⟩
    simp (maxSteps := 4000000) (disch := omega) only [ah, am, Nat.reduceEqDiff, reduceCtorEq, Nat.reduceAdd, Nat.reduceLeDiff, Nat.reduceMul, Nat.reduceLT, if_true, if_false, true_and, and_true, and_self, Nat.reduceBEq, QOp.loads, boxO, bslO, buildO, cutL, fillV, putL, w69, v69, W]
    refine stepI.splitB (fun hk => ?_) (fun hk => ?_)
    · simp (maxSteps := 4000000) (disch := omega) only [ah, am, Nat.reduceEqDiff, reduceCtorEq, Nat.reduceAdd, Nat.reduceLeDiff, Nat.reduceMul, Nat.reduceLT, if_true, if_false, true_and, and_true, and_self, Nat.reduceBEq, QOp.loads, boxO, bslO, buildO, cutL, fillV, putL, w69, v69, W]
      refine ⟨e.trans e2, ?_⟩
      have : l.findIdx? p = some i := by
        rw [List.findIdx?_eq_some_iff_getElem]
        exact ⟨hi', hk, fun j hj => by rw [F j (by omega) hj]; decide⟩
      rw [this]
    · simp (maxSteps := 4000000) (disch := omega) only [ah, am, Nat.reduceEqDiff, reduceCtorEq, Nat.reduceAdd, Nat.reduceLeDiff, Nat.reduceMul, Nat.reduceLT, if_true, if_false, true_and, and_true, and_self, Nat.reduceBEq, QOp.loads, boxO, bslO, buildO, cutL, fillV, putL, w69, v69, W]
      refine ⟨hi', e.trans e2, fun j hj hj2 => ?_⟩
      by_cases hji : j = i
      · subst hji; exact hk
      · exact F j hj (by omega)
  · simp (maxSteps := 4000000) (disch := omega) only [ah, am, Nat.reduceEqDiff, reduceCtorEq, Nat.reduceAdd, Nat.reduceLeDiff, Nat.reduceMul, Nat.reduceLT, if_true, if_false, true_and, and_true, and_self, Nat.reduceBEq, QOp.loads, boxO, bslO, buildO, cutL, fillV, putL, w69, v69, R, W]
    obtain rfl : i = l.length := by omega
    refine ⟨e, ?_⟩
    have : l.findIdx? p = none := by
      rw [List.findIdx?_eq_none_iff]
      intro x hx
      obtain ⟨j, hj, rfl⟩ := List.getElem_of_mem hx
      exact F j hj hj
    rw [this]
theorem ContainsFuncR_ok (h : Heap) (v : Value) (l : List Reel) (n : Nat) (cap : Array Value) (p : Reel → Bool) (s : SlT h encReel 3 v l) (hl : l.length ≤ 1100000)
    (hf : ∃ fn, Try.prog.funcs[n]? = some fn ∧ fn.body.isSome = true ∧ fn.name ≠ "runtime.NumGoroutine")
    (H : ∀ h' k, Ext h h' → k ∈ l → ACall Try.prog n ([.agg (encReel k).toArray] ++ cap.toList) h' fun r h2 => Ext h' h2 ∧ r = .bool (p k)) :
    ACall Try.prog 51 [v, .func (.func n) #[] cap] h fun r h' => Ext h h' ∧ r = .bool (l.any p) := by
  refine ACall.of Try.func51 s51 (of_decide_eq_true rfl) ?_
  simp (maxSteps := 4000000) (disch := omega) only [ah, am, Nat.reduceEqDiff, reduceCtorEq, Nat.reduceAdd, Nat.reduceLeDiff, Nat.reduceMul, Nat.reduceLT, if_true, if_false, true_and, and_true, and_self, Nat.reduceBEq, QOp.loads, boxO, bslO, buildO, cutL, fillV, putL, w51, v51]
  refine stepC.of (IndexFuncR_ok h v l n cap p s hl hf H) ?_
  rintro _ H1 ⟨e, rfl⟩
  simp (maxSteps := 4000000) (disch := omega) only [ah, am, Nat.reduceEqDiff, reduceCtorEq, Nat.reduceAdd, Nat.reduceLeDiff, Nat.reduceMul, Nat.reduceLT, if_true, if_false, true_and, and_true, and_self, Nat.reduceBEq, QOp.loads, boxO, bslO, buildO, cutL, fillV, putL, w51, v51]
  refine ⟨e, ?_⟩
  cases hq : l.findIdx? p with
  | none =>
    rw [List.findIdx?_eq_none_iff] at hq
    have : l.any p = false := by rw [List.any_eq_false]; intro x hx; rw [hq x hx]; decide
    rw [this]; rfl
  | some j =>
    rw [List.findIdx?_eq_some_iff_getElem] at hq
    obtain ⟨hj, hp, _⟩ := hq
    have : l.any p = true := List.any_eq_true.mpr ⟨_, List.getElem_mem hj, hp⟩
    rw [this]
    congr 1
theorem reelsOk1_ok (h : Heap) (k : Reel) : ACall Try.prog 52 [.agg (encReel k).toArray] h fun r h' => Ext h h' ∧ r = .bool (!decide (reelOk k)) := by
  refine ACall.of Try.func52 s52 (of_decide_eq_true rfl) ?_
  simp (maxSteps := 4000000) (disch := omega) only [ah, am, Nat.reduceEqDiff, reduceCtorEq, Nat.reduceAdd, Nat.reduceLeDiff, Nat.reduceMul, Nat.reduceLT, if_true, if_false, true_and, and_true, and_self, Nat.reduceBEq, QOp.loads, boxO, bslO, buildO, cutL, fillV, putL, w52, v52, encReel]
  refine stepC.of (Reelok_ok _ k) ?_
  rintro _ H1 ⟨e, rfl⟩
  simp (maxSteps := 4000000) (disch := omega) only [ah, am, Nat.reduceEqDiff, reduceCtorEq, Nat.reduceAdd, Nat.reduceLeDiff, Nat.reduceMul, Nat.reduceLT, if_true, if_false, true_and, and_true, and_self, Nat.reduceBEq, QOp.loads, boxO, bslO, buildO, cutL, fillV, putL, w52, v52]
  exact (Ext.more h _).trans e
theorem reelsOk_ok (h : Heap) (v : Value) (l : List Reel) (s : SlT h encReel 3 v l) : ACall Try.prog 29 [v] h fun r h' => Ext h h' ∧ r = .bool (decide (reelsF l)) := by
  refine ACall.of Try.func29 s29 (of_decide_eq_true rfl) ?_
  have R := s.rulesN
  by_cases h1 : (l.length : Int) ≤ 300
  · simp (maxSteps := 4000000) (disch := omega) only [ah, am, Nat.reduceEqDiff, reduceCtorEq, Nat.reduceAdd, Nat.reduceLeDiff, Nat.reduceMul, Nat.reduceLT, if_true, if_false, true_and, and_true, and_self, Nat.reduceBEq, QOp.loads, boxO, bslO, buildO, cutL, fillV, putL, w29, v29, R.1, decide_eq_true h1]
    refine stepC.of (ContainsFuncR_ok _ v l 52 #[] (fun k => !decide (reelOk k)) s (by omega) ⟨_, Try.func52, rfl, by decide⟩ (fun h' k _ _ => reelsOk1_ok h' k)) ?_
    rintro _ H1 ⟨e, rfl⟩
    simp (maxSteps := 4000000) (disch := omega) only [ah, am, Nat.reduceEqDiff, reduceCtorEq, Nat.reduceAdd, Nat.reduceLeDiff, Nat.reduceMul, Nat.reduceLT, if_true, if_false, true_and, and_true, and_self, Nat.reduceBEq, QOp.loads, boxO, bslO, buildO, cutL, fillV, putL, w29, v29]
    refine ⟨e, ?_⟩
    have : (!l.any fun k => !decide (reelOk k)) = decide (reelsF l) := by
      rw [Bool.eq_iff_iff, decide_eq_true_iff]
      simp only [Bool.not_eq_true', List.any_eq_false, Bool.not_eq_true, Bool.not_eq_false', decide_eq_true_eq]
      exact ⟨fun q => ⟨by omega, fun x hx => by have := q x hx; simpa using this⟩, fun q x hx => by have := q.2 x hx; simpa using this⟩
    rw [this]
  · simp (maxSteps := 4000000) (disch := omega) only [ah, am, Nat.reduceEqDiff, reduceCtorEq, Nat.reduceAdd, Nat.reduceLeDiff, Nat.reduceMul, Nat.reduceLT, if_true, if_false, true_and, and_true, and_self, Nat.reduceBEq, QOp.loads, boxO, bslO, buildO, cutL, fillV, putL, w29, v29, R.1, decide_eq_false h1]
    exact ⟨Ext.refl _, by rw [decide_eq_false]; rintro ⟨q, _⟩; omega⟩
theorem l7Reels_ok (h : Heap) (v : Value) (l : List Reel) (s : SlT h encReel 3 v l) : ACall Try.prog 27 [v] h fun r h' => Ext h h' ∧ r = .bool (decide (reelsF l)) := by
  refine ACall.of Try.func27 s27 (of_decide_eq_true rfl) ?_
  have R := s.rulesN
  by_cases h1 : (300 : Int) < l.length
  · simp (maxSteps := 4000000) (disch := omega) only [ah, am, Nat.reduceEqDiff, reduceCtorEq, Nat.reduceAdd, Nat.reduceLeDiff, Nat.reduceMul, Nat.reduceLT, if_true, if_false, true_and, and_true, and_self, Nat.reduceBEq, QOp.loads, boxO, bslO, buildO, cutL, fillV, putL, w27, v27, R.1, decide_eq_true h1]
    exact ⟨Ext.refl _, by rw [decide_eq_false]; rintro ⟨q, _⟩; omega⟩
  simp (maxSteps := 4000000) (disch := omega) only [ah, am, Nat.reduceEqDiff, reduceCtorEq, Nat.reduceAdd, Nat.reduceLeDiff, Nat.reduceMul, Nat.reduceLT, if_true, if_false, true_and, and_true, and_self, Nat.reduceBEq, QOp.loads, boxO, bslO, buildO, cutL, fillV, putL, w27, v27, R.1, decide_eq_false h1]
  refine SW_loop_up (fun i E K => Ext h K ∧ (∀ j (hj : j < l.length), j < i → reelOk l[j]) ∧ E = [(0, v), (3, .int .i64 (i : Int))]) l.length 0 (by omega) ⟨Ext.refl _, fun j _ hj => by omega, rfl⟩ ?_
  rintro i E K hi ⟨e, F, rfl⟩
  have R := (s.ext e).rulesN
  simp (maxSteps := 4000000) (disch := omega) only [ah, am, Nat.reduceEqDiff, reduceCtorEq, Nat.reduceAdd, Nat.reduceLeDiff, Nat.reduceMul, Nat.reduceLT, if_true, if_false, true_and, and_true, and_self, Nat.reduceBEq, QOp.loads, boxO, bslO, buildO, cutL, fillV, putL, w27, v27, R.1]
  refine stepI.split (fun hp => ?_) (fun hp => ?_)
  · have hi2 : i < l.length := by omega
    have LN := R.2.2.2.2.2 i hi2
    have W : IntKind.i64.wrap ((i : Int) + 1) = ((i + 1 : Nat) : Int) := i64e (by omega) (by omega)
    simp (maxSteps := 4000000) (disch := omega) only [ah, am, Nat.reduceEqDiff, reduceCtorEq, Nat.reduceAdd, Nat.reduceLeDiff, Nat.reduceMul, Nat.reduceLT, if_true, if_false, true_and, and_true, and_self, Nat.reduceBEq, QOp.loads, boxO, bslO, buildO, cutL, fillV, putL, w27, v27, R.2.1, LN]
    refine stepC.of (l7Reel_ok _ _) ?_
    rintro _ H1 ⟨e1, rfl⟩
    by_cases c : reelOk (l[i]'hi2)
    · simp (maxSteps := 4000000) (disch := omega) only [ah, am, Nat.reduceEqDiff, reduceCtorEq, Nat.reduceAdd, Nat.reduceLeDiff, Nat.reduceMul, Nat.reduceLT, if_true, if_false, true_and, and_true, and_self, Nat.reduceBEq, QOp.loads, boxO, bslO, buildO, cutL, fillV, putL, w27, v27, decide_eq_true c, Bool.not_true, W]
      refine ⟨hi2, e.trans e1, fun j hj h2 => ?_⟩
      by_cases hji : j = i
      · subst hji; exact c
      · exact F j hj (by omega)
    · simp (maxSteps := 4000000) (disch := omega) only [ah, am, Nat.reduceEqDiff, reduceCtorEq, Nat.reduceAdd, Nat.reduceLeDiff, Nat.reduceMul, Nat.reduceLT, if_true, if_false, true_and, and_true, and_self, Nat.reduceBEq, QOp.loads, boxO, bslO, buildO, cutL, fillV, putL, w27, v27, decide_eq_false c, Bool.not_false]
      exact ⟨e.trans e1, by rw [decide_eq_false]; rintro ⟨_, q⟩; exact c (q _ (List.getElem_mem _))⟩
  · simp (maxSteps := 4000000) (disch := omega) only [ah, am, Nat.reduceEqDiff, reduceCtorEq, Nat.reduceAdd, Nat.reduceLeDiff, Nat.reduceMul, Nat.reduceLT, if_true, if_false, true_and, and_true, and_self, Nat.reduceBEq, QOp.loads, boxO, bslO, buildO, cutL, fillV, putL, w27, v27]
    refine ⟨e, ?_⟩
    rw [decide_eq_true]
    exact ⟨by omega, fun x hx => by obtain ⟨j, hj, rfl⟩ := List.getElem_of_mem hx; exact F j hj (by omega)⟩
/-! ### What is missing -/
def skips (src fr to : Int) (q : Reel) : Prop := q.src ≠ src ∨ q.to ≤ fr ∨ to ≤ q.fr
instance (src fr to : Int) (q : Reel) : Decidable (skips src fr to q) := by unfold skips; infer_instance
/-- What of a reel is in none: the list so far, and from where. -/
def outStep (src to : Int) (st : List Reel × Int) (q : Reel) : List Reel × Int :=
  if skips src st.2 to q then st else ((if st.2 < q.fr then st.1 ++ [⟨src, st.2, q.fr⟩] else st.1), q.to)
def withoutS (r : Reel) (b : List Reel) (s0 : List Reel) : List Reel × Int := b.foldl (outStep r.src r.to) (s0, r.fr)
def withoutF (r : Reel) (b : List Reel) (s0 : List Reel) : List Reel := if (withoutS r b s0).2 < r.to then (withoutS r b s0).1 ++ [⟨r.src, (withoutS r b s0).2, r.to⟩] else (withoutS r b s0).1
def missL (a b : List Reel) : List Reel := a.foldl (fun s r => withoutF r b s) []
def missF (needs have_ : List Reel) : List Reel := if reelsF needs ∧ reelsF have_ then missL (toldF needs) (toldF have_) else []
theorem outStep_app (src to : Int) (s0 s1 : List Reel) (f : Int) (q : Reel) : outStep src to (s0 ++ s1, f) q = (s0 ++ (outStep src to (s1, f) q).1, (outStep src to (s1, f) q).2) := by
  unfold outStep; split
  · rfl
  · simp only; split <;> simp
theorem outFold_app (src to : Int) : ∀ (b : List Reel) (s0 s1 : List Reel) (f : Int), b.foldl (outStep src to) (s0 ++ s1, f) = (s0 ++ (b.foldl (outStep src to) (s1, f)).1, (b.foldl (outStep src to) (s1, f)).2) := by
  intro b
  induction b with
  | nil => intro s0 s1 f; rfl
  | cons q b ih =>
    intro s0 s1 f
    rw [List.foldl_cons, List.foldl_cons, outStep_app]
    obtain ⟨x, y⟩ := outStep src to (s1, f) q
    exact ih s0 x y
theorem without_app (r : Reel) (b s0 : List Reel) : withoutF r b s0 = s0 ++ withoutF r b [] := by
  have e := outFold_app r.src r.to b s0 [] r.fr
  rw [List.append_nil] at e
  unfold withoutF withoutS
  rw [e]
  simp only
  split <;> simp
end Go.Proofs.Ytmippcfdakjhfaa
