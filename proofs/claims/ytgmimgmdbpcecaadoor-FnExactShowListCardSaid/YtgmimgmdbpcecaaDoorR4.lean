import Derived.Test.YtgmimgmdbpcecaaDoorR3
namespace Go.Proofs.YtgmimgmdbpcecaaDoor
open Go Go.Ah
set_option linter.unusedSimpArgs false
set_option linter.unusedVariables false
set_option maxRecDepth 10000
set_option maxHeartbeats 4000000
/-! 25 loop.example/g00066/spec.Base: parameters 1, live [0], slots [0:r, 1:r] -/
def c25_0 : List SOper := [⟨some 1, .a (.box (.t 0)), none⟩, ⟨some 2, .q (.mv (.c (.int .i64 0))), none⟩]
def c25_1 : List SOper := [⟨some 3, .q (.ldn 3 (.t 1)), none⟩, ⟨some 4, .e (.call 10 [(.t 3)]), none⟩, ⟨some 5, .q (.not (.t 4)), none⟩]
def c25_2 : List SOper := [⟨some 2, .q (.mv (.c (.int .i64 0))), none⟩]
def c25_3 : SCode := .seq (.region c25_2 [2]) .ret
def c25_4 : SCode := .cond (.t 5) c25_3 .skip
def c25_5 : SCode := .seq (.region c25_1 [1, 5]) c25_4
def c25_6 : List SOper := [⟨some 6, .q (.fa 0 (.t 1)), none⟩, ⟨some 7, .q (.ld (.t 6)), none⟩, ⟨some 8, .q (.fa 1 (.t 1)), none⟩, ⟨some 9, .q (.ld (.t 8)), none⟩, ⟨some 10, .q (.bin .add (.t 7) (.t 9)), none⟩, ⟨some 11, .q (.bin .sub (.t 10) (.c (.int .i64 1))), none⟩, ⟨some 12, .q (.fa 1 (.t 1)), none⟩, ⟨some 13, .q (.ld (.t 12)), none⟩, ⟨some 14, .q (.bin .quo (.t 11) (.t 13)), none⟩, ⟨some 2, .q (.mv (.t 14)), none⟩]
def c25_7 : SCode := .seq (.region c25_6 [2]) .ret
def c25_8 : SCode := .seq c25_5 c25_7
def c25_9 : SCode := .seq (.region c25_0 [1]) c25_8
def c25 : SCode := c25_9
theorem w25 : type_of% (And.intro (uR Tryd.prog c25_0.eq_1) (And.intro (uR Tryd.prog c25_1.eq_1) (And.intro (uR Tryd.prog c25_2.eq_1) (And.intro (uC Tryd.prog c25_3.eq_1) (And.intro (uC Tryd.prog c25_4.eq_1) (And.intro (uC Tryd.prog c25_5.eq_1) (And.intro (uR Tryd.prog c25_6.eq_1) (And.intro (uC Tryd.prog c25_7.eq_1) (And.intro (uC Tryd.prog c25_8.eq_1) (And.intro (uC Tryd.prog c25_9.eq_1) (uC Tryd.prog c25.eq_1))))))))))) := (And.intro (uR Tryd.prog c25_0.eq_1) (And.intro (uR Tryd.prog c25_1.eq_1) (And.intro (uR Tryd.prog c25_2.eq_1) (And.intro (uC Tryd.prog c25_3.eq_1) (And.intro (uC Tryd.prog c25_4.eq_1) (And.intro (uC Tryd.prog c25_5.eq_1) (And.intro (uR Tryd.prog c25_6.eq_1) (And.intro (uC Tryd.prog c25_7.eq_1) (And.intro (uC Tryd.prog c25_8.eq_1) (And.intro (uC Tryd.prog c25_9.eq_1) (uC Tryd.prog c25.eq_1)))))))))))
def v25 : List RV := [.t 2]
theorem s25 : slimF Tryd.prog Tryd.f25 = some (c25.bare, v25) := by kernel_rfl
/-! 46 (loop.example/g00066/impl.Rate).base: parameters 1, live [0], slots [0:r, 1:r] -/
def c46_0 : List SOper := [⟨some 1, .a (.box (.t 0)), none⟩, ⟨some 2, .q (.mv (.c (.int .i64 0))), none⟩]
def c46_1 : List SOper := [⟨some 3, .q (.fa 0 (.t 1)), none⟩, ⟨some 4, .q (.ld (.t 3)), none⟩, ⟨some 5, .q (.fa 1 (.t 1)), none⟩, ⟨some 6, .q (.ld (.t 5)), none⟩, ⟨some 7, .q (.bin .add (.t 4) (.t 6)), none⟩, ⟨some 8, .q (.bin .sub (.t 7) (.c (.int .i64 1))), none⟩, ⟨some 9, .q (.fa 1 (.t 1)), none⟩, ⟨some 10, .q (.ld (.t 9)), none⟩, ⟨some 11, .q (.bin .quo (.t 8) (.t 10)), none⟩, ⟨some 2, .q (.mv (.t 11)), none⟩]
def c46_2 : SCode := .seq (.region c46_1 [2]) .ret
def c46_3 : SCode := .seq (.region c46_0 [1]) c46_2
def c46 : SCode := c46_3
theorem w46 : type_of% (And.intro (uR Tryd.prog c46_0.eq_1) (And.intro (uR Tryd.prog c46_1.eq_1) (And.intro (uC Tryd.prog c46_2.eq_1) (And.intro (uC Tryd.prog c46_3.eq_1) (uC Tryd.prog c46.eq_1))))) := (And.intro (uR Tryd.prog c46_0.eq_1) (And.intro (uR Tryd.prog c46_1.eq_1) (And.intro (uC Tryd.prog c46_2.eq_1) (And.intro (uC Tryd.prog c46_3.eq_1) (uC Tryd.prog c46.eq_1)))))
def v46 : List RV := [.t 2]
theorem s46 : slimF Tryd.prog Tryd.f46 = some (c46.bare, v46) := by kernel_rfl
/-! 55 (loop.example/g00066/impl.Rate).left: parameters 1, live [0], slots [0:r, 1:r] -/
def c55_0 : List SOper := [⟨some 1, .a (.box (.t 0)), none⟩, ⟨some 2, .q (.mv (.c (.int .i64 0))), none⟩]
def c55_1 : List SOper := [⟨some 4, .q (.fa 2 (.t 1)), none⟩, ⟨some 5, .q (.ld (.t 4)), none⟩, ⟨some 6, .q (.not (.t 5)), none⟩, ⟨some 3, .q (.mv (.t 6)), none⟩]
def c55_2 : List SOper := [⟨some 2, .q (.mv (.c (.int .i64 0))), none⟩]
def c55_3 : SCode := .seq (.region c55_2 [2]) .ret
def c55_4 : List SOper := [⟨some 8, .q (.fa 0 (.t 1)), none⟩, ⟨some 9, .q (.ld (.t 8)), none⟩, ⟨some 10, .q (.bin .eql (.t 9) (.c (.int .i64 60000))), none⟩, ⟨some 7, .q (.mv (.t 10)), none⟩]
def c55_5 : List SOper := [⟨some 2, .q (.mv (.c (.int .i64 4))), none⟩]
def c55_6 : SCode := .seq (.region c55_5 [2]) .ret
def c55_7 : SCode := .cond (.t 7) c55_6 .skip
def c55_8 : SCode := .seq (.region c55_4 [7]) c55_7
def c55_9 : SCode := .cond (.t 3) c55_3 c55_8
def c55_10 : SCode := .seq (.region c55_1 [1, 3]) c55_9
def c55_11 : SCode := .block 0 c55_10
def c55_12 : List SOper := [⟨some 2, .q (.mv (.c (.int .i64 2))), none⟩]
def c55_13 : SCode := .seq (.region c55_12 [2]) .ret
def c55_14 : SCode := .seq c55_11 c55_13
def c55_15 : SCode := .seq (.region c55_0 [1]) c55_14
def c55 : SCode := c55_15
theorem w55 : type_of% (And.intro (uR Tryd.prog c55_0.eq_1) (And.intro (uR Tryd.prog c55_1.eq_1) (And.intro (uR Tryd.prog c55_2.eq_1) (And.intro (uC Tryd.prog c55_3.eq_1) (And.intro (uR Tryd.prog c55_4.eq_1) (And.intro (uR Tryd.prog c55_5.eq_1) (And.intro (uC Tryd.prog c55_6.eq_1) (And.intro (uC Tryd.prog c55_7.eq_1) (And.intro (uC Tryd.prog c55_8.eq_1) (And.intro (uC Tryd.prog c55_9.eq_1) (And.intro (uC Tryd.prog c55_10.eq_1) (And.intro (uC Tryd.prog c55_11.eq_1) (And.intro (uR Tryd.prog c55_12.eq_1) (And.intro (uC Tryd.prog c55_13.eq_1) (And.intro (uC Tryd.prog c55_14.eq_1) (And.intro (uC Tryd.prog c55_15.eq_1) (uC Tryd.prog c55.eq_1))))))))))))))))) := (And.intro (uR Tryd.prog c55_0.eq_1) (And.intro (uR Tryd.prog c55_1.eq_1) (And.intro (uR Tryd.prog c55_2.eq_1) (And.intro (uC Tryd.prog c55_3.eq_1) (And.intro (uR Tryd.prog c55_4.eq_1) (And.intro (uR Tryd.prog c55_5.eq_1) (And.intro (uC Tryd.prog c55_6.eq_1) (And.intro (uC Tryd.prog c55_7.eq_1) (And.intro (uC Tryd.prog c55_8.eq_1) (And.intro (uC Tryd.prog c55_9.eq_1) (And.intro (uC Tryd.prog c55_10.eq_1) (And.intro (uC Tryd.prog c55_11.eq_1) (And.intro (uR Tryd.prog c55_12.eq_1) (And.intro (uC Tryd.prog c55_13.eq_1) (And.intro (uC Tryd.prog c55_14.eq_1) (And.intro (uC Tryd.prog c55_15.eq_1) (uC Tryd.prog c55.eq_1)))))))))))))))))
def v55 : List RV := [.t 2]
theorem s55 : slimF Tryd.prog Tryd.f55 = some (c55.bare, v55) := by kernel_rfl
/-! 47 (loop.example/g00066/impl.Rate).told: parameters 2, live [0, 1], slots [0:r, 1:frame, 2:r, 3:frame, 5:minute, 6:ten, 7:out, 8:rest] -/
def c47_0 : List SOper := [⟨some 2, .a (.box (.t 0)), none⟩, ⟨some 4, .q (.mv (.c (.int .i64 0))), none⟩]
def c47_1 : List SOper := [⟨some 9, .q (.ldn 3 (.t 2)), none⟩, ⟨some 10, .e (.call 46 [(.t 9)]), none⟩, ⟨some 11, .q (.bin .mul (.c (.int .i64 60)) (.t 10)), none⟩, ⟨some 5, .q (.mv (.t 11)), none⟩]
def c47_2 : List SOper := [⟨some 12, .q (.mv (.t 5)), none⟩, ⟨some 13, .q (.bin .mul (.c (.int .i64 10)) (.t 12)), none⟩, ⟨some 14, .q (.ldn 3 (.t 2)), none⟩, ⟨some 15, .e (.call 55 [(.t 14)]), none⟩, ⟨some 16, .q (.bin .mul (.c (.int .i64 9)) (.t 15)), none⟩, ⟨some 17, .q (.bin .sub (.t 13) (.t 16)), none⟩, ⟨some 6, .q (.mv (.t 17)), none⟩]
def c47_3 : List SOper := [⟨some 18, .q (.mv (.t 1)), none⟩, ⟨some 19, .q (.ldn 3 (.t 2)), none⟩, ⟨some 22, .q (.mv (.t 1)), none⟩, ⟨some 23, .q (.mv (.t 6)), none⟩, ⟨some 24, .q (.bin .quo (.t 22) (.t 23)), none⟩, ⟨some 27, .q (.mv (.t 1)), none⟩, ⟨some 28, .q (.mv (.t 6)), none⟩, ⟨some 29, .q (.bin .rem (.t 27) (.t 28)), none⟩, ⟨some 20, .e (.call 55 [(.t 19)]), none⟩, ⟨some 21, .q (.bin .mul (.c (.int .i64 9)) (.t 20)), none⟩, ⟨some 25, .q (.bin .mul (.t 21) (.t 24)), none⟩, ⟨some 26, .q (.bin .add (.t 18) (.t 25)), none⟩, ⟨some 7, .q (.mv (.t 26)), none⟩, ⟨some 8, .q (.mv (.t 29)), none⟩]
def c47_4 : List SOper := [⟨some 30, .q (.fa 2 (.t 2)), none⟩, ⟨some 31, .q (.ld (.t 30)), none⟩, ⟨some 32, .q (.mv (.t 31)), none⟩, ⟨some 33, .q (.mv (.t 8)), some (32, true)⟩, ⟨some 34, .q (.mv (.t 5)), some (32, true)⟩, ⟨some 35, .q (.bin .geq (.t 33) (.t 34)), some (32, true)⟩, ⟨some 36, .q (.pick (.t 32) (.t 35) (.c (.bool false))), none⟩]
def c47_5 : List DOper := [⟨0, ⟨some 37, .q (.mv (.t 7)), none⟩, [], []⟩, ⟨1, ⟨some 38, .q (.ldn 3 (.t 2)), none⟩, [], []⟩, ⟨3, ⟨some 40, .q (.mv (.t 8)), none⟩, [], []⟩, ⟨4, ⟨some 41, .q (.mv (.t 5)), none⟩, [], []⟩, ⟨5, ⟨some 42, .q (.bin .sub (.t 40) (.t 41)), none⟩, [], []⟩, ⟨6, ⟨some 43, .q (.mv (.t 5)), none⟩, [], []⟩, ⟨7, ⟨some 44, .q (.ldn 3 (.t 2)), none⟩, [], []⟩, ⟨2, ⟨some 39, .e (.call 55 [(.t 38)]), none⟩, [], [7]⟩, ⟨8, ⟨some 45, .e (.call 55 [(.t 44)]), none⟩, [], []⟩, ⟨9, ⟨some 46, .q (.bin .sub (.t 43) (.t 45)), none⟩, [], []⟩, ⟨10, ⟨some 47, .q (.bin .quo (.t 42) (.t 46)), none⟩, [], []⟩, ⟨11, ⟨some 48, .q (.bin .add (.c (.int .i64 1)) (.t 47)), none⟩, [], []⟩, ⟨12, ⟨some 49, .q (.bin .mul (.t 39) (.t 48)), none⟩, [], []⟩, ⟨13, ⟨some 50, .q (.bin .add (.t 37) (.t 49)), none⟩, [], []⟩, ⟨14, ⟨some 7, .q (.mv (.t 50)), none⟩, [], []⟩]
def c47_6 : SCode := .cond (.t 36) (.dregion c47_5 [7]) .skip
def c47_7 : SCode := .seq (.region c47_4 [2, 5, 7, 8, 36]) c47_6
def c47_8 : List SOper := [⟨some 51, .q (.mv (.t 7)), none⟩, ⟨some 4, .q (.mv (.t 51)), none⟩]
def c47_9 : SCode := .seq (.region c47_8 [4]) .ret
def c47_10 : SCode := .seq c47_7 c47_9
def c47_11 : SCode := .seq (.region c47_3 [2, 5, 7, 8]) c47_10
def c47_12 : SCode := .seq (.region c47_2 [1, 2, 5, 6]) c47_11
def c47_13 : SCode := .seq (.region c47_1 [1, 2, 5]) c47_12
def c47_14 : SCode := .seq (.region c47_0 [1, 2]) c47_13
def c47 : SCode := c47_14
theorem w47 : type_of% (And.intro (uR Tryd.prog c47_0.eq_1) (And.intro (uR Tryd.prog c47_1.eq_1) (And.intro (uR Tryd.prog c47_2.eq_1) (And.intro (uR Tryd.prog c47_3.eq_1) (And.intro (uR Tryd.prog c47_4.eq_1) (And.intro (uD Tryd.prog c47_5.eq_1) (And.intro (uC Tryd.prog c47_6.eq_1) (And.intro (uC Tryd.prog c47_7.eq_1) (And.intro (uR Tryd.prog c47_8.eq_1) (And.intro (uC Tryd.prog c47_9.eq_1) (And.intro (uC Tryd.prog c47_10.eq_1) (And.intro (uC Tryd.prog c47_11.eq_1) (And.intro (uC Tryd.prog c47_12.eq_1) (And.intro (uC Tryd.prog c47_13.eq_1) (And.intro (uC Tryd.prog c47_14.eq_1) (uC Tryd.prog c47.eq_1)))))))))))))))) := (And.intro (uR Tryd.prog c47_0.eq_1) (And.intro (uR Tryd.prog c47_1.eq_1) (And.intro (uR Tryd.prog c47_2.eq_1) (And.intro (uR Tryd.prog c47_3.eq_1) (And.intro (uR Tryd.prog c47_4.eq_1) (And.intro (uD Tryd.prog c47_5.eq_1) (And.intro (uC Tryd.prog c47_6.eq_1) (And.intro (uC Tryd.prog c47_7.eq_1) (And.intro (uR Tryd.prog c47_8.eq_1) (And.intro (uC Tryd.prog c47_9.eq_1) (And.intro (uC Tryd.prog c47_10.eq_1) (And.intro (uC Tryd.prog c47_11.eq_1) (And.intro (uC Tryd.prog c47_12.eq_1) (And.intro (uC Tryd.prog c47_13.eq_1) (And.intro (uC Tryd.prog c47_14.eq_1) (uC Tryd.prog c47.eq_1))))))))))))))))
def v47 : List RV := [.t 4]
theorem s47 : slimF Tryd.prog Tryd.f47 = some (c47.bare, v47) := by kernel_rfl
/-! 45 loop.example/g00066/impl.isFrame: parameters 1, live [0], slots [0:n, 1:n] -/
def c45_0 : List SOper := [⟨some 2, .q (.mv (.c (.bool false))), none⟩]
def c45_1 : List SOper := [⟨some 3, .q (.mv (.t 0)), none⟩, ⟨some 4, .e (.call 28 [(.t 3), (.c (.int .i64 0)), (.c (.int .i64 10000000))]), none⟩, ⟨some 2, .q (.mv (.t 4)), none⟩]
def c45_2 : SCode := .seq (.region c45_1 [2]) .ret
def c45_3 : SCode := .seq (.region c45_0 [0]) c45_2
def c45 : SCode := c45_3
theorem w45 : type_of% (And.intro (uR Tryd.prog c45_0.eq_1) (And.intro (uR Tryd.prog c45_1.eq_1) (And.intro (uC Tryd.prog c45_2.eq_1) (And.intro (uC Tryd.prog c45_3.eq_1) (uC Tryd.prog c45.eq_1))))) := (And.intro (uR Tryd.prog c45_0.eq_1) (And.intro (uR Tryd.prog c45_1.eq_1) (And.intro (uC Tryd.prog c45_2.eq_1) (And.intro (uC Tryd.prog c45_3.eq_1) (uC Tryd.prog c45.eq_1)))))
def v45 : List RV := [.t 2]
theorem s45 : slimF Tryd.prog Tryd.f45 = some (c45.bare, v45) := by kernel_rfl
/-! 26 loop.example/g00066/spec.l1Frame: parameters 1, live [0], slots [0:f, 1:f] -/
def c26_0 : List SOper := [⟨some 2, .q (.mv (.c (.bool false))), none⟩]
def c26_1 : List SOper := [⟨some 3, .q (.mv (.t 0)), none⟩, ⟨some 4, .e (.call 22 [(.t 3), (.c (.int .i64 0)), (.c (.int .i64 10000000))]), none⟩, ⟨some 2, .q (.mv (.t 4)), none⟩]
def c26_2 : SCode := .seq (.region c26_1 [2]) .ret
def c26_3 : SCode := .seq (.region c26_0 [0]) c26_2
def c26 : SCode := c26_3
theorem w26 : type_of% (And.intro (uR Tryd.prog c26_0.eq_1) (And.intro (uR Tryd.prog c26_1.eq_1) (And.intro (uC Tryd.prog c26_2.eq_1) (And.intro (uC Tryd.prog c26_3.eq_1) (uC Tryd.prog c26.eq_1))))) := (And.intro (uR Tryd.prog c26_0.eq_1) (And.intro (uR Tryd.prog c26_1.eq_1) (And.intro (uC Tryd.prog c26_2.eq_1) (And.intro (uC Tryd.prog c26_3.eq_1) (uC Tryd.prog c26.eq_1)))))
def v26 : List RV := [.t 2]
theorem s26 : slimF Tryd.prog Tryd.f26 = some (c26.bare, v26) := by kernel_rfl
/-! 6 loop.example/g00066/laws.toRate: parameters 1, live [0], slots [0:a, 1:a, 3:out] -/
def c6_0 : List SOper := [⟨some 1, .a (.box (.t 0)), none⟩, ⟨some 2, .a (.new [(.int .i64 0), (.int .i64 0), (.bool false)]), none⟩]
def c6_1 : List SOper := [⟨some 3, .a (.new [(.int .i64 0), (.int .i64 0), (.bool false)]), none⟩]
def c6_2 : List SOper := [⟨some 4, .q (.fa 0 (.t 1)), none⟩, ⟨some 5, .q (.ld (.t 4)), none⟩, ⟨some 6, .q (.fa 0 (.t 3)), none⟩, ⟨none, .e (.st 1 (.t 6) (.t 5)), none⟩]
def c6_3 : List SOper := [⟨some 7, .q (.fa 1 (.t 1)), none⟩, ⟨some 8, .q (.ld (.t 7)), none⟩, ⟨some 9, .q (.fa 1 (.t 3)), none⟩, ⟨none, .e (.st 1 (.t 9) (.t 8)), none⟩]
def c6_4 : List SOper := [⟨some 10, .q (.fa 2 (.t 1)), none⟩, ⟨some 11, .q (.ld (.t 10)), none⟩, ⟨some 12, .q (.fa 2 (.t 3)), none⟩, ⟨none, .e (.st 1 (.t 12) (.t 11)), none⟩]
def c6_5 : List SOper := [⟨some 13, .q (.ldn 3 (.t 3)), none⟩, ⟨none, .e (.st 3 (.t 2) (.t 13)), none⟩]
def c6_6 : SCode := .seq (.region c6_5 [2]) .ret
def c6_7 : SCode := .seq (.region c6_4 [2, 3]) c6_6
def c6_8 : SCode := .seq (.region c6_3 [1, 2, 3]) c6_7
def c6_9 : SCode := .seq (.region c6_2 [1, 2, 3]) c6_8
def c6_10 : SCode := .seq (.region c6_1 [1, 2, 3]) c6_9
def c6_11 : SCode := .seq (.region c6_0 [1, 2]) c6_10
def c6 : SCode := c6_11
theorem w6 : type_of% (And.intro (uR Tryd.prog c6_0.eq_1) (And.intro (uR Tryd.prog c6_1.eq_1) (And.intro (uR Tryd.prog c6_2.eq_1) (And.intro (uR Tryd.prog c6_3.eq_1) (And.intro (uR Tryd.prog c6_4.eq_1) (And.intro (uR Tryd.prog c6_5.eq_1) (And.intro (uC Tryd.prog c6_6.eq_1) (And.intro (uC Tryd.prog c6_7.eq_1) (And.intro (uC Tryd.prog c6_8.eq_1) (And.intro (uC Tryd.prog c6_9.eq_1) (And.intro (uC Tryd.prog c6_10.eq_1) (And.intro (uC Tryd.prog c6_11.eq_1) (uC Tryd.prog c6.eq_1))))))))))))) := (And.intro (uR Tryd.prog c6_0.eq_1) (And.intro (uR Tryd.prog c6_1.eq_1) (And.intro (uR Tryd.prog c6_2.eq_1) (And.intro (uR Tryd.prog c6_3.eq_1) (And.intro (uR Tryd.prog c6_4.eq_1) (And.intro (uR Tryd.prog c6_5.eq_1) (And.intro (uC Tryd.prog c6_6.eq_1) (And.intro (uC Tryd.prog c6_7.eq_1) (And.intro (uC Tryd.prog c6_8.eq_1) (And.intro (uC Tryd.prog c6_9.eq_1) (And.intro (uC Tryd.prog c6_10.eq_1) (And.intro (uC Tryd.prog c6_11.eq_1) (uC Tryd.prog c6.eq_1)))))))))))))
def v6 : List RV := [.c 2 (some 3)]
theorem s6 : slimF Tryd.prog Tryd.f6 = some (c6.bare, v6) := by kernel_rfl

def baseN (r : Rate) : Nat := ((r.num + r.den - 1) / r.den).toNat
def leftN (r : Rate) : Nat := if r.drop = true then (if r.num = 60000 then 4 else 2) else 0
def toldN (r : Rate) (f : Nat) : Nat :=
  f + 9 * leftN r * (f / (10 * (60 * baseN r) - 9 * leftN r)) + (if r.drop = true ∧ 60 * baseN r ≤ f % (10 * (60 * baseN r) - 9 * leftN r) then
    leftN r * (1 + (f % (10 * (60 * baseN r) - 9 * leftN r) - 60 * baseN r) / (60 * baseN r - leftN r)) else 0)
theorem base_bd {r : Rate} (h : rateOk r) : ((baseN r : Nat) : Int) = (r.num + r.den - 1) / r.den ∧ 1 ≤ baseN r ∧ baseN r ≤ 120 := by
  obtain ⟨h1, h2, _, h4, _⟩ := h
  have e1 : 1 ≤ (r.num + r.den - 1) / r.den := by
    rw [Int.le_ediv_iff_mul_le (by omega)]; omega
  have e2 : (r.num + r.den - 1) / r.den < 121 := by
    rw [Int.ediv_lt_iff_lt_mul (by omega)]; omega
  unfold baseN
  omega
theorem drop_two {r : Rate} (h : rateOk r) (hd : r.drop = true) : (baseN r = 30 ∧ leftN r = 2) ∨ (baseN r = 60 ∧ leftN r = 4) := by
  obtain ⟨_, _, _, _, h5⟩ := h
  obtain ⟨h6, h7⟩ := h5 hd
  rcases h7 with h7 | h7
  · left; unfold baseN leftN; rw [h6, h7, hd]; decide
  · right; unfold baseN leftN; rw [h6, h7, hd]; decide
theorem left_le (r : Rate) : leftN r ≤ 4 := by
  unfold leftN
  split
  · split <;> omega
  · omega
theorem base_ok (h : Heap) (r : Rate) (hr : rateOk r) : ACall Tryd.prog 46 [.agg (encRate r).toArray] h fun x h' => Ext h h' ∧ x = .int .i64 (baseN r : Int) := by
  have D := (Bx.new h (encRate r) []).ld
  obtain ⟨b1, b2, b3⟩ := base_bd hr
  obtain ⟨h1, h2, _⟩ := hr
  simp only [encRate] at D
  have w1 : IntKind.i64.wrap (r.num + r.den) = r.num + r.den := i64e rfl (by omega)
  have w2 : IntKind.i64.wrap (r.num + r.den - 1) = r.num + r.den - 1 := i64e rfl (by omega)
  have d1 : IntKind.i64.wrap ((r.num + r.den - 1).tdiv r.den) = (baseN r : Int) := i64e (by rw [Int.tdiv_eq_ediv_of_nonneg (by omega), b1]) (by omega)
  have n0 : r.den ≠ 0 := by omega
  refine ACall.of Tryd.func46 s46 (of_decide_eq_true rfl) ?_
  simp (maxSteps := 4000000) (disch := omega) only [ah, am, Nat.reduceEqDiff, reduceCtorEq, Nat.reduceAdd, Nat.reduceLeDiff, Nat.reduceMul, Nat.reduceLT, if_true, if_false, true_and, and_true, and_self, Nat.reduceBEq, QOp.loads, boxO, bslO, buildO, cutL, fillV, putL, w46, v46, encRate, D, w1, w2, d1, n0, ne_eq, not_false_eq_true]
  exact Ext.more _ _
theorem specBase_ok (h : Heap) (r : Rate) : ACall Tryd.prog 25 [.agg (encRate r).toArray] h fun x h' => Ext h h' ∧ x = .int .i64 (if rateOk r then (baseN r : Int) else 0) := by
  have B := Bx.new h (encRate r) []
  have eM := Ext.more h [encRate r]
  have rk := specRateOk_ok (h.more [encRate r]) r
  simp only [encRate] at B eM rk
  refine ACall.of Tryd.func25 s25 (of_decide_eq_true rfl) ?_
  simp (maxSteps := 4000000) (disch := omega) only [ah, am, Nat.reduceEqDiff, reduceCtorEq, Nat.reduceAdd, Nat.reduceLeDiff, Nat.reduceMul, Nat.reduceLT, if_true, if_false, true_and, and_true, and_self, Nat.reduceBEq, QOp.loads, boxO, bslO, buildO, cutL, fillV, putL, w25, v25, encRate, B.ld]
  refine stepC.of rk ?_
  rintro _ H1 ⟨e1, rfl⟩
  by_cases hr : rateOk r
  · rw [if_pos hr]
    obtain ⟨b1, b2, b3⟩ := base_bd hr
    have hr0 := hr
    obtain ⟨h1, h2, _⟩ := hr
    have w1 : IntKind.i64.wrap (r.num + r.den) = r.num + r.den := i64e rfl (by omega)
    have w2 : IntKind.i64.wrap (r.num + r.den - 1) = r.num + r.den - 1 := i64e rfl (by omega)
    have d1 : IntKind.i64.wrap ((r.num + r.den - 1).tdiv r.den) = (baseN r : Int) := i64e (by rw [Int.tdiv_eq_ediv_of_nonneg (by omega), b1]) (by omega)
    have n0 : r.den ≠ 0 := by omega
    simp (maxSteps := 4000000) (disch := omega) only [ah, am, Nat.reduceEqDiff, reduceCtorEq, Nat.reduceAdd, Nat.reduceLeDiff, Nat.reduceMul, Nat.reduceLT, if_true, if_false, true_and, and_true, and_self, Nat.reduceBEq, QOp.loads, boxO, bslO, buildO, cutL, fillV, putL, w25, v25, decide_eq_true hr0, (B.ext e1).ld, w1, w2, d1, n0, ne_eq, not_false_eq_true]
    exact eM.trans e1
  · rw [if_neg hr]
    simp (maxSteps := 4000000) (disch := omega) only [ah, am, Nat.reduceEqDiff, reduceCtorEq, Nat.reduceAdd, Nat.reduceLeDiff, Nat.reduceMul, Nat.reduceLT, if_true, if_false, true_and, and_true, and_self, Nat.reduceBEq, QOp.loads, boxO, bslO, buildO, cutL, fillV, putL, w25, v25, decide_eq_false hr]
    exact eM.trans e1
theorem left_ok (h : Heap) (r : Rate) : ACall Tryd.prog 55 [.agg (encRate r).toArray] h fun x h' => Ext h h' ∧ x = .int .i64 (leftN r : Int) := by
  have D := (Bx.new h (encRate r) []).ld
  simp only [encRate] at D
  refine ACall.of Tryd.func55 s55 (of_decide_eq_true rfl) ?_
  unfold leftN
  cases hd : r.drop with
  | false =>
    rw [hd] at D
    simp (maxSteps := 4000000) (disch := omega) only [ah, am, Nat.reduceEqDiff, reduceCtorEq, Nat.reduceAdd, Nat.reduceLeDiff, Nat.reduceMul, Nat.reduceLT, if_true, if_false, true_and, and_true, and_self, Nat.reduceBEq, QOp.loads, boxO, bslO, buildO, cutL, fillV, putL, w55, v55, encRate, hd, D]
    exact ⟨Ext.more _ _, rfl⟩
  | true =>
    rw [hd] at D
    by_cases c : r.num = 60000
    · simp (maxSteps := 4000000) (disch := omega) only [ah, am, Nat.reduceEqDiff, reduceCtorEq, Nat.reduceAdd, Nat.reduceLeDiff, Nat.reduceMul, Nat.reduceLT, if_true, if_false, true_and, and_true, and_self, Nat.reduceBEq, QOp.loads, boxO, bslO, buildO, cutL, fillV, putL, w55, v55, encRate, hd, D, decide_eq_true c]
      exact ⟨Ext.more _ _, by simp [c]⟩
    · simp (maxSteps := 4000000) (disch := omega) only [ah, am, Nat.reduceEqDiff, reduceCtorEq, Nat.reduceAdd, Nat.reduceLeDiff, Nat.reduceMul, Nat.reduceLT, if_true, if_false, true_and, and_true, and_self, Nat.reduceBEq, QOp.loads, boxO, bslO, buildO, cutL, fillV, putL, w55, v55, encRate, hd, D, decide_eq_false c]
      exact ⟨Ext.more _ _, by simp [c]⟩
end Go.Proofs.YtgmimgmdbpcecaaDoor
