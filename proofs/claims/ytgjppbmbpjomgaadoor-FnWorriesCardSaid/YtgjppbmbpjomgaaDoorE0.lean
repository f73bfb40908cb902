import Derived.Test.YtgjppbmbpjomgaaDoorN0
import Derived.Test.YtgjppbmbpjomgaaDoorAhY
namespace Go.Proofs.YtgjppbmbpjomgaaDoor
open Go Go.Ah
set_option linter.unusedSimpArgs false
set_option linter.unusedVariables false
set_option maxRecDepth 10000
set_option maxHeartbeats 4000000
/-! 5 loop.example/g00066/laws.big: parameters 1, live [0], slots [0:code, 1:code] -/
def c5_0 : List SOper := [⟨some 2, .q (.mv (.c (.bool false))), none⟩]
def c5_1 : List SOper := [⟨some 3, .q (.mv (.t 0)), none⟩, ⟨some 4, .q (.len (.t 3)), none⟩, ⟨some 5, .q (.bin .gtr (.t 4) (.c (.int .i64 4096))), none⟩, ⟨some 2, .q (.mv (.t 5)), none⟩]
def c5_2 : SCode := .seq (.region c5_1 [2]) .ret
def c5_3 : SCode := .seq (.region c5_0 [0]) c5_2
def c5 : SCode := c5_3
theorem w5 : type_of% (And.intro (uR Tryd.prog c5_0.eq_1) (And.intro (uR Tryd.prog c5_1.eq_1) (And.intro (uC Tryd.prog c5_2.eq_1) (And.intro (uC Tryd.prog c5_3.eq_1) (uC Tryd.prog c5.eq_1))))) := (And.intro (uR Tryd.prog c5_0.eq_1) (And.intro (uR Tryd.prog c5_1.eq_1) (And.intro (uC Tryd.prog c5_2.eq_1) (And.intro (uC Tryd.prog c5_3.eq_1) (uC Tryd.prog c5.eq_1)))))
def v5 : List RV := [.t 2]
theorem s5 : slimF Tryd.prog Tryd.f5 = some (c5.bare, v5) := by kernel_rfl
/-! 19 loop.example/g00066/spec.l1New: parameters 1, live [0], slots [0:code, 1:code, 3:h, 4:i] -/
def c19_0 : List SOper := [⟨some 2, .q (.mv (.c (.pointer none))), none⟩]
def c19_1 : List SOper := [⟨some 5, .q (.mv (.t 0)), none⟩, ⟨some 6, .q (.len (.t 5)), none⟩, ⟨some 7, .q (.bin .add (.c (.int .i64 60293)) (.t 6)), none⟩, ⟨some 3, .q (.mv (.t 7)), none⟩]
def c19_2 : List SOper := [⟨some 4, .q (.mv (.c (.int .i64 0))), none⟩]
def c19_3 : List SOper := [⟨some 8, .q (.mv (.t 4)), none⟩, ⟨some 9, .q (.mv (.t 0)), none⟩, ⟨some 10, .q (.len (.t 9)), none⟩, ⟨some 11, .q (.bin .lss (.t 8) (.t 10)), none⟩]
def c19_4 : SCode := .cond (.t 11) .skip (.exit 0)
def c19_5 : SCode := .seq (.region c19_3 [0, 3, 4, 11]) c19_4
def c19_6 : List SOper := [⟨some 14, .q (.mv (.t 3)), none⟩, ⟨some 15, .q (.bin .mul (.t 14) (.c (.int .i64 137))), none⟩, ⟨some 16, .q (.mv (.t 0)), none⟩, ⟨some 17, .q (.mv (.t 4)), none⟩, ⟨some 18, .q (.ia 1 (.t 16) (.t 17)), none⟩, ⟨some 19, .q (.ld (.t 18)), none⟩, ⟨some 20, .q (.cvi .i64 (.t 19)), none⟩, ⟨some 21, .q (.bin .add (.t 15) (.t 20)), none⟩, ⟨some 22, .q (.bin .add (.t 21) (.c (.int .i64 11))), none⟩, ⟨some 23, .q (.bin .and (.t 22) (.c (.int .i64 1073741823))), none⟩, ⟨some 3, .q (.mv (.t 23)), none⟩]
def c19_7 : SCode := .block 1 (.region c19_6 [0, 3, 4])
def c19_8 : List SOper := [⟨some 12, .q (.mv (.t 4)), none⟩, ⟨some 13, .q (.bin .add (.t 12) (.c (.int .i64 1))), none⟩, ⟨some 4, .q (.mv (.t 13)), none⟩]
def c19_9 : SCode := .seq c19_7 (.region c19_8 [0, 3, 4])
def c19_10 : SCode := .seq c19_5 c19_9
def c19_11 : SCode := .loop c19_10
def c19_12 : SCode := .block 0 c19_11
def c19_13 : SCode := .seq (.region c19_2 [0, 3, 4]) c19_12
def c19_14 : List SOper := [⟨some 24, .q (.mv (.t 0)), none⟩, ⟨some 25, .q (.mv (.t 3)), none⟩, ⟨some 26, .q (.build [(.slice none 0 0), (.int .i64 0), (.int .i64 0)] [(0, 1, (.t 24)), (2, 1, (.t 25))]), none⟩, ⟨some 27, .a (.box (.t 26)), none⟩, ⟨some 2, .q (.mv (.t 27)), none⟩]
def c19_15 : SCode := .seq (.region c19_14 [2]) .ret
def c19_16 : SCode := .seq c19_13 c19_15
def c19_17 : SCode := .seq (.region c19_1 [0, 3]) c19_16
def c19_18 : SCode := .seq (.region c19_0 [0]) c19_17
def c19 : SCode := c19_18
theorem w19 : type_of% (And.intro (uR Tryd.prog c19_0.eq_1) (And.intro (uR Tryd.prog c19_1.eq_1) (And.intro (uR Tryd.prog c19_2.eq_1) (And.intro (uR Tryd.prog c19_3.eq_1) (And.intro (uC Tryd.prog c19_4.eq_1) (And.intro (uC Tryd.prog c19_5.eq_1) (And.intro (uR Tryd.prog c19_6.eq_1) (And.intro (uC Tryd.prog c19_7.eq_1) (And.intro (uR Tryd.prog c19_8.eq_1) (And.intro (uC Tryd.prog c19_9.eq_1) (And.intro (uC Tryd.prog c19_10.eq_1) (And.intro (uC Tryd.prog c19_11.eq_1) (And.intro (uC Tryd.prog c19_12.eq_1) (And.intro (uC Tryd.prog c19_13.eq_1) (And.intro (uR Tryd.prog c19_14.eq_1) (And.intro (uC Tryd.prog c19_15.eq_1) (And.intro (uC Tryd.prog c19_16.eq_1) (And.intro (uC Tryd.prog c19_17.eq_1) (And.intro (uC Tryd.prog c19_18.eq_1) (uC Tryd.prog c19.eq_1)))))))))))))))))))) := (And.intro (uR Tryd.prog c19_0.eq_1) (And.intro (uR Tryd.prog c19_1.eq_1) (And.intro (uR Tryd.prog c19_2.eq_1) (And.intro (uR Tryd.prog c19_3.eq_1) (And.intro (uC Tryd.prog c19_4.eq_1) (And.intro (uC Tryd.prog c19_5.eq_1) (And.intro (uR Tryd.prog c19_6.eq_1) (And.intro (uC Tryd.prog c19_7.eq_1) (And.intro (uR Tryd.prog c19_8.eq_1) (And.intro (uC Tryd.prog c19_9.eq_1) (And.intro (uC Tryd.prog c19_10.eq_1) (And.intro (uC Tryd.prog c19_11.eq_1) (And.intro (uC Tryd.prog c19_12.eq_1) (And.intro (uC Tryd.prog c19_13.eq_1) (And.intro (uR Tryd.prog c19_14.eq_1) (And.intro (uC Tryd.prog c19_15.eq_1) (And.intro (uC Tryd.prog c19_16.eq_1) (And.intro (uC Tryd.prog c19_17.eq_1) (And.intro (uC Tryd.prog c19_18.eq_1) (uC Tryd.prog c19.eq_1))))))))))))))))))))
def v19 : List RV := [.t 2]
theorem s19 : slimF Tryd.prog Tryd.f19 = some (c19.bare, v19) := by kernel_rfl
/-! 37 loop.example/g00066/spec.l1Byte: parameters 1, live [0], slots [0:c, 1:c, 3:x] -/
def c37_0 : List SOper := [⟨some 2, .q (.mv (.c (.int .i64 0))), none⟩]
def c37_1 : List SOper := [⟨some 4, .q (.mv (.t 0)), none⟩, ⟨some 5, .q (.mv (.t 0)), none⟩, ⟨some 6, .q (.nil (.t 5)), none⟩, ⟨some 7, .q (.fa 2 (.t 6)), none⟩, ⟨some 8, .q (.ld (.t 7)), none⟩, ⟨some 9, .q (.bin .mul (.t 8) (.c (.int .i64 6364136223846793005))), none⟩, ⟨some 10, .q (.bin .add (.t 9) (.c (.int .i64 1442695040888963407))), none⟩, ⟨some 11, .q (.nil (.t 4)), none⟩, ⟨some 12, .q (.fa 2 (.t 11)), none⟩, ⟨none, .e (.st 1 (.t 12) (.t 10)), none⟩]
def c37_2 : List SOper := [⟨some 13, .q (.mv (.t 0)), none⟩, ⟨some 14, .q (.nil (.t 13)), none⟩, ⟨some 15, .q (.fa 2 (.t 14)), none⟩, ⟨some 16, .q (.ld (.t 15)), none⟩, ⟨some 17, .q (.bin .shr (.t 16) (.c (.int .u64 33))), none⟩, ⟨some 18, .q (.mv (.t 0)), none⟩, ⟨some 19, .q (.nil (.t 18)), none⟩, ⟨some 20, .q (.fa 2 (.t 19)), none⟩, ⟨some 21, .q (.ld (.t 20)), none⟩, ⟨some 22, .q (.bin .shr (.t 21) (.c (.int .u64 45))), none⟩, ⟨some 23, .q (.bin .xor (.t 17) (.t 22)), none⟩, ⟨some 24, .q (.bin .and (.t 23) (.c (.int .i64 255))), none⟩, ⟨some 3, .q (.mv (.t 24)), none⟩]
def c37_3 : List SOper := [⟨some 25, .q (.mv (.t 0)), none⟩, ⟨some 26, .q (.nil (.t 25)), none⟩, ⟨some 27, .q (.fa 1 (.t 26)), none⟩, ⟨some 28, .q (.ld (.t 27)), none⟩, ⟨some 29, .q (.mv (.t 0)), none⟩, ⟨some 30, .q (.nil (.t 29)), none⟩, ⟨some 31, .q (.fa 0 (.t 30)), none⟩, ⟨some 32, .q (.ld (.t 31)), none⟩, ⟨some 33, .q (.len (.t 32)), none⟩, ⟨some 34, .q (.bin .lss (.t 28) (.t 33)), none⟩]
def c37_4 : List SOper := [⟨some 35, .q (.mv (.t 3)), none⟩, ⟨some 36, .q (.mv (.t 0)), none⟩, ⟨some 37, .q (.nil (.t 36)), none⟩, ⟨some 38, .q (.fa 0 (.t 37)), none⟩, ⟨some 39, .q (.ld (.t 38)), none⟩, ⟨some 40, .q (.mv (.t 0)), none⟩, ⟨some 41, .q (.nil (.t 40)), none⟩, ⟨some 42, .q (.fa 1 (.t 41)), none⟩, ⟨some 43, .q (.ld (.t 42)), none⟩, ⟨some 44, .q (.ia 1 (.t 39) (.t 43)), none⟩, ⟨some 45, .q (.ld (.t 44)), none⟩, ⟨some 46, .q (.cvi .i64 (.t 45)), none⟩, ⟨some 47, .q (.bin .add (.t 35) (.t 46)), none⟩, ⟨some 48, .q (.bin .and (.t 47) (.c (.int .i64 255))), none⟩, ⟨some 3, .q (.mv (.t 48)), none⟩]
def c37_5 : List SOper := [⟨some 49, .q (.mv (.t 0)), none⟩, ⟨some 50, .q (.mv (.t 0)), none⟩, ⟨some 51, .q (.nil (.t 50)), none⟩, ⟨some 52, .q (.fa 1 (.t 51)), none⟩, ⟨some 53, .q (.ld (.t 52)), none⟩, ⟨some 54, .q (.bin .add (.t 53) (.c (.int .i64 1))), none⟩, ⟨some 55, .q (.nil (.t 49)), none⟩, ⟨some 56, .q (.fa 1 (.t 55)), none⟩, ⟨none, .e (.st 1 (.t 56) (.t 54)), none⟩]
def c37_6 : SCode := .seq (.region c37_4 [0, 3]) (.region c37_5 [3])
def c37_7 : SCode := .cond (.t 34) c37_6 .skip
def c37_8 : SCode := .seq (.region c37_3 [0, 3, 34]) c37_7
def c37_9 : List SOper := [⟨some 57, .q (.mv (.t 3)), none⟩, ⟨some 2, .q (.mv (.t 57)), none⟩]
def c37_10 : SCode := .seq (.region c37_9 [2]) .ret
def c37_11 : SCode := .seq c37_8 c37_10
def c37_12 : SCode := .seq (.region c37_2 [0, 3]) c37_11
def c37_13 : SCode := .seq (.region c37_1 [0]) c37_12
def c37_14 : SCode := .seq (.region c37_0 [0]) c37_13
def c37 : SCode := c37_14
theorem w37 : type_of% (And.intro (uR Tryd.prog c37_0.eq_1) (And.intro (uR Tryd.prog c37_1.eq_1) (And.intro (uR Tryd.prog c37_2.eq_1) (And.intro (uR Tryd.prog c37_3.eq_1) (And.intro (uR Tryd.prog c37_4.eq_1) (And.intro (uR Tryd.prog c37_5.eq_1) (And.intro (uC Tryd.prog c37_6.eq_1) (And.intro (uC Tryd.prog c37_7.eq_1) (And.intro (uC Tryd.prog c37_8.eq_1) (And.intro (uR Tryd.prog c37_9.eq_1) (And.intro (uC Tryd.prog c37_10.eq_1) (And.intro (uC Tryd.prog c37_11.eq_1) (And.intro (uC Tryd.prog c37_12.eq_1) (And.intro (uC Tryd.prog c37_13.eq_1) (And.intro (uC Tryd.prog c37_14.eq_1) (uC Tryd.prog c37.eq_1)))))))))))))))) := (And.intro (uR Tryd.prog c37_0.eq_1) (And.intro (uR Tryd.prog c37_1.eq_1) (And.intro (uR Tryd.prog c37_2.eq_1) (And.intro (uR Tryd.prog c37_3.eq_1) (And.intro (uR Tryd.prog c37_4.eq_1) (And.intro (uR Tryd.prog c37_5.eq_1) (And.intro (uC Tryd.prog c37_6.eq_1) (And.intro (uC Tryd.prog c37_7.eq_1) (And.intro (uC Tryd.prog c37_8.eq_1) (And.intro (uR Tryd.prog c37_9.eq_1) (And.intro (uC Tryd.prog c37_10.eq_1) (And.intro (uC Tryd.prog c37_11.eq_1) (And.intro (uC Tryd.prog c37_12.eq_1) (And.intro (uC Tryd.prog c37_13.eq_1) (And.intro (uC Tryd.prog c37_14.eq_1) (uC Tryd.prog c37.eq_1))))))))))))))))
def v37 : List RV := [.t 2]
theorem s37 : slimF Tryd.prog Tryd.f37 = some (c37.bare, v37) := by kernel_rfl
/-! 20 loop.example/g00066/spec.l1Below: parameters 2, live [0, 1], slots [0:c, 1:n, 2:c, 3:n, 5:x, 6:y, 7:z, 8:w] -/
def c20_0 : List SOper := [⟨some 4, .q (.mv (.c (.int .i64 0))), none⟩]
def c20_1 : List SOper := [⟨some 9, .q (.mv (.t 1)), none⟩, ⟨some 10, .q (.bin .leq (.t 9) (.c (.int .i64 0))), none⟩]
def c20_2 : List SOper := [⟨some 4, .q (.mv (.c (.int .i64 0))), none⟩]
def c20_3 : SCode := .seq (.region c20_2 [4]) .ret
def c20_4 : SCode := .cond (.t 10) c20_3 .skip
def c20_5 : SCode := .seq (.region c20_1 [0, 1, 10]) c20_4
def c20_6 : List SOper := [⟨some 11, .q (.mv (.t 1)), none⟩, ⟨some 12, .q (.bin .leq (.t 11) (.c (.int .i64 256))), none⟩]
def c20_7 : List SOper := [⟨some 13, .q (.mv (.t 0)), none⟩, ⟨some 14, .e (.call 37 [(.t 13)]), none⟩, ⟨some 15, .q (.mv (.t 1)), none⟩, ⟨some 16, .q (.bin .rem (.t 14) (.t 15)), none⟩, ⟨some 4, .q (.mv (.t 16)), none⟩]
def c20_8 : SCode := .seq (.region c20_7 [4]) .ret
def c20_9 : SCode := .cond (.t 12) c20_8 .skip
def c20_10 : SCode := .seq (.region c20_6 [0, 1, 12]) c20_9
def c20_11 : List SOper := [⟨some 17, .q (.mv (.t 0)), none⟩, ⟨some 18, .e (.call 37 [(.t 17)]), none⟩, ⟨some 5, .q (.mv (.t 18)), none⟩]
def c20_12 : List SOper := [⟨some 19, .q (.mv (.t 0)), none⟩, ⟨some 20, .e (.call 37 [(.t 19)]), none⟩, ⟨some 6, .q (.mv (.t 20)), none⟩]
def c20_13 : List SOper := [⟨some 21, .q (.mv (.t 0)), none⟩, ⟨some 22, .e (.call 37 [(.t 21)]), none⟩, ⟨some 7, .q (.mv (.t 22)), none⟩]
def c20_14 : List SOper := [⟨some 23, .q (.mv (.t 0)), none⟩, ⟨some 24, .e (.call 37 [(.t 23)]), none⟩, ⟨some 8, .q (.mv (.t 24)), none⟩]
def c20_15 : List SOper := [⟨some 25, .q (.mv (.t 5)), none⟩, ⟨some 26, .q (.bin .mul (.t 25) (.c (.int .i64 16777216))), none⟩, ⟨some 27, .q (.mv (.t 6)), none⟩, ⟨some 28, .q (.bin .mul (.t 27) (.c (.int .i64 65536))), none⟩, ⟨some 29, .q (.bin .add (.t 26) (.t 28)), none⟩, ⟨some 30, .q (.mv (.t 7)), none⟩, ⟨some 31, .q (.bin .mul (.t 30) (.c (.int .i64 256))), none⟩, ⟨some 32, .q (.bin .add (.t 29) (.t 31)), none⟩, ⟨some 33, .q (.mv (.t 8)), none⟩, ⟨some 34, .q (.bin .add (.t 32) (.t 33)), none⟩, ⟨some 35, .q (.mv (.t 1)), none⟩, ⟨some 36, .q (.bin .rem (.t 34) (.t 35)), none⟩, ⟨some 4, .q (.mv (.t 36)), none⟩]
def c20_16 : SCode := .seq (.region c20_15 [4]) .ret
def c20_17 : SCode := .seq (.region c20_14 [1, 5, 6, 7, 8]) c20_16
def c20_18 : SCode := .seq (.region c20_13 [0, 1, 5, 6, 7]) c20_17
def c20_19 : SCode := .seq (.region c20_12 [0, 1, 5, 6]) c20_18
def c20_20 : SCode := .seq (.region c20_11 [0, 1, 5]) c20_19
def c20_21 : SCode := .seq c20_10 c20_20
def c20_22 : SCode := .seq c20_5 c20_21
def c20_23 : SCode := .seq (.region c20_0 [0, 1]) c20_22
def c20 : SCode := c20_23
theorem w20 : type_of% (And.intro (uR Tryd.prog c20_0.eq_1) (And.intro (uR Tryd.prog c20_1.eq_1) (And.intro (uR Tryd.prog c20_2.eq_1) (And.intro (uC Tryd.prog c20_3.eq_1) (And.intro (uC Tryd.prog c20_4.eq_1) (And.intro (uC Tryd.prog c20_5.eq_1) (And.intro (uR Tryd.prog c20_6.eq_1) (And.intro (uR Tryd.prog c20_7.eq_1) (And.intro (uC Tryd.prog c20_8.eq_1) (And.intro (uC Tryd.prog c20_9.eq_1) (And.intro (uC Tryd.prog c20_10.eq_1) (And.intro (uR Tryd.prog c20_11.eq_1) (And.intro (uR Tryd.prog c20_12.eq_1) (And.intro (uR Tryd.prog c20_13.eq_1) (And.intro (uR Tryd.prog c20_14.eq_1) (And.intro (uR Tryd.prog c20_15.eq_1) (And.intro (uC Tryd.prog c20_16.eq_1) (And.intro (uC Tryd.prog c20_17.eq_1) (And.intro (uC Tryd.prog c20_18.eq_1) (And.intro (uC Tryd.prog c20_19.eq_1) (And.intro (uC Tryd.prog c20_20.eq_1) (And.intro (uC Tryd.prog c20_21.eq_1) (And.intro (uC Tryd.prog c20_22.eq_1) (And.intro (uC Tryd.prog c20_23.eq_1) (uC Tryd.prog c20.eq_1))))))))))))))))))))))))) := (And.intro (uR Tryd.prog c20_0.eq_1) (And.intro (uR Tryd.prog c20_1.eq_1) (And.intro (uR Tryd.prog c20_2.eq_1) (And.intro (uC Tryd.prog c20_3.eq_1) (And.intro (uC Tryd.prog c20_4.eq_1) (And.intro (uC Tryd.prog c20_5.eq_1) (And.intro (uR Tryd.prog c20_6.eq_1) (And.intro (uR Tryd.prog c20_7.eq_1) (And.intro (uC Tryd.prog c20_8.eq_1) (And.intro (uC Tryd.prog c20_9.eq_1) (And.intro (uC Tryd.prog c20_10.eq_1) (And.intro (uR Tryd.prog c20_11.eq_1) (And.intro (uR Tryd.prog c20_12.eq_1) (And.intro (uR Tryd.prog c20_13.eq_1) (And.intro (uR Tryd.prog c20_14.eq_1) (And.intro (uR Tryd.prog c20_15.eq_1) (And.intro (uC Tryd.prog c20_16.eq_1) (And.intro (uC Tryd.prog c20_17.eq_1) (And.intro (uC Tryd.prog c20_18.eq_1) (And.intro (uC Tryd.prog c20_19.eq_1) (And.intro (uC Tryd.prog c20_20.eq_1) (And.intro (uC Tryd.prog c20_21.eq_1) (And.intro (uC Tryd.prog c20_22.eq_1) (And.intro (uC Tryd.prog c20_23.eq_1) (uC Tryd.prog c20.eq_1)))))))))))))))))))))))))
def v20 : List RV := [.t 4]
theorem s20 : slimF Tryd.prog Tryd.f20 = some (c20.bare, v20) := by kernel_rfl
/-! 21 loop.example/g00066/spec.l1Once: parameters 2, live [0, 1], slots [0:c, 1:n, 2:c, 3:n] -/
def c21_0 : List SOper := [⟨some 4, .q (.mv (.c (.bool false))), none⟩]
def c21_1 : List SOper := [⟨some 5, .q (.mv (.t 0)), none⟩, ⟨some 6, .q (.mv (.t 1)), none⟩, ⟨some 7, .e (.call 20 [(.t 5), (.t 6)]), none⟩, ⟨some 8, .q (.bin .eql (.t 7) (.c (.int .i64 0))), none⟩, ⟨some 4, .q (.mv (.t 8)), none⟩]
def c21_2 : SCode := .seq (.region c21_1 [4]) .ret
def c21_3 : SCode := .seq (.region c21_0 [0, 1]) c21_2
def c21 : SCode := c21_3
theorem w21 : type_of% (And.intro (uR Tryd.prog c21_0.eq_1) (And.intro (uR Tryd.prog c21_1.eq_1) (And.intro (uC Tryd.prog c21_2.eq_1) (And.intro (uC Tryd.prog c21_3.eq_1) (uC Tryd.prog c21.eq_1))))) := (And.intro (uR Tryd.prog c21_0.eq_1) (And.intro (uR Tryd.prog c21_1.eq_1) (And.intro (uC Tryd.prog c21_2.eq_1) (And.intro (uC Tryd.prog c21_3.eq_1) (uC Tryd.prog c21.eq_1)))))
def v21 : List RV := [.t 4]
theorem s21 : slimF Tryd.prog Tryd.f21 = some (c21.bare, v21) := by kernel_rfl

def encByte (x : Int) : List Value := [.int .u8 x]
theorem encByte_len (x : Int) : (encByte x).length = 1 := rfl
theorem big_ok (h : Heap) (v : Value) (l : List Int) (s : SlT h encByte 1 v l) : ACall Tryd.prog 5 [v] h fun r h' => h' = h ∧ r = .bool (decide (4096 < (l.length : Int))) := by
  refine ACall.of Tryd.func5 s5 (of_decide_eq_true rfl) ?_
  have R := s.rulesN
  simp (maxSteps := 4000000) (disch := omega) only [ah, am, Nat.reduceEqDiff, reduceCtorEq, Nat.reduceAdd, Nat.reduceLeDiff, Nat.reduceMul, Nat.reduceLT, if_true, if_false, true_and, and_true, and_self, Nat.reduceBEq, QOp.loads, boxO, bslO, buildO, cutL, fillV, putL, w5, v5, R]
/-- A cursor. -/
def Cur (h : Heap) (c : Nat) : Prop := ∃ (h0 : Heap) (bv : Value) (code : List Int) (pos : Nat) (hh : Int), h0.size ≤ c ∧ Ext h0 h ∧ SlT h0 encByte 1 bv code ∧ code.length ≤ 4096 ∧ pos ≤ code.length ∧ Bx h c [bv, .int .i64 pos, .int .i64 hh]
theorem Cur.ext {h h' : Heap} {c : Nat} (k : Cur h c) (e : Ext h h') : Cur h' c := by
  obtain ⟨h0, bv, code, pos, hh, k1, k2, k3, k4, k5, k6⟩ := k
  exact ⟨h0, bv, code, pos, hh, k1, k2.trans e, k3, k4, k5, k6.ext e⟩
theorem Cur.lt {h : Heap} {c : Nat} (k : Cur h c) : c < h.size := by
  obtain ⟨h0, bv, code, pos, hh, k1, k2, k3, k4, k5, k6⟩ := k; exact Heap.get_lt k6
theorem and_bound (a m : Int) (hm : 0 ≤ m ∧ m ≤ 1073741823) : 0 ≤ IntKind.i64.wrap ((BitVec.ofInt IntKind.i64.bits a &&& BitVec.ofInt IntKind.i64.bits m).toNat) ∧ IntKind.i64.wrap ((BitVec.ofInt IntKind.i64.bits a &&& BitVec.ofInt IntKind.i64.bits m).toNat) ≤ m := by
  have h1 : (BitVec.ofInt IntKind.i64.bits m).toNat = m.toNat := by
    rw [BitVec.toNat_ofInt]
    have : ((2 ^ IntKind.i64.bits : Nat) : Int) = 18446744073709551616 := rfl
    rw [this, Int.emod_eq_of_lt (by omega) (by omega)]
  have h2 : (BitVec.ofInt IntKind.i64.bits a &&& BitVec.ofInt IntKind.i64.bits m).toNat ≤ m.toNat := by
    rw [BitVec.toNat_and, h1]; exact Nat.and_le_right
  rw [i64w (by omega)]; omega
theorem l1New_ok (h : Heap) (v : Value) (l : List Int) (s : SlT h encByte 1 v l) (hl : l.length ≤ 4096) : ACall Tryd.prog 19 [v] h fun r h' => Ext h h' ∧ r = .pointer (some ⟨h.size, 0, none⟩) ∧ Cur h' h.size := by
  refine ACall.of Tryd.func19 s19 (of_decide_eq_true rfl) ?_
  have R := s.rulesN
  simp (maxSteps := 4000000) (disch := omega) only [ah, am, Nat.reduceEqDiff, reduceCtorEq, Nat.reduceAdd, Nat.reduceLeDiff, Nat.reduceMul, Nat.reduceLT, if_true, if_false, true_and, and_true, and_self, Nat.reduceBEq, QOp.loads, boxO, bslO, buildO, cutL, fillV, putL, w19, v19, R, i64w]
  refine SW_loop_up (fun i E H => ∃ hh, E = [(0, v), (3, .int .i64 hh), (4, .int .i64 i)] ∧ H = h) l.length 0 (by omega) ⟨_, rfl, rfl⟩ ?_
  rintro i E H hi ⟨hh, rfl, rfl⟩
  have W : IntKind.i64.wrap ((i : Int) + 1) = ((i + 1 : Nat) : Int) := i64e (by omega) (by omega)
  simp (maxSteps := 4000000) (disch := omega) only [ah, am, Nat.reduceEqDiff, reduceCtorEq, Nat.reduceAdd, Nat.reduceLeDiff, Nat.reduceMul, Nat.reduceLT, if_true, if_false, true_and, and_true, and_self, Nat.reduceBEq, QOp.loads, boxO, bslO, buildO, cutL, fillV, putL, w19, v19, R]
  refine stepI.split (fun hp => ?_) (fun hp => ?_)
  · simp (maxSteps := 4000000) (disch := omega) only [ah, am, Nat.reduceEqDiff, reduceCtorEq, Nat.reduceAdd, Nat.reduceLeDiff, Nat.reduceMul, Nat.reduceLT, if_true, if_false, true_and, and_true, and_self, Nat.reduceBEq, QOp.loads, boxO, bslO, buildO, cutL, fillV, putL, w19, v19, R, W, encByte]
    exact ⟨by omega, _, rfl⟩
  · obtain ⟨c1, o1⟩ : v.cells = #[v] ∧ ∀ L, oneB (v :: L) = oneB L := by
      rcases s.sl with ⟨rfl, _⟩ | ⟨rfl, _⟩ | ⟨i, o, n, ob, rfl, _⟩ <;> exact ⟨rfl, fun _ => rfl⟩
    simp (maxSteps := 4000000) (disch := omega) only [ah, am, Nat.reduceEqDiff, reduceCtorEq, Nat.reduceAdd, Nat.reduceLeDiff, Nat.reduceMul, Nat.reduceLT, if_true, if_false, true_and, and_true, and_self, Nat.reduceBEq, QOp.loads, boxO, bslO, buildO, cutL, fillV, putL, w19, v19, c1, o1, size_mk, List.size_toArray, List.reduceReplicate]
    exact ⟨Ext.more _ _, H, v, l, 0, hh, Nat.le_refl _, Ext.more _ _, s, hl, by omega, Bx.new H _ []⟩
theorem l1Byte_ok (h : Heap) (c : Nat) (k : Cur h c) : ACall Tryd.prog 37 [.pointer (some ⟨c, 0, none⟩)] h fun r h' => ∃ n, r = .int .i64 n ∧ (0 ≤ n ∧ n ≤ 255) ∧ ExtG c h h' ∧ Cur h' c := by
  obtain ⟨h0, bv, code, pos, hh, k1, k2, k3, k4, k5, k6⟩ := k
  refine ACall.of Tryd.func37 s37 (of_decide_eq_true rfl) ?_
  have X := k6.ld
  obtain ⟨h1, es1, b1, g1⟩ := k6.put (o := 2) (n := 1) (y := .int .i64 (IntKind.i64.wrap (IntKind.i64.wrap (hh * 6364136223846793005) + 1442695040888963407))) rfl (by simp) rfl
  obtain ⟨h2, hh2⟩ : ∃ h2, IntKind.i64.wrap (IntKind.i64.wrap (hh * 6364136223846793005) + 1442695040888963407) = h2 := ⟨_, rfl⟩
  rw [hh2] at es1 b1
  simp only [splice, cells_int, List.take_succ_cons, List.take_zero, List.cons_append, List.nil_append, List.append_nil, List.length_cons, List.length_nil, List.drop_succ_cons, List.drop_zero, Nat.reduceAdd] at b1
  have X1 := b1.ld
  have e1 : Ext h0 h1 := g1.ext k2 k1
  have R := (k3.ext e1).rulesN
  simp (maxSteps := 4000000) (disch := omega) only [ah, am, Nat.reduceEqDiff, reduceCtorEq, Nat.reduceAdd, Nat.reduceLeDiff, Nat.reduceMul, Nat.reduceLT, if_true, if_false, true_and, and_true, and_self, Nat.reduceBEq, QOp.loads, boxO, bslO, buildO, cutL, fillV, putL, w37, v37, X, hh2, es1, X1, R]
  refine stepI.split (fun hp => ?_) (fun hp => ?_)
  · obtain ⟨h3, es2, b2, g2⟩ := b1.put (o := 1) (n := 1) (y := .int .i64 ((pos + 1 : Nat) : Int)) rfl (by simp) rfl
    simp only [splice, cells_int, List.take_succ_cons, List.take_zero, List.cons_append, List.nil_append, List.append_nil, List.length_cons, List.length_nil, List.drop_succ_cons, List.drop_zero, Nat.reduceAdd] at b2
    have W : IntKind.i64.wrap ((pos : Int) + 1) = ((pos + 1 : Nat) : Int) := i64e (by omega) (by omega)
    simp (maxSteps := 4000000) (disch := omega) only [ah, am, Nat.reduceEqDiff, reduceCtorEq, Nat.reduceAdd, Nat.reduceLeDiff, Nat.reduceMul, Nat.reduceLT, if_true, if_false, true_and, and_true, and_self, Nat.reduceBEq, QOp.loads, boxO, bslO, buildO, cutL, fillV, putL, w37, v37, X1, es2, R, encByte, W]
    exact ⟨_, rfl, and_bound _ 255 (by omega), g1.trans g2, h0, bv, code, pos + 1, h2, k1, g2.ext e1 k1, k3, k4, by omega, b2⟩
  · simp (maxSteps := 4000000) (disch := omega) only [ah, am, Nat.reduceEqDiff, reduceCtorEq, Nat.reduceAdd, Nat.reduceLeDiff, Nat.reduceMul, Nat.reduceLT, if_true, if_false, true_and, and_true, and_self, Nat.reduceBEq, QOp.loads, boxO, bslO, buildO, cutL, fillV, putL, w37, v37, X1]
    exact ⟨_, rfl, and_bound _ 255 (by omega), g1, h0, bv, code, pos, h2, k1, e1, k3, k4, k5, b1⟩
theorem l1Below_ok (h : Heap) (c : Nat) (n : Int) (k : Cur h c) : ACall Tryd.prog 20 [.pointer (some ⟨c, 0, none⟩), .int .i64 n] h
    fun r h' => ∃ x, r = .int .i64 x ∧ 0 ≤ x ∧ (0 < n → x < n) ∧ (n ≤ 0 → x = 0) ∧ ExtG c h h' ∧ Cur h' c := by
  refine ACall.of Tryd.func20 s20 (of_decide_eq_true rfl) ?_
  by_cases h0 : n ≤ 0
  · have h0' : decide (n ≤ 0) = true := decide_eq_true h0
    simp (maxSteps := 4000000) (disch := omega) only [ah, am, Nat.reduceEqDiff, reduceCtorEq, Nat.reduceAdd, Nat.reduceLeDiff, Nat.reduceMul, Nat.reduceLT, if_true, if_false, true_and, and_true, and_self, Nat.reduceBEq, QOp.loads, boxO, bslO, buildO, cutL, fillV, putL, w20, v20, h0']
    exact ⟨_, rfl, by omega, by omega, by omega, ExtG.refl c h, k⟩
  have h0' : decide (n ≤ 0) = false := decide_eq_false h0
  have hn : n ≠ 0 := by omega
  by_cases h1 : n ≤ 256
  · have h1' : decide (n ≤ 256) = true := decide_eq_true h1
    simp (maxSteps := 4000000) (disch := omega) only [ah, am, Nat.reduceEqDiff, reduceCtorEq, Nat.reduceAdd, Nat.reduceLeDiff, Nat.reduceMul, Nat.reduceLT, if_true, if_false, true_and, and_true, and_self, Nat.reduceBEq, QOp.loads, boxO, bslO, buildO, cutL, fillV, putL, w20, v20, h0', h1']
    refine stepC.of (l1Byte_ok _ _ k) ?_
    rintro _ H1 ⟨x, rfl, hx, g1, k1⟩
    simp (maxSteps := 4000000) (disch := omega) only [ah, am, Nat.reduceEqDiff, reduceCtorEq, Nat.reduceAdd, Nat.reduceLeDiff, Nat.reduceMul, Nat.reduceLT, if_true, if_false, true_and, and_true, and_self, Nat.reduceBEq, QOp.loads, boxO, bslO, buildO, cutL, fillV, putL, w20, v20, hn, ne_eq]
    rw [Int.tmod_eq_emod_of_nonneg hx.1]
    exact ⟨_, rfl, Int.emod_nonneg _ hn, fun _ => Int.emod_lt_of_pos _ (by omega), by omega, g1, k1⟩
  · have h1' : decide (n ≤ 256) = false := decide_eq_false h1
    simp (maxSteps := 4000000) (disch := omega) only [ah, am, Nat.reduceEqDiff, reduceCtorEq, Nat.reduceAdd, Nat.reduceLeDiff, Nat.reduceMul, Nat.reduceLT, if_true, if_false, true_and, and_true, and_self, Nat.reduceBEq, QOp.loads, boxO, bslO, buildO, cutL, fillV, putL, w20, v20, h0', h1']
    refine stepC.of (l1Byte_ok _ _ k) ?_
    rintro _ H1 ⟨x1, rfl, hx1, g1, k1⟩
    simp (maxSteps := 4000000) (disch := omega) only [ah, am, Nat.reduceEqDiff, reduceCtorEq, Nat.reduceAdd, Nat.reduceLeDiff, Nat.reduceMul, Nat.reduceLT, if_true, if_false, true_and, and_true, and_self, Nat.reduceBEq, QOp.loads, boxO, bslO, buildO, cutL, fillV, putL, w20, v20]
    refine stepC.of (l1Byte_ok _ _ k1) ?_
    rintro _ H2 ⟨x2, rfl, hx2, g2, k2⟩
    simp (maxSteps := 4000000) (disch := omega) only [ah, am, Nat.reduceEqDiff, reduceCtorEq, Nat.reduceAdd, Nat.reduceLeDiff, Nat.reduceMul, Nat.reduceLT, if_true, if_false, true_and, and_true, and_self, Nat.reduceBEq, QOp.loads, boxO, bslO, buildO, cutL, fillV, putL, w20, v20]
    refine stepC.of (l1Byte_ok _ _ k2) ?_
    rintro _ H3 ⟨x3, rfl, hx3, g3, k3⟩
    simp (maxSteps := 4000000) (disch := omega) only [ah, am, Nat.reduceEqDiff, reduceCtorEq, Nat.reduceAdd, Nat.reduceLeDiff, Nat.reduceMul, Nat.reduceLT, if_true, if_false, true_and, and_true, and_self, Nat.reduceBEq, QOp.loads, boxO, bslO, buildO, cutL, fillV, putL, w20, v20]
    refine stepC.of (l1Byte_ok _ _ k3) ?_
    rintro _ H4 ⟨x4, rfl, hx4, g4, k4⟩
    simp (maxSteps := 4000000) (disch := omega) only [ah, am, Nat.reduceEqDiff, reduceCtorEq, Nat.reduceAdd, Nat.reduceLeDiff, Nat.reduceMul, Nat.reduceLT, if_true, if_false, true_and, and_true, and_self, Nat.reduceBEq, QOp.loads, boxO, bslO, buildO, cutL, fillV, putL, w20, v20, hn, ne_eq, i64w]
    rw [Int.tmod_eq_emod_of_nonneg (by omega)]
    exact ⟨_, rfl, Int.emod_nonneg _ hn, fun _ => Int.emod_lt_of_pos _ (by omega), by omega, ((g1.trans g2).trans g3).trans g4, k4⟩
theorem l1Once_ok (h : Heap) (c : Nat) (n : Int) (k : Cur h c) : ACall Tryd.prog 21 [.pointer (some ⟨c, 0, none⟩), .int .i64 n] h
    fun r h' => ∃ b, r = .bool b ∧ ExtG c h h' ∧ Cur h' c := by
  refine ACall.of Tryd.func21 s21 (of_decide_eq_true rfl) ?_
  simp (maxSteps := 4000000) (disch := omega) only [ah, am, Nat.reduceEqDiff, reduceCtorEq, Nat.reduceAdd, Nat.reduceLeDiff, Nat.reduceMul, Nat.reduceLT, if_true, if_false, true_and, and_true, and_self, Nat.reduceBEq, QOp.loads, boxO, bslO, buildO, cutL, fillV, putL, w21, v21]
  refine stepC.of (l1Below_ok _ _ _ k) ?_
  rintro _ H1 ⟨x, rfl, _, _, _, g1, k1⟩
  simp (maxSteps := 4000000) (disch := omega) only [ah, am, Nat.reduceEqDiff, reduceCtorEq, Nat.reduceAdd, Nat.reduceLeDiff, Nat.reduceMul, Nat.reduceLT, if_true, if_false, true_and, and_true, and_self, Nat.reduceBEq, QOp.loads, boxO, bslO, buildO, cutL, fillV, putL, w21, v21]
  exact ⟨_, rfl, g1, k1⟩
end Go.Proofs.YtgjppbmbpjomgaaDoor
