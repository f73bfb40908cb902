import Derived.Test.YtbnppofkpgfhnaaS4
import Derived.Test.YtbnppofkpgfhnaaAhY
namespace Go.Proofs.Ytbnppofkpgfhnaa
open Go Go.Ah
set_option linter.unusedSimpArgs false
set_option linter.unusedVariables false
set_option maxRecDepth 10000
set_option maxHeartbeats 4000000
/-! 8 loop.example/g00066/laws.big: parameters 1, live [0], slots [0:code, 1:code] -/
def c8_0 : List SOper := [⟨some 2, .q (.mv (.c (.bool false))), none⟩]
def c8_1 : List SOper := [⟨some 3, .q (.mv (.t 0)), none⟩, ⟨some 4, .q (.len (.t 3)), none⟩, ⟨some 5, .q (.bin .gtr (.t 4) (.c (.int .i64 4096))), none⟩, ⟨some 2, .q (.mv (.t 5)), none⟩]
def c8_2 : SCode := .seq (.region c8_1 [2]) .ret
def c8_3 : SCode := .seq (.region c8_0 [0]) c8_2
def c8 : SCode := c8_3
theorem w8 : type_of% (And.intro (uR Try.prog c8_0.eq_1) (And.intro (uR Try.prog c8_1.eq_1) (And.intro (uC Try.prog c8_2.eq_1) (And.intro (uC Try.prog c8_3.eq_1) (uC Try.prog c8.eq_1))))) := (And.intro (uR Try.prog c8_0.eq_1) (And.intro (uR Try.prog c8_1.eq_1) (And.intro (uC Try.prog c8_2.eq_1) (And.intro (uC Try.prog c8_3.eq_1) (uC Try.prog c8.eq_1)))))
def v8 : List RV := [.t 2]
theorem s8 : slimF Try.prog Try.f8 = some (c8.bare, v8) := by kernel_rfl
/-! 33 loop.example/g00066/spec.l1New: parameters 1, live [0], slots [0:code, 1:code, 3:h, 4:i] -/
def c33_0 : List SOper := [⟨some 2, .q (.mv (.c (.pointer none))), none⟩]
def c33_1 : List SOper := [⟨some 5, .q (.mv (.t 0)), none⟩, ⟨some 6, .q (.len (.t 5)), none⟩, ⟨some 7, .q (.bin .add (.c (.int .i64 60293)) (.t 6)), none⟩, ⟨some 3, .q (.mv (.t 7)), none⟩]
def c33_2 : List SOper := [⟨some 4, .q (.mv (.c (.int .i64 0))), none⟩]
def c33_3 : List SOper := [⟨some 8, .q (.mv (.t 4)), none⟩, ⟨some 9, .q (.mv (.t 0)), none⟩, ⟨some 10, .q (.len (.t 9)), none⟩, ⟨some 11, .q (.bin .lss (.t 8) (.t 10)), none⟩]
def c33_4 : SCode := .cond (.t 11) .skip (.exit 0)
def c33_5 : SCode := .seq (.region c33_3 [0, 3, 4, 11]) c33_4
def c33_6 : List SOper := [⟨some 14, .q (.mv (.t 3)), none⟩, ⟨some 15, .q (.bin .mul (.t 14) (.c (.int .i64 137))), none⟩, ⟨some 16, .q (.mv (.t 0)), none⟩, ⟨some 17, .q (.mv (.t 4)), none⟩, ⟨some 18, .q (.ia 1 (.t 16) (.t 17)), none⟩, ⟨some 19, .q (.ld (.t 18)), none⟩, ⟨some 20, .q (.cvi .i64 (.t 19)), none⟩, ⟨some 21, .q (.bin .add (.t 15) (.t 20)), none⟩, ⟨some 22, .q (.bin .add (.t 21) (.c (.int .i64 11))), none⟩, ⟨some 23, .q (.bin .and (.t 22) (.c (.int .i64 1073741823))), none⟩, ⟨some 3, .q (.mv (.t 23)), none⟩]
def c33_7 : SCode := .block 1 (.region c33_6 [0, 3, 4])
def c33_8 : List SOper := [⟨some 12, .q (.mv (.t 4)), none⟩, ⟨some 13, .q (.bin .add (.t 12) (.c (.int .i64 1))), none⟩, ⟨some 4, .q (.mv (.t 13)), none⟩]
def c33_9 : SCode := .seq c33_7 (.region c33_8 [0, 3, 4])
def c33_10 : SCode := .seq c33_5 c33_9
def c33_11 : SCode := .loop c33_10
def c33_12 : SCode := .block 0 c33_11
def c33_13 : SCode := .seq (.region c33_2 [0, 3, 4]) c33_12
def c33_14 : List SOper := [⟨some 24, .q (.mv (.t 0)), none⟩, ⟨some 25, .q (.mv (.t 3)), none⟩, ⟨some 26, .q (.build [(.slice none 0 0), (.int .i64 0), (.int .i64 0)] [(0, 1, (.t 24)), (2, 1, (.t 25))]), none⟩, ⟨some 27, .a (.box (.t 26)), none⟩, ⟨some 2, .q (.mv (.t 27)), none⟩]
def c33_15 : SCode := .seq (.region c33_14 [2]) .ret
def c33_16 : SCode := .seq c33_13 c33_15
def c33_17 : SCode := .seq (.region c33_1 [0, 3]) c33_16
def c33_18 : SCode := .seq (.region c33_0 [0]) c33_17
def c33 : SCode := c33_18
theorem w33 : type_of% (And.intro (uR Try.prog c33_0.eq_1) (And.intro (uR Try.prog c33_1.eq_1) (And.intro (uR Try.prog c33_2.eq_1) (And.intro (uR Try.prog c33_3.eq_1) (And.intro (uC Try.prog c33_4.eq_1) (And.intro (uC Try.prog c33_5.eq_1) (And.intro (uR Try.prog c33_6.eq_1) (And.intro (uC Try.prog c33_7.eq_1) (And.intro (uR Try.prog c33_8.eq_1) (And.intro (uC Try.prog c33_9.eq_1) (And.intro (uC Try.prog c33_10.eq_1) (And.intro (uC Try.prog c33_11.eq_1) (And.intro (uC Try.prog c33_12.eq_1) (And.intro (uC Try.prog c33_13.eq_1) (And.intro (uR Try.prog c33_14.eq_1) (And.intro (uC Try.prog c33_15.eq_1) (And.intro (uC Try.prog c33_16.eq_1) (And.intro (uC Try.prog c33_17.eq_1) (And.intro (uC Try.prog c33_18.eq_1) (uC Try.prog c33.eq_1)))))))))))))))))))) := (And.intro (uR Try.prog c33_0.eq_1) (And.intro (uR Try.prog c33_1.eq_1) (And.intro (uR Try.prog c33_2.eq_1) (And.intro (uR Try.prog c33_3.eq_1) (And.intro (uC Try.prog c33_4.eq_1) (And.intro (uC Try.prog c33_5.eq_1) (And.intro (uR Try.prog c33_6.eq_1) (And.intro (uC Try.prog c33_7.eq_1) (And.intro (uR Try.prog c33_8.eq_1) (And.intro (uC Try.prog c33_9.eq_1) (And.intro (uC Try.prog c33_10.eq_1) (And.intro (uC Try.prog c33_11.eq_1) (And.intro (uC Try.prog c33_12.eq_1) (And.intro (uC Try.prog c33_13.eq_1) (And.intro (uR Try.prog c33_14.eq_1) (And.intro (uC Try.prog c33_15.eq_1) (And.intro (uC Try.prog c33_16.eq_1) (And.intro (uC Try.prog c33_17.eq_1) (And.intro (uC Try.prog c33_18.eq_1) (uC Try.prog c33.eq_1))))))))))))))))))))
def v33 : List RV := [.t 2]
theorem s33 : slimF Try.prog Try.f33 = some (c33.bare, v33) := by kernel_rfl
/-! 89 loop.example/g00066/spec.l1Byte: parameters 1, live [0], slots [0:c, 1:c, 3:x] -/
def c89_0 : List SOper := [⟨some 2, .q (.mv (.c (.int .i64 0))), none⟩]
def c89_1 : List SOper := [⟨some 4, .q (.mv (.t 0)), none⟩, ⟨some 5, .q (.mv (.t 0)), none⟩, ⟨some 6, .q (.nil (.t 5)), none⟩, ⟨some 7, .q (.fa 2 (.t 6)), none⟩, ⟨some 8, .q (.ld (.t 7)), none⟩, ⟨some 9, .q (.bin .mul (.t 8) (.c (.int .i64 6364136223846793005))), none⟩, ⟨some 10, .q (.bin .add (.t 9) (.c (.int .i64 1442695040888963407))), none⟩, ⟨some 11, .q (.nil (.t 4)), none⟩, ⟨some 12, .q (.fa 2 (.t 11)), none⟩, ⟨none, .e (.st 1 (.t 12) (.t 10)), none⟩]
def c89_2 : List SOper := [⟨some 13, .q (.mv (.t 0)), none⟩, ⟨some 14, .q (.nil (.t 13)), none⟩, ⟨some 15, .q (.fa 2 (.t 14)), none⟩, ⟨some 16, .q (.ld (.t 15)), none⟩, ⟨some 17, .q (.bin .shr (.t 16) (.c (.int .u64 33))), none⟩, ⟨some 18, .q (.mv (.t 0)), none⟩, ⟨some 19, .q (.nil (.t 18)), none⟩, ⟨some 20, .q (.fa 2 (.t 19)), none⟩, ⟨some 21, .q (.ld (.t 20)), none⟩, ⟨some 22, .q (.bin .shr (.t 21) (.c (.int .u64 45))), none⟩, ⟨some 23, .q (.bin .xor (.t 17) (.t 22)), none⟩, ⟨some 24, .q (.bin .and (.t 23) (.c (.int .i64 255))), none⟩, ⟨some 3, .q (.mv (.t 24)), none⟩]
def c89_3 : List SOper := [⟨some 25, .q (.mv (.t 0)), none⟩, ⟨some 26, .q (.nil (.t 25)), none⟩, ⟨some 27, .q (.fa 1 (.t 26)), none⟩, ⟨some 28, .q (.ld (.t 27)), none⟩, ⟨some 29, .q (.mv (.t 0)), none⟩, ⟨some 30, .q (.nil (.t 29)), none⟩, ⟨some 31, .q (.fa 0 (.t 30)), none⟩, ⟨some 32, .q (.ld (.t 31)), none⟩, ⟨some 33, .q (.len (.t 32)), none⟩, ⟨some 34, .q (.bin .lss (.t 28) (.t 33)), none⟩]
def c89_4 : List SOper := [⟨some 35, .q (.mv (.t 3)), none⟩, ⟨some 36, .q (.mv (.t 0)), none⟩, ⟨some 37, .q (.nil (.t 36)), none⟩, ⟨some 38, .q (.fa 0 (.t 37)), none⟩, ⟨some 39, .q (.ld (.t 38)), none⟩, ⟨some 40, .q (.mv (.t 0)), none⟩, ⟨some 41, .q (.nil (.t 40)), none⟩, ⟨some 42, .q (.fa 1 (.t 41)), none⟩, ⟨some 43, .q (.ld (.t 42)), none⟩, ⟨some 44, .q (.ia 1 (.t 39) (.t 43)), none⟩, ⟨some 45, .q (.ld (.t 44)), none⟩, ⟨some 46, .q (.cvi .i64 (.t 45)), none⟩, ⟨some 47, .q (.bin .add (.t 35) (.t 46)), none⟩, ⟨some 48, .q (.bin .and (.t 47) (.c (.int .i64 255))), none⟩, ⟨some 3, .q (.mv (.t 48)), none⟩]
def c89_5 : List SOper := [⟨some 49, .q (.mv (.t 0)), none⟩, ⟨some 50, .q (.mv (.t 0)), none⟩, ⟨some 51, .q (.nil (.t 50)), none⟩, ⟨some 52, .q (.fa 1 (.t 51)), none⟩, ⟨some 53, .q (.ld (.t 52)), none⟩, ⟨some 54, .q (.bin .add (.t 53) (.c (.int .i64 1))), none⟩, ⟨some 55, .q (.nil (.t 49)), none⟩, ⟨some 56, .q (.fa 1 (.t 55)), none⟩, ⟨none, .e (.st 1 (.t 56) (.t 54)), none⟩]
def c89_6 : SCode := .seq (.region c89_4 [0, 3]) (.region c89_5 [3])
def c89_7 : SCode := .cond (.t 34) c89_6 .skip
def c89_8 : SCode := .seq (.region c89_3 [0, 3, 34]) c89_7
def c89_9 : List SOper := [⟨some 57, .q (.mv (.t 3)), none⟩, ⟨some 2, .q (.mv (.t 57)), none⟩]
def c89_10 : SCode := .seq (.region c89_9 [2]) .ret
def c89_11 : SCode := .seq c89_8 c89_10
def c89_12 : SCode := .seq (.region c89_2 [0, 3]) c89_11
def c89_13 : SCode := .seq (.region c89_1 [0]) c89_12
def c89_14 : SCode := .seq (.region c89_0 [0]) c89_13
def c89 : SCode := c89_14
theorem w89 : type_of% (And.intro (uR Try.prog c89_0.eq_1) (And.intro (uR Try.prog c89_1.eq_1) (And.intro (uR Try.prog c89_2.eq_1) (And.intro (uR Try.prog c89_3.eq_1) (And.intro (uR Try.prog c89_4.eq_1) (And.intro (uR Try.prog c89_5.eq_1) (And.intro (uC Try.prog c89_6.eq_1) (And.intro (uC Try.prog c89_7.eq_1) (And.intro (uC Try.prog c89_8.eq_1) (And.intro (uR Try.prog c89_9.eq_1) (And.intro (uC Try.prog c89_10.eq_1) (And.intro (uC Try.prog c89_11.eq_1) (And.intro (uC Try.prog c89_12.eq_1) (And.intro (uC Try.prog c89_13.eq_1) (And.intro (uC Try.prog c89_14.eq_1) (uC Try.prog c89.eq_1)))))))))))))))) := (And.intro (uR Try.prog c89_0.eq_1) (And.intro (uR Try.prog c89_1.eq_1) (And.intro (uR Try.prog c89_2.eq_1) (And.intro (uR Try.prog c89_3.eq_1) (And.intro (uR Try.prog c89_4.eq_1) (And.intro (uR Try.prog c89_5.eq_1) (And.intro (uC Try.prog c89_6.eq_1) (And.intro (uC Try.prog c89_7.eq_1) (And.intro (uC Try.prog c89_8.eq_1) (And.intro (uR Try.prog c89_9.eq_1) (And.intro (uC Try.prog c89_10.eq_1) (And.intro (uC Try.prog c89_11.eq_1) (And.intro (uC Try.prog c89_12.eq_1) (And.intro (uC Try.prog c89_13.eq_1) (And.intro (uC Try.prog c89_14.eq_1) (uC Try.prog c89.eq_1))))))))))))))))
def v89 : List RV := [.t 2]
theorem s89 : slimF Try.prog Try.f89 = some (c89.bare, v89) := by kernel_rfl
/-! 67 loop.example/g00066/spec.l1Below: parameters 2, live [0, 1], slots [0:c, 1:n, 2:c, 3:n, 5:x, 6:y, 7:z, 8:w] -/
def c67_0 : List SOper := [⟨some 4, .q (.mv (.c (.int .i64 0))), none⟩]
def c67_1 : List SOper := [⟨some 9, .q (.mv (.t 1)), none⟩, ⟨some 10, .q (.bin .leq (.t 9) (.c (.int .i64 0))), none⟩]
def c67_2 : List SOper := [⟨some 4, .q (.mv (.c (.int .i64 0))), none⟩]
def c67_3 : SCode := .seq (.region c67_2 [4]) .ret
def c67_4 : SCode := .cond (.t 10) c67_3 .skip
def c67_5 : SCode := .seq (.region c67_1 [0, 1, 10]) c67_4
def c67_6 : List SOper := [⟨some 11, .q (.mv (.t 1)), none⟩, ⟨some 12, .q (.bin .leq (.t 11) (.c (.int .i64 256))), none⟩]
def c67_7 : List SOper := [⟨some 13, .q (.mv (.t 0)), none⟩, ⟨some 14, .e (.call 89 [(.t 13)]), none⟩, ⟨some 15, .q (.mv (.t 1)), none⟩, ⟨some 16, .q (.bin .rem (.t 14) (.t 15)), none⟩, ⟨some 4, .q (.mv (.t 16)), none⟩]
def c67_8 : SCode := .seq (.region c67_7 [4]) .ret
def c67_9 : SCode := .cond (.t 12) c67_8 .skip
def c67_10 : SCode := .seq (.region c67_6 [0, 1, 12]) c67_9
def c67_11 : List SOper := [⟨some 17, .q (.mv (.t 0)), none⟩, ⟨some 18, .e (.call 89 [(.t 17)]), none⟩, ⟨some 5, .q (.mv (.t 18)), none⟩]
def c67_12 : List SOper := [⟨some 19, .q (.mv (.t 0)), none⟩, ⟨some 20, .e (.call 89 [(.t 19)]), none⟩, ⟨some 6, .q (.mv (.t 20)), none⟩]
def c67_13 : List SOper := [⟨some 21, .q (.mv (.t 0)), none⟩, ⟨some 22, .e (.call 89 [(.t 21)]), none⟩, ⟨some 7, .q (.mv (.t 22)), none⟩]
def c67_14 : List SOper := [⟨some 23, .q (.mv (.t 0)), none⟩, ⟨some 24, .e (.call 89 [(.t 23)]), none⟩, ⟨some 8, .q (.mv (.t 24)), none⟩]
def c67_15 : List SOper := [⟨some 25, .q (.mv (.t 5)), none⟩, ⟨some 26, .q (.bin .mul (.t 25) (.c (.int .i64 16777216))), none⟩, ⟨some 27, .q (.mv (.t 6)), none⟩, ⟨some 28, .q (.bin .mul (.t 27) (.c (.int .i64 65536))), none⟩, ⟨some 29, .q (.bin .add (.t 26) (.t 28)), none⟩, ⟨some 30, .q (.mv (.t 7)), none⟩, ⟨some 31, .q (.bin .mul (.t 30) (.c (.int .i64 256))), none⟩, ⟨some 32, .q (.bin .add (.t 29) (.t 31)), none⟩, ⟨some 33, .q (.mv (.t 8)), none⟩, ⟨some 34, .q (.bin .add (.t 32) (.t 33)), none⟩, ⟨some 35, .q (.mv (.t 1)), none⟩, ⟨some 36, .q (.bin .rem (.t 34) (.t 35)), none⟩, ⟨some 4, .q (.mv (.t 36)), none⟩]
def c67_16 : SCode := .seq (.region c67_15 [4]) .ret
def c67_17 : SCode := .seq (.region c67_14 [1, 5, 6, 7, 8]) c67_16
def c67_18 : SCode := .seq (.region c67_13 [0, 1, 5, 6, 7]) c67_17
def c67_19 : SCode := .seq (.region c67_12 [0, 1, 5, 6]) c67_18
def c67_20 : SCode := .seq (.region c67_11 [0, 1, 5]) c67_19
def c67_21 : SCode := .seq c67_10 c67_20
def c67_22 : SCode := .seq c67_5 c67_21
def c67_23 : SCode := .seq (.region c67_0 [0, 1]) c67_22
def c67 : SCode := c67_23
theorem w67 : type_of% (And.intro (uR Try.prog c67_0.eq_1) (And.intro (uR Try.prog c67_1.eq_1) (And.intro (uR Try.prog c67_2.eq_1) (And.intro (uC Try.prog c67_3.eq_1) (And.intro (uC Try.prog c67_4.eq_1) (And.intro (uC Try.prog c67_5.eq_1) (And.intro (uR Try.prog c67_6.eq_1) (And.intro (uR Try.prog c67_7.eq_1) (And.intro (uC Try.prog c67_8.eq_1) (And.intro (uC Try.prog c67_9.eq_1) (And.intro (uC Try.prog c67_10.eq_1) (And.intro (uR Try.prog c67_11.eq_1) (And.intro (uR Try.prog c67_12.eq_1) (And.intro (uR Try.prog c67_13.eq_1) (And.intro (uR Try.prog c67_14.eq_1) (And.intro (uR Try.prog c67_15.eq_1) (And.intro (uC Try.prog c67_16.eq_1) (And.intro (uC Try.prog c67_17.eq_1) (And.intro (uC Try.prog c67_18.eq_1) (And.intro (uC Try.prog c67_19.eq_1) (And.intro (uC Try.prog c67_20.eq_1) (And.intro (uC Try.prog c67_21.eq_1) (And.intro (uC Try.prog c67_22.eq_1) (And.intro (uC Try.prog c67_23.eq_1) (uC Try.prog c67.eq_1))))))))))))))))))))))))) := (And.intro (uR Try.prog c67_0.eq_1) (And.intro (uR Try.prog c67_1.eq_1) (And.intro (uR Try.prog c67_2.eq_1) (And.intro (uC Try.prog c67_3.eq_1) (And.intro (uC Try.prog c67_4.eq_1) (And.intro (uC Try.prog c67_5.eq_1) (And.intro (uR Try.prog c67_6.eq_1) (And.intro (uR Try.prog c67_7.eq_1) (And.intro (uC Try.prog c67_8.eq_1) (And.intro (uC Try.prog c67_9.eq_1) (And.intro (uC Try.prog c67_10.eq_1) (And.intro (uR Try.prog c67_11.eq_1) (And.intro (uR Try.prog c67_12.eq_1) (And.intro (uR Try.prog c67_13.eq_1) (And.intro (uR Try.prog c67_14.eq_1) (And.intro (uR Try.prog c67_15.eq_1) (And.intro (uC Try.prog c67_16.eq_1) (And.intro (uC Try.prog c67_17.eq_1) (And.intro (uC Try.prog c67_18.eq_1) (And.intro (uC Try.prog c67_19.eq_1) (And.intro (uC Try.prog c67_20.eq_1) (And.intro (uC Try.prog c67_21.eq_1) (And.intro (uC Try.prog c67_22.eq_1) (And.intro (uC Try.prog c67_23.eq_1) (uC Try.prog c67.eq_1)))))))))))))))))))))))))
def v67 : List RV := [.t 4]
theorem s67 : slimF Try.prog Try.f67 = some (c67.bare, v67) := by kernel_rfl
/-! 35 loop.example/g00066/spec.l1Once: parameters 2, live [0, 1], slots [0:c, 1:n, 2:c, 3:n] -/
def c35_0 : List SOper := [⟨some 4, .q (.mv (.c (.bool false))), none⟩]
def c35_1 : List SOper := [⟨some 5, .q (.mv (.t 0)), none⟩, ⟨some 6, .q (.mv (.t 1)), none⟩, ⟨some 7, .e (.call 67 [(.t 5), (.t 6)]), none⟩, ⟨some 8, .q (.bin .eql (.t 7) (.c (.int .i64 0))), none⟩, ⟨some 4, .q (.mv (.t 8)), none⟩]
def c35_2 : SCode := .seq (.region c35_1 [4]) .ret
def c35_3 : SCode := .seq (.region c35_0 [0, 1]) c35_2
def c35 : SCode := c35_3
theorem w35 : type_of% (And.intro (uR Try.prog c35_0.eq_1) (And.intro (uR Try.prog c35_1.eq_1) (And.intro (uC Try.prog c35_2.eq_1) (And.intro (uC Try.prog c35_3.eq_1) (uC Try.prog c35.eq_1))))) := (And.intro (uR Try.prog c35_0.eq_1) (And.intro (uR Try.prog c35_1.eq_1) (And.intro (uC Try.prog c35_2.eq_1) (And.intro (uC Try.prog c35_3.eq_1) (uC Try.prog c35.eq_1)))))
def v35 : List RV := [.t 4]
theorem s35 : slimF Try.prog Try.f35 = some (c35.bare, v35) := by kernel_rfl
/-! 69 loop.example/g00066/spec.l1From: parameters 3, live [0, 1, 2], slots [0:c, 1:lo, 2:hi, 3:c, 4:lo, 5:hi] -/
def c69_0 : List SOper := [⟨some 6, .q (.mv (.c (.int .i64 0))), none⟩]
def c69_1 : List SOper := [⟨some 7, .q (.mv (.t 1)), none⟩, ⟨some 8, .q (.mv (.t 0)), none⟩, ⟨some 9, .q (.mv (.t 2)), none⟩, ⟨some 10, .q (.mv (.t 1)), none⟩, ⟨some 11, .q (.bin .sub (.t 9) (.t 10)), none⟩, ⟨some 12, .q (.bin .add (.t 11) (.c (.int .i64 1))), none⟩, ⟨some 13, .e (.call 67 [(.t 8), (.t 12)]), none⟩, ⟨some 14, .q (.bin .add (.t 7) (.t 13)), none⟩, ⟨some 6, .q (.mv (.t 14)), none⟩]
def c69_2 : SCode := .seq (.region c69_1 [6]) .ret
def c69_3 : SCode := .seq (.region c69_0 [0, 1, 2]) c69_2
def c69 : SCode := c69_3
theorem w69 : type_of% (And.intro (uR Try.prog c69_0.eq_1) (And.intro (uR Try.prog c69_1.eq_1) (And.intro (uC Try.prog c69_2.eq_1) (And.intro (uC Try.prog c69_3.eq_1) (uC Try.prog c69.eq_1))))) := (And.intro (uR Try.prog c69_0.eq_1) (And.intro (uR Try.prog c69_1.eq_1) (And.intro (uC Try.prog c69_2.eq_1) (And.intro (uC Try.prog c69_3.eq_1) (uC Try.prog c69.eq_1)))))
def v69 : List RV := [.t 6]
theorem s69 : slimF Try.prog Try.f69 = some (c69.bare, v69) := by kernel_rfl

def encByte (x : Int) : List Value := [.int .u8 x]
theorem encByte_len (x : Int) : (encByte x).length = 1 := rfl
theorem big_ok (h : Heap) (v : Value) (l : List Int) (s : SlT h encByte 1 v l) : ACall Try.prog 8 [v] h fun r h' => h' = h ∧ r = .bool (decide (4096 < (l.length : Int))) := by
  refine ACall.of Try.func8 s8 (of_decide_eq_true rfl) ?_
  have R := s.rulesN
  simp (maxSteps := 4000000) (disch := omega) only [ah, am, Nat.reduceEqDiff, reduceCtorEq, Nat.reduceAdd, Nat.reduceLeDiff, Nat.reduceMul, Nat.reduceLT, if_true, if_false, true_and, and_true, and_self, Nat.reduceBEq, QOp.loads, boxO, bslO, buildO, cutL, fillV, putL, w8, v8, R]
/-- A cursor. -/
def Cur (h : Heap) (c : Nat) : Prop := ∃ (h0 : Heap) (bv : Value) (code : List Int) (pos : Nat) (hh : Int), h0.size ≤ c ∧ Ext h0 h ∧ SlT h0 encByte 1 bv code ∧ code.length ≤ 4096 ∧ pos ≤ code.length ∧ Bx h c [bv, .int .i64 pos, .int .i64 hh]
theorem Cur.ext {h h' : Heap} {c : Nat} (k : Cur h c) (e : Ext h h') : Cur h' c := by
  obtain ⟨h0, bv, code, pos, hh, k1, k2, k3, k4, k5, k6⟩ := k
  exact ⟨h0, bv, code, pos, hh, k1, k2.trans e, k3, k4, k5, k6.ext e⟩
theorem Cur.lt {h : Heap} {c : Nat} (k : Cur h c) : c < h.size := by
  obtain ⟨h0, bv, code, pos, hh, k1, k2, k3, k4, k5, k6⟩ := k; exact Heap.get_lt k6
theorem and_bound (a m : Int) (hm : 0 ≤ m ∧ m ≤ 1073741823) : 0 ≤ IntKind.i64.wrap ((BitVec.ofInt IntKind.i64.bits a &&& BitVec.ofInt IntKind.i64.bits m).toNat) ∧ IntKind.i64.wrap ((BitVec.ofInt IntKind.i64.bits a &&& BitVec.ofInt IntKind.i64.bits m).toNat) ≤ m := by
  have h1 : (BitVec.ofInt IntKind.i64.bits m).toNat = m.toNat := by
    rw [BitVec.toNat_ofInt]
    have : ((2 ^ IntKind.i64.bits : Nat) : Int) = 18446744073709551616 := rfl
    rw [this, Int.emod_eq_of_lt (by omega) (by omega)]
  have h2 : (BitVec.ofInt IntKind.i64.bits a &&& BitVec.ofInt IntKind.i64.bits m).toNat ≤ m.toNat := by
    rw [BitVec.toNat_and, h1]; exact Nat.and_le_right
  rw [i64w (by omega)]; omega
theorem l1New_ok (h : Heap) (v : Value) (l : List Int) (s : SlT h encByte 1 v l) (hl : l.length ≤ 4096) : ACall Try.prog 33 [v] h fun r h' => Ext h h' ∧ r = .pointer (some ⟨h.size, 0, none⟩) ∧ Cur h' h.size := by
  refine ACall.of Try.func33 s33 (of_decide_eq_true rfl) ?_
  have R := s.rulesN
  simp (maxSteps := 4000000) (disch := omega) only [ah, am, Nat.reduceEqDiff, reduceCtorEq, Nat.reduceAdd, Nat.reduceLeDiff, Nat.reduceMul, Nat.reduceLT, if_true, if_false, true_and, and_true, and_self, Nat.reduceBEq, QOp.loads, boxO, bslO, buildO, cutL, fillV, putL, w33, v33, R, i64w]
  refine SW_loop_up (fun i E H => ∃ hh, E = [(0, v), (3, .int .i64 hh), (4, .int .i64 i)] ∧ H = h) l.length 0 (by omega) ⟨_, rfl, rfl⟩ ?_
  rintro i E H hi ⟨hh, rfl, rfl⟩
  have W : IntKind.i64.wrap ((i : Int) + 1) = ((i + 1 : Nat) : Int) := i64e (by omega) (by omega)
  simp (maxSteps := 4000000) (disch := omega) only [ah, am, Nat.reduceEqDiff, reduceCtorEq, Nat.reduceAdd, Nat.reduceLeDiff, Nat.reduceMul, Nat.reduceLT, if_true, if_false, true_and, and_true, and_self, Nat.reduceBEq, QOp.loads, boxO, bslO, buildO, cutL, fillV, putL, w33, v33, R]
  refine stepI.split (fun hp => ?_) (fun hp => ?_)
  · simp (maxSteps := 4000000) (disch := omega) only [ah, am, Nat.reduceEqDiff, reduceCtorEq, Nat.reduceAdd, Nat.reduceLeDiff, Nat.reduceMul, Nat.reduceLT, if_true, if_false, true_and, and_true, and_self, Nat.reduceBEq, QOp.loads, boxO, bslO, buildO, cutL, fillV, putL, w33, v33, R, W, encByte]
    exact ⟨by omega, _, rfl⟩
  · obtain ⟨c1, o1⟩ : v.cells = #[v] ∧ ∀ L, oneB (v :: L) = oneB L := by
      rcases s.sl with ⟨rfl, _⟩ | ⟨rfl, _⟩ | ⟨i, o, n, ob, rfl, _⟩ <;> exact ⟨rfl, fun _ => rfl⟩
    simp (maxSteps := 4000000) (disch := omega) only [ah, am, Nat.reduceEqDiff, reduceCtorEq, Nat.reduceAdd, Nat.reduceLeDiff, Nat.reduceMul, Nat.reduceLT, if_true, if_false, true_and, and_true, and_self, Nat.reduceBEq, QOp.loads, boxO, bslO, buildO, cutL, fillV, putL, w33, v33, c1, o1, size_mk, List.size_toArray, List.reduceReplicate]
    exact ⟨Ext.more _ _, H, v, l, 0, hh, Nat.le_refl _, Ext.more _ _, s, hl, by omega, Bx.new H _ []⟩
theorem l1Byte_ok (h : Heap) (c : Nat) (k : Cur h c) : ACall Try.prog 89 [.pointer (some ⟨c, 0, none⟩)] h fun r h' => ∃ n, r = .int .i64 n ∧ (0 ≤ n ∧ n ≤ 255) ∧ ExtG c h h' ∧ Cur h' c := by
  obtain ⟨h0, bv, code, pos, hh, k1, k2, k3, k4, k5, k6⟩ := k
  refine ACall.of Try.func89 s89 (of_decide_eq_true rfl) ?_
  have X := k6.ld
  obtain ⟨h1, es1, b1, g1⟩ := k6.put (o := 2) (n := 1) (y := .int .i64 (IntKind.i64.wrap (IntKind.i64.wrap (hh * 6364136223846793005) + 1442695040888963407))) rfl (by simp) rfl
  obtain ⟨h2, hh2⟩ : ∃ h2, IntKind.i64.wrap (IntKind.i64.wrap (hh * 6364136223846793005) + 1442695040888963407) = h2 := ⟨_, rfl⟩
  rw [hh2] at es1 b1
  simp only [splice, cells_int, List.take_succ_cons, List.take_zero, List.cons_append, List.nil_append, List.append_nil, List.length_cons, List.length_nil, List.drop_succ_cons, List.drop_zero, Nat.reduceAdd] at b1
  have X1 := b1.ld
  have e1 : Ext h0 h1 := g1.ext k2 k1
  have R := (k3.ext e1).rulesN
  simp (maxSteps := 4000000) (disch := omega) only [ah, am, Nat.reduceEqDiff, reduceCtorEq, Nat.reduceAdd, Nat.reduceLeDiff, Nat.reduceMul, Nat.reduceLT, if_true, if_false, true_and, and_true, and_self, Nat.reduceBEq, QOp.loads, boxO, bslO, buildO, cutL, fillV, putL, w89, v89, X, hh2, es1, X1, R]
  refine stepI.split (fun hp => ?_) (fun hp => ?_)
  · obtain ⟨h3, es2, b2, g2⟩ := b1.put (o := 1) (n := 1) (y := .int .i64 ((pos + 1 : Nat) : Int)) rfl (by simp) rfl
    simp only [splice, cells_int, List.take_succ_cons, List.take_zero, List.cons_append, List.nil_append, List.append_nil, List.length_cons, List.length_nil, List.drop_succ_cons, List.drop_zero, Nat.reduceAdd] at b2
    have W : IntKind.i64.wrap ((pos : Int) + 1) = ((pos + 1 : Nat) : Int) := i64e (by omega) (by omega)
    simp (maxSteps := 4000000) (disch := omega) only [ah, am, Nat.reduceEqDiff, reduceCtorEq, Nat.reduceAdd, Nat.reduceLeDiff, Nat.reduceMul, Nat.reduceLT, if_true, if_false, true_and, and_true, and_self, Nat.reduceBEq, QOp.loads, boxO, bslO, buildO, cutL, fillV, putL, w89, v89, X1, es2, R, encByte, W]
    exact ⟨_, rfl, and_bound _ 255 (by omega), g1.trans g2, h0, bv, code, pos + 1, h2, k1, g2.ext e1 k1, k3, k4, by omega, b2⟩
  · simp (maxSteps := 4000000) (disch := omega) only [ah, am, Nat.reduceEqDiff, reduceCtorEq, Nat.reduceAdd, Nat.reduceLeDiff, Nat.reduceMul, Nat.reduceLT, if_true, if_false, true_and, and_true, and_self, Nat.reduceBEq, QOp.loads, boxO, bslO, buildO, cutL, fillV, putL, w89, v89, X1]
    exact ⟨_, rfl, and_bound _ 255 (by omega), g1, h0, bv, code, pos, h2, k1, e1, k3, k4, k5, b1⟩
theorem l1Below_ok (h : Heap) (c : Nat) (n : Int) (k : Cur h c) : ACall Try.prog 67 [.pointer (some ⟨c, 0, none⟩), .int .i64 n] h
    fun r h' => ∃ x, r = .int .i64 x ∧ 0 ≤ x ∧ (0 < n → x < n) ∧ (n ≤ 0 → x = 0) ∧ ExtG c h h' ∧ Cur h' c := by
  refine ACall.of Try.func67 s67 (of_decide_eq_true rfl) ?_
  by_cases h0 : n ≤ 0
  · have h0' : decide (n ≤ 0) = true := decide_eq_true h0
    simp (maxSteps := 4000000) (disch := omega) only [ah, am, Nat.reduceEqDiff, reduceCtorEq, Nat.reduceAdd, Nat.reduceLeDiff, Nat.reduceMul, Nat.reduceLT, if_true, if_false, true_and, and_true, and_self, Nat.reduceBEq, QOp.loads, boxO, bslO, buildO, cutL, fillV, putL, w67, v67, h0']
    exact ⟨_, rfl, by omega, by omega, by omega, ExtG.refl c h, k⟩
  have h0' : decide (n ≤ 0) = false := decide_eq_false h0
  have hn : n ≠ 0 := by omega
  by_cases h1 : n ≤ 256
  · have h1' : decide (n ≤ 256) = true := decide_eq_true h1
    simp (maxSteps := 4000000) (disch := omega) only [ah, am, Nat.reduceEqDiff, reduceCtorEq, Nat.reduceAdd, Nat.reduceLeDiff, Nat.reduceMul, Nat.reduceLT, if_true, if_false, true_and, and_true, and_self, Nat.reduceBEq, QOp.loads, boxO, bslO, buildO, cutL, fillV, putL, w67, v67, h0', h1']
    refine stepC.of (l1Byte_ok _ _ k) ?_
    rintro _ H1 ⟨x, rfl, hx, g1, k1⟩
    simp (maxSteps := 4000000) (disch := omega) only [ah, am, Nat.reduceEqDiff, reduceCtorEq, Nat.reduceAdd, Nat.reduceLeDiff, Nat.reduceMul, Nat.reduceLT, if_true, if_false, true_and, and_true, and_self, Nat.reduceBEq, QOp.loads, boxO, bslO, buildO, cutL, fillV, putL, w67, v67, hn, ne_eq]
    rw [Int.tmod_eq_emod_of_nonneg hx.1]
    exact ⟨_, rfl, Int.emod_nonneg _ hn, fun _ => Int.emod_lt_of_pos _ (by omega), by omega, g1, k1⟩
  · have h1' : decide (n ≤ 256) = false := decide_eq_false h1
    simp (maxSteps := 4000000) (disch := omega) only [ah, am, Nat.reduceEqDiff, reduceCtorEq, Nat.reduceAdd, Nat.reduceLeDiff, Nat.reduceMul, Nat.reduceLT, if_true, if_false, true_and, and_true, and_self, Nat.reduceBEq, QOp.loads, boxO, bslO, buildO, cutL, fillV, putL, w67, v67, h0', h1']
    refine stepC.of (l1Byte_ok _ _ k) ?_
    rintro _ H1 ⟨x1, rfl, hx1, g1, k1⟩
    simp (maxSteps := 4000000) (disch := omega) only [ah, am, Nat.reduceEqDiff, reduceCtorEq, Nat.reduceAdd, Nat.reduceLeDiff, Nat.reduceMul, Nat.reduceLT, if_true, if_false, true_and, and_true, and_self, Nat.reduceBEq, QOp.loads, boxO, bslO, buildO, cutL, fillV, putL, w67, v67]
    refine stepC.of (l1Byte_ok _ _ k1) ?_
    rintro _ H2 ⟨x2, rfl, hx2, g2, k2⟩
    simp (maxSteps := 4000000) (disch := omega) only [ah, am, Nat.reduceEqDiff, reduceCtorEq, Nat.reduceAdd, Nat.reduceLeDiff, Nat.reduceMul, Nat.reduceLT, if_true, if_false, true_and, and_true, and_self, Nat.reduceBEq, QOp.loads, boxO, bslO, buildO, cutL, fillV, putL, w67, v67]
    refine stepC.of (l1Byte_ok _ _ k2) ?_
    rintro _ H3 ⟨x3, rfl, hx3, g3, k3⟩
    simp (maxSteps := 4000000) (disch := omega) only [ah, am, Nat.reduceEqDiff, reduceCtorEq, Nat.reduceAdd, Nat.reduceLeDiff, Nat.reduceMul, Nat.reduceLT, if_true, if_false, true_and, and_true, and_self, Nat.reduceBEq, QOp.loads, boxO, bslO, buildO, cutL, fillV, putL, w67, v67]
    refine stepC.of (l1Byte_ok _ _ k3) ?_
    rintro _ H4 ⟨x4, rfl, hx4, g4, k4⟩
    simp (maxSteps := 4000000) (disch := omega) only [ah, am, Nat.reduceEqDiff, reduceCtorEq, Nat.reduceAdd, Nat.reduceLeDiff, Nat.reduceMul, Nat.reduceLT, if_true, if_false, true_and, and_true, and_self, Nat.reduceBEq, QOp.loads, boxO, bslO, buildO, cutL, fillV, putL, w67, v67, hn, ne_eq, i64w]
    rw [Int.tmod_eq_emod_of_nonneg (by omega)]
    exact ⟨_, rfl, Int.emod_nonneg _ hn, fun _ => Int.emod_lt_of_pos _ (by omega), by omega, ((g1.trans g2).trans g3).trans g4, k4⟩
theorem l1Once_ok (h : Heap) (c : Nat) (n : Int) (k : Cur h c) : ACall Try.prog 35 [.pointer (some ⟨c, 0, none⟩), .int .i64 n] h
    fun r h' => ∃ b, r = .bool b ∧ ExtG c h h' ∧ Cur h' c := by
  refine ACall.of Try.func35 s35 (of_decide_eq_true rfl) ?_
  simp (maxSteps := 4000000) (disch := omega) only [ah, am, Nat.reduceEqDiff, reduceCtorEq, Nat.reduceAdd, Nat.reduceLeDiff, Nat.reduceMul, Nat.reduceLT, if_true, if_false, true_and, and_true, and_self, Nat.reduceBEq, QOp.loads, boxO, bslO, buildO, cutL, fillV, putL, w35, v35]
  refine stepC.of (l1Below_ok _ _ _ k) ?_
  rintro _ H1 ⟨x, rfl, _, _, _, g1, k1⟩
  simp (maxSteps := 4000000) (disch := omega) only [ah, am, Nat.reduceEqDiff, reduceCtorEq, Nat.reduceAdd, Nat.reduceLeDiff, Nat.reduceMul, Nat.reduceLT, if_true, if_false, true_and, and_true, and_self, Nat.reduceBEq, QOp.loads, boxO, bslO, buildO, cutL, fillV, putL, w35, v35]
  exact ⟨_, rfl, g1, k1⟩
theorem l1From_ok (h : Heap) (c : Nat) (lo hi : Int) (k : Cur h c) (h1 : -1000000000000000 ≤ lo) (h2 : lo ≤ hi) (h3 : hi ≤ 1000000000000000) : ACall Try.prog 69 [.pointer (some ⟨c, 0, none⟩), .int .i64 lo, .int .i64 hi] h
    fun r h' => ∃ x, r = .int .i64 x ∧ (lo ≤ x ∧ x ≤ hi) ∧ ExtG c h h' ∧ Cur h' c := by
  refine ACall.of Try.func69 s69 (of_decide_eq_true rfl) ?_
  simp (maxSteps := 4000000) (disch := omega) only [ah, am, Nat.reduceEqDiff, reduceCtorEq, Nat.reduceAdd, Nat.reduceLeDiff, Nat.reduceMul, Nat.reduceLT, if_true, if_false, true_and, and_true, and_self, Nat.reduceBEq, QOp.loads, boxO, bslO, buildO, cutL, fillV, putL, w69, v69, i64w]
  refine stepC.of (l1Below_ok _ _ _ k) ?_
  rintro _ H1 ⟨x, rfl, q1, q2, _, g1, k1⟩
  simp (maxSteps := 4000000) (disch := omega) only [ah, am, Nat.reduceEqDiff, reduceCtorEq, Nat.reduceAdd, Nat.reduceLeDiff, Nat.reduceMul, Nat.reduceLT, if_true, if_false, true_and, and_true, and_self, Nat.reduceBEq, QOp.loads, boxO, bslO, buildO, cutL, fillV, putL, w69, v69, i64w]
  exact ⟨_, rfl, by omega, g1, k1⟩
end Go.Proofs.Ytbnppofkpgfhnaa

namespace Go.Proofs.Ytbnppofkpgfhnaa
open Go Go.Ah
set_option linter.unusedSimpArgs false
set_option linter.unusedVariables false
set_option maxRecDepth 10000
set_option maxHeartbeats 4000000
/-! 68 loop.example/g00066/spec.l4DrawClip: parameters 1, live [0], slots [0:c, 1:c, 3:k] -/
def c68_0 : List SOper := [⟨some 2, .a (.new [(.int .i64 0), (.int .i64 0), (.int .i64 0)]), none⟩]
def c68_1 : List SOper := [⟨some 4, .q (.mv (.t 0)), none⟩, ⟨some 5, .e (.call 67 [(.t 4), (.c (.int .i64 4))]), none⟩, ⟨some 6, .q (.mv (.t 0)), none⟩, ⟨some 7, .e (.call 67 [(.t 6), (.c (.int .i64 40))]), none⟩, ⟨some 8, .q (.mv (.t 0)), none⟩, ⟨some 9, .e (.call 67 [(.t 8), (.c (.int .i64 20))]), none⟩, ⟨some 10, .q (.bin .add (.c (.int .i64 1)) (.t 9)), none⟩, ⟨some 11, .q (.build [(.int .i64 0), (.int .i64 0), (.int .i64 0)] [(0, 1, (.t 5)), (1, 1, (.t 7)), (2, 1, (.t 10))]), none⟩, ⟨some 3, .a (.new [(.int .i64 0), (.int .i64 0), (.int .i64 0)]), none⟩, ⟨none, .e (.st 3 (.t 3) (.t 11)), none⟩]
def c68_2 : List SOper := [⟨some 12, .q (.fa 0 (.t 3)), none⟩, ⟨some 13, .q (.ld (.t 12)), none⟩, ⟨some 14, .q (.bin .eql (.t 13) (.c (.int .i64 0))), none⟩]
def c68_3 : List SOper := [⟨some 15, .q (.fa 1 (.t 3)), none⟩, ⟨none, .e (.st 1 (.t 15) (.c (.int .i64 0))), none⟩]
def c68_4 : SCode := .cond (.t 14) (.region c68_3 [0, 2, 3]) .skip
def c68_5 : SCode := .seq (.region c68_2 [0, 2, 3, 14]) c68_4
def c68_6 : List SOper := [⟨some 16, .q (.mv (.t 0)), none⟩, ⟨some 17, .e (.call 35 [(.t 16), (.c (.int .i64 40))]), none⟩]
def c68_7 : List SOper := [⟨some 18, .q (.mv (.t 0)), none⟩, ⟨some 19, .e (.call 67 [(.t 18), (.c (.int .i64 4))]), none⟩]
def c68_8 : List SOper := [⟨some 21, .q (.bin .eql (.t 19) (.c (.int .i64 0))), none⟩, ⟨some 20, .q (.mv (.t 21)), none⟩]
def c68_9 : List SOper := [⟨some 22, .a (.bsl 3 1 [(.int .i64 0), (.int .i64 0), (.int .i64 0)] [(0, 1, (.c (.int .i64 (-1)))), (1, 1, (.c (.int .i64 500))), (2, 1, (.c (.int .i64 501)))]), none⟩, ⟨some 23, .q (.mv (.t 0)), none⟩, ⟨some 24, .e (.call 67 [(.t 23), (.c (.int .i64 3))]), none⟩, ⟨some 25, .q (.ia 1 (.t 22) (.t 24)), none⟩, ⟨some 26, .q (.ld (.t 25)), none⟩, ⟨some 27, .q (.fa 0 (.t 3)), none⟩, ⟨none, .e (.st 1 (.t 27) (.t 26)), none⟩]
def c68_10 : List SOper := [⟨some 29, .q (.bin .eql (.t 19) (.c (.int .i64 1))), none⟩, ⟨some 28, .q (.mv (.t 29)), none⟩]
def c68_11 : List DOper := [⟨0, ⟨some 30, .q (.fa 2 (.t 3)), none⟩, [], []⟩, ⟨1, ⟨some 31, .q (.ld (.t 30)), none⟩, [], []⟩, ⟨2, ⟨some 32, .q (.bin .sub (.c (.int .i64 10000000)) (.t 31)), none⟩, [], []⟩, ⟨3, ⟨some 33, .q (.fa 2 (.t 3)), none⟩, [], []⟩, ⟨4, ⟨some 34, .q (.ld (.t 33)), none⟩, [], []⟩, ⟨5, ⟨some 35, .q (.bin .sub (.c (.int .i64 10000000)) (.t 34)), none⟩, [], []⟩, ⟨6, ⟨some 36, .q (.bin .add (.t 35) (.c (.int .i64 1))), none⟩, [], []⟩, ⟨7, ⟨some 37, .a (.bsl 5 1 [(.int .i64 0), (.int .i64 0), (.int .i64 0), (.int .i64 0), (.int .i64 0)] [(0, 1, (.c (.int .i64 (-1)))), (1, 1, (.c (.int .i64 10000000))), (2, 1, (.t 32)), (3, 1, (.t 36)), (4, 1, (.c (.int .i64 4611686018427387904)))]), none⟩, [], []⟩, ⟨8, ⟨some 38, .q (.mv (.t 0)), none⟩, [], []⟩, ⟨9, ⟨some 39, .e (.call 67 [(.t 38), (.c (.int .i64 5))]), none⟩, [], [4, 1]⟩, ⟨10, ⟨some 40, .q (.ia 1 (.t 37) (.t 39)), none⟩, [], []⟩, ⟨11, ⟨some 41, .q (.ld (.t 40)), none⟩, [], []⟩, ⟨12, ⟨some 42, .q (.fa 1 (.t 3)), none⟩, [], []⟩, ⟨13, ⟨none, .e (.st 1 (.t 42) (.t 41)), none⟩, [], []⟩]
def c68_12 : List SOper := [⟨some 44, .q (.bin .eql (.t 19) (.c (.int .i64 2))), none⟩, ⟨some 43, .q (.mv (.t 44)), none⟩]
def c68_13 : List SOper := [⟨some 45, .a (.bsl 5 1 [(.int .i64 0), (.int .i64 0), (.int .i64 0), (.int .i64 0), (.int .i64 0)] [(0, 1, (.c (.int .i64 0))), (1, 1, (.c (.int .i64 (-1)))), (2, 1, (.c (.int .i64 10000000))), (3, 1, (.c (.int .i64 10000001))), (4, 1, (.c (.int .i64 4611686018427387904)))]), none⟩, ⟨some 46, .q (.mv (.t 0)), none⟩, ⟨some 47, .e (.call 67 [(.t 46), (.c (.int .i64 5))]), none⟩, ⟨some 48, .q (.ia 1 (.t 45) (.t 47)), none⟩, ⟨some 49, .q (.ld (.t 48)), none⟩, ⟨some 50, .q (.fa 2 (.t 3)), none⟩, ⟨none, .e (.st 1 (.t 50) (.t 49)), none⟩]
def c68_14 : List SOper := [⟨some 52, .q (.bin .eql (.t 19) (.c (.int .i64 3))), none⟩, ⟨some 51, .q (.mv (.t 52)), none⟩]
def c68_15 : List SOper := [⟨some 53, .q (.build [(.int .i64 0), (.int .i64 0), (.int .i64 0)] [(1, 1, (.c (.int .i64 1))), (2, 1, (.c (.int .i64 3)))]), none⟩, ⟨none, .e (.st 3 (.t 3) (.t 53)), none⟩]
def c68_16 : SCode := .cond (.t 51) (.region c68_15 [2, 3]) .skip
def c68_17 : SCode := .seq (.region c68_14 [2, 3, 51]) c68_16
def c68_18 : SCode := .cond (.t 43) (.region c68_13 [2, 3]) c68_17
def c68_19 : SCode := .seq (.region c68_12 [0, 2, 3, 19, 43]) c68_18
def c68_20 : SCode := .cond (.t 28) (.dregion c68_11 [2, 3]) c68_19
def c68_21 : SCode := .seq (.region c68_10 [0, 2, 3, 19, 28]) c68_20
def c68_22 : SCode := .cond (.t 20) (.region c68_9 [2, 3]) c68_21
def c68_23 : SCode := .seq (.region c68_8 [0, 2, 3, 19, 20]) c68_22
def c68_24 : SCode := .block 0 c68_23
def c68_25 : SCode := .seq (.region c68_7 [0, 2, 3, 19]) c68_24
def c68_26 : SCode := .cond (.t 17) c68_25 .skip
def c68_27 : SCode := .seq (.region c68_6 [0, 2, 3, 17]) c68_26
def c68_28 : List SOper := [⟨some 54, .q (.ldn 3 (.t 3)), none⟩, ⟨none, .e (.st 3 (.t 2) (.t 54)), none⟩]
def c68_29 : SCode := .seq (.region c68_28 [2]) .ret
def c68_30 : SCode := .seq c68_27 c68_29
def c68_31 : SCode := .seq c68_5 c68_30
def c68_32 : SCode := .seq (.region c68_1 [0, 2, 3]) c68_31
def c68_33 : SCode := .seq (.region c68_0 [0, 2]) c68_32
def c68 : SCode := c68_33
theorem w68 : type_of% (And.intro (uR Try.prog c68_0.eq_1) (And.intro (uR Try.prog c68_1.eq_1) (And.intro (uR Try.prog c68_2.eq_1) (And.intro (uR Try.prog c68_3.eq_1) (And.intro (uC Try.prog c68_4.eq_1) (And.intro (uC Try.prog c68_5.eq_1) (And.intro (uR Try.prog c68_6.eq_1) (And.intro (uR Try.prog c68_7.eq_1) (And.intro (uR Try.prog c68_8.eq_1) (And.intro (uR Try.prog c68_9.eq_1) (And.intro (uR Try.prog c68_10.eq_1) (And.intro (uD Try.prog c68_11.eq_1) (And.intro (uR Try.prog c68_12.eq_1) (And.intro (uR Try.prog c68_13.eq_1) (And.intro (uR Try.prog c68_14.eq_1) (And.intro (uR Try.prog c68_15.eq_1) (And.intro (uC Try.prog c68_16.eq_1) (And.intro (uC Try.prog c68_17.eq_1) (And.intro (uC Try.prog c68_18.eq_1) (And.intro (uC Try.prog c68_19.eq_1) (And.intro (uC Try.prog c68_20.eq_1) (And.intro (uC Try.prog c68_21.eq_1) (And.intro (uC Try.prog c68_22.eq_1) (And.intro (uC Try.prog c68_23.eq_1) (And.intro (uC Try.prog c68_24.eq_1) (And.intro (uC Try.prog c68_25.eq_1) (And.intro (uC Try.prog c68_26.eq_1) (And.intro (uC Try.prog c68_27.eq_1) (And.intro (uR Try.prog c68_28.eq_1) (And.intro (uC Try.prog c68_29.eq_1) (And.intro (uC Try.prog c68_30.eq_1) (And.intro (uC Try.prog c68_31.eq_1) (And.intro (uC Try.prog c68_32.eq_1) (And.intro (uC Try.prog c68_33.eq_1) (uC Try.prog c68.eq_1))))))))))))))))))))))))))))))))))) := (And.intro (uR Try.prog c68_0.eq_1) (And.intro (uR Try.prog c68_1.eq_1) (And.intro (uR Try.prog c68_2.eq_1) (And.intro (uR Try.prog c68_3.eq_1) (And.intro (uC Try.prog c68_4.eq_1) (And.intro (uC Try.prog c68_5.eq_1) (And.intro (uR Try.prog c68_6.eq_1) (And.intro (uR Try.prog c68_7.eq_1) (And.intro (uR Try.prog c68_8.eq_1) (And.intro (uR Try.prog c68_9.eq_1) (And.intro (uR Try.prog c68_10.eq_1) (And.intro (uD Try.prog c68_11.eq_1) (And.intro (uR Try.prog c68_12.eq_1) (And.intro (uR Try.prog c68_13.eq_1) (And.intro (uR Try.prog c68_14.eq_1) (And.intro (uR Try.prog c68_15.eq_1) (And.intro (uC Try.prog c68_16.eq_1) (And.intro (uC Try.prog c68_17.eq_1) (And.intro (uC Try.prog c68_18.eq_1) (And.intro (uC Try.prog c68_19.eq_1) (And.intro (uC Try.prog c68_20.eq_1) (And.intro (uC Try.prog c68_21.eq_1) (And.intro (uC Try.prog c68_22.eq_1) (And.intro (uC Try.prog c68_23.eq_1) (And.intro (uC Try.prog c68_24.eq_1) (And.intro (uC Try.prog c68_25.eq_1) (And.intro (uC Try.prog c68_26.eq_1) (And.intro (uC Try.prog c68_27.eq_1) (And.intro (uR Try.prog c68_28.eq_1) (And.intro (uC Try.prog c68_29.eq_1) (And.intro (uC Try.prog c68_30.eq_1) (And.intro (uC Try.prog c68_31.eq_1) (And.intro (uC Try.prog c68_32.eq_1) (And.intro (uC Try.prog c68_33.eq_1) (uC Try.prog c68.eq_1)))))))))))))))))))))))))))))))))))
def v68 : List RV := [.c 2 (some 3)]
theorem s68 : slimF Try.prog Try.f68 = some (c68.bare, v68) := by kernel_rfl

/-- A clip as drawn: its source is never 300. -/
def drawn (k : Clip) : Prop := k.src ≠ 300
/-- A call that draws: nothing but the cursor changes. -/
def Drew (c : Nat) (h h' : Heap) : Prop := ExtG c h h' ∧ Cur h' c
theorem Cur.step {h h' : Heap} {c i : Nat} (k : Cur h c) (g : ExtG i h h') (hi : c < i) : Cur h' c := by
  obtain ⟨h0, bv, code, pos, hh, k1, k2, k3, k4, k5, k6⟩ := k
  exact ⟨h0, bv, code, pos, hh, k1, g.ext k2 (by omega), k3, k4, k5, k6.step g (by omega)⟩
/-- The answer is stored into its box. -/
theorem draw_leaf {h H : Heap} {c i2 : Nat} {cs2 : List Value} {a : Clip} (k : Cur H c) (x : ExtX [c] h H) (hc : c < h.size) (b2 : Bx H i2 cs2) (h2 : h.size ≤ i2) (hl : cs2.length = 3) :
    ∃ H', stV H 3 (.pointer (some ⟨i2, 0, none⟩)) (.agg [.int .i64 a.src, .int .i64 a.inn, .int .i64 a.len].toArray) = some H' ∧ Drew c h H' ∧ (∀ o n, ldnV H' n (.pointer (some ⟨i2, o, none⟩)) = cutL [.int .i64 a.src, .int .i64 a.inn, .int .i64 a.len] o n) := by
  obtain ⟨H', es, b, g⟩ := b2.put (o := 0) (n := 3) (y := .agg [.int .i64 a.src, .int .i64 a.inn, .int .i64 a.len].toArray) rfl (by omega) rfl
  refine ⟨H', es, ⟨(x.top g h2).toG, k.step g (by omega)⟩, ?_⟩
  have hs : splice cs2 0 (Value.agg [.int .i64 a.src, .int .i64 a.inn, .int .i64 a.len].toArray).cells.toList = [.int .i64 a.src, .int .i64 a.inn, .int .i64 a.len] := by
    simp only [splice, cells_agg, List.take_zero, List.nil_append]
    rw [List.drop_eq_nil_of_le (by simp [hl])]; rfl
  rw [hs] at b
  exact b.ld.2
theorem l4DrawClip_ok (h : Heap) (c : Nat) (k : Cur h c) : ACall Try.prog 68 [.pointer (some ⟨c, 0, none⟩)] h fun r h' => ∃ a : Clip, r = .agg (encClip a).toArray ∧ drawn a ∧ Drew c h h' := by
  refine ACall.of Try.func68 s68 (of_decide_eq_true rfl) ?_
  have hc := k.lt
  have hcr : ∀ H : Heap, Cur H c → ∀ n, ACall Try.prog 67 [.pointer (some ⟨c, 0, none⟩), .int .i64 n] H fun r h' => ∃ x, r = .int .i64 x ∧ 0 ≤ x ∧ (0 < n → x < n) ∧ (n ≤ 0 → x = 0) ∧ ExtG c H h' ∧ Cur h' c := fun H k n => l1Below_ok H c n k
  simp (maxSteps := 4000000) (disch := omega) only [ah, am, Nat.reduceEqDiff, reduceCtorEq, Nat.reduceAdd, Nat.reduceLeDiff, Nat.reduceMul, Nat.reduceLT, if_true, if_false, true_and, and_true, and_self, Nat.reduceBEq, QOp.loads, boxO, bslO, buildO, cutL, fillV, putL, w68, v68]
  have k0 := k.ext (Ext.more h [[.int .i64 0, .int .i64 0, .int .i64 0]])
  refine stepC.of (hcr _ k0 _) ?_
  rintro _ H1 ⟨x1, rfl, p1, p2, _, g1, k1⟩
  simp (maxSteps := 4000000) (disch := omega) only [ah, am, Nat.reduceEqDiff, reduceCtorEq, Nat.reduceAdd, Nat.reduceLeDiff, Nat.reduceMul, Nat.reduceLT, if_true, if_false, true_and, and_true, and_self, Nat.reduceBEq, QOp.loads, boxO, bslO, buildO, cutL, fillV, putL, w68, v68]
  refine stepC.of (hcr _ k1 _) ?_
  rintro _ H2 ⟨x2, rfl, q1, q2, _, g2, k2⟩
  simp (maxSteps := 4000000) (disch := omega) only [ah, am, Nat.reduceEqDiff, reduceCtorEq, Nat.reduceAdd, Nat.reduceLeDiff, Nat.reduceMul, Nat.reduceLT, if_true, if_false, true_and, and_true, and_self, Nat.reduceBEq, QOp.loads, boxO, bslO, buildO, cutL, fillV, putL, w68, v68]
  refine stepC.of (hcr _ k2 _) ?_
  rintro _ H3 ⟨x3, rfl, r1, r2, _, g3, k3⟩
  have b0 : Bx H3 h.size [.int .i64 0, .int .i64 0, .int .i64 0] := ((((Bx.new h [.int .i64 0, .int .i64 0, .int .i64 0] []).step g1 (by omega)).step g2 (by omega)).step g3 (by omega))
  have x0 : ExtX [c] h H3 := (((Ext.more h [[.int .i64 0, .int .i64 0, .int .i64 0]]).toX.trans g1.x).trans g2.x).trans g3.x
  have hlt : h.size < H3.size := Heap.get_lt b0
  have tail : ∀ (E : Env) (a : Clip), drawn a → E.get 0 = some (.pointer (some ⟨c, 0, none⟩)) → E.get 2 = some (.pointer (some ⟨h.size, 0, none⟩)) → E.get 3 = some (.pointer (some ⟨H3.size, 0, none⟩)) →
      SW Try.prog c68_30 (retQ [RV.c 2 (some 3)] fun r h' => ∃ a : Clip, r = Value.agg (encClip a).toArray ∧ drawn a ∧ Drew c h h') E (H3.more [encClip a]) := by
    intro E a da E0 E2 E3
    have b2 := b0.ext (Ext.more H3 [encClip a])
    have b3 := Bx.new H3 (encClip a) []
    have k4 := k3.ext (Ext.more H3 [encClip a])
    have x4 := x0.trans (Ext.more H3 [encClip a]).toX
    have on := l1Once_ok (H3.more [encClip a]) c 40 k4
    simp only [encClip] at on
    simp (maxSteps := 4000000) (disch := omega) only [ah, am, Nat.reduceEqDiff, reduceCtorEq, Nat.reduceAdd, Nat.reduceLeDiff, Nat.reduceMul, Nat.reduceLT, if_true, if_false, true_and, and_true, and_self, Nat.reduceBEq, QOp.loads, boxO, bslO, buildO, cutL, fillV, putL, w68, v68, E0, E2, E3, encClip]
    refine stepC.of on ?_
    rintro _ H5 ⟨b, rfl, g5, k5⟩
    have x5 := x4.trans g5.x
    have b2 := b2.step g5 (by omega)
    have b3 := b3.step g5 (by omega)
    have X5 := b3.ld
    simp only [encClip] at X5
    cases b with
    | false =>
      obtain ⟨H6, es, dr, Y⟩ := draw_leaf (a := a) k5 x5 hc b2 (Nat.le_refl _) rfl
      simp (maxSteps := 4000000) (disch := omega) only [ah, am, Nat.reduceEqDiff, reduceCtorEq, Nat.reduceAdd, Nat.reduceLeDiff, Nat.reduceMul, Nat.reduceLT, if_true, if_false, true_and, and_true, and_self, Nat.reduceBEq, QOp.loads, boxO, bslO, buildO, cutL, fillV, putL, w68, v68, E0, E2, E3, X5, es, Y]
      exact ⟨a, rfl, da, dr⟩
    | true =>
      simp (maxSteps := 4000000) (disch := omega) only [ah, am, Nat.reduceEqDiff, reduceCtorEq, Nat.reduceAdd, Nat.reduceLeDiff, Nat.reduceMul, Nat.reduceLT, if_true, if_false, true_and, and_true, and_self, Nat.reduceBEq, QOp.loads, boxO, bslO, buildO, cutL, fillV, putL, w68, v68, E0, E2, E3]
      refine stepC.of (hcr _ k5 _) ?_
      rintro _ H6 ⟨y, rfl, y1, y2, _, g6, k6⟩
      have x6 := x5.trans g6.x
      have b2 := b2.step g6 (by omega)
      have b3 := b3.step g6 (by omega)
      have X6 := b3.ld
      simp only [encClip] at X6
      have hy3 : y < 4 := y2 (by omega)
      by_cases hb0 : y = 0
      · have hb0' : decide (y = 0) = true := decide_eq_true hb0
        have b4 := Bx.new H6 [.int .i64 (-1), .int .i64 (500), .int .i64 (501)] []
        have k6' := k6.ext (Ext.more H6 [[.int .i64 (-1), .int .i64 (500), .int .i64 (501)]])
        have x6' := x6.trans (Ext.more H6 [[.int .i64 (-1), .int .i64 (500), .int .i64 (501)]]).toX
        have b2' := b2.ext (Ext.more H6 [[.int .i64 (-1), .int .i64 (500), .int .i64 (501)]])
        have b3' := b3.ext (Ext.more H6 [[.int .i64 (-1), .int .i64 (500), .int .i64 (501)]])
        simp (maxSteps := 4000000) (disch := omega) only [ah, am, Nat.reduceEqDiff, reduceCtorEq, Nat.reduceAdd, Nat.reduceLeDiff, Nat.reduceMul, Nat.reduceLT, if_true, if_false, true_and, and_true, and_self, Nat.reduceBEq, QOp.loads, boxO, bslO, buildO, cutL, fillV, putL, w68, v68, hb0', X6, encClip]
        refine stepC.of (hcr _ k6' _) ?_
        rintro _ H8 ⟨z, rfl, z1, z2, _, g8, k8⟩
        have z3 : z < 3 := z2 (by omega)
        have h68 : H6.size < (H6.more [[.int .i64 (-1), .int .i64 (500), .int .i64 (501)]]).size := by rw [size_more]; simp
        have b4 := b4.step g8 (by have := k6.lt; omega)
        have b2 := b2'.step g8 (by omega)
        have b3 := b3'.step g8 (by omega)
        have x8 := x6'.trans g8.x
        have X8 := b4.ld
        have X9 := b3.ld
        simp only [encClip] at X9
        obtain ⟨w, hw, hw2⟩ : ∃ w : Int, ([.int .i64 (-1), .int .i64 (500), .int .i64 (501)] : List Value)[z.toNat]? = some (.int .i64 w) ∧ w ≠ 300 := by
          rcases (show z = 0 ∨ z = 1 ∨ z = 2 by omega) with rfl | rfl | rfl <;> exact ⟨_, rfl, by decide⟩
        obtain ⟨H9, es3, b3, g9⟩ := b3.put (o := 0) (n := 1) (y := .int .i64 w) rfl (by simp [encClip]) rfl
        simp only [splice, encClip, cells_int, List.take_succ_cons, List.take_zero, List.cons_append, List.nil_append, List.append_nil, List.length_cons, List.length_nil, List.drop_succ_cons, List.drop_zero, Nat.reduceAdd] at b3
        have X10 := b3.ld
        have x9 := x8.top g9 (by omega)
        have k9 := k8.step g9 (by omega)
        have b2 := b2.step g9 (by omega)
        obtain ⟨H10, es, dr, Y⟩ := draw_leaf (a := ⟨w, a.inn, a.len⟩) k9 x9 hc b2 (Nat.le_refl _) rfl
        simp (maxSteps := 4000000) (disch := omega) only [ah, am, Nat.reduceEqDiff, reduceCtorEq, Nat.reduceAdd, Nat.reduceLeDiff, Nat.reduceMul, Nat.reduceLT, if_true, if_false, true_and, and_true, and_self, Nat.reduceBEq, QOp.loads, boxO, bslO, buildO, cutL, fillV, putL, w68, v68, X8, X9, hw, es3, X10, es, Y, Nat.mul_one, encClip]
        exact ⟨⟨w, a.inn, a.len⟩, rfl, hw2, dr⟩
      have hb0' : decide (y = 0) = false := decide_eq_false hb0
      by_cases hb1 : y = 1
      · have hb1' : decide (y = 1) = true := decide_eq_true hb1
        have b4 := Bx.new H6 [.int .i64 (-1), .int .i64 (10000000), .int .i64 (IntKind.i64.wrap (10000000 - a.len)), .int .i64 (IntKind.i64.wrap (IntKind.i64.wrap (10000000 - a.len) + 1)), .int .i64 (4611686018427387904)] []
        have k6' := k6.ext (Ext.more H6 [[.int .i64 (-1), .int .i64 (10000000), .int .i64 (IntKind.i64.wrap (10000000 - a.len)), .int .i64 (IntKind.i64.wrap (IntKind.i64.wrap (10000000 - a.len) + 1)), .int .i64 (4611686018427387904)]])
        have x6' := x6.trans (Ext.more H6 [[.int .i64 (-1), .int .i64 (10000000), .int .i64 (IntKind.i64.wrap (10000000 - a.len)), .int .i64 (IntKind.i64.wrap (IntKind.i64.wrap (10000000 - a.len) + 1)), .int .i64 (4611686018427387904)]]).toX
        have b2' := b2.ext (Ext.more H6 [[.int .i64 (-1), .int .i64 (10000000), .int .i64 (IntKind.i64.wrap (10000000 - a.len)), .int .i64 (IntKind.i64.wrap (IntKind.i64.wrap (10000000 - a.len) + 1)), .int .i64 (4611686018427387904)]])
        have b3' := b3.ext (Ext.more H6 [[.int .i64 (-1), .int .i64 (10000000), .int .i64 (IntKind.i64.wrap (10000000 - a.len)), .int .i64 (IntKind.i64.wrap (IntKind.i64.wrap (10000000 - a.len) + 1)), .int .i64 (4611686018427387904)]])
        simp (maxSteps := 4000000) (disch := omega) only [ah, am, Nat.reduceEqDiff, reduceCtorEq, Nat.reduceAdd, Nat.reduceLeDiff, Nat.reduceMul, Nat.reduceLT, if_true, if_false, true_and, and_true, and_self, Nat.reduceBEq, QOp.loads, boxO, bslO, buildO, cutL, fillV, putL, w68, v68, hb0', hb1', X6, encClip]
        refine stepC.of (hcr _ k6' _) ?_
        rintro _ H8 ⟨z, rfl, z1, z2, _, g8, k8⟩
        have z3 : z < 5 := z2 (by omega)
        have h68 : H6.size < (H6.more [[.int .i64 (-1), .int .i64 (10000000), .int .i64 (IntKind.i64.wrap (10000000 - a.len)), .int .i64 (IntKind.i64.wrap (IntKind.i64.wrap (10000000 - a.len) + 1)), .int .i64 (4611686018427387904)]]).size := by rw [size_more]; simp
        have b4 := b4.step g8 (by have := k6.lt; omega)
        have b2 := b2'.step g8 (by omega)
        have b3 := b3'.step g8 (by omega)
        have x8 := x6'.trans g8.x
        have X8 := b4.ld
        have X9 := b3.ld
        simp only [encClip] at X9
        obtain ⟨w, hw, hw2⟩ : ∃ w : Int, ([.int .i64 (-1), .int .i64 (10000000), .int .i64 (IntKind.i64.wrap (10000000 - a.len)), .int .i64 (IntKind.i64.wrap (IntKind.i64.wrap (10000000 - a.len) + 1)), .int .i64 (4611686018427387904)] : List Value)[z.toNat]? = some (.int .i64 w) ∧ True := by
          rcases (show z = 0 ∨ z = 1 ∨ z = 2 ∨ z = 3 ∨ z = 4 by omega) with rfl | rfl | rfl | rfl | rfl <;> exact ⟨_, rfl, by trivial⟩
        obtain ⟨H9, es3, b3, g9⟩ := b3.put (o := 1) (n := 1) (y := .int .i64 w) rfl (by simp [encClip]) rfl
        simp only [splice, encClip, cells_int, List.take_succ_cons, List.take_zero, List.cons_append, List.nil_append, List.append_nil, List.length_cons, List.length_nil, List.drop_succ_cons, List.drop_zero, Nat.reduceAdd] at b3
        have X10 := b3.ld
        have x9 := x8.top g9 (by omega)
        have k9 := k8.step g9 (by omega)
        have b2 := b2.step g9 (by omega)
        obtain ⟨H10, es, dr, Y⟩ := draw_leaf (a := ⟨a.src, w, a.len⟩) k9 x9 hc b2 (Nat.le_refl _) rfl
        simp (maxSteps := 4000000) (disch := omega) only [ah, am, Nat.reduceEqDiff, reduceCtorEq, Nat.reduceAdd, Nat.reduceLeDiff, Nat.reduceMul, Nat.reduceLT, if_true, if_false, true_and, and_true, and_self, Nat.reduceBEq, QOp.loads, boxO, bslO, buildO, cutL, fillV, putL, w68, v68, X8, X9, hw, es3, X10, es, Y, Nat.mul_one, encClip]
        exact ⟨⟨a.src, w, a.len⟩, rfl, da, dr⟩
      have hb1' : decide (y = 1) = false := decide_eq_false hb1
      by_cases hb2 : y = 2
      · have hb2' : decide (y = 2) = true := decide_eq_true hb2
        have b4 := Bx.new H6 [.int .i64 (0), .int .i64 (-1), .int .i64 (10000000), .int .i64 (10000001), .int .i64 (4611686018427387904)] []
        have k6' := k6.ext (Ext.more H6 [[.int .i64 (0), .int .i64 (-1), .int .i64 (10000000), .int .i64 (10000001), .int .i64 (4611686018427387904)]])
        have x6' := x6.trans (Ext.more H6 [[.int .i64 (0), .int .i64 (-1), .int .i64 (10000000), .int .i64 (10000001), .int .i64 (4611686018427387904)]]).toX
        have b2' := b2.ext (Ext.more H6 [[.int .i64 (0), .int .i64 (-1), .int .i64 (10000000), .int .i64 (10000001), .int .i64 (4611686018427387904)]])
        have b3' := b3.ext (Ext.more H6 [[.int .i64 (0), .int .i64 (-1), .int .i64 (10000000), .int .i64 (10000001), .int .i64 (4611686018427387904)]])
        simp (maxSteps := 4000000) (disch := omega) only [ah, am, Nat.reduceEqDiff, reduceCtorEq, Nat.reduceAdd, Nat.reduceLeDiff, Nat.reduceMul, Nat.reduceLT, if_true, if_false, true_and, and_true, and_self, Nat.reduceBEq, QOp.loads, boxO, bslO, buildO, cutL, fillV, putL, w68, v68, hb0', hb1', hb2', X6, encClip]
        refine stepC.of (hcr _ k6' _) ?_
        rintro _ H8 ⟨z, rfl, z1, z2, _, g8, k8⟩
        have z3 : z < 5 := z2 (by omega)
        have h68 : H6.size < (H6.more [[.int .i64 (0), .int .i64 (-1), .int .i64 (10000000), .int .i64 (10000001), .int .i64 (4611686018427387904)]]).size := by rw [size_more]; simp
        have b4 := b4.step g8 (by have := k6.lt; omega)
        have b2 := b2'.step g8 (by omega)
        have b3 := b3'.step g8 (by omega)
        have x8 := x6'.trans g8.x
        have X8 := b4.ld
        have X9 := b3.ld
        simp only [encClip] at X9
        obtain ⟨w, hw, hw2⟩ : ∃ w : Int, ([.int .i64 (0), .int .i64 (-1), .int .i64 (10000000), .int .i64 (10000001), .int .i64 (4611686018427387904)] : List Value)[z.toNat]? = some (.int .i64 w) ∧ True := by
          rcases (show z = 0 ∨ z = 1 ∨ z = 2 ∨ z = 3 ∨ z = 4 by omega) with rfl | rfl | rfl | rfl | rfl <;> exact ⟨_, rfl, by trivial⟩
        obtain ⟨H9, es3, b3, g9⟩ := b3.put (o := 2) (n := 1) (y := .int .i64 w) rfl (by simp [encClip]) rfl
        simp only [splice, encClip, cells_int, List.take_succ_cons, List.take_zero, List.cons_append, List.nil_append, List.append_nil, List.length_cons, List.length_nil, List.drop_succ_cons, List.drop_zero, Nat.reduceAdd] at b3
        have X10 := b3.ld
        have x9 := x8.top g9 (by omega)
        have k9 := k8.step g9 (by omega)
        have b2 := b2.step g9 (by omega)
        obtain ⟨H10, es, dr, Y⟩ := draw_leaf (a := ⟨a.src, a.inn, w⟩) k9 x9 hc b2 (Nat.le_refl _) rfl
        simp (maxSteps := 4000000) (disch := omega) only [ah, am, Nat.reduceEqDiff, reduceCtorEq, Nat.reduceAdd, Nat.reduceLeDiff, Nat.reduceMul, Nat.reduceLT, if_true, if_false, true_and, and_true, and_self, Nat.reduceBEq, QOp.loads, boxO, bslO, buildO, cutL, fillV, putL, w68, v68, X8, X9, hw, es3, X10, es, Y, Nat.mul_one, encClip]
        exact ⟨⟨a.src, a.inn, w⟩, rfl, da, dr⟩
      have hb2' : decide (y = 2) = false := decide_eq_false hb2
      have hb3' : decide (y = 3) = true := decide_eq_true (by omega)
      obtain ⟨H9, es3, b3, g9⟩ := b3.put (o := 0) (n := 3) (y := .agg [.int .i64 0, .int .i64 1, .int .i64 3].toArray) rfl (by simp [encClip]) rfl
      simp only [splice, encClip, cells_agg, List.take_succ_cons, List.take_zero, List.cons_append, List.nil_append, List.append_nil, List.length_cons, List.length_nil, List.drop_succ_cons, List.drop_zero, Nat.reduceAdd] at b3
      have X10 := b3.ld
      have x9 := x6.top g9 (by omega)
      have k9 := k6.step g9 (by omega)
      have b2 := b2.step g9 (by omega)
      obtain ⟨H10, es, dr, Y⟩ := draw_leaf (a := ⟨0, 1, 3⟩) k9 x9 hc b2 (Nat.le_refl _) rfl
      simp (maxSteps := 4000000) (disch := omega) only [ah, am, Nat.reduceEqDiff, reduceCtorEq, Nat.reduceAdd, Nat.reduceLeDiff, Nat.reduceMul, Nat.reduceLT, if_true, if_false, true_and, and_true, and_self, Nat.reduceBEq, QOp.loads, boxO, bslO, buildO, cutL, fillV, putL, w68, v68, hb0', hb1', hb2', hb3', es3, X10, es, Y, encClip]
      exact ⟨⟨0, 1, 3⟩, rfl, by simp [drawn], dr⟩
  simp (maxSteps := 4000000) (disch := omega) only [ah, am, Nat.reduceEqDiff, reduceCtorEq, Nat.reduceAdd, Nat.reduceLeDiff, Nat.reduceMul, Nat.reduceLT, if_true, if_false, true_and, and_true, and_self, Nat.reduceBEq, QOp.loads, boxO, bslO, buildO, cutL, fillV, putL, w68, v68, i64w]
  generalize c68_30 = fc at tail ⊢
  by_cases hx : x1 = 0
  · have hx' : decide (x1 = 0) = true := decide_eq_true hx
    have tl := fun E => tail E ⟨x1, 0, 1 + x3⟩ (by simp [drawn]; omega)
    simp only [encClip] at tl
    simp (maxSteps := 4000000) (disch := omega) only [ah, am, Nat.reduceEqDiff, reduceCtorEq, Nat.reduceAdd, Nat.reduceLeDiff, Nat.reduceMul, Nat.reduceLT, if_true, if_false, true_and, and_true, and_self, Nat.reduceBEq, QOp.loads, boxO, bslO, buildO, cutL, fillV, putL, w68, v68, hx', encClip]
    exact tl _ rfl rfl rfl
  · have hx' : decide (x1 = 0) = false := decide_eq_false hx
    have tl := fun E => tail E ⟨x1, x2, 1 + x3⟩ (by simp [drawn]; omega)
    simp only [encClip] at tl
    simp (maxSteps := 4000000) (disch := omega) only [ah, am, Nat.reduceEqDiff, reduceCtorEq, Nat.reduceAdd, Nat.reduceLeDiff, Nat.reduceMul, Nat.reduceLT, if_true, if_false, true_and, and_true, and_self, Nat.reduceBEq, QOp.loads, boxO, bslO, buildO, cutL, fillV, putL, w68, v68, hx', encClip]
    exact tl _ rfl rfl rfl
end Go.Proofs.Ytbnppofkpgfhnaa

namespace Go.Proofs.Ytbnppofkpgfhnaa
open Go Go.Ah
set_option linter.unusedSimpArgs false
set_option linter.unusedVariables false
set_option maxRecDepth 10000
set_option maxHeartbeats 4000000
/-! 34 loop.example/g00066/spec.l4DrawTrack: parameters 1, live [0], slots [0:c, 1:c, 3:out, 4:n, 5:k, 6:last, 7:i] -/
def c34_0 : List SOper := [⟨some 2, .q (.mv (.c (.slice none 0 0))), none⟩]
def c34_1 : List SOper := [⟨some 8, .a (.bsl 0 3 [] []), none⟩, ⟨some 3, .q (.mv (.t 8)), none⟩]
def c34_2 : List SOper := [⟨some 9, .q (.mv (.t 0)), none⟩, ⟨some 10, .e (.call 67 [(.t 9), (.c (.int .i64 8))]), none⟩, ⟨some 4, .q (.mv (.t 10)), none⟩]
def c34_3 : List SOper := [⟨some 11, .q (.mv (.t 4)), none⟩, ⟨some 12, .q (.bin .gtr (.t 11) (.c (.int .i64 0))), none⟩]
def c34_4 : SCode := .cond (.t 12) .skip (.exit 0)
def c34_5 : SCode := .seq (.region c34_3 [0, 3, 4, 12]) c34_4
def c34_6 : List SOper := [⟨some 15, .q (.mv (.t 0)), none⟩, ⟨some 16, .e (.call 68 [(.t 15)]), none⟩, ⟨some 5, .a (.new [(.int .i64 0), (.int .i64 0), (.int .i64 0)]), none⟩, ⟨none, .e (.st 3 (.t 5) (.t 16)), none⟩]
def c34_7 : List SOper := [⟨some 17, .q (.mv (.t 3)), none⟩, ⟨some 18, .q (.len (.t 17)), none⟩, ⟨some 19, .q (.bin .gtr (.t 18) (.c (.int .i64 0))), none⟩, ⟨some 20, .q (.mv (.t 19)), none⟩, ⟨some 21, .q (.mv (.t 0)), some (20, true)⟩, ⟨some 22, .e (.call 35 [(.t 21), (.c (.int .i64 5))]), some (20, true)⟩, ⟨some 23, .q (.pick (.t 20) (.t 22) (.c (.bool false))), none⟩]
def c34_8 : List SOper := [⟨some 24, .q (.mv (.t 3)), none⟩, ⟨some 25, .q (.mv (.t 3)), none⟩, ⟨some 26, .q (.len (.t 25)), none⟩, ⟨some 27, .q (.bin .sub (.t 26) (.c (.int .i64 1))), none⟩, ⟨some 28, .q (.ia 3 (.t 24) (.t 27)), none⟩, ⟨some 29, .q (.ldn 3 (.t 28)), none⟩, ⟨some 6, .a (.new [(.int .i64 0), (.int .i64 0), (.int .i64 0)]), none⟩, ⟨none, .e (.st 3 (.t 6) (.t 29)), none⟩]
def c34_9 : List SOper := [⟨some 30, .q (.fa 0 (.t 6)), none⟩, ⟨some 31, .q (.ld (.t 30)), none⟩, ⟨some 32, .q (.fa 0 (.t 5)), none⟩, ⟨none, .e (.st 1 (.t 32) (.t 31)), none⟩]
def c34_10 : List SOper := [⟨some 33, .q (.fa 1 (.t 6)), none⟩, ⟨some 34, .q (.ld (.t 33)), none⟩, ⟨some 35, .q (.fa 2 (.t 6)), none⟩, ⟨some 36, .q (.ld (.t 35)), none⟩, ⟨some 37, .q (.bin .add (.t 34) (.t 36)), none⟩, ⟨some 38, .q (.fa 1 (.t 5)), none⟩, ⟨none, .e (.st 1 (.t 38) (.t 37)), none⟩]
def c34_11 : List SOper := [⟨some 39, .q (.fa 0 (.t 5)), none⟩, ⟨some 40, .q (.ld (.t 39)), none⟩, ⟨some 41, .q (.bin .eql (.t 40) (.c (.int .i64 0))), none⟩]
def c34_12 : List SOper := [⟨some 42, .q (.fa 1 (.t 5)), none⟩, ⟨none, .e (.st 1 (.t 42) (.c (.int .i64 0))), none⟩]
def c34_13 : SCode := .cond (.t 41) (.region c34_12 [0, 3, 4, 5]) .skip
def c34_14 : SCode := .seq (.region c34_11 [0, 3, 4, 5, 41]) c34_13
def c34_15 : SCode := .seq (.region c34_10 [0, 3, 4, 5]) c34_14
def c34_16 : SCode := .seq (.region c34_9 [0, 3, 4, 5, 6]) c34_15
def c34_17 : SCode := .seq (.region c34_8 [0, 3, 4, 5, 6]) c34_16
def c34_18 : SCode := .cond (.t 23) c34_17 .skip
def c34_19 : SCode := .seq (.region c34_7 [0, 3, 4, 5, 23]) c34_18
def c34_20 : List SOper := [⟨some 43, .q (.mv (.t 3)), none⟩, ⟨some 44, .q (.ldn 3 (.t 5)), none⟩, ⟨some 45, .a (.bsl 1 3 [(.int .i64 0), (.int .i64 0), (.int .i64 0)] [(0, 3, (.t 44))]), none⟩, ⟨some 46, .e (.app 24 3 (.t 43) (.t 45)), none⟩, ⟨some 3, .q (.mv (.t 46)), none⟩]
def c34_21 : SCode := .seq c34_19 (.region c34_20 [0, 3, 4])
def c34_22 : SCode := .seq (.region c34_6 [0, 3, 4, 5]) c34_21
def c34_23 : SCode := .block 1 c34_22
def c34_24 : List SOper := [⟨some 13, .q (.mv (.t 4)), none⟩, ⟨some 14, .q (.bin .sub (.t 13) (.c (.int .i64 1))), none⟩, ⟨some 4, .q (.mv (.t 14)), none⟩]
def c34_25 : SCode := .seq c34_23 (.region c34_24 [0, 3, 4])
def c34_26 : SCode := .seq c34_5 c34_25
def c34_27 : SCode := .loop c34_26
def c34_28 : SCode := .block 0 c34_27
def c34_29 : SCode := .seq (.region c34_2 [0, 3, 4]) c34_28
def c34_30 : List SOper := [⟨some 47, .q (.mv (.t 0)), none⟩, ⟨some 48, .e (.call 35 [(.t 47), (.c (.int .i64 60))]), none⟩]
def c34_31 : List SOper := [⟨some 49, .a (.bsl 0 3 [] []), none⟩, ⟨some 3, .q (.mv (.t 49)), none⟩]
def c34_32 : List SOper := [⟨some 7, .q (.mv (.c (.int .i64 0))), none⟩]
def c34_33 : List SOper := [⟨some 50, .q (.mv (.t 7)), none⟩, ⟨some 51, .q (.mv (.t 0)), none⟩, ⟨some 52, .e (.call 67 [(.t 51), (.c (.int .i64 2))]), none⟩, ⟨some 53, .q (.bin .add (.c (.int .i64 300)) (.t 52)), none⟩, ⟨some 54, .q (.bin .lss (.t 50) (.t 53)), none⟩]
def c34_34 : SCode := .cond (.t 54) .skip (.exit 2)
def c34_35 : SCode := .seq (.region c34_33 [0, 3, 7, 54]) c34_34
def c34_36 : List SOper := [⟨some 57, .q (.mv (.t 3)), none⟩, ⟨some 58, .q (.mv (.t 7)), none⟩, ⟨some 59, .q (.bin .rem (.t 58) (.c (.int .i64 2))), none⟩, ⟨some 60, .q (.bin .add (.c (.int .i64 1)) (.t 59)), none⟩, ⟨some 61, .q (.mv (.t 7)), none⟩, ⟨some 62, .q (.build [(.int .i64 0), (.int .i64 0), (.int .i64 0)] [(0, 1, (.t 60)), (1, 1, (.t 61)), (2, 1, (.c (.int .i64 1)))]), none⟩, ⟨some 63, .a (.bsl 1 3 [(.int .i64 0), (.int .i64 0), (.int .i64 0)] [(0, 3, (.t 62))]), none⟩, ⟨some 64, .e (.app 24 3 (.t 57) (.t 63)), none⟩, ⟨some 3, .q (.mv (.t 64)), none⟩]
def c34_37 : SCode := .block 3 (.region c34_36 [0, 3, 7])
def c34_38 : List SOper := [⟨some 55, .q (.mv (.t 7)), none⟩, ⟨some 56, .q (.bin .add (.t 55) (.c (.int .i64 1))), none⟩, ⟨some 7, .q (.mv (.t 56)), none⟩]
def c34_39 : SCode := .seq c34_37 (.region c34_38 [0, 3, 7])
def c34_40 : SCode := .seq c34_35 c34_39
def c34_41 : SCode := .loop c34_40
def c34_42 : SCode := .block 2 c34_41
def c34_43 : SCode := .seq (.region c34_32 [0, 3, 7]) c34_42
def c34_44 : SCode := .seq (.region c34_31 [0, 3]) c34_43
def c34_45 : SCode := .cond (.t 48) c34_44 .skip
def c34_46 : SCode := .seq (.region c34_30 [0, 3, 48]) c34_45
def c34_47 : List SOper := [⟨some 65, .q (.mv (.t 3)), none⟩, ⟨some 2, .q (.mv (.t 65)), none⟩]
def c34_48 : SCode := .seq (.region c34_47 [2]) .ret
def c34_49 : SCode := .seq c34_46 c34_48
def c34_50 : SCode := .seq c34_29 c34_49
def c34_51 : SCode := .seq (.region c34_1 [0, 3]) c34_50
def c34_52 : SCode := .seq (.region c34_0 [0]) c34_51
def c34 : SCode := c34_52
theorem w34 : type_of% (And.intro (uR Try.prog c34_0.eq_1) (And.intro (uR Try.prog c34_1.eq_1) (And.intro (uR Try.prog c34_2.eq_1) (And.intro (uR Try.prog c34_3.eq_1) (And.intro (uC Try.prog c34_4.eq_1) (And.intro (uC Try.prog c34_5.eq_1) (And.intro (uR Try.prog c34_6.eq_1) (And.intro (uR Try.prog c34_7.eq_1) (And.intro (uR Try.prog c34_8.eq_1) (And.intro (uR Try.prog c34_9.eq_1) (And.intro (uR Try.prog c34_10.eq_1) (And.intro (uR Try.prog c34_11.eq_1) (And.intro (uR Try.prog c34_12.eq_1) (And.intro (uC Try.prog c34_13.eq_1) (And.intro (uC Try.prog c34_14.eq_1) (And.intro (uC Try.prog c34_15.eq_1) (And.intro (uC Try.prog c34_16.eq_1) (And.intro (uC Try.prog c34_17.eq_1) (And.intro (uC Try.prog c34_18.eq_1) (And.intro (uC Try.prog c34_19.eq_1) (And.intro (uR Try.prog c34_20.eq_1) (And.intro (uC Try.prog c34_21.eq_1) (And.intro (uC Try.prog c34_22.eq_1) (And.intro (uC Try.prog c34_23.eq_1) (And.intro (uR Try.prog c34_24.eq_1) (And.intro (uC Try.prog c34_25.eq_1) (And.intro (uC Try.prog c34_26.eq_1) (And.intro (uC Try.prog c34_27.eq_1) (And.intro (uC Try.prog c34_28.eq_1) (And.intro (uC Try.prog c34_29.eq_1) (And.intro (uR Try.prog c34_30.eq_1) (And.intro (uR Try.prog c34_31.eq_1) (And.intro (uR Try.prog c34_32.eq_1) (And.intro (uR Try.prog c34_33.eq_1) (And.intro (uC Try.prog c34_34.eq_1) (And.intro (uC Try.prog c34_35.eq_1) (And.intro (uR Try.prog c34_36.eq_1) (And.intro (uC Try.prog c34_37.eq_1) (And.intro (uR Try.prog c34_38.eq_1) (And.intro (uC Try.prog c34_39.eq_1) (And.intro (uC Try.prog c34_40.eq_1) (And.intro (uC Try.prog c34_41.eq_1) (And.intro (uC Try.prog c34_42.eq_1) (And.intro (uC Try.prog c34_43.eq_1) (And.intro (uC Try.prog c34_44.eq_1) (And.intro (uC Try.prog c34_45.eq_1) (And.intro (uC Try.prog c34_46.eq_1) (And.intro (uR Try.prog c34_47.eq_1) (And.intro (uC Try.prog c34_48.eq_1) (And.intro (uC Try.prog c34_49.eq_1) (And.intro (uC Try.prog c34_50.eq_1) (And.intro (uC Try.prog c34_51.eq_1) (And.intro (uC Try.prog c34_52.eq_1) (uC Try.prog c34.eq_1)))))))))))))))))))))))))))))))))))))))))))))))))))))) := (And.intro (uR Try.prog c34_0.eq_1) (And.intro (uR Try.prog c34_1.eq_1) (And.intro (uR Try.prog c34_2.eq_1) (And.intro (uR Try.prog c34_3.eq_1) (And.intro (uC Try.prog c34_4.eq_1) (And.intro (uC Try.prog c34_5.eq_1) (And.intro (uR Try.prog c34_6.eq_1) (And.intro (uR Try.prog c34_7.eq_1) (And.intro (uR Try.prog c34_8.eq_1) (And.intro (uR Try.prog c34_9.eq_1) (And.intro (uR Try.prog c34_10.eq_1) (And.intro (uR Try.prog c34_11.eq_1) (And.intro (uR Try.prog c34_12.eq_1) (And.intro (uC Try.prog c34_13.eq_1) (And.intro (uC Try.prog c34_14.eq_1) (And.intro (uC Try.prog c34_15.eq_1) (And.intro (uC Try.prog c34_16.eq_1) (And.intro (uC Try.prog c34_17.eq_1) (And.intro (uC Try.prog c34_18.eq_1) (And.intro (uC Try.prog c34_19.eq_1) (And.intro (uR Try.prog c34_20.eq_1) (And.intro (uC Try.prog c34_21.eq_1) (And.intro (uC Try.prog c34_22.eq_1) (And.intro (uC Try.prog c34_23.eq_1) (And.intro (uR Try.prog c34_24.eq_1) (And.intro (uC Try.prog c34_25.eq_1) (And.intro (uC Try.prog c34_26.eq_1) (And.intro (uC Try.prog c34_27.eq_1) (And.intro (uC Try.prog c34_28.eq_1) (And.intro (uC Try.prog c34_29.eq_1) (And.intro (uR Try.prog c34_30.eq_1) (And.intro (uR Try.prog c34_31.eq_1) (And.intro (uR Try.prog c34_32.eq_1) (And.intro (uR Try.prog c34_33.eq_1) (And.intro (uC Try.prog c34_34.eq_1) (And.intro (uC Try.prog c34_35.eq_1) (And.intro (uR Try.prog c34_36.eq_1) (And.intro (uC Try.prog c34_37.eq_1) (And.intro (uR Try.prog c34_38.eq_1) (And.intro (uC Try.prog c34_39.eq_1) (And.intro (uC Try.prog c34_40.eq_1) (And.intro (uC Try.prog c34_41.eq_1) (And.intro (uC Try.prog c34_42.eq_1) (And.intro (uC Try.prog c34_43.eq_1) (And.intro (uC Try.prog c34_44.eq_1) (And.intro (uC Try.prog c34_45.eq_1) (And.intro (uC Try.prog c34_46.eq_1) (And.intro (uR Try.prog c34_47.eq_1) (And.intro (uC Try.prog c34_48.eq_1) (And.intro (uC Try.prog c34_49.eq_1) (And.intro (uC Try.prog c34_50.eq_1) (And.intro (uC Try.prog c34_51.eq_1) (And.intro (uC Try.prog c34_52.eq_1) (uC Try.prog c34.eq_1))))))))))))))))))))))))))))))))))))))))))))))))))))))
def v34 : List RV := [.t 2]
theorem s34 : slimF Try.prog Try.f34 = some (c34.bare, v34) := by kernel_rfl

def drawnL (l : List Clip) : Prop := (∀ k ∈ l, drawn k) ∧ l.length ≤ 301
def stayC (b a : Clip) : Clip := ⟨b.src, if b.src = 0 then 0 else IntKind.i64.wrap (b.inn + b.len), a.len⟩
def manyC (i : Nat) : Clip := ⟨1 + (i : Int).tmod 2, i, 1⟩
theorem l4DrawTrack_ok (h : Heap) (c : Nat) (k : Cur h c) : ACall Try.prog 34 [.pointer (some ⟨c, 0, none⟩)] h fun r h' => ∃ l, Fk [c] h h' encClip 3 r l [] ∧ Cur h' c ∧ drawnL l := by
  refine ACall.of Try.func34 s34 (of_decide_eq_true rfl) ?_
  have hc := k.lt
  have hm : c ∈ [c] := by simp
  simp (maxSteps := 4000000) (disch := omega) only [ah, am, Nat.reduceEqDiff, reduceCtorEq, Nat.reduceAdd, Nat.reduceLeDiff, Nat.reduceMul, Nat.reduceLT, if_true, if_false, true_and, and_true, and_self, Nat.reduceBEq, QOp.loads, boxO, bslO, buildO, cutL, fillV, putL, w34, v34]
  refine stepC.of (l1Below_ok _ _ _ (k.ext (Ext.more h [[]]))) ?_
  rintro _ H1 ⟨n0, rfl, n1, n2, _, g1, k1⟩
  have n3 : n0 < 8 := n2 (by omega)
  have F0 : Fk [c] h H1 encClip 3 (.slice (some ⟨h.size, 0, none⟩) 0 3) ([] : List Clip) [] := (Fk.of (Fresh.new0 h encClip_len (by omega))).stepG g1 hm hc
  simp (maxSteps := 4000000) (disch := omega) only [ah, am, Nat.reduceEqDiff, reduceCtorEq, Nat.reduceAdd, Nat.reduceLeDiff, Nat.reduceMul, Nat.reduceLT, if_true, if_false, true_and, and_true, and_self, Nat.reduceBEq, QOp.loads, boxO, bslO, buildO, cutL, fillV, putL, w34, v34]
  refine SW_loop_up (fun i E H => ∃ ov l, E = [(0, .pointer (some ⟨c, 0, none⟩)), (3, ov), (4, .int .i64 (n0 - i))] ∧ Fk [c] h H encClip 3 ov l [] ∧ Cur H c ∧ (∀ k ∈ l, drawn k) ∧ l.length ≤ i) n0.toNat 0 (by omega)
    ⟨.slice (some ⟨h.size, 0, none⟩) 0 3, [], by simp, F0, k1, by simp, by simp⟩ ?_
  rintro i E H hi ⟨ov, l, rfl, F, kH, A, hl⟩
  simp (maxSteps := 4000000) (disch := omega) only [ah, am, Nat.reduceEqDiff, reduceCtorEq, Nat.reduceAdd, Nat.reduceLeDiff, Nat.reduceMul, Nat.reduceLT, if_true, if_false, true_and, and_true, and_self, Nat.reduceBEq, QOp.loads, boxO, bslO, buildO, cutL, fillV, putL, w34, v34]
  refine stepI.split (fun hp => ?_) (fun hp => ?_)
  · have W : IntKind.i64.wrap (n0 - (i : Int) - 1) = n0 - ((i + 1 : Nat) : Int) := i64e (by omega) (by omega)
    have A2 : ∀ a : Clip, drawn a → ∀ k ∈ l ++ [a], drawn k := by
      intro a da k hk
      simp only [List.mem_append, List.mem_singleton] at hk
      rcases hk with hk | rfl
      · exact A k hk
      · exact da
    simp (maxSteps := 4000000) (disch := omega) only [ah, am, Nat.reduceEqDiff, reduceCtorEq, Nat.reduceAdd, Nat.reduceLeDiff, Nat.reduceMul, Nat.reduceLT, if_true, if_false, true_and, and_true, and_self, Nat.reduceBEq, QOp.loads, boxO, bslO, buildO, cutL, fillV, putL, w34, v34]
    refine stepC.of (l4DrawClip_ok _ _ kH) ?_
    rintro _ H2 ⟨a, rfl, da, g2, k2⟩
    have F2 := F.stepG g2 hm hc
    have R := F2.slt.rules
    by_cases h0 : l.length = 0
    · have h0' : decide (0 < (l.length : Int)) = false := decide_eq_false (by omega)
      obtain ⟨v2, H3, ea, F3, g, hg, G⟩ := F2.app1g [encClip a] a (bytes := 24) (by omega)
      simp only [boxesAt, List.cons_append, List.append_nil, List.nil_append, List.length_nil, List.length_cons, Nat.zero_add, Nat.add_zero, encClip] at ea G
      simp (maxSteps := 4000000) (disch := omega) only [ah, am, Nat.reduceEqDiff, reduceCtorEq, Nat.reduceAdd, Nat.reduceLeDiff, Nat.reduceMul, Nat.reduceLT, if_true, if_false, true_and, and_true, and_self, Nat.reduceBEq, QOp.loads, boxO, bslO, buildO, cutL, fillV, putL, w34, v34, R, h0', ea, W, encClip]
      exact ⟨by omega, _, l ++ [a], rfl, F3.bare, (k2.ext (Ext.more _ _)).step G (by omega), A2 a da, by simp; omega⟩
    · have h0' : decide (0 < (l.length : Int)) = true := decide_eq_true (by omega)
      have F3 : Fk [c] h (H2.more [encClip a]) encClip 3 ov l [(H2.size, encClip a)] := F2.more [encClip a]
      have k3 := k2.ext (Ext.more H2 [encClip a])
      have R3 := F3.slt.rules
      have on := l1Once_ok (H2.more [encClip a]) c 5 k3
      simp only [encClip] at on R3
      simp (maxSteps := 4000000) (disch := omega) only [ah, am, Nat.reduceEqDiff, reduceCtorEq, Nat.reduceAdd, Nat.reduceLeDiff, Nat.reduceMul, Nat.reduceLT, if_true, if_false, true_and, and_true, and_self, Nat.reduceBEq, QOp.loads, boxO, bslO, buildO, cutL, fillV, putL, w34, v34, R3, h0', encClip]
      refine stepC.of on ?_
      rintro _ H4 ⟨b, rfl, g4, k4⟩
      have F4 := F3.stepG g4 hm hc
      have X4 := F4.ld (i := H2.size) (cs := encClip a) (by simp)
      simp only [encClip] at X4
      cases b with
      | false =>
        obtain ⟨v2, H5, ea, F5, g, hg, G⟩ := F4.app1g [] a (bytes := 24) (by omega)
        simp only [boxesAt, List.cons_append, List.append_nil, List.nil_append, List.length_nil, List.length_cons, Nat.zero_add, Nat.add_zero, encClip] at ea G
        simp (maxSteps := 4000000) (disch := omega) only [ah, am, Nat.reduceEqDiff, reduceCtorEq, Nat.reduceAdd, Nat.reduceLeDiff, Nat.reduceMul, Nat.reduceLT, if_true, if_false, true_and, and_true, and_self, Nat.reduceBEq, QOp.loads, boxO, bslO, buildO, cutL, fillV, putL, w34, v34, X4, h0', ea, W, encClip]
        exact ⟨by omega, _, l ++ [a], rfl, F5.bare, (k4.ext (Ext.more _ _)).step G (by omega), A2 a da, by simp; omega⟩
      | true =>
        have hl1 : l.length - 1 < l.length := by omega
        have hin := List.getElem_mem hl1
        have db := A _ hin
        have W4 : IntKind.i64.wrap ((l.length : Int) - 1) = (l.length : Int) - 1 := i64w (by omega)
        have T : ((l.length : Int) - 1).toNat = l.length - 1 := by omega
        have R4 := F4.slt.rules
        have F5 : Fk [c] h (H4.more [encClip l[l.length - 1]]) encClip 3 ov l [(H2.size, encClip a), (H4.size, encClip l[l.length - 1])] := F4.more [encClip l[l.length - 1]]
        have hne : H2.size ≠ H4.size := by have := Heap.get_lt (F4.box (H2.size, encClip a) (by simp)).2; simp only at this; omega
        have k5 := k4.ext (Ext.more H4 [encClip l[l.length - 1]])
        obtain ⟨H6, es1, F6, G6, q6⟩ := F5.put2 hne (o := 0) (n := 1) (y := .int .i64 (l[l.length - 1]).src) rfl (by simp [encClip]) rfl
        simp only [splice, cells_int, encClip, List.take_succ_cons, List.take_zero, List.cons_append, List.nil_append, List.append_nil, List.length_cons, List.length_nil, List.drop_succ_cons, List.drop_zero, Nat.reduceAdd] at F6 es1
        have k6 := k5.step G6 (by omega)
        have X6a := F6.ld (i := H2.size) (List.mem_cons_self ..)
        have X6b := F6.ld (i := H4.size) (List.mem_cons_of_mem _ (List.mem_cons_self ..))
        obtain ⟨H7, es2, F7, G7, q7⟩ := F6.put2 hne (o := 1) (n := 1) (y := .int .i64 (IntKind.i64.wrap ((l[l.length - 1]).inn + (l[l.length - 1]).len))) rfl (by simp) rfl
        simp only [splice, cells_int, encClip, List.take_succ_cons, List.take_zero, List.cons_append, List.nil_append, List.append_nil, List.length_cons, List.length_nil, List.drop_succ_cons, List.drop_zero, Nat.reduceAdd] at F7 es2
        have k7 := k6.step G7 (by omega)
        have X7a := F7.ld (i := H2.size) (List.mem_cons_self ..)
        have X7b := F7.ld (i := H4.size) (List.mem_cons_of_mem _ (List.mem_cons_self ..))
        have R5 := F5.slt.rules
        simp only [encClip] at R5
        by_cases hs : (l[l.length - 1]).src = 0
        · have hs' : decide ((l[l.length - 1]).src = 0) = true := decide_eq_true hs
          obtain ⟨H8, es3, F8, G8, q8⟩ := F7.put2 hne (o := 1) (n := 1) (y := .int .i64 0) rfl (by simp) rfl
          simp only [splice, cells_int, encClip, List.take_succ_cons, List.take_zero, List.cons_append, List.nil_append, List.append_nil, List.length_cons, List.length_nil, List.drop_succ_cons, List.drop_zero, Nat.reduceAdd] at F8 es3
          have k8 := k7.step G8 (by omega)
          have X8a := F8.ld (i := H2.size) (List.mem_cons_self ..)
          obtain ⟨v2, H9, ea, F9, g, hg, G⟩ := F8.app1g [] ⟨(l[l.length - 1]).src, 0, a.len⟩ (bytes := 24) (by omega)
          simp only [boxesAt, List.cons_append, List.append_nil, List.nil_append, List.length_nil, List.length_cons, Nat.zero_add, Nat.add_zero, encClip] at ea G
          simp (maxSteps := 4000000) (disch := omega) only [ah, am, Nat.reduceEqDiff, reduceCtorEq, Nat.reduceAdd, Nat.reduceLeDiff, Nat.reduceMul, Nat.reduceLT, if_true, if_false, true_and, and_true, and_self, Nat.reduceBEq, QOp.loads, boxO, bslO, buildO, cutL, fillV, putL, w34, v34, X4, X6a, X6b, X7a, X7b, X8a, R4, R5, h0', hs', es1, es2, es3, ea, W, W4, T, encClip]
          exact ⟨by omega, _, l ++ [⟨(l[l.length - 1]).src, 0, a.len⟩], rfl, F9.bare, (k8.ext (Ext.more _ _)).step G (by omega), A2 _ db, by simp; omega⟩
        · have hs' : decide ((l[l.length - 1]).src = 0) = false := decide_eq_false hs
          obtain ⟨v2, H9, ea, F9, g, hg, G⟩ := F7.app1g [] ⟨(l[l.length - 1]).src, IntKind.i64.wrap ((l[l.length - 1]).inn + (l[l.length - 1]).len), a.len⟩ (bytes := 24) (by omega)
          simp only [boxesAt, List.cons_append, List.append_nil, List.nil_append, List.length_nil, List.length_cons, Nat.zero_add, Nat.add_zero, encClip] at ea G
          simp (maxSteps := 4000000) (disch := omega) only [ah, am, Nat.reduceEqDiff, reduceCtorEq, Nat.reduceAdd, Nat.reduceLeDiff, Nat.reduceMul, Nat.reduceLT, if_true, if_false, true_and, and_true, and_self, Nat.reduceBEq, QOp.loads, boxO, bslO, buildO, cutL, fillV, putL, w34, v34, X4, X6a, X6b, X7a, X7b, R4, R5, h0', hs', es1, es2, ea, W, W4, T, encClip]
          exact ⟨by omega, _, l ++ [⟨(l[l.length - 1]).src, IntKind.i64.wrap ((l[l.length - 1]).inn + (l[l.length - 1]).len), a.len⟩], rfl, F9.bare, (k7.ext (Ext.more _ _)).step G (by omega), A2 _ db, by simp; omega⟩
  · simp (maxSteps := 4000000) (disch := omega) only [ah, am, Nat.reduceEqDiff, reduceCtorEq, Nat.reduceAdd, Nat.reduceLeDiff, Nat.reduceMul, Nat.reduceLT, if_true, if_false, true_and, and_true, and_self, Nat.reduceBEq, QOp.loads, boxO, bslO, buildO, cutL, fillV, putL, w34, v34]
    refine stepC.of (l1Once_ok _ _ _ kH) ?_
    rintro _ H2 ⟨b, rfl, g2, k2⟩
    have F2 := F.stepG g2 hm hc
    cases b with
    | false =>
      simp (maxSteps := 4000000) (disch := omega) only [ah, am, Nat.reduceEqDiff, reduceCtorEq, Nat.reduceAdd, Nat.reduceLeDiff, Nat.reduceMul, Nat.reduceLT, if_true, if_false, true_and, and_true, and_self, Nat.reduceBEq, QOp.loads, boxO, bslO, buildO, cutL, fillV, putL, w34, v34]
      exact ⟨l, F2, k2, A, by omega⟩
    | true =>
      simp (maxSteps := 4000000) (disch := omega) only [ah, am, Nat.reduceEqDiff, reduceCtorEq, Nat.reduceAdd, Nat.reduceLeDiff, Nat.reduceMul, Nat.reduceLT, if_true, if_false, true_and, and_true, and_self, Nat.reduceBEq, QOp.loads, boxO, bslO, buildO, cutL, fillV, putL, w34, v34]
      have F3 : Fk [c] h (H2.more [[]]) encClip 3 (.slice (some ⟨H2.size, 0, none⟩) 0 3) ([] : List Clip) [] := (Fk.of (Fresh.new0 H2 encClip_len (by omega))).mono F2.ext
      refine SW_loop_up (fun i E H => ∃ ov l, E = [(0, .pointer (some ⟨c, 0, none⟩)), (3, ov), (7, .int .i64 i)] ∧ Fk [c] h H encClip 3 ov l [] ∧ Cur H c ∧ (∀ k ∈ l, drawn k) ∧ l.length ≤ i) 301 0 (by omega)
        ⟨.slice (some ⟨H2.size, 0, none⟩) 0 3, [], by simp, F3, k2.ext (Ext.more _ _), by simp, by simp⟩ ?_
      rintro i E H hi ⟨ov, l, rfl, F, kH, A, hl⟩
      simp (maxSteps := 4000000) (disch := omega) only [ah, am, Nat.reduceEqDiff, reduceCtorEq, Nat.reduceAdd, Nat.reduceLeDiff, Nat.reduceMul, Nat.reduceLT, if_true, if_false, true_and, and_true, and_self, Nat.reduceBEq, QOp.loads, boxO, bslO, buildO, cutL, fillV, putL, w34, v34]
      refine stepC.of (l1Below_ok _ _ _ kH) ?_
      rintro _ H3 ⟨x, rfl, x1, x2, _, g3, k3⟩
      have x3 : x < 2 := x2 (by omega)
      have F3 := F.stepG g3 hm hc
      simp (maxSteps := 4000000) (disch := omega) only [ah, am, Nat.reduceEqDiff, reduceCtorEq, Nat.reduceAdd, Nat.reduceLeDiff, Nat.reduceMul, Nat.reduceLT, if_true, if_false, true_and, and_true, and_self, Nat.reduceBEq, QOp.loads, boxO, bslO, buildO, cutL, fillV, putL, w34, v34, i64w]
      refine stepI.split (fun hq => ?_) (fun hq => ?_)
      · have W : IntKind.i64.wrap ((i : Int) + 1) = ((i + 1 : Nat) : Int) := i64e (by omega) (by omega)
        have M1 : 0 ≤ (i : Int).tmod 2 := Int.tmod_nonneg _ (by omega)
        have M2 : (i : Int).tmod 2 < 2 := Int.tmod_lt_of_pos _ (by omega)
        obtain ⟨v2, H4, ea, F4, g, hg, G⟩ := F3.app1g [] (manyC i) (bytes := 24) (by omega)
        simp only [manyC] at ea
        simp only [boxesAt, List.cons_append, List.append_nil, List.nil_append, List.length_nil, List.length_cons, Nat.zero_add, Nat.add_zero, encClip] at ea G
        have n2 : (2 : Int) ≠ 0 := by omega
        simp (maxSteps := 4000000) (disch := omega) only [ah, am, Nat.reduceEqDiff, reduceCtorEq, Nat.reduceAdd, Nat.reduceLeDiff, Nat.reduceMul, Nat.reduceLT, if_true, if_false, true_and, and_true, and_self, Nat.reduceBEq, QOp.loads, boxO, bslO, buildO, cutL, fillV, putL, w34, v34, n2, ne_eq, i64w, ea, W]
        refine ⟨by omega, _, l ++ [manyC i], rfl, F4.bare, (k3.ext (Ext.more _ _)).step G (by omega), ?_, by simp; omega⟩
        intro k hk
        simp only [List.mem_append, List.mem_singleton] at hk
        rcases hk with hk | rfl
        · exact A k hk
        · simp only [drawn, manyC]; omega
      · simp (maxSteps := 4000000) (disch := omega) only [ah, am, Nat.reduceEqDiff, reduceCtorEq, Nat.reduceAdd, Nat.reduceLeDiff, Nat.reduceMul, Nat.reduceLT, if_true, if_false, true_and, and_true, and_self, Nat.reduceBEq, QOp.loads, boxO, bslO, buildO, cutL, fillV, putL, w34, v34]
        exact ⟨l, F3, k3, A, by omega⟩
end Go.Proofs.Ytbnppofkpgfhnaa
