import Derived.Test.YtmippcfdakjhfaaG4
namespace Go.Proofs.Ytmippcfdakjhfaa
open Go Go.Ah
open Go.Sort (swp)
set_option linter.unusedSimpArgs false
set_option linter.unusedVariables false
set_option maxRecDepth 10000
set_option maxHeartbeats 4000000
/-! 83 math/bits.Len64: parameters 1, live [0], slots [0:x, 1:x, 2:n] -/
def c83_0 : List SOper := [⟨some 2, .q (.mv (.c (.int .i64 0))), none⟩]
def c83_1 : List SOper := [⟨some 3, .q (.mv (.t 0)), none⟩, ⟨some 4, .q (.bin .geq (.t 3) (.c (.int .u64 4294967296))), none⟩]
def c83_2 : List SOper := [⟨some 5, .q (.mv (.t 0)), none⟩, ⟨some 6, .q (.bin .shr (.t 5) (.c (.int .u64 32))), none⟩, ⟨some 0, .q (.mv (.t 6)), none⟩]
def c83_3 : List SOper := [⟨some 2, .q (.mv (.c (.int .i64 32))), none⟩]
def c83_4 : SCode := .seq (.region c83_2 [0]) (.region c83_3 [0, 2])
def c83_5 : SCode := .cond (.t 4) c83_4 .skip
def c83_6 : SCode := .seq (.region c83_1 [0, 2, 4]) c83_5
def c83_7 : List SOper := [⟨some 7, .q (.mv (.t 0)), none⟩, ⟨some 8, .q (.bin .geq (.t 7) (.c (.int .u64 65536))), none⟩]
def c83_8 : List SOper := [⟨some 9, .q (.mv (.t 0)), none⟩, ⟨some 10, .q (.bin .shr (.t 9) (.c (.int .u64 16))), none⟩, ⟨some 0, .q (.mv (.t 10)), none⟩]
def c83_9 : List SOper := [⟨some 11, .q (.mv (.t 2)), none⟩, ⟨some 12, .q (.bin .add (.t 11) (.c (.int .i64 16))), none⟩, ⟨some 2, .q (.mv (.t 12)), none⟩]
def c83_10 : SCode := .seq (.region c83_8 [0, 2]) (.region c83_9 [0, 2])
def c83_11 : SCode := .cond (.t 8) c83_10 .skip
def c83_12 : SCode := .seq (.region c83_7 [0, 2, 8]) c83_11
def c83_13 : List SOper := [⟨some 13, .q (.mv (.t 0)), none⟩, ⟨some 14, .q (.bin .geq (.t 13) (.c (.int .u64 256))), none⟩]
def c83_14 : List SOper := [⟨some 15, .q (.mv (.t 0)), none⟩, ⟨some 16, .q (.bin .shr (.t 15) (.c (.int .u64 8))), none⟩, ⟨some 0, .q (.mv (.t 16)), none⟩]
def c83_15 : List SOper := [⟨some 17, .q (.mv (.t 2)), none⟩, ⟨some 18, .q (.bin .add (.t 17) (.c (.int .i64 8))), none⟩, ⟨some 2, .q (.mv (.t 18)), none⟩]
def c83_16 : SCode := .seq (.region c83_14 [0, 2]) (.region c83_15 [0, 2])
def c83_17 : SCode := .cond (.t 14) c83_16 .skip
def c83_18 : SCode := .seq (.region c83_13 [0, 2, 14]) c83_17
def c83_19 : List SOper := [⟨some 19, .q (.mv (.t 2)), none⟩, ⟨some 20, .q (.mv (.t 0)), none⟩, ⟨some 21, .q (.cvi .u8 (.t 20)), none⟩, ⟨some 22, .q (.ivs (.c (.string ⟨#[0, 1, 2, 2, 3, 3, 3, 3, 4, 4, 4, 4, 4, 4, 4, 4, 5, 5, 5, 5, 5, 5, 5, 5, 5, 5, 5, 5, 5, 5, 5, 5, 6, 6, 6, 6, 6, 6, 6, 6, 6, 6, 6, 6, 6, 6, 6, 6, 6, 6, 6, 6, 6, 6, 6, 6, 6, 6, 6, 6, 6, 6, 6, 6, 7, 7, 7, 7, 7, 7, 7, 7, 7, 7, 7, 7, 7, 7, 7, 7, 7, 7, 7, 7, 7, 7, 7, 7, 7, 7, 7, 7, 7, 7, 7, 7, 7, 7, 7, 7, 7, 7, 7, 7, 7, 7, 7, 7, 7, 7, 7, 7, 7, 7, 7, 7, 7, 7, 7, 7, 7, 7, 7, 7, 7, 7, 7, 7, 8, 8, 8, 8, 8, 8, 8, 8, 8, 8, 8, 8, 8, 8, 8, 8, 8, 8, 8, 8, 8, 8, 8, 8, 8, 8, 8, 8, 8, 8, 8, 8, 8, 8, 8, 8, 8, 8, 8, 8, 8, 8, 8, 8, 8, 8, 8, 8, 8, 8, 8, 8, 8, 8, 8, 8, 8, 8, 8, 8, 8, 8, 8, 8, 8, 8, 8, 8, 8, 8, 8, 8, 8, 8, 8, 8, 8, 8, 8, 8, 8, 8, 8, 8, 8, 8, 8, 8, 8, 8, 8, 8, 8, 8, 8, 8, 8, 8, 8, 8, 8, 8, 8, 8, 8, 8, 8, 8, 8, 8, 8, 8, 8, 8, 8, 8, 8, 8, 8, 8, 8, 8, 8, 8, 8, 8, 8, 8]⟩)) (.t 21)), none⟩, ⟨some 23, .q (.cvi .i64 (.t 22)), none⟩, ⟨some 24, .q (.bin .add (.t 19) (.t 23)), none⟩, ⟨some 2, .q (.mv (.t 24)), none⟩]
def c83_20 : SCode := .seq (.region c83_19 [2]) .ret
def c83_21 : SCode := .seq c83_18 c83_20
def c83_22 : SCode := .seq c83_12 c83_21
def c83_23 : SCode := .seq c83_6 c83_22
def c83_24 : SCode := .seq (.region c83_0 [0, 2]) c83_23
def c83 : SCode := c83_24
theorem w83 : type_of% (And.intro (uR Try.prog c83_0.eq_1) (And.intro (uR Try.prog c83_1.eq_1) (And.intro (uR Try.prog c83_2.eq_1) (And.intro (uR Try.prog c83_3.eq_1) (And.intro (uC Try.prog c83_4.eq_1) (And.intro (uC Try.prog c83_5.eq_1) (And.intro (uC Try.prog c83_6.eq_1) (And.intro (uR Try.prog c83_7.eq_1) (And.intro (uR Try.prog c83_8.eq_1) (And.intro (uR Try.prog c83_9.eq_1) (And.intro (uC Try.prog c83_10.eq_1) (And.intro (uC Try.prog c83_11.eq_1) (And.intro (uC Try.prog c83_12.eq_1) (And.intro (uR Try.prog c83_13.eq_1) (And.intro (uR Try.prog c83_14.eq_1) (And.intro (uR Try.prog c83_15.eq_1) (And.intro (uC Try.prog c83_16.eq_1) (And.intro (uC Try.prog c83_17.eq_1) (And.intro (uC Try.prog c83_18.eq_1) (And.intro (uR Try.prog c83_19.eq_1) (And.intro (uC Try.prog c83_20.eq_1) (And.intro (uC Try.prog c83_21.eq_1) (And.intro (uC Try.prog c83_22.eq_1) (And.intro (uC Try.prog c83_23.eq_1) (And.intro (uC Try.prog c83_24.eq_1) (uC Try.prog c83.eq_1)))))))))))))))))))))))))) := (And.intro (uR Try.prog c83_0.eq_1) (And.intro (uR Try.prog c83_1.eq_1) (And.intro (uR Try.prog c83_2.eq_1) (And.intro (uR Try.prog c83_3.eq_1) (And.intro (uC Try.prog c83_4.eq_1) (And.intro (uC Try.prog c83_5.eq_1) (And.intro (uC Try.prog c83_6.eq_1) (And.intro (uR Try.prog c83_7.eq_1) (And.intro (uR Try.prog c83_8.eq_1) (And.intro (uR Try.prog c83_9.eq_1) (And.intro (uC Try.prog c83_10.eq_1) (And.intro (uC Try.prog c83_11.eq_1) (And.intro (uC Try.prog c83_12.eq_1) (And.intro (uR Try.prog c83_13.eq_1) (And.intro (uR Try.prog c83_14.eq_1) (And.intro (uR Try.prog c83_15.eq_1) (And.intro (uC Try.prog c83_16.eq_1) (And.intro (uC Try.prog c83_17.eq_1) (And.intro (uC Try.prog c83_18.eq_1) (And.intro (uR Try.prog c83_19.eq_1) (And.intro (uC Try.prog c83_20.eq_1) (And.intro (uC Try.prog c83_21.eq_1) (And.intro (uC Try.prog c83_22.eq_1) (And.intro (uC Try.prog c83_23.eq_1) (And.intro (uC Try.prog c83_24.eq_1) (uC Try.prog c83.eq_1))))))))))))))))))))))))))
def v83 : List RV := [.t 2]
theorem s83 : slimF Try.prog Try.f83 = some (c83.bare, v83) := by kernel_rfl
/-! 71 math/bits.Len: parameters 1, live [0], slots [0:x, 1:x] -/
def c71_0 : List SOper := [⟨some 2, .q (.mv (.c (.int .i64 0))), none⟩]
def c71_1 : List SOper := [⟨some 3, .q (.mv (.t 0)), none⟩, ⟨some 4, .q (.cvi .u32 (.t 3)), none⟩, ⟨some 5, .e (.call 82 [(.t 4)]), none⟩, ⟨some 2, .q (.mv (.t 5)), none⟩]
def c71_2 : SCode := .seq (.region c71_1 [2]) .ret
def c71_3 : SCode := .cond (.c (.bool false)) c71_2 .skip
def c71_4 : List SOper := [⟨some 6, .q (.mv (.t 0)), none⟩, ⟨some 7, .e (.call 83 [(.t 6)]), none⟩, ⟨some 2, .q (.mv (.t 7)), none⟩]
def c71_5 : SCode := .seq (.region c71_4 [2]) .ret
def c71_6 : SCode := .seq c71_3 c71_5
def c71_7 : SCode := .seq (.region c71_0 [0]) c71_6
def c71 : SCode := c71_7
theorem w71 : type_of% (And.intro (uR Try.prog c71_0.eq_1) (And.intro (uR Try.prog c71_1.eq_1) (And.intro (uC Try.prog c71_2.eq_1) (And.intro (uC Try.prog c71_3.eq_1) (And.intro (uR Try.prog c71_4.eq_1) (And.intro (uC Try.prog c71_5.eq_1) (And.intro (uC Try.prog c71_6.eq_1) (And.intro (uC Try.prog c71_7.eq_1) (uC Try.prog c71.eq_1))))))))) := (And.intro (uR Try.prog c71_0.eq_1) (And.intro (uR Try.prog c71_1.eq_1) (And.intro (uC Try.prog c71_2.eq_1) (And.intro (uC Try.prog c71_3.eq_1) (And.intro (uR Try.prog c71_4.eq_1) (And.intro (uC Try.prog c71_5.eq_1) (And.intro (uC Try.prog c71_6.eq_1) (And.intro (uC Try.prog c71_7.eq_1) (uC Try.prog c71.eq_1)))))))))
def v71 : List RV := [.t 2]
theorem s71 : slimF Try.prog Try.f71 = some (c71.bare, v71) := by kernel_rfl
/-! 85 slices.nextPowerOfTwo: parameters 1, live [0], slots [0:length, 1:length] -/
def c85_0 : List SOper := [⟨some 2, .q (.mv (.c (.int .u64 0))), none⟩]
def c85_1 : List SOper := [⟨some 3, .q (.mv (.t 0)), none⟩, ⟨some 4, .q (.cvi .u64 (.t 3)), none⟩, ⟨some 5, .e (.call 71 [(.t 4)]), none⟩, ⟨some 6, .q (.bin .shl (.c (.int .u64 1)) (.t 5)), none⟩, ⟨some 2, .q (.mv (.t 6)), none⟩]
def c85_2 : SCode := .seq (.region c85_1 [2]) .ret
def c85_3 : SCode := .seq (.region c85_0 [0]) c85_2
def c85 : SCode := c85_3
theorem w85 : type_of% (And.intro (uR Try.prog c85_0.eq_1) (And.intro (uR Try.prog c85_1.eq_1) (And.intro (uC Try.prog c85_2.eq_1) (And.intro (uC Try.prog c85_3.eq_1) (uC Try.prog c85.eq_1))))) := (And.intro (uR Try.prog c85_0.eq_1) (And.intro (uR Try.prog c85_1.eq_1) (And.intro (uC Try.prog c85_2.eq_1) (And.intro (uC Try.prog c85_3.eq_1) (uC Try.prog c85.eq_1)))))
def v85 : List RV := [.t 2]
theorem s85 : slimF Try.prog Try.f85 = some (c85.bare, v85) := by kernel_rfl
/-! 86 (*slices.xorshift).Next: parameters 1, live [0], slots [0:r, 1:r] -/
def c86_0 : List SOper := [⟨some 2, .q (.mv (.c (.int .u64 0))), none⟩]
def c86_1 : List SOper := [⟨some 3, .q (.mv (.t 0)), none⟩, ⟨some 4, .q (.nil (.t 3)), none⟩, ⟨some 5, .q (.ld (.t 4)), none⟩, ⟨some 6, .q (.mv (.t 0)), none⟩, ⟨some 7, .q (.nil (.t 6)), none⟩, ⟨some 8, .q (.ld (.t 7)), none⟩, ⟨some 9, .q (.bin .shl (.t 8) (.c (.int .u64 13))), none⟩, ⟨some 10, .q (.bin .xor (.t 5) (.t 9)), none⟩, ⟨some 11, .q (.nil (.t 3)), none⟩, ⟨none, .e (.st 1 (.t 11) (.t 10)), none⟩]
def c86_2 : List SOper := [⟨some 12, .q (.mv (.t 0)), none⟩, ⟨some 13, .q (.nil (.t 12)), none⟩, ⟨some 14, .q (.ld (.t 13)), none⟩, ⟨some 15, .q (.mv (.t 0)), none⟩, ⟨some 16, .q (.nil (.t 15)), none⟩, ⟨some 17, .q (.ld (.t 16)), none⟩, ⟨some 18, .q (.bin .shr (.t 17) (.c (.int .u64 7))), none⟩, ⟨some 19, .q (.bin .xor (.t 14) (.t 18)), none⟩, ⟨some 20, .q (.nil (.t 12)), none⟩, ⟨none, .e (.st 1 (.t 20) (.t 19)), none⟩]
def c86_3 : List SOper := [⟨some 21, .q (.mv (.t 0)), none⟩, ⟨some 22, .q (.nil (.t 21)), none⟩, ⟨some 23, .q (.ld (.t 22)), none⟩, ⟨some 24, .q (.mv (.t 0)), none⟩, ⟨some 25, .q (.nil (.t 24)), none⟩, ⟨some 26, .q (.ld (.t 25)), none⟩, ⟨some 27, .q (.bin .shl (.t 26) (.c (.int .u64 17))), none⟩, ⟨some 28, .q (.bin .xor (.t 23) (.t 27)), none⟩, ⟨some 29, .q (.nil (.t 21)), none⟩, ⟨none, .e (.st 1 (.t 29) (.t 28)), none⟩]
def c86_4 : List SOper := [⟨some 30, .q (.mv (.t 0)), none⟩, ⟨some 31, .q (.nil (.t 30)), none⟩, ⟨some 32, .q (.ld (.t 31)), none⟩, ⟨some 2, .q (.mv (.t 32)), none⟩]
def c86_5 : SCode := .seq (.region c86_4 [2]) .ret
def c86_6 : SCode := .seq (.region c86_3 [0]) c86_5
def c86_7 : SCode := .seq (.region c86_2 [0]) c86_6
def c86_8 : SCode := .seq (.region c86_1 [0]) c86_7
def c86_9 : SCode := .seq (.region c86_0 [0]) c86_8
def c86 : SCode := c86_9
theorem w86 : type_of% (And.intro (uR Try.prog c86_0.eq_1) (And.intro (uR Try.prog c86_1.eq_1) (And.intro (uR Try.prog c86_2.eq_1) (And.intro (uR Try.prog c86_3.eq_1) (And.intro (uR Try.prog c86_4.eq_1) (And.intro (uC Try.prog c86_5.eq_1) (And.intro (uC Try.prog c86_6.eq_1) (And.intro (uC Try.prog c86_7.eq_1) (And.intro (uC Try.prog c86_8.eq_1) (And.intro (uC Try.prog c86_9.eq_1) (uC Try.prog c86.eq_1))))))))))) := (And.intro (uR Try.prog c86_0.eq_1) (And.intro (uR Try.prog c86_1.eq_1) (And.intro (uR Try.prog c86_2.eq_1) (And.intro (uR Try.prog c86_3.eq_1) (And.intro (uR Try.prog c86_4.eq_1) (And.intro (uC Try.prog c86_5.eq_1) (And.intro (uC Try.prog c86_6.eq_1) (And.intro (uC Try.prog c86_7.eq_1) (And.intro (uC Try.prog c86_8.eq_1) (And.intro (uC Try.prog c86_9.eq_1) (uC Try.prog c86.eq_1)))))))))))
def v86 : List RV := [.t 2]
theorem s86 : slimF Try.prog Try.f86 = some (c86.bare, v86) := by kernel_rfl
/-! 76 slices.breakPatternsCmpFunc[loop.example/g00066/impl.Reel]: parameters 4, live [0, 1, 2], slots [0:data, 1:a, 2:b, 3:cmp, 4:data, 5:a, 6:b, 7:cmp, 8:length, 9:random, 10:modulus, 11:idx, 12:other] -/
def c76_0 : List SOper := [⟨some 13, .q (.mv (.t 2)), none⟩, ⟨some 14, .q (.mv (.t 1)), none⟩, ⟨some 15, .q (.bin .sub (.t 13) (.t 14)), none⟩, ⟨some 8, .q (.mv (.t 15)), none⟩]
def c76_1 : List SOper := [⟨some 16, .q (.mv (.t 8)), none⟩, ⟨some 17, .q (.bin .geq (.t 16) (.c (.int .i64 8))), none⟩]
def c76_2 : List SOper := [⟨some 18, .q (.mv (.t 8)), none⟩, ⟨some 19, .q (.cvi .u64 (.t 18)), none⟩, ⟨some 9, .a (.new [(.int .u64 0)]), none⟩, ⟨none, .e (.st 1 (.t 9) (.t 19)), none⟩]
def c76_3 : List SOper := [⟨some 20, .q (.mv (.t 8)), none⟩, ⟨some 21, .e (.call 85 [(.t 20)]), none⟩, ⟨some 10, .q (.mv (.t 21)), none⟩]
def c76_4 : List SOper := [⟨some 22, .q (.mv (.t 1)), none⟩, ⟨some 23, .q (.mv (.t 8)), none⟩, ⟨some 24, .q (.bin .quo (.t 23) (.c (.int .i64 4))), none⟩, ⟨some 25, .q (.bin .mul (.t 24) (.c (.int .i64 2))), none⟩, ⟨some 26, .q (.bin .add (.t 22) (.t 25)), none⟩, ⟨some 27, .q (.bin .sub (.t 26) (.c (.int .i64 1))), none⟩, ⟨some 11, .q (.mv (.t 27)), none⟩]
def c76_5 : List SOper := [⟨some 28, .q (.mv (.t 11)), none⟩, ⟨some 29, .q (.mv (.t 1)), none⟩, ⟨some 30, .q (.mv (.t 8)), none⟩, ⟨some 31, .q (.bin .quo (.t 30) (.c (.int .i64 4))), none⟩, ⟨some 32, .q (.bin .mul (.t 31) (.c (.int .i64 2))), none⟩, ⟨some 33, .q (.bin .add (.t 29) (.t 32)), none⟩, ⟨some 34, .q (.bin .add (.t 33) (.c (.int .i64 1))), none⟩, ⟨some 35, .q (.bin .leq (.t 28) (.t 34)), none⟩]
def c76_6 : SCode := .cond (.t 35) .skip (.exit 0)
def c76_7 : SCode := .seq (.region c76_5 [0, 1, 8, 9, 10, 11, 35]) c76_6
def c76_8 : List SOper := [⟨some 38, .e (.call 86 [(.t 9)]), none⟩, ⟨some 39, .q (.mv (.t 10)), none⟩, ⟨some 40, .q (.bin .sub (.t 39) (.c (.int .u64 1))), none⟩, ⟨some 41, .q (.bin .and (.t 38) (.t 40)), none⟩, ⟨some 42, .q (.cvi .i64 (.t 41)), none⟩, ⟨some 12, .q (.mv (.t 42)), none⟩]
def c76_9 : List SOper := [⟨some 43, .q (.mv (.t 12)), none⟩, ⟨some 44, .q (.mv (.t 8)), none⟩, ⟨some 45, .q (.bin .geq (.t 43) (.t 44)), none⟩]
def c76_10 : List SOper := [⟨some 46, .q (.mv (.t 12)), none⟩, ⟨some 47, .q (.mv (.t 8)), none⟩, ⟨some 48, .q (.bin .sub (.t 46) (.t 47)), none⟩, ⟨some 12, .q (.mv (.t 48)), none⟩]
def c76_11 : SCode := .cond (.t 45) (.region c76_10 [0, 1, 8, 9, 10, 11, 12]) .skip
def c76_12 : SCode := .seq (.region c76_9 [0, 1, 8, 9, 10, 11, 12, 45]) c76_11
def c76_13 : List SOper := [⟨some 49, .q (.mv (.t 0)), none⟩, ⟨some 50, .q (.mv (.t 11)), none⟩, ⟨some 51, .q (.mv (.t 0)), none⟩, ⟨some 52, .q (.mv (.t 1)), none⟩, ⟨some 53, .q (.mv (.t 12)), none⟩, ⟨some 54, .q (.bin .add (.t 52) (.t 53)), none⟩, ⟨some 55, .q (.mv (.t 0)), none⟩, ⟨some 56, .q (.mv (.t 1)), none⟩, ⟨some 57, .q (.mv (.t 12)), none⟩, ⟨some 58, .q (.bin .add (.t 56) (.t 57)), none⟩, ⟨some 59, .q (.ia 3 (.t 55) (.t 58)), none⟩, ⟨some 60, .q (.ldn 3 (.t 59)), none⟩, ⟨some 61, .q (.mv (.t 0)), none⟩, ⟨some 62, .q (.mv (.t 11)), none⟩, ⟨some 63, .q (.ia 3 (.t 61) (.t 62)), none⟩, ⟨some 64, .q (.ldn 3 (.t 63)), none⟩, ⟨some 65, .q (.ia 3 (.t 49) (.t 50)), none⟩, ⟨none, .e (.st 3 (.t 65) (.t 60)), none⟩, ⟨some 66, .q (.ia 3 (.t 51) (.t 54)), none⟩, ⟨none, .e (.st 3 (.t 66) (.t 64)), none⟩]
def c76_14 : SCode := .seq c76_12 (.region c76_13 [0, 1, 8, 9, 10, 11])
def c76_15 : SCode := .seq (.region c76_8 [0, 1, 8, 9, 10, 11, 12]) c76_14
def c76_16 : SCode := .block 1 c76_15
def c76_17 : List SOper := [⟨some 36, .q (.mv (.t 11)), none⟩, ⟨some 37, .q (.bin .add (.t 36) (.c (.int .i64 1))), none⟩, ⟨some 11, .q (.mv (.t 37)), none⟩]
def c76_18 : SCode := .seq c76_16 (.region c76_17 [0, 1, 8, 9, 10, 11])
def c76_19 : SCode := .seq c76_7 c76_18
def c76_20 : SCode := .loop c76_19
def c76_21 : SCode := .block 0 c76_20
def c76_22 : SCode := .seq (.region c76_4 [0, 1, 8, 9, 10, 11]) c76_21
def c76_23 : SCode := .seq (.region c76_3 [0, 1, 8, 9, 10]) c76_22
def c76_24 : SCode := .seq (.region c76_2 [0, 1, 8, 9]) c76_23
def c76_25 : SCode := .cond (.t 17) c76_24 .skip
def c76_26 : SCode := .seq (.region c76_1 [0, 1, 8, 17]) c76_25
def c76_27 : SCode := .seq (.region c76_0 [0, 1, 8]) c76_26
def c76 : SCode := c76_27
theorem w76 : type_of% (And.intro (uR Try.prog c76_0.eq_1) (And.intro (uR Try.prog c76_1.eq_1) (And.intro (uR Try.prog c76_2.eq_1) (And.intro (uR Try.prog c76_3.eq_1) (And.intro (uR Try.prog c76_4.eq_1) (And.intro (uR Try.prog c76_5.eq_1) (And.intro (uC Try.prog c76_6.eq_1) (And.intro (uC Try.prog c76_7.eq_1) (And.intro (uR Try.prog c76_8.eq_1) (And.intro (uR Try.prog c76_9.eq_1) (And.intro (uR Try.prog c76_10.eq_1) (And.intro (uC Try.prog c76_11.eq_1) (And.intro (uC Try.prog c76_12.eq_1) (And.intro (uR Try.prog c76_13.eq_1) (And.intro (uC Try.prog c76_14.eq_1) (And.intro (uC Try.prog c76_15.eq_1) (And.intro (uC Try.prog c76_16.eq_1) (And.intro (uR Try.prog c76_17.eq_1) (And.intro (uC Try.prog c76_18.eq_1) (And.intro (uC Try.prog c76_19.eq_1) (And.intro (uC Try.prog c76_20.eq_1) (And.intro (uC Try.prog c76_21.eq_1) (And.intro (uC Try.prog c76_22.eq_1) (And.intro (uC Try.prog c76_23.eq_1) (And.intro (uC Try.prog c76_24.eq_1) (And.intro (uC Try.prog c76_25.eq_1) (And.intro (uC Try.prog c76_26.eq_1) (And.intro (uC Try.prog c76_27.eq_1) (uC Try.prog c76.eq_1))))))))))))))))))))))))))))) := (And.intro (uR Try.prog c76_0.eq_1) (And.intro (uR Try.prog c76_1.eq_1) (And.intro (uR Try.prog c76_2.eq_1) (And.intro (uR Try.prog c76_3.eq_1) (And.intro (uR Try.prog c76_4.eq_1) (And.intro (uR Try.prog c76_5.eq_1) (And.intro (uC Try.prog c76_6.eq_1) (And.intro (uC Try.prog c76_7.eq_1) (And.intro (uR Try.prog c76_8.eq_1) (And.intro (uR Try.prog c76_9.eq_1) (And.intro (uR Try.prog c76_10.eq_1) (And.intro (uC Try.prog c76_11.eq_1) (And.intro (uC Try.prog c76_12.eq_1) (And.intro (uR Try.prog c76_13.eq_1) (And.intro (uC Try.prog c76_14.eq_1) (And.intro (uC Try.prog c76_15.eq_1) (And.intro (uC Try.prog c76_16.eq_1) (And.intro (uR Try.prog c76_17.eq_1) (And.intro (uC Try.prog c76_18.eq_1) (And.intro (uC Try.prog c76_19.eq_1) (And.intro (uC Try.prog c76_20.eq_1) (And.intro (uC Try.prog c76_21.eq_1) (And.intro (uC Try.prog c76_22.eq_1) (And.intro (uC Try.prog c76_23.eq_1) (And.intro (uC Try.prog c76_24.eq_1) (And.intro (uC Try.prog c76_25.eq_1) (And.intro (uC Try.prog c76_26.eq_1) (And.intro (uC Try.prog c76_27.eq_1) (uC Try.prog c76.eq_1)))))))))))))))))))))))))))))
def v76 : List RV := []
theorem s76 : slimF Try.prog Try.f76 = some (c76.bare, v76) := by kernel_rfl

def lenTab : Value := .string ⟨#[0, 1, 2, 2, 3, 3, 3, 3, 4, 4, 4, 4, 4, 4, 4, 4, 5, 5, 5, 5, 5, 5, 5, 5, 5, 5, 5, 5, 5, 5, 5, 5, 6, 6, 6, 6, 6, 6, 6, 6, 6, 6, 6, 6, 6, 6, 6, 6, 6, 6, 6, 6, 6, 6, 6, 6, 6, 6, 6, 6, 6, 6, 6, 6, 7, 7, 7, 7, 7, 7, 7, 7, 7, 7, 7, 7, 7, 7, 7, 7, 7, 7, 7, 7, 7, 7, 7, 7, 7, 7, 7, 7, 7, 7, 7, 7, 7, 7, 7, 7, 7, 7, 7, 7, 7, 7, 7, 7, 7, 7, 7, 7, 7, 7, 7, 7, 7, 7, 7, 7, 7, 7, 7, 7, 7, 7, 7, 7, 8, 8, 8, 8, 8, 8, 8, 8, 8, 8, 8, 8, 8, 8, 8, 8, 8, 8, 8, 8, 8, 8, 8, 8, 8, 8, 8, 8, 8, 8, 8, 8, 8, 8, 8, 8, 8, 8, 8, 8, 8, 8, 8, 8, 8, 8, 8, 8, 8, 8, 8, 8, 8, 8, 8, 8, 8, 8, 8, 8, 8, 8, 8, 8, 8, 8, 8, 8, 8, 8, 8, 8, 8, 8, 8, 8, 8, 8, 8, 8, 8, 8, 8, 8, 8, 8, 8, 8, 8, 8, 8, 8, 8, 8, 8, 8, 8, 8, 8, 8, 8, 8, 8, 8, 8, 8, 8, 8, 8, 8, 8, 8, 8, 8, 8, 8, 8, 8, 8, 8, 8, 8, 8, 8, 8, 8, 8, 8]⟩
def tabB (y : Nat) : Bool := match ivsV lenTab (.int .u8 (y : Int)) with
  | some (.int .u8 n) => decide (0 ≤ n ∧ n ≤ 8 ∧ (1 ≤ y → 2 ^ n.toNat ≤ 2 * y))
  | _ => false
theorem tabB_all : (List.range 256).all tabB = true := by decide +kernel
theorem tab_ok (y : Nat) (hy : y < 256) : ∃ n : Nat, ivsV (.string ⟨#[0, 1, 2, 2, 3, 3, 3, 3, 4, 4, 4, 4, 4, 4, 4, 4, 5, 5, 5, 5, 5, 5, 5, 5, 5, 5, 5, 5, 5, 5, 5, 5, 6, 6, 6, 6, 6, 6, 6, 6, 6, 6, 6, 6, 6, 6, 6, 6, 6, 6, 6, 6, 6, 6, 6, 6, 6, 6, 6, 6, 6, 6, 6, 6, 7, 7, 7, 7, 7, 7, 7, 7, 7, 7, 7, 7, 7, 7, 7, 7, 7, 7, 7, 7, 7, 7, 7, 7, 7, 7, 7, 7, 7, 7, 7, 7, 7, 7, 7, 7, 7, 7, 7, 7, 7, 7, 7, 7, 7, 7, 7, 7, 7, 7, 7, 7, 7, 7, 7, 7, 7, 7, 7, 7, 7, 7, 7, 7, 8, 8, 8, 8, 8, 8, 8, 8, 8, 8, 8, 8, 8, 8, 8, 8, 8, 8, 8, 8, 8, 8, 8, 8, 8, 8, 8, 8, 8, 8, 8, 8, 8, 8, 8, 8, 8, 8, 8, 8, 8, 8, 8, 8, 8, 8, 8, 8, 8, 8, 8, 8, 8, 8, 8, 8, 8, 8, 8, 8, 8, 8, 8, 8, 8, 8, 8, 8, 8, 8, 8, 8, 8, 8, 8, 8, 8, 8, 8, 8, 8, 8, 8, 8, 8, 8, 8, 8, 8, 8, 8, 8, 8, 8, 8, 8, 8, 8, 8, 8, 8, 8, 8, 8, 8, 8, 8, 8, 8, 8, 8, 8, 8, 8, 8, 8, 8, 8, 8, 8, 8, 8, 8, 8, 8, 8, 8, 8]⟩) (.int .u8 (y : Int)) = some (.int .u8 (n : Int)) ∧ n ≤ 8 ∧ (1 ≤ y → 2 ^ n ≤ 2 * y) := by
  have := List.all_eq_true.mp tabB_all y (List.mem_range.mpr hy)
  unfold tabB at this
  split at this
  · rename_i n e
    obtain ⟨h1, h2, h3⟩ := of_decide_eq_true this
    exact ⟨n.toNat, by rw [Int.toNat_of_nonneg h1]; exact e, by omega, h3⟩
  · cases this
theorem Len64_ok (h : Heap) (x : Nat) (hx : x ≤ 1000000) : ACall Try.prog 83 [.int .u64 (x : Int)] h fun r h' => h' = h ∧ ∃ n : Nat, r = .int .i64 (n : Int) ∧ n ≤ 32 ∧ (1 ≤ x → 2 ^ n ≤ 2 * x) := by
  refine ACall.of Try.func83 s83 (of_decide_eq_true rfl) ?_
  have P16 : (2 : Int) ^ (min (16 : Int).toNat IntKind.u64.bits) = 65536 := by decide
  have P8 : (2 : Int) ^ (min (8 : Int).toNat IntKind.u64.bits) = 256 := by decide
  have u8w : ∀ y : Nat, y < 256 → IntKind.u8.wrap (y : Int) = (y : Int) := fun y hy => by simp [IntKind.wrap, IntKind.signed, IntKind.bits]; omega
  by_cases h1 : 65536 ≤ x
  · have f1 : Int.fdiv (x : Int) 65536 = ((x / 65536 : Nat) : Int) := by rw [Int.fdiv_eq_ediv_of_nonneg _ (by omega)]; omega
    obtain ⟨n, t1, t2, t3⟩ := tab_ok (x / 65536) (by omega)
    have W0 : IntKind.i64.wrap ((0 : Int) + 16) = 16 := rfl
    have W : IntKind.i64.wrap ((n : Int)) = (n : Int) := i64w (by omega)
    have W2 : IntKind.i64.wrap (16 + (n : Int)) = ((16 + n : Nat) : Int) := i64e (by omega) (by omega)
    simp (maxSteps := 4000000) (disch := omega) only [ah, am, Nat.reduceEqDiff, reduceCtorEq, Nat.reduceAdd, Nat.reduceLeDiff, Nat.reduceMul, Nat.reduceLT, if_true, if_false, true_and, and_true, and_self, Nat.reduceBEq, QOp.loads, boxO, bslO, buildO, cutL, fillV, putL, w83, v83, decide_eq_false (show ¬ (4294967296 : Int) ≤ (x : Int) by omega), decide_eq_true (show (65536 : Int) ≤ (x : Int) by omega), P16, f1, decide_eq_false (show ¬ (256 : Int) ≤ ((x / 65536 : Nat) : Int) by omega), u8w (x / 65536) (by omega), t1, W0, W, W2]
    exact ⟨16 + n, rfl, by omega, fun _ => by rw [Nat.pow_add]; have := t3 (by omega); omega⟩
  · by_cases h2 : 256 ≤ x
    · have f1 : Int.fdiv (x : Int) 256 = ((x / 256 : Nat) : Int) := by rw [Int.fdiv_eq_ediv_of_nonneg _ (by omega)]; omega
      obtain ⟨n, t1, t2, t3⟩ := tab_ok (x / 256) (by omega)
      have W0 : IntKind.i64.wrap ((0 : Int) + 8) = 8 := rfl
      have W : IntKind.i64.wrap ((n : Int)) = (n : Int) := i64w (by omega)
      have W2 : IntKind.i64.wrap (8 + (n : Int)) = ((8 + n : Nat) : Int) := i64e (by omega) (by omega)
      simp (maxSteps := 4000000) (disch := omega) only [ah, am, Nat.reduceEqDiff, reduceCtorEq, Nat.reduceAdd, Nat.reduceLeDiff, Nat.reduceMul, Nat.reduceLT, if_true, if_false, true_and, and_true, and_self, Nat.reduceBEq, QOp.loads, boxO, bslO, buildO, cutL, fillV, putL, w83, v83, decide_eq_false (show ¬ (4294967296 : Int) ≤ (x : Int) by omega), decide_eq_false (show ¬ (65536 : Int) ≤ (x : Int) by omega), P8, f1, decide_eq_true (show (256 : Int) ≤ (x : Int) by omega), u8w (x / 256) (by omega), t1, W0, W, W2]
      exact ⟨8 + n, rfl, by omega, fun _ => by rw [Nat.pow_add]; have := t3 (by omega); omega⟩
    · obtain ⟨n, t1, t2, t3⟩ := tab_ok x (by omega)
      have W : IntKind.i64.wrap ((n : Int)) = (n : Int) := i64w (by omega)
      have W2 : IntKind.i64.wrap (0 + (n : Int)) = (n : Int) := i64e (by omega) (by omega)
      simp (maxSteps := 4000000) (disch := omega) only [ah, am, Nat.reduceEqDiff, reduceCtorEq, Nat.reduceAdd, Nat.reduceLeDiff, Nat.reduceMul, Nat.reduceLT, if_true, if_false, true_and, and_true, and_self, Nat.reduceBEq, QOp.loads, boxO, bslO, buildO, cutL, fillV, putL, w83, v83, decide_eq_false (show ¬ (4294967296 : Int) ≤ (x : Int) by omega), decide_eq_false (show ¬ (65536 : Int) ≤ (x : Int) by omega), decide_eq_false (show ¬ (256 : Int) ≤ (x : Int) by omega), u8w x (by omega), t1, W, W2]
      exact ⟨n, rfl, by omega, t3⟩
theorem Len_ok (h : Heap) (x : Nat) (hx : x ≤ 1000000) : ACall Try.prog 71 [.int .u64 (x : Int)] h fun r h' => h' = h ∧ ∃ n : Nat, r = .int .i64 (n : Int) ∧ n ≤ 32 ∧ (1 ≤ x → 2 ^ n ≤ 2 * x) := by
  refine ACall.of Try.func71 s71 (of_decide_eq_true rfl) ?_
  simp (maxSteps := 4000000) (disch := omega) only [ah, am, Nat.reduceEqDiff, reduceCtorEq, Nat.reduceAdd, Nat.reduceLeDiff, Nat.reduceMul, Nat.reduceLT, if_true, if_false, true_and, and_true, and_self, Nat.reduceBEq, QOp.loads, boxO, bslO, buildO, cutL, fillV, putL, w71, v71]
  refine stepC.of (Len64_ok h x hx) ?_
  rintro _ Hx ⟨hx, n, rfl, h1, h2⟩; rw [hx]; clear hx Hx
  simp (maxSteps := 4000000) (disch := omega) only [ah, am, Nat.reduceEqDiff, reduceCtorEq, Nat.reduceAdd, Nat.reduceLeDiff, Nat.reduceMul, Nat.reduceLT, if_true, if_false, true_and, and_true, and_self, Nat.reduceBEq, QOp.loads, boxO, bslO, buildO, cutL, fillV, putL, w71, v71]
  exact ⟨n, rfl, h1, h2⟩
theorem u64w' {n : Int} (h : 0 ≤ n ∧ n ≤ 9223372036854775807) : IntKind.u64.wrap n = n := by
  simp only [IntKind.wrap, IntKind.signed, IntKind.bits]
  simp
  omega
theorem nextPow_ok (h : Heap) (x : Nat) (hx : x ≤ 1000000) (h1 : 1 ≤ x) : ACall Try.prog 85 [.int .i64 (x : Int)] h fun r h' => h' = h ∧ ∃ m : Nat, r = .int .u64 (m : Int) ∧ 1 ≤ m ∧ m ≤ 2 * x := by
  refine ACall.of Try.func85 s85 (of_decide_eq_true rfl) ?_
  have w := u64w' (n := (x : Int)) (by omega)
  simp (maxSteps := 4000000) (disch := omega) only [ah, am, Nat.reduceEqDiff, reduceCtorEq, Nat.reduceAdd, Nat.reduceLeDiff, Nat.reduceMul, Nat.reduceLT, if_true, if_false, true_and, and_true, and_self, Nat.reduceBEq, QOp.loads, boxO, bslO, buildO, cutL, fillV, putL, w85, v85, w]
  refine stepC.of (Len_ok h x hx) ?_
  rintro _ Hx ⟨hx, n, rfl, h2, h3⟩; rw [hx]; clear hx Hx
  have h3 := h3 h1
  have hp : 1 ≤ 2 ^ n := Nat.one_le_two_pow
  have hm : min n IntKind.u64.bits = n := by simp [IntKind.bits]; omega
  have w2 := u64w' (n := ((2 ^ n : Nat) : Int)) (by omega)
  simp (maxSteps := 4000000) (disch := omega) only [ah, am, Nat.reduceEqDiff, reduceCtorEq, Nat.reduceAdd, Nat.reduceLeDiff, Nat.reduceMul, Nat.reduceLT, if_true, if_false, true_and, and_true, and_self, Nat.reduceBEq, QOp.loads, boxO, bslO, buildO, cutL, fillV, putL, w85, v85]
  refine ⟨2 ^ n, ?_, hp, h3⟩
  rw [hm, Int.one_mul]
  rw [show (2 : Int) ^ n = ((2 ^ n : Nat) : Int) by push_cast; rfl, w2]
theorem next_ok (h : Heap) (q : Nat) (x : Int) (B : Bx h q [.int .u64 x]) : ACall Try.prog 86 [.pointer (some ⟨q, 0, none⟩)] h fun r h' => ∃ y : Int, r = .int .u64 y ∧ ExtG q h h' ∧ Bx h' q [.int .u64 y] := by
  refine ACall.of Try.func86 s86 (of_decide_eq_true rfl) ?_
  have X := B.ld
  have key : ∀ {K : Heap} {x : Int} (B : Bx K q [.int .u64 x]) (y : Int), ∃ K2, stV K 1 (.pointer (some ⟨q, 0, none⟩)) (.int .u64 y) = some K2 ∧ Bx K2 q [.int .u64 y] ∧ ExtG q K K2 := fun B y => by
    obtain ⟨K2, es, B2, g2⟩ := B.put (o := 0) (n := 1) (y := .int .u64 y) rfl (by simp) rfl
    exact ⟨K2, es, B2, g2⟩
  simp (maxSteps := 4000000) (disch := omega) only [ah, am, Nat.reduceEqDiff, reduceCtorEq, Nat.reduceAdd, Nat.reduceLeDiff, Nat.reduceMul, Nat.reduceLT, if_true, if_false, true_and, and_true, and_self, Nat.reduceBEq, QOp.loads, boxO, bslO, buildO, cutL, fillV, putL, w86, v86, X]
  generalize IntKind.u64.wrap _ = y1
  obtain ⟨K1, e1, B1, g1⟩ := key B y1
  have X1 := B1.ld
  simp (maxSteps := 4000000) (disch := omega) only [ah, am, Nat.reduceEqDiff, reduceCtorEq, Nat.reduceAdd, Nat.reduceLeDiff, Nat.reduceMul, Nat.reduceLT, if_true, if_false, true_and, and_true, and_self, Nat.reduceBEq, QOp.loads, boxO, bslO, buildO, cutL, fillV, putL, w86, v86, e1, X1]
  generalize IntKind.u64.wrap _ = y2
  obtain ⟨K2, e2, B2, g2⟩ := key B1 y2
  have X2 := B2.ld
  simp (maxSteps := 4000000) (disch := omega) only [ah, am, Nat.reduceEqDiff, reduceCtorEq, Nat.reduceAdd, Nat.reduceLeDiff, Nat.reduceMul, Nat.reduceLT, if_true, if_false, true_and, and_true, and_self, Nat.reduceBEq, QOp.loads, boxO, bslO, buildO, cutL, fillV, putL, w86, v86, e2, X2]
  generalize IntKind.u64.wrap _ = y3
  obtain ⟨K3, e3, B3, g3⟩ := key B2 y3
  have X3 := B3.ld
  simp (maxSteps := 4000000) (disch := omega) only [ah, am, Nat.reduceEqDiff, reduceCtorEq, Nat.reduceAdd, Nat.reduceLeDiff, Nat.reduceMul, Nat.reduceLT, if_true, if_false, true_and, and_true, and_self, Nat.reduceBEq, QOp.loads, boxO, bslO, buildO, cutL, fillV, putL, w86, v86, e3, X3]
  exact ⟨y3, rfl, (g1.trans g2).trans g3, B3⟩
theorem and_boundU (a m : Int) (hm : 0 ≤ m ∧ m ≤ 1073741823) : 0 ≤ IntKind.u64.wrap ((BitVec.ofInt IntKind.u64.bits a &&& BitVec.ofInt IntKind.u64.bits m).toNat) ∧ IntKind.u64.wrap ((BitVec.ofInt IntKind.u64.bits a &&& BitVec.ofInt IntKind.u64.bits m).toNat) ≤ m := by
  have h1 : (BitVec.ofInt IntKind.u64.bits m).toNat = m.toNat := by
    rw [BitVec.toNat_ofInt]
    have : ((2 ^ IntKind.u64.bits : Nat) : Int) = 18446744073709551616 := rfl
    rw [this, Int.emod_eq_of_lt (by omega) (by omega)]
  have h2 : (BitVec.ofInt IntKind.u64.bits a &&& BitVec.ofInt IntKind.u64.bits m).toNat ≤ m.toNat := by
    rw [BitVec.toNat_and, h1]; exact Nat.and_le_right
  rw [u64w' (by omega)]; omega
open Go.Sort (PermIn)
theorem break_ok (h : Heap) (g : Nat) (v : Value) (d : Array Reel) (a b : Nat) (O : OwnT g h encReel 3 v d.toList) (hab : a + 12 < b) (hb : b ≤ d.size) (hl : d.size ≤ 1000000) :
    ACall Try.prog 76 [v, .int .i64 (a : Int), .int .i64 (b : Int), .func (.func 56) #[] #[]] h
      fun r h' => ∃ d' : Array Reel, PermIn a b d d' ∧ ExtG g h h' ∧ OwnT g h' encReel 3 v d'.toList := by
  have hg := own_lt' O (by simp; omega)
  refine ACall.of Try.func76 s76 (of_decide_eq_true rfl) ?_
  obtain ⟨l, rfl⟩ : ∃ l, b = a + l := ⟨b - a, by omega⟩
  have w0 : IntKind.i64.wrap (((a + l : Nat) : Int) - (a : Int)) = (l : Int) := i64e (by omega) (by omega)
  have wu := u64w' (n := (l : Int)) (by omega)
  simp (maxSteps := 4000000) (disch := omega) only [ah, am, Nat.reduceEqDiff, reduceCtorEq, Nat.reduceAdd, Nat.reduceLeDiff, Nat.reduceMul, Nat.reduceLT, if_true, if_false, true_and, and_true, and_self, Nat.reduceBEq, QOp.loads, boxO, bslO, buildO, cutL, fillV, putL, w76, v76, w0, decide_eq_true (show (8 : Int) ≤ (l : Int) by omega), wu]
  have eM := Ext.more h [[.int .u64 (l : Int)]]
  have B0 : Bx (h.more [[.int .u64 (l : Int)]]) h.size [.int .u64 (l : Int)] := Bx.new _ _ _
  have O := O.ext eM
  obtain ⟨q, hq⟩ : ∃ q, q = h.size := ⟨_, rfl⟩
  have hqg : q ≠ g := by omega
  rw [← hq] at B0 ⊢
  generalize h.more [[.int .u64 (l : Int)]] = M at eM B0 O ⊢
  refine stepC.of (nextPow_ok M l (by omega) (by omega)) ?_
  rintro _ Hx ⟨hx, m, rfl, m1, m2⟩; rw [hx]; clear hx Hx
  have q4 : (l : Int).tdiv 4 = ((l / 4 : Nat) : Int) := by rw [Int.tdiv_eq_ediv_of_nonneg (by omega)]; omega
  have n4 : (4 : Int) ≠ 0 := by decide
  have w1 : IntKind.i64.wrap ((l / 4 : Nat) : Int) = ((l / 4 : Nat) : Int) := i64w (by omega)
  have w3 : IntKind.i64.wrap (((l / 4 : Nat) : Int) * 2) = ((l / 4 * 2 : Nat) : Int) := i64e (by omega) (by omega)
  obtain ⟨mid, hmid⟩ : ∃ mid, mid = a + l / 4 * 2 := ⟨_, rfl⟩
  have w6 : IntKind.i64.wrap ((a : Int) + ((l / 4 * 2 : Nat) : Int)) = (mid : Int) := i64e (by omega) (by omega)
  have w7 : IntKind.i64.wrap (((mid : Nat) : Int) - 1) = ((mid - 1 : Nat) : Int) := i64e (by omega) (by omega)
  have w8 : IntKind.i64.wrap (((mid : Nat) : Int) + 1) = ((mid + 1 : Nat) : Int) := i64e (by omega) (by omega)
  simp (maxSteps := 4000000) (disch := omega) only [ah, am, Nat.reduceEqDiff, reduceCtorEq, Nat.reduceAdd, Nat.reduceLeDiff, Nat.reduceMul, Nat.reduceLT, if_true, if_false, true_and, and_true, and_self, Nat.reduceBEq, QOp.loads, boxO, bslO, buildO, cutL, fillV, putL, w76, v76, q4, n4, ne_eq, w1, w3, w6, w7]
  refine ⟨fun k E K => ∃ (i : Nat) (x : Int) (d' : Array Reel), k + i = mid + 2 ∧ mid - 1 ≤ i ∧ PermIn a (a + l) d d' ∧ ExtG g h K ∧ Bx K q [.int .u64 x] ∧ OwnT g K encReel 3 v d'.toList ∧
    E = [(0, v), (1, .int .i64 (a : Int)), (8, .int .i64 (l : Int)), (9, .pointer (some ⟨q, 0, none⟩)), (10, .int .u64 (m : Int)), (11, .int .i64 (i : Int))],
    ⟨3, mid - 1, _, d, by omega, by omega, Go.Sort.permIn_refl _ _ _, eM.toG, B0, O, rfl⟩, ?_⟩
  rintro k E K ⟨i, x, d', hk, hi, P, G, B, O, rfl⟩
  have hs : d'.size = d.size := P.1
  by_cases hik : i ≤ mid + 1
  · simp (maxSteps := 4000000) (disch := omega) only [ah, am, Nat.reduceEqDiff, reduceCtorEq, Nat.reduceAdd, Nat.reduceLeDiff, Nat.reduceMul, Nat.reduceLT, if_true, if_false, true_and, and_true, and_self, Nat.reduceBEq, QOp.loads, boxO, bslO, buildO, cutL, fillV, putL, w76, v76, q4, n4, ne_eq, w1, w3, w6, w8, decide_eq_true (show (i : Int) ≤ ((mid + 1 : Nat) : Int) by omega)]
    refine stepC.of (next_ok K q x B) ?_
    rintro _ K2 ⟨y, rfl, g1, B⟩
    have O := O.extG g1 (Ne.symm hqg)
    have wm := u64w' (n := (m : Int) - 1) (by omega)
    have ab := and_boundU y ((m : Int) - 1) (by omega)
    obtain ⟨z, hz⟩ : ∃ z : Nat, IntKind.u64.wrap ((BitVec.ofInt IntKind.u64.bits y &&& BitVec.ofInt IntKind.u64.bits ((m : Int) - 1)).toNat) = (z : Int) := ⟨_, (Int.toNat_of_nonneg ab.1).symm⟩
    rw [hz] at ab
    have wz : IntKind.i64.wrap (z : Int) = (z : Int) := i64w (by omega)
    simp (maxSteps := 4000000) (disch := omega) only [ah, am, Nat.reduceEqDiff, reduceCtorEq, Nat.reduceAdd, Nat.reduceLeDiff, Nat.reduceMul, Nat.reduceLT, if_true, if_false, true_and, and_true, and_self, Nat.reduceBEq, QOp.loads, boxO, bslO, buildO, cutL, fillV, putL, w76, v76, wm, hz, wz]
    have wi : IntKind.i64.wrap ((i : Int) + 1) = ((i + 1 : Nat) : Int) := i64e (by omega) (by omega)
    refine SW_if (fun E K => ∃ o : Nat, o < l ∧ K = K2 ∧ ∃ t, E = (0, v) :: (1, .int .i64 (a : Int)) :: (8, .int .i64 (l : Int)) :: (9, .pointer (some ⟨q, 0, none⟩)) :: (10, .int .u64 (m : Int)) :: (11, .int .i64 (i : Int)) :: (12, .int .i64 (o : Int)) :: t) (fun hb => ?_) (fun hb => ?_) ?_
    · have := of_decide_eq_true hb
      have wo : IntKind.i64.wrap ((z : Int) - (l : Int)) = ((z - l : Nat) : Int) := i64e (by omega) (by omega)
      simp (maxSteps := 4000000) (disch := omega) only [ah, am, Nat.reduceEqDiff, reduceCtorEq, Nat.reduceAdd, Nat.reduceLeDiff, Nat.reduceMul, Nat.reduceLT, if_true, if_false, true_and, and_true, and_self, Nat.reduceBEq, QOp.loads, boxO, bslO, buildO, cutL, fillV, putL, w76, v76, wo]
      exact ⟨z - l, by omega, _, rfl⟩
    · have := of_decide_eq_false hb
      exact ⟨z, by omega, rfl, _, rfl⟩
    rintro E K ⟨o, ho, rfl, t, rfl⟩
    have wa : IntKind.i64.wrap ((a : Int) + (o : Int)) = ((a + o : Nat) : Int) := i64e (by omega) (by omega)
    have R1 := rdA O (i := i) (by omega)
    have R2 := rdA O (i := a + o) (by omega)
    obtain ⟨K3, K4, s1, s2, O, g2⟩ := swA O (i := i) (j := a + o) (by omega) (by omega)
    have B := B.step g2 hqg
    simp (maxSteps := 4000000) (disch := omega) only [ah, am, Nat.reduceEqDiff, reduceCtorEq, Nat.reduceAdd, Nat.reduceLeDiff, Nat.reduceMul, Nat.reduceLT, if_true, if_false, true_and, and_true, and_self, Nat.reduceBEq, QOp.loads, boxO, bslO, buildO, cutL, fillV, putL, w76, v76, wa, R1, R2, s1, s2, wi]
    have G2 := (G.x.top g1 (by omega)).toG
    exact ⟨k - 1, by omega, i + 1, y, _, by omega, by omega, Go.Sort.permIn_trans _ _ _ _ _ P (Go.Sort.swp_permIn _ _ _ _ _ (by omega) (by omega) (by omega) (by omega) (by omega)), G2.trans g2, B, O, rfl⟩
  · simp (maxSteps := 4000000) (disch := omega) only [ah, am, Nat.reduceEqDiff, reduceCtorEq, Nat.reduceAdd, Nat.reduceLeDiff, Nat.reduceMul, Nat.reduceLT, if_true, if_false, true_and, and_true, and_self, Nat.reduceBEq, QOp.loads, boxO, bslO, buildO, cutL, fillV, putL, w76, v76, q4, n4, ne_eq, w1, w3, w6, w8, decide_eq_false (show ¬ (i : Int) ≤ ((mid + 1 : Nat) : Int) by omega)]
    exact ⟨d', P, G, O⟩
end Go.Proofs.Ytmippcfdakjhfaa
