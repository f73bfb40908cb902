import Derived.Test.YtbnkpligdcponaaN4
namespace Go.Proofs.Ytbnkpligdcponaa
open Go Go.Ah
set_option linter.unusedSimpArgs false
set_option linter.unusedVariables false
set_option maxRecDepth 10000
set_option maxHeartbeats 4000000
/-! 60 math/bits.Mul: parameters 2, live [0, 1], slots [0:x, 1:y, 2:x, 3:y, 4:hi, 5:lo, 6:h, 7:l, 8:h, 9:l] -/
def c60_0 : List SOper := [⟨some 4, .q (.mv (.c (.int .u64 0))), none⟩, ⟨some 5, .q (.mv (.c (.int .u64 0))), none⟩]
def c60_1 : List SOper := [⟨some 11, .q (.mv (.t 0)), none⟩, ⟨some 12, .q (.cvi .u32 (.t 11)), none⟩, ⟨some 13, .q (.mv (.t 1)), none⟩, ⟨some 14, .q (.cvi .u32 (.t 13)), none⟩, ⟨some 15, .e (.call 63 [(.t 12), (.t 14)]), none⟩, ⟨some 10, .q (.mv (.t 15)), none⟩, ⟨some 16, .q (.ext (.t 10) 0), none⟩, ⟨some 17, .q (.ext (.t 10) 1), none⟩, ⟨some 6, .q (.mv (.t 16)), none⟩, ⟨some 7, .q (.mv (.t 17)), none⟩]
def c60_2 : List SOper := [⟨some 18, .q (.mv (.t 6)), none⟩, ⟨some 19, .q (.cvi .u64 (.t 18)), none⟩, ⟨some 20, .q (.mv (.t 7)), none⟩, ⟨some 21, .q (.cvi .u64 (.t 20)), none⟩, ⟨some 4, .q (.mv (.t 19)), none⟩, ⟨some 5, .q (.mv (.t 21)), none⟩]
def c60_3 : SCode := .seq (.region c60_2 [4, 5]) .ret
def c60_4 : SCode := .seq (.region c60_1 [6, 7]) c60_3
def c60_5 : SCode := .cond (.c (.bool false)) c60_4 .skip
def c60_6 : List SOper := [⟨some 23, .q (.mv (.t 0)), none⟩, ⟨some 24, .q (.mv (.t 1)), none⟩, ⟨some 25, .e (.call 64 [(.t 23), (.t 24)]), none⟩, ⟨some 22, .q (.mv (.t 25)), none⟩, ⟨some 26, .q (.ext (.t 22) 0), none⟩, ⟨some 27, .q (.ext (.t 22) 1), none⟩, ⟨some 8, .q (.mv (.t 26)), none⟩, ⟨some 9, .q (.mv (.t 27)), none⟩]
def c60_7 : List SOper := [⟨some 28, .q (.mv (.t 8)), none⟩, ⟨some 29, .q (.mv (.t 9)), none⟩, ⟨some 4, .q (.mv (.t 28)), none⟩, ⟨some 5, .q (.mv (.t 29)), none⟩]
def c60_8 : SCode := .seq (.region c60_7 [4, 5]) .ret
def c60_9 : SCode := .seq (.region c60_6 [8, 9]) c60_8
def c60_10 : SCode := .seq c60_5 c60_9
def c60_11 : SCode := .seq (.region c60_0 [0, 1]) c60_10
def c60 : SCode := c60_11
theorem w60 : type_of% (And.intro (uR Try.prog c60_0.eq_1) (And.intro (uR Try.prog c60_1.eq_1) (And.intro (uR Try.prog c60_2.eq_1) (And.intro (uC Try.prog c60_3.eq_1) (And.intro (uC Try.prog c60_4.eq_1) (And.intro (uC Try.prog c60_5.eq_1) (And.intro (uR Try.prog c60_6.eq_1) (And.intro (uR Try.prog c60_7.eq_1) (And.intro (uC Try.prog c60_8.eq_1) (And.intro (uC Try.prog c60_9.eq_1) (And.intro (uC Try.prog c60_10.eq_1) (And.intro (uC Try.prog c60_11.eq_1) (uC Try.prog c60.eq_1))))))))))))) := (And.intro (uR Try.prog c60_0.eq_1) (And.intro (uR Try.prog c60_1.eq_1) (And.intro (uR Try.prog c60_2.eq_1) (And.intro (uC Try.prog c60_3.eq_1) (And.intro (uC Try.prog c60_4.eq_1) (And.intro (uC Try.prog c60_5.eq_1) (And.intro (uR Try.prog c60_6.eq_1) (And.intro (uR Try.prog c60_7.eq_1) (And.intro (uC Try.prog c60_8.eq_1) (And.intro (uC Try.prog c60_9.eq_1) (And.intro (uC Try.prog c60_10.eq_1) (And.intro (uC Try.prog c60_11.eq_1) (uC Try.prog c60.eq_1)))))))))))))
def v60 : List RV := [.t 4, .t 5]
theorem s60 : slimF Try.prog Try.f60 = some (c60.bare, v60) := by kernel_rfl
/-! 64 math/bits.Mul64: parameters 2, live [0, 1], slots [0:x, 1:y, 2:x, 3:y, 4:hi, 5:lo, 6:x0, 7:x1, 8:y0, 9:y1, 10:w0, 11:t, 12:w1, 13:w2] -/
def c64_0 : List SOper := [⟨some 4, .q (.mv (.c (.int .u64 0))), none⟩, ⟨some 5, .q (.mv (.c (.int .u64 0))), none⟩]
def c64_1 : List SOper := [⟨some 14, .q (.mv (.t 0)), none⟩, ⟨some 15, .q (.bin .and (.t 14) (.c (.int .u64 4294967295))), none⟩, ⟨some 6, .q (.mv (.t 15)), none⟩]
def c64_2 : List SOper := [⟨some 16, .q (.mv (.t 0)), none⟩, ⟨some 17, .q (.bin .shr (.t 16) (.c (.int .u64 32))), none⟩, ⟨some 7, .q (.mv (.t 17)), none⟩]
def c64_3 : List SOper := [⟨some 18, .q (.mv (.t 1)), none⟩, ⟨some 19, .q (.bin .and (.t 18) (.c (.int .u64 4294967295))), none⟩, ⟨some 8, .q (.mv (.t 19)), none⟩]
def c64_4 : List SOper := [⟨some 20, .q (.mv (.t 1)), none⟩, ⟨some 21, .q (.bin .shr (.t 20) (.c (.int .u64 32))), none⟩, ⟨some 9, .q (.mv (.t 21)), none⟩]
def c64_5 : List SOper := [⟨some 22, .q (.mv (.t 6)), none⟩, ⟨some 23, .q (.mv (.t 8)), none⟩, ⟨some 24, .q (.bin .mul (.t 22) (.t 23)), none⟩, ⟨some 10, .q (.mv (.t 24)), none⟩]
def c64_6 : List SOper := [⟨some 25, .q (.mv (.t 7)), none⟩, ⟨some 26, .q (.mv (.t 8)), none⟩, ⟨some 27, .q (.bin .mul (.t 25) (.t 26)), none⟩, ⟨some 28, .q (.mv (.t 10)), none⟩, ⟨some 29, .q (.bin .shr (.t 28) (.c (.int .u64 32))), none⟩, ⟨some 30, .q (.bin .add (.t 27) (.t 29)), none⟩, ⟨some 11, .q (.mv (.t 30)), none⟩]
def c64_7 : List SOper := [⟨some 31, .q (.mv (.t 11)), none⟩, ⟨some 32, .q (.bin .and (.t 31) (.c (.int .u64 4294967295))), none⟩, ⟨some 12, .q (.mv (.t 32)), none⟩]
def c64_8 : List SOper := [⟨some 33, .q (.mv (.t 11)), none⟩, ⟨some 34, .q (.bin .shr (.t 33) (.c (.int .u64 32))), none⟩, ⟨some 13, .q (.mv (.t 34)), none⟩]
def c64_9 : List SOper := [⟨some 35, .q (.mv (.t 12)), none⟩, ⟨some 36, .q (.mv (.t 6)), none⟩, ⟨some 37, .q (.mv (.t 9)), none⟩, ⟨some 38, .q (.bin .mul (.t 36) (.t 37)), none⟩, ⟨some 39, .q (.bin .add (.t 35) (.t 38)), none⟩, ⟨some 12, .q (.mv (.t 39)), none⟩]
def c64_10 : List SOper := [⟨some 40, .q (.mv (.t 7)), none⟩, ⟨some 41, .q (.mv (.t 9)), none⟩, ⟨some 42, .q (.bin .mul (.t 40) (.t 41)), none⟩, ⟨some 43, .q (.mv (.t 13)), none⟩, ⟨some 44, .q (.bin .add (.t 42) (.t 43)), none⟩, ⟨some 45, .q (.mv (.t 12)), none⟩, ⟨some 46, .q (.bin .shr (.t 45) (.c (.int .u64 32))), none⟩, ⟨some 47, .q (.bin .add (.t 44) (.t 46)), none⟩, ⟨some 4, .q (.mv (.t 47)), none⟩]
def c64_11 : List SOper := [⟨some 48, .q (.mv (.t 0)), none⟩, ⟨some 49, .q (.mv (.t 1)), none⟩, ⟨some 50, .q (.bin .mul (.t 48) (.t 49)), none⟩, ⟨some 5, .q (.mv (.t 50)), none⟩]
def c64_12 : SCode := .seq (.region c64_11 [4, 5]) .ret
def c64_13 : SCode := .seq (.region c64_10 [0, 1, 4]) c64_12
def c64_14 : SCode := .seq (.region c64_9 [0, 1, 7, 9, 12, 13]) c64_13
def c64_15 : SCode := .seq (.region c64_8 [0, 1, 6, 7, 9, 12, 13]) c64_14
def c64_16 : SCode := .seq (.region c64_7 [0, 1, 6, 7, 9, 11, 12]) c64_15
def c64_17 : SCode := .seq (.region c64_6 [0, 1, 6, 7, 9, 11]) c64_16
def c64_18 : SCode := .seq (.region c64_5 [0, 1, 6, 7, 8, 9, 10]) c64_17
def c64_19 : SCode := .seq (.region c64_4 [0, 1, 6, 7, 8, 9]) c64_18
def c64_20 : SCode := .seq (.region c64_3 [0, 1, 6, 7, 8]) c64_19
def c64_21 : SCode := .seq (.region c64_2 [0, 1, 6, 7]) c64_20
def c64_22 : SCode := .seq (.region c64_1 [0, 1, 6]) c64_21
def c64_23 : SCode := .seq (.region c64_0 [0, 1]) c64_22
def c64 : SCode := c64_23
theorem w64 : type_of% (And.intro (uR Try.prog c64_0.eq_1) (And.intro (uR Try.prog c64_1.eq_1) (And.intro (uR Try.prog c64_2.eq_1) (And.intro (uR Try.prog c64_3.eq_1) (And.intro (uR Try.prog c64_4.eq_1) (And.intro (uR Try.prog c64_5.eq_1) (And.intro (uR Try.prog c64_6.eq_1) (And.intro (uR Try.prog c64_7.eq_1) (And.intro (uR Try.prog c64_8.eq_1) (And.intro (uR Try.prog c64_9.eq_1) (And.intro (uR Try.prog c64_10.eq_1) (And.intro (uR Try.prog c64_11.eq_1) (And.intro (uC Try.prog c64_12.eq_1) (And.intro (uC Try.prog c64_13.eq_1) (And.intro (uC Try.prog c64_14.eq_1) (And.intro (uC Try.prog c64_15.eq_1) (And.intro (uC Try.prog c64_16.eq_1) (And.intro (uC Try.prog c64_17.eq_1) (And.intro (uC Try.prog c64_18.eq_1) (And.intro (uC Try.prog c64_19.eq_1) (And.intro (uC Try.prog c64_20.eq_1) (And.intro (uC Try.prog c64_21.eq_1) (And.intro (uC Try.prog c64_22.eq_1) (And.intro (uC Try.prog c64_23.eq_1) (uC Try.prog c64.eq_1))))))))))))))))))))))))) := (And.intro (uR Try.prog c64_0.eq_1) (And.intro (uR Try.prog c64_1.eq_1) (And.intro (uR Try.prog c64_2.eq_1) (And.intro (uR Try.prog c64_3.eq_1) (And.intro (uR Try.prog c64_4.eq_1) (And.intro (uR Try.prog c64_5.eq_1) (And.intro (uR Try.prog c64_6.eq_1) (And.intro (uR Try.prog c64_7.eq_1) (And.intro (uR Try.prog c64_8.eq_1) (And.intro (uR Try.prog c64_9.eq_1) (And.intro (uR Try.prog c64_10.eq_1) (And.intro (uR Try.prog c64_11.eq_1) (And.intro (uC Try.prog c64_12.eq_1) (And.intro (uC Try.prog c64_13.eq_1) (And.intro (uC Try.prog c64_14.eq_1) (And.intro (uC Try.prog c64_15.eq_1) (And.intro (uC Try.prog c64_16.eq_1) (And.intro (uC Try.prog c64_17.eq_1) (And.intro (uC Try.prog c64_18.eq_1) (And.intro (uC Try.prog c64_19.eq_1) (And.intro (uC Try.prog c64_20.eq_1) (And.intro (uC Try.prog c64_21.eq_1) (And.intro (uC Try.prog c64_22.eq_1) (And.intro (uC Try.prog c64_23.eq_1) (uC Try.prog c64.eq_1)))))))))))))))))))))))))
def v64 : List RV := [.t 4, .t 5]
theorem s64 : slimF Try.prog Try.f64 = some (c64.bare, v64) := by kernel_rfl
/-! 49 slices.Repeat[[]int64,int64]: parameters 2, live [0, 1], slots [0:x, 1:count, 2:x, 3:count, 5:hi, 6:lo, 7:newslice, 8:n] -/
def c49_0 : List SOper := [⟨some 4, .q (.mv (.c (.slice none 0 0))), none⟩]
def c49_1 : List SOper := [⟨some 9, .q (.mv (.t 1)), none⟩, ⟨some 10, .q (.bin .lss (.t 9) (.c (.int .i64 0))), none⟩]
def c49_2 : List SOper := [⟨some 11, .q (.bad), none⟩, ⟨none, .q (.bad), none⟩]
def c49_3 : SCode := .cond (.t 10) (.region c49_2 [0, 1]) .skip
def c49_4 : SCode := .seq (.region c49_1 [0, 1, 10]) c49_3
def c49_5 : List SOper := [⟨some 13, .q (.mv (.t 0)), none⟩, ⟨some 14, .q (.len (.t 13)), none⟩, ⟨some 15, .q (.cvi .u64 (.t 14)), none⟩, ⟨some 16, .q (.mv (.t 1)), none⟩, ⟨some 17, .q (.cvi .u64 (.t 16)), none⟩, ⟨some 18, .e (.call 60 [(.t 15), (.t 17)]), none⟩, ⟨some 12, .q (.mv (.t 18)), none⟩, ⟨some 19, .q (.ext (.t 12) 0), none⟩, ⟨some 20, .q (.ext (.t 12) 1), none⟩, ⟨some 5, .q (.mv (.t 19)), none⟩, ⟨some 6, .q (.mv (.t 20)), none⟩]
def c49_6 : List SOper := [⟨some 21, .q (.mv (.t 5)), none⟩, ⟨some 22, .q (.bin .gtr (.t 21) (.c (.int .u64 0))), none⟩, ⟨some 23, .q (.mv (.t 22)), none⟩, ⟨some 24, .q (.mv (.t 6)), some (23, false)⟩, ⟨some 25, .q (.bin .gtr (.t 24) (.c (.int .u64 9223372036854775807))), some (23, false)⟩, ⟨some 26, .q (.pick (.t 23) (.c (.bool true)) (.t 25)), none⟩]
def c49_7 : List SOper := [⟨some 27, .q (.bad), none⟩, ⟨none, .q (.bad), none⟩]
def c49_8 : SCode := .cond (.t 26) (.region c49_7 [0, 6]) .skip
def c49_9 : SCode := .seq (.region c49_6 [0, 6, 26]) c49_8
def c49_10 : List SOper := [⟨some 28, .q (.mv (.t 6)), none⟩, ⟨some 29, .q (.cvi .i64 (.t 28)), none⟩, ⟨some 30, .a (.mks 8 1 [(.int .i64 0)] (.t 29) (.t 29)), none⟩, ⟨some 7, .q (.mv (.t 30)), none⟩]
def c49_11 : List SOper := [⟨some 31, .q (.mv (.t 7)), none⟩, ⟨some 32, .q (.mv (.t 0)), none⟩, ⟨some 33, .e (.cpy 1 (.t 31) (.t 32)), none⟩, ⟨some 8, .q (.mv (.t 33)), none⟩]
def c49_12 : List SOper := [⟨some 34, .q (.mv (.t 8)), none⟩, ⟨some 35, .q (.mv (.t 7)), none⟩, ⟨some 36, .q (.len (.t 35)), none⟩, ⟨some 37, .q (.bin .lss (.t 34) (.t 36)), none⟩]
def c49_13 : SCode := .cond (.t 37) .skip (.exit 0)
def c49_14 : SCode := .seq (.region c49_12 [7, 8, 37]) c49_13
def c49_15 : List SOper := [⟨some 38, .q (.mv (.t 8)), none⟩, ⟨some 39, .q (.mv (.t 7)), none⟩, ⟨some 40, .q (.mv (.t 8)), none⟩, ⟨some 41, .q (.slc 1 (.t 39) (some (.t 40)) none), none⟩, ⟨some 42, .q (.mv (.t 7)), none⟩, ⟨some 43, .q (.mv (.t 8)), none⟩, ⟨some 44, .q (.slc 1 (.t 42) none (some (.t 43))), none⟩, ⟨some 45, .e (.cpy 1 (.t 41) (.t 44)), none⟩, ⟨some 46, .q (.bin .add (.t 38) (.t 45)), none⟩, ⟨some 8, .q (.mv (.t 46)), none⟩]
def c49_16 : SCode := .block 1 (.region c49_15 [7, 8])
def c49_17 : SCode := .seq c49_14 c49_16
def c49_18 : SCode := .loop c49_17
def c49_19 : SCode := .block 0 c49_18
def c49_20 : List SOper := [⟨some 47, .q (.mv (.t 7)), none⟩, ⟨some 4, .q (.mv (.t 47)), none⟩]
def c49_21 : SCode := .seq (.region c49_20 [4]) .ret
def c49_22 : SCode := .seq c49_19 c49_21
def c49_23 : SCode := .seq (.region c49_11 [7, 8]) c49_22
def c49_24 : SCode := .seq (.region c49_10 [0, 7]) c49_23
def c49_25 : SCode := .seq c49_9 c49_24
def c49_26 : SCode := .seq (.region c49_5 [0, 5, 6]) c49_25
def c49_27 : SCode := .seq c49_4 c49_26
def c49_28 : SCode := .seq (.region c49_0 [0, 1]) c49_27
def c49 : SCode := c49_28
theorem w49 : type_of% (And.intro (uR Try.prog c49_0.eq_1) (And.intro (uR Try.prog c49_1.eq_1) (And.intro (uR Try.prog c49_2.eq_1) (And.intro (uC Try.prog c49_3.eq_1) (And.intro (uC Try.prog c49_4.eq_1) (And.intro (uR Try.prog c49_5.eq_1) (And.intro (uR Try.prog c49_6.eq_1) (And.intro (uR Try.prog c49_7.eq_1) (And.intro (uC Try.prog c49_8.eq_1) (And.intro (uC Try.prog c49_9.eq_1) (And.intro (uR Try.prog c49_10.eq_1) (And.intro (uR Try.prog c49_11.eq_1) (And.intro (uR Try.prog c49_12.eq_1) (And.intro (uC Try.prog c49_13.eq_1) (And.intro (uC Try.prog c49_14.eq_1) (And.intro (uR Try.prog c49_15.eq_1) (And.intro (uC Try.prog c49_16.eq_1) (And.intro (uC Try.prog c49_17.eq_1) (And.intro (uC Try.prog c49_18.eq_1) (And.intro (uC Try.prog c49_19.eq_1) (And.intro (uR Try.prog c49_20.eq_1) (And.intro (uC Try.prog c49_21.eq_1) (And.intro (uC Try.prog c49_22.eq_1) (And.intro (uC Try.prog c49_23.eq_1) (And.intro (uC Try.prog c49_24.eq_1) (And.intro (uC Try.prog c49_25.eq_1) (And.intro (uC Try.prog c49_26.eq_1) (And.intro (uC Try.prog c49_27.eq_1) (And.intro (uC Try.prog c49_28.eq_1) (uC Try.prog c49.eq_1)))))))))))))))))))))))))))))) := (And.intro (uR Try.prog c49_0.eq_1) (And.intro (uR Try.prog c49_1.eq_1) (And.intro (uR Try.prog c49_2.eq_1) (And.intro (uC Try.prog c49_3.eq_1) (And.intro (uC Try.prog c49_4.eq_1) (And.intro (uR Try.prog c49_5.eq_1) (And.intro (uR Try.prog c49_6.eq_1) (And.intro (uR Try.prog c49_7.eq_1) (And.intro (uC Try.prog c49_8.eq_1) (And.intro (uC Try.prog c49_9.eq_1) (And.intro (uR Try.prog c49_10.eq_1) (And.intro (uR Try.prog c49_11.eq_1) (And.intro (uR Try.prog c49_12.eq_1) (And.intro (uC Try.prog c49_13.eq_1) (And.intro (uC Try.prog c49_14.eq_1) (And.intro (uR Try.prog c49_15.eq_1) (And.intro (uC Try.prog c49_16.eq_1) (And.intro (uC Try.prog c49_17.eq_1) (And.intro (uC Try.prog c49_18.eq_1) (And.intro (uC Try.prog c49_19.eq_1) (And.intro (uR Try.prog c49_20.eq_1) (And.intro (uC Try.prog c49_21.eq_1) (And.intro (uC Try.prog c49_22.eq_1) (And.intro (uC Try.prog c49_23.eq_1) (And.intro (uC Try.prog c49_24.eq_1) (And.intro (uC Try.prog c49_25.eq_1) (And.intro (uC Try.prog c49_26.eq_1) (And.intro (uC Try.prog c49_27.eq_1) (And.intro (uC Try.prog c49_28.eq_1) (uC Try.prog c49.eq_1))))))))))))))))))))))))))))))
def v49 : List RV := [.t 4]
theorem s49 : slimF Try.prog Try.f49 = some (c49.bare, v49) := by kernel_rfl

/-! ### A number, many times -/
theorem u64w {n : Int} (h : 0 ≤ n ∧ n ≤ 18446744073709551615) : IntKind.u64.wrap n = n := IntWalk.u64_in n h
theorem and32 {a : Int} (h : 0 ≤ a ∧ a < 4294967296) : ((BitVec.ofInt IntKind.u64.bits a &&& BitVec.ofInt IntKind.u64.bits 4294967295).toNat : Int) = a := by
  obtain ⟨n, rfl⟩ : ∃ n : Nat, a = (n : Int) := ⟨a.toNat, by omega⟩
  have h2 : n &&& 4294967295 = n := by
    have := Nat.and_two_pow_sub_one_eq_mod n 32
    simp only [show (2:Nat) ^ 32 - 1 = 4294967295 from rfl, show (2:Nat)^32 = 4294967296 from rfl] at this
    rw [this]; exact Nat.mod_eq_of_lt (by omega)
  have e1 : (BitVec.ofInt IntKind.u64.bits (n : Int)).toNat = n := by
    rw [BitVec.toNat_ofInt, show IntKind.u64.bits = 64 from rfl]; omega
  have e2 : (BitVec.ofInt IntKind.u64.bits 4294967295).toNat = 4294967295 := by
    rw [BitVec.toNat_ofInt, show IntKind.u64.bits = 64 from rfl]; omega
  rw [BitVec.toNat_and, e1, e2, h2]
theorem Mul_ok (h : Heap) (c : Int) (hc : 0 ≤ c ∧ c ≤ 1000000) : ACall Try.prog 60 [.int .u64 1, .int .u64 c] h fun r h' => h' = h ∧ r = .tuple #[.int .u64 0, .int .u64 c] := by
  have A1 : ((BitVec.ofInt IntKind.u64.bits 1 &&& BitVec.ofInt IntKind.u64.bits 4294967295).toNat : Int) = 1 := and32 (by omega)
  have A2 := and32 (a := c) (by omega)
  have A0 : ((BitVec.ofInt IntKind.u64.bits 0 &&& BitVec.ofInt IntKind.u64.bits 4294967295).toNat : Int) = 0 := and32 (by omega)
  have P32 : (2 : Int) ^ (min (32 : Int).toNat IntKind.u64.bits) = 4294967296 := by decide
  have F1 : Int.fdiv 1 4294967296 = 0 := by decide
  have F0 : Int.fdiv 0 4294967296 = 0 := by decide
  have F2 : Int.fdiv c 4294967296 = 0 := by rw [Int.fdiv_eq_ediv_of_nonneg _ (by omega)]; omega
  have M64 : ACall Try.prog 64 [.int .u64 1, .int .u64 c] h fun r h' => h' = h ∧ r = .tuple #[.int .u64 0, .int .u64 c] := by
    refine ACall.of Try.func64 s64 (of_decide_eq_true rfl) ?_
    simp (maxSteps := 4000000) (disch := omega) only [ah, am, Nat.reduceEqDiff, reduceCtorEq, Nat.reduceAdd, Nat.reduceLeDiff, Nat.reduceMul, Nat.reduceLT, if_true, if_false, true_and, and_true, and_self, Nat.reduceBEq, QOp.loads, boxO, bslO, buildO, cutL, fillV, putL, w64, v64, A1, A2, A0, u64w, P32, F1, F2, F0, Int.one_mul, Int.zero_mul, Int.mul_zero, Int.add_zero, Int.zero_add, Int.mul_one]
  refine ACall.of Try.func60 s60 (of_decide_eq_true rfl) ?_
  simp (maxSteps := 4000000) (disch := omega) only [ah, am, Nat.reduceEqDiff, reduceCtorEq, Nat.reduceAdd, Nat.reduceLeDiff, Nat.reduceMul, Nat.reduceLT, if_true, if_false, true_and, and_true, and_self, Nat.reduceBEq, QOp.loads, boxO, bslO, buildO, cutL, fillV, putL, w60, v60]
  refine stepC.of M64 ?_
  rintro _ Hx ⟨hx, rfl⟩; rw [hx]; clear hx Hx
  simp (maxSteps := 4000000) (disch := omega) only [ah, am, Nat.reduceEqDiff, reduceCtorEq, Nat.reduceAdd, Nat.reduceLeDiff, Nat.reduceMul, Nat.reduceLT, if_true, if_false, true_and, and_true, and_self, Nat.reduceBEq, QOp.loads, boxO, bslO, buildO, cutL, fillV, putL, w60, v60]
theorem slc_from (i o n sz a : Nat) (k : IntKind) (ha : a ≤ n) : slcV sz (.slice (some ⟨i, o, none⟩) n sz) (some (.int k (a : Int))) none = some (.slice (some ⟨i, o + a * sz, none⟩) (n - a) sz) := by
  simp only [slcV, Option.map_none, Option.getD_none, Option.bind_some, Option.map_some, Option.getD_some, bndV]
  rw [if_pos ⟨by omega, by omega⟩]
  simp [Addr.add]
theorem slc_upto (i o n sz a : Nat) (k : IntKind) (ha : a ≤ n) : slcV sz (.slice (some ⟨i, o, none⟩) n sz) none (some (.int k (a : Int))) = some (.slice (some ⟨i, o, none⟩) a sz) := by
  simp only [slcV, Option.map_none, Option.getD_none, Option.bind_some, Option.map_some, Option.getD_some, bndV]
  rw [if_pos ⟨by omega, by omega⟩]
  simp [Addr.add]
theorem Bx_cpy {K : Heap} {p : Nat} {cs : List Value} (b : Bx K p cs) {sz o len : Nat} {y : Value} {q : List Value × Nat} (hq : srcV K sz y = some q) (hlen : o + len * sz ≤ cs.length) (h0 : 0 < min q.2 len) :
    ∃ K', cpyV K sz (.slice (some ⟨p, o, none⟩) len sz) y = some (.int .i64 (min q.2 len : Nat), K') ∧ Bx K' p (splice cs o (q.1.take (min q.2 len * sz))) ∧ ExtG p K K' := by
  unfold Bx at b
  refine ⟨K.upd p p (splice cs o (q.1.take (min q.2 len * sz))), ?_, ?_, ?_⟩
  · simp only [cpyV, hq, Option.bind_some]
    rw [if_neg (by omega)]
    simp only [b]
    rw [if_pos ⟨trivial, trivial, trivial, hlen⟩]
  · unfold Bx; rw [Heap.get_upd, b]; simp
  · refine ⟨by rw [Heap.size_upd]; exact Nat.le_refl _, fun k ob hk hg => ?_⟩
    rw [Heap.get_upd, hk]
    have hki : k ≠ p := by intro q; subst q; rw [b] at hk; cases hk; exact hg rfl
    simp [hki, hg]
theorem splice_rep (c n m : Nat) (v : Int) (h : n + m ≤ c) : splice ((List.replicate n v ++ List.replicate (c - n) 0).flatMap encI) n ((List.replicate m v).flatMap encI) = (List.replicate (n + m) v ++ List.replicate (c - (n + m)) 0).flatMap encI := by
  have fm : ∀ l : List Int, l.flatMap encI = l.map fun x : Int => Value.int .i64 x := fun l => by
    induction l with
    | nil => rfl
    | cons a l ih => simp [List.flatMap_cons, ih, encI]
  simp only [fm, splice, List.map_append, List.map_replicate, List.length_replicate]
  rw [List.take_append_of_le_length (by simp), List.drop_append]
  simp only [List.length_replicate, List.drop_replicate, List.take_replicate, Nat.min_self]
  rw [show n - (n + m) = 0 by omega, show c - n - (n + m - n) = c - (n + m) by omega]
  simp only [List.replicate_zero, List.nil_append]
  rw [List.replicate_append_replicate]
theorem RepeatI_ok (h : Heap) (x : Value) (v : Int) (c : Nat) (s : SlT h encI 1 x [v]) (hc : c ≤ 1000000) :
    ACall Try.prog 49 [x, .int .i64 c] h fun r h' => Fresh h h' encI 1 r (List.replicate c v) := by
  refine ACall.of Try.func49 s49 (of_decide_eq_true rfl) ?_
  have R := s.rulesN
  simp only [List.length_singleton] at R
  have W1 : IntKind.u64.wrap ((1 : Nat) : Int) = 1 := u64w (by omega)
  have W2 : IntKind.u64.wrap (c : Int) = c := u64w (by omega)
  have W3 : IntKind.i64.wrap (c : Int) = c := i64w (by omega)
  simp (maxSteps := 4000000) (disch := omega) only [ah, am, Nat.reduceEqDiff, reduceCtorEq, Nat.reduceAdd, Nat.reduceLeDiff, Nat.reduceMul, Nat.reduceLT, if_true, if_false, true_and, and_true, and_self, Nat.reduceBEq, QOp.loads, boxO, bslO, buildO, cutL, fillV, putL, w49, v49, decide_eq_false (show ¬ (c : Int) < 0 by omega), R, W1, W2]
  refine stepC.of (Mul_ok _ c (by omega)) ?_
  rintro _ Hx ⟨hx, rfl⟩; rw [hx]; clear hx Hx
  simp (maxSteps := 4000000) (disch := omega) only [ah, am, Nat.reduceEqDiff, reduceCtorEq, Nat.reduceAdd, Nat.reduceLeDiff, Nat.reduceMul, Nat.reduceLT, if_true, if_false, true_and, and_true, and_self, Nat.reduceBEq, QOp.loads, boxO, bslO, buildO, cutL, fillV, putL, w49, v49, decide_eq_false (show ¬ (0 : Int) < 0 by omega), decide_eq_false (show ¬ (9223372036854775807 : Int) < c by omega), W3, mksV_nat]
  have hsrc : srcV (h.more [(List.replicate c [.int .i64 0]).flatten]) 1 x = some ([.int .i64 v], 1) := by
    have h1 := (s.ext (Ext.more h [(List.replicate c [.int .i64 0]).flatten])).sl.src
    have h2 := s.slLen
    simp only [List.length_singleton] at h2
    rw [h2] at h1; simpa [encI] using h1
  have B0 : Bx (h.more [(List.replicate c [.int .i64 0]).flatten]) h.size ((List.replicate c (0 : Int)).flatMap encI) := by
    have := Bx.new h ((List.replicate c [.int .i64 0]).flatten) []
    rw [show (List.replicate c (0 : Int)).flatMap encI = (List.replicate c [.int .i64 0]).flatten by rw [show ([.int .i64 0] : List Value) = encI 0 from rfl, flat_rep]]
    exact this
  have hpl : ∀ n, ((List.replicate n v ++ List.replicate (c - n) 0).flatMap encI).length = n + (c - n) := fun n => by rw [flat_len encI_len]; simp
  have fin : ∀ {K : Heap}, Ext h K → Bx K h.size ((List.replicate c v).flatMap encI) → Fresh h K encI 1 (.slice (some ⟨h.size, 0, none⟩) c 1) (List.replicate c v) := by
    intro K e b
    refine ⟨e, h.size, Nat.le_refl _, ⟨.inr ⟨h.size, 0, c, _, rfl, b, rfl, ?_, ?_, rfl, rfl⟩, encI_len, by omega⟩⟩
    · simp only; rw [flat_len encI_len]; simp
    · simp only [List.drop_zero]; rw [List.take_of_length_le]; rw [flat_len encI_len]; simp
  by_cases hc0 : c = 0
  · subst hc0
    have e0 : cpyV (h.more [(List.replicate 0 [.int .i64 0]).flatten]) 1 (.slice (some ⟨h.size, 0, none⟩) 0 1) x = some (.int .i64 0, h.more [(List.replicate 0 [.int .i64 0]).flatten]) := by
      unfold cpyV; rw [hsrc]; rfl
    simp only [List.replicate_zero, List.flatten_nil] at e0 B0
    simp (maxSteps := 4000000) (disch := omega) only [ah, am, Nat.reduceEqDiff, reduceCtorEq, Nat.reduceAdd, Nat.reduceLeDiff, Nat.reduceMul, Nat.reduceLT, if_true, if_false, true_and, and_true, and_self, Nat.reduceBEq, QOp.loads, boxO, bslO, buildO, cutL, fillV, putL, w49, v49, AOne_cpy, cpyV2_some, e0, List.replicate_zero, List.flatten_nil]
    refine SW_loop_up (fun i E K => E = [(7, .slice (some ⟨h.size, 0, none⟩) 0 1), (8, .int .i64 0)] ∧ K = h.more [[]]) 0 0 (by omega) ⟨rfl, rfl⟩ ?_
    rintro i E K hi ⟨rfl, rfl⟩
    simp (maxSteps := 4000000) (disch := omega) only [ah, am, Nat.reduceEqDiff, reduceCtorEq, Nat.reduceAdd, Nat.reduceLeDiff, Nat.reduceMul, Nat.reduceLT, if_true, if_false, true_and, and_true, and_self, Nat.reduceBEq, QOp.loads, boxO, bslO, buildO, cutL, fillV, putL, w49, v49, show decide ((0 : Int) < ((0 : Nat) : Int)) = false from rfl]
    exact fin (Ext.more _ _) (by simpa using B0)
  · obtain ⟨K1, e1, B1, G1⟩ := Bx_cpy B0 (sz := 1) (o := 0) (len := c) hsrc (by rw [flat_len encI_len]; simp) (by simp; omega)
    have hm1 : min 1 c = 1 := by omega
    have E1 := G1.ext (Ext.more h [(List.replicate c [.int .i64 0]).flatten]) (Nat.le_refl _)
    rw [hm1] at e1 B1
    have B1' : Bx K1 h.size ((List.replicate 1 v ++ List.replicate (c - 1) 0).flatMap encI) := by
      have := splice_rep c 0 1 v (by omega)
      simp only [List.replicate_zero, List.nil_append, Nat.sub_zero, Nat.zero_add] at this
      rw [← this]; simpa [encI, splice] using B1
    simp (maxSteps := 4000000) (disch := omega) only [ah, am, Nat.reduceEqDiff, reduceCtorEq, Nat.reduceAdd, Nat.reduceLeDiff, Nat.reduceMul, Nat.reduceLT, if_true, if_false, true_and, and_true, and_self, Nat.reduceBEq, QOp.loads, boxO, bslO, buildO, cutL, fillV, putL, w49, v49, AOne_cpy, cpyV2_some, e1]
    refine SW_loop_up (fun i E K => E = [(7, .slice (some ⟨h.size, 0, none⟩) c 1), (8, .int .i64 (min (2 ^ i) c : Nat))] ∧ Ext h K ∧ Bx K h.size ((List.replicate (min (2 ^ i) c) v ++ List.replicate (c - min (2 ^ i) c) 0).flatMap encI)) c 0 (by omega)
      ⟨by rw [Nat.pow_zero, hm1], E1, by rw [Nat.pow_zero, hm1]; exact B1'⟩ ?_
    rintro i E K hi ⟨rfl, e, B⟩
    have hip : i < 2 ^ i := Nat.lt_two_pow_self
    have hps : 2 ^ (i + 1) = 2 * 2 ^ i := by rw [Nat.pow_succ, Nat.mul_comm]
    obtain ⟨n, hn⟩ : ∃ n, n = min (2 ^ i) c := ⟨_, rfl⟩
    rw [← hn] at B ⊢
    simp (maxSteps := 4000000) (disch := omega) only [ah, am, Nat.reduceEqDiff, reduceCtorEq, Nat.reduceAdd, Nat.reduceLeDiff, Nat.reduceMul, Nat.reduceLT, if_true, if_false, true_and, and_true, and_self, Nat.reduceBEq, QOp.loads, boxO, bslO, buildO, cutL, fillV, putL, w49, v49]
    refine stepI.split (fun hp => ?_) (fun hp => ?_)
    · have hs2 : srcV K 1 (.slice (some ⟨h.size, 0, none⟩) n 1) = some ((List.replicate n v).flatMap encI, n) := by
        have B' := B; unfold Bx at B'
        simp only [srcV, if_true, rdn, B', true_and]
        rw [if_pos (by rw [hpl]; omega)]
        simp only [Option.map_some, List.drop_zero, Nat.mul_one]
        congr 2
        rw [List.flatMap_append, List.take_append_of_le_length (by rw [flat_len encI_len]; simp), List.take_of_length_le (by rw [flat_len encI_len]; simp)]
      obtain ⟨K2, e2, B2, G2⟩ := Bx_cpy B (sz := 1) (o := n) (len := c - n) hs2 (by rw [hpl]; omega) (by simp only; omega)
      simp only at e2 B2
      have ht : ((List.replicate n v).flatMap encI).take (min n (c - n) * 1) = (List.replicate (min n (c - n)) v).flatMap encI := by
        rw [show List.replicate n v = List.replicate (min n (c - n)) v ++ List.replicate (n - min n (c - n)) v by rw [List.replicate_append_replicate]; congr 1; omega]
        rw [List.flatMap_append, List.take_append_of_le_length (by rw [flat_len encI_len]; simp), List.take_of_length_le (by rw [flat_len encI_len]; simp)]
      rw [ht, splice_rep c n _ v (by omega)] at B2
      have hn2 : n + min n (c - n) = min (2 ^ (i + 1)) c := by omega
      rw [hn2] at B2
      have W5 : IntKind.i64.wrap ((n : Int) + (min n (c - n) : Nat)) = (min (2 ^ (i + 1)) c : Nat) := i64e (by omega) (by omega)
      have q1 := slc_from h.size 0 c 1 n .i64 (by omega)
      have q2 := slc_upto h.size 0 c 1 n .i64 (by omega)
      simp only [Nat.zero_add, Nat.mul_one] at q1
      simp (maxSteps := 4000000) (disch := omega) only [ah, am, Nat.reduceEqDiff, reduceCtorEq, Nat.reduceAdd, Nat.reduceLeDiff, Nat.reduceMul, Nat.reduceLT, if_true, if_false, true_and, and_true, and_self, Nat.reduceBEq, QOp.loads, boxO, bslO, buildO, cutL, fillV, putL, w49, v49, q1, q2, AOne_cpy, cpyV2_some, e2, W5]
      exact ⟨by omega, G2.ext e (Nat.le_refl _), B2⟩
    · simp (maxSteps := 4000000) (disch := omega) only [ah, am, Nat.reduceEqDiff, reduceCtorEq, Nat.reduceAdd, Nat.reduceLeDiff, Nat.reduceMul, Nat.reduceLT, if_true, if_false, true_and, and_true, and_self, Nat.reduceBEq, QOp.loads, boxO, bslO, buildO, cutL, fillV, putL, w49, v49]
      have hnc : n = c := by omega
      rw [hnc, Nat.sub_self, List.replicate_zero, List.append_nil] at B
      exact fin e B
end Go.Proofs.Ytbnkpligdcponaa
