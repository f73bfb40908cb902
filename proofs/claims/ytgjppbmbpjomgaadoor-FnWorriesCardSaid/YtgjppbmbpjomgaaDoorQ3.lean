import Derived.Test.YtgjppbmbpjomgaaDoorQ0
import Derived.Test.YtgjppbmbpjomgaaDoorQ2
import Derived.Lib.IndexBytes
namespace Go.Proofs.YtgjppbmbpjomgaaDoor
open Go Go.Ah
set_option linter.unusedSimpArgs false
set_option linter.unusedVariables false
set_option maxRecDepth 10000
set_option maxHeartbeats 4000000
/-! 46 internal/stringslite.HasPrefix: parameters 2, live [0, 1], slots [0:s, 1:prefix, 2:s, 3:prefix] -/
def c46_0 : List SOper := [⟨some 4, .q (.mv (.c (.bool false))), none⟩]
def c46_1 : List SOper := [⟨some 5, .q (.mv (.t 0)), none⟩, ⟨some 6, .q (.lens (.t 5)), none⟩, ⟨some 7, .q (.mv (.t 1)), none⟩, ⟨some 8, .q (.lens (.t 7)), none⟩, ⟨some 9, .q (.bin .geq (.t 6) (.t 8)), none⟩, ⟨some 10, .q (.mv (.t 9)), none⟩, ⟨some 11, .q (.mv (.t 0)), some (10, true)⟩, ⟨some 12, .q (.mv (.t 1)), some (10, true)⟩, ⟨some 13, .q (.lens (.t 12)), some (10, true)⟩, ⟨some 14, .q (.sls (.t 11) none (some (.t 13))), some (10, true)⟩, ⟨some 15, .q (.mv (.t 1)), some (10, true)⟩, ⟨some 16, .q (.bin .eql (.t 14) (.t 15)), some (10, true)⟩, ⟨some 17, .q (.pick (.t 10) (.t 16) (.c (.bool false))), none⟩, ⟨some 4, .q (.mv (.t 17)), none⟩]
def c46_2 : SCode := .seq (.region c46_1 [4]) .ret
def c46_3 : SCode := .seq (.region c46_0 [0, 1]) c46_2
def c46 : SCode := c46_3
theorem w46 : type_of% (And.intro (uR Tryd.prog c46_0.eq_1) (And.intro (uR Tryd.prog c46_1.eq_1) (And.intro (uC Tryd.prog c46_2.eq_1) (And.intro (uC Tryd.prog c46_3.eq_1) (uC Tryd.prog c46.eq_1))))) := (And.intro (uR Tryd.prog c46_0.eq_1) (And.intro (uR Tryd.prog c46_1.eq_1) (And.intro (uC Tryd.prog c46_2.eq_1) (And.intro (uC Tryd.prog c46_3.eq_1) (uC Tryd.prog c46.eq_1)))))
def v46 : List RV := [.t 4]
theorem s46 : slimF Tryd.prog Tryd.f46 = some (c46.bare, v46) := by kernel_rfl
/-! 47 internal/stringslite.HasSuffix: parameters 2, live [0, 1], slots [0:s, 1:suffix, 2:s, 3:suffix] -/
def c47_0 : List SOper := [⟨some 4, .q (.mv (.c (.bool false))), none⟩]
def c47_1 : List SOper := [⟨some 5, .q (.mv (.t 0)), none⟩, ⟨some 6, .q (.lens (.t 5)), none⟩, ⟨some 7, .q (.mv (.t 1)), none⟩, ⟨some 8, .q (.lens (.t 7)), none⟩, ⟨some 9, .q (.bin .geq (.t 6) (.t 8)), none⟩, ⟨some 10, .q (.mv (.t 9)), none⟩, ⟨some 11, .q (.mv (.t 0)), some (10, true)⟩, ⟨some 12, .q (.mv (.t 0)), some (10, true)⟩, ⟨some 13, .q (.lens (.t 12)), some (10, true)⟩, ⟨some 14, .q (.mv (.t 1)), some (10, true)⟩, ⟨some 15, .q (.lens (.t 14)), some (10, true)⟩, ⟨some 16, .q (.bin .sub (.t 13) (.t 15)), some (10, true)⟩, ⟨some 17, .q (.sls (.t 11) (some (.t 16)) none), some (10, true)⟩, ⟨some 18, .q (.mv (.t 1)), some (10, true)⟩, ⟨some 19, .q (.bin .eql (.t 17) (.t 18)), some (10, true)⟩, ⟨some 20, .q (.pick (.t 10) (.t 19) (.c (.bool false))), none⟩, ⟨some 4, .q (.mv (.t 20)), none⟩]
def c47_2 : SCode := .seq (.region c47_1 [4]) .ret
def c47_3 : SCode := .seq (.region c47_0 [0, 1]) c47_2
def c47 : SCode := c47_3
theorem w47 : type_of% (And.intro (uR Tryd.prog c47_0.eq_1) (And.intro (uR Tryd.prog c47_1.eq_1) (And.intro (uC Tryd.prog c47_2.eq_1) (And.intro (uC Tryd.prog c47_3.eq_1) (uC Tryd.prog c47.eq_1))))) := (And.intro (uR Tryd.prog c47_0.eq_1) (And.intro (uR Tryd.prog c47_1.eq_1) (And.intro (uC Tryd.prog c47_2.eq_1) (And.intro (uC Tryd.prog c47_3.eq_1) (uC Tryd.prog c47.eq_1)))))
def v47 : List RV := [.t 4]
theorem s47 : slimF Tryd.prog Tryd.f47 = some (c47.bare, v47) := by kernel_rfl
/-! 42 strings.HasPrefix: parameters 2, live [0, 1], slots [0:s, 1:prefix, 2:s, 3:prefix] -/
def c42_0 : List SOper := [⟨some 4, .q (.mv (.c (.bool false))), none⟩]
def c42_1 : List SOper := [⟨some 5, .q (.mv (.t 0)), none⟩, ⟨some 6, .q (.mv (.t 1)), none⟩, ⟨some 7, .e (.call 46 [(.t 5), (.t 6)]), none⟩, ⟨some 4, .q (.mv (.t 7)), none⟩]
def c42_2 : SCode := .seq (.region c42_1 [4]) .ret
def c42_3 : SCode := .seq (.region c42_0 [0, 1]) c42_2
def c42 : SCode := c42_3
theorem w42 : type_of% (And.intro (uR Tryd.prog c42_0.eq_1) (And.intro (uR Tryd.prog c42_1.eq_1) (And.intro (uC Tryd.prog c42_2.eq_1) (And.intro (uC Tryd.prog c42_3.eq_1) (uC Tryd.prog c42.eq_1))))) := (And.intro (uR Tryd.prog c42_0.eq_1) (And.intro (uR Tryd.prog c42_1.eq_1) (And.intro (uC Tryd.prog c42_2.eq_1) (And.intro (uC Tryd.prog c42_3.eq_1) (uC Tryd.prog c42.eq_1)))))
def v42 : List RV := [.t 4]
theorem s42 : slimF Tryd.prog Tryd.f42 = some (c42.bare, v42) := by kernel_rfl
/-! 43 strings.HasSuffix: parameters 2, live [0, 1], slots [0:s, 1:suffix, 2:s, 3:suffix] -/
def c43_0 : List SOper := [⟨some 4, .q (.mv (.c (.bool false))), none⟩]
def c43_1 : List SOper := [⟨some 5, .q (.mv (.t 0)), none⟩, ⟨some 6, .q (.mv (.t 1)), none⟩, ⟨some 7, .e (.call 47 [(.t 5), (.t 6)]), none⟩, ⟨some 4, .q (.mv (.t 7)), none⟩]
def c43_2 : SCode := .seq (.region c43_1 [4]) .ret
def c43_3 : SCode := .seq (.region c43_0 [0, 1]) c43_2
def c43 : SCode := c43_3
theorem w43 : type_of% (And.intro (uR Tryd.prog c43_0.eq_1) (And.intro (uR Tryd.prog c43_1.eq_1) (And.intro (uC Tryd.prog c43_2.eq_1) (And.intro (uC Tryd.prog c43_3.eq_1) (uC Tryd.prog c43.eq_1))))) := (And.intro (uR Tryd.prog c43_0.eq_1) (And.intro (uR Tryd.prog c43_1.eq_1) (And.intro (uC Tryd.prog c43_2.eq_1) (And.intro (uC Tryd.prog c43_3.eq_1) (uC Tryd.prog c43.eq_1)))))
def v43 : List RV := [.t 4]
theorem s43 : slimF Tryd.prog Tryd.f43 = some (c43.bare, v43) := by kernel_rfl
/-! 29 loop.example/g00066/impl.in: parameters 3, live [0, 1, 2], slots [0:x, 1:least, 2:most, 3:x, 4:least, 5:most] -/
def c29_0 : List SOper := [⟨some 6, .q (.mv (.c (.bool false))), none⟩]
def c29_1 : List SOper := [⟨some 7, .q (.mv (.t 1)), none⟩, ⟨some 8, .q (.mv (.t 0)), none⟩, ⟨some 9, .q (.bin .leq (.t 7) (.t 8)), none⟩, ⟨some 10, .q (.mv (.t 9)), none⟩, ⟨some 11, .q (.mv (.t 0)), some (10, true)⟩, ⟨some 12, .q (.mv (.t 2)), some (10, true)⟩, ⟨some 13, .q (.bin .leq (.t 11) (.t 12)), some (10, true)⟩, ⟨some 14, .q (.pick (.t 10) (.t 13) (.c (.bool false))), none⟩, ⟨some 6, .q (.mv (.t 14)), none⟩]
def c29_2 : SCode := .seq (.region c29_1 [6]) .ret
def c29_3 : SCode := .seq (.region c29_0 [0, 1, 2]) c29_2
def c29 : SCode := c29_3
theorem w29 : type_of% (And.intro (uR Tryd.prog c29_0.eq_1) (And.intro (uR Tryd.prog c29_1.eq_1) (And.intro (uC Tryd.prog c29_2.eq_1) (And.intro (uC Tryd.prog c29_3.eq_1) (uC Tryd.prog c29.eq_1))))) := (And.intro (uR Tryd.prog c29_0.eq_1) (And.intro (uR Tryd.prog c29_1.eq_1) (And.intro (uC Tryd.prog c29_2.eq_1) (And.intro (uC Tryd.prog c29_3.eq_1) (uC Tryd.prog c29.eq_1)))))
def v29 : List RV := [.t 6]
theorem s29 : slimF Tryd.prog Tryd.f29 = some (c29.bare, v29) := by kernel_rfl
/-! 31 loop.example/g00066/spec.l1In: parameters 3, live [0, 1, 2], slots [0:x, 1:lo, 2:hi, 3:x, 4:lo, 5:hi] -/
def c31_0 : List SOper := [⟨some 6, .q (.mv (.c (.bool false))), none⟩]
def c31_1 : List SOper := [⟨some 7, .q (.mv (.t 0)), none⟩, ⟨some 8, .q (.mv (.t 1)), none⟩, ⟨some 9, .q (.bin .geq (.t 7) (.t 8)), none⟩, ⟨some 10, .q (.mv (.t 9)), none⟩, ⟨some 11, .q (.mv (.t 0)), some (10, true)⟩, ⟨some 12, .q (.mv (.t 2)), some (10, true)⟩, ⟨some 13, .q (.bin .leq (.t 11) (.t 12)), some (10, true)⟩, ⟨some 14, .q (.pick (.t 10) (.t 13) (.c (.bool false))), none⟩, ⟨some 6, .q (.mv (.t 14)), none⟩]
def c31_2 : SCode := .seq (.region c31_1 [6]) .ret
def c31_3 : SCode := .seq (.region c31_0 [0, 1, 2]) c31_2
def c31 : SCode := c31_3
theorem w31 : type_of% (And.intro (uR Tryd.prog c31_0.eq_1) (And.intro (uR Tryd.prog c31_1.eq_1) (And.intro (uC Tryd.prog c31_2.eq_1) (And.intro (uC Tryd.prog c31_3.eq_1) (uC Tryd.prog c31.eq_1))))) := (And.intro (uR Tryd.prog c31_0.eq_1) (And.intro (uR Tryd.prog c31_1.eq_1) (And.intro (uC Tryd.prog c31_2.eq_1) (And.intro (uC Tryd.prog c31_3.eq_1) (uC Tryd.prog c31.eq_1)))))
def v31 : List RV := [.t 6]
theorem s31 : slimF Tryd.prog Tryd.f31 = some (c31.bare, v31) := by kernel_rfl
/-! 38 loop.example/g00066/impl.textOk: parameters 1, live [0], slots [0:text, 1:text, 3:i, 4:c] -/
def c38_0 : List SOper := [⟨some 2, .q (.mv (.c (.bool false))), none⟩]
def c38_1 : List SOper := [⟨some 5, .q (.mv (.t 0)), none⟩, ⟨some 6, .q (.lens (.t 5)), none⟩, ⟨some 7, .e (.call 29 [(.t 6), (.c (.int .i64 1)), (.c (.int .i64 200))]), none⟩, ⟨some 8, .q (.not (.t 7)), none⟩, ⟨some 9, .q (.mv (.t 8)), none⟩, ⟨some 10, .q (.mv (.t 0)), some (9, false)⟩, ⟨some 11, .e (.call 42 [(.t 10), (.c (.string ⟨#[10]⟩))]), some (9, false)⟩, ⟨some 12, .q (.pick (.t 9) (.c (.bool true)) (.t 11)), none⟩, ⟨some 13, .q (.mv (.t 12)), none⟩, ⟨some 14, .q (.mv (.t 0)), some (13, false)⟩, ⟨some 15, .e (.call 43 [(.t 14), (.c (.string ⟨#[10]⟩))]), some (13, false)⟩, ⟨some 16, .q (.pick (.t 13) (.c (.bool true)) (.t 15)), none⟩, ⟨some 17, .q (.mv (.t 16)), none⟩, ⟨some 18, .q (.mv (.t 0)), some (17, false)⟩, ⟨some 19, .e (.call 44 [(.t 18), (.c (.string ⟨#[10, 10]⟩))]), some (17, false)⟩, ⟨some 20, .q (.pick (.t 17) (.c (.bool true)) (.t 19)), none⟩]
def c38_2 : List SOper := [⟨some 2, .q (.mv (.c (.bool false))), none⟩]
def c38_3 : SCode := .seq (.region c38_2 [2]) .ret
def c38_4 : SCode := .cond (.t 20) c38_3 .skip
def c38_5 : SCode := .seq (.region c38_1 [0, 20]) c38_4
def c38_6 : List SOper := [⟨some 21, .q (.mv (.t 0)), none⟩, ⟨some 22, .q (.lens (.t 21)), none⟩, ⟨some 23, .q (.mv (.c (.int .i64 0))), none⟩]
def c38_7 : List SOper := [⟨some 24, .q (.bin .lss (.t 23) (.t 22)), none⟩]
def c38_8 : SCode := .cond (.t 24) .skip (.exit 0)
def c38_9 : List SOper := [⟨some 25, .q (.mv (.t 23)), none⟩, ⟨some 3, .q (.mv (.t 25)), none⟩]
def c38_10 : List SOper := [⟨some 26, .q (.mv (.t 0)), none⟩, ⟨some 27, .q (.mv (.t 3)), none⟩, ⟨some 28, .q (.ivs (.t 26) (.t 27)), none⟩, ⟨some 4, .q (.mv (.t 28)), none⟩]
def c38_11 : List SOper := [⟨some 29, .q (.mv (.t 4)), none⟩, ⟨some 30, .q (.bin .neq (.t 29) (.c (.int .u8 10))), none⟩, ⟨some 31, .q (.mv (.t 30)), none⟩, ⟨some 32, .q (.mv (.t 4)), some (31, true)⟩, ⟨some 33, .q (.bin .lss (.t 32) (.c (.int .u8 32))), some (31, true)⟩, ⟨some 34, .q (.mv (.t 33)), some (31, true)⟩, ⟨some 35, .q (.mv (.t 4)), some (34, false)⟩, ⟨some 36, .q (.bin .eql (.t 35) (.c (.int .u8 127))), some (34, false)⟩, ⟨some 37, .q (.pick (.t 34) (.c (.bool true)) (.t 36)), some (31, true)⟩, ⟨some 38, .q (.pick (.t 31) (.t 37) (.c (.bool false))), none⟩]
def c38_12 : List SOper := [⟨some 2, .q (.mv (.c (.bool false))), none⟩]
def c38_13 : SCode := .seq (.region c38_12 [2]) .ret
def c38_14 : SCode := .cond (.t 38) c38_13 .skip
def c38_15 : SCode := .seq (.region c38_11 [0, 22, 23, 38]) c38_14
def c38_16 : SCode := .seq (.region c38_10 [0, 4, 22, 23]) c38_15
def c38_17 : SCode := .seq (.region c38_9 [0, 3, 22, 23]) c38_16
def c38_18 : SCode := .block 1 c38_17
def c38_19 : List SOper := [⟨some 39, .q (.bin .add (.t 23) (.c (.int .i64 1))), none⟩, ⟨some 23, .q (.mv (.t 39)), none⟩]
def c38_20 : SCode := .seq c38_18 (.region c38_19 [0, 22, 23])
def c38_21 : SCode := .seq c38_8 c38_20
def c38_22 : SCode := .seq (.region c38_7 [0, 22, 23, 24]) c38_21
def c38_23 : SCode := .loop c38_22
def c38_24 : SCode := .block 0 c38_23
def c38_25 : SCode := .seq (.region c38_6 [0, 22, 23]) c38_24
def c38_26 : List SOper := [⟨some 2, .q (.mv (.c (.bool true))), none⟩]
def c38_27 : SCode := .seq (.region c38_26 [2]) .ret
def c38_28 : SCode := .seq c38_25 c38_27
def c38_29 : SCode := .seq c38_5 c38_28
def c38_30 : SCode := .seq (.region c38_0 [0]) c38_29
def c38 : SCode := c38_30
theorem w38 : type_of% (And.intro (uR Tryd.prog c38_0.eq_1) (And.intro (uR Tryd.prog c38_1.eq_1) (And.intro (uR Tryd.prog c38_2.eq_1) (And.intro (uC Tryd.prog c38_3.eq_1) (And.intro (uC Tryd.prog c38_4.eq_1) (And.intro (uC Tryd.prog c38_5.eq_1) (And.intro (uR Tryd.prog c38_6.eq_1) (And.intro (uR Tryd.prog c38_7.eq_1) (And.intro (uC Tryd.prog c38_8.eq_1) (And.intro (uR Tryd.prog c38_9.eq_1) (And.intro (uR Tryd.prog c38_10.eq_1) (And.intro (uR Tryd.prog c38_11.eq_1) (And.intro (uR Tryd.prog c38_12.eq_1) (And.intro (uC Tryd.prog c38_13.eq_1) (And.intro (uC Tryd.prog c38_14.eq_1) (And.intro (uC Tryd.prog c38_15.eq_1) (And.intro (uC Tryd.prog c38_16.eq_1) (And.intro (uC Tryd.prog c38_17.eq_1) (And.intro (uC Tryd.prog c38_18.eq_1) (And.intro (uR Tryd.prog c38_19.eq_1) (And.intro (uC Tryd.prog c38_20.eq_1) (And.intro (uC Tryd.prog c38_21.eq_1) (And.intro (uC Tryd.prog c38_22.eq_1) (And.intro (uC Tryd.prog c38_23.eq_1) (And.intro (uC Tryd.prog c38_24.eq_1) (And.intro (uC Tryd.prog c38_25.eq_1) (And.intro (uR Tryd.prog c38_26.eq_1) (And.intro (uC Tryd.prog c38_27.eq_1) (And.intro (uC Tryd.prog c38_28.eq_1) (And.intro (uC Tryd.prog c38_29.eq_1) (And.intro (uC Tryd.prog c38_30.eq_1) (uC Tryd.prog c38.eq_1)))))))))))))))))))))))))))))))) := (And.intro (uR Tryd.prog c38_0.eq_1) (And.intro (uR Tryd.prog c38_1.eq_1) (And.intro (uR Tryd.prog c38_2.eq_1) (And.intro (uC Tryd.prog c38_3.eq_1) (And.intro (uC Tryd.prog c38_4.eq_1) (And.intro (uC Tryd.prog c38_5.eq_1) (And.intro (uR Tryd.prog c38_6.eq_1) (And.intro (uR Tryd.prog c38_7.eq_1) (And.intro (uC Tryd.prog c38_8.eq_1) (And.intro (uR Tryd.prog c38_9.eq_1) (And.intro (uR Tryd.prog c38_10.eq_1) (And.intro (uR Tryd.prog c38_11.eq_1) (And.intro (uR Tryd.prog c38_12.eq_1) (And.intro (uC Tryd.prog c38_13.eq_1) (And.intro (uC Tryd.prog c38_14.eq_1) (And.intro (uC Tryd.prog c38_15.eq_1) (And.intro (uC Tryd.prog c38_16.eq_1) (And.intro (uC Tryd.prog c38_17.eq_1) (And.intro (uC Tryd.prog c38_18.eq_1) (And.intro (uR Tryd.prog c38_19.eq_1) (And.intro (uC Tryd.prog c38_20.eq_1) (And.intro (uC Tryd.prog c38_21.eq_1) (And.intro (uC Tryd.prog c38_22.eq_1) (And.intro (uC Tryd.prog c38_23.eq_1) (And.intro (uC Tryd.prog c38_24.eq_1) (And.intro (uC Tryd.prog c38_25.eq_1) (And.intro (uR Tryd.prog c38_26.eq_1) (And.intro (uC Tryd.prog c38_27.eq_1) (And.intro (uC Tryd.prog c38_28.eq_1) (And.intro (uC Tryd.prog c38_29.eq_1) (And.intro (uC Tryd.prog c38_30.eq_1) (uC Tryd.prog c38.eq_1))))))))))))))))))))))))))))))))
def v38 : List RV := [.t 2]
theorem s38 : slimF Tryd.prog Tryd.f38 = some (c38.bare, v38) := by kernel_rfl
/-! 41 loop.example/g00066/spec.l12Text: parameters 1, live [0], slots [0:s, 1:s, 3:n, 4:i] -/
def c41_0 : List SOper := [⟨some 2, .q (.mv (.c (.bool false))), none⟩]
def c41_1 : List SOper := [⟨some 5, .q (.mv (.t 0)), none⟩, ⟨some 6, .q (.lens (.t 5)), none⟩, ⟨some 3, .q (.mv (.t 6)), none⟩]
def c41_2 : List SOper := [⟨some 7, .q (.mv (.t 3)), none⟩, ⟨some 8, .q (.bin .lss (.t 7) (.c (.int .i64 1))), none⟩, ⟨some 9, .q (.mv (.t 8)), none⟩, ⟨some 10, .q (.mv (.t 3)), some (9, false)⟩, ⟨some 11, .q (.bin .gtr (.t 10) (.c (.int .i64 200))), some (9, false)⟩, ⟨some 12, .q (.pick (.t 9) (.c (.bool true)) (.t 11)), none⟩, ⟨some 13, .q (.mv (.t 12)), none⟩, ⟨some 14, .q (.mv (.t 0)), some (13, false)⟩, ⟨some 15, .q (.ivs (.t 14) (.c (.int .i64 0))), some (13, false)⟩, ⟨some 16, .q (.bin .eql (.t 15) (.c (.int .u8 10))), some (13, false)⟩, ⟨some 17, .q (.pick (.t 13) (.c (.bool true)) (.t 16)), none⟩, ⟨some 18, .q (.mv (.t 17)), none⟩, ⟨some 19, .q (.mv (.t 0)), some (18, false)⟩, ⟨some 20, .q (.mv (.t 3)), some (18, false)⟩, ⟨some 21, .q (.bin .sub (.t 20) (.c (.int .i64 1))), some (18, false)⟩, ⟨some 22, .q (.ivs (.t 19) (.t 21)), some (18, false)⟩, ⟨some 23, .q (.bin .eql (.t 22) (.c (.int .u8 10))), some (18, false)⟩, ⟨some 24, .q (.pick (.t 18) (.c (.bool true)) (.t 23)), none⟩]
def c41_3 : List SOper := [⟨some 2, .q (.mv (.c (.bool false))), none⟩]
def c41_4 : SCode := .seq (.region c41_3 [2]) .ret
def c41_5 : SCode := .cond (.t 24) c41_4 .skip
def c41_6 : SCode := .seq (.region c41_2 [0, 3, 24]) c41_5
def c41_7 : List SOper := [⟨some 4, .q (.mv (.c (.int .i64 0))), none⟩]
def c41_8 : List SOper := [⟨some 25, .q (.mv (.t 4)), none⟩, ⟨some 26, .q (.mv (.t 3)), none⟩, ⟨some 27, .q (.bin .lss (.t 25) (.t 26)), none⟩]
def c41_9 : SCode := .cond (.t 27) .skip (.exit 0)
def c41_10 : SCode := .seq (.region c41_8 [0, 3, 4, 27]) c41_9
def c41_11 : List SOper := [⟨some 30, .q (.mv (.t 0)), none⟩, ⟨some 31, .q (.mv (.t 4)), none⟩, ⟨some 32, .q (.ivs (.t 30) (.t 31)), none⟩, ⟨some 33, .q (.bin .eql (.t 32) (.c (.int .u8 10))), none⟩, ⟨some 34, .q (.mv (.t 33)), none⟩, ⟨some 35, .q (.mv (.t 0)), some (34, true)⟩, ⟨some 36, .q (.mv (.t 4)), some (34, true)⟩, ⟨some 37, .q (.bin .sub (.t 36) (.c (.int .i64 1))), some (34, true)⟩, ⟨some 38, .q (.ivs (.t 35) (.t 37)), some (34, true)⟩, ⟨some 39, .q (.bin .eql (.t 38) (.c (.int .u8 10))), some (34, true)⟩, ⟨some 40, .q (.pick (.t 34) (.t 39) (.c (.bool false))), none⟩, ⟨some 41, .q (.mv (.t 40)), none⟩, ⟨some 42, .q (.mv (.t 0)), some (41, false)⟩, ⟨some 43, .q (.mv (.t 4)), some (41, false)⟩, ⟨some 44, .q (.ivs (.t 42) (.t 43)), some (41, false)⟩, ⟨some 45, .q (.bin .neq (.t 44) (.c (.int .u8 10))), some (41, false)⟩, ⟨some 46, .q (.mv (.t 45)), some (41, false)⟩, ⟨some 47, .q (.mv (.t 0)), some (46, true)⟩, ⟨some 48, .q (.mv (.t 4)), some (46, true)⟩, ⟨some 49, .q (.ivs (.t 47) (.t 48)), some (46, true)⟩, ⟨some 50, .q (.bin .lss (.t 49) (.c (.int .u8 32))), some (46, true)⟩, ⟨some 51, .q (.pick (.t 46) (.t 50) (.c (.bool false))), some (41, false)⟩, ⟨some 52, .q (.pick (.t 41) (.c (.bool true)) (.t 51)), none⟩, ⟨some 53, .q (.mv (.t 52)), none⟩, ⟨some 54, .q (.mv (.t 0)), some (53, false)⟩, ⟨some 55, .q (.mv (.t 4)), some (53, false)⟩, ⟨some 56, .q (.ivs (.t 54) (.t 55)), some (53, false)⟩, ⟨some 57, .q (.bin .eql (.t 56) (.c (.int .u8 127))), some (53, false)⟩, ⟨some 58, .q (.pick (.t 53) (.c (.bool true)) (.t 57)), none⟩]
def c41_12 : List SOper := [⟨some 2, .q (.mv (.c (.bool false))), none⟩]
def c41_13 : SCode := .seq (.region c41_12 [2]) .ret
def c41_14 : SCode := .cond (.t 58) c41_13 .skip
def c41_15 : SCode := .seq (.region c41_11 [0, 3, 4, 58]) c41_14
def c41_16 : SCode := .block 1 c41_15
def c41_17 : List SOper := [⟨some 28, .q (.mv (.t 4)), none⟩, ⟨some 29, .q (.bin .add (.t 28) (.c (.int .i64 1))), none⟩, ⟨some 4, .q (.mv (.t 29)), none⟩]
def c41_18 : SCode := .seq c41_16 (.region c41_17 [0, 3, 4])
def c41_19 : SCode := .seq c41_10 c41_18
def c41_20 : SCode := .loop c41_19
def c41_21 : SCode := .block 0 c41_20
def c41_22 : SCode := .seq (.region c41_7 [0, 3, 4]) c41_21
def c41_23 : List SOper := [⟨some 2, .q (.mv (.c (.bool true))), none⟩]
def c41_24 : SCode := .seq (.region c41_23 [2]) .ret
def c41_25 : SCode := .seq c41_22 c41_24
def c41_26 : SCode := .seq c41_6 c41_25
def c41_27 : SCode := .seq (.region c41_1 [0, 3]) c41_26
def c41_28 : SCode := .seq (.region c41_0 [0]) c41_27
def c41 : SCode := c41_28
theorem w41 : type_of% (And.intro (uR Tryd.prog c41_0.eq_1) (And.intro (uR Tryd.prog c41_1.eq_1) (And.intro (uR Tryd.prog c41_2.eq_1) (And.intro (uR Tryd.prog c41_3.eq_1) (And.intro (uC Tryd.prog c41_4.eq_1) (And.intro (uC Tryd.prog c41_5.eq_1) (And.intro (uC Tryd.prog c41_6.eq_1) (And.intro (uR Tryd.prog c41_7.eq_1) (And.intro (uR Tryd.prog c41_8.eq_1) (And.intro (uC Tryd.prog c41_9.eq_1) (And.intro (uC Tryd.prog c41_10.eq_1) (And.intro (uR Tryd.prog c41_11.eq_1) (And.intro (uR Tryd.prog c41_12.eq_1) (And.intro (uC Tryd.prog c41_13.eq_1) (And.intro (uC Tryd.prog c41_14.eq_1) (And.intro (uC Tryd.prog c41_15.eq_1) (And.intro (uC Tryd.prog c41_16.eq_1) (And.intro (uR Tryd.prog c41_17.eq_1) (And.intro (uC Tryd.prog c41_18.eq_1) (And.intro (uC Tryd.prog c41_19.eq_1) (And.intro (uC Tryd.prog c41_20.eq_1) (And.intro (uC Tryd.prog c41_21.eq_1) (And.intro (uC Tryd.prog c41_22.eq_1) (And.intro (uR Tryd.prog c41_23.eq_1) (And.intro (uC Tryd.prog c41_24.eq_1) (And.intro (uC Tryd.prog c41_25.eq_1) (And.intro (uC Tryd.prog c41_26.eq_1) (And.intro (uC Tryd.prog c41_27.eq_1) (And.intro (uC Tryd.prog c41_28.eq_1) (uC Tryd.prog c41.eq_1)))))))))))))))))))))))))))))) := (And.intro (uR Tryd.prog c41_0.eq_1) (And.intro (uR Tryd.prog c41_1.eq_1) (And.intro (uR Tryd.prog c41_2.eq_1) (And.intro (uR Tryd.prog c41_3.eq_1) (And.intro (uC Tryd.prog c41_4.eq_1) (And.intro (uC Tryd.prog c41_5.eq_1) (And.intro (uC Tryd.prog c41_6.eq_1) (And.intro (uR Tryd.prog c41_7.eq_1) (And.intro (uR Tryd.prog c41_8.eq_1) (And.intro (uC Tryd.prog c41_9.eq_1) (And.intro (uC Tryd.prog c41_10.eq_1) (And.intro (uR Tryd.prog c41_11.eq_1) (And.intro (uR Tryd.prog c41_12.eq_1) (And.intro (uC Tryd.prog c41_13.eq_1) (And.intro (uC Tryd.prog c41_14.eq_1) (And.intro (uC Tryd.prog c41_15.eq_1) (And.intro (uC Tryd.prog c41_16.eq_1) (And.intro (uR Tryd.prog c41_17.eq_1) (And.intro (uC Tryd.prog c41_18.eq_1) (And.intro (uC Tryd.prog c41_19.eq_1) (And.intro (uC Tryd.prog c41_20.eq_1) (And.intro (uC Tryd.prog c41_21.eq_1) (And.intro (uC Tryd.prog c41_22.eq_1) (And.intro (uR Tryd.prog c41_23.eq_1) (And.intro (uC Tryd.prog c41_24.eq_1) (And.intro (uC Tryd.prog c41_25.eq_1) (And.intro (uC Tryd.prog c41_26.eq_1) (And.intro (uC Tryd.prog c41_27.eq_1) (And.intro (uC Tryd.prog c41_28.eq_1) (uC Tryd.prog c41.eq_1))))))))))))))))))))))))))))))
def v41 : List RV := [.t 2]
theorem s41 : slimF Tryd.prog Tryd.f41 = some (c41.bare, v41) := by kernel_rfl
/-! 40 loop.example/g00066/impl.signs: parameters 1, live [0], slots [0:text, 1:text, 3:out, 4:i, 5:c] -/
def c40_0 : List SOper := [⟨some 2, .q (.mv (.c (.int .i64 0))), none⟩]
def c40_1 : List SOper := [⟨some 3, .q (.mv (.c (.int .i64 0))), none⟩]
def c40_2 : List SOper := [⟨some 6, .q (.mv (.t 0)), none⟩, ⟨some 7, .q (.lens (.t 6)), none⟩, ⟨some 8, .q (.mv (.c (.int .i64 0))), none⟩]
def c40_3 : List SOper := [⟨some 9, .q (.bin .lss (.t 8) (.t 7)), none⟩]
def c40_4 : SCode := .cond (.t 9) .skip (.exit 0)
def c40_5 : List SOper := [⟨some 10, .q (.mv (.t 8)), none⟩, ⟨some 4, .q (.mv (.t 10)), none⟩]
def c40_6 : List SOper := [⟨some 11, .q (.mv (.t 0)), none⟩, ⟨some 12, .q (.mv (.t 4)), none⟩, ⟨some 13, .q (.ivs (.t 11) (.t 12)), none⟩, ⟨some 5, .q (.mv (.t 13)), none⟩]
def c40_7 : List SOper := [⟨some 14, .q (.mv (.t 5)), none⟩, ⟨some 15, .q (.bin .neq (.t 14) (.c (.int .u8 10))), none⟩, ⟨some 16, .q (.mv (.t 15)), none⟩, ⟨some 17, .q (.mv (.t 5)), some (16, true)⟩, ⟨some 18, .q (.bin .lss (.t 17) (.c (.int .u8 128))), some (16, true)⟩, ⟨some 19, .q (.mv (.t 18)), some (16, true)⟩, ⟨some 20, .q (.mv (.t 5)), some (19, false)⟩, ⟨some 21, .q (.bin .gtr (.t 20) (.c (.int .u8 191))), some (19, false)⟩, ⟨some 22, .q (.pick (.t 19) (.c (.bool true)) (.t 21)), some (16, true)⟩, ⟨some 23, .q (.pick (.t 16) (.t 22) (.c (.bool false))), none⟩]
def c40_8 : List SOper := [⟨some 24, .q (.mv (.t 3)), none⟩, ⟨some 25, .q (.bin .add (.t 24) (.c (.int .i64 1))), none⟩, ⟨some 3, .q (.mv (.t 25)), none⟩]
def c40_9 : SCode := .cond (.t 23) (.region c40_8 [0, 3, 7, 8]) .skip
def c40_10 : SCode := .seq (.region c40_7 [0, 3, 7, 8, 23]) c40_9
def c40_11 : SCode := .seq (.region c40_6 [0, 3, 5, 7, 8]) c40_10
def c40_12 : SCode := .seq (.region c40_5 [0, 3, 4, 7, 8]) c40_11
def c40_13 : SCode := .block 1 c40_12
def c40_14 : List SOper := [⟨some 26, .q (.bin .add (.t 8) (.c (.int .i64 1))), none⟩, ⟨some 8, .q (.mv (.t 26)), none⟩]
def c40_15 : SCode := .seq c40_13 (.region c40_14 [0, 3, 7, 8])
def c40_16 : SCode := .seq c40_4 c40_15
def c40_17 : SCode := .seq (.region c40_3 [0, 3, 7, 8, 9]) c40_16
def c40_18 : SCode := .loop c40_17
def c40_19 : SCode := .block 0 c40_18
def c40_20 : SCode := .seq (.region c40_2 [0, 3, 7, 8]) c40_19
def c40_21 : List SOper := [⟨some 27, .q (.mv (.t 3)), none⟩, ⟨some 2, .q (.mv (.t 27)), none⟩]
def c40_22 : SCode := .seq (.region c40_21 [2]) .ret
def c40_23 : SCode := .seq c40_20 c40_22
def c40_24 : SCode := .seq (.region c40_1 [0, 3]) c40_23
def c40_25 : SCode := .seq (.region c40_0 [0]) c40_24
def c40 : SCode := c40_25
theorem w40 : type_of% (And.intro (uR Tryd.prog c40_0.eq_1) (And.intro (uR Tryd.prog c40_1.eq_1) (And.intro (uR Tryd.prog c40_2.eq_1) (And.intro (uR Tryd.prog c40_3.eq_1) (And.intro (uC Tryd.prog c40_4.eq_1) (And.intro (uR Tryd.prog c40_5.eq_1) (And.intro (uR Tryd.prog c40_6.eq_1) (And.intro (uR Tryd.prog c40_7.eq_1) (And.intro (uR Tryd.prog c40_8.eq_1) (And.intro (uC Tryd.prog c40_9.eq_1) (And.intro (uC Tryd.prog c40_10.eq_1) (And.intro (uC Tryd.prog c40_11.eq_1) (And.intro (uC Tryd.prog c40_12.eq_1) (And.intro (uC Tryd.prog c40_13.eq_1) (And.intro (uR Tryd.prog c40_14.eq_1) (And.intro (uC Tryd.prog c40_15.eq_1) (And.intro (uC Tryd.prog c40_16.eq_1) (And.intro (uC Tryd.prog c40_17.eq_1) (And.intro (uC Tryd.prog c40_18.eq_1) (And.intro (uC Tryd.prog c40_19.eq_1) (And.intro (uC Tryd.prog c40_20.eq_1) (And.intro (uR Tryd.prog c40_21.eq_1) (And.intro (uC Tryd.prog c40_22.eq_1) (And.intro (uC Tryd.prog c40_23.eq_1) (And.intro (uC Tryd.prog c40_24.eq_1) (And.intro (uC Tryd.prog c40_25.eq_1) (uC Tryd.prog c40.eq_1))))))))))))))))))))))))))) := (And.intro (uR Tryd.prog c40_0.eq_1) (And.intro (uR Tryd.prog c40_1.eq_1) (And.intro (uR Tryd.prog c40_2.eq_1) (And.intro (uR Tryd.prog c40_3.eq_1) (And.intro (uC Tryd.prog c40_4.eq_1) (And.intro (uR Tryd.prog c40_5.eq_1) (And.intro (uR Tryd.prog c40_6.eq_1) (And.intro (uR Tryd.prog c40_7.eq_1) (And.intro (uR Tryd.prog c40_8.eq_1) (And.intro (uC Tryd.prog c40_9.eq_1) (And.intro (uC Tryd.prog c40_10.eq_1) (And.intro (uC Tryd.prog c40_11.eq_1) (And.intro (uC Tryd.prog c40_12.eq_1) (And.intro (uC Tryd.prog c40_13.eq_1) (And.intro (uR Tryd.prog c40_14.eq_1) (And.intro (uC Tryd.prog c40_15.eq_1) (And.intro (uC Tryd.prog c40_16.eq_1) (And.intro (uC Tryd.prog c40_17.eq_1) (And.intro (uC Tryd.prog c40_18.eq_1) (And.intro (uC Tryd.prog c40_19.eq_1) (And.intro (uC Tryd.prog c40_20.eq_1) (And.intro (uR Tryd.prog c40_21.eq_1) (And.intro (uC Tryd.prog c40_22.eq_1) (And.intro (uC Tryd.prog c40_23.eq_1) (And.intro (uC Tryd.prog c40_24.eq_1) (And.intro (uC Tryd.prog c40_25.eq_1) (uC Tryd.prog c40.eq_1)))))))))))))))))))))))))))
def v40 : List RV := [.t 2]
theorem s40 : slimF Tryd.prog Tryd.f40 = some (c40.bare, v40) := by kernel_rfl

/-! ### Texts, byte by byte -/
def bt (s : ByteArray) (i : Nat) : Int := ((s.data.toList.getD i 0).toNat : Int)
theorem size_list (s : ByteArray) : s.data.toList.length = s.size := by rw [Array.length_toList]; rfl
theorem ivs_at (s : ByteArray) (k : IntKind) (i : Nat) (hi : i < s.size) : ivsV (.string s) (.int k (i : Int)) = some (.int .u8 (bt s i)) := by
  have hl : i < s.data.toList.length := by rw [size_list]; exact hi
  simp only [ivsV, bt]
  rw [if_pos (by omega), Int.toNat_natCast, getElem?_pos s i hi]
  simp only [Option.map_some, List.getD, List.getElem?_eq_getElem hl, Option.getD_some]
  simp
  rfl
theorem sls_pre (s : ByteArray) (k : IntKind) (n : Nat) (h : n ≤ s.size) : slsV (.string s) none (some (.int k (n : Int))) = some (.string (s.extract 0 n)) := by
  simp [slsV, bndV, h]
theorem sls_suf (s : ByteArray) (k : IntKind) (n : Nat) (h : n ≤ s.size) : slsV (.string s) (some (.int k (n : Int))) none = some (.string (s.extract n s.size)) := by
  simp [slsV, bndV, h]
theorem pre_one (s : ByteArray) (h : 1 ≤ s.size) : ((s.extract 0 1).data.toList = (⟨#[10]⟩ : ByteArray).data.toList) ↔ bt s 0 = 10 := by
  rw [Lib.extract_data]
  have hl := size_list s
  unfold bt
  cases hL : s.data.toList with
  | nil => rw [hL] at hl; simp at hl; omega
  | cons b t =>
    simp
    constructor
    · rintro rfl; rfl
    · intro e; exact UInt8.toNat_inj.mp (by have : ((10 : UInt8).toNat) = 10 := rfl; omega)
theorem suf_one (s : ByteArray) (h : 1 ≤ s.size) : ((s.extract (s.size - 1) s.size).data.toList = (⟨#[10]⟩ : ByteArray).data.toList) ↔ bt s (s.size - 1) = 10 := by
  rw [Lib.extract_to_end]
  have hl := size_list s
  unfold bt
  have hi : s.size - 1 < s.data.toList.length := by omega
  rw [List.drop_eq_getElem_cons hi, List.drop_eq_nil_of_le (by omega)]
  simp only [List.getD, List.getElem?_eq_getElem hi, Option.getD_some]
  constructor
  · intro e
    have : s.data.toList[s.size - 1] = 10 := by simpa using e
    rw [this]; rfl
  · intro e
    have : s.data.toList[s.size - 1] = 10 := UInt8.toNat_inj.mp (by have : ((10 : UInt8).toNat) = 10 := rfl; omega)
    rw [this]
theorem sz10 : (((⟨#[10]⟩ : ByteArray).size : Nat) : Int) = 1 := rfl
theorem HasPrefix1_ok (h : Heap) (s : ByteArray) (h1 : 1 ≤ s.size) : ACall Tryd.prog 46 [.string s, .string ⟨#[10]⟩] h fun r h' => h' = h ∧ r = .bool (decide (bt s 0 = 10)) := by
  refine ACall.of Tryd.func46 s46 (of_decide_eq_true rfl) ?_
  have d : decide ((1 : Int) ≤ (s.size : Int)) = true := decide_eq_true (by omega)
  have c : slsV (.string s) none (some (.int .i64 1)) = some (.string (s.extract 0 1)) := sls_pre s .i64 1 h1
  simp (maxSteps := 4000000) (disch := omega) only [ah, am, Nat.reduceEqDiff, reduceCtorEq, Nat.reduceAdd, Nat.reduceLeDiff, Nat.reduceMul, Nat.reduceLT, if_true, if_false, true_and, and_true, and_self, Nat.reduceBEq, QOp.loads, boxO, bslO, buildO, cutL, fillV, putL, w46, v46, sz10, d, c, strB_eql]
  rw [show decide ((s.extract 0 1).data.toList = (⟨#[10]⟩ : ByteArray).data.toList) = decide (bt s 0 = 10) from decide_eq_decide.mpr (pre_one s h1)]
theorem HasPrefix_ok (h : Heap) (s : ByteArray) (h1 : 1 ≤ s.size) : ACall Tryd.prog 42 [.string s, .string ⟨#[10]⟩] h fun r h' => h' = h ∧ r = .bool (decide (bt s 0 = 10)) := by
  refine ACall.of Tryd.func42 s42 (of_decide_eq_true rfl) ?_
  simp (maxSteps := 4000000) (disch := omega) only [ah, am, Nat.reduceEqDiff, reduceCtorEq, Nat.reduceAdd, Nat.reduceLeDiff, Nat.reduceMul, Nat.reduceLT, if_true, if_false, true_and, and_true, and_self, Nat.reduceBEq, QOp.loads, boxO, bslO, buildO, cutL, fillV, putL, w42, v42]
  refine stepC.of (HasPrefix1_ok _ s h1) ?_
  rintro _ Hx ⟨hx, rfl⟩; rw [hx]; clear hx Hx
  simp (maxSteps := 4000000) (disch := omega) only [ah, am, Nat.reduceEqDiff, reduceCtorEq, Nat.reduceAdd, Nat.reduceLeDiff, Nat.reduceMul, Nat.reduceLT, if_true, if_false, true_and, and_true, and_self, Nat.reduceBEq, QOp.loads, boxO, bslO, buildO, cutL, fillV, putL, w42, v42]
theorem HasSuffix1_ok (h : Heap) (s : ByteArray) (h1 : 1 ≤ s.size) (h2 : s.size ≤ 200) : ACall Tryd.prog 47 [.string s, .string ⟨#[10]⟩] h fun r h' => h' = h ∧ r = .bool (decide (bt s (s.size - 1) = 10)) := by
  refine ACall.of Tryd.func47 s47 (of_decide_eq_true rfl) ?_
  have d : decide ((1 : Int) ≤ (s.size : Int)) = true := decide_eq_true (by omega)
  have w : IntKind.i64.wrap ((s.size : Int) - 1) = ((s.size - 1 : Nat) : Int) := i64e (by omega) (by omega)
  have c := sls_suf s .i64 (s.size - 1) (by omega)
  simp (maxSteps := 4000000) (disch := omega) only [ah, am, Nat.reduceEqDiff, reduceCtorEq, Nat.reduceAdd, Nat.reduceLeDiff, Nat.reduceMul, Nat.reduceLT, if_true, if_false, true_and, and_true, and_self, Nat.reduceBEq, QOp.loads, boxO, bslO, buildO, cutL, fillV, putL, w47, v47, sz10, d, w, c, strB_eql]
  rw [show decide ((s.extract (s.size - 1) s.size).data.toList = (⟨#[10]⟩ : ByteArray).data.toList) = decide (bt s (s.size - 1) = 10) from decide_eq_decide.mpr (suf_one s h1)]
theorem HasSuffix_ok (h : Heap) (s : ByteArray) (h1 : 1 ≤ s.size) (h2 : s.size ≤ 200) : ACall Tryd.prog 43 [.string s, .string ⟨#[10]⟩] h fun r h' => h' = h ∧ r = .bool (decide (bt s (s.size - 1) = 10)) := by
  refine ACall.of Tryd.func43 s43 (of_decide_eq_true rfl) ?_
  simp (maxSteps := 4000000) (disch := omega) only [ah, am, Nat.reduceEqDiff, reduceCtorEq, Nat.reduceAdd, Nat.reduceLeDiff, Nat.reduceMul, Nat.reduceLT, if_true, if_false, true_and, and_true, and_self, Nat.reduceBEq, QOp.loads, boxO, bslO, buildO, cutL, fillV, putL, w43, v43]
  refine stepC.of (HasSuffix1_ok _ s h1 h2) ?_
  rintro _ Hx ⟨hx, rfl⟩; rw [hx]; clear hx Hx
  simp (maxSteps := 4000000) (disch := omega) only [ah, am, Nat.reduceEqDiff, reduceCtorEq, Nat.reduceAdd, Nat.reduceLeDiff, Nat.reduceMul, Nat.reduceLT, if_true, if_false, true_and, and_true, and_self, Nat.reduceBEq, QOp.loads, boxO, bslO, buildO, cutL, fillV, putL, w43, v43]
/-- Two newlines, one behind the other. -/
def twoAt (s : ByteArray) : Prop := ∃ i, i + 1 < s.size ∧ bt s i = 10 ∧ bt s (i + 1) = 10
noncomputable instance (s : ByteArray) : Decidable (twoAt s) := Classical.propDecidable _
theorem occ_two (s : ByteArray) (i : Nat) : Lib.occAt s.data.toList [10, 10] i = true ↔ i + 1 < s.size ∧ bt s i = 10 ∧ bt s (i + 1) = 10 := by
  have hl := size_list s
  unfold Lib.occAt bt
  have key : ∀ (L : List UInt8) (i : Nat), ([10, 10] : List UInt8).isPrefixOf (L.drop i) = true ↔ i + 1 < L.length ∧ ((L.getD i 0).toNat : Int) = 10 ∧ ((L.getD (i + 1) 0).toNat : Int) = 10 := by
    intro L i
    have u : ∀ b : UInt8, b = 10 ↔ (b.toNat : Int) = 10 := fun b => ⟨by rintro rfl; rfl, fun e => UInt8.toNat_inj.mp (by have : ((10 : UInt8).toNat) = 10 := rfl; omega)⟩
    by_cases h1 : i < L.length
    · by_cases h2 : i + 1 < L.length
      · rw [List.drop_eq_getElem_cons h1, List.drop_eq_getElem_cons h2]
        simp only [List.isPrefixOf, Bool.and_true, Bool.and_eq_true, beq_iff_eq, List.getD, List.getElem?_eq_getElem h1, List.getElem?_eq_getElem h2, Option.getD_some]
        rw [← u, ← u]
        exact ⟨fun q => ⟨h2, q.1.symm, q.2.symm⟩, fun q => ⟨q.2.1.symm, q.2.2.symm⟩⟩
      · rw [List.drop_eq_getElem_cons h1, List.drop_eq_nil_of_le (by omega)]
        simp [List.isPrefixOf]; omega
    · rw [List.drop_eq_nil_of_le (by omega)]
      simp [List.isPrefixOf]; omega
  rw [key, hl]
theorem contains_two (s : ByteArray) : Lib.contains s.data.toList [10, 10] = decide (twoAt s) := by
  unfold Lib.contains
  refine decide_eq_decide.mpr ?_
  have hl := size_list s
  rcases Lib.index_spec s.data.toList [10, 10] with ⟨h1, h2⟩ | ⟨i, h1, h2, h3, _⟩
  · rw [h1]
    refine ⟨fun q => by omega, fun ⟨i, q⟩ => ?_⟩
    have := h2 i (by omega)
    rw [(occ_two s i).mpr q] at this; cases this
  · rw [h1]
    exact ⟨fun _ => ⟨i, (occ_two s i).mp h3⟩, fun _ => by omega⟩
theorem Contains_ok (h : Heap) (s : ByteArray) (hs : s.size ≤ 200) : ACall Tryd.prog 44 [.string s, .string ⟨#[10, 10]⟩] h fun r h' => h' = h ∧ r = .bool (decide (twoAt s)) := by
  rw [← contains_two]
  refine ACall.pure rfl rfl (fun w g => ?_) h
  obtain ⟨n, hn⟩ := (show ∃ n : Int, w.cell? ⟨0, 0, none⟩ = some (.int .i64 n) from g)
  exact Any.strings_Contains L144 s ⟨#[10, 10]⟩ n w (by omega) hn
def chOk (b : Int) : Prop := b = 10 ∨ (32 ≤ b ∧ b ≠ 127)
instance (b : Int) : Decidable (chOk b) := by unfold chOk; infer_instance
def tOk (s : ByteArray) : Prop := (1 ≤ s.size ∧ s.size ≤ 200) ∧ bt s 0 ≠ 10 ∧ bt s (s.size - 1) ≠ 10 ∧ ¬ twoAt s ∧ ∀ i, i < s.size → chOk (bt s i)
noncomputable instance (s : ByteArray) : Decidable (tOk s) := Classical.propDecidable _
theorem in_ok (h : Heap) (x lo hi : Int) : ACall Tryd.prog 29 [.int .i64 x, .int .i64 lo, .int .i64 hi] h fun r h' => h' = h ∧ r = .bool (decide (lo ≤ x ∧ x ≤ hi)) := by
  refine ACall.of Tryd.func29 s29 (of_decide_eq_true rfl) ?_
  by_cases q : lo ≤ x
  · simp (maxSteps := 4000000) (disch := omega) only [ah, am, Nat.reduceEqDiff, reduceCtorEq, Nat.reduceAdd, Nat.reduceLeDiff, Nat.reduceMul, Nat.reduceLT, if_true, if_false, true_and, and_true, and_self, Nat.reduceBEq, QOp.loads, boxO, bslO, buildO, cutL, fillV, putL, w29, v29, decide_eq_true q]
    rw [show decide (lo ≤ x ∧ x ≤ hi) = decide (x ≤ hi) from decide_eq_decide.mpr ⟨fun h => h.2, fun h => ⟨q, h⟩⟩]
  · simp (maxSteps := 4000000) (disch := omega) only [ah, am, Nat.reduceEqDiff, reduceCtorEq, Nat.reduceAdd, Nat.reduceLeDiff, Nat.reduceMul, Nat.reduceLT, if_true, if_false, true_and, and_true, and_self, Nat.reduceBEq, QOp.loads, boxO, bslO, buildO, cutL, fillV, putL, w29, v29, decide_eq_false q]
    rw [decide_eq_false fun h => q h.1]
theorem l1In_ok (h : Heap) (x lo hi : Int) : ACall Tryd.prog 31 [.int .i64 x, .int .i64 lo, .int .i64 hi] h fun r h' => h' = h ∧ r = .bool (decide (lo ≤ x ∧ x ≤ hi)) := by
  refine ACall.of Tryd.func31 s31 (of_decide_eq_true rfl) ?_
  by_cases q : lo ≤ x
  · simp (maxSteps := 4000000) (disch := omega) only [ah, am, Nat.reduceEqDiff, reduceCtorEq, Nat.reduceAdd, Nat.reduceLeDiff, Nat.reduceMul, Nat.reduceLT, if_true, if_false, true_and, and_true, and_self, Nat.reduceBEq, QOp.loads, boxO, bslO, buildO, cutL, fillV, putL, w31, v31, decide_eq_true q]
    rw [show decide (lo ≤ x ∧ x ≤ hi) = decide (x ≤ hi) from decide_eq_decide.mpr ⟨fun h => h.2, fun h => ⟨q, h⟩⟩]
  · simp (maxSteps := 4000000) (disch := omega) only [ah, am, Nat.reduceEqDiff, reduceCtorEq, Nat.reduceAdd, Nat.reduceLeDiff, Nat.reduceMul, Nat.reduceLT, if_true, if_false, true_and, and_true, and_self, Nat.reduceBEq, QOp.loads, boxO, bslO, buildO, cutL, fillV, putL, w31, v31, decide_eq_false q]
    rw [decide_eq_false fun h => q h.1]
theorem textOk_ok (h : Heap) (s : ByteArray) (hs : s.size ≤ 9223372036854775807) : ACall Tryd.prog 38 [.string s] h fun r h' => h' = h ∧ r = .bool (decide (tOk s)) := by
  refine ACall.of Tryd.func38 s38 (of_decide_eq_true rfl) ?_
  simp (maxSteps := 4000000) (disch := omega) only [ah, am, Nat.reduceEqDiff, reduceCtorEq, Nat.reduceAdd, Nat.reduceLeDiff, Nat.reduceMul, Nat.reduceLT, if_true, if_false, true_and, and_true, and_self, Nat.reduceBEq, QOp.loads, boxO, bslO, buildO, cutL, fillV, putL, w38, v38]
  refine stepC.of (in_ok _ _ _ _) ?_
  rintro _ Hx ⟨hx, rfl⟩; rw [hx]; clear hx Hx
  by_cases c1 : (1 : Int) ≤ s.size ∧ (s.size : Int) ≤ 200
  rotate_left
  · simp (maxSteps := 4000000) (disch := omega) only [ah, am, Nat.reduceEqDiff, reduceCtorEq, Nat.reduceAdd, Nat.reduceLeDiff, Nat.reduceMul, Nat.reduceLT, if_true, if_false, true_and, and_true, and_self, Nat.reduceBEq, QOp.loads, boxO, bslO, buildO, cutL, fillV, putL, w38, v38, decide_eq_false c1, Bool.not_false]
    rw [decide_eq_false]; rintro ⟨⟨q1, q2⟩, _⟩; exact c1 ⟨by omega, by omega⟩
  have hn : 1 ≤ s.size ∧ s.size ≤ 200 := by omega
  simp (maxSteps := 4000000) (disch := omega) only [ah, am, Nat.reduceEqDiff, reduceCtorEq, Nat.reduceAdd, Nat.reduceLeDiff, Nat.reduceMul, Nat.reduceLT, if_true, if_false, true_and, and_true, and_self, Nat.reduceBEq, QOp.loads, boxO, bslO, buildO, cutL, fillV, putL, w38, v38, decide_eq_true c1, Bool.not_true]
  refine stepC.of (HasPrefix_ok _ s hn.1) ?_
  rintro _ Hx ⟨hx, rfl⟩; rw [hx]; clear hx Hx
  by_cases c2 : bt s 0 = 10
  · simp (maxSteps := 4000000) (disch := omega) only [ah, am, Nat.reduceEqDiff, reduceCtorEq, Nat.reduceAdd, Nat.reduceLeDiff, Nat.reduceMul, Nat.reduceLT, if_true, if_false, true_and, and_true, and_self, Nat.reduceBEq, QOp.loads, boxO, bslO, buildO, cutL, fillV, putL, w38, v38, decide_eq_true c2]
    rw [decide_eq_false]; rintro ⟨_, q, _⟩; exact q c2
  simp (maxSteps := 4000000) (disch := omega) only [ah, am, Nat.reduceEqDiff, reduceCtorEq, Nat.reduceAdd, Nat.reduceLeDiff, Nat.reduceMul, Nat.reduceLT, if_true, if_false, true_and, and_true, and_self, Nat.reduceBEq, QOp.loads, boxO, bslO, buildO, cutL, fillV, putL, w38, v38, decide_eq_false c2]
  refine stepC.of (HasSuffix_ok _ s hn.1 hn.2) ?_
  rintro _ Hx ⟨hx, rfl⟩; rw [hx]; clear hx Hx
  by_cases c3 : bt s (s.size - 1) = 10
  · simp (maxSteps := 4000000) (disch := omega) only [ah, am, Nat.reduceEqDiff, reduceCtorEq, Nat.reduceAdd, Nat.reduceLeDiff, Nat.reduceMul, Nat.reduceLT, if_true, if_false, true_and, and_true, and_self, Nat.reduceBEq, QOp.loads, boxO, bslO, buildO, cutL, fillV, putL, w38, v38, decide_eq_true c3]
    rw [decide_eq_false]; rintro ⟨_, _, q, _⟩; exact q c3
  simp (maxSteps := 4000000) (disch := omega) only [ah, am, Nat.reduceEqDiff, reduceCtorEq, Nat.reduceAdd, Nat.reduceLeDiff, Nat.reduceMul, Nat.reduceLT, if_true, if_false, true_and, and_true, and_self, Nat.reduceBEq, QOp.loads, boxO, bslO, buildO, cutL, fillV, putL, w38, v38, decide_eq_false c3]
  refine stepC.of (Contains_ok _ s hn.2) ?_
  rintro _ Hx ⟨hx, rfl⟩; rw [hx]; clear hx Hx
  by_cases c4 : twoAt s
  · simp (maxSteps := 4000000) (disch := omega) only [ah, am, Nat.reduceEqDiff, reduceCtorEq, Nat.reduceAdd, Nat.reduceLeDiff, Nat.reduceMul, Nat.reduceLT, if_true, if_false, true_and, and_true, and_self, Nat.reduceBEq, QOp.loads, boxO, bslO, buildO, cutL, fillV, putL, w38, v38, decide_eq_true c4]
    rw [decide_eq_false]; rintro ⟨_, _, _, q, _⟩; exact q c4
  simp (maxSteps := 4000000) (disch := omega) only [ah, am, Nat.reduceEqDiff, reduceCtorEq, Nat.reduceAdd, Nat.reduceLeDiff, Nat.reduceMul, Nat.reduceLT, if_true, if_false, true_and, and_true, and_self, Nat.reduceBEq, QOp.loads, boxO, bslO, buildO, cutL, fillV, putL, w38, v38, decide_eq_false c4]
  refine SW_loop_up (fun i E H => h = H ∧ E = [(0, .string s), (22, .int .i64 (s.size : Int)), (23, .int .i64 (i : Int))] ∧ ∀ j, j < i → chOk (bt s j)) s.size 0 (by omega) ⟨rfl, rfl, fun j hj => by omega⟩ ?_
  rintro i E _ hi ⟨rfl, rfl, F⟩
  have W : IntKind.i64.wrap ((i : Int) + 1) = ((i + 1 : Nat) : Int) := i64e (by omega) (by omega)
  simp (maxSteps := 4000000) (disch := omega) only [ah, am, Nat.reduceEqDiff, reduceCtorEq, Nat.reduceAdd, Nat.reduceLeDiff, Nat.reduceMul, Nat.reduceLT, if_true, if_false, true_and, and_true, and_self, Nat.reduceBEq, QOp.loads, boxO, bslO, buildO, cutL, fillV, putL, w38, v38]
  refine stepI.split (fun hp => ?_) (fun hp => ?_)
  rotate_left
  · simp (maxSteps := 4000000) (disch := omega) only [ah, am, Nat.reduceEqDiff, reduceCtorEq, Nat.reduceAdd, Nat.reduceLeDiff, Nat.reduceMul, Nat.reduceLT, if_true, if_false, true_and, and_true, and_self, Nat.reduceBEq, QOp.loads, boxO, bslO, buildO, cutL, fillV, putL, w38, v38]
    rw [decide_eq_true ⟨hn, c2, c3, c4, fun j hj => F j (by omega)⟩]
  have hi2 : i < s.size := by omega
  have B := ivs_at s .i64 i hi2
  have done : chOk (bt s i) → ∀ j, j < i + 1 → chOk (bt s j) := fun q j hj => by
    by_cases e : j = i
    · rw [e]; exact q
    · exact F j (by omega)
  have bad : ¬ chOk (bt s i) → decide (tOk s) = false := fun q => decide_eq_false fun t => q (t.2.2.2.2 i hi2)
  generalize bt s i = b at B done bad
  by_cases q1 : b = 10
  · simp (maxSteps := 4000000) (disch := omega) only [ah, am, Nat.reduceEqDiff, reduceCtorEq, Nat.reduceAdd, Nat.reduceLeDiff, Nat.reduceMul, Nat.reduceLT, if_true, if_false, true_and, and_true, and_self, Nat.reduceBEq, QOp.loads, boxO, bslO, buildO, cutL, fillV, putL, w38, v38, B, decide_eq_true q1, Bool.not_true, W]
    exact ⟨hi2, done (.inl q1)⟩
  · by_cases q2 : b < 32
    · simp (maxSteps := 4000000) (disch := omega) only [ah, am, Nat.reduceEqDiff, reduceCtorEq, Nat.reduceAdd, Nat.reduceLeDiff, Nat.reduceMul, Nat.reduceLT, if_true, if_false, true_and, and_true, and_self, Nat.reduceBEq, QOp.loads, boxO, bslO, buildO, cutL, fillV, putL, w38, v38, B, decide_eq_false q1, Bool.not_false, decide_eq_true q2]
      rw [bad (by unfold chOk; omega)]
    · by_cases q3 : b = 127
      · simp (maxSteps := 4000000) (disch := omega) only [ah, am, Nat.reduceEqDiff, reduceCtorEq, Nat.reduceAdd, Nat.reduceLeDiff, Nat.reduceMul, Nat.reduceLT, if_true, if_false, true_and, and_true, and_self, Nat.reduceBEq, QOp.loads, boxO, bslO, buildO, cutL, fillV, putL, w38, v38, B, decide_eq_false q1, Bool.not_false, decide_eq_false q2, decide_eq_true q3]
        rw [bad (by unfold chOk; omega)]
      · simp (maxSteps := 4000000) (disch := omega) only [ah, am, Nat.reduceEqDiff, reduceCtorEq, Nat.reduceAdd, Nat.reduceLeDiff, Nat.reduceMul, Nat.reduceLT, if_true, if_false, true_and, and_true, and_self, Nat.reduceBEq, QOp.loads, boxO, bslO, buildO, cutL, fillV, putL, w38, v38, B, decide_eq_false q1, Bool.not_false, decide_eq_false q2, decide_eq_false q3, W]
        exact ⟨hi2, done (.inr ⟨by omega, q3⟩)⟩
theorem l12Text_ok (h : Heap) (s : ByteArray) (hs : s.size ≤ 9223372036854775807) : ACall Tryd.prog 41 [.string s] h fun r h' => h' = h ∧ r = .bool (decide (tOk s)) := by
  refine ACall.of Tryd.func41 s41 (of_decide_eq_true rfl) ?_
  by_cases c1 : (s.size : Int) < 1
  · simp (maxSteps := 4000000) (disch := omega) only [ah, am, Nat.reduceEqDiff, reduceCtorEq, Nat.reduceAdd, Nat.reduceLeDiff, Nat.reduceMul, Nat.reduceLT, if_true, if_false, true_and, and_true, and_self, Nat.reduceBEq, QOp.loads, boxO, bslO, buildO, cutL, fillV, putL, w41, v41, decide_eq_true c1]
    rw [decide_eq_false]; rintro ⟨⟨q1, q2⟩, _⟩; omega
  by_cases c1' : (200 : Int) < s.size
  · simp (maxSteps := 4000000) (disch := omega) only [ah, am, Nat.reduceEqDiff, reduceCtorEq, Nat.reduceAdd, Nat.reduceLeDiff, Nat.reduceMul, Nat.reduceLT, if_true, if_false, true_and, and_true, and_self, Nat.reduceBEq, QOp.loads, boxO, bslO, buildO, cutL, fillV, putL, w41, v41, decide_eq_false c1, decide_eq_true c1']
    rw [decide_eq_false]; rintro ⟨⟨q1, q2⟩, _⟩; omega
  have hn : 1 ≤ s.size ∧ s.size ≤ 200 := by omega
  have B0 : ivsV (.string s) (.int .i64 0) = some (.int .u8 (bt s 0)) := ivs_at s .i64 0 (by omega)
  have w : IntKind.i64.wrap ((s.size : Int) - 1) = ((s.size - 1 : Nat) : Int) := i64e (by omega) (by omega)
  have B1 := ivs_at s .i64 (s.size - 1) (by omega)
  by_cases c2 : bt s 0 = 10
  · simp (maxSteps := 4000000) (disch := omega) only [ah, am, Nat.reduceEqDiff, reduceCtorEq, Nat.reduceAdd, Nat.reduceLeDiff, Nat.reduceMul, Nat.reduceLT, if_true, if_false, true_and, and_true, and_self, Nat.reduceBEq, QOp.loads, boxO, bslO, buildO, cutL, fillV, putL, w41, v41, decide_eq_false c1, decide_eq_false c1', B0, decide_eq_true c2]
    rw [decide_eq_false]; rintro ⟨_, q, _⟩; exact q c2
  by_cases c3 : bt s (s.size - 1) = 10
  · simp (maxSteps := 4000000) (disch := omega) only [ah, am, Nat.reduceEqDiff, reduceCtorEq, Nat.reduceAdd, Nat.reduceLeDiff, Nat.reduceMul, Nat.reduceLT, if_true, if_false, true_and, and_true, and_self, Nat.reduceBEq, QOp.loads, boxO, bslO, buildO, cutL, fillV, putL, w41, v41, decide_eq_false c1, decide_eq_false c1', B0, decide_eq_false c2, w, B1, decide_eq_true c3]
    rw [decide_eq_false]; rintro ⟨_, _, q, _⟩; exact q c3
  simp (maxSteps := 4000000) (disch := omega) only [ah, am, Nat.reduceEqDiff, reduceCtorEq, Nat.reduceAdd, Nat.reduceLeDiff, Nat.reduceMul, Nat.reduceLT, if_true, if_false, true_and, and_true, and_self, Nat.reduceBEq, QOp.loads, boxO, bslO, buildO, cutL, fillV, putL, w41, v41, decide_eq_false c1, decide_eq_false c1', B0, decide_eq_false c2, w, B1, decide_eq_false c3]
  refine SW_loop_up (fun i E H => h = H ∧ E = [(0, .string s), (3, .int .i64 (s.size : Int)), (4, .int .i64 (i : Int))] ∧ ∀ j, j < i → chOk (bt s j) ∧ ¬ (bt s j = 10 ∧ 1 ≤ j ∧ bt s (j - 1) = 10)) s.size 0 (by omega) ⟨rfl, rfl, fun j hj => by omega⟩ ?_
  rintro i E _ hi ⟨rfl, rfl, F⟩
  have W : IntKind.i64.wrap ((i : Int) + 1) = ((i + 1 : Nat) : Int) := i64e (by omega) (by omega)
  simp (maxSteps := 4000000) (disch := omega) only [ah, am, Nat.reduceEqDiff, reduceCtorEq, Nat.reduceAdd, Nat.reduceLeDiff, Nat.reduceMul, Nat.reduceLT, if_true, if_false, true_and, and_true, and_self, Nat.reduceBEq, QOp.loads, boxO, bslO, buildO, cutL, fillV, putL, w41, v41]
  refine stepI.split (fun hp => ?_) (fun hp => ?_)
  rotate_left
  · simp (maxSteps := 4000000) (disch := omega) only [ah, am, Nat.reduceEqDiff, reduceCtorEq, Nat.reduceAdd, Nat.reduceLeDiff, Nat.reduceMul, Nat.reduceLT, if_true, if_false, true_and, and_true, and_self, Nat.reduceBEq, QOp.loads, boxO, bslO, buildO, cutL, fillV, putL, w41, v41]
    rw [decide_eq_true ⟨hn, c2, c3, fun ⟨j, j1, j2, j3⟩ => (F (j + 1) (by omega)).2 ⟨j3, by omega, by rw [Nat.add_sub_cancel]; exact j2⟩, fun j hj => (F j (by omega)).1⟩]
  have hi2 : i < s.size := by omega
  have B := ivs_at s .i64 i hi2
  have done : chOk (bt s i) ∧ ¬ (bt s i = 10 ∧ 1 ≤ i ∧ bt s (i - 1) = 10) → ∀ j, j < i + 1 → chOk (bt s j) ∧ ¬ (bt s j = 10 ∧ 1 ≤ j ∧ bt s (j - 1) = 10) := fun q j hj => by
    by_cases e : j = i
    · rw [e]; exact q
    · exact F j (by omega)
  have bad : ¬ chOk (bt s i) → decide (tOk s) = false := fun q => decide_eq_false fun t => q (t.2.2.2.2 i hi2)
  by_cases q1 : bt s i = 10
  · have i1 : 1 ≤ i := by
      rcases Nat.eq_zero_or_pos i with e | e
      · rw [e] at q1; exact absurd q1 c2
      · exact e
    have wi : IntKind.i64.wrap ((i : Int) - 1) = ((i - 1 : Nat) : Int) := i64e (by omega) (by omega)
    have Bp := ivs_at s .i64 (i - 1) (by omega)
    by_cases q2 : bt s (i - 1) = 10
    · simp (maxSteps := 4000000) (disch := omega) only [ah, am, Nat.reduceEqDiff, reduceCtorEq, Nat.reduceAdd, Nat.reduceLeDiff, Nat.reduceMul, Nat.reduceLT, if_true, if_false, true_and, and_true, and_self, Nat.reduceBEq, QOp.loads, boxO, bslO, buildO, cutL, fillV, putL, w41, v41, B, decide_eq_true q1, wi, Bp, decide_eq_true q2]
      rw [decide_eq_false]; rintro ⟨_, _, _, q, _⟩; exact q ⟨i - 1, by omega, q2, by rw [show i - 1 + 1 = i by omega]; exact q1⟩
    · have q3 : decide (bt s i = 127) = false := decide_eq_false (by omega)
      simp (maxSteps := 4000000) (disch := omega) only [ah, am, Nat.reduceEqDiff, reduceCtorEq, Nat.reduceAdd, Nat.reduceLeDiff, Nat.reduceMul, Nat.reduceLT, if_true, if_false, true_and, and_true, and_self, Nat.reduceBEq, QOp.loads, boxO, bslO, buildO, cutL, fillV, putL, w41, v41, B, decide_eq_true q1, wi, Bp, decide_eq_false q2, Bool.not_true, q3, W]
      exact ⟨hi2, done ⟨.inl q1, fun t => q2 t.2.2⟩⟩
  · by_cases q2 : bt s i < 32
    · simp (maxSteps := 4000000) (disch := omega) only [ah, am, Nat.reduceEqDiff, reduceCtorEq, Nat.reduceAdd, Nat.reduceLeDiff, Nat.reduceMul, Nat.reduceLT, if_true, if_false, true_and, and_true, and_self, Nat.reduceBEq, QOp.loads, boxO, bslO, buildO, cutL, fillV, putL, w41, v41, B, decide_eq_false q1, Bool.not_false, decide_eq_true q2]
      rw [bad (by unfold chOk; omega)]
    · by_cases q3 : bt s i = 127
      · simp (maxSteps := 4000000) (disch := omega) only [ah, am, Nat.reduceEqDiff, reduceCtorEq, Nat.reduceAdd, Nat.reduceLeDiff, Nat.reduceMul, Nat.reduceLT, if_true, if_false, true_and, and_true, and_self, Nat.reduceBEq, QOp.loads, boxO, bslO, buildO, cutL, fillV, putL, w41, v41, B, decide_eq_false q1, Bool.not_false, decide_eq_false q2, decide_eq_true q3]
        rw [bad (by unfold chOk; omega)]
      · simp (maxSteps := 4000000) (disch := omega) only [ah, am, Nat.reduceEqDiff, reduceCtorEq, Nat.reduceAdd, Nat.reduceLeDiff, Nat.reduceMul, Nat.reduceLT, if_true, if_false, true_and, and_true, and_self, Nat.reduceBEq, QOp.loads, boxO, bslO, buildO, cutL, fillV, putL, w41, v41, B, decide_eq_false q1, Bool.not_false, decide_eq_false q2, decide_eq_false q3, W]
        exact ⟨hi2, done ⟨.inr ⟨by omega, q3⟩, fun t => q1 t.1⟩⟩
/-! ### Signs -/
def sgb (b : UInt8) : Bool := !decide ((b.toNat : Int) = 10) && (decide ((b.toNat : Int) < 128) || decide ((191 : Int) < (b.toNat : Int)))
def sgL (L : List UInt8) : Nat := L.countP sgb
theorem sgL_take (L : List UInt8) {i : Nat} (hi : i < L.length) : sgL (L.take (i + 1)) = sgL (L.take i) + (if sgb L[i] = true then 1 else 0) := by
  unfold sgL
  rw [List.take_succ_eq_append_getElem hi, List.countP_append]
  simp [List.countP_cons, List.countP_nil]
theorem sgL_le (L : List UInt8) : sgL L ≤ L.length := List.countP_le_length
theorem bt_at (s : ByteArray) {i : Nat} (hi : i < s.data.toList.length) : bt s i = ((s.data.toList[i]).toNat : Int) := by
  unfold bt; simp only [List.getD, List.getElem?_eq_getElem hi, Option.getD_some]
theorem signs_ok (h : Heap) (s : ByteArray) (hs : s.size ≤ 1000000) : ACall Tryd.prog 40 [.string s] h fun r h' => h' = h ∧ r = .int .i64 (sgL s.data.toList : Int) := by
  refine ACall.of Tryd.func40 s40 (of_decide_eq_true rfl) ?_
  simp (maxSteps := 4000000) (disch := omega) only [ah, am, Nat.reduceEqDiff, reduceCtorEq, Nat.reduceAdd, Nat.reduceLeDiff, Nat.reduceMul, Nat.reduceLT, if_true, if_false, true_and, and_true, and_self, Nat.reduceBEq, QOp.loads, boxO, bslO, buildO, cutL, fillV, putL, w40, v40]
  have hl := size_list s
  refine SW_loop_up (fun i E H => h = H ∧ E = [(0, .string s), (3, .int .i64 (sgL (s.data.toList.take i) : Int)), (7, .int .i64 (s.size : Int)), (8, .int .i64 (i : Int))]) s.size 0 (by omega) ⟨rfl, by simp [sgL]⟩ ?_
  rintro i E _ hi ⟨rfl, rfl⟩
  have W : IntKind.i64.wrap ((i : Int) + 1) = ((i + 1 : Nat) : Int) := i64e (by omega) (by omega)
  simp (maxSteps := 4000000) (disch := omega) only [ah, am, Nat.reduceEqDiff, reduceCtorEq, Nat.reduceAdd, Nat.reduceLeDiff, Nat.reduceMul, Nat.reduceLT, if_true, if_false, true_and, and_true, and_self, Nat.reduceBEq, QOp.loads, boxO, bslO, buildO, cutL, fillV, putL, w40, v40]
  refine stepI.split (fun hp => ?_) (fun hp => ?_)
  rotate_left
  · simp (maxSteps := 4000000) (disch := omega) only [ah, am, Nat.reduceEqDiff, reduceCtorEq, Nat.reduceAdd, Nat.reduceLeDiff, Nat.reduceMul, Nat.reduceLT, if_true, if_false, true_and, and_true, and_self, Nat.reduceBEq, QOp.loads, boxO, bslO, buildO, cutL, fillV, putL, w40, v40]
    rw [show i = s.data.toList.length by omega, List.take_length]
  have hi2 : i < s.size := by omega
  have hi3 : i < s.data.toList.length := by omega
  have B := ivs_at s .i64 i hi2
  rw [bt_at s hi3] at B
  rw [sgL_take _ hi3]
  have hle := sgL_le (s.data.toList.take i)
  rw [List.length_take] at hle
  generalize sgL (s.data.toList.take i) = n at hle
  generalize s.data.toList[i] = b at B
  unfold sgb
  have Wn : IntKind.i64.wrap ((n : Int) + 1) = ((n + 1 : Nat) : Int) := i64e (by omega) (by omega)
  by_cases q1 : (b.toNat : Int) = 10
  · simp (maxSteps := 4000000) (disch := omega) only [ah, am, Nat.reduceEqDiff, reduceCtorEq, Nat.reduceAdd, Nat.reduceLeDiff, Nat.reduceMul, Nat.reduceLT, if_true, if_false, true_and, and_true, and_self, Nat.reduceBEq, QOp.loads, boxO, bslO, buildO, cutL, fillV, putL, w40, v40, B, decide_eq_true q1, Bool.not_true, Bool.false_and, Bool.false_eq_true, Nat.add_zero, W]
    omega
  · by_cases q2 : (b.toNat : Int) < 128
    · simp (maxSteps := 4000000) (disch := omega) only [ah, am, Nat.reduceEqDiff, reduceCtorEq, Nat.reduceAdd, Nat.reduceLeDiff, Nat.reduceMul, Nat.reduceLT, if_true, if_false, true_and, and_true, and_self, Nat.reduceBEq, QOp.loads, boxO, bslO, buildO, cutL, fillV, putL, w40, v40, B, decide_eq_false q1, Bool.not_false, decide_eq_true q2, Bool.true_and, Bool.true_or, Wn, W]
      omega
    · by_cases q3 : (191 : Int) < (b.toNat : Int)
      · simp (maxSteps := 4000000) (disch := omega) only [ah, am, Nat.reduceEqDiff, reduceCtorEq, Nat.reduceAdd, Nat.reduceLeDiff, Nat.reduceMul, Nat.reduceLT, if_true, if_false, true_and, and_true, and_self, Nat.reduceBEq, QOp.loads, boxO, bslO, buildO, cutL, fillV, putL, w40, v40, B, decide_eq_false q1, Bool.not_false, decide_eq_false q2, decide_eq_true q3, Bool.true_and, Bool.or_true, Wn, W]
        omega
      · simp (maxSteps := 4000000) (disch := omega) only [ah, am, Nat.reduceEqDiff, reduceCtorEq, Nat.reduceAdd, Nat.reduceLeDiff, Nat.reduceMul, Nat.reduceLT, if_true, if_false, true_and, and_true, and_self, Nat.reduceBEq, QOp.loads, boxO, bslO, buildO, cutL, fillV, putL, w40, v40, B, decide_eq_false q1, Bool.not_false, decide_eq_false q2, decide_eq_false q3, Bool.true_and, Bool.or_false, Bool.false_eq_true, Nat.add_zero, W]
        omega
end Go.Proofs.YtgjppbmbpjomgaaDoor
