/- Merged texts of this claim: V19, V23, V24. -/
import Derived.Test.YtgmimgmdbpcecaaGreatDoorZbJ
section
namespace Go.Proofs.YtgmimgmdbpcecaaGreatDoor
open Go Go.Ah
set_option linter.unusedSimpArgs false
set_option linter.unusedVariables false
set_option maxRecDepth 10000
set_option maxHeartbeats 4000000
/-! 7 loop.example/g00066/impl.ReadList: parameters 2, live [0, 1], slots [0:r, 1:text, 2:r, 3:text, 6:track, 7:line, 8:first, 9:rest, 10:_, 11:next, 12:code] -/
def c7_0 : List SOper := [⟨some 2, .a (.box (.t 0)), none⟩, ⟨some 4, .q (.mv (.c (.slice none 0 0))), none⟩, ⟨some 5, .a (.new [(.int .i64 0), (.int .i64 0)]), none⟩]
def c7_1 : List SOper := [⟨some 13, .q (.ldn 3 (.t 2)), none⟩, ⟨some 14, .e (.call 21 [(.t 13)]), none⟩, ⟨some 15, .q (.not (.t 14)), none⟩]
def c7_2 : List SOper := [⟨some 16, .q (.build [(.int .i64 0), (.int .i64 0)] [(0, 1, (.c (.int .i64 1)))]), none⟩, ⟨some 4, .q (.mv (.c (.slice none 0 0))), none⟩, ⟨none, .e (.st 2 (.t 5) (.t 16)), none⟩]
def c7_3 : SCode := .seq (.region c7_2 [4, 5]) .ret
def c7_4 : SCode := .cond (.t 15) c7_3 .skip
def c7_5 : SCode := .seq (.region c7_1 [1, 2, 5, 15]) c7_4
def c7_6 : List SOper := [⟨some 17, .q (.mv (.t 1)), none⟩, ⟨some 18, .q (.lens (.t 17)), none⟩, ⟨some 19, .q (.bin .gtr (.t 18) (.c (.int .i64 20000))), none⟩]
def c7_7 : List SOper := [⟨some 20, .q (.build [(.int .i64 0), (.int .i64 0)] [(0, 1, (.c (.int .i64 2)))]), none⟩, ⟨some 4, .q (.mv (.c (.slice none 0 0))), none⟩, ⟨none, .e (.st 2 (.t 5) (.t 20)), none⟩]
def c7_8 : SCode := .seq (.region c7_7 [4, 5]) .ret
def c7_9 : SCode := .cond (.t 19) c7_8 .skip
def c7_10 : SCode := .seq (.region c7_6 [1, 2, 5, 19]) c7_9
def c7_11 : List SOper := [⟨some 21, .q (.mv (.t 1)), none⟩, ⟨some 22, .q (.bin .neq (.t 21) (.c (.string ⟨#[]⟩))), none⟩, ⟨some 23, .q (.mv (.t 22)), none⟩, ⟨some 24, .q (.mv (.t 1)), some (23, true)⟩, ⟨some 25, .e (.call 22 [(.t 24), (.c (.string ⟨#[10]⟩))]), some (23, true)⟩, ⟨some 26, .q (.not (.t 25)), some (23, true)⟩, ⟨some 27, .q (.pick (.t 23) (.t 26) (.c (.bool false))), none⟩]
def c7_12 : List SOper := [⟨some 28, .q (.build [(.int .i64 0), (.int .i64 0)] [(0, 1, (.c (.int .i64 3)))]), none⟩, ⟨some 4, .q (.mv (.c (.slice none 0 0))), none⟩, ⟨none, .e (.st 2 (.t 5) (.t 28)), none⟩]
def c7_13 : SCode := .seq (.region c7_12 [4, 5]) .ret
def c7_14 : SCode := .cond (.t 27) c7_13 .skip
def c7_15 : SCode := .seq (.region c7_11 [1, 2, 5, 27]) c7_14
def c7_16 : List SOper := [⟨some 29, .a (.bsl 0 3 [] []), none⟩, ⟨some 6, .q (.mv (.t 29)), none⟩, ⟨some 7, .q (.mv (.c (.int .i64 0))), none⟩]
def c7_17 : List SOper := [⟨some 30, .q (.mv (.t 1)), none⟩, ⟨some 31, .q (.bin .neq (.t 30) (.c (.string ⟨#[]⟩))), none⟩]
def c7_18 : SCode := .cond (.t 31) .skip (.exit 0)
def c7_19 : SCode := .seq (.region c7_17 [1, 2, 5, 6, 7, 31]) c7_18
def c7_20 : List SOper := [⟨some 33, .q (.mv (.t 1)), none⟩, ⟨some 34, .e (.call 23 [(.t 33), (.c (.string ⟨#[10]⟩))]), none⟩, ⟨some 32, .q (.mv (.t 34)), none⟩, ⟨some 35, .q (.ext (.t 32) 0), none⟩, ⟨some 36, .q (.ext (.t 32) 1), none⟩, ⟨some 37, .q (.ext (.t 32) 2), none⟩, ⟨some 8, .q (.mv (.t 35)), none⟩, ⟨some 9, .q (.mv (.t 36)), none⟩, ⟨some 10, .q (.mv (.t 37)), none⟩]
def c7_21 : List SOper := [⟨some 39, .q (.ldn 3 (.t 2)), none⟩, ⟨some 40, .q (.mv (.t 6)), none⟩, ⟨some 41, .q (.mv (.t 8)), none⟩, ⟨some 42, .e (.call 24 [(.t 39), (.t 40), (.t 41)]), none⟩, ⟨some 38, .q (.mv (.t 42)), none⟩, ⟨some 43, .q (.ext (.t 38) 0), none⟩, ⟨some 44, .q (.ext (.t 38) 1), none⟩, ⟨some 11, .q (.mv (.t 43)), none⟩, ⟨some 12, .q (.mv (.t 44)), none⟩]
def c7_22 : List SOper := [⟨some 45, .q (.mv (.t 12)), none⟩, ⟨some 46, .q (.bin .neq (.t 45) (.c (.int .i64 0))), none⟩]
def c7_23 : List SOper := [⟨some 47, .q (.mv (.t 12)), none⟩, ⟨some 48, .q (.mv (.t 7)), none⟩, ⟨some 49, .q (.build [(.int .i64 0), (.int .i64 0)] [(0, 1, (.t 47)), (1, 1, (.t 48))]), none⟩, ⟨some 4, .q (.mv (.c (.slice none 0 0))), none⟩, ⟨none, .e (.st 2 (.t 5) (.t 49)), none⟩]
def c7_24 : SCode := .seq (.region c7_23 [4, 5]) .ret
def c7_25 : SCode := .cond (.t 46) c7_24 .skip
def c7_26 : SCode := .seq (.region c7_22 [2, 5, 7, 9, 11, 12, 46]) c7_25
def c7_27 : List SOper := [⟨some 50, .q (.mv (.t 11)), none⟩, ⟨some 51, .q (.mv (.t 9)), none⟩, ⟨some 52, .q (.mv (.t 7)), none⟩, ⟨some 53, .q (.bin .add (.t 52) (.c (.int .i64 1))), none⟩, ⟨some 6, .q (.mv (.t 50)), none⟩, ⟨some 1, .q (.mv (.t 51)), none⟩, ⟨some 7, .q (.mv (.t 53)), none⟩]
def c7_28 : SCode := .seq c7_26 (.region c7_27 [1, 2, 5, 6, 7])
def c7_29 : SCode := .seq (.region c7_21 [2, 5, 7, 9, 11, 12]) c7_28
def c7_30 : SCode := .seq (.region c7_20 [2, 5, 6, 7, 8, 9]) c7_29
def c7_31 : SCode := .block 1 c7_30
def c7_32 : SCode := .seq c7_19 c7_31
def c7_33 : SCode := .loop c7_32
def c7_34 : SCode := .block 0 c7_33
def c7_35 : List SOper := [⟨some 54, .q (.mv (.t 6)), none⟩, ⟨some 55, .q (.build [(.int .i64 0), (.int .i64 0)] []), none⟩, ⟨some 4, .q (.mv (.t 54)), none⟩, ⟨none, .e (.st 2 (.t 5) (.t 55)), none⟩]
def c7_36 : SCode := .seq (.region c7_35 [4, 5]) .ret
def c7_37 : SCode := .seq c7_34 c7_36
def c7_38 : SCode := .seq (.region c7_16 [1, 2, 5, 6, 7]) c7_37
def c7_39 : SCode := .seq c7_15 c7_38
def c7_40 : SCode := .seq c7_10 c7_39
def c7_41 : SCode := .seq c7_5 c7_40
def c7_42 : SCode := .seq (.region c7_0 [1, 2, 5]) c7_41
def c7 : SCode := c7_42
theorem w7 : type_of% (And.intro (uR Tryz.prog c7_0.eq_1) (And.intro (uR Tryz.prog c7_1.eq_1) (And.intro (uR Tryz.prog c7_2.eq_1) (And.intro (uC Tryz.prog c7_3.eq_1) (And.intro (uC Tryz.prog c7_4.eq_1) (And.intro (uC Tryz.prog c7_5.eq_1) (And.intro (uR Tryz.prog c7_6.eq_1) (And.intro (uR Tryz.prog c7_7.eq_1) (And.intro (uC Tryz.prog c7_8.eq_1) (And.intro (uC Tryz.prog c7_9.eq_1) (And.intro (uC Tryz.prog c7_10.eq_1) (And.intro (uR Tryz.prog c7_11.eq_1) (And.intro (uR Tryz.prog c7_12.eq_1) (And.intro (uC Tryz.prog c7_13.eq_1) (And.intro (uC Tryz.prog c7_14.eq_1) (And.intro (uC Tryz.prog c7_15.eq_1) (And.intro (uR Tryz.prog c7_16.eq_1) (And.intro (uR Tryz.prog c7_17.eq_1) (And.intro (uC Tryz.prog c7_18.eq_1) (And.intro (uC Tryz.prog c7_19.eq_1) (And.intro (uR Tryz.prog c7_20.eq_1) (And.intro (uR Tryz.prog c7_21.eq_1) (And.intro (uR Tryz.prog c7_22.eq_1) (And.intro (uR Tryz.prog c7_23.eq_1) (And.intro (uC Tryz.prog c7_24.eq_1) (And.intro (uC Tryz.prog c7_25.eq_1) (And.intro (uC Tryz.prog c7_26.eq_1) (And.intro (uR Tryz.prog c7_27.eq_1) (And.intro (uC Tryz.prog c7_28.eq_1) (And.intro (uC Tryz.prog c7_29.eq_1) (And.intro (uC Tryz.prog c7_30.eq_1) (And.intro (uC Tryz.prog c7_31.eq_1) (And.intro (uC Tryz.prog c7_32.eq_1) (And.intro (uC Tryz.prog c7_33.eq_1) (And.intro (uC Tryz.prog c7_34.eq_1) (And.intro (uR Tryz.prog c7_35.eq_1) (And.intro (uC Tryz.prog c7_36.eq_1) (And.intro (uC Tryz.prog c7_37.eq_1) (And.intro (uC Tryz.prog c7_38.eq_1) (And.intro (uC Tryz.prog c7_39.eq_1) (And.intro (uC Tryz.prog c7_40.eq_1) (And.intro (uC Tryz.prog c7_41.eq_1) (And.intro (uC Tryz.prog c7_42.eq_1) (uC Tryz.prog c7.eq_1)))))))))))))))))))))))))))))))))))))))))))) := (And.intro (uR Tryz.prog c7_0.eq_1) (And.intro (uR Tryz.prog c7_1.eq_1) (And.intro (uR Tryz.prog c7_2.eq_1) (And.intro (uC Tryz.prog c7_3.eq_1) (And.intro (uC Tryz.prog c7_4.eq_1) (And.intro (uC Tryz.prog c7_5.eq_1) (And.intro (uR Tryz.prog c7_6.eq_1) (And.intro (uR Tryz.prog c7_7.eq_1) (And.intro (uC Tryz.prog c7_8.eq_1) (And.intro (uC Tryz.prog c7_9.eq_1) (And.intro (uC Tryz.prog c7_10.eq_1) (And.intro (uR Tryz.prog c7_11.eq_1) (And.intro (uR Tryz.prog c7_12.eq_1) (And.intro (uC Tryz.prog c7_13.eq_1) (And.intro (uC Tryz.prog c7_14.eq_1) (And.intro (uC Tryz.prog c7_15.eq_1) (And.intro (uR Tryz.prog c7_16.eq_1) (And.intro (uR Tryz.prog c7_17.eq_1) (And.intro (uC Tryz.prog c7_18.eq_1) (And.intro (uC Tryz.prog c7_19.eq_1) (And.intro (uR Tryz.prog c7_20.eq_1) (And.intro (uR Tryz.prog c7_21.eq_1) (And.intro (uR Tryz.prog c7_22.eq_1) (And.intro (uR Tryz.prog c7_23.eq_1) (And.intro (uC Tryz.prog c7_24.eq_1) (And.intro (uC Tryz.prog c7_25.eq_1) (And.intro (uC Tryz.prog c7_26.eq_1) (And.intro (uR Tryz.prog c7_27.eq_1) (And.intro (uC Tryz.prog c7_28.eq_1) (And.intro (uC Tryz.prog c7_29.eq_1) (And.intro (uC Tryz.prog c7_30.eq_1) (And.intro (uC Tryz.prog c7_31.eq_1) (And.intro (uC Tryz.prog c7_32.eq_1) (And.intro (uC Tryz.prog c7_33.eq_1) (And.intro (uC Tryz.prog c7_34.eq_1) (And.intro (uR Tryz.prog c7_35.eq_1) (And.intro (uC Tryz.prog c7_36.eq_1) (And.intro (uC Tryz.prog c7_37.eq_1) (And.intro (uC Tryz.prog c7_38.eq_1) (And.intro (uC Tryz.prog c7_39.eq_1) (And.intro (uC Tryz.prog c7_40.eq_1) (And.intro (uC Tryz.prog c7_41.eq_1) (And.intro (uC Tryz.prog c7_42.eq_1) (uC Tryz.prog c7.eq_1))))))))))))))))))))))))))))))))))))))))))))
def v7 : List RV := [.t 4, .c 5 (some 2)]
theorem s7 : slimF Tryz.prog Tryz.f7 = some (c7.bare, v7) := by kernel_rfl
/-! 5 loop.example/g00066/spec.ReadList: parameters 2, live [0, 1], slots [0:r, 1:text, 2:r, 3:text, 6:n, 7:out, 8:at, 9:line, 10:from, 11:i, 12:k, 13:code] -/
def c5_0 : List SOper := [⟨some 2, .a (.box (.t 0)), none⟩, ⟨some 4, .q (.mv (.c (.slice none 0 0))), none⟩, ⟨some 5, .a (.new [(.int .i64 0), (.int .i64 0)]), none⟩]
def c5_1 : List SOper := [⟨some 14, .q (.mv (.t 1)), none⟩, ⟨some 15, .q (.lens (.t 14)), none⟩, ⟨some 6, .q (.mv (.t 15)), none⟩]
def c5_2 : List SOper := [⟨some 17, .q (.ldn 3 (.t 2)), none⟩, ⟨some 18, .e (.call 19 [(.t 17)]), none⟩, ⟨some 19, .q (.not (.t 18)), none⟩, ⟨some 16, .q (.mv (.t 19)), none⟩]
def c5_3 : List SOper := [⟨some 20, .a (.bsl 0 3 [] []), none⟩, ⟨some 21, .q (.build [(.int .i64 0), (.int .i64 0)] [(0, 1, (.c (.int .i64 1)))]), none⟩, ⟨some 4, .q (.mv (.t 20)), none⟩, ⟨none, .e (.st 2 (.t 5) (.t 21)), none⟩]
def c5_4 : SCode := .seq (.region c5_3 [4, 5]) .ret
def c5_5 : List SOper := [⟨some 23, .q (.mv (.t 6)), none⟩, ⟨some 24, .q (.bin .gtr (.t 23) (.c (.int .i64 20000))), none⟩, ⟨some 22, .q (.mv (.t 24)), none⟩]
def c5_6 : List SOper := [⟨some 25, .a (.bsl 0 3 [] []), none⟩, ⟨some 26, .q (.build [(.int .i64 0), (.int .i64 0)] [(0, 1, (.c (.int .i64 2)))]), none⟩, ⟨some 4, .q (.mv (.t 25)), none⟩, ⟨none, .e (.st 2 (.t 5) (.t 26)), none⟩]
def c5_7 : SCode := .seq (.region c5_6 [4, 5]) .ret
def c5_8 : List SOper := [⟨some 28, .q (.mv (.t 6)), none⟩, ⟨some 29, .q (.bin .gtr (.t 28) (.c (.int .i64 0))), none⟩, ⟨some 30, .q (.mv (.t 29)), none⟩, ⟨some 31, .q (.mv (.t 1)), some (30, true)⟩, ⟨some 32, .q (.mv (.t 6)), some (30, true)⟩, ⟨some 33, .q (.bin .sub (.t 32) (.c (.int .i64 1))), some (30, true)⟩, ⟨some 34, .q (.ivs (.t 31) (.t 33)), some (30, true)⟩, ⟨some 35, .q (.bin .neq (.t 34) (.c (.int .u8 10))), some (30, true)⟩, ⟨some 36, .q (.pick (.t 30) (.t 35) (.c (.bool false))), none⟩, ⟨some 27, .q (.mv (.t 36)), none⟩]
def c5_9 : List SOper := [⟨some 37, .a (.bsl 0 3 [] []), none⟩, ⟨some 38, .q (.build [(.int .i64 0), (.int .i64 0)] [(0, 1, (.c (.int .i64 3)))]), none⟩, ⟨some 4, .q (.mv (.t 37)), none⟩, ⟨none, .e (.st 2 (.t 5) (.t 38)), none⟩]
def c5_10 : SCode := .seq (.region c5_9 [4, 5]) .ret
def c5_11 : SCode := .cond (.t 27) c5_10 .skip
def c5_12 : SCode := .seq (.region c5_8 [1, 2, 5, 6, 27]) c5_11
def c5_13 : SCode := .cond (.t 22) c5_7 c5_12
def c5_14 : SCode := .seq (.region c5_5 [1, 2, 5, 6, 22]) c5_13
def c5_15 : SCode := .cond (.t 16) c5_4 c5_14
def c5_16 : SCode := .seq (.region c5_2 [1, 2, 5, 6, 16]) c5_15
def c5_17 : SCode := .block 0 c5_16
def c5_18 : List SOper := [⟨some 39, .a (.bsl 0 3 [] []), none⟩, ⟨some 7, .q (.mv (.t 39)), none⟩]
def c5_19 : List SOper := [⟨some 8, .q (.mv (.c (.int .i64 0))), none⟩]
def c5_20 : List SOper := [⟨some 9, .q (.mv (.c (.int .i64 0))), none⟩]
def c5_21 : List SOper := [⟨some 10, .q (.mv (.c (.int .i64 0))), none⟩]
def c5_22 : List SOper := [⟨some 11, .q (.mv (.c (.int .i64 0))), none⟩]
def c5_23 : List SOper := [⟨some 40, .q (.mv (.t 11)), none⟩, ⟨some 41, .q (.mv (.t 6)), none⟩, ⟨some 42, .q (.bin .lss (.t 40) (.t 41)), none⟩]
def c5_24 : SCode := .cond (.t 42) .skip (.exit 1)
def c5_25 : SCode := .seq (.region c5_23 [1, 2, 5, 6, 7, 8, 9, 10, 11, 42]) c5_24
def c5_26 : List SOper := [⟨some 45, .q (.mv (.t 1)), none⟩, ⟨some 46, .q (.mv (.t 11)), none⟩, ⟨some 47, .q (.ivs (.t 45) (.t 46)), none⟩, ⟨some 48, .q (.bin .neq (.t 47) (.c (.int .u8 10))), none⟩]
def c5_27 : SCode := .cond (.t 48) (.exit 2) .skip
def c5_28 : SCode := .seq (.region c5_26 [1, 2, 5, 6, 7, 8, 9, 10, 11, 48]) c5_27
def c5_29 : List SOper := [⟨some 50, .q (.ldn 3 (.t 2)), none⟩, ⟨some 51, .q (.mv (.t 1)), none⟩, ⟨some 52, .q (.mv (.t 10)), none⟩, ⟨some 53, .q (.mv (.t 11)), none⟩, ⟨some 54, .q (.sls (.t 51) (some (.t 52)) (some (.t 53))), none⟩, ⟨some 55, .q (.mv (.t 9)), none⟩, ⟨some 56, .q (.bin .add (.t 55) (.c (.int .i64 1))), none⟩, ⟨some 57, .q (.mv (.t 7)), none⟩, ⟨some 58, .q (.mv (.t 8)), none⟩, ⟨some 12, .a (.new [(.int .i64 0), (.int .i64 0), (.int .i64 0)]), none⟩, ⟨some 59, .e (.call 20 [(.t 50), (.t 54), (.t 56), (.t 57), (.t 58)]), none⟩, ⟨some 49, .q (.mv (.t 59)), none⟩, ⟨some 60, .q (.ext (.t 49) 0), none⟩, ⟨some 61, .q (.ext (.t 49) 1), none⟩, ⟨none, .e (.st 3 (.t 12) (.t 60)), none⟩, ⟨some 13, .q (.mv (.t 61)), none⟩]
def c5_30 : List SOper := [⟨some 62, .q (.mv (.t 13)), none⟩, ⟨some 63, .q (.bin .neq (.t 62) (.c (.int .i64 0))), none⟩]
def c5_31 : List SOper := [⟨some 64, .a (.bsl 0 3 [] []), none⟩, ⟨some 65, .q (.mv (.t 13)), none⟩, ⟨some 66, .q (.mv (.t 9)), none⟩, ⟨some 67, .q (.build [(.int .i64 0), (.int .i64 0)] [(0, 1, (.t 65)), (1, 1, (.t 66))]), none⟩, ⟨some 4, .q (.mv (.t 64)), none⟩, ⟨none, .e (.st 2 (.t 5) (.t 67)), none⟩]
def c5_32 : SCode := .seq (.region c5_31 [4, 5]) .ret
def c5_33 : SCode := .cond (.t 63) c5_32 .skip
def c5_34 : SCode := .seq (.region c5_30 [1, 2, 5, 6, 7, 8, 9, 11, 12, 13, 63]) c5_33
def c5_35 : List SOper := [⟨some 68, .q (.mv (.t 7)), none⟩, ⟨some 69, .q (.ldn 3 (.t 12)), none⟩, ⟨some 70, .a (.bsl 1 3 [(.int .i64 0), (.int .i64 0), (.int .i64 0)] [(0, 3, (.t 69))]), none⟩, ⟨some 71, .e (.app 24 3 (.t 68) (.t 70)), none⟩, ⟨some 7, .q (.mv (.t 71)), none⟩]
def c5_36 : List SOper := [⟨some 72, .q (.mv (.t 8)), none⟩, ⟨some 73, .q (.fa 2 (.t 12)), none⟩, ⟨some 74, .q (.ld (.t 73)), none⟩, ⟨some 75, .q (.bin .add (.t 72) (.t 74)), none⟩, ⟨some 8, .q (.mv (.t 75)), none⟩]
def c5_37 : List SOper := [⟨some 76, .q (.mv (.t 9)), none⟩, ⟨some 77, .q (.bin .add (.t 76) (.c (.int .i64 1))), none⟩, ⟨some 9, .q (.mv (.t 77)), none⟩]
def c5_38 : List SOper := [⟨some 78, .q (.mv (.t 11)), none⟩, ⟨some 79, .q (.bin .add (.t 78) (.c (.int .i64 1))), none⟩, ⟨some 10, .q (.mv (.t 79)), none⟩]
def c5_39 : SCode := .seq (.region c5_37 [1, 2, 5, 6, 7, 8, 9, 11]) (.region c5_38 [1, 2, 5, 6, 7, 8, 9, 10, 11])
def c5_40 : SCode := .seq (.region c5_36 [1, 2, 5, 6, 7, 8, 9, 11]) c5_39
def c5_41 : SCode := .seq (.region c5_35 [1, 2, 5, 6, 7, 8, 9, 11, 12]) c5_40
def c5_42 : SCode := .seq c5_34 c5_41
def c5_43 : SCode := .seq (.region c5_29 [1, 2, 5, 6, 7, 8, 9, 11, 12, 13]) c5_42
def c5_44 : SCode := .seq c5_28 c5_43
def c5_45 : SCode := .block 2 c5_44
def c5_46 : List SOper := [⟨some 43, .q (.mv (.t 11)), none⟩, ⟨some 44, .q (.bin .add (.t 43) (.c (.int .i64 1))), none⟩, ⟨some 11, .q (.mv (.t 44)), none⟩]
def c5_47 : SCode := .seq c5_45 (.region c5_46 [1, 2, 5, 6, 7, 8, 9, 10, 11])
def c5_48 : SCode := .seq c5_25 c5_47
def c5_49 : SCode := .loop c5_48
def c5_50 : SCode := .block 1 c5_49
def c5_51 : SCode := .seq (.region c5_22 [1, 2, 5, 6, 7, 8, 9, 10, 11]) c5_50
def c5_52 : List SOper := [⟨some 80, .q (.mv (.t 7)), none⟩, ⟨some 81, .q (.build [(.int .i64 0), (.int .i64 0)] []), none⟩, ⟨some 4, .q (.mv (.t 80)), none⟩, ⟨none, .e (.st 2 (.t 5) (.t 81)), none⟩]
def c5_53 : SCode := .seq (.region c5_52 [4, 5]) .ret
def c5_54 : SCode := .seq c5_51 c5_53
def c5_55 : SCode := .seq (.region c5_21 [1, 2, 5, 6, 7, 8, 9, 10]) c5_54
def c5_56 : SCode := .seq (.region c5_20 [1, 2, 5, 6, 7, 8, 9]) c5_55
def c5_57 : SCode := .seq (.region c5_19 [1, 2, 5, 6, 7, 8]) c5_56
def c5_58 : SCode := .seq (.region c5_18 [1, 2, 5, 6, 7]) c5_57
def c5_59 : SCode := .seq c5_17 c5_58
def c5_60 : SCode := .seq (.region c5_1 [1, 2, 5, 6]) c5_59
def c5_61 : SCode := .seq (.region c5_0 [1, 2, 5]) c5_60
def c5 : SCode := c5_61
theorem w5 : type_of% (And.intro (uR Tryz.prog c5_0.eq_1) (And.intro (uR Tryz.prog c5_1.eq_1) (And.intro (uR Tryz.prog c5_2.eq_1) (And.intro (uR Tryz.prog c5_3.eq_1) (And.intro (uC Tryz.prog c5_4.eq_1) (And.intro (uR Tryz.prog c5_5.eq_1) (And.intro (uR Tryz.prog c5_6.eq_1) (And.intro (uC Tryz.prog c5_7.eq_1) (And.intro (uR Tryz.prog c5_8.eq_1) (And.intro (uR Tryz.prog c5_9.eq_1) (And.intro (uC Tryz.prog c5_10.eq_1) (And.intro (uC Tryz.prog c5_11.eq_1) (And.intro (uC Tryz.prog c5_12.eq_1) (And.intro (uC Tryz.prog c5_13.eq_1) (And.intro (uC Tryz.prog c5_14.eq_1) (And.intro (uC Tryz.prog c5_15.eq_1) (And.intro (uC Tryz.prog c5_16.eq_1) (And.intro (uC Tryz.prog c5_17.eq_1) (And.intro (uR Tryz.prog c5_18.eq_1) (And.intro (uR Tryz.prog c5_19.eq_1) (And.intro (uR Tryz.prog c5_20.eq_1) (And.intro (uR Tryz.prog c5_21.eq_1) (And.intro (uR Tryz.prog c5_22.eq_1) (And.intro (uR Tryz.prog c5_23.eq_1) (And.intro (uC Tryz.prog c5_24.eq_1) (And.intro (uC Tryz.prog c5_25.eq_1) (And.intro (uR Tryz.prog c5_26.eq_1) (And.intro (uC Tryz.prog c5_27.eq_1) (And.intro (uC Tryz.prog c5_28.eq_1) (And.intro (uR Tryz.prog c5_29.eq_1) (And.intro (uR Tryz.prog c5_30.eq_1) (And.intro (uR Tryz.prog c5_31.eq_1) (And.intro (uC Tryz.prog c5_32.eq_1) (And.intro (uC Tryz.prog c5_33.eq_1) (And.intro (uC Tryz.prog c5_34.eq_1) (And.intro (uR Tryz.prog c5_35.eq_1) (And.intro (uR Tryz.prog c5_36.eq_1) (And.intro (uR Tryz.prog c5_37.eq_1) (And.intro (uR Tryz.prog c5_38.eq_1) (And.intro (uC Tryz.prog c5_39.eq_1) (And.intro (uC Tryz.prog c5_40.eq_1) (And.intro (uC Tryz.prog c5_41.eq_1) (And.intro (uC Tryz.prog c5_42.eq_1) (And.intro (uC Tryz.prog c5_43.eq_1) (And.intro (uC Tryz.prog c5_44.eq_1) (And.intro (uC Tryz.prog c5_45.eq_1) (And.intro (uR Tryz.prog c5_46.eq_1) (And.intro (uC Tryz.prog c5_47.eq_1) (And.intro (uC Tryz.prog c5_48.eq_1) (And.intro (uC Tryz.prog c5_49.eq_1) (And.intro (uC Tryz.prog c5_50.eq_1) (And.intro (uC Tryz.prog c5_51.eq_1) (And.intro (uR Tryz.prog c5_52.eq_1) (And.intro (uC Tryz.prog c5_53.eq_1) (And.intro (uC Tryz.prog c5_54.eq_1) (And.intro (uC Tryz.prog c5_55.eq_1) (And.intro (uC Tryz.prog c5_56.eq_1) (And.intro (uC Tryz.prog c5_57.eq_1) (And.intro (uC Tryz.prog c5_58.eq_1) (And.intro (uC Tryz.prog c5_59.eq_1) (And.intro (uC Tryz.prog c5_60.eq_1) (And.intro (uC Tryz.prog c5_61.eq_1) (uC Tryz.prog c5.eq_1))))))))))))))))))))))))))))))))))))))))))))))))))))))))))))))) := (And.intro (uR Tryz.prog c5_0.eq_1) (And.intro (uR Tryz.prog c5_1.eq_1) (And.intro (uR Tryz.prog c5_2.eq_1) (And.intro (uR Tryz.prog c5_3.eq_1) (And.intro (uC Tryz.prog c5_4.eq_1) (And.intro (uR Tryz.prog c5_5.eq_1) (And.intro (uR Tryz.prog c5_6.eq_1) (And.intro (uC Tryz.prog c5_7.eq_1) (And.intro (uR Tryz.prog c5_8.eq_1) (And.intro (uR Tryz.prog c5_9.eq_1) (And.intro (uC Tryz.prog c5_10.eq_1) (And.intro (uC Tryz.prog c5_11.eq_1) (And.intro (uC Tryz.prog c5_12.eq_1) (And.intro (uC Tryz.prog c5_13.eq_1) (And.intro (uC Tryz.prog c5_14.eq_1) (And.intro (uC Tryz.prog c5_15.eq_1) (And.intro (uC Tryz.prog c5_16.eq_1) (And.intro (uC Tryz.prog c5_17.eq_1) (And.intro (uR Tryz.prog c5_18.eq_1) (And.intro (uR Tryz.prog c5_19.eq_1) (And.intro (uR Tryz.prog c5_20.eq_1) (And.intro (uR Tryz.prog c5_21.eq_1) (And.intro (uR Tryz.prog c5_22.eq_1) (And.intro (uR Tryz.prog c5_23.eq_1) (And.intro (uC Tryz.prog c5_24.eq_1) (And.intro (uC Tryz.prog c5_25.eq_1) (And.intro (uR Tryz.prog c5_26.eq_1) (And.intro (uC Tryz.prog c5_27.eq_1) (And.intro (uC Tryz.prog c5_28.eq_1) (And.intro (uR Tryz.prog c5_29.eq_1) (And.intro (uR Tryz.prog c5_30.eq_1) (And.intro (uR Tryz.prog c5_31.eq_1) (And.intro (uC Tryz.prog c5_32.eq_1) (And.intro (uC Tryz.prog c5_33.eq_1) (And.intro (uC Tryz.prog c5_34.eq_1) (And.intro (uR Tryz.prog c5_35.eq_1) (And.intro (uR Tryz.prog c5_36.eq_1) (And.intro (uR Tryz.prog c5_37.eq_1) (And.intro (uR Tryz.prog c5_38.eq_1) (And.intro (uC Tryz.prog c5_39.eq_1) (And.intro (uC Tryz.prog c5_40.eq_1) (And.intro (uC Tryz.prog c5_41.eq_1) (And.intro (uC Tryz.prog c5_42.eq_1) (And.intro (uC Tryz.prog c5_43.eq_1) (And.intro (uC Tryz.prog c5_44.eq_1) (And.intro (uC Tryz.prog c5_45.eq_1) (And.intro (uR Tryz.prog c5_46.eq_1) (And.intro (uC Tryz.prog c5_47.eq_1) (And.intro (uC Tryz.prog c5_48.eq_1) (And.intro (uC Tryz.prog c5_49.eq_1) (And.intro (uC Tryz.prog c5_50.eq_1) (And.intro (uC Tryz.prog c5_51.eq_1) (And.intro (uR Tryz.prog c5_52.eq_1) (And.intro (uC Tryz.prog c5_53.eq_1) (And.intro (uC Tryz.prog c5_54.eq_1) (And.intro (uC Tryz.prog c5_55.eq_1) (And.intro (uC Tryz.prog c5_56.eq_1) (And.intro (uC Tryz.prog c5_57.eq_1) (And.intro (uC Tryz.prog c5_58.eq_1) (And.intro (uC Tryz.prog c5_59.eq_1) (And.intro (uC Tryz.prog c5_60.eq_1) (And.intro (uC Tryz.prog c5_61.eq_1) (uC Tryz.prog c5.eq_1)))))))))))))))))))))))))))))))))))))))))))))))))))))))))))))))
def v5 : List RV := [.t 4, .c 5 (some 2)]
theorem s5 : slimF Tryz.prog Tryz.f5 = some (c5.bare, v5) := by kernel_rfl

theorem ownT_fresh {α : Type} {enc : α → List Value} {sz g : Nat} {h h' : Heap} {v : Value} {l : List α} (o : OwnT g h' enc sz v l) (e : Ext h h') (hg : h.size ≤ g) : Fresh h h' enc sz v l := ⟨e, g, hg, o⟩
theorem put_two {K : Heap} {i : Nat} {a b : Int} (B : Bx K i [.int .i64 a, .int .i64 b]) (c d : Int) :
    ∃ K', stV K 2 (.pointer (some ⟨i, 0, none⟩)) (.agg #[.int .i64 c, .int .i64 d]) = some K' ∧ Bx K' i [.int .i64 c, .int .i64 d] ∧ ExtG i K K' := by
  obtain ⟨K', e, B', G⟩ := B.put (o := 0) (n := 2) (y := .agg #[.int .i64 c, .int .i64 d]) rfl (by simp) rfl
  exact ⟨K', e, B', G⟩
theorem ReadList_ok (h : Heap) (r : Rate) (x : List UInt8) (hl : x.length ≤ 9223372036854775807) :
    ACall Tryz.prog 7 [.agg (encRate r).toArray, .string (bL x)] h
      fun y h' => ∃ u : Value, y = .tuple #[u, .agg #[.int .i64 (readL r x).2.1, .int .i64 (readL r x).2.2]] ∧ Fresh h h' encClip 3 u (readL r x).1 := by
  have hsz : (bL x).size = x.length := bL_size x
  have BR := Bx.new h (encRate r) [[.int .i64 0, .int .i64 0]]
  have BF := Bx.new (h.more [encRate r]) [.int .i64 0, .int .i64 0] []
  rw [more_more, size_more] at BF
  have eM := Ext.more h [encRate r, [.int .i64 0, .int .i64 0]]
  have rk := RateOk_ok (h.more [encRate r, [.int .i64 0, .int .i64 0]]) r
  simp only [encRate, List.cons_append, List.nil_append, List.length_cons, List.length_nil, Nat.zero_add] at BR BF eM rk
  refine ACall.of Tryz.func7 s7 (of_decide_eq_true rfl) ?_
  simp (maxSteps := 4000000) (disch := omega) only [ah, am, Nat.reduceEqDiff, reduceCtorEq, Nat.reduceAdd, Nat.reduceLeDiff, Nat.reduceMul, Nat.reduceLT, if_true, if_false, true_and, and_true, and_self, Nat.reduceBEq, QOp.loads, boxO, bslO, buildO, cutL, fillV, putL, w7, v7, encRate]
  obtain ⟨h1, hh1⟩ : ∃ h1, h1 = h.more [[Value.int IntKind.i64 r.num, Value.int IntKind.i64 r.den, Value.bool r.drop], [Value.int IntKind.i64 0, Value.int IntKind.i64 0]] := ⟨_, rfl⟩
  rw [← hh1] at BR BF eM rk ⊢
  obtain ⟨rb, hrb⟩ : ∃ q, q = h.size := ⟨_, rfl⟩
  obtain ⟨fb, hfb⟩ : ∃ q, q = h.size + 1 := ⟨_, rfl⟩
  rw [← hfb] at BF ⊢
  rw [← hrb] at BR ⊢
  have hge : h.size ≤ fb := by omega
  have hrf : rb ≠ fb := by omega
  clear hh1
  refine stepC.of rk ?_
  rintro _ H1 ⟨e1, rfl⟩
  have E1 := eM.trans e1
  have BR := BR.ext e1
  have BF := BF.ext e1
  have bad : ∀ (K : Heap) (e : Ext h K) (B : Bx K fb [.int .i64 0, .int .i64 0]) (c d : Int), readL r x = ([], c, d) → ∃ K', stV K 2 (.pointer (some ⟨fb, 0, none⟩)) (.agg #[.int .i64 c, .int .i64 d]) = some K' ∧
      (∀ o m, ldnV K' m (.pointer (some ⟨fb, o, none⟩)) = cutL [.int .i64 c, .int .i64 d] o m) ∧
      (∃ u : Value, (.tuple #[.slice none 0 0, .agg #[.int .i64 c, .int .i64 d]] : Value) = .tuple #[u, .agg #[.int .i64 (readL r x).2.1, .int .i64 (readL r x).2.2]] ∧ Fresh h K' encClip 3 u (readL r x).1) := by
    intro K e B c d hz
    obtain ⟨K', e1, B', G⟩ := put_two B c d
    refine ⟨K', e1, B'.ld.2, .slice none 0 0, by rw [hz], ?_⟩
    rw [hz]
    exact ownT_fresh (OwnT.nil h.size K' encClip_len (by omega)) (G.ext e hge) (Nat.le_refl _)
  by_cases cr : rateOk r
  rotate_left
  · obtain ⟨K', x1, x2, fin⟩ := bad H1 E1 BF 1 0 (readL_rate cr)
    simp (maxSteps := 4000000) (disch := omega) only [ah, am, Nat.reduceEqDiff, reduceCtorEq, Nat.reduceAdd, Nat.reduceLeDiff, Nat.reduceMul, Nat.reduceLT, if_true, if_false, true_and, and_true, and_self, Nat.reduceBEq, QOp.loads, boxO, bslO, buildO, cutL, fillV, putL, w7, v7, decide_eq_false cr, x1, x2]
    exact fin
  by_cases cl : 20000 < x.length
  · obtain ⟨K', x1, x2, fin⟩ := bad H1 E1 BF 2 0 (readL_long cr cl)
    simp (maxSteps := 4000000) (disch := omega) only [ah, am, Nat.reduceEqDiff, reduceCtorEq, Nat.reduceAdd, Nat.reduceLeDiff, Nat.reduceMul, Nat.reduceLT, if_true, if_false, true_and, and_true, and_self, Nat.reduceBEq, QOp.loads, boxO, bslO, buildO, cutL, fillV, putL, w7, v7, decide_eq_true cr, hsz, decide_eq_true (show (20000 : Int) < (x.length : Int) by omega), x1, x2]
    exact fin
  have cl' : decide ((20000 : Int) < (x.length : Int)) = false := decide_eq_false (by omega)
  have N0 : ∀ y : List UInt8, strB .neq (bL y) ⟨#[]⟩ = some (.bool (!decide (y = []))) := fun y => strB_neq _ _
  have start : ∀ R : Env, endsNl x → SW Tryz.prog c7_38 (retQ v7 fun y h' => ∃ u : Value, y = .tuple #[u, .agg #[.int .i64 (readL r x).2.1, .int .i64 (readL r x).2.2]] ∧ Fresh h h' encClip 3 u (readL r x).1)
      ((1, .string (bL x)) :: (2, .pointer (some ⟨rb, 0, none⟩)) :: (5, .pointer (some ⟨fb, 0, none⟩)) :: R) H1 := by
    intro R en
    have F0 := Full.new0 H1 encClip_len (by omega)
    have eT := Ext.more H1 [[]]
    obtain ⟨g, hg⟩ : ∃ g, g = H1.size := ⟨_, rfl⟩
    have hgf : fb ≠ g := by have := Heap.get_lt BF; omega
    have hgr : rb ≠ g := by have := Heap.get_lt BR; omega
    have hgh : h.size ≤ g := by have := E1.1; omega
    simp (maxSteps := 4000000) (disch := omega) only [ah, am, Nat.reduceEqDiff, reduceCtorEq, Nat.reduceAdd, Nat.reduceLeDiff, Nat.reduceMul, Nat.reduceLT, if_true, if_false, true_and, and_true, and_self, Nat.reduceBEq, QOp.loads, boxO, bslO, buildO, cutL, fillV, putL, w7, v7]
    obtain ⟨H2, hH2⟩ : ∃ H2, H2 = H1.more [[]] := ⟨_, rfl⟩
    rw [← hH2] at F0 eT ⊢
    rw [← hg] at F0 ⊢
    have E2 := E1.trans eT
    have BR := BR.ext eT
    have BF := BF.ext eT
    have go := readL_go cr cl en
    refine SW_loop_up (fun n E K => ∃ y v t, endsNl y ∧ n + y.length ≤ x.length ∧ readG r (lin y) n t = readL r x ∧ keeps t ∧ ExtG g H2 K ∧ Full g K encClip 3 v t ∧
      E = [(1, .string (bL y)), (2, .pointer (some ⟨rb, 0, none⟩)), (5, .pointer (some ⟨fb, 0, none⟩)), (6, v), (7, .int .i64 (n : Int))]) x.length 0 (by omega)
      ⟨x, _, [], en, by omega, go.symm, keeps_nil, ExtG.refl _ _, F0, rfl⟩ ?_
    clear F0
    rintro n E K hn ⟨y, v, t, ye, yl, yr, kp, G, F, rfl⟩
    have wn : IntKind.i64.wrap ((n : Int) + 1) = ((n + 1 : Nat) : Int) := i64e (by omega) (by omega)
    have EK : Ext h K := G.ext E2 hgh
    have BRK := BR.step G hgr
    have BFK := BF.step G hgf
    by_cases y0 : y = []
    · subst y0
      have hz : readL r x = (t, 0, 0) := yr.symm
      obtain ⟨K', x1, B', G'⟩ := put_two BFK 0 0
      simp (maxSteps := 4000000) (disch := omega) only [ah, am, Nat.reduceEqDiff, reduceCtorEq, Nat.reduceAdd, Nat.reduceLeDiff, Nat.reduceMul, Nat.reduceLT, if_true, if_false, true_and, and_true, and_self, Nat.reduceBEq, QOp.loads, boxO, bslO, buildO, cutL, fillV, putL, w7, v7, N0, decide_eq_true rfl, Bool.not_true, x1, B'.ld]
      refine ⟨v, by rw [hz], ?_⟩
      rw [hz]
      exact ownT_fresh (F.extG G' (Ne.symm hgf)).ownT (G'.ext EK hge) hgh
    obtain ⟨p, q, rfl, hp⟩ := first_nl y (endsNl_mem ye y0)
    have lp : (p ++ 10 :: q).length = p.length + q.length + 1 := by simp; omega
    rw [lin_app q p hp] at yr
    have CT := Cut_ok K (bL (p ++ 10 :: q)) (by rw [bL_size]; omega)
    rw [bL_data, cut_app hp] at CT
    have rl := readLine_ok K g r p v t F kp (by omega)
    simp only [encRate] at rl
    simp (maxSteps := 4000000) (disch := omega) only [ah, am, Nat.reduceEqDiff, reduceCtorEq, Nat.reduceAdd, Nat.reduceLeDiff, Nat.reduceMul, Nat.reduceLT, if_true, if_false, true_and, and_true, and_self, Nat.reduceBEq, QOp.loads, boxO, bslO, buildO, cutL, fillV, putL, w7, v7, N0, decide_eq_false y0, Bool.not_false]
    refine stepC.of CT ?_
    rintro _ Hx ⟨hx, rfl⟩; rw [hx]; clear hx Hx
    simp (maxSteps := 4000000) (disch := omega) only [ah, am, Nat.reduceEqDiff, reduceCtorEq, Nat.reduceAdd, Nat.reduceLeDiff, Nat.reduceMul, Nat.reduceLT, if_true, if_false, true_and, and_true, and_self, Nat.reduceBEq, QOp.loads, boxO, bslO, buildO, cutL, fillV, putL, w7, v7, BRK.ld]
    refine stepC.of rl ?_
    rintro _ K2 ⟨G2, u, rfl, hu⟩
    have G3 := G.trans G2
    have EK2 : Ext h K2 := G3.ext E2 hgh
    by_cases cz : lnCode r t p = 0
    · rw [readG_good cz] at yr
      simp (maxSteps := 4000000) (disch := omega) only [ah, am, Nat.reduceEqDiff, reduceCtorEq, Nat.reduceAdd, Nat.reduceLeDiff, Nat.reduceMul, Nat.reduceLT, if_true, if_false, true_and, and_true, and_self, Nat.reduceBEq, QOp.loads, boxO, bslO, buildO, cutL, fillV, putL, w7, v7, decide_eq_true cz, wn]
      exact ⟨by omega, q, u, _, endsNl_rest ye, by omega, yr, keeps_step kp cz, G3, hu cz, rfl⟩
    · rw [readG_bad cz] at yr
      obtain ⟨K', x1, x2, fin⟩ := bad K2 EK2 (BF.step G3 hgf) _ _ yr.symm
      simp (maxSteps := 4000000) (disch := omega) only [ah, am, Nat.reduceEqDiff, reduceCtorEq, Nat.reduceAdd, Nat.reduceLeDiff, Nat.reduceMul, Nat.reduceLT, if_true, if_false, true_and, and_true, and_self, Nat.reduceBEq, QOp.loads, boxO, bslO, buildO, cutL, fillV, putL, w7, v7, decide_eq_false cz, x1, x2]
      exact fin
  rw [c7_40.eq_1, c7_39.eq_1]
  generalize c7_38 = fc at start ⊢
  by_cases x0 : x = []
  · simp (maxSteps := 4000000) (disch := omega) only [ah, am, Nat.reduceEqDiff, reduceCtorEq, Nat.reduceAdd, Nat.reduceLeDiff, Nat.reduceMul, Nat.reduceLT, if_true, if_false, true_and, and_true, and_self, Nat.reduceBEq, QOp.loads, boxO, bslO, buildO, cutL, fillV, putL, w7, v7, decide_eq_true cr, hsz, cl', N0, decide_eq_true x0, Bool.not_true]
    exact start _ (.inl x0)
  simp (maxSteps := 4000000) (disch := omega) only [ah, am, Nat.reduceEqDiff, reduceCtorEq, Nat.reduceAdd, Nat.reduceLeDiff, Nat.reduceMul, Nat.reduceLT, if_true, if_false, true_and, and_true, and_self, Nat.reduceBEq, QOp.loads, boxO, bslO, buildO, cutL, fillV, putL, w7, v7, decide_eq_true cr, hsz, cl', N0, decide_eq_false x0, Bool.not_false]
  refine stepC.of (HasSuffix_ok H1 x 10 (by omega)) ?_
  rintro _ Hx ⟨hx, rfl⟩; rw [hx]; clear hx Hx
  by_cases ce : x.getLast? = some 10
  · simp (maxSteps := 4000000) (disch := omega) only [ah, am, Nat.reduceEqDiff, reduceCtorEq, Nat.reduceAdd, Nat.reduceLeDiff, Nat.reduceMul, Nat.reduceLT, if_true, if_false, true_and, and_true, and_self, Nat.reduceBEq, QOp.loads, boxO, bslO, buildO, cutL, fillV, putL, w7, v7, decide_eq_true ce]
    exact start _ (.inr ce)
  · obtain ⟨K', x1, x2, fin⟩ := bad H1 E1 BF 3 0 (readL_end cr cl (fun q => q.elim x0 ce))
    simp (maxSteps := 4000000) (disch := omega) only [ah, am, Nat.reduceEqDiff, reduceCtorEq, Nat.reduceAdd, Nat.reduceLeDiff, Nat.reduceMul, Nat.reduceLT, if_true, if_false, true_and, and_true, and_self, Nat.reduceBEq, QOp.loads, boxO, bslO, buildO, cutL, fillV, putL, w7, v7, decide_eq_false ce, x1, x2]
    exact fin
theorem last_get (x : List UInt8) (h : 0 < x.length) : x.getLast? = some 10 ↔ (x[x.length - 1].toNat : Int) = 10 := by
  rw [List.getLast?_eq_getElem?, List.getElem?_eq_getElem (by omega), Option.some.injEq]
  refine ⟨fun q => by rw [q]; rfl, fun q => UInt8.toNat_inj.mp (by have : (10 : UInt8).toNat = 10 := rfl; omega)⟩
theorem specReadList_ok (h : Heap) (r : Rate) (x : List UInt8) (hl : x.length ≤ 9223372036854775807) :
    ACall Tryz.prog 5 [.agg (encRate r).toArray, .string (bL x)] h
      fun y h' => ∃ u : Value, y = .tuple #[u, .agg #[.int .i64 (readL r x).2.1, .int .i64 (readL r x).2.2]] ∧ Fresh h h' encClip 3 u (readL r x).1 := by
  have hsz : (bL x).size = x.length := bL_size x
  have BR := Bx.new h (encRate r) [[.int .i64 0, .int .i64 0]]
  have BF := Bx.new (h.more [encRate r]) [.int .i64 0, .int .i64 0] []
  rw [more_more, size_more] at BF
  have eM := Ext.more h [encRate r, [.int .i64 0, .int .i64 0]]
  have rk := specRateOk_ok (h.more [encRate r, [.int .i64 0, .int .i64 0]]) r
  simp only [encRate, List.cons_append, List.nil_append, List.length_cons, List.length_nil, Nat.zero_add] at BR BF eM rk
  refine ACall.of Tryz.func5 s5 (of_decide_eq_true rfl) ?_
  simp (maxSteps := 4000000) (disch := omega) only [ah, am, Nat.reduceEqDiff, reduceCtorEq, Nat.reduceAdd, Nat.reduceLeDiff, Nat.reduceMul, Nat.reduceLT, if_true, if_false, true_and, and_true, and_self, Nat.reduceBEq, QOp.loads, boxO, bslO, buildO, cutL, fillV, putL, w5, v5, encRate, hsz]
  obtain ⟨h1, hh1⟩ : ∃ h1, h1 = h.more [[Value.int IntKind.i64 r.num, Value.int IntKind.i64 r.den, Value.bool r.drop], [Value.int IntKind.i64 0, Value.int IntKind.i64 0]] := ⟨_, rfl⟩
  rw [← hh1] at BR BF eM rk ⊢
  obtain ⟨rb, hrb⟩ : ∃ q, q = h.size := ⟨_, rfl⟩
  obtain ⟨fb, hfb⟩ : ∃ q, q = h.size + 1 := ⟨_, rfl⟩
  rw [← hfb] at BF ⊢
  rw [← hrb] at BR ⊢
  have hge : h.size ≤ fb := by omega
  have hrf : rb ≠ fb := by omega
  clear hh1
  refine stepC.of rk ?_
  rintro _ H1 ⟨e1, rfl⟩
  have E1 := eM.trans e1
  have BR := BR.ext e1
  have BF := BF.ext e1
  have bad : ∀ (K : Heap) (e : Ext h K) (B : Bx K fb [.int .i64 0, .int .i64 0]) (c d : Int), readL r x = ([], c, d) → ∃ K', stV (K.more [[]]) 2 (.pointer (some ⟨fb, 0, none⟩)) (.agg #[.int .i64 c, .int .i64 d]) = some K' ∧
      (∀ o m, ldnV K' m (.pointer (some ⟨fb, o, none⟩)) = cutL [.int .i64 c, .int .i64 d] o m) ∧
      (∃ u : Value, (.tuple #[.slice (some ⟨K.size, 0, none⟩) 0 3, .agg #[.int .i64 c, .int .i64 d]] : Value) = .tuple #[u, .agg #[.int .i64 (readL r x).2.1, .int .i64 (readL r x).2.2]] ∧ Fresh h K' encClip 3 u (readL r x).1) := by
    intro K e B c d hz
    have hb := Heap.get_lt B
    obtain ⟨K', e1, B', G⟩ := put_two (B.ext (Ext.more K [[]])) c d
    refine ⟨K', e1, B'.ld.2, .slice (some ⟨K.size, 0, none⟩) 0 3, by rw [hz], ?_⟩
    rw [hz]
    exact ownT_fresh ((OwnT.new0 K encClip_len (by omega)).extG G (by omega)) (G.ext (e.trans (Ext.more K [[]])) hge) e.1
  by_cases cr : rateOk r
  rotate_left
  · obtain ⟨K', x1, x2, fin⟩ := bad H1 E1 BF 1 0 (readL_rate cr)
    simp (maxSteps := 4000000) (disch := omega) only [ah, am, Nat.reduceEqDiff, reduceCtorEq, Nat.reduceAdd, Nat.reduceLeDiff, Nat.reduceMul, Nat.reduceLT, if_true, if_false, true_and, and_true, and_self, Nat.reduceBEq, QOp.loads, boxO, bslO, buildO, cutL, fillV, putL, w5, v5, decide_eq_false cr, x1, x2]
    exact fin
  by_cases cl : 20000 < x.length
  · obtain ⟨K', x1, x2, fin⟩ := bad H1 E1 BF 2 0 (readL_long cr cl)
    simp (maxSteps := 4000000) (disch := omega) only [ah, am, Nat.reduceEqDiff, reduceCtorEq, Nat.reduceAdd, Nat.reduceLeDiff, Nat.reduceMul, Nat.reduceLT, if_true, if_false, true_and, and_true, and_self, Nat.reduceBEq, QOp.loads, boxO, bslO, buildO, cutL, fillV, putL, w5, v5, decide_eq_true cr, decide_eq_true (show (20000 : Int) < (x.length : Int) by omega), x1, x2]
    exact fin
  have cl' : decide ((20000 : Int) < (x.length : Int)) = false := decide_eq_false (by omega)
  have start : ∀ R : Env, endsNl x → SW Tryz.prog c5_58 (retQ v5 fun y h' => ∃ u : Value, y = .tuple #[u, .agg #[.int .i64 (readL r x).2.1, .int .i64 (readL r x).2.2]] ∧ Fresh h h' encClip 3 u (readL r x).1)
      ((1, .string (bL x)) :: (2, .pointer (some ⟨rb, 0, none⟩)) :: (5, .pointer (some ⟨fb, 0, none⟩)) :: (6, .int .i64 (x.length : Int)) :: R) H1 := by
    intro R en
    have F0 := Fresh.new0 H1 encClip_len (by omega)
    have go := readL_go cr cl en
    simp (maxSteps := 4000000) (disch := omega) only [ah, am, Nat.reduceEqDiff, reduceCtorEq, Nat.reduceAdd, Nat.reduceLeDiff, Nat.reduceMul, Nat.reduceLT, if_true, if_false, true_and, and_true, and_self, Nat.reduceBEq, QOp.loads, boxO, bslO, buildO, cutL, fillV, putL, w5, v5]
    refine SW_loop_up (fun i E K => ∃ f w t, f ≤ i ∧ i ≤ x.length ∧ t.length ≤ f ∧ (10 : UInt8) ∉ (x.drop f).take (i - f) ∧ readG r (lin (x.drop f)) t.length t = readL r x ∧ keeps t ∧ Fresh H1 K encClip 3 w t ∧
      E = [(1, .string (bL x)), (2, .pointer (some ⟨rb, 0, none⟩)), (5, .pointer (some ⟨fb, 0, none⟩)), (6, .int .i64 (x.length : Int)), (7, w), (8, .int .i64 (sumLen t)), (9, .int .i64 (t.length : Int)), (10, .int .i64 (f : Int)), (11, .int .i64 (i : Int))]) x.length 0 (by omega)
      ⟨0, _, [], by omega, by omega, by simp, by simp, go.symm, keeps_nil, F0, rfl⟩ ?_
    clear F0
    rintro i E K hi ⟨f, w, t, hf, hix, htf, hno, yr, kp, F, rfl⟩
    have wi : IntKind.i64.wrap ((i : Int) + 1) = ((i + 1 : Nat) : Int) := i64e (by omega) (by omega)
    have wt : IntKind.i64.wrap ((t.length : Int) + 1) = ((t.length + 1 : Nat) : Int) := i64e (by omega) (by omega)
    have EK : Ext h K := E1.trans F.1
    have BRK := BR.ext F.1
    have BFK := BF.ext F.1
    by_cases c0 : i < x.length
    rotate_left
    · have hii : i = x.length := by omega
      have hz : readL r x = (t, 0, 0) := by
        rw [← yr, lin_none]
        · rfl
        · rw [List.take_of_length_le (by simp; omega)] at hno; exact hno
      obtain ⟨K', x1, B', G'⟩ := put_two BFK 0 0
      have hbf := Heap.get_lt BF
      obtain ⟨_, g, hg, O⟩ := F
      have c0' : decide ((i : Int) < (x.length : Int)) = false := decide_eq_false (by omega)
      simp (maxSteps := 4000000) (disch := omega) only [ah, am, Nat.reduceEqDiff, reduceCtorEq, Nat.reduceAdd, Nat.reduceLeDiff, Nat.reduceMul, Nat.reduceLT, if_true, if_false, true_and, and_true, and_self, Nat.reduceBEq, QOp.loads, boxO, bslO, buildO, cutL, fillV, putL, w5, v5, c0', x1, B'.ld]
      refine ⟨w, by rw [hz], ?_⟩
      rw [hz]
      exact ownT_fresh (O.extG G' (by omega)) (G'.ext EK hge) (by have := E1.1; omega)
    have c0' : decide ((i : Int) < (x.length : Int)) = true := decide_eq_true (by omega)
    have IV := ivs_bL x .i64 i c0
    by_cases cb : (x[i].toNat : Int) = 10
    rotate_left
    · simp (maxSteps := 4000000) (disch := omega) only [ah, am, Nat.reduceEqDiff, reduceCtorEq, Nat.reduceAdd, Nat.reduceLeDiff, Nat.reduceMul, Nat.reduceLT, if_true, if_false, true_and, and_true, and_self, Nat.reduceBEq, QOp.loads, boxO, bslO, buildO, cutL, fillV, putL, w5, v5, c0', IV, decide_eq_false cb, wi]
      refine ⟨c0, f, w, t, by omega, by omega, htf, ?_, yr, kp, F, rfl⟩
      rw [show i + 1 - f = (i - f) + 1 from by omega, List.take_succ_eq_append_getElem (by simp; omega), List.getElem_drop]
      have hfi : f + (i - f) = i := by omega
      simp only [hfi, List.mem_append, List.mem_singleton, not_or]
      exact ⟨hno, fun q => cb (by rw [← q]; rfl)⟩
    have hb : x[i] = 10 := UInt8.toNat_inj.mp (by have : (10 : UInt8).toNat = 10 := rfl; omega)
    have hsp : x.drop f = (x.drop f).take (i - f) ++ 10 :: x.drop (i + 1) := by
      have h1 := List.take_append_drop (i - f) (x.drop f)
      rw [List.drop_drop, show f + (i - f) = i from by omega, List.drop_eq_getElem_cons c0, hb] at h1
      exact h1.symm
    have hpl : ((x.drop f).take (i - f)).length ≤ x.length := by simp; omega
    have SL := sls_ab x .i64 .i64 f i hf (by omega)
    rw [hsp, lin_app _ _ hno] at yr
    generalize (x.drop f).take (i - f) = p at *
    clear hsp
    have bk := Bx.new K [.int .i64 0, .int .i64 0, .int .i64 0] []
    have eN := Ext.more K [[.int .i64 0, .int .i64 0, .int .i64 0]]
    have ll := l6Line_ok (K.more [[.int .i64 0, .int .i64 0, .int .i64 0]]) r p w t (F.slt.ext eN) kp (by omega)
    simp only [encRate] at ll
    simp (maxSteps := 4000000) (disch := omega) only [ah, am, Nat.reduceEqDiff, reduceCtorEq, Nat.reduceAdd, Nat.reduceLeDiff, Nat.reduceMul, Nat.reduceLT, if_true, if_false, true_and, and_true, and_self, Nat.reduceBEq, QOp.loads, boxO, bslO, buildO, cutL, fillV, putL, w5, v5, c0', IV, decide_eq_true cb, SL, wt, BRK.ld]
    refine stepC.of ll ?_
    rintro _ K2 ⟨e2, c, rfl, hc⟩
    have bk2 := bk.ext e2
    obtain ⟨K3, x3, B3, G3⟩ := put_res (a := zClip) bk2 c
    have hbf := Heap.get_lt BFK
    have E3 : Ext K K3 := G3.ext (eN.trans e2) (Nat.le_refl _)
    simp only [encClip]
    by_cases cz : lnCode r t p = 0
    · have ec := hc cz
      rw [readG_good cz] at yr
      have hK3 : K.size < K3.size := Heap.get_lt B3
      obtain ⟨g, g0, g1, O, _⟩ := (Fk.of (X := []) F).grp K3.size (by omega)
      have hgk : K.size ≠ g := by omega
      have s1 := slt_box (Bx.new K3 (encClip c) []) encClip_len (by omega)
      have eX := Ext.more K3 [encClip c]
      obtain ⟨w2, K4, g', ap, O4, G4, hg'⟩ := (O.ext (E3.trans eX)).app s1 (bytes := 24) (by have := kp.1.1; simp; omega)
      have hX : (K3.more [encClip c]).size = K3.size + 1 := by rw [size_more]; rfl
      have F4 : Fresh H1 K4 encClip 3 w2 (t ++ [c]) := ownT_fresh O4 (G4.ext ((F.1.trans E3).trans eX) g0) (by have := F.1.1; omega)
      have B4 : Bx K4 K.size (encClip c) := (B3.ext eX).step G4 hgk
      simp only [encClip] at ap
      have hk2 := keeps_step kp cz
      have hs := sumLen_bound hk2.1.2.1
      have ws : IntKind.i64.wrap (sumLen t + c.len) = sumLen (t ++ [c]) := i64e (by rw [sumLen_append]; simp [sumLen]) (by rw [ec]; have := hk2.1.2.2; omega)
      simp only [encClip] at B3 B4
      simp (maxSteps := 4000000) (disch := omega) only [ah, am, Nat.reduceEqDiff, reduceCtorEq, Nat.reduceAdd, Nat.reduceLeDiff, Nat.reduceMul, Nat.reduceLT, if_true, if_false, true_and, and_true, and_self, Nat.reduceBEq, QOp.loads, boxO, bslO, buildO, cutL, fillV, putL, w5, v5, x3, decide_eq_true cz, B3.ld, ap, B4.ld, ws, wi, wt]
      refine ⟨c0, i + 1, w2, t ++ [c], by omega, by omega, by simp; omega, by simp, ?_, by rw [ec]; exact hk2, F4, by simp⟩
      rw [ec]; simpa using yr
    · rw [readG_bad cz] at yr
      obtain ⟨K', x1, x2, fin⟩ := bad K3 (EK.trans E3) (BFK.ext E3) _ _ yr.symm
      simp (maxSteps := 4000000) (disch := omega) only [ah, am, Nat.reduceEqDiff, reduceCtorEq, Nat.reduceAdd, Nat.reduceLeDiff, Nat.reduceMul, Nat.reduceLT, if_true, if_false, true_and, and_true, and_self, Nat.reduceBEq, QOp.loads, boxO, bslO, buildO, cutL, fillV, putL, w5, v5, x3, decide_eq_false cz, x1, x2]
      exact fin
  generalize c5_58 = fc at start ⊢
  by_cases x0 : x = []
  · have d0 : decide ((0 : Int) < (x.length : Int)) = false := decide_eq_false (by rw [x0]; simp)
    simp (maxSteps := 4000000) (disch := omega) only [ah, am, Nat.reduceEqDiff, reduceCtorEq, Nat.reduceAdd, Nat.reduceLeDiff, Nat.reduceMul, Nat.reduceLT, if_true, if_false, true_and, and_true, and_self, Nat.reduceBEq, QOp.loads, boxO, bslO, buildO, cutL, fillV, putL, w5, v5, decide_eq_true cr, cl', d0]
    exact start _ (.inl x0)
  have hx0 := List.length_pos_iff.mpr x0
  have d0 : decide ((0 : Int) < (x.length : Int)) = true := decide_eq_true (by omega)
  have wn : IntKind.i64.wrap ((x.length : Int) - 1) = ((x.length - 1 : Nat) : Int) := i64e (by omega) (by omega)
  have IV := ivs_bL x .i64 (x.length - 1) (by omega)
  have lg := last_get x hx0
  by_cases ce : (x[x.length - 1].toNat : Int) = 10
  · simp (maxSteps := 4000000) (disch := omega) only [ah, am, Nat.reduceEqDiff, reduceCtorEq, Nat.reduceAdd, Nat.reduceLeDiff, Nat.reduceMul, Nat.reduceLT, if_true, if_false, true_and, and_true, and_self, Nat.reduceBEq, QOp.loads, boxO, bslO, buildO, cutL, fillV, putL, w5, v5, decide_eq_true cr, cl', d0, wn, IV, decide_eq_true ce]
    exact start _ (.inr (lg.mpr ce))
  · obtain ⟨K', x1, x2, fin⟩ := bad H1 E1 BF 3 0 (readL_end cr cl (fun q => q.elim x0 fun q => ce (lg.mp q)))
    simp (maxSteps := 4000000) (disch := omega) only [ah, am, Nat.reduceEqDiff, reduceCtorEq, Nat.reduceAdd, Nat.reduceLeDiff, Nat.reduceMul, Nat.reduceLT, if_true, if_false, true_and, and_true, and_self, Nat.reduceBEq, QOp.loads, boxO, bslO, buildO, cutL, fillV, putL, w5, v5, decide_eq_true cr, cl', d0, wn, IV, decide_eq_false ce, x1, x2]
    exact fin
end Go.Proofs.YtgmimgmdbpcecaaGreatDoor
end

section
namespace Go.Proofs.YtgmimgmdbpcecaaGreatDoor
open Go Go.Ah
set_option linter.unusedSimpArgs false
set_option linter.unusedVariables false
set_option maxRecDepth 10000
set_option maxHeartbeats 4000000
/-! 57 loop.example/g00066/spec.l1DrawRate: parameters 1, live [0], slots [0:c, 1:c, 3:r] -/
def c57_0 : List SOper := [⟨some 2, .a (.new [(.int .i64 0), (.int .i64 0), (.bool false)]), none⟩]
def c57_1 : List SOper := [⟨some 4, .q (.build [(.int .i64 0), (.int .i64 0), (.bool false)] [(0, 1, (.c (.int .i64 24))), (1, 1, (.c (.int .i64 1)))]), none⟩, ⟨some 5, .q (.build [(.int .i64 0), (.int .i64 0), (.bool false)] [(0, 1, (.c (.int .i64 25))), (1, 1, (.c (.int .i64 1)))]), none⟩, ⟨some 6, .q (.build [(.int .i64 0), (.int .i64 0), (.bool false)] [(0, 1, (.c (.int .i64 30000))), (1, 1, (.c (.int .i64 1001)))]), none⟩, ⟨some 7, .q (.build [(.int .i64 0), (.int .i64 0), (.bool false)] [(0, 1, (.c (.int .i64 30000))), (1, 1, (.c (.int .i64 1001))), (2, 1, (.c (.bool true)))]), none⟩, ⟨some 8, .q (.build [(.int .i64 0), (.int .i64 0), (.bool false)] [(0, 1, (.c (.int .i64 60000))), (1, 1, (.c (.int .i64 1001))), (2, 1, (.c (.bool true)))]), none⟩, ⟨some 9, .q (.build [(.int .i64 0), (.int .i64 0), (.bool false)] [(0, 1, (.c (.int .i64 24000))), (1, 1, (.c (.int .i64 1001)))]), none⟩, ⟨some 10, .q (.build [(.int .i64 0), (.int .i64 0), (.bool false)] [(0, 1, (.c (.int .i64 120))), (1, 1, (.c (.int .i64 1)))]), none⟩, ⟨some 11, .q (.build [(.int .i64 0), (.int .i64 0), (.bool false)] [(0, 1, (.c (.int .i64 1))), (1, 1, (.c (.int .i64 2)))]), none⟩, ⟨some 12, .q (.build [(.int .i64 0), (.int .i64 0), (.bool false)] [(0, 1, (.c (.int .i64 50))), (1, 1, (.c (.int .i64 1)))]), none⟩, ⟨some 13, .q (.build [(.int .i64 0), (.int .i64 0), (.bool false)] [(0, 1, (.c (.int .i64 30))), (1, 1, (.c (.int .i64 1)))]), none⟩, ⟨some 14, .a (.bsl 10 3 [(.int .i64 0), (.int .i64 0), (.bool false), (.int .i64 0), (.int .i64 0), (.bool false), (.int .i64 0), (.int .i64 0), (.bool false), (.int .i64 0), (.int .i64 0), (.bool false), (.int .i64 0), (.int .i64 0), (.bool false), (.int .i64 0), (.int .i64 0), (.bool false), (.int .i64 0), (.int .i64 0), (.bool false), (.int .i64 0), (.int .i64 0), (.bool false), (.int .i64 0), (.int .i64 0), (.bool false), (.int .i64 0), (.int .i64 0), (.bool false)] [(0, 3, (.t 4)), (3, 3, (.t 5)), (6, 3, (.t 6)), (9, 3, (.t 7)), (12, 3, (.t 8)), (15, 3, (.t 9)), (18, 3, (.t 10)), (21, 3, (.t 11)), (24, 3, (.t 12)), (27, 3, (.t 13))]), none⟩, ⟨some 15, .q (.mv (.t 0)), none⟩, ⟨some 16, .e (.call 38 [(.t 15), (.c (.int .i64 10))]), none⟩, ⟨some 17, .q (.ia 3 (.t 14) (.t 16)), none⟩, ⟨some 18, .q (.ldn 3 (.t 17)), none⟩, ⟨some 3, .a (.new [(.int .i64 0), (.int .i64 0), (.bool false)]), none⟩, ⟨none, .e (.st 3 (.t 3) (.t 18)), none⟩]
def c57_2 : List SOper := [⟨some 19, .q (.mv (.t 0)), none⟩, ⟨some 20, .e (.call 29 [(.t 19), (.c (.int .i64 16))]), none⟩]
def c57_3 : List SOper := [⟨some 21, .q (.mv (.t 0)), none⟩, ⟨some 22, .e (.call 38 [(.t 21), (.c (.int .i64 4))]), none⟩]
def c57_4 : List SOper := [⟨some 24, .q (.bin .eql (.t 22) (.c (.int .i64 0))), none⟩, ⟨some 23, .q (.mv (.t 24)), none⟩]
def c57_5 : List SOper := [⟨some 25, .a (.bsl 6 1 [(.int .i64 0), (.int .i64 0), (.int .i64 0), (.int .i64 0), (.int .i64 0), (.int .i64 0)] [(0, 1, (.c (.int .i64 0))), (1, 1, (.c (.int .i64 240000))), (2, 1, (.c (.int .i64 240001))), (3, 1, (.c (.int .i64 121))), (4, 1, (.c (.int .i64 48))), (5, 1, (.c (.int .i64 (-1))))]), none⟩, ⟨some 26, .q (.mv (.t 0)), none⟩, ⟨some 27, .e (.call 38 [(.t 26), (.c (.int .i64 6))]), none⟩, ⟨some 28, .q (.ia 1 (.t 25) (.t 27)), none⟩, ⟨some 29, .q (.ld (.t 28)), none⟩, ⟨some 30, .q (.fa 0 (.t 3)), none⟩, ⟨none, .e (.st 1 (.t 30) (.t 29)), none⟩]
def c57_6 : List SOper := [⟨some 32, .q (.bin .eql (.t 22) (.c (.int .i64 1))), none⟩, ⟨some 31, .q (.mv (.t 32)), none⟩]
def c57_7 : List SOper := [⟨some 33, .a (.bsl 5 1 [(.int .i64 0), (.int .i64 0), (.int .i64 0), (.int .i64 0), (.int .i64 0)] [(0, 1, (.c (.int .i64 0))), (1, 1, (.c (.int .i64 1001))), (2, 1, (.c (.int .i64 1002))), (3, 1, (.c (.int .i64 2))), (4, 1, (.c (.int .i64 6)))]), none⟩, ⟨some 34, .q (.mv (.t 0)), none⟩, ⟨some 35, .e (.call 38 [(.t 34), (.c (.int .i64 5))]), none⟩, ⟨some 36, .q (.ia 1 (.t 33) (.t 35)), none⟩, ⟨some 37, .q (.ld (.t 36)), none⟩, ⟨some 38, .q (.fa 1 (.t 3)), none⟩, ⟨none, .e (.st 1 (.t 38) (.t 37)), none⟩]
def c57_8 : List SOper := [⟨some 40, .q (.bin .eql (.t 22) (.c (.int .i64 2))), none⟩, ⟨some 39, .q (.mv (.t 40)), none⟩]
def c57_9 : List SOper := [⟨some 41, .q (.fa 2 (.t 3)), none⟩, ⟨some 42, .q (.ld (.t 41)), none⟩, ⟨some 43, .q (.not (.t 42)), none⟩, ⟨some 44, .q (.fa 2 (.t 3)), none⟩, ⟨none, .e (.st 1 (.t 44) (.t 43)), none⟩]
def c57_10 : List SOper := [⟨some 46, .q (.bin .eql (.t 22) (.c (.int .i64 3))), none⟩, ⟨some 45, .q (.mv (.t 46)), none⟩]
def c57_11 : List SOper := [⟨some 47, .q (.build [(.int .i64 0), (.int .i64 0), (.bool false)] [(0, 1, (.c (.int .i64 120000))), (1, 1, (.c (.int .i64 1001)))]), none⟩, ⟨none, .e (.st 3 (.t 3) (.t 47)), none⟩]
def c57_12 : SCode := .cond (.t 45) (.region c57_11 [2, 3]) .skip
def c57_13 : SCode := .seq (.region c57_10 [2, 3, 45]) c57_12
def c57_14 : SCode := .cond (.t 39) (.region c57_9 [2, 3]) c57_13
def c57_15 : SCode := .seq (.region c57_8 [2, 3, 22, 39]) c57_14
def c57_16 : SCode := .cond (.t 31) (.region c57_7 [2, 3]) c57_15
def c57_17 : SCode := .seq (.region c57_6 [0, 2, 3, 22, 31]) c57_16
def c57_18 : SCode := .cond (.t 23) (.region c57_5 [2, 3]) c57_17
def c57_19 : SCode := .seq (.region c57_4 [0, 2, 3, 22, 23]) c57_18
def c57_20 : SCode := .block 0 c57_19
def c57_21 : SCode := .seq (.region c57_3 [0, 2, 3, 22]) c57_20
def c57_22 : SCode := .cond (.t 20) c57_21 .skip
def c57_23 : SCode := .seq (.region c57_2 [0, 2, 3, 20]) c57_22
def c57_24 : List SOper := [⟨some 48, .q (.ldn 3 (.t 3)), none⟩, ⟨none, .e (.st 3 (.t 2) (.t 48)), none⟩]
def c57_25 : SCode := .seq (.region c57_24 [2]) .ret
def c57_26 : SCode := .seq c57_23 c57_25
def c57_27 : SCode := .seq (.region c57_1 [0, 2, 3]) c57_26
def c57_28 : SCode := .seq (.region c57_0 [0, 2]) c57_27
def c57 : SCode := c57_28
theorem w57 : type_of% (And.intro (uR Tryz.prog c57_0.eq_1) (And.intro (uR Tryz.prog c57_1.eq_1) (And.intro (uR Tryz.prog c57_2.eq_1) (And.intro (uR Tryz.prog c57_3.eq_1) (And.intro (uR Tryz.prog c57_4.eq_1) (And.intro (uR Tryz.prog c57_5.eq_1) (And.intro (uR Tryz.prog c57_6.eq_1) (And.intro (uR Tryz.prog c57_7.eq_1) (And.intro (uR Tryz.prog c57_8.eq_1) (And.intro (uR Tryz.prog c57_9.eq_1) (And.intro (uR Tryz.prog c57_10.eq_1) (And.intro (uR Tryz.prog c57_11.eq_1) (And.intro (uC Tryz.prog c57_12.eq_1) (And.intro (uC Tryz.prog c57_13.eq_1) (And.intro (uC Tryz.prog c57_14.eq_1) (And.intro (uC Tryz.prog c57_15.eq_1) (And.intro (uC Tryz.prog c57_16.eq_1) (And.intro (uC Tryz.prog c57_17.eq_1) (And.intro (uC Tryz.prog c57_18.eq_1) (And.intro (uC Tryz.prog c57_19.eq_1) (And.intro (uC Tryz.prog c57_20.eq_1) (And.intro (uC Tryz.prog c57_21.eq_1) (And.intro (uC Tryz.prog c57_22.eq_1) (And.intro (uC Tryz.prog c57_23.eq_1) (And.intro (uR Tryz.prog c57_24.eq_1) (And.intro (uC Tryz.prog c57_25.eq_1) (And.intro (uC Tryz.prog c57_26.eq_1) (And.intro (uC Tryz.prog c57_27.eq_1) (And.intro (uC Tryz.prog c57_28.eq_1) (uC Tryz.prog c57.eq_1)))))))))))))))))))))))))))))) := (And.intro (uR Tryz.prog c57_0.eq_1) (And.intro (uR Tryz.prog c57_1.eq_1) (And.intro (uR Tryz.prog c57_2.eq_1) (And.intro (uR Tryz.prog c57_3.eq_1) (And.intro (uR Tryz.prog c57_4.eq_1) (And.intro (uR Tryz.prog c57_5.eq_1) (And.intro (uR Tryz.prog c57_6.eq_1) (And.intro (uR Tryz.prog c57_7.eq_1) (And.intro (uR Tryz.prog c57_8.eq_1) (And.intro (uR Tryz.prog c57_9.eq_1) (And.intro (uR Tryz.prog c57_10.eq_1) (And.intro (uR Tryz.prog c57_11.eq_1) (And.intro (uC Tryz.prog c57_12.eq_1) (And.intro (uC Tryz.prog c57_13.eq_1) (And.intro (uC Tryz.prog c57_14.eq_1) (And.intro (uC Tryz.prog c57_15.eq_1) (And.intro (uC Tryz.prog c57_16.eq_1) (And.intro (uC Tryz.prog c57_17.eq_1) (And.intro (uC Tryz.prog c57_18.eq_1) (And.intro (uC Tryz.prog c57_19.eq_1) (And.intro (uC Tryz.prog c57_20.eq_1) (And.intro (uC Tryz.prog c57_21.eq_1) (And.intro (uC Tryz.prog c57_22.eq_1) (And.intro (uC Tryz.prog c57_23.eq_1) (And.intro (uR Tryz.prog c57_24.eq_1) (And.intro (uC Tryz.prog c57_25.eq_1) (And.intro (uC Tryz.prog c57_26.eq_1) (And.intro (uC Tryz.prog c57_27.eq_1) (And.intro (uC Tryz.prog c57_28.eq_1) (uC Tryz.prog c57.eq_1))))))))))))))))))))))))))))))
def v57 : List RV := [.c 2 (some 3)]
theorem s57 : slimF Tryz.prog Tryz.f57 = some (c57.bare, v57) := by kernel_rfl
/-! 27 loop.example/g00066/spec.l6DrawRate: parameters 1, live [0], slots [0:c, 1:c] -/
def c27_0 : List SOper := [⟨some 2, .a (.new [(.int .i64 0), (.int .i64 0), (.bool false)]), none⟩]
def c27_1 : List SOper := [⟨some 3, .q (.mv (.t 0)), none⟩, ⟨some 4, .e (.call 29 [(.t 3), (.c (.int .i64 8))]), none⟩]
def c27_2 : List SOper := [⟨some 5, .q (.mv (.t 0)), none⟩, ⟨some 6, .e (.call 57 [(.t 5)]), none⟩, ⟨none, .e (.st 3 (.t 2) (.t 6)), none⟩]
def c27_3 : SCode := .seq (.region c27_2 [2]) .ret
def c27_4 : SCode := .cond (.t 4) c27_3 .skip
def c27_5 : SCode := .seq (.region c27_1 [0, 2, 4]) c27_4
def c27_6 : List SOper := [⟨some 7, .q (.build [(.int .i64 0), (.int .i64 0), (.bool false)] [(0, 1, (.c (.int .i64 24))), (1, 1, (.c (.int .i64 1)))]), none⟩, ⟨some 8, .q (.build [(.int .i64 0), (.int .i64 0), (.bool false)] [(0, 1, (.c (.int .i64 30000))), (1, 1, (.c (.int .i64 1001))), (2, 1, (.c (.bool true)))]), none⟩, ⟨some 9, .q (.build [(.int .i64 0), (.int .i64 0), (.bool false)] [(0, 1, (.c (.int .i64 25))), (1, 1, (.c (.int .i64 1)))]), none⟩, ⟨some 10, .q (.build [(.int .i64 0), (.int .i64 0), (.bool false)] [(0, 1, (.c (.int .i64 120))), (1, 1, (.c (.int .i64 1)))]), none⟩, ⟨some 11, .a (.bsl 4 3 [(.int .i64 0), (.int .i64 0), (.bool false), (.int .i64 0), (.int .i64 0), (.bool false), (.int .i64 0), (.int .i64 0), (.bool false), (.int .i64 0), (.int .i64 0), (.bool false)] [(0, 3, (.t 7)), (3, 3, (.t 8)), (6, 3, (.t 9)), (9, 3, (.t 10))]), none⟩, ⟨some 12, .q (.mv (.t 0)), none⟩, ⟨some 13, .e (.call 38 [(.t 12), (.c (.int .i64 4))]), none⟩, ⟨some 14, .q (.ia 3 (.t 11) (.t 13)), none⟩, ⟨some 15, .q (.ldn 3 (.t 14)), none⟩, ⟨none, .e (.st 3 (.t 2) (.t 15)), none⟩]
def c27_7 : SCode := .seq (.region c27_6 [2]) .ret
def c27_8 : SCode := .seq c27_5 c27_7
def c27_9 : SCode := .seq (.region c27_0 [0, 2]) c27_8
def c27 : SCode := c27_9
theorem w27 : type_of% (And.intro (uR Tryz.prog c27_0.eq_1) (And.intro (uR Tryz.prog c27_1.eq_1) (And.intro (uR Tryz.prog c27_2.eq_1) (And.intro (uC Tryz.prog c27_3.eq_1) (And.intro (uC Tryz.prog c27_4.eq_1) (And.intro (uC Tryz.prog c27_5.eq_1) (And.intro (uR Tryz.prog c27_6.eq_1) (And.intro (uC Tryz.prog c27_7.eq_1) (And.intro (uC Tryz.prog c27_8.eq_1) (And.intro (uC Tryz.prog c27_9.eq_1) (uC Tryz.prog c27.eq_1))))))))))) := (And.intro (uR Tryz.prog c27_0.eq_1) (And.intro (uR Tryz.prog c27_1.eq_1) (And.intro (uR Tryz.prog c27_2.eq_1) (And.intro (uC Tryz.prog c27_3.eq_1) (And.intro (uC Tryz.prog c27_4.eq_1) (And.intro (uC Tryz.prog c27_5.eq_1) (And.intro (uR Tryz.prog c27_6.eq_1) (And.intro (uC Tryz.prog c27_7.eq_1) (And.intro (uC Tryz.prog c27_8.eq_1) (And.intro (uC Tryz.prog c27_9.eq_1) (uC Tryz.prog c27.eq_1)))))))))))
def v27 : List RV := [.c 2 (some 3)]
theorem s27 : slimF Tryz.prog Tryz.f27 = some (c27.bare, v27) := by kernel_rfl

theorem put_rate {K : Heap} {i : Nat} {a : Rate} (B : Bx K i (encRate a)) (c : Rate) :
    ∃ K', stV K 3 (.pointer (some ⟨i, 0, none⟩)) (.agg #[.int .i64 c.num, .int .i64 c.den, .bool c.drop]) = some K' ∧ Bx K' i (encRate c) ∧ ExtG i K K' := by
  obtain ⟨K', e, B', G⟩ := B.put (o := 0) (n := 3) (y := .agg #[.int .i64 c.num, .int .i64 c.den, .bool c.drop]) rfl (by simp [encRate]) rfl
  exact ⟨K', e, B', G⟩
/-- A rate of a row of rates that are written down. -/
theorem pick_rates {H H' : Heap} {c : Nat} (rs : List Rate) {z : Int} (g : ExtG c (H.more [rs.flatMap encRate]) H') (hc : c < H.size) (hz : 0 ≤ z) (hlt : z < rs.length) :
    ∃ r : Rate, ldnV H' 3 (.pointer (some ⟨H.size, z.toNat * 3, none⟩)) = some (.agg #[.int .i64 r.num, .int .i64 r.den, .bool r.drop]) := by
  have b := (Bx.new H (rs.flatMap encRate) []).step g (by omega)
  have hz2 : z.toNat < rs.length := by omega
  refine ⟨rs[z.toNat], ?_⟩
  rw [b.ld.2]
  have hl := flat_len (enc := encRate) (sz := 3) (fun _ => rfl) rs
  have hp := flat_piece (enc := encRate) (sz := 3) (fun _ => rfl) rs z.toNat hz2
  unfold cutL
  have hle : z.toNat * 3 + 3 ≤ (rs.flatMap encRate).length := by rw [hl]; omega
  rw [if_pos hle, hp]; rfl
def zRate : Rate := ⟨0, 0, false⟩
theorem bx_x {X : List Nat} {h h' : Heap} {i : Nat} {cs : List Value} (b : Bx h i cs) (e : ExtX X h h') (hi : i ∉ X) : Bx h' i cs := by
  unfold Bx at b ⊢; exact e.2 _ _ b hi
theorem rate_leaf {h H : Heap} {c i2 : Nat} {a r : Rate} (k : Cur H c) (x : ExtX [c] h H) (hc : c < h.size) (b2 : Bx H i2 (encRate a)) (h2 : h.size ≤ i2) :
    ∃ H', stV H 3 (.pointer (some ⟨i2, 0, none⟩)) (.agg #[.int .i64 r.num, .int .i64 r.den, .bool r.drop]) = some H' ∧ Drew c h H' ∧ (∀ o n, ldnV H' n (.pointer (some ⟨i2, o, none⟩)) = cutL [.int .i64 r.num, .int .i64 r.den, .bool r.drop] o n) := by
  obtain ⟨H', es, b, g⟩ := put_rate b2 r
  exact ⟨H', es, ⟨(x.top g h2).toG, k.step g (by omega)⟩, b.ld.2⟩
/-! Rows of operations, one by one -/
section
variable {P : Program} {Q : Go.Exit → Env → Heap → Prop} {K : Env → Heap → Prop} {E : Env} {h : Heap} {os : List SOper}
theorem sw_reg {keep : List Nat} {b : SCode} (H : AOps P os (fun E h => SW P b Q (E.keep keep) h) E h) : SW P (.seq (.region os keep) b) Q E h := H
theorem one_q {d : Option Nat} {q : QOp} {v : Value} (e : q.ev E h = some v) (k : AOps P os K (putD d v E) h) : AOps P (⟨d, .q q, none⟩ :: os) K E h := ⟨v, e, k⟩
theorem one_a {d : Option Nat} {q : AOp} {c : List Value × (Nat → Value)} (e : q.ev E = some c) (k : AOps P os K (putD d (c.2 h.size) E) (h.more [c.1])) : AOps P (⟨d, .a q, none⟩ :: os) K E h := ⟨c, e, k⟩
theorem one_c {d : Option Nat} {f : FuncId} {l : List Opd} {vs : List Value} (e : Opd.vals E l = some vs) (k : ACall P f vs h fun v h' => AOps P os K (putD d v E) h') : AOps P (⟨d, .e (.call f l), none⟩ :: os) K E h := ⟨vs, e, k⟩
theorem one_s {d : Option Nat} {n : Nat} {a x : Opd} {p v : Value} {h' : Heap} (e1 : a.val E = some p) (e2 : x.val E = some v) (e3 : stV h n p v = some h') (k : AOps P os K (putD d undef E) h') : AOps P (⟨d, .e (.st n a x), none⟩ :: os) K E h := ⟨p, v, h', e1, e2, e3, k⟩
theorem one_v {d : Option Nat} {x : Opd} {u : Value} {r : Value × Heap} (e1 : x.val E = some u) (e2 : cnvV h u = some r) (k : AOps P os K (putD d r.1 E) r.2) : AOps P (⟨d, .e (.cnv x), none⟩ :: os) K E h := ⟨u, r, e1, e2, k⟩
theorem one_end (k : K E h) : AOps P [] K E h := k
end
def rates10 : List Rate := [⟨24, 1, false⟩, ⟨25, 1, false⟩, ⟨30000, 1001, false⟩, ⟨30000, 1001, true⟩, ⟨60000, 1001, true⟩, ⟨24000, 1001, false⟩, ⟨120, 1, false⟩, ⟨1, 2, false⟩, ⟨50, 1, false⟩, ⟨30, 1, false⟩]
theorem l1DrawRate_ok (h : Heap) (c : Nat) (k : Cur h c) : ACall Tryz.prog 57 [.pointer (some ⟨c, 0, none⟩)] h fun x h' => ∃ r : Rate, x = .agg #[.int .i64 r.num, .int .i64 r.den, .bool r.drop] ∧ Drew c h h' := by
  have hcl := k.lt
  have B2 := Bx.new h (encRate zRate) []
  have eM := Ext.more h [encRate zRate]
  simp only [encRate, zRate] at B2 eM
  refine ACall.of Tryz.func57 s57 (of_decide_eq_true rfl) ?_
  show SW Tryz.prog c57_28 _ _ _
  refine sw_reg (b := c57_27) ?_
  refine one_a (c := ([.int .i64 0, .int .i64 0, .bool false], fun i => .pointer (some ⟨i, 0, none⟩))) rfl (one_end ?_)
  obtain ⟨K0, hK0⟩ : ∃ K0, K0 = h.more [[.int .i64 0, .int .i64 0, .bool false]] := ⟨_, rfl⟩
  obtain ⟨b2, hb2⟩ : ∃ q, q = h.size := ⟨_, rfl⟩
  simp only
  rw [← hK0] at B2 eM ⊢
  rw [← hb2] at B2 ⊢
  have hge : h.size ≤ b2 := by omega
  have hbc : b2 ≠ c := by omega
  have hb2K := Heap.get_lt B2
  have hcK := (k.ext eM).lt
  show SW Tryz.prog c57_27 _ [(0, .pointer (some ⟨c, 0, none⟩)), (2, .pointer (some ⟨b2, 0, none⟩))] K0
  refine sw_reg (b := c57_26) ?_
  refine one_q (v := .agg (encRate ⟨24, 1, false⟩).toArray) rfl ?_
  refine one_q (v := .agg (encRate ⟨25, 1, false⟩).toArray) rfl ?_
  refine one_q (v := .agg (encRate ⟨30000, 1001, false⟩).toArray) rfl ?_
  refine one_q (v := .agg (encRate ⟨30000, 1001, true⟩).toArray) rfl ?_
  refine one_q (v := .agg (encRate ⟨60000, 1001, true⟩).toArray) rfl ?_
  refine one_q (v := .agg (encRate ⟨24000, 1001, false⟩).toArray) rfl ?_
  refine one_q (v := .agg (encRate ⟨120, 1, false⟩).toArray) rfl ?_
  refine one_q (v := .agg (encRate ⟨1, 2, false⟩).toArray) rfl ?_
  refine one_q (v := .agg (encRate ⟨50, 1, false⟩).toArray) rfl ?_
  refine one_q (v := .agg (encRate ⟨30, 1, false⟩).toArray) rfl ?_
  refine one_a (c := (rates10.flatMap encRate, fun i => .slice (some ⟨i, 0, none⟩) 10 3)) rfl ?_
  refine one_q (v := .pointer (some ⟨c, 0, none⟩)) rfl ?_
  have eR := Ext.more K0 [rates10.flatMap encRate]
  have C1 := (k.ext eM).ext eR
  refine one_c (vs := [.pointer (some ⟨c, 0, none⟩), .int .i64 10]) rfl ?_
  refine (l1Below_ok _ c 10 C1).mono ?_
  rintro _ K2 ⟨z, rfl, z1, z2, _, g2, C2⟩
  have z3 := z2 (by omega)
  obtain ⟨r0, hr0⟩ := pick_rates (H := K0) rates10 g2 hcK z1 (by show z < 10; exact z3)
  have IAz : iaV 3 (.slice (some ⟨K0.size, 0, none⟩) 10 3) (.int .i64 z) = some (.pointer (some ⟨K0.size, z.toNat * 3, none⟩)) := by
    rw [iaV_slice _ _ _ _ _ _ (by omega) (by omega)]; simp
  refine one_q (v := .pointer (some ⟨K0.size, z.toNat * 3, none⟩)) IAz ?_
  refine one_q (v := .agg #[.int .i64 r0.num, .int .i64 r0.den, .bool r0.drop]) hr0 ?_
  have x2 : ExtX [c] h K2 := (eM.trans eR).toX.trans (g2.toX (by simp))
  have B2 := (B2.ext eR).step g2 hbc
  have eR2 : K0.size ≤ K2.size := by have := eR.1; have := g2.1; omega
  clear IAz hr0 eR C1 z2 z3 z1 g2
  have e3 := Ext.more K2 [encRate zRate]
  have B3 := Bx.new K2 (encRate zRate) []
  obtain ⟨K3, es3, B3, g3⟩ := put_rate B3 r0
  have B2 := (B2.ext e3).step g3 (by have := Heap.get_lt B2; omega)
  have C3 := (C2.ext e3).step g3 C2.lt
  have x3 : ExtX [c] h K3 := (x2.trans e3.toX).top g3 (by have := x2.1; omega)
  have hb3 : c < K2.size := C2.lt
  have hb23 : b2 ≠ K2.size := by omega
  refine one_a (c := ([.int .i64 0, .int .i64 0, .bool false], fun i => .pointer (some ⟨i, 0, none⟩))) rfl ?_
  refine one_s (p := .pointer (some ⟨K2.size, 0, none⟩)) (v := .agg #[.int .i64 r0.num, .int .i64 r0.den, .bool r0.drop]) rfl rfl es3 (one_end ?_)
  have hb3g : h.size ≤ K2.size := x2.1
  generalize K2.size = b3 at *
  show SW Tryz.prog c57_26 _ [(0, .pointer (some ⟨c, 0, none⟩)), (2, .pointer (some ⟨b2, 0, none⟩)), (3, .pointer (some ⟨b3, 0, none⟩))] K3
  clear es3 e3 g3 C2 x2
  skip
  simp (maxSteps := 4000000) (disch := omega) only [ah, am, Nat.reduceEqDiff, reduceCtorEq, Nat.reduceAdd, Nat.reduceLeDiff, Nat.reduceMul, Nat.reduceLT, if_true, if_false, true_and, and_true, and_self, Nat.reduceBEq, QOp.loads, boxO, bslO, buildO, cutL, fillV, putL, w57, v57]
  refine stepC.of (l1Once_ok K3 c 16 C3) ?_
  rintro _ K ⟨b, rfl, g4, C⟩
  have hbc3 : b3 ≠ c := by omega
  have B2 := B2.step g4 hbc
  have B3 := B3.step g4 hbc3
  have X : ExtX [c] h K := x3.trans (g4.toX (by simp))
  clear g4 x3 C3
  simp (maxSteps := 4000000) (disch := omega) only [ah, am, Nat.reduceEqDiff, reduceCtorEq, Nat.reduceAdd, Nat.reduceLeDiff, Nat.reduceMul, Nat.reduceLT, if_true, if_false, true_and, and_true, and_self, Nat.reduceBEq, QOp.loads, boxO, bslO, buildO, cutL, fillV, putL, w57, v57]
  refine SW_ifQ (fun E K => Bx K b2 [.int .i64 0, .int .i64 0, .bool false] ∧ (∃ r, Bx K b3 (encRate r)) ∧ Cur K c ∧ ExtX [c] h K ∧ E.get 2 = some (.pointer (some ⟨b2, 0, none⟩)) ∧ E.get 3 = some (.pointer (some ⟨b3, 0, none⟩))) (fun hb => ?_) (fun hb => ?_) ?_
  · simp (maxSteps := 4000000) (disch := omega) only [ah, am, Nat.reduceEqDiff, reduceCtorEq, Nat.reduceAdd, Nat.reduceLeDiff, Nat.reduceMul, Nat.reduceLT, if_true, if_false, true_and, and_true, and_self, Nat.reduceBEq, QOp.loads, boxO, bslO, buildO, cutL, fillV, putL, w57, v57]
    refine stepC.of (l1Below_ok K c 4 C) ?_
    rintro _ K2 ⟨z, rfl, z1, z2, _, g5, C⟩
    have z3 := z2 (by omega)
    have B2 := B2.step g5 hbc
    have B3 := B3.step g5 hbc3
    have X := X.trans (g5.toX (by simp))
    clear z2 g5
    have hcl2 := C.lt
    have zc : z = 0 ∨ z = 1 ∨ z = 2 ∨ z = 3 := by omega
    have n10 : decide ((1 : Int) = 0) = false := rfl
    have n20 : decide ((2 : Int) = 0) = false := rfl
    have n30 : decide ((3 : Int) = 0) = false := rfl
    have n21 : decide ((2 : Int) = 1) = false := rfl
    have n31 : decide ((3 : Int) = 1) = false := rfl
    have n32 : decide ((3 : Int) = 2) = false := rfl
    rcases zc with rfl | rfl | rfl | rfl
    · simp (maxSteps := 4000000) (disch := omega) only [ah, am, Nat.reduceEqDiff, reduceCtorEq, Nat.reduceAdd, Nat.reduceLeDiff, Nat.reduceMul, Nat.reduceLT, if_true, if_false, true_and, and_true, and_self, Nat.reduceBEq, QOp.loads, boxO, bslO, buildO, cutL, fillV, putL, w57, v57, eq_self, decide_true]
      refine stepC.of (l1Below_ok _ c 6 (C.ext (Ext.more K2 _))) ?_
      rintro _ K4 ⟨z, rfl, z1, z2, _, g6, C4⟩
      have z3 : z < 6 := z2 (by omega)
      obtain ⟨w, hw⟩ := pick_lits g6 hcl2 z1 (by simpa using z3) rfl
      have B2 := (B2.ext (Ext.more K2 _)).step g6 hbc
      have B3 := (B3.ext (Ext.more K2 _)).step g6 hbc3
      have X := (X.trans (Ext.more K2 _).toX).trans (g6.toX (by simp))
      obtain ⟨K5, es, B5, G⟩ := B3.put (o := 0) (n := 1) (y := .int .i64 w) rfl (by simp [encRate]) rfl
      simp (maxSteps := 4000000) (disch := omega) only [ah, am, Nat.reduceEqDiff, reduceCtorEq, Nat.reduceAdd, Nat.reduceLeDiff, Nat.reduceMul, Nat.reduceLT, if_true, if_false, true_and, and_true, and_self, Nat.reduceBEq, QOp.loads, boxO, bslO, buildO, cutL, fillV, putL, w57, v57, Nat.mul_one, hw, Nat.add_zero, es]
      exact ⟨B2.step G hb23, ⟨⟨w, r0.den, r0.drop⟩, B5⟩, C4.step G hb3, X.top G hb3g⟩
    · simp (maxSteps := 4000000) (disch := omega) only [ah, am, Nat.reduceEqDiff, reduceCtorEq, Nat.reduceAdd, Nat.reduceLeDiff, Nat.reduceMul, Nat.reduceLT, if_true, if_false, true_and, and_true, and_self, Nat.reduceBEq, QOp.loads, boxO, bslO, buildO, cutL, fillV, putL, w57, v57, n10, eq_self, decide_true]
      refine stepC.of (l1Below_ok _ c 5 (C.ext (Ext.more K2 _))) ?_
      rintro _ K4 ⟨z, rfl, z1, z2, _, g6, C4⟩
      have z3 : z < 5 := z2 (by omega)
      obtain ⟨w, hw⟩ := pick_lits g6 hcl2 z1 (by simpa using z3) rfl
      have B2 := (B2.ext (Ext.more K2 _)).step g6 hbc
      have B3 := (B3.ext (Ext.more K2 _)).step g6 hbc3
      have X := (X.trans (Ext.more K2 _).toX).trans (g6.toX (by simp))
      obtain ⟨K5, es, B5, G⟩ := B3.put (o := 1) (n := 1) (y := .int .i64 w) rfl (by simp [encRate]) rfl
      simp (maxSteps := 4000000) (disch := omega) only [ah, am, Nat.reduceEqDiff, reduceCtorEq, Nat.reduceAdd, Nat.reduceLeDiff, Nat.reduceMul, Nat.reduceLT, if_true, if_false, true_and, and_true, and_self, Nat.reduceBEq, QOp.loads, boxO, bslO, buildO, cutL, fillV, putL, w57, v57, Nat.mul_one, hw, Nat.zero_add, es]
      exact ⟨B2.step G hb23, ⟨⟨r0.num, w, r0.drop⟩, B5⟩, C4.step G hb3, X.top G hb3g⟩
    · obtain ⟨K5, es, B5, G⟩ := B3.put (o := 2) (n := 1) (y := .bool (!r0.drop)) rfl (by simp [encRate]) rfl
      have L3 := B3.ld
      simp only [encRate] at L3
      simp (maxSteps := 4000000) (disch := omega) only [ah, am, Nat.reduceEqDiff, reduceCtorEq, Nat.reduceAdd, Nat.reduceLeDiff, Nat.reduceMul, Nat.reduceLT, if_true, if_false, true_and, and_true, and_self, Nat.reduceBEq, QOp.loads, boxO, bslO, buildO, cutL, fillV, putL, w57, v57, n20, n21, eq_self, decide_true, Nat.zero_add, L3, es]
      exact ⟨B2.step G hb23, ⟨⟨r0.num, r0.den, !r0.drop⟩, B5⟩, C.step G hb3, X.top G hb3g⟩
    · obtain ⟨K5, es, B5, G⟩ := put_rate B3 ⟨120000, 1001, false⟩
      simp (maxSteps := 4000000) (disch := omega) only [ah, am, Nat.reduceEqDiff, reduceCtorEq, Nat.reduceAdd, Nat.reduceLeDiff, Nat.reduceMul, Nat.reduceLT, if_true, if_false, true_and, and_true, and_self, Nat.reduceBEq, QOp.loads, boxO, bslO, buildO, cutL, fillV, putL, w57, v57, n30, n31, n32, eq_self, decide_true, es]
      exact ⟨B2.step G hb23, ⟨_, B5⟩, C.step G hb3, X.top G hb3g⟩
  · exact ⟨B2, ⟨_, B3⟩, C, X, rfl, rfl⟩
  rintro E K4 ⟨B2, ⟨r, B3⟩, C, X, E2, E3⟩
  obtain ⟨K5, es, D, L⟩ := rate_leaf (r := r) (a := zRate) C X hcl B2 hge
  have L3 := B3.ld
  simp only [encRate] at L3
  simp (maxSteps := 4000000) (disch := omega) only [ah, am, Nat.reduceEqDiff, reduceCtorEq, Nat.reduceAdd, Nat.reduceLeDiff, Nat.reduceMul, Nat.reduceLT, if_true, if_false, true_and, and_true, and_self, Nat.reduceBEq, QOp.loads, boxO, bslO, buildO, cutL, fillV, putL, w57, v57, E2, E3, L3, es, L]
  exact ⟨r, rfl, D⟩
def rates4 : List Rate := [⟨24, 1, false⟩, ⟨30000, 1001, true⟩, ⟨25, 1, false⟩, ⟨120, 1, false⟩]
theorem l6DrawRate_ok (h : Heap) (c : Nat) (k : Cur h c) : ACall Tryz.prog 27 [.pointer (some ⟨c, 0, none⟩)] h fun x h' => ∃ r : Rate, x = .agg #[.int .i64 r.num, .int .i64 r.den, .bool r.drop] ∧ Drew c h h' := by
  have hcl := k.lt
  have B2 := Bx.new h (encRate zRate) []
  have eM := Ext.more h [encRate zRate]
  simp only [encRate, zRate] at B2 eM
  refine ACall.of Tryz.func27 s27 (of_decide_eq_true rfl) ?_
  simp (maxSteps := 4000000) (disch := omega) only [ah, am, Nat.reduceEqDiff, reduceCtorEq, Nat.reduceAdd, Nat.reduceLeDiff, Nat.reduceMul, Nat.reduceLT, if_true, if_false, true_and, and_true, and_self, Nat.reduceBEq, QOp.loads, boxO, bslO, buildO, cutL, fillV, putL, w27, v27]
  obtain ⟨K0, hK0⟩ : ∃ K0, K0 = h.more [[.int .i64 0, .int .i64 0, .bool false]] := ⟨_, rfl⟩
  obtain ⟨b2, hb2⟩ : ∃ q, q = h.size := ⟨_, rfl⟩
  rw [← hK0] at B2 eM ⊢
  rw [← hb2] at B2 ⊢
  have hge : h.size ≤ b2 := by omega
  have hbc : b2 ≠ c := by omega
  have C0 := k.ext eM
  refine stepC.of (l1Once_ok K0 c 8 C0) ?_
  rintro _ K ⟨b, rfl, g, C⟩
  have B2 := B2.step g hbc
  have X : ExtX [c] h K := eM.toX.trans (g.toX (by simp))
  cases b with
  | true =>
    simp (maxSteps := 4000000) (disch := omega) only [ah, am, Nat.reduceEqDiff, reduceCtorEq, Nat.reduceAdd, Nat.reduceLeDiff, Nat.reduceMul, Nat.reduceLT, if_true, if_false, true_and, and_true, and_self, Nat.reduceBEq, QOp.loads, boxO, bslO, buildO, cutL, fillV, putL, w27, v27]
    refine stepC.of (l1DrawRate_ok K c C) ?_
    rintro _ K2 ⟨r, rfl, g2, C2⟩
    have B2 := B2.step g2 hbc
    have X2 := X.trans (g2.toX (by simp))
    obtain ⟨K3, es, D, L⟩ := rate_leaf (r := r) (a := zRate) C2 X2 hcl B2 hge
    simp (maxSteps := 4000000) (disch := omega) only [ah, am, Nat.reduceEqDiff, reduceCtorEq, Nat.reduceAdd, Nat.reduceLeDiff, Nat.reduceMul, Nat.reduceLT, if_true, if_false, true_and, and_true, and_self, Nat.reduceBEq, QOp.loads, boxO, bslO, buildO, cutL, fillV, putL, w27, v27, es, L]
    exact ⟨r, rfl, D⟩
  | false =>
    have hcK := C.lt
    simp (maxSteps := 4000000) (disch := omega) only [ah, am, Nat.reduceEqDiff, reduceCtorEq, Nat.reduceAdd, Nat.reduceLeDiff, Nat.reduceMul, Nat.reduceLT, if_true, if_false, true_and, and_true, and_self, Nat.reduceBEq, QOp.loads, boxO, bslO, buildO, cutL, fillV, putL, w27, v27]
    refine stepC.of (l1Below_ok _ c 4 (C.ext (Ext.more K _))) ?_
    rintro _ K2 ⟨z, rfl, z1, z2, _, g2, C2⟩
    have z3 : z < 4 := z2 (by omega)
    obtain ⟨r, hr⟩ := pick_rates (H := K) rates4 g2 hcK z1 (by show z < 4; exact z3)
    have B2 := (B2.ext (Ext.more K _)).step g2 hbc
    have X2 := (X.trans (Ext.more K _).toX).trans (g2.toX (by simp))
    obtain ⟨K3, es, D, L⟩ := rate_leaf (r := r) (a := zRate) C2 X2 hcl B2 hge
    have IAz : iaV 3 (.slice (some ⟨K.size, 0, none⟩) 4 3) (.int .i64 z) = some (.pointer (some ⟨K.size, z.toNat * 3, none⟩)) := by
      rw [iaV_slice _ _ _ _ _ _ (by omega) (by omega)]; simp
    simp (maxSteps := 4000000) (disch := omega) only [ah, am, Nat.reduceEqDiff, reduceCtorEq, Nat.reduceAdd, Nat.reduceLeDiff, Nat.reduceMul, Nat.reduceLT, if_true, if_false, true_and, and_true, and_self, Nat.reduceBEq, QOp.loads, boxO, bslO, buildO, cutL, fillV, putL, w27, v27, IAz, hr, es, L]
    exact ⟨r, rfl, D⟩
end Go.Proofs.YtgmimgmdbpcecaaGreatDoor
end

section
namespace Go.Proofs.YtgmimgmdbpcecaaGreatDoor
open Go Go.Ah
set_option linter.unusedSimpArgs false
set_option linter.unusedVariables false
set_option maxRecDepth 10000
set_option maxHeartbeats 4000000
/-! 18 loop.example/g00066/spec.DrawReadList: parameters 1, live [0], slots [0:code, 1:code, 4:c, 5:r, 6:b, 7:n, 8:k] -/
def c18_0 : List SOper := [⟨some 2, .a (.new [(.int .i64 0), (.int .i64 0), (.bool false)]), none⟩, ⟨some 3, .q (.mv (.c (.string ⟨#[]⟩))), none⟩]
def c18_1 : List SOper := [⟨some 9, .q (.mv (.t 0)), none⟩, ⟨some 10, .e (.call 26 [(.t 9)]), none⟩, ⟨some 4, .q (.mv (.t 10)), none⟩]
def c18_2 : List SOper := [⟨some 11, .q (.mv (.t 4)), none⟩, ⟨some 12, .e (.call 27 [(.t 11)]), none⟩, ⟨some 5, .a (.new [(.int .i64 0), (.int .i64 0), (.bool false)]), none⟩, ⟨none, .e (.st 3 (.t 5) (.t 12)), none⟩]
def c18_3 : List DOper := [⟨0, ⟨some 13, .q (.ldn 3 (.t 5)), none⟩, [], []⟩, ⟨1, ⟨some 14, .q (.mv (.t 4)), none⟩, [], []⟩, ⟨2, ⟨some 15, .e (.call 28 [(.t 14)]), none⟩, [], [0]⟩, ⟨3, ⟨some 16, .e (.call 15 [(.t 13), (.t 15)]), none⟩, [], []⟩, ⟨4, ⟨some 17, .a (.csb (.t 16)), none⟩, [], []⟩, ⟨5, ⟨some 6, .q (.mv (.t 17)), none⟩, [], []⟩]
def c18_4 : List SOper := [⟨some 18, .q (.mv (.t 4)), none⟩, ⟨some 19, .e (.call 29 [(.t 18), (.c (.int .i64 2))]), none⟩, ⟨some 20, .q (.mv (.t 19)), none⟩, ⟨some 21, .q (.mv (.t 6)), some (20, true)⟩, ⟨some 22, .q (.len (.t 21)), some (20, true)⟩, ⟨some 23, .q (.bin .gtr (.t 22) (.c (.int .i64 0))), some (20, true)⟩, ⟨some 24, .q (.pick (.t 20) (.t 23) (.c (.bool false))), none⟩]
def c18_5 : List SOper := [⟨some 25, .q (.mv (.t 4)), none⟩, ⟨some 26, .e (.call 38 [(.t 25), (.c (.int .i64 2))]), none⟩, ⟨some 27, .q (.bin .add (.c (.int .i64 1)) (.t 26)), none⟩, ⟨some 7, .q (.mv (.t 27)), none⟩]
def c18_6 : List SOper := [⟨some 28, .q (.mv (.t 7)), none⟩, ⟨some 29, .q (.bin .gtr (.t 28) (.c (.int .i64 0))), none⟩, ⟨some 30, .q (.mv (.t 29)), none⟩, ⟨some 31, .q (.mv (.t 6)), some (30, true)⟩, ⟨some 32, .q (.len (.t 31)), some (30, true)⟩, ⟨some 33, .q (.bin .gtr (.t 32) (.c (.int .i64 0))), some (30, true)⟩, ⟨some 34, .q (.pick (.t 30) (.t 33) (.c (.bool false))), none⟩]
def c18_7 : SCode := .cond (.t 34) .skip (.exit 0)
def c18_8 : SCode := .seq (.region c18_6 [2, 4, 5, 6, 7, 34]) c18_7
def c18_9 : List SOper := [⟨some 37, .q (.mv (.t 4)), none⟩, ⟨some 38, .q (.mv (.t 6)), none⟩, ⟨some 39, .q (.len (.t 38)), none⟩, ⟨some 40, .e (.call 38 [(.t 37), (.t 39)]), none⟩, ⟨some 8, .q (.mv (.t 40)), none⟩]
def c18_10 : List SOper := [⟨some 41, .q (.mv (.t 4)), none⟩, ⟨some 42, .e (.call 38 [(.t 41), (.c (.int .i64 5))]), none⟩]
def c18_11 : List SOper := [⟨some 44, .q (.bin .eql (.t 42) (.c (.int .i64 0))), none⟩, ⟨some 43, .q (.mv (.t 44)), none⟩]
def c18_12 : List SOper := [⟨some 45, .q (.mv (.t 6)), none⟩, ⟨some 46, .q (.mv (.t 8)), none⟩, ⟨some 47, .a (.bsl 14 1 [(.int .u8 0), (.int .u8 0), (.int .u8 0), (.int .u8 0), (.int .u8 0), (.int .u8 0), (.int .u8 0), (.int .u8 0), (.int .u8 0), (.int .u8 0), (.int .u8 0), (.int .u8 0), (.int .u8 0), (.int .u8 0)] [(0, 1, (.c (.int .u8 48))), (1, 1, (.c (.int .u8 49))), (2, 1, (.c (.int .u8 50))), (3, 1, (.c (.int .u8 51))), (4, 1, (.c (.int .u8 32))), (5, 1, (.c (.int .u8 58))), (6, 1, (.c (.int .u8 59))), (7, 1, (.c (.int .u8 66))), (8, 1, (.c (.int .u8 76))), (9, 1, (.c (.int .u8 82))), (10, 1, (.c (.int .u8 67))), (11, 1, (.c (.int .u8 10))), (12, 1, (.c (.int .u8 53))), (13, 1, (.c (.int .u8 120)))]), none⟩, ⟨some 48, .e (.cnv (.t 47)), none⟩, ⟨some 49, .q (.mv (.t 4)), none⟩, ⟨some 50, .e (.call 38 [(.t 49), (.c (.int .i64 14))]), none⟩, ⟨some 51, .q (.ia 1 (.t 48) (.t 50)), none⟩, ⟨some 52, .q (.ld (.t 51)), none⟩, ⟨some 53, .q (.ia 1 (.t 45) (.t 46)), none⟩, ⟨none, .e (.st 1 (.t 53) (.t 52)), none⟩]
def c18_13 : List SOper := [⟨some 55, .q (.bin .eql (.t 42) (.c (.int .i64 1))), none⟩, ⟨some 54, .q (.mv (.t 55)), none⟩]
def c18_14 : List SOper := [⟨some 56, .q (.mv (.t 6)), none⟩, ⟨some 57, .q (.mv (.t 8)), none⟩, ⟨some 58, .q (.slc 1 (.t 56) none (some (.t 57))), none⟩, ⟨some 6, .q (.mv (.t 58)), none⟩]
def c18_15 : List SOper := [⟨some 60, .q (.bin .eql (.t 42) (.c (.int .i64 2))), none⟩, ⟨some 59, .q (.mv (.t 60)), none⟩]
def c18_16 : List SOper := [⟨some 61, .a (.bsl 0 1 [] []), none⟩, ⟨some 62, .q (.mv (.t 6)), none⟩, ⟨some 63, .q (.mv (.t 8)), none⟩, ⟨some 64, .q (.slc 1 (.t 62) none (some (.t 63))), none⟩, ⟨some 66, .q (.mv (.t 6)), none⟩, ⟨some 67, .q (.mv (.t 8)), none⟩, ⟨some 68, .q (.bin .add (.t 67) (.c (.int .i64 1))), none⟩, ⟨some 69, .q (.slc 1 (.t 66) (some (.t 68)) none), none⟩, ⟨some 65, .e (.app 1 1 (.t 61) (.t 64)), none⟩, ⟨some 70, .e (.app 1 1 (.t 65) (.t 69)), none⟩, ⟨some 6, .q (.mv (.t 70)), none⟩]
def c18_17 : List SOper := [⟨some 72, .q (.bin .eql (.t 42) (.c (.int .i64 3))), none⟩, ⟨some 71, .q (.mv (.t 72)), none⟩]
def c18_18 : List SOper := [⟨some 73, .a (.bsl 0 1 [] []), none⟩, ⟨some 74, .q (.mv (.t 6)), none⟩, ⟨some 75, .q (.mv (.t 8)), none⟩, ⟨some 76, .q (.slc 1 (.t 74) none (some (.t 75))), none⟩, ⟨some 78, .a (.bsl 1 1 [(.int .u8 0)] [(0, 1, (.c (.int .u8 32)))]), none⟩, ⟨some 80, .q (.mv (.t 6)), none⟩, ⟨some 81, .q (.mv (.t 8)), none⟩, ⟨some 82, .q (.slc 1 (.t 80) (some (.t 81)) none), none⟩, ⟨some 77, .e (.app 1 1 (.t 73) (.t 76)), none⟩, ⟨some 79, .e (.app 1 1 (.t 77) (.t 78)), none⟩, ⟨some 83, .e (.app 1 1 (.t 79) (.t 82)), none⟩, ⟨some 6, .q (.mv (.t 83)), none⟩]
def c18_19 : List SOper := [⟨some 85, .q (.bin .eql (.t 42) (.c (.int .i64 4))), none⟩, ⟨some 84, .q (.mv (.t 85)), none⟩]
def c18_20 : List SOper := [⟨some 86, .q (.mv (.t 6)), none⟩, ⟨some 87, .e (.app 1 1 (.t 86) (.c (.string ⟨#[48, 48, 50, 32, 82, 49, 32, 67, 32, 48, 48, 58, 48, 48, 58, 48, 48, 58, 48, 48, 32, 48, 48, 58, 48, 48, 58, 48, 48, 58, 48, 49, 32, 48, 48, 58, 48, 48, 58, 48, 48, 58, 48, 48, 32, 48, 48, 58, 48, 48, 58, 48, 48, 58, 48, 49, 10]⟩))), none⟩, ⟨some 6, .q (.mv (.t 87)), none⟩]
def c18_21 : SCode := .cond (.t 84) (.region c18_20 [2, 4, 5, 6, 7]) .skip
def c18_22 : SCode := .seq (.region c18_19 [2, 4, 5, 6, 7, 84]) c18_21
def c18_23 : SCode := .cond (.t 71) (.region c18_18 [2, 4, 5, 6, 7]) c18_22
def c18_24 : SCode := .seq (.region c18_17 [2, 4, 5, 6, 7, 8, 42, 71]) c18_23
def c18_25 : SCode := .cond (.t 59) (.region c18_16 [2, 4, 5, 6, 7]) c18_24
def c18_26 : SCode := .seq (.region c18_15 [2, 4, 5, 6, 7, 8, 42, 59]) c18_25
def c18_27 : SCode := .cond (.t 54) (.region c18_14 [2, 4, 5, 6, 7]) c18_26
def c18_28 : SCode := .seq (.region c18_13 [2, 4, 5, 6, 7, 8, 42, 54]) c18_27
def c18_29 : SCode := .cond (.t 43) (.region c18_12 [2, 4, 5, 6, 7]) c18_28
def c18_30 : SCode := .seq (.region c18_11 [2, 4, 5, 6, 7, 8, 42, 43]) c18_29
def c18_31 : SCode := .block 2 c18_30
def c18_32 : SCode := .seq (.region c18_10 [2, 4, 5, 6, 7, 8, 42]) c18_31
def c18_33 : SCode := .seq (.region c18_9 [2, 4, 5, 6, 7, 8]) c18_32
def c18_34 : SCode := .block 1 c18_33
def c18_35 : List SOper := [⟨some 35, .q (.mv (.t 7)), none⟩, ⟨some 36, .q (.bin .sub (.t 35) (.c (.int .i64 1))), none⟩, ⟨some 7, .q (.mv (.t 36)), none⟩]
def c18_36 : SCode := .seq c18_34 (.region c18_35 [2, 4, 5, 6, 7])
def c18_37 : SCode := .seq c18_8 c18_36
def c18_38 : SCode := .loop c18_37
def c18_39 : SCode := .block 0 c18_38
def c18_40 : SCode := .seq (.region c18_5 [2, 4, 5, 6, 7]) c18_39
def c18_41 : SCode := .cond (.t 24) c18_40 .skip
def c18_42 : SCode := .seq (.region c18_4 [2, 4, 5, 6, 24]) c18_41
def c18_43 : List DOper := [⟨0, ⟨some 88, .q (.ldn 3 (.t 5)), none⟩, [], []⟩, ⟨1, ⟨some 89, .q (.mv (.t 6)), none⟩, [], []⟩, ⟨2, ⟨some 90, .q (.cbs (.t 89)), none⟩, [], []⟩, ⟨3, ⟨none, .e (.st 3 (.t 2) (.t 88)), none⟩, [], [2]⟩, ⟨4, ⟨some 3, .q (.mv (.t 90)), none⟩, [], []⟩]
def c18_44 : SCode := .seq (.dregion c18_43 [2, 3]) .ret
def c18_45 : SCode := .seq c18_42 c18_44
def c18_46 : SCode := .seq (.dregion c18_3 [2, 4, 5, 6]) c18_45
def c18_47 : SCode := .seq (.region c18_2 [2, 4, 5]) c18_46
def c18_48 : SCode := .seq (.region c18_1 [2, 4]) c18_47
def c18_49 : SCode := .seq (.region c18_0 [0, 2]) c18_48
def c18 : SCode := c18_49
theorem w18 : type_of% (And.intro (uR Tryz.prog c18_0.eq_1) (And.intro (uR Tryz.prog c18_1.eq_1) (And.intro (uR Tryz.prog c18_2.eq_1) (And.intro (uD Tryz.prog c18_3.eq_1) (And.intro (uR Tryz.prog c18_4.eq_1) (And.intro (uR Tryz.prog c18_5.eq_1) (And.intro (uR Tryz.prog c18_6.eq_1) (And.intro (uC Tryz.prog c18_7.eq_1) (And.intro (uC Tryz.prog c18_8.eq_1) (And.intro (uR Tryz.prog c18_9.eq_1) (And.intro (uR Tryz.prog c18_10.eq_1) (And.intro (uR Tryz.prog c18_11.eq_1) (And.intro (uR Tryz.prog c18_12.eq_1) (And.intro (uR Tryz.prog c18_13.eq_1) (And.intro (uR Tryz.prog c18_14.eq_1) (And.intro (uR Tryz.prog c18_15.eq_1) (And.intro (uR Tryz.prog c18_16.eq_1) (And.intro (uR Tryz.prog c18_17.eq_1) (And.intro (uR Tryz.prog c18_18.eq_1) (And.intro (uR Tryz.prog c18_19.eq_1) (And.intro (uR Tryz.prog c18_20.eq_1) (And.intro (uC Tryz.prog c18_21.eq_1) (And.intro (uC Tryz.prog c18_22.eq_1) (And.intro (uC Tryz.prog c18_23.eq_1) (And.intro (uC Tryz.prog c18_24.eq_1) (And.intro (uC Tryz.prog c18_25.eq_1) (And.intro (uC Tryz.prog c18_26.eq_1) (And.intro (uC Tryz.prog c18_27.eq_1) (And.intro (uC Tryz.prog c18_28.eq_1) (And.intro (uC Tryz.prog c18_29.eq_1) (And.intro (uC Tryz.prog c18_30.eq_1) (And.intro (uC Tryz.prog c18_31.eq_1) (And.intro (uC Tryz.prog c18_32.eq_1) (And.intro (uC Tryz.prog c18_33.eq_1) (And.intro (uC Tryz.prog c18_34.eq_1) (And.intro (uR Tryz.prog c18_35.eq_1) (And.intro (uC Tryz.prog c18_36.eq_1) (And.intro (uC Tryz.prog c18_37.eq_1) (And.intro (uC Tryz.prog c18_38.eq_1) (And.intro (uC Tryz.prog c18_39.eq_1) (And.intro (uC Tryz.prog c18_40.eq_1) (And.intro (uC Tryz.prog c18_41.eq_1) (And.intro (uC Tryz.prog c18_42.eq_1) (And.intro (uD Tryz.prog c18_43.eq_1) (And.intro (uC Tryz.prog c18_44.eq_1) (And.intro (uC Tryz.prog c18_45.eq_1) (And.intro (uC Tryz.prog c18_46.eq_1) (And.intro (uC Tryz.prog c18_47.eq_1) (And.intro (uC Tryz.prog c18_48.eq_1) (And.intro (uC Tryz.prog c18_49.eq_1) (uC Tryz.prog c18.eq_1))))))))))))))))))))))))))))))))))))))))))))))))))) := (And.intro (uR Tryz.prog c18_0.eq_1) (And.intro (uR Tryz.prog c18_1.eq_1) (And.intro (uR Tryz.prog c18_2.eq_1) (And.intro (uD Tryz.prog c18_3.eq_1) (And.intro (uR Tryz.prog c18_4.eq_1) (And.intro (uR Tryz.prog c18_5.eq_1) (And.intro (uR Tryz.prog c18_6.eq_1) (And.intro (uC Tryz.prog c18_7.eq_1) (And.intro (uC Tryz.prog c18_8.eq_1) (And.intro (uR Tryz.prog c18_9.eq_1) (And.intro (uR Tryz.prog c18_10.eq_1) (And.intro (uR Tryz.prog c18_11.eq_1) (And.intro (uR Tryz.prog c18_12.eq_1) (And.intro (uR Tryz.prog c18_13.eq_1) (And.intro (uR Tryz.prog c18_14.eq_1) (And.intro (uR Tryz.prog c18_15.eq_1) (And.intro (uR Tryz.prog c18_16.eq_1) (And.intro (uR Tryz.prog c18_17.eq_1) (And.intro (uR Tryz.prog c18_18.eq_1) (And.intro (uR Tryz.prog c18_19.eq_1) (And.intro (uR Tryz.prog c18_20.eq_1) (And.intro (uC Tryz.prog c18_21.eq_1) (And.intro (uC Tryz.prog c18_22.eq_1) (And.intro (uC Tryz.prog c18_23.eq_1) (And.intro (uC Tryz.prog c18_24.eq_1) (And.intro (uC Tryz.prog c18_25.eq_1) (And.intro (uC Tryz.prog c18_26.eq_1) (And.intro (uC Tryz.prog c18_27.eq_1) (And.intro (uC Tryz.prog c18_28.eq_1) (And.intro (uC Tryz.prog c18_29.eq_1) (And.intro (uC Tryz.prog c18_30.eq_1) (And.intro (uC Tryz.prog c18_31.eq_1) (And.intro (uC Tryz.prog c18_32.eq_1) (And.intro (uC Tryz.prog c18_33.eq_1) (And.intro (uC Tryz.prog c18_34.eq_1) (And.intro (uR Tryz.prog c18_35.eq_1) (And.intro (uC Tryz.prog c18_36.eq_1) (And.intro (uC Tryz.prog c18_37.eq_1) (And.intro (uC Tryz.prog c18_38.eq_1) (And.intro (uC Tryz.prog c18_39.eq_1) (And.intro (uC Tryz.prog c18_40.eq_1) (And.intro (uC Tryz.prog c18_41.eq_1) (And.intro (uC Tryz.prog c18_42.eq_1) (And.intro (uD Tryz.prog c18_43.eq_1) (And.intro (uC Tryz.prog c18_44.eq_1) (And.intro (uC Tryz.prog c18_45.eq_1) (And.intro (uC Tryz.prog c18_46.eq_1) (And.intro (uC Tryz.prog c18_47.eq_1) (And.intro (uC Tryz.prog c18_48.eq_1) (And.intro (uC Tryz.prog c18_49.eq_1) (uC Tryz.prog c18.eq_1)))))))))))))))))))))))))))))))))))))))))))))))))))
def v18 : List RV := [.c 2 (some 3), .t 3]
theorem s18 : slimF Tryz.prog Tryz.f18 = some (c18.bare, v18) := by kernel_rfl

section
variable {X : List Nat} {h0 h h' : Heap} {v : Value} {l : List UInt8} {B : List (Nat × List Value)}
theorem cbs_fk (F : Fk X h0 h encU 1 v l B) : cbsV h v = some (.string (bL l)) := by
  obtain ⟨g, hg, o, _⟩ := F.own
  rcases o.own with ⟨rfl, h2⟩ | ⟨i, p, n, ob, rfl, h2, h3, h4, h5, _⟩
  · have : l = [] := by
      cases l with
      | nil => rfl
      | cons b l => simp [encU] at h2
    subst this; rfl
  · have hr : rdn h i p n = some (l.map fun b => Value.int .u8 (b.toNat : Int)) := by
      rw [← flatU, ← h5]
      unfold rdn
      rw [h2]
      simp only [Nat.mul_one] at h4 h5 ⊢
      rw [if_pos ⟨h3, h4⟩]
    simp only [cbsV, hr, Option.bind_some, bytesV_map, Option.map_some, bytesS_map]
theorem Fk_appS (F : Fk X h0 h encU 1 v l B) (m : List UInt8) (hr : l.length + m.length ≤ 70368744177664) :
    ∃ v' h2, appV h 1 1 v (.string (bL m)) = some (v', h2) ∧ Fk X h0 h2 encU 1 v' (l ++ m) B ∧ ∃ g, h0.size ≤ g ∧ ExtG g h h2 := by
  obtain ⟨g, g1, g2, g3, g4⟩ := F.grp h.size (Nat.le_refl _)
  obtain ⟨v', h2, g', e, O, G, hg', _⟩ := g3.own.app (y := .string (bL m)) (bytes := 1) (srcW_str h m) (by rw [flat_len encU_len]) (by rw [g3.slt.slLen]; omega)
  have hsz := F.ext.1
  refine ⟨v', h2, e, ⟨F.ext.top G g1, ⟨g', by omega, ⟨by rw [List.flatMap_append]; exact O, encU_len, by omega⟩, fun p hp => ?_⟩, fun p hp => ⟨(F.box p hp).1, G.2 _ _ (F.box p hp).2 (g4 p hp)⟩⟩, g, g1, G⟩
  have h5 := Heap.get_lt (F.box p hp).2
  rcases hg' with rfl | rfl
  · exact g4 p hp
  · omega
theorem Fk_upTo (F : Fk X h0 h encU 1 v l B) (k : Nat) (hk : k ≤ l.length) (hl : 0 < l.length) :
    ∃ u, slcV 1 v none (some (.int .i64 (k : Int))) = some u ∧ Fk X h0 h encU 1 u (l.take k) B := by
  obtain ⟨g, g1, g2, g3⟩ := F.own
  obtain ⟨u, e, O⟩ := OwnT_upTo g2 k hk hl
  exact ⟨u, e, F.ext, ⟨g, g1, O, g3⟩, F.box⟩
/-- Another slice, made since. -/
theorem Fk_renew {v' : Value} {l' : List UInt8} (F : Fk X h0 h encU 1 v l B) (R : Fresh h h' encU 1 v' l') : Fk X h0 h' encU 1 v' l' B := by
  obtain ⟨e, g, hg, O⟩ := R
  have F2 := F.step e
  exact ⟨F2.ext, ⟨g, Nat.le_trans F.ext.1 hg, O, fun p hp => by have := Heap.get_lt (F.box p hp).2; omega⟩, F2.box⟩
theorem cnv_box {K : Heap} {i : Nat} {cs : List Value} (b : Bx K i cs) (o : Nat) (n s : Nat) : cnvV K (.slice (some ⟨i, o, none⟩) n s) = some (.slice (some ⟨i, o, none⟩) n s, K) := by
  unfold Bx at b
  simp only [cnvV, b, if_true]
end
theorem showL_len {r : Rate} {l : List Clip} : (showL r l).length ≤ 300000 := by
  by_cases ok : rateOk r ∧ trackOk l
  rotate_left
  · rw [showL_bad ok]; simp
  by_cases A : ∀ j, j < (join l).length → lnN r (join l) j ≠ []
  rotate_left
  · have : showL r l = [] := by
      unfold showL; rw [if_pos ok, if_neg A]
    rw [this]; simp
  rw [showL_some ok A]
  have hjl := join_length l
  have h3 := ok.2.1
  have := outN_len r (join l) (join_src fun k hk => by have := ok.2.2.1 k hk; unfold clipOk at this; omega) (by omega) (join l).length (Nat.le_refl _)
  omega
/-- The letters that are set in. -/
def litsL : List UInt8 := [48, 49, 50, 51, 32, 58, 59, 66, 76, 82, 67, 10, 53, 120]
theorem pick_u8 {H H' : Heap} {c : Nat} {z : Int} (g : ExtG c (H.more [litsL.flatMap encU]) H') (hc : c < H.size) (hz : 0 ≤ z) (hlt : z < 14) :
    ∃ b : UInt8, ldV H' (.pointer (some ⟨H.size, z.toNat, none⟩)) = some (.int .u8 (b.toNat : Int)) := by
  have b := (Bx.new H (litsL.flatMap encU) []).step g (by omega)
  have hz2 : z.toNat < litsL.length := by show z.toNat < 14; omega
  refine ⟨litsL[z.toNat], ?_⟩
  rw [b.ld.1, flatU, List.getElem?_map, List.getElem?_eq_getElem hz2]; rfl
theorem DrawReadList_ok (h : Heap) (v : Value) (code : List Int) (s : SlT h encByte 1 v code) (hl : code.length ≤ 4096) :
    ACall Tryz.prog 18 [v] h fun x h' => ∃ (r : Rate) (y : List UInt8), x = .tuple #[.agg #[.int .i64 r.num, .int .i64 r.den, .bool r.drop], .string (bL y)] ∧ Ext h h' ∧ y.length ≤ 1000000 := by
  have B2 := Bx.new h (encRate zRate) []
  have eM := Ext.more h [encRate zRate]
  simp only [encRate, zRate] at B2 eM
  refine ACall.of Tryz.func18 s18 (of_decide_eq_true rfl) ?_
  simp (maxSteps := 4000000) (disch := omega) only [ah, am, Nat.reduceEqDiff, reduceCtorEq, Nat.reduceAdd, Nat.reduceLeDiff, Nat.reduceMul, Nat.reduceLT, if_true, if_false, true_and, and_true, and_self, Nat.reduceBEq, QOp.loads, boxO, bslO, buildO, cutL, fillV, putL, w18, v18]
  obtain ⟨K0, hK0⟩ : ∃ K0, K0 = h.more [[.int .i64 0, .int .i64 0, .bool false]] := ⟨_, rfl⟩
  obtain ⟨b2, hb2⟩ : ∃ q, q = h.size := ⟨_, rfl⟩
  rw [← hK0] at B2 eM ⊢
  rw [← hb2] at B2 ⊢
  have hge : h.size ≤ b2 := by omega
  refine stepC.of (l1New_ok K0 v code (s.ext eM) hl) ?_
  rintro _ K1 ⟨e1, rfl, C1⟩
  have hb2lt := Heap.get_lt B2
  obtain ⟨c, hc⟩ : ∃ q, q = K0.size := ⟨_, rfl⟩
  rw [← hc] at C1 ⊢
  have hcb : b2 ≠ c := by omega
  have hch : h.size ≤ c := by have := eM.1; omega
  have E1 := eM.trans e1
  have B2 := B2.ext e1
  simp (maxSteps := 4000000) (disch := omega) only [ah, am, Nat.reduceEqDiff, reduceCtorEq, Nat.reduceAdd, Nat.reduceLeDiff, Nat.reduceMul, Nat.reduceLT, if_true, if_false, true_and, and_true, and_self, Nat.reduceBEq, QOp.loads, boxO, bslO, buildO, cutL, fillV, putL, w18, v18]
  refine stepC.of (l6DrawRate_ok K1 c C1) ?_
  rintro _ K2 ⟨r, rfl, g2, C2⟩
  have B2 := B2.step g2 hcb
  have hb2K2 := Heap.get_lt B2
  have E2 := g2.ext E1 hch
  have e3 := Ext.more K2 [encRate r]
  have B5 := Bx.new K2 (encRate r) []
  simp only [encRate] at e3 B5
  simp (maxSteps := 4000000) (disch := omega) only [ah, am, Nat.reduceEqDiff, reduceCtorEq, Nat.reduceAdd, Nat.reduceLeDiff, Nat.reduceMul, Nat.reduceLT, if_true, if_false, true_and, and_true, and_self, Nat.reduceBEq, QOp.loads, boxO, bslO, buildO, cutL, fillV, putL, w18, v18]
  obtain ⟨K3, hK3⟩ : ∃ K3, K3 = K2.more [[.int .i64 r.num, .int .i64 r.den, .bool r.drop]] := ⟨_, rfl⟩
  obtain ⟨b5, hb5⟩ : ∃ q, q = K2.size := ⟨_, rfl⟩
  rw [← hK3] at e3 B5 ⊢
  rw [← hb5] at B5 ⊢
  have C3 := C2.ext e3
  have E3 := E2.trans e3
  have B2 := B2.ext e3
  have hc5 : b5 ≠ c := by have := C2.lt; omega
  have h25 : b2 ≠ b5 := by omega
  clear hK3 hK0
  have hcl := C3.lt
  have hb2l := Heap.get_lt B2
  have hb5l := Heap.get_lt B5
  have hin : c ∈ [c] := by simp
  refine stepC.of (l4DrawTrack_ok K3 c C3) ?_
  rintro tv K4 ⟨l, FT, C4, DL⟩
  have B54 := bx_x B5 FT.ext (by simp; omega)
  have sl := specShowList_ok K4 tv r l FT.slt (by have := DL.2; omega)
  simp only [encRate] at sl
  simp (maxSteps := 4000000) (disch := omega) only [ah, am, Nat.reduceEqDiff, reduceCtorEq, Nat.reduceAdd, Nat.reduceLeDiff, Nat.reduceMul, Nat.reduceLT, if_true, if_false, true_and, and_true, and_self, Nat.reduceBEq, QOp.loads, boxO, bslO, buildO, cutL, fillV, putL, w18, v18, rechk_cons, rechk_end, chkV_some, chkV_false, B54.ld]
  refine stepC.of sl ?_
  rintro _ K5 ⟨e5, rfl⟩
  have hyl := showL_len (r := r) (l := l)
  generalize showL r l = y0 at hyl
  have hys : (bL y0).size = y0.length := bL_size y0
  have FB : Fresh K5 (K5.more [y0.map fun b => Value.int .u8 (b.toNat : Int)]) encU 1 (.slice (some ⟨K5.size, 0, none⟩) y0.length 1) y0 := by
    have := Fresh.new K5 y0 encU_len (by omega)
    rw [flatU] at this; exact this
  have F6 : Fk [c] K3 (K5.more [y0.map fun b => Value.int .u8 (b.toNat : Int)]) encU 1 (.slice (some ⟨K5.size, 0, none⟩) y0.length 1) y0 [] := (Fk.of (X := [c]) FB).mono (FT.ext.trans e5.toX)
  have C6 : Cur (K5.more [y0.map fun b => Value.int .u8 (b.toNat : Int)]) c := (C4.ext e5).ext FB.1
  simp (maxSteps := 4000000) (disch := omega) only [ah, am, Nat.reduceEqDiff, reduceCtorEq, Nat.reduceAdd, Nat.reduceLeDiff, Nat.reduceMul, Nat.reduceLT, if_true, if_false, true_and, and_true, and_self, Nat.reduceBEq, QOp.loads, boxO, bslO, buildO, cutL, fillV, putL, w18, v18, hys, bL_data]
  generalize K5.more [y0.map fun b => Value.int .u8 (b.toNat : Int)] = K6 at F6 C6
  generalize (Value.slice (some ⟨K5.size, 0, none⟩) y0.length 1) = v0 at F6
  clear FB sl
  have X6 : ∀ (K : Heap) (v : Value) (y : List UInt8), Fk [c] K3 K encU 1 v y [] → Ext h K := fun K v y F => (F.ext.toG).ext E3 hch
  have fin : ∀ (K : Heap) (v : Value) (y : List UInt8) (R : Env), Fk [c] K3 K encU 1 v y [] → y.length ≤ 1000000 → SW Tryz.prog c18_44 (retQ v18 fun x h' => ∃ (r : Rate) (y : List UInt8), x = .tuple #[.agg #[.int .i64 r.num, .int .i64 r.den, .bool r.drop], .string (bL y)] ∧ Ext h h' ∧ y.length ≤ 1000000)
      ((2, .pointer (some ⟨b2, 0, none⟩)) :: (4, .pointer (some ⟨c, 0, none⟩)) :: (5, .pointer (some ⟨b5, 0, none⟩)) :: (6, v) :: R) K := by
    intro K v y R F hy
    have B5K := bx_x B5 F.ext (by simp; omega)
    have B2K := bx_x B2 F.ext (by simp; omega)
    obtain ⟨K', es, B', G⟩ := put_rate (a := zRate) B2K r
    have cb := cbs_fk F
    have Fw : Fk [c, b2] K3 K encU 1 v y [] := ⟨⟨F.ext.1, fun i ob hi hn => F.ext.2 i ob hi (by simp at hn ⊢; exact hn.1)⟩, F.own, F.box⟩
    have cb2 := cbs_fk (Fw.stepG G (by simp) (by omega))
    simp only [encRate] at B'
    simp (maxSteps := 4000000) (disch := omega) only [ah, am, Nat.reduceEqDiff, reduceCtorEq, Nat.reduceAdd, Nat.reduceLeDiff, Nat.reduceMul, Nat.reduceLT, if_true, if_false, true_and, and_true, and_self, Nat.reduceBEq, QOp.loads, boxO, bslO, buildO, cutL, fillV, putL, w18, v18, B5K.ld, ev_cbs, cb, es, rechk_cons, rechk_end, chkV_some, chkV_false, cb2, B'.ld]
    exact ⟨r, y, rfl, G.ext (X6 K v y F) hge, hy⟩
  generalize c18_44 = fc at fin ⊢
  refine stepC.of (l1Once_ok K6 c 2 C6) ?_
  rintro _ K7 ⟨b, rfl, g7, C7⟩
  have F7 := F6.stepG g7 hin hcl
  have R7 := F7.slt.rulesN.1
  cases b with
  | false =>
    simp (maxSteps := 4000000) (disch := omega) only [ah, am, Nat.reduceEqDiff, reduceCtorEq, Nat.reduceAdd, Nat.reduceLeDiff, Nat.reduceMul, Nat.reduceLT, if_true, if_false, true_and, and_true, and_self, Nat.reduceBEq, QOp.loads, boxO, bslO, buildO, cutL, fillV, putL, w18, v18]
    exact fin K7 v0 y0 _ F7 (by omega)
  | true =>
  by_cases y00 : 0 < y0.length
  rotate_left
  · simp (maxSteps := 4000000) (disch := omega) only [ah, am, Nat.reduceEqDiff, reduceCtorEq, Nat.reduceAdd, Nat.reduceLeDiff, Nat.reduceMul, Nat.reduceLT, if_true, if_false, true_and, and_true, and_self, Nat.reduceBEq, QOp.loads, boxO, bslO, buildO, cutL, fillV, putL, w18, v18, R7, decide_eq_false (show ¬ (0 : Int) < (y0.length : Int) by omega)]
    exact fin K7 v0 y0 _ F7 (by omega)
  simp (maxSteps := 4000000) (disch := omega) only [ah, am, Nat.reduceEqDiff, reduceCtorEq, Nat.reduceAdd, Nat.reduceLeDiff, Nat.reduceMul, Nat.reduceLT, if_true, if_false, true_and, and_true, and_self, Nat.reduceBEq, QOp.loads, boxO, bslO, buildO, cutL, fillV, putL, w18, v18, R7, decide_eq_true (show (0 : Int) < (y0.length : Int) by omega)]
  refine stepC.of (l1Below_ok K7 c 2 C7) ?_
  rintro _ K8 ⟨x, rfl, x1, x2, _, g8, C8⟩
  have x3 := x2 (by omega)
  obtain ⟨N, hN⟩ : ∃ N : Nat, N = x.toNat + 1 := ⟨_, rfl⟩
  have wN : IntKind.i64.wrap (1 + x) = ((N - 0 : Nat) : Int) := i64e (by omega) (by omega)
  have F8 := F7.stepG g8 hin hcl
  simp (maxSteps := 4000000) (disch := omega) only [ah, am, Nat.reduceEqDiff, reduceCtorEq, Nat.reduceAdd, Nat.reduceLeDiff, Nat.reduceMul, Nat.reduceLT, if_true, if_false, true_and, and_true, and_self, Nat.reduceBEq, QOp.loads, boxO, bslO, buildO, cutL, fillV, putL, w18, v18, wN]
  refine SW_loop_up (fun i E K => ∃ v y, Fk [c] K3 K encU 1 v y [] ∧ Cur K c ∧ y.length ≤ 300000 + 100 * i ∧
    E = [(2, .pointer (some ⟨b2, 0, none⟩)), (4, .pointer (some ⟨c, 0, none⟩)), (5, .pointer (some ⟨b5, 0, none⟩)), (6, v), (7, .int .i64 ((N - i : Nat) : Int))]) N 0 (by omega) ⟨_, _, F8, C8, by omega, rfl⟩ ?_
  clear F8 C8 F7 C7 F6 C6 R7 y00 hyl hys
  rintro i E K hi ⟨v, y, F, C, hy, rfl⟩
  have RL := F.slt.rulesN.1
  by_cases c0 : i < N
  rotate_left
  · have d : decide ((0 : Int) < ((N - i : Nat) : Int)) = false := decide_eq_false (by omega)
    simp (maxSteps := 4000000) (disch := omega) only [ah, am, Nat.reduceEqDiff, reduceCtorEq, Nat.reduceAdd, Nat.reduceLeDiff, Nat.reduceMul, Nat.reduceLT, if_true, if_false, true_and, and_true, and_self, Nat.reduceBEq, QOp.loads, boxO, bslO, buildO, cutL, fillV, putL, w18, v18, d]
    exact fin K v y _ F (by omega)
  have d : decide ((0 : Int) < ((N - i : Nat) : Int)) = true := decide_eq_true (by omega)
  by_cases y1 : 0 < y.length
  rotate_left
  · simp (maxSteps := 4000000) (disch := omega) only [ah, am, Nat.reduceEqDiff, reduceCtorEq, Nat.reduceAdd, Nat.reduceLeDiff, Nat.reduceMul, Nat.reduceLT, if_true, if_false, true_and, and_true, and_self, Nat.reduceBEq, QOp.loads, boxO, bslO, buildO, cutL, fillV, putL, w18, v18, d, RL, decide_eq_false (show ¬ (0 : Int) < (y.length : Int) by omega)]
    exact fin K v y _ F (by omega)
  have wn : IntKind.i64.wrap (((N - i : Nat) : Int) - 1) = ((N - (i + 1) : Nat) : Int) := i64e (by omega) (by omega)
  simp (maxSteps := 4000000) (disch := omega) only [ah, am, Nat.reduceEqDiff, reduceCtorEq, Nat.reduceAdd, Nat.reduceLeDiff, Nat.reduceMul, Nat.reduceLT, if_true, if_false, true_and, and_true, and_self, Nat.reduceBEq, QOp.loads, boxO, bslO, buildO, cutL, fillV, putL, w18, v18, d, RL, decide_eq_true (show (0 : Int) < (y.length : Int) by omega)]
  refine stepC.of (l1Below_ok K c (y.length : Int) C) ?_
  rintro _ K9 ⟨k', rfl, k1, k2, _, g9, C⟩
  have k3 := k2 (by omega)
  have F := F.stepG g9 hin hcl
  obtain ⟨k, rfl⟩ : ∃ k : Nat, k' = (k : Int) := ⟨k'.toNat, by omega⟩
  have hk : k < y.length := by omega
  clear k1 k2 k3 g9 RL
  simp (maxSteps := 4000000) (disch := omega) only [ah, am, Nat.reduceEqDiff, reduceCtorEq, Nat.reduceAdd, Nat.reduceLeDiff, Nat.reduceMul, Nat.reduceLT, if_true, if_false, true_and, and_true, and_self, Nat.reduceBEq, QOp.loads, boxO, bslO, buildO, cutL, fillV, putL, w18, v18]
  refine stepC.of (l1Below_ok K9 c 5 C) ?_
  rintro _ K ⟨z, rfl, z1, z2, _, g10, C⟩
  have z3 := z2 (by omega)
  have F := F.stepG g10 hin hcl
  clear z2 g10
  have wk : IntKind.i64.wrap ((k : Int) + 1) = ((k + 1 : Nat) : Int) := i64e (by omega) (by omega)
  have IAk : iaV 1 v (.int .i64 (k : Int)) = some (ptrAt v k) := by have := F.slt.rulesN.2.1 .i64 k hk; rw [Nat.mul_one] at this; exact this
  have zc : z = 0 ∨ z = 1 ∨ z = 2 ∨ z = 3 ∨ z = 4 := by omega
  have n10 : decide ((1 : Int) = 0) = false := rfl
  have n20 : decide ((2 : Int) = 0) = false := rfl
  have n30 : decide ((3 : Int) = 0) = false := rfl
  have n40 : decide ((4 : Int) = 0) = false := rfl
  have n21 : decide ((2 : Int) = 1) = false := rfl
  have n31 : decide ((3 : Int) = 1) = false := rfl
  have n41 : decide ((4 : Int) = 1) = false := rfl
  have n32 : decide ((3 : Int) = 2) = false := rfl
  have n42 : decide ((4 : Int) = 2) = false := rfl
  have n43 : decide ((4 : Int) = 3) = false := rfl
  rcases zc with rfl | rfl | rfl | rfl | rfl
  · have eL := Ext.more K [litsL.flatMap encU]
    have cv := cnv_box (Bx.new K (litsL.flatMap encU) []) 0 14 1
    have CL := C.ext eL
    have FL := F.step eL
    have hcK := C.lt
    rw [c18_31.eq_1, c18_30.eq_1, c18_29.eq_1]
    generalize hos : c18_12 = os
    simp (maxSteps := 4000000) (disch := omega) only [ah, am, Nat.reduceEqDiff, reduceCtorEq, Nat.reduceAdd, Nat.reduceLeDiff, Nat.reduceMul, Nat.reduceLT, if_true, if_false, true_and, and_true, and_self, Nat.reduceBEq, QOp.loads, boxO, bslO, buildO, cutL, fillV, putL, w18, v18, eq_self, decide_true]
    rw [← hos]
    refine one_q (v := v) rfl ?_
    refine one_q (v := .int .i64 (k : Int)) rfl ?_
    refine one_a (c := (litsL.flatMap encU, fun i => .slice (some ⟨i, 0, none⟩) 14 1)) rfl ?_
    refine one_v (r := (.slice (some ⟨K.size, 0, none⟩) 14 1, K.more [litsL.flatMap encU])) (u := .slice (some ⟨K.size, 0, none⟩) 14 1) rfl cv ?_
    refine one_q (v := .pointer (some ⟨c, 0, none⟩)) rfl ?_
    refine one_c (vs := [.pointer (some ⟨c, 0, none⟩), .int .i64 14]) rfl ?_
    refine (l1Below_ok _ c 14 CL).mono ?_
    rintro _ K2 ⟨z, rfl, z1, z2, _, g11, C2⟩
    have z3 := z2 (by omega)
    have F2 := FL.stepG g11 hin hcl
    obtain ⟨b, hb⟩ := pick_u8 (H := K) g11 hcK z1 z3
    obtain ⟨K4, es, F4, gg, gg1, gg2⟩ := F2.setF (j := k) (f := 0) (n := 1) hk (x := b) (y := .int .u8 (b.toNat : Int)) rfl (by omega) rfl (by omega) rfl
    rw [Nat.mul_one, Nat.add_zero] at es
    have IAz : iaV 1 (.slice (some ⟨K.size, 0, none⟩) 14 1) (.int .i64 z) = some (.pointer (some ⟨K.size, z.toNat, none⟩)) := by
      rw [iaV_slice _ _ _ _ _ _ (by omega) (by omega)]; simp
    refine one_q (v := .pointer (some ⟨K.size, z.toNat, none⟩)) IAz ?_
    refine one_q (v := .int .u8 (b.toNat : Int)) hb ?_
    refine one_q (v := ptrAt v k) IAk ?_
    refine one_s (p := ptrAt v k) (v := .int .u8 (b.toNat : Int)) rfl rfl es (one_end ?_)
    generalize K.size = ks
    clear hos IAz hb es cv
    simp (maxSteps := 4000000) (disch := omega) only [ah, am, Nat.reduceEqDiff, reduceCtorEq, Nat.reduceAdd, Nat.reduceLeDiff, Nat.reduceMul, Nat.reduceLT, if_true, if_false, true_and, and_true, and_self, Nat.reduceBEq, QOp.loads, boxO, bslO, buildO, cutL, fillV, putL, w18, v18, wn]
    exact ⟨c0, v, _, F4, C2.step gg2 (by omega), by simp; omega, rfl⟩
  · obtain ⟨u, eu, FU⟩ := Fk_upTo F k (by omega) y1
    simp (maxSteps := 4000000) (disch := omega) only [ah, am, Nat.reduceEqDiff, reduceCtorEq, Nat.reduceAdd, Nat.reduceLeDiff, Nat.reduceMul, Nat.reduceLT, if_true, if_false, true_and, and_true, and_self, Nat.reduceBEq, QOp.loads, boxO, bslO, buildO, cutL, fillV, putL, w18, v18, n10, eq_self, decide_true, eu, wn]
    exact ⟨c0, u, y.take k, FU, C, by simp; omega, rfl⟩
  · have eX := Ext.more K [[]]
    obtain ⟨u1, eu1, s1⟩ := SlT_upTo F.slt k (by omega) y1
    obtain ⟨u2, eu2, s2⟩ := SlT_from F.slt (k + 1) (by omega) y1
    have R0 : Fresh K (K.more [[]]) encU 1 (.slice (some ⟨K.size, 0, none⟩) 0 1) [] := Fresh.new0 K encU_len (by omega)
    obtain ⟨w1, K2, ap1, R1⟩ := R0.app (s1.ext eX) (bytes := 1) (by simp; omega)
    obtain ⟨w2, K4, ap2, R2⟩ := R1.app (s2.ext R1.1) (bytes := 1) (by simp; omega)
    simp (maxSteps := 4000000) (disch := omega) only [ah, am, Nat.reduceEqDiff, reduceCtorEq, Nat.reduceAdd, Nat.reduceLeDiff, Nat.reduceMul, Nat.reduceLT, if_true, if_false, true_and, and_true, and_self, Nat.reduceBEq, QOp.loads, boxO, bslO, buildO, cutL, fillV, putL, w18, v18, n20, n21, eq_self, decide_true, eu1, wk, eu2, ap1, ap2, wn]
    exact ⟨c0, w2, _, Fk_renew F R2, C.ext R2.1, by simp; omega, rfl⟩
  · have eX := Ext.more K [[], encU 32]
    obtain ⟨u1, eu1, s1⟩ := SlT_upTo F.slt k (by omega) y1
    obtain ⟨u2, eu2, s2⟩ := SlT_from F.slt k (by omega) y1
    have F0 : Fk [] K (K.more [[], encU 32]) encU 1 (.slice (some ⟨K.size, 0, none⟩) 0 1) [] [(K.size + 1, encU 32)] := by
      have := (Fk.of (X := []) (Fresh.new0 K encU_len (by omega))).more [encU 32]
      simpa [more_more, size_more, boxesAt] using this
    obtain ⟨w1, K2, ap1, F1⟩ := F0.app (s1.ext eX) (bytes := 1) (by simp; omega)
    have sp := slt_box (enc := encU) (sz := 1) (F1.box _ (List.mem_singleton.mpr rfl)).2 encU_len (by omega)
    obtain ⟨w2, K4, ap2, F2⟩ := F1.app sp (bytes := 1) (by simp; omega)
    obtain ⟨w3, K5, ap3, F3⟩ := F2.app (s2.ext F2.fresh.1) (bytes := 1) (by simp; omega)
    have e32 : encU 32 = [.int .u8 32] := rfl
    rw [e32] at ap1
    simp (maxSteps := 4000000) (disch := omega) only [ah, am, Nat.reduceEqDiff, reduceCtorEq, Nat.reduceAdd, Nat.reduceLeDiff, Nat.reduceMul, Nat.reduceLT, if_true, if_false, true_and, and_true, and_self, Nat.reduceBEq, QOp.loads, boxO, bslO, buildO, cutL, fillV, putL, w18, v18, n30, n31, n32, eq_self, decide_true, eu1, eu2, ap1, ap2, ap3, wn]
    exact ⟨c0, w3, _, Fk_renew F F3.fresh, C.ext F3.fresh.1, by simp; omega, rfl⟩
  · obtain ⟨w, K2, ap, F2, gg, gg1, gg2⟩ := Fk_appS F [48, 48, 50, 32, 82, 49, 32, 67, 32, 48, 48, 58, 48, 48, 58, 48, 48, 58, 48, 48, 32, 48, 48, 58, 48, 48, 58, 48, 48, 58, 48, 49, 32, 48, 48, 58, 48, 48, 58, 48, 48, 58, 48, 48, 32, 48, 48, 58, 48, 48, 58, 48, 48, 58, 48, 49, 10] (by simp; omega)
    have ap : appV K 1 1 v (.string ⟨#[48, 48, 50, 32, 82, 49, 32, 67, 32, 48, 48, 58, 48, 48, 58, 48, 48, 58, 48, 48, 32, 48, 48, 58, 48, 48, 58, 48, 48, 58, 48, 49, 32, 48, 48, 58, 48, 48, 58, 48, 48, 58, 48, 48, 32, 48, 48, 58, 48, 48, 58, 48, 48, 58, 48, 49, 10]⟩) = some (w, K2) := ap
    simp (maxSteps := 4000000) (disch := omega) only [ah, am, Nat.reduceEqDiff, reduceCtorEq, Nat.reduceAdd, Nat.reduceLeDiff, Nat.reduceMul, Nat.reduceLT, if_true, if_false, true_and, and_true, and_self, Nat.reduceBEq, QOp.loads, boxO, bslO, buildO, cutL, fillV, putL, w18, v18, n40, n41, n42, n43, eq_self, decide_true, ap, wn]
    exact ⟨c0, w, _, F2, C.step gg2 (by omega), by simp; omega, rfl⟩
end Go.Proofs.YtgmimgmdbpcecaaGreatDoor
end
