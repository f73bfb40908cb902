import Derived.Test.YtmhbmbhdeofbaaaE6
namespace Go.Proofs.Ytmhbmbhdeofbaaa
open Go Go.Ah
set_option linter.unusedSimpArgs false
set_option linter.unusedVariables false
set_option maxRecDepth 10000
set_option maxHeartbeats 4000000
/-! 55 loop.example/g00066/spec.PlainCube: parameters 1, live [0], slots [0:n, 1:n, 3:out, 4:i] -/
def c55_0 : List SOper := [⟨some 2, .q (.mv (.c (.slice none 0 0))), none⟩]
def c55_1 : List SOper := [⟨some 5, .a (.bsl 0 3 [] []), none⟩, ⟨some 3, .q (.mv (.t 5)), none⟩]
def c55_2 : List SOper := [⟨some 6, .q (.mv (.t 0)), none⟩, ⟨some 7, .e (.call 21 [(.t 6), (.c (.int .i64 2)), (.c (.int .i64 9))]), none⟩, ⟨some 8, .q (.not (.t 7)), none⟩]
def c55_3 : List SOper := [⟨some 9, .q (.mv (.t 3)), none⟩, ⟨some 2, .q (.mv (.t 9)), none⟩]
def c55_4 : SCode := .seq (.region c55_3 [2]) .ret
def c55_5 : SCode := .cond (.t 8) c55_4 .skip
def c55_6 : SCode := .seq (.region c55_2 [0, 3, 8]) c55_5
def c55_7 : List SOper := [⟨some 4, .q (.mv (.c (.int .i64 0))), none⟩]
def c55_8 : List SOper := [⟨some 10, .q (.mv (.t 4)), none⟩, ⟨some 11, .q (.mv (.t 0)), none⟩, ⟨some 12, .q (.mv (.t 0)), none⟩, ⟨some 13, .q (.bin .mul (.t 11) (.t 12)), none⟩, ⟨some 14, .q (.mv (.t 0)), none⟩, ⟨some 15, .q (.bin .mul (.t 13) (.t 14)), none⟩, ⟨some 16, .q (.bin .lss (.t 10) (.t 15)), none⟩]
def c55_9 : SCode := .cond (.t 16) .skip (.exit 0)
def c55_10 : SCode := .seq (.region c55_8 [0, 3, 4, 16]) c55_9
def c55_11 : List SOper := [⟨some 19, .q (.mv (.t 3)), none⟩, ⟨some 20, .q (.mv (.t 4)), none⟩, ⟨some 21, .q (.mv (.t 0)), none⟩, ⟨some 22, .q (.bin .quo (.t 20) (.t 21)), none⟩, ⟨some 23, .q (.mv (.t 0)), none⟩, ⟨some 24, .q (.bin .quo (.t 22) (.t 23)), none⟩, ⟨some 25, .q (.bin .mul (.t 24) (.c (.int .i64 65535))), none⟩, ⟨some 26, .q (.mv (.t 0)), none⟩, ⟨some 27, .q (.bin .sub (.t 26) (.c (.int .i64 1))), none⟩, ⟨some 29, .q (.mv (.t 4)), none⟩, ⟨some 30, .q (.mv (.t 0)), none⟩, ⟨some 31, .q (.bin .quo (.t 29) (.t 30)), none⟩, ⟨some 32, .q (.mv (.t 0)), none⟩, ⟨some 33, .q (.bin .rem (.t 31) (.t 32)), none⟩, ⟨some 34, .q (.bin .mul (.t 33) (.c (.int .i64 65535))), none⟩, ⟨some 35, .q (.mv (.t 0)), none⟩, ⟨some 36, .q (.bin .sub (.t 35) (.c (.int .i64 1))), none⟩, ⟨some 38, .q (.mv (.t 4)), none⟩, ⟨some 39, .q (.mv (.t 0)), none⟩, ⟨some 40, .q (.bin .rem (.t 38) (.t 39)), none⟩, ⟨some 41, .q (.bin .mul (.t 40) (.c (.int .i64 65535))), none⟩, ⟨some 42, .q (.mv (.t 0)), none⟩, ⟨some 43, .q (.bin .sub (.t 42) (.c (.int .i64 1))), none⟩, ⟨some 28, .e (.call 24 [(.t 25), (.t 27)]), none⟩, ⟨some 37, .e (.call 24 [(.t 34), (.t 36)]), none⟩, ⟨some 44, .e (.call 24 [(.t 41), (.t 43)]), none⟩, ⟨some 45, .q (.build [(.int .i64 0), (.int .i64 0), (.int .i64 0)] [(0, 1, (.t 28)), (1, 1, (.t 37)), (2, 1, (.t 44))]), none⟩, ⟨some 46, .a (.bsl 1 3 [(.int .i64 0), (.int .i64 0), (.int .i64 0)] [(0, 3, (.t 45))]), none⟩, ⟨some 47, .e (.app 24 3 (.t 19) (.t 46)), none⟩, ⟨some 3, .q (.mv (.t 47)), none⟩]
def c55_12 : SCode := .block 1 (.region c55_11 [0, 3, 4])
def c55_13 : List SOper := [⟨some 17, .q (.mv (.t 4)), none⟩, ⟨some 18, .q (.bin .add (.t 17) (.c (.int .i64 1))), none⟩, ⟨some 4, .q (.mv (.t 18)), none⟩]
def c55_14 : SCode := .seq c55_12 (.region c55_13 [0, 3, 4])
def c55_15 : SCode := .seq c55_10 c55_14
def c55_16 : SCode := .loop c55_15
def c55_17 : SCode := .block 0 c55_16
def c55_18 : SCode := .seq (.region c55_7 [0, 3, 4]) c55_17
def c55_19 : List SOper := [⟨some 48, .q (.mv (.t 3)), none⟩, ⟨some 2, .q (.mv (.t 48)), none⟩]
def c55_20 : SCode := .seq (.region c55_19 [2]) .ret
def c55_21 : SCode := .seq c55_18 c55_20
def c55_22 : SCode := .seq c55_6 c55_21
def c55_23 : SCode := .seq (.region c55_1 [0, 3]) c55_22
def c55_24 : SCode := .seq (.region c55_0 [0]) c55_23
def c55 : SCode := c55_24
theorem w55 : type_of% (And.intro (uR Try.prog c55_0.eq_1) (And.intro (uR Try.prog c55_1.eq_1) (And.intro (uR Try.prog c55_2.eq_1) (And.intro (uR Try.prog c55_3.eq_1) (And.intro (uC Try.prog c55_4.eq_1) (And.intro (uC Try.prog c55_5.eq_1) (And.intro (uC Try.prog c55_6.eq_1) (And.intro (uR Try.prog c55_7.eq_1) (And.intro (uR Try.prog c55_8.eq_1) (And.intro (uC Try.prog c55_9.eq_1) (And.intro (uC Try.prog c55_10.eq_1) (And.intro (uR Try.prog c55_11.eq_1) (And.intro (uC Try.prog c55_12.eq_1) (And.intro (uR Try.prog c55_13.eq_1) (And.intro (uC Try.prog c55_14.eq_1) (And.intro (uC Try.prog c55_15.eq_1) (And.intro (uC Try.prog c55_16.eq_1) (And.intro (uC Try.prog c55_17.eq_1) (And.intro (uC Try.prog c55_18.eq_1) (And.intro (uR Try.prog c55_19.eq_1) (And.intro (uC Try.prog c55_20.eq_1) (And.intro (uC Try.prog c55_21.eq_1) (And.intro (uC Try.prog c55_22.eq_1) (And.intro (uC Try.prog c55_23.eq_1) (And.intro (uC Try.prog c55_24.eq_1) (uC Try.prog c55.eq_1)))))))))))))))))))))))))) := (And.intro (uR Try.prog c55_0.eq_1) (And.intro (uR Try.prog c55_1.eq_1) (And.intro (uR Try.prog c55_2.eq_1) (And.intro (uR Try.prog c55_3.eq_1) (And.intro (uC Try.prog c55_4.eq_1) (And.intro (uC Try.prog c55_5.eq_1) (And.intro (uC Try.prog c55_6.eq_1) (And.intro (uR Try.prog c55_7.eq_1) (And.intro (uR Try.prog c55_8.eq_1) (And.intro (uC Try.prog c55_9.eq_1) (And.intro (uC Try.prog c55_10.eq_1) (And.intro (uR Try.prog c55_11.eq_1) (And.intro (uC Try.prog c55_12.eq_1) (And.intro (uR Try.prog c55_13.eq_1) (And.intro (uC Try.prog c55_14.eq_1) (And.intro (uC Try.prog c55_15.eq_1) (And.intro (uC Try.prog c55_16.eq_1) (And.intro (uC Try.prog c55_17.eq_1) (And.intro (uC Try.prog c55_18.eq_1) (And.intro (uR Try.prog c55_19.eq_1) (And.intro (uC Try.prog c55_20.eq_1) (And.intro (uC Try.prog c55_21.eq_1) (And.intro (uC Try.prog c55_22.eq_1) (And.intro (uC Try.prog c55_23.eq_1) (And.intro (uC Try.prog c55_24.eq_1) (uC Try.prog c55.eq_1))))))))))))))))))))))))))
def v55 : List RV := [.t 2]
theorem s55 : slimF Try.prog Try.f55 = some (c55.bare, v55) := by kernel_rfl
/-! 18 loop.example/g00066/impl.PlainCube: parameters 1, live [0], slots [0:n, 1:n, 3:out, 4:i, 5:p, 6:k] -/
def c18_0 : List SOper := [⟨some 2, .q (.mv (.c (.slice none 0 0))), none⟩]
def c18_1 : List SOper := [⟨some 7, .q (.mv (.t 0)), none⟩, ⟨some 8, .e (.call 25 [(.t 7), (.c (.int .i64 2)), (.c (.int .i64 9))]), none⟩, ⟨some 9, .q (.not (.t 8)), none⟩]
def c18_2 : List SOper := [⟨some 2, .q (.mv (.c (.slice none 0 0))), none⟩]
def c18_3 : SCode := .seq (.region c18_2 [2]) .ret
def c18_4 : SCode := .cond (.t 9) c18_3 .skip
def c18_5 : SCode := .seq (.region c18_1 [0, 9]) c18_4
def c18_6 : List SOper := [⟨some 10, .a (.bsl 0 3 [] []), none⟩, ⟨some 3, .q (.mv (.t 10)), none⟩]
def c18_7 : List SOper := [⟨some 11, .q (.mv (.t 0)), none⟩, ⟨some 12, .q (.mv (.t 0)), none⟩, ⟨some 13, .q (.bin .mul (.t 11) (.t 12)), none⟩, ⟨some 14, .q (.mv (.t 0)), none⟩, ⟨some 15, .q (.bin .mul (.t 13) (.t 14)), none⟩, ⟨some 16, .q (.mv (.c (.int .i64 0))), none⟩]
def c18_8 : List SOper := [⟨some 17, .q (.bin .lss (.t 16) (.t 15)), none⟩]
def c18_9 : SCode := .cond (.t 17) .skip (.exit 0)
def c18_10 : List SOper := [⟨some 18, .q (.mv (.t 16)), none⟩, ⟨some 4, .q (.mv (.t 18)), none⟩]
def c18_11 : List SOper := [⟨some 19, .q (.mv (.t 4)), none⟩, ⟨some 20, .q (.mv (.t 0)), none⟩, ⟨some 21, .q (.mv (.t 0)), none⟩, ⟨some 22, .q (.bin .mul (.t 20) (.t 21)), none⟩, ⟨some 23, .q (.bin .quo (.t 19) (.t 22)), none⟩, ⟨some 24, .q (.mv (.t 4)), none⟩, ⟨some 25, .q (.mv (.t 0)), none⟩, ⟨some 26, .q (.bin .quo (.t 24) (.t 25)), none⟩, ⟨some 27, .q (.mv (.t 0)), none⟩, ⟨some 28, .q (.bin .rem (.t 26) (.t 27)), none⟩, ⟨some 29, .q (.mv (.t 4)), none⟩, ⟨some 30, .q (.mv (.t 0)), none⟩, ⟨some 31, .q (.bin .rem (.t 29) (.t 30)), none⟩, ⟨some 32, .q (.build [(.int .i64 0), (.int .i64 0), (.int .i64 0)] [(0, 1, (.t 23)), (1, 1, (.t 28)), (2, 1, (.t 31))]), none⟩, ⟨some 5, .a (.new [(.int .i64 0), (.int .i64 0), (.int .i64 0)]), none⟩, ⟨none, .e (.st 3 (.t 5) (.t 32)), none⟩]
def c18_12 : List SOper := [⟨some 33, .q (.mv (.c (.int .i64 0))), none⟩]
def c18_13 : List SOper := [⟨some 34, .q (.bin .lss (.t 33) (.c (.int .i64 3))), none⟩]
def c18_14 : SCode := .cond (.t 34) .skip (.exit 2)
def c18_15 : List SOper := [⟨some 35, .q (.mv (.t 33)), none⟩, ⟨some 6, .q (.mv (.t 35)), none⟩]
def c18_16 : List SOper := [⟨some 36, .q (.mv (.t 6)), none⟩, ⟨some 37, .q (.mv (.t 6)), none⟩, ⟨some 38, .q (.iaa 3 1 (.t 5) (.t 37)), none⟩, ⟨some 39, .q (.ld (.t 38)), none⟩, ⟨some 40, .q (.bin .mul (.t 39) (.c (.int .i64 65535))), none⟩, ⟨some 41, .q (.mv (.t 0)), none⟩, ⟨some 42, .q (.bin .sub (.t 41) (.c (.int .i64 1))), none⟩, ⟨some 43, .e (.call 33 [(.t 40), (.t 42)]), none⟩, ⟨some 44, .q (.iaa 3 1 (.t 5) (.t 36)), none⟩, ⟨none, .e (.st 1 (.t 44) (.t 43)), none⟩]
def c18_17 : SCode := .seq (.region c18_15 [0, 3, 5, 6, 15, 16, 33]) (.region c18_16 [0, 3, 5, 15, 16, 33])
def c18_18 : SCode := .block 3 c18_17
def c18_19 : List SOper := [⟨some 45, .q (.bin .add (.t 33) (.c (.int .i64 1))), none⟩, ⟨some 33, .q (.mv (.t 45)), none⟩]
def c18_20 : SCode := .seq c18_18 (.region c18_19 [0, 3, 5, 15, 16, 33])
def c18_21 : SCode := .seq c18_14 c18_20
def c18_22 : SCode := .seq (.region c18_13 [0, 3, 5, 15, 16, 33, 34]) c18_21
def c18_23 : SCode := .loop c18_22
def c18_24 : SCode := .block 2 c18_23
def c18_25 : SCode := .seq (.region c18_12 [0, 3, 5, 15, 16, 33]) c18_24
def c18_26 : List SOper := [⟨some 46, .q (.mv (.t 3)), none⟩, ⟨some 47, .q (.ldn 3 (.t 5)), none⟩, ⟨some 48, .e (.call 34 [(.t 47)]), none⟩, ⟨some 49, .a (.bsl 1 3 [(.int .i64 0), (.int .i64 0), (.int .i64 0)] [(0, 3, (.t 48))]), none⟩, ⟨some 50, .e (.app 24 3 (.t 46) (.t 49)), none⟩, ⟨some 3, .q (.mv (.t 50)), none⟩]
def c18_27 : SCode := .seq c18_25 (.region c18_26 [0, 3, 15, 16])
def c18_28 : SCode := .seq (.region c18_11 [0, 3, 5, 15, 16]) c18_27
def c18_29 : SCode := .seq (.region c18_10 [0, 3, 4, 15, 16]) c18_28
def c18_30 : SCode := .block 1 c18_29
def c18_31 : List SOper := [⟨some 51, .q (.bin .add (.t 16) (.c (.int .i64 1))), none⟩, ⟨some 16, .q (.mv (.t 51)), none⟩]
def c18_32 : SCode := .seq c18_30 (.region c18_31 [0, 3, 15, 16])
def c18_33 : SCode := .seq c18_9 c18_32
def c18_34 : SCode := .seq (.region c18_8 [0, 3, 15, 16, 17]) c18_33
def c18_35 : SCode := .loop c18_34
def c18_36 : SCode := .block 0 c18_35
def c18_37 : SCode := .seq (.region c18_7 [0, 3, 15, 16]) c18_36
def c18_38 : List SOper := [⟨some 52, .q (.mv (.t 3)), none⟩, ⟨some 2, .q (.mv (.t 52)), none⟩]
def c18_39 : SCode := .seq (.region c18_38 [2]) .ret
def c18_40 : SCode := .seq c18_37 c18_39
def c18_41 : SCode := .seq (.region c18_6 [0, 3]) c18_40
def c18_42 : SCode := .seq c18_5 c18_41
def c18_43 : SCode := .seq (.region c18_0 [0]) c18_42
def c18 : SCode := c18_43
theorem w18 : type_of% (And.intro (uR Try.prog c18_0.eq_1) (And.intro (uR Try.prog c18_1.eq_1) (And.intro (uR Try.prog c18_2.eq_1) (And.intro (uC Try.prog c18_3.eq_1) (And.intro (uC Try.prog c18_4.eq_1) (And.intro (uC Try.prog c18_5.eq_1) (And.intro (uR Try.prog c18_6.eq_1) (And.intro (uR Try.prog c18_7.eq_1) (And.intro (uR Try.prog c18_8.eq_1) (And.intro (uC Try.prog c18_9.eq_1) (And.intro (uR Try.prog c18_10.eq_1) (And.intro (uR Try.prog c18_11.eq_1) (And.intro (uR Try.prog c18_12.eq_1) (And.intro (uR Try.prog c18_13.eq_1) (And.intro (uC Try.prog c18_14.eq_1) (And.intro (uR Try.prog c18_15.eq_1) (And.intro (uR Try.prog c18_16.eq_1) (And.intro (uC Try.prog c18_17.eq_1) (And.intro (uC Try.prog c18_18.eq_1) (And.intro (uR Try.prog c18_19.eq_1) (And.intro (uC Try.prog c18_20.eq_1) (And.intro (uC Try.prog c18_21.eq_1) (And.intro (uC Try.prog c18_22.eq_1) (And.intro (uC Try.prog c18_23.eq_1) (And.intro (uC Try.prog c18_24.eq_1) (And.intro (uC Try.prog c18_25.eq_1) (And.intro (uR Try.prog c18_26.eq_1) (And.intro (uC Try.prog c18_27.eq_1) (And.intro (uC Try.prog c18_28.eq_1) (And.intro (uC Try.prog c18_29.eq_1) (And.intro (uC Try.prog c18_30.eq_1) (And.intro (uR Try.prog c18_31.eq_1) (And.intro (uC Try.prog c18_32.eq_1) (And.intro (uC Try.prog c18_33.eq_1) (And.intro (uC Try.prog c18_34.eq_1) (And.intro (uC Try.prog c18_35.eq_1) (And.intro (uC Try.prog c18_36.eq_1) (And.intro (uC Try.prog c18_37.eq_1) (And.intro (uR Try.prog c18_38.eq_1) (And.intro (uC Try.prog c18_39.eq_1) (And.intro (uC Try.prog c18_40.eq_1) (And.intro (uC Try.prog c18_41.eq_1) (And.intro (uC Try.prog c18_42.eq_1) (And.intro (uC Try.prog c18_43.eq_1) (uC Try.prog c18.eq_1))))))))))))))))))))))))))))))))))))))))))))) := (And.intro (uR Try.prog c18_0.eq_1) (And.intro (uR Try.prog c18_1.eq_1) (And.intro (uR Try.prog c18_2.eq_1) (And.intro (uC Try.prog c18_3.eq_1) (And.intro (uC Try.prog c18_4.eq_1) (And.intro (uC Try.prog c18_5.eq_1) (And.intro (uR Try.prog c18_6.eq_1) (And.intro (uR Try.prog c18_7.eq_1) (And.intro (uR Try.prog c18_8.eq_1) (And.intro (uC Try.prog c18_9.eq_1) (And.intro (uR Try.prog c18_10.eq_1) (And.intro (uR Try.prog c18_11.eq_1) (And.intro (uR Try.prog c18_12.eq_1) (And.intro (uR Try.prog c18_13.eq_1) (And.intro (uC Try.prog c18_14.eq_1) (And.intro (uR Try.prog c18_15.eq_1) (And.intro (uR Try.prog c18_16.eq_1) (And.intro (uC Try.prog c18_17.eq_1) (And.intro (uC Try.prog c18_18.eq_1) (And.intro (uR Try.prog c18_19.eq_1) (And.intro (uC Try.prog c18_20.eq_1) (And.intro (uC Try.prog c18_21.eq_1) (And.intro (uC Try.prog c18_22.eq_1) (And.intro (uC Try.prog c18_23.eq_1) (And.intro (uC Try.prog c18_24.eq_1) (And.intro (uC Try.prog c18_25.eq_1) (And.intro (uR Try.prog c18_26.eq_1) (And.intro (uC Try.prog c18_27.eq_1) (And.intro (uC Try.prog c18_28.eq_1) (And.intro (uC Try.prog c18_29.eq_1) (And.intro (uC Try.prog c18_30.eq_1) (And.intro (uR Try.prog c18_31.eq_1) (And.intro (uC Try.prog c18_32.eq_1) (And.intro (uC Try.prog c18_33.eq_1) (And.intro (uC Try.prog c18_34.eq_1) (And.intro (uC Try.prog c18_35.eq_1) (And.intro (uC Try.prog c18_36.eq_1) (And.intro (uC Try.prog c18_37.eq_1) (And.intro (uR Try.prog c18_38.eq_1) (And.intro (uC Try.prog c18_39.eq_1) (And.intro (uC Try.prog c18_40.eq_1) (And.intro (uC Try.prog c18_41.eq_1) (And.intro (uC Try.prog c18_42.eq_1) (And.intro (uC Try.prog c18_43.eq_1) (uC Try.prog c18.eq_1)))))))))))))))))))))))))))))))))))))))))))))
def v18 : List RV := [.t 2]
theorem s18 : slimF Try.prog Try.f18 = some (c18.bare, v18) := by kernel_rfl
/-! 53 loop.example/g00066/spec.l9DrawValue: parameters 1, live [0], slots [0:c, 1:c] -/
def c53_0 : List SOper := [⟨some 2, .q (.mv (.c (.int .i64 0))), none⟩]
def c53_1 : List SOper := [⟨some 3, .q (.mv (.t 0)), none⟩, ⟨some 4, .e (.call 37 [(.t 3), (.c (.int .i64 5))]), none⟩]
def c53_2 : List SOper := [⟨some 5, .a (.bsl 6 1 [(.int .i64 0), (.int .i64 0), (.int .i64 0), (.int .i64 0), (.int .i64 0), (.int .i64 0)] [(0, 1, (.c (.int .i64 0))), (1, 1, (.c (.int .i64 65535))), (2, 1, (.c (.int .i64 32767))), (3, 1, (.c (.int .i64 32768))), (4, 1, (.c (.int .i64 16384))), (5, 1, (.c (.int .i64 1)))]), none⟩, ⟨some 6, .q (.mv (.t 0)), none⟩, ⟨some 7, .e (.call 38 [(.t 6), (.c (.int .i64 6))]), none⟩, ⟨some 8, .q (.ia 1 (.t 5) (.t 7)), none⟩, ⟨some 9, .q (.ld (.t 8)), none⟩, ⟨some 2, .q (.mv (.t 9)), none⟩]
def c53_3 : SCode := .seq (.region c53_2 [2]) .ret
def c53_4 : SCode := .cond (.t 4) c53_3 .skip
def c53_5 : SCode := .seq (.region c53_1 [0, 4]) c53_4
def c53_6 : List SOper := [⟨some 10, .q (.mv (.t 0)), none⟩, ⟨some 11, .e (.call 38 [(.t 10), (.c (.int .i64 65536))]), none⟩, ⟨some 2, .q (.mv (.t 11)), none⟩]
def c53_7 : SCode := .seq (.region c53_6 [2]) .ret
def c53_8 : SCode := .seq c53_5 c53_7
def c53_9 : SCode := .seq (.region c53_0 [0]) c53_8
def c53 : SCode := c53_9
theorem w53 : type_of% (And.intro (uR Try.prog c53_0.eq_1) (And.intro (uR Try.prog c53_1.eq_1) (And.intro (uR Try.prog c53_2.eq_1) (And.intro (uC Try.prog c53_3.eq_1) (And.intro (uC Try.prog c53_4.eq_1) (And.intro (uC Try.prog c53_5.eq_1) (And.intro (uR Try.prog c53_6.eq_1) (And.intro (uC Try.prog c53_7.eq_1) (And.intro (uC Try.prog c53_8.eq_1) (And.intro (uC Try.prog c53_9.eq_1) (uC Try.prog c53.eq_1))))))))))) := (And.intro (uR Try.prog c53_0.eq_1) (And.intro (uR Try.prog c53_1.eq_1) (And.intro (uR Try.prog c53_2.eq_1) (And.intro (uC Try.prog c53_3.eq_1) (And.intro (uC Try.prog c53_4.eq_1) (And.intro (uC Try.prog c53_5.eq_1) (And.intro (uR Try.prog c53_6.eq_1) (And.intro (uC Try.prog c53_7.eq_1) (And.intro (uC Try.prog c53_8.eq_1) (And.intro (uC Try.prog c53_9.eq_1) (uC Try.prog c53.eq_1)))))))))))
def v53 : List RV := [.t 2]
theorem s53 : slimF Try.prog Try.f53 = some (c53.bare, v53) := by kernel_rfl
/-! 39 loop.example/g00066/spec.l9DrawRgb: parameters 1, live [0], slots [0:c, 1:c, 3:x] -/
def c39_0 : List SOper := [⟨some 2, .a (.new [(.int .i64 0), (.int .i64 0), (.int .i64 0)]), none⟩]
def c39_1 : List SOper := [⟨some 4, .q (.mv (.t 0)), none⟩, ⟨some 5, .e (.call 53 [(.t 4)]), none⟩, ⟨some 6, .q (.mv (.t 0)), none⟩, ⟨some 7, .e (.call 53 [(.t 6)]), none⟩, ⟨some 8, .q (.mv (.t 0)), none⟩, ⟨some 9, .e (.call 53 [(.t 8)]), none⟩, ⟨some 10, .q (.build [(.int .i64 0), (.int .i64 0), (.int .i64 0)] [(0, 1, (.t 5)), (1, 1, (.t 7)), (2, 1, (.t 9))]), none⟩, ⟨some 3, .a (.new [(.int .i64 0), (.int .i64 0), (.int .i64 0)]), none⟩, ⟨none, .e (.st 3 (.t 3) (.t 10)), none⟩]
def c39_2 : List SOper := [⟨some 11, .q (.mv (.t 0)), none⟩, ⟨some 12, .e (.call 37 [(.t 11), (.c (.int .i64 6))]), none⟩]
def c39_3 : List SOper := [⟨some 13, .q (.fa 0 (.t 3)), none⟩, ⟨some 14, .q (.ld (.t 13)), none⟩, ⟨some 15, .q (.fa 1 (.t 3)), none⟩, ⟨none, .e (.st 1 (.t 15) (.t 14)), none⟩]
def c39_4 : SCode := .cond (.t 12) (.region c39_3 [0, 2, 3]) .skip
def c39_5 : SCode := .seq (.region c39_2 [0, 2, 3, 12]) c39_4
def c39_6 : List SOper := [⟨some 16, .q (.mv (.t 0)), none⟩, ⟨some 17, .e (.call 37 [(.t 16), (.c (.int .i64 6))]), none⟩]
def c39_7 : List SOper := [⟨some 18, .q (.fa 1 (.t 3)), none⟩, ⟨some 19, .q (.ld (.t 18)), none⟩, ⟨some 20, .q (.fa 2 (.t 3)), none⟩, ⟨none, .e (.st 1 (.t 20) (.t 19)), none⟩]
def c39_8 : SCode := .cond (.t 17) (.region c39_7 [0, 2, 3]) .skip
def c39_9 : SCode := .seq (.region c39_6 [0, 2, 3, 17]) c39_8
def c39_10 : List SOper := [⟨some 21, .q (.mv (.t 0)), none⟩, ⟨some 22, .e (.call 37 [(.t 21), (.c (.int .i64 40))]), none⟩]
def c39_11 : List SOper := [⟨some 23, .a (.bsl 3 1 [(.int .i64 0), (.int .i64 0), (.int .i64 0)] [(0, 1, (.c (.int .i64 (-1)))), (1, 1, (.c (.int .i64 65536))), (2, 1, (.c (.int .i64 4611686018427387904)))]), none⟩, ⟨some 24, .q (.mv (.t 0)), none⟩, ⟨some 25, .e (.call 38 [(.t 24), (.c (.int .i64 3))]), none⟩, ⟨some 26, .q (.ia 1 (.t 23) (.t 25)), none⟩, ⟨some 27, .q (.ld (.t 26)), none⟩, ⟨some 28, .q (.fa 0 (.t 3)), none⟩, ⟨none, .e (.st 1 (.t 28) (.t 27)), none⟩]
def c39_12 : SCode := .cond (.t 22) (.region c39_11 [2, 3]) .skip
def c39_13 : SCode := .seq (.region c39_10 [0, 2, 3, 22]) c39_12
def c39_14 : List SOper := [⟨some 29, .q (.ldn 3 (.t 3)), none⟩, ⟨none, .e (.st 3 (.t 2) (.t 29)), none⟩]
def c39_15 : SCode := .seq (.region c39_14 [2]) .ret
def c39_16 : SCode := .seq c39_13 c39_15
def c39_17 : SCode := .seq c39_9 c39_16
def c39_18 : SCode := .seq c39_5 c39_17
def c39_19 : SCode := .seq (.region c39_1 [0, 2, 3]) c39_18
def c39_20 : SCode := .seq (.region c39_0 [0, 2]) c39_19
def c39 : SCode := c39_20
theorem w39 : type_of% (And.intro (uR Try.prog c39_0.eq_1) (And.intro (uR Try.prog c39_1.eq_1) (And.intro (uR Try.prog c39_2.eq_1) (And.intro (uR Try.prog c39_3.eq_1) (And.intro (uC Try.prog c39_4.eq_1) (And.intro (uC Try.prog c39_5.eq_1) (And.intro (uR Try.prog c39_6.eq_1) (And.intro (uR Try.prog c39_7.eq_1) (And.intro (uC Try.prog c39_8.eq_1) (And.intro (uC Try.prog c39_9.eq_1) (And.intro (uR Try.prog c39_10.eq_1) (And.intro (uR Try.prog c39_11.eq_1) (And.intro (uC Try.prog c39_12.eq_1) (And.intro (uC Try.prog c39_13.eq_1) (And.intro (uR Try.prog c39_14.eq_1) (And.intro (uC Try.prog c39_15.eq_1) (And.intro (uC Try.prog c39_16.eq_1) (And.intro (uC Try.prog c39_17.eq_1) (And.intro (uC Try.prog c39_18.eq_1) (And.intro (uC Try.prog c39_19.eq_1) (And.intro (uC Try.prog c39_20.eq_1) (uC Try.prog c39.eq_1)))))))))))))))))))))) := (And.intro (uR Try.prog c39_0.eq_1) (And.intro (uR Try.prog c39_1.eq_1) (And.intro (uR Try.prog c39_2.eq_1) (And.intro (uR Try.prog c39_3.eq_1) (And.intro (uC Try.prog c39_4.eq_1) (And.intro (uC Try.prog c39_5.eq_1) (And.intro (uR Try.prog c39_6.eq_1) (And.intro (uR Try.prog c39_7.eq_1) (And.intro (uC Try.prog c39_8.eq_1) (And.intro (uC Try.prog c39_9.eq_1) (And.intro (uR Try.prog c39_10.eq_1) (And.intro (uR Try.prog c39_11.eq_1) (And.intro (uC Try.prog c39_12.eq_1) (And.intro (uC Try.prog c39_13.eq_1) (And.intro (uR Try.prog c39_14.eq_1) (And.intro (uC Try.prog c39_15.eq_1) (And.intro (uC Try.prog c39_16.eq_1) (And.intro (uC Try.prog c39_17.eq_1) (And.intro (uC Try.prog c39_18.eq_1) (And.intro (uC Try.prog c39_19.eq_1) (And.intro (uC Try.prog c39_20.eq_1) (uC Try.prog c39.eq_1))))))))))))))))))))))
def v39 : List RV := [.c 2 (some 3)]
theorem s39 : slimF Try.prog Try.f39 = some (c39.bare, v39) := by kernel_rfl
/-! 14 loop.example/g00066/spec.DrawMatrix: parameters 1, live [0], slots [0:code, 1:code, 4:c, 5:m, 6:i] -/
def c14_0 : List SOper := [⟨some 2, .q (.mv (.c (.slice none 0 0))), none⟩, ⟨some 3, .a (.new [(.int .i64 0), (.int .i64 0), (.int .i64 0)]), none⟩]
def c14_1 : List SOper := [⟨some 7, .q (.mv (.t 0)), none⟩, ⟨some 8, .e (.call 35 [(.t 7)]), none⟩, ⟨some 4, .q (.mv (.t 8)), none⟩]
def c14_2 : List SOper := [⟨some 9, .a (.bsl 0 1 [] []), none⟩, ⟨some 5, .q (.mv (.t 9)), none⟩]
def c14_3 : List SOper := [⟨some 6, .q (.mv (.c (.int .i64 0))), none⟩]
def c14_4 : List SOper := [⟨some 10, .q (.mv (.t 6)), none⟩, ⟨some 11, .q (.bin .lss (.t 10) (.c (.int .i64 9))), none⟩]
def c14_5 : SCode := .cond (.t 11) .skip (.exit 0)
def c14_6 : SCode := .seq (.region c14_4 [3, 4, 5, 6, 11]) c14_5
def c14_7 : List SOper := [⟨some 14, .q (.mv (.t 5)), none⟩, ⟨some 15, .q (.mv (.t 4)), none⟩, ⟨some 16, .e (.call 36 [(.t 15), (.c (.int .i64 (-3000))), (.c (.int .i64 5000))]), none⟩, ⟨some 17, .a (.bsl 1 1 [(.int .i64 0)] [(0, 1, (.t 16))]), none⟩, ⟨some 18, .e (.app 8 1 (.t 14) (.t 17)), none⟩, ⟨some 5, .q (.mv (.t 18)), none⟩]
def c14_8 : SCode := .block 1 (.region c14_7 [3, 4, 5, 6])
def c14_9 : List SOper := [⟨some 12, .q (.mv (.t 6)), none⟩, ⟨some 13, .q (.bin .add (.t 12) (.c (.int .i64 1))), none⟩, ⟨some 6, .q (.mv (.t 13)), none⟩]
def c14_10 : SCode := .seq c14_8 (.region c14_9 [3, 4, 5, 6])
def c14_11 : SCode := .seq c14_6 c14_10
def c14_12 : SCode := .loop c14_11
def c14_13 : SCode := .block 0 c14_12
def c14_14 : SCode := .seq (.region c14_3 [3, 4, 5, 6]) c14_13
def c14_15 : List SOper := [⟨some 19, .q (.mv (.t 4)), none⟩, ⟨some 20, .e (.call 37 [(.t 19), (.c (.int .i64 3))]), none⟩]
def c14_16 : List SOper := [⟨some 21, .a (.bsl 9 1 [(.int .i64 0), (.int .i64 0), (.int .i64 0), (.int .i64 0), (.int .i64 0), (.int .i64 0), (.int .i64 0), (.int .i64 0), (.int .i64 0)] [(0, 1, (.c (.int .i64 4096))), (1, 1, (.c (.int .i64 0))), (2, 1, (.c (.int .i64 0))), (3, 1, (.c (.int .i64 0))), (4, 1, (.c (.int .i64 4096))), (5, 1, (.c (.int .i64 0))), (6, 1, (.c (.int .i64 0))), (7, 1, (.c (.int .i64 0))), (8, 1, (.c (.int .i64 4096)))]), none⟩, ⟨some 5, .q (.mv (.t 21)), none⟩]
def c14_17 : SCode := .cond (.t 20) (.region c14_16 [3, 4, 5]) .skip
def c14_18 : SCode := .seq (.region c14_15 [3, 4, 5, 20]) c14_17
def c14_19 : List SOper := [⟨some 22, .q (.mv (.t 4)), none⟩, ⟨some 23, .e (.call 37 [(.t 22), (.c (.int .i64 16))]), none⟩]
def c14_20 : List SOper := [⟨some 24, .q (.mv (.t 5)), none⟩, ⟨some 25, .q (.mv (.t 4)), none⟩, ⟨some 26, .e (.call 38 [(.t 25), (.c (.int .i64 9))]), none⟩, ⟨some 27, .a (.bsl 4 1 [(.int .i64 0), (.int .i64 0), (.int .i64 0), (.int .i64 0)] [(0, 1, (.c (.int .i64 (-65536)))), (1, 1, (.c (.int .i64 65536))), (2, 1, (.c (.int .i64 65537))), (3, 1, (.c (.int .i64 (-9223372036854775808))))]), none⟩, ⟨some 28, .q (.mv (.t 4)), none⟩, ⟨some 29, .e (.call 38 [(.t 28), (.c (.int .i64 4))]), none⟩, ⟨some 30, .q (.ia 1 (.t 27) (.t 29)), none⟩, ⟨some 31, .q (.ld (.t 30)), none⟩, ⟨some 32, .q (.ia 1 (.t 24) (.t 26)), none⟩, ⟨none, .e (.st 1 (.t 32) (.t 31)), none⟩]
def c14_21 : SCode := .cond (.t 23) (.region c14_20 [3, 4, 5]) .skip
def c14_22 : SCode := .seq (.region c14_19 [3, 4, 5, 23]) c14_21
def c14_23 : List SOper := [⟨some 33, .q (.mv (.t 4)), none⟩, ⟨some 34, .e (.call 37 [(.t 33), (.c (.int .i64 24))]), none⟩]
def c14_24 : List SOper := [⟨some 35, .q (.mv (.t 5)), none⟩, ⟨some 36, .q (.mv (.t 4)), none⟩, ⟨some 37, .e (.call 38 [(.t 36), (.c (.int .i64 9))]), none⟩, ⟨some 38, .q (.slc 1 (.t 35) none (some (.t 37))), none⟩, ⟨some 5, .q (.mv (.t 38)), none⟩]
def c14_25 : SCode := .cond (.t 34) (.region c14_24 [3, 4, 5]) .skip
def c14_26 : SCode := .seq (.region c14_23 [3, 4, 5, 34]) c14_25
def c14_27 : List SOper := [⟨some 39, .q (.mv (.t 5)), none⟩, ⟨some 40, .q (.mv (.t 4)), none⟩, ⟨some 41, .e (.call 39 [(.t 40)]), none⟩, ⟨some 2, .q (.mv (.t 39)), none⟩, ⟨none, .e (.st 3 (.t 3) (.t 41)), none⟩]
def c14_28 : SCode := .seq (.region c14_27 [2, 3]) .ret
def c14_29 : SCode := .seq c14_26 c14_28
def c14_30 : SCode := .seq c14_22 c14_29
def c14_31 : SCode := .seq c14_18 c14_30
def c14_32 : SCode := .seq c14_14 c14_31
def c14_33 : SCode := .seq (.region c14_2 [3, 4, 5]) c14_32
def c14_34 : SCode := .seq (.region c14_1 [3, 4]) c14_33
def c14_35 : SCode := .seq (.region c14_0 [0, 3]) c14_34
def c14 : SCode := c14_35
theorem w14 : type_of% (And.intro (uR Try.prog c14_0.eq_1) (And.intro (uR Try.prog c14_1.eq_1) (And.intro (uR Try.prog c14_2.eq_1) (And.intro (uR Try.prog c14_3.eq_1) (And.intro (uR Try.prog c14_4.eq_1) (And.intro (uC Try.prog c14_5.eq_1) (And.intro (uC Try.prog c14_6.eq_1) (And.intro (uR Try.prog c14_7.eq_1) (And.intro (uC Try.prog c14_8.eq_1) (And.intro (uR Try.prog c14_9.eq_1) (And.intro (uC Try.prog c14_10.eq_1) (And.intro (uC Try.prog c14_11.eq_1) (And.intro (uC Try.prog c14_12.eq_1) (And.intro (uC Try.prog c14_13.eq_1) (And.intro (uC Try.prog c14_14.eq_1) (And.intro (uR Try.prog c14_15.eq_1) (And.intro (uR Try.prog c14_16.eq_1) (And.intro (uC Try.prog c14_17.eq_1) (And.intro (uC Try.prog c14_18.eq_1) (And.intro (uR Try.prog c14_19.eq_1) (And.intro (uR Try.prog c14_20.eq_1) (And.intro (uC Try.prog c14_21.eq_1) (And.intro (uC Try.prog c14_22.eq_1) (And.intro (uR Try.prog c14_23.eq_1) (And.intro (uR Try.prog c14_24.eq_1) (And.intro (uC Try.prog c14_25.eq_1) (And.intro (uC Try.prog c14_26.eq_1) (And.intro (uR Try.prog c14_27.eq_1) (And.intro (uC Try.prog c14_28.eq_1) (And.intro (uC Try.prog c14_29.eq_1) (And.intro (uC Try.prog c14_30.eq_1) (And.intro (uC Try.prog c14_31.eq_1) (And.intro (uC Try.prog c14_32.eq_1) (And.intro (uC Try.prog c14_33.eq_1) (And.intro (uC Try.prog c14_34.eq_1) (And.intro (uC Try.prog c14_35.eq_1) (uC Try.prog c14.eq_1))))))))))))))))))))))))))))))))))))) := (And.intro (uR Try.prog c14_0.eq_1) (And.intro (uR Try.prog c14_1.eq_1) (And.intro (uR Try.prog c14_2.eq_1) (And.intro (uR Try.prog c14_3.eq_1) (And.intro (uR Try.prog c14_4.eq_1) (And.intro (uC Try.prog c14_5.eq_1) (And.intro (uC Try.prog c14_6.eq_1) (And.intro (uR Try.prog c14_7.eq_1) (And.intro (uC Try.prog c14_8.eq_1) (And.intro (uR Try.prog c14_9.eq_1) (And.intro (uC Try.prog c14_10.eq_1) (And.intro (uC Try.prog c14_11.eq_1) (And.intro (uC Try.prog c14_12.eq_1) (And.intro (uC Try.prog c14_13.eq_1) (And.intro (uC Try.prog c14_14.eq_1) (And.intro (uR Try.prog c14_15.eq_1) (And.intro (uR Try.prog c14_16.eq_1) (And.intro (uC Try.prog c14_17.eq_1) (And.intro (uC Try.prog c14_18.eq_1) (And.intro (uR Try.prog c14_19.eq_1) (And.intro (uR Try.prog c14_20.eq_1) (And.intro (uC Try.prog c14_21.eq_1) (And.intro (uC Try.prog c14_22.eq_1) (And.intro (uR Try.prog c14_23.eq_1) (And.intro (uR Try.prog c14_24.eq_1) (And.intro (uC Try.prog c14_25.eq_1) (And.intro (uC Try.prog c14_26.eq_1) (And.intro (uR Try.prog c14_27.eq_1) (And.intro (uC Try.prog c14_28.eq_1) (And.intro (uC Try.prog c14_29.eq_1) (And.intro (uC Try.prog c14_30.eq_1) (And.intro (uC Try.prog c14_31.eq_1) (And.intro (uC Try.prog c14_32.eq_1) (And.intro (uC Try.prog c14_33.eq_1) (And.intro (uC Try.prog c14_34.eq_1) (And.intro (uC Try.prog c14_35.eq_1) (uC Try.prog c14.eq_1)))))))))))))))))))))))))))))))))))))
def v14 : List RV := [.t 2, .c 3 (some 3)]
theorem s14 : slimF Try.prog Try.f14 = some (c14.bare, v14) := by kernel_rfl

def nodeF (n : Int) (i : Nat) : Rgb := ⟨near (i / (n * n) * 65535) (n - 1), near (i / n % n * 65535) (n - 1), near (i % n * 65535) (n - 1)⟩
def plainF (n : Int) : List Rgb := if 2 ≤ n ∧ n ≤ 9 then (List.range (n * n * n).toNat).map (nodeF n) else []
theorem plain_take (n : Int) (i : Nat) : (List.range (i + 1)).map (nodeF n) = (List.range i).map (nodeF n) ++ [nodeF n i] := by
  rw [List.range_succ, List.map_append]; rfl
theorem cubes {n : Int} (c1 : 2 ≤ n ∧ n ≤ 9) : (4 ≤ n * n ∧ n * n ≤ 81) ∧ (8 ≤ n * n * n ∧ n * n * n ≤ 729) := by
  have hn8 : n = 2 ∨ n = 3 ∨ n = 4 ∨ n = 5 ∨ n = 6 ∨ n = 7 ∨ n = 8 ∨ n = 9 := by omega
  rcases hn8 with rfl | rfl | rfl | rfl | rfl | rfl | rfl | rfl <;> decide
theorem coords {n : Int} (c1 : 2 ≤ n ∧ n ≤ 9) {i : Nat} (hi : (i : Int) < n * n * n) : (0 ≤ (i : Int) / (n * n) ∧ (i : Int) / (n * n) ≤ n - 1) ∧ (0 ≤ (i : Int) / n % n ∧ (i : Int) / n % n ≤ n - 1) ∧ (0 ≤ (i : Int) % n ∧ (i : Int) % n ≤ n - 1) ∧ 0 ≤ (i : Int) / n ∧ (i : Int) / n / n = (i : Int) / (n * n) ∧ (i : Int) / n ≤ 729 := by
  have hn8 : n = 2 ∨ n = 3 ∨ n = 4 ∨ n = 5 ∨ n = 6 ∨ n = 7 ∨ n = 8 ∨ n = 9 := by omega
  rcases hn8 with rfl | rfl | rfl | rfl | rfl | rfl | rfl | rfl <;> omega
theorem specPlain_ok (h : Heap) (n : Int) (hn : -9223372036854775808 ≤ n ∧ n ≤ 9223372036854775807) : ACall Try.prog 55 [.int .i64 n] h fun r h' => Fresh h h' encRgb 3 r (plainF n) := by
  refine ACall.of Try.func55 s55 (of_decide_eq_true rfl) ?_
  simp (maxSteps := 4000000) (disch := omega) only [ah, am, Nat.reduceEqDiff, reduceCtorEq, Nat.reduceAdd, Nat.reduceLeDiff, Nat.reduceMul, Nat.reduceLT, if_true, if_false, true_and, and_true, and_self, Nat.reduceBEq, QOp.loads, boxO, bslO, buildO, cutL, fillV, putL, w55, v55]
  refine stepC.of (l1In_ok _ _ _ _) ?_
  rintro _ Hx ⟨hx, rfl⟩; rw [hx]; clear hx Hx
  by_cases c1 : 2 ≤ n ∧ n ≤ 9
  rotate_left
  · simp (maxSteps := 4000000) (disch := omega) only [ah, am, Nat.reduceEqDiff, reduceCtorEq, Nat.reduceAdd, Nat.reduceLeDiff, Nat.reduceMul, Nat.reduceLT, if_true, if_false, true_and, and_true, and_self, Nat.reduceBEq, QOp.loads, boxO, bslO, buildO, cutL, fillV, putL, w55, v55, decide_eq_false c1, Bool.not_false]
    rw [show plainF n = [] from if_neg c1]
    exact Fresh.new0 h encRgb_len (by omega)
  obtain ⟨hnn, hnnn⟩ := cubes c1
  have Wnn : IntKind.i64.wrap (n * n) = n * n := i64w (by omega)
  have Wnnn : IntKind.i64.wrap (n * n * n) = n * n * n := i64w (by omega)
  have W1 : IntKind.i64.wrap (n - 1) = n - 1 := i64w (by omega)
  have n0 : n ≠ 0 := by omega
  simp (maxSteps := 4000000) (disch := omega) only [ah, am, Nat.reduceEqDiff, reduceCtorEq, Nat.reduceAdd, Nat.reduceLeDiff, Nat.reduceMul, Nat.reduceLT, if_true, if_false, true_and, and_true, and_self, Nat.reduceBEq, QOp.loads, boxO, bslO, buildO, cutL, fillV, putL, w55, v55, decide_eq_true c1, Bool.not_true]
  refine SW_loop_up (fun i E K => ∃ ov, Fk [] h K encRgb 3 ov ((List.range i).map (nodeF n)) [] ∧ E = [(0, .int .i64 n), (3, ov), (4, .int .i64 (i : Int))]) (n * n * n).toNat 0 (by omega) ?_ ?_
  · exact ⟨_, Fk.of (Fresh.new0 h encRgb_len (by omega)), rfl⟩
  rintro i E K hi ⟨ov, F, rfl⟩
  simp (maxSteps := 4000000) (disch := omega) only [ah, am, Nat.reduceEqDiff, reduceCtorEq, Nat.reduceAdd, Nat.reduceLeDiff, Nat.reduceMul, Nat.reduceLT, if_true, if_false, true_and, and_true, and_self, Nat.reduceBEq, QOp.loads, boxO, bslO, buildO, cutL, fillV, putL, w55, v55, Wnn, Wnnn]
  refine stepI.split (fun hp => ?_) (fun hp => ?_)
  · obtain ⟨b0, b1, b2, b3, b4, b5⟩ := coords c1 hp
    have q1 : (i : Int).tdiv n = i / n := Int.tdiv_eq_ediv_of_nonneg (by omega)
    have q2 : ((i : Int) / n).tdiv n = i / (n * n) := by rw [Int.tdiv_eq_ediv_of_nonneg b3, b4]
    have q3 : ((i : Int) / n).tmod n = i / n % n := Int.tmod_eq_emod_of_nonneg b3
    have q4 : (i : Int).tmod n = i % n := Int.tmod_eq_emod_of_nonneg (by omega)
    have w1 : IntKind.i64.wrap ((i : Int) / n) = i / n := i64w (by omega)
    have w2 : IntKind.i64.wrap ((i : Int) / (n * n)) = i / (n * n) := i64w (by omega)
    have w3 : IntKind.i64.wrap ((i : Int) / (n * n) * 65535) = i / (n * n) * 65535 := i64w (by omega)
    have w4 : IntKind.i64.wrap ((i : Int) / n % n * 65535) = i / n % n * 65535 := i64w (by omega)
    have w5 : IntKind.i64.wrap ((i : Int) % n * 65535) = i % n * 65535 := i64w (by omega)
    have w6 : IntKind.i64.wrap ((i : Int) / n % n) = i / n % n := i64w (by omega)
    have w7 : IntKind.i64.wrap ((i : Int) % n) = i % n := i64w (by omega)
    have W : IntKind.i64.wrap ((i : Int) + 1) = ((i + 1 : Nat) : Int) := i64e (by omega) (by omega)
    simp (maxSteps := 4000000) (disch := omega) only [ah, am, Nat.reduceEqDiff, reduceCtorEq, Nat.reduceAdd, Nat.reduceLeDiff, Nat.reduceMul, Nat.reduceLT, if_true, if_false, true_and, and_true, and_self, Nat.reduceBEq, QOp.loads, boxO, bslO, buildO, cutL, fillV, putL, w55, v55, Wnn, Wnnn, W1, q1, q2, q3, q4, w1, w2, w3, w4, w5, w6, w7, n0, ne_eq]
    refine stepC.of (l9Round_ok _ _ _ (by omega) (by omega)) ?_
    rintro _ Hx ⟨hx, rfl⟩; rw [hx]; clear hx Hx
    simp (maxSteps := 4000000) (disch := omega) only [ah, am, Nat.reduceEqDiff, reduceCtorEq, Nat.reduceAdd, Nat.reduceLeDiff, Nat.reduceMul, Nat.reduceLT, if_true, if_false, true_and, and_true, and_self, Nat.reduceBEq, QOp.loads, boxO, bslO, buildO, cutL, fillV, putL, w55, v55, Wnn, Wnnn, W1, q1, q2, q3, q4, w1, w2, w3, w4, w5, w6, w7, n0, ne_eq]
    refine stepC.of (l9Round_ok _ _ _ (by omega) (by omega)) ?_
    rintro _ Hx ⟨hx, rfl⟩; rw [hx]; clear hx Hx
    simp (maxSteps := 4000000) (disch := omega) only [ah, am, Nat.reduceEqDiff, reduceCtorEq, Nat.reduceAdd, Nat.reduceLeDiff, Nat.reduceMul, Nat.reduceLT, if_true, if_false, true_and, and_true, and_self, Nat.reduceBEq, QOp.loads, boxO, bslO, buildO, cutL, fillV, putL, w55, v55, Wnn, Wnnn, W1, q1, q2, q3, q4, w1, w2, w3, w4, w5, w6, w7, n0, ne_eq]
    refine stepC.of (l9Round_ok _ _ _ (by omega) (by omega)) ?_
    rintro _ Hx ⟨hx, rfl⟩; rw [hx]; clear hx Hx
    obtain ⟨v2, H3, ea, F3⟩ := F.app1 [] (nodeF n i) (bytes := 24) (by simp; omega)
    simp only [List.nil_append, List.length_nil, Nat.add_zero, boxesAt, List.append_nil, ← plain_take] at ea F3
    simp only [encRgb, nodeF] at ea
    simp (maxSteps := 4000000) (disch := omega) only [ah, am, Nat.reduceEqDiff, reduceCtorEq, Nat.reduceAdd, Nat.reduceLeDiff, Nat.reduceMul, Nat.reduceLT, if_true, if_false, true_and, and_true, and_self, Nat.reduceBEq, QOp.loads, boxO, bslO, buildO, cutL, fillV, putL, w55, v55, W, ea]
    exact ⟨by omega, _, F3, rfl⟩
  · have : i = (n * n * n).toNat := by omega
    simp (maxSteps := 4000000) (disch := omega) only [ah, am, Nat.reduceEqDiff, reduceCtorEq, Nat.reduceAdd, Nat.reduceLeDiff, Nat.reduceMul, Nat.reduceLT, if_true, if_false, true_and, and_true, and_self, Nat.reduceBEq, QOp.loads, boxO, bslO, buildO, cutL, fillV, putL, w55, v55]
    rw [show plainF n = (List.range i).map (nodeF n) by rw [this]; exact if_pos c1]
    exact F.fresh
def pvP (n : Int) (i k : Nat) : Int := ([(i : Int) / (n * n), (i : Int) / n % n, (i : Int) % n] : List Int).getD k 0
def prP (n : Int) (i k : Nat) : List Value := (encRgb (nodeF n i)).take k ++ [.int .i64 ((i : Int) / (n * n)), .int .i64 ((i : Int) / n % n), .int .i64 ((i : Int) % n)].drop k
theorem pr_at (n : Int) (i k : Nat) (hk : k < 3) : (prP n i k)[k]? = some (.int .i64 (pvP n i k)) ∧ splice (prP n i k) k [.int .i64 (near (pvP n i k * 65535) (n - 1))] = prP n i (k + 1) ∧ (prP n i k).length = 3 := by
  have hk3 : k = 0 ∨ k = 1 ∨ k = 2 := by omega
  rcases hk3 with rfl | rfl | rfl <;> exact ⟨rfl, rfl, rfl⟩
theorem Plain_ok (h : Heap) (n : Int) (hn : -9223372036854775808 ≤ n ∧ n ≤ 9223372036854775807) : ACall Try.prog 18 [.int .i64 n] h fun r h' => Fresh h h' encRgb 3 r (plainF n) := by
  refine ACall.of Try.func18 s18 (of_decide_eq_true rfl) ?_
  simp (maxSteps := 4000000) (disch := omega) only [ah, am, Nat.reduceEqDiff, reduceCtorEq, Nat.reduceAdd, Nat.reduceLeDiff, Nat.reduceMul, Nat.reduceLT, if_true, if_false, true_and, and_true, and_self, Nat.reduceBEq, QOp.loads, boxO, bslO, buildO, cutL, fillV, putL, w18, v18]
  refine stepC.of (in_ok _ _ _ _) ?_
  rintro _ Hx ⟨hx, rfl⟩; rw [hx]; clear hx Hx
  by_cases c1 : 2 ≤ n ∧ n ≤ 9
  rotate_left
  · simp (maxSteps := 4000000) (disch := omega) only [ah, am, Nat.reduceEqDiff, reduceCtorEq, Nat.reduceAdd, Nat.reduceLeDiff, Nat.reduceMul, Nat.reduceLT, if_true, if_false, true_and, and_true, and_self, Nat.reduceBEq, QOp.loads, boxO, bslO, buildO, cutL, fillV, putL, w18, v18, decide_eq_false c1, Bool.not_false]
    rw [show plainF n = [] from if_neg c1]
    exact Fresh.nil h encRgb_len (by omega)
  obtain ⟨hnn, hnnn⟩ := cubes c1
  have Wnn : IntKind.i64.wrap (n * n) = n * n := i64w (by omega)
  have Wnnn : IntKind.i64.wrap (n * n * n) = n * n * n := i64w (by omega)
  have W1 : IntKind.i64.wrap (n - 1) = n - 1 := i64w (by omega)
  have n0 : n ≠ 0 := by omega
  have n1 : n * n ≠ 0 := by omega
  simp (maxSteps := 4000000) (disch := omega) only [ah, am, Nat.reduceEqDiff, reduceCtorEq, Nat.reduceAdd, Nat.reduceLeDiff, Nat.reduceMul, Nat.reduceLT, if_true, if_false, true_and, and_true, and_self, Nat.reduceBEq, QOp.loads, boxO, bslO, buildO, cutL, fillV, putL, w18, v18, decide_eq_true c1, Bool.not_true, Wnn, Wnnn]
  refine SW_loop_up (fun i E K => ∃ ov, Fk [] h K encRgb 3 ov ((List.range i).map (nodeF n)) [] ∧ E = [(0, .int .i64 n), (3, ov), (15, .int .i64 (n * n * n)), (16, .int .i64 (i : Int))]) (n * n * n).toNat 0 (by omega) ?_ ?_
  · exact ⟨_, Fk.of (Fresh.new0 h encRgb_len (by omega)), rfl⟩
  rintro i E K hi ⟨ov, F, rfl⟩
  simp (maxSteps := 4000000) (disch := omega) only [ah, am, Nat.reduceEqDiff, reduceCtorEq, Nat.reduceAdd, Nat.reduceLeDiff, Nat.reduceMul, Nat.reduceLT, if_true, if_false, true_and, and_true, and_self, Nat.reduceBEq, QOp.loads, boxO, bslO, buildO, cutL, fillV, putL, w18, v18]
  refine stepI.split (fun hp => ?_) (fun hp => ?_)
  · obtain ⟨b0, b1, b2, b3, b4, b5⟩ := coords c1 hp
    have q1 : (i : Int).tdiv n = i / n := Int.tdiv_eq_ediv_of_nonneg (by omega)
    have q2 : (i : Int).tdiv (n * n) = i / (n * n) := by rw [Int.tdiv_eq_ediv_of_nonneg (by omega)]
    have q3 : ((i : Int) / n).tmod n = i / n % n := Int.tmod_eq_emod_of_nonneg b3
    have q4 : (i : Int).tmod n = i % n := Int.tmod_eq_emod_of_nonneg (by omega)
    have w1 : IntKind.i64.wrap ((i : Int) / n) = i / n := i64w (by omega)
    have w2 : IntKind.i64.wrap ((i : Int) / (n * n)) = i / (n * n) := i64w (by omega)
    have w6 : IntKind.i64.wrap ((i : Int) / n % n) = i / n % n := i64w (by omega)
    have w7 : IntKind.i64.wrap ((i : Int) % n) = i % n := i64w (by omega)
    simp (maxSteps := 4000000) (disch := omega) only [ah, am, Nat.reduceEqDiff, reduceCtorEq, Nat.reduceAdd, Nat.reduceLeDiff, Nat.reduceMul, Nat.reduceLT, if_true, if_false, true_and, and_true, and_self, Nat.reduceBEq, QOp.loads, boxO, bslO, buildO, cutL, fillV, putL, w18, v18, Wnn, Wnnn, W1, q1, q2, q3, q4, w1, w2, w6, w7, n0, n1, ne_eq]
    have F1 := F.more [[.int .i64 (i / (n * n)), .int .i64 (i / n % n), .int .i64 (i % n)]]
    simp only [boxesAt, List.nil_append] at F1
    obtain ⟨q, hq⟩ : ∃ q, q = K.size := ⟨_, rfl⟩
    rw [← hq] at F1 ⊢
    generalize K.more [[.int .i64 (i / (n * n)), .int .i64 (i / n % n), .int .i64 (i % n)]] = K1 at F1 ⊢
    refine SW_loop_up (fun k E K2 => Fk [] h K2 encRgb 3 ov ((List.range i).map (nodeF n)) [(q, prP n i k)] ∧ E = [(0, .int .i64 n), (3, ov), (5, .pointer (some ⟨q, 0, none⟩)), (15, .int .i64 (n * n * n)), (16, .int .i64 (i : Int)), (33, .int .i64 (k : Int))]) 3 0 (by omega) ?_ ?_
    · exact ⟨F1, rfl⟩
    rintro k E K2 hk ⟨F2, rfl⟩
    simp (maxSteps := 4000000) (disch := omega) only [ah, am, Nat.reduceEqDiff, reduceCtorEq, Nat.reduceAdd, Nat.reduceLeDiff, Nat.reduceMul, Nat.reduceLT, if_true, if_false, true_and, and_true, and_self, Nat.reduceBEq, QOp.loads, boxO, bslO, buildO, cutL, fillV, putL, w18, v18]
    refine stepI.split (fun hp2 => ?_) (fun hp2 => ?_)
    · have hk3 : k = 0 ∨ k = 1 ∨ k = 2 := by omega
      obtain ⟨f1, f2, f3⟩ := pr_at n i k (by omega)
      have hb : 0 ≤ pvP n i k ∧ pvP n i k ≤ n - 1 := by
        rcases hk3 with rfl | rfl | rfl
        · exact b0
        · exact b1
        · exact b2
      have V : ldV K2 (.pointer (some ⟨q, k, none⟩)) = some (.int .i64 (pvP n i k)) := by rw [(F2.ld (List.mem_cons_self)).1, f1]
      have w8 : IntKind.i64.wrap (pvP n i k * 65535) = pvP n i k * 65535 := i64w (by omega)
      have W : IntKind.i64.wrap ((k : Int) + 1) = ((k + 1 : Nat) : Int) := i64e (by omega) (by omega)
      obtain ⟨K3, es, F3, -⟩ := F2.put (List.mem_cons_self) (o := k) (n := 1) (y := .int .i64 (near (pvP n i k * 65535) (n - 1))) rfl (by rw [f3]; omega) rfl
      rw [show (Value.int .i64 (near (pvP n i k * 65535) (n - 1))).cells.toList = [.int .i64 (near (pvP n i k * 65535) (n - 1))] from rfl, f2] at F3
      have F3 := F3.sub (B' := [(q, prP n i (k + 1))]) (fun p hp => by rw [List.mem_singleton] at hp; rw [hp]; exact List.mem_cons_self)
      simp (maxSteps := 4000000) (disch := omega) only [ah, am, Nat.reduceEqDiff, reduceCtorEq, Nat.reduceAdd, Nat.reduceLeDiff, Nat.reduceMul, Nat.reduceLT, if_true, if_false, true_and, and_true, and_self, Nat.reduceBEq, QOp.loads, boxO, bslO, buildO, cutL, fillV, putL, w18, v18, Nat.mul_one, V, w8, W1]
      refine stepC.of (near_ok _ _ _ (by omega) (by omega)) ?_
      rintro _ Hx ⟨hx, rfl⟩; rw [hx]; clear hx Hx
      simp (maxSteps := 4000000) (disch := omega) only [ah, am, Nat.reduceEqDiff, reduceCtorEq, Nat.reduceAdd, Nat.reduceLeDiff, Nat.reduceMul, Nat.reduceLT, if_true, if_false, true_and, and_true, and_self, Nat.reduceBEq, QOp.loads, boxO, bslO, buildO, cutL, fillV, putL, w18, v18, Nat.mul_one, es, W]
      exact ⟨by omega, F3⟩
    · have : k = 3 := by omega
      subst this
      have V : ldnV K2 3 (.pointer (some ⟨q, 0, none⟩)) = some (.agg (encRgb (nodeF n i)).toArray) := by rw [(F2.ld (List.mem_cons_self)).2]; rfl
      have W : IntKind.i64.wrap ((i : Int) + 1) = ((i + 1 : Nat) : Int) := i64e (by omega) (by omega)
      simp (maxSteps := 4000000) (disch := omega) only [ah, am, Nat.reduceEqDiff, reduceCtorEq, Nat.reduceAdd, Nat.reduceLeDiff, Nat.reduceMul, Nat.reduceLT, if_true, if_false, true_and, and_true, and_self, Nat.reduceBEq, QOp.loads, boxO, bslO, buildO, cutL, fillV, putL, w18, v18, V]
      refine stepC.of (rgbOf_ok _ _) ?_
      rintro _ Kp ⟨ep, rfl⟩
      obtain ⟨v2, H3, ea, F3⟩ := (F2.bare.step ep).app1 [] (nodeF n i) (bytes := 24) (by simp; omega)
      simp only [List.nil_append, List.length_nil, Nat.add_zero, boxesAt, List.append_nil, ← plain_take] at ea F3
      simp only [encRgb, nodeF] at ea
      simp (maxSteps := 4000000) (disch := omega) only [ah, am, Nat.reduceEqDiff, reduceCtorEq, Nat.reduceAdd, Nat.reduceLeDiff, Nat.reduceMul, Nat.reduceLT, if_true, if_false, true_and, and_true, and_self, Nat.reduceBEq, QOp.loads, boxO, bslO, buildO, cutL, fillV, putL, w18, v18, W, encRgb, nodeF, ea]
      exact ⟨by omega, _, F3, rfl⟩
  · have : i = (n * n * n).toNat := by omega
    simp (maxSteps := 4000000) (disch := omega) only [ah, am, Nat.reduceEqDiff, reduceCtorEq, Nat.reduceAdd, Nat.reduceLeDiff, Nat.reduceMul, Nat.reduceLT, if_true, if_false, true_and, and_true, and_self, Nat.reduceBEq, QOp.loads, boxO, bslO, buildO, cutL, fillV, putL, w18, v18]
    rw [show plainF n = (List.range i).map (nodeF n) by rw [this]; exact if_pos c1]
    exact F.fresh
end Go.Proofs.Ytmhbmbhdeofbaaa
