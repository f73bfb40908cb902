import Derived.Test.YtgjppbmbpjomgaaDoorQ9
namespace Go.Proofs.YtgjppbmbpjomgaaDoor
open Go Go.Ah
set_option linter.unusedSimpArgs false
set_option linter.unusedVariables false
set_option maxRecDepth 10000
set_option maxHeartbeats 4000000
/-! 9 loop.example/g00066/impl.Delay: parameters 2, live [0, 1], slots [0:list, 1:by, 2:list, 3:by, 6:out, 7:_, 8:t] -/
def c9_0 : List SOper := [⟨some 4, .q (.mv (.c (.slice none 0 0))), none⟩, ⟨some 5, .q (.mv (.c (.bool false))), none⟩]
def c9_1 : List SOper := [⟨some 9, .q (.mv (.t 0)), none⟩, ⟨some 10, .e (.call 23 [(.t 9)]), none⟩, ⟨some 11, .q (.not (.t 10)), none⟩, ⟨some 12, .q (.mv (.t 11)), none⟩, ⟨some 13, .q (.mv (.t 1)), some (12, false)⟩, ⟨some 14, .e (.call 29 [(.t 13), (.c (.int .i64 (-359999999))), (.c (.int .i64 359999999))]), some (12, false)⟩, ⟨some 15, .q (.not (.t 14)), some (12, false)⟩, ⟨some 16, .q (.pick (.t 12) (.c (.bool true)) (.t 15)), none⟩]
def c9_2 : List SOper := [⟨some 4, .q (.mv (.c (.slice none 0 0))), none⟩, ⟨some 5, .q (.mv (.c (.bool false))), none⟩]
def c9_3 : SCode := .seq (.region c9_2 [4, 5]) .ret
def c9_4 : SCode := .cond (.t 16) c9_3 .skip
def c9_5 : SCode := .seq (.region c9_1 [0, 1, 16]) c9_4
def c9_6 : List SOper := [⟨some 17, .a (.bsl 0 3 [] []), none⟩, ⟨some 6, .q (.mv (.t 17)), none⟩]
def c9_7 : List SOper := [⟨some 18, .q (.mv (.t 0)), none⟩, ⟨some 19, .q (.len (.t 18)), none⟩, ⟨some 20, .q (.mv (.c (.int .i64 0))), none⟩]
def c9_8 : List SOper := [⟨some 21, .q (.bin .lss (.t 20) (.t 19)), none⟩]
def c9_9 : SCode := .cond (.t 21) .skip (.exit 0)
def c9_10 : List SOper := [⟨some 22, .q (.ia 3 (.t 18) (.t 20)), none⟩, ⟨some 23, .q (.ldn 3 (.t 22)), none⟩, ⟨some 8, .a (.new [(.int .i64 0), (.int .i64 0), (.string ⟨#[]⟩)]), none⟩, ⟨none, .e (.st 3 (.t 8) (.t 23)), none⟩]
def c9_11 : List SOper := [⟨some 24, .q (.fa 0 (.t 8)), none⟩, ⟨some 25, .q (.ld (.t 24)), none⟩, ⟨some 26, .q (.mv (.t 1)), none⟩, ⟨some 27, .q (.bin .add (.t 25) (.t 26)), none⟩, ⟨some 28, .q (.fa 1 (.t 8)), none⟩, ⟨some 29, .q (.ld (.t 28)), none⟩, ⟨some 30, .q (.mv (.t 1)), none⟩, ⟨some 31, .q (.bin .add (.t 29) (.t 30)), none⟩, ⟨some 32, .q (.fa 0 (.t 8)), none⟩, ⟨none, .e (.st 1 (.t 32) (.t 27)), none⟩, ⟨some 33, .q (.fa 1 (.t 8)), none⟩, ⟨none, .e (.st 1 (.t 33) (.t 31)), none⟩]
def c9_12 : List SOper := [⟨some 34, .q (.ldn 3 (.t 8)), none⟩, ⟨some 35, .e (.call 30 [(.t 34)]), none⟩, ⟨some 36, .q (.not (.t 35)), none⟩]
def c9_13 : List SOper := [⟨some 4, .q (.mv (.c (.slice none 0 0))), none⟩, ⟨some 5, .q (.mv (.c (.bool false))), none⟩]
def c9_14 : SCode := .seq (.region c9_13 [4, 5]) .ret
def c9_15 : SCode := .cond (.t 36) c9_14 .skip
def c9_16 : SCode := .seq (.region c9_12 [1, 6, 8, 18, 19, 20, 36]) c9_15
def c9_17 : List SOper := [⟨some 37, .q (.mv (.t 6)), none⟩, ⟨some 38, .q (.ldn 3 (.t 8)), none⟩, ⟨some 39, .a (.bsl 1 3 [(.int .i64 0), (.int .i64 0), (.string ⟨#[]⟩)] [(0, 3, (.t 38))]), none⟩, ⟨some 40, .e (.app 32 3 (.t 37) (.t 39)), none⟩, ⟨some 6, .q (.mv (.t 40)), none⟩]
def c9_18 : SCode := .seq c9_16 (.region c9_17 [1, 6, 18, 19, 20])
def c9_19 : SCode := .seq (.region c9_11 [1, 6, 8, 18, 19, 20]) c9_18
def c9_20 : SCode := .seq (.region c9_10 [1, 6, 8, 18, 19, 20]) c9_19
def c9_21 : SCode := .block 1 c9_20
def c9_22 : List SOper := [⟨some 41, .q (.bin .add (.t 20) (.c (.int .i64 1))), none⟩, ⟨some 20, .q (.mv (.t 41)), none⟩]
def c9_23 : SCode := .seq c9_21 (.region c9_22 [1, 6, 18, 19, 20])
def c9_24 : SCode := .seq c9_9 c9_23
def c9_25 : SCode := .seq (.region c9_8 [1, 6, 18, 19, 20, 21]) c9_24
def c9_26 : SCode := .loop c9_25
def c9_27 : SCode := .block 0 c9_26
def c9_28 : SCode := .seq (.region c9_7 [1, 6, 18, 19, 20]) c9_27
def c9_29 : List SOper := [⟨some 42, .q (.mv (.t 6)), none⟩, ⟨some 4, .q (.mv (.t 42)), none⟩, ⟨some 5, .q (.mv (.c (.bool true))), none⟩]
def c9_30 : SCode := .seq (.region c9_29 [4, 5]) .ret
def c9_31 : SCode := .seq c9_28 c9_30
def c9_32 : SCode := .seq (.region c9_6 [0, 1, 6]) c9_31
def c9_33 : SCode := .seq c9_5 c9_32
def c9_34 : SCode := .seq (.region c9_0 [0, 1]) c9_33
def c9 : SCode := c9_34
theorem w9 : type_of% (And.intro (uR Tryd.prog c9_0.eq_1) (And.intro (uR Tryd.prog c9_1.eq_1) (And.intro (uR Tryd.prog c9_2.eq_1) (And.intro (uC Tryd.prog c9_3.eq_1) (And.intro (uC Tryd.prog c9_4.eq_1) (And.intro (uC Tryd.prog c9_5.eq_1) (And.intro (uR Tryd.prog c9_6.eq_1) (And.intro (uR Tryd.prog c9_7.eq_1) (And.intro (uR Tryd.prog c9_8.eq_1) (And.intro (uC Tryd.prog c9_9.eq_1) (And.intro (uR Tryd.prog c9_10.eq_1) (And.intro (uR Tryd.prog c9_11.eq_1) (And.intro (uR Tryd.prog c9_12.eq_1) (And.intro (uR Tryd.prog c9_13.eq_1) (And.intro (uC Tryd.prog c9_14.eq_1) (And.intro (uC Tryd.prog c9_15.eq_1) (And.intro (uC Tryd.prog c9_16.eq_1) (And.intro (uR Tryd.prog c9_17.eq_1) (And.intro (uC Tryd.prog c9_18.eq_1) (And.intro (uC Tryd.prog c9_19.eq_1) (And.intro (uC Tryd.prog c9_20.eq_1) (And.intro (uC Tryd.prog c9_21.eq_1) (And.intro (uR Tryd.prog c9_22.eq_1) (And.intro (uC Tryd.prog c9_23.eq_1) (And.intro (uC Tryd.prog c9_24.eq_1) (And.intro (uC Tryd.prog c9_25.eq_1) (And.intro (uC Tryd.prog c9_26.eq_1) (And.intro (uC Tryd.prog c9_27.eq_1) (And.intro (uC Tryd.prog c9_28.eq_1) (And.intro (uR Tryd.prog c9_29.eq_1) (And.intro (uC Tryd.prog c9_30.eq_1) (And.intro (uC Tryd.prog c9_31.eq_1) (And.intro (uC Tryd.prog c9_32.eq_1) (And.intro (uC Tryd.prog c9_33.eq_1) (And.intro (uC Tryd.prog c9_34.eq_1) (uC Tryd.prog c9.eq_1)))))))))))))))))))))))))))))))))))) := (And.intro (uR Tryd.prog c9_0.eq_1) (And.intro (uR Tryd.prog c9_1.eq_1) (And.intro (uR Tryd.prog c9_2.eq_1) (And.intro (uC Tryd.prog c9_3.eq_1) (And.intro (uC Tryd.prog c9_4.eq_1) (And.intro (uC Tryd.prog c9_5.eq_1) (And.intro (uR Tryd.prog c9_6.eq_1) (And.intro (uR Tryd.prog c9_7.eq_1) (And.intro (uR Tryd.prog c9_8.eq_1) (And.intro (uC Tryd.prog c9_9.eq_1) (And.intro (uR Tryd.prog c9_10.eq_1) (And.intro (uR Tryd.prog c9_11.eq_1) (And.intro (uR Tryd.prog c9_12.eq_1) (And.intro (uR Tryd.prog c9_13.eq_1) (And.intro (uC Tryd.prog c9_14.eq_1) (And.intro (uC Tryd.prog c9_15.eq_1) (And.intro (uC Tryd.prog c9_16.eq_1) (And.intro (uR Tryd.prog c9_17.eq_1) (And.intro (uC Tryd.prog c9_18.eq_1) (And.intro (uC Tryd.prog c9_19.eq_1) (And.intro (uC Tryd.prog c9_20.eq_1) (And.intro (uC Tryd.prog c9_21.eq_1) (And.intro (uR Tryd.prog c9_22.eq_1) (And.intro (uC Tryd.prog c9_23.eq_1) (And.intro (uC Tryd.prog c9_24.eq_1) (And.intro (uC Tryd.prog c9_25.eq_1) (And.intro (uC Tryd.prog c9_26.eq_1) (And.intro (uC Tryd.prog c9_27.eq_1) (And.intro (uC Tryd.prog c9_28.eq_1) (And.intro (uR Tryd.prog c9_29.eq_1) (And.intro (uC Tryd.prog c9_30.eq_1) (And.intro (uC Tryd.prog c9_31.eq_1) (And.intro (uC Tryd.prog c9_32.eq_1) (And.intro (uC Tryd.prog c9_33.eq_1) (And.intro (uC Tryd.prog c9_34.eq_1) (uC Tryd.prog c9.eq_1))))))))))))))))))))))))))))))))))))
def v9 : List RV := [.t 4, .t 5]
theorem s9 : slimF Tryd.prog Tryd.f9 = some (c9.bare, v9) := by kernel_rfl
/-! 10 loop.example/g00066/spec.Delay: parameters 2, live [0, 1], slots [0:list, 1:by, 2:list, 3:by, 6:out, 7:i, 8:t] -/
def c10_0 : List SOper := [⟨some 4, .q (.mv (.c (.slice none 0 0))), none⟩, ⟨some 5, .q (.mv (.c (.bool false))), none⟩]
def c10_1 : List SOper := [⟨some 9, .a (.bsl 0 3 [] []), none⟩, ⟨some 6, .q (.mv (.t 9)), none⟩]
def c10_2 : List SOper := [⟨some 10, .q (.mv (.t 0)), none⟩, ⟨some 11, .e (.call 26 [(.t 10)]), none⟩, ⟨some 12, .q (.not (.t 11)), none⟩, ⟨some 13, .q (.mv (.t 12)), none⟩, ⟨some 14, .q (.mv (.t 1)), some (13, false)⟩, ⟨some 15, .e (.call 31 [(.t 14), (.c (.int .i64 (-359999999))), (.c (.int .i64 359999999))]), some (13, false)⟩, ⟨some 16, .q (.not (.t 15)), some (13, false)⟩, ⟨some 17, .q (.pick (.t 13) (.c (.bool true)) (.t 16)), none⟩]
def c10_3 : List SOper := [⟨some 18, .q (.mv (.t 6)), none⟩, ⟨some 4, .q (.mv (.t 18)), none⟩, ⟨some 5, .q (.mv (.c (.bool false))), none⟩]
def c10_4 : SCode := .seq (.region c10_3 [4, 5]) .ret
def c10_5 : SCode := .cond (.t 17) c10_4 .skip
def c10_6 : SCode := .seq (.region c10_2 [0, 1, 6, 17]) c10_5
def c10_7 : List SOper := [⟨some 7, .q (.mv (.c (.int .i64 0))), none⟩]
def c10_8 : List SOper := [⟨some 19, .q (.mv (.t 7)), none⟩, ⟨some 20, .q (.mv (.t 0)), none⟩, ⟨some 21, .q (.len (.t 20)), none⟩, ⟨some 22, .q (.bin .lss (.t 19) (.t 21)), none⟩]
def c10_9 : SCode := .cond (.t 22) .skip (.exit 0)
def c10_10 : SCode := .seq (.region c10_8 [0, 1, 6, 7, 22]) c10_9
def c10_11 : List SOper := [⟨some 25, .q (.mv (.t 0)), none⟩, ⟨some 26, .q (.mv (.t 7)), none⟩, ⟨some 27, .q (.ia 3 (.t 25) (.t 26)), none⟩, ⟨some 28, .q (.ldn 3 (.t 27)), none⟩, ⟨some 8, .a (.new [(.int .i64 0), (.int .i64 0), (.string ⟨#[]⟩)]), none⟩, ⟨none, .e (.st 3 (.t 8) (.t 28)), none⟩]
def c10_12 : List SOper := [⟨some 29, .q (.fa 0 (.t 8)), none⟩, ⟨some 30, .q (.ld (.t 29)), none⟩, ⟨some 31, .q (.mv (.t 1)), none⟩, ⟨some 32, .q (.bin .add (.t 30) (.t 31)), none⟩, ⟨some 33, .q (.fa 0 (.t 8)), none⟩, ⟨none, .e (.st 1 (.t 33) (.t 32)), none⟩]
def c10_13 : List SOper := [⟨some 34, .q (.fa 1 (.t 8)), none⟩, ⟨some 35, .q (.ld (.t 34)), none⟩, ⟨some 36, .q (.mv (.t 1)), none⟩, ⟨some 37, .q (.bin .add (.t 35) (.t 36)), none⟩, ⟨some 38, .q (.fa 1 (.t 8)), none⟩, ⟨none, .e (.st 1 (.t 38) (.t 37)), none⟩]
def c10_14 : List SOper := [⟨some 39, .q (.mv (.t 6)), none⟩, ⟨some 40, .q (.ldn 3 (.t 8)), none⟩, ⟨some 41, .a (.bsl 1 3 [(.int .i64 0), (.int .i64 0), (.string ⟨#[]⟩)] [(0, 3, (.t 40))]), none⟩, ⟨some 42, .e (.app 32 3 (.t 39) (.t 41)), none⟩, ⟨some 6, .q (.mv (.t 42)), none⟩]
def c10_15 : SCode := .seq (.region c10_13 [0, 1, 6, 7, 8]) (.region c10_14 [0, 1, 6, 7])
def c10_16 : SCode := .seq (.region c10_12 [0, 1, 6, 7, 8]) c10_15
def c10_17 : SCode := .seq (.region c10_11 [0, 1, 6, 7, 8]) c10_16
def c10_18 : SCode := .block 1 c10_17
def c10_19 : List SOper := [⟨some 23, .q (.mv (.t 7)), none⟩, ⟨some 24, .q (.bin .add (.t 23) (.c (.int .i64 1))), none⟩, ⟨some 7, .q (.mv (.t 24)), none⟩]
def c10_20 : SCode := .seq c10_18 (.region c10_19 [0, 1, 6, 7])
def c10_21 : SCode := .seq c10_10 c10_20
def c10_22 : SCode := .loop c10_21
def c10_23 : SCode := .block 0 c10_22
def c10_24 : SCode := .seq (.region c10_7 [0, 1, 6, 7]) c10_23
def c10_25 : List SOper := [⟨some 43, .q (.mv (.t 6)), none⟩, ⟨some 44, .e (.call 26 [(.t 43)]), none⟩, ⟨some 45, .q (.not (.t 44)), none⟩]
def c10_26 : List SOper := [⟨some 46, .a (.bsl 0 3 [] []), none⟩, ⟨some 4, .q (.mv (.t 46)), none⟩, ⟨some 5, .q (.mv (.c (.bool false))), none⟩]
def c10_27 : SCode := .seq (.region c10_26 [4, 5]) .ret
def c10_28 : SCode := .cond (.t 45) c10_27 .skip
def c10_29 : SCode := .seq (.region c10_25 [6, 45]) c10_28
def c10_30 : List SOper := [⟨some 47, .q (.mv (.t 6)), none⟩, ⟨some 4, .q (.mv (.t 47)), none⟩, ⟨some 5, .q (.mv (.c (.bool true))), none⟩]
def c10_31 : SCode := .seq (.region c10_30 [4, 5]) .ret
def c10_32 : SCode := .seq c10_29 c10_31
def c10_33 : SCode := .seq c10_24 c10_32
def c10_34 : SCode := .seq c10_6 c10_33
def c10_35 : SCode := .seq (.region c10_1 [0, 1, 6]) c10_34
def c10_36 : SCode := .seq (.region c10_0 [0, 1]) c10_35
def c10 : SCode := c10_36
theorem w10 : type_of% (And.intro (uR Tryd.prog c10_0.eq_1) (And.intro (uR Tryd.prog c10_1.eq_1) (And.intro (uR Tryd.prog c10_2.eq_1) (And.intro (uR Tryd.prog c10_3.eq_1) (And.intro (uC Tryd.prog c10_4.eq_1) (And.intro (uC Tryd.prog c10_5.eq_1) (And.intro (uC Tryd.prog c10_6.eq_1) (And.intro (uR Tryd.prog c10_7.eq_1) (And.intro (uR Tryd.prog c10_8.eq_1) (And.intro (uC Tryd.prog c10_9.eq_1) (And.intro (uC Tryd.prog c10_10.eq_1) (And.intro (uR Tryd.prog c10_11.eq_1) (And.intro (uR Tryd.prog c10_12.eq_1) (And.intro (uR Tryd.prog c10_13.eq_1) (And.intro (uR Tryd.prog c10_14.eq_1) (And.intro (uC Tryd.prog c10_15.eq_1) (And.intro (uC Tryd.prog c10_16.eq_1) (And.intro (uC Tryd.prog c10_17.eq_1) (And.intro (uC Tryd.prog c10_18.eq_1) (And.intro (uR Tryd.prog c10_19.eq_1) (And.intro (uC Tryd.prog c10_20.eq_1) (And.intro (uC Tryd.prog c10_21.eq_1) (And.intro (uC Tryd.prog c10_22.eq_1) (And.intro (uC Tryd.prog c10_23.eq_1) (And.intro (uC Tryd.prog c10_24.eq_1) (And.intro (uR Tryd.prog c10_25.eq_1) (And.intro (uR Tryd.prog c10_26.eq_1) (And.intro (uC Tryd.prog c10_27.eq_1) (And.intro (uC Tryd.prog c10_28.eq_1) (And.intro (uC Tryd.prog c10_29.eq_1) (And.intro (uR Tryd.prog c10_30.eq_1) (And.intro (uC Tryd.prog c10_31.eq_1) (And.intro (uC Tryd.prog c10_32.eq_1) (And.intro (uC Tryd.prog c10_33.eq_1) (And.intro (uC Tryd.prog c10_34.eq_1) (And.intro (uC Tryd.prog c10_35.eq_1) (And.intro (uC Tryd.prog c10_36.eq_1) (uC Tryd.prog c10.eq_1)))))))))))))))))))))))))))))))))))))) := (And.intro (uR Tryd.prog c10_0.eq_1) (And.intro (uR Tryd.prog c10_1.eq_1) (And.intro (uR Tryd.prog c10_2.eq_1) (And.intro (uR Tryd.prog c10_3.eq_1) (And.intro (uC Tryd.prog c10_4.eq_1) (And.intro (uC Tryd.prog c10_5.eq_1) (And.intro (uC Tryd.prog c10_6.eq_1) (And.intro (uR Tryd.prog c10_7.eq_1) (And.intro (uR Tryd.prog c10_8.eq_1) (And.intro (uC Tryd.prog c10_9.eq_1) (And.intro (uC Tryd.prog c10_10.eq_1) (And.intro (uR Tryd.prog c10_11.eq_1) (And.intro (uR Tryd.prog c10_12.eq_1) (And.intro (uR Tryd.prog c10_13.eq_1) (And.intro (uR Tryd.prog c10_14.eq_1) (And.intro (uC Tryd.prog c10_15.eq_1) (And.intro (uC Tryd.prog c10_16.eq_1) (And.intro (uC Tryd.prog c10_17.eq_1) (And.intro (uC Tryd.prog c10_18.eq_1) (And.intro (uR Tryd.prog c10_19.eq_1) (And.intro (uC Tryd.prog c10_20.eq_1) (And.intro (uC Tryd.prog c10_21.eq_1) (And.intro (uC Tryd.prog c10_22.eq_1) (And.intro (uC Tryd.prog c10_23.eq_1) (And.intro (uC Tryd.prog c10_24.eq_1) (And.intro (uR Tryd.prog c10_25.eq_1) (And.intro (uR Tryd.prog c10_26.eq_1) (And.intro (uC Tryd.prog c10_27.eq_1) (And.intro (uC Tryd.prog c10_28.eq_1) (And.intro (uC Tryd.prog c10_29.eq_1) (And.intro (uR Tryd.prog c10_30.eq_1) (And.intro (uC Tryd.prog c10_31.eq_1) (And.intro (uC Tryd.prog c10_32.eq_1) (And.intro (uC Tryd.prog c10_33.eq_1) (And.intro (uC Tryd.prog c10_34.eq_1) (And.intro (uC Tryd.prog c10_35.eq_1) (And.intro (uC Tryd.prog c10_36.eq_1) (uC Tryd.prog c10.eq_1))))))))))))))))))))))))))))))))))))))
def v10 : List RV := [.t 4, .t 5]
theorem s10 : slimF Tryd.prog Tryd.f10 = some (c10.bare, v10) := by kernel_rfl

def shT (by' : Int) (t : Title) : Title := ⟨t.fr + by', t.to + by', t.tx⟩
def byOk (b : Int) : Prop := -359999999 ≤ b ∧ b ≤ 359999999
def dOk (l : List Title) (b : Int) : Prop := titlesOk l ∧ byOk b ∧ ∀ i, i < l.length → timeOk (shT b (tAt l i))
noncomputable instance (l : List Title) (b : Int) : Decidable (dOk l b) := Classical.propDecidable _
theorem tAt_map (l : List Title) (b : Int) {i : Nat} (hi : i < l.length) : tAt (l.map (shT b)) i = shT b (tAt l i) := by
  rw [tAt_eq (by simpa using hi), tAt_eq hi, List.getElem_map]
theorem shift_ok {l : List Title} {b : Int} (h : titlesOk l) : titlesOk (l.map (shT b)) ↔ ∀ i, i < l.length → timeOk (shT b (tAt l i)) := by
  constructor
  · intro q i hi
    have := (q.2 i (by simpa using hi)).1
    rw [tAt_map l b hi] at this; exact this
  · intro q
    refine ⟨by simpa using h.1, fun i hi => ?_⟩
    rw [List.length_map] at hi
    refine ⟨by rw [tAt_map l b hi]; exact q i hi, by rw [tAt_map l b hi]; exact (h.2 i hi).2.1, fun h0 => ?_⟩
    rw [tAt_map l b hi, tAt_map l b (by omega)]
    have := (h.2 i hi).2.2 h0
    simp only [shT]; omega
theorem map_take {l : List Title} {b : Int} {i : Nat} (hi : i < l.length) : (l.take (i + 1)).map (shT b) = (l.take i).map (shT b) ++ [shT b l[i]] := by
  rw [List.take_succ_eq_append_getElem hi, List.map_append]; rfl
theorem Delay_ok (h : Heap) (v : Value) (l : List Title) (b : Int) (hs : SlT h encTitle 3 v l) (hl : l.length ≤ 281474976710656) (hn : ∀ t ∈ l, t.tx.size ≤ 9223372036854775807) :
    ACall Tryd.prog 9 [v, .int .i64 b] h fun r h' => ∃ w, r = .tuple #[w, .bool (decide (dOk l b))] ∧ Ext h h' ∧ (dOk l b → SlT h' encTitle 3 w (l.map (shT b))) := by
  refine ACall.of Tryd.func9 s9 (of_decide_eq_true rfl) ?_
  simp (maxSteps := 4000000) (disch := omega) only [ah, am, Nat.reduceEqDiff, reduceCtorEq, Nat.reduceAdd, Nat.reduceLeDiff, Nat.reduceMul, Nat.reduceLT, if_true, if_false, true_and, and_true, and_self, Nat.reduceBEq, QOp.loads, boxO, bslO, buildO, cutL, fillV, putL, w9, v9]
  refine stepC.of (TitlesOk_ok _ v l hs hl hn) ?_
  rintro _ H1 ⟨e1, rfl⟩
  have bad : ¬ dOk l b → ∀ (K : Heap) (e : Ext h K) , ∃ w, (.tuple #[.slice none 0 0, .bool false] : Value) = .tuple #[w, .bool (decide (dOk l b))] ∧ Ext h K ∧ (dOk l b → SlT K encTitle 3 w (l.map (shT b))) := by
    intro q K e
    exact ⟨_, by rw [decide_eq_false q], e, fun t => absurd t q⟩
  by_cases c1 : titlesOk l
  rotate_left
  · simp (maxSteps := 4000000) (disch := omega) only [ah, am, Nat.reduceEqDiff, reduceCtorEq, Nat.reduceAdd, Nat.reduceLeDiff, Nat.reduceMul, Nat.reduceLT, if_true, if_false, true_and, and_true, and_self, Nat.reduceBEq, QOp.loads, boxO, bslO, buildO, cutL, fillV, putL, w9, v9, decide_eq_false c1]
    exact bad (fun q => c1 q.1) _ e1
  simp (maxSteps := 4000000) (disch := omega) only [ah, am, Nat.reduceEqDiff, reduceCtorEq, Nat.reduceAdd, Nat.reduceLeDiff, Nat.reduceMul, Nat.reduceLT, if_true, if_false, true_and, and_true, and_self, Nat.reduceBEq, QOp.loads, boxO, bslO, buildO, cutL, fillV, putL, w9, v9, decide_eq_true c1]
  refine stepC.of (in_ok _ _ _ _) ?_
  rintro _ Hx ⟨hx, rfl⟩; rw [hx]; clear hx Hx
  by_cases c2 : byOk b
  rotate_left
  · have c2' : ¬ (-359999999 ≤ b ∧ b ≤ 359999999) := c2
    simp (maxSteps := 4000000) (disch := omega) only [ah, am, Nat.reduceEqDiff, reduceCtorEq, Nat.reduceAdd, Nat.reduceLeDiff, Nat.reduceMul, Nat.reduceLT, if_true, if_false, true_and, and_true, and_self, Nat.reduceBEq, QOp.loads, boxO, bslO, buildO, cutL, fillV, putL, w9, v9, decide_eq_false c2']
    exact bad (fun q => c2 q.2.1) _ e1
  have c2' : -359999999 ≤ b ∧ b ≤ 359999999 := c2
  have R := hs.rulesN
  simp (maxSteps := 4000000) (disch := omega) only [ah, am, Nat.reduceEqDiff, reduceCtorEq, Nat.reduceAdd, Nat.reduceLeDiff, Nat.reduceMul, Nat.reduceLT, if_true, if_false, true_and, and_true, and_self, Nat.reduceBEq, QOp.loads, boxO, bslO, buildO, cutL, fillV, putL, w9, v9, decide_eq_true c2', R.1]
  refine SW_loop_up (fun i E K => ∃ w, Fk [] H1 K encTitle 3 w ((l.take i).map (shT b)) [] ∧ (∀ j, j < i → timeOk (shT b (tAt l j))) ∧ E = [(1, .int .i64 b), (6, w), (18, v), (19, .int .i64 (l.length : Int)), (20, .int .i64 (i : Int))]) l.length 0 (by omega)
    ⟨_, Fk.of (Fresh.new0 H1 encTitle_len (by omega)), fun j hj => by omega, rfl⟩ ?_
  rintro i E K hi ⟨w, F, Q, rfl⟩
  obtain ⟨hl200, hT⟩ := id c1
  have W : IntKind.i64.wrap ((i : Int) + 1) = ((i + 1 : Nat) : Int) := i64e (by omega) (by omega)
  have eK := e1.trans F.ext.ext
  have R := (hs.ext eK).rulesN
  simp (maxSteps := 4000000) (disch := omega) only [ah, am, Nat.reduceEqDiff, reduceCtorEq, Nat.reduceAdd, Nat.reduceLeDiff, Nat.reduceMul, Nat.reduceLT, if_true, if_false, true_and, and_true, and_self, Nat.reduceBEq, QOp.loads, boxO, bslO, buildO, cutL, fillV, putL, w9, v9]
  refine stepI.split (fun hp => ?_) (fun hp => ?_)
  rotate_left
  · have hii : i = l.length := by omega
    subst hii
    simp (maxSteps := 4000000) (disch := omega) only [ah, am, Nat.reduceEqDiff, reduceCtorEq, Nat.reduceAdd, Nat.reduceLeDiff, Nat.reduceMul, Nat.reduceLT, if_true, if_false, true_and, and_true, and_self, Nat.reduceBEq, QOp.loads, boxO, bslO, buildO, cutL, fillV, putL, w9, v9]
    rw [List.take_length] at F
    exact ⟨w, by rw [decide_eq_true (show dOk l b from ⟨c1, c2, Q⟩)], eK, fun _ => F.slt⟩
  have hi2 : i < l.length := by omega
  obtain ⟨x, hx⟩ : ∃ x, x = l[i]'hi2 := ⟨_, rfl⟩
  have X : tAt l i = x := by rw [tAt_eq hi2, hx]
  obtain ⟨t1, t2, t3⟩ := hT i hi2
  rw [X] at t1
  unfold timeOk at t1
  have LN : ldnV K 3 (ptrAt v (i * 3)) = some (.agg (encTitle x).toArray) := by rw [hx]; exact R.2.2.2.2.2 i hi2
  have wf : IntKind.i64.wrap (x.fr + b) = x.fr + b := i64e (by omega) (by omega)
  have wt : IntKind.i64.wrap (x.to + b) = x.to + b := i64e (by omega) (by omega)
  have F1 := F.more [encTitle x]
  simp only [boxesAt, List.nil_append] at F1
  have D1 := F1.ld (i := K.size) (cs := encTitle x) (by simp)
  obtain ⟨K2, es1, F2, G2, q2⟩ := F1.put1 (o := 0) (n := 1) (y := .int .i64 (x.fr + b)) rfl (by simp [encTitle]) rfl
  simp only [splice, cells_int, encTitle, List.take_succ_cons, List.take_zero, List.cons_append, List.nil_append, List.append_nil, List.length_cons, List.length_nil, List.drop_succ_cons, List.drop_zero, List.drop_nil, Nat.reduceAdd] at F2 es1 D1
  obtain ⟨K3, es2, F3, G3, q3⟩ := F2.put1 (o := 1) (n := 1) (y := .int .i64 (x.to + b)) rfl (by simp) rfl
  simp only [splice, cells_int, encTitle, List.take_succ_cons, List.take_zero, List.cons_append, List.nil_append, List.append_nil, List.length_cons, List.length_nil, List.drop_succ_cons, List.drop_zero, List.drop_nil, Nat.reduceAdd] at F3 es2
  have D3 := F3.ld (i := K.size) (cs := [.int .i64 (x.fr + b), .int .i64 (x.to + b), .string x.tx]) (by simp)
  have tk : ACall Tryd.prog 30 [.agg #[.int .i64 (x.fr + b), .int .i64 (x.to + b), .string x.tx]] K3 fun r h' => Ext K3 h' ∧ r = .bool (decide (timeOk (shT b x))) := timesOk_ok K3 (shT b x)
  simp (maxSteps := 4000000) (disch := omega) only [ah, am, Nat.reduceEqDiff, reduceCtorEq, Nat.reduceAdd, Nat.reduceLeDiff, Nat.reduceMul, Nat.reduceLT, if_true, if_false, true_and, and_true, and_self, Nat.reduceBEq, QOp.loads, boxO, bslO, buildO, cutL, fillV, putL, w9, v9, R.2.1, LN, encTitle, D1, wf, wt, es1, es2, D3]
  refine stepC.of tk ?_
  rintro _ K4 ⟨e4, rfl⟩
  have F4 := F3.step e4
  have D4 := F4.ld (i := K.size) (cs := [.int .i64 (x.fr + b), .int .i64 (x.to + b), .string x.tx]) (by simp)
  by_cases c3 : timeOk (shT b x)
  rotate_left
  · simp (maxSteps := 4000000) (disch := omega) only [ah, am, Nat.reduceEqDiff, reduceCtorEq, Nat.reduceAdd, Nat.reduceLeDiff, Nat.reduceMul, Nat.reduceLT, if_true, if_false, true_and, and_true, and_self, Nat.reduceBEq, QOp.loads, boxO, bslO, buildO, cutL, fillV, putL, w9, v9, decide_eq_false c3]
    exact bad (fun q => c3 (by have := q.2.2 i hi2; rw [X] at this; exact this)) _ (e1.trans F4.ext.ext)
  obtain ⟨w2, K5, ap, F5⟩ := F4.app1 [] (shT b x) (bytes := 32) (by simp; omega)
  simp only [boxesAt, List.nil_append, List.append_nil, List.length_nil, Nat.add_zero, encTitle, shT] at ap
  simp (maxSteps := 4000000) (disch := omega) only [ah, am, Nat.reduceEqDiff, reduceCtorEq, Nat.reduceAdd, Nat.reduceLeDiff, Nat.reduceMul, Nat.reduceLT, if_true, if_false, true_and, and_true, and_self, Nat.reduceBEq, QOp.loads, boxO, bslO, buildO, cutL, fillV, putL, w9, v9, decide_eq_true c3, D4, ap, W]
  refine ⟨hi2, w2, ?_, fun j hj => ?_, rfl⟩
  · rw [map_take hi2, ← hx]; exact F5.bare
  · by_cases e : j = i
    · rw [e, X]; exact c3
    · exact Q j (by omega)
theorem specDelay_ok (h : Heap) (v : Value) (l : List Title) (b : Int) (hs : SlT h encTitle 3 v l) (hl : l.length ≤ 281474976710656) (hn : ∀ t ∈ l, t.tx.size ≤ 9223372036854775807) :
    ACall Tryd.prog 10 [v, .int .i64 b] h fun r h' => ∃ w, r = .tuple #[w, .bool (decide (dOk l b))] ∧ Ext h h' := by
  have F0 := Fresh.new0 (enc := encTitle) (sz := 3) h encTitle_len (by omega)
  refine ACall.of Tryd.func10 s10 (of_decide_eq_true rfl) ?_
  simp (maxSteps := 4000000) (disch := omega) only [ah, am, Nat.reduceEqDiff, reduceCtorEq, Nat.reduceAdd, Nat.reduceLeDiff, Nat.reduceMul, Nat.reduceLT, if_true, if_false, true_and, and_true, and_self, Nat.reduceBEq, QOp.loads, boxO, bslO, buildO, cutL, fillV, putL, w10, v10]
  refine stepC.of (specTitlesOk_ok _ v l (hs.ext F0.1) hl hn) ?_
  rintro _ H1 ⟨e1, rfl⟩
  by_cases c1 : titlesOk l
  rotate_left
  · simp (maxSteps := 4000000) (disch := omega) only [ah, am, Nat.reduceEqDiff, reduceCtorEq, Nat.reduceAdd, Nat.reduceLeDiff, Nat.reduceMul, Nat.reduceLT, if_true, if_false, true_and, and_true, and_self, Nat.reduceBEq, QOp.loads, boxO, bslO, buildO, cutL, fillV, putL, w10, v10, decide_eq_false c1]
    exact ⟨_, by rw [decide_eq_false (show ¬ dOk l b from fun q => c1 q.1)], F0.1.trans e1⟩
  simp (maxSteps := 4000000) (disch := omega) only [ah, am, Nat.reduceEqDiff, reduceCtorEq, Nat.reduceAdd, Nat.reduceLeDiff, Nat.reduceMul, Nat.reduceLT, if_true, if_false, true_and, and_true, and_self, Nat.reduceBEq, QOp.loads, boxO, bslO, buildO, cutL, fillV, putL, w10, v10, decide_eq_true c1]
  refine stepC.of (l1In_ok _ _ _ _) ?_
  rintro _ Hx ⟨hx, rfl⟩; rw [hx]; clear hx Hx
  by_cases c2 : byOk b
  rotate_left
  · have c2' : ¬ (-359999999 ≤ b ∧ b ≤ 359999999) := c2
    simp (maxSteps := 4000000) (disch := omega) only [ah, am, Nat.reduceEqDiff, reduceCtorEq, Nat.reduceAdd, Nat.reduceLeDiff, Nat.reduceMul, Nat.reduceLT, if_true, if_false, true_and, and_true, and_self, Nat.reduceBEq, QOp.loads, boxO, bslO, buildO, cutL, fillV, putL, w10, v10, decide_eq_false c2']
    exact ⟨_, by rw [decide_eq_false (show ¬ dOk l b from fun q => c2 q.2.1)], F0.1.trans e1⟩
  have c2' : -359999999 ≤ b ∧ b ≤ 359999999 := c2
  simp (maxSteps := 4000000) (disch := omega) only [ah, am, Nat.reduceEqDiff, reduceCtorEq, Nat.reduceAdd, Nat.reduceLeDiff, Nat.reduceMul, Nat.reduceLT, if_true, if_false, true_and, and_true, and_self, Nat.reduceBEq, QOp.loads, boxO, bslO, buildO, cutL, fillV, putL, w10, v10, decide_eq_true c2']
  refine SW_loop_up (fun i E K => ∃ w, Fk [] h K encTitle 3 w ((l.take i).map (shT b)) [] ∧ E = [(0, v), (1, .int .i64 b), (6, w), (7, .int .i64 (i : Int))]) l.length 0 (by omega)
    ⟨_, Fk.of (F0.ext e1), rfl⟩ ?_
  rintro i E K hi ⟨w, F, rfl⟩
  obtain ⟨hl200, hT⟩ := id c1
  have W : IntKind.i64.wrap ((i : Int) + 1) = ((i + 1 : Nat) : Int) := i64e (by omega) (by omega)
  have eK := F.ext.ext
  have R := (hs.ext eK).rulesN
  simp (maxSteps := 4000000) (disch := omega) only [ah, am, Nat.reduceEqDiff, reduceCtorEq, Nat.reduceAdd, Nat.reduceLeDiff, Nat.reduceMul, Nat.reduceLT, if_true, if_false, true_and, and_true, and_self, Nat.reduceBEq, QOp.loads, boxO, bslO, buildO, cutL, fillV, putL, w10, v10, R.1]
  refine stepI.split (fun hp => ?_) (fun hp => ?_)
  rotate_left
  · have hii : i = l.length := by omega
    subst hii
    rw [List.take_length] at F
    simp (maxSteps := 4000000) (disch := omega) only [ah, am, Nat.reduceEqDiff, reduceCtorEq, Nat.reduceAdd, Nat.reduceLeDiff, Nat.reduceMul, Nat.reduceLT, if_true, if_false, true_and, and_true, and_self, Nat.reduceBEq, QOp.loads, boxO, bslO, buildO, cutL, fillV, putL, w10, v10]
    refine stepC.of (specTitlesOk_ok _ w (l.map (shT b)) F.slt (by simp; omega) ?_) ?_
    · intro t ht
      obtain ⟨t', ht', rfl⟩ := List.mem_map.mp ht
      exact hn t' ht'
    rintro _ K2 ⟨e2, rfl⟩
    by_cases c3 : titlesOk (l.map (shT b))
    · simp (maxSteps := 4000000) (disch := omega) only [ah, am, Nat.reduceEqDiff, reduceCtorEq, Nat.reduceAdd, Nat.reduceLeDiff, Nat.reduceMul, Nat.reduceLT, if_true, if_false, true_and, and_true, and_self, Nat.reduceBEq, QOp.loads, boxO, bslO, buildO, cutL, fillV, putL, w10, v10, decide_eq_true c3]
      exact ⟨_, by rw [decide_eq_true (show dOk l b from ⟨c1, c2, (shift_ok c1).mp c3⟩)], eK.trans e2⟩
    · simp (maxSteps := 4000000) (disch := omega) only [ah, am, Nat.reduceEqDiff, reduceCtorEq, Nat.reduceAdd, Nat.reduceLeDiff, Nat.reduceMul, Nat.reduceLT, if_true, if_false, true_and, and_true, and_self, Nat.reduceBEq, QOp.loads, boxO, bslO, buildO, cutL, fillV, putL, w10, v10, decide_eq_false c3]
      exact ⟨_, by rw [decide_eq_false (show ¬ dOk l b from fun q => c3 ((shift_ok c1).mpr q.2.2))], (eK.trans e2).trans (Ext.more _ _)⟩
  have hi2 : i < l.length := by omega
  obtain ⟨x, hx⟩ : ∃ x, x = l[i]'hi2 := ⟨_, rfl⟩
  have X : tAt l i = x := by rw [tAt_eq hi2, hx]
  obtain ⟨t1, t2, t3⟩ := hT i hi2
  rw [X] at t1
  unfold timeOk at t1
  have LN : ldnV K 3 (ptrAt v (i * 3)) = some (.agg (encTitle x).toArray) := by rw [hx]; exact R.2.2.2.2.2 i hi2
  have wf : IntKind.i64.wrap (x.fr + b) = x.fr + b := i64e (by omega) (by omega)
  have wt : IntKind.i64.wrap (x.to + b) = x.to + b := i64e (by omega) (by omega)
  have F1 := F.more [encTitle x]
  simp only [boxesAt, List.nil_append] at F1
  have D1 := F1.ld (i := K.size) (cs := encTitle x) (by simp)
  obtain ⟨K2, es1, F2, G2, q2⟩ := F1.put1 (o := 0) (n := 1) (y := .int .i64 (x.fr + b)) rfl (by simp [encTitle]) rfl
  simp only [splice, cells_int, encTitle, List.take_succ_cons, List.take_zero, List.cons_append, List.nil_append, List.append_nil, List.length_cons, List.length_nil, List.drop_succ_cons, List.drop_zero, List.drop_nil, Nat.reduceAdd] at F2 es1 D1
  have D2 := F2.ld (i := K.size) (cs := [.int .i64 (x.fr + b), .int .i64 x.to, .string x.tx]) (by simp)
  obtain ⟨K3, es2, F3, G3, q3⟩ := F2.put1 (o := 1) (n := 1) (y := .int .i64 (x.to + b)) rfl (by simp) rfl
  simp only [splice, cells_int, encTitle, List.take_succ_cons, List.take_zero, List.cons_append, List.nil_append, List.append_nil, List.length_cons, List.length_nil, List.drop_succ_cons, List.drop_zero, List.drop_nil, Nat.reduceAdd] at F3 es2
  have D3 := F3.ld (i := K.size) (cs := [.int .i64 (x.fr + b), .int .i64 (x.to + b), .string x.tx]) (by simp)
  obtain ⟨w2, K5, ap, F5⟩ := F3.app1 [] (shT b x) (bytes := 32) (by simp; omega)
  simp only [boxesAt, List.nil_append, List.append_nil, List.length_nil, Nat.add_zero, encTitle, shT] at ap
  simp (maxSteps := 4000000) (disch := omega) only [ah, am, Nat.reduceEqDiff, reduceCtorEq, Nat.reduceAdd, Nat.reduceLeDiff, Nat.reduceMul, Nat.reduceLT, if_true, if_false, true_and, and_true, and_self, Nat.reduceBEq, QOp.loads, boxO, bslO, buildO, cutL, fillV, putL, w10, v10, R.2.1, LN, encTitle, D1, wf, wt, es1, es2, D2, D3, ap, W]
  refine ⟨hi2, w2, ?_, rfl⟩
  rw [map_take hi2, ← hx]; exact F5.bare
end Go.Proofs.YtgjppbmbpjomgaaDoor
