import Derived.Test.YtbanblghepekdaaI6
import Derived.Test.YtbanblghepekdaaAhU
namespace Go.Proofs.Ytbanblghepekdaa
open Go Go.Ah
set_option linter.unusedSimpArgs false
set_option linter.unusedVariables false
set_option maxRecDepth 10000
set_option maxHeartbeats 4000000
/-! 3 loop.example/g00066/laws.FnExactSlip: parameters 3, live [0, 1, 2], slots [0:aTrack, 1:aI, 2:aN, 3:aTrack, 4:aI, 5:aN, 7:left, 8:w0, 9:w1, 10:x0, 11:g0, 12:g1, 13:k, 14:m, 15:q, 16:h0, 17:h1] -/
def c3_0 : List SOper := [⟨some 6, .q (.mv (.c (.bool false))), none⟩]
theorem c3_0_e (K : Env → Heap → Prop) (E : Env) (h : Heap) : AOps Try.prog c3_0 K E h = AOps Try.prog [⟨some 6, .q (.mv (.c (.bool false))), none⟩] K E h := rfl
def c3_1 : List SOper := [⟨some 7, .q (.mv (.c (.int .i64 1048576))), none⟩]
theorem c3_1_e (K : Env → Heap → Prop) (E : Env) (h : Heap) : AOps Try.prog c3_1 K E h = AOps Try.prog [⟨some 7, .q (.mv (.c (.int .i64 1048576))), none⟩] K E h := rfl
def c3_2 : List SOper := [⟨some 18, .q (.mv (.t 0)), none⟩, ⟨some 19, .q (.mv (.t 7)), none⟩, ⟨some 20, .e (.call 14 [(.t 18), (.t 19)]), none⟩, ⟨some 7, .q (.mv (.t 20)), none⟩]
theorem c3_2_e (K : Env → Heap → Prop) (E : Env) (h : Heap) : AOps Try.prog c3_2 K E h = AOps Try.prog [⟨some 18, .q (.mv (.t 0)), none⟩, ⟨some 19, .q (.mv (.t 7)), none⟩, ⟨some 20, .e (.call 14 [(.t 18), (.t 19)]), none⟩, ⟨some 7, .q (.mv (.t 20)), none⟩] K E h := rfl
def c3_3 : List SOper := [⟨some 21, .q (.mv (.t 7)), none⟩, ⟨some 22, .q (.bin .lss (.t 21) (.c (.int .i64 0))), none⟩]
theorem c3_3_e (K : Env → Heap → Prop) (E : Env) (h : Heap) : AOps Try.prog c3_3 K E h = AOps Try.prog [⟨some 21, .q (.mv (.t 7)), none⟩, ⟨some 22, .q (.bin .lss (.t 21) (.c (.int .i64 0))), none⟩] K E h := rfl
def c3_4 : List SOper := [⟨some 6, .q (.mv (.c (.bool true))), none⟩]
theorem c3_4_e (K : Env → Heap → Prop) (E : Env) (h : Heap) : AOps Try.prog c3_4 K E h = AOps Try.prog [⟨some 6, .q (.mv (.c (.bool true))), none⟩] K E h := rfl
def c3_5 : SCode := .seq (.region c3_4 [6]) .ret
theorem c3_5_e (Q : Go.Exit → Env → Heap → Prop) (E : Env) (h : Heap) : SW Try.prog c3_5 Q E h = SW Try.prog (.seq (.region c3_4 [6]) .ret) Q E h := rfl
def c3_6 : SCode := .cond (.t 22) c3_5 .skip
theorem c3_6_e (Q : Go.Exit → Env → Heap → Prop) (E : Env) (h : Heap) : SW Try.prog c3_6 Q E h = SW Try.prog (.cond (.t 22) c3_5 .skip) Q E h := rfl
def c3_7 : SCode := .seq (.region c3_3 [0, 1, 2, 22]) c3_6
theorem c3_7_e (Q : Go.Exit → Env → Heap → Prop) (E : Env) (h : Heap) : SW Try.prog c3_7 Q E h = SW Try.prog (.seq (.region c3_3 [0, 1, 2, 22]) c3_6) Q E h := rfl
def c3_8 : List SOper := [⟨some 24, .q (.mv (.t 0)), none⟩, ⟨some 25, .e (.call 16 [(.t 24)]), none⟩, ⟨some 26, .q (.mv (.t 1)), none⟩, ⟨some 27, .q (.mv (.t 2)), none⟩, ⟨some 28, .e (.call 15 [(.t 25), (.t 26), (.t 27)]), none⟩, ⟨some 23, .q (.mv (.t 28)), none⟩, ⟨some 29, .q (.ext (.t 23) 0), none⟩, ⟨some 30, .q (.ext (.t 23) 1), none⟩, ⟨some 8, .q (.mv (.t 29)), none⟩, ⟨some 9, .q (.mv (.t 30)), none⟩]
theorem c3_8_e (K : Env → Heap → Prop) (E : Env) (h : Heap) : AOps Try.prog c3_8 K E h = AOps Try.prog [⟨some 24, .q (.mv (.t 0)), none⟩, ⟨some 25, .e (.call 16 [(.t 24)]), none⟩, ⟨some 26, .q (.mv (.t 1)), none⟩, ⟨some 27, .q (.mv (.t 2)), none⟩, ⟨some 28, .e (.call 15 [(.t 25), (.t 26), (.t 27)]), none⟩, ⟨some 23, .q (.mv (.t 28)), none⟩, ⟨some 29, .q (.ext (.t 23) 0), none⟩, ⟨some 30, .q (.ext (.t 23) 1), none⟩, ⟨some 8, .q (.mv (.t 29)), none⟩, ⟨some 9, .q (.mv (.t 30)), none⟩] K E h := rfl
def c3_9 : List SOper := [⟨some 31, .q (.mv (.t 0)), none⟩, ⟨some 32, .e (.call 16 [(.t 31)]), none⟩, ⟨some 10, .q (.mv (.t 32)), none⟩]
theorem c3_9_e (K : Env → Heap → Prop) (E : Env) (h : Heap) : AOps Try.prog c3_9 K E h = AOps Try.prog [⟨some 31, .q (.mv (.t 0)), none⟩, ⟨some 32, .e (.call 16 [(.t 31)]), none⟩, ⟨some 10, .q (.mv (.t 32)), none⟩] K E h := rfl
def c3_10 : List SOper := [⟨some 34, .q (.mv (.t 10)), none⟩, ⟨some 35, .q (.mv (.t 1)), none⟩, ⟨some 36, .q (.mv (.t 2)), none⟩, ⟨some 37, .e (.call 17 [(.t 34), (.t 35), (.t 36)]), none⟩, ⟨some 33, .q (.mv (.t 37)), none⟩, ⟨some 38, .q (.ext (.t 33) 0), none⟩, ⟨some 39, .q (.ext (.t 33) 1), none⟩, ⟨some 11, .q (.mv (.t 38)), none⟩, ⟨some 12, .q (.mv (.t 39)), none⟩]
theorem c3_10_e (K : Env → Heap → Prop) (E : Env) (h : Heap) : AOps Try.prog c3_10 K E h = AOps Try.prog [⟨some 34, .q (.mv (.t 10)), none⟩, ⟨some 35, .q (.mv (.t 1)), none⟩, ⟨some 36, .q (.mv (.t 2)), none⟩, ⟨some 37, .e (.call 17 [(.t 34), (.t 35), (.t 36)]), none⟩, ⟨some 33, .q (.mv (.t 37)), none⟩, ⟨some 38, .q (.ext (.t 33) 0), none⟩, ⟨some 39, .q (.ext (.t 33) 1), none⟩, ⟨some 11, .q (.mv (.t 38)), none⟩, ⟨some 12, .q (.mv (.t 39)), none⟩] K E h := rfl
def c3_11 : List SOper := [⟨some 40, .q (.mv (.t 11)), none⟩, ⟨some 41, .q (.mv (.t 8)), none⟩, ⟨some 42, .e (.call 18 [(.t 40), (.t 41)]), none⟩, ⟨some 43, .q (.not (.t 42)), none⟩, ⟨some 44, .q (.mv (.t 43)), none⟩, ⟨some 45, .q (.mv (.t 12)), some (44, false)⟩, ⟨some 46, .q (.mv (.t 9)), some (44, false)⟩, ⟨some 47, .q (.eqb true (.t 45) (.t 46)), some (44, false)⟩, ⟨some 48, .q (.pick (.t 44) (.c (.bool true)) (.t 47)), none⟩]
theorem c3_11_e (K : Env → Heap → Prop) (E : Env) (h : Heap) : AOps Try.prog c3_11 K E h = AOps Try.prog [⟨some 40, .q (.mv (.t 11)), none⟩, ⟨some 41, .q (.mv (.t 8)), none⟩, ⟨some 42, .e (.call 18 [(.t 40), (.t 41)]), none⟩, ⟨some 43, .q (.not (.t 42)), none⟩, ⟨some 44, .q (.mv (.t 43)), none⟩, ⟨some 45, .q (.mv (.t 12)), some (44, false)⟩, ⟨some 46, .q (.mv (.t 9)), some (44, false)⟩, ⟨some 47, .q (.eqb true (.t 45) (.t 46)), some (44, false)⟩, ⟨some 48, .q (.pick (.t 44) (.c (.bool true)) (.t 47)), none⟩] K E h := rfl
def c3_12 : List SOper := [⟨some 6, .q (.mv (.c (.bool false))), none⟩]
theorem c3_12_e (K : Env → Heap → Prop) (E : Env) (h : Heap) : AOps Try.prog c3_12 K E h = AOps Try.prog [⟨some 6, .q (.mv (.c (.bool false))), none⟩] K E h := rfl
def c3_13 : SCode := .seq (.region c3_12 [6]) .ret
theorem c3_13_e (Q : Go.Exit → Env → Heap → Prop) (E : Env) (h : Heap) : SW Try.prog c3_13 Q E h = SW Try.prog (.seq (.region c3_12 [6]) .ret) Q E h := rfl
def c3_14 : SCode := .cond (.t 48) c3_13 .skip
theorem c3_14_e (Q : Go.Exit → Env → Heap → Prop) (E : Env) (h : Heap) : SW Try.prog c3_14 Q E h = SW Try.prog (.cond (.t 48) c3_13 .skip) Q E h := rfl
def c3_15 : SCode := .seq (.region c3_11 [0, 1, 2, 8, 9, 10, 11, 12, 48]) c3_14
theorem c3_15_e (Q : Go.Exit → Env → Heap → Prop) (E : Env) (h : Heap) : SW Try.prog c3_15 Q E h = SW Try.prog (.seq (.region c3_11 [0, 1, 2, 8, 9, 10, 11, 12, 48]) c3_14) Q E h := rfl
def c3_16 : List SOper := [⟨some 49, .q (.mv (.t 10)), none⟩, ⟨some 50, .q (.mv (.t 0)), none⟩, ⟨some 51, .e (.call 16 [(.t 50)]), none⟩, ⟨some 52, .e (.call 18 [(.t 49), (.t 51)]), none⟩, ⟨some 53, .q (.not (.t 52)), none⟩]
theorem c3_16_e (K : Env → Heap → Prop) (E : Env) (h : Heap) : AOps Try.prog c3_16 K E h = AOps Try.prog [⟨some 49, .q (.mv (.t 10)), none⟩, ⟨some 50, .q (.mv (.t 0)), none⟩, ⟨some 51, .e (.call 16 [(.t 50)]), none⟩, ⟨some 52, .e (.call 18 [(.t 49), (.t 51)]), none⟩, ⟨some 53, .q (.not (.t 52)), none⟩] K E h := rfl
def c3_17 : List SOper := [⟨some 6, .q (.mv (.c (.bool false))), none⟩]
theorem c3_17_e (K : Env → Heap → Prop) (E : Env) (h : Heap) : AOps Try.prog c3_17 K E h = AOps Try.prog [⟨some 6, .q (.mv (.c (.bool false))), none⟩] K E h := rfl
def c3_18 : SCode := .seq (.region c3_17 [6]) .ret
theorem c3_18_e (Q : Go.Exit → Env → Heap → Prop) (E : Env) (h : Heap) : SW Try.prog c3_18 Q E h = SW Try.prog (.seq (.region c3_17 [6]) .ret) Q E h := rfl
def c3_19 : SCode := .cond (.t 53) c3_18 .skip
theorem c3_19_e (Q : Go.Exit → Env → Heap → Prop) (E : Env) (h : Heap) : SW Try.prog c3_19 Q E h = SW Try.prog (.cond (.t 53) c3_18 .skip) Q E h := rfl
def c3_20 : SCode := .seq (.region c3_16 [0, 1, 2, 8, 9, 10, 11, 12, 53]) c3_19
theorem c3_20_e (Q : Go.Exit → Env → Heap → Prop) (E : Env) (h : Heap) : SW Try.prog c3_20 Q E h = SW Try.prog (.seq (.region c3_16 [0, 1, 2, 8, 9, 10, 11, 12, 53]) c3_19) Q E h := rfl
def c3_21 : List SOper := [⟨some 13, .q (.mv (.c (.int .i64 1))), none⟩]
theorem c3_21_e (K : Env → Heap → Prop) (E : Env) (h : Heap) : AOps Try.prog c3_21 K E h = AOps Try.prog [⟨some 13, .q (.mv (.c (.int .i64 1))), none⟩] K E h := rfl
def c3_22 : List SOper := [⟨some 54, .q (.mv (.t 10)), none⟩, ⟨some 55, .q (.mv (.t 13)), none⟩, ⟨some 56, .e (.call 19 [(.t 54), (.t 55)]), none⟩, ⟨some 13, .q (.mv (.t 56)), none⟩]
theorem c3_22_e (K : Env → Heap → Prop) (E : Env) (h : Heap) : AOps Try.prog c3_22 K E h = AOps Try.prog [⟨some 54, .q (.mv (.t 10)), none⟩, ⟨some 55, .q (.mv (.t 13)), none⟩, ⟨some 56, .e (.call 19 [(.t 54), (.t 55)]), none⟩, ⟨some 13, .q (.mv (.t 56)), none⟩] K E h := rfl
def c3_23 : List SOper := [⟨some 57, .q (.mv (.t 13)), none⟩, ⟨some 58, .q (.bin .lss (.t 57) (.c (.int .i64 0))), none⟩, ⟨some 59, .q (.mv (.t 58)), none⟩, ⟨some 60, .q (.mv (.t 11)), some (59, false)⟩, ⟨some 61, .q (.mv (.t 8)), some (59, false)⟩, ⟨some 62, .e (.call 18 [(.t 60), (.t 61)]), some (59, false)⟩, ⟨some 63, .q (.not (.t 62)), some (59, false)⟩, ⟨some 64, .q (.pick (.t 59) (.c (.bool true)) (.t 63)), none⟩, ⟨some 65, .q (.mv (.t 64)), none⟩, ⟨some 66, .q (.mv (.t 12)), some (65, false)⟩, ⟨some 67, .q (.mv (.t 9)), some (65, false)⟩, ⟨some 68, .q (.eqb true (.t 66) (.t 67)), some (65, false)⟩, ⟨some 69, .q (.pick (.t 65) (.c (.bool true)) (.t 68)), none⟩]
theorem c3_23_e (K : Env → Heap → Prop) (E : Env) (h : Heap) : AOps Try.prog c3_23 K E h = AOps Try.prog [⟨some 57, .q (.mv (.t 13)), none⟩, ⟨some 58, .q (.bin .lss (.t 57) (.c (.int .i64 0))), none⟩, ⟨some 59, .q (.mv (.t 58)), none⟩, ⟨some 60, .q (.mv (.t 11)), some (59, false)⟩, ⟨some 61, .q (.mv (.t 8)), some (59, false)⟩, ⟨some 62, .e (.call 18 [(.t 60), (.t 61)]), some (59, false)⟩, ⟨some 63, .q (.not (.t 62)), some (59, false)⟩, ⟨some 64, .q (.pick (.t 59) (.c (.bool true)) (.t 63)), none⟩, ⟨some 65, .q (.mv (.t 64)), none⟩, ⟨some 66, .q (.mv (.t 12)), some (65, false)⟩, ⟨some 67, .q (.mv (.t 9)), some (65, false)⟩, ⟨some 68, .q (.eqb true (.t 66) (.t 67)), some (65, false)⟩, ⟨some 69, .q (.pick (.t 65) (.c (.bool true)) (.t 68)), none⟩] K E h := rfl
def c3_24 : List SOper := [⟨some 6, .q (.mv (.c (.bool false))), none⟩]
theorem c3_24_e (K : Env → Heap → Prop) (E : Env) (h : Heap) : AOps Try.prog c3_24 K E h = AOps Try.prog [⟨some 6, .q (.mv (.c (.bool false))), none⟩] K E h := rfl
def c3_25 : SCode := .seq (.region c3_24 [6]) .ret
theorem c3_25_e (Q : Go.Exit → Env → Heap → Prop) (E : Env) (h : Heap) : SW Try.prog c3_25 Q E h = SW Try.prog (.seq (.region c3_24 [6]) .ret) Q E h := rfl
def c3_26 : SCode := .cond (.t 69) c3_25 .skip
theorem c3_26_e (Q : Go.Exit → Env → Heap → Prop) (E : Env) (h : Heap) : SW Try.prog c3_26 Q E h = SW Try.prog (.cond (.t 69) c3_25 .skip) Q E h := rfl
def c3_27 : SCode := .seq (.region c3_23 [0, 1, 2, 8, 9, 11, 69]) c3_26
theorem c3_27_e (Q : Go.Exit → Env → Heap → Prop) (E : Env) (h : Heap) : SW Try.prog c3_27 Q E h = SW Try.prog (.seq (.region c3_23 [0, 1, 2, 8, 9, 11, 69]) c3_26) Q E h := rfl
def c3_28 : List SOper := [⟨some 14, .q (.mv (.c (.int .i64 1))), none⟩]
theorem c3_28_e (K : Env → Heap → Prop) (E : Env) (h : Heap) : AOps Try.prog c3_28 K E h = AOps Try.prog [⟨some 14, .q (.mv (.c (.int .i64 1))), none⟩] K E h := rfl
def c3_29 : List SOper := [⟨some 70, .q (.mv (.t 11)), none⟩, ⟨some 71, .q (.mv (.t 14)), none⟩, ⟨some 72, .e (.call 19 [(.t 70), (.t 71)]), none⟩, ⟨some 14, .q (.mv (.t 72)), none⟩]
theorem c3_29_e (K : Env → Heap → Prop) (E : Env) (h : Heap) : AOps Try.prog c3_29 K E h = AOps Try.prog [⟨some 70, .q (.mv (.t 11)), none⟩, ⟨some 71, .q (.mv (.t 14)), none⟩, ⟨some 72, .e (.call 19 [(.t 70), (.t 71)]), none⟩, ⟨some 14, .q (.mv (.t 72)), none⟩] K E h := rfl
def c3_30 : List SOper := [⟨some 15, .q (.mv (.c (.int .i64 1))), none⟩]
theorem c3_30_e (K : Env → Heap → Prop) (E : Env) (h : Heap) : AOps Try.prog c3_30 K E h = AOps Try.prog [⟨some 15, .q (.mv (.c (.int .i64 1))), none⟩] K E h := rfl
def c3_31 : List SOper := [⟨some 73, .q (.mv (.t 11)), none⟩, ⟨some 74, .q (.mv (.t 15)), none⟩, ⟨some 75, .e (.call 20 [(.t 73), (.t 74)]), none⟩, ⟨some 15, .q (.mv (.t 75)), none⟩]
theorem c3_31_e (K : Env → Heap → Prop) (E : Env) (h : Heap) : AOps Try.prog c3_31 K E h = AOps Try.prog [⟨some 73, .q (.mv (.t 11)), none⟩, ⟨some 74, .q (.mv (.t 15)), none⟩, ⟨some 75, .e (.call 20 [(.t 73), (.t 74)]), none⟩, ⟨some 15, .q (.mv (.t 75)), none⟩] K E h := rfl
def c3_32 : List SOper := [⟨some 76, .q (.mv (.t 15)), none⟩, ⟨some 77, .q (.bin .lss (.t 76) (.c (.int .i64 0))), none⟩]
theorem c3_32_e (K : Env → Heap → Prop) (E : Env) (h : Heap) : AOps Try.prog c3_32 K E h = AOps Try.prog [⟨some 76, .q (.mv (.t 15)), none⟩, ⟨some 77, .q (.bin .lss (.t 76) (.c (.int .i64 0))), none⟩] K E h := rfl
def c3_33 : List SOper := [⟨some 6, .q (.mv (.c (.bool false))), none⟩]
theorem c3_33_e (K : Env → Heap → Prop) (E : Env) (h : Heap) : AOps Try.prog c3_33 K E h = AOps Try.prog [⟨some 6, .q (.mv (.c (.bool false))), none⟩] K E h := rfl
def c3_34 : SCode := .seq (.region c3_33 [6]) .ret
theorem c3_34_e (Q : Go.Exit → Env → Heap → Prop) (E : Env) (h : Heap) : SW Try.prog c3_34 Q E h = SW Try.prog (.seq (.region c3_33 [6]) .ret) Q E h := rfl
def c3_35 : SCode := .cond (.t 77) c3_34 .skip
theorem c3_35_e (Q : Go.Exit → Env → Heap → Prop) (E : Env) (h : Heap) : SW Try.prog c3_35 Q E h = SW Try.prog (.cond (.t 77) c3_34 .skip) Q E h := rfl
def c3_36 : SCode := .seq (.region c3_32 [0, 1, 2, 8, 9, 11, 14, 15, 77]) c3_35
theorem c3_36_e (Q : Go.Exit → Env → Heap → Prop) (E : Env) (h : Heap) : SW Try.prog c3_36 Q E h = SW Try.prog (.seq (.region c3_32 [0, 1, 2, 8, 9, 11, 14, 15, 77]) c3_35) Q E h := rfl
def c3_37 : List SOper := [⟨some 78, .q (.mv (.t 15)), none⟩, ⟨some 79, .q (.mv (.t 14)), none⟩, ⟨some 80, .q (.bin .neq (.t 78) (.t 79)), none⟩]
theorem c3_37_e (K : Env → Heap → Prop) (E : Env) (h : Heap) : AOps Try.prog c3_37 K E h = AOps Try.prog [⟨some 78, .q (.mv (.t 15)), none⟩, ⟨some 79, .q (.mv (.t 14)), none⟩, ⟨some 80, .q (.bin .neq (.t 78) (.t 79)), none⟩] K E h := rfl
def c3_38 : List SOper := [⟨some 6, .q (.mv (.c (.bool false))), none⟩]
theorem c3_38_e (K : Env → Heap → Prop) (E : Env) (h : Heap) : AOps Try.prog c3_38 K E h = AOps Try.prog [⟨some 6, .q (.mv (.c (.bool false))), none⟩] K E h := rfl
def c3_39 : SCode := .seq (.region c3_38 [6]) .ret
theorem c3_39_e (Q : Go.Exit → Env → Heap → Prop) (E : Env) (h : Heap) : SW Try.prog c3_39 Q E h = SW Try.prog (.seq (.region c3_38 [6]) .ret) Q E h := rfl
def c3_40 : SCode := .cond (.t 80) c3_39 .skip
theorem c3_40_e (Q : Go.Exit → Env → Heap → Prop) (E : Env) (h : Heap) : SW Try.prog c3_40 Q E h = SW Try.prog (.cond (.t 80) c3_39 .skip) Q E h := rfl
def c3_41 : SCode := .seq (.region c3_37 [0, 1, 2, 8, 9, 11, 14, 80]) c3_40
theorem c3_41_e (Q : Go.Exit → Env → Heap → Prop) (E : Env) (h : Heap) : SW Try.prog c3_41 Q E h = SW Try.prog (.seq (.region c3_37 [0, 1, 2, 8, 9, 11, 14, 80]) c3_40) Q E h := rfl
def c3_42 : List SOper := [⟨some 82, .q (.mv (.t 0)), none⟩, ⟨some 83, .e (.call 16 [(.t 82)]), none⟩, ⟨some 84, .q (.mv (.t 1)), none⟩, ⟨some 85, .q (.mv (.t 2)), none⟩, ⟨some 86, .e (.call 17 [(.t 83), (.t 84), (.t 85)]), none⟩, ⟨some 81, .q (.mv (.t 86)), none⟩, ⟨some 87, .q (.ext (.t 81) 0), none⟩, ⟨some 88, .q (.ext (.t 81) 1), none⟩, ⟨some 16, .q (.mv (.t 87)), none⟩, ⟨some 17, .q (.mv (.t 88)), none⟩]
theorem c3_42_e (K : Env → Heap → Prop) (E : Env) (h : Heap) : AOps Try.prog c3_42 K E h = AOps Try.prog [⟨some 82, .q (.mv (.t 0)), none⟩, ⟨some 83, .e (.call 16 [(.t 82)]), none⟩, ⟨some 84, .q (.mv (.t 1)), none⟩, ⟨some 85, .q (.mv (.t 2)), none⟩, ⟨some 86, .e (.call 17 [(.t 83), (.t 84), (.t 85)]), none⟩, ⟨some 81, .q (.mv (.t 86)), none⟩, ⟨some 87, .q (.ext (.t 81) 0), none⟩, ⟨some 88, .q (.ext (.t 81) 1), none⟩, ⟨some 16, .q (.mv (.t 87)), none⟩, ⟨some 17, .q (.mv (.t 88)), none⟩] K E h := rfl
def c3_43 : List SOper := [⟨some 89, .q (.mv (.t 16)), none⟩, ⟨some 90, .q (.mv (.t 8)), none⟩, ⟨some 91, .e (.call 18 [(.t 89), (.t 90)]), none⟩, ⟨some 92, .q (.not (.t 91)), none⟩, ⟨some 93, .q (.mv (.t 92)), none⟩, ⟨some 94, .q (.mv (.t 17)), some (93, false)⟩, ⟨some 95, .q (.mv (.t 9)), some (93, false)⟩, ⟨some 96, .q (.eqb true (.t 94) (.t 95)), some (93, false)⟩, ⟨some 97, .q (.pick (.t 93) (.c (.bool true)) (.t 96)), none⟩]
theorem c3_43_e (K : Env → Heap → Prop) (E : Env) (h : Heap) : AOps Try.prog c3_43 K E h = AOps Try.prog [⟨some 89, .q (.mv (.t 16)), none⟩, ⟨some 90, .q (.mv (.t 8)), none⟩, ⟨some 91, .e (.call 18 [(.t 89), (.t 90)]), none⟩, ⟨some 92, .q (.not (.t 91)), none⟩, ⟨some 93, .q (.mv (.t 92)), none⟩, ⟨some 94, .q (.mv (.t 17)), some (93, false)⟩, ⟨some 95, .q (.mv (.t 9)), some (93, false)⟩, ⟨some 96, .q (.eqb true (.t 94) (.t 95)), some (93, false)⟩, ⟨some 97, .q (.pick (.t 93) (.c (.bool true)) (.t 96)), none⟩] K E h := rfl
def c3_44 : List SOper := [⟨some 6, .q (.mv (.c (.bool false))), none⟩]
theorem c3_44_e (K : Env → Heap → Prop) (E : Env) (h : Heap) : AOps Try.prog c3_44 K E h = AOps Try.prog [⟨some 6, .q (.mv (.c (.bool false))), none⟩] K E h := rfl
def c3_45 : SCode := .seq (.region c3_44 [6]) .ret
theorem c3_45_e (Q : Go.Exit → Env → Heap → Prop) (E : Env) (h : Heap) : SW Try.prog c3_45 Q E h = SW Try.prog (.seq (.region c3_44 [6]) .ret) Q E h := rfl
def c3_46 : SCode := .cond (.t 97) c3_45 .skip
theorem c3_46_e (Q : Go.Exit → Env → Heap → Prop) (E : Env) (h : Heap) : SW Try.prog c3_46 Q E h = SW Try.prog (.cond (.t 97) c3_45 .skip) Q E h := rfl
def c3_47 : SCode := .seq (.region c3_43 [11, 14, 97]) c3_46
theorem c3_47_e (Q : Go.Exit → Env → Heap → Prop) (E : Env) (h : Heap) : SW Try.prog c3_47 Q E h = SW Try.prog (.seq (.region c3_43 [11, 14, 97]) c3_46) Q E h := rfl
def c3_48 : List SOper := [⟨some 15, .q (.mv (.c (.int .i64 1))), none⟩]
theorem c3_48_e (K : Env → Heap → Prop) (E : Env) (h : Heap) : AOps Try.prog c3_48 K E h = AOps Try.prog [⟨some 15, .q (.mv (.c (.int .i64 1))), none⟩] K E h := rfl
def c3_49 : List SOper := [⟨some 98, .q (.mv (.t 11)), none⟩, ⟨some 99, .q (.mv (.t 15)), none⟩, ⟨some 100, .e (.call 20 [(.t 98), (.t 99)]), none⟩, ⟨some 15, .q (.mv (.t 100)), none⟩]
theorem c3_49_e (K : Env → Heap → Prop) (E : Env) (h : Heap) : AOps Try.prog c3_49 K E h = AOps Try.prog [⟨some 98, .q (.mv (.t 11)), none⟩, ⟨some 99, .q (.mv (.t 15)), none⟩, ⟨some 100, .e (.call 20 [(.t 98), (.t 99)]), none⟩, ⟨some 15, .q (.mv (.t 100)), none⟩] K E h := rfl
def c3_50 : List SOper := [⟨some 101, .q (.mv (.t 15)), none⟩, ⟨some 102, .q (.bin .lss (.t 101) (.c (.int .i64 0))), none⟩]
theorem c3_50_e (K : Env → Heap → Prop) (E : Env) (h : Heap) : AOps Try.prog c3_50 K E h = AOps Try.prog [⟨some 101, .q (.mv (.t 15)), none⟩, ⟨some 102, .q (.bin .lss (.t 101) (.c (.int .i64 0))), none⟩] K E h := rfl
def c3_51 : List SOper := [⟨some 6, .q (.mv (.c (.bool false))), none⟩]
theorem c3_51_e (K : Env → Heap → Prop) (E : Env) (h : Heap) : AOps Try.prog c3_51 K E h = AOps Try.prog [⟨some 6, .q (.mv (.c (.bool false))), none⟩] K E h := rfl
def c3_52 : SCode := .seq (.region c3_51 [6]) .ret
theorem c3_52_e (Q : Go.Exit → Env → Heap → Prop) (E : Env) (h : Heap) : SW Try.prog c3_52 Q E h = SW Try.prog (.seq (.region c3_51 [6]) .ret) Q E h := rfl
def c3_53 : SCode := .cond (.t 102) c3_52 .skip
theorem c3_53_e (Q : Go.Exit → Env → Heap → Prop) (E : Env) (h : Heap) : SW Try.prog c3_53 Q E h = SW Try.prog (.cond (.t 102) c3_52 .skip) Q E h := rfl
def c3_54 : SCode := .seq (.region c3_50 [14, 15, 102]) c3_53
theorem c3_54_e (Q : Go.Exit → Env → Heap → Prop) (E : Env) (h : Heap) : SW Try.prog c3_54 Q E h = SW Try.prog (.seq (.region c3_50 [14, 15, 102]) c3_53) Q E h := rfl
def c3_55 : List SOper := [⟨some 103, .q (.mv (.t 15)), none⟩, ⟨some 104, .q (.mv (.t 14)), none⟩, ⟨some 105, .q (.bin .neq (.t 103) (.t 104)), none⟩]
theorem c3_55_e (K : Env → Heap → Prop) (E : Env) (h : Heap) : AOps Try.prog c3_55 K E h = AOps Try.prog [⟨some 103, .q (.mv (.t 15)), none⟩, ⟨some 104, .q (.mv (.t 14)), none⟩, ⟨some 105, .q (.bin .neq (.t 103) (.t 104)), none⟩] K E h := rfl
def c3_56 : List SOper := [⟨some 6, .q (.mv (.c (.bool false))), none⟩]
theorem c3_56_e (K : Env → Heap → Prop) (E : Env) (h : Heap) : AOps Try.prog c3_56 K E h = AOps Try.prog [⟨some 6, .q (.mv (.c (.bool false))), none⟩] K E h := rfl
def c3_57 : SCode := .seq (.region c3_56 [6]) .ret
theorem c3_57_e (Q : Go.Exit → Env → Heap → Prop) (E : Env) (h : Heap) : SW Try.prog c3_57 Q E h = SW Try.prog (.seq (.region c3_56 [6]) .ret) Q E h := rfl
def c3_58 : SCode := .cond (.t 105) c3_57 .skip
theorem c3_58_e (Q : Go.Exit → Env → Heap → Prop) (E : Env) (h : Heap) : SW Try.prog c3_58 Q E h = SW Try.prog (.cond (.t 105) c3_57 .skip) Q E h := rfl
def c3_59 : SCode := .seq (.region c3_55 [105]) c3_58
theorem c3_59_e (Q : Go.Exit → Env → Heap → Prop) (E : Env) (h : Heap) : SW Try.prog c3_59 Q E h = SW Try.prog (.seq (.region c3_55 [105]) c3_58) Q E h := rfl
def c3_60 : List SOper := [⟨some 6, .q (.mv (.c (.bool true))), none⟩]
theorem c3_60_e (K : Env → Heap → Prop) (E : Env) (h : Heap) : AOps Try.prog c3_60 K E h = AOps Try.prog [⟨some 6, .q (.mv (.c (.bool true))), none⟩] K E h := rfl
def c3_61 : SCode := .seq (.region c3_60 [6]) .ret
theorem c3_61_e (Q : Go.Exit → Env → Heap → Prop) (E : Env) (h : Heap) : SW Try.prog c3_61 Q E h = SW Try.prog (.seq (.region c3_60 [6]) .ret) Q E h := rfl
def c3_62 : SCode := .seq c3_59 c3_61
theorem c3_62_e (Q : Go.Exit → Env → Heap → Prop) (E : Env) (h : Heap) : SW Try.prog c3_62 Q E h = SW Try.prog (.seq c3_59 c3_61) Q E h := rfl
def c3_63 : SCode := .seq c3_54 c3_62
theorem c3_63_e (Q : Go.Exit → Env → Heap → Prop) (E : Env) (h : Heap) : SW Try.prog c3_63 Q E h = SW Try.prog (.seq c3_54 c3_62) Q E h := rfl
def c3_64 : SCode := .seq (.region c3_49 [14, 15]) c3_63
theorem c3_64_e (Q : Go.Exit → Env → Heap → Prop) (E : Env) (h : Heap) : SW Try.prog c3_64 Q E h = SW Try.prog (.seq (.region c3_49 [14, 15]) c3_63) Q E h := rfl
def c3_65 : SCode := .seq (.region c3_48 [11, 14, 15]) c3_64
theorem c3_65_e (Q : Go.Exit → Env → Heap → Prop) (E : Env) (h : Heap) : SW Try.prog c3_65 Q E h = SW Try.prog (.seq (.region c3_48 [11, 14, 15]) c3_64) Q E h := rfl
def c3_66 : SCode := .seq c3_47 c3_65
theorem c3_66_e (Q : Go.Exit → Env → Heap → Prop) (E : Env) (h : Heap) : SW Try.prog c3_66 Q E h = SW Try.prog (.seq c3_47 c3_65) Q E h := rfl
def c3_67 : SCode := .seq (.region c3_42 [8, 9, 11, 14, 16, 17]) c3_66
theorem c3_67_e (Q : Go.Exit → Env → Heap → Prop) (E : Env) (h : Heap) : SW Try.prog c3_67 Q E h = SW Try.prog (.seq (.region c3_42 [8, 9, 11, 14, 16, 17]) c3_66) Q E h := rfl
def c3_68 : SCode := .seq c3_41 c3_67
theorem c3_68_e (Q : Go.Exit → Env → Heap → Prop) (E : Env) (h : Heap) : SW Try.prog c3_68 Q E h = SW Try.prog (.seq c3_41 c3_67) Q E h := rfl
def c3_69 : SCode := .seq c3_36 c3_68
theorem c3_69_e (Q : Go.Exit → Env → Heap → Prop) (E : Env) (h : Heap) : SW Try.prog c3_69 Q E h = SW Try.prog (.seq c3_36 c3_68) Q E h := rfl
def c3_70 : SCode := .seq (.region c3_31 [0, 1, 2, 8, 9, 11, 14, 15]) c3_69
theorem c3_70_e (Q : Go.Exit → Env → Heap → Prop) (E : Env) (h : Heap) : SW Try.prog c3_70 Q E h = SW Try.prog (.seq (.region c3_31 [0, 1, 2, 8, 9, 11, 14, 15]) c3_69) Q E h := rfl
def c3_71 : SCode := .seq (.region c3_30 [0, 1, 2, 8, 9, 11, 14, 15]) c3_70
theorem c3_71_e (Q : Go.Exit → Env → Heap → Prop) (E : Env) (h : Heap) : SW Try.prog c3_71 Q E h = SW Try.prog (.seq (.region c3_30 [0, 1, 2, 8, 9, 11, 14, 15]) c3_70) Q E h := rfl
def c3_72 : SCode := .seq (.region c3_29 [0, 1, 2, 8, 9, 11, 14]) c3_71
theorem c3_72_e (Q : Go.Exit → Env → Heap → Prop) (E : Env) (h : Heap) : SW Try.prog c3_72 Q E h = SW Try.prog (.seq (.region c3_29 [0, 1, 2, 8, 9, 11, 14]) c3_71) Q E h := rfl
def c3_73 : SCode := .seq (.region c3_28 [0, 1, 2, 8, 9, 11, 14]) c3_72
theorem c3_73_e (Q : Go.Exit → Env → Heap → Prop) (E : Env) (h : Heap) : SW Try.prog c3_73 Q E h = SW Try.prog (.seq (.region c3_28 [0, 1, 2, 8, 9, 11, 14]) c3_72) Q E h := rfl
def c3_74 : SCode := .seq c3_27 c3_73
theorem c3_74_e (Q : Go.Exit → Env → Heap → Prop) (E : Env) (h : Heap) : SW Try.prog c3_74 Q E h = SW Try.prog (.seq c3_27 c3_73) Q E h := rfl
def c3_75 : SCode := .seq (.region c3_22 [0, 1, 2, 8, 9, 11, 12, 13]) c3_74
theorem c3_75_e (Q : Go.Exit → Env → Heap → Prop) (E : Env) (h : Heap) : SW Try.prog c3_75 Q E h = SW Try.prog (.seq (.region c3_22 [0, 1, 2, 8, 9, 11, 12, 13]) c3_74) Q E h := rfl
def c3_76 : SCode := .seq (.region c3_21 [0, 1, 2, 8, 9, 10, 11, 12, 13]) c3_75
theorem c3_76_e (Q : Go.Exit → Env → Heap → Prop) (E : Env) (h : Heap) : SW Try.prog c3_76 Q E h = SW Try.prog (.seq (.region c3_21 [0, 1, 2, 8, 9, 10, 11, 12, 13]) c3_75) Q E h := rfl
def c3_77 : SCode := .seq c3_20 c3_76
theorem c3_77_e (Q : Go.Exit → Env → Heap → Prop) (E : Env) (h : Heap) : SW Try.prog c3_77 Q E h = SW Try.prog (.seq c3_20 c3_76) Q E h := rfl
def c3_78 : SCode := .seq c3_15 c3_77
theorem c3_78_e (Q : Go.Exit → Env → Heap → Prop) (E : Env) (h : Heap) : SW Try.prog c3_78 Q E h = SW Try.prog (.seq c3_15 c3_77) Q E h := rfl
def c3_79 : SCode := .seq (.region c3_10 [0, 1, 2, 8, 9, 10, 11, 12]) c3_78
theorem c3_79_e (Q : Go.Exit → Env → Heap → Prop) (E : Env) (h : Heap) : SW Try.prog c3_79 Q E h = SW Try.prog (.seq (.region c3_10 [0, 1, 2, 8, 9, 10, 11, 12]) c3_78) Q E h := rfl
def c3_80 : SCode := .seq (.region c3_9 [0, 1, 2, 8, 9, 10]) c3_79
theorem c3_80_e (Q : Go.Exit → Env → Heap → Prop) (E : Env) (h : Heap) : SW Try.prog c3_80 Q E h = SW Try.prog (.seq (.region c3_9 [0, 1, 2, 8, 9, 10]) c3_79) Q E h := rfl
def c3_81 : SCode := .seq (.region c3_8 [0, 1, 2, 8, 9]) c3_80
theorem c3_81_e (Q : Go.Exit → Env → Heap → Prop) (E : Env) (h : Heap) : SW Try.prog c3_81 Q E h = SW Try.prog (.seq (.region c3_8 [0, 1, 2, 8, 9]) c3_80) Q E h := rfl
def c3_82 : SCode := .seq c3_7 c3_81
theorem c3_82_e (Q : Go.Exit → Env → Heap → Prop) (E : Env) (h : Heap) : SW Try.prog c3_82 Q E h = SW Try.prog (.seq c3_7 c3_81) Q E h := rfl
def c3_83 : SCode := .seq (.region c3_2 [0, 1, 2, 7]) c3_82
theorem c3_83_e (Q : Go.Exit → Env → Heap → Prop) (E : Env) (h : Heap) : SW Try.prog c3_83 Q E h = SW Try.prog (.seq (.region c3_2 [0, 1, 2, 7]) c3_82) Q E h := rfl
def c3_84 : SCode := .seq (.region c3_1 [0, 1, 2, 7]) c3_83
theorem c3_84_e (Q : Go.Exit → Env → Heap → Prop) (E : Env) (h : Heap) : SW Try.prog c3_84 Q E h = SW Try.prog (.seq (.region c3_1 [0, 1, 2, 7]) c3_83) Q E h := rfl
def c3_85 : SCode := .seq (.region c3_0 [0, 1, 2]) c3_84
theorem c3_85_e (Q : Go.Exit → Env → Heap → Prop) (E : Env) (h : Heap) : SW Try.prog c3_85 Q E h = SW Try.prog (.seq (.region c3_0 [0, 1, 2]) c3_84) Q E h := rfl
def c3 : SCode := c3_85
theorem c3_e (Q : Go.Exit → Env → Heap → Prop) (E : Env) (h : Heap) : SW Try.prog c3 Q E h = SW Try.prog c3_85 Q E h := rfl
theorem w3 : type_of% (And.intro @c3_0_e (And.intro @c3_1_e (And.intro @c3_2_e (And.intro @c3_3_e (And.intro @c3_4_e (And.intro @c3_5_e (And.intro @c3_6_e (And.intro @c3_7_e (And.intro @c3_8_e (And.intro @c3_9_e (And.intro @c3_10_e (And.intro @c3_11_e (And.intro @c3_12_e (And.intro @c3_13_e (And.intro @c3_14_e (And.intro @c3_15_e (And.intro @c3_16_e (And.intro @c3_17_e (And.intro @c3_18_e (And.intro @c3_19_e (And.intro @c3_20_e (And.intro @c3_21_e (And.intro @c3_22_e (And.intro @c3_23_e (And.intro @c3_24_e (And.intro @c3_25_e (And.intro @c3_26_e (And.intro @c3_27_e (And.intro @c3_28_e (And.intro @c3_29_e (And.intro @c3_30_e (And.intro @c3_31_e (And.intro @c3_32_e (And.intro @c3_33_e (And.intro @c3_34_e (And.intro @c3_35_e (And.intro @c3_36_e (And.intro @c3_37_e (And.intro @c3_38_e (And.intro @c3_39_e (And.intro @c3_40_e (And.intro @c3_41_e (And.intro @c3_42_e (And.intro @c3_43_e (And.intro @c3_44_e (And.intro @c3_45_e (And.intro @c3_46_e (And.intro @c3_47_e (And.intro @c3_48_e (And.intro @c3_49_e (And.intro @c3_50_e (And.intro @c3_51_e (And.intro @c3_52_e (And.intro @c3_53_e (And.intro @c3_54_e (And.intro @c3_55_e (And.intro @c3_56_e (And.intro @c3_57_e (And.intro @c3_58_e (And.intro @c3_59_e (And.intro @c3_60_e (And.intro @c3_61_e (And.intro @c3_62_e (And.intro @c3_63_e (And.intro @c3_64_e (And.intro @c3_65_e (And.intro @c3_66_e (And.intro @c3_67_e (And.intro @c3_68_e (And.intro @c3_69_e (And.intro @c3_70_e (And.intro @c3_71_e (And.intro @c3_72_e (And.intro @c3_73_e (And.intro @c3_74_e (And.intro @c3_75_e (And.intro @c3_76_e (And.intro @c3_77_e (And.intro @c3_78_e (And.intro @c3_79_e (And.intro @c3_80_e (And.intro @c3_81_e (And.intro @c3_82_e (And.intro @c3_83_e (And.intro @c3_84_e (And.intro @c3_85_e @c3_e)))))))))))))))))))))))))))))))))))))))))))))))))))))))))))))))))))))))))))))))))))))) := (And.intro @c3_0_e (And.intro @c3_1_e (And.intro @c3_2_e (And.intro @c3_3_e (And.intro @c3_4_e (And.intro @c3_5_e (And.intro @c3_6_e (And.intro @c3_7_e (And.intro @c3_8_e (And.intro @c3_9_e (And.intro @c3_10_e (And.intro @c3_11_e (And.intro @c3_12_e (And.intro @c3_13_e (And.intro @c3_14_e (And.intro @c3_15_e (And.intro @c3_16_e (And.intro @c3_17_e (And.intro @c3_18_e (And.intro @c3_19_e (And.intro @c3_20_e (And.intro @c3_21_e (And.intro @c3_22_e (And.intro @c3_23_e (And.intro @c3_24_e (And.intro @c3_25_e (And.intro @c3_26_e (And.intro @c3_27_e (And.intro @c3_28_e (And.intro @c3_29_e (And.intro @c3_30_e (And.intro @c3_31_e (And.intro @c3_32_e (And.intro @c3_33_e (And.intro @c3_34_e (And.intro @c3_35_e (And.intro @c3_36_e (And.intro @c3_37_e (And.intro @c3_38_e (And.intro @c3_39_e (And.intro @c3_40_e (And.intro @c3_41_e (And.intro @c3_42_e (And.intro @c3_43_e (And.intro @c3_44_e (And.intro @c3_45_e (And.intro @c3_46_e (And.intro @c3_47_e (And.intro @c3_48_e (And.intro @c3_49_e (And.intro @c3_50_e (And.intro @c3_51_e (And.intro @c3_52_e (And.intro @c3_53_e (And.intro @c3_54_e (And.intro @c3_55_e (And.intro @c3_56_e (And.intro @c3_57_e (And.intro @c3_58_e (And.intro @c3_59_e (And.intro @c3_60_e (And.intro @c3_61_e (And.intro @c3_62_e (And.intro @c3_63_e (And.intro @c3_64_e (And.intro @c3_65_e (And.intro @c3_66_e (And.intro @c3_67_e (And.intro @c3_68_e (And.intro @c3_69_e (And.intro @c3_70_e (And.intro @c3_71_e (And.intro @c3_72_e (And.intro @c3_73_e (And.intro @c3_74_e (And.intro @c3_75_e (And.intro @c3_76_e (And.intro @c3_77_e (And.intro @c3_78_e (And.intro @c3_79_e (And.intro @c3_80_e (And.intro @c3_81_e (And.intro @c3_82_e (And.intro @c3_83_e (And.intro @c3_84_e (And.intro @c3_85_e @c3_e))))))))))))))))))))))))))))))))))))))))))))))))))))))))))))))))))))))))))))))))))))))
def v3 : List RV := [.t 6]
theorem s3 : slimF Try.prog Try.f3 = some (c3.bare, v3) := by kernel_rfl

theorem markClipS_mine {a b : Nat} {h : Heap} {v : Value} {l : List Clip} (k : Int) (m : Mine a b h encClip 3 v l) (hl : l.length ≤ 1000000000) (hk : 0 ≤ k ∧ k ≤ 1000000000000) :
    ACall Try.prog 19 [v, .int .i64 k] h fun r h' => Chg a b h h' ∧ Mine a b h' encClip 3 v (markClip k l.length) ∧ r = .int .i64 (k + 3 * l.length) :=
  ACall.mine m (fun g o => markClipS_ok h g v l k o hl hk) (fun e => by rw [e]; rfl)
theorem turnF_length (l : List Clip) (i n : Int) (f : Clip → Clip) : (turnF l i n f).1.length ≤ 300 := by
  unfold turnF; split
  · unfold editF; split
    · rename_i h; exact h.2.1
    · simp
  · simp
theorem FnExactSlip_ok (h : Heap) (v : Value) (l : List Clip) (i n : Int) (s : SlT h encClip 3 v l) (hl : l.length ≤ 9223372036854775807) :
    ACall Try.prog 3 [v, .int .i64 i, .int .i64 n] h fun r h' => r = .bool true := by
  refine ACall.of Try.func3 s3 (of_decide_eq_true rfl) ?_
  simp (maxSteps := 4000000) (disch := omega) only [ah, Nat.reduceEqDiff, reduceCtorEq, Nat.reduceAdd, Nat.reduceLeDiff, Nat.reduceMul, Nat.reduceLT, if_true, if_false, true_and, and_true, and_self, stepI_not, alloc_more, more_more, size_more, ld_more, ld_more0, ldn_more, ldn_more0, st_more, st_more0, cells_int, cells_bool, cells_agg, cells_slice, cells_func, cells_string, cells_pointer, oneB_nil, oneB_int, oneB_bool, oneB_string, oneB_slice, oneB_pointer, oneB_func, toList_mk, size_mk, splice_def, cutL, putL, List.getElem?_cons_zero, List.getElem?_cons_succ, List.cons_append, List.nil_append, List.append_nil, List.take_succ_cons, List.take_zero, List.drop_succ_cons, List.drop_zero, List.length_cons, List.length_nil, List.set_cons_zero, List.set_cons_succ, Option.bind_some, Nat.add_zero, Nat.add_assoc, Nat.zero_add, Int.toNat_natCast, fillV, boxO, bslO, buildO, QOp.loads, rechk_none, Bool.false_eq_true, beq_t, beq_f, stepG_not, Bool.not_true, Bool.not_false, decide_true, decide_false, not_false_eq_true, not_true_eq_false, Bool.not_not, ext_0, ext_1, ext_2, w3, v3]
  refine stepC.of (szClipS_ok h v l 1048576 s (by omega) (by omega) hl) ?_
  rintro _ Hx ⟨hx, rfl⟩; rw [hx]; clear hx Hx
  simp (maxSteps := 4000000) (disch := omega) only [ah, Nat.reduceEqDiff, reduceCtorEq, Nat.reduceAdd, Nat.reduceLeDiff, Nat.reduceMul, Nat.reduceLT, if_true, if_false, true_and, and_true, and_self, stepI_not, alloc_more, more_more, size_more, ld_more, ld_more0, ldn_more, ldn_more0, st_more, st_more0, cells_int, cells_bool, cells_agg, cells_slice, cells_func, cells_string, cells_pointer, oneB_nil, oneB_int, oneB_bool, oneB_string, oneB_slice, oneB_pointer, oneB_func, toList_mk, size_mk, splice_def, cutL, putL, List.getElem?_cons_zero, List.getElem?_cons_succ, List.cons_append, List.nil_append, List.append_nil, List.take_succ_cons, List.take_zero, List.drop_succ_cons, List.drop_zero, List.length_cons, List.length_nil, List.set_cons_zero, List.set_cons_succ, Option.bind_some, Nat.add_zero, Nat.add_assoc, Nat.zero_add, Int.toNat_natCast, fillV, boxO, bslO, buildO, QOp.loads, rechk_none, Bool.false_eq_true, beq_t, beq_f, stepG_not, Bool.not_true, Bool.not_false, decide_true, decide_false, not_false_eq_true, not_true_eq_false, Bool.not_not, ext_0, ext_1, ext_2, w3, v3]
  by_cases hsz : (1048576 : Int) - l.length < 0
  · simp (maxSteps := 4000000) (disch := omega) only [ah, Nat.reduceEqDiff, reduceCtorEq, Nat.reduceAdd, Nat.reduceLeDiff, Nat.reduceMul, Nat.reduceLT, if_true, if_false, true_and, and_true, and_self, stepI_not, alloc_more, more_more, size_more, ld_more, ld_more0, ldn_more, ldn_more0, st_more, st_more0, cells_int, cells_bool, cells_agg, cells_slice, cells_func, cells_string, cells_pointer, oneB_nil, oneB_int, oneB_bool, oneB_string, oneB_slice, oneB_pointer, oneB_func, toList_mk, size_mk, splice_def, cutL, putL, List.getElem?_cons_zero, List.getElem?_cons_succ, List.cons_append, List.nil_append, List.append_nil, List.take_succ_cons, List.take_zero, List.drop_succ_cons, List.drop_zero, List.length_cons, List.length_nil, List.set_cons_zero, List.set_cons_succ, Option.bind_some, Nat.add_zero, Nat.add_assoc, Nat.zero_add, Int.toNat_natCast, fillV, boxO, bslO, buildO, QOp.loads, rechk_none, Bool.false_eq_true, beq_t, beq_f, stepG_not, Bool.not_true, Bool.not_false, decide_true, decide_false, not_false_eq_true, not_true_eq_false, Bool.not_not, ext_0, ext_1, ext_2, w3, v3, hsz, if_pos, stepI_dec]
  have hz : decide ((if (1048576 : Int) - l.length < 0 then -1 else 1048576 - (l.length : Int)) < 0) = false := by rw [if_neg hsz]; exact decide_eq_false hsz
  simp (maxSteps := 4000000) (disch := omega) only [ah, Nat.reduceEqDiff, reduceCtorEq, Nat.reduceAdd, Nat.reduceLeDiff, Nat.reduceMul, Nat.reduceLT, if_true, if_false, true_and, and_true, and_self, stepI_not, alloc_more, more_more, size_more, ld_more, ld_more0, ldn_more, ldn_more0, st_more, st_more0, cells_int, cells_bool, cells_agg, cells_slice, cells_func, cells_string, cells_pointer, oneB_nil, oneB_int, oneB_bool, oneB_string, oneB_slice, oneB_pointer, oneB_func, toList_mk, size_mk, splice_def, cutL, putL, List.getElem?_cons_zero, List.getElem?_cons_succ, List.cons_append, List.nil_append, List.append_nil, List.take_succ_cons, List.take_zero, List.drop_succ_cons, List.drop_zero, List.length_cons, List.length_nil, List.set_cons_zero, List.set_cons_succ, Option.bind_some, Nat.add_zero, Nat.add_assoc, Nat.zero_add, Int.toNat_natCast, fillV, boxO, bslO, buildO, QOp.loads, rechk_none, Bool.false_eq_true, beq_t, beq_f, stepG_not, Bool.not_true, Bool.not_false, decide_true, decide_false, not_false_eq_true, not_true_eq_false, Bool.not_not, ext_0, ext_1, ext_2, w3, v3, hz]
  clear hz
  have hll : l.length ≤ 1048576 := by omega
  have hF := turnF_length l i n (fun k => ⟨k.src, k.inn + n, k.len⟩)
  refine stepC.of (toClipS_ok _ _ _ s hll) ?_
  intro t1 H1 F1
  simp (maxSteps := 4000000) (disch := omega) only [ah, Nat.reduceEqDiff, reduceCtorEq, Nat.reduceAdd, Nat.reduceLeDiff, Nat.reduceMul, Nat.reduceLT, if_true, if_false, true_and, and_true, and_self, stepI_not, alloc_more, more_more, size_more, ld_more, ld_more0, ldn_more, ldn_more0, st_more, st_more0, cells_int, cells_bool, cells_agg, cells_slice, cells_func, cells_string, cells_pointer, oneB_nil, oneB_int, oneB_bool, oneB_string, oneB_slice, oneB_pointer, oneB_func, toList_mk, size_mk, splice_def, cutL, putL, List.getElem?_cons_zero, List.getElem?_cons_succ, List.cons_append, List.nil_append, List.append_nil, List.take_succ_cons, List.take_zero, List.drop_succ_cons, List.drop_zero, List.length_cons, List.length_nil, List.set_cons_zero, List.set_cons_succ, Option.bind_some, Nat.add_zero, Nat.add_assoc, Nat.zero_add, Int.toNat_natCast, fillV, boxO, bslO, buildO, QOp.loads, rechk_none, Bool.false_eq_true, beq_t, beq_f, stepG_not, Bool.not_true, Bool.not_false, decide_true, decide_false, not_false_eq_true, not_true_eq_false, Bool.not_not, ext_0, ext_1, ext_2, w3, v3]
  refine stepC.of (specSlip_ok _ _ _ _ _ F1.slt (by omega)) ?_
  rintro _ H2 ⟨w0, rfl, Fw⟩
  have E2 : Ext h H2 := F1.1.trans Fw.1
  have Mw := Fw.mine
  simp (maxSteps := 4000000) (disch := omega) only [ah, Nat.reduceEqDiff, reduceCtorEq, Nat.reduceAdd, Nat.reduceLeDiff, Nat.reduceMul, Nat.reduceLT, if_true, if_false, true_and, and_true, and_self, stepI_not, alloc_more, more_more, size_more, ld_more, ld_more0, ldn_more, ldn_more0, st_more, st_more0, cells_int, cells_bool, cells_agg, cells_slice, cells_func, cells_string, cells_pointer, oneB_nil, oneB_int, oneB_bool, oneB_string, oneB_slice, oneB_pointer, oneB_func, toList_mk, size_mk, splice_def, cutL, putL, List.getElem?_cons_zero, List.getElem?_cons_succ, List.cons_append, List.nil_append, List.append_nil, List.take_succ_cons, List.take_zero, List.drop_succ_cons, List.drop_zero, List.length_cons, List.length_nil, List.set_cons_zero, List.set_cons_succ, Option.bind_some, Nat.add_zero, Nat.add_assoc, Nat.zero_add, Int.toNat_natCast, fillV, boxO, bslO, buildO, QOp.loads, rechk_none, Bool.false_eq_true, beq_t, beq_f, stepG_not, Bool.not_true, Bool.not_false, decide_true, decide_false, not_false_eq_true, not_true_eq_false, Bool.not_not, ext_0, ext_1, ext_2, w3, v3]
  refine stepC.of (toClipS_ok _ _ _ (s.ext E2) hll) ?_
  intro x0 H3 Fx
  have Mx := Fx.mine
  have E3 := E2.trans Fx.1
  have Mw := Mw.ext Fx.1
  simp (maxSteps := 4000000) (disch := omega) only [ah, Nat.reduceEqDiff, reduceCtorEq, Nat.reduceAdd, Nat.reduceLeDiff, Nat.reduceMul, Nat.reduceLT, if_true, if_false, true_and, and_true, and_self, stepI_not, alloc_more, more_more, size_more, ld_more, ld_more0, ldn_more, ldn_more0, st_more, st_more0, cells_int, cells_bool, cells_agg, cells_slice, cells_func, cells_string, cells_pointer, oneB_nil, oneB_int, oneB_bool, oneB_string, oneB_slice, oneB_pointer, oneB_func, toList_mk, size_mk, splice_def, cutL, putL, List.getElem?_cons_zero, List.getElem?_cons_succ, List.cons_append, List.nil_append, List.append_nil, List.take_succ_cons, List.take_zero, List.drop_succ_cons, List.drop_zero, List.length_cons, List.length_nil, List.set_cons_zero, List.set_cons_succ, Option.bind_some, Nat.add_zero, Nat.add_assoc, Nat.zero_add, Int.toNat_natCast, fillV, boxO, bslO, buildO, QOp.loads, rechk_none, Bool.false_eq_true, beq_t, beq_f, stepG_not, Bool.not_true, Bool.not_false, decide_true, decide_false, not_false_eq_true, not_true_eq_false, Bool.not_not, ext_0, ext_1, ext_2, w3, v3]
  refine stepC.of (Slip_ok _ _ _ _ _ Fx.slt (by omega)) ?_
  rintro _ H4 ⟨g0, rfl, Fg⟩
  have Mg := Fg.mine
  have E4 := E3.trans Fg.1
  have Mw := Mw.ext Fg.1
  have Mx := Mx.ext Fg.1
  have sz1 := F1.1.1; have sz2 := Fw.1.1; have sz3 := Fx.1.1; have sz4 := Fg.1.1
  obtain ⟨rl, rb, hR⟩ : ∃ rl rb, turnF l i n (fun k => ⟨k.src, k.inn + n, k.len⟩) = (rl, rb) := ⟨_, _, rfl⟩
  rw [hR] at Mw Mg hF ⊢
  simp only at Mw Mg hF ⊢
  simp (maxSteps := 4000000) (disch := omega) only [ah, Nat.reduceEqDiff, reduceCtorEq, Nat.reduceAdd, Nat.reduceLeDiff, Nat.reduceMul, Nat.reduceLT, if_true, if_false, true_and, and_true, and_self, stepI_not, alloc_more, more_more, size_more, ld_more, ld_more0, ldn_more, ldn_more0, st_more, st_more0, cells_int, cells_bool, cells_agg, cells_slice, cells_func, cells_string, cells_pointer, oneB_nil, oneB_int, oneB_bool, oneB_string, oneB_slice, oneB_pointer, oneB_func, toList_mk, size_mk, splice_def, cutL, putL, List.getElem?_cons_zero, List.getElem?_cons_succ, List.cons_append, List.nil_append, List.append_nil, List.take_succ_cons, List.take_zero, List.drop_succ_cons, List.drop_zero, List.length_cons, List.length_nil, List.set_cons_zero, List.set_cons_succ, Option.bind_some, Nat.add_zero, Nat.add_assoc, Nat.zero_add, Int.toNat_natCast, fillV, boxO, bslO, buildO, QOp.loads, rechk_none, Bool.false_eq_true, beq_t, beq_f, stepG_not, Bool.not_true, Bool.not_false, decide_true, decide_false, not_false_eq_true, not_true_eq_false, Bool.not_not, ext_0, ext_1, ext_2, w3, v3]
  refine stepC.of (eqClipS_ok _ _ _ _ _ Mg.slt Mw.slt (by omega) (by omega)) ?_
  rintro _ H5 ⟨e5, rfl⟩
  have Mg := Mg.ext e5; have Mw := Mw.ext e5; have Mx := Mx.ext e5; have E5 := E4.trans e5
  simp (maxSteps := 4000000) (disch := omega) only [ah, Nat.reduceEqDiff, reduceCtorEq, Nat.reduceAdd, Nat.reduceLeDiff, Nat.reduceMul, Nat.reduceLT, if_true, if_false, true_and, and_true, and_self, stepI_not, alloc_more, more_more, size_more, ld_more, ld_more0, ldn_more, ldn_more0, st_more, st_more0, cells_int, cells_bool, cells_agg, cells_slice, cells_func, cells_string, cells_pointer, oneB_nil, oneB_int, oneB_bool, oneB_string, oneB_slice, oneB_pointer, oneB_func, toList_mk, size_mk, splice_def, cutL, putL, List.getElem?_cons_zero, List.getElem?_cons_succ, List.cons_append, List.nil_append, List.append_nil, List.take_succ_cons, List.take_zero, List.drop_succ_cons, List.drop_zero, List.length_cons, List.length_nil, List.set_cons_zero, List.set_cons_succ, Option.bind_some, Nat.add_zero, Nat.add_assoc, Nat.zero_add, Int.toNat_natCast, fillV, boxO, bslO, buildO, QOp.loads, rechk_none, Bool.false_eq_true, beq_t, beq_f, stepG_not, Bool.not_true, Bool.not_false, decide_true, decide_false, not_false_eq_true, not_true_eq_false, Bool.not_not, ext_0, ext_1, ext_2, w3, v3, eqbV_bool', beq_self_eq_true]
  refine stepC.of (toClipS_ok _ _ _ (s.ext E5) hll) ?_
  intro t6 H6 F6
  have Mg := Mg.ext F6.1; have Mw := Mw.ext F6.1; have Mx := Mx.ext F6.1; have E6 := E5.trans F6.1
  simp (maxSteps := 4000000) (disch := omega) only [ah, Nat.reduceEqDiff, reduceCtorEq, Nat.reduceAdd, Nat.reduceLeDiff, Nat.reduceMul, Nat.reduceLT, if_true, if_false, true_and, and_true, and_self, stepI_not, alloc_more, more_more, size_more, ld_more, ld_more0, ldn_more, ldn_more0, st_more, st_more0, cells_int, cells_bool, cells_agg, cells_slice, cells_func, cells_string, cells_pointer, oneB_nil, oneB_int, oneB_bool, oneB_string, oneB_slice, oneB_pointer, oneB_func, toList_mk, size_mk, splice_def, cutL, putL, List.getElem?_cons_zero, List.getElem?_cons_succ, List.cons_append, List.nil_append, List.append_nil, List.take_succ_cons, List.take_zero, List.drop_succ_cons, List.drop_zero, List.length_cons, List.length_nil, List.set_cons_zero, List.set_cons_succ, Option.bind_some, Nat.add_zero, Nat.add_assoc, Nat.zero_add, Int.toNat_natCast, fillV, boxO, bslO, buildO, QOp.loads, rechk_none, Bool.false_eq_true, beq_t, beq_f, stepG_not, Bool.not_true, Bool.not_false, decide_true, decide_false, not_false_eq_true, not_true_eq_false, Bool.not_not, ext_0, ext_1, ext_2, w3, v3]
  refine stepC.of (eqClipS_ok _ _ _ _ _ Mx.slt F6.slt (by omega) (by omega)) ?_
  rintro _ H7 ⟨e7, rfl⟩
  have Mg := Mg.ext e7; have Mw := Mw.ext e7; have Mx := Mx.ext e7; have E7 := E6.trans e7
  simp (maxSteps := 4000000) (disch := omega) only [ah, Nat.reduceEqDiff, reduceCtorEq, Nat.reduceAdd, Nat.reduceLeDiff, Nat.reduceMul, Nat.reduceLT, if_true, if_false, true_and, and_true, and_self, stepI_not, alloc_more, more_more, size_more, ld_more, ld_more0, ldn_more, ldn_more0, st_more, st_more0, cells_int, cells_bool, cells_agg, cells_slice, cells_func, cells_string, cells_pointer, oneB_nil, oneB_int, oneB_bool, oneB_string, oneB_slice, oneB_pointer, oneB_func, toList_mk, size_mk, splice_def, cutL, putL, List.getElem?_cons_zero, List.getElem?_cons_succ, List.cons_append, List.nil_append, List.append_nil, List.take_succ_cons, List.take_zero, List.drop_succ_cons, List.drop_zero, List.length_cons, List.length_nil, List.set_cons_zero, List.set_cons_succ, Option.bind_some, Nat.add_zero, Nat.add_assoc, Nat.zero_add, Int.toNat_natCast, fillV, boxO, bslO, buildO, QOp.loads, rechk_none, Bool.false_eq_true, beq_t, beq_f, stepG_not, Bool.not_true, Bool.not_false, decide_true, decide_false, not_false_eq_true, not_true_eq_false, Bool.not_not, ext_0, ext_1, ext_2, w3, v3]
  refine stepC.of (markClipS_mine 1 Mx (by omega) (by omega)) ?_
  rintro _ H8 ⟨c8, Mx', rfl⟩
  have Mg := Mg.chg c8 (by omega); have Mw := Mw.chg c8 (by omega); have E8 := c8.ext E7 (by have := E2.1; omega)
  have hk : decide ((1 : Int) + 3 * l.length < 0) = false := decide_eq_false (by omega)
  simp (maxSteps := 4000000) (disch := omega) only [ah, Nat.reduceEqDiff, reduceCtorEq, Nat.reduceAdd, Nat.reduceLeDiff, Nat.reduceMul, Nat.reduceLT, if_true, if_false, true_and, and_true, and_self, stepI_not, alloc_more, more_more, size_more, ld_more, ld_more0, ldn_more, ldn_more0, st_more, st_more0, cells_int, cells_bool, cells_agg, cells_slice, cells_func, cells_string, cells_pointer, oneB_nil, oneB_int, oneB_bool, oneB_string, oneB_slice, oneB_pointer, oneB_func, toList_mk, size_mk, splice_def, cutL, putL, List.getElem?_cons_zero, List.getElem?_cons_succ, List.cons_append, List.nil_append, List.append_nil, List.take_succ_cons, List.take_zero, List.drop_succ_cons, List.drop_zero, List.length_cons, List.length_nil, List.set_cons_zero, List.set_cons_succ, Option.bind_some, Nat.add_zero, Nat.add_assoc, Nat.zero_add, Int.toNat_natCast, fillV, boxO, bslO, buildO, QOp.loads, rechk_none, Bool.false_eq_true, beq_t, beq_f, stepG_not, Bool.not_true, Bool.not_false, decide_true, decide_false, not_false_eq_true, not_true_eq_false, Bool.not_not, ext_0, ext_1, ext_2, w3, v3, hk]
  refine stepC.of (eqClipS_ok _ _ _ _ _ Mg.slt Mw.slt (by omega) (by omega)) ?_
  rintro _ H9 ⟨e9, rfl⟩
  have Mg := Mg.ext e9; have Mw := Mw.ext e9; have E9 := E8.trans e9
  simp (maxSteps := 4000000) (disch := omega) only [ah, Nat.reduceEqDiff, reduceCtorEq, Nat.reduceAdd, Nat.reduceLeDiff, Nat.reduceMul, Nat.reduceLT, if_true, if_false, true_and, and_true, and_self, stepI_not, alloc_more, more_more, size_more, ld_more, ld_more0, ldn_more, ldn_more0, st_more, st_more0, cells_int, cells_bool, cells_agg, cells_slice, cells_func, cells_string, cells_pointer, oneB_nil, oneB_int, oneB_bool, oneB_string, oneB_slice, oneB_pointer, oneB_func, toList_mk, size_mk, splice_def, cutL, putL, List.getElem?_cons_zero, List.getElem?_cons_succ, List.cons_append, List.nil_append, List.append_nil, List.take_succ_cons, List.take_zero, List.drop_succ_cons, List.drop_zero, List.length_cons, List.length_nil, List.set_cons_zero, List.set_cons_succ, Option.bind_some, Nat.add_zero, Nat.add_assoc, Nat.zero_add, Int.toNat_natCast, fillV, boxO, bslO, buildO, QOp.loads, rechk_none, Bool.false_eq_true, beq_t, beq_f, stepG_not, Bool.not_true, Bool.not_false, decide_true, decide_false, not_false_eq_true, not_true_eq_false, Bool.not_not, ext_0, ext_1, ext_2, w3, v3, eqbV_bool', beq_self_eq_true]
  refine stepC.of (markClipS_mine 1 Mg (by omega) (by omega)) ?_
  rintro _ H10 ⟨c10, Mg, rfl⟩
  have Mw := Mw.chg c10 (by omega); have E10 := c10.ext E9 (by have := E3.1; omega)
  have hm : decide ((1 : Int) + 3 * rl.length < 0) = false := decide_eq_false (by omega)
  simp (maxSteps := 4000000) (disch := omega) only [ah, Nat.reduceEqDiff, reduceCtorEq, Nat.reduceAdd, Nat.reduceLeDiff, Nat.reduceMul, Nat.reduceLT, if_true, if_false, true_and, and_true, and_self, stepI_not, alloc_more, more_more, size_more, ld_more, ld_more0, ldn_more, ldn_more0, st_more, st_more0, cells_int, cells_bool, cells_agg, cells_slice, cells_func, cells_string, cells_pointer, oneB_nil, oneB_int, oneB_bool, oneB_string, oneB_slice, oneB_pointer, oneB_func, toList_mk, size_mk, splice_def, cutL, putL, List.getElem?_cons_zero, List.getElem?_cons_succ, List.cons_append, List.nil_append, List.append_nil, List.take_succ_cons, List.take_zero, List.drop_succ_cons, List.drop_zero, List.length_cons, List.length_nil, List.set_cons_zero, List.set_cons_succ, Option.bind_some, Nat.add_zero, Nat.add_assoc, Nat.zero_add, Int.toNat_natCast, fillV, boxO, bslO, buildO, QOp.loads, rechk_none, Bool.false_eq_true, beq_t, beq_f, stepG_not, Bool.not_true, Bool.not_false, decide_true, decide_false, not_false_eq_true, not_true_eq_false, Bool.not_not, ext_0, ext_1, ext_2, w3, v3]
  refine stepC.of (heldClipS_ok _ _ _ 1 Mg.slt (by omega) (by omega)) ?_
  rintro _ Hx ⟨hx, rfl⟩; rw [hx]; clear hx Hx
  simp (maxSteps := 4000000) (disch := omega) only [ah, Nat.reduceEqDiff, reduceCtorEq, Nat.reduceAdd, Nat.reduceLeDiff, Nat.reduceMul, Nat.reduceLT, if_true, if_false, true_and, and_true, and_self, stepI_not, alloc_more, more_more, size_more, ld_more, ld_more0, ldn_more, ldn_more0, st_more, st_more0, cells_int, cells_bool, cells_agg, cells_slice, cells_func, cells_string, cells_pointer, oneB_nil, oneB_int, oneB_bool, oneB_string, oneB_slice, oneB_pointer, oneB_func, toList_mk, size_mk, splice_def, cutL, putL, List.getElem?_cons_zero, List.getElem?_cons_succ, List.cons_append, List.nil_append, List.append_nil, List.take_succ_cons, List.take_zero, List.drop_succ_cons, List.drop_zero, List.length_cons, List.length_nil, List.set_cons_zero, List.set_cons_succ, Option.bind_some, Nat.add_zero, Nat.add_assoc, Nat.zero_add, Int.toNat_natCast, fillV, boxO, bslO, buildO, QOp.loads, rechk_none, Bool.false_eq_true, beq_t, beq_f, stepG_not, Bool.not_true, Bool.not_false, decide_true, decide_false, not_false_eq_true, not_true_eq_false, Bool.not_not, ext_0, ext_1, ext_2, w3, v3, hm]
  refine stepC.of (toClipS_ok _ _ _ (s.ext E10) hll) ?_
  intro t11 H11 F11
  have Mg := Mg.ext F11.1; have Mw := Mw.ext F11.1
  simp (maxSteps := 4000000) (disch := omega) only [ah, Nat.reduceEqDiff, reduceCtorEq, Nat.reduceAdd, Nat.reduceLeDiff, Nat.reduceMul, Nat.reduceLT, if_true, if_false, true_and, and_true, and_self, stepI_not, alloc_more, more_more, size_more, ld_more, ld_more0, ldn_more, ldn_more0, st_more, st_more0, cells_int, cells_bool, cells_agg, cells_slice, cells_func, cells_string, cells_pointer, oneB_nil, oneB_int, oneB_bool, oneB_string, oneB_slice, oneB_pointer, oneB_func, toList_mk, size_mk, splice_def, cutL, putL, List.getElem?_cons_zero, List.getElem?_cons_succ, List.cons_append, List.nil_append, List.append_nil, List.take_succ_cons, List.take_zero, List.drop_succ_cons, List.drop_zero, List.length_cons, List.length_nil, List.set_cons_zero, List.set_cons_succ, Option.bind_some, Nat.add_zero, Nat.add_assoc, Nat.zero_add, Int.toNat_natCast, fillV, boxO, bslO, buildO, QOp.loads, rechk_none, Bool.false_eq_true, beq_t, beq_f, stepG_not, Bool.not_true, Bool.not_false, decide_true, decide_false, not_false_eq_true, not_true_eq_false, Bool.not_not, ext_0, ext_1, ext_2, w3, v3]
  refine stepC.of (Slip_ok _ _ _ _ _ F11.slt (by omega)) ?_
  rintro _ H12 ⟨h0, rfl, Fh⟩
  have Mg := Mg.ext Fh.1; have Mw := Mw.ext Fh.1
  rw [hR] at Fh ⊢
  simp only at Fh ⊢
  simp (maxSteps := 4000000) (disch := omega) only [ah, Nat.reduceEqDiff, reduceCtorEq, Nat.reduceAdd, Nat.reduceLeDiff, Nat.reduceMul, Nat.reduceLT, if_true, if_false, true_and, and_true, and_self, stepI_not, alloc_more, more_more, size_more, ld_more, ld_more0, ldn_more, ldn_more0, st_more, st_more0, cells_int, cells_bool, cells_agg, cells_slice, cells_func, cells_string, cells_pointer, oneB_nil, oneB_int, oneB_bool, oneB_string, oneB_slice, oneB_pointer, oneB_func, toList_mk, size_mk, splice_def, cutL, putL, List.getElem?_cons_zero, List.getElem?_cons_succ, List.cons_append, List.nil_append, List.append_nil, List.take_succ_cons, List.take_zero, List.drop_succ_cons, List.drop_zero, List.length_cons, List.length_nil, List.set_cons_zero, List.set_cons_succ, Option.bind_some, Nat.add_zero, Nat.add_assoc, Nat.zero_add, Int.toNat_natCast, fillV, boxO, bslO, buildO, QOp.loads, rechk_none, Bool.false_eq_true, beq_t, beq_f, stepG_not, Bool.not_true, Bool.not_false, decide_true, decide_false, not_false_eq_true, not_true_eq_false, Bool.not_not, ext_0, ext_1, ext_2, w3, v3]
  refine stepC.of (eqClipS_ok _ _ _ _ _ Fh.slt Mw.slt (by omega) (by omega)) ?_
  rintro _ H13 ⟨e13, rfl⟩
  have Mg := Mg.ext e13
  simp (maxSteps := 4000000) (disch := omega) only [ah, Nat.reduceEqDiff, reduceCtorEq, Nat.reduceAdd, Nat.reduceLeDiff, Nat.reduceMul, Nat.reduceLT, if_true, if_false, true_and, and_true, and_self, stepI_not, alloc_more, more_more, size_more, ld_more, ld_more0, ldn_more, ldn_more0, st_more, st_more0, cells_int, cells_bool, cells_agg, cells_slice, cells_func, cells_string, cells_pointer, oneB_nil, oneB_int, oneB_bool, oneB_string, oneB_slice, oneB_pointer, oneB_func, toList_mk, size_mk, splice_def, cutL, putL, List.getElem?_cons_zero, List.getElem?_cons_succ, List.cons_append, List.nil_append, List.append_nil, List.take_succ_cons, List.take_zero, List.drop_succ_cons, List.drop_zero, List.length_cons, List.length_nil, List.set_cons_zero, List.set_cons_succ, Option.bind_some, Nat.add_zero, Nat.add_assoc, Nat.zero_add, Int.toNat_natCast, fillV, boxO, bslO, buildO, QOp.loads, rechk_none, Bool.false_eq_true, beq_t, beq_f, stepG_not, Bool.not_true, Bool.not_false, decide_true, decide_false, not_false_eq_true, not_true_eq_false, Bool.not_not, ext_0, ext_1, ext_2, w3, v3, eqbV_bool', beq_self_eq_true]
  refine stepC.of (heldClipS_ok _ _ _ 1 Mg.slt (by omega) (by omega)) ?_
  rintro _ Hx ⟨hx, rfl⟩; rw [hx]; clear hx Hx
  simp (maxSteps := 4000000) (disch := omega) only [ah, Nat.reduceEqDiff, reduceCtorEq, Nat.reduceAdd, Nat.reduceLeDiff, Nat.reduceMul, Nat.reduceLT, if_true, if_false, true_and, and_true, and_self, stepI_not, alloc_more, more_more, size_more, ld_more, ld_more0, ldn_more, ldn_more0, st_more, st_more0, cells_int, cells_bool, cells_agg, cells_slice, cells_func, cells_string, cells_pointer, oneB_nil, oneB_int, oneB_bool, oneB_string, oneB_slice, oneB_pointer, oneB_func, toList_mk, size_mk, splice_def, cutL, putL, List.getElem?_cons_zero, List.getElem?_cons_succ, List.cons_append, List.nil_append, List.append_nil, List.take_succ_cons, List.take_zero, List.drop_succ_cons, List.drop_zero, List.length_cons, List.length_nil, List.set_cons_zero, List.set_cons_succ, Option.bind_some, Nat.add_zero, Nat.add_assoc, Nat.zero_add, Int.toNat_natCast, fillV, boxO, bslO, buildO, QOp.loads, rechk_none, Bool.false_eq_true, beq_t, beq_f, stepG_not, Bool.not_true, Bool.not_false, decide_true, decide_false, not_false_eq_true, not_true_eq_false, Bool.not_not, ext_0, ext_1, ext_2, w3, v3, hm]
end Go.Proofs.Ytbanblghepekdaa
