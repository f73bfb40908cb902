import Derived.Test.YtbanblghepekdaaI7
import Derived.Test.YtbanblghepekdaaL1
namespace Go.Proofs.Ytbanblghepekdaa
open Go Go.Ah
set_option linter.unusedSimpArgs false
set_option linter.unusedVariables false
set_option maxRecDepth 10000
set_option maxHeartbeats 4000000
/-! 7 loop.example/g00066/laws.FnExactRoll: parameters 3, live [0, 1, 2], slots [0:aTrack, 1:aI, 2:aN, 3:aTrack, 4:aI, 5:aN, 7:left, 8:w0, 9:w1, 10:x0, 11:g0, 12:g1, 13:k, 14:m, 15:q, 16:h0, 17:h1] -/
def c7_0 : List SOper := [⟨some 6, .q (.mv (.c (.bool false))), none⟩]
theorem c7_0_e (K : Env → Heap → Prop) (E : Env) (h : Heap) : AOps Try.prog c7_0 K E h = AOps Try.prog [⟨some 6, .q (.mv (.c (.bool false))), none⟩] K E h := rfl
def c7_1 : List SOper := [⟨some 7, .q (.mv (.c (.int .i64 1048576))), none⟩]
theorem c7_1_e (K : Env → Heap → Prop) (E : Env) (h : Heap) : AOps Try.prog c7_1 K E h = AOps Try.prog [⟨some 7, .q (.mv (.c (.int .i64 1048576))), none⟩] K E h := rfl
def c7_2 : List SOper := [⟨some 18, .q (.mv (.t 0)), none⟩, ⟨some 19, .q (.mv (.t 7)), none⟩, ⟨some 20, .e (.call 14 [(.t 18), (.t 19)]), none⟩, ⟨some 7, .q (.mv (.t 20)), none⟩]
theorem c7_2_e (K : Env → Heap → Prop) (E : Env) (h : Heap) : AOps Try.prog c7_2 K E h = AOps Try.prog [⟨some 18, .q (.mv (.t 0)), none⟩, ⟨some 19, .q (.mv (.t 7)), none⟩, ⟨some 20, .e (.call 14 [(.t 18), (.t 19)]), none⟩, ⟨some 7, .q (.mv (.t 20)), none⟩] K E h := rfl
def c7_3 : List SOper := [⟨some 21, .q (.mv (.t 7)), none⟩, ⟨some 22, .q (.bin .lss (.t 21) (.c (.int .i64 0))), none⟩]
theorem c7_3_e (K : Env → Heap → Prop) (E : Env) (h : Heap) : AOps Try.prog c7_3 K E h = AOps Try.prog [⟨some 21, .q (.mv (.t 7)), none⟩, ⟨some 22, .q (.bin .lss (.t 21) (.c (.int .i64 0))), none⟩] K E h := rfl
def c7_4 : List SOper := [⟨some 6, .q (.mv (.c (.bool true))), none⟩]
theorem c7_4_e (K : Env → Heap → Prop) (E : Env) (h : Heap) : AOps Try.prog c7_4 K E h = AOps Try.prog [⟨some 6, .q (.mv (.c (.bool true))), none⟩] K E h := rfl
def c7_5 : SCode := .seq (.region c7_4 [6]) .ret
theorem c7_5_e (Q : Go.Exit → Env → Heap → Prop) (E : Env) (h : Heap) : SW Try.prog c7_5 Q E h = SW Try.prog (.seq (.region c7_4 [6]) .ret) Q E h := rfl
def c7_6 : SCode := .cond (.t 22) c7_5 .skip
theorem c7_6_e (Q : Go.Exit → Env → Heap → Prop) (E : Env) (h : Heap) : SW Try.prog c7_6 Q E h = SW Try.prog (.cond (.t 22) c7_5 .skip) Q E h := rfl
def c7_7 : SCode := .seq (.region c7_3 [0, 1, 2, 22]) c7_6
theorem c7_7_e (Q : Go.Exit → Env → Heap → Prop) (E : Env) (h : Heap) : SW Try.prog c7_7 Q E h = SW Try.prog (.seq (.region c7_3 [0, 1, 2, 22]) c7_6) Q E h := rfl
def c7_8 : List SOper := [⟨some 24, .q (.mv (.t 0)), none⟩, ⟨some 25, .e (.call 16 [(.t 24)]), none⟩, ⟨some 26, .q (.mv (.t 1)), none⟩, ⟨some 27, .q (.mv (.t 2)), none⟩, ⟨some 28, .e (.call 27 [(.t 25), (.t 26), (.t 27)]), none⟩, ⟨some 23, .q (.mv (.t 28)), none⟩, ⟨some 29, .q (.ext (.t 23) 0), none⟩, ⟨some 30, .q (.ext (.t 23) 1), none⟩, ⟨some 8, .q (.mv (.t 29)), none⟩, ⟨some 9, .q (.mv (.t 30)), none⟩]
theorem c7_8_e (K : Env → Heap → Prop) (E : Env) (h : Heap) : AOps Try.prog c7_8 K E h = AOps Try.prog [⟨some 24, .q (.mv (.t 0)), none⟩, ⟨some 25, .e (.call 16 [(.t 24)]), none⟩, ⟨some 26, .q (.mv (.t 1)), none⟩, ⟨some 27, .q (.mv (.t 2)), none⟩, ⟨some 28, .e (.call 27 [(.t 25), (.t 26), (.t 27)]), none⟩, ⟨some 23, .q (.mv (.t 28)), none⟩, ⟨some 29, .q (.ext (.t 23) 0), none⟩, ⟨some 30, .q (.ext (.t 23) 1), none⟩, ⟨some 8, .q (.mv (.t 29)), none⟩, ⟨some 9, .q (.mv (.t 30)), none⟩] K E h := rfl
def c7_9 : List SOper := [⟨some 31, .q (.mv (.t 0)), none⟩, ⟨some 32, .e (.call 16 [(.t 31)]), none⟩, ⟨some 10, .q (.mv (.t 32)), none⟩]
theorem c7_9_e (K : Env → Heap → Prop) (E : Env) (h : Heap) : AOps Try.prog c7_9 K E h = AOps Try.prog [⟨some 31, .q (.mv (.t 0)), none⟩, ⟨some 32, .e (.call 16 [(.t 31)]), none⟩, ⟨some 10, .q (.mv (.t 32)), none⟩] K E h := rfl
def c7_10 : List SOper := [⟨some 34, .q (.mv (.t 10)), none⟩, ⟨some 35, .q (.mv (.t 1)), none⟩, ⟨some 36, .q (.mv (.t 2)), none⟩, ⟨some 37, .e (.call 28 [(.t 34), (.t 35), (.t 36)]), none⟩, ⟨some 33, .q (.mv (.t 37)), none⟩, ⟨some 38, .q (.ext (.t 33) 0), none⟩, ⟨some 39, .q (.ext (.t 33) 1), none⟩, ⟨some 11, .q (.mv (.t 38)), none⟩, ⟨some 12, .q (.mv (.t 39)), none⟩]
theorem c7_10_e (K : Env → Heap → Prop) (E : Env) (h : Heap) : AOps Try.prog c7_10 K E h = AOps Try.prog [⟨some 34, .q (.mv (.t 10)), none⟩, ⟨some 35, .q (.mv (.t 1)), none⟩, ⟨some 36, .q (.mv (.t 2)), none⟩, ⟨some 37, .e (.call 28 [(.t 34), (.t 35), (.t 36)]), none⟩, ⟨some 33, .q (.mv (.t 37)), none⟩, ⟨some 38, .q (.ext (.t 33) 0), none⟩, ⟨some 39, .q (.ext (.t 33) 1), none⟩, ⟨some 11, .q (.mv (.t 38)), none⟩, ⟨some 12, .q (.mv (.t 39)), none⟩] K E h := rfl
def c7_11 : List SOper := [⟨some 40, .q (.mv (.t 11)), none⟩, ⟨some 41, .q (.mv (.t 8)), none⟩, ⟨some 42, .e (.call 18 [(.t 40), (.t 41)]), none⟩, ⟨some 43, .q (.not (.t 42)), none⟩, ⟨some 44, .q (.mv (.t 43)), none⟩, ⟨some 45, .q (.mv (.t 12)), some (44, false)⟩, ⟨some 46, .q (.mv (.t 9)), some (44, false)⟩, ⟨some 47, .q (.eqb true (.t 45) (.t 46)), some (44, false)⟩, ⟨some 48, .q (.pick (.t 44) (.c (.bool true)) (.t 47)), none⟩]
theorem c7_11_e (K : Env → Heap → Prop) (E : Env) (h : Heap) : AOps Try.prog c7_11 K E h = AOps Try.prog [⟨some 40, .q (.mv (.t 11)), none⟩, ⟨some 41, .q (.mv (.t 8)), none⟩, ⟨some 42, .e (.call 18 [(.t 40), (.t 41)]), none⟩, ⟨some 43, .q (.not (.t 42)), none⟩, ⟨some 44, .q (.mv (.t 43)), none⟩, ⟨some 45, .q (.mv (.t 12)), some (44, false)⟩, ⟨some 46, .q (.mv (.t 9)), some (44, false)⟩, ⟨some 47, .q (.eqb true (.t 45) (.t 46)), some (44, false)⟩, ⟨some 48, .q (.pick (.t 44) (.c (.bool true)) (.t 47)), none⟩] K E h := rfl
def c7_12 : List SOper := [⟨some 6, .q (.mv (.c (.bool false))), none⟩]
theorem c7_12_e (K : Env → Heap → Prop) (E : Env) (h : Heap) : AOps Try.prog c7_12 K E h = AOps Try.prog [⟨some 6, .q (.mv (.c (.bool false))), none⟩] K E h := rfl
def c7_13 : SCode := .seq (.region c7_12 [6]) .ret
theorem c7_13_e (Q : Go.Exit → Env → Heap → Prop) (E : Env) (h : Heap) : SW Try.prog c7_13 Q E h = SW Try.prog (.seq (.region c7_12 [6]) .ret) Q E h := rfl
def c7_14 : SCode := .cond (.t 48) c7_13 .skip
theorem c7_14_e (Q : Go.Exit → Env → Heap → Prop) (E : Env) (h : Heap) : SW Try.prog c7_14 Q E h = SW Try.prog (.cond (.t 48) c7_13 .skip) Q E h := rfl
def c7_15 : SCode := .seq (.region c7_11 [0, 1, 2, 8, 9, 10, 11, 12, 48]) c7_14
theorem c7_15_e (Q : Go.Exit → Env → Heap → Prop) (E : Env) (h : Heap) : SW Try.prog c7_15 Q E h = SW Try.prog (.seq (.region c7_11 [0, 1, 2, 8, 9, 10, 11, 12, 48]) c7_14) Q E h := rfl
def c7_16 : List SOper := [⟨some 49, .q (.mv (.t 10)), none⟩, ⟨some 50, .q (.mv (.t 0)), none⟩, ⟨some 51, .e (.call 16 [(.t 50)]), none⟩, ⟨some 52, .e (.call 18 [(.t 49), (.t 51)]), none⟩, ⟨some 53, .q (.not (.t 52)), none⟩]
theorem c7_16_e (K : Env → Heap → Prop) (E : Env) (h : Heap) : AOps Try.prog c7_16 K E h = AOps Try.prog [⟨some 49, .q (.mv (.t 10)), none⟩, ⟨some 50, .q (.mv (.t 0)), none⟩, ⟨some 51, .e (.call 16 [(.t 50)]), none⟩, ⟨some 52, .e (.call 18 [(.t 49), (.t 51)]), none⟩, ⟨some 53, .q (.not (.t 52)), none⟩] K E h := rfl
def c7_17 : List SOper := [⟨some 6, .q (.mv (.c (.bool false))), none⟩]
theorem c7_17_e (K : Env → Heap → Prop) (E : Env) (h : Heap) : AOps Try.prog c7_17 K E h = AOps Try.prog [⟨some 6, .q (.mv (.c (.bool false))), none⟩] K E h := rfl
def c7_18 : SCode := .seq (.region c7_17 [6]) .ret
theorem c7_18_e (Q : Go.Exit → Env → Heap → Prop) (E : Env) (h : Heap) : SW Try.prog c7_18 Q E h = SW Try.prog (.seq (.region c7_17 [6]) .ret) Q E h := rfl
def c7_19 : SCode := .cond (.t 53) c7_18 .skip
theorem c7_19_e (Q : Go.Exit → Env → Heap → Prop) (E : Env) (h : Heap) : SW Try.prog c7_19 Q E h = SW Try.prog (.cond (.t 53) c7_18 .skip) Q E h := rfl
def c7_20 : SCode := .seq (.region c7_16 [0, 1, 2, 8, 9, 10, 11, 12, 53]) c7_19
theorem c7_20_e (Q : Go.Exit → Env → Heap → Prop) (E : Env) (h : Heap) : SW Try.prog c7_20 Q E h = SW Try.prog (.seq (.region c7_16 [0, 1, 2, 8, 9, 10, 11, 12, 53]) c7_19) Q E h := rfl
def c7_21 : List SOper := [⟨some 13, .q (.mv (.c (.int .i64 1))), none⟩]
theorem c7_21_e (K : Env → Heap → Prop) (E : Env) (h : Heap) : AOps Try.prog c7_21 K E h = AOps Try.prog [⟨some 13, .q (.mv (.c (.int .i64 1))), none⟩] K E h := rfl
def c7_22 : List SOper := [⟨some 54, .q (.mv (.t 10)), none⟩, ⟨some 55, .q (.mv (.t 13)), none⟩, ⟨some 56, .e (.call 19 [(.t 54), (.t 55)]), none⟩, ⟨some 13, .q (.mv (.t 56)), none⟩]
theorem c7_22_e (K : Env → Heap → Prop) (E : Env) (h : Heap) : AOps Try.prog c7_22 K E h = AOps Try.prog [⟨some 54, .q (.mv (.t 10)), none⟩, ⟨some 55, .q (.mv (.t 13)), none⟩, ⟨some 56, .e (.call 19 [(.t 54), (.t 55)]), none⟩, ⟨some 13, .q (.mv (.t 56)), none⟩] K E h := rfl
def c7_23 : List SOper := [⟨some 57, .q (.mv (.t 13)), none⟩, ⟨some 58, .q (.bin .lss (.t 57) (.c (.int .i64 0))), none⟩, ⟨some 59, .q (.mv (.t 58)), none⟩, ⟨some 60, .q (.mv (.t 11)), some (59, false)⟩, ⟨some 61, .q (.mv (.t 8)), some (59, false)⟩, ⟨some 62, .e (.call 18 [(.t 60), (.t 61)]), some (59, false)⟩, ⟨some 63, .q (.not (.t 62)), some (59, false)⟩, ⟨some 64, .q (.pick (.t 59) (.c (.bool true)) (.t 63)), none⟩, ⟨some 65, .q (.mv (.t 64)), none⟩, ⟨some 66, .q (.mv (.t 12)), some (65, false)⟩, ⟨some 67, .q (.mv (.t 9)), some (65, false)⟩, ⟨some 68, .q (.eqb true (.t 66) (.t 67)), some (65, false)⟩, ⟨some 69, .q (.pick (.t 65) (.c (.bool true)) (.t 68)), none⟩]
theorem c7_23_e (K : Env → Heap → Prop) (E : Env) (h : Heap) : AOps Try.prog c7_23 K E h = AOps Try.prog [⟨some 57, .q (.mv (.t 13)), none⟩, ⟨some 58, .q (.bin .lss (.t 57) (.c (.int .i64 0))), none⟩, ⟨some 59, .q (.mv (.t 58)), none⟩, ⟨some 60, .q (.mv (.t 11)), some (59, false)⟩, ⟨some 61, .q (.mv (.t 8)), some (59, false)⟩, ⟨some 62, .e (.call 18 [(.t 60), (.t 61)]), some (59, false)⟩, ⟨some 63, .q (.not (.t 62)), some (59, false)⟩, ⟨some 64, .q (.pick (.t 59) (.c (.bool true)) (.t 63)), none⟩, ⟨some 65, .q (.mv (.t 64)), none⟩, ⟨some 66, .q (.mv (.t 12)), some (65, false)⟩, ⟨some 67, .q (.mv (.t 9)), some (65, false)⟩, ⟨some 68, .q (.eqb true (.t 66) (.t 67)), some (65, false)⟩, ⟨some 69, .q (.pick (.t 65) (.c (.bool true)) (.t 68)), none⟩] K E h := rfl
def c7_24 : List SOper := [⟨some 6, .q (.mv (.c (.bool false))), none⟩]
theorem c7_24_e (K : Env → Heap → Prop) (E : Env) (h : Heap) : AOps Try.prog c7_24 K E h = AOps Try.prog [⟨some 6, .q (.mv (.c (.bool false))), none⟩] K E h := rfl
def c7_25 : SCode := .seq (.region c7_24 [6]) .ret
theorem c7_25_e (Q : Go.Exit → Env → Heap → Prop) (E : Env) (h : Heap) : SW Try.prog c7_25 Q E h = SW Try.prog (.seq (.region c7_24 [6]) .ret) Q E h := rfl
def c7_26 : SCode := .cond (.t 69) c7_25 .skip
theorem c7_26_e (Q : Go.Exit → Env → Heap → Prop) (E : Env) (h : Heap) : SW Try.prog c7_26 Q E h = SW Try.prog (.cond (.t 69) c7_25 .skip) Q E h := rfl
def c7_27 : SCode := .seq (.region c7_23 [0, 1, 2, 8, 9, 11, 69]) c7_26
theorem c7_27_e (Q : Go.Exit → Env → Heap → Prop) (E : Env) (h : Heap) : SW Try.prog c7_27 Q E h = SW Try.prog (.seq (.region c7_23 [0, 1, 2, 8, 9, 11, 69]) c7_26) Q E h := rfl
def c7_28 : List SOper := [⟨some 14, .q (.mv (.c (.int .i64 1))), none⟩]
theorem c7_28_e (K : Env → Heap → Prop) (E : Env) (h : Heap) : AOps Try.prog c7_28 K E h = AOps Try.prog [⟨some 14, .q (.mv (.c (.int .i64 1))), none⟩] K E h := rfl
def c7_29 : List SOper := [⟨some 70, .q (.mv (.t 11)), none⟩, ⟨some 71, .q (.mv (.t 14)), none⟩, ⟨some 72, .e (.call 19 [(.t 70), (.t 71)]), none⟩, ⟨some 14, .q (.mv (.t 72)), none⟩]
theorem c7_29_e (K : Env → Heap → Prop) (E : Env) (h : Heap) : AOps Try.prog c7_29 K E h = AOps Try.prog [⟨some 70, .q (.mv (.t 11)), none⟩, ⟨some 71, .q (.mv (.t 14)), none⟩, ⟨some 72, .e (.call 19 [(.t 70), (.t 71)]), none⟩, ⟨some 14, .q (.mv (.t 72)), none⟩] K E h := rfl
def c7_30 : List SOper := [⟨some 15, .q (.mv (.c (.int .i64 1))), none⟩]
theorem c7_30_e (K : Env → Heap → Prop) (E : Env) (h : Heap) : AOps Try.prog c7_30 K E h = AOps Try.prog [⟨some 15, .q (.mv (.c (.int .i64 1))), none⟩] K E h := rfl
def c7_31 : List SOper := [⟨some 73, .q (.mv (.t 11)), none⟩, ⟨some 74, .q (.mv (.t 15)), none⟩, ⟨some 75, .e (.call 20 [(.t 73), (.t 74)]), none⟩, ⟨some 15, .q (.mv (.t 75)), none⟩]
theorem c7_31_e (K : Env → Heap → Prop) (E : Env) (h : Heap) : AOps Try.prog c7_31 K E h = AOps Try.prog [⟨some 73, .q (.mv (.t 11)), none⟩, ⟨some 74, .q (.mv (.t 15)), none⟩, ⟨some 75, .e (.call 20 [(.t 73), (.t 74)]), none⟩, ⟨some 15, .q (.mv (.t 75)), none⟩] K E h := rfl
def c7_32 : List SOper := [⟨some 76, .q (.mv (.t 15)), none⟩, ⟨some 77, .q (.bin .lss (.t 76) (.c (.int .i64 0))), none⟩]
theorem c7_32_e (K : Env → Heap → Prop) (E : Env) (h : Heap) : AOps Try.prog c7_32 K E h = AOps Try.prog [⟨some 76, .q (.mv (.t 15)), none⟩, ⟨some 77, .q (.bin .lss (.t 76) (.c (.int .i64 0))), none⟩] K E h := rfl
def c7_33 : List SOper := [⟨some 6, .q (.mv (.c (.bool false))), none⟩]
theorem c7_33_e (K : Env → Heap → Prop) (E : Env) (h : Heap) : AOps Try.prog c7_33 K E h = AOps Try.prog [⟨some 6, .q (.mv (.c (.bool false))), none⟩] K E h := rfl
def c7_34 : SCode := .seq (.region c7_33 [6]) .ret
theorem c7_34_e (Q : Go.Exit → Env → Heap → Prop) (E : Env) (h : Heap) : SW Try.prog c7_34 Q E h = SW Try.prog (.seq (.region c7_33 [6]) .ret) Q E h := rfl
def c7_35 : SCode := .cond (.t 77) c7_34 .skip
theorem c7_35_e (Q : Go.Exit → Env → Heap → Prop) (E : Env) (h : Heap) : SW Try.prog c7_35 Q E h = SW Try.prog (.cond (.t 77) c7_34 .skip) Q E h := rfl
def c7_36 : SCode := .seq (.region c7_32 [0, 1, 2, 8, 9, 11, 14, 15, 77]) c7_35
theorem c7_36_e (Q : Go.Exit → Env → Heap → Prop) (E : Env) (h : Heap) : SW Try.prog c7_36 Q E h = SW Try.prog (.seq (.region c7_32 [0, 1, 2, 8, 9, 11, 14, 15, 77]) c7_35) Q E h := rfl
def c7_37 : List SOper := [⟨some 78, .q (.mv (.t 15)), none⟩, ⟨some 79, .q (.mv (.t 14)), none⟩, ⟨some 80, .q (.bin .neq (.t 78) (.t 79)), none⟩]
theorem c7_37_e (K : Env → Heap → Prop) (E : Env) (h : Heap) : AOps Try.prog c7_37 K E h = AOps Try.prog [⟨some 78, .q (.mv (.t 15)), none⟩, ⟨some 79, .q (.mv (.t 14)), none⟩, ⟨some 80, .q (.bin .neq (.t 78) (.t 79)), none⟩] K E h := rfl
def c7_38 : List SOper := [⟨some 6, .q (.mv (.c (.bool false))), none⟩]
theorem c7_38_e (K : Env → Heap → Prop) (E : Env) (h : Heap) : AOps Try.prog c7_38 K E h = AOps Try.prog [⟨some 6, .q (.mv (.c (.bool false))), none⟩] K E h := rfl
def c7_39 : SCode := .seq (.region c7_38 [6]) .ret
theorem c7_39_e (Q : Go.Exit → Env → Heap → Prop) (E : Env) (h : Heap) : SW Try.prog c7_39 Q E h = SW Try.prog (.seq (.region c7_38 [6]) .ret) Q E h := rfl
def c7_40 : SCode := .cond (.t 80) c7_39 .skip
theorem c7_40_e (Q : Go.Exit → Env → Heap → Prop) (E : Env) (h : Heap) : SW Try.prog c7_40 Q E h = SW Try.prog (.cond (.t 80) c7_39 .skip) Q E h := rfl
def c7_41 : SCode := .seq (.region c7_37 [0, 1, 2, 8, 9, 11, 14, 80]) c7_40
theorem c7_41_e (Q : Go.Exit → Env → Heap → Prop) (E : Env) (h : Heap) : SW Try.prog c7_41 Q E h = SW Try.prog (.seq (.region c7_37 [0, 1, 2, 8, 9, 11, 14, 80]) c7_40) Q E h := rfl
def c7_42 : List SOper := [⟨some 82, .q (.mv (.t 0)), none⟩, ⟨some 83, .e (.call 16 [(.t 82)]), none⟩, ⟨some 84, .q (.mv (.t 1)), none⟩, ⟨some 85, .q (.mv (.t 2)), none⟩, ⟨some 86, .e (.call 28 [(.t 83), (.t 84), (.t 85)]), none⟩, ⟨some 81, .q (.mv (.t 86)), none⟩, ⟨some 87, .q (.ext (.t 81) 0), none⟩, ⟨some 88, .q (.ext (.t 81) 1), none⟩, ⟨some 16, .q (.mv (.t 87)), none⟩, ⟨some 17, .q (.mv (.t 88)), none⟩]
theorem c7_42_e (K : Env → Heap → Prop) (E : Env) (h : Heap) : AOps Try.prog c7_42 K E h = AOps Try.prog [⟨some 82, .q (.mv (.t 0)), none⟩, ⟨some 83, .e (.call 16 [(.t 82)]), none⟩, ⟨some 84, .q (.mv (.t 1)), none⟩, ⟨some 85, .q (.mv (.t 2)), none⟩, ⟨some 86, .e (.call 28 [(.t 83), (.t 84), (.t 85)]), none⟩, ⟨some 81, .q (.mv (.t 86)), none⟩, ⟨some 87, .q (.ext (.t 81) 0), none⟩, ⟨some 88, .q (.ext (.t 81) 1), none⟩, ⟨some 16, .q (.mv (.t 87)), none⟩, ⟨some 17, .q (.mv (.t 88)), none⟩] K E h := rfl
def c7_43 : List SOper := [⟨some 89, .q (.mv (.t 16)), none⟩, ⟨some 90, .q (.mv (.t 8)), none⟩, ⟨some 91, .e (.call 18 [(.t 89), (.t 90)]), none⟩, ⟨some 92, .q (.not (.t 91)), none⟩, ⟨some 93, .q (.mv (.t 92)), none⟩, ⟨some 94, .q (.mv (.t 17)), some (93, false)⟩, ⟨some 95, .q (.mv (.t 9)), some (93, false)⟩, ⟨some 96, .q (.eqb true (.t 94) (.t 95)), some (93, false)⟩, ⟨some 97, .q (.pick (.t 93) (.c (.bool true)) (.t 96)), none⟩]
theorem c7_43_e (K : Env → Heap → Prop) (E : Env) (h : Heap) : AOps Try.prog c7_43 K E h = AOps Try.prog [⟨some 89, .q (.mv (.t 16)), none⟩, ⟨some 90, .q (.mv (.t 8)), none⟩, ⟨some 91, .e (.call 18 [(.t 89), (.t 90)]), none⟩, ⟨some 92, .q (.not (.t 91)), none⟩, ⟨some 93, .q (.mv (.t 92)), none⟩, ⟨some 94, .q (.mv (.t 17)), some (93, false)⟩, ⟨some 95, .q (.mv (.t 9)), some (93, false)⟩, ⟨some 96, .q (.eqb true (.t 94) (.t 95)), some (93, false)⟩, ⟨some 97, .q (.pick (.t 93) (.c (.bool true)) (.t 96)), none⟩] K E h := rfl
def c7_44 : List SOper := [⟨some 6, .q (.mv (.c (.bool false))), none⟩]
theorem c7_44_e (K : Env → Heap → Prop) (E : Env) (h : Heap) : AOps Try.prog c7_44 K E h = AOps Try.prog [⟨some 6, .q (.mv (.c (.bool false))), none⟩] K E h := rfl
def c7_45 : SCode := .seq (.region c7_44 [6]) .ret
theorem c7_45_e (Q : Go.Exit → Env → Heap → Prop) (E : Env) (h : Heap) : SW Try.prog c7_45 Q E h = SW Try.prog (.seq (.region c7_44 [6]) .ret) Q E h := rfl
def c7_46 : SCode := .cond (.t 97) c7_45 .skip
theorem c7_46_e (Q : Go.Exit → Env → Heap → Prop) (E : Env) (h : Heap) : SW Try.prog c7_46 Q E h = SW Try.prog (.cond (.t 97) c7_45 .skip) Q E h := rfl
def c7_47 : SCode := .seq (.region c7_43 [11, 14, 97]) c7_46
theorem c7_47_e (Q : Go.Exit → Env → Heap → Prop) (E : Env) (h : Heap) : SW Try.prog c7_47 Q E h = SW Try.prog (.seq (.region c7_43 [11, 14, 97]) c7_46) Q E h := rfl
def c7_48 : List SOper := [⟨some 15, .q (.mv (.c (.int .i64 1))), none⟩]
theorem c7_48_e (K : Env → Heap → Prop) (E : Env) (h : Heap) : AOps Try.prog c7_48 K E h = AOps Try.prog [⟨some 15, .q (.mv (.c (.int .i64 1))), none⟩] K E h := rfl
def c7_49 : List SOper := [⟨some 98, .q (.mv (.t 11)), none⟩, ⟨some 99, .q (.mv (.t 15)), none⟩, ⟨some 100, .e (.call 20 [(.t 98), (.t 99)]), none⟩, ⟨some 15, .q (.mv (.t 100)), none⟩]
theorem c7_49_e (K : Env → Heap → Prop) (E : Env) (h : Heap) : AOps Try.prog c7_49 K E h = AOps Try.prog [⟨some 98, .q (.mv (.t 11)), none⟩, ⟨some 99, .q (.mv (.t 15)), none⟩, ⟨some 100, .e (.call 20 [(.t 98), (.t 99)]), none⟩, ⟨some 15, .q (.mv (.t 100)), none⟩] K E h := rfl
def c7_50 : List SOper := [⟨some 101, .q (.mv (.t 15)), none⟩, ⟨some 102, .q (.bin .lss (.t 101) (.c (.int .i64 0))), none⟩]
theorem c7_50_e (K : Env → Heap → Prop) (E : Env) (h : Heap) : AOps Try.prog c7_50 K E h = AOps Try.prog [⟨some 101, .q (.mv (.t 15)), none⟩, ⟨some 102, .q (.bin .lss (.t 101) (.c (.int .i64 0))), none⟩] K E h := rfl
def c7_51 : List SOper := [⟨some 6, .q (.mv (.c (.bool false))), none⟩]
theorem c7_51_e (K : Env → Heap → Prop) (E : Env) (h : Heap) : AOps Try.prog c7_51 K E h = AOps Try.prog [⟨some 6, .q (.mv (.c (.bool false))), none⟩] K E h := rfl
def c7_52 : SCode := .seq (.region c7_51 [6]) .ret
theorem c7_52_e (Q : Go.Exit → Env → Heap → Prop) (E : Env) (h : Heap) : SW Try.prog c7_52 Q E h = SW Try.prog (.seq (.region c7_51 [6]) .ret) Q E h := rfl
def c7_53 : SCode := .cond (.t 102) c7_52 .skip
theorem c7_53_e (Q : Go.Exit → Env → Heap → Prop) (E : Env) (h : Heap) : SW Try.prog c7_53 Q E h = SW Try.prog (.cond (.t 102) c7_52 .skip) Q E h := rfl
def c7_54 : SCode := .seq (.region c7_50 [14, 15, 102]) c7_53
theorem c7_54_e (Q : Go.Exit → Env → Heap → Prop) (E : Env) (h : Heap) : SW Try.prog c7_54 Q E h = SW Try.prog (.seq (.region c7_50 [14, 15, 102]) c7_53) Q E h := rfl
def c7_55 : List SOper := [⟨some 103, .q (.mv (.t 15)), none⟩, ⟨some 104, .q (.mv (.t 14)), none⟩, ⟨some 105, .q (.bin .neq (.t 103) (.t 104)), none⟩]
theorem c7_55_e (K : Env → Heap → Prop) (E : Env) (h : Heap) : AOps Try.prog c7_55 K E h = AOps Try.prog [⟨some 103, .q (.mv (.t 15)), none⟩, ⟨some 104, .q (.mv (.t 14)), none⟩, ⟨some 105, .q (.bin .neq (.t 103) (.t 104)), none⟩] K E h := rfl
def c7_56 : List SOper := [⟨some 6, .q (.mv (.c (.bool false))), none⟩]
theorem c7_56_e (K : Env → Heap → Prop) (E : Env) (h : Heap) : AOps Try.prog c7_56 K E h = AOps Try.prog [⟨some 6, .q (.mv (.c (.bool false))), none⟩] K E h := rfl
def c7_57 : SCode := .seq (.region c7_56 [6]) .ret
theorem c7_57_e (Q : Go.Exit → Env → Heap → Prop) (E : Env) (h : Heap) : SW Try.prog c7_57 Q E h = SW Try.prog (.seq (.region c7_56 [6]) .ret) Q E h := rfl
def c7_58 : SCode := .cond (.t 105) c7_57 .skip
theorem c7_58_e (Q : Go.Exit → Env → Heap → Prop) (E : Env) (h : Heap) : SW Try.prog c7_58 Q E h = SW Try.prog (.cond (.t 105) c7_57 .skip) Q E h := rfl
def c7_59 : SCode := .seq (.region c7_55 [105]) c7_58
theorem c7_59_e (Q : Go.Exit → Env → Heap → Prop) (E : Env) (h : Heap) : SW Try.prog c7_59 Q E h = SW Try.prog (.seq (.region c7_55 [105]) c7_58) Q E h := rfl
def c7_60 : List SOper := [⟨some 6, .q (.mv (.c (.bool true))), none⟩]
theorem c7_60_e (K : Env → Heap → Prop) (E : Env) (h : Heap) : AOps Try.prog c7_60 K E h = AOps Try.prog [⟨some 6, .q (.mv (.c (.bool true))), none⟩] K E h := rfl
def c7_61 : SCode := .seq (.region c7_60 [6]) .ret
theorem c7_61_e (Q : Go.Exit → Env → Heap → Prop) (E : Env) (h : Heap) : SW Try.prog c7_61 Q E h = SW Try.prog (.seq (.region c7_60 [6]) .ret) Q E h := rfl
def c7_62 : SCode := .seq c7_59 c7_61
theorem c7_62_e (Q : Go.Exit → Env → Heap → Prop) (E : Env) (h : Heap) : SW Try.prog c7_62 Q E h = SW Try.prog (.seq c7_59 c7_61) Q E h := rfl
def c7_63 : SCode := .seq c7_54 c7_62
theorem c7_63_e (Q : Go.Exit → Env → Heap → Prop) (E : Env) (h : Heap) : SW Try.prog c7_63 Q E h = SW Try.prog (.seq c7_54 c7_62) Q E h := rfl
def c7_64 : SCode := .seq (.region c7_49 [14, 15]) c7_63
theorem c7_64_e (Q : Go.Exit → Env → Heap → Prop) (E : Env) (h : Heap) : SW Try.prog c7_64 Q E h = SW Try.prog (.seq (.region c7_49 [14, 15]) c7_63) Q E h := rfl
def c7_65 : SCode := .seq (.region c7_48 [11, 14, 15]) c7_64
theorem c7_65_e (Q : Go.Exit → Env → Heap → Prop) (E : Env) (h : Heap) : SW Try.prog c7_65 Q E h = SW Try.prog (.seq (.region c7_48 [11, 14, 15]) c7_64) Q E h := rfl
def c7_66 : SCode := .seq c7_47 c7_65
theorem c7_66_e (Q : Go.Exit → Env → Heap → Prop) (E : Env) (h : Heap) : SW Try.prog c7_66 Q E h = SW Try.prog (.seq c7_47 c7_65) Q E h := rfl
def c7_67 : SCode := .seq (.region c7_42 [8, 9, 11, 14, 16, 17]) c7_66
theorem c7_67_e (Q : Go.Exit → Env → Heap → Prop) (E : Env) (h : Heap) : SW Try.prog c7_67 Q E h = SW Try.prog (.seq (.region c7_42 [8, 9, 11, 14, 16, 17]) c7_66) Q E h := rfl
def c7_68 : SCode := .seq c7_41 c7_67
theorem c7_68_e (Q : Go.Exit → Env → Heap → Prop) (E : Env) (h : Heap) : SW Try.prog c7_68 Q E h = SW Try.prog (.seq c7_41 c7_67) Q E h := rfl
def c7_69 : SCode := .seq c7_36 c7_68
theorem c7_69_e (Q : Go.Exit → Env → Heap → Prop) (E : Env) (h : Heap) : SW Try.prog c7_69 Q E h = SW Try.prog (.seq c7_36 c7_68) Q E h := rfl
def c7_70 : SCode := .seq (.region c7_31 [0, 1, 2, 8, 9, 11, 14, 15]) c7_69
theorem c7_70_e (Q : Go.Exit → Env → Heap → Prop) (E : Env) (h : Heap) : SW Try.prog c7_70 Q E h = SW Try.prog (.seq (.region c7_31 [0, 1, 2, 8, 9, 11, 14, 15]) c7_69) Q E h := rfl
def c7_71 : SCode := .seq (.region c7_30 [0, 1, 2, 8, 9, 11, 14, 15]) c7_70
theorem c7_71_e (Q : Go.Exit → Env → Heap → Prop) (E : Env) (h : Heap) : SW Try.prog c7_71 Q E h = SW Try.prog (.seq (.region c7_30 [0, 1, 2, 8, 9, 11, 14, 15]) c7_70) Q E h := rfl
def c7_72 : SCode := .seq (.region c7_29 [0, 1, 2, 8, 9, 11, 14]) c7_71
theorem c7_72_e (Q : Go.Exit → Env → Heap → Prop) (E : Env) (h : Heap) : SW Try.prog c7_72 Q E h = SW Try.prog (.seq (.region c7_29 [0, 1, 2, 8, 9, 11, 14]) c7_71) Q E h := rfl
def c7_73 : SCode := .seq (.region c7_28 [0, 1, 2, 8, 9, 11, 14]) c7_72
theorem c7_73_e (Q : Go.Exit → Env → Heap → Prop) (E : Env) (h : Heap) : SW Try.prog c7_73 Q E h = SW Try.prog (.seq (.region c7_28 [0, 1, 2, 8, 9, 11, 14]) c7_72) Q E h := rfl
def c7_74 : SCode := .seq c7_27 c7_73
theorem c7_74_e (Q : Go.Exit → Env → Heap → Prop) (E : Env) (h : Heap) : SW Try.prog c7_74 Q E h = SW Try.prog (.seq c7_27 c7_73) Q E h := rfl
def c7_75 : SCode := .seq (.region c7_22 [0, 1, 2, 8, 9, 11, 12, 13]) c7_74
theorem c7_75_e (Q : Go.Exit → Env → Heap → Prop) (E : Env) (h : Heap) : SW Try.prog c7_75 Q E h = SW Try.prog (.seq (.region c7_22 [0, 1, 2, 8, 9, 11, 12, 13]) c7_74) Q E h := rfl
def c7_76 : SCode := .seq (.region c7_21 [0, 1, 2, 8, 9, 10, 11, 12, 13]) c7_75
theorem c7_76_e (Q : Go.Exit → Env → Heap → Prop) (E : Env) (h : Heap) : SW Try.prog c7_76 Q E h = SW Try.prog (.seq (.region c7_21 [0, 1, 2, 8, 9, 10, 11, 12, 13]) c7_75) Q E h := rfl
def c7_77 : SCode := .seq c7_20 c7_76
theorem c7_77_e (Q : Go.Exit → Env → Heap → Prop) (E : Env) (h : Heap) : SW Try.prog c7_77 Q E h = SW Try.prog (.seq c7_20 c7_76) Q E h := rfl
def c7_78 : SCode := .seq c7_15 c7_77
theorem c7_78_e (Q : Go.Exit → Env → Heap → Prop) (E : Env) (h : Heap) : SW Try.prog c7_78 Q E h = SW Try.prog (.seq c7_15 c7_77) Q E h := rfl
def c7_79 : SCode := .seq (.region c7_10 [0, 1, 2, 8, 9, 10, 11, 12]) c7_78
theorem c7_79_e (Q : Go.Exit → Env → Heap → Prop) (E : Env) (h : Heap) : SW Try.prog c7_79 Q E h = SW Try.prog (.seq (.region c7_10 [0, 1, 2, 8, 9, 10, 11, 12]) c7_78) Q E h := rfl
def c7_80 : SCode := .seq (.region c7_9 [0, 1, 2, 8, 9, 10]) c7_79
theorem c7_80_e (Q : Go.Exit → Env → Heap → Prop) (E : Env) (h : Heap) : SW Try.prog c7_80 Q E h = SW Try.prog (.seq (.region c7_9 [0, 1, 2, 8, 9, 10]) c7_79) Q E h := rfl
def c7_81 : SCode := .seq (.region c7_8 [0, 1, 2, 8, 9]) c7_80
theorem c7_81_e (Q : Go.Exit → Env → Heap → Prop) (E : Env) (h : Heap) : SW Try.prog c7_81 Q E h = SW Try.prog (.seq (.region c7_8 [0, 1, 2, 8, 9]) c7_80) Q E h := rfl
def c7_82 : SCode := .seq c7_7 c7_81
theorem c7_82_e (Q : Go.Exit → Env → Heap → Prop) (E : Env) (h : Heap) : SW Try.prog c7_82 Q E h = SW Try.prog (.seq c7_7 c7_81) Q E h := rfl
def c7_83 : SCode := .seq (.region c7_2 [0, 1, 2, 7]) c7_82
theorem c7_83_e (Q : Go.Exit → Env → Heap → Prop) (E : Env) (h : Heap) : SW Try.prog c7_83 Q E h = SW Try.prog (.seq (.region c7_2 [0, 1, 2, 7]) c7_82) Q E h := rfl
def c7_84 : SCode := .seq (.region c7_1 [0, 1, 2, 7]) c7_83
theorem c7_84_e (Q : Go.Exit → Env → Heap → Prop) (E : Env) (h : Heap) : SW Try.prog c7_84 Q E h = SW Try.prog (.seq (.region c7_1 [0, 1, 2, 7]) c7_83) Q E h := rfl
def c7_85 : SCode := .seq (.region c7_0 [0, 1, 2]) c7_84
theorem c7_85_e (Q : Go.Exit → Env → Heap → Prop) (E : Env) (h : Heap) : SW Try.prog c7_85 Q E h = SW Try.prog (.seq (.region c7_0 [0, 1, 2]) c7_84) Q E h := rfl
def c7 : SCode := c7_85
theorem c7_e (Q : Go.Exit → Env → Heap → Prop) (E : Env) (h : Heap) : SW Try.prog c7 Q E h = SW Try.prog c7_85 Q E h := rfl
theorem w7 : type_of% (And.intro @c7_0_e (And.intro @c7_1_e (And.intro @c7_2_e (And.intro @c7_3_e (And.intro @c7_4_e (And.intro @c7_5_e (And.intro @c7_6_e (And.intro @c7_7_e (And.intro @c7_8_e (And.intro @c7_9_e (And.intro @c7_10_e (And.intro @c7_11_e (And.intro @c7_12_e (And.intro @c7_13_e (And.intro @c7_14_e (And.intro @c7_15_e (And.intro @c7_16_e (And.intro @c7_17_e (And.intro @c7_18_e (And.intro @c7_19_e (And.intro @c7_20_e (And.intro @c7_21_e (And.intro @c7_22_e (And.intro @c7_23_e (And.intro @c7_24_e (And.intro @c7_25_e (And.intro @c7_26_e (And.intro @c7_27_e (And.intro @c7_28_e (And.intro @c7_29_e (And.intro @c7_30_e (And.intro @c7_31_e (And.intro @c7_32_e (And.intro @c7_33_e (And.intro @c7_34_e (And.intro @c7_35_e (And.intro @c7_36_e (And.intro @c7_37_e (And.intro @c7_38_e (And.intro @c7_39_e (And.intro @c7_40_e (And.intro @c7_41_e (And.intro @c7_42_e (And.intro @c7_43_e (And.intro @c7_44_e (And.intro @c7_45_e (And.intro @c7_46_e (And.intro @c7_47_e (And.intro @c7_48_e (And.intro @c7_49_e (And.intro @c7_50_e (And.intro @c7_51_e (And.intro @c7_52_e (And.intro @c7_53_e (And.intro @c7_54_e (And.intro @c7_55_e (And.intro @c7_56_e (And.intro @c7_57_e (And.intro @c7_58_e (And.intro @c7_59_e (And.intro @c7_60_e (And.intro @c7_61_e (And.intro @c7_62_e (And.intro @c7_63_e (And.intro @c7_64_e (And.intro @c7_65_e (And.intro @c7_66_e (And.intro @c7_67_e (And.intro @c7_68_e (And.intro @c7_69_e (And.intro @c7_70_e (And.intro @c7_71_e (And.intro @c7_72_e (And.intro @c7_73_e (And.intro @c7_74_e (And.intro @c7_75_e (And.intro @c7_76_e (And.intro @c7_77_e (And.intro @c7_78_e (And.intro @c7_79_e (And.intro @c7_80_e (And.intro @c7_81_e (And.intro @c7_82_e (And.intro @c7_83_e (And.intro @c7_84_e (And.intro @c7_85_e @c7_e)))))))))))))))))))))))))))))))))))))))))))))))))))))))))))))))))))))))))))))))))))))) := (And.intro @c7_0_e (And.intro @c7_1_e (And.intro @c7_2_e (And.intro @c7_3_e (And.intro @c7_4_e (And.intro @c7_5_e (And.intro @c7_6_e (And.intro @c7_7_e (And.intro @c7_8_e (And.intro @c7_9_e (And.intro @c7_10_e (And.intro @c7_11_e (And.intro @c7_12_e (And.intro @c7_13_e (And.intro @c7_14_e (And.intro @c7_15_e (And.intro @c7_16_e (And.intro @c7_17_e (And.intro @c7_18_e (And.intro @c7_19_e (And.intro @c7_20_e (And.intro @c7_21_e (And.intro @c7_22_e (And.intro @c7_23_e (And.intro @c7_24_e (And.intro @c7_25_e (And.intro @c7_26_e (And.intro @c7_27_e (And.intro @c7_28_e (And.intro @c7_29_e (And.intro @c7_30_e (And.intro @c7_31_e (And.intro @c7_32_e (And.intro @c7_33_e (And.intro @c7_34_e (And.intro @c7_35_e (And.intro @c7_36_e (And.intro @c7_37_e (And.intro @c7_38_e (And.intro @c7_39_e (And.intro @c7_40_e (And.intro @c7_41_e (And.intro @c7_42_e (And.intro @c7_43_e (And.intro @c7_44_e (And.intro @c7_45_e (And.intro @c7_46_e (And.intro @c7_47_e (And.intro @c7_48_e (And.intro @c7_49_e (And.intro @c7_50_e (And.intro @c7_51_e (And.intro @c7_52_e (And.intro @c7_53_e (And.intro @c7_54_e (And.intro @c7_55_e (And.intro @c7_56_e (And.intro @c7_57_e (And.intro @c7_58_e (And.intro @c7_59_e (And.intro @c7_60_e (And.intro @c7_61_e (And.intro @c7_62_e (And.intro @c7_63_e (And.intro @c7_64_e (And.intro @c7_65_e (And.intro @c7_66_e (And.intro @c7_67_e (And.intro @c7_68_e (And.intro @c7_69_e (And.intro @c7_70_e (And.intro @c7_71_e (And.intro @c7_72_e (And.intro @c7_73_e (And.intro @c7_74_e (And.intro @c7_75_e (And.intro @c7_76_e (And.intro @c7_77_e (And.intro @c7_78_e (And.intro @c7_79_e (And.intro @c7_80_e (And.intro @c7_81_e (And.intro @c7_82_e (And.intro @c7_83_e (And.intro @c7_84_e (And.intro @c7_85_e @c7_e))))))))))))))))))))))))))))))))))))))))))))))))))))))))))))))))))))))))))))))))))))))
def v7 : List RV := [.t 6]
theorem s7 : slimF Try.prog Try.f7 = some (c7.bare, v7) := by kernel_rfl
/-! 8 loop.example/g00066/laws.FnExactSlide: parameters 3, live [0, 1, 2], slots [0:aTrack, 1:aI, 2:aN, 3:aTrack, 4:aI, 5:aN, 7:left, 8:w0, 9:w1, 10:x0, 11:g0, 12:g1, 13:k, 14:m, 15:q, 16:h0, 17:h1] -/
def c8_0 : List SOper := [⟨some 6, .q (.mv (.c (.bool false))), none⟩]
theorem c8_0_e (K : Env → Heap → Prop) (E : Env) (h : Heap) : AOps Try.prog c8_0 K E h = AOps Try.prog [⟨some 6, .q (.mv (.c (.bool false))), none⟩] K E h := rfl
def c8_1 : List SOper := [⟨some 7, .q (.mv (.c (.int .i64 1048576))), none⟩]
theorem c8_1_e (K : Env → Heap → Prop) (E : Env) (h : Heap) : AOps Try.prog c8_1 K E h = AOps Try.prog [⟨some 7, .q (.mv (.c (.int .i64 1048576))), none⟩] K E h := rfl
def c8_2 : List SOper := [⟨some 18, .q (.mv (.t 0)), none⟩, ⟨some 19, .q (.mv (.t 7)), none⟩, ⟨some 20, .e (.call 14 [(.t 18), (.t 19)]), none⟩, ⟨some 7, .q (.mv (.t 20)), none⟩]
theorem c8_2_e (K : Env → Heap → Prop) (E : Env) (h : Heap) : AOps Try.prog c8_2 K E h = AOps Try.prog [⟨some 18, .q (.mv (.t 0)), none⟩, ⟨some 19, .q (.mv (.t 7)), none⟩, ⟨some 20, .e (.call 14 [(.t 18), (.t 19)]), none⟩, ⟨some 7, .q (.mv (.t 20)), none⟩] K E h := rfl
def c8_3 : List SOper := [⟨some 21, .q (.mv (.t 7)), none⟩, ⟨some 22, .q (.bin .lss (.t 21) (.c (.int .i64 0))), none⟩]
theorem c8_3_e (K : Env → Heap → Prop) (E : Env) (h : Heap) : AOps Try.prog c8_3 K E h = AOps Try.prog [⟨some 21, .q (.mv (.t 7)), none⟩, ⟨some 22, .q (.bin .lss (.t 21) (.c (.int .i64 0))), none⟩] K E h := rfl
def c8_4 : List SOper := [⟨some 6, .q (.mv (.c (.bool true))), none⟩]
theorem c8_4_e (K : Env → Heap → Prop) (E : Env) (h : Heap) : AOps Try.prog c8_4 K E h = AOps Try.prog [⟨some 6, .q (.mv (.c (.bool true))), none⟩] K E h := rfl
def c8_5 : SCode := .seq (.region c8_4 [6]) .ret
theorem c8_5_e (Q : Go.Exit → Env → Heap → Prop) (E : Env) (h : Heap) : SW Try.prog c8_5 Q E h = SW Try.prog (.seq (.region c8_4 [6]) .ret) Q E h := rfl
def c8_6 : SCode := .cond (.t 22) c8_5 .skip
theorem c8_6_e (Q : Go.Exit → Env → Heap → Prop) (E : Env) (h : Heap) : SW Try.prog c8_6 Q E h = SW Try.prog (.cond (.t 22) c8_5 .skip) Q E h := rfl
def c8_7 : SCode := .seq (.region c8_3 [0, 1, 2, 22]) c8_6
theorem c8_7_e (Q : Go.Exit → Env → Heap → Prop) (E : Env) (h : Heap) : SW Try.prog c8_7 Q E h = SW Try.prog (.seq (.region c8_3 [0, 1, 2, 22]) c8_6) Q E h := rfl
def c8_8 : List SOper := [⟨some 24, .q (.mv (.t 0)), none⟩, ⟨some 25, .e (.call 16 [(.t 24)]), none⟩, ⟨some 26, .q (.mv (.t 1)), none⟩, ⟨some 27, .q (.mv (.t 2)), none⟩, ⟨some 28, .e (.call 29 [(.t 25), (.t 26), (.t 27)]), none⟩, ⟨some 23, .q (.mv (.t 28)), none⟩, ⟨some 29, .q (.ext (.t 23) 0), none⟩, ⟨some 30, .q (.ext (.t 23) 1), none⟩, ⟨some 8, .q (.mv (.t 29)), none⟩, ⟨some 9, .q (.mv (.t 30)), none⟩]
theorem c8_8_e (K : Env → Heap → Prop) (E : Env) (h : Heap) : AOps Try.prog c8_8 K E h = AOps Try.prog [⟨some 24, .q (.mv (.t 0)), none⟩, ⟨some 25, .e (.call 16 [(.t 24)]), none⟩, ⟨some 26, .q (.mv (.t 1)), none⟩, ⟨some 27, .q (.mv (.t 2)), none⟩, ⟨some 28, .e (.call 29 [(.t 25), (.t 26), (.t 27)]), none⟩, ⟨some 23, .q (.mv (.t 28)), none⟩, ⟨some 29, .q (.ext (.t 23) 0), none⟩, ⟨some 30, .q (.ext (.t 23) 1), none⟩, ⟨some 8, .q (.mv (.t 29)), none⟩, ⟨some 9, .q (.mv (.t 30)), none⟩] K E h := rfl
def c8_9 : List SOper := [⟨some 31, .q (.mv (.t 0)), none⟩, ⟨some 32, .e (.call 16 [(.t 31)]), none⟩, ⟨some 10, .q (.mv (.t 32)), none⟩]
theorem c8_9_e (K : Env → Heap → Prop) (E : Env) (h : Heap) : AOps Try.prog c8_9 K E h = AOps Try.prog [⟨some 31, .q (.mv (.t 0)), none⟩, ⟨some 32, .e (.call 16 [(.t 31)]), none⟩, ⟨some 10, .q (.mv (.t 32)), none⟩] K E h := rfl
def c8_10 : List SOper := [⟨some 34, .q (.mv (.t 10)), none⟩, ⟨some 35, .q (.mv (.t 1)), none⟩, ⟨some 36, .q (.mv (.t 2)), none⟩, ⟨some 37, .e (.call 30 [(.t 34), (.t 35), (.t 36)]), none⟩, ⟨some 33, .q (.mv (.t 37)), none⟩, ⟨some 38, .q (.ext (.t 33) 0), none⟩, ⟨some 39, .q (.ext (.t 33) 1), none⟩, ⟨some 11, .q (.mv (.t 38)), none⟩, ⟨some 12, .q (.mv (.t 39)), none⟩]
theorem c8_10_e (K : Env → Heap → Prop) (E : Env) (h : Heap) : AOps Try.prog c8_10 K E h = AOps Try.prog [⟨some 34, .q (.mv (.t 10)), none⟩, ⟨some 35, .q (.mv (.t 1)), none⟩, ⟨some 36, .q (.mv (.t 2)), none⟩, ⟨some 37, .e (.call 30 [(.t 34), (.t 35), (.t 36)]), none⟩, ⟨some 33, .q (.mv (.t 37)), none⟩, ⟨some 38, .q (.ext (.t 33) 0), none⟩, ⟨some 39, .q (.ext (.t 33) 1), none⟩, ⟨some 11, .q (.mv (.t 38)), none⟩, ⟨some 12, .q (.mv (.t 39)), none⟩] K E h := rfl
def c8_11 : List SOper := [⟨some 40, .q (.mv (.t 11)), none⟩, ⟨some 41, .q (.mv (.t 8)), none⟩, ⟨some 42, .e (.call 18 [(.t 40), (.t 41)]), none⟩, ⟨some 43, .q (.not (.t 42)), none⟩, ⟨some 44, .q (.mv (.t 43)), none⟩, ⟨some 45, .q (.mv (.t 12)), some (44, false)⟩, ⟨some 46, .q (.mv (.t 9)), some (44, false)⟩, ⟨some 47, .q (.eqb true (.t 45) (.t 46)), some (44, false)⟩, ⟨some 48, .q (.pick (.t 44) (.c (.bool true)) (.t 47)), none⟩]
theorem c8_11_e (K : Env → Heap → Prop) (E : Env) (h : Heap) : AOps Try.prog c8_11 K E h = AOps Try.prog [⟨some 40, .q (.mv (.t 11)), none⟩, ⟨some 41, .q (.mv (.t 8)), none⟩, ⟨some 42, .e (.call 18 [(.t 40), (.t 41)]), none⟩, ⟨some 43, .q (.not (.t 42)), none⟩, ⟨some 44, .q (.mv (.t 43)), none⟩, ⟨some 45, .q (.mv (.t 12)), some (44, false)⟩, ⟨some 46, .q (.mv (.t 9)), some (44, false)⟩, ⟨some 47, .q (.eqb true (.t 45) (.t 46)), some (44, false)⟩, ⟨some 48, .q (.pick (.t 44) (.c (.bool true)) (.t 47)), none⟩] K E h := rfl
def c8_12 : List SOper := [⟨some 6, .q (.mv (.c (.bool false))), none⟩]
theorem c8_12_e (K : Env → Heap → Prop) (E : Env) (h : Heap) : AOps Try.prog c8_12 K E h = AOps Try.prog [⟨some 6, .q (.mv (.c (.bool false))), none⟩] K E h := rfl
def c8_13 : SCode := .seq (.region c8_12 [6]) .ret
theorem c8_13_e (Q : Go.Exit → Env → Heap → Prop) (E : Env) (h : Heap) : SW Try.prog c8_13 Q E h = SW Try.prog (.seq (.region c8_12 [6]) .ret) Q E h := rfl
def c8_14 : SCode := .cond (.t 48) c8_13 .skip
theorem c8_14_e (Q : Go.Exit → Env → Heap → Prop) (E : Env) (h : Heap) : SW Try.prog c8_14 Q E h = SW Try.prog (.cond (.t 48) c8_13 .skip) Q E h := rfl
def c8_15 : SCode := .seq (.region c8_11 [0, 1, 2, 8, 9, 10, 11, 12, 48]) c8_14
theorem c8_15_e (Q : Go.Exit → Env → Heap → Prop) (E : Env) (h : Heap) : SW Try.prog c8_15 Q E h = SW Try.prog (.seq (.region c8_11 [0, 1, 2, 8, 9, 10, 11, 12, 48]) c8_14) Q E h := rfl
def c8_16 : List SOper := [⟨some 49, .q (.mv (.t 10)), none⟩, ⟨some 50, .q (.mv (.t 0)), none⟩, ⟨some 51, .e (.call 16 [(.t 50)]), none⟩, ⟨some 52, .e (.call 18 [(.t 49), (.t 51)]), none⟩, ⟨some 53, .q (.not (.t 52)), none⟩]
theorem c8_16_e (K : Env → Heap → Prop) (E : Env) (h : Heap) : AOps Try.prog c8_16 K E h = AOps Try.prog [⟨some 49, .q (.mv (.t 10)), none⟩, ⟨some 50, .q (.mv (.t 0)), none⟩, ⟨some 51, .e (.call 16 [(.t 50)]), none⟩, ⟨some 52, .e (.call 18 [(.t 49), (.t 51)]), none⟩, ⟨some 53, .q (.not (.t 52)), none⟩] K E h := rfl
def c8_17 : List SOper := [⟨some 6, .q (.mv (.c (.bool false))), none⟩]
theorem c8_17_e (K : Env → Heap → Prop) (E : Env) (h : Heap) : AOps Try.prog c8_17 K E h = AOps Try.prog [⟨some 6, .q (.mv (.c (.bool false))), none⟩] K E h := rfl
def c8_18 : SCode := .seq (.region c8_17 [6]) .ret
theorem c8_18_e (Q : Go.Exit → Env → Heap → Prop) (E : Env) (h : Heap) : SW Try.prog c8_18 Q E h = SW Try.prog (.seq (.region c8_17 [6]) .ret) Q E h := rfl
def c8_19 : SCode := .cond (.t 53) c8_18 .skip
theorem c8_19_e (Q : Go.Exit → Env → Heap → Prop) (E : Env) (h : Heap) : SW Try.prog c8_19 Q E h = SW Try.prog (.cond (.t 53) c8_18 .skip) Q E h := rfl
def c8_20 : SCode := .seq (.region c8_16 [0, 1, 2, 8, 9, 10, 11, 12, 53]) c8_19
theorem c8_20_e (Q : Go.Exit → Env → Heap → Prop) (E : Env) (h : Heap) : SW Try.prog c8_20 Q E h = SW Try.prog (.seq (.region c8_16 [0, 1, 2, 8, 9, 10, 11, 12, 53]) c8_19) Q E h := rfl
def c8_21 : List SOper := [⟨some 13, .q (.mv (.c (.int .i64 1))), none⟩]
theorem c8_21_e (K : Env → Heap → Prop) (E : Env) (h : Heap) : AOps Try.prog c8_21 K E h = AOps Try.prog [⟨some 13, .q (.mv (.c (.int .i64 1))), none⟩] K E h := rfl
def c8_22 : List SOper := [⟨some 54, .q (.mv (.t 10)), none⟩, ⟨some 55, .q (.mv (.t 13)), none⟩, ⟨some 56, .e (.call 19 [(.t 54), (.t 55)]), none⟩, ⟨some 13, .q (.mv (.t 56)), none⟩]
theorem c8_22_e (K : Env → Heap → Prop) (E : Env) (h : Heap) : AOps Try.prog c8_22 K E h = AOps Try.prog [⟨some 54, .q (.mv (.t 10)), none⟩, ⟨some 55, .q (.mv (.t 13)), none⟩, ⟨some 56, .e (.call 19 [(.t 54), (.t 55)]), none⟩, ⟨some 13, .q (.mv (.t 56)), none⟩] K E h := rfl
def c8_23 : List SOper := [⟨some 57, .q (.mv (.t 13)), none⟩, ⟨some 58, .q (.bin .lss (.t 57) (.c (.int .i64 0))), none⟩, ⟨some 59, .q (.mv (.t 58)), none⟩, ⟨some 60, .q (.mv (.t 11)), some (59, false)⟩, ⟨some 61, .q (.mv (.t 8)), some (59, false)⟩, ⟨some 62, .e (.call 18 [(.t 60), (.t 61)]), some (59, false)⟩, ⟨some 63, .q (.not (.t 62)), some (59, false)⟩, ⟨some 64, .q (.pick (.t 59) (.c (.bool true)) (.t 63)), none⟩, ⟨some 65, .q (.mv (.t 64)), none⟩, ⟨some 66, .q (.mv (.t 12)), some (65, false)⟩, ⟨some 67, .q (.mv (.t 9)), some (65, false)⟩, ⟨some 68, .q (.eqb true (.t 66) (.t 67)), some (65, false)⟩, ⟨some 69, .q (.pick (.t 65) (.c (.bool true)) (.t 68)), none⟩]
theorem c8_23_e (K : Env → Heap → Prop) (E : Env) (h : Heap) : AOps Try.prog c8_23 K E h = AOps Try.prog [⟨some 57, .q (.mv (.t 13)), none⟩, ⟨some 58, .q (.bin .lss (.t 57) (.c (.int .i64 0))), none⟩, ⟨some 59, .q (.mv (.t 58)), none⟩, ⟨some 60, .q (.mv (.t 11)), some (59, false)⟩, ⟨some 61, .q (.mv (.t 8)), some (59, false)⟩, ⟨some 62, .e (.call 18 [(.t 60), (.t 61)]), some (59, false)⟩, ⟨some 63, .q (.not (.t 62)), some (59, false)⟩, ⟨some 64, .q (.pick (.t 59) (.c (.bool true)) (.t 63)), none⟩, ⟨some 65, .q (.mv (.t 64)), none⟩, ⟨some 66, .q (.mv (.t 12)), some (65, false)⟩, ⟨some 67, .q (.mv (.t 9)), some (65, false)⟩, ⟨some 68, .q (.eqb true (.t 66) (.t 67)), some (65, false)⟩, ⟨some 69, .q (.pick (.t 65) (.c (.bool true)) (.t 68)), none⟩] K E h := rfl
def c8_24 : List SOper := [⟨some 6, .q (.mv (.c (.bool false))), none⟩]
theorem c8_24_e (K : Env → Heap → Prop) (E : Env) (h : Heap) : AOps Try.prog c8_24 K E h = AOps Try.prog [⟨some 6, .q (.mv (.c (.bool false))), none⟩] K E h := rfl
def c8_25 : SCode := .seq (.region c8_24 [6]) .ret
theorem c8_25_e (Q : Go.Exit → Env → Heap → Prop) (E : Env) (h : Heap) : SW Try.prog c8_25 Q E h = SW Try.prog (.seq (.region c8_24 [6]) .ret) Q E h := rfl
def c8_26 : SCode := .cond (.t 69) c8_25 .skip
theorem c8_26_e (Q : Go.Exit → Env → Heap → Prop) (E : Env) (h : Heap) : SW Try.prog c8_26 Q E h = SW Try.prog (.cond (.t 69) c8_25 .skip) Q E h := rfl
def c8_27 : SCode := .seq (.region c8_23 [0, 1, 2, 8, 9, 11, 69]) c8_26
theorem c8_27_e (Q : Go.Exit → Env → Heap → Prop) (E : Env) (h : Heap) : SW Try.prog c8_27 Q E h = SW Try.prog (.seq (.region c8_23 [0, 1, 2, 8, 9, 11, 69]) c8_26) Q E h := rfl
def c8_28 : List SOper := [⟨some 14, .q (.mv (.c (.int .i64 1))), none⟩]
theorem c8_28_e (K : Env → Heap → Prop) (E : Env) (h : Heap) : AOps Try.prog c8_28 K E h = AOps Try.prog [⟨some 14, .q (.mv (.c (.int .i64 1))), none⟩] K E h := rfl
def c8_29 : List SOper := [⟨some 70, .q (.mv (.t 11)), none⟩, ⟨some 71, .q (.mv (.t 14)), none⟩, ⟨some 72, .e (.call 19 [(.t 70), (.t 71)]), none⟩, ⟨some 14, .q (.mv (.t 72)), none⟩]
theorem c8_29_e (K : Env → Heap → Prop) (E : Env) (h : Heap) : AOps Try.prog c8_29 K E h = AOps Try.prog [⟨some 70, .q (.mv (.t 11)), none⟩, ⟨some 71, .q (.mv (.t 14)), none⟩, ⟨some 72, .e (.call 19 [(.t 70), (.t 71)]), none⟩, ⟨some 14, .q (.mv (.t 72)), none⟩] K E h := rfl
def c8_30 : List SOper := [⟨some 15, .q (.mv (.c (.int .i64 1))), none⟩]
theorem c8_30_e (K : Env → Heap → Prop) (E : Env) (h : Heap) : AOps Try.prog c8_30 K E h = AOps Try.prog [⟨some 15, .q (.mv (.c (.int .i64 1))), none⟩] K E h := rfl
def c8_31 : List SOper := [⟨some 73, .q (.mv (.t 11)), none⟩, ⟨some 74, .q (.mv (.t 15)), none⟩, ⟨some 75, .e (.call 20 [(.t 73), (.t 74)]), none⟩, ⟨some 15, .q (.mv (.t 75)), none⟩]
theorem c8_31_e (K : Env → Heap → Prop) (E : Env) (h : Heap) : AOps Try.prog c8_31 K E h = AOps Try.prog [⟨some 73, .q (.mv (.t 11)), none⟩, ⟨some 74, .q (.mv (.t 15)), none⟩, ⟨some 75, .e (.call 20 [(.t 73), (.t 74)]), none⟩, ⟨some 15, .q (.mv (.t 75)), none⟩] K E h := rfl
def c8_32 : List SOper := [⟨some 76, .q (.mv (.t 15)), none⟩, ⟨some 77, .q (.bin .lss (.t 76) (.c (.int .i64 0))), none⟩]
theorem c8_32_e (K : Env → Heap → Prop) (E : Env) (h : Heap) : AOps Try.prog c8_32 K E h = AOps Try.prog [⟨some 76, .q (.mv (.t 15)), none⟩, ⟨some 77, .q (.bin .lss (.t 76) (.c (.int .i64 0))), none⟩] K E h := rfl
def c8_33 : List SOper := [⟨some 6, .q (.mv (.c (.bool false))), none⟩]
theorem c8_33_e (K : Env → Heap → Prop) (E : Env) (h : Heap) : AOps Try.prog c8_33 K E h = AOps Try.prog [⟨some 6, .q (.mv (.c (.bool false))), none⟩] K E h := rfl
def c8_34 : SCode := .seq (.region c8_33 [6]) .ret
theorem c8_34_e (Q : Go.Exit → Env → Heap → Prop) (E : Env) (h : Heap) : SW Try.prog c8_34 Q E h = SW Try.prog (.seq (.region c8_33 [6]) .ret) Q E h := rfl
def c8_35 : SCode := .cond (.t 77) c8_34 .skip
theorem c8_35_e (Q : Go.Exit → Env → Heap → Prop) (E : Env) (h : Heap) : SW Try.prog c8_35 Q E h = SW Try.prog (.cond (.t 77) c8_34 .skip) Q E h := rfl
def c8_36 : SCode := .seq (.region c8_32 [0, 1, 2, 8, 9, 11, 14, 15, 77]) c8_35
theorem c8_36_e (Q : Go.Exit → Env → Heap → Prop) (E : Env) (h : Heap) : SW Try.prog c8_36 Q E h = SW Try.prog (.seq (.region c8_32 [0, 1, 2, 8, 9, 11, 14, 15, 77]) c8_35) Q E h := rfl
def c8_37 : List SOper := [⟨some 78, .q (.mv (.t 15)), none⟩, ⟨some 79, .q (.mv (.t 14)), none⟩, ⟨some 80, .q (.bin .neq (.t 78) (.t 79)), none⟩]
theorem c8_37_e (K : Env → Heap → Prop) (E : Env) (h : Heap) : AOps Try.prog c8_37 K E h = AOps Try.prog [⟨some 78, .q (.mv (.t 15)), none⟩, ⟨some 79, .q (.mv (.t 14)), none⟩, ⟨some 80, .q (.bin .neq (.t 78) (.t 79)), none⟩] K E h := rfl
def c8_38 : List SOper := [⟨some 6, .q (.mv (.c (.bool false))), none⟩]
theorem c8_38_e (K : Env → Heap → Prop) (E : Env) (h : Heap) : AOps Try.prog c8_38 K E h = AOps Try.prog [⟨some 6, .q (.mv (.c (.bool false))), none⟩] K E h := rfl
def c8_39 : SCode := .seq (.region c8_38 [6]) .ret
theorem c8_39_e (Q : Go.Exit → Env → Heap → Prop) (E : Env) (h : Heap) : SW Try.prog c8_39 Q E h = SW Try.prog (.seq (.region c8_38 [6]) .ret) Q E h := rfl
def c8_40 : SCode := .cond (.t 80) c8_39 .skip
theorem c8_40_e (Q : Go.Exit → Env → Heap → Prop) (E : Env) (h : Heap) : SW Try.prog c8_40 Q E h = SW Try.prog (.cond (.t 80) c8_39 .skip) Q E h := rfl
def c8_41 : SCode := .seq (.region c8_37 [0, 1, 2, 8, 9, 11, 14, 80]) c8_40
theorem c8_41_e (Q : Go.Exit → Env → Heap → Prop) (E : Env) (h : Heap) : SW Try.prog c8_41 Q E h = SW Try.prog (.seq (.region c8_37 [0, 1, 2, 8, 9, 11, 14, 80]) c8_40) Q E h := rfl
def c8_42 : List SOper := [⟨some 82, .q (.mv (.t 0)), none⟩, ⟨some 83, .e (.call 16 [(.t 82)]), none⟩, ⟨some 84, .q (.mv (.t 1)), none⟩, ⟨some 85, .q (.mv (.t 2)), none⟩, ⟨some 86, .e (.call 30 [(.t 83), (.t 84), (.t 85)]), none⟩, ⟨some 81, .q (.mv (.t 86)), none⟩, ⟨some 87, .q (.ext (.t 81) 0), none⟩, ⟨some 88, .q (.ext (.t 81) 1), none⟩, ⟨some 16, .q (.mv (.t 87)), none⟩, ⟨some 17, .q (.mv (.t 88)), none⟩]
theorem c8_42_e (K : Env → Heap → Prop) (E : Env) (h : Heap) : AOps Try.prog c8_42 K E h = AOps Try.prog [⟨some 82, .q (.mv (.t 0)), none⟩, ⟨some 83, .e (.call 16 [(.t 82)]), none⟩, ⟨some 84, .q (.mv (.t 1)), none⟩, ⟨some 85, .q (.mv (.t 2)), none⟩, ⟨some 86, .e (.call 30 [(.t 83), (.t 84), (.t 85)]), none⟩, ⟨some 81, .q (.mv (.t 86)), none⟩, ⟨some 87, .q (.ext (.t 81) 0), none⟩, ⟨some 88, .q (.ext (.t 81) 1), none⟩, ⟨some 16, .q (.mv (.t 87)), none⟩, ⟨some 17, .q (.mv (.t 88)), none⟩] K E h := rfl
def c8_43 : List SOper := [⟨some 89, .q (.mv (.t 16)), none⟩, ⟨some 90, .q (.mv (.t 8)), none⟩, ⟨some 91, .e (.call 18 [(.t 89), (.t 90)]), none⟩, ⟨some 92, .q (.not (.t 91)), none⟩, ⟨some 93, .q (.mv (.t 92)), none⟩, ⟨some 94, .q (.mv (.t 17)), some (93, false)⟩, ⟨some 95, .q (.mv (.t 9)), some (93, false)⟩, ⟨some 96, .q (.eqb true (.t 94) (.t 95)), some (93, false)⟩, ⟨some 97, .q (.pick (.t 93) (.c (.bool true)) (.t 96)), none⟩]
theorem c8_43_e (K : Env → Heap → Prop) (E : Env) (h : Heap) : AOps Try.prog c8_43 K E h = AOps Try.prog [⟨some 89, .q (.mv (.t 16)), none⟩, ⟨some 90, .q (.mv (.t 8)), none⟩, ⟨some 91, .e (.call 18 [(.t 89), (.t 90)]), none⟩, ⟨some 92, .q (.not (.t 91)), none⟩, ⟨some 93, .q (.mv (.t 92)), none⟩, ⟨some 94, .q (.mv (.t 17)), some (93, false)⟩, ⟨some 95, .q (.mv (.t 9)), some (93, false)⟩, ⟨some 96, .q (.eqb true (.t 94) (.t 95)), some (93, false)⟩, ⟨some 97, .q (.pick (.t 93) (.c (.bool true)) (.t 96)), none⟩] K E h := rfl
def c8_44 : List SOper := [⟨some 6, .q (.mv (.c (.bool false))), none⟩]
theorem c8_44_e (K : Env → Heap → Prop) (E : Env) (h : Heap) : AOps Try.prog c8_44 K E h = AOps Try.prog [⟨some 6, .q (.mv (.c (.bool false))), none⟩] K E h := rfl
def c8_45 : SCode := .seq (.region c8_44 [6]) .ret
theorem c8_45_e (Q : Go.Exit → Env → Heap → Prop) (E : Env) (h : Heap) : SW Try.prog c8_45 Q E h = SW Try.prog (.seq (.region c8_44 [6]) .ret) Q E h := rfl
def c8_46 : SCode := .cond (.t 97) c8_45 .skip
theorem c8_46_e (Q : Go.Exit → Env → Heap → Prop) (E : Env) (h : Heap) : SW Try.prog c8_46 Q E h = SW Try.prog (.cond (.t 97) c8_45 .skip) Q E h := rfl
def c8_47 : SCode := .seq (.region c8_43 [11, 14, 97]) c8_46
theorem c8_47_e (Q : Go.Exit → Env → Heap → Prop) (E : Env) (h : Heap) : SW Try.prog c8_47 Q E h = SW Try.prog (.seq (.region c8_43 [11, 14, 97]) c8_46) Q E h := rfl
def c8_48 : List SOper := [⟨some 15, .q (.mv (.c (.int .i64 1))), none⟩]
theorem c8_48_e (K : Env → Heap → Prop) (E : Env) (h : Heap) : AOps Try.prog c8_48 K E h = AOps Try.prog [⟨some 15, .q (.mv (.c (.int .i64 1))), none⟩] K E h := rfl
def c8_49 : List SOper := [⟨some 98, .q (.mv (.t 11)), none⟩, ⟨some 99, .q (.mv (.t 15)), none⟩, ⟨some 100, .e (.call 20 [(.t 98), (.t 99)]), none⟩, ⟨some 15, .q (.mv (.t 100)), none⟩]
theorem c8_49_e (K : Env → Heap → Prop) (E : Env) (h : Heap) : AOps Try.prog c8_49 K E h = AOps Try.prog [⟨some 98, .q (.mv (.t 11)), none⟩, ⟨some 99, .q (.mv (.t 15)), none⟩, ⟨some 100, .e (.call 20 [(.t 98), (.t 99)]), none⟩, ⟨some 15, .q (.mv (.t 100)), none⟩] K E h := rfl
def c8_50 : List SOper := [⟨some 101, .q (.mv (.t 15)), none⟩, ⟨some 102, .q (.bin .lss (.t 101) (.c (.int .i64 0))), none⟩]
theorem c8_50_e (K : Env → Heap → Prop) (E : Env) (h : Heap) : AOps Try.prog c8_50 K E h = AOps Try.prog [⟨some 101, .q (.mv (.t 15)), none⟩, ⟨some 102, .q (.bin .lss (.t 101) (.c (.int .i64 0))), none⟩] K E h := rfl
def c8_51 : List SOper := [⟨some 6, .q (.mv (.c (.bool false))), none⟩]
theorem c8_51_e (K : Env → Heap → Prop) (E : Env) (h : Heap) : AOps Try.prog c8_51 K E h = AOps Try.prog [⟨some 6, .q (.mv (.c (.bool false))), none⟩] K E h := rfl
def c8_52 : SCode := .seq (.region c8_51 [6]) .ret
theorem c8_52_e (Q : Go.Exit → Env → Heap → Prop) (E : Env) (h : Heap) : SW Try.prog c8_52 Q E h = SW Try.prog (.seq (.region c8_51 [6]) .ret) Q E h := rfl
def c8_53 : SCode := .cond (.t 102) c8_52 .skip
theorem c8_53_e (Q : Go.Exit → Env → Heap → Prop) (E : Env) (h : Heap) : SW Try.prog c8_53 Q E h = SW Try.prog (.cond (.t 102) c8_52 .skip) Q E h := rfl
def c8_54 : SCode := .seq (.region c8_50 [14, 15, 102]) c8_53
theorem c8_54_e (Q : Go.Exit → Env → Heap → Prop) (E : Env) (h : Heap) : SW Try.prog c8_54 Q E h = SW Try.prog (.seq (.region c8_50 [14, 15, 102]) c8_53) Q E h := rfl
def c8_55 : List SOper := [⟨some 103, .q (.mv (.t 15)), none⟩, ⟨some 104, .q (.mv (.t 14)), none⟩, ⟨some 105, .q (.bin .neq (.t 103) (.t 104)), none⟩]
theorem c8_55_e (K : Env → Heap → Prop) (E : Env) (h : Heap) : AOps Try.prog c8_55 K E h = AOps Try.prog [⟨some 103, .q (.mv (.t 15)), none⟩, ⟨some 104, .q (.mv (.t 14)), none⟩, ⟨some 105, .q (.bin .neq (.t 103) (.t 104)), none⟩] K E h := rfl
def c8_56 : List SOper := [⟨some 6, .q (.mv (.c (.bool false))), none⟩]
theorem c8_56_e (K : Env → Heap → Prop) (E : Env) (h : Heap) : AOps Try.prog c8_56 K E h = AOps Try.prog [⟨some 6, .q (.mv (.c (.bool false))), none⟩] K E h := rfl
def c8_57 : SCode := .seq (.region c8_56 [6]) .ret
theorem c8_57_e (Q : Go.Exit → Env → Heap → Prop) (E : Env) (h : Heap) : SW Try.prog c8_57 Q E h = SW Try.prog (.seq (.region c8_56 [6]) .ret) Q E h := rfl
def c8_58 : SCode := .cond (.t 105) c8_57 .skip
theorem c8_58_e (Q : Go.Exit → Env → Heap → Prop) (E : Env) (h : Heap) : SW Try.prog c8_58 Q E h = SW Try.prog (.cond (.t 105) c8_57 .skip) Q E h := rfl
def c8_59 : SCode := .seq (.region c8_55 [105]) c8_58
theorem c8_59_e (Q : Go.Exit → Env → Heap → Prop) (E : Env) (h : Heap) : SW Try.prog c8_59 Q E h = SW Try.prog (.seq (.region c8_55 [105]) c8_58) Q E h := rfl
def c8_60 : List SOper := [⟨some 6, .q (.mv (.c (.bool true))), none⟩]
theorem c8_60_e (K : Env → Heap → Prop) (E : Env) (h : Heap) : AOps Try.prog c8_60 K E h = AOps Try.prog [⟨some 6, .q (.mv (.c (.bool true))), none⟩] K E h := rfl
def c8_61 : SCode := .seq (.region c8_60 [6]) .ret
theorem c8_61_e (Q : Go.Exit → Env → Heap → Prop) (E : Env) (h : Heap) : SW Try.prog c8_61 Q E h = SW Try.prog (.seq (.region c8_60 [6]) .ret) Q E h := rfl
def c8_62 : SCode := .seq c8_59 c8_61
theorem c8_62_e (Q : Go.Exit → Env → Heap → Prop) (E : Env) (h : Heap) : SW Try.prog c8_62 Q E h = SW Try.prog (.seq c8_59 c8_61) Q E h := rfl
def c8_63 : SCode := .seq c8_54 c8_62
theorem c8_63_e (Q : Go.Exit → Env → Heap → Prop) (E : Env) (h : Heap) : SW Try.prog c8_63 Q E h = SW Try.prog (.seq c8_54 c8_62) Q E h := rfl
def c8_64 : SCode := .seq (.region c8_49 [14, 15]) c8_63
theorem c8_64_e (Q : Go.Exit → Env → Heap → Prop) (E : Env) (h : Heap) : SW Try.prog c8_64 Q E h = SW Try.prog (.seq (.region c8_49 [14, 15]) c8_63) Q E h := rfl
def c8_65 : SCode := .seq (.region c8_48 [11, 14, 15]) c8_64
theorem c8_65_e (Q : Go.Exit → Env → Heap → Prop) (E : Env) (h : Heap) : SW Try.prog c8_65 Q E h = SW Try.prog (.seq (.region c8_48 [11, 14, 15]) c8_64) Q E h := rfl
def c8_66 : SCode := .seq c8_47 c8_65
theorem c8_66_e (Q : Go.Exit → Env → Heap → Prop) (E : Env) (h : Heap) : SW Try.prog c8_66 Q E h = SW Try.prog (.seq c8_47 c8_65) Q E h := rfl
def c8_67 : SCode := .seq (.region c8_42 [8, 9, 11, 14, 16, 17]) c8_66
theorem c8_67_e (Q : Go.Exit → Env → Heap → Prop) (E : Env) (h : Heap) : SW Try.prog c8_67 Q E h = SW Try.prog (.seq (.region c8_42 [8, 9, 11, 14, 16, 17]) c8_66) Q E h := rfl
def c8_68 : SCode := .seq c8_41 c8_67
theorem c8_68_e (Q : Go.Exit → Env → Heap → Prop) (E : Env) (h : Heap) : SW Try.prog c8_68 Q E h = SW Try.prog (.seq c8_41 c8_67) Q E h := rfl
def c8_69 : SCode := .seq c8_36 c8_68
theorem c8_69_e (Q : Go.Exit → Env → Heap → Prop) (E : Env) (h : Heap) : SW Try.prog c8_69 Q E h = SW Try.prog (.seq c8_36 c8_68) Q E h := rfl
def c8_70 : SCode := .seq (.region c8_31 [0, 1, 2, 8, 9, 11, 14, 15]) c8_69
theorem c8_70_e (Q : Go.Exit → Env → Heap → Prop) (E : Env) (h : Heap) : SW Try.prog c8_70 Q E h = SW Try.prog (.seq (.region c8_31 [0, 1, 2, 8, 9, 11, 14, 15]) c8_69) Q E h := rfl
def c8_71 : SCode := .seq (.region c8_30 [0, 1, 2, 8, 9, 11, 14, 15]) c8_70
theorem c8_71_e (Q : Go.Exit → Env → Heap → Prop) (E : Env) (h : Heap) : SW Try.prog c8_71 Q E h = SW Try.prog (.seq (.region c8_30 [0, 1, 2, 8, 9, 11, 14, 15]) c8_70) Q E h := rfl
def c8_72 : SCode := .seq (.region c8_29 [0, 1, 2, 8, 9, 11, 14]) c8_71
theorem c8_72_e (Q : Go.Exit → Env → Heap → Prop) (E : Env) (h : Heap) : SW Try.prog c8_72 Q E h = SW Try.prog (.seq (.region c8_29 [0, 1, 2, 8, 9, 11, 14]) c8_71) Q E h := rfl
def c8_73 : SCode := .seq (.region c8_28 [0, 1, 2, 8, 9, 11, 14]) c8_72
theorem c8_73_e (Q : Go.Exit → Env → Heap → Prop) (E : Env) (h : Heap) : SW Try.prog c8_73 Q E h = SW Try.prog (.seq (.region c8_28 [0, 1, 2, 8, 9, 11, 14]) c8_72) Q E h := rfl
def c8_74 : SCode := .seq c8_27 c8_73
theorem c8_74_e (Q : Go.Exit → Env → Heap → Prop) (E : Env) (h : Heap) : SW Try.prog c8_74 Q E h = SW Try.prog (.seq c8_27 c8_73) Q E h := rfl
def c8_75 : SCode := .seq (.region c8_22 [0, 1, 2, 8, 9, 11, 12, 13]) c8_74
theorem c8_75_e (Q : Go.Exit → Env → Heap → Prop) (E : Env) (h : Heap) : SW Try.prog c8_75 Q E h = SW Try.prog (.seq (.region c8_22 [0, 1, 2, 8, 9, 11, 12, 13]) c8_74) Q E h := rfl
def c8_76 : SCode := .seq (.region c8_21 [0, 1, 2, 8, 9, 10, 11, 12, 13]) c8_75
theorem c8_76_e (Q : Go.Exit → Env → Heap → Prop) (E : Env) (h : Heap) : SW Try.prog c8_76 Q E h = SW Try.prog (.seq (.region c8_21 [0, 1, 2, 8, 9, 10, 11, 12, 13]) c8_75) Q E h := rfl
def c8_77 : SCode := .seq c8_20 c8_76
theorem c8_77_e (Q : Go.Exit → Env → Heap → Prop) (E : Env) (h : Heap) : SW Try.prog c8_77 Q E h = SW Try.prog (.seq c8_20 c8_76) Q E h := rfl
def c8_78 : SCode := .seq c8_15 c8_77
theorem c8_78_e (Q : Go.Exit → Env → Heap → Prop) (E : Env) (h : Heap) : SW Try.prog c8_78 Q E h = SW Try.prog (.seq c8_15 c8_77) Q E h := rfl
def c8_79 : SCode := .seq (.region c8_10 [0, 1, 2, 8, 9, 10, 11, 12]) c8_78
theorem c8_79_e (Q : Go.Exit → Env → Heap → Prop) (E : Env) (h : Heap) : SW Try.prog c8_79 Q E h = SW Try.prog (.seq (.region c8_10 [0, 1, 2, 8, 9, 10, 11, 12]) c8_78) Q E h := rfl
def c8_80 : SCode := .seq (.region c8_9 [0, 1, 2, 8, 9, 10]) c8_79
theorem c8_80_e (Q : Go.Exit → Env → Heap → Prop) (E : Env) (h : Heap) : SW Try.prog c8_80 Q E h = SW Try.prog (.seq (.region c8_9 [0, 1, 2, 8, 9, 10]) c8_79) Q E h := rfl
def c8_81 : SCode := .seq (.region c8_8 [0, 1, 2, 8, 9]) c8_80
theorem c8_81_e (Q : Go.Exit → Env → Heap → Prop) (E : Env) (h : Heap) : SW Try.prog c8_81 Q E h = SW Try.prog (.seq (.region c8_8 [0, 1, 2, 8, 9]) c8_80) Q E h := rfl
def c8_82 : SCode := .seq c8_7 c8_81
theorem c8_82_e (Q : Go.Exit → Env → Heap → Prop) (E : Env) (h : Heap) : SW Try.prog c8_82 Q E h = SW Try.prog (.seq c8_7 c8_81) Q E h := rfl
def c8_83 : SCode := .seq (.region c8_2 [0, 1, 2, 7]) c8_82
theorem c8_83_e (Q : Go.Exit → Env → Heap → Prop) (E : Env) (h : Heap) : SW Try.prog c8_83 Q E h = SW Try.prog (.seq (.region c8_2 [0, 1, 2, 7]) c8_82) Q E h := rfl
def c8_84 : SCode := .seq (.region c8_1 [0, 1, 2, 7]) c8_83
theorem c8_84_e (Q : Go.Exit → Env → Heap → Prop) (E : Env) (h : Heap) : SW Try.prog c8_84 Q E h = SW Try.prog (.seq (.region c8_1 [0, 1, 2, 7]) c8_83) Q E h := rfl
def c8_85 : SCode := .seq (.region c8_0 [0, 1, 2]) c8_84
theorem c8_85_e (Q : Go.Exit → Env → Heap → Prop) (E : Env) (h : Heap) : SW Try.prog c8_85 Q E h = SW Try.prog (.seq (.region c8_0 [0, 1, 2]) c8_84) Q E h := rfl
def c8 : SCode := c8_85
theorem c8_e (Q : Go.Exit → Env → Heap → Prop) (E : Env) (h : Heap) : SW Try.prog c8 Q E h = SW Try.prog c8_85 Q E h := rfl
theorem w8 : type_of% (And.intro @c8_0_e (And.intro @c8_1_e (And.intro @c8_2_e (And.intro @c8_3_e (And.intro @c8_4_e (And.intro @c8_5_e (And.intro @c8_6_e (And.intro @c8_7_e (And.intro @c8_8_e (And.intro @c8_9_e (And.intro @c8_10_e (And.intro @c8_11_e (And.intro @c8_12_e (And.intro @c8_13_e (And.intro @c8_14_e (And.intro @c8_15_e (And.intro @c8_16_e (And.intro @c8_17_e (And.intro @c8_18_e (And.intro @c8_19_e (And.intro @c8_20_e (And.intro @c8_21_e (And.intro @c8_22_e (And.intro @c8_23_e (And.intro @c8_24_e (And.intro @c8_25_e (And.intro @c8_26_e (And.intro @c8_27_e (And.intro @c8_28_e (And.intro @c8_29_e (And.intro @c8_30_e (And.intro @c8_31_e (And.intro @c8_32_e (And.intro @c8_33_e (And.intro @c8_34_e (And.intro @c8_35_e (And.intro @c8_36_e (And.intro @c8_37_e (And.intro @c8_38_e (And.intro @c8_39_e (And.intro @c8_40_e (And.intro @c8_41_e (And.intro @c8_42_e (And.intro @c8_43_e (And.intro @c8_44_e (And.intro @c8_45_e (And.intro @c8_46_e (And.intro @c8_47_e (And.intro @c8_48_e (And.intro @c8_49_e (And.intro @c8_50_e (And.intro @c8_51_e (And.intro @c8_52_e (And.intro @c8_53_e (And.intro @c8_54_e (And.intro @c8_55_e (And.intro @c8_56_e (And.intro @c8_57_e (And.intro @c8_58_e (And.intro @c8_59_e (And.intro @c8_60_e (And.intro @c8_61_e (And.intro @c8_62_e (And.intro @c8_63_e (And.intro @c8_64_e (And.intro @c8_65_e (And.intro @c8_66_e (And.intro @c8_67_e (And.intro @c8_68_e (And.intro @c8_69_e (And.intro @c8_70_e (And.intro @c8_71_e (And.intro @c8_72_e (And.intro @c8_73_e (And.intro @c8_74_e (And.intro @c8_75_e (And.intro @c8_76_e (And.intro @c8_77_e (And.intro @c8_78_e (And.intro @c8_79_e (And.intro @c8_80_e (And.intro @c8_81_e (And.intro @c8_82_e (And.intro @c8_83_e (And.intro @c8_84_e (And.intro @c8_85_e @c8_e)))))))))))))))))))))))))))))))))))))))))))))))))))))))))))))))))))))))))))))))))))))) := (And.intro @c8_0_e (And.intro @c8_1_e (And.intro @c8_2_e (And.intro @c8_3_e (And.intro @c8_4_e (And.intro @c8_5_e (And.intro @c8_6_e (And.intro @c8_7_e (And.intro @c8_8_e (And.intro @c8_9_e (And.intro @c8_10_e (And.intro @c8_11_e (And.intro @c8_12_e (And.intro @c8_13_e (And.intro @c8_14_e (And.intro @c8_15_e (And.intro @c8_16_e (And.intro @c8_17_e (And.intro @c8_18_e (And.intro @c8_19_e (And.intro @c8_20_e (And.intro @c8_21_e (And.intro @c8_22_e (And.intro @c8_23_e (And.intro @c8_24_e (And.intro @c8_25_e (And.intro @c8_26_e (And.intro @c8_27_e (And.intro @c8_28_e (And.intro @c8_29_e (And.intro @c8_30_e (And.intro @c8_31_e (And.intro @c8_32_e (And.intro @c8_33_e (And.intro @c8_34_e (And.intro @c8_35_e (And.intro @c8_36_e (And.intro @c8_37_e (And.intro @c8_38_e (And.intro @c8_39_e (And.intro @c8_40_e (And.intro @c8_41_e (And.intro @c8_42_e (And.intro @c8_43_e (And.intro @c8_44_e (And.intro @c8_45_e (And.intro @c8_46_e (And.intro @c8_47_e (And.intro @c8_48_e (And.intro @c8_49_e (And.intro @c8_50_e (And.intro @c8_51_e (And.intro @c8_52_e (And.intro @c8_53_e (And.intro @c8_54_e (And.intro @c8_55_e (And.intro @c8_56_e (And.intro @c8_57_e (And.intro @c8_58_e (And.intro @c8_59_e (And.intro @c8_60_e (And.intro @c8_61_e (And.intro @c8_62_e (And.intro @c8_63_e (And.intro @c8_64_e (And.intro @c8_65_e (And.intro @c8_66_e (And.intro @c8_67_e (And.intro @c8_68_e (And.intro @c8_69_e (And.intro @c8_70_e (And.intro @c8_71_e (And.intro @c8_72_e (And.intro @c8_73_e (And.intro @c8_74_e (And.intro @c8_75_e (And.intro @c8_76_e (And.intro @c8_77_e (And.intro @c8_78_e (And.intro @c8_79_e (And.intro @c8_80_e (And.intro @c8_81_e (And.intro @c8_82_e (And.intro @c8_83_e (And.intro @c8_84_e (And.intro @c8_85_e @c8_e))))))))))))))))))))))))))))))))))))))))))))))))))))))))))))))))))))))))))))))))))))))
def v8 : List RV := [.t 6]
theorem s8 : slimF Try.prog Try.f8 = some (c8.bare, v8) := by kernel_rfl

theorem editF_length (l : List Clip) : (editF l).1.length ≤ 300 := by
  unfold editF; split
  · rename_i h; exact h.2.1
  · simp
theorem moveF_length (l : List Clip) (a b n : Int) : (moveF l a b n).1.length ≤ 300 := by
  unfold moveF; split
  · exact editF_length _
  · simp
theorem slideF_length (l : List Clip) (i n : Int) : (slideF l i n).1.length ≤ 300 := by
  unfold slideF; split
  · exact moveF_length _ _ _ _
  · simp
theorem FnExactRoll_ok (h : Heap) (v : Value) (l : List Clip) (i n : Int) (s : SlT h encClip 3 v l) (hl : l.length ≤ 9223372036854775807) :
    ACall Try.prog 7 [v, .int .i64 i, .int .i64 n] h fun r h' => r = .bool true := by
  refine ACall.of Try.func7 s7 (of_decide_eq_true rfl) ?_
  simp (maxSteps := 4000000) (disch := omega) only [ah, Nat.reduceEqDiff, reduceCtorEq, Nat.reduceAdd, Nat.reduceLeDiff, Nat.reduceMul, Nat.reduceLT, if_true, if_false, true_and, and_true, and_self, stepI_not, alloc_more, more_more, size_more, ld_more, ld_more0, ldn_more, ldn_more0, st_more, st_more0, cells_int, cells_bool, cells_agg, cells_slice, cells_func, cells_string, cells_pointer, oneB_nil, oneB_int, oneB_bool, oneB_string, oneB_slice, oneB_pointer, oneB_func, toList_mk, size_mk, splice_def, cutL, putL, List.getElem?_cons_zero, List.getElem?_cons_succ, List.cons_append, List.nil_append, List.append_nil, List.take_succ_cons, List.take_zero, List.drop_succ_cons, List.drop_zero, List.length_cons, List.length_nil, List.set_cons_zero, List.set_cons_succ, Option.bind_some, Nat.add_zero, Nat.add_assoc, Nat.zero_add, Int.toNat_natCast, fillV, boxO, bslO, buildO, QOp.loads, rechk_none, Bool.false_eq_true, beq_t, beq_f, stepG_not, Bool.not_true, Bool.not_false, decide_true, decide_false, not_false_eq_true, not_true_eq_false, Bool.not_not, ext_0, ext_1, ext_2, w7, v7]
  refine stepC.of (szClipS_ok h v l 1048576 s (by omega) (by omega) hl) ?_
  rintro _ Hx ⟨hx, rfl⟩; rw [hx]; clear hx Hx
  simp (maxSteps := 4000000) (disch := omega) only [ah, Nat.reduceEqDiff, reduceCtorEq, Nat.reduceAdd, Nat.reduceLeDiff, Nat.reduceMul, Nat.reduceLT, if_true, if_false, true_and, and_true, and_self, stepI_not, alloc_more, more_more, size_more, ld_more, ld_more0, ldn_more, ldn_more0, st_more, st_more0, cells_int, cells_bool, cells_agg, cells_slice, cells_func, cells_string, cells_pointer, oneB_nil, oneB_int, oneB_bool, oneB_string, oneB_slice, oneB_pointer, oneB_func, toList_mk, size_mk, splice_def, cutL, putL, List.getElem?_cons_zero, List.getElem?_cons_succ, List.cons_append, List.nil_append, List.append_nil, List.take_succ_cons, List.take_zero, List.drop_succ_cons, List.drop_zero, List.length_cons, List.length_nil, List.set_cons_zero, List.set_cons_succ, Option.bind_some, Nat.add_zero, Nat.add_assoc, Nat.zero_add, Int.toNat_natCast, fillV, boxO, bslO, buildO, QOp.loads, rechk_none, Bool.false_eq_true, beq_t, beq_f, stepG_not, Bool.not_true, Bool.not_false, decide_true, decide_false, not_false_eq_true, not_true_eq_false, Bool.not_not, ext_0, ext_1, ext_2, w7, v7]
  by_cases hsz : (1048576 : Int) - l.length < 0
  · simp (maxSteps := 4000000) (disch := omega) only [ah, Nat.reduceEqDiff, reduceCtorEq, Nat.reduceAdd, Nat.reduceLeDiff, Nat.reduceMul, Nat.reduceLT, if_true, if_false, true_and, and_true, and_self, stepI_not, alloc_more, more_more, size_more, ld_more, ld_more0, ldn_more, ldn_more0, st_more, st_more0, cells_int, cells_bool, cells_agg, cells_slice, cells_func, cells_string, cells_pointer, oneB_nil, oneB_int, oneB_bool, oneB_string, oneB_slice, oneB_pointer, oneB_func, toList_mk, size_mk, splice_def, cutL, putL, List.getElem?_cons_zero, List.getElem?_cons_succ, List.cons_append, List.nil_append, List.append_nil, List.take_succ_cons, List.take_zero, List.drop_succ_cons, List.drop_zero, List.length_cons, List.length_nil, List.set_cons_zero, List.set_cons_succ, Option.bind_some, Nat.add_zero, Nat.add_assoc, Nat.zero_add, Int.toNat_natCast, fillV, boxO, bslO, buildO, QOp.loads, rechk_none, Bool.false_eq_true, beq_t, beq_f, stepG_not, Bool.not_true, Bool.not_false, decide_true, decide_false, not_false_eq_true, not_true_eq_false, Bool.not_not, ext_0, ext_1, ext_2, w7, v7, hsz, if_pos, stepI_dec]
  have hz : decide ((if (1048576 : Int) - l.length < 0 then -1 else 1048576 - (l.length : Int)) < 0) = false := by rw [if_neg hsz]; exact decide_eq_false hsz
  simp (maxSteps := 4000000) (disch := omega) only [ah, Nat.reduceEqDiff, reduceCtorEq, Nat.reduceAdd, Nat.reduceLeDiff, Nat.reduceMul, Nat.reduceLT, if_true, if_false, true_and, and_true, and_self, stepI_not, alloc_more, more_more, size_more, ld_more, ld_more0, ldn_more, ldn_more0, st_more, st_more0, cells_int, cells_bool, cells_agg, cells_slice, cells_func, cells_string, cells_pointer, oneB_nil, oneB_int, oneB_bool, oneB_string, oneB_slice, oneB_pointer, oneB_func, toList_mk, size_mk, splice_def, cutL, putL, List.getElem?_cons_zero, List.getElem?_cons_succ, List.cons_append, List.nil_append, List.append_nil, List.take_succ_cons, List.take_zero, List.drop_succ_cons, List.drop_zero, List.length_cons, List.length_nil, List.set_cons_zero, List.set_cons_succ, Option.bind_some, Nat.add_zero, Nat.add_assoc, Nat.zero_add, Int.toNat_natCast, fillV, boxO, bslO, buildO, QOp.loads, rechk_none, Bool.false_eq_true, beq_t, beq_f, stepG_not, Bool.not_true, Bool.not_false, decide_true, decide_false, not_false_eq_true, not_true_eq_false, Bool.not_not, ext_0, ext_1, ext_2, w7, v7, hz]
  clear hz
  have hll : l.length ≤ 1048576 := by omega
  have hF := moveF_length l i (i + 1) n
  refine stepC.of (toClipS_ok _ _ _ s hll) ?_
  intro t1 H1 F1
  simp (maxSteps := 4000000) (disch := omega) only [ah, Nat.reduceEqDiff, reduceCtorEq, Nat.reduceAdd, Nat.reduceLeDiff, Nat.reduceMul, Nat.reduceLT, if_true, if_false, true_and, and_true, and_self, stepI_not, alloc_more, more_more, size_more, ld_more, ld_more0, ldn_more, ldn_more0, st_more, st_more0, cells_int, cells_bool, cells_agg, cells_slice, cells_func, cells_string, cells_pointer, oneB_nil, oneB_int, oneB_bool, oneB_string, oneB_slice, oneB_pointer, oneB_func, toList_mk, size_mk, splice_def, cutL, putL, List.getElem?_cons_zero, List.getElem?_cons_succ, List.cons_append, List.nil_append, List.append_nil, List.take_succ_cons, List.take_zero, List.drop_succ_cons, List.drop_zero, List.length_cons, List.length_nil, List.set_cons_zero, List.set_cons_succ, Option.bind_some, Nat.add_zero, Nat.add_assoc, Nat.zero_add, Int.toNat_natCast, fillV, boxO, bslO, buildO, QOp.loads, rechk_none, Bool.false_eq_true, beq_t, beq_f, stepG_not, Bool.not_true, Bool.not_false, decide_true, decide_false, not_false_eq_true, not_true_eq_false, Bool.not_not, ext_0, ext_1, ext_2, w7, v7]
  refine stepC.of (specRoll_ok _ _ _ _ _ F1.slt (by omega)) ?_
  rintro _ H2 ⟨w0, rfl, Fw⟩
  have E2 : Ext h H2 := F1.1.trans Fw.1
  have Mw := Fw.mine
  simp (maxSteps := 4000000) (disch := omega) only [ah, Nat.reduceEqDiff, reduceCtorEq, Nat.reduceAdd, Nat.reduceLeDiff, Nat.reduceMul, Nat.reduceLT, if_true, if_false, true_and, and_true, and_self, stepI_not, alloc_more, more_more, size_more, ld_more, ld_more0, ldn_more, ldn_more0, st_more, st_more0, cells_int, cells_bool, cells_agg, cells_slice, cells_func, cells_string, cells_pointer, oneB_nil, oneB_int, oneB_bool, oneB_string, oneB_slice, oneB_pointer, oneB_func, toList_mk, size_mk, splice_def, cutL, putL, List.getElem?_cons_zero, List.getElem?_cons_succ, List.cons_append, List.nil_append, List.append_nil, List.take_succ_cons, List.take_zero, List.drop_succ_cons, List.drop_zero, List.length_cons, List.length_nil, List.set_cons_zero, List.set_cons_succ, Option.bind_some, Nat.add_zero, Nat.add_assoc, Nat.zero_add, Int.toNat_natCast, fillV, boxO, bslO, buildO, QOp.loads, rechk_none, Bool.false_eq_true, beq_t, beq_f, stepG_not, Bool.not_true, Bool.not_false, decide_true, decide_false, not_false_eq_true, not_true_eq_false, Bool.not_not, ext_0, ext_1, ext_2, w7, v7]
  refine stepC.of (toClipS_ok _ _ _ (s.ext E2) hll) ?_
  intro x0 H3 Fx
  have Mx := Fx.mine
  have E3 := E2.trans Fx.1
  have Mw := Mw.ext Fx.1
  simp (maxSteps := 4000000) (disch := omega) only [ah, Nat.reduceEqDiff, reduceCtorEq, Nat.reduceAdd, Nat.reduceLeDiff, Nat.reduceMul, Nat.reduceLT, if_true, if_false, true_and, and_true, and_self, stepI_not, alloc_more, more_more, size_more, ld_more, ld_more0, ldn_more, ldn_more0, st_more, st_more0, cells_int, cells_bool, cells_agg, cells_slice, cells_func, cells_string, cells_pointer, oneB_nil, oneB_int, oneB_bool, oneB_string, oneB_slice, oneB_pointer, oneB_func, toList_mk, size_mk, splice_def, cutL, putL, List.getElem?_cons_zero, List.getElem?_cons_succ, List.cons_append, List.nil_append, List.append_nil, List.take_succ_cons, List.take_zero, List.drop_succ_cons, List.drop_zero, List.length_cons, List.length_nil, List.set_cons_zero, List.set_cons_succ, Option.bind_some, Nat.add_zero, Nat.add_assoc, Nat.zero_add, Int.toNat_natCast, fillV, boxO, bslO, buildO, QOp.loads, rechk_none, Bool.false_eq_true, beq_t, beq_f, stepG_not, Bool.not_true, Bool.not_false, decide_true, decide_false, not_false_eq_true, not_true_eq_false, Bool.not_not, ext_0, ext_1, ext_2, w7, v7]
  refine stepC.of (Roll_ok _ _ _ _ _ Fx.slt (by omega)) ?_
  rintro _ H4 ⟨g0, rfl, Fg⟩
  have Mg := Fg.mine
  have E4 := E3.trans Fg.1
  have Mw := Mw.ext Fg.1
  have Mx := Mx.ext Fg.1
  have sz1 := F1.1.1; have sz2 := Fw.1.1; have sz3 := Fx.1.1; have sz4 := Fg.1.1
  obtain ⟨rl, rb, hR⟩ : ∃ rl rb, moveF l i (i + 1) n = (rl, rb) := ⟨_, _, rfl⟩
  rw [hR] at Mw Mg hF ⊢
  simp only at Mw Mg hF ⊢
  simp (maxSteps := 4000000) (disch := omega) only [ah, Nat.reduceEqDiff, reduceCtorEq, Nat.reduceAdd, Nat.reduceLeDiff, Nat.reduceMul, Nat.reduceLT, if_true, if_false, true_and, and_true, and_self, stepI_not, alloc_more, more_more, size_more, ld_more, ld_more0, ldn_more, ldn_more0, st_more, st_more0, cells_int, cells_bool, cells_agg, cells_slice, cells_func, cells_string, cells_pointer, oneB_nil, oneB_int, oneB_bool, oneB_string, oneB_slice, oneB_pointer, oneB_func, toList_mk, size_mk, splice_def, cutL, putL, List.getElem?_cons_zero, List.getElem?_cons_succ, List.cons_append, List.nil_append, List.append_nil, List.take_succ_cons, List.take_zero, List.drop_succ_cons, List.drop_zero, List.length_cons, List.length_nil, List.set_cons_zero, List.set_cons_succ, Option.bind_some, Nat.add_zero, Nat.add_assoc, Nat.zero_add, Int.toNat_natCast, fillV, boxO, bslO, buildO, QOp.loads, rechk_none, Bool.false_eq_true, beq_t, beq_f, stepG_not, Bool.not_true, Bool.not_false, decide_true, decide_false, not_false_eq_true, not_true_eq_false, Bool.not_not, ext_0, ext_1, ext_2, w7, v7]
  refine stepC.of (eqClipS_ok _ _ _ _ _ Mg.slt Mw.slt (by omega) (by omega)) ?_
  rintro _ H5 ⟨e5, rfl⟩
  have Mg := Mg.ext e5; have Mw := Mw.ext e5; have Mx := Mx.ext e5; have E5 := E4.trans e5
  simp (maxSteps := 4000000) (disch := omega) only [ah, Nat.reduceEqDiff, reduceCtorEq, Nat.reduceAdd, Nat.reduceLeDiff, Nat.reduceMul, Nat.reduceLT, if_true, if_false, true_and, and_true, and_self, stepI_not, alloc_more, more_more, size_more, ld_more, ld_more0, ldn_more, ldn_more0, st_more, st_more0, cells_int, cells_bool, cells_agg, cells_slice, cells_func, cells_string, cells_pointer, oneB_nil, oneB_int, oneB_bool, oneB_string, oneB_slice, oneB_pointer, oneB_func, toList_mk, size_mk, splice_def, cutL, putL, List.getElem?_cons_zero, List.getElem?_cons_succ, List.cons_append, List.nil_append, List.append_nil, List.take_succ_cons, List.take_zero, List.drop_succ_cons, List.drop_zero, List.length_cons, List.length_nil, List.set_cons_zero, List.set_cons_succ, Option.bind_some, Nat.add_zero, Nat.add_assoc, Nat.zero_add, Int.toNat_natCast, fillV, boxO, bslO, buildO, QOp.loads, rechk_none, Bool.false_eq_true, beq_t, beq_f, stepG_not, Bool.not_true, Bool.not_false, decide_true, decide_false, not_false_eq_true, not_true_eq_false, Bool.not_not, ext_0, ext_1, ext_2, w7, v7, eqbV_bool', beq_self_eq_true]
  refine stepC.of (toClipS_ok _ _ _ (s.ext E5) hll) ?_
  intro t6 H6 F6
  have Mg := Mg.ext F6.1; have Mw := Mw.ext F6.1; have Mx := Mx.ext F6.1; have E6 := E5.trans F6.1
  simp (maxSteps := 4000000) (disch := omega) only [ah, Nat.reduceEqDiff, reduceCtorEq, Nat.reduceAdd, Nat.reduceLeDiff, Nat.reduceMul, Nat.reduceLT, if_true, if_false, true_and, and_true, and_self, stepI_not, alloc_more, more_more, size_more, ld_more, ld_more0, ldn_more, ldn_more0, st_more, st_more0, cells_int, cells_bool, cells_agg, cells_slice, cells_func, cells_string, cells_pointer, oneB_nil, oneB_int, oneB_bool, oneB_string, oneB_slice, oneB_pointer, oneB_func, toList_mk, size_mk, splice_def, cutL, putL, List.getElem?_cons_zero, List.getElem?_cons_succ, List.cons_append, List.nil_append, List.append_nil, List.take_succ_cons, List.take_zero, List.drop_succ_cons, List.drop_zero, List.length_cons, List.length_nil, List.set_cons_zero, List.set_cons_succ, Option.bind_some, Nat.add_zero, Nat.add_assoc, Nat.zero_add, Int.toNat_natCast, fillV, boxO, bslO, buildO, QOp.loads, rechk_none, Bool.false_eq_true, beq_t, beq_f, stepG_not, Bool.not_true, Bool.not_false, decide_true, decide_false, not_false_eq_true, not_true_eq_false, Bool.not_not, ext_0, ext_1, ext_2, w7, v7]
  refine stepC.of (eqClipS_ok _ _ _ _ _ Mx.slt F6.slt (by omega) (by omega)) ?_
  rintro _ H7 ⟨e7, rfl⟩
  have Mg := Mg.ext e7; have Mw := Mw.ext e7; have Mx := Mx.ext e7; have E7 := E6.trans e7
  simp (maxSteps := 4000000) (disch := omega) only [ah, Nat.reduceEqDiff, reduceCtorEq, Nat.reduceAdd, Nat.reduceLeDiff, Nat.reduceMul, Nat.reduceLT, if_true, if_false, true_and, and_true, and_self, stepI_not, alloc_more, more_more, size_more, ld_more, ld_more0, ldn_more, ldn_more0, st_more, st_more0, cells_int, cells_bool, cells_agg, cells_slice, cells_func, cells_string, cells_pointer, oneB_nil, oneB_int, oneB_bool, oneB_string, oneB_slice, oneB_pointer, oneB_func, toList_mk, size_mk, splice_def, cutL, putL, List.getElem?_cons_zero, List.getElem?_cons_succ, List.cons_append, List.nil_append, List.append_nil, List.take_succ_cons, List.take_zero, List.drop_succ_cons, List.drop_zero, List.length_cons, List.length_nil, List.set_cons_zero, List.set_cons_succ, Option.bind_some, Nat.add_zero, Nat.add_assoc, Nat.zero_add, Int.toNat_natCast, fillV, boxO, bslO, buildO, QOp.loads, rechk_none, Bool.false_eq_true, beq_t, beq_f, stepG_not, Bool.not_true, Bool.not_false, decide_true, decide_false, not_false_eq_true, not_true_eq_false, Bool.not_not, ext_0, ext_1, ext_2, w7, v7]
  refine stepC.of (markClipS_mine 1 Mx (by omega) (by omega)) ?_
  rintro _ H8 ⟨c8, Mx', rfl⟩
  have Mg := Mg.chg c8 (by omega); have Mw := Mw.chg c8 (by omega); have E8 := c8.ext E7 (by have := E2.1; omega)
  have hk : decide ((1 : Int) + 3 * l.length < 0) = false := decide_eq_false (by omega)
  simp (maxSteps := 4000000) (disch := omega) only [ah, Nat.reduceEqDiff, reduceCtorEq, Nat.reduceAdd, Nat.reduceLeDiff, Nat.reduceMul, Nat.reduceLT, if_true, if_false, true_and, and_true, and_self, stepI_not, alloc_more, more_more, size_more, ld_more, ld_more0, ldn_more, ldn_more0, st_more, st_more0, cells_int, cells_bool, cells_agg, cells_slice, cells_func, cells_string, cells_pointer, oneB_nil, oneB_int, oneB_bool, oneB_string, oneB_slice, oneB_pointer, oneB_func, toList_mk, size_mk, splice_def, cutL, putL, List.getElem?_cons_zero, List.getElem?_cons_succ, List.cons_append, List.nil_append, List.append_nil, List.take_succ_cons, List.take_zero, List.drop_succ_cons, List.drop_zero, List.length_cons, List.length_nil, List.set_cons_zero, List.set_cons_succ, Option.bind_some, Nat.add_zero, Nat.add_assoc, Nat.zero_add, Int.toNat_natCast, fillV, boxO, bslO, buildO, QOp.loads, rechk_none, Bool.false_eq_true, beq_t, beq_f, stepG_not, Bool.not_true, Bool.not_false, decide_true, decide_false, not_false_eq_true, not_true_eq_false, Bool.not_not, ext_0, ext_1, ext_2, w7, v7, hk]
  refine stepC.of (eqClipS_ok _ _ _ _ _ Mg.slt Mw.slt (by omega) (by omega)) ?_
  rintro _ H9 ⟨e9, rfl⟩
  have Mg := Mg.ext e9; have Mw := Mw.ext e9; have E9 := E8.trans e9
  simp (maxSteps := 4000000) (disch := omega) only [ah, Nat.reduceEqDiff, reduceCtorEq, Nat.reduceAdd, Nat.reduceLeDiff, Nat.reduceMul, Nat.reduceLT, if_true, if_false, true_and, and_true, and_self, stepI_not, alloc_more, more_more, size_more, ld_more, ld_more0, ldn_more, ldn_more0, st_more, st_more0, cells_int, cells_bool, cells_agg, cells_slice, cells_func, cells_string, cells_pointer, oneB_nil, oneB_int, oneB_bool, oneB_string, oneB_slice, oneB_pointer, oneB_func, toList_mk, size_mk, splice_def, cutL, putL, List.getElem?_cons_zero, List.getElem?_cons_succ, List.cons_append, List.nil_append, List.append_nil, List.take_succ_cons, List.take_zero, List.drop_succ_cons, List.drop_zero, List.length_cons, List.length_nil, List.set_cons_zero, List.set_cons_succ, Option.bind_some, Nat.add_zero, Nat.add_assoc, Nat.zero_add, Int.toNat_natCast, fillV, boxO, bslO, buildO, QOp.loads, rechk_none, Bool.false_eq_true, beq_t, beq_f, stepG_not, Bool.not_true, Bool.not_false, decide_true, decide_false, not_false_eq_true, not_true_eq_false, Bool.not_not, ext_0, ext_1, ext_2, w7, v7, eqbV_bool', beq_self_eq_true]
  refine stepC.of (markClipS_mine 1 Mg (by omega) (by omega)) ?_
  rintro _ H10 ⟨c10, Mg, rfl⟩
  have Mw := Mw.chg c10 (by omega); have E10 := c10.ext E9 (by have := E3.1; omega)
  have hm : decide ((1 : Int) + 3 * rl.length < 0) = false := decide_eq_false (by omega)
  simp (maxSteps := 4000000) (disch := omega) only [ah, Nat.reduceEqDiff, reduceCtorEq, Nat.reduceAdd, Nat.reduceLeDiff, Nat.reduceMul, Nat.reduceLT, if_true, if_false, true_and, and_true, and_self, stepI_not, alloc_more, more_more, size_more, ld_more, ld_more0, ldn_more, ldn_more0, st_more, st_more0, cells_int, cells_bool, cells_agg, cells_slice, cells_func, cells_string, cells_pointer, oneB_nil, oneB_int, oneB_bool, oneB_string, oneB_slice, oneB_pointer, oneB_func, toList_mk, size_mk, splice_def, cutL, putL, List.getElem?_cons_zero, List.getElem?_cons_succ, List.cons_append, List.nil_append, List.append_nil, List.take_succ_cons, List.take_zero, List.drop_succ_cons, List.drop_zero, List.length_cons, List.length_nil, List.set_cons_zero, List.set_cons_succ, Option.bind_some, Nat.add_zero, Nat.add_assoc, Nat.zero_add, Int.toNat_natCast, fillV, boxO, bslO, buildO, QOp.loads, rechk_none, Bool.false_eq_true, beq_t, beq_f, stepG_not, Bool.not_true, Bool.not_false, decide_true, decide_false, not_false_eq_true, not_true_eq_false, Bool.not_not, ext_0, ext_1, ext_2, w7, v7]
  refine stepC.of (heldClipS_ok _ _ _ 1 Mg.slt (by omega) (by omega)) ?_
  rintro _ Hx ⟨hx, rfl⟩; rw [hx]; clear hx Hx
  simp (maxSteps := 4000000) (disch := omega) only [ah, Nat.reduceEqDiff, reduceCtorEq, Nat.reduceAdd, Nat.reduceLeDiff, Nat.reduceMul, Nat.reduceLT, if_true, if_false, true_and, and_true, and_self, stepI_not, alloc_more, more_more, size_more, ld_more, ld_more0, ldn_more, ldn_more0, st_more, st_more0, cells_int, cells_bool, cells_agg, cells_slice, cells_func, cells_string, cells_pointer, oneB_nil, oneB_int, oneB_bool, oneB_string, oneB_slice, oneB_pointer, oneB_func, toList_mk, size_mk, splice_def, cutL, putL, List.getElem?_cons_zero, List.getElem?_cons_succ, List.cons_append, List.nil_append, List.append_nil, List.take_succ_cons, List.take_zero, List.drop_succ_cons, List.drop_zero, List.length_cons, List.length_nil, List.set_cons_zero, List.set_cons_succ, Option.bind_some, Nat.add_zero, Nat.add_assoc, Nat.zero_add, Int.toNat_natCast, fillV, boxO, bslO, buildO, QOp.loads, rechk_none, Bool.false_eq_true, beq_t, beq_f, stepG_not, Bool.not_true, Bool.not_false, decide_true, decide_false, not_false_eq_true, not_true_eq_false, Bool.not_not, ext_0, ext_1, ext_2, w7, v7, hm]
  refine stepC.of (toClipS_ok _ _ _ (s.ext E10) hll) ?_
  intro t11 H11 F11
  have Mg := Mg.ext F11.1; have Mw := Mw.ext F11.1
  simp (maxSteps := 4000000) (disch := omega) only [ah, Nat.reduceEqDiff, reduceCtorEq, Nat.reduceAdd, Nat.reduceLeDiff, Nat.reduceMul, Nat.reduceLT, if_true, if_false, true_and, and_true, and_self, stepI_not, alloc_more, more_more, size_more, ld_more, ld_more0, ldn_more, ldn_more0, st_more, st_more0, cells_int, cells_bool, cells_agg, cells_slice, cells_func, cells_string, cells_pointer, oneB_nil, oneB_int, oneB_bool, oneB_string, oneB_slice, oneB_pointer, oneB_func, toList_mk, size_mk, splice_def, cutL, putL, List.getElem?_cons_zero, List.getElem?_cons_succ, List.cons_append, List.nil_append, List.append_nil, List.take_succ_cons, List.take_zero, List.drop_succ_cons, List.drop_zero, List.length_cons, List.length_nil, List.set_cons_zero, List.set_cons_succ, Option.bind_some, Nat.add_zero, Nat.add_assoc, Nat.zero_add, Int.toNat_natCast, fillV, boxO, bslO, buildO, QOp.loads, rechk_none, Bool.false_eq_true, beq_t, beq_f, stepG_not, Bool.not_true, Bool.not_false, decide_true, decide_false, not_false_eq_true, not_true_eq_false, Bool.not_not, ext_0, ext_1, ext_2, w7, v7]
  refine stepC.of (Roll_ok _ _ _ _ _ F11.slt (by omega)) ?_
  rintro _ H12 ⟨h0, rfl, Fh⟩
  have Mg := Mg.ext Fh.1; have Mw := Mw.ext Fh.1
  rw [hR] at Fh ⊢
  simp only at Fh ⊢
  simp (maxSteps := 4000000) (disch := omega) only [ah, Nat.reduceEqDiff, reduceCtorEq, Nat.reduceAdd, Nat.reduceLeDiff, Nat.reduceMul, Nat.reduceLT, if_true, if_false, true_and, and_true, and_self, stepI_not, alloc_more, more_more, size_more, ld_more, ld_more0, ldn_more, ldn_more0, st_more, st_more0, cells_int, cells_bool, cells_agg, cells_slice, cells_func, cells_string, cells_pointer, oneB_nil, oneB_int, oneB_bool, oneB_string, oneB_slice, oneB_pointer, oneB_func, toList_mk, size_mk, splice_def, cutL, putL, List.getElem?_cons_zero, List.getElem?_cons_succ, List.cons_append, List.nil_append, List.append_nil, List.take_succ_cons, List.take_zero, List.drop_succ_cons, List.drop_zero, List.length_cons, List.length_nil, List.set_cons_zero, List.set_cons_succ, Option.bind_some, Nat.add_zero, Nat.add_assoc, Nat.zero_add, Int.toNat_natCast, fillV, boxO, bslO, buildO, QOp.loads, rechk_none, Bool.false_eq_true, beq_t, beq_f, stepG_not, Bool.not_true, Bool.not_false, decide_true, decide_false, not_false_eq_true, not_true_eq_false, Bool.not_not, ext_0, ext_1, ext_2, w7, v7]
  refine stepC.of (eqClipS_ok _ _ _ _ _ Fh.slt Mw.slt (by omega) (by omega)) ?_
  rintro _ H13 ⟨e13, rfl⟩
  have Mg := Mg.ext e13
  simp (maxSteps := 4000000) (disch := omega) only [ah, Nat.reduceEqDiff, reduceCtorEq, Nat.reduceAdd, Nat.reduceLeDiff, Nat.reduceMul, Nat.reduceLT, if_true, if_false, true_and, and_true, and_self, stepI_not, alloc_more, more_more, size_more, ld_more, ld_more0, ldn_more, ldn_more0, st_more, st_more0, cells_int, cells_bool, cells_agg, cells_slice, cells_func, cells_string, cells_pointer, oneB_nil, oneB_int, oneB_bool, oneB_string, oneB_slice, oneB_pointer, oneB_func, toList_mk, size_mk, splice_def, cutL, putL, List.getElem?_cons_zero, List.getElem?_cons_succ, List.cons_append, List.nil_append, List.append_nil, List.take_succ_cons, List.take_zero, List.drop_succ_cons, List.drop_zero, List.length_cons, List.length_nil, List.set_cons_zero, List.set_cons_succ, Option.bind_some, Nat.add_zero, Nat.add_assoc, Nat.zero_add, Int.toNat_natCast, fillV, boxO, bslO, buildO, QOp.loads, rechk_none, Bool.false_eq_true, beq_t, beq_f, stepG_not, Bool.not_true, Bool.not_false, decide_true, decide_false, not_false_eq_true, not_true_eq_false, Bool.not_not, ext_0, ext_1, ext_2, w7, v7, eqbV_bool', beq_self_eq_true]
  refine stepC.of (heldClipS_ok _ _ _ 1 Mg.slt (by omega) (by omega)) ?_
  rintro _ Hx ⟨hx, rfl⟩; rw [hx]; clear hx Hx
  simp (maxSteps := 4000000) (disch := omega) only [ah, Nat.reduceEqDiff, reduceCtorEq, Nat.reduceAdd, Nat.reduceLeDiff, Nat.reduceMul, Nat.reduceLT, if_true, if_false, true_and, and_true, and_self, stepI_not, alloc_more, more_more, size_more, ld_more, ld_more0, ldn_more, ldn_more0, st_more, st_more0, cells_int, cells_bool, cells_agg, cells_slice, cells_func, cells_string, cells_pointer, oneB_nil, oneB_int, oneB_bool, oneB_string, oneB_slice, oneB_pointer, oneB_func, toList_mk, size_mk, splice_def, cutL, putL, List.getElem?_cons_zero, List.getElem?_cons_succ, List.cons_append, List.nil_append, List.append_nil, List.take_succ_cons, List.take_zero, List.drop_succ_cons, List.drop_zero, List.length_cons, List.length_nil, List.set_cons_zero, List.set_cons_succ, Option.bind_some, Nat.add_zero, Nat.add_assoc, Nat.zero_add, Int.toNat_natCast, fillV, boxO, bslO, buildO, QOp.loads, rechk_none, Bool.false_eq_true, beq_t, beq_f, stepG_not, Bool.not_true, Bool.not_false, decide_true, decide_false, not_false_eq_true, not_true_eq_false, Bool.not_not, ext_0, ext_1, ext_2, w7, v7, hm]
theorem FnExactSlide_ok (h : Heap) (v : Value) (l : List Clip) (i n : Int) (s : SlT h encClip 3 v l) (hl : l.length ≤ 9223372036854775807) :
    ACall Try.prog 8 [v, .int .i64 i, .int .i64 n] h fun r h' => r = .bool true := by
  refine ACall.of Try.func8 s8 (of_decide_eq_true rfl) ?_
  simp (maxSteps := 4000000) (disch := omega) only [ah, Nat.reduceEqDiff, reduceCtorEq, Nat.reduceAdd, Nat.reduceLeDiff, Nat.reduceMul, Nat.reduceLT, if_true, if_false, true_and, and_true, and_self, stepI_not, alloc_more, more_more, size_more, ld_more, ld_more0, ldn_more, ldn_more0, st_more, st_more0, cells_int, cells_bool, cells_agg, cells_slice, cells_func, cells_string, cells_pointer, oneB_nil, oneB_int, oneB_bool, oneB_string, oneB_slice, oneB_pointer, oneB_func, toList_mk, size_mk, splice_def, cutL, putL, List.getElem?_cons_zero, List.getElem?_cons_succ, List.cons_append, List.nil_append, List.append_nil, List.take_succ_cons, List.take_zero, List.drop_succ_cons, List.drop_zero, List.length_cons, List.length_nil, List.set_cons_zero, List.set_cons_succ, Option.bind_some, Nat.add_zero, Nat.add_assoc, Nat.zero_add, Int.toNat_natCast, fillV, boxO, bslO, buildO, QOp.loads, rechk_none, Bool.false_eq_true, beq_t, beq_f, stepG_not, Bool.not_true, Bool.not_false, decide_true, decide_false, not_false_eq_true, not_true_eq_false, Bool.not_not, ext_0, ext_1, ext_2, w8, v8]
  refine stepC.of (szClipS_ok h v l 1048576 s (by omega) (by omega) hl) ?_
  rintro _ Hx ⟨hx, rfl⟩; rw [hx]; clear hx Hx
  simp (maxSteps := 4000000) (disch := omega) only [ah, Nat.reduceEqDiff, reduceCtorEq, Nat.reduceAdd, Nat.reduceLeDiff, Nat.reduceMul, Nat.reduceLT, if_true, if_false, true_and, and_true, and_self, stepI_not, alloc_more, more_more, size_more, ld_more, ld_more0, ldn_more, ldn_more0, st_more, st_more0, cells_int, cells_bool, cells_agg, cells_slice, cells_func, cells_string, cells_pointer, oneB_nil, oneB_int, oneB_bool, oneB_string, oneB_slice, oneB_pointer, oneB_func, toList_mk, size_mk, splice_def, cutL, putL, List.getElem?_cons_zero, List.getElem?_cons_succ, List.cons_append, List.nil_append, List.append_nil, List.take_succ_cons, List.take_zero, List.drop_succ_cons, List.drop_zero, List.length_cons, List.length_nil, List.set_cons_zero, List.set_cons_succ, Option.bind_some, Nat.add_zero, Nat.add_assoc, Nat.zero_add, Int.toNat_natCast, fillV, boxO, bslO, buildO, QOp.loads, rechk_none, Bool.false_eq_true, beq_t, beq_f, stepG_not, Bool.not_true, Bool.not_false, decide_true, decide_false, not_false_eq_true, not_true_eq_false, Bool.not_not, ext_0, ext_1, ext_2, w8, v8]
  by_cases hsz : (1048576 : Int) - l.length < 0
  · simp (maxSteps := 4000000) (disch := omega) only [ah, Nat.reduceEqDiff, reduceCtorEq, Nat.reduceAdd, Nat.reduceLeDiff, Nat.reduceMul, Nat.reduceLT, if_true, if_false, true_and, and_true, and_self, stepI_not, alloc_more, more_more, size_more, ld_more, ld_more0, ldn_more, ldn_more0, st_more, st_more0, cells_int, cells_bool, cells_agg, cells_slice, cells_func, cells_string, cells_pointer, oneB_nil, oneB_int, oneB_bool, oneB_string, oneB_slice, oneB_pointer, oneB_func, toList_mk, size_mk, splice_def, cutL, putL, List.getElem?_cons_zero, List.getElem?_cons_succ, List.cons_append, List.nil_append, List.append_nil, List.take_succ_cons, List.take_zero, List.drop_succ_cons, List.drop_zero, List.length_cons, List.length_nil, List.set_cons_zero, List.set_cons_succ, Option.bind_some, Nat.add_zero, Nat.add_assoc, Nat.zero_add, Int.toNat_natCast, fillV, boxO, bslO, buildO, QOp.loads, rechk_none, Bool.false_eq_true, beq_t, beq_f, stepG_not, Bool.not_true, Bool.not_false, decide_true, decide_false, not_false_eq_true, not_true_eq_false, Bool.not_not, ext_0, ext_1, ext_2, w8, v8, hsz, if_pos, stepI_dec]
  have hz : decide ((if (1048576 : Int) - l.length < 0 then -1 else 1048576 - (l.length : Int)) < 0) = false := by rw [if_neg hsz]; exact decide_eq_false hsz
  simp (maxSteps := 4000000) (disch := omega) only [ah, Nat.reduceEqDiff, reduceCtorEq, Nat.reduceAdd, Nat.reduceLeDiff, Nat.reduceMul, Nat.reduceLT, if_true, if_false, true_and, and_true, and_self, stepI_not, alloc_more, more_more, size_more, ld_more, ld_more0, ldn_more, ldn_more0, st_more, st_more0, cells_int, cells_bool, cells_agg, cells_slice, cells_func, cells_string, cells_pointer, oneB_nil, oneB_int, oneB_bool, oneB_string, oneB_slice, oneB_pointer, oneB_func, toList_mk, size_mk, splice_def, cutL, putL, List.getElem?_cons_zero, List.getElem?_cons_succ, List.cons_append, List.nil_append, List.append_nil, List.take_succ_cons, List.take_zero, List.drop_succ_cons, List.drop_zero, List.length_cons, List.length_nil, List.set_cons_zero, List.set_cons_succ, Option.bind_some, Nat.add_zero, Nat.add_assoc, Nat.zero_add, Int.toNat_natCast, fillV, boxO, bslO, buildO, QOp.loads, rechk_none, Bool.false_eq_true, beq_t, beq_f, stepG_not, Bool.not_true, Bool.not_false, decide_true, decide_false, not_false_eq_true, not_true_eq_false, Bool.not_not, ext_0, ext_1, ext_2, w8, v8, hz]
  clear hz
  have hll : l.length ≤ 1048576 := by omega
  have hF := slideF_length l i n
  refine stepC.of (toClipS_ok _ _ _ s hll) ?_
  intro t1 H1 F1
  simp (maxSteps := 4000000) (disch := omega) only [ah, Nat.reduceEqDiff, reduceCtorEq, Nat.reduceAdd, Nat.reduceLeDiff, Nat.reduceMul, Nat.reduceLT, if_true, if_false, true_and, and_true, and_self, stepI_not, alloc_more, more_more, size_more, ld_more, ld_more0, ldn_more, ldn_more0, st_more, st_more0, cells_int, cells_bool, cells_agg, cells_slice, cells_func, cells_string, cells_pointer, oneB_nil, oneB_int, oneB_bool, oneB_string, oneB_slice, oneB_pointer, oneB_func, toList_mk, size_mk, splice_def, cutL, putL, List.getElem?_cons_zero, List.getElem?_cons_succ, List.cons_append, List.nil_append, List.append_nil, List.take_succ_cons, List.take_zero, List.drop_succ_cons, List.drop_zero, List.length_cons, List.length_nil, List.set_cons_zero, List.set_cons_succ, Option.bind_some, Nat.add_zero, Nat.add_assoc, Nat.zero_add, Int.toNat_natCast, fillV, boxO, bslO, buildO, QOp.loads, rechk_none, Bool.false_eq_true, beq_t, beq_f, stepG_not, Bool.not_true, Bool.not_false, decide_true, decide_false, not_false_eq_true, not_true_eq_false, Bool.not_not, ext_0, ext_1, ext_2, w8, v8]
  refine stepC.of (specSlide_ok _ _ _ _ _ F1.slt (by omega)) ?_
  rintro _ H2 ⟨w0, rfl, Fw⟩
  have E2 : Ext h H2 := F1.1.trans Fw.1
  have Mw := Fw.mine
  simp (maxSteps := 4000000) (disch := omega) only [ah, Nat.reduceEqDiff, reduceCtorEq, Nat.reduceAdd, Nat.reduceLeDiff, Nat.reduceMul, Nat.reduceLT, if_true, if_false, true_and, and_true, and_self, stepI_not, alloc_more, more_more, size_more, ld_more, ld_more0, ldn_more, ldn_more0, st_more, st_more0, cells_int, cells_bool, cells_agg, cells_slice, cells_func, cells_string, cells_pointer, oneB_nil, oneB_int, oneB_bool, oneB_string, oneB_slice, oneB_pointer, oneB_func, toList_mk, size_mk, splice_def, cutL, putL, List.getElem?_cons_zero, List.getElem?_cons_succ, List.cons_append, List.nil_append, List.append_nil, List.take_succ_cons, List.take_zero, List.drop_succ_cons, List.drop_zero, List.length_cons, List.length_nil, List.set_cons_zero, List.set_cons_succ, Option.bind_some, Nat.add_zero, Nat.add_assoc, Nat.zero_add, Int.toNat_natCast, fillV, boxO, bslO, buildO, QOp.loads, rechk_none, Bool.false_eq_true, beq_t, beq_f, stepG_not, Bool.not_true, Bool.not_false, decide_true, decide_false, not_false_eq_true, not_true_eq_false, Bool.not_not, ext_0, ext_1, ext_2, w8, v8]
  refine stepC.of (toClipS_ok _ _ _ (s.ext E2) hll) ?_
  intro x0 H3 Fx
  have Mx := Fx.mine
  have E3 := E2.trans Fx.1
  have Mw := Mw.ext Fx.1
  simp (maxSteps := 4000000) (disch := omega) only [ah, Nat.reduceEqDiff, reduceCtorEq, Nat.reduceAdd, Nat.reduceLeDiff, Nat.reduceMul, Nat.reduceLT, if_true, if_false, true_and, and_true, and_self, stepI_not, alloc_more, more_more, size_more, ld_more, ld_more0, ldn_more, ldn_more0, st_more, st_more0, cells_int, cells_bool, cells_agg, cells_slice, cells_func, cells_string, cells_pointer, oneB_nil, oneB_int, oneB_bool, oneB_string, oneB_slice, oneB_pointer, oneB_func, toList_mk, size_mk, splice_def, cutL, putL, List.getElem?_cons_zero, List.getElem?_cons_succ, List.cons_append, List.nil_append, List.append_nil, List.take_succ_cons, List.take_zero, List.drop_succ_cons, List.drop_zero, List.length_cons, List.length_nil, List.set_cons_zero, List.set_cons_succ, Option.bind_some, Nat.add_zero, Nat.add_assoc, Nat.zero_add, Int.toNat_natCast, fillV, boxO, bslO, buildO, QOp.loads, rechk_none, Bool.false_eq_true, beq_t, beq_f, stepG_not, Bool.not_true, Bool.not_false, decide_true, decide_false, not_false_eq_true, not_true_eq_false, Bool.not_not, ext_0, ext_1, ext_2, w8, v8]
  refine stepC.of (Slide_ok _ _ _ _ _ Fx.slt (by omega)) ?_
  rintro _ H4 ⟨g0, rfl, Fg⟩
  have Mg := Fg.mine
  have E4 := E3.trans Fg.1
  have Mw := Mw.ext Fg.1
  have Mx := Mx.ext Fg.1
  have sz1 := F1.1.1; have sz2 := Fw.1.1; have sz3 := Fx.1.1; have sz4 := Fg.1.1
  obtain ⟨rl, rb, hR⟩ : ∃ rl rb, slideF l i n = (rl, rb) := ⟨_, _, rfl⟩
  rw [hR] at Mw Mg hF ⊢
  simp only at Mw Mg hF ⊢
  simp (maxSteps := 4000000) (disch := omega) only [ah, Nat.reduceEqDiff, reduceCtorEq, Nat.reduceAdd, Nat.reduceLeDiff, Nat.reduceMul, Nat.reduceLT, if_true, if_false, true_and, and_true, and_self, stepI_not, alloc_more, more_more, size_more, ld_more, ld_more0, ldn_more, ldn_more0, st_more, st_more0, cells_int, cells_bool, cells_agg, cells_slice, cells_func, cells_string, cells_pointer, oneB_nil, oneB_int, oneB_bool, oneB_string, oneB_slice, oneB_pointer, oneB_func, toList_mk, size_mk, splice_def, cutL, putL, List.getElem?_cons_zero, List.getElem?_cons_succ, List.cons_append, List.nil_append, List.append_nil, List.take_succ_cons, List.take_zero, List.drop_succ_cons, List.drop_zero, List.length_cons, List.length_nil, List.set_cons_zero, List.set_cons_succ, Option.bind_some, Nat.add_zero, Nat.add_assoc, Nat.zero_add, Int.toNat_natCast, fillV, boxO, bslO, buildO, QOp.loads, rechk_none, Bool.false_eq_true, beq_t, beq_f, stepG_not, Bool.not_true, Bool.not_false, decide_true, decide_false, not_false_eq_true, not_true_eq_false, Bool.not_not, ext_0, ext_1, ext_2, w8, v8]
  refine stepC.of (eqClipS_ok _ _ _ _ _ Mg.slt Mw.slt (by omega) (by omega)) ?_
  rintro _ H5 ⟨e5, rfl⟩
  have Mg := Mg.ext e5; have Mw := Mw.ext e5; have Mx := Mx.ext e5; have E5 := E4.trans e5
  simp (maxSteps := 4000000) (disch := omega) only [ah, Nat.reduceEqDiff, reduceCtorEq, Nat.reduceAdd, Nat.reduceLeDiff, Nat.reduceMul, Nat.reduceLT, if_true, if_false, true_and, and_true, and_self, stepI_not, alloc_more, more_more, size_more, ld_more, ld_more0, ldn_more, ldn_more0, st_more, st_more0, cells_int, cells_bool, cells_agg, cells_slice, cells_func, cells_string, cells_pointer, oneB_nil, oneB_int, oneB_bool, oneB_string, oneB_slice, oneB_pointer, oneB_func, toList_mk, size_mk, splice_def, cutL, putL, List.getElem?_cons_zero, List.getElem?_cons_succ, List.cons_append, List.nil_append, List.append_nil, List.take_succ_cons, List.take_zero, List.drop_succ_cons, List.drop_zero, List.length_cons, List.length_nil, List.set_cons_zero, List.set_cons_succ, Option.bind_some, Nat.add_zero, Nat.add_assoc, Nat.zero_add, Int.toNat_natCast, fillV, boxO, bslO, buildO, QOp.loads, rechk_none, Bool.false_eq_true, beq_t, beq_f, stepG_not, Bool.not_true, Bool.not_false, decide_true, decide_false, not_false_eq_true, not_true_eq_false, Bool.not_not, ext_0, ext_1, ext_2, w8, v8, eqbV_bool', beq_self_eq_true]
  refine stepC.of (toClipS_ok _ _ _ (s.ext E5) hll) ?_
  intro t6 H6 F6
  have Mg := Mg.ext F6.1; have Mw := Mw.ext F6.1; have Mx := Mx.ext F6.1; have E6 := E5.trans F6.1
  simp (maxSteps := 4000000) (disch := omega) only [ah, Nat.reduceEqDiff, reduceCtorEq, Nat.reduceAdd, Nat.reduceLeDiff, Nat.reduceMul, Nat.reduceLT, if_true, if_false, true_and, and_true, and_self, stepI_not, alloc_more, more_more, size_more, ld_more, ld_more0, ldn_more, ldn_more0, st_more, st_more0, cells_int, cells_bool, cells_agg, cells_slice, cells_func, cells_string, cells_pointer, oneB_nil, oneB_int, oneB_bool, oneB_string, oneB_slice, oneB_pointer, oneB_func, toList_mk, size_mk, splice_def, cutL, putL, List.getElem?_cons_zero, List.getElem?_cons_succ, List.cons_append, List.nil_append, List.append_nil, List.take_succ_cons, List.take_zero, List.drop_succ_cons, List.drop_zero, List.length_cons, List.length_nil, List.set_cons_zero, List.set_cons_succ, Option.bind_some, Nat.add_zero, Nat.add_assoc, Nat.zero_add, Int.toNat_natCast, fillV, boxO, bslO, buildO, QOp.loads, rechk_none, Bool.false_eq_true, beq_t, beq_f, stepG_not, Bool.not_true, Bool.not_false, decide_true, decide_false, not_false_eq_true, not_true_eq_false, Bool.not_not, ext_0, ext_1, ext_2, w8, v8]
  refine stepC.of (eqClipS_ok _ _ _ _ _ Mx.slt F6.slt (by omega) (by omega)) ?_
  rintro _ H7 ⟨e7, rfl⟩
  have Mg := Mg.ext e7; have Mw := Mw.ext e7; have Mx := Mx.ext e7; have E7 := E6.trans e7
  simp (maxSteps := 4000000) (disch := omega) only [ah, Nat.reduceEqDiff, reduceCtorEq, Nat.reduceAdd, Nat.reduceLeDiff, Nat.reduceMul, Nat.reduceLT, if_true, if_false, true_and, and_true, and_self, stepI_not, alloc_more, more_more, size_more, ld_more, ld_more0, ldn_more, ldn_more0, st_more, st_more0, cells_int, cells_bool, cells_agg, cells_slice, cells_func, cells_string, cells_pointer, oneB_nil, oneB_int, oneB_bool, oneB_string, oneB_slice, oneB_pointer, oneB_func, toList_mk, size_mk, splice_def, cutL, putL, List.getElem?_cons_zero, List.getElem?_cons_succ, List.cons_append, List.nil_append, List.append_nil, List.take_succ_cons, List.take_zero, List.drop_succ_cons, List.drop_zero, List.length_cons, List.length_nil, List.set_cons_zero, List.set_cons_succ, Option.bind_some, Nat.add_zero, Nat.add_assoc, Nat.zero_add, Int.toNat_natCast, fillV, boxO, bslO, buildO, QOp.loads, rechk_none, Bool.false_eq_true, beq_t, beq_f, stepG_not, Bool.not_true, Bool.not_false, decide_true, decide_false, not_false_eq_true, not_true_eq_false, Bool.not_not, ext_0, ext_1, ext_2, w8, v8]
  refine stepC.of (markClipS_mine 1 Mx (by omega) (by omega)) ?_
  rintro _ H8 ⟨c8, Mx', rfl⟩
  have Mg := Mg.chg c8 (by omega); have Mw := Mw.chg c8 (by omega); have E8 := c8.ext E7 (by have := E2.1; omega)
  have hk : decide ((1 : Int) + 3 * l.length < 0) = false := decide_eq_false (by omega)
  simp (maxSteps := 4000000) (disch := omega) only [ah, Nat.reduceEqDiff, reduceCtorEq, Nat.reduceAdd, Nat.reduceLeDiff, Nat.reduceMul, Nat.reduceLT, if_true, if_false, true_and, and_true, and_self, stepI_not, alloc_more, more_more, size_more, ld_more, ld_more0, ldn_more, ldn_more0, st_more, st_more0, cells_int, cells_bool, cells_agg, cells_slice, cells_func, cells_string, cells_pointer, oneB_nil, oneB_int, oneB_bool, oneB_string, oneB_slice, oneB_pointer, oneB_func, toList_mk, size_mk, splice_def, cutL, putL, List.getElem?_cons_zero, List.getElem?_cons_succ, List.cons_append, List.nil_append, List.append_nil, List.take_succ_cons, List.take_zero, List.drop_succ_cons, List.drop_zero, List.length_cons, List.length_nil, List.set_cons_zero, List.set_cons_succ, Option.bind_some, Nat.add_zero, Nat.add_assoc, Nat.zero_add, Int.toNat_natCast, fillV, boxO, bslO, buildO, QOp.loads, rechk_none, Bool.false_eq_true, beq_t, beq_f, stepG_not, Bool.not_true, Bool.not_false, decide_true, decide_false, not_false_eq_true, not_true_eq_false, Bool.not_not, ext_0, ext_1, ext_2, w8, v8, hk]
  refine stepC.of (eqClipS_ok _ _ _ _ _ Mg.slt Mw.slt (by omega) (by omega)) ?_
  rintro _ H9 ⟨e9, rfl⟩
  have Mg := Mg.ext e9; have Mw := Mw.ext e9; have E9 := E8.trans e9
  simp (maxSteps := 4000000) (disch := omega) only [ah, Nat.reduceEqDiff, reduceCtorEq, Nat.reduceAdd, Nat.reduceLeDiff, Nat.reduceMul, Nat.reduceLT, if_true, if_false, true_and, and_true, and_self, stepI_not, alloc_more, more_more, size_more, ld_more, ld_more0, ldn_more, ldn_more0, st_more, st_more0, cells_int, cells_bool, cells_agg, cells_slice, cells_func, cells_string, cells_pointer, oneB_nil, oneB_int, oneB_bool, oneB_string, oneB_slice, oneB_pointer, oneB_func, toList_mk, size_mk, splice_def, cutL, putL, List.getElem?_cons_zero, List.getElem?_cons_succ, List.cons_append, List.nil_append, List.append_nil, List.take_succ_cons, List.take_zero, List.drop_succ_cons, List.drop_zero, List.length_cons, List.length_nil, List.set_cons_zero, List.set_cons_succ, Option.bind_some, Nat.add_zero, Nat.add_assoc, Nat.zero_add, Int.toNat_natCast, fillV, boxO, bslO, buildO, QOp.loads, rechk_none, Bool.false_eq_true, beq_t, beq_f, stepG_not, Bool.not_true, Bool.not_false, decide_true, decide_false, not_false_eq_true, not_true_eq_false, Bool.not_not, ext_0, ext_1, ext_2, w8, v8, eqbV_bool', beq_self_eq_true]
  refine stepC.of (markClipS_mine 1 Mg (by omega) (by omega)) ?_
  rintro _ H10 ⟨c10, Mg, rfl⟩
  have Mw := Mw.chg c10 (by omega); have E10 := c10.ext E9 (by have := E3.1; omega)
  have hm : decide ((1 : Int) + 3 * rl.length < 0) = false := decide_eq_false (by omega)
  simp (maxSteps := 4000000) (disch := omega) only [ah, Nat.reduceEqDiff, reduceCtorEq, Nat.reduceAdd, Nat.reduceLeDiff, Nat.reduceMul, Nat.reduceLT, if_true, if_false, true_and, and_true, and_self, stepI_not, alloc_more, more_more, size_more, ld_more, ld_more0, ldn_more, ldn_more0, st_more, st_more0, cells_int, cells_bool, cells_agg, cells_slice, cells_func, cells_string, cells_pointer, oneB_nil, oneB_int, oneB_bool, oneB_string, oneB_slice, oneB_pointer, oneB_func, toList_mk, size_mk, splice_def, cutL, putL, List.getElem?_cons_zero, List.getElem?_cons_succ, List.cons_append, List.nil_append, List.append_nil, List.take_succ_cons, List.take_zero, List.drop_succ_cons, List.drop_zero, List.length_cons, List.length_nil, List.set_cons_zero, List.set_cons_succ, Option.bind_some, Nat.add_zero, Nat.add_assoc, Nat.zero_add, Int.toNat_natCast, fillV, boxO, bslO, buildO, QOp.loads, rechk_none, Bool.false_eq_true, beq_t, beq_f, stepG_not, Bool.not_true, Bool.not_false, decide_true, decide_false, not_false_eq_true, not_true_eq_false, Bool.not_not, ext_0, ext_1, ext_2, w8, v8]
  refine stepC.of (heldClipS_ok _ _ _ 1 Mg.slt (by omega) (by omega)) ?_
  rintro _ Hx ⟨hx, rfl⟩; rw [hx]; clear hx Hx
  simp (maxSteps := 4000000) (disch := omega) only [ah, Nat.reduceEqDiff, reduceCtorEq, Nat.reduceAdd, Nat.reduceLeDiff, Nat.reduceMul, Nat.reduceLT, if_true, if_false, true_and, and_true, and_self, stepI_not, alloc_more, more_more, size_more, ld_more, ld_more0, ldn_more, ldn_more0, st_more, st_more0, cells_int, cells_bool, cells_agg, cells_slice, cells_func, cells_string, cells_pointer, oneB_nil, oneB_int, oneB_bool, oneB_string, oneB_slice, oneB_pointer, oneB_func, toList_mk, size_mk, splice_def, cutL, putL, List.getElem?_cons_zero, List.getElem?_cons_succ, List.cons_append, List.nil_append, List.append_nil, List.take_succ_cons, List.take_zero, List.drop_succ_cons, List.drop_zero, List.length_cons, List.length_nil, List.set_cons_zero, List.set_cons_succ, Option.bind_some, Nat.add_zero, Nat.add_assoc, Nat.zero_add, Int.toNat_natCast, fillV, boxO, bslO, buildO, QOp.loads, rechk_none, Bool.false_eq_true, beq_t, beq_f, stepG_not, Bool.not_true, Bool.not_false, decide_true, decide_false, not_false_eq_true, not_true_eq_false, Bool.not_not, ext_0, ext_1, ext_2, w8, v8, hm]
  refine stepC.of (toClipS_ok _ _ _ (s.ext E10) hll) ?_
  intro t11 H11 F11
  have Mg := Mg.ext F11.1; have Mw := Mw.ext F11.1
  simp (maxSteps := 4000000) (disch := omega) only [ah, Nat.reduceEqDiff, reduceCtorEq, Nat.reduceAdd, Nat.reduceLeDiff, Nat.reduceMul, Nat.reduceLT, if_true, if_false, true_and, and_true, and_self, stepI_not, alloc_more, more_more, size_more, ld_more, ld_more0, ldn_more, ldn_more0, st_more, st_more0, cells_int, cells_bool, cells_agg, cells_slice, cells_func, cells_string, cells_pointer, oneB_nil, oneB_int, oneB_bool, oneB_string, oneB_slice, oneB_pointer, oneB_func, toList_mk, size_mk, splice_def, cutL, putL, List.getElem?_cons_zero, List.getElem?_cons_succ, List.cons_append, List.nil_append, List.append_nil, List.take_succ_cons, List.take_zero, List.drop_succ_cons, List.drop_zero, List.length_cons, List.length_nil, List.set_cons_zero, List.set_cons_succ, Option.bind_some, Nat.add_zero, Nat.add_assoc, Nat.zero_add, Int.toNat_natCast, fillV, boxO, bslO, buildO, QOp.loads, rechk_none, Bool.false_eq_true, beq_t, beq_f, stepG_not, Bool.not_true, Bool.not_false, decide_true, decide_false, not_false_eq_true, not_true_eq_false, Bool.not_not, ext_0, ext_1, ext_2, w8, v8]
  refine stepC.of (Slide_ok _ _ _ _ _ F11.slt (by omega)) ?_
  rintro _ H12 ⟨h0, rfl, Fh⟩
  have Mg := Mg.ext Fh.1; have Mw := Mw.ext Fh.1
  rw [hR] at Fh ⊢
  simp only at Fh ⊢
  simp (maxSteps := 4000000) (disch := omega) only [ah, Nat.reduceEqDiff, reduceCtorEq, Nat.reduceAdd, Nat.reduceLeDiff, Nat.reduceMul, Nat.reduceLT, if_true, if_false, true_and, and_true, and_self, stepI_not, alloc_more, more_more, size_more, ld_more, ld_more0, ldn_more, ldn_more0, st_more, st_more0, cells_int, cells_bool, cells_agg, cells_slice, cells_func, cells_string, cells_pointer, oneB_nil, oneB_int, oneB_bool, oneB_string, oneB_slice, oneB_pointer, oneB_func, toList_mk, size_mk, splice_def, cutL, putL, List.getElem?_cons_zero, List.getElem?_cons_succ, List.cons_append, List.nil_append, List.append_nil, List.take_succ_cons, List.take_zero, List.drop_succ_cons, List.drop_zero, List.length_cons, List.length_nil, List.set_cons_zero, List.set_cons_succ, Option.bind_some, Nat.add_zero, Nat.add_assoc, Nat.zero_add, Int.toNat_natCast, fillV, boxO, bslO, buildO, QOp.loads, rechk_none, Bool.false_eq_true, beq_t, beq_f, stepG_not, Bool.not_true, Bool.not_false, decide_true, decide_false, not_false_eq_true, not_true_eq_false, Bool.not_not, ext_0, ext_1, ext_2, w8, v8]
  refine stepC.of (eqClipS_ok _ _ _ _ _ Fh.slt Mw.slt (by omega) (by omega)) ?_
  rintro _ H13 ⟨e13, rfl⟩
  have Mg := Mg.ext e13
  simp (maxSteps := 4000000) (disch := omega) only [ah, Nat.reduceEqDiff, reduceCtorEq, Nat.reduceAdd, Nat.reduceLeDiff, Nat.reduceMul, Nat.reduceLT, if_true, if_false, true_and, and_true, and_self, stepI_not, alloc_more, more_more, size_more, ld_more, ld_more0, ldn_more, ldn_more0, st_more, st_more0, cells_int, cells_bool, cells_agg, cells_slice, cells_func, cells_string, cells_pointer, oneB_nil, oneB_int, oneB_bool, oneB_string, oneB_slice, oneB_pointer, oneB_func, toList_mk, size_mk, splice_def, cutL, putL, List.getElem?_cons_zero, List.getElem?_cons_succ, List.cons_append, List.nil_append, List.append_nil, List.take_succ_cons, List.take_zero, List.drop_succ_cons, List.drop_zero, List.length_cons, List.length_nil, List.set_cons_zero, List.set_cons_succ, Option.bind_some, Nat.add_zero, Nat.add_assoc, Nat.zero_add, Int.toNat_natCast, fillV, boxO, bslO, buildO, QOp.loads, rechk_none, Bool.false_eq_true, beq_t, beq_f, stepG_not, Bool.not_true, Bool.not_false, decide_true, decide_false, not_false_eq_true, not_true_eq_false, Bool.not_not, ext_0, ext_1, ext_2, w8, v8, eqbV_bool', beq_self_eq_true]
  refine stepC.of (heldClipS_ok _ _ _ 1 Mg.slt (by omega) (by omega)) ?_
  rintro _ Hx ⟨hx, rfl⟩; rw [hx]; clear hx Hx
  simp (maxSteps := 4000000) (disch := omega) only [ah, Nat.reduceEqDiff, reduceCtorEq, Nat.reduceAdd, Nat.reduceLeDiff, Nat.reduceMul, Nat.reduceLT, if_true, if_false, true_and, and_true, and_self, stepI_not, alloc_more, more_more, size_more, ld_more, ld_more0, ldn_more, ldn_more0, st_more, st_more0, cells_int, cells_bool, cells_agg, cells_slice, cells_func, cells_string, cells_pointer, oneB_nil, oneB_int, oneB_bool, oneB_string, oneB_slice, oneB_pointer, oneB_func, toList_mk, size_mk, splice_def, cutL, putL, List.getElem?_cons_zero, List.getElem?_cons_succ, List.cons_append, List.nil_append, List.append_nil, List.take_succ_cons, List.take_zero, List.drop_succ_cons, List.drop_zero, List.length_cons, List.length_nil, List.set_cons_zero, List.set_cons_succ, Option.bind_some, Nat.add_zero, Nat.add_assoc, Nat.zero_add, Int.toNat_natCast, fillV, boxO, bslO, buildO, QOp.loads, rechk_none, Bool.false_eq_true, beq_t, beq_f, stepG_not, Bool.not_true, Bool.not_false, decide_true, decide_false, not_false_eq_true, not_true_eq_false, Bool.not_not, ext_0, ext_1, ext_2, w8, v8, hm]
end Go.Proofs.Ytbanblghepekdaa
