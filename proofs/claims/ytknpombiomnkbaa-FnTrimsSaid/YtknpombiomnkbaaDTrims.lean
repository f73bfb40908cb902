import Derived.Test.YtknpombiomnkbaaJ4
import Derived.Test.YtknpombiomnkbaaD5
import Derived.Test.YtknpombiomnkbaaD9
import Derived.Test.YtknpombiomnkbaaI7
namespace Go.Proofs.Ytknpombiomnkbaa
open Go Go.Ah
set_option linter.unusedSimpArgs false
set_option linter.unusedVariables false
set_option maxRecDepth 10000
set_option maxHeartbeats 8000000
/-! 36 loop.example/g00066/spec.Joined: parameters 1, live [0], slots [0:track, 1:track] -/
def c36_0 : List SOper := [⟨some 2, .q (.mv (.c (.slice none 0 0))), none⟩]
def c36_1 : List SOper := [⟨some 3, .q (.mv (.t 0)), none⟩, ⟨some 4, .e (.call 55 [(.t 3)]), none⟩, ⟨some 5, .q (.not (.t 4)), none⟩]
def c36_2 : List SOper := [⟨some 6, .a (.bsl 0 3 [] []), none⟩, ⟨some 2, .q (.mv (.t 6)), none⟩]
def c36_3 : SCode := .seq (.region c36_2 [2]) .ret
def c36_4 : SCode := .cond (.t 5) c36_3 .skip
def c36_5 : SCode := .seq (.region c36_1 [0, 5]) c36_4
def c36_6 : List SOper := [⟨some 7, .q (.mv (.t 0)), none⟩, ⟨some 8, .e (.call 82 [(.t 7)]), none⟩, ⟨some 2, .q (.mv (.t 8)), none⟩]
def c36_7 : SCode := .seq (.region c36_6 [2]) .ret
def c36_8 : SCode := .seq c36_5 c36_7
def c36_9 : SCode := .seq (.region c36_0 [0]) c36_8
def c36 : SCode := c36_9
theorem w36 : type_of% (And.intro (uR Try.prog c36_0.eq_1) (And.intro (uR Try.prog c36_1.eq_1) (And.intro (uR Try.prog c36_2.eq_1) (And.intro (uC Try.prog c36_3.eq_1) (And.intro (uC Try.prog c36_4.eq_1) (And.intro (uC Try.prog c36_5.eq_1) (And.intro (uR Try.prog c36_6.eq_1) (And.intro (uC Try.prog c36_7.eq_1) (And.intro (uC Try.prog c36_8.eq_1) (And.intro (uC Try.prog c36_9.eq_1) (uC Try.prog c36.eq_1))))))))))) := (And.intro (uR Try.prog c36_0.eq_1) (And.intro (uR Try.prog c36_1.eq_1) (And.intro (uR Try.prog c36_2.eq_1) (And.intro (uC Try.prog c36_3.eq_1) (And.intro (uC Try.prog c36_4.eq_1) (And.intro (uC Try.prog c36_5.eq_1) (And.intro (uR Try.prog c36_6.eq_1) (And.intro (uC Try.prog c36_7.eq_1) (And.intro (uC Try.prog c36_8.eq_1) (And.intro (uC Try.prog c36_9.eq_1) (uC Try.prog c36.eq_1)))))))))))
def v36 : List RV := [.t 2]
theorem s36 : slimF Try.prog Try.f36 = some (c36.bare, v36) := by kernel_rfl
/-! 9 loop.example/g00066/laws.FnTrims: parameters 1, live [0], slots [0:code, 1:code, 3:t, 4:i, 5:n, 6:u, 7:is, 8:_, 9:told, 10:b, 11:back, 12:_, 13:told, 14:b, 15:back, 16:_, 17:told, 18:b, 19:back, 20:_, 21:told, 22:b, 23:back] -/
def c9_0 : List SOper := [⟨some 2, .q (.mv (.c (.bool false))), none⟩]
def c9_1 : List SOper := [⟨some 24, .q (.mv (.t 0)), none⟩, ⟨some 25, .e (.call 10 [(.t 24)]), none⟩]
def c9_2 : List SOper := [⟨some 2, .q (.mv (.c (.bool true))), none⟩]
def c9_3 : SCode := .seq (.region c9_2 [2]) .ret
def c9_4 : SCode := .cond (.t 25) c9_3 .skip
def c9_5 : SCode := .seq (.region c9_1 [0, 25]) c9_4
def c9_6 : List SOper := [⟨some 27, .q (.mv (.t 0)), none⟩, ⟨some 28, .e (.call 35 [(.t 27)]), none⟩, ⟨some 26, .q (.mv (.t 28)), none⟩, ⟨some 29, .q (.ext (.t 26) 0), none⟩, ⟨some 30, .q (.ext (.t 26) 1), none⟩, ⟨some 31, .q (.ext (.t 26) 2), none⟩, ⟨some 3, .q (.mv (.t 29)), none⟩, ⟨some 4, .q (.mv (.t 30)), none⟩, ⟨some 5, .q (.mv (.t 31)), none⟩]
def c9_7 : List SOper := [⟨some 32, .q (.mv (.t 3)), none⟩, ⟨some 33, .e (.call 36 [(.t 32)]), none⟩, ⟨some 3, .q (.mv (.t 33)), none⟩]
def c9_8 : List SOper := [⟨some 35, .q (.mv (.t 3)), none⟩, ⟨some 36, .q (.mv (.t 4)), none⟩, ⟨some 37, .q (.mv (.t 5)), none⟩, ⟨some 38, .e (.call 37 [(.t 35), (.t 36), (.t 37)]), none⟩, ⟨some 34, .q (.mv (.t 38)), none⟩, ⟨some 39, .q (.ext (.t 34) 0), none⟩, ⟨some 40, .q (.ext (.t 34) 1), none⟩, ⟨some 6, .q (.mv (.t 39)), none⟩, ⟨some 7, .q (.mv (.t 40)), none⟩]
def c9_9 : List SOper := [⟨some 42, .q (.mv (.t 3)), none⟩, ⟨some 43, .q (.mv (.t 4)), none⟩, ⟨some 44, .q (.mv (.t 5)), none⟩, ⟨some 45, .e (.call 38 [(.t 42), (.t 43), (.t 44)]), none⟩, ⟨some 41, .q (.mv (.t 45)), none⟩, ⟨some 46, .q (.ext (.t 41) 0), none⟩, ⟨some 47, .q (.ext (.t 41) 1), none⟩, ⟨some 8, .q (.mv (.t 46)), none⟩, ⟨some 9, .q (.mv (.t 47)), none⟩]
def c9_10 : List SOper := [⟨some 48, .q (.mv (.t 7)), none⟩, ⟨some 49, .q (.mv (.t 9)), none⟩, ⟨some 50, .q (.eqb true (.t 48) (.t 49)), none⟩]
def c9_11 : List SOper := [⟨some 2, .q (.mv (.c (.bool false))), none⟩]
def c9_12 : SCode := .seq (.region c9_11 [2]) .ret
def c9_13 : SCode := .cond (.t 50) c9_12 .skip
def c9_14 : SCode := .seq (.region c9_10 [3, 4, 5, 6, 7, 50]) c9_13
def c9_15 : SCode := .seq (.region c9_9 [3, 4, 5, 6, 7, 9]) c9_14
def c9_16 : List SOper := [⟨some 51, .q (.mv (.t 7)), none⟩, ⟨some 52, .q (.mv (.t 51)), none⟩, ⟨some 53, .q (.mv (.t 6)), some (52, true)⟩, ⟨some 54, .q (.len (.t 53)), some (52, true)⟩, ⟨some 55, .q (.mv (.t 3)), some (52, true)⟩, ⟨some 56, .q (.len (.t 55)), some (52, true)⟩, ⟨some 57, .q (.bin .eql (.t 54) (.t 56)), some (52, true)⟩, ⟨some 58, .q (.pick (.t 52) (.t 57) (.c (.bool false))), none⟩]
def c9_17 : List SOper := [⟨some 60, .q (.mv (.t 6)), none⟩, ⟨some 61, .q (.mv (.t 4)), none⟩, ⟨some 62, .q (.mv (.t 5)), none⟩, ⟨some 63, .q (.neg (.t 62)), none⟩, ⟨some 64, .e (.call 37 [(.t 60), (.t 61), (.t 63)]), none⟩, ⟨some 59, .q (.mv (.t 64)), none⟩, ⟨some 65, .q (.ext (.t 59) 0), none⟩, ⟨some 66, .q (.ext (.t 59) 1), none⟩, ⟨some 10, .q (.mv (.t 65)), none⟩, ⟨some 11, .q (.mv (.t 66)), none⟩]
def c9_18 : List SOper := [⟨some 67, .q (.mv (.t 11)), none⟩, ⟨some 68, .q (.not (.t 67)), none⟩, ⟨some 69, .q (.mv (.t 68)), none⟩, ⟨some 70, .q (.mv (.t 10)), some (69, false)⟩, ⟨some 71, .q (.mv (.t 3)), some (69, false)⟩, ⟨some 72, .e (.call 14 [(.t 70), (.t 71)]), some (69, false)⟩, ⟨some 73, .q (.not (.t 72)), some (69, false)⟩, ⟨some 74, .q (.pick (.t 69) (.c (.bool true)) (.t 73)), none⟩, ⟨some 75, .q (.mv (.t 74)), none⟩, ⟨some 76, .q (.mv (.t 6)), some (75, false)⟩, ⟨some 77, .e (.call 16 [(.t 76)]), some (75, false)⟩, ⟨some 78, .q (.mv (.t 3)), some (75, false)⟩, ⟨some 79, .e (.call 16 [(.t 78)]), some (75, false)⟩, ⟨some 80, .q (.bin .neq (.t 77) (.t 79)), some (75, false)⟩, ⟨some 81, .q (.pick (.t 75) (.c (.bool true)) (.t 80)), none⟩]
def c9_19 : List SOper := [⟨some 2, .q (.mv (.c (.bool false))), none⟩]
def c9_20 : SCode := .seq (.region c9_19 [2]) .ret
def c9_21 : SCode := .cond (.t 81) c9_20 .skip
def c9_22 : SCode := .seq (.region c9_18 [3, 4, 5, 81]) c9_21
def c9_23 : SCode := .seq (.region c9_17 [3, 4, 5, 6, 10, 11]) c9_22
def c9_24 : SCode := .cond (.t 58) c9_23 .skip
def c9_25 : SCode := .seq (.region c9_16 [3, 4, 5, 6, 58]) c9_24
def c9_26 : List SOper := [⟨some 83, .q (.mv (.t 3)), none⟩, ⟨some 84, .q (.mv (.t 4)), none⟩, ⟨some 85, .q (.mv (.t 5)), none⟩, ⟨some 86, .e (.call 39 [(.t 83), (.t 84), (.t 85)]), none⟩, ⟨some 82, .q (.mv (.t 86)), none⟩, ⟨some 87, .q (.ext (.t 82) 0), none⟩, ⟨some 88, .q (.ext (.t 82) 1), none⟩, ⟨some 6, .q (.mv (.t 87)), none⟩, ⟨some 7, .q (.mv (.t 88)), none⟩]
def c9_27 : List SOper := [⟨some 90, .q (.mv (.t 3)), none⟩, ⟨some 91, .q (.mv (.t 4)), none⟩, ⟨some 92, .q (.mv (.t 5)), none⟩, ⟨some 93, .e (.call 40 [(.t 90), (.t 91), (.t 92)]), none⟩, ⟨some 89, .q (.mv (.t 93)), none⟩, ⟨some 94, .q (.ext (.t 89) 0), none⟩, ⟨some 95, .q (.ext (.t 89) 1), none⟩, ⟨some 12, .q (.mv (.t 94)), none⟩, ⟨some 13, .q (.mv (.t 95)), none⟩]
def c9_28 : List SOper := [⟨some 96, .q (.mv (.t 7)), none⟩, ⟨some 97, .q (.mv (.t 13)), none⟩, ⟨some 98, .q (.eqb true (.t 96) (.t 97)), none⟩]
def c9_29 : List SOper := [⟨some 2, .q (.mv (.c (.bool false))), none⟩]
def c9_30 : SCode := .seq (.region c9_29 [2]) .ret
def c9_31 : SCode := .cond (.t 98) c9_30 .skip
def c9_32 : SCode := .seq (.region c9_28 [3, 4, 5, 6, 7, 98]) c9_31
def c9_33 : SCode := .seq (.region c9_27 [3, 4, 5, 6, 7, 13]) c9_32
def c9_34 : List SOper := [⟨some 99, .q (.mv (.t 7)), none⟩, ⟨some 100, .q (.mv (.t 99)), none⟩, ⟨some 101, .q (.mv (.t 6)), some (100, true)⟩, ⟨some 102, .q (.len (.t 101)), some (100, true)⟩, ⟨some 103, .q (.mv (.t 3)), some (100, true)⟩, ⟨some 104, .q (.len (.t 103)), some (100, true)⟩, ⟨some 105, .q (.bin .eql (.t 102) (.t 104)), some (100, true)⟩, ⟨some 106, .q (.pick (.t 100) (.t 105) (.c (.bool false))), none⟩]
def c9_35 : List SOper := [⟨some 108, .q (.mv (.t 6)), none⟩, ⟨some 109, .q (.mv (.t 4)), none⟩, ⟨some 110, .q (.mv (.t 5)), none⟩, ⟨some 111, .q (.neg (.t 110)), none⟩, ⟨some 112, .e (.call 39 [(.t 108), (.t 109), (.t 111)]), none⟩, ⟨some 107, .q (.mv (.t 112)), none⟩, ⟨some 113, .q (.ext (.t 107) 0), none⟩, ⟨some 114, .q (.ext (.t 107) 1), none⟩, ⟨some 14, .q (.mv (.t 113)), none⟩, ⟨some 15, .q (.mv (.t 114)), none⟩]
def c9_36 : List SOper := [⟨some 115, .q (.mv (.t 15)), none⟩, ⟨some 116, .q (.not (.t 115)), none⟩, ⟨some 117, .q (.mv (.t 116)), none⟩, ⟨some 118, .q (.mv (.t 14)), some (117, false)⟩, ⟨some 119, .q (.mv (.t 3)), some (117, false)⟩, ⟨some 120, .e (.call 14 [(.t 118), (.t 119)]), some (117, false)⟩, ⟨some 121, .q (.not (.t 120)), some (117, false)⟩, ⟨some 122, .q (.pick (.t 117) (.c (.bool true)) (.t 121)), none⟩, ⟨some 123, .q (.mv (.t 122)), none⟩, ⟨some 124, .q (.mv (.t 6)), some (123, false)⟩, ⟨some 125, .e (.call 16 [(.t 124)]), some (123, false)⟩, ⟨some 126, .q (.mv (.t 3)), some (123, false)⟩, ⟨some 127, .e (.call 16 [(.t 126)]), some (123, false)⟩, ⟨some 128, .q (.bin .neq (.t 125) (.t 127)), some (123, false)⟩, ⟨some 129, .q (.pick (.t 123) (.c (.bool true)) (.t 128)), none⟩]
def c9_37 : List SOper := [⟨some 2, .q (.mv (.c (.bool false))), none⟩]
def c9_38 : SCode := .seq (.region c9_37 [2]) .ret
def c9_39 : SCode := .cond (.t 129) c9_38 .skip
def c9_40 : SCode := .seq (.region c9_36 [3, 4, 5, 129]) c9_39
def c9_41 : SCode := .seq (.region c9_35 [3, 4, 5, 6, 14, 15]) c9_40
def c9_42 : SCode := .cond (.t 106) c9_41 .skip
def c9_43 : SCode := .seq (.region c9_34 [3, 4, 5, 6, 106]) c9_42
def c9_44 : List SOper := [⟨some 131, .q (.mv (.t 3)), none⟩, ⟨some 132, .q (.mv (.t 4)), none⟩, ⟨some 133, .q (.mv (.t 5)), none⟩, ⟨some 134, .e (.call 41 [(.t 131), (.t 132), (.t 133)]), none⟩, ⟨some 130, .q (.mv (.t 134)), none⟩, ⟨some 135, .q (.ext (.t 130) 0), none⟩, ⟨some 136, .q (.ext (.t 130) 1), none⟩, ⟨some 6, .q (.mv (.t 135)), none⟩, ⟨some 7, .q (.mv (.t 136)), none⟩]
def c9_45 : List SOper := [⟨some 138, .q (.mv (.t 3)), none⟩, ⟨some 139, .q (.mv (.t 4)), none⟩, ⟨some 140, .q (.mv (.t 5)), none⟩, ⟨some 141, .e (.call 42 [(.t 138), (.t 139), (.t 140)]), none⟩, ⟨some 137, .q (.mv (.t 141)), none⟩, ⟨some 142, .q (.ext (.t 137) 0), none⟩, ⟨some 143, .q (.ext (.t 137) 1), none⟩, ⟨some 16, .q (.mv (.t 142)), none⟩, ⟨some 17, .q (.mv (.t 143)), none⟩]
def c9_46 : List SOper := [⟨some 144, .q (.mv (.t 7)), none⟩, ⟨some 145, .q (.mv (.t 17)), none⟩, ⟨some 146, .q (.eqb true (.t 144) (.t 145)), none⟩]
def c9_47 : List SOper := [⟨some 2, .q (.mv (.c (.bool false))), none⟩]
def c9_48 : SCode := .seq (.region c9_47 [2]) .ret
def c9_49 : SCode := .cond (.t 146) c9_48 .skip
def c9_50 : SCode := .seq (.region c9_46 [3, 4, 5, 6, 7, 146]) c9_49
def c9_51 : SCode := .seq (.region c9_45 [3, 4, 5, 6, 7, 17]) c9_50
def c9_52 : List SOper := [⟨some 147, .q (.mv (.t 7)), none⟩, ⟨some 148, .q (.mv (.t 147)), none⟩, ⟨some 149, .q (.mv (.t 6)), some (148, true)⟩, ⟨some 150, .q (.len (.t 149)), some (148, true)⟩, ⟨some 151, .q (.mv (.t 3)), some (148, true)⟩, ⟨some 152, .q (.len (.t 151)), some (148, true)⟩, ⟨some 153, .q (.bin .eql (.t 150) (.t 152)), some (148, true)⟩, ⟨some 154, .q (.pick (.t 148) (.t 153) (.c (.bool false))), none⟩]
def c9_53 : List SOper := [⟨some 156, .q (.mv (.t 6)), none⟩, ⟨some 157, .q (.mv (.t 4)), none⟩, ⟨some 158, .q (.mv (.t 5)), none⟩, ⟨some 159, .q (.neg (.t 158)), none⟩, ⟨some 160, .e (.call 41 [(.t 156), (.t 157), (.t 159)]), none⟩, ⟨some 155, .q (.mv (.t 160)), none⟩, ⟨some 161, .q (.ext (.t 155) 0), none⟩, ⟨some 162, .q (.ext (.t 155) 1), none⟩, ⟨some 18, .q (.mv (.t 161)), none⟩, ⟨some 19, .q (.mv (.t 162)), none⟩]
def c9_54 : List SOper := [⟨some 163, .q (.mv (.t 19)), none⟩, ⟨some 164, .q (.not (.t 163)), none⟩, ⟨some 165, .q (.mv (.t 164)), none⟩, ⟨some 166, .q (.mv (.t 18)), some (165, false)⟩, ⟨some 167, .q (.mv (.t 3)), some (165, false)⟩, ⟨some 168, .e (.call 14 [(.t 166), (.t 167)]), some (165, false)⟩, ⟨some 169, .q (.not (.t 168)), some (165, false)⟩, ⟨some 170, .q (.pick (.t 165) (.c (.bool true)) (.t 169)), none⟩, ⟨some 171, .q (.mv (.t 170)), none⟩, ⟨some 172, .q (.mv (.t 6)), some (171, false)⟩, ⟨some 173, .q (.mv (.t 4)), some (171, false)⟩, ⟨some 174, .q (.ia 3 (.t 172) (.t 173)), some (171, false)⟩, ⟨some 175, .q (.ldn 3 (.t 174)), some (171, false)⟩, ⟨some 176, .q (.mv (.t 3)), some (171, false)⟩, ⟨some 177, .q (.mv (.t 4)), some (171, false)⟩, ⟨some 178, .q (.ia 3 (.t 176) (.t 177)), some (171, false)⟩, ⟨some 179, .q (.ldn 3 (.t 178)), some (171, false)⟩, ⟨some 180, .q (.eqi true 3 (.t 175) (.t 179)), some (171, false)⟩, ⟨some 181, .q (.pick (.t 171) (.c (.bool true)) (.t 180)), none⟩]
def c9_55 : List SOper := [⟨some 2, .q (.mv (.c (.bool false))), none⟩]
def c9_56 : SCode := .seq (.region c9_55 [2]) .ret
def c9_57 : SCode := .cond (.t 181) c9_56 .skip
def c9_58 : SCode := .seq (.region c9_54 [3, 4, 5, 181]) c9_57
def c9_59 : SCode := .seq (.region c9_53 [3, 4, 5, 6, 18, 19]) c9_58
def c9_60 : SCode := .cond (.t 154) c9_59 .skip
def c9_61 : SCode := .seq (.region c9_52 [3, 4, 5, 6, 154]) c9_60
def c9_62 : List SOper := [⟨some 183, .q (.mv (.t 3)), none⟩, ⟨some 184, .q (.mv (.t 4)), none⟩, ⟨some 185, .q (.mv (.t 5)), none⟩, ⟨some 186, .e (.call 43 [(.t 183), (.t 184), (.t 185)]), none⟩, ⟨some 182, .q (.mv (.t 186)), none⟩, ⟨some 187, .q (.ext (.t 182) 0), none⟩, ⟨some 188, .q (.ext (.t 182) 1), none⟩, ⟨some 6, .q (.mv (.t 187)), none⟩, ⟨some 7, .q (.mv (.t 188)), none⟩]
def c9_63 : List SOper := [⟨some 190, .q (.mv (.t 3)), none⟩, ⟨some 191, .q (.mv (.t 4)), none⟩, ⟨some 192, .q (.mv (.t 5)), none⟩, ⟨some 193, .e (.call 44 [(.t 190), (.t 191), (.t 192)]), none⟩, ⟨some 189, .q (.mv (.t 193)), none⟩, ⟨some 194, .q (.ext (.t 189) 0), none⟩, ⟨some 195, .q (.ext (.t 189) 1), none⟩, ⟨some 20, .q (.mv (.t 194)), none⟩, ⟨some 21, .q (.mv (.t 195)), none⟩]
def c9_64 : List SOper := [⟨some 196, .q (.mv (.t 7)), none⟩, ⟨some 197, .q (.mv (.t 21)), none⟩, ⟨some 198, .q (.eqb true (.t 196) (.t 197)), none⟩]
def c9_65 : List SOper := [⟨some 2, .q (.mv (.c (.bool false))), none⟩]
def c9_66 : SCode := .seq (.region c9_65 [2]) .ret
def c9_67 : SCode := .cond (.t 198) c9_66 .skip
def c9_68 : SCode := .seq (.region c9_64 [3, 4, 5, 6, 7, 198]) c9_67
def c9_69 : SCode := .seq (.region c9_63 [3, 4, 5, 6, 7, 21]) c9_68
def c9_70 : List SOper := [⟨some 199, .q (.mv (.t 7)), none⟩, ⟨some 200, .q (.mv (.t 199)), none⟩, ⟨some 201, .q (.mv (.t 6)), some (200, true)⟩, ⟨some 202, .q (.len (.t 201)), some (200, true)⟩, ⟨some 203, .q (.mv (.t 3)), some (200, true)⟩, ⟨some 204, .q (.len (.t 203)), some (200, true)⟩, ⟨some 205, .q (.bin .eql (.t 202) (.t 204)), some (200, true)⟩, ⟨some 206, .q (.pick (.t 200) (.t 205) (.c (.bool false))), none⟩]
def c9_71 : List SOper := [⟨some 208, .q (.mv (.t 6)), none⟩, ⟨some 209, .q (.mv (.t 4)), none⟩, ⟨some 210, .q (.mv (.t 5)), none⟩, ⟨some 211, .q (.neg (.t 210)), none⟩, ⟨some 212, .e (.call 43 [(.t 208), (.t 209), (.t 211)]), none⟩, ⟨some 207, .q (.mv (.t 212)), none⟩, ⟨some 213, .q (.ext (.t 207) 0), none⟩, ⟨some 214, .q (.ext (.t 207) 1), none⟩, ⟨some 22, .q (.mv (.t 213)), none⟩, ⟨some 23, .q (.mv (.t 214)), none⟩]
def c9_72 : List SOper := [⟨some 215, .q (.mv (.t 23)), none⟩, ⟨some 216, .q (.not (.t 215)), none⟩, ⟨some 217, .q (.mv (.t 216)), none⟩, ⟨some 218, .q (.mv (.t 22)), some (217, false)⟩, ⟨some 219, .q (.mv (.t 3)), some (217, false)⟩, ⟨some 220, .e (.call 14 [(.t 218), (.t 219)]), some (217, false)⟩, ⟨some 221, .q (.not (.t 220)), some (217, false)⟩, ⟨some 222, .q (.pick (.t 217) (.c (.bool true)) (.t 221)), none⟩, ⟨some 223, .q (.mv (.t 222)), none⟩, ⟨some 224, .q (.mv (.t 6)), some (223, false)⟩, ⟨some 225, .e (.call 16 [(.t 224)]), some (223, false)⟩, ⟨some 226, .q (.mv (.t 3)), some (223, false)⟩, ⟨some 227, .e (.call 16 [(.t 226)]), some (223, false)⟩, ⟨some 228, .q (.mv (.t 5)), some (223, false)⟩, ⟨some 229, .q (.bin .add (.t 227) (.t 228)), some (223, false)⟩, ⟨some 230, .q (.bin .neq (.t 225) (.t 229)), some (223, false)⟩, ⟨some 231, .q (.pick (.t 223) (.c (.bool true)) (.t 230)), none⟩]
def c9_73 : List SOper := [⟨some 2, .q (.mv (.c (.bool false))), none⟩]
def c9_74 : SCode := .seq (.region c9_73 [2]) .ret
def c9_75 : SCode := .cond (.t 231) c9_74 .skip
def c9_76 : SCode := .seq (.region c9_72 [231]) c9_75
def c9_77 : SCode := .seq (.region c9_71 [3, 5, 6, 22, 23]) c9_76
def c9_78 : SCode := .cond (.t 206) c9_77 .skip
def c9_79 : SCode := .seq (.region c9_70 [3, 4, 5, 6, 206]) c9_78
def c9_80 : List SOper := [⟨some 2, .q (.mv (.c (.bool true))), none⟩]
def c9_81 : SCode := .seq (.region c9_80 [2]) .ret
def c9_82 : SCode := .seq c9_79 c9_81
def c9_83 : SCode := .seq c9_69 c9_82
def c9_84 : SCode := .seq (.region c9_62 [3, 4, 5, 6, 7]) c9_83
def c9_85 : SCode := .seq c9_61 c9_84
def c9_86 : SCode := .seq c9_51 c9_85
def c9_87 : SCode := .seq (.region c9_44 [3, 4, 5, 6, 7]) c9_86
def c9_88 : SCode := .seq c9_43 c9_87
def c9_89 : SCode := .seq c9_33 c9_88
def c9_90 : SCode := .seq (.region c9_26 [3, 4, 5, 6, 7]) c9_89
def c9_91 : SCode := .seq c9_25 c9_90
def c9_92 : SCode := .seq c9_15 c9_91
def c9_93 : SCode := .seq (.region c9_8 [3, 4, 5, 6, 7]) c9_92
def c9_94 : SCode := .seq (.region c9_7 [3, 4, 5]) c9_93
def c9_95 : SCode := .seq (.region c9_6 [3, 4, 5]) c9_94
def c9_96 : SCode := .seq c9_5 c9_95
def c9_97 : SCode := .seq (.region c9_0 [0]) c9_96
def c9 : SCode := c9_97
theorem w9 : type_of% (And.intro (uR Try.prog c9_0.eq_1) (And.intro (uR Try.prog c9_1.eq_1) (And.intro (uR Try.prog c9_2.eq_1) (And.intro (uC Try.prog c9_3.eq_1) (And.intro (uC Try.prog c9_4.eq_1) (And.intro (uC Try.prog c9_5.eq_1) (And.intro (uR Try.prog c9_6.eq_1) (And.intro (uR Try.prog c9_7.eq_1) (And.intro (uR Try.prog c9_8.eq_1) (And.intro (uR Try.prog c9_9.eq_1) (And.intro (uR Try.prog c9_10.eq_1) (And.intro (uR Try.prog c9_11.eq_1) (And.intro (uC Try.prog c9_12.eq_1) (And.intro (uC Try.prog c9_13.eq_1) (And.intro (uC Try.prog c9_14.eq_1) (And.intro (uC Try.prog c9_15.eq_1) (And.intro (uR Try.prog c9_16.eq_1) (And.intro (uR Try.prog c9_17.eq_1) (And.intro (uR Try.prog c9_18.eq_1) (And.intro (uR Try.prog c9_19.eq_1) (And.intro (uC Try.prog c9_20.eq_1) (And.intro (uC Try.prog c9_21.eq_1) (And.intro (uC Try.prog c9_22.eq_1) (And.intro (uC Try.prog c9_23.eq_1) (And.intro (uC Try.prog c9_24.eq_1) (And.intro (uC Try.prog c9_25.eq_1) (And.intro (uR Try.prog c9_26.eq_1) (And.intro (uR Try.prog c9_27.eq_1) (And.intro (uR Try.prog c9_28.eq_1) (And.intro (uR Try.prog c9_29.eq_1) (And.intro (uC Try.prog c9_30.eq_1) (And.intro (uC Try.prog c9_31.eq_1) (And.intro (uC Try.prog c9_32.eq_1) (And.intro (uC Try.prog c9_33.eq_1) (And.intro (uR Try.prog c9_34.eq_1) (And.intro (uR Try.prog c9_35.eq_1) (And.intro (uR Try.prog c9_36.eq_1) (And.intro (uR Try.prog c9_37.eq_1) (And.intro (uC Try.prog c9_38.eq_1) (And.intro (uC Try.prog c9_39.eq_1) (And.intro (uC Try.prog c9_40.eq_1) (And.intro (uC Try.prog c9_41.eq_1) (And.intro (uC Try.prog c9_42.eq_1) (And.intro (uC Try.prog c9_43.eq_1) (And.intro (uR Try.prog c9_44.eq_1) (And.intro (uR Try.prog c9_45.eq_1) (And.intro (uR Try.prog c9_46.eq_1) (And.intro (uR Try.prog c9_47.eq_1) (And.intro (uC Try.prog c9_48.eq_1) (And.intro (uC Try.prog c9_49.eq_1) (And.intro (uC Try.prog c9_50.eq_1) (And.intro (uC Try.prog c9_51.eq_1) (And.intro (uR Try.prog c9_52.eq_1) (And.intro (uR Try.prog c9_53.eq_1) (And.intro (uR Try.prog c9_54.eq_1) (And.intro (uR Try.prog c9_55.eq_1) (And.intro (uC Try.prog c9_56.eq_1) (And.intro (uC Try.prog c9_57.eq_1) (And.intro (uC Try.prog c9_58.eq_1) (And.intro (uC Try.prog c9_59.eq_1) (And.intro (uC Try.prog c9_60.eq_1) (And.intro (uC Try.prog c9_61.eq_1) (And.intro (uR Try.prog c9_62.eq_1) (And.intro (uR Try.prog c9_63.eq_1) (And.intro (uR Try.prog c9_64.eq_1) (And.intro (uR Try.prog c9_65.eq_1) (And.intro (uC Try.prog c9_66.eq_1) (And.intro (uC Try.prog c9_67.eq_1) (And.intro (uC Try.prog c9_68.eq_1) (And.intro (uC Try.prog c9_69.eq_1) (And.intro (uR Try.prog c9_70.eq_1) (And.intro (uR Try.prog c9_71.eq_1) (And.intro (uR Try.prog c9_72.eq_1) (And.intro (uR Try.prog c9_73.eq_1) (And.intro (uC Try.prog c9_74.eq_1) (And.intro (uC Try.prog c9_75.eq_1) (And.intro (uC Try.prog c9_76.eq_1) (And.intro (uC Try.prog c9_77.eq_1) (And.intro (uC Try.prog c9_78.eq_1) (And.intro (uC Try.prog c9_79.eq_1) (And.intro (uR Try.prog c9_80.eq_1) (And.intro (uC Try.prog c9_81.eq_1) (And.intro (uC Try.prog c9_82.eq_1) (And.intro (uC Try.prog c9_83.eq_1) (And.intro (uC Try.prog c9_84.eq_1) (And.intro (uC Try.prog c9_85.eq_1) (And.intro (uC Try.prog c9_86.eq_1) (And.intro (uC Try.prog c9_87.eq_1) (And.intro (uC Try.prog c9_88.eq_1) (And.intro (uC Try.prog c9_89.eq_1) (And.intro (uC Try.prog c9_90.eq_1) (And.intro (uC Try.prog c9_91.eq_1) (And.intro (uC Try.prog c9_92.eq_1) (And.intro (uC Try.prog c9_93.eq_1) (And.intro (uC Try.prog c9_94.eq_1) (And.intro (uC Try.prog c9_95.eq_1) (And.intro (uC Try.prog c9_96.eq_1) (And.intro (uC Try.prog c9_97.eq_1) (uC Try.prog c9.eq_1))))))))))))))))))))))))))))))))))))))))))))))))))))))))))))))))))))))))))))))))))))))))))))))))))) := (And.intro (uR Try.prog c9_0.eq_1) (And.intro (uR Try.prog c9_1.eq_1) (And.intro (uR Try.prog c9_2.eq_1) (And.intro (uC Try.prog c9_3.eq_1) (And.intro (uC Try.prog c9_4.eq_1) (And.intro (uC Try.prog c9_5.eq_1) (And.intro (uR Try.prog c9_6.eq_1) (And.intro (uR Try.prog c9_7.eq_1) (And.intro (uR Try.prog c9_8.eq_1) (And.intro (uR Try.prog c9_9.eq_1) (And.intro (uR Try.prog c9_10.eq_1) (And.intro (uR Try.prog c9_11.eq_1) (And.intro (uC Try.prog c9_12.eq_1) (And.intro (uC Try.prog c9_13.eq_1) (And.intro (uC Try.prog c9_14.eq_1) (And.intro (uC Try.prog c9_15.eq_1) (And.intro (uR Try.prog c9_16.eq_1) (And.intro (uR Try.prog c9_17.eq_1) (And.intro (uR Try.prog c9_18.eq_1) (And.intro (uR Try.prog c9_19.eq_1) (And.intro (uC Try.prog c9_20.eq_1) (And.intro (uC Try.prog c9_21.eq_1) (And.intro (uC Try.prog c9_22.eq_1) (And.intro (uC Try.prog c9_23.eq_1) (And.intro (uC Try.prog c9_24.eq_1) (And.intro (uC Try.prog c9_25.eq_1) (And.intro (uR Try.prog c9_26.eq_1) (And.intro (uR Try.prog c9_27.eq_1) (And.intro (uR Try.prog c9_28.eq_1) (And.intro (uR Try.prog c9_29.eq_1) (And.intro (uC Try.prog c9_30.eq_1) (And.intro (uC Try.prog c9_31.eq_1) (And.intro (uC Try.prog c9_32.eq_1) (And.intro (uC Try.prog c9_33.eq_1) (And.intro (uR Try.prog c9_34.eq_1) (And.intro (uR Try.prog c9_35.eq_1) (And.intro (uR Try.prog c9_36.eq_1) (And.intro (uR Try.prog c9_37.eq_1) (And.intro (uC Try.prog c9_38.eq_1) (And.intro (uC Try.prog c9_39.eq_1) (And.intro (uC Try.prog c9_40.eq_1) (And.intro (uC Try.prog c9_41.eq_1) (And.intro (uC Try.prog c9_42.eq_1) (And.intro (uC Try.prog c9_43.eq_1) (And.intro (uR Try.prog c9_44.eq_1) (And.intro (uR Try.prog c9_45.eq_1) (And.intro (uR Try.prog c9_46.eq_1) (And.intro (uR Try.prog c9_47.eq_1) (And.intro (uC Try.prog c9_48.eq_1) (And.intro (uC Try.prog c9_49.eq_1) (And.intro (uC Try.prog c9_50.eq_1) (And.intro (uC Try.prog c9_51.eq_1) (And.intro (uR Try.prog c9_52.eq_1) (And.intro (uR Try.prog c9_53.eq_1) (And.intro (uR Try.prog c9_54.eq_1) (And.intro (uR Try.prog c9_55.eq_1) (And.intro (uC Try.prog c9_56.eq_1) (And.intro (uC Try.prog c9_57.eq_1) (And.intro (uC Try.prog c9_58.eq_1) (And.intro (uC Try.prog c9_59.eq_1) (And.intro (uC Try.prog c9_60.eq_1) (And.intro (uC Try.prog c9_61.eq_1) (And.intro (uR Try.prog c9_62.eq_1) (And.intro (uR Try.prog c9_63.eq_1) (And.intro (uR Try.prog c9_64.eq_1) (And.intro (uR Try.prog c9_65.eq_1) (And.intro (uC Try.prog c9_66.eq_1) (And.intro (uC Try.prog c9_67.eq_1) (And.intro (uC Try.prog c9_68.eq_1) (And.intro (uC Try.prog c9_69.eq_1) (And.intro (uR Try.prog c9_70.eq_1) (And.intro (uR Try.prog c9_71.eq_1) (And.intro (uR Try.prog c9_72.eq_1) (And.intro (uR Try.prog c9_73.eq_1) (And.intro (uC Try.prog c9_74.eq_1) (And.intro (uC Try.prog c9_75.eq_1) (And.intro (uC Try.prog c9_76.eq_1) (And.intro (uC Try.prog c9_77.eq_1) (And.intro (uC Try.prog c9_78.eq_1) (And.intro (uC Try.prog c9_79.eq_1) (And.intro (uR Try.prog c9_80.eq_1) (And.intro (uC Try.prog c9_81.eq_1) (And.intro (uC Try.prog c9_82.eq_1) (And.intro (uC Try.prog c9_83.eq_1) (And.intro (uC Try.prog c9_84.eq_1) (And.intro (uC Try.prog c9_85.eq_1) (And.intro (uC Try.prog c9_86.eq_1) (And.intro (uC Try.prog c9_87.eq_1) (And.intro (uC Try.prog c9_88.eq_1) (And.intro (uC Try.prog c9_89.eq_1) (And.intro (uC Try.prog c9_90.eq_1) (And.intro (uC Try.prog c9_91.eq_1) (And.intro (uC Try.prog c9_92.eq_1) (And.intro (uC Try.prog c9_93.eq_1) (And.intro (uC Try.prog c9_94.eq_1) (And.intro (uC Try.prog c9_95.eq_1) (And.intro (uC Try.prog c9_96.eq_1) (And.intro (uC Try.prog c9_97.eq_1) (uC Try.prog c9.eq_1)))))))))))))))))))))))))))))))))))))))))))))))))))))))))))))))))))))))))))))))))))))))))))))))))))
def v9 : List RV := [.t 2]
theorem s9 : slimF Try.prog Try.f9 = some (c9.bare, v9) := by kernel_rfl

def joinedS (l : List Clip) : List Clip := if trackOk l then join l else []
theorem specJoined_ok (h : Heap) (v : Value) (l : List Clip) (s : SlT h encClip 3 v l) (hl : l.length ≤ 1100000) : ACall Try.prog 36 [v] h fun r h' => Fresh h h' encClip 3 r (joinedS l) := by
  refine ACall.of Try.func36 s36 (of_decide_eq_true rfl) ?_
  simp (maxSteps := 4000000) (disch := omega) only [ah, am, Nat.reduceEqDiff, reduceCtorEq, Nat.reduceAdd, Nat.reduceLeDiff, Nat.reduceMul, Nat.reduceLT, if_true, if_false, true_and, and_true, and_self, Nat.reduceBEq, QOp.loads, boxO, bslO, buildO, cutL, fillV, putL, w36, v36]
  refine stepC.of (TrackOk_ok _ _ _ s (by omega)) ?_
  rintro _ H1 ⟨e1, rfl⟩
  by_cases ht : trackOk l
  · have ht' : decide (trackOk l) = true := decide_eq_true ht
    simp (maxSteps := 4000000) (disch := omega) only [ah, am, Nat.reduceEqDiff, reduceCtorEq, Nat.reduceAdd, Nat.reduceLeDiff, Nat.reduceMul, Nat.reduceLT, if_true, if_false, true_and, and_true, and_self, Nat.reduceBEq, QOp.loads, boxO, bslO, buildO, cutL, fillV, putL, w36, v36, ht']
    refine stepC.of (l4Join_ok _ _ _ (s.ext e1) hl (fun k hk => (ht.2.1 k hk).in)) ?_
    intro r H2 F
    simp (maxSteps := 4000000) (disch := omega) only [ah, am, Nat.reduceEqDiff, reduceCtorEq, Nat.reduceAdd, Nat.reduceLeDiff, Nat.reduceMul, Nat.reduceLT, if_true, if_false, true_and, and_true, and_self, Nat.reduceBEq, QOp.loads, boxO, bslO, buildO, cutL, fillV, putL, w36, v36]
    rw [show joinedS l = join l from if_pos ht]
    exact F.mono e1
  · have ht' : decide (trackOk l) = false := decide_eq_false ht
    simp (maxSteps := 4000000) (disch := omega) only [ah, am, Nat.reduceEqDiff, reduceCtorEq, Nat.reduceAdd, Nat.reduceLeDiff, Nat.reduceMul, Nat.reduceLT, if_true, if_false, true_and, and_true, and_self, Nat.reduceBEq, QOp.loads, boxO, bslO, buildO, cutL, fillV, putL, w36, v36, ht']
    rw [show joinedS l = [] from if_neg ht]
    exact (Fresh.new0 _ encClip_len (by omega)).mono e1
theorem FnTrims_ok (h : Heap) (v : Value) (code : List Int) (s : SlT h encByte 1 v code) (hl : code.length ≤ 9223372036854775807) :
    ACall Try.prog 9 [v] h fun r h' => r = .bool true := by
  refine ACall.of Try.func9 s9 (of_decide_eq_true rfl) ?_
  simp (maxSteps := 4000000) (disch := omega) only [ah, am, Nat.reduceEqDiff, reduceCtorEq, Nat.reduceAdd, Nat.reduceLeDiff, Nat.reduceMul, Nat.reduceLT, if_true, if_false, true_and, and_true, and_self, Nat.reduceBEq, QOp.loads, boxO, bslO, buildO, cutL, fillV, putL, w9, v9]
  refine stepC.of (big_ok _ _ _ s) ?_
  rintro _ Hx ⟨hx, rfl⟩; rw [hx]; clear hx Hx
  by_cases hb : 4096 < code.length
  · have hb' : decide (4096 < (code.length : Int)) = true := decide_eq_true (by omega)
    simp (maxSteps := 4000000) (disch := omega) only [ah, am, Nat.reduceEqDiff, reduceCtorEq, Nat.reduceAdd, Nat.reduceLeDiff, Nat.reduceMul, Nat.reduceLT, if_true, if_false, true_and, and_true, and_self, Nat.reduceBEq, QOp.loads, boxO, bslO, buildO, cutL, fillV, putL, w9, v9, hb']
  have hb' : decide (4096 < (code.length : Int)) = false := decide_eq_false (by omega)
  simp (maxSteps := 4000000) (disch := omega) only [ah, am, Nat.reduceEqDiff, reduceCtorEq, Nat.reduceAdd, Nat.reduceLeDiff, Nat.reduceMul, Nat.reduceLT, if_true, if_false, true_and, and_true, and_self, Nat.reduceBEq, QOp.loads, boxO, bslO, buildO, cutL, fillV, putL, w9, v9, hb']
  refine stepC.of (DrawRoll_ok _ _ _ s (by omega)) ?_
  rintro _ Ha ⟨t0, l, i, n, rfl, F, D⟩
  simp (maxSteps := 4000000) (disch := omega) only [ah, am, Nat.reduceEqDiff, reduceCtorEq, Nat.reduceAdd, Nat.reduceLeDiff, Nat.reduceMul, Nat.reduceLT, if_true, if_false, true_and, and_true, and_self, Nat.reduceBEq, QOp.loads, boxO, bslO, buildO, cutL, fillV, putL, w9, v9]
  refine stepC.of (specJoined_ok _ _ _ F.slt (by omega)) ?_
  intro tv H0 F0
  have hj : join (joinedS l) = joinedS l := by
    unfold joinedS
    split
    · rename_i ht; exact join_idem l (fun k hk => (ht.2.1 k hk).wf)
    · rfl
  have hD : (joinedS l).length ≤ 302 := by
    unfold joinedS
    split
    · have := join_length l; omega
    · simp
  generalize joinedS l = t at *
  have S0 := F0.slt
  have s5 : ∀ (E : Env) (H : Heap), SW Try.prog c9_81 (retQ [RV.t 2] fun r h' => r = .bool true) E H := by
    intro E H
    simp (maxSteps := 4000000) (disch := omega) only [ah, am, Nat.reduceEqDiff, reduceCtorEq, Nat.reduceAdd, Nat.reduceLeDiff, Nat.reduceMul, Nat.reduceLT, if_true, if_false, true_and, and_true, and_self, Nat.reduceBEq, QOp.loads, boxO, bslO, buildO, cutL, fillV, putL, w9, v9]
  have s4 : ∀ (E : Env) (H : Heap), Ext H0 H → E.get 3 = some tv → E.get 4 = some (.int .i64 i) → E.get 5 = some (.int .i64 n) → SW Try.prog c9_84 (retQ [RV.t 2] fun r h' => r = .bool true) E H := by
    intro E H e E3 E4 E5
    rw [c9_84.eq_1, c9_83.eq_1, c9_82.eq_1]
    generalize c9_81 = fc at s5 ⊢
    have Sa := S0.ext e
    simp (maxSteps := 4000000) (disch := omega) only [ah, am, Nat.reduceEqDiff, reduceCtorEq, Nat.reduceAdd, Nat.reduceLeDiff, Nat.reduceMul, Nat.reduceLT, if_true, if_false, true_and, and_true, and_self, Nat.reduceBEq, QOp.loads, boxO, bslO, buildO, cutL, fillV, putL, w9, v9, E3, E4, E5]
    refine stepC.of (Ripple_ok _ _ t i n Sa (by omega)) ?_
    rintro _ H1 ⟨uv, rfl, F1⟩
    have hlen := turnF_len t i n (fun k => ⟨k.src, k.inn, k.len + n⟩)
    obtain ⟨u, is, hR⟩ : ∃ u is, turnF t i n (fun k => ⟨k.src, k.inn, k.len + n⟩) = (u, is) := ⟨_, _, rfl⟩
    simp (maxSteps := 4000000) (disch := omega) only [ah, am, Nat.reduceEqDiff, reduceCtorEq, Nat.reduceAdd, Nat.reduceLeDiff, Nat.reduceMul, Nat.reduceLT, if_true, if_false, true_and, and_true, and_self, Nat.reduceBEq, QOp.loads, boxO, bslO, buildO, cutL, fillV, putL, w9, v9, E3, E4, E5]
    refine stepC.of (specRipple_ok _ _ t i n (Sa.ext F1.1) (by omega)) ?_
    rintro _ H2 ⟨wv, rfl, F2⟩
    rw [hR] at F1 F2 hlen ⊢
    simp only at F1 F2 hlen ⊢
    have U2 := F1.slt.ext F2.1
    have S2 := (Sa.ext F1.1).ext F2.1
    have e2 := (e.trans F1.1).trans F2.1
    have RU := U2.rulesN
    have RS := S2.rulesN
    have nx := fun E => s5 E H2
    cases is with
    | false =>
      simp (maxSteps := 4000000) (disch := omega) only [ah, am, Nat.reduceEqDiff, reduceCtorEq, Nat.reduceAdd, Nat.reduceLeDiff, Nat.reduceMul, Nat.reduceLT, if_true, if_false, true_and, and_true, and_self, Nat.reduceBEq, QOp.loads, boxO, bslO, buildO, cutL, fillV, putL, w9, v9, E3, E4, E5, eqbV_bool', beq_self_eq_true]
      exact nx _
    | true =>
      by_cases hl : u.length = t.length
      rotate_left
      · have hl' : decide ((u.length : Int) = t.length) = false := decide_eq_false (by omega)
        simp (maxSteps := 4000000) (disch := omega) only [ah, am, Nat.reduceEqDiff, reduceCtorEq, Nat.reduceAdd, Nat.reduceLeDiff, Nat.reduceMul, Nat.reduceLT, if_true, if_false, true_and, and_true, and_self, Nat.reduceBEq, QOp.loads, boxO, bslO, buildO, cutL, fillV, putL, w9, v9, E3, E4, E5, eqbV_bool', beq_self_eq_true, RU, RS, hl']
        exact nx _
      have hl' : decide ((u.length : Int) = t.length) = true := decide_eq_true (by omega)
      obtain ⟨ht, hu, hn, he, hi, hB⟩ := turn_back (f := fun k => ⟨k.src, k.inn, k.len + n⟩) (g := fun k => ⟨k.src, k.inn, k.len + -n⟩) hj (fun k => by obtain ⟨a, b, c⟩ := k; show (⟨a, b, c + n + -n⟩ : Clip) = ⟨a, b, c⟩; congr 1; omega) (fun k => rfl) hR hl
      have hsu : sumLen u = sumLen t + n := by rw [he, sumLen_set _ _ hi, cAt_eq t i hi]; simp only; omega
      have W : IntKind.i64.wrap (0 - n) = -n := i64e (by omega) (by omega)
      simp (maxSteps := 4000000) (disch := omega) only [ah, am, Nat.reduceEqDiff, reduceCtorEq, Nat.reduceAdd, Nat.reduceLeDiff, Nat.reduceMul, Nat.reduceLT, if_true, if_false, true_and, and_true, and_self, Nat.reduceBEq, QOp.loads, boxO, bslO, buildO, cutL, fillV, putL, w9, v9, E3, E4, E5, eqbV_bool', beq_self_eq_true, RU, RS, hl', W]
      refine stepC.of (Ripple_ok _ _ u i (-n) U2 (by omega)) ?_
      rintro _ H3 ⟨bv, rfl, F3⟩
      rw [hB] at F3 ⊢
      simp only at F3 ⊢
      have S3 := S2.ext F3.1
      have U3 := U2.ext F3.1
      simp (maxSteps := 4000000) (disch := omega) only [ah, am, Nat.reduceEqDiff, reduceCtorEq, Nat.reduceAdd, Nat.reduceLeDiff, Nat.reduceMul, Nat.reduceLT, if_true, if_false, true_and, and_true, and_self, Nat.reduceBEq, QOp.loads, boxO, bslO, buildO, cutL, fillV, putL, w9, v9]
      refine stepC.of (sameClips_ok _ _ _ _ _ F3.slt S3 (by omega) (by omega)) ?_
      rintro _ Hx ⟨hx, rfl⟩; rw [hx]; clear hx Hx
      have hB' := ht.2.2; have hB0 := (sumLen_bound ht.2.1).1
      simp (maxSteps := 4000000) (disch := omega) only [ah, am, Nat.reduceEqDiff, reduceCtorEq, Nat.reduceAdd, Nat.reduceLeDiff, Nat.reduceMul, Nat.reduceLT, if_true, if_false, true_and, and_true, and_self, Nat.reduceBEq, QOp.loads, boxO, bslO, buildO, cutL, fillV, putL, w9, v9, eq_self, decide_true]
      refine stepC.of (Length_ok _ _ _ U3 (by omega)) ?_
      rintro _ H4 ⟨e4, rfl⟩
      simp (maxSteps := 4000000) (disch := omega) only [ah, am, Nat.reduceEqDiff, reduceCtorEq, Nat.reduceAdd, Nat.reduceLeDiff, Nat.reduceMul, Nat.reduceLT, if_true, if_false, true_and, and_true, and_self, Nat.reduceBEq, QOp.loads, boxO, bslO, buildO, cutL, fillV, putL, w9, v9]
      refine stepC.of (Length_ok _ _ _ (S3.ext e4) (by omega)) ?_
      rintro _ H5 ⟨e5, rfl⟩
      rw [show lengthI u = sumLen u from if_pos hu, show lengthI t = sumLen t from if_pos ht, hsu]
      have nx := fun E => s5 E H5
      simp (maxSteps := 4000000) (disch := omega) only [ah, am, Nat.reduceEqDiff, reduceCtorEq, Nat.reduceAdd, Nat.reduceLeDiff, Nat.reduceMul, Nat.reduceLT, if_true, if_false, true_and, and_true, and_self, Nat.reduceBEq, QOp.loads, boxO, bslO, buildO, cutL, fillV, putL, w9, v9, i64w, eq_self, decide_true]
      exact nx _
  have s3 : ∀ (E : Env) (H : Heap), Ext H0 H → E.get 3 = some tv → E.get 4 = some (.int .i64 i) → E.get 5 = some (.int .i64 n) → SW Try.prog c9_87 (retQ [RV.t 2] fun r h' => r = .bool true) E H := by
    intro E H e E3 E4 E5
    rw [c9_87.eq_1, c9_86.eq_1, c9_85.eq_1]
    generalize c9_84 = fc at s4 ⊢
    have Sa := S0.ext e
    simp (maxSteps := 4000000) (disch := omega) only [ah, am, Nat.reduceEqDiff, reduceCtorEq, Nat.reduceAdd, Nat.reduceLeDiff, Nat.reduceMul, Nat.reduceLT, if_true, if_false, true_and, and_true, and_self, Nat.reduceBEq, QOp.loads, boxO, bslO, buildO, cutL, fillV, putL, w9, v9, E3, E4, E5]
    refine stepC.of (Slide_ok _ _ t i n Sa (by omega)) ?_
    rintro _ H1 ⟨uv, rfl, F1⟩
    have hlen := slideF_len t i n
    obtain ⟨u, is, hR⟩ : ∃ u is, slideF t i n = (u, is) := ⟨_, _, rfl⟩
    simp (maxSteps := 4000000) (disch := omega) only [ah, am, Nat.reduceEqDiff, reduceCtorEq, Nat.reduceAdd, Nat.reduceLeDiff, Nat.reduceMul, Nat.reduceLT, if_true, if_false, true_and, and_true, and_self, Nat.reduceBEq, QOp.loads, boxO, bslO, buildO, cutL, fillV, putL, w9, v9, E3, E4, E5]
    refine stepC.of (specSlide_ok _ _ t i n (Sa.ext F1.1) (by omega)) ?_
    rintro _ H2 ⟨wv, rfl, F2⟩
    rw [hR] at F1 F2 hlen ⊢
    simp only at F1 F2 hlen ⊢
    have U2 := F1.slt.ext F2.1
    have S2 := (Sa.ext F1.1).ext F2.1
    have e2 := (e.trans F1.1).trans F2.1
    have RU := U2.rulesN
    have RS := S2.rulesN
    have nx := fun E => s4 E H2 e2
    cases is with
    | false =>
      simp (maxSteps := 4000000) (disch := omega) only [ah, am, Nat.reduceEqDiff, reduceCtorEq, Nat.reduceAdd, Nat.reduceLeDiff, Nat.reduceMul, Nat.reduceLT, if_true, if_false, true_and, and_true, and_self, Nat.reduceBEq, QOp.loads, boxO, bslO, buildO, cutL, fillV, putL, w9, v9, E3, E4, E5, eqbV_bool', beq_self_eq_true]
      exact nx _ rfl rfl rfl
    | true =>
      by_cases hl : u.length = t.length
      rotate_left
      · have hl' : decide ((u.length : Int) = t.length) = false := decide_eq_false (by omega)
        simp (maxSteps := 4000000) (disch := omega) only [ah, am, Nat.reduceEqDiff, reduceCtorEq, Nat.reduceAdd, Nat.reduceLeDiff, Nat.reduceMul, Nat.reduceLT, if_true, if_false, true_and, and_true, and_self, Nat.reduceBEq, QOp.loads, boxO, bslO, buildO, cutL, fillV, putL, w9, v9, E3, E4, E5, eqbV_bool', beq_self_eq_true, RU, RS, hl']
        exact nx _ rfl rfl rfl
      have hl' : decide ((u.length : Int) = t.length) = true := decide_eq_true (by omega)
      obtain ⟨ht, hu, hn, hB, h1, h2, hg⟩ := slide_back hj hR hl
      have RI := (U2.rules)
      have RJ := (S2.rules)
      have hgd : ∀ (q1 : i.toNat < u.length) (q2 : i.toNat < t.length), decide (u[i.toNat]'q1 = t[i.toNat]'q2) = true := fun q1 q2 => by
        rw [List.getElem?_eq_getElem q1, List.getElem?_eq_getElem q2] at hg
        exact decide_eq_true (by simpa using hg)
      have W : IntKind.i64.wrap (0 - n) = -n := i64e (by omega) (by omega)
      simp (maxSteps := 4000000) (disch := omega) only [ah, am, Nat.reduceEqDiff, reduceCtorEq, Nat.reduceAdd, Nat.reduceLeDiff, Nat.reduceMul, Nat.reduceLT, if_true, if_false, true_and, and_true, and_self, Nat.reduceBEq, QOp.loads, boxO, bslO, buildO, cutL, fillV, putL, w9, v9, E3, E4, E5, eqbV_bool', beq_self_eq_true, RU, RS, hl', W]
      refine stepC.of (Slide_ok _ _ u i (-n) U2 (by omega)) ?_
      rintro _ H3 ⟨bv, rfl, F3⟩
      rw [hB] at F3 ⊢
      simp only at F3 ⊢
      have S3 := S2.ext F3.1
      have U3 := U2.ext F3.1
      simp (maxSteps := 4000000) (disch := omega) only [ah, am, Nat.reduceEqDiff, reduceCtorEq, Nat.reduceAdd, Nat.reduceLeDiff, Nat.reduceMul, Nat.reduceLT, if_true, if_false, true_and, and_true, and_self, Nat.reduceBEq, QOp.loads, boxO, bslO, buildO, cutL, fillV, putL, w9, v9]
      refine stepC.of (sameClips_ok _ _ _ _ _ F3.slt S3 (by omega) (by omega)) ?_
      rintro _ Hx ⟨hx, rfl⟩; rw [hx]; clear hx Hx
      have RI3 := U3.rules
      have RJ3 := S3.rules
      have nx := fun E => s4 E H3 (e2.trans F3.1)
      simp (maxSteps := 4000000) (disch := omega) only [ah, am, Nat.reduceEqDiff, reduceCtorEq, Nat.reduceAdd, Nat.reduceLeDiff, Nat.reduceMul, Nat.reduceLT, if_true, if_false, true_and, and_true, and_self, Nat.reduceBEq, QOp.loads, boxO, bslO, buildO, cutL, fillV, putL, w9, v9, eq_self, decide_true, RI3, RJ3, clip_eqi, encClip_len, Option.map_some, hgd]
      exact nx _ rfl rfl rfl
  have s2 : ∀ (E : Env) (H : Heap), Ext H0 H → E.get 3 = some tv → E.get 4 = some (.int .i64 i) → E.get 5 = some (.int .i64 n) → SW Try.prog c9_90 (retQ [RV.t 2] fun r h' => r = .bool true) E H := by
    intro E H e E3 E4 E5
    rw [c9_90.eq_1, c9_89.eq_1, c9_88.eq_1]
    generalize c9_87 = fc at s3 ⊢
    have Sa := S0.ext e
    simp (maxSteps := 4000000) (disch := omega) only [ah, am, Nat.reduceEqDiff, reduceCtorEq, Nat.reduceAdd, Nat.reduceLeDiff, Nat.reduceMul, Nat.reduceLT, if_true, if_false, true_and, and_true, and_self, Nat.reduceBEq, QOp.loads, boxO, bslO, buildO, cutL, fillV, putL, w9, v9, E3, E4, E5]
    refine stepC.of (Slip_ok _ _ t i n Sa (by omega)) ?_
    rintro _ H1 ⟨uv, rfl, F1⟩
    have hlen := turnF_len t i n (fun k => ⟨k.src, k.inn + n, k.len⟩)
    obtain ⟨u, is, hR⟩ : ∃ u is, turnF t i n (fun k => ⟨k.src, k.inn + n, k.len⟩) = (u, is) := ⟨_, _, rfl⟩
    simp (maxSteps := 4000000) (disch := omega) only [ah, am, Nat.reduceEqDiff, reduceCtorEq, Nat.reduceAdd, Nat.reduceLeDiff, Nat.reduceMul, Nat.reduceLT, if_true, if_false, true_and, and_true, and_self, Nat.reduceBEq, QOp.loads, boxO, bslO, buildO, cutL, fillV, putL, w9, v9, E3, E4, E5]
    refine stepC.of (specSlip_ok _ _ t i n (Sa.ext F1.1) (by omega)) ?_
    rintro _ H2 ⟨wv, rfl, F2⟩
    rw [hR] at F1 F2 hlen ⊢
    simp only at F1 F2 hlen ⊢
    have U2 := F1.slt.ext F2.1
    have S2 := (Sa.ext F1.1).ext F2.1
    have e2 := (e.trans F1.1).trans F2.1
    have RU := U2.rulesN
    have RS := S2.rulesN
    have nx := fun E => s3 E H2 e2
    cases is with
    | false =>
      simp (maxSteps := 4000000) (disch := omega) only [ah, am, Nat.reduceEqDiff, reduceCtorEq, Nat.reduceAdd, Nat.reduceLeDiff, Nat.reduceMul, Nat.reduceLT, if_true, if_false, true_and, and_true, and_self, Nat.reduceBEq, QOp.loads, boxO, bslO, buildO, cutL, fillV, putL, w9, v9, E3, E4, E5, eqbV_bool', beq_self_eq_true]
      exact nx _ rfl rfl rfl
    | true =>
      by_cases hl : u.length = t.length
      rotate_left
      · have hl' : decide ((u.length : Int) = t.length) = false := decide_eq_false (by omega)
        simp (maxSteps := 4000000) (disch := omega) only [ah, am, Nat.reduceEqDiff, reduceCtorEq, Nat.reduceAdd, Nat.reduceLeDiff, Nat.reduceMul, Nat.reduceLT, if_true, if_false, true_and, and_true, and_self, Nat.reduceBEq, QOp.loads, boxO, bslO, buildO, cutL, fillV, putL, w9, v9, E3, E4, E5, eqbV_bool', beq_self_eq_true, RU, RS, hl']
        exact nx _ rfl rfl rfl
      have hl' : decide ((u.length : Int) = t.length) = true := decide_eq_true (by omega)
      obtain ⟨ht, hu, hn, he, hi, hB⟩ := turn_back (f := fun k => ⟨k.src, k.inn + n, k.len⟩) (g := fun k => ⟨k.src, k.inn + -n, k.len⟩) hj (fun k => by obtain ⟨a, b, c⟩ := k; show (⟨a, b + n + -n, c⟩ : Clip) = ⟨a, b, c⟩; congr 1; omega) (fun k => rfl) hR hl
      have hsu : sumLen u = sumLen t := by rw [he, sumLen_set _ _ hi, cAt_eq t i hi]; simp only; omega
      have W : IntKind.i64.wrap (0 - n) = -n := i64e (by omega) (by omega)
      simp (maxSteps := 4000000) (disch := omega) only [ah, am, Nat.reduceEqDiff, reduceCtorEq, Nat.reduceAdd, Nat.reduceLeDiff, Nat.reduceMul, Nat.reduceLT, if_true, if_false, true_and, and_true, and_self, Nat.reduceBEq, QOp.loads, boxO, bslO, buildO, cutL, fillV, putL, w9, v9, E3, E4, E5, eqbV_bool', beq_self_eq_true, RU, RS, hl', W]
      refine stepC.of (Slip_ok _ _ u i (-n) U2 (by omega)) ?_
      rintro _ H3 ⟨bv, rfl, F3⟩
      rw [hB] at F3 ⊢
      simp only at F3 ⊢
      have S3 := S2.ext F3.1
      have U3 := U2.ext F3.1
      simp (maxSteps := 4000000) (disch := omega) only [ah, am, Nat.reduceEqDiff, reduceCtorEq, Nat.reduceAdd, Nat.reduceLeDiff, Nat.reduceMul, Nat.reduceLT, if_true, if_false, true_and, and_true, and_self, Nat.reduceBEq, QOp.loads, boxO, bslO, buildO, cutL, fillV, putL, w9, v9]
      refine stepC.of (sameClips_ok _ _ _ _ _ F3.slt S3 (by omega) (by omega)) ?_
      rintro _ Hx ⟨hx, rfl⟩; rw [hx]; clear hx Hx
      have hB' := ht.2.2
      simp (maxSteps := 4000000) (disch := omega) only [ah, am, Nat.reduceEqDiff, reduceCtorEq, Nat.reduceAdd, Nat.reduceLeDiff, Nat.reduceMul, Nat.reduceLT, if_true, if_false, true_and, and_true, and_self, Nat.reduceBEq, QOp.loads, boxO, bslO, buildO, cutL, fillV, putL, w9, v9, eq_self, decide_true]
      refine stepC.of (Length_ok _ _ _ U3 (by omega)) ?_
      rintro _ H4 ⟨e4, rfl⟩
      simp (maxSteps := 4000000) (disch := omega) only [ah, am, Nat.reduceEqDiff, reduceCtorEq, Nat.reduceAdd, Nat.reduceLeDiff, Nat.reduceMul, Nat.reduceLT, if_true, if_false, true_and, and_true, and_self, Nat.reduceBEq, QOp.loads, boxO, bslO, buildO, cutL, fillV, putL, w9, v9]
      refine stepC.of (Length_ok _ _ _ (S3.ext e4) (by omega)) ?_
      rintro _ H5 ⟨e5, rfl⟩
      rw [show lengthI u = sumLen u from if_pos hu, show lengthI t = sumLen t from if_pos ht, hsu]
      have nx := fun E => s3 E H5 (((e2.trans F3.1).trans e4).trans e5)
      simp (maxSteps := 4000000) (disch := omega) only [ah, am, Nat.reduceEqDiff, reduceCtorEq, Nat.reduceAdd, Nat.reduceLeDiff, Nat.reduceMul, Nat.reduceLT, if_true, if_false, true_and, and_true, and_self, Nat.reduceBEq, QOp.loads, boxO, bslO, buildO, cutL, fillV, putL, w9, v9, eq_self, decide_true]
      exact nx _ rfl rfl rfl
  have s1 : ∀ (E : Env) (H : Heap), Ext H0 H → E.get 3 = some tv → E.get 4 = some (.int .i64 i) → E.get 5 = some (.int .i64 n) → SW Try.prog c9_93 (retQ [RV.t 2] fun r h' => r = .bool true) E H := by
    intro E H e E3 E4 E5
    rw [c9_93.eq_1, c9_92.eq_1, c9_91.eq_1]
    generalize c9_90 = fc at s2 ⊢
    have Sa := S0.ext e
    simp (maxSteps := 4000000) (disch := omega) only [ah, am, Nat.reduceEqDiff, reduceCtorEq, Nat.reduceAdd, Nat.reduceLeDiff, Nat.reduceMul, Nat.reduceLT, if_true, if_false, true_and, and_true, and_self, Nat.reduceBEq, QOp.loads, boxO, bslO, buildO, cutL, fillV, putL, w9, v9, E3, E4, E5]
    refine stepC.of (Roll_ok _ _ t i n Sa (by omega)) ?_
    rintro _ H1 ⟨uv, rfl, F1⟩
    have hlen := moveF_len t i (i + 1) n
    obtain ⟨u, is, hR⟩ : ∃ u is, moveF t i (i + 1) n = (u, is) := ⟨_, _, rfl⟩
    simp (maxSteps := 4000000) (disch := omega) only [ah, am, Nat.reduceEqDiff, reduceCtorEq, Nat.reduceAdd, Nat.reduceLeDiff, Nat.reduceMul, Nat.reduceLT, if_true, if_false, true_and, and_true, and_self, Nat.reduceBEq, QOp.loads, boxO, bslO, buildO, cutL, fillV, putL, w9, v9, E3, E4, E5]
    refine stepC.of (specRoll_ok _ _ t i n (Sa.ext F1.1) (by omega)) ?_
    rintro _ H2 ⟨wv, rfl, F2⟩
    rw [hR] at F1 F2 hlen ⊢
    simp only at F1 F2 hlen ⊢
    have U2 := F1.slt.ext F2.1
    have S2 := (Sa.ext F1.1).ext F2.1
    have e2 := (e.trans F1.1).trans F2.1
    have RU := U2.rulesN
    have RS := S2.rulesN
    have nx := fun E => s2 E H2 e2
    cases is with
    | false =>
      simp (maxSteps := 4000000) (disch := omega) only [ah, am, Nat.reduceEqDiff, reduceCtorEq, Nat.reduceAdd, Nat.reduceLeDiff, Nat.reduceMul, Nat.reduceLT, if_true, if_false, true_and, and_true, and_self, Nat.reduceBEq, QOp.loads, boxO, bslO, buildO, cutL, fillV, putL, w9, v9, E3, E4, E5, eqbV_bool', beq_self_eq_true]
      exact nx _ rfl rfl rfl
    | true =>
      by_cases hl : u.length = t.length
      rotate_left
      · have hl' : decide ((u.length : Int) = t.length) = false := decide_eq_false (by omega)
        simp (maxSteps := 4000000) (disch := omega) only [ah, am, Nat.reduceEqDiff, reduceCtorEq, Nat.reduceAdd, Nat.reduceLeDiff, Nat.reduceMul, Nat.reduceLT, if_true, if_false, true_and, and_true, and_self, Nat.reduceBEq, QOp.loads, boxO, bslO, buildO, cutL, fillV, putL, w9, v9, E3, E4, E5, eqbV_bool', beq_self_eq_true, RU, RS, hl']
        exact nx _ rfl rfl rfl
      have hl' : decide ((u.length : Int) = t.length) = true := decide_eq_true (by omega)
      have hii : i.toNat ≠ (i + 1).toNat := by
        have : moveF t i (i + 1) n = (u, true) := hR
        unfold moveF at this
        split at this
        · rename_i hc; have := hc.2.2.1.1; omega
        · cases this
      obtain ⟨ht, hu, hn, _, _, _, hB, hsu⟩ := move_back hj hii hR hl
      have W : IntKind.i64.wrap (0 - n) = -n := i64e (by omega) (by omega)
      simp (maxSteps := 4000000) (disch := omega) only [ah, am, Nat.reduceEqDiff, reduceCtorEq, Nat.reduceAdd, Nat.reduceLeDiff, Nat.reduceMul, Nat.reduceLT, if_true, if_false, true_and, and_true, and_self, Nat.reduceBEq, QOp.loads, boxO, bslO, buildO, cutL, fillV, putL, w9, v9, E3, E4, E5, eqbV_bool', beq_self_eq_true, RU, RS, hl', W]
      refine stepC.of (Roll_ok _ _ u i (-n) U2 (by omega)) ?_
      rintro _ H3 ⟨bv, rfl, F3⟩
      rw [hB] at F3 ⊢
      simp only at F3 ⊢
      have S3 := S2.ext F3.1
      have U3 := U2.ext F3.1
      simp (maxSteps := 4000000) (disch := omega) only [ah, am, Nat.reduceEqDiff, reduceCtorEq, Nat.reduceAdd, Nat.reduceLeDiff, Nat.reduceMul, Nat.reduceLT, if_true, if_false, true_and, and_true, and_self, Nat.reduceBEq, QOp.loads, boxO, bslO, buildO, cutL, fillV, putL, w9, v9]
      refine stepC.of (sameClips_ok _ _ _ _ _ F3.slt S3 (by omega) (by omega)) ?_
      rintro _ Hx ⟨hx, rfl⟩; rw [hx]; clear hx Hx
      have hB' := ht.2.2
      simp (maxSteps := 4000000) (disch := omega) only [ah, am, Nat.reduceEqDiff, reduceCtorEq, Nat.reduceAdd, Nat.reduceLeDiff, Nat.reduceMul, Nat.reduceLT, if_true, if_false, true_and, and_true, and_self, Nat.reduceBEq, QOp.loads, boxO, bslO, buildO, cutL, fillV, putL, w9, v9, eq_self, decide_true]
      refine stepC.of (Length_ok _ _ _ U3 (by omega)) ?_
      rintro _ H4 ⟨e4, rfl⟩
      simp (maxSteps := 4000000) (disch := omega) only [ah, am, Nat.reduceEqDiff, reduceCtorEq, Nat.reduceAdd, Nat.reduceLeDiff, Nat.reduceMul, Nat.reduceLT, if_true, if_false, true_and, and_true, and_self, Nat.reduceBEq, QOp.loads, boxO, bslO, buildO, cutL, fillV, putL, w9, v9]
      refine stepC.of (Length_ok _ _ _ (S3.ext e4) (by omega)) ?_
      rintro _ H5 ⟨e5, rfl⟩
      rw [show lengthI u = sumLen u from if_pos hu, show lengthI t = sumLen t from if_pos ht, hsu]
      have nx := fun E => s2 E H5 (((e2.trans F3.1).trans e4).trans e5)
      simp (maxSteps := 4000000) (disch := omega) only [ah, am, Nat.reduceEqDiff, reduceCtorEq, Nat.reduceAdd, Nat.reduceLeDiff, Nat.reduceMul, Nat.reduceLT, if_true, if_false, true_and, and_true, and_self, Nat.reduceBEq, QOp.loads, boxO, bslO, buildO, cutL, fillV, putL, w9, v9, eq_self, decide_true]
      exact nx _ rfl rfl rfl
  have s1 := fun E => s1 E H0 (Ext.refl _)
  generalize c9_93 = fc at s1 ⊢
  simp (maxSteps := 4000000) (disch := omega) only [ah, am, Nat.reduceEqDiff, reduceCtorEq, Nat.reduceAdd, Nat.reduceLeDiff, Nat.reduceMul, Nat.reduceLT, if_true, if_false, true_and, and_true, and_self, Nat.reduceBEq, QOp.loads, boxO, bslO, buildO, cutL, fillV, putL, w9, v9]
  exact s1 _ rfl rfl rfl
end Go.Proofs.Ytknpombiomnkbaa
