/- Merged texts of this claim: V17, V18. -/
import Derived.Test.YtgmimgmdbpcecaaGreatDoorZbI
section
namespace Go.Proofs.YtgmimgmdbpcecaaGreatDoor
open Go Go.Ah
set_option linter.unusedSimpArgs false
set_option linter.unusedVariables false
set_option maxRecDepth 10000
set_option maxHeartbeats 4000000
/-! 20 loop.example/g00066/spec.l6Line: parameters 5, live [0, 1, 2, 3, 4], slots [0:r, 1:line, 2:no, 3:track, 4:at, 5:r, 6:line, 7:no, 8:track, 9:at, 12:w, 13:none, 14:i, 15:src, 16:n, 17:is, 18:t, 19:i, 20:n, 21:is, 22:k, 23:all] -/
def c20_0 : List SOper := [⟨some 5, .a (.box (.t 0)), none⟩, ⟨some 10, .a (.new [(.int .i64 0), (.int .i64 0), (.int .i64 0)]), none⟩, ⟨some 11, .q (.mv (.c (.int .i64 0))), none⟩]
def c20_1 : List SOper := [⟨some 24, .q (.mv (.t 1)), none⟩, ⟨some 25, .e (.call 41 [(.t 24)]), none⟩, ⟨some 12, .q (.mv (.t 25)), none⟩]
def c20_2 : List SOper := [⟨some 26, .q (.build [(.int .i64 0), (.int .i64 0), (.int .i64 0)] []), none⟩, ⟨some 13, .a (.new [(.int .i64 0), (.int .i64 0), (.int .i64 0)]), none⟩, ⟨none, .e (.st 3 (.t 13) (.t 26)), none⟩]
def c20_3 : List SOper := [⟨some 27, .q (.mv (.t 12)), none⟩, ⟨some 28, .q (.len (.t 27)), none⟩, ⟨some 29, .q (.bin .neq (.t 28) (.c (.int .i64 7))), none⟩]
def c20_4 : List SOper := [⟨some 30, .q (.ldn 3 (.t 13)), none⟩, ⟨none, .e (.st 3 (.t 10) (.t 30)), none⟩, ⟨some 11, .q (.mv (.c (.int .i64 4))), none⟩]
def c20_5 : SCode := .seq (.region c20_4 [10, 11]) .ret
def c20_6 : SCode := .cond (.t 29) c20_5 .skip
def c20_7 : SCode := .seq (.region c20_3 [2, 3, 4, 5, 10, 12, 13, 29]) c20_6
def c20_8 : List SOper := [⟨some 14, .q (.mv (.c (.int .i64 0))), none⟩]
def c20_9 : List SOper := [⟨some 31, .q (.mv (.t 14)), none⟩, ⟨some 32, .q (.bin .lss (.t 31) (.c (.int .i64 7))), none⟩]
def c20_10 : SCode := .cond (.t 32) .skip (.exit 0)
def c20_11 : SCode := .seq (.region c20_9 [2, 3, 4, 5, 10, 12, 13, 14, 32]) c20_10
def c20_12 : List SOper := [⟨some 35, .q (.mv (.t 12)), none⟩, ⟨some 36, .q (.mv (.t 14)), none⟩, ⟨some 37, .q (.ia 1 (.t 35) (.t 36)), none⟩, ⟨some 38, .q (.ld (.t 37)), none⟩, ⟨some 39, .q (.bin .eql (.t 38) (.c (.string ⟨#[]⟩))), none⟩]
def c20_13 : List SOper := [⟨some 40, .q (.ldn 3 (.t 13)), none⟩, ⟨none, .e (.st 3 (.t 10) (.t 40)), none⟩, ⟨some 11, .q (.mv (.c (.int .i64 4))), none⟩]
def c20_14 : SCode := .seq (.region c20_13 [10, 11]) .ret
def c20_15 : SCode := .cond (.t 39) c20_14 .skip
def c20_16 : SCode := .seq (.region c20_12 [2, 3, 4, 5, 10, 12, 13, 14, 39]) c20_15
def c20_17 : SCode := .block 1 c20_16
def c20_18 : List SOper := [⟨some 33, .q (.mv (.t 14)), none⟩, ⟨some 34, .q (.bin .add (.t 33) (.c (.int .i64 1))), none⟩, ⟨some 14, .q (.mv (.t 34)), none⟩]
def c20_19 : SCode := .seq c20_17 (.region c20_18 [2, 3, 4, 5, 10, 12, 13, 14])
def c20_20 : SCode := .seq c20_11 c20_19
def c20_21 : SCode := .loop c20_20
def c20_22 : SCode := .block 0 c20_21
def c20_23 : SCode := .seq (.region c20_8 [2, 3, 4, 5, 10, 12, 13, 14]) c20_22
def c20_24 : List DOper := [⟨0, ⟨some 41, .q (.mv (.t 12)), none⟩, [], []⟩, ⟨1, ⟨some 42, .q (.ia 1 (.t 41) (.c (.int .i64 0))), none⟩, [], []⟩, ⟨2, ⟨some 43, .q (.ld (.t 42)), none⟩, [], []⟩, ⟨3, ⟨some 44, .q (.mv (.t 2)), none⟩, [], []⟩, ⟨4, ⟨some 45, .e (.call 37 [(.t 44)]), none⟩, [], [2]⟩, ⟨5, ⟨some 46, .q (.bin .neq (.t 43) (.t 45)), none⟩, [], []⟩]
def c20_25 : List SOper := [⟨some 47, .q (.ldn 3 (.t 13)), none⟩, ⟨none, .e (.st 3 (.t 10) (.t 47)), none⟩, ⟨some 11, .q (.mv (.c (.int .i64 5))), none⟩]
def c20_26 : SCode := .seq (.region c20_25 [10, 11]) .ret
def c20_27 : SCode := .cond (.t 46) c20_26 .skip
def c20_28 : SCode := .seq (.dregion c20_24 [3, 4, 5, 10, 12, 13, 46]) c20_27
def c20_29 : List SOper := [⟨some 15, .q (.mv (.c (.int .i64 0))), none⟩]
def c20_30 : List SOper := [⟨some 48, .q (.mv (.t 12)), none⟩, ⟨some 49, .q (.ia 1 (.t 48) (.c (.int .i64 1))), none⟩, ⟨some 50, .q (.ld (.t 49)), none⟩, ⟨some 51, .q (.bin .neq (.t 50) (.c (.string ⟨#[66, 76]⟩))), none⟩]
def c20_31 : List SOper := [⟨some 53, .q (.mv (.t 12)), none⟩, ⟨some 54, .q (.ia 1 (.t 53) (.c (.int .i64 1))), none⟩, ⟨some 55, .q (.ld (.t 54)), none⟩, ⟨some 56, .q (.sls (.t 55) (some (.c (.int .i64 1))) none), none⟩, ⟨some 57, .e (.call 42 [(.t 56)]), none⟩, ⟨some 52, .q (.mv (.t 57)), none⟩, ⟨some 58, .q (.ext (.t 52) 0), none⟩, ⟨some 59, .q (.ext (.t 52) 1), none⟩, ⟨some 16, .q (.mv (.t 58)), none⟩, ⟨some 17, .q (.mv (.t 59)), none⟩]
def c20_32 : List SOper := [⟨some 60, .q (.mv (.t 12)), none⟩, ⟨some 61, .q (.ia 1 (.t 60) (.c (.int .i64 1))), none⟩, ⟨some 62, .q (.ld (.t 61)), none⟩, ⟨some 63, .q (.ivs (.t 62) (.c (.int .i64 0))), none⟩, ⟨some 64, .q (.bin .neq (.t 63) (.c (.int .u8 82))), none⟩, ⟨some 65, .q (.mv (.t 64)), none⟩, ⟨some 66, .q (.mv (.t 17)), some (65, false)⟩, ⟨some 67, .q (.not (.t 66)), some (65, false)⟩, ⟨some 68, .q (.pick (.t 65) (.c (.bool true)) (.t 67)), none⟩, ⟨some 69, .q (.mv (.t 68)), none⟩, ⟨some 70, .q (.mv (.t 16)), some (69, false)⟩, ⟨some 71, .e (.call 43 [(.t 70)]), some (69, false)⟩, ⟨some 72, .q (.not (.t 71)), some (69, false)⟩, ⟨some 73, .q (.pick (.t 69) (.c (.bool true)) (.t 72)), none⟩]
def c20_33 : List SOper := [⟨some 74, .q (.ldn 3 (.t 13)), none⟩, ⟨none, .e (.st 3 (.t 10) (.t 74)), none⟩, ⟨some 11, .q (.mv (.c (.int .i64 6))), none⟩]
def c20_34 : SCode := .seq (.region c20_33 [10, 11]) .ret
def c20_35 : SCode := .cond (.t 73) c20_34 .skip
def c20_36 : SCode := .seq (.region c20_32 [3, 4, 5, 10, 12, 13, 16, 73]) c20_35
def c20_37 : List SOper := [⟨some 75, .q (.mv (.t 16)), none⟩, ⟨some 15, .q (.mv (.t 75)), none⟩]
def c20_38 : SCode := .seq c20_36 (.region c20_37 [3, 4, 5, 10, 12, 13, 15])
def c20_39 : SCode := .seq (.region c20_31 [3, 4, 5, 10, 12, 13, 16, 17]) c20_38
def c20_40 : SCode := .cond (.t 51) c20_39 .skip
def c20_41 : SCode := .seq (.region c20_30 [3, 4, 5, 10, 12, 13, 15, 51]) c20_40
def c20_42 : List SOper := [⟨some 76, .q (.mv (.t 12)), none⟩, ⟨some 77, .q (.ia 1 (.t 76) (.c (.int .i64 2))), none⟩, ⟨some 78, .q (.ld (.t 77)), none⟩, ⟨some 79, .q (.bin .neq (.t 78) (.c (.string ⟨#[67]⟩))), none⟩]
def c20_43 : List SOper := [⟨some 80, .q (.ldn 3 (.t 13)), none⟩, ⟨none, .e (.st 3 (.t 10) (.t 80)), none⟩, ⟨some 11, .q (.mv (.c (.int .i64 6))), none⟩]
def c20_44 : SCode := .seq (.region c20_43 [10, 11]) .ret
def c20_45 : SCode := .cond (.t 79) c20_44 .skip
def c20_46 : SCode := .seq (.region c20_42 [3, 4, 5, 10, 12, 13, 15, 79]) c20_45
def c20_47 : List SOper := [⟨some 81, .a (.bsl 0 1 [] []), none⟩, ⟨some 18, .q (.mv (.t 81)), none⟩]
def c20_48 : List SOper := [⟨some 19, .q (.mv (.c (.int .i64 3))), none⟩]
def c20_49 : List SOper := [⟨some 82, .q (.mv (.t 19)), none⟩, ⟨some 83, .q (.bin .lss (.t 82) (.c (.int .i64 7))), none⟩]
def c20_50 : SCode := .cond (.t 83) .skip (.exit 2)
def c20_51 : SCode := .seq (.region c20_49 [3, 4, 5, 10, 12, 13, 15, 18, 19, 83]) c20_50
def c20_52 : List SOper := [⟨some 87, .q (.ldn 3 (.t 5)), none⟩, ⟨some 88, .q (.mv (.t 12)), none⟩, ⟨some 89, .q (.mv (.t 19)), none⟩, ⟨some 90, .q (.ia 1 (.t 88) (.t 89)), none⟩, ⟨some 91, .q (.ld (.t 90)), none⟩, ⟨some 92, .e (.call 44 [(.t 87), (.t 91)]), none⟩, ⟨some 86, .q (.mv (.t 92)), none⟩, ⟨some 93, .q (.ext (.t 86) 0), none⟩, ⟨some 94, .q (.ext (.t 86) 1), none⟩, ⟨some 20, .q (.mv (.t 93)), none⟩, ⟨some 21, .q (.mv (.t 94)), none⟩]
def c20_53 : List SOper := [⟨some 95, .q (.mv (.t 21)), none⟩, ⟨some 96, .q (.not (.t 95)), none⟩]
def c20_54 : List SOper := [⟨some 97, .q (.ldn 3 (.t 13)), none⟩, ⟨none, .e (.st 3 (.t 10) (.t 97)), none⟩, ⟨some 11, .q (.mv (.c (.int .i64 7))), none⟩]
def c20_55 : SCode := .seq (.region c20_54 [10, 11]) .ret
def c20_56 : SCode := .cond (.t 96) c20_55 .skip
def c20_57 : SCode := .seq (.region c20_53 [3, 4, 5, 10, 12, 13, 15, 18, 19, 20, 96]) c20_56
def c20_58 : List SOper := [⟨some 98, .q (.mv (.t 18)), none⟩, ⟨some 99, .q (.mv (.t 20)), none⟩, ⟨some 100, .a (.bsl 1 1 [(.int .i64 0)] [(0, 1, (.t 99))]), none⟩, ⟨some 101, .e (.app 8 1 (.t 98) (.t 100)), none⟩, ⟨some 18, .q (.mv (.t 101)), none⟩]
def c20_59 : SCode := .seq c20_57 (.region c20_58 [3, 4, 5, 10, 12, 13, 15, 18, 19])
def c20_60 : SCode := .seq (.region c20_52 [3, 4, 5, 10, 12, 13, 15, 18, 19, 20, 21]) c20_59
def c20_61 : SCode := .block 3 c20_60
def c20_62 : List SOper := [⟨some 84, .q (.mv (.t 19)), none⟩, ⟨some 85, .q (.bin .add (.t 84) (.c (.int .i64 1))), none⟩, ⟨some 19, .q (.mv (.t 85)), none⟩]
def c20_63 : SCode := .seq c20_61 (.region c20_62 [3, 4, 5, 10, 12, 13, 15, 18, 19])
def c20_64 : SCode := .seq c20_51 c20_63
def c20_65 : SCode := .loop c20_64
def c20_66 : SCode := .block 2 c20_65
def c20_67 : SCode := .seq (.region c20_48 [3, 4, 5, 10, 12, 13, 15, 18, 19]) c20_66
def c20_68 : List SOper := [⟨some 102, .q (.mv (.t 15)), none⟩, ⟨some 103, .q (.mv (.t 18)), none⟩, ⟨some 104, .q (.ia 1 (.t 103) (.c (.int .i64 0))), none⟩, ⟨some 105, .q (.ld (.t 104)), none⟩, ⟨some 106, .q (.mv (.t 18)), none⟩, ⟨some 107, .q (.ia 1 (.t 106) (.c (.int .i64 1))), none⟩, ⟨some 108, .q (.ld (.t 107)), none⟩, ⟨some 109, .q (.mv (.t 18)), none⟩, ⟨some 110, .q (.ia 1 (.t 109) (.c (.int .i64 0))), none⟩, ⟨some 111, .q (.ld (.t 110)), none⟩, ⟨some 112, .q (.bin .sub (.t 108) (.t 111)), none⟩, ⟨some 113, .q (.build [(.int .i64 0), (.int .i64 0), (.int .i64 0)] [(0, 1, (.t 102)), (1, 1, (.t 105)), (2, 1, (.t 112))]), none⟩, ⟨some 22, .a (.new [(.int .i64 0), (.int .i64 0), (.int .i64 0)]), none⟩, ⟨none, .e (.st 3 (.t 22) (.t 113)), none⟩]
def c20_69 : List SOper := [⟨some 114, .q (.ldn 3 (.t 22)), none⟩, ⟨some 115, .e (.call 45 [(.t 114)]), none⟩, ⟨some 116, .q (.not (.t 115)), none⟩]
def c20_70 : List SOper := [⟨some 117, .q (.ldn 3 (.t 13)), none⟩, ⟨none, .e (.st 3 (.t 10) (.t 117)), none⟩, ⟨some 11, .q (.mv (.c (.int .i64 8))), none⟩]
def c20_71 : SCode := .seq (.region c20_70 [10, 11]) .ret
def c20_72 : SCode := .cond (.t 116) c20_71 .skip
def c20_73 : SCode := .seq (.region c20_69 [3, 4, 10, 13, 18, 22, 116]) c20_72
def c20_74 : List SOper := [⟨some 118, .q (.mv (.t 18)), none⟩, ⟨some 119, .q (.ia 1 (.t 118) (.c (.int .i64 2))), none⟩, ⟨some 120, .q (.ld (.t 119)), none⟩, ⟨some 121, .q (.mv (.t 4)), none⟩, ⟨some 122, .q (.bin .neq (.t 120) (.t 121)), none⟩, ⟨some 123, .q (.mv (.t 122)), none⟩, ⟨some 124, .q (.mv (.t 18)), some (123, false)⟩, ⟨some 125, .q (.ia 1 (.t 124) (.c (.int .i64 3))), some (123, false)⟩, ⟨some 126, .q (.ld (.t 125)), some (123, false)⟩, ⟨some 127, .q (.mv (.t 4)), some (123, false)⟩, ⟨some 128, .q (.fa 2 (.t 22)), some (123, false)⟩, ⟨some 129, .q (.ld (.t 128)), some (123, false)⟩, ⟨some 130, .q (.bin .add (.t 127) (.t 129)), some (123, false)⟩, ⟨some 131, .q (.bin .neq (.t 126) (.t 130)), some (123, false)⟩, ⟨some 132, .q (.pick (.t 123) (.c (.bool true)) (.t 131)), none⟩]
def c20_75 : List SOper := [⟨some 133, .q (.ldn 3 (.t 13)), none⟩, ⟨none, .e (.st 3 (.t 10) (.t 133)), none⟩, ⟨some 11, .q (.mv (.c (.int .i64 9))), none⟩]
def c20_76 : SCode := .seq (.region c20_75 [10, 11]) .ret
def c20_77 : SCode := .cond (.t 132) c20_76 .skip
def c20_78 : SCode := .seq (.region c20_74 [3, 10, 13, 22, 132]) c20_77
def c20_79 : List DOper := [⟨0, ⟨some 134, .a (.bsl 0 3 [] []), none⟩, [], []⟩, ⟨1, ⟨some 135, .q (.mv (.t 3)), none⟩, [], []⟩, ⟨3, ⟨some 137, .q (.ldn 3 (.t 22)), none⟩, [], []⟩, ⟨4, ⟨some 138, .a (.bsl 1 3 [(.int .i64 0), (.int .i64 0), (.int .i64 0)] [(0, 3, (.t 137))]), none⟩, [], []⟩, ⟨2, ⟨some 136, .e (.app 24 3 (.t 134) (.t 135)), none⟩, [], [3]⟩, ⟨5, ⟨some 139, .e (.app 24 3 (.t 136) (.t 138)), none⟩, [], []⟩, ⟨6, ⟨some 23, .q (.mv (.t 139)), none⟩, [], []⟩]
def c20_80 : List SOper := [⟨some 140, .q (.mv (.t 23)), none⟩, ⟨some 141, .e (.call 34 [(.t 140)]), none⟩, ⟨some 142, .q (.len (.t 141)), none⟩, ⟨some 143, .q (.mv (.t 23)), none⟩, ⟨some 144, .q (.len (.t 143)), none⟩, ⟨some 145, .q (.bin .neq (.t 142) (.t 144)), none⟩, ⟨some 146, .q (.mv (.t 145)), none⟩, ⟨some 147, .q (.mv (.t 23)), some (146, false)⟩, ⟨some 148, .e (.call 33 [(.t 147)]), some (146, false)⟩, ⟨some 149, .q (.not (.t 148)), some (146, false)⟩, ⟨some 150, .q (.pick (.t 146) (.c (.bool true)) (.t 149)), none⟩]
def c20_81 : List SOper := [⟨some 151, .q (.ldn 3 (.t 13)), none⟩, ⟨none, .e (.st 3 (.t 10) (.t 151)), none⟩, ⟨some 11, .q (.mv (.c (.int .i64 10))), none⟩]
def c20_82 : SCode := .seq (.region c20_81 [10, 11]) .ret
def c20_83 : SCode := .cond (.t 150) c20_82 .skip
def c20_84 : SCode := .seq (.region c20_80 [10, 13, 22, 150]) c20_83
def c20_85 : List SOper := [⟨some 152, .q (.ldn 3 (.t 22)), none⟩, ⟨none, .e (.st 3 (.t 10) (.t 152)), none⟩, ⟨some 11, .q (.mv (.c (.int .i64 0))), none⟩]
def c20_86 : SCode := .seq (.region c20_85 [10, 11]) .ret
def c20_87 : SCode := .seq c20_84 c20_86
def c20_88 : SCode := .seq (.dregion c20_79 [10, 13, 22, 23]) c20_87
def c20_89 : SCode := .seq c20_78 c20_88
def c20_90 : SCode := .seq c20_73 c20_89
def c20_91 : SCode := .seq (.region c20_68 [3, 4, 10, 13, 18, 22]) c20_90
def c20_92 : SCode := .seq c20_67 c20_91
def c20_93 : SCode := .seq (.region c20_47 [3, 4, 5, 10, 12, 13, 15, 18]) c20_92
def c20_94 : SCode := .seq c20_46 c20_93
def c20_95 : SCode := .seq c20_41 c20_94
def c20_96 : SCode := .seq (.region c20_29 [3, 4, 5, 10, 12, 13, 15]) c20_95
def c20_97 : SCode := .seq c20_28 c20_96
def c20_98 : SCode := .seq c20_23 c20_97
def c20_99 : SCode := .seq c20_7 c20_98
def c20_100 : SCode := .seq (.region c20_2 [2, 3, 4, 5, 10, 12, 13]) c20_99
def c20_101 : SCode := .seq (.region c20_1 [2, 3, 4, 5, 10, 12]) c20_100
def c20_102 : SCode := .seq (.region c20_0 [1, 2, 3, 4, 5, 10]) c20_101
def c20 : SCode := c20_102
theorem w20 : type_of% (And.intro (uR Tryz.prog c20_0.eq_1) (And.intro (uR Tryz.prog c20_1.eq_1) (And.intro (uR Tryz.prog c20_2.eq_1) (And.intro (uR Tryz.prog c20_3.eq_1) (And.intro (uR Tryz.prog c20_4.eq_1) (And.intro (uC Tryz.prog c20_5.eq_1) (And.intro (uC Tryz.prog c20_6.eq_1) (And.intro (uC Tryz.prog c20_7.eq_1) (And.intro (uR Tryz.prog c20_8.eq_1) (And.intro (uR Tryz.prog c20_9.eq_1) (And.intro (uC Tryz.prog c20_10.eq_1) (And.intro (uC Tryz.prog c20_11.eq_1) (And.intro (uR Tryz.prog c20_12.eq_1) (And.intro (uR Tryz.prog c20_13.eq_1) (And.intro (uC Tryz.prog c20_14.eq_1) (And.intro (uC Tryz.prog c20_15.eq_1) (And.intro (uC Tryz.prog c20_16.eq_1) (And.intro (uC Tryz.prog c20_17.eq_1) (And.intro (uR Tryz.prog c20_18.eq_1) (And.intro (uC Tryz.prog c20_19.eq_1) (And.intro (uC Tryz.prog c20_20.eq_1) (And.intro (uC Tryz.prog c20_21.eq_1) (And.intro (uC Tryz.prog c20_22.eq_1) (And.intro (uC Tryz.prog c20_23.eq_1) (And.intro (uD Tryz.prog c20_24.eq_1) (And.intro (uR Tryz.prog c20_25.eq_1) (And.intro (uC Tryz.prog c20_26.eq_1) (And.intro (uC Tryz.prog c20_27.eq_1) (And.intro (uC Tryz.prog c20_28.eq_1) (And.intro (uR Tryz.prog c20_29.eq_1) (And.intro (uR Tryz.prog c20_30.eq_1) (And.intro (uR Tryz.prog c20_31.eq_1) (And.intro (uR Tryz.prog c20_32.eq_1) (And.intro (uR Tryz.prog c20_33.eq_1) (And.intro (uC Tryz.prog c20_34.eq_1) (And.intro (uC Tryz.prog c20_35.eq_1) (And.intro (uC Tryz.prog c20_36.eq_1) (And.intro (uR Tryz.prog c20_37.eq_1) (And.intro (uC Tryz.prog c20_38.eq_1) (And.intro (uC Tryz.prog c20_39.eq_1) (And.intro (uC Tryz.prog c20_40.eq_1) (And.intro (uC Tryz.prog c20_41.eq_1) (And.intro (uR Tryz.prog c20_42.eq_1) (And.intro (uR Tryz.prog c20_43.eq_1) (And.intro (uC Tryz.prog c20_44.eq_1) (And.intro (uC Tryz.prog c20_45.eq_1) (And.intro (uC Tryz.prog c20_46.eq_1) (And.intro (uR Tryz.prog c20_47.eq_1) (And.intro (uR Tryz.prog c20_48.eq_1) (And.intro (uR Tryz.prog c20_49.eq_1) (And.intro (uC Tryz.prog c20_50.eq_1) (And.intro (uC Tryz.prog c20_51.eq_1) (And.intro (uR Tryz.prog c20_52.eq_1) (And.intro (uR Tryz.prog c20_53.eq_1) (And.intro (uR Tryz.prog c20_54.eq_1) (And.intro (uC Tryz.prog c20_55.eq_1) (And.intro (uC Tryz.prog c20_56.eq_1) (And.intro (uC Tryz.prog c20_57.eq_1) (And.intro (uR Tryz.prog c20_58.eq_1) (And.intro (uC Tryz.prog c20_59.eq_1) (And.intro (uC Tryz.prog c20_60.eq_1) (And.intro (uC Tryz.prog c20_61.eq_1) (And.intro (uR Tryz.prog c20_62.eq_1) (And.intro (uC Tryz.prog c20_63.eq_1) (And.intro (uC Tryz.prog c20_64.eq_1) (And.intro (uC Tryz.prog c20_65.eq_1) (And.intro (uC Tryz.prog c20_66.eq_1) (And.intro (uC Tryz.prog c20_67.eq_1) (And.intro (uR Tryz.prog c20_68.eq_1) (And.intro (uR Tryz.prog c20_69.eq_1) (And.intro (uR Tryz.prog c20_70.eq_1) (And.intro (uC Tryz.prog c20_71.eq_1) (And.intro (uC Tryz.prog c20_72.eq_1) (And.intro (uC Tryz.prog c20_73.eq_1) (And.intro (uR Tryz.prog c20_74.eq_1) (And.intro (uR Tryz.prog c20_75.eq_1) (And.intro (uC Tryz.prog c20_76.eq_1) (And.intro (uC Tryz.prog c20_77.eq_1) (And.intro (uC Tryz.prog c20_78.eq_1) (And.intro (uD Tryz.prog c20_79.eq_1) (And.intro (uR Tryz.prog c20_80.eq_1) (And.intro (uR Tryz.prog c20_81.eq_1) (And.intro (uC Tryz.prog c20_82.eq_1) (And.intro (uC Tryz.prog c20_83.eq_1) (And.intro (uC Tryz.prog c20_84.eq_1) (And.intro (uR Tryz.prog c20_85.eq_1) (And.intro (uC Tryz.prog c20_86.eq_1) (And.intro (uC Tryz.prog c20_87.eq_1) (And.intro (uC Tryz.prog c20_88.eq_1) (And.intro (uC Tryz.prog c20_89.eq_1) (And.intro (uC Tryz.prog c20_90.eq_1) (And.intro (uC Tryz.prog c20_91.eq_1) (And.intro (uC Tryz.prog c20_92.eq_1) (And.intro (uC Tryz.prog c20_93.eq_1) (And.intro (uC Tryz.prog c20_94.eq_1) (And.intro (uC Tryz.prog c20_95.eq_1) (And.intro (uC Tryz.prog c20_96.eq_1) (And.intro (uC Tryz.prog c20_97.eq_1) (And.intro (uC Tryz.prog c20_98.eq_1) (And.intro (uC Tryz.prog c20_99.eq_1) (And.intro (uC Tryz.prog c20_100.eq_1) (And.intro (uC Tryz.prog c20_101.eq_1) (And.intro (uC Tryz.prog c20_102.eq_1) (uC Tryz.prog c20.eq_1)))))))))))))))))))))))))))))))))))))))))))))))))))))))))))))))))))))))))))))))))))))))))))))))))))))))) := (And.intro (uR Tryz.prog c20_0.eq_1) (And.intro (uR Tryz.prog c20_1.eq_1) (And.intro (uR Tryz.prog c20_2.eq_1) (And.intro (uR Tryz.prog c20_3.eq_1) (And.intro (uR Tryz.prog c20_4.eq_1) (And.intro (uC Tryz.prog c20_5.eq_1) (And.intro (uC Tryz.prog c20_6.eq_1) (And.intro (uC Tryz.prog c20_7.eq_1) (And.intro (uR Tryz.prog c20_8.eq_1) (And.intro (uR Tryz.prog c20_9.eq_1) (And.intro (uC Tryz.prog c20_10.eq_1) (And.intro (uC Tryz.prog c20_11.eq_1) (And.intro (uR Tryz.prog c20_12.eq_1) (And.intro (uR Tryz.prog c20_13.eq_1) (And.intro (uC Tryz.prog c20_14.eq_1) (And.intro (uC Tryz.prog c20_15.eq_1) (And.intro (uC Tryz.prog c20_16.eq_1) (And.intro (uC Tryz.prog c20_17.eq_1) (And.intro (uR Tryz.prog c20_18.eq_1) (And.intro (uC Tryz.prog c20_19.eq_1) (And.intro (uC Tryz.prog c20_20.eq_1) (And.intro (uC Tryz.prog c20_21.eq_1) (And.intro (uC Tryz.prog c20_22.eq_1) (And.intro (uC Tryz.prog c20_23.eq_1) (And.intro (uD Tryz.prog c20_24.eq_1) (And.intro (uR Tryz.prog c20_25.eq_1) (And.intro (uC Tryz.prog c20_26.eq_1) (And.intro (uC Tryz.prog c20_27.eq_1) (And.intro (uC Tryz.prog c20_28.eq_1) (And.intro (uR Tryz.prog c20_29.eq_1) (And.intro (uR Tryz.prog c20_30.eq_1) (And.intro (uR Tryz.prog c20_31.eq_1) (And.intro (uR Tryz.prog c20_32.eq_1) (And.intro (uR Tryz.prog c20_33.eq_1) (And.intro (uC Tryz.prog c20_34.eq_1) (And.intro (uC Tryz.prog c20_35.eq_1) (And.intro (uC Tryz.prog c20_36.eq_1) (And.intro (uR Tryz.prog c20_37.eq_1) (And.intro (uC Tryz.prog c20_38.eq_1) (And.intro (uC Tryz.prog c20_39.eq_1) (And.intro (uC Tryz.prog c20_40.eq_1) (And.intro (uC Tryz.prog c20_41.eq_1) (And.intro (uR Tryz.prog c20_42.eq_1) (And.intro (uR Tryz.prog c20_43.eq_1) (And.intro (uC Tryz.prog c20_44.eq_1) (And.intro (uC Tryz.prog c20_45.eq_1) (And.intro (uC Tryz.prog c20_46.eq_1) (And.intro (uR Tryz.prog c20_47.eq_1) (And.intro (uR Tryz.prog c20_48.eq_1) (And.intro (uR Tryz.prog c20_49.eq_1) (And.intro (uC Tryz.prog c20_50.eq_1) (And.intro (uC Tryz.prog c20_51.eq_1) (And.intro (uR Tryz.prog c20_52.eq_1) (And.intro (uR Tryz.prog c20_53.eq_1) (And.intro (uR Tryz.prog c20_54.eq_1) (And.intro (uC Tryz.prog c20_55.eq_1) (And.intro (uC Tryz.prog c20_56.eq_1) (And.intro (uC Tryz.prog c20_57.eq_1) (And.intro (uR Tryz.prog c20_58.eq_1) (And.intro (uC Tryz.prog c20_59.eq_1) (And.intro (uC Tryz.prog c20_60.eq_1) (And.intro (uC Tryz.prog c20_61.eq_1) (And.intro (uR Tryz.prog c20_62.eq_1) (And.intro (uC Tryz.prog c20_63.eq_1) (And.intro (uC Tryz.prog c20_64.eq_1) (And.intro (uC Tryz.prog c20_65.eq_1) (And.intro (uC Tryz.prog c20_66.eq_1) (And.intro (uC Tryz.prog c20_67.eq_1) (And.intro (uR Tryz.prog c20_68.eq_1) (And.intro (uR Tryz.prog c20_69.eq_1) (And.intro (uR Tryz.prog c20_70.eq_1) (And.intro (uC Tryz.prog c20_71.eq_1) (And.intro (uC Tryz.prog c20_72.eq_1) (And.intro (uC Tryz.prog c20_73.eq_1) (And.intro (uR Tryz.prog c20_74.eq_1) (And.intro (uR Tryz.prog c20_75.eq_1) (And.intro (uC Tryz.prog c20_76.eq_1) (And.intro (uC Tryz.prog c20_77.eq_1) (And.intro (uC Tryz.prog c20_78.eq_1) (And.intro (uD Tryz.prog c20_79.eq_1) (And.intro (uR Tryz.prog c20_80.eq_1) (And.intro (uR Tryz.prog c20_81.eq_1) (And.intro (uC Tryz.prog c20_82.eq_1) (And.intro (uC Tryz.prog c20_83.eq_1) (And.intro (uC Tryz.prog c20_84.eq_1) (And.intro (uR Tryz.prog c20_85.eq_1) (And.intro (uC Tryz.prog c20_86.eq_1) (And.intro (uC Tryz.prog c20_87.eq_1) (And.intro (uC Tryz.prog c20_88.eq_1) (And.intro (uC Tryz.prog c20_89.eq_1) (And.intro (uC Tryz.prog c20_90.eq_1) (And.intro (uC Tryz.prog c20_91.eq_1) (And.intro (uC Tryz.prog c20_92.eq_1) (And.intro (uC Tryz.prog c20_93.eq_1) (And.intro (uC Tryz.prog c20_94.eq_1) (And.intro (uC Tryz.prog c20_95.eq_1) (And.intro (uC Tryz.prog c20_96.eq_1) (And.intro (uC Tryz.prog c20_97.eq_1) (And.intro (uC Tryz.prog c20_98.eq_1) (And.intro (uC Tryz.prog c20_99.eq_1) (And.intro (uC Tryz.prog c20_100.eq_1) (And.intro (uC Tryz.prog c20_101.eq_1) (And.intro (uC Tryz.prog c20_102.eq_1) (uC Tryz.prog c20.eq_1))))))))))))))))))))))))))))))))))))))))))))))))))))))))))))))))))))))))))))))))))))))))))))))))))))))))
def v20 : List RV := [.c 10 (some 3), .t 11]
theorem s20 : slimF Tryz.prog Tryz.f20 = some (c20.bare, v20) := by kernel_rfl

/-- A way that joins the other, or leaves. -/
theorem SW_ifQ {P : Program} {A : SCode} {Q : Go.Exit → Env → Heap → Prop} {E : Env} {h : Heap} {b : Bool} (S : Env → Heap → Prop)
    (h1 : b = true → SW P A (thenQ S Q) E h) (h2 : b = false → S E h) (h3 : ∀ E h, S E h → Q .normal E h) : stepI (some (.bool b)) (SW P A Q) (SW P .skip Q) E h := by
  refine stepI.splitB (fun hb => ?_) (fun hb => h3 _ _ (h2 hb))
  refine SW_mono A _ _ E h (fun e E h H => ?_) (h1 hb)
  cases e with
  | normal => exact h3 _ _ H
  | _ => exact H
theorem slt_box {α : Type} {enc : α → List Value} {sz : Nat} {K : Heap} {i : Nat} {x : α} (b : Bx K i (enc x)) (hs : ∀ x, (enc x).length = sz) (pos : 0 < sz) : SlT K enc sz (.slice (some ⟨i, 0, none⟩) 1 sz) [x] := by
  refine ⟨.inr (.inr ⟨i, 0, 1, _, rfl, b, rfl, by simp [hs], ?_⟩), hs, pos⟩
  simp only [List.drop_zero, List.flatMap_cons, List.flatMap_nil, List.append_nil, Nat.one_mul]
  rw [← hs x]; exact List.take_length
theorem range4 (f : Nat → Int) : (List.range 4).map f = [f 0, f 1, f 2, f 3] := rfl
theorem ints_rules {K : Heap} {w : Value} {L : List Int} (s : SlT K encI 1 w L) :
    ∀ (k : IntKind) (j : Nat), j < L.length → iaV 1 w (.int k (j : Int)) = some (ptrAt w j) ∧ ldV K (ptrAt w j) = some (.int .i64 (L.getD j 0)) := by
  obtain ⟨r1, r2, _, _, r5, _⟩ := s.rulesN
  refine fun k j hj => ?_
  have a := r2 k j hj
  have b := r5 j hj
  rw [Nat.mul_one] at a b
  refine ⟨a, b.trans ?_⟩
  rw [List.getD, List.getElem?_eq_getElem hj]; rfl
theorem l6Line_ok (h : Heap) (r : Rate) (l : List UInt8) (v : Value) (t : List Clip) (s : SlT h encClip 3 v t) (kp : keeps t) (hl : l.length ≤ 1000000) :
    ACall Tryz.prog 20 [.agg (encRate r).toArray, .string (bL l), .int .i64 ((t.length + 1 : Nat) : Int), v, .int .i64 (sumLen t)] h
      fun x h' => Ext h h' ∧ ∃ c : Clip, x = .tuple #[.agg (encClip c).toArray, .int .i64 (lnCode r t l)] ∧ (lnCode r t l = 0 → c = lnClip r l) := by
  have hsz : (bL l).size = l.length := bL_size l
  have ht3 : t.length ≤ 300 := kp.1.1
  have hts := sumLen_bound kp.1.2.1
  have hts2 := kp.1.2.2
  have BR := Bx.new h (encRate r) [encClip zClip]
  have BC := Bx.new (h.more [encRate r]) (encClip zClip) []
  rw [more_more, size_more] at BC
  have eM := Ext.more h [encRate r, encClip zClip]
  simp only [encRate, encClip, zClip, List.cons_append, List.nil_append, List.length_cons, List.length_nil, Nat.zero_add] at BR BC eM
  refine ACall.of Tryz.func20 s20 (of_decide_eq_true rfl) ?_
  simp (maxSteps := 4000000) (disch := omega) only [ah, am, Nat.reduceEqDiff, reduceCtorEq, Nat.reduceAdd, Nat.reduceLeDiff, Nat.reduceMul, Nat.reduceLT, if_true, if_false, true_and, and_true, and_self, Nat.reduceBEq, QOp.loads, boxO, bslO, buildO, cutL, fillV, putL, w20, v20, encRate]
  obtain ⟨h1, hh1⟩ : ∃ h1, h1 = h.more [[Value.int IntKind.i64 r.num, Value.int IntKind.i64 r.den, Value.bool r.drop], [Value.int IntKind.i64 0, Value.int IntKind.i64 0, Value.int IntKind.i64 0]] := ⟨_, rfl⟩
  rw [← hh1] at BR BC eM ⊢
  obtain ⟨rb, hrb⟩ : ∃ q, q = h.size := ⟨_, rfl⟩
  obtain ⟨cb, hcb⟩ : ∃ q, q = h.size + 1 := ⟨_, rfl⟩
  have hge : h.size ≤ cb := by omega
  have hne : rb ≠ cb := by omega
  rw [← hcb] at BC ⊢
  rw [← hrb] at BR ⊢
  have s := s.ext eM
  clear hh1 hrb
  refine stepC.of (l6Words_ok h1 l hl) ?_
  rintro wv H1 F
  have sw := F.slt
  have E1 := eM.trans F.1
  have BR := BR.ext F.1
  have BC := BC.ext F.1
  have s := s.ext F.1
  clear F
  have RW := words_rules sw
  have BN := Bx.new H1 [.int .i64 0, .int .i64 0, .int .i64 0] []
  have eN := Ext.more H1 [[.int .i64 0, .int .i64 0, .int .i64 0]]
  obtain ⟨nb, hnb⟩ : ∃ q, q = H1.size := ⟨_, rfl⟩
  have hbc := Heap.get_lt BC
  have hbr := Heap.get_lt BR
  simp (maxSteps := 4000000) (disch := omega) only [ah, am, Nat.reduceEqDiff, reduceCtorEq, Nat.reduceAdd, Nat.reduceLeDiff, Nat.reduceMul, Nat.reduceLT, if_true, if_false, true_and, and_true, and_self, Nat.reduceBEq, QOp.loads, boxO, bslO, buildO, cutL, fillV, putL, w20, v20, RW.1]
  obtain ⟨H2, hH2⟩ : ∃ H2, H2 = H1.more [[.int .i64 0, .int .i64 0, .int .i64 0]] := ⟨_, rfl⟩
  rw [← hH2] at BN eN ⊢
  rw [← hnb] at BN ⊢
  have hnc : nb ≠ cb := by omega
  have hnr : nb ≠ rb := by omega
  have E2 := E1.trans eN
  have BR := BR.ext eN
  have BC := BC.ext eN
  have sw := sw.ext eN
  have s := s.ext eN
  clear hH2 eN E1 RW
  have hne0 : h.size ≤ H2.size := E2.1
  -- a line that is refused: the heap behind its end
  have bad : ∀ (K : Heap) (e : Ext H2 K) (n : Int), lnCode r t l = n → n ≠ 0 → ∃ K', stV K 3 (.pointer (some ⟨cb, 0, none⟩)) (.agg #[.int .i64 0, .int .i64 0, .int .i64 0]) = some K' ∧
      (∀ o m, ldnV K' m (.pointer (some ⟨cb, o, none⟩)) = cutL [.int .i64 0, .int .i64 0, .int .i64 0] o m) ∧
      (∀ o m, ldnV K m (.pointer (some ⟨nb, o, none⟩)) = cutL [.int .i64 0, .int .i64 0, .int .i64 0] o m) ∧
      (Ext h K' ∧ ∃ c : Clip, (.tuple #[.agg #[.int .i64 0, .int .i64 0, .int .i64 0], .int .i64 n] : Value) = .tuple #[.agg (encClip c).toArray, .int .i64 (lnCode r t l)] ∧ (lnCode r t l = 0 → c = lnClip r l)) := by
    intro K e n hn h0
    obtain ⟨K', e1, B', G⟩ := put_res (a := zClip) (BC.ext e) zClip
    exact ⟨K', e1, B'.ld.2, (BN.ext e).ld.2, (G.ext (E2.trans e) hge), zClip, by rw [hn]; rfl, fun q => absurd (hn.symm.trans q) h0⟩
  have RW := words_rules sw
  by_cases n7 : (spl l).length = 7
  rotate_left
  · have n7' : decide (((spl l).length : Int) = 7) = false := decide_eq_false (by omega)
    obtain ⟨K', e1, e2, e3, fin⟩ := bad H2 (Ext.refl _) 4 (lnCode_words (.inr n7)) (by omega)
    simp (maxSteps := 4000000) (disch := omega) only [ah, am, Nat.reduceEqDiff, reduceCtorEq, Nat.reduceAdd, Nat.reduceLeDiff, Nat.reduceMul, Nat.reduceLT, if_true, if_false, true_and, and_true, and_self, Nat.reduceBEq, QOp.loads, boxO, bslO, buildO, cutL, fillV, putL, w20, v20, RW.1, n7', e1, e2, e3]
    exact fin
  have n7' : decide (((spl l).length : Int) = 7) = true := decide_eq_true (by omega)
  simp (maxSteps := 4000000) (disch := omega) only [ah, am, Nat.reduceEqDiff, reduceCtorEq, Nat.reduceAdd, Nat.reduceLeDiff, Nat.reduceMul, Nat.reduceLT, if_true, if_false, true_and, and_true, and_self, Nat.reduceBEq, QOp.loads, boxO, bslO, buildO, cutL, fillV, putL, w20, v20, RW.1, n7']
  refine SW_loop_up (fun i E K => K = H2 ∧ (∀ j, j < i → wd l j ≠ []) ∧ E = [(2, .int .i64 ((t.length + 1 : Nat) : Int)), (3, v), (4, .int .i64 (sumLen t)), (5, .pointer (some ⟨rb, 0, none⟩)), (10, .pointer (some ⟨cb, 0, none⟩)), (12, wv), (13, .pointer (some ⟨nb, 0, none⟩)), (14, .int .i64 (i : Int))]) 7 0 (by omega) ⟨rfl, fun j hj => by omega, rfl⟩ ?_
  rintro i E K hi ⟨hK, A, rfl⟩
  rw [hK]; clear hK K
  have wi : IntKind.i64.wrap ((i : Int) + 1) = ((i + 1 : Nat) : Int) := i64e (by omega) (by omega)
  simp (maxSteps := 4000000) (disch := omega) only [ah, am, Nat.reduceEqDiff, reduceCtorEq, Nat.reduceAdd, Nat.reduceLeDiff, Nat.reduceMul, Nat.reduceLT, if_true, if_false, true_and, and_true, and_self, Nat.reduceBEq, QOp.loads, boxO, bslO, buildO, cutL, fillV, putL, w20, v20]
  refine stepI.split (fun hq => ?_) (fun hq => ?_)
  · have hi7 : i < 7 := by omega
    obtain ⟨IA, LD⟩ := RW.2 .i64 i (by omega)
    rw [wd_get] at LD
    by_cases c0 : wd l i = []
    · obtain ⟨K', e1, e2, e3, fin⟩ := bad H2 (Ext.refl _) 4 (lnCode_words (words_bad_at (by omega) c0)) (by omega)
      simp (maxSteps := 4000000) (disch := omega) only [ah, am, Nat.reduceEqDiff, reduceCtorEq, Nat.reduceAdd, Nat.reduceLeDiff, Nat.reduceMul, Nat.reduceLT, if_true, if_false, true_and, and_true, and_self, Nat.reduceBEq, QOp.loads, boxO, bslO, buildO, cutL, fillV, putL, w20, v20, IA, LD, strB_nil, decide_eq_true c0, e1, e2, e3]
      exact fin
    · simp (maxSteps := 4000000) (disch := omega) only [ah, am, Nat.reduceEqDiff, reduceCtorEq, Nat.reduceAdd, Nat.reduceLeDiff, Nat.reduceMul, Nat.reduceLT, if_true, if_false, true_and, and_true, and_self, Nat.reduceBEq, QOp.loads, boxO, bslO, buildO, cutL, fillV, putL, w20, v20, IA, LD, strB_nil, decide_eq_false c0, wi]
      refine ⟨hi7, fun j hj => ?_⟩
      by_cases e : j = i
      · rw [e]; exact c0
      · exact A j (by omega)
  obtain rfl : i = 7 := by omega
  have hw : ¬ lnWordsBad l := words_good n7 A
  have W0 : ∀ K, Ext H2 K → ∀ j : Nat, j < 7 → iaV 1 wv (.int .i64 (j : Int)) = some (ptrAt wv j) ∧ ldV K (ptrAt wv j) = some (.string (bL (wd l j))) := fun K e j hj => (words_rules (sw.ext e)).2 .i64 j (by omega)
  have IA0 : iaV 1 wv (.int .i64 0) = _ := (W0 H2 (Ext.refl _) 0 (by omega)).1
  have LD0 := fun K e => (W0 K e 0 (by omega)).2
  simp (maxSteps := 4000000) (disch := omega) only [ah, am, Nat.reduceEqDiff, reduceCtorEq, Nat.reduceAdd, Nat.reduceLeDiff, Nat.reduceMul, Nat.reduceLT, if_true, if_false, true_and, and_true, and_self, Nat.reduceBEq, QOp.loads, boxO, bslO, buildO, cutL, fillV, putL, w20, v20, IA0, LD0 H2 (Ext.refl _)]
  refine stepC.of (l6Digits_ok H2 (t.length + 1) (by omega)) ?_
  rintro _ H3 ⟨e3, rfl⟩
  have IAk : ∀ j : Nat, j < 7 → iaV 1 wv (.int .i64 (j : Int)) = some (ptrAt wv j) := fun j hj => (W0 H2 (Ext.refl _) j hj).1
  have LDk : ∀ K, Ext H2 K → ∀ j : Nat, j < 7 → ldV K (ptrAt wv j) = some (.string (bL (wd l j))) := fun K e j hj => (W0 K e j hj).2
  have NB : strB .neq (bL (wd l 1)) ⟨#[66, 76]⟩ = some (.bool (decide (wd l 1 ≠ [66, 76]))) := (strB_neq _ _).trans (by rw [bL_data]; simp)
  have IA1 : iaV 1 wv (.int .i64 1) = _ := IAk 1 (by omega)
  have IA2 : iaV 1 wv (.int .i64 2) = _ := IAk 2 (by omega)
  have ln1 := wd_len l 1
  by_cases c1 : wd l 0 = padL 3 (digs (t.length + 1))
  rotate_left
  · obtain ⟨K', e1, e2, e4, fin⟩ := bad H3 e3 5 (lnCode_number hw c1) (by omega)
    simp (maxSteps := 4000000) (disch := omega) only [ah, am, Nat.reduceEqDiff, reduceCtorEq, Nat.reduceAdd, Nat.reduceLeDiff, Nat.reduceMul, Nat.reduceLT, if_true, if_false, true_and, and_true, and_self, Nat.reduceBEq, QOp.loads, boxO, bslO, buildO, cutL, fillV, putL, w20, v20, rechk_cons, rechk_end, chkV_some, chkV_false, LD0 H3 e3, strB_neqL, decide_eq_false c1, Bool.not_false, e1, e2, e4]
    exact fin
  simp (maxSteps := 4000000) (disch := omega) only [ah, am, Nat.reduceEqDiff, reduceCtorEq, Nat.reduceAdd, Nat.reduceLeDiff, Nat.reduceMul, Nat.reduceLT, if_true, if_false, true_and, and_true, and_self, Nat.reduceBEq, QOp.loads, boxO, bslO, buildO, cutL, fillV, putL, w20, v20, rechk_cons, rechk_end, chkV_some, chkV_false, LD0 H3 e3, strB_neqL, decide_eq_true c1, Bool.not_true, IA1, LDk H3 e3 1 (by omega), NB]
  have hn1 : wd l 1 ≠ [] := A 1 (by omega)
  refine SW_ifQ (fun E K => K = H3 ∧ srcOk (wd l 1) ∧ ∃ R, E = (3, v) :: (4, .int .i64 (sumLen t)) :: (5, .pointer (some ⟨rb, 0, none⟩)) :: (10, .pointer (some ⟨cb, 0, none⟩)) :: (12, wv) :: (13, .pointer (some ⟨nb, 0, none⟩)) :: (15, .int .i64 (srcV' (wd l 1))) :: R) (fun hb => ?_) (fun hb => ?_) ?_
  · have cB : wd l 1 ≠ [66, 76] := of_decide_eq_true hb
    clear hb
    have S1 : slsV (.string (bL (wd l 1))) (some (.int .i64 1)) none = _ := sls_a (wd l 1) .i64 1 (List.length_pos_iff.mpr hn1)
    have IV : ivsV (.string (bL (wd l 1))) (.int .i64 0) = some (.int .u8 ((wd l 1)[0]'(List.length_pos_iff.mpr hn1)).toNat) := ivs_bL (wd l 1) .i64 0 (List.length_pos_iff.mpr hn1)
    simp (maxSteps := 4000000) (disch := omega) only [ah, am, Nat.reduceEqDiff, reduceCtorEq, Nat.reduceAdd, Nat.reduceLeDiff, Nat.reduceMul, Nat.reduceLT, if_true, if_false, true_and, and_true, and_self, Nat.reduceBEq, QOp.loads, boxO, bslO, buildO, cutL, fillV, putL, w20, v20, IA1, LDk H3 e3 1 (by omega), S1]
    refine stepC.of (l6Number_ok H3 ((wd l 1).drop 1) (by simp; omega)) ?_
    rintro _ Hx ⟨hx, n, rfl, hn⟩; rw [hx]; clear hx Hx
    have h82 : (((wd l 1)[0]'(List.length_pos_iff.mpr hn1)).toNat : Int) = 82 ↔ hp 82 (wd l 1) := by
      generalize wd l 1 = w at hn1
      cases w with
      | nil => exact absurd rfl hn1
      | cons a w =>
        show (a.toNat : Int) = 82 ↔ [a] = [82]
        rw [List.cons.injEq]
        refine ⟨fun q => ⟨UInt8.toNat_inj.mp (by have : (82 : UInt8).toNat = 82 := rfl; omega), rfl⟩, fun q => by rw [q.1]; rfl⟩
    have no : ¬ (hp 82 (wd l 1) ∧ numOk ((wd l 1).drop 1) ∧ 1 ≤ numV ((wd l 1).drop 1) ∧ numV ((wd l 1).drop 1) ≤ 500) → ¬ srcOk (wd l 1) := fun q k => k.elim cB q
    by_cases c82 : (((wd l 1)[0]'(List.length_pos_iff.mpr hn1)).toNat : Int) = 82
    rotate_left
    · obtain ⟨K', e1, e2, e4, fin⟩ := bad H3 e3 6 (lnCode_source hw c1 (.inl (no fun q => c82 (h82.mpr q.1)))) (by omega)
      simp (maxSteps := 4000000) (disch := omega) only [ah, am, Nat.reduceEqDiff, reduceCtorEq, Nat.reduceAdd, Nat.reduceLeDiff, Nat.reduceMul, Nat.reduceLT, if_true, if_false, true_and, and_true, and_self, Nat.reduceBEq, QOp.loads, boxO, bslO, buildO, cutL, fillV, putL, w20, v20, IA1, LDk H3 e3 1 (by omega), IV, decide_eq_false c82, e1, e2, e4]
      exact fin
    by_cases cn : numOk ((wd l 1).drop 1)
    rotate_left
    · obtain ⟨K', e1, e2, e4, fin⟩ := bad H3 e3 6 (lnCode_source hw c1 (.inl (no fun q => cn q.2.1))) (by omega)
      simp (maxSteps := 4000000) (disch := omega) only [ah, am, Nat.reduceEqDiff, reduceCtorEq, Nat.reduceAdd, Nat.reduceLeDiff, Nat.reduceMul, Nat.reduceLT, if_true, if_false, true_and, and_true, and_self, Nat.reduceBEq, QOp.loads, boxO, bslO, buildO, cutL, fillV, putL, w20, v20, IA1, LDk H3 e3 1 (by omega), IV, decide_eq_true c82, decide_eq_false cn, e1, e2, e4]
      exact fin
    simp (maxSteps := 4000000) (disch := omega) only [ah, am, Nat.reduceEqDiff, reduceCtorEq, Nat.reduceAdd, Nat.reduceLeDiff, Nat.reduceMul, Nat.reduceLT, if_true, if_false, true_and, and_true, and_self, Nat.reduceBEq, QOp.loads, boxO, bslO, buildO, cutL, fillV, putL, w20, v20, IA1, LDk H3 e3 1 (by omega), IV, decide_eq_true c82, decide_eq_true cn]
    refine stepC.of (l4Src_ok H3 n) ?_
    rintro _ Hx ⟨hx, rfl⟩; rw [hx]; clear hx Hx
    have en := hn cn
    by_cases cr : 1 ≤ n ∧ n ≤ 500
    rotate_left
    · obtain ⟨K', e1, e2, e4, fin⟩ := bad H3 e3 6 (lnCode_source hw c1 (.inl (no fun q => cr (by rw [en]; exact q.2.2)))) (by omega)
      simp (maxSteps := 4000000) (disch := omega) only [ah, am, Nat.reduceEqDiff, reduceCtorEq, Nat.reduceAdd, Nat.reduceLeDiff, Nat.reduceMul, Nat.reduceLT, if_true, if_false, true_and, and_true, and_self, Nat.reduceBEq, QOp.loads, boxO, bslO, buildO, cutL, fillV, putL, w20, v20, decide_eq_false cr, e1, e2, e4]
      exact fin
    have hv : srcV' (wd l 1) = n := by rw [en]; exact if_neg cB
    simp (maxSteps := 4000000) (disch := omega) only [ah, am, Nat.reduceEqDiff, reduceCtorEq, Nat.reduceAdd, Nat.reduceLeDiff, Nat.reduceMul, Nat.reduceLT, if_true, if_false, true_and, and_true, and_self, Nat.reduceBEq, QOp.loads, boxO, bslO, buildO, cutL, fillV, putL, w20, v20, decide_eq_true cr]
    exact ⟨.inr ⟨h82.mp c82, cn, by rw [← en]; exact cr⟩, _, by rw [hv]⟩
  · have cB : wd l 1 = [66, 76] := Classical.byContradiction fun q => of_decide_eq_false hb q
    refine ⟨rfl, .inl cB, [(51, .bool (decide (wd l 1 ≠ [66, 76])))], ?_⟩
    rw [show srcV' (wd l 1) = 0 from if_pos cB]
  rintro E K ⟨hK, cS, R, rfl⟩
  rw [hK]; clear hK K
  have NC : strB .neq (bL (wd l 2)) ⟨#[67]⟩ = some (.bool (!decide (wd l 2 = [67]))) := strB_neq _ _
  by_cases cC : wd l 2 = [67]
  rotate_left
  · obtain ⟨K', e1, e2, e4, fin⟩ := bad H3 e3 6 (lnCode_source hw c1 (.inr cC)) (by omega)
    simp (maxSteps := 4000000) (disch := omega) only [ah, am, Nat.reduceEqDiff, reduceCtorEq, Nat.reduceAdd, Nat.reduceLeDiff, Nat.reduceMul, Nat.reduceLT, if_true, if_false, true_and, and_true, and_self, Nat.reduceBEq, QOp.loads, boxO, bslO, buildO, cutL, fillV, putL, w20, v20, IA2, LDk H3 e3 2 (by omega), NC, decide_eq_false cC, Bool.not_false, e1, e2, e4]
    exact fin
  have F0 := Fresh.new0 H3 encI_len (by omega)
  simp (maxSteps := 4000000) (disch := omega) only [ah, am, Nat.reduceEqDiff, reduceCtorEq, Nat.reduceAdd, Nat.reduceLeDiff, Nat.reduceMul, Nat.reduceLT, if_true, if_false, true_and, and_true, and_self, Nat.reduceBEq, QOp.loads, boxO, bslO, buildO, cutL, fillV, putL, w20, v20, IA2, LDk H3 e3 2 (by omega), NC, decide_eq_true cC, Bool.not_true]
  refine SW_loop_up (fun i E K => ∃ w, 3 ≤ i ∧ Fresh H3 K encI 1 w ((List.range (i - 3)).map fun j => frameI r (wd l (j + 3))) ∧ (∀ j, 3 ≤ j → j < i → timeOkL r (wd l j)) ∧
    E = [(3, v), (4, .int .i64 (sumLen t)), (5, .pointer (some ⟨rb, 0, none⟩)), (10, .pointer (some ⟨cb, 0, none⟩)), (12, wv), (13, .pointer (some ⟨nb, 0, none⟩)), (15, .int .i64 (srcV' (wd l 1))), (18, w), (19, .int .i64 (i : Int))]) 7 3 (by omega) ⟨_, by omega, F0, fun j h1 h2 => by omega, rfl⟩ ?_
  clear F0
  rintro i E K hi ⟨w, hi3, F, TO, rfl⟩
  have wi : IntKind.i64.wrap ((i : Int) + 1) = ((i + 1 : Nat) : Int) := i64e (by omega) (by omega)
  have eK := e3.trans F.1
  simp (maxSteps := 4000000) (disch := omega) only [ah, am, Nat.reduceEqDiff, reduceCtorEq, Nat.reduceAdd, Nat.reduceLeDiff, Nat.reduceMul, Nat.reduceLT, if_true, if_false, true_and, and_true, and_self, Nat.reduceBEq, QOp.loads, boxO, bslO, buildO, cutL, fillV, putL, w20, v20]
  refine stepI.split (fun hq => ?_) (fun hq => ?_)
  · have hi7 : i < 7 := by omega
    have lnI := wd_len l i
    have rd := specTimeRead_ok K r (wd l i) (by omega)
    simp only [encRate] at rd
    simp (maxSteps := 4000000) (disch := omega) only [ah, am, Nat.reduceEqDiff, reduceCtorEq, Nat.reduceAdd, Nat.reduceLeDiff, Nat.reduceMul, Nat.reduceLT, if_true, if_false, true_and, and_true, and_self, Nat.reduceBEq, QOp.loads, boxO, bslO, buildO, cutL, fillV, putL, w20, v20, IAk i hi7, LDk K eK i hi7, (BR.ext eK).ld]
    refine stepC.of rd ?_
    rintro _ K2 ⟨e4, rfl⟩
    by_cases ct : timeOkL r (wd l i)
    rotate_left
    · obtain ⟨K', e1, e2, e5, fin⟩ := bad K2 (eK.trans e4) 7 (lnCode_time hw c1 ⟨cS, cC⟩ (fun q => ct (by
        have : i = 3 ∨ i = 4 ∨ i = 5 ∨ i = 6 := by omega
        rcases this with rfl | rfl | rfl | rfl
        · exact q.1
        · exact q.2.1
        · exact q.2.2.1
        · exact q.2.2.2))) (by omega)
      rw [← timeRes_bad ct]
      simp (maxSteps := 4000000) (disch := omega) only [ah, am, Nat.reduceEqDiff, reduceCtorEq, Nat.reduceAdd, Nat.reduceLeDiff, Nat.reduceMul, Nat.reduceLT, if_true, if_false, true_and, and_true, and_self, Nat.reduceBEq, QOp.loads, boxO, bslO, buildO, cutL, fillV, putL, w20, v20, e1, e2, e5]
      exact fin
    rw [← timeRes_ok ct]
    obtain ⟨w2, K3, ap, F2⟩ := (F.ext e4).app1 (frameI r (wd l i)) (bytes := 8) (by simp; omega)
    simp only [encI] at ap
    simp (maxSteps := 4000000) (disch := omega) only [ah, am, Nat.reduceEqDiff, reduceCtorEq, Nat.reduceAdd, Nat.reduceLeDiff, Nat.reduceMul, Nat.reduceLT, if_true, if_false, true_and, and_true, and_self, Nat.reduceBEq, QOp.loads, boxO, bslO, buildO, cutL, fillV, putL, w20, v20, ap, wi]
    refine ⟨hi7, w2, by omega, ?_, fun j h1 h2 => ?_, rfl⟩
    · rw [show i + 1 - 3 = (i - 3) + 1 from by omega, List.range_succ, List.map_append]
      rw [List.map_cons, List.map_nil, show i - 3 + 3 = i from by omega]
      exact F2
    · by_cases e : j = i
      · rw [e]; exact ct
      · exact TO j h1 (by omega)
  obtain rfl : i = 7 := by omega
  have T3 := TO 3 (by omega) (by omega)
  have T4 := TO 4 (by omega) (by omega)
  have T5 := TO 5 (by omega) (by omega)
  have T6 := TO 6 (by omega) (by omega)
  have good : LnOk r t l := ⟨hw, c1, ⟨cS, cC⟩, T3, T4, T5, T6⟩
  rw [show 7 - 3 = 4 from rfl, range4] at F
  have sF := F.slt
  have eK := e3.trans F.1
  clear F TO
  have b3 := frameI_bd T3
  have b4 := frameI_bd T4
  have b5 := frameI_bd T5
  have b6 := frameI_bd T6
  have J0 : iaV 1 w (.int .i64 0) = some (ptrAt w 0) := (ints_rules sF .i64 0 (by simp)).1
  have J1 : iaV 1 w (.int .i64 1) = some (ptrAt w 1) := (ints_rules sF .i64 1 (by simp)).1
  have J2 : iaV 1 w (.int .i64 2) = some (ptrAt w 2) := (ints_rules sF .i64 2 (by simp)).1
  have J3 : iaV 1 w (.int .i64 3) = some (ptrAt w 3) := (ints_rules sF .i64 3 (by simp)).1
  have L0 : ldV K (ptrAt w 0) = some (.int .i64 (frameI r (wd l 3))) := (ints_rules sF .i64 0 (by simp)).2
  have L1 : ldV K (ptrAt w 1) = some (.int .i64 (frameI r (wd l 4))) := (ints_rules sF .i64 1 (by simp)).2
  have L2 : ∀ K', Ext K K' → ldV K' (ptrAt w 2) = some (.int .i64 (frameI r (wd l 5))) := fun K' e => (ints_rules (sF.ext e) .i64 2 (by simp)).2
  have L3 : ∀ K', Ext K K' → ldV K' (ptrAt w 3) = some (.int .i64 (frameI r (wd l 6))) := fun K' e => (ints_rules (sF.ext e) .i64 3 (by simp)).2
  have u1 : IntKind.i64.wrap (frameI r (wd l 4) - frameI r (wd l 3)) = frameI r (wd l 4) - frameI r (wd l 3) := i64w (by omega)
  have eC := Ext.more K [encClip (lnClip r l)]
  have BX := Bx.new K (encClip (lnClip r l)) []
  have lc := l4Clip_ok (K.more [encClip (lnClip r l)]) (lnClip r l)
  have hcl : encClip (lnClip r l) = [.int .i64 (srcV' (wd l 1)), .int .i64 (frameI r (wd l 3)), .int .i64 (frameI r (wd l 4) - frameI r (wd l 3))] := rfl
  have hlen : (lnClip r l).len = frameI r (wd l 4) - frameI r (wd l 3) := rfl
  rw [hcl] at eC BX lc
  have fin2 : ∀ K', Ext K K' → lnCode r t l = 0 → ∃ K2, stV K' 3 (.pointer (some ⟨cb, 0, none⟩)) (.agg #[.int .i64 (srcV' (wd l 1)), .int .i64 (frameI r (wd l 3)), .int .i64 (frameI r (wd l 4) - frameI r (wd l 3))]) = some K2 ∧
      (∀ o m, ldnV K2 m (.pointer (some ⟨cb, o, none⟩)) = cutL [.int .i64 (srcV' (wd l 1)), .int .i64 (frameI r (wd l 3)), .int .i64 (frameI r (wd l 4) - frameI r (wd l 3))] o m) ∧
      (Ext h K2 ∧ ∃ c : Clip, (.tuple #[.agg #[.int .i64 (srcV' (wd l 1)), .int .i64 (frameI r (wd l 3)), .int .i64 (frameI r (wd l 4) - frameI r (wd l 3))], .int .i64 0] : Value) = .tuple #[.agg (encClip c).toArray, .int .i64 (lnCode r t l)] ∧ (lnCode r t l = 0 → c = lnClip r l)) := by
    intro K' e hz
    obtain ⟨K2, e1, B', G⟩ := put_res (a := zClip) (BC.ext (eK.trans e)) (lnClip r l)
    exact ⟨K2, e1, B'.ld.2, G.ext (E2.trans (eK.trans e)) hge, lnClip r l, by rw [hz]; rfl, fun _ => rfl⟩
  obtain ⟨xb, hxb⟩ : ∃ q, q = K.size := ⟨_, rfl⟩
  simp (maxSteps := 4000000) (disch := omega) only [ah, am, Nat.reduceEqDiff, reduceCtorEq, Nat.reduceAdd, Nat.reduceLeDiff, Nat.reduceMul, Nat.reduceLT, if_true, if_false, true_and, and_true, and_self, Nat.reduceBEq, QOp.loads, boxO, bslO, buildO, cutL, fillV, putL, w20, v20, J0, J1, L0, L1, u1]
  obtain ⟨K1, hK1⟩ : ∃ K1, K1 = K.more [[.int .i64 (srcV' (wd l 1)), .int .i64 (frameI r (wd l 3)), .int .i64 (frameI r (wd l 4) - frameI r (wd l 3))]] := ⟨_, rfl⟩
  rw [← hK1] at eC BX lc ⊢
  rw [← hxb] at BX ⊢
  clear hK1
  refine stepC.of lc ?_
  rintro _ K4 ⟨e4, rfl⟩
  have eA := eC.trans e4
  have BX := BX.ext e4
  have sB := (s.ext eK).ext eA
  by_cases cc : clipOk (lnClip r l)
  rotate_left
  · obtain ⟨K', e1, e2, e5, fin⟩ := bad K4 (eK.trans eA) 8 (lnCode_in good cc) (by omega)
    simp (maxSteps := 4000000) (disch := omega) only [ah, am, Nat.reduceEqDiff, reduceCtorEq, Nat.reduceAdd, Nat.reduceLeDiff, Nat.reduceMul, Nat.reduceLT, if_true, if_false, true_and, and_true, and_self, Nat.reduceBEq, QOp.loads, boxO, bslO, buildO, cutL, fillV, putL, w20, v20, decide_eq_false cc, e1, e2, e5]
    exact fin
  have u2 : IntKind.i64.wrap (sumLen t + (frameI r (wd l 4) - frameI r (wd l 3))) = sumLen t + (frameI r (wd l 4) - frameI r (wd l 3)) := i64w (by omega)
  by_cases p5 : frameI r (wd l 5) = sumLen t
  rotate_left
  · obtain ⟨K', e1, e2, e5, fin⟩ := bad K4 (eK.trans eA) 9 (lnCode_place good cc (.inl p5)) (by omega)
    simp (maxSteps := 4000000) (disch := omega) only [ah, am, Nat.reduceEqDiff, reduceCtorEq, Nat.reduceAdd, Nat.reduceLeDiff, Nat.reduceMul, Nat.reduceLT, if_true, if_false, true_and, and_true, and_self, Nat.reduceBEq, QOp.loads, boxO, bslO, buildO, cutL, fillV, putL, w20, v20, decide_eq_true cc, J2, L2 K4 eA, decide_eq_false p5, e1, e2, e5]
    exact fin
  by_cases p6 : frameI r (wd l 6) = sumLen t + (frameI r (wd l 4) - frameI r (wd l 3))
  rotate_left
  · obtain ⟨K', e1, e2, e5, fin⟩ := bad K4 (eK.trans eA) 9 (lnCode_place good cc (.inr (by rw [hlen]; omega))) (by omega)
    simp (maxSteps := 4000000) (disch := omega) only [ah, am, Nat.reduceEqDiff, reduceCtorEq, Nat.reduceAdd, Nat.reduceLeDiff, Nat.reduceMul, Nat.reduceLT, if_true, if_false, true_and, and_true, and_self, Nat.reduceBEq, QOp.loads, boxO, bslO, buildO, cutL, fillV, putL, w20, v20, decide_eq_true cc, J2, L2 K4 eA, decide_eq_true p5, J3, L3 K4 eA, BX.ld, u2, decide_eq_false p6, e1, e2, e5]
    exact fin
  have hpl : frameI r (wd l 5) = sumLen t ∧ frameI r (wd l 6) - frameI r (wd l 5) = (lnClip r l).len := ⟨p5, by rw [hlen]; omega⟩
  -- append(append([]Clip{}, track...), k)
  have F0 : Fk [] K4 (K4.more [[], encClip (lnClip r l)]) encClip 3 (.slice (some ⟨K4.size, 0, none⟩) 0 3) [] [(K4.size + 1, encClip (lnClip r l))] := by
    have := (Fk.of (X := []) (Fresh.new0 K4 encClip_len (by omega))).more [encClip (lnClip r l)]
    simpa [more_more, size_more, boxesAt] using this
  have eQ := Ext.more K4 [[], encClip (lnClip r l)]
  have BX6 := BX.ext eQ
  obtain ⟨v2, K6, ap1, F6⟩ := F0.app (sB.ext eQ) (bytes := 24) (by simp; omega)
  rw [List.nil_append] at F6
  have BK6 := (F6.box _ (List.mem_singleton.mpr rfl)).2
  have s1 := slt_box (enc := encClip) (sz := 3) BK6 encClip_len (by omega)
  obtain ⟨v3, K7, ap2, F7⟩ := F6.fresh.app s1 (bytes := 24) (by simp; omega)
  have B6 := BX.ext F6.fresh.1
  have e7 := F7.1
  have s7 := F7.slt
  rw [hcl] at ap1 ap2 F0 eQ BX6
  clear F0 F6 F7 BK6 s1
  simp (maxSteps := 4000000) (disch := omega) only [ah, am, Nat.reduceEqDiff, reduceCtorEq, Nat.reduceAdd, Nat.reduceLeDiff, Nat.reduceMul, Nat.reduceLT, if_true, if_false, true_and, and_true, and_self, Nat.reduceBEq, QOp.loads, boxO, bslO, buildO, cutL, fillV, putL, w20, v20, decide_eq_true cc, J2, L2 K4 eA, decide_eq_true p5, J3, L3 K4 eA, BX.ld, u2, decide_eq_true p6, (BX.ext (Ext.more K4 [[]])).ld, ap1, ap2, rechk_cons, rechk_end, chkV_some, chkV_false, B6.ld]
  have hin : ∀ k ∈ t ++ [lnClip r l], clipIn 10000000 k := by
    intro k hk
    rcases List.mem_append.mp hk with hk | hk
    · exact (kp.1.2.1 k hk).in
    · rw [List.mem_singleton] at hk; rw [hk]; exact cc.in
  have hla : (t ++ [lnClip r l]).length ≤ 301 := by simp; omega
  refine stepC.of (l4Join_ok K7 v3 (t ++ [lnClip r l]) s7 (by omega) hin) ?_
  intro jv K8 F8
  have e8 := e7.trans F8.1
  have RJ := F8.slt.rulesN.1
  have RA := (s7.ext F8.1).rulesN.1
  have eA8 := eA.trans e8
  have iff := joinBad_iff kp.2 (lnClip r l)
  by_cases cj : (join (t ++ [lnClip r l])).length = (t ++ [lnClip r l]).length
  rotate_left
  · have d : decide (((join (t ++ [lnClip r l])).length : Int) = ((t ++ [lnClip r l]).length : Int)) = false := decide_eq_false (by omega)
    obtain ⟨K', e1, e2, e5, fin⟩ := bad K8 (eK.trans eA8) 10 (lnCode_join good cc hpl (iff.mp (.inl cj))) (by omega)
    simp (maxSteps := 4000000) (disch := omega) only [ah, am, Nat.reduceEqDiff, reduceCtorEq, Nat.reduceAdd, Nat.reduceLeDiff, Nat.reduceMul, Nat.reduceLT, if_true, if_false, true_and, and_true, and_self, Nat.reduceBEq, QOp.loads, boxO, bslO, buildO, cutL, fillV, putL, w20, v20, RJ, RA, d, e1, e2, e5]
    exact fin
  have d : decide (((join (t ++ [lnClip r l])).length : Int) = ((t ++ [lnClip r l]).length : Int)) = true := decide_eq_true (by omega)
  simp (maxSteps := 4000000) (disch := omega) only [ah, am, Nat.reduceEqDiff, reduceCtorEq, Nat.reduceAdd, Nat.reduceLeDiff, Nat.reduceMul, Nat.reduceLT, if_true, if_false, true_and, and_true, and_self, Nat.reduceBEq, QOp.loads, boxO, bslO, buildO, cutL, fillV, putL, w20, v20, RJ, RA, d]
  refine stepC.of (TrackOk_ok K8 v3 (t ++ [lnClip r l]) (s7.ext F8.1) (by omega)) ?_
  rintro _ K9 ⟨e9, rfl⟩
  have eA9 := eA8.trans e9
  by_cases ck : trackOk (t ++ [lnClip r l])
  rotate_left
  · obtain ⟨K', e1, e2, e5, fin⟩ := bad K9 (eK.trans eA9) 10 (lnCode_join good cc hpl (iff.mp (.inr ck))) (by omega)
    simp (maxSteps := 4000000) (disch := omega) only [ah, am, Nat.reduceEqDiff, reduceCtorEq, Nat.reduceAdd, Nat.reduceLeDiff, Nat.reduceMul, Nat.reduceLT, if_true, if_false, true_and, and_true, and_self, Nat.reduceBEq, QOp.loads, boxO, bslO, buildO, cutL, fillV, putL, w20, v20, decide_eq_false ck, e1, e2, e5]
    exact fin
  obtain ⟨K', e1, e2, fin⟩ := fin2 K9 eA9 (lnCode_good good cc hpl (fun q => (iff.mpr q).elim (fun a => a cj) fun a => a ck))
  simp (maxSteps := 4000000) (disch := omega) only [ah, am, Nat.reduceEqDiff, reduceCtorEq, Nat.reduceAdd, Nat.reduceLeDiff, Nat.reduceMul, Nat.reduceLT, if_true, if_false, true_and, and_true, and_self, Nat.reduceBEq, QOp.loads, boxO, bslO, buildO, cutL, fillV, putL, w20, v20, decide_eq_true ck, (BX.ext (e8.trans e9)).ld, e1, e2]
  exact fin
end Go.Proofs.YtgmimgmdbpcecaaGreatDoor
end

section
namespace Go.Proofs.YtgmimgmdbpcecaaGreatDoor
open Go Go.Ah
set_option linter.unusedSimpArgs false
set_option linter.unusedVariables false
set_option maxRecDepth 10000
set_option maxHeartbeats 4000000
/-! 24 (loop.example/g00066/impl.Rate).readLine: parameters 3, live [0, 1, 2], slots [0:r, 1:track, 2:line, 3:r, 4:track, 5:line, 8:words, 9:_, 10:w, 11:src, 12:ok, 13:times, 14:k, 15:w, 16:c, 17:n] -/
def c24_0 : List SOper := [⟨some 3, .a (.box (.t 0)), none⟩, ⟨some 6, .q (.mv (.c (.slice none 0 0))), none⟩, ⟨some 7, .q (.mv (.c (.int .i64 0))), none⟩]
def c24_1 : List SOper := [⟨some 18, .q (.mv (.t 2)), none⟩, ⟨some 19, .e (.call 50 [(.t 18), (.c (.string ⟨#[32]⟩))]), none⟩, ⟨some 8, .q (.mv (.t 19)), none⟩]
def c24_2 : List SOper := [⟨some 20, .q (.mv (.t 8)), none⟩, ⟨some 21, .q (.len (.t 20)), none⟩, ⟨some 22, .q (.mv (.c (.int .i64 0))), none⟩]
def c24_3 : List SOper := [⟨some 23, .q (.bin .lss (.t 22) (.t 21)), none⟩]
def c24_4 : SCode := .cond (.t 23) .skip (.exit 0)
def c24_5 : List SOper := [⟨some 24, .q (.ia 1 (.t 20) (.t 22)), none⟩, ⟨some 25, .q (.ld (.t 24)), none⟩, ⟨some 10, .q (.mv (.t 25)), none⟩]
def c24_6 : List SOper := [⟨some 26, .q (.mv (.t 10)), none⟩, ⟨some 27, .q (.bin .eql (.t 26) (.c (.string ⟨#[]⟩))), none⟩]
def c24_7 : List SOper := [⟨some 6, .q (.mv (.c (.slice none 0 0))), none⟩, ⟨some 7, .q (.mv (.c (.int .i64 4))), none⟩]
def c24_8 : SCode := .seq (.region c24_7 [6, 7]) .ret
def c24_9 : SCode := .cond (.t 27) c24_8 .skip
def c24_10 : SCode := .seq (.region c24_6 [1, 3, 8, 20, 21, 22, 27]) c24_9
def c24_11 : SCode := .seq (.region c24_5 [1, 3, 8, 10, 20, 21, 22]) c24_10
def c24_12 : SCode := .block 1 c24_11
def c24_13 : List SOper := [⟨some 28, .q (.bin .add (.t 22) (.c (.int .i64 1))), none⟩, ⟨some 22, .q (.mv (.t 28)), none⟩]
def c24_14 : SCode := .seq c24_12 (.region c24_13 [1, 3, 8, 20, 21, 22])
def c24_15 : SCode := .seq c24_4 c24_14
def c24_16 : SCode := .seq (.region c24_3 [1, 3, 8, 20, 21, 22, 23]) c24_15
def c24_17 : SCode := .loop c24_16
def c24_18 : SCode := .block 0 c24_17
def c24_19 : SCode := .seq (.region c24_2 [1, 3, 8, 20, 21, 22]) c24_18
def c24_20 : List SOper := [⟨some 29, .q (.mv (.t 8)), none⟩, ⟨some 30, .q (.len (.t 29)), none⟩, ⟨some 31, .q (.bin .neq (.t 30) (.c (.int .i64 7))), none⟩]
def c24_21 : List SOper := [⟨some 6, .q (.mv (.c (.slice none 0 0))), none⟩, ⟨some 7, .q (.mv (.c (.int .i64 4))), none⟩]
def c24_22 : SCode := .seq (.region c24_21 [6, 7]) .ret
def c24_23 : SCode := .cond (.t 31) c24_22 .skip
def c24_24 : SCode := .seq (.region c24_20 [1, 3, 8, 31]) c24_23
def c24_25 : List DOper := [⟨0, ⟨some 32, .q (.mv (.t 8)), none⟩, [], []⟩, ⟨1, ⟨some 33, .q (.ia 1 (.t 32) (.c (.int .i64 0))), none⟩, [], []⟩, ⟨2, ⟨some 34, .q (.ld (.t 33)), none⟩, [], []⟩, ⟨3, ⟨some 35, .q (.mv (.t 1)), none⟩, [], []⟩, ⟨4, ⟨some 36, .q (.len (.t 35)), none⟩, [], []⟩, ⟨5, ⟨some 37, .q (.bin .add (.t 36) (.c (.int .i64 1))), none⟩, [], []⟩, ⟨6, ⟨some 38, .e (.call 51 [(.t 37), (.c (.int .i64 3))]), none⟩, [], [2]⟩, ⟨7, ⟨some 39, .q (.bin .neq (.t 34) (.t 38)), none⟩, [], []⟩]
def c24_26 : List SOper := [⟨some 6, .q (.mv (.c (.slice none 0 0))), none⟩, ⟨some 7, .q (.mv (.c (.int .i64 5))), none⟩]
def c24_27 : SCode := .seq (.region c24_26 [6, 7]) .ret
def c24_28 : SCode := .cond (.t 39) c24_27 .skip
def c24_29 : SCode := .seq (.dregion c24_25 [1, 3, 8, 39]) c24_28
def c24_30 : List SOper := [⟨some 41, .q (.mv (.t 8)), none⟩, ⟨some 42, .q (.ia 1 (.t 41) (.c (.int .i64 1))), none⟩, ⟨some 43, .q (.ld (.t 42)), none⟩, ⟨some 44, .e (.call 52 [(.t 43)]), none⟩, ⟨some 40, .q (.mv (.t 44)), none⟩, ⟨some 45, .q (.ext (.t 40) 0), none⟩, ⟨some 46, .q (.ext (.t 40) 1), none⟩, ⟨some 11, .q (.mv (.t 45)), none⟩, ⟨some 12, .q (.mv (.t 46)), none⟩]
def c24_31 : List SOper := [⟨some 47, .q (.mv (.t 12)), none⟩, ⟨some 48, .q (.not (.t 47)), none⟩, ⟨some 49, .q (.mv (.t 48)), none⟩, ⟨some 50, .q (.mv (.t 8)), some (49, false)⟩, ⟨some 51, .q (.ia 1 (.t 50) (.c (.int .i64 2))), some (49, false)⟩, ⟨some 52, .q (.ld (.t 51)), some (49, false)⟩, ⟨some 53, .q (.bin .neq (.t 52) (.c (.string ⟨#[67]⟩))), some (49, false)⟩, ⟨some 54, .q (.pick (.t 49) (.c (.bool true)) (.t 53)), none⟩]
def c24_32 : List SOper := [⟨some 6, .q (.mv (.c (.slice none 0 0))), none⟩, ⟨some 7, .q (.mv (.c (.int .i64 6))), none⟩]
def c24_33 : SCode := .seq (.region c24_32 [6, 7]) .ret
def c24_34 : SCode := .cond (.t 54) c24_33 .skip
def c24_35 : SCode := .seq (.region c24_31 [1, 3, 8, 11, 54]) c24_34
def c24_36 : List SOper := [⟨some 55, .q (.build [(.int .i64 0), (.int .i64 0), (.int .i64 0), (.int .i64 0)] []), none⟩, ⟨some 13, .a (.new [(.int .i64 0), (.int .i64 0), (.int .i64 0), (.int .i64 0)]), none⟩, ⟨none, .e (.st 4 (.t 13) (.t 55)), none⟩]
def c24_37 : List SOper := [⟨some 56, .q (.mv (.t 8)), none⟩, ⟨some 57, .q (.slc 1 (.t 56) (some (.c (.int .i64 3))) none), none⟩, ⟨some 58, .q (.len (.t 57)), none⟩, ⟨some 59, .q (.mv (.c (.int .i64 0))), none⟩]
def c24_38 : List SOper := [⟨some 60, .q (.bin .lss (.t 59) (.t 58)), none⟩]
def c24_39 : SCode := .cond (.t 60) .skip (.exit 2)
def c24_40 : List SOper := [⟨some 61, .q (.mv (.t 59)), none⟩, ⟨some 62, .q (.ia 1 (.t 57) (.t 59)), none⟩, ⟨some 63, .q (.ld (.t 62)), none⟩, ⟨some 14, .q (.mv (.t 61)), none⟩, ⟨some 15, .q (.mv (.t 63)), none⟩]
def c24_41 : List SOper := [⟨some 65, .q (.mv (.t 14)), none⟩, ⟨some 66, .q (.ldn 3 (.t 3)), none⟩, ⟨some 67, .q (.mv (.t 15)), none⟩, ⟨some 68, .e (.call 53 [(.t 66), (.t 67)]), none⟩, ⟨some 64, .q (.mv (.t 68)), none⟩, ⟨some 69, .q (.ext (.t 64) 0), none⟩, ⟨some 70, .q (.ext (.t 64) 1), none⟩, ⟨some 71, .q (.iaa 4 1 (.t 13) (.t 65)), none⟩, ⟨none, .e (.st 1 (.t 71) (.t 69)), none⟩, ⟨some 12, .q (.mv (.t 70)), none⟩]
def c24_42 : List SOper := [⟨some 72, .q (.mv (.t 12)), none⟩, ⟨some 73, .q (.not (.t 72)), none⟩]
def c24_43 : List SOper := [⟨some 6, .q (.mv (.c (.slice none 0 0))), none⟩, ⟨some 7, .q (.mv (.c (.int .i64 7))), none⟩]
def c24_44 : SCode := .seq (.region c24_43 [6, 7]) .ret
def c24_45 : SCode := .cond (.t 73) c24_44 .skip
def c24_46 : SCode := .seq (.region c24_42 [1, 3, 11, 13, 57, 58, 59, 73]) c24_45
def c24_47 : SCode := .seq (.region c24_41 [1, 3, 11, 12, 13, 57, 58, 59]) c24_46
def c24_48 : SCode := .seq (.region c24_40 [1, 3, 11, 13, 14, 15, 57, 58, 59]) c24_47
def c24_49 : SCode := .block 3 c24_48
def c24_50 : List SOper := [⟨some 74, .q (.bin .add (.t 59) (.c (.int .i64 1))), none⟩, ⟨some 59, .q (.mv (.t 74)), none⟩]
def c24_51 : SCode := .seq c24_49 (.region c24_50 [1, 3, 11, 13, 57, 58, 59])
def c24_52 : SCode := .seq c24_39 c24_51
def c24_53 : SCode := .seq (.region c24_38 [1, 3, 11, 13, 57, 58, 59, 60]) c24_52
def c24_54 : SCode := .loop c24_53
def c24_55 : SCode := .block 2 c24_54
def c24_56 : SCode := .seq (.region c24_37 [1, 3, 11, 13, 57, 58, 59]) c24_55
def c24_57 : List SOper := [⟨some 75, .q (.mv (.t 11)), none⟩, ⟨some 76, .q (.iaa 4 1 (.t 13) (.c (.int .i64 0))), none⟩, ⟨some 77, .q (.ld (.t 76)), none⟩, ⟨some 78, .q (.iaa 4 1 (.t 13) (.c (.int .i64 1))), none⟩, ⟨some 79, .q (.ld (.t 78)), none⟩, ⟨some 80, .q (.iaa 4 1 (.t 13) (.c (.int .i64 0))), none⟩, ⟨some 81, .q (.ld (.t 80)), none⟩, ⟨some 82, .q (.bin .sub (.t 79) (.t 81)), none⟩, ⟨some 83, .q (.build [(.int .i64 0), (.int .i64 0), (.int .i64 0)] [(0, 1, (.t 75)), (1, 1, (.t 77)), (2, 1, (.t 82))]), none⟩, ⟨some 16, .a (.new [(.int .i64 0), (.int .i64 0), (.int .i64 0)]), none⟩, ⟨none, .e (.st 3 (.t 16) (.t 83)), none⟩]
def c24_58 : List SOper := [⟨some 84, .q (.ldn 3 (.t 16)), none⟩, ⟨some 85, .e (.call 54 [(.t 84)]), none⟩, ⟨some 86, .q (.not (.t 85)), none⟩]
def c24_59 : List SOper := [⟨some 6, .q (.mv (.c (.slice none 0 0))), none⟩, ⟨some 7, .q (.mv (.c (.int .i64 8))), none⟩]
def c24_60 : SCode := .seq (.region c24_59 [6, 7]) .ret
def c24_61 : SCode := .cond (.t 86) c24_60 .skip
def c24_62 : SCode := .seq (.region c24_58 [1, 13, 16, 86]) c24_61
def c24_63 : List DOper := [⟨0, ⟨some 87, .q (.iaa 4 1 (.t 13) (.c (.int .i64 2))), none⟩, [], []⟩, ⟨1, ⟨some 88, .q (.ld (.t 87)), none⟩, [], []⟩, ⟨2, ⟨some 89, .q (.mv (.t 1)), none⟩, [], []⟩, ⟨3, ⟨some 90, .e (.call 55 [(.t 89)]), none⟩, [], [1]⟩, ⟨4, ⟨some 91, .q (.bin .neq (.t 88) (.t 90)), none⟩, [], []⟩, ⟨5, ⟨some 92, .q (.mv (.t 91)), none⟩, [], []⟩, ⟨6, ⟨some 93, .q (.iaa 4 1 (.t 13) (.c (.int .i64 3))), some (92, false)⟩, [], []⟩, ⟨7, ⟨some 94, .q (.ld (.t 93)), some (92, false)⟩, [], []⟩, ⟨8, ⟨some 95, .q (.iaa 4 1 (.t 13) (.c (.int .i64 2))), some (92, false)⟩, [], []⟩, ⟨9, ⟨some 96, .q (.ld (.t 95)), some (92, false)⟩, [], []⟩, ⟨10, ⟨some 97, .q (.bin .sub (.t 94) (.t 96)), some (92, false)⟩, [], []⟩, ⟨11, ⟨some 98, .q (.fa 2 (.t 16)), some (92, false)⟩, [], []⟩, ⟨12, ⟨some 99, .q (.ld (.t 98)), some (92, false)⟩, [], []⟩, ⟨13, ⟨some 100, .q (.bin .neq (.t 97) (.t 99)), some (92, false)⟩, [], []⟩, ⟨14, ⟨some 101, .q (.pick (.t 92) (.c (.bool true)) (.t 100)), none⟩, [], []⟩]
def c24_64 : List SOper := [⟨some 6, .q (.mv (.c (.slice none 0 0))), none⟩, ⟨some 7, .q (.mv (.c (.int .i64 9))), none⟩]
def c24_65 : SCode := .seq (.region c24_64 [6, 7]) .ret
def c24_66 : SCode := .cond (.t 101) c24_65 .skip
def c24_67 : SCode := .seq (.dregion c24_63 [1, 16, 101]) c24_66
def c24_68 : List SOper := [⟨some 102, .q (.mv (.t 1)), none⟩, ⟨some 103, .q (.len (.t 102)), none⟩, ⟨some 17, .q (.mv (.t 103)), none⟩]
def c24_69 : List SOper := [⟨some 104, .q (.mv (.t 17)), none⟩, ⟨some 105, .q (.bin .gtr (.t 104) (.c (.int .i64 0))), none⟩, ⟨some 106, .q (.mv (.t 105)), none⟩, ⟨some 107, .q (.ldn 3 (.t 16)), some (106, true)⟩, ⟨some 108, .q (.mv (.t 1)), some (106, true)⟩, ⟨some 109, .q (.mv (.t 17)), some (106, true)⟩, ⟨some 110, .q (.bin .sub (.t 109) (.c (.int .i64 1))), some (106, true)⟩, ⟨some 111, .q (.ia 3 (.t 108) (.t 110)), some (106, true)⟩, ⟨some 112, .q (.ldn 3 (.t 111)), some (106, true)⟩, ⟨some 113, .e (.call 56 [(.t 107), (.t 112)]), some (106, true)⟩, ⟨some 114, .q (.pick (.t 106) (.t 113) (.c (.bool false))), none⟩, ⟨some 115, .q (.mv (.t 114)), none⟩, ⟨some 116, .q (.mv (.t 1)), some (115, false)⟩, ⟨some 117, .q (.ldn 3 (.t 16)), some (115, false)⟩, ⟨some 118, .a (.bsl 1 3 [(.int .i64 0), (.int .i64 0), (.int .i64 0)] [(0, 3, (.t 117))]), some (115, false)⟩, ⟨some 119, .e (.app 24 3 (.t 116) (.t 118)), some (115, false)⟩, ⟨some 120, .e (.call 30 [(.t 119)]), some (115, false)⟩, ⟨some 121, .q (.not (.t 120)), some (115, false)⟩, ⟨some 122, .q (.pick (.t 115) (.c (.bool true)) (.t 121)), none⟩]
def c24_70 : List SOper := [⟨some 6, .q (.mv (.c (.slice none 0 0))), none⟩, ⟨some 7, .q (.mv (.c (.int .i64 10))), none⟩]
def c24_71 : SCode := .seq (.region c24_70 [6, 7]) .ret
def c24_72 : SCode := .cond (.t 122) c24_71 .skip
def c24_73 : SCode := .seq (.region c24_69 [1, 16, 122]) c24_72
def c24_74 : SCode := .seq (.region c24_68 [1, 16, 17]) c24_73
def c24_75 : List SOper := [⟨some 123, .q (.mv (.t 1)), none⟩, ⟨some 124, .q (.ldn 3 (.t 16)), none⟩, ⟨some 125, .a (.bsl 1 3 [(.int .i64 0), (.int .i64 0), (.int .i64 0)] [(0, 3, (.t 124))]), none⟩, ⟨some 126, .e (.app 24 3 (.t 123) (.t 125)), none⟩, ⟨some 6, .q (.mv (.t 126)), none⟩, ⟨some 7, .q (.mv (.c (.int .i64 0))), none⟩]
def c24_76 : SCode := .seq (.region c24_75 [6, 7]) .ret
def c24_77 : SCode := .seq c24_74 c24_76
def c24_78 : SCode := .seq c24_67 c24_77
def c24_79 : SCode := .seq c24_62 c24_78
def c24_80 : SCode := .seq (.region c24_57 [1, 13, 16]) c24_79
def c24_81 : SCode := .seq c24_56 c24_80
def c24_82 : SCode := .seq (.region c24_36 [1, 3, 8, 11, 13]) c24_81
def c24_83 : SCode := .seq c24_35 c24_82
def c24_84 : SCode := .seq (.region c24_30 [1, 3, 8, 11, 12]) c24_83
def c24_85 : SCode := .seq c24_29 c24_84
def c24_86 : SCode := .seq c24_24 c24_85
def c24_87 : SCode := .seq c24_19 c24_86
def c24_88 : SCode := .seq (.region c24_1 [1, 3, 8]) c24_87
def c24_89 : SCode := .seq (.region c24_0 [1, 2, 3]) c24_88
def c24 : SCode := c24_89
theorem w24 : type_of% (And.intro (uR Tryz.prog c24_0.eq_1) (And.intro (uR Tryz.prog c24_1.eq_1) (And.intro (uR Tryz.prog c24_2.eq_1) (And.intro (uR Tryz.prog c24_3.eq_1) (And.intro (uC Tryz.prog c24_4.eq_1) (And.intro (uR Tryz.prog c24_5.eq_1) (And.intro (uR Tryz.prog c24_6.eq_1) (And.intro (uR Tryz.prog c24_7.eq_1) (And.intro (uC Tryz.prog c24_8.eq_1) (And.intro (uC Tryz.prog c24_9.eq_1) (And.intro (uC Tryz.prog c24_10.eq_1) (And.intro (uC Tryz.prog c24_11.eq_1) (And.intro (uC Tryz.prog c24_12.eq_1) (And.intro (uR Tryz.prog c24_13.eq_1) (And.intro (uC Tryz.prog c24_14.eq_1) (And.intro (uC Tryz.prog c24_15.eq_1) (And.intro (uC Tryz.prog c24_16.eq_1) (And.intro (uC Tryz.prog c24_17.eq_1) (And.intro (uC Tryz.prog c24_18.eq_1) (And.intro (uC Tryz.prog c24_19.eq_1) (And.intro (uR Tryz.prog c24_20.eq_1) (And.intro (uR Tryz.prog c24_21.eq_1) (And.intro (uC Tryz.prog c24_22.eq_1) (And.intro (uC Tryz.prog c24_23.eq_1) (And.intro (uC Tryz.prog c24_24.eq_1) (And.intro (uD Tryz.prog c24_25.eq_1) (And.intro (uR Tryz.prog c24_26.eq_1) (And.intro (uC Tryz.prog c24_27.eq_1) (And.intro (uC Tryz.prog c24_28.eq_1) (And.intro (uC Tryz.prog c24_29.eq_1) (And.intro (uR Tryz.prog c24_30.eq_1) (And.intro (uR Tryz.prog c24_31.eq_1) (And.intro (uR Tryz.prog c24_32.eq_1) (And.intro (uC Tryz.prog c24_33.eq_1) (And.intro (uC Tryz.prog c24_34.eq_1) (And.intro (uC Tryz.prog c24_35.eq_1) (And.intro (uR Tryz.prog c24_36.eq_1) (And.intro (uR Tryz.prog c24_37.eq_1) (And.intro (uR Tryz.prog c24_38.eq_1) (And.intro (uC Tryz.prog c24_39.eq_1) (And.intro (uR Tryz.prog c24_40.eq_1) (And.intro (uR Tryz.prog c24_41.eq_1) (And.intro (uR Tryz.prog c24_42.eq_1) (And.intro (uR Tryz.prog c24_43.eq_1) (And.intro (uC Tryz.prog c24_44.eq_1) (And.intro (uC Tryz.prog c24_45.eq_1) (And.intro (uC Tryz.prog c24_46.eq_1) (And.intro (uC Tryz.prog c24_47.eq_1) (And.intro (uC Tryz.prog c24_48.eq_1) (And.intro (uC Tryz.prog c24_49.eq_1) (And.intro (uR Tryz.prog c24_50.eq_1) (And.intro (uC Tryz.prog c24_51.eq_1) (And.intro (uC Tryz.prog c24_52.eq_1) (And.intro (uC Tryz.prog c24_53.eq_1) (And.intro (uC Tryz.prog c24_54.eq_1) (And.intro (uC Tryz.prog c24_55.eq_1) (And.intro (uC Tryz.prog c24_56.eq_1) (And.intro (uR Tryz.prog c24_57.eq_1) (And.intro (uR Tryz.prog c24_58.eq_1) (And.intro (uR Tryz.prog c24_59.eq_1) (And.intro (uC Tryz.prog c24_60.eq_1) (And.intro (uC Tryz.prog c24_61.eq_1) (And.intro (uC Tryz.prog c24_62.eq_1) (And.intro (uD Tryz.prog c24_63.eq_1) (And.intro (uR Tryz.prog c24_64.eq_1) (And.intro (uC Tryz.prog c24_65.eq_1) (And.intro (uC Tryz.prog c24_66.eq_1) (And.intro (uC Tryz.prog c24_67.eq_1) (And.intro (uR Tryz.prog c24_68.eq_1) (And.intro (uR Tryz.prog c24_69.eq_1) (And.intro (uR Tryz.prog c24_70.eq_1) (And.intro (uC Tryz.prog c24_71.eq_1) (And.intro (uC Tryz.prog c24_72.eq_1) (And.intro (uC Tryz.prog c24_73.eq_1) (And.intro (uC Tryz.prog c24_74.eq_1) (And.intro (uR Tryz.prog c24_75.eq_1) (And.intro (uC Tryz.prog c24_76.eq_1) (And.intro (uC Tryz.prog c24_77.eq_1) (And.intro (uC Tryz.prog c24_78.eq_1) (And.intro (uC Tryz.prog c24_79.eq_1) (And.intro (uC Tryz.prog c24_80.eq_1) (And.intro (uC Tryz.prog c24_81.eq_1) (And.intro (uC Tryz.prog c24_82.eq_1) (And.intro (uC Tryz.prog c24_83.eq_1) (And.intro (uC Tryz.prog c24_84.eq_1) (And.intro (uC Tryz.prog c24_85.eq_1) (And.intro (uC Tryz.prog c24_86.eq_1) (And.intro (uC Tryz.prog c24_87.eq_1) (And.intro (uC Tryz.prog c24_88.eq_1) (And.intro (uC Tryz.prog c24_89.eq_1) (uC Tryz.prog c24.eq_1))))))))))))))))))))))))))))))))))))))))))))))))))))))))))))))))))))))))))))))))))))))))))) := (And.intro (uR Tryz.prog c24_0.eq_1) (And.intro (uR Tryz.prog c24_1.eq_1) (And.intro (uR Tryz.prog c24_2.eq_1) (And.intro (uR Tryz.prog c24_3.eq_1) (And.intro (uC Tryz.prog c24_4.eq_1) (And.intro (uR Tryz.prog c24_5.eq_1) (And.intro (uR Tryz.prog c24_6.eq_1) (And.intro (uR Tryz.prog c24_7.eq_1) (And.intro (uC Tryz.prog c24_8.eq_1) (And.intro (uC Tryz.prog c24_9.eq_1) (And.intro (uC Tryz.prog c24_10.eq_1) (And.intro (uC Tryz.prog c24_11.eq_1) (And.intro (uC Tryz.prog c24_12.eq_1) (And.intro (uR Tryz.prog c24_13.eq_1) (And.intro (uC Tryz.prog c24_14.eq_1) (And.intro (uC Tryz.prog c24_15.eq_1) (And.intro (uC Tryz.prog c24_16.eq_1) (And.intro (uC Tryz.prog c24_17.eq_1) (And.intro (uC Tryz.prog c24_18.eq_1) (And.intro (uC Tryz.prog c24_19.eq_1) (And.intro (uR Tryz.prog c24_20.eq_1) (And.intro (uR Tryz.prog c24_21.eq_1) (And.intro (uC Tryz.prog c24_22.eq_1) (And.intro (uC Tryz.prog c24_23.eq_1) (And.intro (uC Tryz.prog c24_24.eq_1) (And.intro (uD Tryz.prog c24_25.eq_1) (And.intro (uR Tryz.prog c24_26.eq_1) (And.intro (uC Tryz.prog c24_27.eq_1) (And.intro (uC Tryz.prog c24_28.eq_1) (And.intro (uC Tryz.prog c24_29.eq_1) (And.intro (uR Tryz.prog c24_30.eq_1) (And.intro (uR Tryz.prog c24_31.eq_1) (And.intro (uR Tryz.prog c24_32.eq_1) (And.intro (uC Tryz.prog c24_33.eq_1) (And.intro (uC Tryz.prog c24_34.eq_1) (And.intro (uC Tryz.prog c24_35.eq_1) (And.intro (uR Tryz.prog c24_36.eq_1) (And.intro (uR Tryz.prog c24_37.eq_1) (And.intro (uR Tryz.prog c24_38.eq_1) (And.intro (uC Tryz.prog c24_39.eq_1) (And.intro (uR Tryz.prog c24_40.eq_1) (And.intro (uR Tryz.prog c24_41.eq_1) (And.intro (uR Tryz.prog c24_42.eq_1) (And.intro (uR Tryz.prog c24_43.eq_1) (And.intro (uC Tryz.prog c24_44.eq_1) (And.intro (uC Tryz.prog c24_45.eq_1) (And.intro (uC Tryz.prog c24_46.eq_1) (And.intro (uC Tryz.prog c24_47.eq_1) (And.intro (uC Tryz.prog c24_48.eq_1) (And.intro (uC Tryz.prog c24_49.eq_1) (And.intro (uR Tryz.prog c24_50.eq_1) (And.intro (uC Tryz.prog c24_51.eq_1) (And.intro (uC Tryz.prog c24_52.eq_1) (And.intro (uC Tryz.prog c24_53.eq_1) (And.intro (uC Tryz.prog c24_54.eq_1) (And.intro (uC Tryz.prog c24_55.eq_1) (And.intro (uC Tryz.prog c24_56.eq_1) (And.intro (uR Tryz.prog c24_57.eq_1) (And.intro (uR Tryz.prog c24_58.eq_1) (And.intro (uR Tryz.prog c24_59.eq_1) (And.intro (uC Tryz.prog c24_60.eq_1) (And.intro (uC Tryz.prog c24_61.eq_1) (And.intro (uC Tryz.prog c24_62.eq_1) (And.intro (uD Tryz.prog c24_63.eq_1) (And.intro (uR Tryz.prog c24_64.eq_1) (And.intro (uC Tryz.prog c24_65.eq_1) (And.intro (uC Tryz.prog c24_66.eq_1) (And.intro (uC Tryz.prog c24_67.eq_1) (And.intro (uR Tryz.prog c24_68.eq_1) (And.intro (uR Tryz.prog c24_69.eq_1) (And.intro (uR Tryz.prog c24_70.eq_1) (And.intro (uC Tryz.prog c24_71.eq_1) (And.intro (uC Tryz.prog c24_72.eq_1) (And.intro (uC Tryz.prog c24_73.eq_1) (And.intro (uC Tryz.prog c24_74.eq_1) (And.intro (uR Tryz.prog c24_75.eq_1) (And.intro (uC Tryz.prog c24_76.eq_1) (And.intro (uC Tryz.prog c24_77.eq_1) (And.intro (uC Tryz.prog c24_78.eq_1) (And.intro (uC Tryz.prog c24_79.eq_1) (And.intro (uC Tryz.prog c24_80.eq_1) (And.intro (uC Tryz.prog c24_81.eq_1) (And.intro (uC Tryz.prog c24_82.eq_1) (And.intro (uC Tryz.prog c24_83.eq_1) (And.intro (uC Tryz.prog c24_84.eq_1) (And.intro (uC Tryz.prog c24_85.eq_1) (And.intro (uC Tryz.prog c24_86.eq_1) (And.intro (uC Tryz.prog c24_87.eq_1) (And.intro (uC Tryz.prog c24_88.eq_1) (And.intro (uC Tryz.prog c24_89.eq_1) (uC Tryz.prog c24.eq_1)))))))))))))))))))))))))))))))))))))))))))))))))))))))))))))))))))))))))))))))))))))))))))
def v24 : List RV := [.t 6, .t 7]
theorem s24 : slimF Tryz.prog Tryz.f24 = some (c24.bare, v24) := by kernel_rfl

theorem readLine_ok (h : Heap) (g : Nat) (r : Rate) (l : List UInt8) (v : Value) (t : List Clip) (F : Full g h encClip 3 v t) (kp : keeps t) (hl : l.length ≤ 1000000) :
    ACall Tryz.prog 24 [.agg (encRate r).toArray, v, .string (bL l)] h
      fun x h' => ExtG g h h' ∧ ∃ u : Value, x = .tuple #[u, .int .i64 (lnCode r t l)] ∧ (lnCode r t l = 0 → Full g h' encClip 3 u (t ++ [lnClip r l])) := by
  have hsz : (bL l).size = l.length := bL_size l
  have ht3 : t.length ≤ 300 := kp.1.1
  have hts := sumLen_bound kp.1.2.1
  have hts2 := kp.1.2.2
  have hgl := F.lt
  have BR := Bx.new h (encRate r) []
  have eM := Ext.more h [encRate r]
  simp only [encRate] at BR eM
  refine ACall.of Tryz.func24 s24 (of_decide_eq_true rfl) ?_
  simp (maxSteps := 4000000) (disch := omega) only [ah, am, Nat.reduceEqDiff, reduceCtorEq, Nat.reduceAdd, Nat.reduceLeDiff, Nat.reduceMul, Nat.reduceLT, if_true, if_false, true_and, and_true, and_self, Nat.reduceBEq, QOp.loads, boxO, bslO, buildO, cutL, fillV, putL, w24, v24, encRate]
  obtain ⟨h1, hh1⟩ : ∃ h1, h1 = h.more [[Value.int IntKind.i64 r.num, Value.int IntKind.i64 r.den, Value.bool r.drop]] := ⟨_, rfl⟩
  rw [← hh1] at BR eM ⊢
  obtain ⟨rb, hrb⟩ : ∃ q, q = h.size := ⟨_, rfl⟩
  rw [← hrb] at BR ⊢
  have hgr : g < rb := by omega
  clear hh1 hrb
  refine stepC.of (Split_ok h1 (bL l) (by rw [hsz]; omega)) ?_
  rintro wv H1 ⟨ps, FW, hps⟩
  rw [bL_data] at hps
  rw [bL_map_of hps] at FW
  clear hps ps
  have sw := FW.slt
  have E1 := eM.trans FW.1
  have BR := BR.ext FW.1
  have F := F.ext E1
  clear FW
  have hbr := Heap.get_lt BR
  have bad : ∀ (K : Heap) (e : ExtG g H1 K) (n : Int), lnCode r t l = n → n ≠ 0 →
      ExtG g h K ∧ ∃ u : Value, (.tuple #[.slice none 0 0, .int .i64 n] : Value) = .tuple #[u, .int .i64 (lnCode r t l)] ∧ (lnCode r t l = 0 → Full g K encClip 3 u (t ++ [lnClip r l])) := by
    intro K e n hn h0
    exact ⟨E1.toG.trans e, _, by rw [hn], fun q => absurd (hn.symm.trans q) h0⟩
  have RW := words_rules sw
  simp (maxSteps := 4000000) (disch := omega) only [ah, am, Nat.reduceEqDiff, reduceCtorEq, Nat.reduceAdd, Nat.reduceLeDiff, Nat.reduceMul, Nat.reduceLT, if_true, if_false, true_and, and_true, and_self, Nat.reduceBEq, QOp.loads, boxO, bslO, buildO, cutL, fillV, putL, w24, v24, RW.1]
  refine SW_loop_up (fun i E K => K = H1 ∧ (∀ j, j < i → wd l j ≠ []) ∧ E = [(1, v), (3, .pointer (some ⟨rb, 0, none⟩)), (8, wv), (20, wv), (21, .int .i64 ((spl l).length : Int)), (22, .int .i64 (i : Int))]) (spl l).length 0 (by omega) ⟨rfl, fun j hj => by omega, rfl⟩ ?_
  rintro i E K hi ⟨hK, A, rfl⟩
  rw [hK]; clear hK K
  have hsl := spl_len l
  have hcl := List.count_le_length (a := (32 : UInt8)) (l := l)
  have wi : IntKind.i64.wrap ((i : Int) + 1) = ((i + 1 : Nat) : Int) := i64e (by omega) (by omega)
  simp (maxSteps := 4000000) (disch := omega) only [ah, am, Nat.reduceEqDiff, reduceCtorEq, Nat.reduceAdd, Nat.reduceLeDiff, Nat.reduceMul, Nat.reduceLT, if_true, if_false, true_and, and_true, and_self, Nat.reduceBEq, QOp.loads, boxO, bslO, buildO, cutL, fillV, putL, w24, v24]
  refine stepI.split (fun hq => ?_) (fun hq => ?_)
  · have hi7 : i < (spl l).length := by omega
    obtain ⟨IA, LD⟩ := RW.2 .i64 i hi7
    rw [wd_get] at LD
    by_cases c0 : wd l i = []
    · simp (maxSteps := 4000000) (disch := omega) only [ah, am, Nat.reduceEqDiff, reduceCtorEq, Nat.reduceAdd, Nat.reduceLeDiff, Nat.reduceMul, Nat.reduceLT, if_true, if_false, true_and, and_true, and_self, Nat.reduceBEq, QOp.loads, boxO, bslO, buildO, cutL, fillV, putL, w24, v24, IA, LD, strB_nil, decide_eq_true c0]
      exact bad H1 (ExtG.refl _ _) 4 (lnCode_words (words_bad_at hi7 c0)) (by omega)
    · simp (maxSteps := 4000000) (disch := omega) only [ah, am, Nat.reduceEqDiff, reduceCtorEq, Nat.reduceAdd, Nat.reduceLeDiff, Nat.reduceMul, Nat.reduceLT, if_true, if_false, true_and, and_true, and_self, Nat.reduceBEq, QOp.loads, boxO, bslO, buildO, cutL, fillV, putL, w24, v24, IA, LD, strB_nil, decide_eq_false c0, wi]
      refine ⟨hi7, fun j hj => ?_⟩
      by_cases e : j = i
      · rw [e]; exact c0
      · exact A j (by omega)
  have hii : i = (spl l).length := by omega
  by_cases n7 : (spl l).length = 7
  rotate_left
  · have n7' : decide (((spl l).length : Int) = 7) = false := decide_eq_false (by omega)
    simp (maxSteps := 4000000) (disch := omega) only [ah, am, Nat.reduceEqDiff, reduceCtorEq, Nat.reduceAdd, Nat.reduceLeDiff, Nat.reduceMul, Nat.reduceLT, if_true, if_false, true_and, and_true, and_self, Nat.reduceBEq, QOp.loads, boxO, bslO, buildO, cutL, fillV, putL, w24, v24, RW.1, n7']
    exact bad H1 (ExtG.refl _ _) 4 (lnCode_words (.inr n7)) (by omega)
  have n7' : decide (((spl l).length : Int) = 7) = true := decide_eq_true (by omega)
  rw [hii, n7] at A
  have hw : ¬ lnWordsBad l := words_good n7 A
  have W0 : ∀ K, Ext H1 K → ∀ j : Nat, j < 7 → iaV 1 wv (.int .i64 (j : Int)) = some (ptrAt wv j) ∧ ldV K (ptrAt wv j) = some (.string (bL (wd l j))) := fun K e j hj => (words_rules (sw.ext e)).2 .i64 j (by omega)
  have IAk : ∀ j : Nat, j < 7 → iaV 1 wv (.int .i64 (j : Int)) = some (ptrAt wv j) := fun j hj => (W0 H1 (Ext.refl _) j hj).1
  have LDk : ∀ K, Ext H1 K → ∀ j : Nat, j < 7 → ldV K (ptrAt wv j) = some (.string (bL (wd l j))) := fun K e j hj => (W0 K e j hj).2
  have IA0 : iaV 1 wv (.int .i64 0) = _ := IAk 0 (by omega)
  have IA1 : iaV 1 wv (.int .i64 1) = _ := IAk 1 (by omega)
  have IA2 : iaV 1 wv (.int .i64 2) = _ := IAk 2 (by omega)
  have LDr := fun j hj => LDk H1 (Ext.refl _) j hj
  have RT := F.slt.rulesN.1
  have wl : IntKind.i64.wrap ((t.length : Int) + 1) = ((t.length + 1 : Nat) : Int) := i64e (by omega) (by omega)
  simp (maxSteps := 4000000) (disch := omega) only [ah, am, Nat.reduceEqDiff, reduceCtorEq, Nat.reduceAdd, Nat.reduceLeDiff, Nat.reduceMul, Nat.reduceLT, if_true, if_false, true_and, and_true, and_self, Nat.reduceBEq, QOp.loads, boxO, bslO, buildO, cutL, fillV, putL, w24, v24, RW.1, n7', IA0, LDr 0 (by omega), RT, wl]
  refine stepC.of (padded_ok H1 (t.length + 1) 3 (by omega) (by omega)) ?_
  rintro _ Hx ⟨hx, rfl⟩; rw [hx]; clear hx Hx
  have ln1 := wd_len l 1
  by_cases c1 : wd l 0 = padL 3 (digs (t.length + 1))
  rotate_left
  · simp (maxSteps := 4000000) (disch := omega) only [ah, am, Nat.reduceEqDiff, reduceCtorEq, Nat.reduceAdd, Nat.reduceLeDiff, Nat.reduceMul, Nat.reduceLT, if_true, if_false, true_and, and_true, and_self, Nat.reduceBEq, QOp.loads, boxO, bslO, buildO, cutL, fillV, putL, w24, v24, rechk_cons, rechk_end, chkV_some, chkV_false, LDr 0 (by omega), strB_neqL, decide_eq_false c1, Bool.not_false]
    exact bad H1 (ExtG.refl _ _) 5 (lnCode_number hw c1) (by omega)
  simp (maxSteps := 4000000) (disch := omega) only [ah, am, Nat.reduceEqDiff, reduceCtorEq, Nat.reduceAdd, Nat.reduceLeDiff, Nat.reduceMul, Nat.reduceLT, if_true, if_false, true_and, and_true, and_self, Nat.reduceBEq, QOp.loads, boxO, bslO, buildO, cutL, fillV, putL, w24, v24, rechk_cons, rechk_end, chkV_some, chkV_false, LDr 0 (by omega), strB_neqL, decide_eq_true c1, Bool.not_true, IA1, LDr 1 (by omega)]
  refine stepC.of (sourceOf_ok H1 (wd l 1) (by omega)) ?_
  rintro _ Hx ⟨hx, src, rfl, hsrc⟩; rw [hx]; clear hx Hx
  have NC : strB .neq (bL (wd l 2)) ⟨#[67]⟩ = some (.bool (!decide (wd l 2 = [67]))) := strB_neq _ _
  by_cases cS : srcOk (wd l 1)
  rotate_left
  · simp (maxSteps := 4000000) (disch := omega) only [ah, am, Nat.reduceEqDiff, reduceCtorEq, Nat.reduceAdd, Nat.reduceLeDiff, Nat.reduceMul, Nat.reduceLT, if_true, if_false, true_and, and_true, and_self, Nat.reduceBEq, QOp.loads, boxO, bslO, buildO, cutL, fillV, putL, w24, v24, decide_eq_false cS]
    exact bad H1 (ExtG.refl _ _) 6 (lnCode_source hw c1 (.inl cS)) (by omega)
  have hsrc := hsrc cS
  by_cases cC : wd l 2 = [67]
  rotate_left
  · simp (maxSteps := 4000000) (disch := omega) only [ah, am, Nat.reduceEqDiff, reduceCtorEq, Nat.reduceAdd, Nat.reduceLeDiff, Nat.reduceMul, Nat.reduceLT, if_true, if_false, true_and, and_true, and_self, Nat.reduceBEq, QOp.loads, boxO, bslO, buildO, cutL, fillV, putL, w24, v24, decide_eq_true cS, IA2, LDr 2 (by omega), NC, decide_eq_false cC, Bool.not_false]
    exact bad H1 (ExtG.refl _ _) 6 (lnCode_source hw c1 (.inr cC)) (by omega)
  rw [hsrc]
  obtain ⟨w3, es3, s3⟩ := SlT_from (sw.ext (Ext.more H1 [[.int .i64 0, .int .i64 0, .int .i64 0, .int .i64 0]])) 3 (by rw [List.length_map]; omega) (by rw [List.length_map]; omega)
  have es3 : slcV 1 wv (some (.int .i64 3)) none = some w3 := es3
  rw [← List.map_drop] at s3
  have R3 := words_rules s3
  have hd3 : ((spl l).drop 3).length = 4 := by rw [List.length_drop]; omega
  rw [hd3] at R3
  have BT := Bx.new H1 [.int .i64 0, .int .i64 0, .int .i64 0, .int .i64 0] []
  have eT := Ext.more H1 [[.int .i64 0, .int .i64 0, .int .i64 0, .int .i64 0]]
  simp (maxSteps := 4000000) (disch := omega) only [ah, am, Nat.reduceEqDiff, reduceCtorEq, Nat.reduceAdd, Nat.reduceLeDiff, Nat.reduceMul, Nat.reduceLT, if_true, if_false, true_and, and_true, and_self, Nat.reduceBEq, QOp.loads, boxO, bslO, buildO, cutL, fillV, putL, w24, v24, decide_eq_true cS, IA2, LDr 2 (by omega), NC, decide_eq_true cC, Bool.not_true, es3, R3.1]
  obtain ⟨tb, htb⟩ : ∃ q, q = H1.size := ⟨_, rfl⟩
  have hge : H1.size ≤ tb := by omega
  have hrt : rb ≠ tb := by omega
  have hgt : g < tb := by have := F.lt; omega
  clear s3 R3
  have W3 : ∀ K, ExtG tb H1 K → ∀ j : Nat, j < 4 → iaV 1 w3 (.int .i64 (j : Int)) = some (ptrAt w3 j) ∧ ldV K (ptrAt w3 j) = some (.string (bL (wd l (3 + j)))) := by
    intro K e j hj
    obtain ⟨u, eu, su⟩ := SlT_from (sw.extG e hge) 3 (by rw [List.length_map]; omega) (by rw [List.length_map]; omega)
    obtain rfl : u = w3 := Option.some.inj (eu.symm.trans es3)
    rw [← List.map_drop] at su
    obtain ⟨x1, x2⟩ := (words_rules su).2 .i64 j (by omega)
    refine ⟨x1, x2.trans ?_⟩
    unfold wd
    rw [List.getD, List.getElem?_drop, List.getD]
  obtain ⟨H2, hH2⟩ : ∃ H2, H2 = H1.more [[.int .i64 0, .int .i64 0, .int .i64 0, .int .i64 0]] := ⟨_, rfl⟩
  rw [← hH2] at eT BT ⊢
  rw [← htb] at BT ⊢
  clear hH2
  have hvs : ∀ j (hj : j < ([frameI r (wd l 3), frameI r (wd l 4), frameI r (wd l 5), frameI r (wd l 6)] : List Int).length), frameI r (wd l (3 + j)) = ([frameI r (wd l 3), frameI r (wd l 4), frameI r (wd l 5), frameI r (wd l 6)] : List Int)[j] := by
    intro j hj
    have : j = 0 ∨ j = 1 ∨ j = 2 ∨ j = 3 := by simp at hj; omega
    rcases this with rfl | rfl | rfl | rfl <;> rfl
  refine SW_loop_up (fun j E K => ExtG tb H2 K ∧ Bx K tb (cs4 (frameI r (wd l 3)) (frameI r (wd l 4)) (frameI r (wd l 5)) (frameI r (wd l 6)) j) ∧ (∀ i, i < j → timeOkL r (wd l (3 + i))) ∧
    E = [(1, v), (3, .pointer (some ⟨rb, 0, none⟩)), (11, .int .i64 (srcV' (wd l 1))), (13, .pointer (some ⟨tb, 0, none⟩)), (57, w3), (58, .int .i64 ((4 : Nat) : Int)), (59, .int .i64 (j : Int))]) 4 0 (by omega) ⟨ExtG.refl _ _, BT, fun i hi => by omega, rfl⟩ ?_
  clear BT
  rintro j E K hj ⟨G, BK, TO, rfl⟩
  have wj : IntKind.i64.wrap ((j : Int) + 1) = ((j + 1 : Nat) : Int) := i64e (by omega) (by omega)
  have GK : ExtG tb H1 K := eT.toG.trans G
  have EK : Ext H1 K := G.ext eT hge
  have BRK := (BR.ext EK)
  simp (maxSteps := 4000000) (disch := omega) only [ah, am, Nat.reduceEqDiff, reduceCtorEq, Nat.reduceAdd, Nat.reduceLeDiff, Nat.reduceMul, Nat.reduceLT, if_true, if_false, true_and, and_true, and_self, Nat.reduceBEq, QOp.loads, boxO, bslO, buildO, cutL, fillV, putL, w24, v24]
  refine stepI.split (fun hq => ?_) (fun hq => ?_)
  · have hj4 : j < 4 := by omega
    obtain ⟨IA, LD⟩ := W3 K GK j hj4
    have lnI := wd_len l (3 + j)
    have rd := TimeRead_ok K r (wd l (3 + j)) (by omega)
    simp only [encRate] at rd
    simp (maxSteps := 4000000) (disch := omega) only [ah, am, Nat.reduceEqDiff, reduceCtorEq, Nat.reduceAdd, Nat.reduceLeDiff, Nat.reduceMul, Nat.reduceLT, if_true, if_false, true_and, and_true, and_self, Nat.reduceBEq, QOp.loads, boxO, bslO, buildO, cutL, fillV, putL, w24, v24, IA, LD, BRK.ld]
    refine stepC.of rd ?_
    rintro _ K2 ⟨e2, rfl⟩
    have IAA : iaaV 4 1 (.pointer (some ⟨tb, 0, none⟩)) (.int .i64 (j : Int)) = some (.pointer (some ⟨tb, j, none⟩)) := by
      rw [iaaV_ptr _ _ _ _ _ _ (by omega) (by omega)]; simp
    have BK := BK.ext e2
    have G2 := G.trans e2.toG
    by_cases ct : timeOkL r (wd l (3 + j))
    rotate_left
    · obtain ⟨K3, es, _, G3⟩ := BK.put (o := j) (n := 1) (y := .int .i64 0) rfl (by simp [cs4]; omega) rfl
      rw [← timeRes_bad ct]
      simp (maxSteps := 4000000) (disch := omega) only [ah, am, Nat.reduceEqDiff, reduceCtorEq, Nat.reduceAdd, Nat.reduceLeDiff, Nat.reduceMul, Nat.reduceLT, if_true, if_false, true_and, and_true, and_self, Nat.reduceBEq, QOp.loads, boxO, bslO, buildO, cutL, fillV, putL, w24, v24, IAA, es]
      refine bad K3 ((G2.trans G3).ext eT hge).toG 7 (lnCode_time hw c1 ⟨cS, cC⟩ (fun q => ct ?_)) (by omega)
      have : j = 0 ∨ j = 1 ∨ j = 2 ∨ j = 3 := by omega
      rcases this with rfl | rfl | rfl | rfl
      · exact q.1
      · exact q.2.1
      · exact q.2.2.1
      · exact q.2.2.2
    rw [← timeRes_ok ct]
    obtain ⟨K3, es, BK3, G3⟩ := BK.put (o := j) (n := 1) (y := .int .i64 (frameI r (wd l (3 + j)))) rfl (by simp [cs4]; omega) rfl
    rw [show ((Value.int .i64 (frameI r (wd l (3 + j)))).cells.toList) = [Value.int .i64 (frameI r (wd l (3 + j)))] from rfl, hvs j (by simp; omega), cs4_put _ _ _ _ _ rfl j (by simp; omega)] at BK3
    simp (maxSteps := 4000000) (disch := omega) only [ah, am, Nat.reduceEqDiff, reduceCtorEq, Nat.reduceAdd, Nat.reduceLeDiff, Nat.reduceMul, Nat.reduceLT, if_true, if_false, true_and, and_true, and_self, Nat.reduceBEq, QOp.loads, boxO, bslO, buildO, cutL, fillV, putL, w24, v24, IAA, es, wj]
    refine ⟨hj4, G2.trans G3, BK3, fun i hi => ?_⟩
    by_cases e : i = j
    · rw [e]; exact ct
    · exact TO i (by omega)
  obtain rfl : j = 4 := by omega
  have T3 : timeOkL r (wd l 3) := TO 0 (by omega)
  have T4 : timeOkL r (wd l 4) := TO 1 (by omega)
  have T5 : timeOkL r (wd l 5) := TO 2 (by omega)
  have T6 : timeOkL r (wd l 6) := TO 3 (by omega)
  have good : LnOk r t l := ⟨hw, c1, ⟨cS, cC⟩, T3, T4, T5, T6⟩
  have b3 := frameI_bd T3
  have b4 := frameI_bd T4
  have b5 := frameI_bd T5
  have b6 := frameI_bd T6
  have BK : Bx K tb [.int .i64 (frameI r (wd l 3)), .int .i64 (frameI r (wd l 4)), .int .i64 (frameI r (wd l 5)), .int .i64 (frameI r (wd l 6))] := BK
  have F := F.ext EK
  have IAs : ∀ q : Nat, q < 4 → iaaV 4 1 (.pointer (some ⟨tb, 0, none⟩)) (.int .i64 (q : Int)) = some (.pointer (some ⟨tb, q, none⟩)) := fun q hq => by
    rw [iaaV_ptr _ _ _ _ _ _ (by omega) (by omega)]; simp
  have I0 : iaaV 4 1 (.pointer (some ⟨tb, 0, none⟩)) (.int .i64 0) = some (.pointer (some ⟨tb, 0, none⟩)) := IAs 0 (by omega)
  have I1 : iaaV 4 1 (.pointer (some ⟨tb, 0, none⟩)) (.int .i64 1) = some (.pointer (some ⟨tb, 1, none⟩)) := IAs 1 (by omega)
  have I2 : iaaV 4 1 (.pointer (some ⟨tb, 0, none⟩)) (.int .i64 2) = some (.pointer (some ⟨tb, 2, none⟩)) := IAs 2 (by omega)
  have I3 : iaaV 4 1 (.pointer (some ⟨tb, 0, none⟩)) (.int .i64 3) = some (.pointer (some ⟨tb, 3, none⟩)) := IAs 3 (by omega)
  have u1 : IntKind.i64.wrap (frameI r (wd l 4) - frameI r (wd l 3)) = frameI r (wd l 4) - frameI r (wd l 3) := i64w (by omega)
  have u3 : IntKind.i64.wrap (frameI r (wd l 6) - frameI r (wd l 5)) = frameI r (wd l 6) - frameI r (wd l 5) := i64w (by omega)
  have hcl : encClip (lnClip r l) = [.int .i64 (srcV' (wd l 1)), .int .i64 (frameI r (wd l 3)), .int .i64 (frameI r (wd l 4) - frameI r (wd l 3))] := rfl
  have hlen : (lnClip r l).len = frameI r (wd l 4) - frameI r (wd l 3) := rfl
  have eC := Ext.more K [encClip (lnClip r l)]
  have BX := Bx.new K (encClip (lnClip r l)) []
  have lc := ok_ok (K.more [encClip (lnClip r l)]) (lnClip r l)
  rw [hcl] at eC BX lc
  obtain ⟨xb, hxb⟩ : ∃ q, q = K.size := ⟨_, rfl⟩
  have hgx : xb ≠ g := by have := F.lt; omega
  simp (maxSteps := 4000000) (disch := omega) only [ah, am, Nat.reduceEqDiff, reduceCtorEq, Nat.reduceAdd, Nat.reduceLeDiff, Nat.reduceMul, Nat.reduceLT, if_true, if_false, true_and, and_true, and_self, Nat.reduceBEq, QOp.loads, boxO, bslO, buildO, cutL, fillV, putL, w24, v24, I0, I1, BK.ld, u1]
  obtain ⟨K1, hK1⟩ : ∃ K1, K1 = K.more [[.int .i64 (srcV' (wd l 1)), .int .i64 (frameI r (wd l 3)), .int .i64 (frameI r (wd l 4) - frameI r (wd l 3))]] := ⟨_, rfl⟩
  rw [← hK1] at eC BX lc ⊢
  rw [← hxb] at BX ⊢
  clear hK1
  refine stepC.of lc ?_
  rintro _ K2 ⟨e2, rfl⟩
  have eA := eC.trans e2
  have F2 := F.ext eA
  by_cases cc : clipOk (lnClip r l)
  rotate_left
  · simp (maxSteps := 4000000) (disch := omega) only [ah, am, Nat.reduceEqDiff, reduceCtorEq, Nat.reduceAdd, Nat.reduceLeDiff, Nat.reduceMul, Nat.reduceLT, if_true, if_false, true_and, and_true, and_self, Nat.reduceBEq, QOp.loads, boxO, bslO, buildO, cutL, fillV, putL, w24, v24, decide_eq_false cc]
    exact bad K2 (EK.trans eA).toG 8 (lnCode_in good cc) (by omega)
  simp (maxSteps := 4000000) (disch := omega) only [ah, am, Nat.reduceEqDiff, reduceCtorEq, Nat.reduceAdd, Nat.reduceLeDiff, Nat.reduceMul, Nat.reduceLT, if_true, if_false, true_and, and_true, and_self, Nat.reduceBEq, QOp.loads, boxO, bslO, buildO, cutL, fillV, putL, w24, v24, decide_eq_true cc, I2, (BK.ext eA).ld]
  refine stepC.of (long_ok K2 v t F2.slt ht3 kp.1.2.1) ?_
  rintro _ K4 ⟨e4, rfl⟩
  have eA4 := eA.trans e4
  have BX4 := (BX.ext e2).ext e4
  have F4 := F2.ext e4
  have G4 : ExtG g H1 K4 := (EK.trans eA4).toG
  by_cases p5 : frameI r (wd l 5) = sumLen t
  rotate_left
  · simp (maxSteps := 4000000) (disch := omega) only [ah, am, Nat.reduceEqDiff, reduceCtorEq, Nat.reduceAdd, Nat.reduceLeDiff, Nat.reduceMul, Nat.reduceLT, if_true, if_false, true_and, and_true, and_self, Nat.reduceBEq, QOp.loads, boxO, bslO, buildO, cutL, fillV, putL, w24, v24, I2, (BK.ext eA4).ld, rechk_cons, rechk_end, chkV_some, chkV_false, decide_eq_false p5]
    exact bad K4 G4 9 (lnCode_place good cc (.inl p5)) (by omega)
  by_cases p6 : frameI r (wd l 6) - frameI r (wd l 5) = frameI r (wd l 4) - frameI r (wd l 3)
  rotate_left
  · simp (maxSteps := 4000000) (disch := omega) only [ah, am, Nat.reduceEqDiff, reduceCtorEq, Nat.reduceAdd, Nat.reduceLeDiff, Nat.reduceMul, Nat.reduceLT, if_true, if_false, true_and, and_true, and_self, Nat.reduceBEq, QOp.loads, boxO, bslO, buildO, cutL, fillV, putL, w24, v24, I2, I3, (BK.ext eA4).ld, rechk_cons, rechk_end, chkV_some, chkV_false, decide_eq_true p5, u3, BX4.ld, decide_eq_false p6]
    exact bad K4 G4 9 (lnCode_place good cc (.inr (by rw [hlen]; exact p6))) (by omega)
  have hpl : frameI r (wd l 5) = sumLen t ∧ frameI r (wd l 6) - frameI r (wd l 5) = (lnClip r l).len := ⟨p5, by rw [hlen]; exact p6⟩
  have R4 := F4.slt.rulesN
  by_cases c0 : 0 < t.length
  · have c0' : decide ((0 : Int) < (t.length : Int)) = true := decide_eq_true (by omega)
    have wn : IntKind.i64.wrap ((t.length : Int) - 1) = ((t.length - 1 : Nat) : Int) := i64e (by omega) (by omega)
    have hn1 : t.length - 1 < t.length := by omega
    have IA := R4.2.1 .i64 (t.length - 1) hn1
    have LN : ldnV K4 3 (ptrAt v ((t.length - 1) * 3)) = some (.agg (encClip t[t.length - 1]).toArray) := R4.2.2.2.2.2 _ hn1
    have ha := kp.1.2.1 _ (List.getElem_mem hn1)
    have fk := follows_ok K4 (lnClip r l) t[t.length - 1] (by unfold clipOk at ha; unfold clipIn; omega)
    rw [hcl] at fk
    simp only [encClip] at fk LN
    simp (maxSteps := 4000000) (disch := omega) only [ah, am, Nat.reduceEqDiff, reduceCtorEq, Nat.reduceAdd, Nat.reduceLeDiff, Nat.reduceMul, Nat.reduceLT, if_true, if_false, true_and, and_true, and_self, Nat.reduceBEq, QOp.loads, boxO, bslO, buildO, cutL, fillV, putL, w24, v24, I2, I3, (BK.ext eA4).ld, rechk_cons, rechk_end, chkV_some, chkV_false, decide_eq_true p5, u3, BX4.ld, decide_eq_true p6, RT, c0', wn, IA, LN]
    refine stepC.of fk ?_
    rintro _ K5 ⟨e5, rfl⟩
    by_cases cf : follows (lnClip r l) t[t.length - 1]
    · have cf' := decide_eq_true cf
      unfold follows at cf'
      simp (maxSteps := 4000000) (disch := omega) only [ah, am, Nat.reduceEqDiff, reduceCtorEq, Nat.reduceAdd, Nat.reduceLeDiff, Nat.reduceMul, Nat.reduceLT, if_true, if_false, true_and, and_true, and_self, Nat.reduceBEq, QOp.loads, boxO, bslO, buildO, cutL, fillV, putL, w24, v24, cf']
      exact bad K5 (G4.trans e5.toG) 10 (lnCode_join good cc hpl (.inl ⟨c0, cf⟩)) (by omega)
    have cf' := decide_eq_false cf
    unfold follows at cf'
    have fol : (∃ h : 0 < t.length, follows (lnClip r l) t[t.length - 1]) → False := fun q => cf q.2
    have hfk : Full g K5 encClip 3 v t := F4.ext e5
    obtain ⟨v2, K6, ap, F6, F6v, G6⟩ := hfk.app1 [] (lnClip r l) (bytes := 24) (by omega)
    simp only [hcl, List.nil_append, List.length_nil, Nat.add_zero] at ap G6
    have BX5 := BX4.ext e5
    simp (maxSteps := 4000000) (disch := omega) only [ah, am, Nat.reduceEqDiff, reduceCtorEq, Nat.reduceAdd, Nat.reduceLeDiff, Nat.reduceMul, Nat.reduceLT, if_true, if_false, true_and, and_true, and_self, Nat.reduceBEq, QOp.loads, boxO, bslO, buildO, cutL, fillV, putL, w24, v24, cf', BX5.ld, ap]
    refine stepC.of (implTrackOk_ok K6 v2 (t ++ [lnClip r l]) F6.slt (by simp; omega)) ?_
    rintro _ K7 ⟨e7, rfl⟩
    have G7 : ExtG g H1 K7 := ((G4.trans (e5.trans (Ext.more K5 [[.int .i64 (srcV' (wd l 1)), .int .i64 (frameI r (wd l 3)), .int .i64 (frameI r (wd l 4) - frameI r (wd l 3))]])).toG).trans G6).trans e7.toG
    by_cases ck : trackOk (t ++ [lnClip r l])
    rotate_left
    · simp (maxSteps := 4000000) (disch := omega) only [ah, am, Nat.reduceEqDiff, reduceCtorEq, Nat.reduceAdd, Nat.reduceLeDiff, Nat.reduceMul, Nat.reduceLT, if_true, if_false, true_and, and_true, and_self, Nat.reduceBEq, QOp.loads, boxO, bslO, buildO, cutL, fillV, putL, w24, v24, decide_eq_false ck]
      exact bad K7 G7 10 (lnCode_join good cc hpl (.inr ck)) (by omega)
    obtain ⟨v3, K8, ap2, F8, _, G8⟩ := (F6v.ext e7).app1 [] (lnClip r l) (bytes := 24) (by omega)
    simp only [hcl, List.nil_append, List.length_nil, Nat.add_zero] at ap2 G8
    have BX7 : Bx K7 xb [.int .i64 (srcV' (wd l 1)), .int .i64 (frameI r (wd l 3)), .int .i64 (frameI r (wd l 4) - frameI r (wd l 3))] := ((BX5.ext (Ext.more K5 _)).step G6 hgx).ext e7
    simp (maxSteps := 4000000) (disch := omega) only [ah, am, Nat.reduceEqDiff, reduceCtorEq, Nat.reduceAdd, Nat.reduceLeDiff, Nat.reduceMul, Nat.reduceLT, if_true, if_false, true_and, and_true, and_self, Nat.reduceBEq, QOp.loads, boxO, bslO, buildO, cutL, fillV, putL, w24, v24, decide_eq_true ck, BX7.ld, ap2]
    have hz := lnCode_good good cc hpl (fun q => q.elim fol (fun a => a ck))
    exact ⟨E1.toG.trans ((G7.trans (Ext.more K7 [[.int .i64 (srcV' (wd l 1)), .int .i64 (frameI r (wd l 3)), .int .i64 (frameI r (wd l 4) - frameI r (wd l 3))]]).toG).trans G8), _, by rw [hz], fun _ => F8⟩
  · have c0' : decide ((0 : Int) < (t.length : Int)) = false := decide_eq_false (by omega)
    obtain ⟨K5, hK5⟩ : ∃ K5, K5 = K4 := ⟨_, rfl⟩
    have e5 : Ext K4 K5 := by rw [hK5]; exact Ext.refl _
    have fol : (∃ h : 0 < t.length, follows (lnClip r l) t[t.length - 1]) → False := fun q => c0 q.1
    rw [← hK5]
    have hfk : Full g K5 encClip 3 v t := F4.ext e5
    obtain ⟨v2, K6, ap, F6, F6v, G6⟩ := hfk.app1 [] (lnClip r l) (bytes := 24) (by omega)
    simp only [hcl, List.nil_append, List.length_nil, Nat.add_zero] at ap G6
    have BX5 := BX4.ext e5
    simp (maxSteps := 4000000) (disch := omega) only [ah, am, Nat.reduceEqDiff, reduceCtorEq, Nat.reduceAdd, Nat.reduceLeDiff, Nat.reduceMul, Nat.reduceLT, if_true, if_false, true_and, and_true, and_self, Nat.reduceBEq, QOp.loads, boxO, bslO, buildO, cutL, fillV, putL, w24, v24, I2, I3, ((BK.ext eA4).ext e5).ld, rechk_cons, rechk_end, chkV_some, chkV_false, decide_eq_true p5, u3, BX5.ld, decide_eq_true p6, RT, c0', ap]
    refine stepC.of (implTrackOk_ok K6 v2 (t ++ [lnClip r l]) F6.slt (by simp; omega)) ?_
    rintro _ K7 ⟨e7, rfl⟩
    have G7 : ExtG g H1 K7 := ((G4.trans (e5.trans (Ext.more K5 [[.int .i64 (srcV' (wd l 1)), .int .i64 (frameI r (wd l 3)), .int .i64 (frameI r (wd l 4) - frameI r (wd l 3))]])).toG).trans G6).trans e7.toG
    by_cases ck : trackOk (t ++ [lnClip r l])
    rotate_left
    · simp (maxSteps := 4000000) (disch := omega) only [ah, am, Nat.reduceEqDiff, reduceCtorEq, Nat.reduceAdd, Nat.reduceLeDiff, Nat.reduceMul, Nat.reduceLT, if_true, if_false, true_and, and_true, and_self, Nat.reduceBEq, QOp.loads, boxO, bslO, buildO, cutL, fillV, putL, w24, v24, decide_eq_false ck]
      exact bad K7 G7 10 (lnCode_join good cc hpl (.inr ck)) (by omega)
    obtain ⟨v3, K8, ap2, F8, _, G8⟩ := (F6v.ext e7).app1 [] (lnClip r l) (bytes := 24) (by omega)
    simp only [hcl, List.nil_append, List.length_nil, Nat.add_zero] at ap2 G8
    have BX7 : Bx K7 xb [.int .i64 (srcV' (wd l 1)), .int .i64 (frameI r (wd l 3)), .int .i64 (frameI r (wd l 4) - frameI r (wd l 3))] := ((BX5.ext (Ext.more K5 _)).step G6 hgx).ext e7
    simp (maxSteps := 4000000) (disch := omega) only [ah, am, Nat.reduceEqDiff, reduceCtorEq, Nat.reduceAdd, Nat.reduceLeDiff, Nat.reduceMul, Nat.reduceLT, if_true, if_false, true_and, and_true, and_self, Nat.reduceBEq, QOp.loads, boxO, bslO, buildO, cutL, fillV, putL, w24, v24, decide_eq_true ck, BX7.ld, ap2]
    have hz := lnCode_good good cc hpl (fun q => q.elim fol (fun a => a ck))
    exact ⟨E1.toG.trans ((G7.trans (Ext.more K7 [[.int .i64 (srcV' (wd l 1)), .int .i64 (frameI r (wd l 3)), .int .i64 (frameI r (wd l 4) - frameI r (wd l 3))]]).toG).trans G8), _, by rw [hz], fun _ => F8⟩
end Go.Proofs.YtgmimgmdbpcecaaGreatDoor
end
