/- Merged texts of this claim: V18, V19. -/
import Derived.Test.YtgmimgmdbpcecaaGreatDoorZrH
section
namespace Go.Proofs.YtgmimgmdbpcecaaGreatDoor
open Go Go.Ah
set_option linter.unusedSimpArgs false
set_option linter.unusedVariables false
set_option maxRecDepth 10000
set_option maxHeartbeats 4000000
/-! 24 (loop.example/g00066/impl.Rate).readLine: parameters 3, live [0, 1, 2], slots [0:r, 1:track, 2:line, 3:r, 4:track, 5:line, 8:words, 9:_, 10:w, 11:src, 12:ok, 13:times, 14:k, 15:w, 16:c, 17:n] -/
def c24_0 : List SOper := [⟨some 3, .a (.box (.t 0)), none⟩, ⟨some 6, .q (.mv (.c (.slice none 0 0))), none⟩, ⟨some 7, .q (.mv (.c (.int .i64 0))), none⟩]
def c24_1 : List SOper := [⟨some 18, .q (.mv (.t 2)), none⟩, ⟨some 19, .e (.call 50 [(.t 18), (.c (.string ⟨#[32]⟩))]), none⟩, ⟨some 8, .q (.mv (.t 19)), none⟩]
def c24_2 : List SOper := [⟨some 20, .q (.mv (.t 8)), none⟩, ⟨some 21, .q (.len (.t 20)), none⟩, ⟨some 22, .q (.mv (.c (.int .i64 0))), none⟩]
def c24_3 : List SOper := [⟨some 23, .q (.bin .lss (.t 22) (.t 21)), none⟩]
def c24_4 : SCode := .cond (.t 23) .skip (.exit 0)
def c24_5 : List SOper := [⟨some 24, .q (.ia 1 (.t 20) (.t 22)), none⟩, ⟨some 25, .q (.ld (.t 24)), none⟩, ⟨some 10, .q (.mv (.t 25)), none⟩]
def c24_6 : List SOper := [⟨some 26, .q (.mv (.t 10)), none⟩, ⟨some 27, .q (.bin .eql (.t 26) (.c (.string ⟨#[]⟩))), none⟩]
def c24_7 : List SOper := [⟨some 6, .q (.mv (.c (.slice none 0 0))), none⟩, ⟨some 7, .q (.mv (.c (.int .i64 4))), none⟩]
def c24_8 : SCode := .seq (.region c24_7 [6, 7]) .ret
def c24_9 : SCode := .cond (.t 27) c24_8 .skip
def c24_10 : SCode := .seq (.region c24_6 [1, 3, 8, 20, 21, 22, 27]) c24_9
def c24_11 : SCode := .seq (.region c24_5 [1, 3, 8, 10, 20, 21, 22]) c24_10
def c24_12 : SCode := .block 1 c24_11
def c24_13 : List SOper := [⟨some 28, .q (.bin .add (.t 22) (.c (.int .i64 1))), none⟩, ⟨some 22, .q (.mv (.t 28)), none⟩]
def c24_14 : SCode := .seq c24_12 (.region c24_13 [1, 3, 8, 20, 21, 22])
def c24_15 : SCode := .seq c24_4 c24_14
def c24_16 : SCode := .seq (.region c24_3 [1, 3, 8, 20, 21, 22, 23]) c24_15
def c24_17 : SCode := .loop c24_16
def c24_18 : SCode := .block 0 c24_17
def c24_19 : SCode := .seq (.region c24_2 [1, 3, 8, 20, 21, 22]) c24_18
def c24_20 : List SOper := [⟨some 29, .q (.mv (.t 8)), none⟩, ⟨some 30, .q (.len (.t 29)), none⟩, ⟨some 31, .q (.bin .neq (.t 30) (.c (.int .i64 7))), none⟩]
def c24_21 : List SOper := [⟨some 6, .q (.mv (.c (.slice none 0 0))), none⟩, ⟨some 7, .q (.mv (.c (.int .i64 4))), none⟩]
def c24_22 : SCode := .seq (.region c24_21 [6, 7]) .ret
def c24_23 : SCode := .cond (.t 31) c24_22 .skip
def c24_24 : SCode := .seq (.region c24_20 [1, 3, 8, 31]) c24_23
def c24_25 : List DOper := [⟨0, ⟨some 32, .q (.mv (.t 8)), none⟩, [], []⟩, ⟨1, ⟨some 33, .q (.ia 1 (.t 32) (.c (.int .i64 0))), none⟩, [], []⟩, ⟨2, ⟨some 34, .q (.ld (.t 33)), none⟩, [], []⟩, ⟨3, ⟨some 35, .q (.mv (.t 1)), none⟩, [], []⟩, ⟨4, ⟨some 36, .q (.len (.t 35)), none⟩, [], []⟩, ⟨5, ⟨some 37, .q (.bin .add (.t 36) (.c (.int .i64 1))), none⟩, [], []⟩, ⟨6, ⟨some 38, .e (.call 51 [(.t 37), (.c (.int .i64 3))]), none⟩, [], [2]⟩, ⟨7, ⟨some 39, .q (.bin .neq (.t 34) (.t 38)), none⟩, [], []⟩]
def c24_26 : List SOper := [⟨some 6, .q (.mv (.c (.slice none 0 0))), none⟩, ⟨some 7, .q (.mv (.c (.int .i64 5))), none⟩]
def c24_27 : SCode := .seq (.region c24_26 [6, 7]) .ret
def c24_28 : SCode := .cond (.t 39) c24_27 .skip
def c24_29 : SCode := .seq (.dregion c24_25 [1, 3, 8, 39]) c24_28
def c24_30 : List SOper := [⟨some 41, .q (.mv (.t 8)), none⟩, ⟨some 42, .q (.ia 1 (.t 41) (.c (.int .i64 1))), none⟩, ⟨some 43, .q (.ld (.t 42)), none⟩, ⟨some 44, .e (.call 52 [(.t 43)]), none⟩, ⟨some 40, .q (.mv (.t 44)), none⟩, ⟨some 45, .q (.ext (.t 40) 0), none⟩, ⟨some 46, .q (.ext (.t 40) 1), none⟩, ⟨some 11, .q (.mv (.t 45)), none⟩, ⟨some 12, .q (.mv (.t 46)), none⟩]
def c24_31 : List SOper := [⟨some 47, .q (.mv (.t 12)), none⟩, ⟨some 48, .q (.not (.t 47)), none⟩, ⟨some 49, .q (.mv (.t 48)), none⟩, ⟨some 50, .q (.mv (.t 8)), some (49, false)⟩, ⟨some 51, .q (.ia 1 (.t 50) (.c (.int .i64 2))), some (49, false)⟩, ⟨some 52, .q (.ld (.t 51)), some (49, false)⟩, ⟨some 53, .q (.bin .neq (.t 52) (.c (.string ⟨#[67]⟩))), some (49, false)⟩, ⟨some 54, .q (.pick (.t 49) (.c (.bool true)) (.t 53)), none⟩]
def c24_32 : List SOper := [⟨some 6, .q (.mv (.c (.slice none 0 0))), none⟩, ⟨some 7, .q (.mv (.c (.int .i64 6))), none⟩]
def c24_33 : SCode := .seq (.region c24_32 [6, 7]) .ret
def c24_34 : SCode := .cond (.t 54) c24_33 .skip
def c24_35 : SCode := .seq (.region c24_31 [1, 3, 8, 11, 54]) c24_34
def c24_36 : List SOper := [⟨some 55, .q (.build [(.int .i64 0), (.int .i64 0), (.int .i64 0), (.int .i64 0)] []), none⟩, ⟨some 13, .a (.new [(.int .i64 0), (.int .i64 0), (.int .i64 0), (.int .i64 0)]), none⟩, ⟨none, .e (.st 4 (.t 13) (.t 55)), none⟩]
def c24_37 : List SOper := [⟨some 56, .q (.mv (.t 8)), none⟩, ⟨some 57, .q (.slc 1 (.t 56) (some (.c (.int .i64 3))) none), none⟩, ⟨some 58, .q (.len (.t 57)), none⟩, ⟨some 59, .q (.mv (.c (.int .i64 0))), none⟩]
def c24_38 : List SOper := [⟨some 60, .q (.bin .lss (.t 59) (.t 58)), none⟩]
def c24_39 : SCode := .cond (.t 60) .skip (.exit 2)
def c24_40 : List SOper := [⟨some 61, .q (.mv (.t 59)), none⟩, ⟨some 62, .q (.ia 1 (.t 57) (.t 59)), none⟩, ⟨some 63, .q (.ld (.t 62)), none⟩, ⟨some 14, .q (.mv (.t 61)), none⟩, ⟨some 15, .q (.mv (.t 63)), none⟩]
def c24_41 : List SOper := [⟨some 65, .q (.mv (.t 14)), none⟩, ⟨some 66, .q (.ldn 3 (.t 3)), none⟩, ⟨some 67, .q (.mv (.t 15)), none⟩, ⟨some 68, .e (.call 53 [(.t 66), (.t 67)]), none⟩, ⟨some 64, .q (.mv (.t 68)), none⟩, ⟨some 69, .q (.ext (.t 64) 0), none⟩, ⟨some 70, .q (.ext (.t 64) 1), none⟩, ⟨some 71, .q (.iaa 4 1 (.t 13) (.t 65)), none⟩, ⟨none, .e (.st 1 (.t 71) (.t 69)), none⟩, ⟨some 12, .q (.mv (.t 70)), none⟩]
def c24_42 : List SOper := [⟨some 72, .q (.mv (.t 12)), none⟩, ⟨some 73, .q (.not (.t 72)), none⟩]
def c24_43 : List SOper := [⟨some 6, .q (.mv (.c (.slice none 0 0))), none⟩, ⟨some 7, .q (.mv (.c (.int .i64 7))), none⟩]
def c24_44 : SCode := .seq (.region c24_43 [6, 7]) .ret
def c24_45 : SCode := .cond (.t 73) c24_44 .skip
def c24_46 : SCode := .seq (.region c24_42 [1, 3, 11, 13, 57, 58, 59, 73]) c24_45
def c24_47 : SCode := .seq (.region c24_41 [1, 3, 11, 12, 13, 57, 58, 59]) c24_46
def c24_48 : SCode := .seq (.region c24_40 [1, 3, 11, 13, 14, 15, 57, 58, 59]) c24_47
def c24_49 : SCode := .block 3 c24_48
def c24_50 : List SOper := [⟨some 74, .q (.bin .add (.t 59) (.c (.int .i64 1))), none⟩, ⟨some 59, .q (.mv (.t 74)), none⟩]
def c24_51 : SCode := .seq c24_49 (.region c24_50 [1, 3, 11, 13, 57, 58, 59])
def c24_52 : SCode := .seq c24_39 c24_51
def c24_53 : SCode := .seq (.region c24_38 [1, 3, 11, 13, 57, 58, 59, 60]) c24_52
def c24_54 : SCode := .loop c24_53
def c24_55 : SCode := .block 2 c24_54
def c24_56 : SCode := .seq (.region c24_37 [1, 3, 11, 13, 57, 58, 59]) c24_55
def c24_57 : List SOper := [⟨some 75, .q (.mv (.t 11)), none⟩, ⟨some 76, .q (.iaa 4 1 (.t 13) (.c (.int .i64 0))), none⟩, ⟨some 77, .q (.ld (.t 76)), none⟩, ⟨some 78, .q (.iaa 4 1 (.t 13) (.c (.int .i64 1))), none⟩, ⟨some 79, .q (.ld (.t 78)), none⟩, ⟨some 80, .q (.iaa 4 1 (.t 13) (.c (.int .i64 0))), none⟩, ⟨some 81, .q (.ld (.t 80)), none⟩, ⟨some 82, .q (.bin .sub (.t 79) (.t 81)), none⟩, ⟨some 83, .q (.build [(.int .i64 0), (.int .i64 0), (.int .i64 0)] [(0, 1, (.t 75)), (1, 1, (.t 77)), (2, 1, (.t 82))]), none⟩, ⟨some 16, .a (.new [(.int .i64 0), (.int .i64 0), (.int .i64 0)]), none⟩, ⟨none, .e (.st 3 (.t 16) (.t 83)), none⟩]
def c24_58 : List SOper := [⟨some 84, .q (.ldn 3 (.t 16)), none⟩, ⟨some 85, .e (.call 54 [(.t 84)]), none⟩, ⟨some 86, .q (.not (.t 85)), none⟩]
def c24_59 : List SOper := [⟨some 6, .q (.mv (.c (.slice none 0 0))), none⟩, ⟨some 7, .q (.mv (.c (.int .i64 8))), none⟩]
def c24_60 : SCode := .seq (.region c24_59 [6, 7]) .ret
def c24_61 : SCode := .cond (.t 86) c24_60 .skip
def c24_62 : SCode := .seq (.region c24_58 [1, 13, 16, 86]) c24_61
def c24_63 : List DOper := [⟨0, ⟨some 87, .q (.iaa 4 1 (.t 13) (.c (.int .i64 2))), none⟩, [], []⟩, ⟨1, ⟨some 88, .q (.ld (.t 87)), none⟩, [], []⟩, ⟨2, ⟨some 89, .q (.mv (.t 1)), none⟩, [], []⟩, ⟨3, ⟨some 90, .e (.call 55 [(.t 89)]), none⟩, [], [1]⟩, ⟨4, ⟨some 91, .q (.bin .neq (.t 88) (.t 90)), none⟩, [], []⟩, ⟨5, ⟨some 92, .q (.mv (.t 91)), none⟩, [], []⟩, ⟨6, ⟨some 93, .q (.iaa 4 1 (.t 13) (.c (.int .i64 3))), some (92, false)⟩, [], []⟩, ⟨7, ⟨some 94, .q (.ld (.t 93)), some (92, false)⟩, [], []⟩, ⟨8, ⟨some 95, .q (.iaa 4 1 (.t 13) (.c (.int .i64 2))), some (92, false)⟩, [], []⟩, ⟨9, ⟨some 96, .q (.ld (.t 95)), some (92, false)⟩, [], []⟩, ⟨10, ⟨some 97, .q (.bin .sub (.t 94) (.t 96)), some (92, false)⟩, [], []⟩, ⟨11, ⟨some 98, .q (.fa 2 (.t 16)), some (92, false)⟩, [], []⟩, ⟨12, ⟨some 99, .q (.ld (.t 98)), some (92, false)⟩, [], []⟩, ⟨13, ⟨some 100, .q (.bin .neq (.t 97) (.t 99)), some (92, false)⟩, [], []⟩, ⟨14, ⟨some 101, .q (.pick (.t 92) (.c (.bool true)) (.t 100)), none⟩, [], []⟩]
def c24_64 : List SOper := [⟨some 6, .q (.mv (.c (.slice none 0 0))), none⟩, ⟨some 7, .q (.mv (.c (.int .i64 9))), none⟩]
def c24_65 : SCode := .seq (.region c24_64 [6, 7]) .ret
def c24_66 : SCode := .cond (.t 101) c24_65 .skip
def c24_67 : SCode := .seq (.dregion c24_63 [1, 16, 101]) c24_66
def c24_68 : List SOper := [⟨some 102, .q (.mv (.t 1)), none⟩, ⟨some 103, .q (.len (.t 102)), none⟩, ⟨some 17, .q (.mv (.t 103)), none⟩]
def c24_69 : List SOper := [⟨some 104, .q (.mv (.t 17)), none⟩, ⟨some 105, .q (.bin .gtr (.t 104) (.c (.int .i64 0))), none⟩, ⟨some 106, .q (.mv (.t 105)), none⟩, ⟨some 107, .q (.ldn 3 (.t 16)), some (106, true)⟩, ⟨some 108, .q (.mv (.t 1)), some (106, true)⟩, ⟨some 109, .q (.mv (.t 17)), some (106, true)⟩, ⟨some 110, .q (.bin .sub (.t 109) (.c (.int .i64 1))), some (106, true)⟩, ⟨some 111, .q (.ia 3 (.t 108) (.t 110)), some (106, true)⟩, ⟨some 112, .q (.ldn 3 (.t 111)), some (106, true)⟩, ⟨some 113, .e (.call 56 [(.t 107), (.t 112)]), some (106, true)⟩, ⟨some 114, .q (.pick (.t 106) (.t 113) (.c (.bool false))), none⟩, ⟨some 115, .q (.mv (.t 114)), none⟩, ⟨some 116, .q (.mv (.t 1)), some (115, false)⟩, ⟨some 117, .q (.ldn 3 (.t 16)), some (115, false)⟩, ⟨some 118, .a (.bsl 1 3 [(.int .i64 0), (.int .i64 0), (.int .i64 0)] [(0, 3, (.t 117))]), some (115, false)⟩, ⟨some 119, .e (.app 24 3 (.t 116) (.t 118)), some (115, false)⟩, ⟨some 120, .e (.call 30 [(.t 119)]), some (115, false)⟩, ⟨some 121, .q (.not (.t 120)), some (115, false)⟩, ⟨some 122, .q (.pick (.t 115) (.c (.bool true)) (.t 121)), none⟩]
def c24_70 : List SOper := [⟨some 6, .q (.mv (.c (.slice none 0 0))), none⟩, ⟨some 7, .q (.mv (.c (.int .i64 10))), none⟩]
def c24_71 : SCode := .seq (.region c24_70 [6, 7]) .ret
def c24_72 : SCode := .cond (.t 122) c24_71 .skip
def c24_73 : SCode := .seq (.region c24_69 [1, 16, 122]) c24_72
def c24_74 : SCode := .seq (.region c24_68 [1, 16, 17]) c24_73
def c24_75 : List SOper := [⟨some 123, .q (.mv (.t 1)), none⟩, ⟨some 124, .q (.ldn 3 (.t 16)), none⟩, ⟨some 125, .a (.bsl 1 3 [(.int .i64 0), (.int .i64 0), (.int .i64 0)] [(0, 3, (.t 124))]), none⟩, ⟨some 126, .e (.app 24 3 (.t 123) (.t 125)), none⟩, ⟨some 6, .q (.mv (.t 126)), none⟩, ⟨some 7, .q (.mv (.c (.int .i64 0))), none⟩]
def c24_76 : SCode := .seq (.region c24_75 [6, 7]) .ret
def c24_77 : SCode := .seq c24_74 c24_76
def c24_78 : SCode := .seq c24_67 c24_77
def c24_79 : SCode := .seq c24_62 c24_78
def c24_80 : SCode := .seq (.region c24_57 [1, 13, 16]) c24_79
def c24_81 : SCode := .seq c24_56 c24_80
def c24_82 : SCode := .seq (.region c24_36 [1, 3, 8, 11, 13]) c24_81
def c24_83 : SCode := .seq c24_35 c24_82
def c24_84 : SCode := .seq (.region c24_30 [1, 3, 8, 11, 12]) c24_83
def c24_85 : SCode := .seq c24_29 c24_84
def c24_86 : SCode := .seq c24_24 c24_85
def c24_87 : SCode := .seq c24_19 c24_86
def c24_88 : SCode := .seq (.region c24_1 [1, 3, 8]) c24_87
def c24_89 : SCode := .seq (.region c24_0 [1, 2, 3]) c24_88
def c24 : SCode := c24_89
theorem w24 : type_of% (And.intro (uR Tryz.prog c24_0.eq_1) (And.intro (uR Tryz.prog c24_1.eq_1) (And.intro (uR Tryz.prog c24_2.eq_1) (And.intro (uR Tryz.prog c24_3.eq_1) (And.intro (uC Tryz.prog c24_4.eq_1) (And.intro (uR Tryz.prog c24_5.eq_1) (And.intro (uR Tryz.prog c24_6.eq_1) (And.intro (uR Tryz.prog c24_7.eq_1) (And.intro (uC Tryz.prog c24_8.eq_1) (And.intro (uC Tryz.prog c24_9.eq_1) (And.intro (uC Tryz.prog c24_10.eq_1) (And.intro (uC Tryz.prog c24_11.eq_1) (And.intro (uC Tryz.prog c24_12.eq_1) (And.intro (uR Tryz.prog c24_13.eq_1) (And.intro (uC Tryz.prog c24_14.eq_1) (And.intro (uC Tryz.prog c24_15.eq_1) (And.intro (uC Tryz.prog c24_16.eq_1) (And.intro (uC Tryz.prog c24_17.eq_1) (And.intro (uC Tryz.prog c24_18.eq_1) (And.intro (uC Tryz.prog c24_19.eq_1) (And.intro (uR Tryz.prog c24_20.eq_1) (And.intro (uR Tryz.prog c24_21.eq_1) (And.intro (uC Tryz.prog c24_22.eq_1) (And.intro (uC Tryz.prog c24_23.eq_1) (And.intro (uC Tryz.prog c24_24.eq_1) (And.intro (uD Tryz.prog c24_25.eq_1) (And.intro (uR Tryz.prog c24_26.eq_1) (And.intro (uC Tryz.prog c24_27.eq_1) (And.intro (uC Tryz.prog c24_28.eq_1) (And.intro (uC Tryz.prog c24_29.eq_1) (And.intro (uR Tryz.prog c24_30.eq_1) (And.intro (uR Tryz.prog c24_31.eq_1) (And.intro (uR Tryz.prog c24_32.eq_1) (And.intro (uC Tryz.prog c24_33.eq_1) (And.intro (uC Tryz.prog c24_34.eq_1) (And.intro (uC Tryz.prog c24_35.eq_1) (And.intro (uR Tryz.prog c24_36.eq_1) (And.intro (uR Tryz.prog c24_37.eq_1) (And.intro (uR Tryz.prog c24_38.eq_1) (And.intro (uC Tryz.prog c24_39.eq_1) (And.intro (uR Tryz.prog c24_40.eq_1) (And.intro (uR Tryz.prog c24_41.eq_1) (And.intro (uR Tryz.prog c24_42.eq_1) (And.intro (uR Tryz.prog c24_43.eq_1) (And.intro (uC Tryz.prog c24_44.eq_1) (And.intro (uC Tryz.prog c24_45.eq_1) (And.intro (uC Tryz.prog c24_46.eq_1) (And.intro (uC Tryz.prog c24_47.eq_1) (And.intro (uC Tryz.prog c24_48.eq_1) (And.intro (uC Tryz.prog c24_49.eq_1) (And.intro (uR Tryz.prog c24_50.eq_1) (And.intro (uC Tryz.prog c24_51.eq_1) (And.intro (uC Tryz.prog c24_52.eq_1) (And.intro (uC Tryz.prog c24_53.eq_1) (And.intro (uC Tryz.prog c24_54.eq_1) (And.intro (uC Tryz.prog c24_55.eq_1) (And.intro (uC Tryz.prog c24_56.eq_1) (And.intro (uR Tryz.prog c24_57.eq_1) (And.intro (uR Tryz.prog c24_58.eq_1) (And.intro (uR Tryz.prog c24_59.eq_1) (And.intro (uC Tryz.prog c24_60.eq_1) (And.intro (uC Tryz.prog c24_61.eq_1) (And.intro (uC Tryz.prog c24_62.eq_1) (And.intro (uD Tryz.prog c24_63.eq_1) (And.intro (uR Tryz.prog c24_64.eq_1) (And.intro (uC Tryz.prog c24_65.eq_1) (And.intro (uC Tryz.prog c24_66.eq_1) (And.intro (uC Tryz.prog c24_67.eq_1) (And.intro (uR Tryz.prog c24_68.eq_1) (And.intro (uR Tryz.prog c24_69.eq_1) (And.intro (uR Tryz.prog c24_70.eq_1) (And.intro (uC Tryz.prog c24_71.eq_1) (And.intro (uC Tryz.prog c24_72.eq_1) (And.intro (uC Tryz.prog c24_73.eq_1) (And.intro (uC Tryz.prog c24_74.eq_1) (And.intro (uR Tryz.prog c24_75.eq_1) (And.intro (uC Tryz.prog c24_76.eq_1) (And.intro (uC Tryz.prog c24_77.eq_1) (And.intro (uC Tryz.prog c24_78.eq_1) (And.intro (uC Tryz.prog c24_79.eq_1) (And.intro (uC Tryz.prog c24_80.eq_1) (And.intro (uC Tryz.prog c24_81.eq_1) (And.intro (uC Tryz.prog c24_82.eq_1) (And.intro (uC Tryz.prog c24_83.eq_1) (And.intro (uC Tryz.prog c24_84.eq_1) (And.intro (uC Tryz.prog c24_85.eq_1) (And.intro (uC Tryz.prog c24_86.eq_1) (And.intro (uC Tryz.prog c24_87.eq_1) (And.intro (uC Tryz.prog c24_88.eq_1) (And.intro (uC Tryz.prog c24_89.eq_1) (uC Tryz.prog c24.eq_1))))))))))))))))))))))))))))))))))))))))))))))))))))))))))))))))))))))))))))))))))))))))))) := (And.intro (uR Tryz.prog c24_0.eq_1) (And.intro (uR Tryz.prog c24_1.eq_1) (And.intro (uR Tryz.prog c24_2.eq_1) (And.intro (uR Tryz.prog c24_3.eq_1) (And.intro (uC Tryz.prog c24_4.eq_1) (And.intro (uR Tryz.prog c24_5.eq_1) (And.intro (uR Tryz.prog c24_6.eq_1) (And.intro (uR Tryz.prog c24_7.eq_1) (And.intro (uC Tryz.prog c24_8.eq_1) (And.intro (uC Tryz.prog c24_9.eq_1) (And.intro (uC Tryz.prog c24_10.eq_1) (And.intro (uC Tryz.prog c24_11.eq_1) (And.intro (uC Tryz.prog c24_12.eq_1) (And.intro (uR Tryz.prog c24_13.eq_1) (And.intro (uC Tryz.prog c24_14.eq_1) (And.intro (uC Tryz.prog c24_15.eq_1) (And.intro (uC Tryz.prog c24_16.eq_1) (And.intro (uC Tryz.prog c24_17.eq_1) (And.intro (uC Tryz.prog c24_18.eq_1) (And.intro (uC Tryz.prog c24_19.eq_1) (And.intro (uR Tryz.prog c24_20.eq_1) (And.intro (uR Tryz.prog c24_21.eq_1) (And.intro (uC Tryz.prog c24_22.eq_1) (And.intro (uC Tryz.prog c24_23.eq_1) (And.intro (uC Tryz.prog c24_24.eq_1) (And.intro (uD Tryz.prog c24_25.eq_1) (And.intro (uR Tryz.prog c24_26.eq_1) (And.intro (uC Tryz.prog c24_27.eq_1) (And.intro (uC Tryz.prog c24_28.eq_1) (And.intro (uC Tryz.prog c24_29.eq_1) (And.intro (uR Tryz.prog c24_30.eq_1) (And.intro (uR Tryz.prog c24_31.eq_1) (And.intro (uR Tryz.prog c24_32.eq_1) (And.intro (uC Tryz.prog c24_33.eq_1) (And.intro (uC Tryz.prog c24_34.eq_1) (And.intro (uC Tryz.prog c24_35.eq_1) (And.intro (uR Tryz.prog c24_36.eq_1) (And.intro (uR Tryz.prog c24_37.eq_1) (And.intro (uR Tryz.prog c24_38.eq_1) (And.intro (uC Tryz.prog c24_39.eq_1) (And.intro (uR Tryz.prog c24_40.eq_1) (And.intro (uR Tryz.prog c24_41.eq_1) (And.intro (uR Tryz.prog c24_42.eq_1) (And.intro (uR Tryz.prog c24_43.eq_1) (And.intro (uC Tryz.prog c24_44.eq_1) (And.intro (uC Tryz.prog c24_45.eq_1) (And.intro (uC Tryz.prog c24_46.eq_1) (And.intro (uC Tryz.prog c24_47.eq_1) (And.intro (uC Tryz.prog c24_48.eq_1) (And.intro (uC Tryz.prog c24_49.eq_1) (And.intro (uR Tryz.prog c24_50.eq_1) (And.intro (uC Tryz.prog c24_51.eq_1) (And.intro (uC Tryz.prog c24_52.eq_1) (And.intro (uC Tryz.prog c24_53.eq_1) (And.intro (uC Tryz.prog c24_54.eq_1) (And.intro (uC Tryz.prog c24_55.eq_1) (And.intro (uC Tryz.prog c24_56.eq_1) (And.intro (uR Tryz.prog c24_57.eq_1) (And.intro (uR Tryz.prog c24_58.eq_1) (And.intro (uR Tryz.prog c24_59.eq_1) (And.intro (uC Tryz.prog c24_60.eq_1) (And.intro (uC Tryz.prog c24_61.eq_1) (And.intro (uC Tryz.prog c24_62.eq_1) (And.intro (uD Tryz.prog c24_63.eq_1) (And.intro (uR Tryz.prog c24_64.eq_1) (And.intro (uC Tryz.prog c24_65.eq_1) (And.intro (uC Tryz.prog c24_66.eq_1) (And.intro (uC Tryz.prog c24_67.eq_1) (And.intro (uR Tryz.prog c24_68.eq_1) (And.intro (uR Tryz.prog c24_69.eq_1) (And.intro (uR Tryz.prog c24_70.eq_1) (And.intro (uC Tryz.prog c24_71.eq_1) (And.intro (uC Tryz.prog c24_72.eq_1) (And.intro (uC Tryz.prog c24_73.eq_1) (And.intro (uC Tryz.prog c24_74.eq_1) (And.intro (uR Tryz.prog c24_75.eq_1) (And.intro (uC Tryz.prog c24_76.eq_1) (And.intro (uC Tryz.prog c24_77.eq_1) (And.intro (uC Tryz.prog c24_78.eq_1) (And.intro (uC Tryz.prog c24_79.eq_1) (And.intro (uC Tryz.prog c24_80.eq_1) (And.intro (uC Tryz.prog c24_81.eq_1) (And.intro (uC Tryz.prog c24_82.eq_1) (And.intro (uC Tryz.prog c24_83.eq_1) (And.intro (uC Tryz.prog c24_84.eq_1) (And.intro (uC Tryz.prog c24_85.eq_1) (And.intro (uC Tryz.prog c24_86.eq_1) (And.intro (uC Tryz.prog c24_87.eq_1) (And.intro (uC Tryz.prog c24_88.eq_1) (And.intro (uC Tryz.prog c24_89.eq_1) (uC Tryz.prog c24.eq_1)))))))))))))))))))))))))))))))))))))))))))))))))))))))))))))))))))))))))))))))))))))))))))
def v24 : List RV := [.t 6, .t 7]
theorem s24 : slimF Tryz.prog Tryz.f24 = some (c24.bare, v24) := by kernel_rfl

theorem readLine_ok (h : Heap) (g : Nat) (r : Rate) (l : List UInt8) (v : Value) (t : List Clip) (F : Full g h encClip 3 v t) (kp : keeps t) (hl : l.length ≤ 1000000) :
    ACall Tryz.prog 24 [.agg (encRate r).toArray, v, .string (bL l)] h
      fun x h' => ExtG g h h' ∧ ∃ u : Value, x = .tuple #[u, .int .i64 (lnCode r t l)] ∧ (lnCode r t l = 0 → Full g h' encClip 3 u (t ++ [lnClip r l])) := by
  have hsz : (bL l).size = l.length := bL_size l
  have ht3 : t.length ≤ 300 := kp.1.1
  have hts := sumLen_bound kp.1.2.1
  have hts2 := kp.1.2.2
  have hgl := F.lt
  have BR := Bx.new h (encRate r) []
  have eM := Ext.more h [encRate r]
  simp only [encRate] at BR eM
  refine ACall.of Tryz.func24 s24 (of_decide_eq_true rfl) ?_
  simp (maxSteps := 4000000) (disch := omega) only [ah, am, Nat.reduceEqDiff, reduceCtorEq, Nat.reduceAdd, Nat.reduceLeDiff, Nat.reduceMul, Nat.reduceLT, if_true, if_false, true_and, and_true, and_self, Nat.reduceBEq, QOp.loads, boxO, bslO, buildO, cutL, fillV, putL, w24, v24, encRate]
  obtain ⟨h1, hh1⟩ : ∃ h1, h1 = h.more [[Value.int IntKind.i64 r.num, Value.int IntKind.i64 r.den, Value.bool r.drop]] := ⟨_, rfl⟩
  rw [← hh1] at BR eM ⊢
  obtain ⟨rb, hrb⟩ : ∃ q, q = h.size := ⟨_, rfl⟩
  rw [← hrb] at BR ⊢
  have hgr : g < rb := by omega
  clear hh1 hrb
  refine stepC.of (Split_ok h1 (bL l) (by rw [hsz]; omega)) ?_
  rintro wv H1 ⟨ps, FW, hps⟩
  rw [bL_data] at hps
  rw [bL_map_of hps] at FW
  clear hps ps
  have sw := FW.slt
  have E1 := eM.trans FW.1
  have BR := BR.ext FW.1
  have F := F.ext E1
  clear FW
  have hbr := Heap.get_lt BR
  have bad : ∀ (K : Heap) (e : ExtG g H1 K) (n : Int), lnCode r t l = n → n ≠ 0 →
      ExtG g h K ∧ ∃ u : Value, (.tuple #[.slice none 0 0, .int .i64 n] : Value) = .tuple #[u, .int .i64 (lnCode r t l)] ∧ (lnCode r t l = 0 → Full g K encClip 3 u (t ++ [lnClip r l])) := by
    intro K e n hn h0
    exact ⟨E1.toG.trans e, _, by rw [hn], fun q => absurd (hn.symm.trans q) h0⟩
  have RW := words_rules sw
  simp (maxSteps := 4000000) (disch := omega) only [ah, am, Nat.reduceEqDiff, reduceCtorEq, Nat.reduceAdd, Nat.reduceLeDiff, Nat.reduceMul, Nat.reduceLT, if_true, if_false, true_and, and_true, and_self, Nat.reduceBEq, QOp.loads, boxO, bslO, buildO, cutL, fillV, putL, w24, v24, RW.1]
  refine SW_loop_up (fun i E K => K = H1 ∧ (∀ j, j < i → wd l j ≠ []) ∧ E = [(1, v), (3, .pointer (some ⟨rb, 0, none⟩)), (8, wv), (20, wv), (21, .int .i64 ((spl l).length : Int)), (22, .int .i64 (i : Int))]) (spl l).length 0 (by omega) ⟨rfl, fun j hj => by omega, rfl⟩ ?_
  rintro i E K hi ⟨hK, A, rfl⟩
  rw [hK]; clear hK K
  have hsl := spl_len l
  have hcl := List.count_le_length (a := (32 : UInt8)) (l := l)
  have wi : IntKind.i64.wrap ((i : Int) + 1) = ((i + 1 : Nat) : Int) := i64e (by omega) (by omega)
  simp (maxSteps := 4000000) (disch := omega) only [ah, am, Nat.reduceEqDiff, reduceCtorEq, Nat.reduceAdd, Nat.reduceLeDiff, Nat.reduceMul, Nat.reduceLT, if_true, if_false, true_and, and_true, and_self, Nat.reduceBEq, QOp.loads, boxO, bslO, buildO, cutL, fillV, putL, w24, v24]
  refine stepI.split (fun hq => ?_) (fun hq => ?_)
  · have hi7 : i < (spl l).length := by omega
    obtain ⟨IA, LD⟩ := RW.2 .i64 i hi7
    rw [wd_get] at LD
    by_cases c0 : wd l i = []
    · simp (maxSteps := 4000000) (disch := omega) only [ah, am, Nat.reduceEqDiff, reduceCtorEq, Nat.reduceAdd, Nat.reduceLeDiff, Nat.reduceMul, Nat.reduceLT, if_true, if_false, true_and, and_true, and_self, Nat.reduceBEq, QOp.loads, boxO, bslO, buildO, cutL, fillV, putL, w24, v24, IA, LD, strB_nil, decide_eq_true c0]
      exact bad H1 (ExtG.refl _ _) 4 (lnCode_words (words_bad_at hi7 c0)) (by omega)
    · simp (maxSteps := 4000000) (disch := omega) only [ah, am, Nat.reduceEqDiff, reduceCtorEq, Nat.reduceAdd, Nat.reduceLeDiff, Nat.reduceMul, Nat.reduceLT, if_true, if_false, true_and, and_true, and_self, Nat.reduceBEq, QOp.loads, boxO, bslO, buildO, cutL, fillV, putL, w24, v24, IA, LD, strB_nil, decide_eq_false c0, wi]
      refine ⟨hi7, fun j hj => ?_⟩
      by_cases e : j = i
      · rw [e]; exact c0
      · exact A j (by omega)
  have hii : i = (spl l).length := by omega
  by_cases n7 : (spl l).length = 7
  rotate_left
  · have n7' : decide (((spl l).length : Int) = 7) = false := decide_eq_false (by omega)
    simp (maxSteps := 4000000) (disch := omega) only [ah, am, Nat.reduceEqDiff, reduceCtorEq, Nat.reduceAdd, Nat.reduceLeDiff, Nat.reduceMul, Nat.reduceLT, if_true, if_false, true_and, and_true, and_self, Nat.reduceBEq, QOp.loads, boxO, bslO, buildO, cutL, fillV, putL, w24, v24, RW.1, n7']
    exact bad H1 (ExtG.refl _ _) 4 (lnCode_words (.inr n7)) (by omega)
  have n7' : decide (((spl l).length : Int) = 7) = true := decide_eq_true (by omega)
  rw [hii, n7] at A
  have hw : ¬ lnWordsBad l := words_good n7 A
  have W0 : ∀ K, Ext H1 K → ∀ j : Nat, j < 7 → iaV 1 wv (.int .i64 (j : Int)) = some (ptrAt wv j) ∧ ldV K (ptrAt wv j) = some (.string (bL (wd l j))) := fun K e j hj => (words_rules (sw.ext e)).2 .i64 j (by omega)
  have IAk : ∀ j : Nat, j < 7 → iaV 1 wv (.int .i64 (j : Int)) = some (ptrAt wv j) := fun j hj => (W0 H1 (Ext.refl _) j hj).1
  have LDk : ∀ K, Ext H1 K → ∀ j : Nat, j < 7 → ldV K (ptrAt wv j) = some (.string (bL (wd l j))) := fun K e j hj => (W0 K e j hj).2
  have IA0 : iaV 1 wv (.int .i64 0) = _ := IAk 0 (by omega)
  have IA1 : iaV 1 wv (.int .i64 1) = _ := IAk 1 (by omega)
  have IA2 : iaV 1 wv (.int .i64 2) = _ := IAk 2 (by omega)
  have LDr := fun j hj => LDk H1 (Ext.refl _) j hj
  have RT := F.slt.rulesN.1
  have wl : IntKind.i64.wrap ((t.length : Int) + 1) = ((t.length + 1 : Nat) : Int) := i64e (by omega) (by omega)
  simp (maxSteps := 4000000) (disch := omega) only [ah, am, Nat.reduceEqDiff, reduceCtorEq, Nat.reduceAdd, Nat.reduceLeDiff, Nat.reduceMul, Nat.reduceLT, if_true, if_false, true_and, and_true, and_self, Nat.reduceBEq, QOp.loads, boxO, bslO, buildO, cutL, fillV, putL, w24, v24, RW.1, n7', IA0, LDr 0 (by omega), RT, wl]
  refine stepC.of (padded_ok H1 (t.length + 1) 3 (by omega) (by omega)) ?_
  rintro _ Hx ⟨hx, rfl⟩; rw [hx]; clear hx Hx
  have ln1 := wd_len l 1
  by_cases c1 : wd l 0 = padL 3 (digs (t.length + 1))
  rotate_left
  · simp (maxSteps := 4000000) (disch := omega) only [ah, am, Nat.reduceEqDiff, reduceCtorEq, Nat.reduceAdd, Nat.reduceLeDiff, Nat.reduceMul, Nat.reduceLT, if_true, if_false, true_and, and_true, and_self, Nat.reduceBEq, QOp.loads, boxO, bslO, buildO, cutL, fillV, putL, w24, v24, rechk_cons, rechk_end, chkV_some, chkV_false, LDr 0 (by omega), strB_neqL, decide_eq_false c1, Bool.not_false]
    exact bad H1 (ExtG.refl _ _) 5 (lnCode_number hw c1) (by omega)
  simp (maxSteps := 4000000) (disch := omega) only [ah, am, Nat.reduceEqDiff, reduceCtorEq, Nat.reduceAdd, Nat.reduceLeDiff, Nat.reduceMul, Nat.reduceLT, if_true, if_false, true_and, and_true, and_self, Nat.reduceBEq, QOp.loads, boxO, bslO, buildO, cutL, fillV, putL, w24, v24, rechk_cons, rechk_end, chkV_some, chkV_false, LDr 0 (by omega), strB_neqL, decide_eq_true c1, Bool.not_true, IA1, LDr 1 (by omega)]
  refine stepC.of (sourceOf_ok H1 (wd l 1) (by omega)) ?_
  rintro _ Hx ⟨hx, src, rfl, hsrc⟩; rw [hx]; clear hx Hx
  have NC : strB .neq (bL (wd l 2)) ⟨#[67]⟩ = some (.bool (!decide (wd l 2 = [67]))) := strB_neq _ _
  by_cases cS : srcOk (wd l 1)
  rotate_left
  · simp (maxSteps := 4000000) (disch := omega) only [ah, am, Nat.reduceEqDiff, reduceCtorEq, Nat.reduceAdd, Nat.reduceLeDiff, Nat.reduceMul, Nat.reduceLT, if_true, if_false, true_and, and_true, and_self, Nat.reduceBEq, QOp.loads, boxO, bslO, buildO, cutL, fillV, putL, w24, v24, decide_eq_false cS]
    exact bad H1 (ExtG.refl _ _) 6 (lnCode_source hw c1 (.inl cS)) (by omega)
  have hsrc := hsrc cS
  by_cases cC : wd l 2 = [67]
  rotate_left
  · simp (maxSteps := 4000000) (disch := omega) only [ah, am, Nat.reduceEqDiff, reduceCtorEq, Nat.reduceAdd, Nat.reduceLeDiff, Nat.reduceMul, Nat.reduceLT, if_true, if_false, true_and, and_true, and_self, Nat.reduceBEq, QOp.loads, boxO, bslO, buildO, cutL, fillV, putL, w24, v24, decide_eq_true cS, IA2, LDr 2 (by omega), NC, decide_eq_false cC, Bool.not_false]
    exact bad H1 (ExtG.refl _ _) 6 (lnCode_source hw c1 (.inr cC)) (by omega)
  rw [hsrc]
  obtain ⟨w3, es3, s3⟩ := SlT_from (sw.ext (Ext.more H1 [[.int .i64 0, .int .i64 0, .int .i64 0, .int .i64 0]])) 3 (by rw [List.length_map]; omega) (by rw [List.length_map]; omega)
  have es3 : slcV 1 wv (some (.int .i64 3)) none = some w3 := es3
  rw [← List.map_drop] at s3
  have R3 := words_rules s3
  have hd3 : ((spl l).drop 3).length = 4 := by rw [List.length_drop]; omega
  rw [hd3] at R3
  have BT := Bx.new H1 [.int .i64 0, .int .i64 0, .int .i64 0, .int .i64 0] []
  have eT := Ext.more H1 [[.int .i64 0, .int .i64 0, .int .i64 0, .int .i64 0]]
  simp (maxSteps := 4000000) (disch := omega) only [ah, am, Nat.reduceEqDiff, reduceCtorEq, Nat.reduceAdd, Nat.reduceLeDiff, Nat.reduceMul, Nat.reduceLT, if_true, if_false, true_and, and_true, and_self, Nat.reduceBEq, QOp.loads, boxO, bslO, buildO, cutL, fillV, putL, w24, v24, decide_eq_true cS, IA2, LDr 2 (by omega), NC, decide_eq_true cC, Bool.not_true, es3, R3.1]
  obtain ⟨tb, htb⟩ : ∃ q, q = H1.size := ⟨_, rfl⟩
  have hge : H1.size ≤ tb := by omega
  have hrt : rb ≠ tb := by omega
  have hgt : g < tb := by have := F.lt; omega
  clear s3 R3
  have W3 : ∀ K, ExtG tb H1 K → ∀ j : Nat, j < 4 → iaV 1 w3 (.int .i64 (j : Int)) = some (ptrAt w3 j) ∧ ldV K (ptrAt w3 j) = some (.string (bL (wd l (3 + j)))) := by
    intro K e j hj
    obtain ⟨u, eu, su⟩ := SlT_from (sw.extG e hge) 3 (by rw [List.length_map]; omega) (by rw [List.length_map]; omega)
    obtain rfl : u = w3 := Option.some.inj (eu.symm.trans es3)
    rw [← List.map_drop] at su
    obtain ⟨x1, x2⟩ := (words_rules su).2 .i64 j (by omega)
    refine ⟨x1, x2.trans ?_⟩
    unfold wd
    rw [List.getD, List.getElem?_drop, List.getD]
  obtain ⟨H2, hH2⟩ : ∃ H2, H2 = H1.more [[.int .i64 0, .int .i64 0, .int .i64 0, .int .i64 0]] := ⟨_, rfl⟩
  rw [← hH2] at eT BT ⊢
  rw [← htb] at BT ⊢
  clear hH2
  have hvs : ∀ j (hj : j < ([frameI r (wd l 3), frameI r (wd l 4), frameI r (wd l 5), frameI r (wd l 6)] : List Int).length), frameI r (wd l (3 + j)) = ([frameI r (wd l 3), frameI r (wd l 4), frameI r (wd l 5), frameI r (wd l 6)] : List Int)[j] := by
    intro j hj
    have : j = 0 ∨ j = 1 ∨ j = 2 ∨ j = 3 := by simp at hj; omega
    rcases this with rfl | rfl | rfl | rfl <;> rfl
  refine SW_loop_up (fun j E K => ExtG tb H2 K ∧ Bx K tb (cs4 (frameI r (wd l 3)) (frameI r (wd l 4)) (frameI r (wd l 5)) (frameI r (wd l 6)) j) ∧ (∀ i, i < j → timeOkL r (wd l (3 + i))) ∧
    E = [(1, v), (3, .pointer (some ⟨rb, 0, none⟩)), (11, .int .i64 (srcV' (wd l 1))), (13, .pointer (some ⟨tb, 0, none⟩)), (57, w3), (58, .int .i64 ((4 : Nat) : Int)), (59, .int .i64 (j : Int))]) 4 0 (by omega) ⟨ExtG.refl _ _, BT, fun i hi => by omega, rfl⟩ ?_
  clear BT
  rintro j E K hj ⟨G, BK, TO, rfl⟩
  have wj : IntKind.i64.wrap ((j : Int) + 1) = ((j + 1 : Nat) : Int) := i64e (by omega) (by omega)
  have GK : ExtG tb H1 K := eT.toG.trans G
  have EK : Ext H1 K := G.ext eT hge
  have BRK := (BR.ext EK)
  simp (maxSteps := 4000000) (disch := omega) only [ah, am, Nat.reduceEqDiff, reduceCtorEq, Nat.reduceAdd, Nat.reduceLeDiff, Nat.reduceMul, Nat.reduceLT, if_true, if_false, true_and, and_true, and_self, Nat.reduceBEq, QOp.loads, boxO, bslO, buildO, cutL, fillV, putL, w24, v24]
  refine stepI.split (fun hq => ?_) (fun hq => ?_)
  · have hj4 : j < 4 := by omega
    obtain ⟨IA, LD⟩ := W3 K GK j hj4
    have lnI := wd_len l (3 + j)
    have rd := TimeRead_ok K r (wd l (3 + j)) (by omega)
    simp only [encRate] at rd
    simp (maxSteps := 4000000) (disch := omega) only [ah, am, Nat.reduceEqDiff, reduceCtorEq, Nat.reduceAdd, Nat.reduceLeDiff, Nat.reduceMul, Nat.reduceLT, if_true, if_false, true_and, and_true, and_self, Nat.reduceBEq, QOp.loads, boxO, bslO, buildO, cutL, fillV, putL, w24, v24, IA, LD, BRK.ld]
    refine stepC.of rd ?_
    rintro _ K2 ⟨e2, rfl⟩
    have IAA : iaaV 4 1 (.pointer (some ⟨tb, 0, none⟩)) (.int .i64 (j : Int)) = some (.pointer (some ⟨tb, j, none⟩)) := by
      rw [iaaV_ptr _ _ _ _ _ _ (by omega) (by omega)]; simp
    have BK := BK.ext e2
    have G2 := G.trans e2.toG
    by_cases ct : timeOkL r (wd l (3 + j))
    rotate_left
    · obtain ⟨K3, es, _, G3⟩ := BK.put (o := j) (n := 1) (y := .int .i64 0) rfl (by simp [cs4]; omega) rfl
      rw [← timeRes_bad ct]
      simp (maxSteps := 4000000) (disch := omega) only [ah, am, Nat.reduceEqDiff, reduceCtorEq, Nat.reduceAdd, Nat.reduceLeDiff, Nat.reduceMul, Nat.reduceLT, if_true, if_false, true_and, and_true, and_self, Nat.reduceBEq, QOp.loads, boxO, bslO, buildO, cutL, fillV, putL, w24, v24, IAA, es]
      refine bad K3 ((G2.trans G3).ext eT hge).toG 7 (lnCode_time hw c1 ⟨cS, cC⟩ (fun q => ct ?_)) (by omega)
      have : j = 0 ∨ j = 1 ∨ j = 2 ∨ j = 3 := by omega
      rcases this with rfl | rfl | rfl | rfl
      · exact q.1
      · exact q.2.1
      · exact q.2.2.1
      · exact q.2.2.2
    rw [← timeRes_ok ct]
    obtain ⟨K3, es, BK3, G3⟩ := BK.put (o := j) (n := 1) (y := .int .i64 (frameI r (wd l (3 + j)))) rfl (by simp [cs4]; omega) rfl
    rw [show ((Value.int .i64 (frameI r (wd l (3 + j)))).cells.toList) = [Value.int .i64 (frameI r (wd l (3 + j)))] from rfl, hvs j (by simp; omega), cs4_put _ _ _ _ _ rfl j (by simp; omega)] at BK3
    simp (maxSteps := 4000000) (disch := omega) only [ah, am, Nat.reduceEqDiff, reduceCtorEq, Nat.reduceAdd, Nat.reduceLeDiff, Nat.reduceMul, Nat.reduceLT, if_true, if_false, true_and, and_true, and_self, Nat.reduceBEq, QOp.loads, boxO, bslO, buildO, cutL, fillV, putL, w24, v24, IAA, es, wj]
    refine ⟨hj4, G2.trans G3, BK3, fun i hi => ?_⟩
    by_cases e : i = j
    · rw [e]; exact ct
    · exact TO i (by omega)
  obtain rfl : j = 4 := by omega
  have T3 : timeOkL r (wd l 3) := TO 0 (by omega)
  have T4 : timeOkL r (wd l 4) := TO 1 (by omega)
  have T5 : timeOkL r (wd l 5) := TO 2 (by omega)
  have T6 : timeOkL r (wd l 6) := TO 3 (by omega)
  have good : LnOk r t l := ⟨hw, c1, ⟨cS, cC⟩, T3, T4, T5, T6⟩
  have b3 := frameI_bd T3
  have b4 := frameI_bd T4
  have b5 := frameI_bd T5
  have b6 := frameI_bd T6
  have BK : Bx K tb [.int .i64 (frameI r (wd l 3)), .int .i64 (frameI r (wd l 4)), .int .i64 (frameI r (wd l 5)), .int .i64 (frameI r (wd l 6))] := BK
  have F := F.ext EK
  have IAs : ∀ q : Nat, q < 4 → iaaV 4 1 (.pointer (some ⟨tb, 0, none⟩)) (.int .i64 (q : Int)) = some (.pointer (some ⟨tb, q, none⟩)) := fun q hq => by
    rw [iaaV_ptr _ _ _ _ _ _ (by omega) (by omega)]; simp
  have I0 : iaaV 4 1 (.pointer (some ⟨tb, 0, none⟩)) (.int .i64 0) = some (.pointer (some ⟨tb, 0, none⟩)) := IAs 0 (by omega)
  have I1 : iaaV 4 1 (.pointer (some ⟨tb, 0, none⟩)) (.int .i64 1) = some (.pointer (some ⟨tb, 1, none⟩)) := IAs 1 (by omega)
  have I2 : iaaV 4 1 (.pointer (some ⟨tb, 0, none⟩)) (.int .i64 2) = some (.pointer (some ⟨tb, 2, none⟩)) := IAs 2 (by omega)
  have I3 : iaaV 4 1 (.pointer (some ⟨tb, 0, none⟩)) (.int .i64 3) = some (.pointer (some ⟨tb, 3, none⟩)) := IAs 3 (by omega)
  have u1 : IntKind.i64.wrap (frameI r (wd l 4) - frameI r (wd l 3)) = frameI r (wd l 4) - frameI r (wd l 3) := i64w (by omega)
  have u3 : IntKind.i64.wrap (frameI r (wd l 6) - frameI r (wd l 5)) = frameI r (wd l 6) - frameI r (wd l 5) := i64w (by omega)
  have hcl : encClip (lnClip r l) = [.int .i64 (srcV' (wd l 1)), .int .i64 (frameI r (wd l 3)), .int .i64 (frameI r (wd l 4) - frameI r (wd l 3))] := rfl
  have hlen : (lnClip r l).len = frameI r (wd l 4) - frameI r (wd l 3) := rfl
  have eC := Ext.more K [encClip (lnClip r l)]
  have BX := Bx.new K (encClip (lnClip r l)) []
  have lc := ok_ok (K.more [encClip (lnClip r l)]) (lnClip r l)
  rw [hcl] at eC BX lc
  obtain ⟨xb, hxb⟩ : ∃ q, q = K.size := ⟨_, rfl⟩
  have hgx : xb ≠ g := by have := F.lt; omega
  simp (maxSteps := 4000000) (disch := omega) only [ah, am, Nat.reduceEqDiff, reduceCtorEq, Nat.reduceAdd, Nat.reduceLeDiff, Nat.reduceMul, Nat.reduceLT, if_true, if_false, true_and, and_true, and_self, Nat.reduceBEq, QOp.loads, boxO, bslO, buildO, cutL, fillV, putL, w24, v24, I0, I1, BK.ld, u1]
  obtain ⟨K1, hK1⟩ : ∃ K1, K1 = K.more [[.int .i64 (srcV' (wd l 1)), .int .i64 (frameI r (wd l 3)), .int .i64 (frameI r (wd l 4) - frameI r (wd l 3))]] := ⟨_, rfl⟩
  rw [← hK1] at eC BX lc ⊢
  rw [← hxb] at BX ⊢
  clear hK1
  refine stepC.of lc ?_
  rintro _ K2 ⟨e2, rfl⟩
  have eA := eC.trans e2
  have F2 := F.ext eA
  by_cases cc : clipOk (lnClip r l)
  rotate_left
  · simp (maxSteps := 4000000) (disch := omega) only [ah, am, Nat.reduceEqDiff, reduceCtorEq, Nat.reduceAdd, Nat.reduceLeDiff, Nat.reduceMul, Nat.reduceLT, if_true, if_false, true_and, and_true, and_self, Nat.reduceBEq, QOp.loads, boxO, bslO, buildO, cutL, fillV, putL, w24, v24, decide_eq_false cc]
    exact bad K2 (EK.trans eA).toG 8 (lnCode_in good cc) (by omega)
  simp (maxSteps := 4000000) (disch := omega) only [ah, am, Nat.reduceEqDiff, reduceCtorEq, Nat.reduceAdd, Nat.reduceLeDiff, Nat.reduceMul, Nat.reduceLT, if_true, if_false, true_and, and_true, and_self, Nat.reduceBEq, QOp.loads, boxO, bslO, buildO, cutL, fillV, putL, w24, v24, decide_eq_true cc, I2, (BK.ext eA).ld]
  refine stepC.of (long_ok K2 v t F2.slt ht3 kp.1.2.1) ?_
  rintro _ K4 ⟨e4, rfl⟩
  have eA4 := eA.trans e4
  have BX4 := (BX.ext e2).ext e4
  have F4 := F2.ext e4
  have G4 : ExtG g H1 K4 := (EK.trans eA4).toG
  by_cases p5 : frameI r (wd l 5) = sumLen t
  rotate_left
  · simp (maxSteps := 4000000) (disch := omega) only [ah, am, Nat.reduceEqDiff, reduceCtorEq, Nat.reduceAdd, Nat.reduceLeDiff, Nat.reduceMul, Nat.reduceLT, if_true, if_false, true_and, and_true, and_self, Nat.reduceBEq, QOp.loads, boxO, bslO, buildO, cutL, fillV, putL, w24, v24, I2, (BK.ext eA4).ld, rechk_cons, rechk_end, chkV_some, chkV_false, decide_eq_false p5]
    exact bad K4 G4 9 (lnCode_place good cc (.inl p5)) (by omega)
  by_cases p6 : frameI r (wd l 6) - frameI r (wd l 5) = frameI r (wd l 4) - frameI r (wd l 3)
  rotate_left
  · simp (maxSteps := 4000000) (disch := omega) only [ah, am, Nat.reduceEqDiff, reduceCtorEq, Nat.reduceAdd, Nat.reduceLeDiff, Nat.reduceMul, Nat.reduceLT, if_true, if_false, true_and, and_true, and_self, Nat.reduceBEq, QOp.loads, boxO, bslO, buildO, cutL, fillV, putL, w24, v24, I2, I3, (BK.ext eA4).ld, rechk_cons, rechk_end, chkV_some, chkV_false, decide_eq_true p5, u3, BX4.ld, decide_eq_false p6]
    exact bad K4 G4 9 (lnCode_place good cc (.inr (by rw [hlen]; exact p6))) (by omega)
  have hpl : frameI r (wd l 5) = sumLen t ∧ frameI r (wd l 6) - frameI r (wd l 5) = (lnClip r l).len := ⟨p5, by rw [hlen]; exact p6⟩
  have R4 := F4.slt.rulesN
  by_cases c0 : 0 < t.length
  · have c0' : decide ((0 : Int) < (t.length : Int)) = true := decide_eq_true (by omega)
    have wn : IntKind.i64.wrap ((t.length : Int) - 1) = ((t.length - 1 : Nat) : Int) := i64e (by omega) (by omega)
    have hn1 : t.length - 1 < t.length := by omega
    have IA := R4.2.1 .i64 (t.length - 1) hn1
    have LN : ldnV K4 3 (ptrAt v ((t.length - 1) * 3)) = some (.agg (encClip t[t.length - 1]).toArray) := R4.2.2.2.2.2 _ hn1
    have ha := kp.1.2.1 _ (List.getElem_mem hn1)
    have fk := follows_ok K4 (lnClip r l) t[t.length - 1] (by unfold clipOk at ha; unfold clipIn; omega)
    rw [hcl] at fk
    simp only [encClip] at fk LN
    simp (maxSteps := 4000000) (disch := omega) only [ah, am, Nat.reduceEqDiff, reduceCtorEq, Nat.reduceAdd, Nat.reduceLeDiff, Nat.reduceMul, Nat.reduceLT, if_true, if_false, true_and, and_true, and_self, Nat.reduceBEq, QOp.loads, boxO, bslO, buildO, cutL, fillV, putL, w24, v24, I2, I3, (BK.ext eA4).ld, rechk_cons, rechk_end, chkV_some, chkV_false, decide_eq_true p5, u3, BX4.ld, decide_eq_true p6, RT, c0', wn, IA, LN]
    refine stepC.of fk ?_
    rintro _ K5 ⟨e5, rfl⟩
    by_cases cf : follows (lnClip r l) t[t.length - 1]
    · have cf' := decide_eq_true cf
      unfold follows at cf'
      simp (maxSteps := 4000000) (disch := omega) only [ah, am, Nat.reduceEqDiff, reduceCtorEq, Nat.reduceAdd, Nat.reduceLeDiff, Nat.reduceMul, Nat.reduceLT, if_true, if_false, true_and, and_true, and_self, Nat.reduceBEq, QOp.loads, boxO, bslO, buildO, cutL, fillV, putL, w24, v24, cf']
      exact bad K5 (G4.trans e5.toG) 10 (lnCode_join good cc hpl (.inl ⟨c0, cf⟩)) (by omega)
    have cf' := decide_eq_false cf
    unfold follows at cf'
    have fol : (∃ h : 0 < t.length, follows (lnClip r l) t[t.length - 1]) → False := fun q => cf q.2
    have hfk : Full g K5 encClip 3 v t := F4.ext e5
    obtain ⟨v2, K6, ap, F6, F6v, G6⟩ := hfk.app1 [] (lnClip r l) (bytes := 24) (by omega)
    simp only [hcl, List.nil_append, List.length_nil, Nat.add_zero] at ap G6
    have BX5 := BX4.ext e5
    simp (maxSteps := 4000000) (disch := omega) only [ah, am, Nat.reduceEqDiff, reduceCtorEq, Nat.reduceAdd, Nat.reduceLeDiff, Nat.reduceMul, Nat.reduceLT, if_true, if_false, true_and, and_true, and_self, Nat.reduceBEq, QOp.loads, boxO, bslO, buildO, cutL, fillV, putL, w24, v24, cf', BX5.ld, ap]
    refine stepC.of (implTrackOk_ok K6 v2 (t ++ [lnClip r l]) F6.slt (by simp; omega)) ?_
    rintro _ K7 ⟨e7, rfl⟩
    have G7 : ExtG g H1 K7 := ((G4.trans (e5.trans (Ext.more K5 [[.int .i64 (srcV' (wd l 1)), .int .i64 (frameI r (wd l 3)), .int .i64 (frameI r (wd l 4) - frameI r (wd l 3))]])).toG).trans G6).trans e7.toG
    by_cases ck : trackOk (t ++ [lnClip r l])
    rotate_left
    · simp (maxSteps := 4000000) (disch := omega) only [ah, am, Nat.reduceEqDiff, reduceCtorEq, Nat.reduceAdd, Nat.reduceLeDiff, Nat.reduceMul, Nat.reduceLT, if_true, if_false, true_and, and_true, and_self, Nat.reduceBEq, QOp.loads, boxO, bslO, buildO, cutL, fillV, putL, w24, v24, decide_eq_false ck]
      exact bad K7 G7 10 (lnCode_join good cc hpl (.inr ck)) (by omega)
    obtain ⟨v3, K8, ap2, F8, _, G8⟩ := (F6v.ext e7).app1 [] (lnClip r l) (bytes := 24) (by omega)
    simp only [hcl, List.nil_append, List.length_nil, Nat.add_zero] at ap2 G8
    have BX7 : Bx K7 xb [.int .i64 (srcV' (wd l 1)), .int .i64 (frameI r (wd l 3)), .int .i64 (frameI r (wd l 4) - frameI r (wd l 3))] := ((BX5.ext (Ext.more K5 _)).step G6 hgx).ext e7
    simp (maxSteps := 4000000) (disch := omega) only [ah, am, Nat.reduceEqDiff, reduceCtorEq, Nat.reduceAdd, Nat.reduceLeDiff, Nat.reduceMul, Nat.reduceLT, if_true, if_false, true_and, and_true, and_self, Nat.reduceBEq, QOp.loads, boxO, bslO, buildO, cutL, fillV, putL, w24, v24, decide_eq_true ck, BX7.ld, ap2]
    have hz := lnCode_good good cc hpl (fun q => q.elim fol (fun a => a ck))
    exact ⟨E1.toG.trans ((G7.trans (Ext.more K7 [[.int .i64 (srcV' (wd l 1)), .int .i64 (frameI r (wd l 3)), .int .i64 (frameI r (wd l 4) - frameI r (wd l 3))]]).toG).trans G8), _, by rw [hz], fun _ => F8⟩
  · have c0' : decide ((0 : Int) < (t.length : Int)) = false := decide_eq_false (by omega)
    obtain ⟨K5, hK5⟩ : ∃ K5, K5 = K4 := ⟨_, rfl⟩
    have e5 : Ext K4 K5 := by rw [hK5]; exact Ext.refl _
    have fol : (∃ h : 0 < t.length, follows (lnClip r l) t[t.length - 1]) → False := fun q => c0 q.1
    rw [← hK5]
    have hfk : Full g K5 encClip 3 v t := F4.ext e5
    obtain ⟨v2, K6, ap, F6, F6v, G6⟩ := hfk.app1 [] (lnClip r l) (bytes := 24) (by omega)
    simp only [hcl, List.nil_append, List.length_nil, Nat.add_zero] at ap G6
    have BX5 := BX4.ext e5
    simp (maxSteps := 4000000) (disch := omega) only [ah, am, Nat.reduceEqDiff, reduceCtorEq, Nat.reduceAdd, Nat.reduceLeDiff, Nat.reduceMul, Nat.reduceLT, if_true, if_false, true_and, and_true, and_self, Nat.reduceBEq, QOp.loads, boxO, bslO, buildO, cutL, fillV, putL, w24, v24, I2, I3, ((BK.ext eA4).ext e5).ld, rechk_cons, rechk_end, chkV_some, chkV_false, decide_eq_true p5, u3, BX5.ld, decide_eq_true p6, RT, c0', ap]
    refine stepC.of (implTrackOk_ok K6 v2 (t ++ [lnClip r l]) F6.slt (by simp; omega)) ?_
    rintro _ K7 ⟨e7, rfl⟩
    have G7 : ExtG g H1 K7 := ((G4.trans (e5.trans (Ext.more K5 [[.int .i64 (srcV' (wd l 1)), .int .i64 (frameI r (wd l 3)), .int .i64 (frameI r (wd l 4) - frameI r (wd l 3))]])).toG).trans G6).trans e7.toG
    by_cases ck : trackOk (t ++ [lnClip r l])
    rotate_left
    · simp (maxSteps := 4000000) (disch := omega) only [ah, am, Nat.reduceEqDiff, reduceCtorEq, Nat.reduceAdd, Nat.reduceLeDiff, Nat.reduceMul, Nat.reduceLT, if_true, if_false, true_and, and_true, and_self, Nat.reduceBEq, QOp.loads, boxO, bslO, buildO, cutL, fillV, putL, w24, v24, decide_eq_false ck]
      exact bad K7 G7 10 (lnCode_join good cc hpl (.inr ck)) (by omega)
    obtain ⟨v3, K8, ap2, F8, _, G8⟩ := (F6v.ext e7).app1 [] (lnClip r l) (bytes := 24) (by omega)
    simp only [hcl, List.nil_append, List.length_nil, Nat.add_zero] at ap2 G8
    have BX7 : Bx K7 xb [.int .i64 (srcV' (wd l 1)), .int .i64 (frameI r (wd l 3)), .int .i64 (frameI r (wd l 4) - frameI r (wd l 3))] := ((BX5.ext (Ext.more K5 _)).step G6 hgx).ext e7
    simp (maxSteps := 4000000) (disch := omega) only [ah, am, Nat.reduceEqDiff, reduceCtorEq, Nat.reduceAdd, Nat.reduceLeDiff, Nat.reduceMul, Nat.reduceLT, if_true, if_false, true_and, and_true, and_self, Nat.reduceBEq, QOp.loads, boxO, bslO, buildO, cutL, fillV, putL, w24, v24, decide_eq_true ck, BX7.ld, ap2]
    have hz := lnCode_good good cc hpl (fun q => q.elim fol (fun a => a ck))
    exact ⟨E1.toG.trans ((G7.trans (Ext.more K7 [[.int .i64 (srcV' (wd l 1)), .int .i64 (frameI r (wd l 3)), .int .i64 (frameI r (wd l 4) - frameI r (wd l 3))]]).toG).trans G8), _, by rw [hz], fun _ => F8⟩
end Go.Proofs.YtgmimgmdbpcecaaGreatDoor
end

section
namespace Go.Proofs.YtgmimgmdbpcecaaGreatDoor
open Go Go.Ah
set_option linter.unusedSimpArgs false
set_option linter.unusedVariables false
set_option maxRecDepth 10000
set_option maxHeartbeats 4000000
/-! 7 loop.example/g00066/impl.ReadList: parameters 2, live [0, 1], slots [0:r, 1:text, 2:r, 3:text, 6:track, 7:line, 8:first, 9:rest, 10:_, 11:next, 12:code] -/
def c7_0 : List SOper := [⟨some 2, .a (.box (.t 0)), none⟩, ⟨some 4, .q (.mv (.c (.slice none 0 0))), none⟩, ⟨some 5, .a (.new [(.int .i64 0), (.int .i64 0)]), none⟩]
def c7_1 : List SOper := [⟨some 13, .q (.ldn 3 (.t 2)), none⟩, ⟨some 14, .e (.call 21 [(.t 13)]), none⟩, ⟨some 15, .q (.not (.t 14)), none⟩]
def c7_2 : List SOper := [⟨some 16, .q (.build [(.int .i64 0), (.int .i64 0)] [(0, 1, (.c (.int .i64 1)))]), none⟩, ⟨some 4, .q (.mv (.c (.slice none 0 0))), none⟩, ⟨none, .e (.st 2 (.t 5) (.t 16)), none⟩]
def c7_3 : SCode := .seq (.region c7_2 [4, 5]) .ret
def c7_4 : SCode := .cond (.t 15) c7_3 .skip
def c7_5 : SCode := .seq (.region c7_1 [1, 2, 5, 15]) c7_4
def c7_6 : List SOper := [⟨some 17, .q (.mv (.t 1)), none⟩, ⟨some 18, .q (.lens (.t 17)), none⟩, ⟨some 19, .q (.bin .gtr (.t 18) (.c (.int .i64 20000))), none⟩]
def c7_7 : List SOper := [⟨some 20, .q (.build [(.int .i64 0), (.int .i64 0)] [(0, 1, (.c (.int .i64 2)))]), none⟩, ⟨some 4, .q (.mv (.c (.slice none 0 0))), none⟩, ⟨none, .e (.st 2 (.t 5) (.t 20)), none⟩]
def c7_8 : SCode := .seq (.region c7_7 [4, 5]) .ret
def c7_9 : SCode := .cond (.t 19) c7_8 .skip
def c7_10 : SCode := .seq (.region c7_6 [1, 2, 5, 19]) c7_9
def c7_11 : List SOper := [⟨some 21, .q (.mv (.t 1)), none⟩, ⟨some 22, .q (.bin .neq (.t 21) (.c (.string ⟨#[]⟩))), none⟩, ⟨some 23, .q (.mv (.t 22)), none⟩, ⟨some 24, .q (.mv (.t 1)), some (23, true)⟩, ⟨some 25, .e (.call 22 [(.t 24), (.c (.string ⟨#[10]⟩))]), some (23, true)⟩, ⟨some 26, .q (.not (.t 25)), some (23, true)⟩, ⟨some 27, .q (.pick (.t 23) (.t 26) (.c (.bool false))), none⟩]
def c7_12 : List SOper := [⟨some 28, .q (.build [(.int .i64 0), (.int .i64 0)] [(0, 1, (.c (.int .i64 3)))]), none⟩, ⟨some 4, .q (.mv (.c (.slice none 0 0))), none⟩, ⟨none, .e (.st 2 (.t 5) (.t 28)), none⟩]
def c7_13 : SCode := .seq (.region c7_12 [4, 5]) .ret
def c7_14 : SCode := .cond (.t 27) c7_13 .skip
def c7_15 : SCode := .seq (.region c7_11 [1, 2, 5, 27]) c7_14
def c7_16 : List SOper := [⟨some 29, .a (.bsl 0 3 [] []), none⟩, ⟨some 6, .q (.mv (.t 29)), none⟩, ⟨some 7, .q (.mv (.c (.int .i64 0))), none⟩]
def c7_17 : List SOper := [⟨some 30, .q (.mv (.t 1)), none⟩, ⟨some 31, .q (.bin .neq (.t 30) (.c (.string ⟨#[]⟩))), none⟩]
def c7_18 : SCode := .cond (.t 31) .skip (.exit 0)
def c7_19 : SCode := .seq (.region c7_17 [1, 2, 5, 6, 7, 31]) c7_18
def c7_20 : List SOper := [⟨some 33, .q (.mv (.t 1)), none⟩, ⟨some 34, .e (.call 23 [(.t 33), (.c (.string ⟨#[10]⟩))]), none⟩, ⟨some 32, .q (.mv (.t 34)), none⟩, ⟨some 35, .q (.ext (.t 32) 0), none⟩, ⟨some 36, .q (.ext (.t 32) 1), none⟩, ⟨some 37, .q (.ext (.t 32) 2), none⟩, ⟨some 8, .q (.mv (.t 35)), none⟩, ⟨some 9, .q (.mv (.t 36)), none⟩, ⟨some 10, .q (.mv (.t 37)), none⟩]
def c7_21 : List SOper := [⟨some 39, .q (.ldn 3 (.t 2)), none⟩, ⟨some 40, .q (.mv (.t 6)), none⟩, ⟨some 41, .q (.mv (.t 8)), none⟩, ⟨some 42, .e (.call 24 [(.t 39), (.t 40), (.t 41)]), none⟩, ⟨some 38, .q (.mv (.t 42)), none⟩, ⟨some 43, .q (.ext (.t 38) 0), none⟩, ⟨some 44, .q (.ext (.t 38) 1), none⟩, ⟨some 11, .q (.mv (.t 43)), none⟩, ⟨some 12, .q (.mv (.t 44)), none⟩]
def c7_22 : List SOper := [⟨some 45, .q (.mv (.t 12)), none⟩, ⟨some 46, .q (.bin .neq (.t 45) (.c (.int .i64 0))), none⟩]
def c7_23 : List SOper := [⟨some 47, .q (.mv (.t 12)), none⟩, ⟨some 48, .q (.mv (.t 7)), none⟩, ⟨some 49, .q (.build [(.int .i64 0), (.int .i64 0)] [(0, 1, (.t 47)), (1, 1, (.t 48))]), none⟩, ⟨some 4, .q (.mv (.c (.slice none 0 0))), none⟩, ⟨none, .e (.st 2 (.t 5) (.t 49)), none⟩]
def c7_24 : SCode := .seq (.region c7_23 [4, 5]) .ret
def c7_25 : SCode := .cond (.t 46) c7_24 .skip
def c7_26 : SCode := .seq (.region c7_22 [2, 5, 7, 9, 11, 12, 46]) c7_25
def c7_27 : List SOper := [⟨some 50, .q (.mv (.t 11)), none⟩, ⟨some 51, .q (.mv (.t 9)), none⟩, ⟨some 52, .q (.mv (.t 7)), none⟩, ⟨some 53, .q (.bin .add (.t 52) (.c (.int .i64 1))), none⟩, ⟨some 6, .q (.mv (.t 50)), none⟩, ⟨some 1, .q (.mv (.t 51)), none⟩, ⟨some 7, .q (.mv (.t 53)), none⟩]
def c7_28 : SCode := .seq c7_26 (.region c7_27 [1, 2, 5, 6, 7])
def c7_29 : SCode := .seq (.region c7_21 [2, 5, 7, 9, 11, 12]) c7_28
def c7_30 : SCode := .seq (.region c7_20 [2, 5, 6, 7, 8, 9]) c7_29
def c7_31 : SCode := .block 1 c7_30
def c7_32 : SCode := .seq c7_19 c7_31
def c7_33 : SCode := .loop c7_32
def c7_34 : SCode := .block 0 c7_33
def c7_35 : List SOper := [⟨some 54, .q (.mv (.t 6)), none⟩, ⟨some 55, .q (.build [(.int .i64 0), (.int .i64 0)] []), none⟩, ⟨some 4, .q (.mv (.t 54)), none⟩, ⟨none, .e (.st 2 (.t 5) (.t 55)), none⟩]
def c7_36 : SCode := .seq (.region c7_35 [4, 5]) .ret
def c7_37 : SCode := .seq c7_34 c7_36
def c7_38 : SCode := .seq (.region c7_16 [1, 2, 5, 6, 7]) c7_37
def c7_39 : SCode := .seq c7_15 c7_38
def c7_40 : SCode := .seq c7_10 c7_39
def c7_41 : SCode := .seq c7_5 c7_40
def c7_42 : SCode := .seq (.region c7_0 [1, 2, 5]) c7_41
def c7 : SCode := c7_42
theorem w7 : type_of% (And.intro (uR Tryz.prog c7_0.eq_1) (And.intro (uR Tryz.prog c7_1.eq_1) (And.intro (uR Tryz.prog c7_2.eq_1) (And.intro (uC Tryz.prog c7_3.eq_1) (And.intro (uC Tryz.prog c7_4.eq_1) (And.intro (uC Tryz.prog c7_5.eq_1) (And.intro (uR Tryz.prog c7_6.eq_1) (And.intro (uR Tryz.prog c7_7.eq_1) (And.intro (uC Tryz.prog c7_8.eq_1) (And.intro (uC Tryz.prog c7_9.eq_1) (And.intro (uC Tryz.prog c7_10.eq_1) (And.intro (uR Tryz.prog c7_11.eq_1) (And.intro (uR Tryz.prog c7_12.eq_1) (And.intro (uC Tryz.prog c7_13.eq_1) (And.intro (uC Tryz.prog c7_14.eq_1) (And.intro (uC Tryz.prog c7_15.eq_1) (And.intro (uR Tryz.prog c7_16.eq_1) (And.intro (uR Tryz.prog c7_17.eq_1) (And.intro (uC Tryz.prog c7_18.eq_1) (And.intro (uC Tryz.prog c7_19.eq_1) (And.intro (uR Tryz.prog c7_20.eq_1) (And.intro (uR Tryz.prog c7_21.eq_1) (And.intro (uR Tryz.prog c7_22.eq_1) (And.intro (uR Tryz.prog c7_23.eq_1) (And.intro (uC Tryz.prog c7_24.eq_1) (And.intro (uC Tryz.prog c7_25.eq_1) (And.intro (uC Tryz.prog c7_26.eq_1) (And.intro (uR Tryz.prog c7_27.eq_1) (And.intro (uC Tryz.prog c7_28.eq_1) (And.intro (uC Tryz.prog c7_29.eq_1) (And.intro (uC Tryz.prog c7_30.eq_1) (And.intro (uC Tryz.prog c7_31.eq_1) (And.intro (uC Tryz.prog c7_32.eq_1) (And.intro (uC Tryz.prog c7_33.eq_1) (And.intro (uC Tryz.prog c7_34.eq_1) (And.intro (uR Tryz.prog c7_35.eq_1) (And.intro (uC Tryz.prog c7_36.eq_1) (And.intro (uC Tryz.prog c7_37.eq_1) (And.intro (uC Tryz.prog c7_38.eq_1) (And.intro (uC Tryz.prog c7_39.eq_1) (And.intro (uC Tryz.prog c7_40.eq_1) (And.intro (uC Tryz.prog c7_41.eq_1) (And.intro (uC Tryz.prog c7_42.eq_1) (uC Tryz.prog c7.eq_1)))))))))))))))))))))))))))))))))))))))))))) := (And.intro (uR Tryz.prog c7_0.eq_1) (And.intro (uR Tryz.prog c7_1.eq_1) (And.intro (uR Tryz.prog c7_2.eq_1) (And.intro (uC Tryz.prog c7_3.eq_1) (And.intro (uC Tryz.prog c7_4.eq_1) (And.intro (uC Tryz.prog c7_5.eq_1) (And.intro (uR Tryz.prog c7_6.eq_1) (And.intro (uR Tryz.prog c7_7.eq_1) (And.intro (uC Tryz.prog c7_8.eq_1) (And.intro (uC Tryz.prog c7_9.eq_1) (And.intro (uC Tryz.prog c7_10.eq_1) (And.intro (uR Tryz.prog c7_11.eq_1) (And.intro (uR Tryz.prog c7_12.eq_1) (And.intro (uC Tryz.prog c7_13.eq_1) (And.intro (uC Tryz.prog c7_14.eq_1) (And.intro (uC Tryz.prog c7_15.eq_1) (And.intro (uR Tryz.prog c7_16.eq_1) (And.intro (uR Tryz.prog c7_17.eq_1) (And.intro (uC Tryz.prog c7_18.eq_1) (And.intro (uC Tryz.prog c7_19.eq_1) (And.intro (uR Tryz.prog c7_20.eq_1) (And.intro (uR Tryz.prog c7_21.eq_1) (And.intro (uR Tryz.prog c7_22.eq_1) (And.intro (uR Tryz.prog c7_23.eq_1) (And.intro (uC Tryz.prog c7_24.eq_1) (And.intro (uC Tryz.prog c7_25.eq_1) (And.intro (uC Tryz.prog c7_26.eq_1) (And.intro (uR Tryz.prog c7_27.eq_1) (And.intro (uC Tryz.prog c7_28.eq_1) (And.intro (uC Tryz.prog c7_29.eq_1) (And.intro (uC Tryz.prog c7_30.eq_1) (And.intro (uC Tryz.prog c7_31.eq_1) (And.intro (uC Tryz.prog c7_32.eq_1) (And.intro (uC Tryz.prog c7_33.eq_1) (And.intro (uC Tryz.prog c7_34.eq_1) (And.intro (uR Tryz.prog c7_35.eq_1) (And.intro (uC Tryz.prog c7_36.eq_1) (And.intro (uC Tryz.prog c7_37.eq_1) (And.intro (uC Tryz.prog c7_38.eq_1) (And.intro (uC Tryz.prog c7_39.eq_1) (And.intro (uC Tryz.prog c7_40.eq_1) (And.intro (uC Tryz.prog c7_41.eq_1) (And.intro (uC Tryz.prog c7_42.eq_1) (uC Tryz.prog c7.eq_1))))))))))))))))))))))))))))))))))))))))))))
def v7 : List RV := [.t 4, .c 5 (some 2)]
theorem s7 : slimF Tryz.prog Tryz.f7 = some (c7.bare, v7) := by kernel_rfl
/-! 5 loop.example/g00066/spec.ReadList: parameters 2, live [0, 1], slots [0:r, 1:text, 2:r, 3:text, 6:n, 7:out, 8:at, 9:line, 10:from, 11:i, 12:k, 13:code] -/
def c5_0 : List SOper := [⟨some 2, .a (.box (.t 0)), none⟩, ⟨some 4, .q (.mv (.c (.slice none 0 0))), none⟩, ⟨some 5, .a (.new [(.int .i64 0), (.int .i64 0)]), none⟩]
def c5_1 : List SOper := [⟨some 14, .q (.mv (.t 1)), none⟩, ⟨some 15, .q (.lens (.t 14)), none⟩, ⟨some 6, .q (.mv (.t 15)), none⟩]
def c5_2 : List SOper := [⟨some 17, .q (.ldn 3 (.t 2)), none⟩, ⟨some 18, .e (.call 19 [(.t 17)]), none⟩, ⟨some 19, .q (.not (.t 18)), none⟩, ⟨some 16, .q (.mv (.t 19)), none⟩]
def c5_3 : List SOper := [⟨some 20, .a (.bsl 0 3 [] []), none⟩, ⟨some 21, .q (.build [(.int .i64 0), (.int .i64 0)] [(0, 1, (.c (.int .i64 1)))]), none⟩, ⟨some 4, .q (.mv (.t 20)), none⟩, ⟨none, .e (.st 2 (.t 5) (.t 21)), none⟩]
def c5_4 : SCode := .seq (.region c5_3 [4, 5]) .ret
def c5_5 : List SOper := [⟨some 23, .q (.mv (.t 6)), none⟩, ⟨some 24, .q (.bin .gtr (.t 23) (.c (.int .i64 20000))), none⟩, ⟨some 22, .q (.mv (.t 24)), none⟩]
def c5_6 : List SOper := [⟨some 25, .a (.bsl 0 3 [] []), none⟩, ⟨some 26, .q (.build [(.int .i64 0), (.int .i64 0)] [(0, 1, (.c (.int .i64 2)))]), none⟩, ⟨some 4, .q (.mv (.t 25)), none⟩, ⟨none, .e (.st 2 (.t 5) (.t 26)), none⟩]
def c5_7 : SCode := .seq (.region c5_6 [4, 5]) .ret
def c5_8 : List SOper := [⟨some 28, .q (.mv (.t 6)), none⟩, ⟨some 29, .q (.bin .gtr (.t 28) (.c (.int .i64 0))), none⟩, ⟨some 30, .q (.mv (.t 29)), none⟩, ⟨some 31, .q (.mv (.t 1)), some (30, true)⟩, ⟨some 32, .q (.mv (.t 6)), some (30, true)⟩, ⟨some 33, .q (.bin .sub (.t 32) (.c (.int .i64 1))), some (30, true)⟩, ⟨some 34, .q (.ivs (.t 31) (.t 33)), some (30, true)⟩, ⟨some 35, .q (.bin .neq (.t 34) (.c (.int .u8 10))), some (30, true)⟩, ⟨some 36, .q (.pick (.t 30) (.t 35) (.c (.bool false))), none⟩, ⟨some 27, .q (.mv (.t 36)), none⟩]
def c5_9 : List SOper := [⟨some 37, .a (.bsl 0 3 [] []), none⟩, ⟨some 38, .q (.build [(.int .i64 0), (.int .i64 0)] [(0, 1, (.c (.int .i64 3)))]), none⟩, ⟨some 4, .q (.mv (.t 37)), none⟩, ⟨none, .e (.st 2 (.t 5) (.t 38)), none⟩]
def c5_10 : SCode := .seq (.region c5_9 [4, 5]) .ret
def c5_11 : SCode := .cond (.t 27) c5_10 .skip
def c5_12 : SCode := .seq (.region c5_8 [1, 2, 5, 6, 27]) c5_11
def c5_13 : SCode := .cond (.t 22) c5_7 c5_12
def c5_14 : SCode := .seq (.region c5_5 [1, 2, 5, 6, 22]) c5_13
def c5_15 : SCode := .cond (.t 16) c5_4 c5_14
def c5_16 : SCode := .seq (.region c5_2 [1, 2, 5, 6, 16]) c5_15
def c5_17 : SCode := .block 0 c5_16
def c5_18 : List SOper := [⟨some 39, .a (.bsl 0 3 [] []), none⟩, ⟨some 7, .q (.mv (.t 39)), none⟩]
def c5_19 : List SOper := [⟨some 8, .q (.mv (.c (.int .i64 0))), none⟩]
def c5_20 : List SOper := [⟨some 9, .q (.mv (.c (.int .i64 0))), none⟩]
def c5_21 : List SOper := [⟨some 10, .q (.mv (.c (.int .i64 0))), none⟩]
def c5_22 : List SOper := [⟨some 11, .q (.mv (.c (.int .i64 0))), none⟩]
def c5_23 : List SOper := [⟨some 40, .q (.mv (.t 11)), none⟩, ⟨some 41, .q (.mv (.t 6)), none⟩, ⟨some 42, .q (.bin .lss (.t 40) (.t 41)), none⟩]
def c5_24 : SCode := .cond (.t 42) .skip (.exit 1)
def c5_25 : SCode := .seq (.region c5_23 [1, 2, 5, 6, 7, 8, 9, 10, 11, 42]) c5_24
def c5_26 : List SOper := [⟨some 45, .q (.mv (.t 1)), none⟩, ⟨some 46, .q (.mv (.t 11)), none⟩, ⟨some 47, .q (.ivs (.t 45) (.t 46)), none⟩, ⟨some 48, .q (.bin .neq (.t 47) (.c (.int .u8 10))), none⟩]
def c5_27 : SCode := .cond (.t 48) (.exit 2) .skip
def c5_28 : SCode := .seq (.region c5_26 [1, 2, 5, 6, 7, 8, 9, 10, 11, 48]) c5_27
def c5_29 : List SOper := [⟨some 50, .q (.ldn 3 (.t 2)), none⟩, ⟨some 51, .q (.mv (.t 1)), none⟩, ⟨some 52, .q (.mv (.t 10)), none⟩, ⟨some 53, .q (.mv (.t 11)), none⟩, ⟨some 54, .q (.sls (.t 51) (some (.t 52)) (some (.t 53))), none⟩, ⟨some 55, .q (.mv (.t 9)), none⟩, ⟨some 56, .q (.bin .add (.t 55) (.c (.int .i64 1))), none⟩, ⟨some 57, .q (.mv (.t 7)), none⟩, ⟨some 58, .q (.mv (.t 8)), none⟩, ⟨some 12, .a (.new [(.int .i64 0), (.int .i64 0), (.int .i64 0)]), none⟩, ⟨some 59, .e (.call 20 [(.t 50), (.t 54), (.t 56), (.t 57), (.t 58)]), none⟩, ⟨some 49, .q (.mv (.t 59)), none⟩, ⟨some 60, .q (.ext (.t 49) 0), none⟩, ⟨some 61, .q (.ext (.t 49) 1), none⟩, ⟨none, .e (.st 3 (.t 12) (.t 60)), none⟩, ⟨some 13, .q (.mv (.t 61)), none⟩]
def c5_30 : List SOper := [⟨some 62, .q (.mv (.t 13)), none⟩, ⟨some 63, .q (.bin .neq (.t 62) (.c (.int .i64 0))), none⟩]
def c5_31 : List SOper := [⟨some 64, .a (.bsl 0 3 [] []), none⟩, ⟨some 65, .q (.mv (.t 13)), none⟩, ⟨some 66, .q (.mv (.t 9)), none⟩, ⟨some 67, .q (.build [(.int .i64 0), (.int .i64 0)] [(0, 1, (.t 65)), (1, 1, (.t 66))]), none⟩, ⟨some 4, .q (.mv (.t 64)), none⟩, ⟨none, .e (.st 2 (.t 5) (.t 67)), none⟩]
def c5_32 : SCode := .seq (.region c5_31 [4, 5]) .ret
def c5_33 : SCode := .cond (.t 63) c5_32 .skip
def c5_34 : SCode := .seq (.region c5_30 [1, 2, 5, 6, 7, 8, 9, 11, 12, 13, 63]) c5_33
def c5_35 : List SOper := [⟨some 68, .q (.mv (.t 7)), none⟩, ⟨some 69, .q (.ldn 3 (.t 12)), none⟩, ⟨some 70, .a (.bsl 1 3 [(.int .i64 0), (.int .i64 0), (.int .i64 0)] [(0, 3, (.t 69))]), none⟩, ⟨some 71, .e (.app 24 3 (.t 68) (.t 70)), none⟩, ⟨some 7, .q (.mv (.t 71)), none⟩]
def c5_36 : List SOper := [⟨some 72, .q (.mv (.t 8)), none⟩, ⟨some 73, .q (.fa 2 (.t 12)), none⟩, ⟨some 74, .q (.ld (.t 73)), none⟩, ⟨some 75, .q (.bin .add (.t 72) (.t 74)), none⟩, ⟨some 8, .q (.mv (.t 75)), none⟩]
def c5_37 : List SOper := [⟨some 76, .q (.mv (.t 9)), none⟩, ⟨some 77, .q (.bin .add (.t 76) (.c (.int .i64 1))), none⟩, ⟨some 9, .q (.mv (.t 77)), none⟩]
def c5_38 : List SOper := [⟨some 78, .q (.mv (.t 11)), none⟩, ⟨some 79, .q (.bin .add (.t 78) (.c (.int .i64 1))), none⟩, ⟨some 10, .q (.mv (.t 79)), none⟩]
def c5_39 : SCode := .seq (.region c5_37 [1, 2, 5, 6, 7, 8, 9, 11]) (.region c5_38 [1, 2, 5, 6, 7, 8, 9, 10, 11])
def c5_40 : SCode := .seq (.region c5_36 [1, 2, 5, 6, 7, 8, 9, 11]) c5_39
def c5_41 : SCode := .seq (.region c5_35 [1, 2, 5, 6, 7, 8, 9, 11, 12]) c5_40
def c5_42 : SCode := .seq c5_34 c5_41
def c5_43 : SCode := .seq (.region c5_29 [1, 2, 5, 6, 7, 8, 9, 11, 12, 13]) c5_42
def c5_44 : SCode := .seq c5_28 c5_43
def c5_45 : SCode := .block 2 c5_44
def c5_46 : List SOper := [⟨some 43, .q (.mv (.t 11)), none⟩, ⟨some 44, .q (.bin .add (.t 43) (.c (.int .i64 1))), none⟩, ⟨some 11, .q (.mv (.t 44)), none⟩]
def c5_47 : SCode := .seq c5_45 (.region c5_46 [1, 2, 5, 6, 7, 8, 9, 10, 11])
def c5_48 : SCode := .seq c5_25 c5_47
def c5_49 : SCode := .loop c5_48
def c5_50 : SCode := .block 1 c5_49
def c5_51 : SCode := .seq (.region c5_22 [1, 2, 5, 6, 7, 8, 9, 10, 11]) c5_50
def c5_52 : List SOper := [⟨some 80, .q (.mv (.t 7)), none⟩, ⟨some 81, .q (.build [(.int .i64 0), (.int .i64 0)] []), none⟩, ⟨some 4, .q (.mv (.t 80)), none⟩, ⟨none, .e (.st 2 (.t 5) (.t 81)), none⟩]
def c5_53 : SCode := .seq (.region c5_52 [4, 5]) .ret
def c5_54 : SCode := .seq c5_51 c5_53
def c5_55 : SCode := .seq (.region c5_21 [1, 2, 5, 6, 7, 8, 9, 10]) c5_54
def c5_56 : SCode := .seq (.region c5_20 [1, 2, 5, 6, 7, 8, 9]) c5_55
def c5_57 : SCode := .seq (.region c5_19 [1, 2, 5, 6, 7, 8]) c5_56
def c5_58 : SCode := .seq (.region c5_18 [1, 2, 5, 6, 7]) c5_57
def c5_59 : SCode := .seq c5_17 c5_58
def c5_60 : SCode := .seq (.region c5_1 [1, 2, 5, 6]) c5_59
def c5_61 : SCode := .seq (.region c5_0 [1, 2, 5]) c5_60
def c5 : SCode := c5_61
theorem w5 : type_of% (And.intro (uR Tryz.prog c5_0.eq_1) (And.intro (uR Tryz.prog c5_1.eq_1) (And.intro (uR Tryz.prog c5_2.eq_1) (And.intro (uR Tryz.prog c5_3.eq_1) (And.intro (uC Tryz.prog c5_4.eq_1) (And.intro (uR Tryz.prog c5_5.eq_1) (And.intro (uR Tryz.prog c5_6.eq_1) (And.intro (uC Tryz.prog c5_7.eq_1) (And.intro (uR Tryz.prog c5_8.eq_1) (And.intro (uR Tryz.prog c5_9.eq_1) (And.intro (uC Tryz.prog c5_10.eq_1) (And.intro (uC Tryz.prog c5_11.eq_1) (And.intro (uC Tryz.prog c5_12.eq_1) (And.intro (uC Tryz.prog c5_13.eq_1) (And.intro (uC Tryz.prog c5_14.eq_1) (And.intro (uC Tryz.prog c5_15.eq_1) (And.intro (uC Tryz.prog c5_16.eq_1) (And.intro (uC Tryz.prog c5_17.eq_1) (And.intro (uR Tryz.prog c5_18.eq_1) (And.intro (uR Tryz.prog c5_19.eq_1) (And.intro (uR Tryz.prog c5_20.eq_1) (And.intro (uR Tryz.prog c5_21.eq_1) (And.intro (uR Tryz.prog c5_22.eq_1) (And.intro (uR Tryz.prog c5_23.eq_1) (And.intro (uC Tryz.prog c5_24.eq_1) (And.intro (uC Tryz.prog c5_25.eq_1) (And.intro (uR Tryz.prog c5_26.eq_1) (And.intro (uC Tryz.prog c5_27.eq_1) (And.intro (uC Tryz.prog c5_28.eq_1) (And.intro (uR Tryz.prog c5_29.eq_1) (And.intro (uR Tryz.prog c5_30.eq_1) (And.intro (uR Tryz.prog c5_31.eq_1) (And.intro (uC Tryz.prog c5_32.eq_1) (And.intro (uC Tryz.prog c5_33.eq_1) (And.intro (uC Tryz.prog c5_34.eq_1) (And.intro (uR Tryz.prog c5_35.eq_1) (And.intro (uR Tryz.prog c5_36.eq_1) (And.intro (uR Tryz.prog c5_37.eq_1) (And.intro (uR Tryz.prog c5_38.eq_1) (And.intro (uC Tryz.prog c5_39.eq_1) (And.intro (uC Tryz.prog c5_40.eq_1) (And.intro (uC Tryz.prog c5_41.eq_1) (And.intro (uC Tryz.prog c5_42.eq_1) (And.intro (uC Tryz.prog c5_43.eq_1) (And.intro (uC Tryz.prog c5_44.eq_1) (And.intro (uC Tryz.prog c5_45.eq_1) (And.intro (uR Tryz.prog c5_46.eq_1) (And.intro (uC Tryz.prog c5_47.eq_1) (And.intro (uC Tryz.prog c5_48.eq_1) (And.intro (uC Tryz.prog c5_49.eq_1) (And.intro (uC Tryz.prog c5_50.eq_1) (And.intro (uC Tryz.prog c5_51.eq_1) (And.intro (uR Tryz.prog c5_52.eq_1) (And.intro (uC Tryz.prog c5_53.eq_1) (And.intro (uC Tryz.prog c5_54.eq_1) (And.intro (uC Tryz.prog c5_55.eq_1) (And.intro (uC Tryz.prog c5_56.eq_1) (And.intro (uC Tryz.prog c5_57.eq_1) (And.intro (uC Tryz.prog c5_58.eq_1) (And.intro (uC Tryz.prog c5_59.eq_1) (And.intro (uC Tryz.prog c5_60.eq_1) (And.intro (uC Tryz.prog c5_61.eq_1) (uC Tryz.prog c5.eq_1))))))))))))))))))))))))))))))))))))))))))))))))))))))))))))))) := (And.intro (uR Tryz.prog c5_0.eq_1) (And.intro (uR Tryz.prog c5_1.eq_1) (And.intro (uR Tryz.prog c5_2.eq_1) (And.intro (uR Tryz.prog c5_3.eq_1) (And.intro (uC Tryz.prog c5_4.eq_1) (And.intro (uR Tryz.prog c5_5.eq_1) (And.intro (uR Tryz.prog c5_6.eq_1) (And.intro (uC Tryz.prog c5_7.eq_1) (And.intro (uR Tryz.prog c5_8.eq_1) (And.intro (uR Tryz.prog c5_9.eq_1) (And.intro (uC Tryz.prog c5_10.eq_1) (And.intro (uC Tryz.prog c5_11.eq_1) (And.intro (uC Tryz.prog c5_12.eq_1) (And.intro (uC Tryz.prog c5_13.eq_1) (And.intro (uC Tryz.prog c5_14.eq_1) (And.intro (uC Tryz.prog c5_15.eq_1) (And.intro (uC Tryz.prog c5_16.eq_1) (And.intro (uC Tryz.prog c5_17.eq_1) (And.intro (uR Tryz.prog c5_18.eq_1) (And.intro (uR Tryz.prog c5_19.eq_1) (And.intro (uR Tryz.prog c5_20.eq_1) (And.intro (uR Tryz.prog c5_21.eq_1) (And.intro (uR Tryz.prog c5_22.eq_1) (And.intro (uR Tryz.prog c5_23.eq_1) (And.intro (uC Tryz.prog c5_24.eq_1) (And.intro (uC Tryz.prog c5_25.eq_1) (And.intro (uR Tryz.prog c5_26.eq_1) (And.intro (uC Tryz.prog c5_27.eq_1) (And.intro (uC Tryz.prog c5_28.eq_1) (And.intro (uR Tryz.prog c5_29.eq_1) (And.intro (uR Tryz.prog c5_30.eq_1) (And.intro (uR Tryz.prog c5_31.eq_1) (And.intro (uC Tryz.prog c5_32.eq_1) (And.intro (uC Tryz.prog c5_33.eq_1) (And.intro (uC Tryz.prog c5_34.eq_1) (And.intro (uR Tryz.prog c5_35.eq_1) (And.intro (uR Tryz.prog c5_36.eq_1) (And.intro (uR Tryz.prog c5_37.eq_1) (And.intro (uR Tryz.prog c5_38.eq_1) (And.intro (uC Tryz.prog c5_39.eq_1) (And.intro (uC Tryz.prog c5_40.eq_1) (And.intro (uC Tryz.prog c5_41.eq_1) (And.intro (uC Tryz.prog c5_42.eq_1) (And.intro (uC Tryz.prog c5_43.eq_1) (And.intro (uC Tryz.prog c5_44.eq_1) (And.intro (uC Tryz.prog c5_45.eq_1) (And.intro (uR Tryz.prog c5_46.eq_1) (And.intro (uC Tryz.prog c5_47.eq_1) (And.intro (uC Tryz.prog c5_48.eq_1) (And.intro (uC Tryz.prog c5_49.eq_1) (And.intro (uC Tryz.prog c5_50.eq_1) (And.intro (uC Tryz.prog c5_51.eq_1) (And.intro (uR Tryz.prog c5_52.eq_1) (And.intro (uC Tryz.prog c5_53.eq_1) (And.intro (uC Tryz.prog c5_54.eq_1) (And.intro (uC Tryz.prog c5_55.eq_1) (And.intro (uC Tryz.prog c5_56.eq_1) (And.intro (uC Tryz.prog c5_57.eq_1) (And.intro (uC Tryz.prog c5_58.eq_1) (And.intro (uC Tryz.prog c5_59.eq_1) (And.intro (uC Tryz.prog c5_60.eq_1) (And.intro (uC Tryz.prog c5_61.eq_1) (uC Tryz.prog c5.eq_1)))))))))))))))))))))))))))))))))))))))))))))))))))))))))))))))
def v5 : List RV := [.t 4, .c 5 (some 2)]
theorem s5 : slimF Tryz.prog Tryz.f5 = some (c5.bare, v5) := by kernel_rfl

theorem ownT_fresh {α : Type} {enc : α → List Value} {sz g : Nat} {h h' : Heap} {v : Value} {l : List α} (o : OwnT g h' enc sz v l) (e : Ext h h') (hg : h.size ≤ g) : Fresh h h' enc sz v l := ⟨e, g, hg, o⟩
theorem put_two {K : Heap} {i : Nat} {a b : Int} (B : Bx K i [.int .i64 a, .int .i64 b]) (c d : Int) :
    ∃ K', stV K 2 (.pointer (some ⟨i, 0, none⟩)) (.agg #[.int .i64 c, .int .i64 d]) = some K' ∧ Bx K' i [.int .i64 c, .int .i64 d] ∧ ExtG i K K' := by
  obtain ⟨K', e, B', G⟩ := B.put (o := 0) (n := 2) (y := .agg #[.int .i64 c, .int .i64 d]) rfl (by simp) rfl
  exact ⟨K', e, B', G⟩
theorem ReadList_ok (h : Heap) (r : Rate) (x : List UInt8) (hl : x.length ≤ 9223372036854775807) :
    ACall Tryz.prog 7 [.agg (encRate r).toArray, .string (bL x)] h
      fun y h' => ∃ u : Value, y = .tuple #[u, .agg #[.int .i64 (readL r x).2.1, .int .i64 (readL r x).2.2]] ∧ Fresh h h' encClip 3 u (readL r x).1 := by
  have hsz : (bL x).size = x.length := bL_size x
  have BR := Bx.new h (encRate r) [[.int .i64 0, .int .i64 0]]
  have BF := Bx.new (h.more [encRate r]) [.int .i64 0, .int .i64 0] []
  rw [more_more, size_more] at BF
  have eM := Ext.more h [encRate r, [.int .i64 0, .int .i64 0]]
  have rk := RateOk_ok (h.more [encRate r, [.int .i64 0, .int .i64 0]]) r
  simp only [encRate, List.cons_append, List.nil_append, List.length_cons, List.length_nil, Nat.zero_add] at BR BF eM rk
  refine ACall.of Tryz.func7 s7 (of_decide_eq_true rfl) ?_
  simp (maxSteps := 4000000) (disch := omega) only [ah, am, Nat.reduceEqDiff, reduceCtorEq, Nat.reduceAdd, Nat.reduceLeDiff, Nat.reduceMul, Nat.reduceLT, if_true, if_false, true_and, and_true, and_self, Nat.reduceBEq, QOp.loads, boxO, bslO, buildO, cutL, fillV, putL, w7, v7, encRate]
  obtain ⟨h1, hh1⟩ : ∃ h1, h1 = h.more [[Value.int IntKind.i64 r.num, Value.int IntKind.i64 r.den, Value.bool r.drop], [Value.int IntKind.i64 0, Value.int IntKind.i64 0]] := ⟨_, rfl⟩
  rw [← hh1] at BR BF eM rk ⊢
  obtain ⟨rb, hrb⟩ : ∃ q, q = h.size := ⟨_, rfl⟩
  obtain ⟨fb, hfb⟩ : ∃ q, q = h.size + 1 := ⟨_, rfl⟩
  rw [← hfb] at BF ⊢
  rw [← hrb] at BR ⊢
  have hge : h.size ≤ fb := by omega
  have hrf : rb ≠ fb := by omega
  clear hh1
  refine stepC.of rk ?_
  rintro _ H1 ⟨e1, rfl⟩
  have E1 := eM.trans e1
  have BR := BR.ext e1
  have BF := BF.ext e1
  have bad : ∀ (K : Heap) (e : Ext h K) (B : Bx K fb [.int .i64 0, .int .i64 0]) (c d : Int), readL r x = ([], c, d) → ∃ K', stV K 2 (.pointer (some ⟨fb, 0, none⟩)) (.agg #[.int .i64 c, .int .i64 d]) = some K' ∧
      (∀ o m, ldnV K' m (.pointer (some ⟨fb, o, none⟩)) = cutL [.int .i64 c, .int .i64 d] o m) ∧
      (∃ u : Value, (.tuple #[.slice none 0 0, .agg #[.int .i64 c, .int .i64 d]] : Value) = .tuple #[u, .agg #[.int .i64 (readL r x).2.1, .int .i64 (readL r x).2.2]] ∧ Fresh h K' encClip 3 u (readL r x).1) := by
    intro K e B c d hz
    obtain ⟨K', e1, B', G⟩ := put_two B c d
    refine ⟨K', e1, B'.ld.2, .slice none 0 0, by rw [hz], ?_⟩
    rw [hz]
    exact ownT_fresh (OwnT.nil h.size K' encClip_len (by omega)) (G.ext e hge) (Nat.le_refl _)
  by_cases cr : rateOk r
  rotate_left
  · obtain ⟨K', x1, x2, fin⟩ := bad H1 E1 BF 1 0 (readL_rate cr)
    simp (maxSteps := 4000000) (disch := omega) only [ah, am, Nat.reduceEqDiff, reduceCtorEq, Nat.reduceAdd, Nat.reduceLeDiff, Nat.reduceMul, Nat.reduceLT, if_true, if_false, true_and, and_true, and_self, Nat.reduceBEq, QOp.loads, boxO, bslO, buildO, cutL, fillV, putL, w7, v7, decide_eq_false cr, x1, x2]
    exact fin
  by_cases cl : 20000 < x.length
  · obtain ⟨K', x1, x2, fin⟩ := bad H1 E1 BF 2 0 (readL_long cr cl)
    simp (maxSteps := 4000000) (disch := omega) only [ah, am, Nat.reduceEqDiff, reduceCtorEq, Nat.reduceAdd, Nat.reduceLeDiff, Nat.reduceMul, Nat.reduceLT, if_true, if_false, true_and, and_true, and_self, Nat.reduceBEq, QOp.loads, boxO, bslO, buildO, cutL, fillV, putL, w7, v7, decide_eq_true cr, hsz, decide_eq_true (show (20000 : Int) < (x.length : Int) by omega), x1, x2]
    exact fin
  have cl' : decide ((20000 : Int) < (x.length : Int)) = false := decide_eq_false (by omega)
  have N0 : ∀ y : List UInt8, strB .neq (bL y) ⟨#[]⟩ = some (.bool (!decide (y = []))) := fun y => strB_neq _ _
  have start : ∀ R : Env, endsNl x → SW Tryz.prog c7_38 (retQ v7 fun y h' => ∃ u : Value, y = .tuple #[u, .agg #[.int .i64 (readL r x).2.1, .int .i64 (readL r x).2.2]] ∧ Fresh h h' encClip 3 u (readL r x).1)
      ((1, .string (bL x)) :: (2, .pointer (some ⟨rb, 0, none⟩)) :: (5, .pointer (some ⟨fb, 0, none⟩)) :: R) H1 := by
    intro R en
    have F0 := Full.new0 H1 encClip_len (by omega)
    have eT := Ext.more H1 [[]]
    obtain ⟨g, hg⟩ : ∃ g, g = H1.size := ⟨_, rfl⟩
    have hgf : fb ≠ g := by have := Heap.get_lt BF; omega
    have hgr : rb ≠ g := by have := Heap.get_lt BR; omega
    have hgh : h.size ≤ g := by have := E1.1; omega
    simp (maxSteps := 4000000) (disch := omega) only [ah, am, Nat.reduceEqDiff, reduceCtorEq, Nat.reduceAdd, Nat.reduceLeDiff, Nat.reduceMul, Nat.reduceLT, if_true, if_false, true_and, and_true, and_self, Nat.reduceBEq, QOp.loads, boxO, bslO, buildO, cutL, fillV, putL, w7, v7]
    obtain ⟨H2, hH2⟩ : ∃ H2, H2 = H1.more [[]] := ⟨_, rfl⟩
    rw [← hH2] at F0 eT ⊢
    rw [← hg] at F0 ⊢
    have E2 := E1.trans eT
    have BR := BR.ext eT
    have BF := BF.ext eT
    have go := readL_go cr cl en
    refine SW_loop_up (fun n E K => ∃ y v t, endsNl y ∧ n + y.length ≤ x.length ∧ readG r (lin y) n t = readL r x ∧ keeps t ∧ ExtG g H2 K ∧ Full g K encClip 3 v t ∧
      E = [(1, .string (bL y)), (2, .pointer (some ⟨rb, 0, none⟩)), (5, .pointer (some ⟨fb, 0, none⟩)), (6, v), (7, .int .i64 (n : Int))]) x.length 0 (by omega)
      ⟨x, _, [], en, by omega, go.symm, keeps_nil, ExtG.refl _ _, F0, rfl⟩ ?_
    clear F0
    rintro n E K hn ⟨y, v, t, ye, yl, yr, kp, G, F, rfl⟩
    have wn : IntKind.i64.wrap ((n : Int) + 1) = ((n + 1 : Nat) : Int) := i64e (by omega) (by omega)
    have EK : Ext h K := G.ext E2 hgh
    have BRK := BR.step G hgr
    have BFK := BF.step G hgf
    by_cases y0 : y = []
    · subst y0
      have hz : readL r x = (t, 0, 0) := yr.symm
      obtain ⟨K', x1, B', G'⟩ := put_two BFK 0 0
      simp (maxSteps := 4000000) (disch := omega) only [ah, am, Nat.reduceEqDiff, reduceCtorEq, Nat.reduceAdd, Nat.reduceLeDiff, Nat.reduceMul, Nat.reduceLT, if_true, if_false, true_and, and_true, and_self, Nat.reduceBEq, QOp.loads, boxO, bslO, buildO, cutL, fillV, putL, w7, v7, N0, decide_eq_true rfl, Bool.not_true, x1, B'.ld]
      refine ⟨v, by rw [hz], ?_⟩
      rw [hz]
      exact ownT_fresh (F.extG G' (Ne.symm hgf)).ownT (G'.ext EK hge) hgh
    obtain ⟨p, q, rfl, hp⟩ := first_nl y (endsNl_mem ye y0)
    have lp : (p ++ 10 :: q).length = p.length + q.length + 1 := by simp; omega
    rw [lin_app q p hp] at yr
    have CT := Cut_ok K (bL (p ++ 10 :: q)) (by rw [bL_size]; omega)
    rw [bL_data, cut_app hp] at CT
    have rl := readLine_ok K g r p v t F kp (by omega)
    simp only [encRate] at rl
    simp (maxSteps := 4000000) (disch := omega) only [ah, am, Nat.reduceEqDiff, reduceCtorEq, Nat.reduceAdd, Nat.reduceLeDiff, Nat.reduceMul, Nat.reduceLT, if_true, if_false, true_and, and_true, and_self, Nat.reduceBEq, QOp.loads, boxO, bslO, buildO, cutL, fillV, putL, w7, v7, N0, decide_eq_false y0, Bool.not_false]
    refine stepC.of CT ?_
    rintro _ Hx ⟨hx, rfl⟩; rw [hx]; clear hx Hx
    simp (maxSteps := 4000000) (disch := omega) only [ah, am, Nat.reduceEqDiff, reduceCtorEq, Nat.reduceAdd, Nat.reduceLeDiff, Nat.reduceMul, Nat.reduceLT, if_true, if_false, true_and, and_true, and_self, Nat.reduceBEq, QOp.loads, boxO, bslO, buildO, cutL, fillV, putL, w7, v7, BRK.ld]
    refine stepC.of rl ?_
    rintro _ K2 ⟨G2, u, rfl, hu⟩
    have G3 := G.trans G2
    have EK2 : Ext h K2 := G3.ext E2 hgh
    by_cases cz : lnCode r t p = 0
    · rw [readG_good cz] at yr
      simp (maxSteps := 4000000) (disch := omega) only [ah, am, Nat.reduceEqDiff, reduceCtorEq, Nat.reduceAdd, Nat.reduceLeDiff, Nat.reduceMul, Nat.reduceLT, if_true, if_false, true_and, and_true, and_self, Nat.reduceBEq, QOp.loads, boxO, bslO, buildO, cutL, fillV, putL, w7, v7, decide_eq_true cz, wn]
      exact ⟨by omega, q, u, _, endsNl_rest ye, by omega, yr, keeps_step kp cz, G3, hu cz, rfl⟩
    · rw [readG_bad cz] at yr
      obtain ⟨K', x1, x2, fin⟩ := bad K2 EK2 (BF.step G3 hgf) _ _ yr.symm
      simp (maxSteps := 4000000) (disch := omega) only [ah, am, Nat.reduceEqDiff, reduceCtorEq, Nat.reduceAdd, Nat.reduceLeDiff, Nat.reduceMul, Nat.reduceLT, if_true, if_false, true_and, and_true, and_self, Nat.reduceBEq, QOp.loads, boxO, bslO, buildO, cutL, fillV, putL, w7, v7, decide_eq_false cz, x1, x2]
      exact fin
  rw [c7_40.eq_1, c7_39.eq_1]
  generalize c7_38 = fc at start ⊢
  by_cases x0 : x = []
  · simp (maxSteps := 4000000) (disch := omega) only [ah, am, Nat.reduceEqDiff, reduceCtorEq, Nat.reduceAdd, Nat.reduceLeDiff, Nat.reduceMul, Nat.reduceLT, if_true, if_false, true_and, and_true, and_self, Nat.reduceBEq, QOp.loads, boxO, bslO, buildO, cutL, fillV, putL, w7, v7, decide_eq_true cr, hsz, cl', N0, decide_eq_true x0, Bool.not_true]
    exact start _ (.inl x0)
  simp (maxSteps := 4000000) (disch := omega) only [ah, am, Nat.reduceEqDiff, reduceCtorEq, Nat.reduceAdd, Nat.reduceLeDiff, Nat.reduceMul, Nat.reduceLT, if_true, if_false, true_and, and_true, and_self, Nat.reduceBEq, QOp.loads, boxO, bslO, buildO, cutL, fillV, putL, w7, v7, decide_eq_true cr, hsz, cl', N0, decide_eq_false x0, Bool.not_false]
  refine stepC.of (HasSuffix_ok H1 x 10 (by omega)) ?_
  rintro _ Hx ⟨hx, rfl⟩; rw [hx]; clear hx Hx
  by_cases ce : x.getLast? = some 10
  · simp (maxSteps := 4000000) (disch := omega) only [ah, am, Nat.reduceEqDiff, reduceCtorEq, Nat.reduceAdd, Nat.reduceLeDiff, Nat.reduceMul, Nat.reduceLT, if_true, if_false, true_and, and_true, and_self, Nat.reduceBEq, QOp.loads, boxO, bslO, buildO, cutL, fillV, putL, w7, v7, decide_eq_true ce]
    exact start _ (.inr ce)
  · obtain ⟨K', x1, x2, fin⟩ := bad H1 E1 BF 3 0 (readL_end cr cl (fun q => q.elim x0 ce))
    simp (maxSteps := 4000000) (disch := omega) only [ah, am, Nat.reduceEqDiff, reduceCtorEq, Nat.reduceAdd, Nat.reduceLeDiff, Nat.reduceMul, Nat.reduceLT, if_true, if_false, true_and, and_true, and_self, Nat.reduceBEq, QOp.loads, boxO, bslO, buildO, cutL, fillV, putL, w7, v7, decide_eq_false ce, x1, x2]
    exact fin
theorem last_get (x : List UInt8) (h : 0 < x.length) : x.getLast? = some 10 ↔ (x[x.length - 1].toNat : Int) = 10 := by
  rw [List.getLast?_eq_getElem?, List.getElem?_eq_getElem (by omega), Option.some.injEq]
  refine ⟨fun q => by rw [q]; rfl, fun q => UInt8.toNat_inj.mp (by have : (10 : UInt8).toNat = 10 := rfl; omega)⟩
theorem specReadList_ok (h : Heap) (r : Rate) (x : List UInt8) (hl : x.length ≤ 9223372036854775807) :
    ACall Tryz.prog 5 [.agg (encRate r).toArray, .string (bL x)] h
      fun y h' => ∃ u : Value, y = .tuple #[u, .agg #[.int .i64 (readL r x).2.1, .int .i64 (readL r x).2.2]] ∧ Fresh h h' encClip 3 u (readL r x).1 := by
  have hsz : (bL x).size = x.length := bL_size x
  have BR := Bx.new h (encRate r) [[.int .i64 0, .int .i64 0]]
  have BF := Bx.new (h.more [encRate r]) [.int .i64 0, .int .i64 0] []
  rw [more_more, size_more] at BF
  have eM := Ext.more h [encRate r, [.int .i64 0, .int .i64 0]]
  have rk := specRateOk_ok (h.more [encRate r, [.int .i64 0, .int .i64 0]]) r
  simp only [encRate, List.cons_append, List.nil_append, List.length_cons, List.length_nil, Nat.zero_add] at BR BF eM rk
  refine ACall.of Tryz.func5 s5 (of_decide_eq_true rfl) ?_
  simp (maxSteps := 4000000) (disch := omega) only [ah, am, Nat.reduceEqDiff, reduceCtorEq, Nat.reduceAdd, Nat.reduceLeDiff, Nat.reduceMul, Nat.reduceLT, if_true, if_false, true_and, and_true, and_self, Nat.reduceBEq, QOp.loads, boxO, bslO, buildO, cutL, fillV, putL, w5, v5, encRate, hsz]
  obtain ⟨h1, hh1⟩ : ∃ h1, h1 = h.more [[Value.int IntKind.i64 r.num, Value.int IntKind.i64 r.den, Value.bool r.drop], [Value.int IntKind.i64 0, Value.int IntKind.i64 0]] := ⟨_, rfl⟩
  rw [← hh1] at BR BF eM rk ⊢
  obtain ⟨rb, hrb⟩ : ∃ q, q = h.size := ⟨_, rfl⟩
  obtain ⟨fb, hfb⟩ : ∃ q, q = h.size + 1 := ⟨_, rfl⟩
  rw [← hfb] at BF ⊢
  rw [← hrb] at BR ⊢
  have hge : h.size ≤ fb := by omega
  have hrf : rb ≠ fb := by omega
  clear hh1
  refine stepC.of rk ?_
  rintro _ H1 ⟨e1, rfl⟩
  have E1 := eM.trans e1
  have BR := BR.ext e1
  have BF := BF.ext e1
  have bad : ∀ (K : Heap) (e : Ext h K) (B : Bx K fb [.int .i64 0, .int .i64 0]) (c d : Int), readL r x = ([], c, d) → ∃ K', stV (K.more [[]]) 2 (.pointer (some ⟨fb, 0, none⟩)) (.agg #[.int .i64 c, .int .i64 d]) = some K' ∧
      (∀ o m, ldnV K' m (.pointer (some ⟨fb, o, none⟩)) = cutL [.int .i64 c, .int .i64 d] o m) ∧
      (∃ u : Value, (.tuple #[.slice (some ⟨K.size, 0, none⟩) 0 3, .agg #[.int .i64 c, .int .i64 d]] : Value) = .tuple #[u, .agg #[.int .i64 (readL r x).2.1, .int .i64 (readL r x).2.2]] ∧ Fresh h K' encClip 3 u (readL r x).1) := by
    intro K e B c d hz
    have hb := Heap.get_lt B
    obtain ⟨K', e1, B', G⟩ := put_two (B.ext (Ext.more K [[]])) c d
    refine ⟨K', e1, B'.ld.2, .slice (some ⟨K.size, 0, none⟩) 0 3, by rw [hz], ?_⟩
    rw [hz]
    exact ownT_fresh ((OwnT.new0 K encClip_len (by omega)).extG G (by omega)) (G.ext (e.trans (Ext.more K [[]])) hge) e.1
  by_cases cr : rateOk r
  rotate_left
  · obtain ⟨K', x1, x2, fin⟩ := bad H1 E1 BF 1 0 (readL_rate cr)
    simp (maxSteps := 4000000) (disch := omega) only [ah, am, Nat.reduceEqDiff, reduceCtorEq, Nat.reduceAdd, Nat.reduceLeDiff, Nat.reduceMul, Nat.reduceLT, if_true, if_false, true_and, and_true, and_self, Nat.reduceBEq, QOp.loads, boxO, bslO, buildO, cutL, fillV, putL, w5, v5, decide_eq_false cr, x1, x2]
    exact fin
  by_cases cl : 20000 < x.length
  · obtain ⟨K', x1, x2, fin⟩ := bad H1 E1 BF 2 0 (readL_long cr cl)
    simp (maxSteps := 4000000) (disch := omega) only [ah, am, Nat.reduceEqDiff, reduceCtorEq, Nat.reduceAdd, Nat.reduceLeDiff, Nat.reduceMul, Nat.reduceLT, if_true, if_false, true_and, and_true, and_self, Nat.reduceBEq, QOp.loads, boxO, bslO, buildO, cutL, fillV, putL, w5, v5, decide_eq_true cr, decide_eq_true (show (20000 : Int) < (x.length : Int) by omega), x1, x2]
    exact fin
  have cl' : decide ((20000 : Int) < (x.length : Int)) = false := decide_eq_false (by omega)
  have start : ∀ R : Env, endsNl x → SW Tryz.prog c5_58 (retQ v5 fun y h' => ∃ u : Value, y = .tuple #[u, .agg #[.int .i64 (readL r x).2.1, .int .i64 (readL r x).2.2]] ∧ Fresh h h' encClip 3 u (readL r x).1)
      ((1, .string (bL x)) :: (2, .pointer (some ⟨rb, 0, none⟩)) :: (5, .pointer (some ⟨fb, 0, none⟩)) :: (6, .int .i64 (x.length : Int)) :: R) H1 := by
    intro R en
    have F0 := Fresh.new0 H1 encClip_len (by omega)
    have go := readL_go cr cl en
    simp (maxSteps := 4000000) (disch := omega) only [ah, am, Nat.reduceEqDiff, reduceCtorEq, Nat.reduceAdd, Nat.reduceLeDiff, Nat.reduceMul, Nat.reduceLT, if_true, if_false, true_and, and_true, and_self, Nat.reduceBEq, QOp.loads, boxO, bslO, buildO, cutL, fillV, putL, w5, v5]
    refine SW_loop_up (fun i E K => ∃ f w t, f ≤ i ∧ i ≤ x.length ∧ t.length ≤ f ∧ (10 : UInt8) ∉ (x.drop f).take (i - f) ∧ readG r (lin (x.drop f)) t.length t = readL r x ∧ keeps t ∧ Fresh H1 K encClip 3 w t ∧
      E = [(1, .string (bL x)), (2, .pointer (some ⟨rb, 0, none⟩)), (5, .pointer (some ⟨fb, 0, none⟩)), (6, .int .i64 (x.length : Int)), (7, w), (8, .int .i64 (sumLen t)), (9, .int .i64 (t.length : Int)), (10, .int .i64 (f : Int)), (11, .int .i64 (i : Int))]) x.length 0 (by omega)
      ⟨0, _, [], by omega, by omega, by simp, by simp, go.symm, keeps_nil, F0, rfl⟩ ?_
    clear F0
    rintro i E K hi ⟨f, w, t, hf, hix, htf, hno, yr, kp, F, rfl⟩
    have wi : IntKind.i64.wrap ((i : Int) + 1) = ((i + 1 : Nat) : Int) := i64e (by omega) (by omega)
    have wt : IntKind.i64.wrap ((t.length : Int) + 1) = ((t.length + 1 : Nat) : Int) := i64e (by omega) (by omega)
    have EK : Ext h K := E1.trans F.1
    have BRK := BR.ext F.1
    have BFK := BF.ext F.1
    by_cases c0 : i < x.length
    rotate_left
    · have hii : i = x.length := by omega
      have hz : readL r x = (t, 0, 0) := by
        rw [← yr, lin_none]
        · rfl
        · rw [List.take_of_length_le (by simp; omega)] at hno; exact hno
      obtain ⟨K', x1, B', G'⟩ := put_two BFK 0 0
      have hbf := Heap.get_lt BF
      obtain ⟨_, g, hg, O⟩ := F
      have c0' : decide ((i : Int) < (x.length : Int)) = false := decide_eq_false (by omega)
      simp (maxSteps := 4000000) (disch := omega) only [ah, am, Nat.reduceEqDiff, reduceCtorEq, Nat.reduceAdd, Nat.reduceLeDiff, Nat.reduceMul, Nat.reduceLT, if_true, if_false, true_and, and_true, and_self, Nat.reduceBEq, QOp.loads, boxO, bslO, buildO, cutL, fillV, putL, w5, v5, c0', x1, B'.ld]
      refine ⟨w, by rw [hz], ?_⟩
      rw [hz]
      exact ownT_fresh (O.extG G' (by omega)) (G'.ext EK hge) (by have := E1.1; omega)
    have c0' : decide ((i : Int) < (x.length : Int)) = true := decide_eq_true (by omega)
    have IV := ivs_bL x .i64 i c0
    by_cases cb : (x[i].toNat : Int) = 10
    rotate_left
    · simp (maxSteps := 4000000) (disch := omega) only [ah, am, Nat.reduceEqDiff, reduceCtorEq, Nat.reduceAdd, Nat.reduceLeDiff, Nat.reduceMul, Nat.reduceLT, if_true, if_false, true_and, and_true, and_self, Nat.reduceBEq, QOp.loads, boxO, bslO, buildO, cutL, fillV, putL, w5, v5, c0', IV, decide_eq_false cb, wi]
      refine ⟨c0, f, w, t, by omega, by omega, htf, ?_, yr, kp, F, rfl⟩
      rw [show i + 1 - f = (i - f) + 1 from by omega, List.take_succ_eq_append_getElem (by simp; omega), List.getElem_drop]
      have hfi : f + (i - f) = i := by omega
      simp only [hfi, List.mem_append, List.mem_singleton, not_or]
      exact ⟨hno, fun q => cb (by rw [← q]; rfl)⟩
    have hb : x[i] = 10 := UInt8.toNat_inj.mp (by have : (10 : UInt8).toNat = 10 := rfl; omega)
    have hsp : x.drop f = (x.drop f).take (i - f) ++ 10 :: x.drop (i + 1) := by
      have h1 := List.take_append_drop (i - f) (x.drop f)
      rw [List.drop_drop, show f + (i - f) = i from by omega, List.drop_eq_getElem_cons c0, hb] at h1
      exact h1.symm
    have hpl : ((x.drop f).take (i - f)).length ≤ x.length := by simp; omega
    have SL := sls_ab x .i64 .i64 f i hf (by omega)
    rw [hsp, lin_app _ _ hno] at yr
    generalize (x.drop f).take (i - f) = p at *
    clear hsp
    have bk := Bx.new K [.int .i64 0, .int .i64 0, .int .i64 0] []
    have eN := Ext.more K [[.int .i64 0, .int .i64 0, .int .i64 0]]
    have ll := l6Line_ok (K.more [[.int .i64 0, .int .i64 0, .int .i64 0]]) r p w t (F.slt.ext eN) kp (by omega)
    simp only [encRate] at ll
    simp (maxSteps := 4000000) (disch := omega) only [ah, am, Nat.reduceEqDiff, reduceCtorEq, Nat.reduceAdd, Nat.reduceLeDiff, Nat.reduceMul, Nat.reduceLT, if_true, if_false, true_and, and_true, and_self, Nat.reduceBEq, QOp.loads, boxO, bslO, buildO, cutL, fillV, putL, w5, v5, c0', IV, decide_eq_true cb, SL, wt, BRK.ld]
    refine stepC.of ll ?_
    rintro _ K2 ⟨e2, c, rfl, hc⟩
    have bk2 := bk.ext e2
    obtain ⟨K3, x3, B3, G3⟩ := put_res (a := zClip) bk2 c
    have hbf := Heap.get_lt BFK
    have E3 : Ext K K3 := G3.ext (eN.trans e2) (Nat.le_refl _)
    simp only [encClip]
    by_cases cz : lnCode r t p = 0
    · have ec := hc cz
      rw [readG_good cz] at yr
      have hK3 : K.size < K3.size := Heap.get_lt B3
      obtain ⟨g, g0, g1, O, _⟩ := (Fk.of (X := []) F).grp K3.size (by omega)
      have hgk : K.size ≠ g := by omega
      have s1 := slt_box (Bx.new K3 (encClip c) []) encClip_len (by omega)
      have eX := Ext.more K3 [encClip c]
      obtain ⟨w2, K4, g', ap, O4, G4, hg'⟩ := (O.ext (E3.trans eX)).app s1 (bytes := 24) (by have := kp.1.1; simp; omega)
      have hX : (K3.more [encClip c]).size = K3.size + 1 := by rw [size_more]; rfl
      have F4 : Fresh H1 K4 encClip 3 w2 (t ++ [c]) := ownT_fresh O4 (G4.ext ((F.1.trans E3).trans eX) g0) (by have := F.1.1; omega)
      have B4 : Bx K4 K.size (encClip c) := (B3.ext eX).step G4 hgk
      simp only [encClip] at ap
      have hk2 := keeps_step kp cz
      have hs := sumLen_bound hk2.1.2.1
      have ws : IntKind.i64.wrap (sumLen t + c.len) = sumLen (t ++ [c]) := i64e (by rw [sumLen_append]; simp [sumLen]) (by rw [ec]; have := hk2.1.2.2; omega)
      simp only [encClip] at B3 B4
      simp (maxSteps := 4000000) (disch := omega) only [ah, am, Nat.reduceEqDiff, reduceCtorEq, Nat.reduceAdd, Nat.reduceLeDiff, Nat.reduceMul, Nat.reduceLT, if_true, if_false, true_and, and_true, and_self, Nat.reduceBEq, QOp.loads, boxO, bslO, buildO, cutL, fillV, putL, w5, v5, x3, decide_eq_true cz, B3.ld, ap, B4.ld, ws, wi, wt]
      refine ⟨c0, i + 1, w2, t ++ [c], by omega, by omega, by simp; omega, by simp, ?_, by rw [ec]; exact hk2, F4, by simp⟩
      rw [ec]; simpa using yr
    · rw [readG_bad cz] at yr
      obtain ⟨K', x1, x2, fin⟩ := bad K3 (EK.trans E3) (BFK.ext E3) _ _ yr.symm
      simp (maxSteps := 4000000) (disch := omega) only [ah, am, Nat.reduceEqDiff, reduceCtorEq, Nat.reduceAdd, Nat.reduceLeDiff, Nat.reduceMul, Nat.reduceLT, if_true, if_false, true_and, and_true, and_self, Nat.reduceBEq, QOp.loads, boxO, bslO, buildO, cutL, fillV, putL, w5, v5, x3, decide_eq_false cz, x1, x2]
      exact fin
  generalize c5_58 = fc at start ⊢
  by_cases x0 : x = []
  · have d0 : decide ((0 : Int) < (x.length : Int)) = false := decide_eq_false (by rw [x0]; simp)
    simp (maxSteps := 4000000) (disch := omega) only [ah, am, Nat.reduceEqDiff, reduceCtorEq, Nat.reduceAdd, Nat.reduceLeDiff, Nat.reduceMul, Nat.reduceLT, if_true, if_false, true_and, and_true, and_self, Nat.reduceBEq, QOp.loads, boxO, bslO, buildO, cutL, fillV, putL, w5, v5, decide_eq_true cr, cl', d0]
    exact start _ (.inl x0)
  have hx0 := List.length_pos_iff.mpr x0
  have d0 : decide ((0 : Int) < (x.length : Int)) = true := decide_eq_true (by omega)
  have wn : IntKind.i64.wrap ((x.length : Int) - 1) = ((x.length - 1 : Nat) : Int) := i64e (by omega) (by omega)
  have IV := ivs_bL x .i64 (x.length - 1) (by omega)
  have lg := last_get x hx0
  by_cases ce : (x[x.length - 1].toNat : Int) = 10
  · simp (maxSteps := 4000000) (disch := omega) only [ah, am, Nat.reduceEqDiff, reduceCtorEq, Nat.reduceAdd, Nat.reduceLeDiff, Nat.reduceMul, Nat.reduceLT, if_true, if_false, true_and, and_true, and_self, Nat.reduceBEq, QOp.loads, boxO, bslO, buildO, cutL, fillV, putL, w5, v5, decide_eq_true cr, cl', d0, wn, IV, decide_eq_true ce]
    exact start _ (.inr (lg.mpr ce))
  · obtain ⟨K', x1, x2, fin⟩ := bad H1 E1 BF 3 0 (readL_end cr cl (fun q => q.elim x0 fun q => ce (lg.mp q)))
    simp (maxSteps := 4000000) (disch := omega) only [ah, am, Nat.reduceEqDiff, reduceCtorEq, Nat.reduceAdd, Nat.reduceLeDiff, Nat.reduceMul, Nat.reduceLT, if_true, if_false, true_and, and_true, and_self, Nat.reduceBEq, QOp.loads, boxO, bslO, buildO, cutL, fillV, putL, w5, v5, decide_eq_true cr, cl', d0, wn, IV, decide_eq_false ce, x1, x2]
    exact fin
end Go.Proofs.YtgmimgmdbpcecaaGreatDoor
end
