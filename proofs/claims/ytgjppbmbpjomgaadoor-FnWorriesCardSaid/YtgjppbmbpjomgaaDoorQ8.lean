import Derived.Test.YtgjppbmbpjomgaaDoorQ7
import Derived.Test.YtgjppbmbpjomgaaDoorE0
namespace Go.Proofs.YtgjppbmbpjomgaaDoor
open Go Go.Ah
set_option linter.unusedSimpArgs false
set_option linter.unusedVariables false
set_option maxRecDepth 10000
set_option maxHeartbeats 4000000
/-! 22 loop.example/g00066/spec.l12DrawTitles: parameters 1, live [0], slots [0:c, 1:c, 3:out, 4:t, 5:n, 6:x, 7:k, 8:x, 9:i] -/
def c22_0 : List SOper := [⟨some 2, .q (.mv (.c (.slice none 0 0))), none⟩]
def c22_1 : List SOper := [⟨some 10, .a (.bsl 0 3 [] []), none⟩, ⟨some 3, .q (.mv (.t 10)), none⟩]
def c22_2 : List SOper := [⟨some 11, .q (.mv (.t 0)), none⟩, ⟨some 12, .e (.call 20 [(.t 11), (.c (.int .i64 3000))]), none⟩, ⟨some 4, .q (.mv (.t 12)), none⟩]
def c22_3 : List SOper := [⟨some 13, .q (.mv (.t 0)), none⟩, ⟨some 14, .e (.call 21 [(.t 13), (.c (.int .i64 16))]), none⟩]
def c22_4 : List SOper := [⟨some 4, .q (.mv (.c (.int .i64 359990999))), none⟩]
def c22_5 : SCode := .cond (.t 14) (.region c22_4 [0, 3, 4]) .skip
def c22_6 : SCode := .seq (.region c22_3 [0, 3, 4, 14]) c22_5
def c22_7 : List SOper := [⟨some 15, .q (.mv (.t 0)), none⟩, ⟨some 16, .e (.call 20 [(.t 15), (.c (.int .i64 6))]), none⟩, ⟨some 5, .q (.mv (.t 16)), none⟩]
def c22_8 : List SOper := [⟨some 17, .q (.mv (.t 5)), none⟩, ⟨some 18, .q (.bin .gtr (.t 17) (.c (.int .i64 0))), none⟩]
def c22_9 : SCode := .cond (.t 18) .skip (.exit 0)
def c22_10 : SCode := .seq (.region c22_8 [0, 3, 4, 5, 18]) c22_9
def c22_11 : List SOper := [⟨some 21, .q (.mv (.t 4)), none⟩, ⟨some 22, .q (.mv (.t 4)), none⟩, ⟨some 23, .q (.bin .add (.t 22) (.c (.int .i64 1))), none⟩, ⟨some 24, .q (.mv (.t 0)), none⟩, ⟨some 25, .e (.call 20 [(.t 24), (.c (.int .i64 2500))]), none⟩, ⟨some 26, .q (.bin .add (.t 23) (.t 25)), none⟩, ⟨some 27, .q (.build [(.int .i64 0), (.int .i64 0), (.string ⟨#[]⟩)] [(0, 1, (.t 21)), (1, 1, (.t 26))]), none⟩, ⟨some 6, .a (.new [(.int .i64 0), (.int .i64 0), (.string ⟨#[]⟩)]), none⟩, ⟨none, .e (.st 3 (.t 6) (.t 27)), none⟩]
def c22_12 : List SOper := [⟨some 28, .q (.mv (.t 0)), none⟩, ⟨some 29, .e (.call 20 [(.t 28), (.c (.int .i64 5))]), none⟩, ⟨some 30, .q (.bin .add (.c (.int .i64 1)) (.t 29)), none⟩, ⟨some 7, .q (.mv (.t 30)), none⟩]
def c22_13 : List SOper := [⟨some 31, .q (.mv (.t 7)), none⟩, ⟨some 32, .q (.bin .gtr (.t 31) (.c (.int .i64 0))), none⟩]
def c22_14 : SCode := .cond (.t 32) .skip (.exit 2)
def c22_15 : SCode := .seq (.region c22_13 [0, 3, 5, 6, 7, 32]) c22_14
def c22_16 : List DOper := [⟨0, ⟨some 35, .q (.fa 2 (.t 6)), none⟩, [], []⟩, ⟨1, ⟨some 36, .q (.ld (.t 35)), none⟩, [], []⟩, ⟨2, ⟨some 37, .a (.bsl 8 1 [(.string ⟨#[]⟩), (.string ⟨#[]⟩), (.string ⟨#[]⟩), (.string ⟨#[]⟩), (.string ⟨#[]⟩), (.string ⟨#[]⟩), (.string ⟨#[]⟩), (.string ⟨#[]⟩)] [(0, 1, (.c (.string ⟨#[87, 97, 115, 63]⟩))), (1, 1, (.c (.string ⟨#[101, 105, 110, 32]⟩))), (2, 1, (.c (.string ⟨#[87, 111, 114, 116]⟩))), (3, 1, (.c (.string ⟨#[195, 169, 116, 195, 169]⟩))), (4, 1, (.c (.string ⟨#[49, 10, 50]⟩))), (5, 1, (.c (.string ⟨#[45, 45, 62]⟩))), (6, 1, (.c (.string ⟨#[120, 10, 121]⟩))), (7, 1, (.c (.string ⟨#[255]⟩)))]), none⟩, [], []⟩, ⟨3, ⟨some 38, .q (.mv (.t 0)), none⟩, [], []⟩, ⟨4, ⟨some 39, .e (.call 20 [(.t 38), (.c (.int .i64 8))]), none⟩, [], [1]⟩, ⟨5, ⟨some 40, .q (.ia 1 (.t 37) (.t 39)), none⟩, [], []⟩, ⟨6, ⟨some 41, .q (.ld (.t 40)), none⟩, [], []⟩, ⟨7, ⟨some 42, .q (.bin .add (.t 36) (.t 41)), none⟩, [], []⟩, ⟨8, ⟨some 43, .q (.fa 2 (.t 6)), none⟩, [], []⟩, ⟨9, ⟨none, .e (.st 1 (.t 43) (.t 42)), none⟩, [], []⟩]
def c22_17 : SCode := .block 3 (.dregion c22_16 [0, 3, 5, 6, 7])
def c22_18 : List SOper := [⟨some 33, .q (.mv (.t 7)), none⟩, ⟨some 34, .q (.bin .sub (.t 33) (.c (.int .i64 1))), none⟩, ⟨some 7, .q (.mv (.t 34)), none⟩]
def c22_19 : SCode := .seq c22_17 (.region c22_18 [0, 3, 5, 6, 7])
def c22_20 : SCode := .seq c22_15 c22_19
def c22_21 : SCode := .loop c22_20
def c22_22 : SCode := .block 2 c22_21
def c22_23 : SCode := .seq (.region c22_12 [0, 3, 5, 6, 7]) c22_22
def c22_24 : List SOper := [⟨some 44, .q (.mv (.t 3)), none⟩, ⟨some 45, .q (.ldn 3 (.t 6)), none⟩, ⟨some 46, .a (.bsl 1 3 [(.int .i64 0), (.int .i64 0), (.string ⟨#[]⟩)] [(0, 3, (.t 45))]), none⟩, ⟨some 47, .e (.app 32 3 (.t 44) (.t 46)), none⟩, ⟨some 3, .q (.mv (.t 47)), none⟩]
def c22_25 : List DOper := [⟨0, ⟨some 48, .q (.fa 1 (.t 6)), none⟩, [], []⟩, ⟨1, ⟨some 49, .q (.ld (.t 48)), none⟩, [], []⟩, ⟨2, ⟨some 50, .q (.mv (.t 0)), none⟩, [], []⟩, ⟨3, ⟨some 51, .e (.call 20 [(.t 50), (.c (.int .i64 200))]), none⟩, [], [1]⟩, ⟨4, ⟨some 52, .q (.bin .add (.t 49) (.t 51)), none⟩, [], []⟩, ⟨5, ⟨some 4, .q (.mv (.t 52)), none⟩, [], []⟩]
def c22_26 : SCode := .seq (.region c22_24 [0, 3, 5, 6]) (.dregion c22_25 [0, 3, 4, 5])
def c22_27 : SCode := .seq c22_23 c22_26
def c22_28 : SCode := .seq (.region c22_11 [0, 3, 5, 6]) c22_27
def c22_29 : SCode := .block 1 c22_28
def c22_30 : List SOper := [⟨some 19, .q (.mv (.t 5)), none⟩, ⟨some 20, .q (.bin .sub (.t 19) (.c (.int .i64 1))), none⟩, ⟨some 5, .q (.mv (.t 20)), none⟩]
def c22_31 : SCode := .seq c22_29 (.region c22_30 [0, 3, 4, 5])
def c22_32 : SCode := .seq c22_10 c22_31
def c22_33 : SCode := .loop c22_32
def c22_34 : SCode := .block 0 c22_33
def c22_35 : SCode := .seq (.region c22_7 [0, 3, 4, 5]) c22_34
def c22_36 : List SOper := [⟨some 53, .q (.mv (.t 0)), none⟩, ⟨some 54, .e (.call 21 [(.t 53), (.c (.int .i64 14))]), none⟩, ⟨some 55, .q (.mv (.t 54)), none⟩, ⟨some 56, .q (.mv (.t 3)), some (55, true)⟩, ⟨some 57, .q (.len (.t 56)), some (55, true)⟩, ⟨some 58, .q (.bin .gtr (.t 57) (.c (.int .i64 0))), some (55, true)⟩, ⟨some 59, .q (.pick (.t 55) (.t 58) (.c (.bool false))), none⟩]
def c22_37 : List SOper := [⟨some 60, .q (.mv (.t 3)), none⟩, ⟨some 61, .q (.mv (.t 0)), none⟩, ⟨some 62, .q (.mv (.t 3)), none⟩, ⟨some 63, .q (.len (.t 62)), none⟩, ⟨some 64, .e (.call 20 [(.t 61), (.t 63)]), none⟩, ⟨some 65, .q (.ia 3 (.t 60) (.t 64)), none⟩, ⟨some 8, .q (.mv (.t 65)), none⟩]
def c22_38 : List SOper := [⟨some 66, .q (.mv (.t 0)), none⟩, ⟨some 67, .e (.call 20 [(.t 66), (.c (.int .i64 3))]), none⟩]
def c22_39 : List SOper := [⟨some 69, .q (.bin .eql (.t 67) (.c (.int .i64 0))), none⟩, ⟨some 68, .q (.mv (.t 69)), none⟩]
def c22_40 : List SOper := [⟨some 70, .q (.mv (.t 8)), none⟩, ⟨some 71, .a (.bsl 7 1 [(.string ⟨#[]⟩), (.string ⟨#[]⟩), (.string ⟨#[]⟩), (.string ⟨#[]⟩), (.string ⟨#[]⟩), (.string ⟨#[]⟩), (.string ⟨#[]⟩)] [(0, 1, (.c (.string ⟨#[]⟩))), (1, 1, (.c (.string ⟨#[10]⟩))), (2, 1, (.c (.string ⟨#[97, 10, 10, 98]⟩))), (3, 1, (.c (.string ⟨#[97, 10]⟩))), (4, 1, (.c (.string ⟨#[127]⟩))), (5, 1, (.c (.string ⟨#[97, 9, 98]⟩))), (6, 1, (.c (.string ⟨#[111, 107]⟩)))]), none⟩, ⟨some 72, .q (.mv (.t 0)), none⟩, ⟨some 73, .e (.call 20 [(.t 72), (.c (.int .i64 7))]), none⟩, ⟨some 74, .q (.ia 1 (.t 71) (.t 73)), none⟩, ⟨some 75, .q (.ld (.t 74)), none⟩, ⟨some 76, .q (.nil (.t 70)), none⟩, ⟨some 77, .q (.fa 2 (.t 76)), none⟩, ⟨none, .e (.st 1 (.t 77) (.t 75)), none⟩]
def c22_41 : List SOper := [⟨some 79, .q (.bin .eql (.t 67) (.c (.int .i64 1))), none⟩, ⟨some 78, .q (.mv (.t 79)), none⟩]
def c22_42 : List DOper := [⟨0, ⟨some 80, .q (.mv (.t 8)), none⟩, [], []⟩, ⟨1, ⟨some 81, .q (.mv (.t 8)), none⟩, [], []⟩, ⟨2, ⟨some 82, .q (.nil (.t 81)), none⟩, [], []⟩, ⟨3, ⟨some 83, .q (.fa 1 (.t 82)), none⟩, [], []⟩, ⟨4, ⟨some 84, .q (.ld (.t 83)), none⟩, [], []⟩, ⟨5, ⟨some 85, .a (.bsl 3 1 [(.int .i64 0), (.int .i64 0), (.int .i64 0)] [(0, 1, (.c (.int .i64 (-1)))), (1, 1, (.t 84)), (2, 1, (.c (.int .i64 0)))]), none⟩, [], []⟩, ⟨6, ⟨some 86, .q (.mv (.t 0)), none⟩, [], []⟩, ⟨7, ⟨some 87, .e (.call 20 [(.t 86), (.c (.int .i64 3))]), none⟩, [], [4]⟩, ⟨8, ⟨some 88, .q (.ia 1 (.t 85) (.t 87)), none⟩, [], []⟩, ⟨9, ⟨some 89, .q (.ld (.t 88)), none⟩, [], []⟩, ⟨10, ⟨some 90, .q (.nil (.t 80)), none⟩, [], []⟩, ⟨11, ⟨some 91, .q (.fa 0 (.t 90)), none⟩, [], []⟩, ⟨12, ⟨none, .e (.st 1 (.t 91) (.t 89)), none⟩, [], []⟩]
def c22_43 : List SOper := [⟨some 93, .q (.bin .eql (.t 67) (.c (.int .i64 2))), none⟩, ⟨some 92, .q (.mv (.t 93)), none⟩]
def c22_44 : List DOper := [⟨0, ⟨some 94, .q (.mv (.t 8)), none⟩, [], []⟩, ⟨1, ⟨some 95, .q (.mv (.t 8)), none⟩, [], []⟩, ⟨2, ⟨some 96, .q (.nil (.t 95)), none⟩, [], []⟩, ⟨3, ⟨some 97, .q (.fa 0 (.t 96)), none⟩, [], []⟩, ⟨4, ⟨some 98, .q (.ld (.t 97)), none⟩, [], []⟩, ⟨5, ⟨some 99, .a (.bsl 3 1 [(.int .i64 0), (.int .i64 0), (.int .i64 0)] [(0, 1, (.c (.int .i64 359999999))), (1, 1, (.c (.int .i64 360000000))), (2, 1, (.t 98))]), none⟩, [], []⟩, ⟨6, ⟨some 100, .q (.mv (.t 0)), none⟩, [], []⟩, ⟨7, ⟨some 101, .e (.call 20 [(.t 100), (.c (.int .i64 3))]), none⟩, [], [4]⟩, ⟨8, ⟨some 102, .q (.ia 1 (.t 99) (.t 101)), none⟩, [], []⟩, ⟨9, ⟨some 103, .q (.ld (.t 102)), none⟩, [], []⟩, ⟨10, ⟨some 104, .q (.nil (.t 94)), none⟩, [], []⟩, ⟨11, ⟨some 105, .q (.fa 1 (.t 104)), none⟩, [], []⟩, ⟨12, ⟨none, .e (.st 1 (.t 105) (.t 103)), none⟩, [], []⟩]
def c22_45 : SCode := .cond (.t 92) (.dregion c22_44 [0, 3]) .skip
def c22_46 : SCode := .seq (.region c22_43 [0, 3, 8, 92]) c22_45
def c22_47 : SCode := .cond (.t 78) (.dregion c22_42 [0, 3]) c22_46
def c22_48 : SCode := .seq (.region c22_41 [0, 3, 8, 67, 78]) c22_47
def c22_49 : SCode := .cond (.t 68) (.region c22_40 [0, 3]) c22_48
def c22_50 : SCode := .seq (.region c22_39 [0, 3, 8, 67, 68]) c22_49
def c22_51 : SCode := .block 4 c22_50
def c22_52 : SCode := .seq (.region c22_38 [0, 3, 8, 67]) c22_51
def c22_53 : SCode := .seq (.region c22_37 [0, 3, 8]) c22_52
def c22_54 : SCode := .cond (.t 59) c22_53 .skip
def c22_55 : SCode := .seq (.region c22_36 [0, 3, 59]) c22_54
def c22_56 : List SOper := [⟨some 106, .q (.mv (.t 0)), none⟩, ⟨some 107, .e (.call 21 [(.t 106), (.c (.int .i64 60))]), none⟩]
def c22_57 : List SOper := [⟨some 108, .a (.bsl 0 3 [] []), none⟩, ⟨some 3, .q (.mv (.t 108)), none⟩]
def c22_58 : List SOper := [⟨some 9, .q (.mv (.c (.int .i64 0))), none⟩]
def c22_59 : List SOper := [⟨some 109, .q (.mv (.t 9)), none⟩, ⟨some 110, .q (.mv (.t 0)), none⟩, ⟨some 111, .e (.call 20 [(.t 110), (.c (.int .i64 2))]), none⟩, ⟨some 112, .q (.bin .add (.c (.int .i64 200)) (.t 111)), none⟩, ⟨some 113, .q (.bin .lss (.t 109) (.t 112)), none⟩]
def c22_60 : SCode := .cond (.t 113) .skip (.exit 5)
def c22_61 : SCode := .seq (.region c22_59 [0, 3, 9, 113]) c22_60
def c22_62 : List SOper := [⟨some 116, .q (.mv (.t 3)), none⟩, ⟨some 117, .q (.mv (.t 9)), none⟩, ⟨some 118, .q (.bin .mul (.t 117) (.c (.int .i64 10))), none⟩, ⟨some 119, .q (.mv (.t 9)), none⟩, ⟨some 120, .q (.bin .mul (.t 119) (.c (.int .i64 10))), none⟩, ⟨some 121, .q (.bin .add (.t 120) (.c (.int .i64 10))), none⟩, ⟨some 122, .q (.build [(.int .i64 0), (.int .i64 0), (.string ⟨#[]⟩)] [(0, 1, (.t 118)), (1, 1, (.t 121)), (2, 1, (.c (.string ⟨#[116]⟩)))]), none⟩, ⟨some 123, .a (.bsl 1 3 [(.int .i64 0), (.int .i64 0), (.string ⟨#[]⟩)] [(0, 3, (.t 122))]), none⟩, ⟨some 124, .e (.app 32 3 (.t 116) (.t 123)), none⟩, ⟨some 3, .q (.mv (.t 124)), none⟩]
def c22_63 : SCode := .block 6 (.region c22_62 [0, 3, 9])
def c22_64 : List SOper := [⟨some 114, .q (.mv (.t 9)), none⟩, ⟨some 115, .q (.bin .add (.t 114) (.c (.int .i64 1))), none⟩, ⟨some 9, .q (.mv (.t 115)), none⟩]
def c22_65 : SCode := .seq c22_63 (.region c22_64 [0, 3, 9])
def c22_66 : SCode := .seq c22_61 c22_65
def c22_67 : SCode := .loop c22_66
def c22_68 : SCode := .block 5 c22_67
def c22_69 : SCode := .seq (.region c22_58 [0, 3, 9]) c22_68
def c22_70 : SCode := .seq (.region c22_57 [0, 3]) c22_69
def c22_71 : SCode := .cond (.t 107) c22_70 .skip
def c22_72 : SCode := .seq (.region c22_56 [0, 3, 107]) c22_71
def c22_73 : List SOper := [⟨some 125, .q (.mv (.t 3)), none⟩, ⟨some 2, .q (.mv (.t 125)), none⟩]
def c22_74 : SCode := .seq (.region c22_73 [2]) .ret
def c22_75 : SCode := .seq c22_72 c22_74
def c22_76 : SCode := .seq c22_55 c22_75
def c22_77 : SCode := .seq c22_35 c22_76
def c22_78 : SCode := .seq c22_6 c22_77
def c22_79 : SCode := .seq (.region c22_2 [0, 3, 4]) c22_78
def c22_80 : SCode := .seq (.region c22_1 [0, 3]) c22_79
def c22_81 : SCode := .seq (.region c22_0 [0]) c22_80
def c22 : SCode := c22_81
theorem w22 : type_of% (And.intro (uR Tryd.prog c22_0.eq_1) (And.intro (uR Tryd.prog c22_1.eq_1) (And.intro (uR Tryd.prog c22_2.eq_1) (And.intro (uR Tryd.prog c22_3.eq_1) (And.intro (uR Tryd.prog c22_4.eq_1) (And.intro (uC Tryd.prog c22_5.eq_1) (And.intro (uC Tryd.prog c22_6.eq_1) (And.intro (uR Tryd.prog c22_7.eq_1) (And.intro (uR Tryd.prog c22_8.eq_1) (And.intro (uC Tryd.prog c22_9.eq_1) (And.intro (uC Tryd.prog c22_10.eq_1) (And.intro (uR Tryd.prog c22_11.eq_1) (And.intro (uR Tryd.prog c22_12.eq_1) (And.intro (uR Tryd.prog c22_13.eq_1) (And.intro (uC Tryd.prog c22_14.eq_1) (And.intro (uC Tryd.prog c22_15.eq_1) (And.intro (uD Tryd.prog c22_16.eq_1) (And.intro (uC Tryd.prog c22_17.eq_1) (And.intro (uR Tryd.prog c22_18.eq_1) (And.intro (uC Tryd.prog c22_19.eq_1) (And.intro (uC Tryd.prog c22_20.eq_1) (And.intro (uC Tryd.prog c22_21.eq_1) (And.intro (uC Tryd.prog c22_22.eq_1) (And.intro (uC Tryd.prog c22_23.eq_1) (And.intro (uR Tryd.prog c22_24.eq_1) (And.intro (uD Tryd.prog c22_25.eq_1) (And.intro (uC Tryd.prog c22_26.eq_1) (And.intro (uC Tryd.prog c22_27.eq_1) (And.intro (uC Tryd.prog c22_28.eq_1) (And.intro (uC Tryd.prog c22_29.eq_1) (And.intro (uR Tryd.prog c22_30.eq_1) (And.intro (uC Tryd.prog c22_31.eq_1) (And.intro (uC Tryd.prog c22_32.eq_1) (And.intro (uC Tryd.prog c22_33.eq_1) (And.intro (uC Tryd.prog c22_34.eq_1) (And.intro (uC Tryd.prog c22_35.eq_1) (And.intro (uR Tryd.prog c22_36.eq_1) (And.intro (uR Tryd.prog c22_37.eq_1) (And.intro (uR Tryd.prog c22_38.eq_1) (And.intro (uR Tryd.prog c22_39.eq_1) (And.intro (uR Tryd.prog c22_40.eq_1) (And.intro (uR Tryd.prog c22_41.eq_1) (And.intro (uD Tryd.prog c22_42.eq_1) (And.intro (uR Tryd.prog c22_43.eq_1) (And.intro (uD Tryd.prog c22_44.eq_1) (And.intro (uC Tryd.prog c22_45.eq_1) (And.intro (uC Tryd.prog c22_46.eq_1) (And.intro (uC Tryd.prog c22_47.eq_1) (And.intro (uC Tryd.prog c22_48.eq_1) (And.intro (uC Tryd.prog c22_49.eq_1) (And.intro (uC Tryd.prog c22_50.eq_1) (And.intro (uC Tryd.prog c22_51.eq_1) (And.intro (uC Tryd.prog c22_52.eq_1) (And.intro (uC Tryd.prog c22_53.eq_1) (And.intro (uC Tryd.prog c22_54.eq_1) (And.intro (uC Tryd.prog c22_55.eq_1) (And.intro (uR Tryd.prog c22_56.eq_1) (And.intro (uR Tryd.prog c22_57.eq_1) (And.intro (uR Tryd.prog c22_58.eq_1) (And.intro (uR Tryd.prog c22_59.eq_1) (And.intro (uC Tryd.prog c22_60.eq_1) (And.intro (uC Tryd.prog c22_61.eq_1) (And.intro (uR Tryd.prog c22_62.eq_1) (And.intro (uC Tryd.prog c22_63.eq_1) (And.intro (uR Tryd.prog c22_64.eq_1) (And.intro (uC Tryd.prog c22_65.eq_1) (And.intro (uC Tryd.prog c22_66.eq_1) (And.intro (uC Tryd.prog c22_67.eq_1) (And.intro (uC Tryd.prog c22_68.eq_1) (And.intro (uC Tryd.prog c22_69.eq_1) (And.intro (uC Tryd.prog c22_70.eq_1) (And.intro (uC Tryd.prog c22_71.eq_1) (And.intro (uC Tryd.prog c22_72.eq_1) (And.intro (uR Tryd.prog c22_73.eq_1) (And.intro (uC Tryd.prog c22_74.eq_1) (And.intro (uC Tryd.prog c22_75.eq_1) (And.intro (uC Tryd.prog c22_76.eq_1) (And.intro (uC Tryd.prog c22_77.eq_1) (And.intro (uC Tryd.prog c22_78.eq_1) (And.intro (uC Tryd.prog c22_79.eq_1) (And.intro (uC Tryd.prog c22_80.eq_1) (And.intro (uC Tryd.prog c22_81.eq_1) (uC Tryd.prog c22.eq_1))))))))))))))))))))))))))))))))))))))))))))))))))))))))))))))))))))))))))))))))))) := (And.intro (uR Tryd.prog c22_0.eq_1) (And.intro (uR Tryd.prog c22_1.eq_1) (And.intro (uR Tryd.prog c22_2.eq_1) (And.intro (uR Tryd.prog c22_3.eq_1) (And.intro (uR Tryd.prog c22_4.eq_1) (And.intro (uC Tryd.prog c22_5.eq_1) (And.intro (uC Tryd.prog c22_6.eq_1) (And.intro (uR Tryd.prog c22_7.eq_1) (And.intro (uR Tryd.prog c22_8.eq_1) (And.intro (uC Tryd.prog c22_9.eq_1) (And.intro (uC Tryd.prog c22_10.eq_1) (And.intro (uR Tryd.prog c22_11.eq_1) (And.intro (uR Tryd.prog c22_12.eq_1) (And.intro (uR Tryd.prog c22_13.eq_1) (And.intro (uC Tryd.prog c22_14.eq_1) (And.intro (uC Tryd.prog c22_15.eq_1) (And.intro (uD Tryd.prog c22_16.eq_1) (And.intro (uC Tryd.prog c22_17.eq_1) (And.intro (uR Tryd.prog c22_18.eq_1) (And.intro (uC Tryd.prog c22_19.eq_1) (And.intro (uC Tryd.prog c22_20.eq_1) (And.intro (uC Tryd.prog c22_21.eq_1) (And.intro (uC Tryd.prog c22_22.eq_1) (And.intro (uC Tryd.prog c22_23.eq_1) (And.intro (uR Tryd.prog c22_24.eq_1) (And.intro (uD Tryd.prog c22_25.eq_1) (And.intro (uC Tryd.prog c22_26.eq_1) (And.intro (uC Tryd.prog c22_27.eq_1) (And.intro (uC Tryd.prog c22_28.eq_1) (And.intro (uC Tryd.prog c22_29.eq_1) (And.intro (uR Tryd.prog c22_30.eq_1) (And.intro (uC Tryd.prog c22_31.eq_1) (And.intro (uC Tryd.prog c22_32.eq_1) (And.intro (uC Tryd.prog c22_33.eq_1) (And.intro (uC Tryd.prog c22_34.eq_1) (And.intro (uC Tryd.prog c22_35.eq_1) (And.intro (uR Tryd.prog c22_36.eq_1) (And.intro (uR Tryd.prog c22_37.eq_1) (And.intro (uR Tryd.prog c22_38.eq_1) (And.intro (uR Tryd.prog c22_39.eq_1) (And.intro (uR Tryd.prog c22_40.eq_1) (And.intro (uR Tryd.prog c22_41.eq_1) (And.intro (uD Tryd.prog c22_42.eq_1) (And.intro (uR Tryd.prog c22_43.eq_1) (And.intro (uD Tryd.prog c22_44.eq_1) (And.intro (uC Tryd.prog c22_45.eq_1) (And.intro (uC Tryd.prog c22_46.eq_1) (And.intro (uC Tryd.prog c22_47.eq_1) (And.intro (uC Tryd.prog c22_48.eq_1) (And.intro (uC Tryd.prog c22_49.eq_1) (And.intro (uC Tryd.prog c22_50.eq_1) (And.intro (uC Tryd.prog c22_51.eq_1) (And.intro (uC Tryd.prog c22_52.eq_1) (And.intro (uC Tryd.prog c22_53.eq_1) (And.intro (uC Tryd.prog c22_54.eq_1) (And.intro (uC Tryd.prog c22_55.eq_1) (And.intro (uR Tryd.prog c22_56.eq_1) (And.intro (uR Tryd.prog c22_57.eq_1) (And.intro (uR Tryd.prog c22_58.eq_1) (And.intro (uR Tryd.prog c22_59.eq_1) (And.intro (uC Tryd.prog c22_60.eq_1) (And.intro (uC Tryd.prog c22_61.eq_1) (And.intro (uR Tryd.prog c22_62.eq_1) (And.intro (uC Tryd.prog c22_63.eq_1) (And.intro (uR Tryd.prog c22_64.eq_1) (And.intro (uC Tryd.prog c22_65.eq_1) (And.intro (uC Tryd.prog c22_66.eq_1) (And.intro (uC Tryd.prog c22_67.eq_1) (And.intro (uC Tryd.prog c22_68.eq_1) (And.intro (uC Tryd.prog c22_69.eq_1) (And.intro (uC Tryd.prog c22_70.eq_1) (And.intro (uC Tryd.prog c22_71.eq_1) (And.intro (uC Tryd.prog c22_72.eq_1) (And.intro (uR Tryd.prog c22_73.eq_1) (And.intro (uC Tryd.prog c22_74.eq_1) (And.intro (uC Tryd.prog c22_75.eq_1) (And.intro (uC Tryd.prog c22_76.eq_1) (And.intro (uC Tryd.prog c22_77.eq_1) (And.intro (uC Tryd.prog c22_78.eq_1) (And.intro (uC Tryd.prog c22_79.eq_1) (And.intro (uC Tryd.prog c22_80.eq_1) (And.intro (uC Tryd.prog c22_81.eq_1) (uC Tryd.prog c22.eq_1)))))))))))))))))))))))))))))))))))))))))))))))))))))))))))))))))))))))))))))))))))
def v22 : List RV := [.t 2]
theorem s22 : slimF Tryd.prog Tryd.f22 = some (c22.bare, v22) := by kernel_rfl

theorem curStep {h h' : Heap} {c i : Nat} (k : Cur h c) (g : ExtG i h h') (hi : c < i) : Cur h' c := by
  obtain ⟨h0, bv, code, pos, hh, k1, k2, k3, k4, k5, k6⟩ := k
  exact ⟨h0, bv, code, pos, hh, k1, g.ext k2 (by omega), k3, k4, k5, k6.step g (by omega)⟩
theorem slt_nilp {α : Type} {enc : α → List Value} {sz : Nat} {h : Heap} {v : Value} {l : List α} (s : SlT h enc sz v l) (hl : 0 < l.length) (o : Nat) : nilV (ptrAt v o) = some (ptrAt v o) := by
  have h1 := flat_len s.hs l
  have h2 : 0 < l.length * sz := Nat.mul_pos hl s.pos
  rcases s.sl with ⟨rfl, h3⟩ | ⟨rfl, h3⟩ | ⟨i, o', n, ob, rfl, _⟩
  · rw [h3] at h1; simp at h1; omega
  · rw [h3] at h1; simp at h1; omega
  · rfl
theorem pick_strs {H H' : Heap} {c : Nat} {vs : List ByteArray} {z : Int} (b : Bx H' H.size (vs.map .string)) (hz : 0 ≤ z) (hlt : z < vs.length) (ha : (vs.all fun s => decide (s.size ≤ 5)) = true) :
    ∃ s : ByteArray, ldV H' (.pointer (some ⟨H.size, z.toNat, none⟩)) = some (.string s) ∧ s.size ≤ 5 := by
  have hn : z.toNat < vs.length := by omega
  refine ⟨vs[z.toNat], ?_, ?_⟩
  · rw [b.ld.1, List.getElem?_map, List.getElem?_eq_getElem hn]; rfl
  · have := List.all_eq_true.mp ha _ (List.getElem_mem hn)
    simpa using this
def smallT (l : List Title) : Prop := ∀ t ∈ l, t.tx.size ≤ 25
theorem smallT.app {l : List Title} {t : Title} (h : smallT l) (ht : t.tx.size ≤ 25) : smallT (l ++ [t]) := by
  intro x hx
  rcases List.mem_append.mp hx with hx | hx
  · exact h x hx
  · rw [List.mem_singleton] at hx; rw [hx]; exact ht
theorem cells_strv (s : ByteArray) : (Value.string s).cells = #[.string s] := rfl
def drawWords : List ByteArray := [⟨#[87, 97, 115, 63]⟩, ⟨#[101, 105, 110, 32]⟩, ⟨#[87, 111, 114, 116]⟩, ⟨#[195, 169, 116, 195, 169]⟩, ⟨#[49, 10, 50]⟩, ⟨#[45, 45, 62]⟩, ⟨#[120, 10, 121]⟩, ⟨#[255]⟩]
def drawBad : List ByteArray := [⟨#[]⟩, ⟨#[10]⟩, ⟨#[97, 10, 10, 98]⟩, ⟨#[97, 10]⟩, ⟨#[127]⟩, ⟨#[97, 9, 98]⟩, ⟨#[111, 107]⟩]
theorem smallT.set {l : List Title} {t : Title} (h : smallT l) (i : Nat) (ht : t.tx.size ≤ 25) : smallT (l.set i t) := by
  intro x hx
  rcases List.mem_or_eq_of_mem_set hx with hx | rfl
  · exact h x hx
  · exact ht
theorem DrawTitles_last (h : Heap) (c : Nat) (hc : c < h.size) {K : Heap} {ov : Value} {l : List Title} (r : Env) (F : Fk [c] h K encTitle 3 ov l []) (k : Cur K c) (hl : l.length ≤ 300) (hs : smallT l) :
    SW Tryd.prog c22_75 (retQ v22 fun r h' => ∃ l : List Title, Fk [c] h h' encTitle 3 r l [] ∧ Cur h' c ∧ l.length ≤ 300 ∧ smallT l) ((0, .pointer (some ⟨c, 0, none⟩)) :: (3, ov) :: r) K := by
  skip
  have hm : c ∈ [c] := by simp
  simp (maxSteps := 4000000) (disch := omega) only [ah, am, Nat.reduceEqDiff, reduceCtorEq, Nat.reduceAdd, Nat.reduceLeDiff, Nat.reduceMul, Nat.reduceLT, if_true, if_false, true_and, and_true, and_self, Nat.reduceBEq, QOp.loads, boxO, bslO, buildO, cutL, fillV, putL, w22, v22]
  refine stepC.of (l1Once_ok _ _ _ k) ?_
  rintro _ K2 ⟨b, rfl, g2, k2⟩
  have F2 := F.stepG g2 hm hc
  cases b with
  | false =>
    simp (maxSteps := 4000000) (disch := omega) only [ah, am, Nat.reduceEqDiff, reduceCtorEq, Nat.reduceAdd, Nat.reduceLeDiff, Nat.reduceMul, Nat.reduceLT, if_true, if_false, true_and, and_true, and_self, Nat.reduceBEq, QOp.loads, boxO, bslO, buildO, cutL, fillV, putL, w22, v22]
    exact ⟨l, F2, k2, hl, hs⟩
  | true =>
    simp (maxSteps := 4000000) (disch := omega) only [ah, am, Nat.reduceEqDiff, reduceCtorEq, Nat.reduceAdd, Nat.reduceLeDiff, Nat.reduceMul, Nat.reduceLT, if_true, if_false, true_and, and_true, and_self, Nat.reduceBEq, QOp.loads, boxO, bslO, buildO, cutL, fillV, putL, w22, v22]
    refine SW_loop_up (fun i E K => ∃ ov l, E = [(0, .pointer (some ⟨c, 0, none⟩)), (3, ov), (9, .int .i64 (i : Int))] ∧ Fk [c] h K encTitle 3 ov l [] ∧ Cur K c ∧ l.length = i ∧ smallT l) 201 0 (by omega)
      ⟨_, [], rfl, (Fk.of (Fresh.new0 K2 encTitle_len (by omega))).mono F2.ext, k2.ext (Ext.more _ _), rfl, fun _ q => by cases q⟩ ?_
    clear F2 k2 g2 F k hs hl
    rintro i E K hi ⟨ov, l, rfl, F, k, hl, hs⟩
    simp (maxSteps := 4000000) (disch := omega) only [ah, am, Nat.reduceEqDiff, reduceCtorEq, Nat.reduceAdd, Nat.reduceLeDiff, Nat.reduceMul, Nat.reduceLT, if_true, if_false, true_and, and_true, and_self, Nat.reduceBEq, QOp.loads, boxO, bslO, buildO, cutL, fillV, putL, w22, v22]
    refine stepC.of (l1Below_ok _ _ _ k) ?_
    rintro _ K3 ⟨x, rfl, x1, x2, _, g3, k3⟩
    have x3 : x < 2 := x2 (by omega)
    have F3 := F.stepG g3 hm hc
    have wx : IntKind.i64.wrap (200 + x) = 200 + x := i64e (by omega) (by omega)
    have wi : IntKind.i64.wrap ((i : Int) + 1) = ((i + 1 : Nat) : Int) := i64e (by omega) (by omega)
    simp (maxSteps := 4000000) (disch := omega) only [ah, am, Nat.reduceEqDiff, reduceCtorEq, Nat.reduceAdd, Nat.reduceLeDiff, Nat.reduceMul, Nat.reduceLT, if_true, if_false, true_and, and_true, and_self, Nat.reduceBEq, QOp.loads, boxO, bslO, buildO, cutL, fillV, putL, w22, v22, wx]
    refine stepI.split (fun hp => ?_) (fun hp => ?_)
    · obtain ⟨a, ha⟩ : ∃ a, a = IntKind.i64.wrap ((i : Int) * 10) := ⟨_, rfl⟩
      obtain ⟨a2, ha2⟩ : ∃ a2, a2 = IntKind.i64.wrap (a + 10) := ⟨_, rfl⟩
      obtain ⟨v2, K4, ap, F4, g, hg, G⟩ := F3.app1g [] (⟨a, a2, ⟨#[116]⟩⟩ : Title) (bytes := 32) (by omega)
      simp only [boxesAt, List.cons_append, List.append_nil, List.nil_append, List.length_nil, List.length_cons, Nat.zero_add, Nat.add_zero, encTitle] at ap G F4
      simp (maxSteps := 4000000) (disch := omega) only [ah, am, Nat.reduceEqDiff, reduceCtorEq, Nat.reduceAdd, Nat.reduceLeDiff, Nat.reduceMul, Nat.reduceLT, if_true, if_false, true_and, and_true, and_self, Nat.reduceBEq, QOp.loads, boxO, bslO, buildO, cutL, fillV, putL, w22, v22, ← ha, ← ha2, ap, wi]
      exact ⟨by omega, _, _, rfl, F4, curStep (k3.ext (Ext.more _ _)) G (by omega), by simp; omega, hs.app (show (⟨#[116]⟩ : ByteArray).size ≤ 25 by decide)⟩
    · simp (maxSteps := 4000000) (disch := omega) only [ah, am, Nat.reduceEqDiff, reduceCtorEq, Nat.reduceAdd, Nat.reduceLeDiff, Nat.reduceMul, Nat.reduceLT, if_true, if_false, true_and, and_true, and_self, Nat.reduceBEq, QOp.loads, boxO, bslO, buildO, cutL, fillV, putL, w22, v22]
      exact ⟨l, F3, k3, by omega, hs⟩
theorem l12DrawTitles_ok (h : Heap) (c : Nat) (k : Cur h c) : ACall Tryd.prog 22 [.pointer (some ⟨c, 0, none⟩)] h fun r h' => ∃ l : List Title, Fk [c] h h' encTitle 3 r l [] ∧ Cur h' c ∧ l.length ≤ 300 ∧ smallT l := by
  refine ACall.of Tryd.func22 s22 (of_decide_eq_true rfl) ?_
  have hc := k.lt
  have hm : c ∈ [c] := by simp
  simp (maxSteps := 4000000) (disch := omega) only [ah, am, Nat.reduceEqDiff, reduceCtorEq, Nat.reduceAdd, Nat.reduceLeDiff, Nat.reduceMul, Nat.reduceLT, if_true, if_false, true_and, and_true, and_self, Nat.reduceBEq, QOp.loads, boxO, bslO, buildO, cutL, fillV, putL, w22, v22]
  refine stepC.of (l1Below_ok _ _ _ (k.ext (Ext.more h [[]]))) ?_
  rintro _ H1 ⟨t0, rfl, _, _, _, g1, k1⟩
  have F1 : Fk [c] h H1 encTitle 3 (.slice (some ⟨h.size, 0, none⟩) 0 3) ([] : List Title) [] := (Fk.of (Fresh.new0 h encTitle_len (by omega))).stepG g1 hm hc
  simp (maxSteps := 4000000) (disch := omega) only [ah, am, Nat.reduceEqDiff, reduceCtorEq, Nat.reduceAdd, Nat.reduceLeDiff, Nat.reduceMul, Nat.reduceLT, if_true, if_false, true_and, and_true, and_self, Nat.reduceBEq, QOp.loads, boxO, bslO, buildO, cutL, fillV, putL, w22, v22]
  refine stepC.of (l1Once_ok _ _ _ k1) ?_
  rintro _ H2 ⟨b, rfl, g2, k2⟩
  have F2 := F1.stepG g2 hm hc
  simp (maxSteps := 4000000) (disch := omega) only [ah, am, Nat.reduceEqDiff, reduceCtorEq, Nat.reduceAdd, Nat.reduceLeDiff, Nat.reduceMul, Nat.reduceLT, if_true, if_false, true_and, and_true, and_self, Nat.reduceBEq, QOp.loads, boxO, bslO, buildO, cutL, fillV, putL, w22, v22]
  refine SW_if (fun E K => K = H2 ∧ ∃ (t : Int) (r : Env), E = (0, .pointer (some ⟨c, 0, none⟩)) :: (3, .slice (some ⟨h.size, 0, none⟩) 0 3) :: (4, .int .i64 t) :: r) (fun hb => ?_) (fun hb => ?_) ?_
  · simp (maxSteps := 4000000) (disch := omega) only [ah, am, Nat.reduceEqDiff, reduceCtorEq, Nat.reduceAdd, Nat.reduceLeDiff, Nat.reduceMul, Nat.reduceLT, if_true, if_false, true_and, and_true, and_self, Nat.reduceBEq, QOp.loads, boxO, bslO, buildO, cutL, fillV, putL, w22, v22]
    exact ⟨_, _, rfl⟩
  · exact ⟨rfl, _, _, rfl⟩
  rintro E K ⟨rfl, t, r, rfl⟩
  simp (maxSteps := 4000000) (disch := omega) only [ah, am, Nat.reduceEqDiff, reduceCtorEq, Nat.reduceAdd, Nat.reduceLeDiff, Nat.reduceMul, Nat.reduceLT, if_true, if_false, true_and, and_true, and_self, Nat.reduceBEq, QOp.loads, boxO, bslO, buildO, cutL, fillV, putL, w22, v22]
  refine stepC.of (l1Below_ok _ _ _ k2) ?_
  rintro _ H3 ⟨n0, rfl, n1, n2, _, g3, k3⟩
  have n3 : n0 < 6 := n2 (by omega)
  have F3 := F2.stepG g3 hm hc
  simp (maxSteps := 4000000) (disch := omega) only [ah, am, Nat.reduceEqDiff, reduceCtorEq, Nat.reduceAdd, Nat.reduceLeDiff, Nat.reduceMul, Nat.reduceLT, if_true, if_false, true_and, and_true, and_self, Nat.reduceBEq, QOp.loads, boxO, bslO, buildO, cutL, fillV, putL, w22, v22]
  refine SW_loop_up (fun i E K => ∃ ov l t, E = [(0, .pointer (some ⟨c, 0, none⟩)), (3, ov), (4, .int .i64 t), (5, .int .i64 (n0 - i))] ∧ Fk [c] h K encTitle 3 ov l [] ∧ Cur K c ∧ l.length ≤ i ∧ smallT l) n0.toNat 0 (by omega)
    ⟨_, [], t, by simp, F3, k3, by simp, fun _ q => by cases q⟩ ?_
  clear F1 F2 F3 k1 k2 k3 g1 g2 g3 k
  rintro i E K hi ⟨ov, l, t, rfl, F, kK, hl, hs⟩
  simp (maxSteps := 4000000) (disch := omega) only [ah, am, Nat.reduceEqDiff, reduceCtorEq, Nat.reduceAdd, Nat.reduceLeDiff, Nat.reduceMul, Nat.reduceLT, if_true, if_false, true_and, and_true, and_self, Nat.reduceBEq, QOp.loads, boxO, bslO, buildO, cutL, fillV, putL, w22, v22]
  refine stepI.split (fun hp => ?_) (fun hp => ?_)
  · simp (maxSteps := 4000000) (disch := omega) only [ah, am, Nat.reduceEqDiff, reduceCtorEq, Nat.reduceAdd, Nat.reduceLeDiff, Nat.reduceMul, Nat.reduceLT, if_true, if_false, true_and, and_true, and_self, Nat.reduceBEq, QOp.loads, boxO, bslO, buildO, cutL, fillV, putL, w22, v22]
    refine stepC.of (l1Below_ok _ _ _ kK) ?_
    rintro _ H4 ⟨d, rfl, _, _, _, g4, k4⟩
    have F4 := F.stepG g4 hm hc
    generalize hto : IntKind.i64.wrap (IntKind.i64.wrap (t + 1) + d) = to
    simp (maxSteps := 4000000) (disch := omega) only [ah, am, Nat.reduceEqDiff, reduceCtorEq, Nat.reduceAdd, Nat.reduceLeDiff, Nat.reduceMul, Nat.reduceLT, if_true, if_false, true_and, and_true, and_self, Nat.reduceBEq, QOp.loads, boxO, bslO, buildO, cutL, fillV, putL, w22, v22, hto]
    have F5 : Fk [c] h (H4.more [encTitle ⟨t, to, ⟨#[]⟩⟩]) encTitle 3 ov l [(H4.size, encTitle ⟨t, to, ⟨#[]⟩⟩)] := F4.more [encTitle ⟨t, to, ⟨#[]⟩⟩]
    refine stepC.of (l1Below_ok _ _ _ (k4.ext (Ext.more _ _))) ?_
    rintro _ H6 ⟨q0, rfl, q1, q2, _, g6, k6⟩
    have q3 : q0 < 5 := q2 (by omega)
    have F6 := F5.stepG g6 hm hc
    have wq : IntKind.i64.wrap (1 + q0) = 1 + q0 := i64e (by omega) (by omega)
    have hlt4 := k4.lt
    obtain ⟨bx, hbx⟩ : ∃ bx, bx = H4.size := ⟨_, rfl⟩
    rw [← hbx] at F6 ⊢
    simp (maxSteps := 4000000) (disch := omega) only [ah, am, Nat.reduceEqDiff, reduceCtorEq, Nat.reduceAdd, Nat.reduceLeDiff, Nat.reduceMul, Nat.reduceLT, if_true, if_false, true_and, and_true, and_self, Nat.reduceBEq, QOp.loads, boxO, bslO, buildO, cutL, fillV, putL, w22, v22, wq]
    refine SW_loop_up (fun j E K => ∃ tx : ByteArray, E = [(0, .pointer (some ⟨c, 0, none⟩)), (3, ov), (5, .int .i64 (n0 - i)), (6, .pointer (some ⟨bx, 0, none⟩)), (7, .int .i64 (1 + q0 - j))] ∧ Fk [c] h K encTitle 3 ov l [(bx, encTitle ⟨t, to, tx⟩)] ∧ Cur K c ∧ tx.size ≤ 5 * j) (1 + q0).toNat 0 (by omega)
      ⟨⟨#[]⟩, by simp, F6, k6, by decide⟩ ?_
    clear F4 F5 F6 k4 k6 g4 g6 F kK
    rintro j E K hj ⟨tx, rfl, F, kK, htx⟩
    have hcK := kK.lt
    simp (maxSteps := 4000000) (disch := omega) only [ah, am, Nat.reduceEqDiff, reduceCtorEq, Nat.reduceAdd, Nat.reduceLeDiff, Nat.reduceMul, Nat.reduceLT, if_true, if_false, true_and, and_true, and_self, Nat.reduceBEq, QOp.loads, boxO, bslO, buildO, cutL, fillV, putL, w22, v22]
    refine stepI.split (fun hq => ?_) (fun hq => ?_)
    · have wj : IntKind.i64.wrap (1 + q0 - (j : Int) - 1) = 1 + q0 - ((j + 1 : Nat) : Int) := i64e (by omega) (by omega)
      have D := F.ld (i := bx) (cs := encTitle ⟨t, to, tx⟩) (by simp)
      simp only [encTitle] at D
      have F7 := F.more [drawWords.map .string]
      simp only [boxesAt, List.cons_append, List.nil_append, List.append_nil] at F7
      have hbK : bx ≠ K.size := by have := Heap.get_lt (F.box (bx, encTitle ⟨t, to, tx⟩) (by simp)).2; simp only at this; omega
      have b8 := l1Below_ok (K.more [drawWords.map .string]) c 8 (kK.ext (Ext.more _ _))
      simp only [drawWords, List.map_cons, List.map_nil] at b8
      simp (maxSteps := 4000000) (disch := omega) only [ah, am, Nat.reduceEqDiff, reduceCtorEq, Nat.reduceAdd, Nat.reduceLeDiff, Nat.reduceMul, Nat.reduceLT, if_true, if_false, true_and, and_true, and_self, Nat.reduceBEq, QOp.loads, boxO, bslO, buildO, cutL, fillV, putL, w22, v22, D]
      refine stepC.of b8 ?_
      rintro _ H8 ⟨z, rfl, z1, z2, _, g8, k8⟩
      have z3 : z < 8 := z2 (by omega)
      have F8 := F7.stepG g8 hm hc
      have D8 := F8.ld (i := bx) (cs := encTitle ⟨t, to, tx⟩) (by simp)
      simp only [encTitle] at D8
      have BK : Bx H8 K.size (drawWords.map .string) := (F8.box (K.size, drawWords.map .string) (by simp)).2
      obtain ⟨sx, hsx, hs5⟩ := pick_strs (H := K) (c := c) BK z1 (by simpa [drawWords] using z3) rfl
      have sa := strB_add tx sx (by omega)
      obtain ⟨H9, es, F9, G9, q9⟩ := F8.put2 hbK (o := 2) (n := 1) (y := .string (tx ++ sx)) rfl (by simp [encTitle]) rfl
      simp only [splice, cells_strv, encTitle, List.take_succ_cons, List.take_zero, List.cons_append, List.nil_append, List.append_nil, List.length_cons, List.length_nil, List.drop_succ_cons, List.drop_zero, List.drop_nil, Nat.reduceAdd] at F9 es
      simp (maxSteps := 4000000) (disch := omega) only [ah, am, Nat.reduceEqDiff, reduceCtorEq, Nat.reduceAdd, Nat.reduceLeDiff, Nat.reduceMul, Nat.reduceLT, if_true, if_false, true_and, and_true, and_self, Nat.reduceBEq, QOp.loads, boxO, bslO, buildO, cutL, fillV, putL, w22, v22, rechk_cons, rechk_end, chkV_some, chkV_false, D8, Nat.mul_one, hsx, sa, es, wj]
      refine ⟨by omega, tx ++ sx, F9.sub (fun p hp => by rw [List.mem_singleton] at hp; rw [hp]; exact List.mem_cons_self ..), curStep k8 G9 (by omega), by rw [ByteArray.size_append]; omega⟩
    · have D := F.ld (i := bx) (cs := encTitle ⟨t, to, tx⟩) (by simp)
      simp only [encTitle] at D
      obtain ⟨v2, K4, ap, F4, g, hg, G⟩ := F.app1g [] (⟨t, to, tx⟩ : Title) (bytes := 32) (by omega)
      simp only [boxesAt, List.cons_append, List.append_nil, List.nil_append, List.length_nil, List.length_cons, Nat.zero_add, Nat.add_zero, encTitle] at ap G F4
      have D4 := F4.ld (i := bx) (cs := [.int .i64 t, .int .i64 to, .string tx]) (by simp)
      have k4 := curStep (kK.ext (Ext.more K [[.int .i64 t, .int .i64 to, .string tx]])) G (by omega)
      simp (maxSteps := 4000000) (disch := omega) only [ah, am, Nat.reduceEqDiff, reduceCtorEq, Nat.reduceAdd, Nat.reduceLeDiff, Nat.reduceMul, Nat.reduceLT, if_true, if_false, true_and, and_true, and_self, Nat.reduceBEq, QOp.loads, boxO, bslO, buildO, cutL, fillV, putL, w22, v22, D, ap, D4]
      refine stepC.of (l1Below_ok _ _ _ k4) ?_
      rintro _ H5 ⟨y, rfl, y1, y2, _, g5, k5⟩
      have F5 := F4.stepG g5 hm hc
      have D5 := F5.ld (i := bx) (cs := [.int .i64 t, .int .i64 to, .string tx]) (by simp)
      have wi : IntKind.i64.wrap (n0 - (i : Int) - 1) = n0 - ((i + 1 : Nat) : Int) := i64e (by omega) (by omega)
      simp (maxSteps := 4000000) (disch := omega) only [ah, am, Nat.reduceEqDiff, reduceCtorEq, Nat.reduceAdd, Nat.reduceLeDiff, Nat.reduceMul, Nat.reduceLT, if_true, if_false, true_and, and_true, and_self, Nat.reduceBEq, QOp.loads, boxO, bslO, buildO, cutL, fillV, putL, w22, v22, rechk_cons, rechk_end, chkV_some, chkV_false, D5, wi]
      exact ⟨by omega, _, _, _, rfl, F5.bare, k5, by simp; omega, hs.app (by simp only; omega)⟩
  · have last := @DrawTitles_last h c hc
    rw [c22_76.eq_1]
    generalize c22_75 = fc at last ⊢
    simp (maxSteps := 4000000) (disch := omega) only [ah, am, Nat.reduceEqDiff, reduceCtorEq, Nat.reduceAdd, Nat.reduceLeDiff, Nat.reduceMul, Nat.reduceLT, if_true, if_false, true_and, and_true, and_self, Nat.reduceBEq, QOp.loads, boxO, bslO, buildO, cutL, fillV, putL, w22, v22]
    refine stepC.of (l1Once_ok _ _ _ kK) ?_
    rintro _ K2 ⟨b, rfl, g2, k2⟩
    have F2 := F.stepG g2 hm hc
    cases b with
    | false =>
      simp (maxSteps := 4000000) (disch := omega) only [ah, am, Nat.reduceEqDiff, reduceCtorEq, Nat.reduceAdd, Nat.reduceLeDiff, Nat.reduceMul, Nat.reduceLT, if_true, if_false, true_and, and_true, and_self, Nat.reduceBEq, QOp.loads, boxO, bslO, buildO, cutL, fillV, putL, w22, v22]
      exact last _ F2 k2 (by omega) hs
    | true =>
      have R := F2.slt.rulesN
      simp (maxSteps := 4000000) (disch := omega) only [ah, am, Nat.reduceEqDiff, reduceCtorEq, Nat.reduceAdd, Nat.reduceLeDiff, Nat.reduceMul, Nat.reduceLT, if_true, if_false, true_and, and_true, and_self, Nat.reduceBEq, QOp.loads, boxO, bslO, buildO, cutL, fillV, putL, w22, v22, R.1]
      refine stepI.split (fun hq => ?_) (fun hq => ?_)
      rotate_left
      · simp (maxSteps := 4000000) (disch := omega) only [ah, am, Nat.reduceEqDiff, reduceCtorEq, Nat.reduceAdd, Nat.reduceLeDiff, Nat.reduceMul, Nat.reduceLT, if_true, if_false, true_and, and_true, and_self, Nat.reduceBEq, QOp.loads, boxO, bslO, buildO, cutL, fillV, putL, w22, v22]
        exact last _ F2 k2 (by omega) hs
      simp (maxSteps := 4000000) (disch := omega) only [ah, am, Nat.reduceEqDiff, reduceCtorEq, Nat.reduceAdd, Nat.reduceLeDiff, Nat.reduceMul, Nat.reduceLT, if_true, if_false, true_and, and_true, and_self, Nat.reduceBEq, QOp.loads, boxO, bslO, buildO, cutL, fillV, putL, w22, v22, R.1]
      refine stepC.of (l1Below_ok _ _ _ k2) ?_
      rintro _ K3 ⟨z, rfl, z1, z2, _, g3, k3⟩
      have z3 := z2 (by omega)
      obtain ⟨zn, rfl⟩ := Int.eq_ofNat_of_zero_le z1
      have hzn : zn < l.length := by omega
      have F3 := F2.stepG g3 hm hc
      have R := F3.slt.rulesN
      simp (maxSteps := 4000000) (disch := omega) only [ah, am, Nat.reduceEqDiff, reduceCtorEq, Nat.reduceAdd, Nat.reduceLeDiff, Nat.reduceMul, Nat.reduceLT, if_true, if_false, true_and, and_true, and_self, Nat.reduceBEq, QOp.loads, boxO, bslO, buildO, cutL, fillV, putL, w22, v22, R.2.1]
      refine stepC.of (l1Below_ok _ _ _ k3) ?_
      rintro _ K4 ⟨w, rfl, w1, w2, _, g4, k4⟩
      have w3 : w < 3 := w2 (by omega)
      have F4 := F3.stepG g4 hm hc
      have hc4 := k4.lt
      have NP := slt_nilp F4.slt (by omega) (zn * 3)
      have R := F4.slt.rulesN
      have FA := R.2.2.1
      have hw : w = 0 ∨ w = 1 ∨ w = 2 := by omega
      rcases hw with rfl | rfl | rfl
      · have F5 := F4.more [drawBad.map .string]
        simp only [boxesAt, List.cons_append, List.nil_append, List.append_nil] at F5
        have b7 := l1Below_ok (K4.more [drawBad.map .string]) c 7 (k4.ext (Ext.more _ _))
        simp only [drawBad, List.map_cons, List.map_nil] at b7
        simp (maxSteps := 4000000) (disch := omega) only [ah, am, Nat.reduceEqDiff, reduceCtorEq, Nat.reduceAdd, Nat.reduceLeDiff, Nat.reduceMul, Nat.reduceLT, if_true, if_false, true_and, and_true, and_self, Nat.reduceBEq, QOp.loads, boxO, bslO, buildO, cutL, fillV, putL, w22, v22]
        refine stepC.of b7 ?_
        rintro _ H8 ⟨y, rfl, y1, y2, _, g8, k8⟩
        have y3 : y < 7 := y2 (by omega)
        have F8 := F5.stepG g8 hm hc
        have BK : Bx H8 K4.size (drawBad.map .string) := (F8.box (K4.size, drawBad.map .string) (by simp)).2
        obtain ⟨sx, hsx, hs5⟩ := pick_strs (H := K4) (c := c) BK y1 (by simpa [drawBad] using y3) rfl
        obtain ⟨H9, es, F9, g, hg, G⟩ := F8.bare.setF hzn (f := 2) (n := 1) (x := ⟨l[zn].fr, l[zn].to, sx⟩) (y := .string sx) rfl (by omega) rfl (by omega) rfl
        simp (maxSteps := 4000000) (disch := omega) only [ah, am, Nat.reduceEqDiff, reduceCtorEq, Nat.reduceAdd, Nat.reduceLeDiff, Nat.reduceMul, Nat.reduceLT, if_true, if_false, true_and, and_true, and_self, Nat.reduceBEq, QOp.loads, boxO, bslO, buildO, cutL, fillV, putL, w22, v22, Nat.mul_one, hsx, NP, FA, es]
        exact last _ F9 (curStep k8 G (by omega)) (by simp; omega) (hs.set _ (by simp only; omega))
      · have LD := R.2.2.2.1 zn 1 hzn (by omega)
        simp (maxSteps := 4000000) (disch := omega) only [ah, am, Nat.reduceEqDiff, reduceCtorEq, Nat.reduceAdd, Nat.reduceLeDiff, Nat.reduceMul, Nat.reduceLT, if_true, if_false, true_and, and_true, and_self, Nat.reduceBEq, QOp.loads, boxO, bslO, buildO, cutL, fillV, putL, w22, v22, NP, FA, LD, encTitle, decide_eq_false (show ¬ (1 : Int) = 0 by omega), decide_eq_true (rfl : (1 : Int) = 1)]
        refine stepC.of (l1Below_ok _ _ _ (k4.ext (Ext.more _ _))) ?_
        rintro _ H8 ⟨y, rfl, y1, y2, _, g8, k8⟩
        have y3 : y < 3 := y2 (by omega)
        have F8 := (F4.more [[.int .i64 (-1), .int .i64 l[zn].to, .int .i64 0]]).stepG g8 hm hc
        have LD8 := F8.slt.rulesN.2.2.2.1 zn 1 hzn (by omega)
        obtain ⟨u, hu⟩ := pick_lits g8 hc4 y1 (by simpa using y3) rfl
        obtain ⟨H9, es, F9, g, hg, G⟩ := F8.bare.setF hzn (f := 0) (n := 1) (x := ⟨u, l[zn].to, l[zn].tx⟩) (y := .int .i64 u) rfl (by omega) rfl (by omega) rfl
        simp only [Nat.add_zero] at es
        simp (maxSteps := 4000000) (disch := omega) only [ah, am, Nat.reduceEqDiff, reduceCtorEq, Nat.reduceAdd, Nat.reduceLeDiff, Nat.reduceMul, Nat.reduceLT, if_true, if_false, true_and, and_true, and_self, Nat.reduceBEq, QOp.loads, boxO, bslO, buildO, cutL, fillV, putL, w22, v22, rechk_cons, rechk_end, chkV_some, chkV_false, LD8, encTitle, Nat.mul_one, Nat.add_zero, hu, NP, FA, es]
        exact last _ F9 (curStep k8 G (by omega)) (by simp; omega) (hs.set _ (hs (l[zn]) (List.getElem_mem hzn)))
      · have LD := R.2.2.2.2.1 zn hzn
        simp (maxSteps := 4000000) (disch := omega) only [ah, am, Nat.reduceEqDiff, reduceCtorEq, Nat.reduceAdd, Nat.reduceLeDiff, Nat.reduceMul, Nat.reduceLT, if_true, if_false, true_and, and_true, and_self, Nat.reduceBEq, QOp.loads, boxO, bslO, buildO, cutL, fillV, putL, w22, v22, NP, FA, LD, encTitle, decide_eq_false (show ¬ (2 : Int) = 0 by omega), decide_eq_false (show ¬ (2 : Int) = 1 by omega), decide_eq_true (rfl : (2 : Int) = 2)]
        refine stepC.of (l1Below_ok _ _ _ (k4.ext (Ext.more _ _))) ?_
        rintro _ H8 ⟨y, rfl, y1, y2, _, g8, k8⟩
        have y3 : y < 3 := y2 (by omega)
        have F8 := (F4.more [[.int .i64 359999999, .int .i64 360000000, .int .i64 l[zn].fr]]).stepG g8 hm hc
        have LD8 := F8.slt.rulesN.2.2.2.2.1 zn hzn
        obtain ⟨u, hu⟩ := pick_lits g8 hc4 y1 (by simpa using y3) rfl
        obtain ⟨H9, es, F9, g, hg, G⟩ := F8.bare.setF hzn (f := 1) (n := 1) (x := ⟨l[zn].fr, u, l[zn].tx⟩) (y := .int .i64 u) rfl (by omega) rfl (by omega) rfl
        simp (maxSteps := 4000000) (disch := omega) only [ah, am, Nat.reduceEqDiff, reduceCtorEq, Nat.reduceAdd, Nat.reduceLeDiff, Nat.reduceMul, Nat.reduceLT, if_true, if_false, true_and, and_true, and_self, Nat.reduceBEq, QOp.loads, boxO, bslO, buildO, cutL, fillV, putL, w22, v22, rechk_cons, rechk_end, chkV_some, chkV_false, LD8, encTitle, Nat.mul_one, Nat.add_zero, hu, NP, FA, es]
        exact last _ F9 (curStep k8 G (by omega)) (by simp; omega) (hs.set _ (hs (l[zn]) (List.getElem_mem hzn)))
end Go.Proofs.YtgjppbmbpjomgaaDoor
