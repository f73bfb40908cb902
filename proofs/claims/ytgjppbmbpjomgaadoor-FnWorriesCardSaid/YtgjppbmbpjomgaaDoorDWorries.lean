import Derived.Test.YtgjppbmbpjomgaaDoorQ11
namespace Go.Proofs.YtgjppbmbpjomgaaDoor
open Go Go.Ah
set_option linter.unusedSimpArgs false
set_option linter.unusedVariables false
set_option maxRecDepth 10000
set_option maxHeartbeats 8000000
/-! 3 loop.example/g00066/laws.FnWorries: parameters 1, live [0], slots [0:code, 1:code, 3:l, 4:s, 5:w, 6:i, 7:t, 8:d, 9:is, 10:_, 11:told] -/
def c3_0 : List SOper := [⟨some 2, .q (.mv (.c (.bool false))), none⟩]
def c3_1 : List SOper := [⟨some 12, .q (.mv (.t 0)), none⟩, ⟨some 13, .e (.call 5 [(.t 12)]), none⟩]
def c3_2 : List SOper := [⟨some 2, .q (.mv (.c (.bool true))), none⟩]
def c3_3 : SCode := .seq (.region c3_2 [2]) .ret
def c3_4 : SCode := .cond (.t 13) c3_3 .skip
def c3_5 : SCode := .seq (.region c3_1 [0, 13]) c3_4
def c3_6 : List SOper := [⟨some 15, .q (.mv (.t 0)), none⟩, ⟨some 16, .e (.call 6 [(.t 15)]), none⟩, ⟨some 14, .q (.mv (.t 16)), none⟩, ⟨some 17, .q (.ext (.t 14) 0), none⟩, ⟨some 18, .q (.ext (.t 14) 1), none⟩, ⟨some 4, .a (.new [(.int .i64 0), (.int .i64 0), (.int .i64 0), (.int .i64 0), (.int .i64 0)]), none⟩, ⟨some 3, .q (.mv (.t 17)), none⟩, ⟨none, .e (.st 5 (.t 4) (.t 18)), none⟩]
def c3_7 : List SOper := [⟨some 19, .q (.mv (.t 3)), none⟩, ⟨some 20, .q (.ldn 5 (.t 4)), none⟩, ⟨some 21, .e (.call 7 [(.t 19), (.t 20)]), none⟩, ⟨some 5, .q (.mv (.t 21)), none⟩]
def c3_8 : List SOper := [⟨some 22, .q (.mv (.t 5)), none⟩, ⟨some 23, .q (.len (.t 22)), none⟩, ⟨some 24, .q (.mv (.t 3)), none⟩, ⟨some 25, .q (.ldn 5 (.t 4)), none⟩, ⟨some 26, .e (.call 8 [(.t 24), (.t 25)]), none⟩, ⟨some 27, .q (.len (.t 26)), none⟩, ⟨some 28, .q (.bin .neq (.t 23) (.t 27)), none⟩]
def c3_9 : List SOper := [⟨some 2, .q (.mv (.c (.bool false))), none⟩]
def c3_10 : SCode := .seq (.region c3_9 [2]) .ret
def c3_11 : SCode := .cond (.t 28) c3_10 .skip
def c3_12 : SCode := .seq (.region c3_8 [3, 4, 5, 28]) c3_11
def c3_13 : List SOper := [⟨some 6, .q (.mv (.c (.int .i64 0))), none⟩]
def c3_14 : List SOper := [⟨some 29, .q (.mv (.t 6)), none⟩, ⟨some 30, .q (.mv (.t 5)), none⟩, ⟨some 31, .q (.len (.t 30)), none⟩, ⟨some 32, .q (.bin .lss (.t 29) (.t 31)), none⟩]
def c3_15 : SCode := .cond (.t 32) .skip (.exit 0)
def c3_16 : SCode := .seq (.region c3_14 [3, 4, 5, 6, 32]) c3_15
def c3_17 : List SOper := [⟨some 35, .q (.mv (.t 3)), none⟩, ⟨some 36, .q (.mv (.t 5)), none⟩, ⟨some 37, .q (.mv (.t 6)), none⟩, ⟨some 38, .q (.ia 2 (.t 36) (.t 37)), none⟩, ⟨some 39, .q (.fa 0 (.t 38)), none⟩, ⟨some 40, .q (.ld (.t 39)), none⟩, ⟨some 41, .q (.ia 3 (.t 35) (.t 40)), none⟩, ⟨some 42, .q (.ldn 3 (.t 41)), none⟩, ⟨some 7, .a (.new [(.int .i64 0), (.int .i64 0), (.string ⟨#[]⟩)]), none⟩, ⟨none, .e (.st 3 (.t 7) (.t 42)), none⟩]
def c3_18 : List SOper := [⟨some 43, .q (.mv (.t 6)), none⟩, ⟨some 44, .q (.bin .gtr (.t 43) (.c (.int .i64 0))), none⟩, ⟨some 45, .q (.mv (.t 44)), none⟩, ⟨some 46, .q (.mv (.t 5)), some (45, true)⟩, ⟨some 47, .q (.mv (.t 6)), some (45, true)⟩, ⟨some 48, .q (.ia 2 (.t 46) (.t 47)), some (45, true)⟩, ⟨some 49, .q (.fa 0 (.t 48)), some (45, true)⟩, ⟨some 50, .q (.ld (.t 49)), some (45, true)⟩, ⟨some 51, .q (.mv (.t 5)), some (45, true)⟩, ⟨some 52, .q (.mv (.t 6)), some (45, true)⟩, ⟨some 53, .q (.bin .sub (.t 52) (.c (.int .i64 1))), some (45, true)⟩, ⟨some 54, .q (.ia 2 (.t 51) (.t 53)), some (45, true)⟩, ⟨some 55, .q (.fa 0 (.t 54)), some (45, true)⟩, ⟨some 56, .q (.ld (.t 55)), some (45, true)⟩, ⟨some 57, .q (.bin .lss (.t 50) (.t 56)), some (45, true)⟩, ⟨some 58, .q (.mv (.t 57)), some (45, true)⟩, ⟨some 59, .q (.mv (.t 5)), some (58, false)⟩, ⟨some 60, .q (.mv (.t 6)), some (58, false)⟩, ⟨some 61, .q (.ia 2 (.t 59) (.t 60)), some (58, false)⟩, ⟨some 62, .q (.fa 0 (.t 61)), some (58, false)⟩, ⟨some 63, .q (.ld (.t 62)), some (58, false)⟩, ⟨some 64, .q (.mv (.t 5)), some (58, false)⟩, ⟨some 65, .q (.mv (.t 6)), some (58, false)⟩, ⟨some 66, .q (.bin .sub (.t 65) (.c (.int .i64 1))), some (58, false)⟩, ⟨some 67, .q (.ia 2 (.t 64) (.t 66)), some (58, false)⟩, ⟨some 68, .q (.fa 0 (.t 67)), some (58, false)⟩, ⟨some 69, .q (.ld (.t 68)), some (58, false)⟩, ⟨some 70, .q (.bin .eql (.t 63) (.t 69)), some (58, false)⟩, ⟨some 71, .q (.mv (.t 70)), some (58, false)⟩, ⟨some 72, .q (.mv (.t 5)), some (71, true)⟩, ⟨some 73, .q (.mv (.t 6)), some (71, true)⟩, ⟨some 74, .q (.ia 2 (.t 72) (.t 73)), some (71, true)⟩, ⟨some 75, .q (.fa 1 (.t 74)), some (71, true)⟩, ⟨some 76, .q (.ld (.t 75)), some (71, true)⟩, ⟨some 77, .q (.mv (.t 5)), some (71, true)⟩, ⟨some 78, .q (.mv (.t 6)), some (71, true)⟩, ⟨some 79, .q (.bin .sub (.t 78) (.c (.int .i64 1))), some (71, true)⟩, ⟨some 80, .q (.ia 2 (.t 77) (.t 79)), some (71, true)⟩, ⟨some 81, .q (.fa 1 (.t 80)), some (71, true)⟩, ⟨some 82, .q (.ld (.t 81)), some (71, true)⟩, ⟨some 83, .q (.bin .leq (.t 76) (.t 82)), some (71, true)⟩, ⟨some 84, .q (.pick (.t 71) (.t 83) (.c (.bool false))), some (58, false)⟩, ⟨some 85, .q (.pick (.t 58) (.c (.bool true)) (.t 84)), some (45, true)⟩, ⟨some 86, .q (.pick (.t 45) (.t 85) (.c (.bool false))), none⟩, ⟨some 87, .q (.mv (.t 86)), none⟩, ⟨some 88, .q (.mv (.t 5)), some (87, false)⟩, ⟨some 89, .q (.mv (.t 6)), some (87, false)⟩, ⟨some 90, .q (.ia 2 (.t 88) (.t 89)), some (87, false)⟩, ⟨some 91, .q (.fa 1 (.t 90)), some (87, false)⟩, ⟨some 92, .q (.ld (.t 91)), some (87, false)⟩, ⟨some 93, .q (.bin .eql (.t 92) (.c (.int .i64 1))), some (87, false)⟩, ⟨some 94, .q (.mv (.t 93)), some (87, false)⟩, ⟨some 95, .q (.fa 1 (.t 7)), some (94, true)⟩, ⟨some 96, .q (.ld (.t 95)), some (94, true)⟩, ⟨some 97, .q (.fa 0 (.t 7)), some (94, true)⟩, ⟨some 98, .q (.ld (.t 97)), some (94, true)⟩, ⟨some 99, .q (.bin .sub (.t 96) (.t 98)), some (94, true)⟩, ⟨some 100, .q (.fa 0 (.t 4)), some (94, true)⟩, ⟨some 101, .q (.ld (.t 100)), some (94, true)⟩, ⟨some 102, .q (.bin .geq (.t 99) (.t 101)), some (94, true)⟩, ⟨some 103, .q (.pick (.t 94) (.t 102) (.c (.bool false))), some (87, false)⟩, ⟨some 104, .q (.pick (.t 87) (.c (.bool true)) (.t 103)), none⟩, ⟨some 105, .q (.mv (.t 104)), none⟩, ⟨some 106, .q (.mv (.t 5)), some (105, false)⟩, ⟨some 107, .q (.mv (.t 6)), some (105, false)⟩, ⟨some 108, .q (.ia 2 (.t 106) (.t 107)), some (105, false)⟩, ⟨some 109, .q (.fa 1 (.t 108)), some (105, false)⟩, ⟨some 110, .q (.ld (.t 109)), some (105, false)⟩, ⟨some 111, .q (.bin .eql (.t 110) (.c (.int .i64 2))), some (105, false)⟩, ⟨some 112, .q (.mv (.t 111)), some (105, false)⟩, ⟨some 113, .q (.mv (.t 5)), some (112, true)⟩, ⟨some 114, .q (.mv (.t 6)), some (112, true)⟩, ⟨some 115, .q (.ia 2 (.t 113) (.t 114)), some (112, true)⟩, ⟨some 116, .q (.fa 0 (.t 115)), some (112, true)⟩, ⟨some 117, .q (.ld (.t 116)), some (112, true)⟩, ⟨some 118, .q (.bin .eql (.t 117) (.c (.int .i64 0))), some (112, true)⟩, ⟨some 119, .q (.mv (.t 118)), some (112, true)⟩, ⟨some 120, .q (.fa 0 (.t 7)), some (119, false)⟩, ⟨some 121, .q (.ld (.t 120)), some (119, false)⟩, ⟨some 122, .q (.mv (.t 3)), some (119, false)⟩, ⟨some 123, .q (.mv (.t 5)), some (119, false)⟩, ⟨some 124, .q (.mv (.t 6)), some (119, false)⟩, ⟨some 125, .q (.ia 2 (.t 123) (.t 124)), some (119, false)⟩, ⟨some 126, .q (.fa 0 (.t 125)), some (119, false)⟩, ⟨some 127, .q (.ld (.t 126)), some (119, false)⟩, ⟨some 128, .q (.bin .sub (.t 127) (.c (.int .i64 1))), some (119, false)⟩, ⟨some 129, .q (.ia 3 (.t 122) (.t 128)), some (119, false)⟩, ⟨some 130, .q (.fa 1 (.t 129)), some (119, false)⟩, ⟨some 131, .q (.ld (.t 130)), some (119, false)⟩, ⟨some 132, .q (.bin .sub (.t 121) (.t 131)), some (119, false)⟩, ⟨some 133, .q (.fa 1 (.t 4)), some (119, false)⟩, ⟨some 134, .q (.ld (.t 133)), some (119, false)⟩, ⟨some 135, .q (.bin .geq (.t 132) (.t 134)), some (119, false)⟩, ⟨some 136, .q (.pick (.t 119) (.c (.bool true)) (.t 135)), some (112, true)⟩, ⟨some 137, .q (.pick (.t 112) (.t 136) (.c (.bool false))), some (105, false)⟩, ⟨some 138, .q (.pick (.t 105) (.c (.bool true)) (.t 137)), none⟩]
def c3_19 : List SOper := [⟨some 2, .q (.mv (.c (.bool false))), none⟩]
def c3_20 : SCode := .seq (.region c3_19 [2]) .ret
def c3_21 : SCode := .cond (.t 138) c3_20 .skip
def c3_22 : SCode := .seq (.region c3_18 [3, 4, 5, 6, 138]) c3_21
def c3_23 : SCode := .seq (.region c3_17 [3, 4, 5, 6, 7]) c3_22
def c3_24 : SCode := .block 1 c3_23
def c3_25 : List SOper := [⟨some 33, .q (.mv (.t 6)), none⟩, ⟨some 34, .q (.bin .add (.t 33) (.c (.int .i64 1))), none⟩, ⟨some 6, .q (.mv (.t 34)), none⟩]
def c3_26 : SCode := .seq c3_24 (.region c3_25 [3, 4, 5, 6])
def c3_27 : SCode := .seq c3_16 c3_26
def c3_28 : SCode := .loop c3_27
def c3_29 : SCode := .block 0 c3_28
def c3_30 : SCode := .seq (.region c3_13 [3, 4, 5, 6]) c3_29
def c3_31 : List SOper := [⟨some 140, .q (.mv (.t 3)), none⟩, ⟨some 141, .e (.call 9 [(.t 140), (.c (.int .i64 1000))]), none⟩, ⟨some 139, .q (.mv (.t 141)), none⟩, ⟨some 142, .q (.ext (.t 139) 0), none⟩, ⟨some 143, .q (.ext (.t 139) 1), none⟩, ⟨some 8, .q (.mv (.t 142)), none⟩, ⟨some 9, .q (.mv (.t 143)), none⟩]
def c3_32 : List SOper := [⟨some 144, .q (.mv (.t 9)), none⟩, ⟨some 145, .q (.not (.t 144)), none⟩]
def c3_33 : List SOper := [⟨some 147, .q (.mv (.t 3)), none⟩, ⟨some 148, .e (.call 10 [(.t 147), (.c (.int .i64 1000))]), none⟩, ⟨some 146, .q (.mv (.t 148)), none⟩, ⟨some 149, .q (.ext (.t 146) 0), none⟩, ⟨some 150, .q (.ext (.t 146) 1), none⟩, ⟨some 10, .q (.mv (.t 149)), none⟩, ⟨some 11, .q (.mv (.t 150)), none⟩]
def c3_34 : List SOper := [⟨some 151, .q (.mv (.t 11)), none⟩, ⟨some 152, .q (.not (.t 151)), none⟩, ⟨some 2, .q (.mv (.t 152)), none⟩]
def c3_35 : SCode := .seq (.region c3_34 [2]) .ret
def c3_36 : SCode := .seq (.region c3_33 [11]) c3_35
def c3_37 : SCode := .cond (.t 145) c3_36 .skip
def c3_38 : SCode := .seq (.region c3_32 [3, 4, 5, 8, 145]) c3_37
def c3_39 : List SOper := [⟨some 153, .q (.mv (.t 8)), none⟩, ⟨some 154, .q (.ldn 5 (.t 4)), none⟩, ⟨some 155, .e (.call 7 [(.t 153), (.t 154)]), none⟩, ⟨some 156, .q (.len (.t 155)), none⟩, ⟨some 157, .q (.mv (.t 5)), none⟩, ⟨some 158, .q (.len (.t 157)), none⟩, ⟨some 159, .q (.bin .eql (.t 156) (.t 158)), none⟩, ⟨some 2, .q (.mv (.t 159)), none⟩]
def c3_40 : SCode := .seq (.region c3_39 [2]) .ret
def c3_41 : SCode := .seq c3_38 c3_40
def c3_42 : SCode := .seq (.region c3_31 [3, 4, 5, 8, 9]) c3_41
def c3_43 : SCode := .seq c3_30 c3_42
def c3_44 : SCode := .seq c3_12 c3_43
def c3_45 : SCode := .seq (.region c3_7 [3, 4, 5]) c3_44
def c3_46 : SCode := .seq (.region c3_6 [3, 4]) c3_45
def c3_47 : SCode := .seq c3_5 c3_46
def c3_48 : SCode := .seq (.region c3_0 [0]) c3_47
def c3 : SCode := c3_48
theorem w3 : type_of% (And.intro (uR Tryd.prog c3_0.eq_1) (And.intro (uR Tryd.prog c3_1.eq_1) (And.intro (uR Tryd.prog c3_2.eq_1) (And.intro (uC Tryd.prog c3_3.eq_1) (And.intro (uC Tryd.prog c3_4.eq_1) (And.intro (uC Tryd.prog c3_5.eq_1) (And.intro (uR Tryd.prog c3_6.eq_1) (And.intro (uR Tryd.prog c3_7.eq_1) (And.intro (uR Tryd.prog c3_8.eq_1) (And.intro (uR Tryd.prog c3_9.eq_1) (And.intro (uC Tryd.prog c3_10.eq_1) (And.intro (uC Tryd.prog c3_11.eq_1) (And.intro (uC Tryd.prog c3_12.eq_1) (And.intro (uR Tryd.prog c3_13.eq_1) (And.intro (uR Tryd.prog c3_14.eq_1) (And.intro (uC Tryd.prog c3_15.eq_1) (And.intro (uC Tryd.prog c3_16.eq_1) (And.intro (uR Tryd.prog c3_17.eq_1) (And.intro (uR Tryd.prog c3_18.eq_1) (And.intro (uR Tryd.prog c3_19.eq_1) (And.intro (uC Tryd.prog c3_20.eq_1) (And.intro (uC Tryd.prog c3_21.eq_1) (And.intro (uC Tryd.prog c3_22.eq_1) (And.intro (uC Tryd.prog c3_23.eq_1) (And.intro (uC Tryd.prog c3_24.eq_1) (And.intro (uR Tryd.prog c3_25.eq_1) (And.intro (uC Tryd.prog c3_26.eq_1) (And.intro (uC Tryd.prog c3_27.eq_1) (And.intro (uC Tryd.prog c3_28.eq_1) (And.intro (uC Tryd.prog c3_29.eq_1) (And.intro (uC Tryd.prog c3_30.eq_1) (And.intro (uR Tryd.prog c3_31.eq_1) (And.intro (uR Tryd.prog c3_32.eq_1) (And.intro (uR Tryd.prog c3_33.eq_1) (And.intro (uR Tryd.prog c3_34.eq_1) (And.intro (uC Tryd.prog c3_35.eq_1) (And.intro (uC Tryd.prog c3_36.eq_1) (And.intro (uC Tryd.prog c3_37.eq_1) (And.intro (uC Tryd.prog c3_38.eq_1) (And.intro (uR Tryd.prog c3_39.eq_1) (And.intro (uC Tryd.prog c3_40.eq_1) (And.intro (uC Tryd.prog c3_41.eq_1) (And.intro (uC Tryd.prog c3_42.eq_1) (And.intro (uC Tryd.prog c3_43.eq_1) (And.intro (uC Tryd.prog c3_44.eq_1) (And.intro (uC Tryd.prog c3_45.eq_1) (And.intro (uC Tryd.prog c3_46.eq_1) (And.intro (uC Tryd.prog c3_47.eq_1) (And.intro (uC Tryd.prog c3_48.eq_1) (uC Tryd.prog c3.eq_1)))))))))))))))))))))))))))))))))))))))))))))))))) := (And.intro (uR Tryd.prog c3_0.eq_1) (And.intro (uR Tryd.prog c3_1.eq_1) (And.intro (uR Tryd.prog c3_2.eq_1) (And.intro (uC Tryd.prog c3_3.eq_1) (And.intro (uC Tryd.prog c3_4.eq_1) (And.intro (uC Tryd.prog c3_5.eq_1) (And.intro (uR Tryd.prog c3_6.eq_1) (And.intro (uR Tryd.prog c3_7.eq_1) (And.intro (uR Tryd.prog c3_8.eq_1) (And.intro (uR Tryd.prog c3_9.eq_1) (And.intro (uC Tryd.prog c3_10.eq_1) (And.intro (uC Tryd.prog c3_11.eq_1) (And.intro (uC Tryd.prog c3_12.eq_1) (And.intro (uR Tryd.prog c3_13.eq_1) (And.intro (uR Tryd.prog c3_14.eq_1) (And.intro (uC Tryd.prog c3_15.eq_1) (And.intro (uC Tryd.prog c3_16.eq_1) (And.intro (uR Tryd.prog c3_17.eq_1) (And.intro (uR Tryd.prog c3_18.eq_1) (And.intro (uR Tryd.prog c3_19.eq_1) (And.intro (uC Tryd.prog c3_20.eq_1) (And.intro (uC Tryd.prog c3_21.eq_1) (And.intro (uC Tryd.prog c3_22.eq_1) (And.intro (uC Tryd.prog c3_23.eq_1) (And.intro (uC Tryd.prog c3_24.eq_1) (And.intro (uR Tryd.prog c3_25.eq_1) (And.intro (uC Tryd.prog c3_26.eq_1) (And.intro (uC Tryd.prog c3_27.eq_1) (And.intro (uC Tryd.prog c3_28.eq_1) (And.intro (uC Tryd.prog c3_29.eq_1) (And.intro (uC Tryd.prog c3_30.eq_1) (And.intro (uR Tryd.prog c3_31.eq_1) (And.intro (uR Tryd.prog c3_32.eq_1) (And.intro (uR Tryd.prog c3_33.eq_1) (And.intro (uR Tryd.prog c3_34.eq_1) (And.intro (uC Tryd.prog c3_35.eq_1) (And.intro (uC Tryd.prog c3_36.eq_1) (And.intro (uC Tryd.prog c3_37.eq_1) (And.intro (uC Tryd.prog c3_38.eq_1) (And.intro (uR Tryd.prog c3_39.eq_1) (And.intro (uC Tryd.prog c3_40.eq_1) (And.intro (uC Tryd.prog c3_41.eq_1) (And.intro (uC Tryd.prog c3_42.eq_1) (And.intro (uC Tryd.prog c3_43.eq_1) (And.intro (uC Tryd.prog c3_44.eq_1) (And.intro (uC Tryd.prog c3_45.eq_1) (And.intro (uC Tryd.prog c3_46.eq_1) (And.intro (uC Tryd.prog c3_47.eq_1) (And.intro (uC Tryd.prog c3_48.eq_1) (uC Tryd.prog c3.eq_1))))))))))))))))))))))))))))))))))))))))))))))))))
def v3 : List RV := [.t 2]
theorem s3 : slimF Tryd.prog Tryd.f3 = some (c3.bare, v3) := by kernel_rfl

theorem FnWorries_ok (h : Heap) (v : Value) (code : List Int) (s : SlT h encByte 1 v code) (hl : code.length ≤ 9223372036854775807) :
    ACall Tryd.prog 3 [v] h fun r h' => r = .bool true := by
  refine ACall.of Tryd.func3 s3 (of_decide_eq_true rfl) ?_
  simp (maxSteps := 4000000) (disch := omega) only [ah, am, Nat.reduceEqDiff, reduceCtorEq, Nat.reduceAdd, Nat.reduceLeDiff, Nat.reduceMul, Nat.reduceLT, if_true, if_false, true_and, and_true, and_self, Nat.reduceBEq, QOp.loads, boxO, bslO, buildO, cutL, fillV, putL, w3, v3]
  refine stepC.of (big_ok _ _ _ s) ?_
  rintro _ Hx ⟨hx, rfl⟩; rw [hx]; clear hx Hx
  by_cases hbig : (4096 : Int) < code.length
  · simp (maxSteps := 4000000) (disch := omega) only [ah, am, Nat.reduceEqDiff, reduceCtorEq, Nat.reduceAdd, Nat.reduceLeDiff, Nat.reduceMul, Nat.reduceLT, if_true, if_false, true_and, and_true, and_self, Nat.reduceBEq, QOp.loads, boxO, bslO, buildO, cutL, fillV, putL, w3, v3, decide_eq_true hbig]
  simp (maxSteps := 4000000) (disch := omega) only [ah, am, Nat.reduceEqDiff, reduceCtorEq, Nat.reduceAdd, Nat.reduceLeDiff, Nat.reduceMul, Nat.reduceLT, if_true, if_false, true_and, and_true, and_self, Nat.reduceBEq, QOp.loads, boxO, bslO, buildO, cutL, fillV, putL, w3, v3, decide_eq_false hbig]
  refine stepC.of (DrawUnread_ok _ _ _ s (by omega)) ?_
  rintro _ H1 ⟨lv, l, st, rfl, e1, sl, hl3, hsm⟩
  have hn : ∀ t ∈ l, t.tx.size ≤ 9223372036854775807 := fun t ht => by have := hsm t ht; omega
  have B := Bx.new H1 (encStyle st) []
  have sl := sl.ext (Ext.more H1 [encStyle st])
  simp only [encStyle] at B sl
  simp (maxSteps := 4000000) (disch := omega) only [ah, am, Nat.reduceEqDiff, reduceCtorEq, Nat.reduceAdd, Nat.reduceLeDiff, Nat.reduceMul, Nat.reduceLT, if_true, if_false, true_and, and_true, and_self, Nat.reduceBEq, QOp.loads, boxO, bslO, buildO, cutL, fillV, putL, w3, v3, encStyle]
  obtain ⟨hB, hhB⟩ : ∃ hB, hB = H1.more [[.int .i64 st.least, .int .i64 st.gap, .int .i64 st.rate, .int .i64 st.rows, .int .i64 st.wide]] := ⟨_, rfl⟩
  rw [← hhB] at B sl ⊢
  obtain ⟨q, hq⟩ : ∃ q, q = H1.size := ⟨_, rfl⟩
  rw [← hq] at B ⊢
  clear hhB hq e1
  have U := Unread_ok hB lv l st sl (by omega) hn
  simp only [encStyle] at U
  refine stepC.of U ?_
  intro wv H2 F2
  have sw := F2.slt
  have hF := unreadF_len l st
  have RW := sw.rulesN
  have E2 := F2.1
  have V := specUnread_ok H2 lv l st (sl.ext E2) (by omega) hn
  simp only [encStyle] at V
  simp (maxSteps := 4000000) (disch := omega) only [ah, am, Nat.reduceEqDiff, reduceCtorEq, Nat.reduceAdd, Nat.reduceLeDiff, Nat.reduceMul, Nat.reduceLT, if_true, if_false, true_and, and_true, and_self, Nat.reduceBEq, QOp.loads, boxO, bslO, buildO, cutL, fillV, putL, w3, v3, RW.1, (B.ext E2).ld]
  refine stepC.of V ?_
  intro wv2 H3 F3
  have E3 := E2.trans F3.1
  have sw3 := sw.ext F3.1
  have RW := F3.slt.rulesN
  simp (maxSteps := 4000000) (disch := omega) only [ah, am, Nat.reduceEqDiff, reduceCtorEq, Nat.reduceAdd, Nat.reduceLeDiff, Nat.reduceMul, Nat.reduceLT, if_true, if_false, true_and, and_true, and_self, Nat.reduceBEq, QOp.loads, boxO, bslO, buildO, cutL, fillV, putL, w3, v3, RW.1, eq_self, decide_true, ne_eq, not_true_eq_false, decide_false, Bool.not_true]
  generalize hW : unreadF l st = W at sw sw3 F2 F3 RW hF
  have told : ∀ j (hj : j < W.length), ∃ p x, Told l st W j W[j] p x := by intro j hj; subst hW; exact told_at l st hj
  have ord : ∀ j (hj : j < W.length), 0 < j → lx (W[j - 1]'(by omega)) W[j] := by intro j hj h0; subst hW; exact told_order l st hj h0
  refine SW_loop_up (fun j E K => Ext H3 K ∧ E = [(3, lv), (4, .pointer (some ⟨q, 0, none⟩)), (5, wv), (6, .int .i64 (j : Int))]) W.length 0 (by omega) ⟨Ext.refl _, rfl⟩ ?_
  rintro j E K hj ⟨eK, rfl⟩
  have wj : IntKind.i64.wrap ((j : Int) + 1) = ((j + 1 : Nat) : Int) := i64e (by omega) (by omega)
  have swK := sw3.ext eK
  have RK := swK.rulesN
  have slK := (sl.ext E3).ext eK
  simp (maxSteps := 4000000) (disch := omega) only [ah, am, Nat.reduceEqDiff, reduceCtorEq, Nat.reduceAdd, Nat.reduceLeDiff, Nat.reduceMul, Nat.reduceLT, if_true, if_false, true_and, and_true, and_self, Nat.reduceBEq, QOp.loads, boxO, bslO, buildO, cutL, fillV, putL, w3, v3, RK.1]
  refine stepI.split (fun hp => ?_) (fun hp => ?_)
  rotate_left
  · simp (maxSteps := 4000000) (disch := omega) only [ah, am, Nat.reduceEqDiff, reduceCtorEq, Nat.reduceAdd, Nat.reduceLeDiff, Nat.reduceMul, Nat.reduceLT, if_true, if_false, true_and, and_true, and_self, Nat.reduceBEq, QOp.loads, boxO, bslO, buildO, cutL, fillV, putL, w3, v3]
    refine stepC.of (Delay_ok K lv l 1000 slK (by omega) hn) ?_
    rintro _ K2 ⟨dv, rfl, e2, hd⟩
    by_cases cd : dOk l 1000
    rotate_left
    · simp (maxSteps := 4000000) (disch := omega) only [ah, am, Nat.reduceEqDiff, reduceCtorEq, Nat.reduceAdd, Nat.reduceLeDiff, Nat.reduceMul, Nat.reduceLT, if_true, if_false, true_and, and_true, and_self, Nat.reduceBEq, QOp.loads, boxO, bslO, buildO, cutL, fillV, putL, w3, v3, decide_eq_false cd]
      refine stepC.of (specDelay_ok K2 lv l 1000 (slK.ext e2) (by omega) hn) ?_
      rintro _ K3 ⟨dv2, rfl, e3⟩
      simp (maxSteps := 4000000) (disch := omega) only [ah, am, Nat.reduceEqDiff, reduceCtorEq, Nat.reduceAdd, Nat.reduceLeDiff, Nat.reduceMul, Nat.reduceLT, if_true, if_false, true_and, and_true, and_self, Nat.reduceBEq, QOp.loads, boxO, bslO, buildO, cutL, fillV, putL, w3, v3, decide_eq_false cd]
    have sd := hd cd
    have U2 := Unread_ok K2 dv (l.map (shT 1000)) st sd (by simp; omega) (fun t ht => by obtain ⟨t', ht', rfl⟩ := List.mem_map.mp ht; exact hn t' ht')
    simp only [encStyle] at U2
    simp (maxSteps := 4000000) (disch := omega) only [ah, am, Nat.reduceEqDiff, reduceCtorEq, Nat.reduceAdd, Nat.reduceLeDiff, Nat.reduceMul, Nat.reduceLT, if_true, if_false, true_and, and_true, and_self, Nat.reduceBEq, QOp.loads, boxO, bslO, buildO, cutL, fillV, putL, w3, v3, decide_eq_true cd, (B.ext ((E3.trans eK).trans e2)).ld]
    refine stepC.of U2 ?_
    intro wv3 K4 F4
    rw [unread_shift l st 1000 cd, hW] at F4
    have R4 := F4.slt.rulesN
    have RW := (swK.ext (e2.trans F4.1)).rulesN
    simp (maxSteps := 4000000) (disch := omega) only [ah, am, Nat.reduceEqDiff, reduceCtorEq, Nat.reduceAdd, Nat.reduceLeDiff, Nat.reduceMul, Nat.reduceLT, if_true, if_false, true_and, and_true, and_self, Nat.reduceBEq, QOp.loads, boxO, bslO, buildO, cutL, fillV, putL, w3, v3, R4.1, RW.1, eq_self, decide_true]
  have hj2 : j < W.length := by omega
  obtain ⟨p, x, T⟩ := told j hj2
  have hT : tAt l p = l[p]'T.lt := tAt_eq T.lt
  have RL := slK.rulesN
  have LPj : ldV K (ptrAt wv (j * 2)) = some (.int .i64 (p : Int)) := by rw [← T.pos]; exact RK.2.2.2.2.1 j hj2
  have LN : ldnV K 3 (ptrAt lv (p * 3)) = some (.agg (encTitle x).toArray) := by rw [← T.at', hT]; exact RL.2.2.2.2.2 p T.lt
  have tm := T.tm
  unfold timeOk at tm
  have IAW := RK.2.1 .i64 j hj2
  have FAW := RK.2.2.1
  have IAL := RL.2.1 .i64 p T.lt
  have FAL := RL.2.2.1
  have hWl : 0 < W.length := by omega
  have hll : 0 < l.length := by have := T.lt; omega
  simp (maxSteps := 4000000) (disch := omega) only [ah, am, Nat.reduceEqDiff, reduceCtorEq, Nat.reduceAdd, Nat.reduceLeDiff, Nat.reduceMul, Nat.reduceLT, if_true, if_false, true_and, and_true, and_self, Nat.reduceBEq, QOp.loads, boxO, bslO, buildO, cutL, fillV, putL, w3, v3, IAW, FAW 0 _ hWl, Nat.add_zero, LPj, IAL, LN, encTitle]
  have eM := Ext.more K [[.int .i64 x.fr, .int .i64 x.to, .string x.tx]]
  have DT := (Bx.new K [.int .i64 x.fr, .int .i64 x.to, .string x.tx] []).ld
  obtain ⟨K1, hK1⟩ : ∃ K1, K1 = K.more [[.int .i64 x.fr, .int .i64 x.to, .string x.tx]] := ⟨_, rfl⟩
  rw [← hK1] at eM DT ⊢
  have e1 := eK.trans eM
  have DB := (B.ext (E3.trans e1)).ld
  have RK1 := (swK.ext eM).rulesN
  have RL1 := (slK.ext eM).rulesN
  have LP : ldV K1 (ptrAt wv (j * 2)) = some (.int .i64 (p : Int)) := by rw [← T.pos]; exact RK1.2.2.2.2.1 j hj2
  have LW : ldV K1 (ptrAt wv (j * 2 + 1)) = some (.int .i64 W[j].why) := RK1.2.2.2.1 j 1 hj2 (by omega)
  have wl : IntKind.i64.wrap (x.to - x.fr) = x.to - x.fr := i64e (by omega) (by omega)
  have fin : j < W.length ∧ Ext H3 K1 := ⟨hj2, e1⟩
  have d12 : decide ((1 : Int) = 2) = false := rfl
  have d21 : decide ((2 : Int) = 1) = false := rfl
  have d11 : decide ((1 : Int) = 1) = true := rfl
  have d22 : decide ((2 : Int) = 2) = true := rfl
  have hy : W[j].why = 1 ∨ W[j].why = 2 ∨ (decide (W[j].why = 1) = false ∧ decide (W[j].why = 2) = false) := by
    by_cases a : W[j].why = 1
    · exact .inl a
    · by_cases b : W[j].why = 2
      · exact .inr (.inl b)
      · exact .inr (.inr ⟨decide_eq_false a, decide_eq_false b⟩)
  have gapF : W[j].why = 2 → 0 < p ∧ ldV K1 (ptrAt lv ((p - 1) * 3 + 1)) = some (.int .i64 (tAt l (p - 1)).to) ∧ iaV 3 lv (.int .i64 (((p - 1 : Nat) : Int))) = some (ptrAt lv ((p - 1) * 3)) ∧ IntKind.i64.wrap ((p : Int) - 1) = ((p - 1 : Nat) : Int) ∧
      IntKind.i64.wrap (x.fr - (tAt l (p - 1)).to) = x.fr - (tAt l (p - 1)).to ∧ decide (st.gap ≤ x.fr - (tAt l (p - 1)).to) = false ∧ decide ((p : Int) = 0) = false := by
    intro hq
    obtain ⟨g1, g2⟩ := T.gap hq
    have hlt := T.lt
    have h3 : p - 1 < l.length := by omega
    refine ⟨g1, ?_, RL1.2.1 .i64 (p - 1) h3, i64e (by omega) (by omega), ?_, decide_eq_false (by omega), decide_eq_false (by omega)⟩
    · rw [tAt_eq h3]; exact RL1.2.2.2.1 (p - 1) 1 h3 (by omega)
    · have a := (T.ok.2 (p - 1) h3).1
      unfold timeOk at a
      exact i64e (by omega) (by omega)
  have fW := FAW 1
  by_cases cA : 0 < j
  · have hj1 : j - 1 < W.length := by omega
    have wp : IntKind.i64.wrap ((j : Int) - 1) = ((j - 1 : Nat) : Int) := i64e (by omega) (by omega)
    have IAP := RK.2.1 .i64 (j - 1) hj1
    have LPp : ldV K1 (ptrAt wv ((j - 1) * 2)) = some (.int .i64 (W[j - 1]).pos) := RK1.2.2.2.2.1 (j - 1) hj1
    have LWp : ldV K1 (ptrAt wv ((j - 1) * 2 + 1)) = some (.int .i64 (W[j - 1]).why) := RK1.2.2.2.1 (j - 1) 1 hj1 (by omega)
    have o := ord j hj2 cA
    have tp := T.pos
    have cAI : decide ((0 : Int) < (j : Int)) = true := decide_eq_true (by omega)
    by_cases ce : (p : Int) = (W[j - 1]).pos
    · have cl : decide ((p : Int) < (W[j - 1]).pos) = false := decide_eq_false (by omega)
      have ce' : decide ((p : Int) = (W[j - 1]).pos) = true := decide_eq_true ce
      have cw : decide (W[j].why ≤ (W[j - 1]).why) = false := decide_eq_false (by rcases o with o | ⟨_, o⟩ <;> omega)
      rcases hy with hw | hw | ⟨hw1, hw2⟩
      · have sF : decide (st.least ≤ x.to - x.fr) = false := decide_eq_false (by have := T.short hw; omega)
        rw [hw] at LW cw
        simp (maxSteps := 4000000) (disch := omega) only [ah, am, Nat.reduceEqDiff, reduceCtorEq, Nat.reduceAdd, Nat.reduceLeDiff, Nat.reduceMul, Nat.reduceLT, if_true, if_false, true_and, and_true, and_self, Nat.reduceBEq, QOp.loads, boxO, bslO, buildO, cutL, fillV, putL, w3, v3, IAW, FAW 0 _ hWl, FAW 1 _ hWl, Nat.add_zero, LP, cAI, wp, IAP, LPp, LWp, cl, ce', cw, LW, d11, d12, DT, DB, wl, sF, wj]
        exact fin
      · obtain ⟨g1, g2, g3, g4, g5, g6, g7⟩ := gapF hw
        rw [hw] at LW cw
        simp (maxSteps := 4000000) (disch := omega) only [ah, am, Nat.reduceEqDiff, reduceCtorEq, Nat.reduceAdd, Nat.reduceLeDiff, Nat.reduceMul, Nat.reduceLT, if_true, if_false, true_and, and_true, and_self, Nat.reduceBEq, QOp.loads, boxO, bslO, buildO, cutL, fillV, putL, w3, v3, IAW, FAW 0 _ hWl, FAW 1 _ hWl, Nat.add_zero, LP, cAI, wp, IAP, LPp, LWp, cl, ce', cw, LW, d21, d22, g2, g3, g4, g5, g6, g7, FAL 1 _ hll, DT, DB, wl, wj]
        exact fin
      · simp (maxSteps := 4000000) (disch := omega) only [ah, am, Nat.reduceEqDiff, reduceCtorEq, Nat.reduceAdd, Nat.reduceLeDiff, Nat.reduceMul, Nat.reduceLT, if_true, if_false, true_and, and_true, and_self, Nat.reduceBEq, QOp.loads, boxO, bslO, buildO, cutL, fillV, putL, w3, v3, IAW, FAW 0 _ hWl, FAW 1 _ hWl, Nat.add_zero, LP, cAI, wp, IAP, LPp, LWp, cl, ce', cw, LW, hw1, hw2, wj]
        exact fin
    · have cl : decide ((p : Int) < (W[j - 1]).pos) = false := decide_eq_false (by rcases o with o | ⟨o, _⟩ <;> omega)
      have ce' : decide ((p : Int) = (W[j - 1]).pos) = false := decide_eq_false ce
      rcases hy with hw | hw | ⟨hw1, hw2⟩
      · have sF : decide (st.least ≤ x.to - x.fr) = false := decide_eq_false (by have := T.short hw; omega)
        rw [hw] at LW
        simp (maxSteps := 4000000) (disch := omega) only [ah, am, Nat.reduceEqDiff, reduceCtorEq, Nat.reduceAdd, Nat.reduceLeDiff, Nat.reduceMul, Nat.reduceLT, if_true, if_false, true_and, and_true, and_self, Nat.reduceBEq, QOp.loads, boxO, bslO, buildO, cutL, fillV, putL, w3, v3, IAW, FAW 0 _ hWl, FAW 1 _ hWl, Nat.add_zero, LP, cAI, wp, IAP, LPp, LWp, cl, ce', LW, d11, d12, DT, DB, wl, sF, wj]
        exact fin
      · obtain ⟨g1, g2, g3, g4, g5, g6, g7⟩ := gapF hw
        rw [hw] at LW
        simp (maxSteps := 4000000) (disch := omega) only [ah, am, Nat.reduceEqDiff, reduceCtorEq, Nat.reduceAdd, Nat.reduceLeDiff, Nat.reduceMul, Nat.reduceLT, if_true, if_false, true_and, and_true, and_self, Nat.reduceBEq, QOp.loads, boxO, bslO, buildO, cutL, fillV, putL, w3, v3, IAW, FAW 0 _ hWl, FAW 1 _ hWl, Nat.add_zero, LP, cAI, wp, IAP, LPp, LWp, cl, ce', LW, d21, d22, g2, g3, g4, g5, g6, g7, FAL 1 _ hll, DT, DB, wl, wj]
        exact fin
      · simp (maxSteps := 4000000) (disch := omega) only [ah, am, Nat.reduceEqDiff, reduceCtorEq, Nat.reduceAdd, Nat.reduceLeDiff, Nat.reduceMul, Nat.reduceLT, if_true, if_false, true_and, and_true, and_self, Nat.reduceBEq, QOp.loads, boxO, bslO, buildO, cutL, fillV, putL, w3, v3, IAW, FAW 0 _ hWl, FAW 1 _ hWl, Nat.add_zero, LP, cAI, wp, IAP, LPp, LWp, cl, ce', LW, hw1, hw2, wj]
        exact fin
  · have cAI : decide ((0 : Int) < (j : Int)) = false := decide_eq_false (by omega)
    rcases hy with hw | hw | ⟨hw1, hw2⟩
    · have sF : decide (st.least ≤ x.to - x.fr) = false := decide_eq_false (by have := T.short hw; omega)
      rw [hw] at LW
      simp (maxSteps := 4000000) (disch := omega) only [ah, am, Nat.reduceEqDiff, reduceCtorEq, Nat.reduceAdd, Nat.reduceLeDiff, Nat.reduceMul, Nat.reduceLT, if_true, if_false, true_and, and_true, and_self, Nat.reduceBEq, QOp.loads, boxO, bslO, buildO, cutL, fillV, putL, w3, v3, IAW, FAW 0 _ hWl, FAW 1 _ hWl, Nat.add_zero, LP, cAI, LW, d11, d12, DT, DB, wl, sF, wj]
      exact fin
    · obtain ⟨g1, g2, g3, g4, g5, g6, g7⟩ := gapF hw
      rw [hw] at LW
      simp (maxSteps := 4000000) (disch := omega) only [ah, am, Nat.reduceEqDiff, reduceCtorEq, Nat.reduceAdd, Nat.reduceLeDiff, Nat.reduceMul, Nat.reduceLT, if_true, if_false, true_and, and_true, and_self, Nat.reduceBEq, QOp.loads, boxO, bslO, buildO, cutL, fillV, putL, w3, v3, IAW, FAW 0 _ hWl, FAW 1 _ hWl, Nat.add_zero, LP, cAI, LW, d21, d22, g2, g3, g4, g5, g6, g7, FAL 1 _ hll, DT, DB, wl, wj]
      exact fin
    · simp (maxSteps := 4000000) (disch := omega) only [ah, am, Nat.reduceEqDiff, reduceCtorEq, Nat.reduceAdd, Nat.reduceLeDiff, Nat.reduceMul, Nat.reduceLT, if_true, if_false, true_and, and_true, and_self, Nat.reduceBEq, QOp.loads, boxO, bslO, buildO, cutL, fillV, putL, w3, v3, IAW, FAW 0 _ hWl, FAW 1 _ hWl, Nat.add_zero, LP, cAI, LW, hw1, hw2, wj]
      exact fin
end Go.Proofs.YtgjppbmbpjomgaaDoor
