import Derived.Test.YtknpombiomnkbaaI8
import Derived.Test.YtknpombiomnkbaaS10
namespace Go.Proofs.Ytknpombiomnkbaa
open Go Go.Ah
set_option linter.unusedSimpArgs false
set_option linter.unusedVariables false
set_option maxRecDepth 10000
set_option maxHeartbeats 4000000
/-! 65 loop.example/g00066/impl.placed: parameters 3, live [0, 1, 2], slots [0:track, 1:at, 2:clip, 3:track, 4:at, 5:clip] -/
def c65_0 : List SOper := [⟨some 5, .a (.box (.t 2)), none⟩, ⟨some 6, .q (.mv (.c (.bool false))), none⟩]
def c65_1 : List SOper := [⟨some 7, .q (.mv (.t 0)), none⟩, ⟨some 8, .e (.call 50 [(.t 7)]), none⟩, ⟨some 9, .q (.mv (.t 8)), none⟩, ⟨some 10, .q (.ldn 3 (.t 5)), some (9, true)⟩, ⟨some 11, .e (.call 53 [(.t 10)]), some (9, true)⟩, ⟨some 12, .q (.pick (.t 9) (.t 11) (.c (.bool false))), none⟩, ⟨some 13, .q (.mv (.t 12)), none⟩, ⟨some 14, .q (.mv (.t 1)), some (13, true)⟩, ⟨some 15, .q (.mv (.t 0)), some (13, true)⟩, ⟨some 16, .e (.call 60 [(.t 15)]), some (13, true)⟩, ⟨some 17, .e (.call 51 [(.t 14), (.c (.int .i64 0)), (.t 16)]), some (13, true)⟩, ⟨some 18, .q (.pick (.t 13) (.t 17) (.c (.bool false))), none⟩, ⟨some 6, .q (.mv (.t 18)), none⟩]
def c65_2 : SCode := .seq (.region c65_1 [6]) .ret
def c65_3 : SCode := .seq (.region c65_0 [0, 1, 5]) c65_2
def c65 : SCode := c65_3
theorem w65 : type_of% (And.intro (uR Try.prog c65_0.eq_1) (And.intro (uR Try.prog c65_1.eq_1) (And.intro (uC Try.prog c65_2.eq_1) (And.intro (uC Try.prog c65_3.eq_1) (uC Try.prog c65.eq_1))))) := (And.intro (uR Try.prog c65_0.eq_1) (And.intro (uR Try.prog c65_1.eq_1) (And.intro (uC Try.prog c65_2.eq_1) (And.intro (uC Try.prog c65_3.eq_1) (uC Try.prog c65.eq_1)))))
def v65 : List RV := [.t 6]
theorem s65 : slimF Try.prog Try.f65 = some (c65.bare, v65) := by kernel_rfl
/-! 77 loop.example/g00066/impl.within: parameters 3, live [0, 1, 2], slots [0:track, 1:at, 2:n, 3:track, 4:at, 5:n] -/
def c77_0 : List SOper := [⟨some 6, .q (.mv (.c (.bool false))), none⟩]
def c77_1 : List SOper := [⟨some 7, .q (.mv (.t 0)), none⟩, ⟨some 8, .e (.call 50 [(.t 7)]), none⟩, ⟨some 9, .q (.mv (.t 8)), none⟩, ⟨some 10, .q (.mv (.t 2)), some (9, true)⟩, ⟨some 11, .q (.bin .geq (.t 10) (.c (.int .i64 1))), some (9, true)⟩, ⟨some 12, .q (.pick (.t 9) (.t 11) (.c (.bool false))), none⟩, ⟨some 13, .q (.mv (.t 12)), none⟩, ⟨some 14, .q (.mv (.t 1)), some (13, true)⟩, ⟨some 15, .q (.bin .geq (.t 14) (.c (.int .i64 0))), some (13, true)⟩, ⟨some 16, .q (.pick (.t 13) (.t 15) (.c (.bool false))), none⟩, ⟨some 17, .q (.mv (.t 16)), none⟩, ⟨some 18, .q (.mv (.t 2)), some (17, true)⟩, ⟨some 19, .q (.mv (.t 0)), some (17, true)⟩, ⟨some 20, .e (.call 60 [(.t 19)]), some (17, true)⟩, ⟨some 21, .q (.mv (.t 1)), some (17, true)⟩, ⟨some 22, .q (.mv (.t 0)), some (17, true)⟩, ⟨some 23, .e (.call 60 [(.t 22)]), some (17, true)⟩, ⟨some 24, .q (.mn (.t 21) (.t 23)), some (17, true)⟩, ⟨some 25, .q (.bin .sub (.t 20) (.t 24)), some (17, true)⟩, ⟨some 26, .q (.bin .leq (.t 18) (.t 25)), some (17, true)⟩, ⟨some 27, .q (.pick (.t 17) (.t 26) (.c (.bool false))), none⟩, ⟨some 6, .q (.mv (.t 27)), none⟩]
def c77_2 : SCode := .seq (.region c77_1 [6]) .ret
def c77_3 : SCode := .seq (.region c77_0 [0, 1, 2]) c77_2
def c77 : SCode := c77_3
theorem w77 : type_of% (And.intro (uR Try.prog c77_0.eq_1) (And.intro (uR Try.prog c77_1.eq_1) (And.intro (uC Try.prog c77_2.eq_1) (And.intro (uC Try.prog c77_3.eq_1) (uC Try.prog c77.eq_1))))) := (And.intro (uR Try.prog c77_0.eq_1) (And.intro (uR Try.prog c77_1.eq_1) (And.intro (uC Try.prog c77_2.eq_1) (And.intro (uC Try.prog c77_3.eq_1) (uC Try.prog c77.eq_1)))))
def v77 : List RV := [.t 6]
theorem s77 : slimF Try.prog Try.f77 = some (c77.bare, v77) := by kernel_rfl
/-! 32 loop.example/g00066/impl.Insert: parameters 3, live [0, 1, 2], slots [0:track, 1:at, 2:clip, 3:track, 4:at, 5:clip] -/
def c32_0 : List SOper := [⟨some 5, .a (.box (.t 2)), none⟩, ⟨some 6, .q (.mv (.c (.slice none 0 0))), none⟩, ⟨some 7, .q (.mv (.c (.bool false))), none⟩]
def c32_1 : List SOper := [⟨some 8, .q (.mv (.t 0)), none⟩, ⟨some 9, .q (.mv (.t 1)), none⟩, ⟨some 10, .q (.ldn 3 (.t 5)), none⟩, ⟨some 11, .e (.call 65 [(.t 8), (.t 9), (.t 10)]), none⟩, ⟨some 12, .q (.not (.t 11)), none⟩]
def c32_2 : List SOper := [⟨some 6, .q (.mv (.c (.slice none 0 0))), none⟩, ⟨some 7, .q (.mv (.c (.bool false))), none⟩]
def c32_3 : SCode := .seq (.region c32_2 [6, 7]) .ret
def c32_4 : SCode := .cond (.t 12) c32_3 .skip
def c32_5 : SCode := .seq (.region c32_1 [0, 1, 5, 12]) c32_4
def c32_6 : List DOper := [⟨0, ⟨some 13, .q (.mv (.t 0)), none⟩, [], []⟩, ⟨1, ⟨some 14, .q (.mv (.t 1)), none⟩, [], []⟩, ⟨3, ⟨some 16, .q (.ldn 3 (.t 5)), none⟩, [], []⟩, ⟨4, ⟨some 17, .a (.bsl 1 3 [(.int .i64 0), (.int .i64 0), (.int .i64 0)] [(0, 3, (.t 16))]), none⟩, [], []⟩, ⟨5, ⟨some 18, .q (.mv (.t 0)), none⟩, [], []⟩, ⟨6, ⟨some 19, .q (.mv (.t 1)), none⟩, [], []⟩, ⟨7, ⟨some 20, .q (.mv (.t 0)), none⟩, [], []⟩, ⟨2, ⟨some 15, .e (.call 66 [(.t 13), (.c (.int .i64 0)), (.t 14)]), none⟩, [], [3]⟩, ⟨8, ⟨some 21, .e (.call 60 [(.t 20)]), none⟩, [], [3]⟩, ⟨9, ⟨some 22, .e (.call 66 [(.t 18), (.t 19), (.t 21)]), none⟩, [], [3]⟩, ⟨10, ⟨some 23, .a (.bsl 3 1 [(.slice none 0 0), (.slice none 0 0), (.slice none 0 0)] [(0, 1, (.t 15)), (1, 1, (.t 17)), (2, 1, (.t 22))]), none⟩, [], []⟩, ⟨11, ⟨some 24, .e (.call 54 [(.t 23)]), none⟩, [], []⟩, ⟨12, ⟨some 25, .q (.ext (.t 24) 0), none⟩, [], []⟩, ⟨13, ⟨some 26, .q (.ext (.t 24) 1), none⟩, [], []⟩, ⟨14, ⟨some 6, .q (.mv (.t 25)), none⟩, [], []⟩, ⟨15, ⟨some 7, .q (.mv (.t 26)), none⟩, [], []⟩]
def c32_7 : SCode := .seq (.dregion c32_6 [6, 7]) .ret
def c32_8 : SCode := .seq c32_5 c32_7
def c32_9 : SCode := .seq (.region c32_0 [0, 1, 5]) c32_8
def c32 : SCode := c32_9
theorem w32 : type_of% (And.intro (uR Try.prog c32_0.eq_1) (And.intro (uR Try.prog c32_1.eq_1) (And.intro (uR Try.prog c32_2.eq_1) (And.intro (uC Try.prog c32_3.eq_1) (And.intro (uC Try.prog c32_4.eq_1) (And.intro (uC Try.prog c32_5.eq_1) (And.intro (uD Try.prog c32_6.eq_1) (And.intro (uC Try.prog c32_7.eq_1) (And.intro (uC Try.prog c32_8.eq_1) (And.intro (uC Try.prog c32_9.eq_1) (uC Try.prog c32.eq_1))))))))))) := (And.intro (uR Try.prog c32_0.eq_1) (And.intro (uR Try.prog c32_1.eq_1) (And.intro (uR Try.prog c32_2.eq_1) (And.intro (uC Try.prog c32_3.eq_1) (And.intro (uC Try.prog c32_4.eq_1) (And.intro (uC Try.prog c32_5.eq_1) (And.intro (uD Try.prog c32_6.eq_1) (And.intro (uC Try.prog c32_7.eq_1) (And.intro (uC Try.prog c32_8.eq_1) (And.intro (uC Try.prog c32_9.eq_1) (uC Try.prog c32.eq_1)))))))))))
def v32 : List RV := [.t 6, .t 7]
theorem s32 : slimF Try.prog Try.f32 = some (c32.bare, v32) := by kernel_rfl
/-! 22 loop.example/g00066/impl.Overwrite: parameters 3, live [0, 1, 2], slots [0:track, 1:at, 2:clip, 3:track, 4:at, 5:clip] -/
def c22_0 : List SOper := [⟨some 5, .a (.box (.t 2)), none⟩, ⟨some 6, .q (.mv (.c (.slice none 0 0))), none⟩, ⟨some 7, .q (.mv (.c (.bool false))), none⟩]
def c22_1 : List SOper := [⟨some 8, .q (.mv (.t 0)), none⟩, ⟨some 9, .q (.mv (.t 1)), none⟩, ⟨some 10, .q (.ldn 3 (.t 5)), none⟩, ⟨some 11, .e (.call 65 [(.t 8), (.t 9), (.t 10)]), none⟩, ⟨some 12, .q (.not (.t 11)), none⟩]
def c22_2 : List SOper := [⟨some 6, .q (.mv (.c (.slice none 0 0))), none⟩, ⟨some 7, .q (.mv (.c (.bool false))), none⟩]
def c22_3 : SCode := .seq (.region c22_2 [6, 7]) .ret
def c22_4 : SCode := .cond (.t 12) c22_3 .skip
def c22_5 : SCode := .seq (.region c22_1 [0, 1, 5, 12]) c22_4
def c22_6 : List DOper := [⟨0, ⟨some 13, .q (.mv (.t 0)), none⟩, [], []⟩, ⟨1, ⟨some 14, .q (.mv (.t 1)), none⟩, [], []⟩, ⟨3, ⟨some 16, .q (.ldn 3 (.t 5)), none⟩, [], []⟩, ⟨4, ⟨some 17, .a (.bsl 1 3 [(.int .i64 0), (.int .i64 0), (.int .i64 0)] [(0, 3, (.t 16))]), none⟩, [], []⟩, ⟨5, ⟨some 18, .q (.mv (.t 0)), none⟩, [], []⟩, ⟨6, ⟨some 19, .q (.mv (.t 1)), none⟩, [], []⟩, ⟨7, ⟨some 20, .q (.fa 2 (.t 5)), none⟩, [], []⟩, ⟨8, ⟨some 21, .q (.ld (.t 20)), none⟩, [], []⟩, ⟨9, ⟨some 22, .q (.bin .add (.t 19) (.t 21)), none⟩, [], []⟩, ⟨10, ⟨some 23, .q (.mv (.t 0)), none⟩, [], []⟩, ⟨2, ⟨some 15, .e (.call 66 [(.t 13), (.c (.int .i64 0)), (.t 14)]), none⟩, [], [8, 3]⟩, ⟨11, ⟨some 24, .e (.call 60 [(.t 23)]), none⟩, [], [8, 3]⟩, ⟨12, ⟨some 25, .e (.call 66 [(.t 18), (.t 22), (.t 24)]), none⟩, [], [3]⟩, ⟨13, ⟨some 26, .a (.bsl 3 1 [(.slice none 0 0), (.slice none 0 0), (.slice none 0 0)] [(0, 1, (.t 15)), (1, 1, (.t 17)), (2, 1, (.t 25))]), none⟩, [], []⟩, ⟨14, ⟨some 27, .e (.call 54 [(.t 26)]), none⟩, [], []⟩, ⟨15, ⟨some 28, .q (.ext (.t 27) 0), none⟩, [], []⟩, ⟨16, ⟨some 29, .q (.ext (.t 27) 1), none⟩, [], []⟩, ⟨17, ⟨some 6, .q (.mv (.t 28)), none⟩, [], []⟩, ⟨18, ⟨some 7, .q (.mv (.t 29)), none⟩, [], []⟩]
def c22_7 : SCode := .seq (.dregion c22_6 [6, 7]) .ret
def c22_8 : SCode := .seq c22_5 c22_7
def c22_9 : SCode := .seq (.region c22_0 [0, 1, 5]) c22_8
def c22 : SCode := c22_9
theorem w22 : type_of% (And.intro (uR Try.prog c22_0.eq_1) (And.intro (uR Try.prog c22_1.eq_1) (And.intro (uR Try.prog c22_2.eq_1) (And.intro (uC Try.prog c22_3.eq_1) (And.intro (uC Try.prog c22_4.eq_1) (And.intro (uC Try.prog c22_5.eq_1) (And.intro (uD Try.prog c22_6.eq_1) (And.intro (uC Try.prog c22_7.eq_1) (And.intro (uC Try.prog c22_8.eq_1) (And.intro (uC Try.prog c22_9.eq_1) (uC Try.prog c22.eq_1))))))))))) := (And.intro (uR Try.prog c22_0.eq_1) (And.intro (uR Try.prog c22_1.eq_1) (And.intro (uR Try.prog c22_2.eq_1) (And.intro (uC Try.prog c22_3.eq_1) (And.intro (uC Try.prog c22_4.eq_1) (And.intro (uC Try.prog c22_5.eq_1) (And.intro (uD Try.prog c22_6.eq_1) (And.intro (uC Try.prog c22_7.eq_1) (And.intro (uC Try.prog c22_8.eq_1) (And.intro (uC Try.prog c22_9.eq_1) (uC Try.prog c22.eq_1)))))))))))
def v22 : List RV := [.t 6, .t 7]
theorem s22 : slimF Try.prog Try.f22 = some (c22.bare, v22) := by kernel_rfl
/-! 34 loop.example/g00066/impl.Extract: parameters 3, live [0, 1, 2], slots [0:track, 1:at, 2:n, 3:track, 4:at, 5:n] -/
def c34_0 : List SOper := [⟨some 6, .q (.mv (.c (.slice none 0 0))), none⟩, ⟨some 7, .q (.mv (.c (.bool false))), none⟩]
def c34_1 : List SOper := [⟨some 8, .q (.mv (.t 0)), none⟩, ⟨some 9, .q (.mv (.t 1)), none⟩, ⟨some 10, .q (.mv (.t 2)), none⟩, ⟨some 11, .e (.call 77 [(.t 8), (.t 9), (.t 10)]), none⟩, ⟨some 12, .q (.not (.t 11)), none⟩]
def c34_2 : List SOper := [⟨some 6, .q (.mv (.c (.slice none 0 0))), none⟩, ⟨some 7, .q (.mv (.c (.bool false))), none⟩]
def c34_3 : SCode := .seq (.region c34_2 [6, 7]) .ret
def c34_4 : SCode := .cond (.t 12) c34_3 .skip
def c34_5 : SCode := .seq (.region c34_1 [0, 1, 2, 12]) c34_4
def c34_6 : List SOper := [⟨some 13, .q (.mv (.t 0)), none⟩, ⟨some 14, .q (.mv (.t 1)), none⟩, ⟨some 15, .e (.call 66 [(.t 13), (.c (.int .i64 0)), (.t 14)]), none⟩, ⟨some 16, .q (.mv (.t 0)), none⟩, ⟨some 17, .q (.mv (.t 1)), none⟩, ⟨some 18, .q (.mv (.t 2)), none⟩, ⟨some 19, .q (.bin .add (.t 17) (.t 18)), none⟩, ⟨some 20, .q (.mv (.t 0)), none⟩, ⟨some 21, .e (.call 60 [(.t 20)]), none⟩, ⟨some 22, .e (.call 66 [(.t 16), (.t 19), (.t 21)]), none⟩, ⟨some 23, .a (.bsl 2 1 [(.slice none 0 0), (.slice none 0 0)] [(0, 1, (.t 15)), (1, 1, (.t 22))]), none⟩, ⟨some 24, .e (.call 54 [(.t 23)]), none⟩, ⟨some 25, .q (.ext (.t 24) 0), none⟩, ⟨some 26, .q (.ext (.t 24) 1), none⟩, ⟨some 6, .q (.mv (.t 25)), none⟩, ⟨some 7, .q (.mv (.t 26)), none⟩]
def c34_7 : SCode := .seq (.region c34_6 [6, 7]) .ret
def c34_8 : SCode := .seq c34_5 c34_7
def c34_9 : SCode := .seq (.region c34_0 [0, 1, 2]) c34_8
def c34 : SCode := c34_9
theorem w34 : type_of% (And.intro (uR Try.prog c34_0.eq_1) (And.intro (uR Try.prog c34_1.eq_1) (And.intro (uR Try.prog c34_2.eq_1) (And.intro (uC Try.prog c34_3.eq_1) (And.intro (uC Try.prog c34_4.eq_1) (And.intro (uC Try.prog c34_5.eq_1) (And.intro (uR Try.prog c34_6.eq_1) (And.intro (uC Try.prog c34_7.eq_1) (And.intro (uC Try.prog c34_8.eq_1) (And.intro (uC Try.prog c34_9.eq_1) (uC Try.prog c34.eq_1))))))))))) := (And.intro (uR Try.prog c34_0.eq_1) (And.intro (uR Try.prog c34_1.eq_1) (And.intro (uR Try.prog c34_2.eq_1) (And.intro (uC Try.prog c34_3.eq_1) (And.intro (uC Try.prog c34_4.eq_1) (And.intro (uC Try.prog c34_5.eq_1) (And.intro (uR Try.prog c34_6.eq_1) (And.intro (uC Try.prog c34_7.eq_1) (And.intro (uC Try.prog c34_8.eq_1) (And.intro (uC Try.prog c34_9.eq_1) (uC Try.prog c34.eq_1)))))))))))
def v34 : List RV := [.t 6, .t 7]
theorem s34 : slimF Try.prog Try.f34 = some (c34.bare, v34) := by kernel_rfl
/-! 29 loop.example/g00066/impl.Lift: parameters 3, live [0, 1, 2], slots [0:track, 1:at, 2:n, 3:track, 4:at, 5:n] -/
def c29_0 : List SOper := [⟨some 6, .q (.mv (.c (.slice none 0 0))), none⟩, ⟨some 7, .q (.mv (.c (.bool false))), none⟩]
def c29_1 : List SOper := [⟨some 8, .q (.mv (.t 0)), none⟩, ⟨some 9, .q (.mv (.t 1)), none⟩, ⟨some 10, .q (.mv (.t 2)), none⟩, ⟨some 11, .e (.call 77 [(.t 8), (.t 9), (.t 10)]), none⟩, ⟨some 12, .q (.not (.t 11)), none⟩]
def c29_2 : List SOper := [⟨some 6, .q (.mv (.c (.slice none 0 0))), none⟩, ⟨some 7, .q (.mv (.c (.bool false))), none⟩]
def c29_3 : SCode := .seq (.region c29_2 [6, 7]) .ret
def c29_4 : SCode := .cond (.t 12) c29_3 .skip
def c29_5 : SCode := .seq (.region c29_1 [0, 1, 2, 12]) c29_4
def c29_6 : List SOper := [⟨some 13, .q (.mv (.t 0)), none⟩, ⟨some 14, .q (.mv (.t 1)), none⟩, ⟨some 15, .e (.call 66 [(.t 13), (.c (.int .i64 0)), (.t 14)]), none⟩, ⟨some 16, .q (.mv (.t 2)), none⟩, ⟨some 17, .q (.build [(.int .i64 0), (.int .i64 0), (.int .i64 0)] [(2, 1, (.t 16))]), none⟩, ⟨some 18, .a (.bsl 1 3 [(.int .i64 0), (.int .i64 0), (.int .i64 0)] [(0, 3, (.t 17))]), none⟩, ⟨some 19, .q (.mv (.t 0)), none⟩, ⟨some 20, .q (.mv (.t 1)), none⟩, ⟨some 21, .q (.mv (.t 2)), none⟩, ⟨some 22, .q (.bin .add (.t 20) (.t 21)), none⟩, ⟨some 23, .q (.mv (.t 0)), none⟩, ⟨some 24, .e (.call 60 [(.t 23)]), none⟩, ⟨some 25, .e (.call 66 [(.t 19), (.t 22), (.t 24)]), none⟩, ⟨some 26, .a (.bsl 3 1 [(.slice none 0 0), (.slice none 0 0), (.slice none 0 0)] [(0, 1, (.t 15)), (1, 1, (.t 18)), (2, 1, (.t 25))]), none⟩, ⟨some 27, .e (.call 54 [(.t 26)]), none⟩, ⟨some 28, .q (.ext (.t 27) 0), none⟩, ⟨some 29, .q (.ext (.t 27) 1), none⟩, ⟨some 6, .q (.mv (.t 28)), none⟩, ⟨some 7, .q (.mv (.t 29)), none⟩]
def c29_7 : SCode := .seq (.region c29_6 [6, 7]) .ret
def c29_8 : SCode := .seq c29_5 c29_7
def c29_9 : SCode := .seq (.region c29_0 [0, 1, 2]) c29_8
def c29 : SCode := c29_9
theorem w29 : type_of% (And.intro (uR Try.prog c29_0.eq_1) (And.intro (uR Try.prog c29_1.eq_1) (And.intro (uR Try.prog c29_2.eq_1) (And.intro (uC Try.prog c29_3.eq_1) (And.intro (uC Try.prog c29_4.eq_1) (And.intro (uC Try.prog c29_5.eq_1) (And.intro (uR Try.prog c29_6.eq_1) (And.intro (uC Try.prog c29_7.eq_1) (And.intro (uC Try.prog c29_8.eq_1) (And.intro (uC Try.prog c29_9.eq_1) (uC Try.prog c29.eq_1))))))))))) := (And.intro (uR Try.prog c29_0.eq_1) (And.intro (uR Try.prog c29_1.eq_1) (And.intro (uR Try.prog c29_2.eq_1) (And.intro (uC Try.prog c29_3.eq_1) (And.intro (uC Try.prog c29_4.eq_1) (And.intro (uC Try.prog c29_5.eq_1) (And.intro (uR Try.prog c29_6.eq_1) (And.intro (uC Try.prog c29_7.eq_1) (And.intro (uC Try.prog c29_8.eq_1) (And.intro (uC Try.prog c29_9.eq_1) (uC Try.prog c29.eq_1)))))))))))
def v29 : List RV := [.t 6, .t 7]
theorem s29 : slimF Try.prog Try.f29 = some (c29.bare, v29) := by kernel_rfl

theorem placed_ok (h : Heap) (v : Value) (l : List Clip) (pos : Int) (k : Clip) (s : SlT h encClip 3 v l) (hl : l.length ≤ 1100000) :
    ACall Try.prog 65 [v, .int .i64 pos, .agg (encClip k).toArray] h fun r h' => Ext h h' ∧ r = .bool (decide (insOk l pos k)) := by
  refine ACall.of Try.func65 s65 (of_decide_eq_true rfl) ?_
  simp (maxSteps := 4000000) (disch := omega) only [ah, am, Nat.reduceEqDiff, reduceCtorEq, Nat.reduceAdd, Nat.reduceLeDiff, Nat.reduceMul, Nat.reduceLT, if_true, if_false, true_and, and_true, and_self, Nat.reduceBEq, QOp.loads, boxO, bslO, buildO, cutL, fillV, putL, w65, v65, encClip]
  refine stepC.of (implTrackOk_ok _ _ _ (s.ext (Ext.more h _)) (by omega)) ?_
  rintro _ H1 ⟨e1, rfl⟩
  have E1 : Ext h H1 := (Ext.more h _).trans e1
  have X := e1.ld0
  by_cases ht : trackOk l
  · have ht' : decide (trackOk l) = true := decide_eq_true ht
    have hlen := ht.1; have hsum := ht.2.2
    have cc := ok_ok H1 k
    simp only [encClip] at cc
    simp (maxSteps := 4000000) (disch := omega) only [ah, am, Nat.reduceEqDiff, reduceCtorEq, Nat.reduceAdd, Nat.reduceLeDiff, Nat.reduceMul, Nat.reduceLT, if_true, if_false, true_and, and_true, and_self, Nat.reduceBEq, QOp.loads, boxO, bslO, buildO, cutL, fillV, putL, w65, v65, ht', X, encClip]
    refine stepC.of cc ?_
    rintro _ H2 ⟨e2, rfl⟩
    by_cases hk : clipOk k
    · have hk' : decide (clipOk k) = true := decide_eq_true hk
      simp (maxSteps := 4000000) (disch := omega) only [ah, am, Nat.reduceEqDiff, reduceCtorEq, Nat.reduceAdd, Nat.reduceLeDiff, Nat.reduceMul, Nat.reduceLT, if_true, if_false, true_and, and_true, and_self, Nat.reduceBEq, QOp.loads, boxO, bslO, buildO, cutL, fillV, putL, w65, v65, ht', hk', X, encClip]
      refine stepC.of (long_ok _ _ _ (s.ext (E1.trans e2)) ht.1 ht.2.1) ?_
      rintro _ H3 ⟨e3, rfl⟩
      simp (maxSteps := 4000000) (disch := omega) only [ah, am, Nat.reduceEqDiff, reduceCtorEq, Nat.reduceAdd, Nat.reduceLeDiff, Nat.reduceMul, Nat.reduceLT, if_true, if_false, true_and, and_true, and_self, Nat.reduceBEq, QOp.loads, boxO, bslO, buildO, cutL, fillV, putL, w65, v65, ht', hk', X, encClip]
      refine stepC.of (in_ok _ _ _ _) ?_
      rintro _ Hx ⟨hx, rfl⟩; rw [hx]; clear hx Hx
      simp (maxSteps := 4000000) (disch := omega) only [ah, am, Nat.reduceEqDiff, reduceCtorEq, Nat.reduceAdd, Nat.reduceLeDiff, Nat.reduceMul, Nat.reduceLT, if_true, if_false, true_and, and_true, and_self, Nat.reduceBEq, QOp.loads, boxO, bslO, buildO, cutL, fillV, putL, w65, v65, ht', hk', X, encClip]
      refine ⟨(E1.trans e2).trans e3, ?_⟩
      refine bool_dec ?_; try simp only [decide_eq_true_eq, Bool.false_eq_true, false_and, and_false, true_and, and_true, false_iff, iff_false, true_iff, iff_true, not_false_eq_true, false_or, or_false, true_or, or_true, insOk, ht, hk]; first | done | omega | (refine Iff.intro (fun hq => ?_) (fun hq => ?_) <;> omega)
    · have hk' : decide (clipOk k) = false := decide_eq_false hk
      simp (maxSteps := 4000000) (disch := omega) only [ah, am, Nat.reduceEqDiff, reduceCtorEq, Nat.reduceAdd, Nat.reduceLeDiff, Nat.reduceMul, Nat.reduceLT, if_true, if_false, true_and, and_true, and_self, Nat.reduceBEq, QOp.loads, boxO, bslO, buildO, cutL, fillV, putL, w65, v65, ht', hk', X, encClip]
      refine ⟨E1.trans e2, ?_⟩
      rw [show decide (insOk l pos k) = false from decide_eq_false fun q => hk q.2.1]
  · have ht' : decide (trackOk l) = false := decide_eq_false ht
    simp (maxSteps := 4000000) (disch := omega) only [ah, am, Nat.reduceEqDiff, reduceCtorEq, Nat.reduceAdd, Nat.reduceLeDiff, Nat.reduceMul, Nat.reduceLT, if_true, if_false, true_and, and_true, and_self, Nat.reduceBEq, QOp.loads, boxO, bslO, buildO, cutL, fillV, putL, w65, v65, ht', X, encClip]
    refine ⟨E1, ?_⟩
    rw [show decide (insOk l pos k) = false from decide_eq_false fun q => ht q.1]
theorem within_ok (h : Heap) (v : Value) (l : List Clip) (pos n : Int) (s : SlT h encClip 3 v l) (hl : l.length ≤ 1100000) :
    ACall Try.prog 77 [v, .int .i64 pos, .int .i64 n] h fun r h' => Ext h h' ∧ r = .bool (decide (rangeOk l pos n)) := by
  refine ACall.of Try.func77 s77 (of_decide_eq_true rfl) ?_
  simp (maxSteps := 4000000) (disch := omega) only [ah, am, Nat.reduceEqDiff, reduceCtorEq, Nat.reduceAdd, Nat.reduceLeDiff, Nat.reduceMul, Nat.reduceLT, if_true, if_false, true_and, and_true, and_self, Nat.reduceBEq, QOp.loads, boxO, bslO, buildO, cutL, fillV, putL, w77, v77]
  refine stepC.of (implTrackOk_ok _ _ _ s (by omega)) ?_
  rintro _ H1 ⟨e1, rfl⟩
  by_cases ht : trackOk l
  · have ht' : decide (trackOk l) = true := decide_eq_true ht
    have hlen := ht.1; have hsum := ht.2.2
    have B := sumLen_bound ht.2.1
    by_cases hn : 1 ≤ n
    · have hn' : decide (1 ≤ n) = true := decide_eq_true hn
      by_cases hp : 0 ≤ pos
      · have hp' : decide (0 ≤ pos) = true := decide_eq_true hp
        simp (maxSteps := 4000000) (disch := omega) only [ah, am, Nat.reduceEqDiff, reduceCtorEq, Nat.reduceAdd, Nat.reduceLeDiff, Nat.reduceMul, Nat.reduceLT, if_true, if_false, true_and, and_true, and_self, Nat.reduceBEq, QOp.loads, boxO, bslO, buildO, cutL, fillV, putL, w77, v77, ht', hn', hp']
        refine stepC.of (long_ok _ _ _ (s.ext e1) ht.1 ht.2.1) ?_
        rintro _ H2 ⟨e2, rfl⟩
        simp (maxSteps := 4000000) (disch := omega) only [ah, am, Nat.reduceEqDiff, reduceCtorEq, Nat.reduceAdd, Nat.reduceLeDiff, Nat.reduceMul, Nat.reduceLT, if_true, if_false, true_and, and_true, and_self, Nat.reduceBEq, QOp.loads, boxO, bslO, buildO, cutL, fillV, putL, w77, v77, ht', hn', hp']
        refine stepC.of (long_ok _ _ _ (s.ext (e1.trans e2)) ht.1 ht.2.1) ?_
        rintro _ H3 ⟨e3, rfl⟩
        simp (maxSteps := 4000000) (disch := omega) only [ah, am, Nat.reduceEqDiff, reduceCtorEq, Nat.reduceAdd, Nat.reduceLeDiff, Nat.reduceMul, Nat.reduceLT, if_true, if_false, true_and, and_true, and_self, Nat.reduceBEq, QOp.loads, boxO, bslO, buildO, cutL, fillV, putL, w77, v77, ht', hn', hp', i64w]
        refine ⟨(e1.trans e2).trans e3, ?_⟩
        refine bool_dec ?_
        simp only [decide_eq_true_eq, rangeOk, ht, true_and]
        omega
      · have hp' : decide (0 ≤ pos) = false := decide_eq_false hp
        simp (maxSteps := 4000000) (disch := omega) only [ah, am, Nat.reduceEqDiff, reduceCtorEq, Nat.reduceAdd, Nat.reduceLeDiff, Nat.reduceMul, Nat.reduceLT, if_true, if_false, true_and, and_true, and_self, Nat.reduceBEq, QOp.loads, boxO, bslO, buildO, cutL, fillV, putL, w77, v77, ht', hn', hp']
        refine ⟨e1, ?_⟩
        rw [show decide (rangeOk l pos n) = false from decide_eq_false fun q => hp q.2.1.1]
    · have hn' : decide (1 ≤ n) = false := decide_eq_false hn
      simp (maxSteps := 4000000) (disch := omega) only [ah, am, Nat.reduceEqDiff, reduceCtorEq, Nat.reduceAdd, Nat.reduceLeDiff, Nat.reduceMul, Nat.reduceLT, if_true, if_false, true_and, and_true, and_self, Nat.reduceBEq, QOp.loads, boxO, bslO, buildO, cutL, fillV, putL, w77, v77, ht', hn']
      refine ⟨e1, ?_⟩
      rw [show decide (rangeOk l pos n) = false from decide_eq_false fun q => hn q.2.2.1]
  · have ht' : decide (trackOk l) = false := decide_eq_false ht
    simp (maxSteps := 4000000) (disch := omega) only [ah, am, Nat.reduceEqDiff, reduceCtorEq, Nat.reduceAdd, Nat.reduceLeDiff, Nat.reduceMul, Nat.reduceLT, if_true, if_false, true_and, and_true, and_self, Nat.reduceBEq, QOp.loads, boxO, bslO, buildO, cutL, fillV, putL, w77, v77, ht']
    refine ⟨e1, ?_⟩
    rw [show decide (rangeOk l pos n) = false from decide_eq_false fun q => ht q.1]
/-! the pure laws of parts -/
theorem piece_eq (fr to pos : Int) (k : Clip) (hk : clipOk k) : pieceI (fr - pos) (to - pos) k = pieceS fr to pos k := by
  simp only [clipOk] at hk
  unfold pieceI pieceS
  by_cases hc : max fr pos < min to (pos + k.len)
  · rw [if_pos hc, if_pos (by omega)]
    by_cases hg : k.src = 0
    · simp only [hg, if_true, List.cons.injEq, Clip.mk.injEq, and_true]; exact ⟨trivial, by omega, by omega⟩
    · simp only [hg, if_false, List.cons.injEq, Clip.mk.injEq, and_true]; exact ⟨trivial, by omega, by omega⟩
  · rw [if_neg hc, if_neg (by omega)]
theorem part_eq (fr to : Int) (l : List Clip) : ∀ (pos : Int), (∀ k ∈ l, clipOk k) → partI (fr - pos) (to - pos) l = partS fr to pos l := by
  induction l with
  | nil => intro pos _; rfl
  | cons k l ih =>
    intro pos h
    have := ih (pos + k.len) (fun a ha => h a (by simp [ha]))
    simp only [partI, partS, piece_eq fr to pos k (h k (by simp)), ← this, Int.sub_sub]
theorem sumLen_cons (k : Clip) (l : List Clip) : sumLen (k :: l) = k.len + sumLen l := by simp [sumLen]
theorem partS_end (fr : Int) (l : List Clip) : ∀ (pos : Int), (∀ k ∈ l, clipOk k) → pos + sumLen l ≤ 10000000 → partS fr (pos + sumLen l) pos l = partS fr 10000000 pos l := by
  induction l with
  | nil => intro pos _ _; rfl
  | cons k l ih =>
    intro pos h hs
    have h2 : ∀ a ∈ l, clipOk a := fun a ha => h a (by simp [ha])
    rw [sumLen_cons] at hs ⊢
    have := ih (pos + k.len) h2 (by omega)
    have hb := (sumLen_bound h2).1
    have hp : pieceS fr (pos + (k.len + sumLen l)) pos k = pieceS fr 10000000 pos k := by
      unfold pieceS
      rw [show min (pos + (k.len + sumLen l)) (pos + k.len) = pos + k.len by omega, show min 10000000 (pos + k.len) = pos + k.len by omega]
    simp only [partS, hp, ← this, Int.add_assoc]
theorem partS_mem (fr to : Int) (l : List Clip) : ∀ (pos : Int), (∀ k ∈ l, clipOk k) → ∀ a ∈ partS fr to pos l, clipOk a := by
  induction l with
  | nil => intro pos _ a ha; simp [partS] at ha
  | cons k l ih =>
    intro pos h a ha
    simp only [partS, List.mem_append] at ha
    rcases ha with ha | ha
    · have hk := h k (by simp)
      unfold pieceS at ha
      split at ha
      · simp only [List.mem_singleton] at ha
        subst ha
        simp only [clipOk] at hk ⊢
        by_cases hg : k.src = 0
        · simp only [if_pos hg]; exact ⟨by omega, by omega, by omega, by omega, by omega, by omega, by omega, Or.inr trivial⟩
        · simp only [if_neg hg]; exact ⟨by omega, by omega, by omega, by omega, by omega, by omega, by omega, Or.inl hg⟩
      · cases ha
    · exact ih _ (fun a ha => h a (by simp [ha])) a ha
theorem editFI (l : List Clip) (h : ∀ k ∈ l, clipOk k) : editI l = editF l := by
  unfold editI editF
  by_cases hj : trackOk (join l)
  · rw [if_pos hj, if_pos ⟨h, hj⟩]
  · rw [if_neg hj, if_neg fun q => hj q.2]
theorem Rows.three {h : Heap} {v1 v2 v3 : Value} {l1 l2 l3 : List Clip} (s1 : SlT h encClip 3 v1 l1) (s2 : SlT h encClip 3 v2 l2) (s3 : SlT h encClip 3 v3 l3) :
    Rows (h.more [[v1, v2, v3]]) (.slice (some ⟨h.size, 0, none⟩) 3 1) [l1, l2, l3] := by
  have := (OwnT.new h [v1, v2, v3] encV_len (by omega)).slt
  refine ⟨[v1, v2, v3], this, rfl, fun i h1 h2 => ?_⟩
  simp only [List.length_cons, List.length_nil] at h1
  rcases (show i = 0 ∨ i = 1 ∨ i = 2 by omega) with rfl | rfl | rfl
  · exact s1.ext (Ext.more h _)
  · exact s2.ext (Ext.more h _)
  · exact s3.ext (Ext.more h _)
theorem Rows.two {h : Heap} {v1 v2 : Value} {l1 l2 : List Clip} (s1 : SlT h encClip 3 v1 l1) (s2 : SlT h encClip 3 v2 l2) :
    Rows (h.more [[v1, v2]]) (.slice (some ⟨h.size, 0, none⟩) 2 1) [l1, l2] := by
  have := (OwnT.new h [v1, v2] encV_len (by omega)).slt
  refine ⟨[v1, v2], this, rfl, fun i h1 h2 => ?_⟩
  simp only [List.length_cons, List.length_nil] at h1
  rcases (show i = 0 ∨ i = 1 by omega) with rfl | rfl
  · exact s1.ext (Ext.more h _)
  · exact s2.ext (Ext.more h _)
theorem oneB_sl {h : Heap} {v : Value} {l : List Clip} (s : SlT h encClip 3 v l) (L : List Value) : oneB (v :: L) = oneB L := by
  rcases s.sl with ⟨rfl, _⟩ | ⟨rfl, _⟩ | ⟨i, o, n, ob, rfl, _⟩ <;> rfl
theorem Extract_ok (h : Heap) (v : Value) (l : List Clip) (i n : Int) (s : SlT h encClip 3 v l) (hl : l.length ≤ 1100000) :
    ACall Try.prog 34 [v, .int .i64 i, .int .i64 n] h fun r h' => Pair h h' r (extractS l i n) := by
  refine ACall.of Try.func34 s34 (of_decide_eq_true rfl) ?_
  simp (maxSteps := 4000000) (disch := omega) only [ah, am, Nat.reduceEqDiff, reduceCtorEq, Nat.reduceAdd, Nat.reduceLeDiff, Nat.reduceMul, Nat.reduceLT, if_true, if_false, true_and, and_true, and_self, Nat.reduceBEq, QOp.loads, boxO, bslO, buildO, cutL, fillV, putL, w34, v34]
  refine stepC.of (within_ok _ _ _ _ _ s (by omega)) ?_
  rintro _ H1 ⟨e1, rfl⟩
  by_cases hc : rangeOk l i n
  · have hc' : decide (rangeOk l i n) = true := decide_eq_true hc
    have hT : extractS l i n = putS l i [] (i + n) := if_pos hc
    have B := sumLen_bound hc.1.2.1
    have hlen := hc.1.1; have hsum := hc.1.2.2; have hok := hc.1.2.1
    have hr := hc.2
    simp (maxSteps := 4000000) (disch := omega) only [ah, am, Nat.reduceEqDiff, reduceCtorEq, Nat.reduceAdd, Nat.reduceLeDiff, Nat.reduceMul, Nat.reduceLT, if_true, if_false, true_and, and_true, and_self, Nat.reduceBEq, QOp.loads, boxO, bslO, buildO, cutL, fillV, putL, w34, v34, hc', i64w]
    refine stepC.of (part_ok _ _ l 0 i (s.ext e1) hlen hok (by omega) (by omega) hsum) ?_
    intro v1 H2 F1
    simp (maxSteps := 4000000) (disch := omega) only [ah, am, Nat.reduceEqDiff, reduceCtorEq, Nat.reduceAdd, Nat.reduceLeDiff, Nat.reduceMul, Nat.reduceLT, if_true, if_false, true_and, and_true, and_self, Nat.reduceBEq, QOp.loads, boxO, bslO, buildO, cutL, fillV, putL, w34, v34, i64w]
    refine stepC.of (long_ok _ _ _ (s.ext (e1.trans F1.1)) hlen hok) ?_
    rintro _ H3 ⟨e3, rfl⟩
    simp (maxSteps := 4000000) (disch := omega) only [ah, am, Nat.reduceEqDiff, reduceCtorEq, Nat.reduceAdd, Nat.reduceLeDiff, Nat.reduceMul, Nat.reduceLT, if_true, if_false, true_and, and_true, and_self, Nat.reduceBEq, QOp.loads, boxO, bslO, buildO, cutL, fillV, putL, w34, v34, i64w]
    refine stepC.of (part_ok _ _ l (i + n) (sumLen l) (s.ext ((e1.trans F1.1).trans e3)) hlen hok (by omega) (by omega) hsum) ?_
    intro v2 H4 F2
    have S1 := (F1.slt.ext e3).ext F2.1
    have S2 := F2.slt
    have Q1 : partI 0 i l = partS 0 i 0 l := by have := part_eq 0 i l 0 hok; simpa using this
    have Q2 : partI (i + n) (sumLen l) l = partS (i + n) 10000000 0 l := by
      have := part_eq (i + n) (sumLen l) l 0 hok
      have h2 := partS_end (i + n) l 0 hok (by omega)
      simp only [Int.sub_zero, Int.zero_add] at this h2
      rw [this, h2]
    rw [Q1] at S1; rw [Q2] at S2
    have o1 := oneB_sl S1; have o2 := oneB_sl S2
    have c1 := cells_sl S1; have c2 := cells_sl S2
    have L1 := partS_length 0 i l 0; have L2 := partS_length (i + n) 10000000 l 0
    have A : ∀ k ∈ [partS 0 i 0 l, partS (i + n) 10000000 0 l].flatten, clipOk k := by
      intro k hk
      simp only [List.flatten_cons, List.flatten_nil, List.append_nil, List.mem_append] at hk
      rcases hk with hk | hk <;> exact partS_mem _ _ _ _ hok k hk
    simp (maxSteps := 4000000) (disch := omega) only [ah, am, Nat.reduceEqDiff, reduceCtorEq, Nat.reduceAdd, Nat.reduceLeDiff, Nat.reduceMul, Nat.reduceLT, if_true, if_false, true_and, and_true, and_self, Nat.reduceBEq, QOp.loads, boxO, bslO, buildO, cutL, fillV, putL, w34, v34, o1, o2, c1, c2, size_mk]
    refine stepC.of (edited_ok _ _ _ (Rows.two S1 S2) (by simp) (by simp only [List.flatten_cons, List.flatten_nil, List.append_nil, List.length_append]; omega) (fun k hk => (A k hk).in)) ?_
    rintro _ H5 ⟨rv, rfl, F⟩
    simp (maxSteps := 4000000) (disch := omega) only [ah, am, Nat.reduceEqDiff, reduceCtorEq, Nat.reduceAdd, Nat.reduceLeDiff, Nat.reduceMul, Nat.reduceLT, if_true, if_false, true_and, and_true, and_self, Nat.reduceBEq, QOp.loads, boxO, bslO, buildO, cutL, fillV, putL, w34, v34]
    rw [editFI _ A, show [partS 0 i 0 l, partS (i + n) 10000000 0 l].flatten = partS 0 i 0 l ++ [] ++ partS (i + n) 10000000 0 l by simp] at F ⊢
    rw [hT]
    exact ⟨rv, rfl, F.mono ((((e1.trans F1.1).trans e3).trans F2.1).trans (Ext.more _ _))⟩
  · have hc' : decide (rangeOk l i n) = false := decide_eq_false hc
    have hT : extractS l i n = ([], false) := if_neg hc
    simp (maxSteps := 4000000) (disch := omega) only [ah, am, Nat.reduceEqDiff, reduceCtorEq, Nat.reduceAdd, Nat.reduceLeDiff, Nat.reduceMul, Nat.reduceLT, if_true, if_false, true_and, and_true, and_self, Nat.reduceBEq, QOp.loads, boxO, bslO, buildO, cutL, fillV, putL, w34, v34, hc']
    rw [hT]
    exact ⟨_, rfl, (Fresh.nil _ encClip_len (by omega)).mono e1⟩
theorem Lift_ok (h : Heap) (v : Value) (l : List Clip) (i n : Int) (s : SlT h encClip 3 v l) (hl : l.length ≤ 1100000) :
    ACall Try.prog 29 [v, .int .i64 i, .int .i64 n] h fun r h' => Pair h h' r (liftS l i n) := by
  refine ACall.of Try.func29 s29 (of_decide_eq_true rfl) ?_
  simp (maxSteps := 4000000) (disch := omega) only [ah, am, Nat.reduceEqDiff, reduceCtorEq, Nat.reduceAdd, Nat.reduceLeDiff, Nat.reduceMul, Nat.reduceLT, if_true, if_false, true_and, and_true, and_self, Nat.reduceBEq, QOp.loads, boxO, bslO, buildO, cutL, fillV, putL, w29, v29]
  refine stepC.of (within_ok _ _ _ _ _ s (by omega)) ?_
  rintro _ H1 ⟨e1, rfl⟩
  by_cases hc : rangeOk l i n
  · have hc' : decide (rangeOk l i n) = true := decide_eq_true hc
    have hT : liftS l i n = putS l i [⟨0, 0, n⟩] (i + n) := if_pos hc
    have B := sumLen_bound hc.1.2.1
    have hlen := hc.1.1; have hsum := hc.1.2.2; have hok := hc.1.2.1
    have hr := hc.2
    simp (maxSteps := 4000000) (disch := omega) only [ah, am, Nat.reduceEqDiff, reduceCtorEq, Nat.reduceAdd, Nat.reduceLeDiff, Nat.reduceMul, Nat.reduceLT, if_true, if_false, true_and, and_true, and_self, Nat.reduceBEq, QOp.loads, boxO, bslO, buildO, cutL, fillV, putL, w29, v29, hc', i64w]
    refine stepC.of (part_ok _ _ l 0 i (s.ext e1) hlen hok (by omega) (by omega) hsum) ?_
    intro v1 H2 F1
    simp (maxSteps := 4000000) (disch := omega) only [ah, am, Nat.reduceEqDiff, reduceCtorEq, Nat.reduceAdd, Nat.reduceLeDiff, Nat.reduceMul, Nat.reduceLT, if_true, if_false, true_and, and_true, and_self, Nat.reduceBEq, QOp.loads, boxO, bslO, buildO, cutL, fillV, putL, w29, v29, i64w]
    have N := (Fresh.new H2 [(⟨0, 0, n⟩ : Clip)] encClip_len (by omega))
    simp only [List.flatMap_cons, List.flatMap_nil, List.append_nil, List.length_cons, List.length_nil, Nat.zero_add, encClip] at N
    have e2 := (e1.trans F1.1).trans N.1
    refine stepC.of (long_ok _ _ _ (s.ext e2) hlen hok) ?_
    rintro _ H3 ⟨e3, rfl⟩
    simp (maxSteps := 4000000) (disch := omega) only [ah, am, Nat.reduceEqDiff, reduceCtorEq, Nat.reduceAdd, Nat.reduceLeDiff, Nat.reduceMul, Nat.reduceLT, if_true, if_false, true_and, and_true, and_self, Nat.reduceBEq, QOp.loads, boxO, bslO, buildO, cutL, fillV, putL, w29, v29, i64w]
    refine stepC.of (part_ok _ _ l (i + n) (sumLen l) (s.ext (e2.trans e3)) hlen hok (by omega) (by omega) hsum) ?_
    intro v2 H4 F2
    have S1 := (F1.slt.ext (N.1.trans e3)).ext F2.1
    have S2 := F2.slt
    have SN := (N.slt.ext e3).ext F2.1
    have Q1 : partI 0 i l = partS 0 i 0 l := by have := part_eq 0 i l 0 hok; simpa using this
    have Q2 : partI (i + n) (sumLen l) l = partS (i + n) 10000000 0 l := by
      have := part_eq (i + n) (sumLen l) l 0 hok
      have h2 := partS_end (i + n) l 0 hok (by omega)
      simp only [Int.sub_zero, Int.zero_add] at this h2
      rw [this, h2]
    rw [Q1] at S1; rw [Q2] at S2
    have o1 := oneB_sl S1; have o2 := oneB_sl S2
    have c1 := cells_sl S1; have c2 := cells_sl S2
    have L1 := partS_length 0 i l 0; have L2 := partS_length (i + n) 10000000 l 0
    have A : ∀ k ∈ [partS 0 i 0 l, [⟨0, 0, n⟩], partS (i + n) 10000000 0 l].flatten, clipOk k := by
      intro k hk
      simp only [List.flatten_cons, List.flatten_nil, List.append_nil, List.mem_append, List.mem_singleton] at hk
      rcases hk with hk | rfl | hk
      · exact partS_mem _ _ _ _ hok k hk
      · simp only [clipOk]; exact ⟨by omega, by omega, by omega, by omega, by omega, by omega, by omega, Or.inr trivial⟩
      · exact partS_mem _ _ _ _ hok k hk
    simp (maxSteps := 4000000) (disch := omega) only [ah, am, Nat.reduceEqDiff, reduceCtorEq, Nat.reduceAdd, Nat.reduceLeDiff, Nat.reduceMul, Nat.reduceLT, if_true, if_false, true_and, and_true, and_self, Nat.reduceBEq, QOp.loads, boxO, bslO, buildO, cutL, fillV, putL, w29, v29, o1, o2, c1, c2, size_mk]
    refine stepC.of (edited_ok _ _ _ (Rows.three S1 SN S2) (by simp) (by simp only [List.flatten_cons, List.flatten_nil, List.length_append, List.length_cons, List.length_nil]; omega) (fun k hk => (A k hk).in)) ?_
    rintro _ H5 ⟨rv, rfl, F⟩
    simp (maxSteps := 4000000) (disch := omega) only [ah, am, Nat.reduceEqDiff, reduceCtorEq, Nat.reduceAdd, Nat.reduceLeDiff, Nat.reduceMul, Nat.reduceLT, if_true, if_false, true_and, and_true, and_self, Nat.reduceBEq, QOp.loads, boxO, bslO, buildO, cutL, fillV, putL, w29, v29]
    rw [editFI _ A, show [partS 0 i 0 l, [⟨0, 0, n⟩], partS (i + n) 10000000 0 l].flatten = partS 0 i 0 l ++ [⟨0, 0, n⟩] ++ partS (i + n) 10000000 0 l by simp] at F ⊢
    rw [hT]
    exact ⟨rv, rfl, F.mono (((e2.trans e3).trans F2.1).trans (Ext.more _ _))⟩
  · have hc' : decide (rangeOk l i n) = false := decide_eq_false hc
    have hT : liftS l i n = ([], false) := if_neg hc
    simp (maxSteps := 4000000) (disch := omega) only [ah, am, Nat.reduceEqDiff, reduceCtorEq, Nat.reduceAdd, Nat.reduceLeDiff, Nat.reduceMul, Nat.reduceLT, if_true, if_false, true_and, and_true, and_self, Nat.reduceBEq, QOp.loads, boxO, bslO, buildO, cutL, fillV, putL, w29, v29, hc']
    rw [hT]
    exact ⟨_, rfl, (Fresh.nil _ encClip_len (by omega)).mono e1⟩
theorem Insert_ok (h : Heap) (v : Value) (l : List Clip) (i : Int) (k : Clip) (s : SlT h encClip 3 v l) (hl : l.length ≤ 1100000) :
    ACall Try.prog 32 [v, .int .i64 i, .agg (encClip k).toArray] h fun r h' => Pair h h' r (insertS l i k) := by
  refine ACall.of Try.func32 s32 (of_decide_eq_true rfl) ?_
  have pl := placed_ok (h.more [encClip k]) v l i k (s.ext (Ext.more h _)) hl
  simp only [encClip] at pl
  simp (maxSteps := 4000000) (disch := omega) only [ah, am, Nat.reduceEqDiff, reduceCtorEq, Nat.reduceAdd, Nat.reduceLeDiff, Nat.reduceMul, Nat.reduceLT, if_true, if_false, true_and, and_true, and_self, Nat.reduceBEq, QOp.loads, boxO, bslO, buildO, cutL, fillV, putL, w32, v32, encClip]
  refine stepC.of pl ?_
  rintro _ H1 ⟨e1, rfl⟩
  have E1 := (Ext.more h _).trans e1
  by_cases hc : insOk l i k
  · have hc' : decide (insOk l i k) = true := decide_eq_true hc
    have hT : insertS l i k = putS l i [k] i := if_pos hc
    have hlen := hc.1.1; have hsum := hc.1.2.2; have hok := hc.1.2.1
    have B := sumLen_bound hok
    have hr := hc.2.2; have hk := hc.2.1
    have X1 := e1.ld0
    have N := (Fresh.new H1 [k] encClip_len (by omega))
    simp only [List.flatMap_cons, List.flatMap_nil, List.append_nil, List.length_cons, List.length_nil, Nat.zero_add, encClip] at N
    have e2 := E1.trans N.1
    simp (maxSteps := 4000000) (disch := omega) only [ah, am, Nat.reduceEqDiff, reduceCtorEq, Nat.reduceAdd, Nat.reduceLeDiff, Nat.reduceMul, Nat.reduceLT, if_true, if_false, true_and, and_true, and_self, Nat.reduceBEq, QOp.loads, boxO, bslO, buildO, cutL, fillV, putL, w32, v32, hc', X1, i64w]
    refine stepC.of (part_ok _ _ l 0 i (s.ext e2) hlen hok (by omega) (by omega) hsum) ?_
    intro v1 H2 F1
    have X2 := ((e1.trans N.1).trans F1.1).ld0
    simp (maxSteps := 4000000) (disch := omega) only [ah, am, Nat.reduceEqDiff, reduceCtorEq, Nat.reduceAdd, Nat.reduceLeDiff, Nat.reduceMul, Nat.reduceLT, if_true, if_false, true_and, and_true, and_self, Nat.reduceBEq, QOp.loads, boxO, bslO, buildO, cutL, fillV, putL, w32, v32, hc', X2, i64w]
    refine stepC.of (long_ok _ _ _ (s.ext (e2.trans F1.1)) hlen hok) ?_
    rintro _ H3 ⟨e3, rfl⟩
    have X3 := (((e1.trans N.1).trans F1.1).trans e3).ld0
    simp (maxSteps := 4000000) (disch := omega) only [ah, am, Nat.reduceEqDiff, reduceCtorEq, Nat.reduceAdd, Nat.reduceLeDiff, Nat.reduceMul, Nat.reduceLT, if_true, if_false, true_and, and_true, and_self, Nat.reduceBEq, QOp.loads, boxO, bslO, buildO, cutL, fillV, putL, w32, v32, hc', X3, i64w]
    refine stepC.of (part_ok _ _ l i (sumLen l) (s.ext ((e2.trans F1.1).trans e3)) hlen hok (by omega) (by omega) hsum) ?_
    intro v2 H4 F2
    have X4 := ((((e1.trans N.1).trans F1.1).trans e3).trans F2.1).ld0
    have S1 := (F1.slt.ext e3).ext F2.1
    have S2 := F2.slt
    have SN := ((N.slt.ext F1.1).ext e3).ext F2.1
    have Q1 : partI 0 i l = partS 0 i 0 l := by have := part_eq 0 i l 0 hok; simpa using this
    have Q2 : partI i (sumLen l) l = partS i 10000000 0 l := by
      have := part_eq i (sumLen l) l 0 hok
      have h2 := partS_end i l 0 hok (by omega)
      simp only [Int.sub_zero, Int.zero_add] at this h2
      rw [this, h2]
    rw [Q1] at S1; rw [Q2] at S2
    have o1 := oneB_sl S1; have o2 := oneB_sl S2
    have c1 := cells_sl S1; have c2 := cells_sl S2
    have L1 := partS_length 0 i l 0; have L2 := partS_length i 10000000 l 0
    have A : ∀ a ∈ [partS 0 i 0 l, [k], partS i 10000000 0 l].flatten, clipOk a := by
      intro a ha
      simp only [List.flatten_cons, List.flatten_nil, List.append_nil, List.mem_append, List.mem_singleton] at ha
      rcases ha with ha | rfl | ha
      · exact partS_mem _ _ _ _ hok a ha
      · exact hk
      · exact partS_mem _ _ _ _ hok a ha
    simp (maxSteps := 4000000) (disch := omega) only [ah, am, Nat.reduceEqDiff, reduceCtorEq, Nat.reduceAdd, Nat.reduceLeDiff, Nat.reduceMul, Nat.reduceLT, if_true, if_false, true_and, and_true, and_self, Nat.reduceBEq, QOp.loads, boxO, bslO, buildO, cutL, fillV, putL, w32, v32, X4, o1, o2, c1, c2, size_mk]
    refine stepC.of (edited_ok _ _ _ (Rows.three S1 SN S2) (by simp) (by simp only [List.flatten_cons, List.flatten_nil, List.length_append, List.length_cons, List.length_nil]; omega) (fun k hk => (A k hk).in)) ?_
    rintro _ H5 ⟨rv, rfl, F⟩
    simp (maxSteps := 4000000) (disch := omega) only [ah, am, Nat.reduceEqDiff, reduceCtorEq, Nat.reduceAdd, Nat.reduceLeDiff, Nat.reduceMul, Nat.reduceLT, if_true, if_false, true_and, and_true, and_self, Nat.reduceBEq, QOp.loads, boxO, bslO, buildO, cutL, fillV, putL, w32, v32]
    rw [editFI _ A, show [partS 0 i 0 l, [k], partS i 10000000 0 l].flatten = partS 0 i 0 l ++ [k] ++ partS i 10000000 0 l by simp] at F ⊢
    rw [hT]
    exact ⟨rv, rfl, F.mono ((((e2.trans F1.1).trans e3).trans F2.1).trans (Ext.more _ _))⟩
  · have hc' : decide (insOk l i k) = false := decide_eq_false hc
    have hT : insertS l i k = ([], false) := if_neg hc
    simp (maxSteps := 4000000) (disch := omega) only [ah, am, Nat.reduceEqDiff, reduceCtorEq, Nat.reduceAdd, Nat.reduceLeDiff, Nat.reduceMul, Nat.reduceLT, if_true, if_false, true_and, and_true, and_self, Nat.reduceBEq, QOp.loads, boxO, bslO, buildO, cutL, fillV, putL, w32, v32, hc']
    rw [hT]
    exact ⟨_, rfl, (Fresh.nil _ encClip_len (by omega)).mono E1⟩
theorem Overwrite_ok (h : Heap) (v : Value) (l : List Clip) (i : Int) (k : Clip) (s : SlT h encClip 3 v l) (hl : l.length ≤ 1100000) :
    ACall Try.prog 22 [v, .int .i64 i, .agg (encClip k).toArray] h fun r h' => Pair h h' r (overS l i k) := by
  refine ACall.of Try.func22 s22 (of_decide_eq_true rfl) ?_
  have pl := placed_ok (h.more [encClip k]) v l i k (s.ext (Ext.more h _)) hl
  simp only [encClip] at pl
  simp (maxSteps := 4000000) (disch := omega) only [ah, am, Nat.reduceEqDiff, reduceCtorEq, Nat.reduceAdd, Nat.reduceLeDiff, Nat.reduceMul, Nat.reduceLT, if_true, if_false, true_and, and_true, and_self, Nat.reduceBEq, QOp.loads, boxO, bslO, buildO, cutL, fillV, putL, w22, v22, encClip]
  refine stepC.of pl ?_
  rintro _ H1 ⟨e1, rfl⟩
  have E1 := (Ext.more h _).trans e1
  by_cases hc : insOk l i k
  · have hc' : decide (insOk l i k) = true := decide_eq_true hc
    have hT : overS l i k = putS l i [k] (i + k.len) := if_pos hc
    have hlen := hc.1.1; have hsum := hc.1.2.2; have hok := hc.1.2.1
    have B := sumLen_bound hok
    have hr := hc.2.2; have hk := hc.2.1
    have X1 := e1.ld0
    have hk2 := hk
    simp only [clipOk] at hk2
    have X1b := (e1.trans (Ext.more H1 [encClip k])).ld0
    simp only [encClip] at X1b
    have N := (Fresh.new H1 [k] encClip_len (by omega))
    simp only [List.flatMap_cons, List.flatMap_nil, List.append_nil, List.length_cons, List.length_nil, Nat.zero_add, encClip] at N
    have e2 := E1.trans N.1
    simp (maxSteps := 4000000) (disch := omega) only [ah, am, Nat.reduceEqDiff, reduceCtorEq, Nat.reduceAdd, Nat.reduceLeDiff, Nat.reduceMul, Nat.reduceLT, if_true, if_false, true_and, and_true, and_self, Nat.reduceBEq, QOp.loads, boxO, bslO, buildO, cutL, fillV, putL, w22, v22, hc', X1, X1b, i64w]
    refine stepC.of (part_ok _ _ l 0 i (s.ext e2) hlen hok (by omega) (by omega) hsum) ?_
    intro v1 H2 F1
    have X2 := ((e1.trans N.1).trans F1.1).ld0
    simp (maxSteps := 4000000) (disch := omega) only [ah, am, Nat.reduceEqDiff, reduceCtorEq, Nat.reduceAdd, Nat.reduceLeDiff, Nat.reduceMul, Nat.reduceLT, if_true, if_false, true_and, and_true, and_self, Nat.reduceBEq, QOp.loads, boxO, bslO, buildO, cutL, fillV, putL, w22, v22, hc', X2, i64w]
    refine stepC.of (long_ok _ _ _ (s.ext (e2.trans F1.1)) hlen hok) ?_
    rintro _ H3 ⟨e3, rfl⟩
    have X3 := (((e1.trans N.1).trans F1.1).trans e3).ld0
    simp (maxSteps := 4000000) (disch := omega) only [ah, am, Nat.reduceEqDiff, reduceCtorEq, Nat.reduceAdd, Nat.reduceLeDiff, Nat.reduceMul, Nat.reduceLT, if_true, if_false, true_and, and_true, and_self, Nat.reduceBEq, QOp.loads, boxO, bslO, buildO, cutL, fillV, putL, w22, v22, hc', X3, i64w]
    refine stepC.of (part_ok _ _ l (i + k.len) (sumLen l) (s.ext ((e2.trans F1.1).trans e3)) hlen hok (by omega) (by omega) hsum) ?_
    intro v2 H4 F2
    have X4 := ((((e1.trans N.1).trans F1.1).trans e3).trans F2.1).ld0
    have S1 := (F1.slt.ext e3).ext F2.1
    have S2 := F2.slt
    have SN := ((N.slt.ext F1.1).ext e3).ext F2.1
    have Q1 : partI 0 i l = partS 0 i 0 l := by have := part_eq 0 i l 0 hok; simpa using this
    have Q2 : partI (i + k.len) (sumLen l) l = partS (i + k.len) 10000000 0 l := by
      have := part_eq (i + k.len) (sumLen l) l 0 hok
      have h2 := partS_end (i + k.len) l 0 hok (by omega)
      simp only [Int.sub_zero, Int.zero_add] at this h2
      rw [this, h2]
    rw [Q1] at S1; rw [Q2] at S2
    have o1 := oneB_sl S1; have o2 := oneB_sl S2
    have c1 := cells_sl S1; have c2 := cells_sl S2
    have L1 := partS_length 0 i l 0; have L2 := partS_length (i + k.len) 10000000 l 0
    have A : ∀ a ∈ [partS 0 i 0 l, [k], partS (i + k.len) 10000000 0 l].flatten, clipOk a := by
      intro a ha
      simp only [List.flatten_cons, List.flatten_nil, List.append_nil, List.mem_append, List.mem_singleton] at ha
      rcases ha with ha | rfl | ha
      · exact partS_mem _ _ _ _ hok a ha
      · exact hk
      · exact partS_mem _ _ _ _ hok a ha
    simp (maxSteps := 4000000) (disch := omega) only [ah, am, Nat.reduceEqDiff, reduceCtorEq, Nat.reduceAdd, Nat.reduceLeDiff, Nat.reduceMul, Nat.reduceLT, if_true, if_false, true_and, and_true, and_self, Nat.reduceBEq, QOp.loads, boxO, bslO, buildO, cutL, fillV, putL, w22, v22, X4, o1, o2, c1, c2, size_mk]
    refine stepC.of (edited_ok _ _ _ (Rows.three S1 SN S2) (by simp) (by simp only [List.flatten_cons, List.flatten_nil, List.length_append, List.length_cons, List.length_nil]; omega) (fun k hk => (A k hk).in)) ?_
    rintro _ H5 ⟨rv, rfl, F⟩
    simp (maxSteps := 4000000) (disch := omega) only [ah, am, Nat.reduceEqDiff, reduceCtorEq, Nat.reduceAdd, Nat.reduceLeDiff, Nat.reduceMul, Nat.reduceLT, if_true, if_false, true_and, and_true, and_self, Nat.reduceBEq, QOp.loads, boxO, bslO, buildO, cutL, fillV, putL, w22, v22]
    rw [editFI _ A, show [partS 0 i 0 l, [k], partS (i + k.len) 10000000 0 l].flatten = partS 0 i 0 l ++ [k] ++ partS (i + k.len) 10000000 0 l by simp] at F ⊢
    rw [hT]
    exact ⟨rv, rfl, F.mono ((((e2.trans F1.1).trans e3).trans F2.1).trans (Ext.more _ _))⟩
  · have hc' : decide (insOk l i k) = false := decide_eq_false hc
    have hT : overS l i k = ([], false) := if_neg hc
    simp (maxSteps := 4000000) (disch := omega) only [ah, am, Nat.reduceEqDiff, reduceCtorEq, Nat.reduceAdd, Nat.reduceLeDiff, Nat.reduceMul, Nat.reduceLT, if_true, if_false, true_and, and_true, and_self, Nat.reduceBEq, QOp.loads, boxO, bslO, buildO, cutL, fillV, putL, w22, v22, hc']
    rw [hT]
    exact ⟨_, rfl, (Fresh.nil _ encClip_len (by omega)).mono E1⟩
end Go.Proofs.Ytknpombiomnkbaa
