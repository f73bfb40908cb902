import Derived.Test.YtmhbmbhdeofbaaaE9
namespace Go.Proofs.Ytmhbmbhdeofbaaa
open Go Go.Ah
set_option linter.unusedSimpArgs false
set_option linter.unusedVariables false
set_option maxRecDepth 10000
set_option maxHeartbeats 4000000
/-! 4 loop.example/g00066/laws.FnPlainCube: parameters 1, live [0], slots [0:code, 1:code, 3:m, 4:c, 5:n, 6:x, 7:d, 8:i] -/
def c4_0 : List SOper := [⟨some 2, .q (.mv (.c (.bool false))), none⟩]
def c4_1 : List SOper := [⟨some 9, .q (.mv (.t 0)), none⟩, ⟨some 10, .e (.call 13 [(.t 9)]), none⟩]
def c4_2 : List SOper := [⟨some 2, .q (.mv (.c (.bool true))), none⟩]
def c4_3 : SCode := .seq (.region c4_2 [2]) .ret
def c4_4 : SCode := .cond (.t 10) c4_3 .skip
def c4_5 : SCode := .seq (.region c4_1 [0, 10]) c4_4
def c4_6 : List SOper := [⟨some 12, .q (.mv (.t 0)), none⟩, ⟨some 13, .e (.call 14 [(.t 12)]), none⟩, ⟨some 11, .q (.mv (.t 13)), none⟩, ⟨some 14, .q (.ext (.t 11) 0), none⟩, ⟨some 15, .q (.ext (.t 11) 1), none⟩, ⟨some 4, .a (.new [(.int .i64 0), (.int .i64 0), (.int .i64 0)]), none⟩, ⟨some 3, .q (.mv (.t 14)), none⟩, ⟨none, .e (.st 3 (.t 4) (.t 15)), none⟩]
def c4_7 : List DOper := [⟨0, ⟨some 16, .q (.mv (.t 3)), none⟩, [], []⟩, ⟨1, ⟨some 17, .q (.ldn 3 (.t 4)), none⟩, [], []⟩, ⟨3, ⟨some 19, .q (.mv (.t 3)), none⟩, [], []⟩, ⟨4, ⟨some 20, .q (.ldn 3 (.t 4)), none⟩, [], []⟩, ⟨2, ⟨some 18, .e (.call 15 [(.t 16), (.t 17)]), none⟩, [], [4]⟩, ⟨5, ⟨some 21, .e (.call 16 [(.t 19), (.t 20)]), none⟩, [], []⟩, ⟨6, ⟨some 22, .q (.eqi true 3 (.t 18) (.t 21)), none⟩, [], []⟩]
def c4_8 : List SOper := [⟨some 2, .q (.mv (.c (.bool false))), none⟩]
def c4_9 : SCode := .seq (.region c4_8 [2]) .ret
def c4_10 : SCode := .cond (.t 22) c4_9 .skip
def c4_11 : SCode := .seq (.dregion c4_7 [0, 4, 22]) c4_10
def c4_12 : List SOper := [⟨some 23, .q (.fa 0 (.t 4)), none⟩, ⟨some 24, .q (.ld (.t 23)), none⟩, ⟨some 25, .q (.bin .lss (.t 24) (.c (.int .i64 0))), none⟩, ⟨some 26, .q (.mv (.t 25)), none⟩, ⟨some 27, .q (.fa 0 (.t 4)), some (26, false)⟩, ⟨some 28, .q (.ld (.t 27)), some (26, false)⟩, ⟨some 29, .q (.bin .gtr (.t 28) (.c (.int .i64 65535))), some (26, false)⟩, ⟨some 30, .q (.pick (.t 26) (.c (.bool true)) (.t 29)), none⟩, ⟨some 31, .q (.mv (.t 30)), none⟩, ⟨some 32, .q (.fa 1 (.t 4)), some (31, false)⟩, ⟨some 33, .q (.ld (.t 32)), some (31, false)⟩, ⟨some 34, .q (.bin .gtr (.t 33) (.c (.int .i64 65535))), some (31, false)⟩, ⟨some 35, .q (.pick (.t 31) (.c (.bool true)) (.t 34)), none⟩, ⟨some 36, .q (.mv (.t 35)), none⟩, ⟨some 37, .q (.fa 2 (.t 4)), some (36, false)⟩, ⟨some 38, .q (.ld (.t 37)), some (36, false)⟩, ⟨some 39, .q (.bin .gtr (.t 38) (.c (.int .i64 65535))), some (36, false)⟩, ⟨some 40, .q (.pick (.t 36) (.c (.bool true)) (.t 39)), none⟩]
def c4_13 : List SOper := [⟨some 2, .q (.mv (.c (.bool true))), none⟩]
def c4_14 : SCode := .seq (.region c4_13 [2]) .ret
def c4_15 : SCode := .cond (.t 40) c4_14 .skip
def c4_16 : SCode := .seq (.region c4_12 [0, 4, 40]) c4_15
def c4_17 : List SOper := [⟨some 41, .q (.mv (.t 0)), none⟩, ⟨some 42, .e (.call 17 [(.t 41), (.c (.int .i64 8))]), none⟩, ⟨some 43, .q (.bin .add (.c (.int .i64 2)) (.t 42)), none⟩, ⟨some 5, .q (.mv (.t 43)), none⟩]
def c4_18 : List DOper := [⟨0, ⟨some 44, .q (.mv (.t 5)), none⟩, [], []⟩, ⟨1, ⟨some 45, .q (.mv (.t 5)), none⟩, [], []⟩, ⟨3, ⟨some 47, .q (.ldn 3 (.t 4)), none⟩, [], []⟩, ⟨5, ⟨some 6, .a (.new [(.int .i64 0), (.int .i64 0), (.int .i64 0)]), none⟩, [], []⟩, ⟨2, ⟨some 46, .e (.call 18 [(.t 45)]), none⟩, [], [3]⟩, ⟨4, ⟨some 48, .e (.call 10 [(.t 44), (.t 46), (.t 47)]), none⟩, [], []⟩, ⟨6, ⟨none, .e (.st 3 (.t 6) (.t 48)), none⟩, [], []⟩]
def c4_19 : List SOper := [⟨some 49, .q (.fa 0 (.t 6)), none⟩, ⟨some 50, .q (.ld (.t 49)), none⟩, ⟨some 51, .q (.fa 0 (.t 4)), none⟩, ⟨some 52, .q (.ld (.t 51)), none⟩, ⟨some 53, .q (.bin .sub (.t 50) (.t 52)), none⟩, ⟨some 54, .q (.fa 1 (.t 6)), none⟩, ⟨some 55, .q (.ld (.t 54)), none⟩, ⟨some 56, .q (.fa 1 (.t 4)), none⟩, ⟨some 57, .q (.ld (.t 56)), none⟩, ⟨some 58, .q (.bin .sub (.t 55) (.t 57)), none⟩, ⟨some 59, .q (.fa 2 (.t 6)), none⟩, ⟨some 60, .q (.ld (.t 59)), none⟩, ⟨some 61, .q (.fa 2 (.t 4)), none⟩, ⟨some 62, .q (.ld (.t 61)), none⟩, ⟨some 63, .q (.bin .sub (.t 60) (.t 62)), none⟩, ⟨some 64, .a (.bsl 3 1 [(.int .i64 0), (.int .i64 0), (.int .i64 0)] [(0, 1, (.t 53)), (1, 1, (.t 58)), (2, 1, (.t 63))]), none⟩, ⟨some 7, .q (.mv (.t 64)), none⟩]
def c4_20 : List SOper := [⟨some 8, .q (.mv (.c (.int .i64 0))), none⟩]
def c4_21 : List SOper := [⟨some 65, .q (.mv (.t 8)), none⟩, ⟨some 66, .q (.bin .lss (.t 65) (.c (.int .i64 3))), none⟩]
def c4_22 : SCode := .cond (.t 66) .skip (.exit 0)
def c4_23 : SCode := .seq (.region c4_21 [4, 7, 8, 66]) c4_22
def c4_24 : List SOper := [⟨some 69, .q (.mv (.t 7)), none⟩, ⟨some 70, .q (.mv (.t 8)), none⟩, ⟨some 71, .q (.ia 1 (.t 69) (.t 70)), none⟩, ⟨some 72, .q (.ld (.t 71)), none⟩, ⟨some 73, .q (.bin .gtr (.t 72) (.c (.int .i64 1))), none⟩, ⟨some 74, .q (.mv (.t 73)), none⟩, ⟨some 75, .q (.mv (.t 7)), some (74, false)⟩, ⟨some 76, .q (.mv (.t 8)), some (74, false)⟩, ⟨some 77, .q (.ia 1 (.t 75) (.t 76)), some (74, false)⟩, ⟨some 78, .q (.ld (.t 77)), some (74, false)⟩, ⟨some 79, .q (.bin .lss (.t 78) (.c (.int .i64 (-1)))), some (74, false)⟩, ⟨some 80, .q (.pick (.t 74) (.c (.bool true)) (.t 79)), none⟩]
def c4_25 : List SOper := [⟨some 2, .q (.mv (.c (.bool false))), none⟩]
def c4_26 : SCode := .seq (.region c4_25 [2]) .ret
def c4_27 : SCode := .cond (.t 80) c4_26 .skip
def c4_28 : SCode := .seq (.region c4_24 [4, 7, 8, 80]) c4_27
def c4_29 : SCode := .block 1 c4_28
def c4_30 : List SOper := [⟨some 67, .q (.mv (.t 8)), none⟩, ⟨some 68, .q (.bin .add (.t 67) (.c (.int .i64 1))), none⟩, ⟨some 8, .q (.mv (.t 68)), none⟩]
def c4_31 : SCode := .seq c4_29 (.region c4_30 [4, 7, 8])
def c4_32 : SCode := .seq c4_23 c4_31
def c4_33 : SCode := .loop c4_32
def c4_34 : SCode := .block 0 c4_33
def c4_35 : SCode := .seq (.region c4_20 [4, 7, 8]) c4_34
def c4_36 : List DOper := [⟨0, ⟨some 81, .a (.bsl 9 1 [(.int .i64 0), (.int .i64 0), (.int .i64 0), (.int .i64 0), (.int .i64 0), (.int .i64 0), (.int .i64 0), (.int .i64 0), (.int .i64 0)] [(0, 1, (.c (.int .i64 4096))), (1, 1, (.c (.int .i64 0))), (2, 1, (.c (.int .i64 0))), (3, 1, (.c (.int .i64 0))), (4, 1, (.c (.int .i64 4096))), (5, 1, (.c (.int .i64 0))), (6, 1, (.c (.int .i64 0))), (7, 1, (.c (.int .i64 0))), (8, 1, (.c (.int .i64 4096)))]), none⟩, [], []⟩, ⟨1, ⟨some 82, .q (.ldn 3 (.t 4)), none⟩, [], []⟩, ⟨3, ⟨some 84, .q (.ldn 3 (.t 4)), none⟩, [], []⟩, ⟨2, ⟨some 83, .e (.call 15 [(.t 81), (.t 82)]), none⟩, [], [3]⟩, ⟨4, ⟨some 85, .q (.eqi false 3 (.t 83) (.t 84)), none⟩, [], []⟩, ⟨5, ⟨some 86, .q (.mv (.t 85)), none⟩, [], []⟩, ⟨6, ⟨some 87, .a (.bsl 2 1 [(.int .i64 0), (.int .i64 0)] [(0, 1, (.c (.int .i64 0))), (1, 1, (.c (.int .i64 65535)))]), some (86, true)⟩, [], []⟩, ⟨7, ⟨some 88, .q (.fa 0 (.t 4)), some (86, true)⟩, [], []⟩, ⟨8, ⟨some 89, .q (.ld (.t 88)), some (86, true)⟩, [], []⟩, ⟨10, ⟨some 91, .q (.fa 0 (.t 4)), some (86, true)⟩, [], []⟩, ⟨11, ⟨some 92, .q (.ld (.t 91)), some (86, true)⟩, [], []⟩, ⟨9, ⟨some 90, .e (.call 19 [(.t 87), (.t 89)]), some (86, true)⟩, [], [11]⟩, ⟨12, ⟨some 93, .q (.bin .eql (.t 90) (.t 92)), some (86, true)⟩, [], []⟩, ⟨13, ⟨some 94, .q (.pick (.t 86) (.t 93) (.c (.bool false))), none⟩, [], []⟩, ⟨14, ⟨some 95, .q (.mv (.t 94)), none⟩, [], []⟩, ⟨15, ⟨some 96, .a (.bsl 2 1 [(.int .i64 0), (.int .i64 0)] [(0, 1, (.c (.int .i64 65535))), (1, 1, (.c (.int .i64 0)))]), some (95, true)⟩, [], []⟩, ⟨16, ⟨some 97, .q (.fa 0 (.t 4)), some (95, true)⟩, [], []⟩, ⟨17, ⟨some 98, .q (.ld (.t 97)), some (95, true)⟩, [], []⟩, ⟨19, ⟨some 100, .q (.fa 0 (.t 4)), some (95, true)⟩, [], []⟩, ⟨20, ⟨some 101, .q (.ld (.t 100)), some (95, true)⟩, [], []⟩, ⟨21, ⟨some 102, .q (.bin .sub (.c (.int .i64 65535)) (.t 101)), some (95, true)⟩, [], []⟩, ⟨18, ⟨some 99, .e (.call 19 [(.t 96), (.t 98)]), some (95, true)⟩, [], [20]⟩, ⟨22, ⟨some 103, .q (.bin .eql (.t 99) (.t 102)), some (95, true)⟩, [], []⟩, ⟨23, ⟨some 104, .q (.pick (.t 95) (.t 103) (.c (.bool false))), none⟩, [], []⟩, ⟨24, ⟨some 2, .q (.mv (.t 104)), none⟩, [], []⟩]
def c4_37 : SCode := .seq (.dregion c4_36 [2]) .ret
def c4_38 : SCode := .seq c4_35 c4_37
def c4_39 : SCode := .seq (.region c4_19 [4, 7]) c4_38
def c4_40 : SCode := .seq (.dregion c4_18 [4, 6]) c4_39
def c4_41 : SCode := .seq (.region c4_17 [4, 5]) c4_40
def c4_42 : SCode := .seq c4_16 c4_41
def c4_43 : SCode := .seq c4_11 c4_42
def c4_44 : SCode := .seq (.region c4_6 [0, 3, 4]) c4_43
def c4_45 : SCode := .seq c4_5 c4_44
def c4_46 : SCode := .seq (.region c4_0 [0]) c4_45
def c4 : SCode := c4_46
theorem w4 : type_of% (And.intro (uR Try.prog c4_0.eq_1) (And.intro (uR Try.prog c4_1.eq_1) (And.intro (uR Try.prog c4_2.eq_1) (And.intro (uC Try.prog c4_3.eq_1) (And.intro (uC Try.prog c4_4.eq_1) (And.intro (uC Try.prog c4_5.eq_1) (And.intro (uR Try.prog c4_6.eq_1) (And.intro (uD Try.prog c4_7.eq_1) (And.intro (uR Try.prog c4_8.eq_1) (And.intro (uC Try.prog c4_9.eq_1) (And.intro (uC Try.prog c4_10.eq_1) (And.intro (uC Try.prog c4_11.eq_1) (And.intro (uR Try.prog c4_12.eq_1) (And.intro (uR Try.prog c4_13.eq_1) (And.intro (uC Try.prog c4_14.eq_1) (And.intro (uC Try.prog c4_15.eq_1) (And.intro (uC Try.prog c4_16.eq_1) (And.intro (uR Try.prog c4_17.eq_1) (And.intro (uD Try.prog c4_18.eq_1) (And.intro (uR Try.prog c4_19.eq_1) (And.intro (uR Try.prog c4_20.eq_1) (And.intro (uR Try.prog c4_21.eq_1) (And.intro (uC Try.prog c4_22.eq_1) (And.intro (uC Try.prog c4_23.eq_1) (And.intro (uR Try.prog c4_24.eq_1) (And.intro (uR Try.prog c4_25.eq_1) (And.intro (uC Try.prog c4_26.eq_1) (And.intro (uC Try.prog c4_27.eq_1) (And.intro (uC Try.prog c4_28.eq_1) (And.intro (uC Try.prog c4_29.eq_1) (And.intro (uR Try.prog c4_30.eq_1) (And.intro (uC Try.prog c4_31.eq_1) (And.intro (uC Try.prog c4_32.eq_1) (And.intro (uC Try.prog c4_33.eq_1) (And.intro (uC Try.prog c4_34.eq_1) (And.intro (uC Try.prog c4_35.eq_1) (And.intro (uD Try.prog c4_36.eq_1) (And.intro (uC Try.prog c4_37.eq_1) (And.intro (uC Try.prog c4_38.eq_1) (And.intro (uC Try.prog c4_39.eq_1) (And.intro (uC Try.prog c4_40.eq_1) (And.intro (uC Try.prog c4_41.eq_1) (And.intro (uC Try.prog c4_42.eq_1) (And.intro (uC Try.prog c4_43.eq_1) (And.intro (uC Try.prog c4_44.eq_1) (And.intro (uC Try.prog c4_45.eq_1) (And.intro (uC Try.prog c4_46.eq_1) (uC Try.prog c4.eq_1)))))))))))))))))))))))))))))))))))))))))))))))) := (And.intro (uR Try.prog c4_0.eq_1) (And.intro (uR Try.prog c4_1.eq_1) (And.intro (uR Try.prog c4_2.eq_1) (And.intro (uC Try.prog c4_3.eq_1) (And.intro (uC Try.prog c4_4.eq_1) (And.intro (uC Try.prog c4_5.eq_1) (And.intro (uR Try.prog c4_6.eq_1) (And.intro (uD Try.prog c4_7.eq_1) (And.intro (uR Try.prog c4_8.eq_1) (And.intro (uC Try.prog c4_9.eq_1) (And.intro (uC Try.prog c4_10.eq_1) (And.intro (uC Try.prog c4_11.eq_1) (And.intro (uR Try.prog c4_12.eq_1) (And.intro (uR Try.prog c4_13.eq_1) (And.intro (uC Try.prog c4_14.eq_1) (And.intro (uC Try.prog c4_15.eq_1) (And.intro (uC Try.prog c4_16.eq_1) (And.intro (uR Try.prog c4_17.eq_1) (And.intro (uD Try.prog c4_18.eq_1) (And.intro (uR Try.prog c4_19.eq_1) (And.intro (uR Try.prog c4_20.eq_1) (And.intro (uR Try.prog c4_21.eq_1) (And.intro (uC Try.prog c4_22.eq_1) (And.intro (uC Try.prog c4_23.eq_1) (And.intro (uR Try.prog c4_24.eq_1) (And.intro (uR Try.prog c4_25.eq_1) (And.intro (uC Try.prog c4_26.eq_1) (And.intro (uC Try.prog c4_27.eq_1) (And.intro (uC Try.prog c4_28.eq_1) (And.intro (uC Try.prog c4_29.eq_1) (And.intro (uR Try.prog c4_30.eq_1) (And.intro (uC Try.prog c4_31.eq_1) (And.intro (uC Try.prog c4_32.eq_1) (And.intro (uC Try.prog c4_33.eq_1) (And.intro (uC Try.prog c4_34.eq_1) (And.intro (uC Try.prog c4_35.eq_1) (And.intro (uD Try.prog c4_36.eq_1) (And.intro (uC Try.prog c4_37.eq_1) (And.intro (uC Try.prog c4_38.eq_1) (And.intro (uC Try.prog c4_39.eq_1) (And.intro (uC Try.prog c4_40.eq_1) (And.intro (uC Try.prog c4_41.eq_1) (And.intro (uC Try.prog c4_42.eq_1) (And.intro (uC Try.prog c4_43.eq_1) (And.intro (uC Try.prog c4_44.eq_1) (And.intro (uC Try.prog c4_45.eq_1) (And.intro (uC Try.prog c4_46.eq_1) (uC Try.prog c4.eq_1))))))))))))))))))))))))))))))))))))))))))))))))
def v4 : List RV := [.t 2]
theorem s4 : slimF Try.prog Try.f4 = some (c4.bare, v4) := by kernel_rfl

theorem FnPlainCube_ok (h : Heap) (v : Value) (l : List Int) (s : SlT h encByte 1 v l) (hl : l.length ≤ 9223372036854775807) (hb : ∀ x ∈ l, 0 ≤ x ∧ x ≤ 255) :
    ACall Try.prog 4 [v] h fun r h' => r = .bool true := by
  refine ACall.of Try.func4 s4 (of_decide_eq_true rfl) ?_
  simp (maxSteps := 4000000) (disch := omega) only [ah, am, Nat.reduceEqDiff, reduceCtorEq, Nat.reduceAdd, Nat.reduceLeDiff, Nat.reduceMul, Nat.reduceLT, if_true, if_false, true_and, and_true, and_self, Nat.reduceBEq, QOp.loads, boxO, bslO, buildO, cutL, fillV, putL, w4, v4]
  refine stepC.of (big_ok _ _ _ s) ?_
  rintro _ Hx ⟨hx, rfl⟩; rw [hx]; clear hx Hx
  refine stepI.split (fun hbig => ?_) (fun hbig => ?_)
  · simp (maxSteps := 4000000) (disch := omega) only [ah, am, Nat.reduceEqDiff, reduceCtorEq, Nat.reduceAdd, Nat.reduceLeDiff, Nat.reduceMul, Nat.reduceLT, if_true, if_false, true_and, and_true, and_self, Nat.reduceBEq, QOp.loads, boxO, bslO, buildO, cutL, fillV, putL, w4, v4]
  have hll : l.length ≤ 4096 := by omega
  simp (maxSteps := 4000000) (disch := omega) only [ah, am, Nat.reduceEqDiff, reduceCtorEq, Nat.reduceAdd, Nat.reduceLeDiff, Nat.reduceMul, Nat.reduceLT, if_true, if_false, true_and, and_true, and_self, Nat.reduceBEq, QOp.loads, boxO, bslO, buildO, cutL, fillV, putL, w4, v4]
  refine stepC.of (DrawMatrix_ok _ _ _ s hll) ?_
  rintro _ H1 ⟨mv, m, z, rfl, sm, hm9, zg, zb, zr, e1⟩
  simp (maxSteps := 4000000) (disch := omega) only [ah, am, Nat.reduceEqDiff, reduceCtorEq, Nat.reduceAdd, Nat.reduceLeDiff, Nat.reduceMul, Nat.reduceLT, if_true, if_false, true_and, and_true, and_self, Nat.reduceBEq, QOp.loads, boxO, bslO, buildO, cutL, fillV, putL, w4, v4, encRgb]
  have B4 : Bx (H1.more [[.int .i64 z.r, .int .i64 z.g, .int .i64 z.b]]) H1.size [.int .i64 z.r, .int .i64 z.g, .int .i64 z.b] := Bx.new _ _ _
  have sm := sm.ext (Ext.more H1 [[.int .i64 z.r, .int .i64 z.g, .int .i64 z.b]])
  have e1 := e1.trans (Ext.more H1 [[.int .i64 z.r, .int .i64 z.g, .int .i64 z.b]])
  generalize H1.more [[.int .i64 z.r, .int .i64 z.g, .int .i64 z.b]] = M1 at B4 sm e1 ⊢
  obtain ⟨q, hq⟩ : ∃ q, q = H1.size := ⟨_, rfl⟩
  rw [← hq] at B4 ⊢
  refine stepC.of (Matrix_ok _ _ m z sm (by omega)) ?_
  rintro _ H2 ⟨e2, rfl⟩
  have B4 := B4.ext e2
  have X := B4.ld
  simp (maxSteps := 4000000) (disch := omega) only [ah, am, Nat.reduceEqDiff, reduceCtorEq, Nat.reduceAdd, Nat.reduceLeDiff, Nat.reduceMul, Nat.reduceLT, if_true, if_false, true_and, and_true, and_self, Nat.reduceBEq, QOp.loads, boxO, bslO, buildO, cutL, fillV, putL, w4, v4, encRgb, X]
  refine stepC.of (specMatrix_ok _ _ m z (sm.ext e2) (by omega)) ?_
  rintro _ H3 ⟨e3, rfl⟩
  have B4 := B4.ext e3
  have X := B4.ld
  have E3 := e1.trans (e2.trans e3)
  simp (maxSteps := 4000000) (disch := omega) only [ah, am, Nat.reduceEqDiff, reduceCtorEq, Nat.reduceAdd, Nat.reduceLeDiff, Nat.reduceMul, Nat.reduceLT, if_true, if_false, true_and, and_true, and_self, Nat.reduceBEq, QOp.loads, boxO, bslO, buildO, cutL, fillV, putL, w4, v4, encRgb, X, Option.map_some, Bool.and_self, Bool.not_true]
  by_cases p1 : z.r < 0
  · simp (maxSteps := 4000000) (disch := omega) only [ah, am, Nat.reduceEqDiff, reduceCtorEq, Nat.reduceAdd, Nat.reduceLeDiff, Nat.reduceMul, Nat.reduceLT, if_true, if_false, true_and, and_true, and_self, Nat.reduceBEq, QOp.loads, boxO, bslO, buildO, cutL, fillV, putL, w4, v4, encRgb, X, decide_eq_true p1]
  by_cases p2 : 65535 < z.r
  · simp (maxSteps := 4000000) (disch := omega) only [ah, am, Nat.reduceEqDiff, reduceCtorEq, Nat.reduceAdd, Nat.reduceLeDiff, Nat.reduceMul, Nat.reduceLT, if_true, if_false, true_and, and_true, and_self, Nat.reduceBEq, QOp.loads, boxO, bslO, buildO, cutL, fillV, putL, w4, v4, encRgb, X, decide_eq_false p1, decide_eq_true p2]
  have hz : rgbOk z := ⟨⟨by omega, by omega⟩, zg, zb⟩
  simp (maxSteps := 4000000) (disch := omega) only [ah, am, Nat.reduceEqDiff, reduceCtorEq, Nat.reduceAdd, Nat.reduceLeDiff, Nat.reduceMul, Nat.reduceLT, if_true, if_false, true_and, and_true, and_self, Nat.reduceBEq, QOp.loads, boxO, bslO, buildO, cutL, fillV, putL, w4, v4, encRgb, X, decide_eq_false p1, decide_eq_false p2, decide_eq_false (show ¬ (65535 < z.g) by omega), decide_eq_false (show ¬ (65535 < z.b) by omega)]
  refine stepC.of (pick_ok _ _ l 8 (s.ext E3) hll hb (by omega)) ?_
  rintro _ Hx ⟨hx, y, rfl, y0, y1⟩; rw [hx]; clear hx Hx
  obtain ⟨n, hn⟩ : ∃ n, n = 2 + y := ⟨_, rfl⟩
  have c1 : 2 ≤ n ∧ n ≤ 9 := by omega
  have Wn : IntKind.i64.wrap (2 + y) = n := i64e hn.symm (by omega)
  simp (maxSteps := 4000000) (disch := omega) only [ah, am, Nat.reduceEqDiff, reduceCtorEq, Nat.reduceAdd, Nat.reduceLeDiff, Nat.reduceMul, Nat.reduceLT, if_true, if_false, true_and, and_true, and_self, Nat.reduceBEq, QOp.loads, boxO, bslO, buildO, cutL, fillV, putL, w4, v4, encRgb, X, Wn]
  have B6 : Bx (H3.more [[.int .i64 0, .int .i64 0, .int .i64 0]]) H3.size [.int .i64 0, .int .i64 0, .int .i64 0] := Bx.new _ _ _
  have hlt := Heap.get_lt B4
  have B4 := B4.ext (Ext.more H3 [[.int .i64 0, .int .i64 0, .int .i64 0]])
  have E3 := E3.trans (Ext.more H3 [[.int .i64 0, .int .i64 0, .int .i64 0]])
  generalize H3.more [[.int .i64 0, .int .i64 0, .int .i64 0]] = M3 at B4 B6 E3 ⊢
  obtain ⟨q6, hq6⟩ : ∃ q, q = H3.size := ⟨_, rfl⟩
  rw [← hq6] at B6 hlt ⊢
  refine stepC.of (Plain_ok _ n (by omega)) ?_
  intro pv H4 F4
  have X := (B4.ext F4.1).ld
  have hpl := plainF_length c1
  have hc := cubes c1
  simp (maxSteps := 4000000) (disch := omega) only [ah, am, Nat.reduceEqDiff, reduceCtorEq, Nat.reduceAdd, Nat.reduceLeDiff, Nat.reduceMul, Nat.reduceLT, if_true, if_false, true_and, and_true, and_self, Nat.reduceBEq, QOp.loads, boxO, bslO, buildO, cutL, fillV, putL, w4, v4, encRgb, X]
  refine stepC.of (Cube_ok _ _ _ n z F4.slt (by omega) (by omega)) ?_
  rintro _ H5 ⟨e5, rfl⟩
  have B4 := B4.ext (F4.1.trans e5)
  have B6 := B6.ext (F4.1.trans e5)
  have PN := plain_near c1 hz
  generalize cubeF n (plainF n) z = w at PN ⊢
  obtain ⟨K, es, B6, g⟩ := B6.put (o := 0) (n := 3) (y := .agg #[.int .i64 w.r, .int .i64 w.g, .int .i64 w.b]) rfl (by simp) rfl
  have B6 : Bx K q6 [.int .i64 w.r, .int .i64 w.g, .int .i64 w.b] := B6
  have B4 := B4.step g (by omega)
  have X := B4.ld
  have X6 := B6.ld
  obtain ⟨⟨n1, n2⟩, ⟨n3, n4⟩, n5, n6⟩ := PN
  have w1 : IntKind.i64.wrap (w.r - z.r) = w.r - z.r := i64w (by omega)
  have w2 : IntKind.i64.wrap (w.g - z.g) = w.g - z.g := i64w (by omega)
  have w3 : IntKind.i64.wrap (w.b - z.b) = w.b - z.b := i64w (by omega)
  simp (maxSteps := 4000000) (disch := omega) only [ah, am, Nat.reduceEqDiff, reduceCtorEq, Nat.reduceAdd, Nat.reduceLeDiff, Nat.reduceMul, Nat.reduceLT, if_true, if_false, true_and, and_true, and_self, Nat.reduceBEq, QOp.loads, boxO, bslO, buildO, cutL, fillV, putL, w4, v4, encRgb, X, es, X6, w1, w2, w3]
  have eM := Ext.more K [[.int .i64 (w.r - z.r), .int .i64 (w.g - z.g), .int .i64 (w.b - z.b)]]
  have B7 : Bx (K.more [[.int .i64 (w.r - z.r), .int .i64 (w.g - z.g), .int .i64 (w.b - z.b)]]) K.size [.int .i64 (w.r - z.r), .int .i64 (w.g - z.g), .int .i64 (w.b - z.b)] := Bx.new _ _ _
  have O7 := Bx_own B7 (enc := encI) (sz := 1) [w.r - z.r, w.g - z.g, w.b - z.b] encI_len (by omega) rfl
  have B4 := B4.ext eM
  obtain ⟨v7, hv7⟩ : ∃ v7 : Value, v7 = .slice (some ⟨K.size, 0, none⟩) 3 1 := ⟨_, rfl⟩
  rw [show ([w.r - z.r, w.g - z.g, w.b - z.b] : List Int).length = 3 from rfl, ← hv7] at O7
  rw [← hv7]
  generalize K.more [[.int .i64 (w.r - z.r), .int .i64 (w.g - z.g), .int .i64 (w.b - z.b)]] = M5 at B4 O7 ⊢
  refine SW_loop_up (fun i E K => K = M5 ∧ E = [(4, .pointer (some ⟨q, 0, none⟩)), (7, v7), (8, .int .i64 (i : Int))]) 3 0 (by omega) ⟨rfl, rfl⟩ ?_
  rintro i E K hi ⟨rfl, rfl⟩
  simp (maxSteps := 4000000) (disch := omega) only [ah, am, Nat.reduceEqDiff, reduceCtorEq, Nat.reduceAdd, Nat.reduceLeDiff, Nat.reduceMul, Nat.reduceLT, if_true, if_false, true_and, and_true, and_self, Nat.reduceBEq, QOp.loads, boxO, bslO, buildO, cutL, fillV, putL, w4, v4]
  refine stepI.split (fun hp => ?_) (fun hp => ?_)
  · have R := rdI O7 (i := i) (by simp; omega)
    have W : IntKind.i64.wrap ((i : Int) + 1) = ((i + 1 : Nat) : Int) := i64e (by omega) (by omega)
    have hd : -1 ≤ ([w.r - z.r, w.g - z.g, w.b - z.b] : List Int).getD i 0 ∧ ([w.r - z.r, w.g - z.g, w.b - z.b] : List Int).getD i 0 ≤ 1 := by
      have h3 : i = 0 ∨ i = 1 ∨ i = 2 := by omega
      rcases h3 with rfl | rfl | rfl
      · exact ⟨n1, n2⟩
      · exact ⟨n3, n4⟩
      · exact ⟨n5, n6⟩
    simp (maxSteps := 4000000) (disch := omega) only [ah, am, Nat.reduceEqDiff, reduceCtorEq, Nat.reduceAdd, Nat.reduceLeDiff, Nat.reduceMul, Nat.reduceLT, if_true, if_false, true_and, and_true, and_self, Nat.reduceBEq, QOp.loads, boxO, bslO, buildO, cutL, fillV, putL, w4, v4, R, decide_eq_false (show ¬ (1 < ([w.r - z.r, w.g - z.g, w.b - z.b] : List Int).getD i 0) by omega), decide_eq_false (show ¬ (([w.r - z.r, w.g - z.g, w.b - z.b] : List Int).getD i 0 < -1) by omega), W]
    omega
  · clear hp hi
    have eN := Ext.more K [[.int .i64 4096, .int .i64 0, .int .i64 0, .int .i64 0, .int .i64 4096, .int .i64 0, .int .i64 0, .int .i64 0, .int .i64 4096]]
    have sN := (OwnT.new K [4096, 0, 0, 0, 4096, 0, 0, 0, 4096] encI_len (by omega)).slt
    have B4 := B4.ext eN
    have X := B4.ld
    simp (maxSteps := 4000000) (disch := omega) only [ah, am, Nat.reduceEqDiff, reduceCtorEq, Nat.reduceAdd, Nat.reduceLeDiff, Nat.reduceMul, Nat.reduceLT, if_true, if_false, true_and, and_true, and_self, Nat.reduceBEq, QOp.loads, boxO, bslO, buildO, cutL, fillV, putL, w4, v4, encRgb, X]
    refine stepC.of (Matrix_ok _ _ [4096, 0, 0, 0, 4096, 0, 0, 0, 4096] z sN (by simp)) ?_
    rintro _ K1 ⟨e1, rfl⟩
    rw [mat_one hz]
    have B4 := B4.ext e1
    have e2 := Ext.more K1 [[.int .i64 0, .int .i64 65535]]
    have s2 := (OwnT.new K1 [0, 65535] encI_len (by omega)).slt
    have X := B4.ld
    have B4 := B4.ext e2
    have X2 := B4.ld
    simp (maxSteps := 4000000) (disch := omega) only [ah, am, Nat.reduceEqDiff, reduceCtorEq, Nat.reduceAdd, Nat.reduceLeDiff, Nat.reduceMul, Nat.reduceLT, if_true, if_false, true_and, and_true, and_self, Nat.reduceBEq, QOp.loads, boxO, bslO, buildO, cutL, fillV, putL, w4, v4, encRgb, X, X2, Option.map_some, Bool.and_self, Bool.not_true]
    refine stepC.of (Curve_ok _ _ 0 65535 z.r s2 (by omega) (by omega) hz.1) ?_
    rintro _ K2 ⟨e3, rfl⟩
    have v1 : (0 : Int) + near ((65535 - 0) * z.r) 65535 = z.r := by unfold near; omega
    rw [v1]
    have B4 := B4.ext e3
    have X3 := B4.ld
    have e4 := Ext.more K2 [[.int .i64 65535, .int .i64 0]]
    have s3 := (OwnT.new K2 [65535, 0] encI_len (by omega)).slt
    have X4 := (B4.ext e4).ld
    simp (maxSteps := 4000000) (disch := omega) only [ah, am, Nat.reduceEqDiff, reduceCtorEq, Nat.reduceAdd, Nat.reduceLeDiff, Nat.reduceMul, Nat.reduceLT, if_true, if_false, true_and, and_true, and_self, Nat.reduceBEq, QOp.loads, boxO, bslO, buildO, cutL, fillV, putL, w4, v4, encRgb, X3, X4, eq_self, decide_true]
    refine stepC.of (Curve_ok _ _ 65535 0 z.r s3 (by omega) (by omega) hz.1) ?_
    rintro _ K3 ⟨e5, rfl⟩
    have v2 : (65535 : Int) + near ((0 - 65535) * z.r) 65535 = 65535 - z.r := by unfold near; omega
    rw [v2]
    have X5 := ((B4.ext e4).ext e5).ld
    have w9 : IntKind.i64.wrap (65535 - z.r) = 65535 - z.r := i64w (by have := hz.1; omega)
    simp (maxSteps := 4000000) (disch := omega) only [ah, am, Nat.reduceEqDiff, reduceCtorEq, Nat.reduceAdd, Nat.reduceLeDiff, Nat.reduceMul, Nat.reduceLT, if_true, if_false, true_and, and_true, and_self, Nat.reduceBEq, QOp.loads, boxO, bslO, buildO, cutL, fillV, putL, w4, v4, encRgb, X5, w9, eq_self, decide_true]
end Go.Proofs.Ytmhbmbhdeofbaaa
