import Derived.Test.YtmhbmbhdeofbaaaE5
namespace Go.Proofs.Ytmhbmbhdeofbaaa
open Go Go.Ah
set_option linter.unusedSimpArgs false
set_option linter.unusedVariables false
set_option maxRecDepth 10000
set_option maxHeartbeats 4000000
/-! 3 loop.example/g00066/laws.FnExactCube: parameters 3, live [0, 1, 2], slots [0:aN, 1:aTable, 2:aC, 3:aN, 4:aTable, 5:aC, 7:left, 8:w0, 9:x1, 10:g0] -/
def c3_0 : List SOper := [⟨some 5, .a (.box (.t 2)), none⟩, ⟨some 6, .q (.mv (.c (.bool false))), none⟩]
def c3_1 : List SOper := [⟨some 7, .q (.mv (.c (.int .i64 1048576))), none⟩]
def c3_2 : List SOper := [⟨some 11, .q (.mv (.t 1)), none⟩, ⟨some 12, .q (.mv (.t 7)), none⟩, ⟨some 13, .e (.call 6 [(.t 11), (.t 12)]), none⟩, ⟨some 7, .q (.mv (.t 13)), none⟩]
def c3_3 : List SOper := [⟨some 14, .q (.mv (.t 7)), none⟩, ⟨some 15, .q (.bin .lss (.t 14) (.c (.int .i64 0))), none⟩]
def c3_4 : List SOper := [⟨some 6, .q (.mv (.c (.bool true))), none⟩]
def c3_5 : SCode := .seq (.region c3_4 [6]) .ret
def c3_6 : SCode := .cond (.t 15) c3_5 .skip
def c3_7 : SCode := .seq (.region c3_3 [0, 1, 5, 15]) c3_6
def c3_8 : List DOper := [⟨0, ⟨some 16, .q (.mv (.t 0)), none⟩, [], []⟩, ⟨1, ⟨some 17, .q (.mv (.t 1)), none⟩, [], []⟩, ⟨3, ⟨some 19, .q (.ldn 3 (.t 5)), none⟩, [], []⟩, ⟨6, ⟨some 8, .a (.new [(.int .i64 0), (.int .i64 0), (.int .i64 0)]), none⟩, [], []⟩, ⟨2, ⟨some 18, .e (.call 8 [(.t 17)]), none⟩, [], [3]⟩, ⟨4, ⟨some 20, .e (.call 9 [(.t 19)]), none⟩, [], []⟩, ⟨5, ⟨some 21, .e (.call 7 [(.t 16), (.t 18), (.t 20)]), none⟩, [], []⟩, ⟨7, ⟨none, .e (.st 3 (.t 8) (.t 21)), none⟩, [], []⟩]
def c3_9 : List SOper := [⟨some 22, .q (.mv (.t 1)), none⟩, ⟨some 23, .e (.call 8 [(.t 22)]), none⟩, ⟨some 9, .q (.mv (.t 23)), none⟩]
def c3_10 : List SOper := [⟨some 24, .q (.mv (.t 0)), none⟩, ⟨some 25, .q (.mv (.t 9)), none⟩, ⟨some 26, .q (.ldn 3 (.t 5)), none⟩, ⟨some 27, .e (.call 9 [(.t 26)]), none⟩, ⟨some 28, .e (.call 10 [(.t 24), (.t 25), (.t 27)]), none⟩, ⟨some 10, .a (.new [(.int .i64 0), (.int .i64 0), (.int .i64 0)]), none⟩, ⟨none, .e (.st 3 (.t 10) (.t 28)), none⟩]
def c3_11 : List SOper := [⟨some 29, .q (.ldn 3 (.t 10)), none⟩, ⟨some 30, .q (.ldn 3 (.t 8)), none⟩, ⟨some 31, .e (.call 11 [(.t 29), (.t 30)]), none⟩, ⟨some 32, .q (.not (.t 31)), none⟩]
def c3_12 : List SOper := [⟨some 6, .q (.mv (.c (.bool false))), none⟩]
def c3_13 : SCode := .seq (.region c3_12 [6]) .ret
def c3_14 : SCode := .cond (.t 32) c3_13 .skip
def c3_15 : SCode := .seq (.region c3_11 [1, 9, 32]) c3_14
def c3_16 : List SOper := [⟨some 33, .q (.mv (.t 9)), none⟩, ⟨some 34, .q (.mv (.t 1)), none⟩, ⟨some 35, .e (.call 8 [(.t 34)]), none⟩, ⟨some 36, .e (.call 12 [(.t 33), (.t 35)]), none⟩, ⟨some 37, .q (.not (.t 36)), none⟩]
def c3_17 : List SOper := [⟨some 6, .q (.mv (.c (.bool false))), none⟩]
def c3_18 : SCode := .seq (.region c3_17 [6]) .ret
def c3_19 : SCode := .cond (.t 37) c3_18 .skip
def c3_20 : SCode := .seq (.region c3_16 [37]) c3_19
def c3_21 : List SOper := [⟨some 6, .q (.mv (.c (.bool true))), none⟩]
def c3_22 : SCode := .seq (.region c3_21 [6]) .ret
def c3_23 : SCode := .seq c3_20 c3_22
def c3_24 : SCode := .seq c3_15 c3_23
def c3_25 : SCode := .seq (.region c3_10 [1, 8, 9, 10]) c3_24
def c3_26 : SCode := .seq (.region c3_9 [0, 1, 5, 8, 9]) c3_25
def c3_27 : SCode := .seq (.dregion c3_8 [0, 1, 5, 8]) c3_26
def c3_28 : SCode := .seq c3_7 c3_27
def c3_29 : SCode := .seq (.region c3_2 [0, 1, 5, 7]) c3_28
def c3_30 : SCode := .seq (.region c3_1 [0, 1, 5, 7]) c3_29
def c3_31 : SCode := .seq (.region c3_0 [0, 1, 5]) c3_30
def c3 : SCode := c3_31
theorem w3 : type_of% (And.intro (uR Try.prog c3_0.eq_1) (And.intro (uR Try.prog c3_1.eq_1) (And.intro (uR Try.prog c3_2.eq_1) (And.intro (uR Try.prog c3_3.eq_1) (And.intro (uR Try.prog c3_4.eq_1) (And.intro (uC Try.prog c3_5.eq_1) (And.intro (uC Try.prog c3_6.eq_1) (And.intro (uC Try.prog c3_7.eq_1) (And.intro (uD Try.prog c3_8.eq_1) (And.intro (uR Try.prog c3_9.eq_1) (And.intro (uR Try.prog c3_10.eq_1) (And.intro (uR Try.prog c3_11.eq_1) (And.intro (uR Try.prog c3_12.eq_1) (And.intro (uC Try.prog c3_13.eq_1) (And.intro (uC Try.prog c3_14.eq_1) (And.intro (uC Try.prog c3_15.eq_1) (And.intro (uR Try.prog c3_16.eq_1) (And.intro (uR Try.prog c3_17.eq_1) (And.intro (uC Try.prog c3_18.eq_1) (And.intro (uC Try.prog c3_19.eq_1) (And.intro (uC Try.prog c3_20.eq_1) (And.intro (uR Try.prog c3_21.eq_1) (And.intro (uC Try.prog c3_22.eq_1) (And.intro (uC Try.prog c3_23.eq_1) (And.intro (uC Try.prog c3_24.eq_1) (And.intro (uC Try.prog c3_25.eq_1) (And.intro (uC Try.prog c3_26.eq_1) (And.intro (uC Try.prog c3_27.eq_1) (And.intro (uC Try.prog c3_28.eq_1) (And.intro (uC Try.prog c3_29.eq_1) (And.intro (uC Try.prog c3_30.eq_1) (And.intro (uC Try.prog c3_31.eq_1) (uC Try.prog c3.eq_1))))))))))))))))))))))))))))))))) := (And.intro (uR Try.prog c3_0.eq_1) (And.intro (uR Try.prog c3_1.eq_1) (And.intro (uR Try.prog c3_2.eq_1) (And.intro (uR Try.prog c3_3.eq_1) (And.intro (uR Try.prog c3_4.eq_1) (And.intro (uC Try.prog c3_5.eq_1) (And.intro (uC Try.prog c3_6.eq_1) (And.intro (uC Try.prog c3_7.eq_1) (And.intro (uD Try.prog c3_8.eq_1) (And.intro (uR Try.prog c3_9.eq_1) (And.intro (uR Try.prog c3_10.eq_1) (And.intro (uR Try.prog c3_11.eq_1) (And.intro (uR Try.prog c3_12.eq_1) (And.intro (uC Try.prog c3_13.eq_1) (And.intro (uC Try.prog c3_14.eq_1) (And.intro (uC Try.prog c3_15.eq_1) (And.intro (uR Try.prog c3_16.eq_1) (And.intro (uR Try.prog c3_17.eq_1) (And.intro (uC Try.prog c3_18.eq_1) (And.intro (uC Try.prog c3_19.eq_1) (And.intro (uC Try.prog c3_20.eq_1) (And.intro (uR Try.prog c3_21.eq_1) (And.intro (uC Try.prog c3_22.eq_1) (And.intro (uC Try.prog c3_23.eq_1) (And.intro (uC Try.prog c3_24.eq_1) (And.intro (uC Try.prog c3_25.eq_1) (And.intro (uC Try.prog c3_26.eq_1) (And.intro (uC Try.prog c3_27.eq_1) (And.intro (uC Try.prog c3_28.eq_1) (And.intro (uC Try.prog c3_29.eq_1) (And.intro (uC Try.prog c3_30.eq_1) (And.intro (uC Try.prog c3_31.eq_1) (uC Try.prog c3.eq_1)))))))))))))))))))))))))))))))))
def v3 : List RV := [.t 6]
theorem s3 : slimF Try.prog Try.f3 = some (c3.bare, v3) := by kernel_rfl

theorem FnExactCube_ok (h : Heap) (n : Int) (v : Value) (l : List Rgb) (k : Rgb) (s : SlT h encRgb 3 v l) (hl : l.length ≤ 9223372036854775807) (hn : -9223372036854775808 ≤ n ∧ n ≤ 9223372036854775807) {Q1 Q2 : Prop} (q1 : Q1) (q2 : Q2) :
    ACall Try.prog 3 [.int .i64 n, v, .agg (encRgb k).toArray] h fun r h' => r = .bool true := by
  refine ACall.of Try.func3 s3 (of_decide_eq_true rfl) ?_
  obtain ⟨k1, k2, k3⟩ := k
  simp (maxSteps := 4000000) (disch := omega) only [ah, am, Nat.reduceEqDiff, reduceCtorEq, Nat.reduceAdd, Nat.reduceLeDiff, Nat.reduceMul, Nat.reduceLT, if_true, if_false, true_and, and_true, and_self, Nat.reduceBEq, QOp.loads, boxO, bslO, buildO, cutL, fillV, putL, w3, v3, encRgb]
  have s0 := s
  have s := s.ext (Ext.more h [[.int .i64 k1, .int .i64 k2, .int .i64 k3]])
  refine stepC.of (szRgbS_ok _ v l 1048576 s (by omega) (by omega) hl) ?_
  rintro _ Hx ⟨hx, rfl⟩; rw [hx]; clear hx Hx
  simp (maxSteps := 4000000) (disch := omega) only [ah, am, Nat.reduceEqDiff, reduceCtorEq, Nat.reduceAdd, Nat.reduceLeDiff, Nat.reduceMul, Nat.reduceLT, if_true, if_false, true_and, and_true, and_self, Nat.reduceBEq, QOp.loads, boxO, bslO, buildO, cutL, fillV, putL, w3, v3, encRgb]
  by_cases hsz : (1048576 : Int) - l.length < 0
  · simp (maxSteps := 4000000) (disch := omega) only [ah, am, Nat.reduceEqDiff, reduceCtorEq, Nat.reduceAdd, Nat.reduceLeDiff, Nat.reduceMul, Nat.reduceLT, if_true, if_false, true_and, and_true, and_self, Nat.reduceBEq, QOp.loads, boxO, bslO, buildO, cutL, fillV, putL, w3, v3, hsz, if_pos, stepI_dec]
  have hz : decide ((if (1048576 : Int) - l.length < 0 then -1 else 1048576 - (l.length : Int)) < 0) = false := by rw [if_neg hsz]; exact decide_eq_false hsz
  have X := (Bx.new h [.int .i64 k1, .int .i64 k2, .int .i64 k3] []).ld
  simp (maxSteps := 4000000) (disch := omega) only [ah, am, Nat.reduceEqDiff, reduceCtorEq, Nat.reduceAdd, Nat.reduceLeDiff, Nat.reduceMul, Nat.reduceLT, if_true, if_false, true_and, and_true, and_self, Nat.reduceBEq, QOp.loads, boxO, bslO, buildO, cutL, fillV, putL, w3, v3, encRgb, hz, X]
  have hll : l.length ≤ 1048576 := by omega
  have B5 : Bx (h.more [[.int .i64 k1, .int .i64 k2, .int .i64 k3], [.int .i64 0, .int .i64 0, .int .i64 0]]) h.size [.int .i64 k1, .int .i64 k2, .int .i64 k3] := Bx.new h _ _
  have B8 : Bx (h.more [[.int .i64 k1, .int .i64 k2, .int .i64 k3], [.int .i64 0, .int .i64 0, .int .i64 0]]) (h.size + 1) [.int .i64 0, .int .i64 0, .int .i64 0] := by unfold Bx; rw [get_more]; rfl
  have s : SlT (h.more [[.int .i64 k1, .int .i64 k2, .int .i64 k3], [.int .i64 0, .int .i64 0, .int .i64 0]]) encRgb 3 v l := s0.ext (Ext.more h _)
  have E0 : Ext h (h.more [[.int .i64 k1, .int .i64 k2, .int .i64 k3], [.int .i64 0, .int .i64 0, .int .i64 0]]) := Ext.more h _
  generalize h.more [[.int .i64 k1, .int .i64 k2, .int .i64 k3], [.int .i64 0, .int .i64 0, .int .i64 0]] = M0 at B5 B8 s E0 ⊢
  refine stepC.of (toRgbS_ok _ _ _ s hll) ?_
  intro t1 H1 F1
  have X := (B5.ext F1.1).ld
  simp (maxSteps := 4000000) (disch := omega) only [ah, am, Nat.reduceEqDiff, reduceCtorEq, Nat.reduceAdd, Nat.reduceLeDiff, Nat.reduceMul, Nat.reduceLT, if_true, if_false, true_and, and_true, and_self, Nat.reduceBEq, QOp.loads, boxO, bslO, buildO, cutL, fillV, putL, w3, v3, encRgb, X]
  refine stepC.of (toRgb_ok' _ _ _ _) ?_
  rintro _ H2 ⟨e2, rfl⟩
  simp (maxSteps := 4000000) (disch := omega) only [ah, am, Nat.reduceEqDiff, reduceCtorEq, Nat.reduceAdd, Nat.reduceLeDiff, Nat.reduceMul, Nat.reduceLT, if_true, if_false, true_and, and_true, and_self, Nat.reduceBEq, QOp.loads, boxO, bslO, buildO, cutL, fillV, putL, w3, v3, encRgb, X]
  refine stepC.of (specCube_ok _ _ _ n ⟨k1, k2, k3⟩ (F1.ext e2).slt (by omega) hn) ?_
  rintro _ H3 ⟨e3, rfl⟩
  have B5 := B5.ext (F1.1.trans (e2.trans e3))
  have B8 := B8.ext (F1.1.trans (e2.trans e3))
  have s := s.ext (F1.1.trans (e2.trans e3))
  generalize hc : cubeF n l ⟨k1, k2, k3⟩ = z
  have hs8 := Heap.get_lt B8
  obtain ⟨K, es, B8, g⟩ := B8.put (o := 0) (n := 3) (y := .agg #[.int .i64 z.r, .int .i64 z.g, .int .i64 z.b]) rfl (by simp) rfl
  have B8 : Bx K (h.size + 1) [.int .i64 z.r, .int .i64 z.g, .int .i64 z.b] := B8
  have B5 := B5.step g (by omega)
  simp (maxSteps := 4000000) (disch := omega) only [ah, am, Nat.reduceEqDiff, reduceCtorEq, Nat.reduceAdd, Nat.reduceLeDiff, Nat.reduceMul, Nat.reduceLT, if_true, if_false, true_and, and_true, and_self, Nat.reduceBEq, QOp.loads, boxO, bslO, buildO, cutL, fillV, putL, w3, v3, encRgb, es]
  have EK : Ext h K := g.ext (E0.trans (F1.1.trans (e2.trans e3))) (by omega)
  refine stepC.of (toRgbS_ok _ _ _ (s0.ext EK) hll) ?_
  intro x1 H4 Fx
  have X := (B5.ext Fx.1).ld
  simp (maxSteps := 4000000) (disch := omega) only [ah, am, Nat.reduceEqDiff, reduceCtorEq, Nat.reduceAdd, Nat.reduceLeDiff, Nat.reduceMul, Nat.reduceLT, if_true, if_false, true_and, and_true, and_self, Nat.reduceBEq, QOp.loads, boxO, bslO, buildO, cutL, fillV, putL, w3, v3, encRgb, X]
  refine stepC.of (toRgb_ok' _ _ _ _) ?_
  rintro _ H5 ⟨e5, rfl⟩
  simp (maxSteps := 4000000) (disch := omega) only [ah, am, Nat.reduceEqDiff, reduceCtorEq, Nat.reduceAdd, Nat.reduceLeDiff, Nat.reduceMul, Nat.reduceLT, if_true, if_false, true_and, and_true, and_self, Nat.reduceBEq, QOp.loads, boxO, bslO, buildO, cutL, fillV, putL, w3, v3, encRgb, X]
  refine stepC.of (Cube_ok _ _ _ n ⟨k1, k2, k3⟩ (Fx.ext e5).slt (by omega) hn) ?_
  rintro _ H6 ⟨e6, rfl⟩
  rw [hc]
  have eX := Ext.more H6 [[.int .i64 z.r, .int .i64 z.g, .int .i64 z.b]]
  have B10 : Bx (H6.more [[.int .i64 z.r, .int .i64 z.g, .int .i64 z.b]]) H6.size [.int .i64 z.r, .int .i64 z.g, .int .i64 z.b] := Bx.new _ _ _
  have B8 := B8.ext (Fx.1.trans (e5.trans (e6.trans eX)))
  have s1 := (Fx.ext (e5.trans (e6.trans eX))).slt
  have EX := EK.trans (Fx.1.trans (e5.trans (e6.trans eX)))
  have X10 := B10.ld
  have X8 := B8.ld
  simp (maxSteps := 4000000) (disch := omega) only [ah, am, Nat.reduceEqDiff, reduceCtorEq, Nat.reduceAdd, Nat.reduceLeDiff, Nat.reduceMul, Nat.reduceLT, if_true, if_false, true_and, and_true, and_self, Nat.reduceBEq, QOp.loads, boxO, bslO, buildO, cutL, fillV, putL, w3, v3, encRgb, X10, X8]
  refine stepC.of (eqRgb_ok _ z z) ?_
  rintro _ H7 ⟨e7, rfl⟩
  simp (maxSteps := 4000000) (disch := omega) only [ah, am, Nat.reduceEqDiff, reduceCtorEq, Nat.reduceAdd, Nat.reduceLeDiff, Nat.reduceMul, Nat.reduceLT, if_true, if_false, true_and, and_true, and_self, Nat.reduceBEq, QOp.loads, boxO, bslO, buildO, cutL, fillV, putL, w3, v3, eq_self, decide_true]
  refine stepC.of (toRgbS_ok _ _ _ (s0.ext (EX.trans e7)) hll) ?_
  intro t2 H8 F8
  simp (maxSteps := 4000000) (disch := omega) only [ah, am, Nat.reduceEqDiff, reduceCtorEq, Nat.reduceAdd, Nat.reduceLeDiff, Nat.reduceMul, Nat.reduceLT, if_true, if_false, true_and, and_true, and_self, Nat.reduceBEq, QOp.loads, boxO, bslO, buildO, cutL, fillV, putL, w3, v3]
  refine stepC.of (eqRgbS_ok _ _ _ _ _ (s1.ext (e7.trans F8.1)) F8.slt (by omega) (by omega)) ?_
  rintro _ H9 ⟨e9, rfl⟩
  simp (maxSteps := 4000000) (disch := omega) only [ah, am, Nat.reduceEqDiff, reduceCtorEq, Nat.reduceAdd, Nat.reduceLeDiff, Nat.reduceMul, Nat.reduceLT, if_true, if_false, true_and, and_true, and_self, Nat.reduceBEq, QOp.loads, boxO, bslO, buildO, cutL, fillV, putL, w3, v3, eq_self, decide_true]
end Go.Proofs.Ytmhbmbhdeofbaaa
