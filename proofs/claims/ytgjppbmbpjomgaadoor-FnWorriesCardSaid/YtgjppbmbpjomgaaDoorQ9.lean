import Derived.Test.YtgjppbmbpjomgaaDoorQ8
namespace Go.Proofs.YtgjppbmbpjomgaaDoor
open Go Go.Ah
set_option linter.unusedSimpArgs false
set_option linter.unusedVariables false
set_option maxRecDepth 10000
set_option maxHeartbeats 4000000
/-! 6 loop.example/g00066/spec.DrawUnread: parameters 1, live [0], slots [0:code, 1:code, 4:c, 5:s] -/
def c6_0 : List SOper := [⟨some 2, .q (.mv (.c (.slice none 0 0))), none⟩, ⟨some 3, .a (.new [(.int .i64 0), (.int .i64 0), (.int .i64 0), (.int .i64 0), (.int .i64 0)]), none⟩]
def c6_1 : List SOper := [⟨some 6, .q (.mv (.t 0)), none⟩, ⟨some 7, .e (.call 19 [(.t 6)]), none⟩, ⟨some 4, .q (.mv (.t 7)), none⟩]
def c6_2 : List SOper := [⟨some 8, .q (.mv (.t 4)), none⟩, ⟨some 9, .e (.call 20 [(.t 8), (.c (.int .i64 1200))]), none⟩, ⟨some 10, .q (.bin .add (.c (.int .i64 1)) (.t 9)), none⟩, ⟨some 11, .q (.mv (.t 4)), none⟩, ⟨some 12, .e (.call 20 [(.t 11), (.c (.int .i64 150))]), none⟩, ⟨some 13, .q (.mv (.t 4)), none⟩, ⟨some 14, .e (.call 20 [(.t 13), (.c (.int .i64 20))]), none⟩, ⟨some 15, .q (.bin .add (.c (.int .i64 1)) (.t 14)), none⟩, ⟨some 16, .q (.mv (.t 4)), none⟩, ⟨some 17, .e (.call 20 [(.t 16), (.c (.int .i64 3))]), none⟩, ⟨some 18, .q (.bin .add (.c (.int .i64 1)) (.t 17)), none⟩, ⟨some 19, .q (.mv (.t 4)), none⟩, ⟨some 20, .e (.call 20 [(.t 19), (.c (.int .i64 14))]), none⟩, ⟨some 21, .q (.bin .add (.c (.int .i64 1)) (.t 20)), none⟩, ⟨some 22, .q (.build [(.int .i64 0), (.int .i64 0), (.int .i64 0), (.int .i64 0), (.int .i64 0)] [(0, 1, (.t 10)), (1, 1, (.t 12)), (2, 1, (.t 15)), (3, 1, (.t 18)), (4, 1, (.t 21))]), none⟩, ⟨some 5, .a (.new [(.int .i64 0), (.int .i64 0), (.int .i64 0), (.int .i64 0), (.int .i64 0)]), none⟩, ⟨none, .e (.st 5 (.t 5) (.t 22)), none⟩]
def c6_3 : List SOper := [⟨some 23, .q (.mv (.t 4)), none⟩, ⟨some 24, .e (.call 21 [(.t 23), (.c (.int .i64 16))]), none⟩]
def c6_4 : List SOper := [⟨some 25, .q (.mv (.t 4)), none⟩, ⟨some 26, .e (.call 20 [(.t 25), (.c (.int .i64 5))]), none⟩]
def c6_5 : List SOper := [⟨some 28, .q (.bin .eql (.t 26) (.c (.int .i64 0))), none⟩, ⟨some 27, .q (.mv (.t 28)), none⟩]
def c6_6 : List SOper := [⟨some 29, .a (.bsl 3 1 [(.int .i64 0), (.int .i64 0), (.int .i64 0)] [(0, 1, (.c (.int .i64 0))), (1, 1, (.c (.int .i64 359999999))), (2, 1, (.c (.int .i64 360000000)))]), none⟩, ⟨some 30, .q (.mv (.t 4)), none⟩, ⟨some 31, .e (.call 20 [(.t 30), (.c (.int .i64 3))]), none⟩, ⟨some 32, .q (.ia 1 (.t 29) (.t 31)), none⟩, ⟨some 33, .q (.ld (.t 32)), none⟩, ⟨some 34, .q (.fa 0 (.t 5)), none⟩, ⟨none, .e (.st 1 (.t 34) (.t 33)), none⟩]
def c6_7 : List SOper := [⟨some 36, .q (.bin .eql (.t 26) (.c (.int .i64 1))), none⟩, ⟨some 35, .q (.mv (.t 36)), none⟩]
def c6_8 : List SOper := [⟨some 37, .a (.bsl 2 1 [(.int .i64 0), (.int .i64 0)] [(0, 1, (.c (.int .i64 (-1)))), (1, 1, (.c (.int .i64 360000000)))]), none⟩, ⟨some 38, .q (.mv (.t 4)), none⟩, ⟨some 39, .e (.call 20 [(.t 38), (.c (.int .i64 2))]), none⟩, ⟨some 40, .q (.ia 1 (.t 37) (.t 39)), none⟩, ⟨some 41, .q (.ld (.t 40)), none⟩, ⟨some 42, .q (.fa 1 (.t 5)), none⟩, ⟨none, .e (.st 1 (.t 42) (.t 41)), none⟩]
def c6_9 : List SOper := [⟨some 44, .q (.bin .eql (.t 26) (.c (.int .i64 2))), none⟩, ⟨some 43, .q (.mv (.t 44)), none⟩]
def c6_10 : List SOper := [⟨some 45, .a (.bsl 3 1 [(.int .i64 0), (.int .i64 0), (.int .i64 0)] [(0, 1, (.c (.int .i64 0))), (1, 1, (.c (.int .i64 359999999))), (2, 1, (.c (.int .i64 360000000)))]), none⟩, ⟨some 46, .q (.mv (.t 4)), none⟩, ⟨some 47, .e (.call 20 [(.t 46), (.c (.int .i64 3))]), none⟩, ⟨some 48, .q (.ia 1 (.t 45) (.t 47)), none⟩, ⟨some 49, .q (.ld (.t 48)), none⟩, ⟨some 50, .q (.fa 2 (.t 5)), none⟩, ⟨none, .e (.st 1 (.t 50) (.t 49)), none⟩]
def c6_11 : List SOper := [⟨some 52, .q (.bin .eql (.t 26) (.c (.int .i64 3))), none⟩, ⟨some 51, .q (.mv (.t 52)), none⟩]
def c6_12 : List SOper := [⟨some 53, .q (.fa 3 (.t 5)), none⟩, ⟨none, .e (.st 1 (.t 53) (.c (.int .i64 0))), none⟩]
def c6_13 : List SOper := [⟨some 55, .q (.bin .eql (.t 26) (.c (.int .i64 4))), none⟩, ⟨some 54, .q (.mv (.t 55)), none⟩]
def c6_14 : List SOper := [⟨some 56, .q (.fa 4 (.t 5)), none⟩, ⟨none, .e (.st 1 (.t 56) (.c (.int .i64 0))), none⟩]
def c6_15 : SCode := .cond (.t 54) (.region c6_14 [3, 4, 5]) .skip
def c6_16 : SCode := .seq (.region c6_13 [3, 4, 5, 54]) c6_15
def c6_17 : SCode := .cond (.t 51) (.region c6_12 [3, 4, 5]) c6_16
def c6_18 : SCode := .seq (.region c6_11 [3, 4, 5, 26, 51]) c6_17
def c6_19 : SCode := .cond (.t 43) (.region c6_10 [3, 4, 5]) c6_18
def c6_20 : SCode := .seq (.region c6_9 [3, 4, 5, 26, 43]) c6_19
def c6_21 : SCode := .cond (.t 35) (.region c6_8 [3, 4, 5]) c6_20
def c6_22 : SCode := .seq (.region c6_7 [3, 4, 5, 26, 35]) c6_21
def c6_23 : SCode := .cond (.t 27) (.region c6_6 [3, 4, 5]) c6_22
def c6_24 : SCode := .seq (.region c6_5 [3, 4, 5, 26, 27]) c6_23
def c6_25 : SCode := .block 0 c6_24
def c6_26 : SCode := .seq (.region c6_4 [3, 4, 5, 26]) c6_25
def c6_27 : SCode := .cond (.t 24) c6_26 .skip
def c6_28 : SCode := .seq (.region c6_3 [3, 4, 5, 24]) c6_27
def c6_29 : List DOper := [⟨0, ⟨some 57, .q (.mv (.t 4)), none⟩, [], []⟩, ⟨2, ⟨some 59, .q (.ldn 5 (.t 5)), none⟩, [], []⟩, ⟨1, ⟨some 58, .e (.call 22 [(.t 57)]), none⟩, [], [2]⟩, ⟨3, ⟨some 2, .q (.mv (.t 58)), none⟩, [], []⟩, ⟨4, ⟨none, .e (.st 5 (.t 3) (.t 59)), none⟩, [], []⟩]
def c6_30 : SCode := .seq (.dregion c6_29 [2, 3]) .ret
def c6_31 : SCode := .seq c6_28 c6_30
def c6_32 : SCode := .seq (.region c6_2 [3, 4, 5]) c6_31
def c6_33 : SCode := .seq (.region c6_1 [3, 4]) c6_32
def c6_34 : SCode := .seq (.region c6_0 [0, 3]) c6_33
def c6 : SCode := c6_34
theorem w6 : type_of% (And.intro (uR Tryd.prog c6_0.eq_1) (And.intro (uR Tryd.prog c6_1.eq_1) (And.intro (uR Tryd.prog c6_2.eq_1) (And.intro (uR Tryd.prog c6_3.eq_1) (And.intro (uR Tryd.prog c6_4.eq_1) (And.intro (uR Tryd.prog c6_5.eq_1) (And.intro (uR Tryd.prog c6_6.eq_1) (And.intro (uR Tryd.prog c6_7.eq_1) (And.intro (uR Tryd.prog c6_8.eq_1) (And.intro (uR Tryd.prog c6_9.eq_1) (And.intro (uR Tryd.prog c6_10.eq_1) (And.intro (uR Tryd.prog c6_11.eq_1) (And.intro (uR Tryd.prog c6_12.eq_1) (And.intro (uR Tryd.prog c6_13.eq_1) (And.intro (uR Tryd.prog c6_14.eq_1) (And.intro (uC Tryd.prog c6_15.eq_1) (And.intro (uC Tryd.prog c6_16.eq_1) (And.intro (uC Tryd.prog c6_17.eq_1) (And.intro (uC Tryd.prog c6_18.eq_1) (And.intro (uC Tryd.prog c6_19.eq_1) (And.intro (uC Tryd.prog c6_20.eq_1) (And.intro (uC Tryd.prog c6_21.eq_1) (And.intro (uC Tryd.prog c6_22.eq_1) (And.intro (uC Tryd.prog c6_23.eq_1) (And.intro (uC Tryd.prog c6_24.eq_1) (And.intro (uC Tryd.prog c6_25.eq_1) (And.intro (uC Tryd.prog c6_26.eq_1) (And.intro (uC Tryd.prog c6_27.eq_1) (And.intro (uC Tryd.prog c6_28.eq_1) (And.intro (uD Tryd.prog c6_29.eq_1) (And.intro (uC Tryd.prog c6_30.eq_1) (And.intro (uC Tryd.prog c6_31.eq_1) (And.intro (uC Tryd.prog c6_32.eq_1) (And.intro (uC Tryd.prog c6_33.eq_1) (And.intro (uC Tryd.prog c6_34.eq_1) (uC Tryd.prog c6.eq_1)))))))))))))))))))))))))))))))))))) := (And.intro (uR Tryd.prog c6_0.eq_1) (And.intro (uR Tryd.prog c6_1.eq_1) (And.intro (uR Tryd.prog c6_2.eq_1) (And.intro (uR Tryd.prog c6_3.eq_1) (And.intro (uR Tryd.prog c6_4.eq_1) (And.intro (uR Tryd.prog c6_5.eq_1) (And.intro (uR Tryd.prog c6_6.eq_1) (And.intro (uR Tryd.prog c6_7.eq_1) (And.intro (uR Tryd.prog c6_8.eq_1) (And.intro (uR Tryd.prog c6_9.eq_1) (And.intro (uR Tryd.prog c6_10.eq_1) (And.intro (uR Tryd.prog c6_11.eq_1) (And.intro (uR Tryd.prog c6_12.eq_1) (And.intro (uR Tryd.prog c6_13.eq_1) (And.intro (uR Tryd.prog c6_14.eq_1) (And.intro (uC Tryd.prog c6_15.eq_1) (And.intro (uC Tryd.prog c6_16.eq_1) (And.intro (uC Tryd.prog c6_17.eq_1) (And.intro (uC Tryd.prog c6_18.eq_1) (And.intro (uC Tryd.prog c6_19.eq_1) (And.intro (uC Tryd.prog c6_20.eq_1) (And.intro (uC Tryd.prog c6_21.eq_1) (And.intro (uC Tryd.prog c6_22.eq_1) (And.intro (uC Tryd.prog c6_23.eq_1) (And.intro (uC Tryd.prog c6_24.eq_1) (And.intro (uC Tryd.prog c6_25.eq_1) (And.intro (uC Tryd.prog c6_26.eq_1) (And.intro (uC Tryd.prog c6_27.eq_1) (And.intro (uC Tryd.prog c6_28.eq_1) (And.intro (uD Tryd.prog c6_29.eq_1) (And.intro (uC Tryd.prog c6_30.eq_1) (And.intro (uC Tryd.prog c6_31.eq_1) (And.intro (uC Tryd.prog c6_32.eq_1) (And.intro (uC Tryd.prog c6_33.eq_1) (And.intro (uC Tryd.prog c6_34.eq_1) (uC Tryd.prog c6.eq_1))))))))))))))))))))))))))))))))))))
def v6 : List RV := [.t 2, .c 3 (some 5)]
theorem s6 : slimF Tryd.prog Tryd.f6 = some (c6.bare, v6) := by kernel_rfl

/-- What stands while a style is drawn: the cursor, the place of the result, the style. -/
structure Dst (h : Heap) (c b : Nat) (K : Heap) (s : Style) : Prop where
  ext : Ext h K
  cur : Cur K c
  box : Bx K h.size [.int .i64 0, .int .i64 0, .int .i64 0, .int .i64 0, .int .i64 0]
  sty : Bx K b (encStyle s)
theorem Dst.step {h K K' : Heap} {c b : Nat} {s : Style} (d : Dst h c b K s) (g : ExtG c K K') (k : Cur K' c) (h1 : h.size < c) (h2 : c < b) : Dst h c b K' s :=
  ⟨g.ext d.ext (by omega), k, d.box.step g (by omega), d.sty.step g (by omega)⟩
theorem Dst.more {h K : Heap} {c b : Nat} {s : Style} (d : Dst h c b K s) (L : List (List Value)) : Dst h c b (K.more L) s :=
  ⟨d.ext.trans (Ext.more _ _), d.cur.ext (Ext.more _ _), d.box.ext (Ext.more _ _), d.sty.ext (Ext.more _ _)⟩
theorem Dst.put {h K K' : Heap} {c b : Nat} {s s' : Style} (d : Dst h c b K s) (B : Bx K' b (encStyle s')) (g : ExtG b K K') (h1 : h.size < c) (h2 : c < b) : Dst h c b K' s' :=
  ⟨g.ext d.ext (by omega), curStep d.cur g (by omega), d.box.step g (by omega), B⟩
theorem DrawUnread_ok (h : Heap) (v : Value) (code : List Int) (s : SlT h encByte 1 v code) (hl : code.length ≤ 4096) :
    ACall Tryd.prog 6 [v] h fun r h' => ∃ tv l st, r = .tuple #[tv, .agg (encStyle st).toArray] ∧ Ext h h' ∧ SlT h' encTitle 3 tv l ∧ l.length ≤ 300 ∧ smallT l := by
  refine ACall.of Tryd.func6 s6 (of_decide_eq_true rfl) ?_
  simp (maxSteps := 4000000) (disch := omega) only [ah, am, Nat.reduceEqDiff, reduceCtorEq, Nat.reduceAdd, Nat.reduceLeDiff, Nat.reduceMul, Nat.reduceLT, if_true, if_false, true_and, and_true, and_self, Nat.reduceBEq, QOp.loads, boxO, bslO, buildO, cutL, fillV, putL, w6, v6]
  refine stepC.of (l1New_ok _ _ _ (s.ext (Ext.more _ _)) hl) ?_
  rintro _ H1 ⟨e1, rfl, k⟩
  have B3 := (Bx.new h [.int .i64 0, .int .i64 0, .int .i64 0, .int .i64 0, .int .i64 0] []).ext e1
  have E1 := (Ext.more h [[.int .i64 0, .int .i64 0, .int .i64 0, .int .i64 0, .int .i64 0]]).trans e1
  obtain ⟨c, hcc⟩ : ∃ c, c = (h.more [[.int .i64 0, .int .i64 0, .int .i64 0, .int .i64 0, .int .i64 0]]).size := ⟨_, rfl⟩
  rw [← hcc] at k ⊢
  have hc : h.size < c := by rw [hcc, size_more]; simp
  simp (maxSteps := 4000000) (disch := omega) only [ah, am, Nat.reduceEqDiff, reduceCtorEq, Nat.reduceAdd, Nat.reduceLeDiff, Nat.reduceMul, Nat.reduceLT, if_true, if_false, true_and, and_true, and_self, Nat.reduceBEq, QOp.loads, boxO, bslO, buildO, cutL, fillV, putL, w6, v6]
  refine stepC.of (l1Below_ok _ _ _ k) ?_
  rintro _ H2 ⟨x1, rfl, _, _, _, g, k⟩
  have B3 := B3.step g (by omega)
  have E1 := g.ext E1 (by omega)
  simp (maxSteps := 4000000) (disch := omega) only [ah, am, Nat.reduceEqDiff, reduceCtorEq, Nat.reduceAdd, Nat.reduceLeDiff, Nat.reduceMul, Nat.reduceLT, if_true, if_false, true_and, and_true, and_self, Nat.reduceBEq, QOp.loads, boxO, bslO, buildO, cutL, fillV, putL, w6, v6]
  refine stepC.of (l1Below_ok _ _ _ k) ?_
  rintro _ H3 ⟨x2, rfl, _, _, _, g, k⟩
  have B3 := B3.step g (by omega)
  have E1 := g.ext E1 (by omega)
  simp (maxSteps := 4000000) (disch := omega) only [ah, am, Nat.reduceEqDiff, reduceCtorEq, Nat.reduceAdd, Nat.reduceLeDiff, Nat.reduceMul, Nat.reduceLT, if_true, if_false, true_and, and_true, and_self, Nat.reduceBEq, QOp.loads, boxO, bslO, buildO, cutL, fillV, putL, w6, v6]
  refine stepC.of (l1Below_ok _ _ _ k) ?_
  rintro _ H4 ⟨x3, rfl, _, _, _, g, k⟩
  have B3 := B3.step g (by omega)
  have E1 := g.ext E1 (by omega)
  simp (maxSteps := 4000000) (disch := omega) only [ah, am, Nat.reduceEqDiff, reduceCtorEq, Nat.reduceAdd, Nat.reduceLeDiff, Nat.reduceMul, Nat.reduceLT, if_true, if_false, true_and, and_true, and_self, Nat.reduceBEq, QOp.loads, boxO, bslO, buildO, cutL, fillV, putL, w6, v6]
  refine stepC.of (l1Below_ok _ _ _ k) ?_
  rintro _ H5 ⟨x4, rfl, _, _, _, g, k⟩
  have B3 := B3.step g (by omega)
  have E1 := g.ext E1 (by omega)
  simp (maxSteps := 4000000) (disch := omega) only [ah, am, Nat.reduceEqDiff, reduceCtorEq, Nat.reduceAdd, Nat.reduceLeDiff, Nat.reduceMul, Nat.reduceLT, if_true, if_false, true_and, and_true, and_self, Nat.reduceBEq, QOp.loads, boxO, bslO, buildO, cutL, fillV, putL, w6, v6]
  refine stepC.of (l1Below_ok _ _ _ k) ?_
  rintro _ H6 ⟨x5, rfl, _, _, _, g, k⟩
  have B3 := B3.step g (by omega)
  have E1 := g.ext E1 (by omega)
  obtain ⟨y1, hy1⟩ : ∃ y, y = IntKind.i64.wrap (1 + x1) := ⟨_, rfl⟩
  obtain ⟨y3, hy3⟩ : ∃ y, y = IntKind.i64.wrap (1 + x3) := ⟨_, rfl⟩
  obtain ⟨y4, hy4⟩ : ∃ y, y = IntKind.i64.wrap (1 + x4) := ⟨_, rfl⟩
  obtain ⟨y5, hy5⟩ : ∃ y, y = IntKind.i64.wrap (1 + x5) := ⟨_, rfl⟩
  have hcb := k.lt
  have D : Dst h c H6.size (H6.more [[.int .i64 y1, .int .i64 x2, .int .i64 y3, .int .i64 y4, .int .i64 y5]]) ⟨y1, x2, y3, y4, y5⟩ :=
    ⟨E1.trans (Ext.more _ _), k.ext (Ext.more _ _), B3.ext (Ext.more _ _), Bx.new H6 _ []⟩
  simp (maxSteps := 4000000) (disch := omega) only [ah, am, Nat.reduceEqDiff, reduceCtorEq, Nat.reduceAdd, Nat.reduceLeDiff, Nat.reduceMul, Nat.reduceLT, if_true, if_false, true_and, and_true, and_self, Nat.reduceBEq, QOp.loads, boxO, bslO, buildO, cutL, fillV, putL, w6, v6, ← hy1, ← hy3, ← hy4, ← hy5]
  obtain ⟨b, hb⟩ : ∃ b, b = H6.size := ⟨_, rfl⟩
  rw [← hb] at D hcb ⊢
  clear k g B3 E1 hb
  generalize (⟨y1, x2, y3, y4, y5⟩ : Style) = s0 at D
  refine stepC.of (l1Once_ok _ _ _ D.cur) ?_
  rintro _ K1 ⟨bb, rfl, g, k⟩
  have D := D.step g k hc hcb
  simp (maxSteps := 4000000) (disch := omega) only [ah, am, Nat.reduceEqDiff, reduceCtorEq, Nat.reduceAdd, Nat.reduceLeDiff, Nat.reduceMul, Nat.reduceLT, if_true, if_false, true_and, and_true, and_self, Nat.reduceBEq, QOp.loads, boxO, bslO, buildO, cutL, fillV, putL, w6, v6]
  refine SW_if (fun E K => ∃ (s : Style) (r : Env), E = (3, .pointer (some ⟨h.size, 0, none⟩)) :: (4, .pointer (some ⟨c, 0, none⟩)) :: (5, .pointer (some ⟨b, 0, none⟩)) :: r ∧ Dst h c b K s) (fun hb => ?_) (fun hb => ?_) ?_
  · simp (maxSteps := 4000000) (disch := omega) only [ah, am, Nat.reduceEqDiff, reduceCtorEq, Nat.reduceAdd, Nat.reduceLeDiff, Nat.reduceMul, Nat.reduceLT, if_true, if_false, true_and, and_true, and_self, Nat.reduceBEq, QOp.loads, boxO, bslO, buildO, cutL, fillV, putL, w6, v6]
    refine stepC.of (l1Below_ok _ _ _ D.cur) ?_
    rintro _ K2 ⟨w, rfl, w1, w2, _, g, k⟩
    have w3 : w < 5 := w2 (by omega)
    have D := D.step g k hc hcb
    have hw : w = 0 ∨ w = 1 ∨ w = 2 ∨ w = 3 ∨ w = 4 := by omega
    rcases hw with rfl | rfl | rfl | rfl | rfl
    · simp (maxSteps := 4000000) (disch := omega) only [ah, am, Nat.reduceEqDiff, reduceCtorEq, Nat.reduceAdd, Nat.reduceLeDiff, Nat.reduceMul, Nat.reduceLT, if_true, if_false, true_and, and_true, and_self, Nat.reduceBEq, QOp.loads, boxO, bslO, buildO, cutL, fillV, putL, w6, v6, decide_eq_true (rfl : (0 : Int) = 0)]
      refine stepC.of (l1Below_ok _ _ _ (D.more [[.int .i64 0, .int .i64 359999999, .int .i64 360000000]]).cur) ?_
      rintro _ K3 ⟨y, rfl, z1, z2, _, g3, k3⟩
      have z3 : y < 3 := z2 (by omega)
      have hc2 := D.cur.lt
      obtain ⟨u, hu⟩ := pick_lits g3 hc2 z1 (by simpa using z3) rfl
      have D := (D.more [[.int .i64 0, .int .i64 359999999, .int .i64 360000000]]).step g3 k3 hc hcb
      obtain ⟨K4, es, B, G⟩ := D.sty.put (o := 0) (n := 1) (y := .int .i64 u) rfl (by simp [encStyle]) rfl
      simp only [splice, cells_int, encStyle, List.take_succ_cons, List.take_zero, List.cons_append, List.nil_append, List.append_nil, List.length_cons, List.length_nil, List.drop_succ_cons, List.drop_zero, List.drop_nil, Nat.reduceAdd] at B es
      simp (maxSteps := 4000000) (disch := omega) only [ah, am, Nat.reduceEqDiff, reduceCtorEq, Nat.reduceAdd, Nat.reduceLeDiff, Nat.reduceMul, Nat.reduceLT, if_true, if_false, true_and, and_true, and_self, Nat.reduceBEq, QOp.loads, boxO, bslO, buildO, cutL, fillV, putL, w6, v6, Nat.mul_one, hu, es]
      exact ⟨⟨u, s0.gap, s0.rate, s0.rows, s0.wide⟩, _, rfl, D.put B G hc hcb⟩
    · simp (maxSteps := 4000000) (disch := omega) only [ah, am, Nat.reduceEqDiff, reduceCtorEq, Nat.reduceAdd, Nat.reduceLeDiff, Nat.reduceMul, Nat.reduceLT, if_true, if_false, true_and, and_true, and_self, Nat.reduceBEq, QOp.loads, boxO, bslO, buildO, cutL, fillV, putL, w6, v6, decide_eq_false (show ¬ (1 : Int) = 0 by omega), decide_eq_true (rfl : (1 : Int) = 1)]
      refine stepC.of (l1Below_ok _ _ _ (D.more [[.int .i64 (-1), .int .i64 360000000]]).cur) ?_
      rintro _ K3 ⟨y, rfl, z1, z2, _, g3, k3⟩
      have z3 : y < 2 := z2 (by omega)
      have hc2 := D.cur.lt
      obtain ⟨u, hu⟩ := pick_lits g3 hc2 z1 (by simpa using z3) rfl
      have D := (D.more [[.int .i64 (-1), .int .i64 360000000]]).step g3 k3 hc hcb
      obtain ⟨K4, es, B, G⟩ := D.sty.put (o := 1) (n := 1) (y := .int .i64 u) rfl (by simp [encStyle]) rfl
      simp only [splice, cells_int, encStyle, List.take_succ_cons, List.take_zero, List.cons_append, List.nil_append, List.append_nil, List.length_cons, List.length_nil, List.drop_succ_cons, List.drop_zero, List.drop_nil, Nat.reduceAdd] at B es
      simp (maxSteps := 4000000) (disch := omega) only [ah, am, Nat.reduceEqDiff, reduceCtorEq, Nat.reduceAdd, Nat.reduceLeDiff, Nat.reduceMul, Nat.reduceLT, if_true, if_false, true_and, and_true, and_self, Nat.reduceBEq, QOp.loads, boxO, bslO, buildO, cutL, fillV, putL, w6, v6, Nat.mul_one, hu, es]
      exact ⟨⟨s0.least, u, s0.rate, s0.rows, s0.wide⟩, _, rfl, D.put B G hc hcb⟩
    · simp (maxSteps := 4000000) (disch := omega) only [ah, am, Nat.reduceEqDiff, reduceCtorEq, Nat.reduceAdd, Nat.reduceLeDiff, Nat.reduceMul, Nat.reduceLT, if_true, if_false, true_and, and_true, and_self, Nat.reduceBEq, QOp.loads, boxO, bslO, buildO, cutL, fillV, putL, w6, v6, decide_eq_false (show ¬ (2 : Int) = 0 by omega), decide_eq_false (show ¬ (2 : Int) = 1 by omega), decide_eq_true (rfl : (2 : Int) = 2)]
      refine stepC.of (l1Below_ok _ _ _ (D.more [[.int .i64 0, .int .i64 359999999, .int .i64 360000000]]).cur) ?_
      rintro _ K3 ⟨y, rfl, z1, z2, _, g3, k3⟩
      have z3 : y < 3 := z2 (by omega)
      have hc2 := D.cur.lt
      obtain ⟨u, hu⟩ := pick_lits g3 hc2 z1 (by simpa using z3) rfl
      have D := (D.more [[.int .i64 0, .int .i64 359999999, .int .i64 360000000]]).step g3 k3 hc hcb
      obtain ⟨K4, es, B, G⟩ := D.sty.put (o := 2) (n := 1) (y := .int .i64 u) rfl (by simp [encStyle]) rfl
      simp only [splice, cells_int, encStyle, List.take_succ_cons, List.take_zero, List.cons_append, List.nil_append, List.append_nil, List.length_cons, List.length_nil, List.drop_succ_cons, List.drop_zero, List.drop_nil, Nat.reduceAdd] at B es
      simp (maxSteps := 4000000) (disch := omega) only [ah, am, Nat.reduceEqDiff, reduceCtorEq, Nat.reduceAdd, Nat.reduceLeDiff, Nat.reduceMul, Nat.reduceLT, if_true, if_false, true_and, and_true, and_self, Nat.reduceBEq, QOp.loads, boxO, bslO, buildO, cutL, fillV, putL, w6, v6, Nat.mul_one, hu, es]
      exact ⟨⟨s0.least, s0.gap, u, s0.rows, s0.wide⟩, _, rfl, D.put B G hc hcb⟩
    · obtain ⟨K4, es, B, G⟩ := D.sty.put (o := 3) (n := 1) (y := .int .i64 0) rfl (by simp [encStyle]) rfl
      simp only [splice, cells_int, encStyle, List.take_succ_cons, List.take_zero, List.cons_append, List.nil_append, List.append_nil, List.length_cons, List.length_nil, List.drop_succ_cons, List.drop_zero, List.drop_nil, Nat.reduceAdd] at B es
      simp (maxSteps := 4000000) (disch := omega) only [ah, am, Nat.reduceEqDiff, reduceCtorEq, Nat.reduceAdd, Nat.reduceLeDiff, Nat.reduceMul, Nat.reduceLT, if_true, if_false, true_and, and_true, and_self, Nat.reduceBEq, QOp.loads, boxO, bslO, buildO, cutL, fillV, putL, w6, v6, decide_eq_false (show ¬ (3 : Int) = 0 by omega), decide_eq_false (show ¬ (3 : Int) = 1 by omega), decide_eq_false (show ¬ (3 : Int) = 2 by omega), decide_eq_true (rfl : (3 : Int) = 3), es]
      exact ⟨⟨s0.least, s0.gap, s0.rate, 0, s0.wide⟩, _, rfl, D.put B G hc hcb⟩
    · obtain ⟨K4, es, B, G⟩ := D.sty.put (o := 4) (n := 1) (y := .int .i64 0) rfl (by simp [encStyle]) rfl
      simp only [splice, cells_int, encStyle, List.take_succ_cons, List.take_zero, List.cons_append, List.nil_append, List.append_nil, List.length_cons, List.length_nil, List.drop_succ_cons, List.drop_zero, List.drop_nil, Nat.reduceAdd] at B es
      simp (maxSteps := 4000000) (disch := omega) only [ah, am, Nat.reduceEqDiff, reduceCtorEq, Nat.reduceAdd, Nat.reduceLeDiff, Nat.reduceMul, Nat.reduceLT, if_true, if_false, true_and, and_true, and_self, Nat.reduceBEq, QOp.loads, boxO, bslO, buildO, cutL, fillV, putL, w6, v6, decide_eq_false (show ¬ (4 : Int) = 0 by omega), decide_eq_false (show ¬ (4 : Int) = 1 by omega), decide_eq_false (show ¬ (4 : Int) = 2 by omega), decide_eq_false (show ¬ (4 : Int) = 3 by omega), decide_eq_true (rfl : (4 : Int) = 4), es]
      exact ⟨⟨s0.least, s0.gap, s0.rate, s0.rows, 0⟩, _, rfl, D.put B G hc hcb⟩
  · exact ⟨_, _, rfl, D⟩
  clear D
  rintro E K ⟨s, r, rfl, D⟩
  have DS := D.sty.ld
  simp only [encStyle] at DS
  simp (maxSteps := 4000000) (disch := omega) only [ah, am, Nat.reduceEqDiff, reduceCtorEq, Nat.reduceAdd, Nat.reduceLeDiff, Nat.reduceMul, Nat.reduceLT, if_true, if_false, true_and, and_true, and_self, Nat.reduceBEq, QOp.loads, boxO, bslO, buildO, cutL, fillV, putL, w6, v6, DS]
  refine stepC.of (l12DrawTitles_ok _ _ D.cur) ?_
  rintro tv K5 ⟨l, F, k5, hl5, hs5⟩
  have D5 := D.step F.ext.toG k5 hc hcb
  have DS5 := D5.sty.ld
  simp only [encStyle] at DS5
  obtain ⟨K6, es, B6, G6⟩ := D5.box.put (o := 0) (n := 5) (y := .agg #[.int .i64 s.least, .int .i64 s.gap, .int .i64 s.rate, .int .i64 s.rows, .int .i64 s.wide]) rfl (by simp) rfl
  have c6 : ∀ a : Array Value, (Value.agg a).cells = a := fun _ => rfl
  simp only [splice, c6, List.take_zero, List.nil_append, List.append_nil, List.length_cons, List.length_nil, List.drop_succ_cons, List.drop_zero, List.drop_nil, Nat.reduceAdd] at B6 es
  have D6 := B6.ld
  have e6 : Ext h K6 := G6.ext D5.ext (Nat.le_refl _)
  obtain ⟨g, g1, o, _⟩ := F.own
  have sl6 : SlT K6 encTitle 3 tv l := (o.extG G6 (by have := D.cur.lt; omega)).slt
  simp (maxSteps := 4000000) (disch := omega) only [ah, am, Nat.reduceEqDiff, reduceCtorEq, Nat.reduceAdd, Nat.reduceLeDiff, Nat.reduceMul, Nat.reduceLT, if_true, if_false, true_and, and_true, and_self, Nat.reduceBEq, QOp.loads, boxO, bslO, buildO, cutL, fillV, putL, w6, v6, rechk_cons, rechk_end, chkV_some, chkV_false, DS5, es, D6]
  exact ⟨tv, l, s, rfl, e6, sl6, hl5, hs5⟩
end Go.Proofs.YtgjppbmbpjomgaaDoor
