import Derived.Test.YtmippcfdakjhfaaE0
import Derived.Test.YtmippcfdakjhfaaT2
namespace Go.Proofs.Ytmippcfdakjhfaa
open Go Go.Ah
set_option linter.unusedSimpArgs false
set_option linter.unusedVariables false
set_option maxRecDepth 10000
set_option maxHeartbeats 4000000
/-! 60 loop.example/g00066/spec.l4DrawClip: parameters 1, live [0], slots [0:c, 1:c, 3:k] -/
def c60_0 : List SOper := [⟨some 2, .a (.new [(.int .i64 0), (.int .i64 0), (.int .i64 0)]), none⟩]
def c60_1 : List SOper := [⟨some 4, .q (.mv (.t 0)), none⟩, ⟨some 5, .e (.call 37 [(.t 4), (.c (.int .i64 4))]), none⟩, ⟨some 6, .q (.mv (.t 0)), none⟩, ⟨some 7, .e (.call 37 [(.t 6), (.c (.int .i64 40))]), none⟩, ⟨some 8, .q (.mv (.t 0)), none⟩, ⟨some 9, .e (.call 37 [(.t 8), (.c (.int .i64 20))]), none⟩, ⟨some 10, .q (.bin .add (.c (.int .i64 1)) (.t 9)), none⟩, ⟨some 11, .q (.build [(.int .i64 0), (.int .i64 0), (.int .i64 0)] [(0, 1, (.t 5)), (1, 1, (.t 7)), (2, 1, (.t 10))]), none⟩, ⟨some 3, .a (.new [(.int .i64 0), (.int .i64 0), (.int .i64 0)]), none⟩, ⟨none, .e (.st 3 (.t 3) (.t 11)), none⟩]
def c60_2 : List SOper := [⟨some 12, .q (.fa 0 (.t 3)), none⟩, ⟨some 13, .q (.ld (.t 12)), none⟩, ⟨some 14, .q (.bin .eql (.t 13) (.c (.int .i64 0))), none⟩]
def c60_3 : List SOper := [⟨some 15, .q (.fa 1 (.t 3)), none⟩, ⟨none, .e (.st 1 (.t 15) (.c (.int .i64 0))), none⟩]
def c60_4 : SCode := .cond (.t 14) (.region c60_3 [0, 2, 3]) .skip
def c60_5 : SCode := .seq (.region c60_2 [0, 2, 3, 14]) c60_4
def c60_6 : List SOper := [⟨some 16, .q (.mv (.t 0)), none⟩, ⟨some 17, .e (.call 36 [(.t 16), (.c (.int .i64 40))]), none⟩]
def c60_7 : List SOper := [⟨some 18, .q (.mv (.t 0)), none⟩, ⟨some 19, .e (.call 37 [(.t 18), (.c (.int .i64 4))]), none⟩]
def c60_8 : List SOper := [⟨some 21, .q (.bin .eql (.t 19) (.c (.int .i64 0))), none⟩, ⟨some 20, .q (.mv (.t 21)), none⟩]
def c60_9 : List SOper := [⟨some 22, .a (.bsl 3 1 [(.int .i64 0), (.int .i64 0), (.int .i64 0)] [(0, 1, (.c (.int .i64 (-1)))), (1, 1, (.c (.int .i64 500))), (2, 1, (.c (.int .i64 501)))]), none⟩, ⟨some 23, .q (.mv (.t 0)), none⟩, ⟨some 24, .e (.call 37 [(.t 23), (.c (.int .i64 3))]), none⟩, ⟨some 25, .q (.ia 1 (.t 22) (.t 24)), none⟩, ⟨some 26, .q (.ld (.t 25)), none⟩, ⟨some 27, .q (.fa 0 (.t 3)), none⟩, ⟨none, .e (.st 1 (.t 27) (.t 26)), none⟩]
def c60_10 : List SOper := [⟨some 29, .q (.bin .eql (.t 19) (.c (.int .i64 1))), none⟩, ⟨some 28, .q (.mv (.t 29)), none⟩]
def c60_11 : List DOper := [⟨0, ⟨some 30, .q (.fa 2 (.t 3)), none⟩, [], []⟩, ⟨1, ⟨some 31, .q (.ld (.t 30)), none⟩, [], []⟩, ⟨2, ⟨some 32, .q (.bin .sub (.c (.int .i64 10000000)) (.t 31)), none⟩, [], []⟩, ⟨3, ⟨some 33, .q (.fa 2 (.t 3)), none⟩, [], []⟩, ⟨4, ⟨some 34, .q (.ld (.t 33)), none⟩, [], []⟩, ⟨5, ⟨some 35, .q (.bin .sub (.c (.int .i64 10000000)) (.t 34)), none⟩, [], []⟩, ⟨6, ⟨some 36, .q (.bin .add (.t 35) (.c (.int .i64 1))), none⟩, [], []⟩, ⟨7, ⟨some 37, .a (.bsl 5 1 [(.int .i64 0), (.int .i64 0), (.int .i64 0), (.int .i64 0), (.int .i64 0)] [(0, 1, (.c (.int .i64 (-1)))), (1, 1, (.c (.int .i64 10000000))), (2, 1, (.t 32)), (3, 1, (.t 36)), (4, 1, (.c (.int .i64 4611686018427387904)))]), none⟩, [], []⟩, ⟨8, ⟨some 38, .q (.mv (.t 0)), none⟩, [], []⟩, ⟨9, ⟨some 39, .e (.call 37 [(.t 38), (.c (.int .i64 5))]), none⟩, [], [4, 1]⟩, ⟨10, ⟨some 40, .q (.ia 1 (.t 37) (.t 39)), none⟩, [], []⟩, ⟨11, ⟨some 41, .q (.ld (.t 40)), none⟩, [], []⟩, ⟨12, ⟨some 42, .q (.fa 1 (.t 3)), none⟩, [], []⟩, ⟨13, ⟨none, .e (.st 1 (.t 42) (.t 41)), none⟩, [], []⟩]
def c60_12 : List SOper := [⟨some 44, .q (.bin .eql (.t 19) (.c (.int .i64 2))), none⟩, ⟨some 43, .q (.mv (.t 44)), none⟩]
def c60_13 : List SOper := [⟨some 45, .a (.bsl 5 1 [(.int .i64 0), (.int .i64 0), (.int .i64 0), (.int .i64 0), (.int .i64 0)] [(0, 1, (.c (.int .i64 0))), (1, 1, (.c (.int .i64 (-1)))), (2, 1, (.c (.int .i64 10000000))), (3, 1, (.c (.int .i64 10000001))), (4, 1, (.c (.int .i64 4611686018427387904)))]), none⟩, ⟨some 46, .q (.mv (.t 0)), none⟩, ⟨some 47, .e (.call 37 [(.t 46), (.c (.int .i64 5))]), none⟩, ⟨some 48, .q (.ia 1 (.t 45) (.t 47)), none⟩, ⟨some 49, .q (.ld (.t 48)), none⟩, ⟨some 50, .q (.fa 2 (.t 3)), none⟩, ⟨none, .e (.st 1 (.t 50) (.t 49)), none⟩]
def c60_14 : List SOper := [⟨some 52, .q (.bin .eql (.t 19) (.c (.int .i64 3))), none⟩, ⟨some 51, .q (.mv (.t 52)), none⟩]
def c60_15 : List SOper := [⟨some 53, .q (.build [(.int .i64 0), (.int .i64 0), (.int .i64 0)] [(1, 1, (.c (.int .i64 1))), (2, 1, (.c (.int .i64 3)))]), none⟩, ⟨none, .e (.st 3 (.t 3) (.t 53)), none⟩]
def c60_16 : SCode := .cond (.t 51) (.region c60_15 [2, 3]) .skip
def c60_17 : SCode := .seq (.region c60_14 [2, 3, 51]) c60_16
def c60_18 : SCode := .cond (.t 43) (.region c60_13 [2, 3]) c60_17
def c60_19 : SCode := .seq (.region c60_12 [0, 2, 3, 19, 43]) c60_18
def c60_20 : SCode := .cond (.t 28) (.dregion c60_11 [2, 3]) c60_19
def c60_21 : SCode := .seq (.region c60_10 [0, 2, 3, 19, 28]) c60_20
def c60_22 : SCode := .cond (.t 20) (.region c60_9 [2, 3]) c60_21
def c60_23 : SCode := .seq (.region c60_8 [0, 2, 3, 19, 20]) c60_22
def c60_24 : SCode := .block 0 c60_23
def c60_25 : SCode := .seq (.region c60_7 [0, 2, 3, 19]) c60_24
def c60_26 : SCode := .cond (.t 17) c60_25 .skip
def c60_27 : SCode := .seq (.region c60_6 [0, 2, 3, 17]) c60_26
def c60_28 : List SOper := [⟨some 54, .q (.ldn 3 (.t 3)), none⟩, ⟨none, .e (.st 3 (.t 2) (.t 54)), none⟩]
def c60_29 : SCode := .seq (.region c60_28 [2]) .ret
def c60_30 : SCode := .seq c60_27 c60_29
def c60_31 : SCode := .seq c60_5 c60_30
def c60_32 : SCode := .seq (.region c60_1 [0, 2, 3]) c60_31
def c60_33 : SCode := .seq (.region c60_0 [0, 2]) c60_32
def c60 : SCode := c60_33
theorem w60 : type_of% (And.intro (uR Try.prog c60_0.eq_1) (And.intro (uR Try.prog c60_1.eq_1) (And.intro (uR Try.prog c60_2.eq_1) (And.intro (uR Try.prog c60_3.eq_1) (And.intro (uC Try.prog c60_4.eq_1) (And.intro (uC Try.prog c60_5.eq_1) (And.intro (uR Try.prog c60_6.eq_1) (And.intro (uR Try.prog c60_7.eq_1) (And.intro (uR Try.prog c60_8.eq_1) (And.intro (uR Try.prog c60_9.eq_1) (And.intro (uR Try.prog c60_10.eq_1) (And.intro (uD Try.prog c60_11.eq_1) (And.intro (uR Try.prog c60_12.eq_1) (And.intro (uR Try.prog c60_13.eq_1) (And.intro (uR Try.prog c60_14.eq_1) (And.intro (uR Try.prog c60_15.eq_1) (And.intro (uC Try.prog c60_16.eq_1) (And.intro (uC Try.prog c60_17.eq_1) (And.intro (uC Try.prog c60_18.eq_1) (And.intro (uC Try.prog c60_19.eq_1) (And.intro (uC Try.prog c60_20.eq_1) (And.intro (uC Try.prog c60_21.eq_1) (And.intro (uC Try.prog c60_22.eq_1) (And.intro (uC Try.prog c60_23.eq_1) (And.intro (uC Try.prog c60_24.eq_1) (And.intro (uC Try.prog c60_25.eq_1) (And.intro (uC Try.prog c60_26.eq_1) (And.intro (uC Try.prog c60_27.eq_1) (And.intro (uR Try.prog c60_28.eq_1) (And.intro (uC Try.prog c60_29.eq_1) (And.intro (uC Try.prog c60_30.eq_1) (And.intro (uC Try.prog c60_31.eq_1) (And.intro (uC Try.prog c60_32.eq_1) (And.intro (uC Try.prog c60_33.eq_1) (uC Try.prog c60.eq_1))))))))))))))))))))))))))))))))))) := (And.intro (uR Try.prog c60_0.eq_1) (And.intro (uR Try.prog c60_1.eq_1) (And.intro (uR Try.prog c60_2.eq_1) (And.intro (uR Try.prog c60_3.eq_1) (And.intro (uC Try.prog c60_4.eq_1) (And.intro (uC Try.prog c60_5.eq_1) (And.intro (uR Try.prog c60_6.eq_1) (And.intro (uR Try.prog c60_7.eq_1) (And.intro (uR Try.prog c60_8.eq_1) (And.intro (uR Try.prog c60_9.eq_1) (And.intro (uR Try.prog c60_10.eq_1) (And.intro (uD Try.prog c60_11.eq_1) (And.intro (uR Try.prog c60_12.eq_1) (And.intro (uR Try.prog c60_13.eq_1) (And.intro (uR Try.prog c60_14.eq_1) (And.intro (uR Try.prog c60_15.eq_1) (And.intro (uC Try.prog c60_16.eq_1) (And.intro (uC Try.prog c60_17.eq_1) (And.intro (uC Try.prog c60_18.eq_1) (And.intro (uC Try.prog c60_19.eq_1) (And.intro (uC Try.prog c60_20.eq_1) (And.intro (uC Try.prog c60_21.eq_1) (And.intro (uC Try.prog c60_22.eq_1) (And.intro (uC Try.prog c60_23.eq_1) (And.intro (uC Try.prog c60_24.eq_1) (And.intro (uC Try.prog c60_25.eq_1) (And.intro (uC Try.prog c60_26.eq_1) (And.intro (uC Try.prog c60_27.eq_1) (And.intro (uR Try.prog c60_28.eq_1) (And.intro (uC Try.prog c60_29.eq_1) (And.intro (uC Try.prog c60_30.eq_1) (And.intro (uC Try.prog c60_31.eq_1) (And.intro (uC Try.prog c60_32.eq_1) (And.intro (uC Try.prog c60_33.eq_1) (uC Try.prog c60.eq_1)))))))))))))))))))))))))))))))))))
def v60 : List RV := [.c 2 (some 3)]
theorem s60 : slimF Try.prog Try.f60 = some (c60.bare, v60) := by kernel_rfl

/-- A clip as drawn: its source is never 300. -/
def drawn (k : Clip) : Prop := k.src ≠ 300
/-- A call that draws: nothing but the cursor changes. -/
def Drew (c : Nat) (h h' : Heap) : Prop := ExtG c h h' ∧ Cur h' c
theorem Cur.step {h h' : Heap} {c i : Nat} (k : Cur h c) (g : ExtG i h h') (hi : c < i) : Cur h' c := by
  obtain ⟨h0, bv, code, pos, hh, k1, k2, k3, k4, k5, k6⟩ := k
  exact ⟨h0, bv, code, pos, hh, k1, g.ext k2 (by omega), k3, k4, k5, k6.step g (by omega)⟩
/-- The answer is stored into its box. -/
theorem draw_leaf {h H : Heap} {c i2 : Nat} {cs2 : List Value} {a : Clip} (k : Cur H c) (x : ExtX [c] h H) (hc : c < h.size) (b2 : Bx H i2 cs2) (h2 : h.size ≤ i2) (hl : cs2.length = 3) :
    ∃ H', stV H 3 (.pointer (some ⟨i2, 0, none⟩)) (.agg [.int .i64 a.src, .int .i64 a.inn, .int .i64 a.len].toArray) = some H' ∧ Drew c h H' ∧ (∀ o n, ldnV H' n (.pointer (some ⟨i2, o, none⟩)) = cutL [.int .i64 a.src, .int .i64 a.inn, .int .i64 a.len] o n) := by
  obtain ⟨H', es, b, g⟩ := b2.put (o := 0) (n := 3) (y := .agg [.int .i64 a.src, .int .i64 a.inn, .int .i64 a.len].toArray) rfl (by omega) rfl
  refine ⟨H', es, ⟨(x.top g h2).toG, k.step g (by omega)⟩, ?_⟩
  have hs : splice cs2 0 (Value.agg [.int .i64 a.src, .int .i64 a.inn, .int .i64 a.len].toArray).cells.toList = [.int .i64 a.src, .int .i64 a.inn, .int .i64 a.len] := by
    simp only [splice, cells_agg, List.take_zero, List.nil_append]
    rw [List.drop_eq_nil_of_le (by simp [hl])]; rfl
  rw [hs] at b
  exact b.ld.2
theorem l4DrawClip_ok (h : Heap) (c : Nat) (k : Cur h c) : ACall Try.prog 60 [.pointer (some ⟨c, 0, none⟩)] h fun r h' => ∃ a : Clip, r = .agg (encClip a).toArray ∧ drawn a ∧ Drew c h h' := by
  refine ACall.of Try.func60 s60 (of_decide_eq_true rfl) ?_
  have hc := k.lt
  have hcr : ∀ H : Heap, Cur H c → ∀ n, ACall Try.prog 37 [.pointer (some ⟨c, 0, none⟩), .int .i64 n] H fun r h' => ∃ x, r = .int .i64 x ∧ 0 ≤ x ∧ (0 < n → x < n) ∧ (n ≤ 0 → x = 0) ∧ ExtG c H h' ∧ Cur h' c := fun H k n => l1Below_ok H c n k
  simp (maxSteps := 4000000) (disch := omega) only [ah, am, Nat.reduceEqDiff, reduceCtorEq, Nat.reduceAdd, Nat.reduceLeDiff, Nat.reduceMul, Nat.reduceLT, if_true, if_false, true_and, and_true, and_self, Nat.reduceBEq, QOp.loads, boxO, bslO, buildO, cutL, fillV, putL, w60, v60]
  have k0 := k.ext (Ext.more h [[.int .i64 0, .int .i64 0, .int .i64 0]])
  refine stepC.of (hcr _ k0 _) ?_
  rintro _ H1 ⟨x1, rfl, p1, p2, _, g1, k1⟩
  simp (maxSteps := 4000000) (disch := omega) only [ah, am, Nat.reduceEqDiff, reduceCtorEq, Nat.reduceAdd, Nat.reduceLeDiff, Nat.reduceMul, Nat.reduceLT, if_true, if_false, true_and, and_true, and_self, Nat.reduceBEq, QOp.loads, boxO, bslO, buildO, cutL, fillV, putL, w60, v60]
  refine stepC.of (hcr _ k1 _) ?_
  rintro _ H2 ⟨x2, rfl, q1, q2, _, g2, k2⟩
  simp (maxSteps := 4000000) (disch := omega) only [ah, am, Nat.reduceEqDiff, reduceCtorEq, Nat.reduceAdd, Nat.reduceLeDiff, Nat.reduceMul, Nat.reduceLT, if_true, if_false, true_and, and_true, and_self, Nat.reduceBEq, QOp.loads, boxO, bslO, buildO, cutL, fillV, putL, w60, v60]
  refine stepC.of (hcr _ k2 _) ?_
  rintro _ H3 ⟨x3, rfl, r1, r2, _, g3, k3⟩
  have b0 : Bx H3 h.size [.int .i64 0, .int .i64 0, .int .i64 0] := ((((Bx.new h [.int .i64 0, .int .i64 0, .int .i64 0] []).step g1 (by omega)).step g2 (by omega)).step g3 (by omega))
  have x0 : ExtX [c] h H3 := (((Ext.more h [[.int .i64 0, .int .i64 0, .int .i64 0]]).toX.trans g1.x).trans g2.x).trans g3.x
  have hlt : h.size < H3.size := Heap.get_lt b0
  have tail : ∀ (E : Env) (a : Clip), drawn a → E.get 0 = some (.pointer (some ⟨c, 0, none⟩)) → E.get 2 = some (.pointer (some ⟨h.size, 0, none⟩)) → E.get 3 = some (.pointer (some ⟨H3.size, 0, none⟩)) →
      SW Try.prog c60_30 (retQ [RV.c 2 (some 3)] fun r h' => ∃ a : Clip, r = Value.agg (encClip a).toArray ∧ drawn a ∧ Drew c h h') E (H3.more [encClip a]) := by
    intro E a da E0 E2 E3
    have b2 := b0.ext (Ext.more H3 [encClip a])
    have b3 := Bx.new H3 (encClip a) []
    have k4 := k3.ext (Ext.more H3 [encClip a])
    have x4 := x0.trans (Ext.more H3 [encClip a]).toX
    have on := l1Once_ok (H3.more [encClip a]) c 40 k4
    simp only [encClip] at on
    simp (maxSteps := 4000000) (disch := omega) only [ah, am, Nat.reduceEqDiff, reduceCtorEq, Nat.reduceAdd, Nat.reduceLeDiff, Nat.reduceMul, Nat.reduceLT, if_true, if_false, true_and, and_true, and_self, Nat.reduceBEq, QOp.loads, boxO, bslO, buildO, cutL, fillV, putL, w60, v60, E0, E2, E3, encClip]
    refine stepC.of on ?_
    rintro _ H5 ⟨b, rfl, g5, k5⟩
    have x5 := x4.trans g5.x
    have b2 := b2.step g5 (by omega)
    have b3 := b3.step g5 (by omega)
    have X5 := b3.ld
    simp only [encClip] at X5
    cases b with
    | false =>
      obtain ⟨H6, es, dr, Y⟩ := draw_leaf (a := a) k5 x5 hc b2 (Nat.le_refl _) rfl
      simp (maxSteps := 4000000) (disch := omega) only [ah, am, Nat.reduceEqDiff, reduceCtorEq, Nat.reduceAdd, Nat.reduceLeDiff, Nat.reduceMul, Nat.reduceLT, if_true, if_false, true_and, and_true, and_self, Nat.reduceBEq, QOp.loads, boxO, bslO, buildO, cutL, fillV, putL, w60, v60, E0, E2, E3, X5, es, Y]
      exact ⟨a, rfl, da, dr⟩
    | true =>
      simp (maxSteps := 4000000) (disch := omega) only [ah, am, Nat.reduceEqDiff, reduceCtorEq, Nat.reduceAdd, Nat.reduceLeDiff, Nat.reduceMul, Nat.reduceLT, if_true, if_false, true_and, and_true, and_self, Nat.reduceBEq, QOp.loads, boxO, bslO, buildO, cutL, fillV, putL, w60, v60, E0, E2, E3]
      refine stepC.of (hcr _ k5 _) ?_
      rintro _ H6 ⟨y, rfl, y1, y2, _, g6, k6⟩
      have x6 := x5.trans g6.x
      have b2 := b2.step g6 (by omega)
      have b3 := b3.step g6 (by omega)
      have X6 := b3.ld
      simp only [encClip] at X6
      have hy3 : y < 4 := y2 (by omega)
      by_cases hb0 : y = 0
      · have hb0' : decide (y = 0) = true := decide_eq_true hb0
        have b4 := Bx.new H6 [.int .i64 (-1), .int .i64 (500), .int .i64 (501)] []
        have k6' := k6.ext (Ext.more H6 [[.int .i64 (-1), .int .i64 (500), .int .i64 (501)]])
        have x6' := x6.trans (Ext.more H6 [[.int .i64 (-1), .int .i64 (500), .int .i64 (501)]]).toX
        have b2' := b2.ext (Ext.more H6 [[.int .i64 (-1), .int .i64 (500), .int .i64 (501)]])
        have b3' := b3.ext (Ext.more H6 [[.int .i64 (-1), .int .i64 (500), .int .i64 (501)]])
        simp (maxSteps := 4000000) (disch := omega) only [ah, am, Nat.reduceEqDiff, reduceCtorEq, Nat.reduceAdd, Nat.reduceLeDiff, Nat.reduceMul, Nat.reduceLT, if_true, if_false, true_and, and_true, and_self, Nat.reduceBEq, QOp.loads, boxO, bslO, buildO, cutL, fillV, putL, w60, v60, hb0', X6, encClip]
        refine stepC.of (hcr _ k6' _) ?_
        rintro _ H8 ⟨z, rfl, z1, z2, _, g8, k8⟩
        have z3 : z < 3 := z2 (by omega)
        have h68 : H6.size < (H6.more [[.int .i64 (-1), .int .i64 (500), .int .i64 (501)]]).size := by rw [size_more]; simp
        have b4 := b4.step g8 (by have := k6.lt; omega)
        have b2 := b2'.step g8 (by omega)
        have b3 := b3'.step g8 (by omega)
        have x8 := x6'.trans g8.x
        have X8 := b4.ld
        have X9 := b3.ld
        simp only [encClip] at X9
        obtain ⟨w, hw, hw2⟩ : ∃ w : Int, ([.int .i64 (-1), .int .i64 (500), .int .i64 (501)] : List Value)[z.toNat]? = some (.int .i64 w) ∧ w ≠ 300 := by
          rcases (show z = 0 ∨ z = 1 ∨ z = 2 by omega) with rfl | rfl | rfl <;> exact ⟨_, rfl, by decide⟩
        obtain ⟨H9, es3, b3, g9⟩ := b3.put (o := 0) (n := 1) (y := .int .i64 w) rfl (by simp [encClip]) rfl
        simp only [splice, encClip, cells_int, List.take_succ_cons, List.take_zero, List.cons_append, List.nil_append, List.append_nil, List.length_cons, List.length_nil, List.drop_succ_cons, List.drop_zero, Nat.reduceAdd] at b3
        have X10 := b3.ld
        have x9 := x8.top g9 (by omega)
        have k9 := k8.step g9 (by omega)
        have b2 := b2.step g9 (by omega)
        obtain ⟨H10, es, dr, Y⟩ := draw_leaf (a := ⟨w, a.inn, a.len⟩) k9 x9 hc b2 (Nat.le_refl _) rfl
        simp (maxSteps := 4000000) (disch := omega) only [ah, am, Nat.reduceEqDiff, reduceCtorEq, Nat.reduceAdd, Nat.reduceLeDiff, Nat.reduceMul, Nat.reduceLT, if_true, if_false, true_and, and_true, and_self, Nat.reduceBEq, QOp.loads, boxO, bslO, buildO, cutL, fillV, putL, w60, v60, X8, X9, hw, es3, X10, es, Y, Nat.mul_one, encClip]
        exact ⟨⟨w, a.inn, a.len⟩, rfl, hw2, dr⟩
      have hb0' : decide (y = 0) = false := decide_eq_false hb0
      by_cases hb1 : y = 1
      · have hb1' : decide (y = 1) = true := decide_eq_true hb1
        have b4 := Bx.new H6 [.int .i64 (-1), .int .i64 (10000000), .int .i64 (IntKind.i64.wrap (10000000 - a.len)), .int .i64 (IntKind.i64.wrap (IntKind.i64.wrap (10000000 - a.len) + 1)), .int .i64 (4611686018427387904)] []
        have k6' := k6.ext (Ext.more H6 [[.int .i64 (-1), .int .i64 (10000000), .int .i64 (IntKind.i64.wrap (10000000 - a.len)), .int .i64 (IntKind.i64.wrap (IntKind.i64.wrap (10000000 - a.len) + 1)), .int .i64 (4611686018427387904)]])
        have x6' := x6.trans (Ext.more H6 [[.int .i64 (-1), .int .i64 (10000000), .int .i64 (IntKind.i64.wrap (10000000 - a.len)), .int .i64 (IntKind.i64.wrap (IntKind.i64.wrap (10000000 - a.len) + 1)), .int .i64 (4611686018427387904)]]).toX
        have b2' := b2.ext (Ext.more H6 [[.int .i64 (-1), .int .i64 (10000000), .int .i64 (IntKind.i64.wrap (10000000 - a.len)), .int .i64 (IntKind.i64.wrap (IntKind.i64.wrap (10000000 - a.len) + 1)), .int .i64 (4611686018427387904)]])
        have b3' := b3.ext (Ext.more H6 [[.int .i64 (-1), .int .i64 (10000000), .int .i64 (IntKind.i64.wrap (10000000 - a.len)), .int .i64 (IntKind.i64.wrap (IntKind.i64.wrap (10000000 - a.len) + 1)), .int .i64 (4611686018427387904)]])
        simp (maxSteps := 4000000) (disch := omega) only [ah, am, Nat.reduceEqDiff, reduceCtorEq, Nat.reduceAdd, Nat.reduceLeDiff, Nat.reduceMul, Nat.reduceLT, if_true, if_false, true_and, and_true, and_self, Nat.reduceBEq, QOp.loads, boxO, bslO, buildO, cutL, fillV, putL, w60, v60, hb0', hb1', X6, encClip]
        refine stepC.of (hcr _ k6' _) ?_
        rintro _ H8 ⟨z, rfl, z1, z2, _, g8, k8⟩
        have z3 : z < 5 := z2 (by omega)
        have h68 : H6.size < (H6.more [[.int .i64 (-1), .int .i64 (10000000), .int .i64 (IntKind.i64.wrap (10000000 - a.len)), .int .i64 (IntKind.i64.wrap (IntKind.i64.wrap (10000000 - a.len) + 1)), .int .i64 (4611686018427387904)]]).size := by rw [size_more]; simp
        have b4 := b4.step g8 (by have := k6.lt; omega)
        have b2 := b2'.step g8 (by omega)
        have b3 := b3'.step g8 (by omega)
        have x8 := x6'.trans g8.x
        have X8 := b4.ld
        have X9 := b3.ld
        simp only [encClip] at X9
        obtain ⟨w, hw, hw2⟩ : ∃ w : Int, ([.int .i64 (-1), .int .i64 (10000000), .int .i64 (IntKind.i64.wrap (10000000 - a.len)), .int .i64 (IntKind.i64.wrap (IntKind.i64.wrap (10000000 - a.len) + 1)), .int .i64 (4611686018427387904)] : List Value)[z.toNat]? = some (.int .i64 w) ∧ True := by
          rcases (show z = 0 ∨ z = 1 ∨ z = 2 ∨ z = 3 ∨ z = 4 by omega) with rfl | rfl | rfl | rfl | rfl <;> exact ⟨_, rfl, by trivial⟩
        obtain ⟨H9, es3, b3, g9⟩ := b3.put (o := 1) (n := 1) (y := .int .i64 w) rfl (by simp [encClip]) rfl
        simp only [splice, encClip, cells_int, List.take_succ_cons, List.take_zero, List.cons_append, List.nil_append, List.append_nil, List.length_cons, List.length_nil, List.drop_succ_cons, List.drop_zero, Nat.reduceAdd] at b3
        have X10 := b3.ld
        have x9 := x8.top g9 (by omega)
        have k9 := k8.step g9 (by omega)
        have b2 := b2.step g9 (by omega)
        obtain ⟨H10, es, dr, Y⟩ := draw_leaf (a := ⟨a.src, w, a.len⟩) k9 x9 hc b2 (Nat.le_refl _) rfl
        simp (maxSteps := 4000000) (disch := omega) only [ah, am, Nat.reduceEqDiff, reduceCtorEq, Nat.reduceAdd, Nat.reduceLeDiff, Nat.reduceMul, Nat.reduceLT, if_true, if_false, true_and, and_true, and_self, Nat.reduceBEq, QOp.loads, boxO, bslO, buildO, cutL, fillV, putL, w60, v60, X8, X9, hw, es3, X10, es, Y, Nat.mul_one, encClip]
        exact ⟨⟨a.src, w, a.len⟩, rfl, da, dr⟩
      have hb1' : decide (y = 1) = false := decide_eq_false hb1
      by_cases hb2 : y = 2
      · have hb2' : decide (y = 2) = true := decide_eq_true hb2
        have b4 := Bx.new H6 [.int .i64 (0), .int .i64 (-1), .int .i64 (10000000), .int .i64 (10000001), .int .i64 (4611686018427387904)] []
        have k6' := k6.ext (Ext.more H6 [[.int .i64 (0), .int .i64 (-1), .int .i64 (10000000), .int .i64 (10000001), .int .i64 (4611686018427387904)]])
        have x6' := x6.trans (Ext.more H6 [[.int .i64 (0), .int .i64 (-1), .int .i64 (10000000), .int .i64 (10000001), .int .i64 (4611686018427387904)]]).toX
        have b2' := b2.ext (Ext.more H6 [[.int .i64 (0), .int .i64 (-1), .int .i64 (10000000), .int .i64 (10000001), .int .i64 (4611686018427387904)]])
        have b3' := b3.ext (Ext.more H6 [[.int .i64 (0), .int .i64 (-1), .int .i64 (10000000), .int .i64 (10000001), .int .i64 (4611686018427387904)]])
        simp (maxSteps := 4000000) (disch := omega) only [ah, am, Nat.reduceEqDiff, reduceCtorEq, Nat.reduceAdd, Nat.reduceLeDiff, Nat.reduceMul, Nat.reduceLT, if_true, if_false, true_and, and_true, and_self, Nat.reduceBEq, QOp.loads, boxO, bslO, buildO, cutL, fillV, putL, w60, v60, hb0', hb1', hb2', X6, encClip]
        refine stepC.of (hcr _ k6' _) ?_
        rintro _ H8 ⟨z, rfl, z1, z2, _, g8, k8⟩
        have z3 : z < 5 := z2 (by omega)
        have h68 : H6.size < (H6.more [[.int .i64 (0), .int .i64 (-1), .int .i64 (10000000), .int .i64 (10000001), .int .i64 (4611686018427387904)]]).size := by rw [size_more]; simp
        have b4 := b4.step g8 (by have := k6.lt; omega)
        have b2 := b2'.step g8 (by omega)
        have b3 := b3'.step g8 (by omega)
        have x8 := x6'.trans g8.x
        have X8 := b4.ld
        have X9 := b3.ld
        simp only [encClip] at X9
        obtain ⟨w, hw, hw2⟩ : ∃ w : Int, ([.int .i64 (0), .int .i64 (-1), .int .i64 (10000000), .int .i64 (10000001), .int .i64 (4611686018427387904)] : List Value)[z.toNat]? = some (.int .i64 w) ∧ True := by
          rcases (show z = 0 ∨ z = 1 ∨ z = 2 ∨ z = 3 ∨ z = 4 by omega) with rfl | rfl | rfl | rfl | rfl <;> exact ⟨_, rfl, by trivial⟩
        obtain ⟨H9, es3, b3, g9⟩ := b3.put (o := 2) (n := 1) (y := .int .i64 w) rfl (by simp [encClip]) rfl
        simp only [splice, encClip, cells_int, List.take_succ_cons, List.take_zero, List.cons_append, List.nil_append, List.append_nil, List.length_cons, List.length_nil, List.drop_succ_cons, List.drop_zero, Nat.reduceAdd] at b3
        have X10 := b3.ld
        have x9 := x8.top g9 (by omega)
        have k9 := k8.step g9 (by omega)
        have b2 := b2.step g9 (by omega)
        obtain ⟨H10, es, dr, Y⟩ := draw_leaf (a := ⟨a.src, a.inn, w⟩) k9 x9 hc b2 (Nat.le_refl _) rfl
        simp (maxSteps := 4000000) (disch := omega) only [ah, am, Nat.reduceEqDiff, reduceCtorEq, Nat.reduceAdd, Nat.reduceLeDiff, Nat.reduceMul, Nat.reduceLT, if_true, if_false, true_and, and_true, and_self, Nat.reduceBEq, QOp.loads, boxO, bslO, buildO, cutL, fillV, putL, w60, v60, X8, X9, hw, es3, X10, es, Y, Nat.mul_one, encClip]
        exact ⟨⟨a.src, a.inn, w⟩, rfl, da, dr⟩
      have hb2' : decide (y = 2) = false := decide_eq_false hb2
      have hb3' : decide (y = 3) = true := decide_eq_true (by omega)
      obtain ⟨H9, es3, b3, g9⟩ := b3.put (o := 0) (n := 3) (y := .agg [.int .i64 0, .int .i64 1, .int .i64 3].toArray) rfl (by simp [encClip]) rfl
      simp only [splice, encClip, cells_agg, List.take_succ_cons, List.take_zero, List.cons_append, List.nil_append, List.append_nil, List.length_cons, List.length_nil, List.drop_succ_cons, List.drop_zero, Nat.reduceAdd] at b3
      have X10 := b3.ld
      have x9 := x6.top g9 (by omega)
      have k9 := k6.step g9 (by omega)
      have b2 := b2.step g9 (by omega)
      obtain ⟨H10, es, dr, Y⟩ := draw_leaf (a := ⟨0, 1, 3⟩) k9 x9 hc b2 (Nat.le_refl _) rfl
      simp (maxSteps := 4000000) (disch := omega) only [ah, am, Nat.reduceEqDiff, reduceCtorEq, Nat.reduceAdd, Nat.reduceLeDiff, Nat.reduceMul, Nat.reduceLT, if_true, if_false, true_and, and_true, and_self, Nat.reduceBEq, QOp.loads, boxO, bslO, buildO, cutL, fillV, putL, w60, v60, hb0', hb1', hb2', hb3', es3, X10, es, Y, encClip]
      exact ⟨⟨0, 1, 3⟩, rfl, by simp [drawn], dr⟩
  simp (maxSteps := 4000000) (disch := omega) only [ah, am, Nat.reduceEqDiff, reduceCtorEq, Nat.reduceAdd, Nat.reduceLeDiff, Nat.reduceMul, Nat.reduceLT, if_true, if_false, true_and, and_true, and_self, Nat.reduceBEq, QOp.loads, boxO, bslO, buildO, cutL, fillV, putL, w60, v60, i64w]
  generalize c60_30 = fc at tail ⊢
  by_cases hx : x1 = 0
  · have hx' : decide (x1 = 0) = true := decide_eq_true hx
    have tl := fun E => tail E ⟨x1, 0, 1 + x3⟩ (by simp [drawn]; omega)
    simp only [encClip] at tl
    simp (maxSteps := 4000000) (disch := omega) only [ah, am, Nat.reduceEqDiff, reduceCtorEq, Nat.reduceAdd, Nat.reduceLeDiff, Nat.reduceMul, Nat.reduceLT, if_true, if_false, true_and, and_true, and_self, Nat.reduceBEq, QOp.loads, boxO, bslO, buildO, cutL, fillV, putL, w60, v60, hx', encClip]
    exact tl _ rfl rfl rfl
  · have hx' : decide (x1 = 0) = false := decide_eq_false hx
    have tl := fun E => tail E ⟨x1, x2, 1 + x3⟩ (by simp [drawn]; omega)
    simp only [encClip] at tl
    simp (maxSteps := 4000000) (disch := omega) only [ah, am, Nat.reduceEqDiff, reduceCtorEq, Nat.reduceAdd, Nat.reduceLeDiff, Nat.reduceMul, Nat.reduceLT, if_true, if_false, true_and, and_true, and_self, Nat.reduceBEq, QOp.loads, boxO, bslO, buildO, cutL, fillV, putL, w60, v60, hx', encClip]
    exact tl _ rfl rfl rfl
end Go.Proofs.Ytmippcfdakjhfaa
