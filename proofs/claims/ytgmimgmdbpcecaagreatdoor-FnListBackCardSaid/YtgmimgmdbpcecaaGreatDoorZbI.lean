/- Merged texts of this claim: D2z, D3z, V16. -/
import Derived.Test.YtgmimgmdbpcecaaGreatDoorZbH
section
namespace Go.Proofs.YtgmimgmdbpcecaaGreatDoor
open Go Go.Ah
set_option linter.unusedSimpArgs false
set_option linter.unusedVariables false
set_option maxRecDepth 10000
set_option maxHeartbeats 4000000
/-! 58 loop.example/g00066/spec.l4DrawClip: parameters 1, live [0], slots [0:c, 1:c, 3:k] -/
def c58_0 : List SOper := [⟨some 2, .a (.new [(.int .i64 0), (.int .i64 0), (.int .i64 0)]), none⟩]
def c58_1 : List SOper := [⟨some 4, .q (.mv (.t 0)), none⟩, ⟨some 5, .e (.call 38 [(.t 4), (.c (.int .i64 4))]), none⟩, ⟨some 6, .q (.mv (.t 0)), none⟩, ⟨some 7, .e (.call 38 [(.t 6), (.c (.int .i64 40))]), none⟩, ⟨some 8, .q (.mv (.t 0)), none⟩, ⟨some 9, .e (.call 38 [(.t 8), (.c (.int .i64 20))]), none⟩, ⟨some 10, .q (.bin .add (.c (.int .i64 1)) (.t 9)), none⟩, ⟨some 11, .q (.build [(.int .i64 0), (.int .i64 0), (.int .i64 0)] [(0, 1, (.t 5)), (1, 1, (.t 7)), (2, 1, (.t 10))]), none⟩, ⟨some 3, .a (.new [(.int .i64 0), (.int .i64 0), (.int .i64 0)]), none⟩, ⟨none, .e (.st 3 (.t 3) (.t 11)), none⟩]
def c58_2 : List SOper := [⟨some 12, .q (.fa 0 (.t 3)), none⟩, ⟨some 13, .q (.ld (.t 12)), none⟩, ⟨some 14, .q (.bin .eql (.t 13) (.c (.int .i64 0))), none⟩]
def c58_3 : List SOper := [⟨some 15, .q (.fa 1 (.t 3)), none⟩, ⟨none, .e (.st 1 (.t 15) (.c (.int .i64 0))), none⟩]
def c58_4 : SCode := .cond (.t 14) (.region c58_3 [0, 2, 3]) .skip
def c58_5 : SCode := .seq (.region c58_2 [0, 2, 3, 14]) c58_4
def c58_6 : List SOper := [⟨some 16, .q (.mv (.t 0)), none⟩, ⟨some 17, .e (.call 29 [(.t 16), (.c (.int .i64 40))]), none⟩]
def c58_7 : List SOper := [⟨some 18, .q (.mv (.t 0)), none⟩, ⟨some 19, .e (.call 38 [(.t 18), (.c (.int .i64 4))]), none⟩]
def c58_8 : List SOper := [⟨some 21, .q (.bin .eql (.t 19) (.c (.int .i64 0))), none⟩, ⟨some 20, .q (.mv (.t 21)), none⟩]
def c58_9 : List SOper := [⟨some 22, .a (.bsl 3 1 [(.int .i64 0), (.int .i64 0), (.int .i64 0)] [(0, 1, (.c (.int .i64 (-1)))), (1, 1, (.c (.int .i64 500))), (2, 1, (.c (.int .i64 501)))]), none⟩, ⟨some 23, .q (.mv (.t 0)), none⟩, ⟨some 24, .e (.call 38 [(.t 23), (.c (.int .i64 3))]), none⟩, ⟨some 25, .q (.ia 1 (.t 22) (.t 24)), none⟩, ⟨some 26, .q (.ld (.t 25)), none⟩, ⟨some 27, .q (.fa 0 (.t 3)), none⟩, ⟨none, .e (.st 1 (.t 27) (.t 26)), none⟩]
def c58_10 : List SOper := [⟨some 29, .q (.bin .eql (.t 19) (.c (.int .i64 1))), none⟩, ⟨some 28, .q (.mv (.t 29)), none⟩]
def c58_11 : List DOper := [⟨0, ⟨some 30, .q (.fa 2 (.t 3)), none⟩, [], []⟩, ⟨1, ⟨some 31, .q (.ld (.t 30)), none⟩, [], []⟩, ⟨2, ⟨some 32, .q (.bin .sub (.c (.int .i64 10000000)) (.t 31)), none⟩, [], []⟩, ⟨3, ⟨some 33, .q (.fa 2 (.t 3)), none⟩, [], []⟩, ⟨4, ⟨some 34, .q (.ld (.t 33)), none⟩, [], []⟩, ⟨5, ⟨some 35, .q (.bin .sub (.c (.int .i64 10000000)) (.t 34)), none⟩, [], []⟩, ⟨6, ⟨some 36, .q (.bin .add (.t 35) (.c (.int .i64 1))), none⟩, [], []⟩, ⟨7, ⟨some 37, .a (.bsl 5 1 [(.int .i64 0), (.int .i64 0), (.int .i64 0), (.int .i64 0), (.int .i64 0)] [(0, 1, (.c (.int .i64 (-1)))), (1, 1, (.c (.int .i64 10000000))), (2, 1, (.t 32)), (3, 1, (.t 36)), (4, 1, (.c (.int .i64 4611686018427387904)))]), none⟩, [], []⟩, ⟨8, ⟨some 38, .q (.mv (.t 0)), none⟩, [], []⟩, ⟨9, ⟨some 39, .e (.call 38 [(.t 38), (.c (.int .i64 5))]), none⟩, [], [4, 1]⟩, ⟨10, ⟨some 40, .q (.ia 1 (.t 37) (.t 39)), none⟩, [], []⟩, ⟨11, ⟨some 41, .q (.ld (.t 40)), none⟩, [], []⟩, ⟨12, ⟨some 42, .q (.fa 1 (.t 3)), none⟩, [], []⟩, ⟨13, ⟨none, .e (.st 1 (.t 42) (.t 41)), none⟩, [], []⟩]
def c58_12 : List SOper := [⟨some 44, .q (.bin .eql (.t 19) (.c (.int .i64 2))), none⟩, ⟨some 43, .q (.mv (.t 44)), none⟩]
def c58_13 : List SOper := [⟨some 45, .a (.bsl 5 1 [(.int .i64 0), (.int .i64 0), (.int .i64 0), (.int .i64 0), (.int .i64 0)] [(0, 1, (.c (.int .i64 0))), (1, 1, (.c (.int .i64 (-1)))), (2, 1, (.c (.int .i64 10000000))), (3, 1, (.c (.int .i64 10000001))), (4, 1, (.c (.int .i64 4611686018427387904)))]), none⟩, ⟨some 46, .q (.mv (.t 0)), none⟩, ⟨some 47, .e (.call 38 [(.t 46), (.c (.int .i64 5))]), none⟩, ⟨some 48, .q (.ia 1 (.t 45) (.t 47)), none⟩, ⟨some 49, .q (.ld (.t 48)), none⟩, ⟨some 50, .q (.fa 2 (.t 3)), none⟩, ⟨none, .e (.st 1 (.t 50) (.t 49)), none⟩]
def c58_14 : List SOper := [⟨some 52, .q (.bin .eql (.t 19) (.c (.int .i64 3))), none⟩, ⟨some 51, .q (.mv (.t 52)), none⟩]
def c58_15 : List SOper := [⟨some 53, .q (.build [(.int .i64 0), (.int .i64 0), (.int .i64 0)] [(1, 1, (.c (.int .i64 1))), (2, 1, (.c (.int .i64 3)))]), none⟩, ⟨none, .e (.st 3 (.t 3) (.t 53)), none⟩]
def c58_16 : SCode := .cond (.t 51) (.region c58_15 [2, 3]) .skip
def c58_17 : SCode := .seq (.region c58_14 [2, 3, 51]) c58_16
def c58_18 : SCode := .cond (.t 43) (.region c58_13 [2, 3]) c58_17
def c58_19 : SCode := .seq (.region c58_12 [0, 2, 3, 19, 43]) c58_18
def c58_20 : SCode := .cond (.t 28) (.dregion c58_11 [2, 3]) c58_19
def c58_21 : SCode := .seq (.region c58_10 [0, 2, 3, 19, 28]) c58_20
def c58_22 : SCode := .cond (.t 20) (.region c58_9 [2, 3]) c58_21
def c58_23 : SCode := .seq (.region c58_8 [0, 2, 3, 19, 20]) c58_22
def c58_24 : SCode := .block 0 c58_23
def c58_25 : SCode := .seq (.region c58_7 [0, 2, 3, 19]) c58_24
def c58_26 : SCode := .cond (.t 17) c58_25 .skip
def c58_27 : SCode := .seq (.region c58_6 [0, 2, 3, 17]) c58_26
def c58_28 : List SOper := [⟨some 54, .q (.ldn 3 (.t 3)), none⟩, ⟨none, .e (.st 3 (.t 2) (.t 54)), none⟩]
def c58_29 : SCode := .seq (.region c58_28 [2]) .ret
def c58_30 : SCode := .seq c58_27 c58_29
def c58_31 : SCode := .seq c58_5 c58_30
def c58_32 : SCode := .seq (.region c58_1 [0, 2, 3]) c58_31
def c58_33 : SCode := .seq (.region c58_0 [0, 2]) c58_32
def c58 : SCode := c58_33
theorem w58 : type_of% (And.intro (uR Tryz.prog c58_0.eq_1) (And.intro (uR Tryz.prog c58_1.eq_1) (And.intro (uR Tryz.prog c58_2.eq_1) (And.intro (uR Tryz.prog c58_3.eq_1) (And.intro (uC Tryz.prog c58_4.eq_1) (And.intro (uC Tryz.prog c58_5.eq_1) (And.intro (uR Tryz.prog c58_6.eq_1) (And.intro (uR Tryz.prog c58_7.eq_1) (And.intro (uR Tryz.prog c58_8.eq_1) (And.intro (uR Tryz.prog c58_9.eq_1) (And.intro (uR Tryz.prog c58_10.eq_1) (And.intro (uD Tryz.prog c58_11.eq_1) (And.intro (uR Tryz.prog c58_12.eq_1) (And.intro (uR Tryz.prog c58_13.eq_1) (And.intro (uR Tryz.prog c58_14.eq_1) (And.intro (uR Tryz.prog c58_15.eq_1) (And.intro (uC Tryz.prog c58_16.eq_1) (And.intro (uC Tryz.prog c58_17.eq_1) (And.intro (uC Tryz.prog c58_18.eq_1) (And.intro (uC Tryz.prog c58_19.eq_1) (And.intro (uC Tryz.prog c58_20.eq_1) (And.intro (uC Tryz.prog c58_21.eq_1) (And.intro (uC Tryz.prog c58_22.eq_1) (And.intro (uC Tryz.prog c58_23.eq_1) (And.intro (uC Tryz.prog c58_24.eq_1) (And.intro (uC Tryz.prog c58_25.eq_1) (And.intro (uC Tryz.prog c58_26.eq_1) (And.intro (uC Tryz.prog c58_27.eq_1) (And.intro (uR Tryz.prog c58_28.eq_1) (And.intro (uC Tryz.prog c58_29.eq_1) (And.intro (uC Tryz.prog c58_30.eq_1) (And.intro (uC Tryz.prog c58_31.eq_1) (And.intro (uC Tryz.prog c58_32.eq_1) (And.intro (uC Tryz.prog c58_33.eq_1) (uC Tryz.prog c58.eq_1))))))))))))))))))))))))))))))))))) := (And.intro (uR Tryz.prog c58_0.eq_1) (And.intro (uR Tryz.prog c58_1.eq_1) (And.intro (uR Tryz.prog c58_2.eq_1) (And.intro (uR Tryz.prog c58_3.eq_1) (And.intro (uC Tryz.prog c58_4.eq_1) (And.intro (uC Tryz.prog c58_5.eq_1) (And.intro (uR Tryz.prog c58_6.eq_1) (And.intro (uR Tryz.prog c58_7.eq_1) (And.intro (uR Tryz.prog c58_8.eq_1) (And.intro (uR Tryz.prog c58_9.eq_1) (And.intro (uR Tryz.prog c58_10.eq_1) (And.intro (uD Tryz.prog c58_11.eq_1) (And.intro (uR Tryz.prog c58_12.eq_1) (And.intro (uR Tryz.prog c58_13.eq_1) (And.intro (uR Tryz.prog c58_14.eq_1) (And.intro (uR Tryz.prog c58_15.eq_1) (And.intro (uC Tryz.prog c58_16.eq_1) (And.intro (uC Tryz.prog c58_17.eq_1) (And.intro (uC Tryz.prog c58_18.eq_1) (And.intro (uC Tryz.prog c58_19.eq_1) (And.intro (uC Tryz.prog c58_20.eq_1) (And.intro (uC Tryz.prog c58_21.eq_1) (And.intro (uC Tryz.prog c58_22.eq_1) (And.intro (uC Tryz.prog c58_23.eq_1) (And.intro (uC Tryz.prog c58_24.eq_1) (And.intro (uC Tryz.prog c58_25.eq_1) (And.intro (uC Tryz.prog c58_26.eq_1) (And.intro (uC Tryz.prog c58_27.eq_1) (And.intro (uR Tryz.prog c58_28.eq_1) (And.intro (uC Tryz.prog c58_29.eq_1) (And.intro (uC Tryz.prog c58_30.eq_1) (And.intro (uC Tryz.prog c58_31.eq_1) (And.intro (uC Tryz.prog c58_32.eq_1) (And.intro (uC Tryz.prog c58_33.eq_1) (uC Tryz.prog c58.eq_1)))))))))))))))))))))))))))))))))))
def v58 : List RV := [.c 2 (some 3)]
theorem s58 : slimF Tryz.prog Tryz.f58 = some (c58.bare, v58) := by kernel_rfl

/-- A clip as drawn: its source is never 300. -/
def drawn (k : Clip) : Prop := k.src ≠ 300
/-- A call that draws: nothing but the cursor changes. -/
def Drew (c : Nat) (h h' : Heap) : Prop := ExtG c h h' ∧ Cur h' c
theorem Cur.step {h h' : Heap} {c i : Nat} (k : Cur h c) (g : ExtG i h h') (hi : c < i) : Cur h' c := by
  obtain ⟨h0, bv, code, pos, hh, k1, k2, k3, k4, k5, k6⟩ := k
  exact ⟨h0, bv, code, pos, hh, k1, g.ext k2 (by omega), k3, k4, k5, k6.step g (by omega)⟩
/-- The answer is stored into its box. -/
theorem draw_leaf {h H : Heap} {c i2 : Nat} {cs2 : List Value} {a : Clip} (k : Cur H c) (x : ExtX [c] h H) (hc : c < h.size) (b2 : Bx H i2 cs2) (h2 : h.size ≤ i2) (hl : cs2.length = 3) :
    ∃ H', stV H 3 (.pointer (some ⟨i2, 0, none⟩)) (.agg [.int .i64 a.src, .int .i64 a.inn, .int .i64 a.len].toArray) = some H' ∧ Drew c h H' ∧ (∀ o n, ldnV H' n (.pointer (some ⟨i2, o, none⟩)) = cutL [.int .i64 a.src, .int .i64 a.inn, .int .i64 a.len] o n) := by
  obtain ⟨H', es, b, g⟩ := b2.put (o := 0) (n := 3) (y := .agg [.int .i64 a.src, .int .i64 a.inn, .int .i64 a.len].toArray) rfl (by omega) rfl
  refine ⟨H', es, ⟨(x.top g h2).toG, k.step g (by omega)⟩, ?_⟩
  have hs : splice cs2 0 (Value.agg [.int .i64 a.src, .int .i64 a.inn, .int .i64 a.len].toArray).cells.toList = [.int .i64 a.src, .int .i64 a.inn, .int .i64 a.len] := by
    simp only [splice, cells_agg, List.take_zero, List.nil_append]
    rw [List.drop_eq_nil_of_le (by simp [hl])]; rfl
  rw [hs] at b
  exact b.ld.2
theorem l4DrawClip_ok (h : Heap) (c : Nat) (k : Cur h c) : ACall Tryz.prog 58 [.pointer (some ⟨c, 0, none⟩)] h fun r h' => ∃ a : Clip, r = .agg (encClip a).toArray ∧ drawn a ∧ Drew c h h' := by
  refine ACall.of Tryz.func58 s58 (of_decide_eq_true rfl) ?_
  have hc := k.lt
  have hcr : ∀ H : Heap, Cur H c → ∀ n, ACall Tryz.prog 38 [.pointer (some ⟨c, 0, none⟩), .int .i64 n] H fun r h' => ∃ x, r = .int .i64 x ∧ 0 ≤ x ∧ (0 < n → x < n) ∧ (n ≤ 0 → x = 0) ∧ ExtG c H h' ∧ Cur h' c := fun H k n => l1Below_ok H c n k
  simp (maxSteps := 4000000) (disch := omega) only [ah, am, Nat.reduceEqDiff, reduceCtorEq, Nat.reduceAdd, Nat.reduceLeDiff, Nat.reduceMul, Nat.reduceLT, if_true, if_false, true_and, and_true, and_self, Nat.reduceBEq, QOp.loads, boxO, bslO, buildO, cutL, fillV, putL, w58, v58]
  have k0 := k.ext (Ext.more h [[.int .i64 0, .int .i64 0, .int .i64 0]])
  refine stepC.of (hcr _ k0 _) ?_
  rintro _ H1 ⟨x1, rfl, p1, p2, _, g1, k1⟩
  simp (maxSteps := 4000000) (disch := omega) only [ah, am, Nat.reduceEqDiff, reduceCtorEq, Nat.reduceAdd, Nat.reduceLeDiff, Nat.reduceMul, Nat.reduceLT, if_true, if_false, true_and, and_true, and_self, Nat.reduceBEq, QOp.loads, boxO, bslO, buildO, cutL, fillV, putL, w58, v58]
  refine stepC.of (hcr _ k1 _) ?_
  rintro _ H2 ⟨x2, rfl, q1, q2, _, g2, k2⟩
  simp (maxSteps := 4000000) (disch := omega) only [ah, am, Nat.reduceEqDiff, reduceCtorEq, Nat.reduceAdd, Nat.reduceLeDiff, Nat.reduceMul, Nat.reduceLT, if_true, if_false, true_and, and_true, and_self, Nat.reduceBEq, QOp.loads, boxO, bslO, buildO, cutL, fillV, putL, w58, v58]
  refine stepC.of (hcr _ k2 _) ?_
  rintro _ H3 ⟨x3, rfl, r1, r2, _, g3, k3⟩
  have b0 : Bx H3 h.size [.int .i64 0, .int .i64 0, .int .i64 0] := ((((Bx.new h [.int .i64 0, .int .i64 0, .int .i64 0] []).step g1 (by omega)).step g2 (by omega)).step g3 (by omega))
  have x0 : ExtX [c] h H3 := (((Ext.more h [[.int .i64 0, .int .i64 0, .int .i64 0]]).toX.trans g1.x).trans g2.x).trans g3.x
  have hlt : h.size < H3.size := Heap.get_lt b0
  have tail : ∀ (E : Env) (a : Clip), drawn a → E.get 0 = some (.pointer (some ⟨c, 0, none⟩)) → E.get 2 = some (.pointer (some ⟨h.size, 0, none⟩)) → E.get 3 = some (.pointer (some ⟨H3.size, 0, none⟩)) →
      SW Tryz.prog c58_30 (retQ [RV.c 2 (some 3)] fun r h' => ∃ a : Clip, r = Value.agg (encClip a).toArray ∧ drawn a ∧ Drew c h h') E (H3.more [encClip a]) := by
    intro E a da E0 E2 E3
    have b2 := b0.ext (Ext.more H3 [encClip a])
    have b3 := Bx.new H3 (encClip a) []
    have k4 := k3.ext (Ext.more H3 [encClip a])
    have x4 := x0.trans (Ext.more H3 [encClip a]).toX
    have on := l1Once_ok (H3.more [encClip a]) c 40 k4
    simp only [encClip] at on
    simp (maxSteps := 4000000) (disch := omega) only [ah, am, Nat.reduceEqDiff, reduceCtorEq, Nat.reduceAdd, Nat.reduceLeDiff, Nat.reduceMul, Nat.reduceLT, if_true, if_false, true_and, and_true, and_self, Nat.reduceBEq, QOp.loads, boxO, bslO, buildO, cutL, fillV, putL, w58, v58, E0, E2, E3, encClip]
    refine stepC.of on ?_
    rintro _ H5 ⟨b, rfl, g5, k5⟩
    have x5 := x4.trans g5.x
    have b2 := b2.step g5 (by omega)
    have b3 := b3.step g5 (by omega)
    have X5 := b3.ld
    simp only [encClip] at X5
    cases b with
    | false =>
      obtain ⟨H6, es, dr, Y⟩ := draw_leaf (a := a) k5 x5 hc b2 (Nat.le_refl _) rfl
      simp (maxSteps := 4000000) (disch := omega) only [ah, am, Nat.reduceEqDiff, reduceCtorEq, Nat.reduceAdd, Nat.reduceLeDiff, Nat.reduceMul, Nat.reduceLT, if_true, if_false, true_and, and_true, and_self, Nat.reduceBEq, QOp.loads, boxO, bslO, buildO, cutL, fillV, putL, w58, v58, E0, E2, E3, X5, es, Y]
      exact ⟨a, rfl, da, dr⟩
    | true =>
      simp (maxSteps := 4000000) (disch := omega) only [ah, am, Nat.reduceEqDiff, reduceCtorEq, Nat.reduceAdd, Nat.reduceLeDiff, Nat.reduceMul, Nat.reduceLT, if_true, if_false, true_and, and_true, and_self, Nat.reduceBEq, QOp.loads, boxO, bslO, buildO, cutL, fillV, putL, w58, v58, E0, E2, E3]
      refine stepC.of (hcr _ k5 _) ?_
      rintro _ H6 ⟨y, rfl, y1, y2, _, g6, k6⟩
      have x6 := x5.trans g6.x
      have b2 := b2.step g6 (by omega)
      have b3 := b3.step g6 (by omega)
      have X6 := b3.ld
      simp only [encClip] at X6
      have hy3 : y < 4 := y2 (by omega)
      by_cases hb0 : y = 0
      · have hb0' : decide (y = 0) = true := decide_eq_true hb0
        have b4 := Bx.new H6 [.int .i64 (-1), .int .i64 (500), .int .i64 (501)] []
        have k6' := k6.ext (Ext.more H6 [[.int .i64 (-1), .int .i64 (500), .int .i64 (501)]])
        have x6' := x6.trans (Ext.more H6 [[.int .i64 (-1), .int .i64 (500), .int .i64 (501)]]).toX
        have b2' := b2.ext (Ext.more H6 [[.int .i64 (-1), .int .i64 (500), .int .i64 (501)]])
        have b3' := b3.ext (Ext.more H6 [[.int .i64 (-1), .int .i64 (500), .int .i64 (501)]])
        simp (maxSteps := 4000000) (disch := omega) only [ah, am, Nat.reduceEqDiff, reduceCtorEq, Nat.reduceAdd, Nat.reduceLeDiff, Nat.reduceMul, Nat.reduceLT, if_true, if_false, true_and, and_true, and_self, Nat.reduceBEq, QOp.loads, boxO, bslO, buildO, cutL, fillV, putL, w58, v58, hb0', X6, encClip]
        refine stepC.of (hcr _ k6' _) ?_
        rintro _ H8 ⟨z, rfl, z1, z2, _, g8, k8⟩
        have z3 : z < 3 := z2 (by omega)
        have h68 : H6.size < (H6.more [[.int .i64 (-1), .int .i64 (500), .int .i64 (501)]]).size := by rw [size_more]; simp
        have b4 := b4.step g8 (by have := k6.lt; omega)
        have b2 := b2'.step g8 (by omega)
        have b3 := b3'.step g8 (by omega)
        have x8 := x6'.trans g8.x
        have X8 := b4.ld
        have X9 := b3.ld
        simp only [encClip] at X9
        obtain ⟨w, hw, hw2⟩ : ∃ w : Int, ([.int .i64 (-1), .int .i64 (500), .int .i64 (501)] : List Value)[z.toNat]? = some (.int .i64 w) ∧ w ≠ 300 := by
          rcases (show z = 0 ∨ z = 1 ∨ z = 2 by omega) with rfl | rfl | rfl <;> exact ⟨_, rfl, by decide⟩
        obtain ⟨H9, es3, b3, g9⟩ := b3.put (o := 0) (n := 1) (y := .int .i64 w) rfl (by simp [encClip]) rfl
        simp only [splice, encClip, cells_int, List.take_succ_cons, List.take_zero, List.cons_append, List.nil_append, List.append_nil, List.length_cons, List.length_nil, List.drop_succ_cons, List.drop_zero, Nat.reduceAdd] at b3
        have X10 := b3.ld
        have x9 := x8.top g9 (by omega)
        have k9 := k8.step g9 (by omega)
        have b2 := b2.step g9 (by omega)
        obtain ⟨H10, es, dr, Y⟩ := draw_leaf (a := ⟨w, a.inn, a.len⟩) k9 x9 hc b2 (Nat.le_refl _) rfl
        simp (maxSteps := 4000000) (disch := omega) only [ah, am, Nat.reduceEqDiff, reduceCtorEq, Nat.reduceAdd, Nat.reduceLeDiff, Nat.reduceMul, Nat.reduceLT, if_true, if_false, true_and, and_true, and_self, Nat.reduceBEq, QOp.loads, boxO, bslO, buildO, cutL, fillV, putL, w58, v58, X8, X9, hw, es3, X10, es, Y, Nat.mul_one, encClip]
        exact ⟨⟨w, a.inn, a.len⟩, rfl, hw2, dr⟩
      have hb0' : decide (y = 0) = false := decide_eq_false hb0
      by_cases hb1 : y = 1
      · have hb1' : decide (y = 1) = true := decide_eq_true hb1
        have b4 := Bx.new H6 [.int .i64 (-1), .int .i64 (10000000), .int .i64 (IntKind.i64.wrap (10000000 - a.len)), .int .i64 (IntKind.i64.wrap (IntKind.i64.wrap (10000000 - a.len) + 1)), .int .i64 (4611686018427387904)] []
        have k6' := k6.ext (Ext.more H6 [[.int .i64 (-1), .int .i64 (10000000), .int .i64 (IntKind.i64.wrap (10000000 - a.len)), .int .i64 (IntKind.i64.wrap (IntKind.i64.wrap (10000000 - a.len) + 1)), .int .i64 (4611686018427387904)]])
        have x6' := x6.trans (Ext.more H6 [[.int .i64 (-1), .int .i64 (10000000), .int .i64 (IntKind.i64.wrap (10000000 - a.len)), .int .i64 (IntKind.i64.wrap (IntKind.i64.wrap (10000000 - a.len) + 1)), .int .i64 (4611686018427387904)]]).toX
        have b2' := b2.ext (Ext.more H6 [[.int .i64 (-1), .int .i64 (10000000), .int .i64 (IntKind.i64.wrap (10000000 - a.len)), .int .i64 (IntKind.i64.wrap (IntKind.i64.wrap (10000000 - a.len) + 1)), .int .i64 (4611686018427387904)]])
        have b3' := b3.ext (Ext.more H6 [[.int .i64 (-1), .int .i64 (10000000), .int .i64 (IntKind.i64.wrap (10000000 - a.len)), .int .i64 (IntKind.i64.wrap (IntKind.i64.wrap (10000000 - a.len) + 1)), .int .i64 (4611686018427387904)]])
        simp (maxSteps := 4000000) (disch := omega) only [ah, am, Nat.reduceEqDiff, reduceCtorEq, Nat.reduceAdd, Nat.reduceLeDiff, Nat.reduceMul, Nat.reduceLT, if_true, if_false, true_and, and_true, and_self, Nat.reduceBEq, QOp.loads, boxO, bslO, buildO, cutL, fillV, putL, w58, v58, hb0', hb1', X6, encClip]
        refine stepC.of (hcr _ k6' _) ?_
        rintro _ H8 ⟨z, rfl, z1, z2, _, g8, k8⟩
        have z3 : z < 5 := z2 (by omega)
        have h68 : H6.size < (H6.more [[.int .i64 (-1), .int .i64 (10000000), .int .i64 (IntKind.i64.wrap (10000000 - a.len)), .int .i64 (IntKind.i64.wrap (IntKind.i64.wrap (10000000 - a.len) + 1)), .int .i64 (4611686018427387904)]]).size := by rw [size_more]; simp
        have b4 := b4.step g8 (by have := k6.lt; omega)
        have b2 := b2'.step g8 (by omega)
        have b3 := b3'.step g8 (by omega)
        have x8 := x6'.trans g8.x
        have X8 := b4.ld
        have X9 := b3.ld
        simp only [encClip] at X9
        obtain ⟨w, hw, hw2⟩ : ∃ w : Int, ([.int .i64 (-1), .int .i64 (10000000), .int .i64 (IntKind.i64.wrap (10000000 - a.len)), .int .i64 (IntKind.i64.wrap (IntKind.i64.wrap (10000000 - a.len) + 1)), .int .i64 (4611686018427387904)] : List Value)[z.toNat]? = some (.int .i64 w) ∧ True := by
          rcases (show z = 0 ∨ z = 1 ∨ z = 2 ∨ z = 3 ∨ z = 4 by omega) with rfl | rfl | rfl | rfl | rfl <;> exact ⟨_, rfl, by trivial⟩
        obtain ⟨H9, es3, b3, g9⟩ := b3.put (o := 1) (n := 1) (y := .int .i64 w) rfl (by simp [encClip]) rfl
        simp only [splice, encClip, cells_int, List.take_succ_cons, List.take_zero, List.cons_append, List.nil_append, List.append_nil, List.length_cons, List.length_nil, List.drop_succ_cons, List.drop_zero, Nat.reduceAdd] at b3
        have X10 := b3.ld
        have x9 := x8.top g9 (by omega)
        have k9 := k8.step g9 (by omega)
        have b2 := b2.step g9 (by omega)
        obtain ⟨H10, es, dr, Y⟩ := draw_leaf (a := ⟨a.src, w, a.len⟩) k9 x9 hc b2 (Nat.le_refl _) rfl
        simp (maxSteps := 4000000) (disch := omega) only [ah, am, Nat.reduceEqDiff, reduceCtorEq, Nat.reduceAdd, Nat.reduceLeDiff, Nat.reduceMul, Nat.reduceLT, if_true, if_false, true_and, and_true, and_self, Nat.reduceBEq, QOp.loads, boxO, bslO, buildO, cutL, fillV, putL, w58, v58, X8, X9, hw, es3, X10, es, Y, Nat.mul_one, encClip]
        exact ⟨⟨a.src, w, a.len⟩, rfl, da, dr⟩
      have hb1' : decide (y = 1) = false := decide_eq_false hb1
      by_cases hb2 : y = 2
      · have hb2' : decide (y = 2) = true := decide_eq_true hb2
        have b4 := Bx.new H6 [.int .i64 (0), .int .i64 (-1), .int .i64 (10000000), .int .i64 (10000001), .int .i64 (4611686018427387904)] []
        have k6' := k6.ext (Ext.more H6 [[.int .i64 (0), .int .i64 (-1), .int .i64 (10000000), .int .i64 (10000001), .int .i64 (4611686018427387904)]])
        have x6' := x6.trans (Ext.more H6 [[.int .i64 (0), .int .i64 (-1), .int .i64 (10000000), .int .i64 (10000001), .int .i64 (4611686018427387904)]]).toX
        have b2' := b2.ext (Ext.more H6 [[.int .i64 (0), .int .i64 (-1), .int .i64 (10000000), .int .i64 (10000001), .int .i64 (4611686018427387904)]])
        have b3' := b3.ext (Ext.more H6 [[.int .i64 (0), .int .i64 (-1), .int .i64 (10000000), .int .i64 (10000001), .int .i64 (4611686018427387904)]])
        simp (maxSteps := 4000000) (disch := omega) only [ah, am, Nat.reduceEqDiff, reduceCtorEq, Nat.reduceAdd, Nat.reduceLeDiff, Nat.reduceMul, Nat.reduceLT, if_true, if_false, true_and, and_true, and_self, Nat.reduceBEq, QOp.loads, boxO, bslO, buildO, cutL, fillV, putL, w58, v58, hb0', hb1', hb2', X6, encClip]
        refine stepC.of (hcr _ k6' _) ?_
        rintro _ H8 ⟨z, rfl, z1, z2, _, g8, k8⟩
        have z3 : z < 5 := z2 (by omega)
        have h68 : H6.size < (H6.more [[.int .i64 (0), .int .i64 (-1), .int .i64 (10000000), .int .i64 (10000001), .int .i64 (4611686018427387904)]]).size := by rw [size_more]; simp
        have b4 := b4.step g8 (by have := k6.lt; omega)
        have b2 := b2'.step g8 (by omega)
        have b3 := b3'.step g8 (by omega)
        have x8 := x6'.trans g8.x
        have X8 := b4.ld
        have X9 := b3.ld
        simp only [encClip] at X9
        obtain ⟨w, hw, hw2⟩ : ∃ w : Int, ([.int .i64 (0), .int .i64 (-1), .int .i64 (10000000), .int .i64 (10000001), .int .i64 (4611686018427387904)] : List Value)[z.toNat]? = some (.int .i64 w) ∧ True := by
          rcases (show z = 0 ∨ z = 1 ∨ z = 2 ∨ z = 3 ∨ z = 4 by omega) with rfl | rfl | rfl | rfl | rfl <;> exact ⟨_, rfl, by trivial⟩
        obtain ⟨H9, es3, b3, g9⟩ := b3.put (o := 2) (n := 1) (y := .int .i64 w) rfl (by simp [encClip]) rfl
        simp only [splice, encClip, cells_int, List.take_succ_cons, List.take_zero, List.cons_append, List.nil_append, List.append_nil, List.length_cons, List.length_nil, List.drop_succ_cons, List.drop_zero, Nat.reduceAdd] at b3
        have X10 := b3.ld
        have x9 := x8.top g9 (by omega)
        have k9 := k8.step g9 (by omega)
        have b2 := b2.step g9 (by omega)
        obtain ⟨H10, es, dr, Y⟩ := draw_leaf (a := ⟨a.src, a.inn, w⟩) k9 x9 hc b2 (Nat.le_refl _) rfl
        simp (maxSteps := 4000000) (disch := omega) only [ah, am, Nat.reduceEqDiff, reduceCtorEq, Nat.reduceAdd, Nat.reduceLeDiff, Nat.reduceMul, Nat.reduceLT, if_true, if_false, true_and, and_true, and_self, Nat.reduceBEq, QOp.loads, boxO, bslO, buildO, cutL, fillV, putL, w58, v58, X8, X9, hw, es3, X10, es, Y, Nat.mul_one, encClip]
        exact ⟨⟨a.src, a.inn, w⟩, rfl, da, dr⟩
      have hb2' : decide (y = 2) = false := decide_eq_false hb2
      have hb3' : decide (y = 3) = true := decide_eq_true (by omega)
      obtain ⟨H9, es3, b3, g9⟩ := b3.put (o := 0) (n := 3) (y := .agg [.int .i64 0, .int .i64 1, .int .i64 3].toArray) rfl (by simp [encClip]) rfl
      simp only [splice, encClip, cells_agg, List.take_succ_cons, List.take_zero, List.cons_append, List.nil_append, List.append_nil, List.length_cons, List.length_nil, List.drop_succ_cons, List.drop_zero, Nat.reduceAdd] at b3
      have X10 := b3.ld
      have x9 := x6.top g9 (by omega)
      have k9 := k6.step g9 (by omega)
      have b2 := b2.step g9 (by omega)
      obtain ⟨H10, es, dr, Y⟩ := draw_leaf (a := ⟨0, 1, 3⟩) k9 x9 hc b2 (Nat.le_refl _) rfl
      simp (maxSteps := 4000000) (disch := omega) only [ah, am, Nat.reduceEqDiff, reduceCtorEq, Nat.reduceAdd, Nat.reduceLeDiff, Nat.reduceMul, Nat.reduceLT, if_true, if_false, true_and, and_true, and_self, Nat.reduceBEq, QOp.loads, boxO, bslO, buildO, cutL, fillV, putL, w58, v58, hb0', hb1', hb2', hb3', es3, X10, es, Y, encClip]
      exact ⟨⟨0, 1, 3⟩, rfl, by simp [drawn], dr⟩
  simp (maxSteps := 4000000) (disch := omega) only [ah, am, Nat.reduceEqDiff, reduceCtorEq, Nat.reduceAdd, Nat.reduceLeDiff, Nat.reduceMul, Nat.reduceLT, if_true, if_false, true_and, and_true, and_self, Nat.reduceBEq, QOp.loads, boxO, bslO, buildO, cutL, fillV, putL, w58, v58, i64w]
  generalize c58_30 = fc at tail ⊢
  by_cases hx : x1 = 0
  · have hx' : decide (x1 = 0) = true := decide_eq_true hx
    have tl := fun E => tail E ⟨x1, 0, 1 + x3⟩ (by simp [drawn]; omega)
    simp only [encClip] at tl
    simp (maxSteps := 4000000) (disch := omega) only [ah, am, Nat.reduceEqDiff, reduceCtorEq, Nat.reduceAdd, Nat.reduceLeDiff, Nat.reduceMul, Nat.reduceLT, if_true, if_false, true_and, and_true, and_self, Nat.reduceBEq, QOp.loads, boxO, bslO, buildO, cutL, fillV, putL, w58, v58, hx', encClip]
    exact tl _ rfl rfl rfl
  · have hx' : decide (x1 = 0) = false := decide_eq_false hx
    have tl := fun E => tail E ⟨x1, x2, 1 + x3⟩ (by simp [drawn]; omega)
    simp only [encClip] at tl
    simp (maxSteps := 4000000) (disch := omega) only [ah, am, Nat.reduceEqDiff, reduceCtorEq, Nat.reduceAdd, Nat.reduceLeDiff, Nat.reduceMul, Nat.reduceLT, if_true, if_false, true_and, and_true, and_self, Nat.reduceBEq, QOp.loads, boxO, bslO, buildO, cutL, fillV, putL, w58, v58, hx', encClip]
    exact tl _ rfl rfl rfl
end Go.Proofs.YtgmimgmdbpcecaaGreatDoor
end

section
namespace Go.Proofs.YtgmimgmdbpcecaaGreatDoor
open Go Go.Ah
set_option linter.unusedSimpArgs false
set_option linter.unusedVariables false
set_option maxRecDepth 10000
set_option maxHeartbeats 4000000
/-! 28 loop.example/g00066/spec.l4DrawTrack: parameters 1, live [0], slots [0:c, 1:c, 3:out, 4:n, 5:k, 6:last, 7:i] -/
def c28_0 : List SOper := [⟨some 2, .q (.mv (.c (.slice none 0 0))), none⟩]
def c28_1 : List SOper := [⟨some 8, .a (.bsl 0 3 [] []), none⟩, ⟨some 3, .q (.mv (.t 8)), none⟩]
def c28_2 : List SOper := [⟨some 9, .q (.mv (.t 0)), none⟩, ⟨some 10, .e (.call 38 [(.t 9), (.c (.int .i64 8))]), none⟩, ⟨some 4, .q (.mv (.t 10)), none⟩]
def c28_3 : List SOper := [⟨some 11, .q (.mv (.t 4)), none⟩, ⟨some 12, .q (.bin .gtr (.t 11) (.c (.int .i64 0))), none⟩]
def c28_4 : SCode := .cond (.t 12) .skip (.exit 0)
def c28_5 : SCode := .seq (.region c28_3 [0, 3, 4, 12]) c28_4
def c28_6 : List SOper := [⟨some 15, .q (.mv (.t 0)), none⟩, ⟨some 16, .e (.call 58 [(.t 15)]), none⟩, ⟨some 5, .a (.new [(.int .i64 0), (.int .i64 0), (.int .i64 0)]), none⟩, ⟨none, .e (.st 3 (.t 5) (.t 16)), none⟩]
def c28_7 : List SOper := [⟨some 17, .q (.mv (.t 3)), none⟩, ⟨some 18, .q (.len (.t 17)), none⟩, ⟨some 19, .q (.bin .gtr (.t 18) (.c (.int .i64 0))), none⟩, ⟨some 20, .q (.mv (.t 19)), none⟩, ⟨some 21, .q (.mv (.t 0)), some (20, true)⟩, ⟨some 22, .e (.call 29 [(.t 21), (.c (.int .i64 5))]), some (20, true)⟩, ⟨some 23, .q (.pick (.t 20) (.t 22) (.c (.bool false))), none⟩]
def c28_8 : List SOper := [⟨some 24, .q (.mv (.t 3)), none⟩, ⟨some 25, .q (.mv (.t 3)), none⟩, ⟨some 26, .q (.len (.t 25)), none⟩, ⟨some 27, .q (.bin .sub (.t 26) (.c (.int .i64 1))), none⟩, ⟨some 28, .q (.ia 3 (.t 24) (.t 27)), none⟩, ⟨some 29, .q (.ldn 3 (.t 28)), none⟩, ⟨some 6, .a (.new [(.int .i64 0), (.int .i64 0), (.int .i64 0)]), none⟩, ⟨none, .e (.st 3 (.t 6) (.t 29)), none⟩]
def c28_9 : List SOper := [⟨some 30, .q (.fa 0 (.t 6)), none⟩, ⟨some 31, .q (.ld (.t 30)), none⟩, ⟨some 32, .q (.fa 0 (.t 5)), none⟩, ⟨none, .e (.st 1 (.t 32) (.t 31)), none⟩]
def c28_10 : List SOper := [⟨some 33, .q (.fa 1 (.t 6)), none⟩, ⟨some 34, .q (.ld (.t 33)), none⟩, ⟨some 35, .q (.fa 2 (.t 6)), none⟩, ⟨some 36, .q (.ld (.t 35)), none⟩, ⟨some 37, .q (.bin .add (.t 34) (.t 36)), none⟩, ⟨some 38, .q (.fa 1 (.t 5)), none⟩, ⟨none, .e (.st 1 (.t 38) (.t 37)), none⟩]
def c28_11 : List SOper := [⟨some 39, .q (.fa 0 (.t 5)), none⟩, ⟨some 40, .q (.ld (.t 39)), none⟩, ⟨some 41, .q (.bin .eql (.t 40) (.c (.int .i64 0))), none⟩]
def c28_12 : List SOper := [⟨some 42, .q (.fa 1 (.t 5)), none⟩, ⟨none, .e (.st 1 (.t 42) (.c (.int .i64 0))), none⟩]
def c28_13 : SCode := .cond (.t 41) (.region c28_12 [0, 3, 4, 5]) .skip
def c28_14 : SCode := .seq (.region c28_11 [0, 3, 4, 5, 41]) c28_13
def c28_15 : SCode := .seq (.region c28_10 [0, 3, 4, 5]) c28_14
def c28_16 : SCode := .seq (.region c28_9 [0, 3, 4, 5, 6]) c28_15
def c28_17 : SCode := .seq (.region c28_8 [0, 3, 4, 5, 6]) c28_16
def c28_18 : SCode := .cond (.t 23) c28_17 .skip
def c28_19 : SCode := .seq (.region c28_7 [0, 3, 4, 5, 23]) c28_18
def c28_20 : List SOper := [⟨some 43, .q (.mv (.t 3)), none⟩, ⟨some 44, .q (.ldn 3 (.t 5)), none⟩, ⟨some 45, .a (.bsl 1 3 [(.int .i64 0), (.int .i64 0), (.int .i64 0)] [(0, 3, (.t 44))]), none⟩, ⟨some 46, .e (.app 24 3 (.t 43) (.t 45)), none⟩, ⟨some 3, .q (.mv (.t 46)), none⟩]
def c28_21 : SCode := .seq c28_19 (.region c28_20 [0, 3, 4])
def c28_22 : SCode := .seq (.region c28_6 [0, 3, 4, 5]) c28_21
def c28_23 : SCode := .block 1 c28_22
def c28_24 : List SOper := [⟨some 13, .q (.mv (.t 4)), none⟩, ⟨some 14, .q (.bin .sub (.t 13) (.c (.int .i64 1))), none⟩, ⟨some 4, .q (.mv (.t 14)), none⟩]
def c28_25 : SCode := .seq c28_23 (.region c28_24 [0, 3, 4])
def c28_26 : SCode := .seq c28_5 c28_25
def c28_27 : SCode := .loop c28_26
def c28_28 : SCode := .block 0 c28_27
def c28_29 : SCode := .seq (.region c28_2 [0, 3, 4]) c28_28
def c28_30 : List SOper := [⟨some 47, .q (.mv (.t 0)), none⟩, ⟨some 48, .e (.call 29 [(.t 47), (.c (.int .i64 60))]), none⟩]
def c28_31 : List SOper := [⟨some 49, .a (.bsl 0 3 [] []), none⟩, ⟨some 3, .q (.mv (.t 49)), none⟩]
def c28_32 : List SOper := [⟨some 7, .q (.mv (.c (.int .i64 0))), none⟩]
def c28_33 : List SOper := [⟨some 50, .q (.mv (.t 7)), none⟩, ⟨some 51, .q (.mv (.t 0)), none⟩, ⟨some 52, .e (.call 38 [(.t 51), (.c (.int .i64 2))]), none⟩, ⟨some 53, .q (.bin .add (.c (.int .i64 300)) (.t 52)), none⟩, ⟨some 54, .q (.bin .lss (.t 50) (.t 53)), none⟩]
def c28_34 : SCode := .cond (.t 54) .skip (.exit 2)
def c28_35 : SCode := .seq (.region c28_33 [0, 3, 7, 54]) c28_34
def c28_36 : List SOper := [⟨some 57, .q (.mv (.t 3)), none⟩, ⟨some 58, .q (.mv (.t 7)), none⟩, ⟨some 59, .q (.bin .rem (.t 58) (.c (.int .i64 2))), none⟩, ⟨some 60, .q (.bin .add (.c (.int .i64 1)) (.t 59)), none⟩, ⟨some 61, .q (.mv (.t 7)), none⟩, ⟨some 62, .q (.build [(.int .i64 0), (.int .i64 0), (.int .i64 0)] [(0, 1, (.t 60)), (1, 1, (.t 61)), (2, 1, (.c (.int .i64 1)))]), none⟩, ⟨some 63, .a (.bsl 1 3 [(.int .i64 0), (.int .i64 0), (.int .i64 0)] [(0, 3, (.t 62))]), none⟩, ⟨some 64, .e (.app 24 3 (.t 57) (.t 63)), none⟩, ⟨some 3, .q (.mv (.t 64)), none⟩]
def c28_37 : SCode := .block 3 (.region c28_36 [0, 3, 7])
def c28_38 : List SOper := [⟨some 55, .q (.mv (.t 7)), none⟩, ⟨some 56, .q (.bin .add (.t 55) (.c (.int .i64 1))), none⟩, ⟨some 7, .q (.mv (.t 56)), none⟩]
def c28_39 : SCode := .seq c28_37 (.region c28_38 [0, 3, 7])
def c28_40 : SCode := .seq c28_35 c28_39
def c28_41 : SCode := .loop c28_40
def c28_42 : SCode := .block 2 c28_41
def c28_43 : SCode := .seq (.region c28_32 [0, 3, 7]) c28_42
def c28_44 : SCode := .seq (.region c28_31 [0, 3]) c28_43
def c28_45 : SCode := .cond (.t 48) c28_44 .skip
def c28_46 : SCode := .seq (.region c28_30 [0, 3, 48]) c28_45
def c28_47 : List SOper := [⟨some 65, .q (.mv (.t 3)), none⟩, ⟨some 2, .q (.mv (.t 65)), none⟩]
def c28_48 : SCode := .seq (.region c28_47 [2]) .ret
def c28_49 : SCode := .seq c28_46 c28_48
def c28_50 : SCode := .seq c28_29 c28_49
def c28_51 : SCode := .seq (.region c28_1 [0, 3]) c28_50
def c28_52 : SCode := .seq (.region c28_0 [0]) c28_51
def c28 : SCode := c28_52
theorem w28 : type_of% (And.intro (uR Tryz.prog c28_0.eq_1) (And.intro (uR Tryz.prog c28_1.eq_1) (And.intro (uR Tryz.prog c28_2.eq_1) (And.intro (uR Tryz.prog c28_3.eq_1) (And.intro (uC Tryz.prog c28_4.eq_1) (And.intro (uC Tryz.prog c28_5.eq_1) (And.intro (uR Tryz.prog c28_6.eq_1) (And.intro (uR Tryz.prog c28_7.eq_1) (And.intro (uR Tryz.prog c28_8.eq_1) (And.intro (uR Tryz.prog c28_9.eq_1) (And.intro (uR Tryz.prog c28_10.eq_1) (And.intro (uR Tryz.prog c28_11.eq_1) (And.intro (uR Tryz.prog c28_12.eq_1) (And.intro (uC Tryz.prog c28_13.eq_1) (And.intro (uC Tryz.prog c28_14.eq_1) (And.intro (uC Tryz.prog c28_15.eq_1) (And.intro (uC Tryz.prog c28_16.eq_1) (And.intro (uC Tryz.prog c28_17.eq_1) (And.intro (uC Tryz.prog c28_18.eq_1) (And.intro (uC Tryz.prog c28_19.eq_1) (And.intro (uR Tryz.prog c28_20.eq_1) (And.intro (uC Tryz.prog c28_21.eq_1) (And.intro (uC Tryz.prog c28_22.eq_1) (And.intro (uC Tryz.prog c28_23.eq_1) (And.intro (uR Tryz.prog c28_24.eq_1) (And.intro (uC Tryz.prog c28_25.eq_1) (And.intro (uC Tryz.prog c28_26.eq_1) (And.intro (uC Tryz.prog c28_27.eq_1) (And.intro (uC Tryz.prog c28_28.eq_1) (And.intro (uC Tryz.prog c28_29.eq_1) (And.intro (uR Tryz.prog c28_30.eq_1) (And.intro (uR Tryz.prog c28_31.eq_1) (And.intro (uR Tryz.prog c28_32.eq_1) (And.intro (uR Tryz.prog c28_33.eq_1) (And.intro (uC Tryz.prog c28_34.eq_1) (And.intro (uC Tryz.prog c28_35.eq_1) (And.intro (uR Tryz.prog c28_36.eq_1) (And.intro (uC Tryz.prog c28_37.eq_1) (And.intro (uR Tryz.prog c28_38.eq_1) (And.intro (uC Tryz.prog c28_39.eq_1) (And.intro (uC Tryz.prog c28_40.eq_1) (And.intro (uC Tryz.prog c28_41.eq_1) (And.intro (uC Tryz.prog c28_42.eq_1) (And.intro (uC Tryz.prog c28_43.eq_1) (And.intro (uC Tryz.prog c28_44.eq_1) (And.intro (uC Tryz.prog c28_45.eq_1) (And.intro (uC Tryz.prog c28_46.eq_1) (And.intro (uR Tryz.prog c28_47.eq_1) (And.intro (uC Tryz.prog c28_48.eq_1) (And.intro (uC Tryz.prog c28_49.eq_1) (And.intro (uC Tryz.prog c28_50.eq_1) (And.intro (uC Tryz.prog c28_51.eq_1) (And.intro (uC Tryz.prog c28_52.eq_1) (uC Tryz.prog c28.eq_1)))))))))))))))))))))))))))))))))))))))))))))))))))))) := (And.intro (uR Tryz.prog c28_0.eq_1) (And.intro (uR Tryz.prog c28_1.eq_1) (And.intro (uR Tryz.prog c28_2.eq_1) (And.intro (uR Tryz.prog c28_3.eq_1) (And.intro (uC Tryz.prog c28_4.eq_1) (And.intro (uC Tryz.prog c28_5.eq_1) (And.intro (uR Tryz.prog c28_6.eq_1) (And.intro (uR Tryz.prog c28_7.eq_1) (And.intro (uR Tryz.prog c28_8.eq_1) (And.intro (uR Tryz.prog c28_9.eq_1) (And.intro (uR Tryz.prog c28_10.eq_1) (And.intro (uR Tryz.prog c28_11.eq_1) (And.intro (uR Tryz.prog c28_12.eq_1) (And.intro (uC Tryz.prog c28_13.eq_1) (And.intro (uC Tryz.prog c28_14.eq_1) (And.intro (uC Tryz.prog c28_15.eq_1) (And.intro (uC Tryz.prog c28_16.eq_1) (And.intro (uC Tryz.prog c28_17.eq_1) (And.intro (uC Tryz.prog c28_18.eq_1) (And.intro (uC Tryz.prog c28_19.eq_1) (And.intro (uR Tryz.prog c28_20.eq_1) (And.intro (uC Tryz.prog c28_21.eq_1) (And.intro (uC Tryz.prog c28_22.eq_1) (And.intro (uC Tryz.prog c28_23.eq_1) (And.intro (uR Tryz.prog c28_24.eq_1) (And.intro (uC Tryz.prog c28_25.eq_1) (And.intro (uC Tryz.prog c28_26.eq_1) (And.intro (uC Tryz.prog c28_27.eq_1) (And.intro (uC Tryz.prog c28_28.eq_1) (And.intro (uC Tryz.prog c28_29.eq_1) (And.intro (uR Tryz.prog c28_30.eq_1) (And.intro (uR Tryz.prog c28_31.eq_1) (And.intro (uR Tryz.prog c28_32.eq_1) (And.intro (uR Tryz.prog c28_33.eq_1) (And.intro (uC Tryz.prog c28_34.eq_1) (And.intro (uC Tryz.prog c28_35.eq_1) (And.intro (uR Tryz.prog c28_36.eq_1) (And.intro (uC Tryz.prog c28_37.eq_1) (And.intro (uR Tryz.prog c28_38.eq_1) (And.intro (uC Tryz.prog c28_39.eq_1) (And.intro (uC Tryz.prog c28_40.eq_1) (And.intro (uC Tryz.prog c28_41.eq_1) (And.intro (uC Tryz.prog c28_42.eq_1) (And.intro (uC Tryz.prog c28_43.eq_1) (And.intro (uC Tryz.prog c28_44.eq_1) (And.intro (uC Tryz.prog c28_45.eq_1) (And.intro (uC Tryz.prog c28_46.eq_1) (And.intro (uR Tryz.prog c28_47.eq_1) (And.intro (uC Tryz.prog c28_48.eq_1) (And.intro (uC Tryz.prog c28_49.eq_1) (And.intro (uC Tryz.prog c28_50.eq_1) (And.intro (uC Tryz.prog c28_51.eq_1) (And.intro (uC Tryz.prog c28_52.eq_1) (uC Tryz.prog c28.eq_1))))))))))))))))))))))))))))))))))))))))))))))))))))))
def v28 : List RV := [.t 2]
theorem s28 : slimF Tryz.prog Tryz.f28 = some (c28.bare, v28) := by kernel_rfl

def drawnL (l : List Clip) : Prop := (∀ k ∈ l, drawn k) ∧ l.length ≤ 301
def stayC (b a : Clip) : Clip := ⟨b.src, if b.src = 0 then 0 else IntKind.i64.wrap (b.inn + b.len), a.len⟩
def manyC (i : Nat) : Clip := ⟨1 + (i : Int).tmod 2, i, 1⟩
theorem l4DrawTrack_ok (h : Heap) (c : Nat) (k : Cur h c) : ACall Tryz.prog 28 [.pointer (some ⟨c, 0, none⟩)] h fun r h' => ∃ l, Fk [c] h h' encClip 3 r l [] ∧ Cur h' c ∧ drawnL l := by
  refine ACall.of Tryz.func28 s28 (of_decide_eq_true rfl) ?_
  have hc := k.lt
  have hm : c ∈ [c] := by simp
  simp (maxSteps := 4000000) (disch := omega) only [ah, am, Nat.reduceEqDiff, reduceCtorEq, Nat.reduceAdd, Nat.reduceLeDiff, Nat.reduceMul, Nat.reduceLT, if_true, if_false, true_and, and_true, and_self, Nat.reduceBEq, QOp.loads, boxO, bslO, buildO, cutL, fillV, putL, w28, v28]
  refine stepC.of (l1Below_ok _ _ _ (k.ext (Ext.more h [[]]))) ?_
  rintro _ H1 ⟨n0, rfl, n1, n2, _, g1, k1⟩
  have n3 : n0 < 8 := n2 (by omega)
  have F0 : Fk [c] h H1 encClip 3 (.slice (some ⟨h.size, 0, none⟩) 0 3) ([] : List Clip) [] := (Fk.of (Fresh.new0 h encClip_len (by omega))).stepG g1 hm hc
  simp (maxSteps := 4000000) (disch := omega) only [ah, am, Nat.reduceEqDiff, reduceCtorEq, Nat.reduceAdd, Nat.reduceLeDiff, Nat.reduceMul, Nat.reduceLT, if_true, if_false, true_and, and_true, and_self, Nat.reduceBEq, QOp.loads, boxO, bslO, buildO, cutL, fillV, putL, w28, v28]
  refine SW_loop_up (fun i E H => ∃ ov l, E = [(0, .pointer (some ⟨c, 0, none⟩)), (3, ov), (4, .int .i64 (n0 - i))] ∧ Fk [c] h H encClip 3 ov l [] ∧ Cur H c ∧ (∀ k ∈ l, drawn k) ∧ l.length ≤ i) n0.toNat 0 (by omega)
    ⟨.slice (some ⟨h.size, 0, none⟩) 0 3, [], by simp, F0, k1, by simp, by simp⟩ ?_
  rintro i E H hi ⟨ov, l, rfl, F, kH, A, hl⟩
  simp (maxSteps := 4000000) (disch := omega) only [ah, am, Nat.reduceEqDiff, reduceCtorEq, Nat.reduceAdd, Nat.reduceLeDiff, Nat.reduceMul, Nat.reduceLT, if_true, if_false, true_and, and_true, and_self, Nat.reduceBEq, QOp.loads, boxO, bslO, buildO, cutL, fillV, putL, w28, v28]
  refine stepI.split (fun hp => ?_) (fun hp => ?_)
  · have W : IntKind.i64.wrap (n0 - (i : Int) - 1) = n0 - ((i + 1 : Nat) : Int) := i64e (by omega) (by omega)
    have A2 : ∀ a : Clip, drawn a → ∀ k ∈ l ++ [a], drawn k := by
      intro a da k hk
      simp only [List.mem_append, List.mem_singleton] at hk
      rcases hk with hk | rfl
      · exact A k hk
      · exact da
    simp (maxSteps := 4000000) (disch := omega) only [ah, am, Nat.reduceEqDiff, reduceCtorEq, Nat.reduceAdd, Nat.reduceLeDiff, Nat.reduceMul, Nat.reduceLT, if_true, if_false, true_and, and_true, and_self, Nat.reduceBEq, QOp.loads, boxO, bslO, buildO, cutL, fillV, putL, w28, v28]
    refine stepC.of (l4DrawClip_ok _ _ kH) ?_
    rintro _ H2 ⟨a, rfl, da, g2, k2⟩
    have F2 := F.stepG g2 hm hc
    have R := F2.slt.rules
    by_cases h0 : l.length = 0
    · have h0' : decide (0 < (l.length : Int)) = false := decide_eq_false (by omega)
      obtain ⟨v2, H3, ea, F3, g, hg, G⟩ := F2.app1g [encClip a] a (bytes := 24) (by omega)
      simp only [boxesAt, List.cons_append, List.append_nil, List.nil_append, List.length_nil, List.length_cons, Nat.zero_add, Nat.add_zero, encClip] at ea G
      simp (maxSteps := 4000000) (disch := omega) only [ah, am, Nat.reduceEqDiff, reduceCtorEq, Nat.reduceAdd, Nat.reduceLeDiff, Nat.reduceMul, Nat.reduceLT, if_true, if_false, true_and, and_true, and_self, Nat.reduceBEq, QOp.loads, boxO, bslO, buildO, cutL, fillV, putL, w28, v28, R, h0', ea, W, encClip]
      exact ⟨by omega, _, l ++ [a], rfl, F3.bare, (k2.ext (Ext.more _ _)).step G (by omega), A2 a da, by simp; omega⟩
    · have h0' : decide (0 < (l.length : Int)) = true := decide_eq_true (by omega)
      have F3 : Fk [c] h (H2.more [encClip a]) encClip 3 ov l [(H2.size, encClip a)] := F2.more [encClip a]
      have k3 := k2.ext (Ext.more H2 [encClip a])
      have R3 := F3.slt.rules
      have on := l1Once_ok (H2.more [encClip a]) c 5 k3
      simp only [encClip] at on R3
      simp (maxSteps := 4000000) (disch := omega) only [ah, am, Nat.reduceEqDiff, reduceCtorEq, Nat.reduceAdd, Nat.reduceLeDiff, Nat.reduceMul, Nat.reduceLT, if_true, if_false, true_and, and_true, and_self, Nat.reduceBEq, QOp.loads, boxO, bslO, buildO, cutL, fillV, putL, w28, v28, R3, h0', encClip]
      refine stepC.of on ?_
      rintro _ H4 ⟨b, rfl, g4, k4⟩
      have F4 := F3.stepG g4 hm hc
      have X4 := F4.ld (i := H2.size) (cs := encClip a) (by simp)
      simp only [encClip] at X4
      cases b with
      | false =>
        obtain ⟨v2, H5, ea, F5, g, hg, G⟩ := F4.app1g [] a (bytes := 24) (by omega)
        simp only [boxesAt, List.cons_append, List.append_nil, List.nil_append, List.length_nil, List.length_cons, Nat.zero_add, Nat.add_zero, encClip] at ea G
        simp (maxSteps := 4000000) (disch := omega) only [ah, am, Nat.reduceEqDiff, reduceCtorEq, Nat.reduceAdd, Nat.reduceLeDiff, Nat.reduceMul, Nat.reduceLT, if_true, if_false, true_and, and_true, and_self, Nat.reduceBEq, QOp.loads, boxO, bslO, buildO, cutL, fillV, putL, w28, v28, X4, h0', ea, W, encClip]
        exact ⟨by omega, _, l ++ [a], rfl, F5.bare, (k4.ext (Ext.more _ _)).step G (by omega), A2 a da, by simp; omega⟩
      | true =>
        have hl1 : l.length - 1 < l.length := by omega
        have hin := List.getElem_mem hl1
        have db := A _ hin
        have W4 : IntKind.i64.wrap ((l.length : Int) - 1) = (l.length : Int) - 1 := i64w (by omega)
        have T : ((l.length : Int) - 1).toNat = l.length - 1 := by omega
        have R4 := F4.slt.rules
        have F5 : Fk [c] h (H4.more [encClip l[l.length - 1]]) encClip 3 ov l [(H2.size, encClip a), (H4.size, encClip l[l.length - 1])] := F4.more [encClip l[l.length - 1]]
        have hne : H2.size ≠ H4.size := by have := Heap.get_lt (F4.box (H2.size, encClip a) (by simp)).2; simp only at this; omega
        have k5 := k4.ext (Ext.more H4 [encClip l[l.length - 1]])
        obtain ⟨H6, es1, F6, G6, q6⟩ := F5.put2 hne (o := 0) (n := 1) (y := .int .i64 (l[l.length - 1]).src) rfl (by simp [encClip]) rfl
        simp only [splice, cells_int, encClip, List.take_succ_cons, List.take_zero, List.cons_append, List.nil_append, List.append_nil, List.length_cons, List.length_nil, List.drop_succ_cons, List.drop_zero, Nat.reduceAdd] at F6 es1
        have k6 := k5.step G6 (by omega)
        have X6a := F6.ld (i := H2.size) (List.mem_cons_self ..)
        have X6b := F6.ld (i := H4.size) (List.mem_cons_of_mem _ (List.mem_cons_self ..))
        obtain ⟨H7, es2, F7, G7, q7⟩ := F6.put2 hne (o := 1) (n := 1) (y := .int .i64 (IntKind.i64.wrap ((l[l.length - 1]).inn + (l[l.length - 1]).len))) rfl (by simp) rfl
        simp only [splice, cells_int, encClip, List.take_succ_cons, List.take_zero, List.cons_append, List.nil_append, List.append_nil, List.length_cons, List.length_nil, List.drop_succ_cons, List.drop_zero, Nat.reduceAdd] at F7 es2
        have k7 := k6.step G7 (by omega)
        have X7a := F7.ld (i := H2.size) (List.mem_cons_self ..)
        have X7b := F7.ld (i := H4.size) (List.mem_cons_of_mem _ (List.mem_cons_self ..))
        have R5 := F5.slt.rules
        simp only [encClip] at R5
        by_cases hs : (l[l.length - 1]).src = 0
        · have hs' : decide ((l[l.length - 1]).src = 0) = true := decide_eq_true hs
          obtain ⟨H8, es3, F8, G8, q8⟩ := F7.put2 hne (o := 1) (n := 1) (y := .int .i64 0) rfl (by simp) rfl
          simp only [splice, cells_int, encClip, List.take_succ_cons, List.take_zero, List.cons_append, List.nil_append, List.append_nil, List.length_cons, List.length_nil, List.drop_succ_cons, List.drop_zero, Nat.reduceAdd] at F8 es3
          have k8 := k7.step G8 (by omega)
          have X8a := F8.ld (i := H2.size) (List.mem_cons_self ..)
          obtain ⟨v2, H9, ea, F9, g, hg, G⟩ := F8.app1g [] ⟨(l[l.length - 1]).src, 0, a.len⟩ (bytes := 24) (by omega)
          simp only [boxesAt, List.cons_append, List.append_nil, List.nil_append, List.length_nil, List.length_cons, Nat.zero_add, Nat.add_zero, encClip] at ea G
          simp (maxSteps := 4000000) (disch := omega) only [ah, am, Nat.reduceEqDiff, reduceCtorEq, Nat.reduceAdd, Nat.reduceLeDiff, Nat.reduceMul, Nat.reduceLT, if_true, if_false, true_and, and_true, and_self, Nat.reduceBEq, QOp.loads, boxO, bslO, buildO, cutL, fillV, putL, w28, v28, X4, X6a, X6b, X7a, X7b, X8a, R4, R5, h0', hs', es1, es2, es3, ea, W, W4, T, encClip]
          exact ⟨by omega, _, l ++ [⟨(l[l.length - 1]).src, 0, a.len⟩], rfl, F9.bare, (k8.ext (Ext.more _ _)).step G (by omega), A2 _ db, by simp; omega⟩
        · have hs' : decide ((l[l.length - 1]).src = 0) = false := decide_eq_false hs
          obtain ⟨v2, H9, ea, F9, g, hg, G⟩ := F7.app1g [] ⟨(l[l.length - 1]).src, IntKind.i64.wrap ((l[l.length - 1]).inn + (l[l.length - 1]).len), a.len⟩ (bytes := 24) (by omega)
          simp only [boxesAt, List.cons_append, List.append_nil, List.nil_append, List.length_nil, List.length_cons, Nat.zero_add, Nat.add_zero, encClip] at ea G
          simp (maxSteps := 4000000) (disch := omega) only [ah, am, Nat.reduceEqDiff, reduceCtorEq, Nat.reduceAdd, Nat.reduceLeDiff, Nat.reduceMul, Nat.reduceLT, if_true, if_false, true_and, and_true, and_self, Nat.reduceBEq, QOp.loads, boxO, bslO, buildO, cutL, fillV, putL, w28, v28, X4, X6a, X6b, X7a, X7b, R4, R5, h0', hs', es1, es2, ea, W, W4, T, encClip]
          exact ⟨by omega, _, l ++ [⟨(l[l.length - 1]).src, IntKind.i64.wrap ((l[l.length - 1]).inn + (l[l.length - 1]).len), a.len⟩], rfl, F9.bare, (k7.ext (Ext.more _ _)).step G (by omega), A2 _ db, by simp; omega⟩
  · simp (maxSteps := 4000000) (disch := omega) only [ah, am, Nat.reduceEqDiff, reduceCtorEq, Nat.reduceAdd, Nat.reduceLeDiff, Nat.reduceMul, Nat.reduceLT, if_true, if_false, true_and, and_true, and_self, Nat.reduceBEq, QOp.loads, boxO, bslO, buildO, cutL, fillV, putL, w28, v28]
    refine stepC.of (l1Once_ok _ _ _ kH) ?_
    rintro _ H2 ⟨b, rfl, g2, k2⟩
    have F2 := F.stepG g2 hm hc
    cases b with
    | false =>
      simp (maxSteps := 4000000) (disch := omega) only [ah, am, Nat.reduceEqDiff, reduceCtorEq, Nat.reduceAdd, Nat.reduceLeDiff, Nat.reduceMul, Nat.reduceLT, if_true, if_false, true_and, and_true, and_self, Nat.reduceBEq, QOp.loads, boxO, bslO, buildO, cutL, fillV, putL, w28, v28]
      exact ⟨l, F2, k2, A, by omega⟩
    | true =>
      simp (maxSteps := 4000000) (disch := omega) only [ah, am, Nat.reduceEqDiff, reduceCtorEq, Nat.reduceAdd, Nat.reduceLeDiff, Nat.reduceMul, Nat.reduceLT, if_true, if_false, true_and, and_true, and_self, Nat.reduceBEq, QOp.loads, boxO, bslO, buildO, cutL, fillV, putL, w28, v28]
      have F3 : Fk [c] h (H2.more [[]]) encClip 3 (.slice (some ⟨H2.size, 0, none⟩) 0 3) ([] : List Clip) [] := (Fk.of (Fresh.new0 H2 encClip_len (by omega))).mono F2.ext
      refine SW_loop_up (fun i E H => ∃ ov l, E = [(0, .pointer (some ⟨c, 0, none⟩)), (3, ov), (7, .int .i64 i)] ∧ Fk [c] h H encClip 3 ov l [] ∧ Cur H c ∧ (∀ k ∈ l, drawn k) ∧ l.length ≤ i) 301 0 (by omega)
        ⟨.slice (some ⟨H2.size, 0, none⟩) 0 3, [], by simp, F3, k2.ext (Ext.more _ _), by simp, by simp⟩ ?_
      rintro i E H hi ⟨ov, l, rfl, F, kH, A, hl⟩
      simp (maxSteps := 4000000) (disch := omega) only [ah, am, Nat.reduceEqDiff, reduceCtorEq, Nat.reduceAdd, Nat.reduceLeDiff, Nat.reduceMul, Nat.reduceLT, if_true, if_false, true_and, and_true, and_self, Nat.reduceBEq, QOp.loads, boxO, bslO, buildO, cutL, fillV, putL, w28, v28]
      refine stepC.of (l1Below_ok _ _ _ kH) ?_
      rintro _ H3 ⟨x, rfl, x1, x2, _, g3, k3⟩
      have x3 : x < 2 := x2 (by omega)
      have F3 := F.stepG g3 hm hc
      simp (maxSteps := 4000000) (disch := omega) only [ah, am, Nat.reduceEqDiff, reduceCtorEq, Nat.reduceAdd, Nat.reduceLeDiff, Nat.reduceMul, Nat.reduceLT, if_true, if_false, true_and, and_true, and_self, Nat.reduceBEq, QOp.loads, boxO, bslO, buildO, cutL, fillV, putL, w28, v28, i64w]
      refine stepI.split (fun hq => ?_) (fun hq => ?_)
      · have W : IntKind.i64.wrap ((i : Int) + 1) = ((i + 1 : Nat) : Int) := i64e (by omega) (by omega)
        have M1 : 0 ≤ (i : Int).tmod 2 := Int.tmod_nonneg _ (by omega)
        have M2 : (i : Int).tmod 2 < 2 := Int.tmod_lt_of_pos _ (by omega)
        obtain ⟨v2, H4, ea, F4, g, hg, G⟩ := F3.app1g [] (manyC i) (bytes := 24) (by omega)
        simp only [manyC] at ea
        simp only [boxesAt, List.cons_append, List.append_nil, List.nil_append, List.length_nil, List.length_cons, Nat.zero_add, Nat.add_zero, encClip] at ea G
        have n2 : (2 : Int) ≠ 0 := by omega
        simp (maxSteps := 4000000) (disch := omega) only [ah, am, Nat.reduceEqDiff, reduceCtorEq, Nat.reduceAdd, Nat.reduceLeDiff, Nat.reduceMul, Nat.reduceLT, if_true, if_false, true_and, and_true, and_self, Nat.reduceBEq, QOp.loads, boxO, bslO, buildO, cutL, fillV, putL, w28, v28, n2, ne_eq, i64w, ea, W]
        refine ⟨by omega, _, l ++ [manyC i], rfl, F4.bare, (k3.ext (Ext.more _ _)).step G (by omega), ?_, by simp; omega⟩
        intro k hk
        simp only [List.mem_append, List.mem_singleton] at hk
        rcases hk with hk | rfl
        · exact A k hk
        · simp only [drawn, manyC]; omega
      · simp (maxSteps := 4000000) (disch := omega) only [ah, am, Nat.reduceEqDiff, reduceCtorEq, Nat.reduceAdd, Nat.reduceLeDiff, Nat.reduceMul, Nat.reduceLT, if_true, if_false, true_and, and_true, and_self, Nat.reduceBEq, QOp.loads, boxO, bslO, buildO, cutL, fillV, putL, w28, v28]
        exact ⟨l, F3, k3, A, by omega⟩
end Go.Proofs.YtgmimgmdbpcecaaGreatDoor
end

section
namespace Go.Proofs.YtgmimgmdbpcecaaGreatDoor
open Go Go.Ah
set_option linter.unusedSimpArgs false
set_option linter.unusedVariables false
set_option maxRecDepth 10000
set_option maxHeartbeats 4000000
/-! 22 strings.HasSuffix: parameters 2, live [0, 1], slots [0:s, 1:suffix, 2:s, 3:suffix] -/
def c22_0 : List SOper := [⟨some 4, .q (.mv (.c (.bool false))), none⟩]
def c22_1 : List SOper := [⟨some 5, .q (.mv (.t 0)), none⟩, ⟨some 6, .q (.mv (.t 1)), none⟩, ⟨some 7, .e (.call 48 [(.t 5), (.t 6)]), none⟩, ⟨some 4, .q (.mv (.t 7)), none⟩]
def c22_2 : SCode := .seq (.region c22_1 [4]) .ret
def c22_3 : SCode := .seq (.region c22_0 [0, 1]) c22_2
def c22 : SCode := c22_3
theorem w22 : type_of% (And.intro (uR Tryz.prog c22_0.eq_1) (And.intro (uR Tryz.prog c22_1.eq_1) (And.intro (uC Tryz.prog c22_2.eq_1) (And.intro (uC Tryz.prog c22_3.eq_1) (uC Tryz.prog c22.eq_1))))) := (And.intro (uR Tryz.prog c22_0.eq_1) (And.intro (uR Tryz.prog c22_1.eq_1) (And.intro (uC Tryz.prog c22_2.eq_1) (And.intro (uC Tryz.prog c22_3.eq_1) (uC Tryz.prog c22.eq_1)))))
def v22 : List RV := [.t 4]
theorem s22 : slimF Tryz.prog Tryz.f22 = some (c22.bare, v22) := by kernel_rfl
/-! 48 internal/stringslite.HasSuffix: parameters 2, live [0, 1], slots [0:s, 1:suffix, 2:s, 3:suffix] -/
def c48_0 : List SOper := [⟨some 4, .q (.mv (.c (.bool false))), none⟩]
def c48_1 : List SOper := [⟨some 5, .q (.mv (.t 0)), none⟩, ⟨some 6, .q (.lens (.t 5)), none⟩, ⟨some 7, .q (.mv (.t 1)), none⟩, ⟨some 8, .q (.lens (.t 7)), none⟩, ⟨some 9, .q (.bin .geq (.t 6) (.t 8)), none⟩, ⟨some 10, .q (.mv (.t 9)), none⟩, ⟨some 11, .q (.mv (.t 0)), some (10, true)⟩, ⟨some 12, .q (.mv (.t 0)), some (10, true)⟩, ⟨some 13, .q (.lens (.t 12)), some (10, true)⟩, ⟨some 14, .q (.mv (.t 1)), some (10, true)⟩, ⟨some 15, .q (.lens (.t 14)), some (10, true)⟩, ⟨some 16, .q (.bin .sub (.t 13) (.t 15)), some (10, true)⟩, ⟨some 17, .q (.sls (.t 11) (some (.t 16)) none), some (10, true)⟩, ⟨some 18, .q (.mv (.t 1)), some (10, true)⟩, ⟨some 19, .q (.bin .eql (.t 17) (.t 18)), some (10, true)⟩, ⟨some 20, .q (.pick (.t 10) (.t 19) (.c (.bool false))), none⟩, ⟨some 4, .q (.mv (.t 20)), none⟩]
def c48_2 : SCode := .seq (.region c48_1 [4]) .ret
def c48_3 : SCode := .seq (.region c48_0 [0, 1]) c48_2
def c48 : SCode := c48_3
theorem w48 : type_of% (And.intro (uR Tryz.prog c48_0.eq_1) (And.intro (uR Tryz.prog c48_1.eq_1) (And.intro (uC Tryz.prog c48_2.eq_1) (And.intro (uC Tryz.prog c48_3.eq_1) (uC Tryz.prog c48.eq_1))))) := (And.intro (uR Tryz.prog c48_0.eq_1) (And.intro (uR Tryz.prog c48_1.eq_1) (And.intro (uC Tryz.prog c48_2.eq_1) (And.intro (uC Tryz.prog c48_3.eq_1) (uC Tryz.prog c48.eq_1)))))
def v48 : List RV := [.t 4]
theorem s48 : slimF Tryz.prog Tryz.f48 = some (c48.bare, v48) := by kernel_rfl

theorem last_one (l : List UInt8) (c : UInt8) : l.drop (l.length - 1) = [c] ↔ l.getLast? = some c := by
  rcases List.eq_nil_or_concat l with rfl | ⟨a, b, rfl⟩
  · simp
  · rw [List.concat_eq_append]
    have h1 : (a ++ [b]).length - 1 = a.length := by simp
    rw [h1, List.drop_left, List.getLast?_append]
    simp
theorem slHasSuffix_ok (h : Heap) (l : List UInt8) (c : UInt8) (hl : l.length ≤ 1000000) : ACall Tryz.prog 48 [.string (bL l), .string (bL [c])] h fun r h' => h' = h ∧ r = .bool (decide (l.getLast? = some c)) := by
  have hsz : (bL l).size = l.length := bL_size l
  have hs1 : (((bL [c]).size : Nat) : Int) = 1 := rfl
  refine ACall.of Tryz.func48 s48 (of_decide_eq_true rfl) ?_
  by_cases c1 : (1 : Int) ≤ l.length
  · have w1 : IntKind.i64.wrap ((l.length : Int) - 1) = ((l.length - 1 : Nat) : Int) := i64e (by omega) (by omega)
    have s1 := sls_a l .i64 (l.length - 1) (by omega)
    have e : strB .eql (bL (l.drop (l.length - 1))) (bL [c]) = some (.bool (decide (l.getLast? = some c))) := (strB_eql _ _).trans (by
      rw [bL_data, bL_data]; exact congrArg (fun b => some (Value.bool b)) (decide_eq_decide.mpr (last_one l c)))
    simp (maxSteps := 4000000) (disch := omega) only [ah, am, Nat.reduceEqDiff, reduceCtorEq, Nat.reduceAdd, Nat.reduceLeDiff, Nat.reduceMul, Nat.reduceLT, if_true, if_false, true_and, and_true, and_self, Nat.reduceBEq, QOp.loads, boxO, bslO, buildO, cutL, fillV, putL, w48, v48, hsz, hs1, decide_eq_true c1, w1, s1, e, ge_iff_le]
  · simp (maxSteps := 4000000) (disch := omega) only [ah, am, Nat.reduceEqDiff, reduceCtorEq, Nat.reduceAdd, Nat.reduceLeDiff, Nat.reduceMul, Nat.reduceLT, if_true, if_false, true_and, and_true, and_self, Nat.reduceBEq, QOp.loads, boxO, bslO, buildO, cutL, fillV, putL, w48, v48, hsz, hs1, decide_eq_false c1, ge_iff_le]
    rw [decide_eq_false]
    intro q
    have : l = [] := List.eq_nil_of_length_eq_zero (by omega)
    rw [this] at q; cases q
theorem HasSuffix_ok (h : Heap) (l : List UInt8) (c : UInt8) (hl : l.length ≤ 1000000) : ACall Tryz.prog 22 [.string (bL l), .string (bL [c])] h fun r h' => h' = h ∧ r = .bool (decide (l.getLast? = some c)) := by
  refine ACall.of Tryz.func22 s22 (of_decide_eq_true rfl) ?_
  simp (maxSteps := 4000000) (disch := omega) only [ah, am, Nat.reduceEqDiff, reduceCtorEq, Nat.reduceAdd, Nat.reduceLeDiff, Nat.reduceMul, Nat.reduceLT, if_true, if_false, true_and, and_true, and_self, Nat.reduceBEq, QOp.loads, boxO, bslO, buildO, cutL, fillV, putL, w22, v22]
  refine stepC.of (slHasSuffix_ok h l c hl) ?_
  rintro _ Hx ⟨hx, rfl⟩; rw [hx]; clear hx Hx
  simp (maxSteps := 4000000) (disch := omega) only [ah, am, Nat.reduceEqDiff, reduceCtorEq, Nat.reduceAdd, Nat.reduceLeDiff, Nat.reduceMul, Nat.reduceLT, if_true, if_false, true_and, and_true, and_self, Nat.reduceBEq, QOp.loads, boxO, bslO, buildO, cutL, fillV, putL, w22, v22]
/-! ### Words that are read -/
theorem words_rules {K : Heap} {wv : Value} {W : List (List UInt8)} (s : SlT K encS 1 wv (W.map bL)) :
    lenV wv = some (.int .i64 (W.length : Int)) ∧ ∀ (k : IntKind) (j : Nat), j < W.length → iaV 1 wv (.int k (j : Int)) = some (ptrAt wv j) ∧ ldV K (ptrAt wv j) = some (.string (bL (W.getD j []))) := by
  obtain ⟨r1, r2, _, _, r5, _⟩ := s.rulesN
  refine ⟨by rw [r1, List.length_map], fun k j hj => ?_⟩
  have hj' : j < (W.map bL).length := by rw [List.length_map]; exact hj
  have a := r2 k j hj'
  have b := r5 j hj'
  rw [Nat.mul_one] at a b
  refine ⟨a, b.trans ?_⟩
  rw [List.getElem_map, List.getD, List.getElem?_eq_getElem hj]; rfl
theorem bL_map_of {ps : List ByteArray} {W : List (List UInt8)} (h : ps.map (·.data.toList) = W) : ps = W.map bL := by
  subst h
  rw [List.map_map]
  have : (bL ∘ fun x : ByteArray => x.data.toList) = id := funext fun s => bL_of s
  rw [this, List.map_id]
theorem wd_get {l : List UInt8} {i : Nat} : (spl l).getD i [] = wd l i := rfl
theorem wd_len (l : List UInt8) (i : Nat) : (wd l i).length ≤ l.length := by
  unfold wd
  rw [List.getD]
  cases h : (spl l)[i]? with
  | none => simp
  | some p => exact spl_piece l p (List.mem_of_getElem? h)
theorem words_bad_at {l : List UInt8} {i : Nat} (hi : i < (spl l).length) (h : wd l i = []) : lnWordsBad l :=
  .inl ⟨_, List.getElem_mem hi, by rw [← h]; unfold wd; rw [List.getD, List.getElem?_eq_getElem hi]; rfl⟩
theorem words_good {l : List UInt8} (h7 : (spl l).length = 7) (h : ∀ i, i < 7 → wd l i ≠ []) : ¬ lnWordsBad l := by
  rintro (⟨p, hp, e⟩ | q)
  · obtain ⟨i, hi, e2⟩ := List.getElem_of_mem hp
    refine h i (by omega) ?_
    unfold wd; rw [List.getD, List.getElem?_eq_getElem hi, e2, e]; rfl
  · exact q h7
theorem strB_neqL (a b : List UInt8) : strB .neq (bL a) (bL b) = some (.bool (!decide (a = b))) := strB_neq _ _
theorem put_res {K : Heap} {i : Nat} {a : Clip} (B : Bx K i (encClip a)) (c : Clip) :
    ∃ K', stV K 3 (.pointer (some ⟨i, 0, none⟩)) (.agg #[.int .i64 c.src, .int .i64 c.inn, .int .i64 c.len]) = some K' ∧ Bx K' i (encClip c) ∧ ExtG i K K' := by
  obtain ⟨K', e, B', G⟩ := B.put (o := 0) (n := 3) (y := .agg #[.int .i64 c.src, .int .i64 c.inn, .int .i64 c.len]) rfl (by simp [encClip]) rfl
  exact ⟨K', e, B', G⟩
end Go.Proofs.YtgmimgmdbpcecaaGreatDoor
end
