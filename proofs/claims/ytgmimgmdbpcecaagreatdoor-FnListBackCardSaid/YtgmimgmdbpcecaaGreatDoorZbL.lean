/- Merged texts of this claim: V25, D5z, LListBack. -/
import Derived.Test.YtgmimgmdbpcecaaGreatDoorZbK
section
namespace Go.Proofs.YtgmimgmdbpcecaaGreatDoor
open Go Go.Ah
set_option linter.unusedSimpArgs false
set_option linter.unusedVariables false
set_option maxRecDepth 10000
set_option maxHeartbeats 4000000
/-! 13 loop.example/g00066/spec.DrawShowList: parameters 1, live [0], slots [0:code, 1:code, 4:c, 5:r, 6:t] -/
def c13_0 : List SOper := [⟨some 2, .a (.new [(.int .i64 0), (.int .i64 0), (.bool false)]), none⟩, ⟨some 3, .q (.mv (.c (.slice none 0 0))), none⟩]
def c13_1 : List SOper := [⟨some 7, .q (.mv (.t 0)), none⟩, ⟨some 8, .e (.call 26 [(.t 7)]), none⟩, ⟨some 4, .q (.mv (.t 8)), none⟩]
def c13_2 : List SOper := [⟨some 9, .q (.mv (.t 4)), none⟩, ⟨some 10, .e (.call 27 [(.t 9)]), none⟩, ⟨some 5, .a (.new [(.int .i64 0), (.int .i64 0), (.bool false)]), none⟩, ⟨none, .e (.st 3 (.t 5) (.t 10)), none⟩]
def c13_3 : List SOper := [⟨some 11, .q (.mv (.t 4)), none⟩, ⟨some 12, .e (.call 28 [(.t 11)]), none⟩, ⟨some 6, .q (.mv (.t 12)), none⟩]
def c13_4 : List SOper := [⟨some 13, .q (.mv (.t 4)), none⟩, ⟨some 14, .e (.call 29 [(.t 13), (.c (.int .i64 12))]), none⟩]
def c13_5 : List SOper := [⟨some 15, .q (.mv (.t 6)), none⟩, ⟨some 16, .q (.build [(.int .i64 0), (.int .i64 0), (.int .i64 0)] [(0, 1, (.c (.int .i64 1))), (1, 1, (.c (.int .i64 9999950))), (2, 1, (.c (.int .i64 40)))]), none⟩, ⟨some 17, .a (.bsl 1 3 [(.int .i64 0), (.int .i64 0), (.int .i64 0)] [(0, 3, (.t 16))]), none⟩, ⟨some 18, .e (.app 24 3 (.t 15) (.t 17)), none⟩, ⟨some 6, .q (.mv (.t 18)), none⟩]
def c13_6 : SCode := .cond (.t 14) (.region c13_5 [2, 5, 6]) .skip
def c13_7 : SCode := .seq (.region c13_4 [2, 5, 6, 14]) c13_6
def c13_8 : List SOper := [⟨some 19, .q (.ldn 3 (.t 5)), none⟩, ⟨some 20, .q (.mv (.t 6)), none⟩, ⟨none, .e (.st 3 (.t 2) (.t 19)), none⟩, ⟨some 3, .q (.mv (.t 20)), none⟩]
def c13_9 : SCode := .seq (.region c13_8 [2, 3]) .ret
def c13_10 : SCode := .seq c13_7 c13_9
def c13_11 : SCode := .seq (.region c13_3 [2, 4, 5, 6]) c13_10
def c13_12 : SCode := .seq (.region c13_2 [2, 4, 5]) c13_11
def c13_13 : SCode := .seq (.region c13_1 [2, 4]) c13_12
def c13_14 : SCode := .seq (.region c13_0 [0, 2]) c13_13
def c13 : SCode := c13_14
theorem w13 : type_of% (And.intro (uR Tryz.prog c13_0.eq_1) (And.intro (uR Tryz.prog c13_1.eq_1) (And.intro (uR Tryz.prog c13_2.eq_1) (And.intro (uR Tryz.prog c13_3.eq_1) (And.intro (uR Tryz.prog c13_4.eq_1) (And.intro (uR Tryz.prog c13_5.eq_1) (And.intro (uC Tryz.prog c13_6.eq_1) (And.intro (uC Tryz.prog c13_7.eq_1) (And.intro (uR Tryz.prog c13_8.eq_1) (And.intro (uC Tryz.prog c13_9.eq_1) (And.intro (uC Tryz.prog c13_10.eq_1) (And.intro (uC Tryz.prog c13_11.eq_1) (And.intro (uC Tryz.prog c13_12.eq_1) (And.intro (uC Tryz.prog c13_13.eq_1) (And.intro (uC Tryz.prog c13_14.eq_1) (uC Tryz.prog c13.eq_1)))))))))))))))) := (And.intro (uR Tryz.prog c13_0.eq_1) (And.intro (uR Tryz.prog c13_1.eq_1) (And.intro (uR Tryz.prog c13_2.eq_1) (And.intro (uR Tryz.prog c13_3.eq_1) (And.intro (uR Tryz.prog c13_4.eq_1) (And.intro (uR Tryz.prog c13_5.eq_1) (And.intro (uC Tryz.prog c13_6.eq_1) (And.intro (uC Tryz.prog c13_7.eq_1) (And.intro (uR Tryz.prog c13_8.eq_1) (And.intro (uC Tryz.prog c13_9.eq_1) (And.intro (uC Tryz.prog c13_10.eq_1) (And.intro (uC Tryz.prog c13_11.eq_1) (And.intro (uC Tryz.prog c13_12.eq_1) (And.intro (uC Tryz.prog c13_13.eq_1) (And.intro (uC Tryz.prog c13_14.eq_1) (uC Tryz.prog c13.eq_1))))))))))))))))
def v13 : List RV := [.c 2 (some 3), .t 3]
theorem s13 : slimF Tryz.prog Tryz.f13 = some (c13.bare, v13) := by kernel_rfl

theorem DrawShowList_ok (h : Heap) (v : Value) (code : List Int) (s : SlT h encByte 1 v code) (hl : code.length ≤ 4096) :
    ACall Tryz.prog 13 [v] h fun x h' => ∃ (tv : Value) (r : Rate) (t : List Clip), x = .tuple #[.agg #[.int .i64 r.num, .int .i64 r.den, .bool r.drop], tv] ∧ Ext h h' ∧ SlT h' encClip 3 tv t ∧ t.length ≤ 302 := by
  have B2 := Bx.new h (encRate zRate) []
  have eM := Ext.more h [encRate zRate]
  simp only [encRate, zRate] at B2 eM
  refine ACall.of Tryz.func13 s13 (of_decide_eq_true rfl) ?_
  simp (maxSteps := 4000000) (disch := omega) only [ah, am, Nat.reduceEqDiff, reduceCtorEq, Nat.reduceAdd, Nat.reduceLeDiff, Nat.reduceMul, Nat.reduceLT, if_true, if_false, true_and, and_true, and_self, Nat.reduceBEq, QOp.loads, boxO, bslO, buildO, cutL, fillV, putL, w13, v13]
  obtain ⟨K0, hK0⟩ : ∃ K0, K0 = h.more [[.int .i64 0, .int .i64 0, .bool false]] := ⟨_, rfl⟩
  obtain ⟨b2, hb2⟩ : ∃ q, q = h.size := ⟨_, rfl⟩
  rw [← hK0] at B2 eM ⊢
  rw [← hb2] at B2 ⊢
  have hge : h.size ≤ b2 := by omega
  refine stepC.of (l1New_ok K0 v code (s.ext eM) hl) ?_
  rintro _ K1 ⟨e1, rfl, C1⟩
  have hb2lt := Heap.get_lt B2
  obtain ⟨c, hc⟩ : ∃ q, q = K0.size := ⟨_, rfl⟩
  rw [← hc] at C1 ⊢
  have hcb : b2 ≠ c := by omega
  have hch : h.size ≤ c := by have := eM.1; omega
  have E1 := eM.trans e1
  have B2 := B2.ext e1
  simp (maxSteps := 4000000) (disch := omega) only [ah, am, Nat.reduceEqDiff, reduceCtorEq, Nat.reduceAdd, Nat.reduceLeDiff, Nat.reduceMul, Nat.reduceLT, if_true, if_false, true_and, and_true, and_self, Nat.reduceBEq, QOp.loads, boxO, bslO, buildO, cutL, fillV, putL, w13, v13]
  refine stepC.of (l6DrawRate_ok K1 c C1) ?_
  rintro _ K2 ⟨r, rfl, g2, C2⟩
  have B2 := B2.step g2 hcb
  have hb2K2 := Heap.get_lt B2
  have E2 := g2.ext E1 hch
  have e3 := Ext.more K2 [encRate r]
  have B5 := Bx.new K2 (encRate r) []
  simp only [encRate] at e3 B5
  simp (maxSteps := 4000000) (disch := omega) only [ah, am, Nat.reduceEqDiff, reduceCtorEq, Nat.reduceAdd, Nat.reduceLeDiff, Nat.reduceMul, Nat.reduceLT, if_true, if_false, true_and, and_true, and_self, Nat.reduceBEq, QOp.loads, boxO, bslO, buildO, cutL, fillV, putL, w13, v13]
  obtain ⟨K3, hK3⟩ : ∃ K3, K3 = K2.more [[.int .i64 r.num, .int .i64 r.den, .bool r.drop]] := ⟨_, rfl⟩
  obtain ⟨b5, hb5⟩ : ∃ q, q = K2.size := ⟨_, rfl⟩
  rw [← hK3] at e3 B5 ⊢
  rw [← hb5] at B5 ⊢
  have C3 := C2.ext e3
  have E3 := E2.trans e3
  have B2 := B2.ext e3
  have hc5 : b5 ≠ c := by have := C2.lt; omega
  have h25 : b2 ≠ b5 := by omega
  clear hK3 hK0
  have hcl := C3.lt
  have hb2l := Heap.get_lt B2
  have hb5l := Heap.get_lt B5
  have hin : c ∈ [c] := by simp
  have hcl := C3.lt
  have hb2l := Heap.get_lt B2
  have hb5l := Heap.get_lt B5
  have hin : c ∈ [c] := by simp
  refine stepC.of (l4DrawTrack_ok K3 c C3) ?_
  rintro tv K4 ⟨l, FT, C4, DL⟩
  have hll := DL.2
  have fin : ∀ (K : Heap) (v : Value) (t : List Clip) (R : Env), Fk [c] K3 K encClip 3 v t [] → t.length ≤ 302 → SW Tryz.prog c13_9 (retQ v13 fun x h' => ∃ (tv : Value) (r : Rate) (t : List Clip), x = .tuple #[.agg #[.int .i64 r.num, .int .i64 r.den, .bool r.drop], tv] ∧ Ext h h' ∧ SlT h' encClip 3 tv t ∧ t.length ≤ 302)
      ((2, .pointer (some ⟨b2, 0, none⟩)) :: (5, .pointer (some ⟨b5, 0, none⟩)) :: (6, v) :: R) K := by
    intro K v t R F ht
    have B5K := bx_x B5 F.ext (by simp; omega)
    have B2K := bx_x B2 F.ext (by simp; omega)
    obtain ⟨K', es, B', G⟩ := put_rate (a := zRate) B2K r
    have Fw : Fk [c, b2] K3 K encClip 3 v t [] := ⟨⟨F.ext.1, fun i ob hi hn => F.ext.2 i ob hi (by simp at hn ⊢; exact hn.1)⟩, F.own, F.box⟩
    have Fz := Fw.stepG G (by simp) (by omega)
    simp only [encRate] at B'
    simp (maxSteps := 4000000) (disch := omega) only [ah, am, Nat.reduceEqDiff, reduceCtorEq, Nat.reduceAdd, Nat.reduceLeDiff, Nat.reduceMul, Nat.reduceLT, if_true, if_false, true_and, and_true, and_self, Nat.reduceBEq, QOp.loads, boxO, bslO, buildO, cutL, fillV, putL, w13, v13, B5K.ld, es, B'.ld]
    exact ⟨v, r, t, rfl, G.ext ((F.ext.toG).ext E3 hch) hge, Fz.slt, ht⟩
  rw [c13_10.eq_1]
  generalize c13_9 = fc at fin ⊢
  simp (maxSteps := 4000000) (disch := omega) only [ah, am, Nat.reduceEqDiff, reduceCtorEq, Nat.reduceAdd, Nat.reduceLeDiff, Nat.reduceMul, Nat.reduceLT, if_true, if_false, true_and, and_true, and_self, Nat.reduceBEq, QOp.loads, boxO, bslO, buildO, cutL, fillV, putL, w13, v13]
  refine stepC.of (l1Once_ok K4 c 12 C4) ?_
  rintro _ K7 ⟨b, rfl, g7, C7⟩
  have F7 := FT.stepG g7 hin hcl
  cases b with
  | false =>
    simp (maxSteps := 4000000) (disch := omega) only [ah, am, Nat.reduceEqDiff, reduceCtorEq, Nat.reduceAdd, Nat.reduceLeDiff, Nat.reduceMul, Nat.reduceLT, if_true, if_false, true_and, and_true, and_self, Nat.reduceBEq, QOp.loads, boxO, bslO, buildO, cutL, fillV, putL, w13, v13]
    exact fin K7 tv l _ F7 (by omega)
  | true =>
    obtain ⟨w, K8, ap, F8⟩ := F7.app1 [] ⟨1, 9999950, 40⟩ (bytes := 24) (by omega)
    simp only [encClip, List.nil_append, List.length_nil, Nat.add_zero] at ap
    simp (maxSteps := 4000000) (disch := omega) only [ah, am, Nat.reduceEqDiff, reduceCtorEq, Nat.reduceAdd, Nat.reduceLeDiff, Nat.reduceMul, Nat.reduceLT, if_true, if_false, true_and, and_true, and_self, Nat.reduceBEq, QOp.loads, boxO, bslO, buildO, cutL, fillV, putL, w13, v13, ap]
    exact fin K8 w _ _ F8 (by simp; omega)
end Go.Proofs.YtgmimgmdbpcecaaGreatDoor
end

section
namespace Go.Proofs.YtgmimgmdbpcecaaGreatDoor
open Go Go.Ah
set_option linter.unusedSimpArgs false
set_option linter.unusedVariables false
set_option maxRecDepth 10000
set_option maxHeartbeats 4000000
/-! 16 loop.example/g00066/laws.sameClips: parameters 2, live [0, 1], slots [0:a, 1:b, 2:a, 3:b, 5:i] -/
def c16_0 : List SOper := [⟨some 4, .q (.mv (.c (.bool false))), none⟩]
def c16_1 : List SOper := [⟨some 6, .q (.mv (.t 0)), none⟩, ⟨some 7, .q (.len (.t 6)), none⟩, ⟨some 8, .q (.mv (.t 1)), none⟩, ⟨some 9, .q (.len (.t 8)), none⟩, ⟨some 10, .q (.bin .neq (.t 7) (.t 9)), none⟩]
def c16_2 : List SOper := [⟨some 4, .q (.mv (.c (.bool false))), none⟩]
def c16_3 : SCode := .seq (.region c16_2 [4]) .ret
def c16_4 : SCode := .cond (.t 10) c16_3 .skip
def c16_5 : SCode := .seq (.region c16_1 [0, 1, 10]) c16_4
def c16_6 : List SOper := [⟨some 5, .q (.mv (.c (.int .i64 0))), none⟩]
def c16_7 : List SOper := [⟨some 11, .q (.mv (.t 5)), none⟩, ⟨some 12, .q (.mv (.t 0)), none⟩, ⟨some 13, .q (.len (.t 12)), none⟩, ⟨some 14, .q (.bin .lss (.t 11) (.t 13)), none⟩]
def c16_8 : SCode := .cond (.t 14) .skip (.exit 0)
def c16_9 : SCode := .seq (.region c16_7 [0, 1, 5, 14]) c16_8
def c16_10 : List SOper := [⟨some 17, .q (.mv (.t 0)), none⟩, ⟨some 18, .q (.mv (.t 5)), none⟩, ⟨some 19, .q (.ia 3 (.t 17) (.t 18)), none⟩, ⟨some 20, .q (.ldn 3 (.t 19)), none⟩, ⟨some 21, .q (.mv (.t 1)), none⟩, ⟨some 22, .q (.mv (.t 5)), none⟩, ⟨some 23, .q (.ia 3 (.t 21) (.t 22)), none⟩, ⟨some 24, .q (.ldn 3 (.t 23)), none⟩, ⟨some 25, .q (.eqi true 3 (.t 20) (.t 24)), none⟩]
def c16_11 : List SOper := [⟨some 4, .q (.mv (.c (.bool false))), none⟩]
def c16_12 : SCode := .seq (.region c16_11 [4]) .ret
def c16_13 : SCode := .cond (.t 25) c16_12 .skip
def c16_14 : SCode := .seq (.region c16_10 [0, 1, 5, 25]) c16_13
def c16_15 : SCode := .block 1 c16_14
def c16_16 : List SOper := [⟨some 15, .q (.mv (.t 5)), none⟩, ⟨some 16, .q (.bin .add (.t 15) (.c (.int .i64 1))), none⟩, ⟨some 5, .q (.mv (.t 16)), none⟩]
def c16_17 : SCode := .seq c16_15 (.region c16_16 [0, 1, 5])
def c16_18 : SCode := .seq c16_9 c16_17
def c16_19 : SCode := .loop c16_18
def c16_20 : SCode := .block 0 c16_19
def c16_21 : SCode := .seq (.region c16_6 [0, 1, 5]) c16_20
def c16_22 : List SOper := [⟨some 4, .q (.mv (.c (.bool true))), none⟩]
def c16_23 : SCode := .seq (.region c16_22 [4]) .ret
def c16_24 : SCode := .seq c16_21 c16_23
def c16_25 : SCode := .seq c16_5 c16_24
def c16_26 : SCode := .seq (.region c16_0 [0, 1]) c16_25
def c16 : SCode := c16_26
theorem w16 : type_of% (And.intro (uR Tryz.prog c16_0.eq_1) (And.intro (uR Tryz.prog c16_1.eq_1) (And.intro (uR Tryz.prog c16_2.eq_1) (And.intro (uC Tryz.prog c16_3.eq_1) (And.intro (uC Tryz.prog c16_4.eq_1) (And.intro (uC Tryz.prog c16_5.eq_1) (And.intro (uR Tryz.prog c16_6.eq_1) (And.intro (uR Tryz.prog c16_7.eq_1) (And.intro (uC Tryz.prog c16_8.eq_1) (And.intro (uC Tryz.prog c16_9.eq_1) (And.intro (uR Tryz.prog c16_10.eq_1) (And.intro (uR Tryz.prog c16_11.eq_1) (And.intro (uC Tryz.prog c16_12.eq_1) (And.intro (uC Tryz.prog c16_13.eq_1) (And.intro (uC Tryz.prog c16_14.eq_1) (And.intro (uC Tryz.prog c16_15.eq_1) (And.intro (uR Tryz.prog c16_16.eq_1) (And.intro (uC Tryz.prog c16_17.eq_1) (And.intro (uC Tryz.prog c16_18.eq_1) (And.intro (uC Tryz.prog c16_19.eq_1) (And.intro (uC Tryz.prog c16_20.eq_1) (And.intro (uC Tryz.prog c16_21.eq_1) (And.intro (uR Tryz.prog c16_22.eq_1) (And.intro (uC Tryz.prog c16_23.eq_1) (And.intro (uC Tryz.prog c16_24.eq_1) (And.intro (uC Tryz.prog c16_25.eq_1) (And.intro (uC Tryz.prog c16_26.eq_1) (uC Tryz.prog c16.eq_1)))))))))))))))))))))))))))) := (And.intro (uR Tryz.prog c16_0.eq_1) (And.intro (uR Tryz.prog c16_1.eq_1) (And.intro (uR Tryz.prog c16_2.eq_1) (And.intro (uC Tryz.prog c16_3.eq_1) (And.intro (uC Tryz.prog c16_4.eq_1) (And.intro (uC Tryz.prog c16_5.eq_1) (And.intro (uR Tryz.prog c16_6.eq_1) (And.intro (uR Tryz.prog c16_7.eq_1) (And.intro (uC Tryz.prog c16_8.eq_1) (And.intro (uC Tryz.prog c16_9.eq_1) (And.intro (uR Tryz.prog c16_10.eq_1) (And.intro (uR Tryz.prog c16_11.eq_1) (And.intro (uC Tryz.prog c16_12.eq_1) (And.intro (uC Tryz.prog c16_13.eq_1) (And.intro (uC Tryz.prog c16_14.eq_1) (And.intro (uC Tryz.prog c16_15.eq_1) (And.intro (uR Tryz.prog c16_16.eq_1) (And.intro (uC Tryz.prog c16_17.eq_1) (And.intro (uC Tryz.prog c16_18.eq_1) (And.intro (uC Tryz.prog c16_19.eq_1) (And.intro (uC Tryz.prog c16_20.eq_1) (And.intro (uC Tryz.prog c16_21.eq_1) (And.intro (uR Tryz.prog c16_22.eq_1) (And.intro (uC Tryz.prog c16_23.eq_1) (And.intro (uC Tryz.prog c16_24.eq_1) (And.intro (uC Tryz.prog c16_25.eq_1) (And.intro (uC Tryz.prog c16_26.eq_1) (uC Tryz.prog c16.eq_1))))))))))))))))))))))))))))
def v16 : List RV := [.t 4]
theorem s16 : slimF Tryz.prog Tryz.f16 = some (c16.bare, v16) := by kernel_rfl

/-! 17 loop.example/g00066/impl.Joined: parameters 1, live [0], slots [0:track, 1:track] -/
def c17_0 : List SOper := [⟨some 2, .q (.mv (.c (.slice none 0 0))), none⟩]
def c17_1 : List SOper := [⟨some 3, .q (.mv (.t 0)), none⟩, ⟨some 4, .e (.call 30 [(.t 3)]), none⟩, ⟨some 5, .q (.not (.t 4)), none⟩]
def c17_2 : List SOper := [⟨some 2, .q (.mv (.c (.slice none 0 0))), none⟩]
def c17_3 : SCode := .seq (.region c17_2 [2]) .ret
def c17_4 : SCode := .cond (.t 5) c17_3 .skip
def c17_5 : SCode := .seq (.region c17_1 [0, 5]) c17_4
def c17_6 : List SOper := [⟨some 6, .q (.mv (.t 0)), none⟩, ⟨some 7, .e (.call 31 [(.t 6)]), none⟩, ⟨some 2, .q (.mv (.t 7)), none⟩]
def c17_7 : SCode := .seq (.region c17_6 [2]) .ret
def c17_8 : SCode := .seq c17_5 c17_7
def c17_9 : SCode := .seq (.region c17_0 [0]) c17_8
def c17 : SCode := c17_9
theorem w17 : type_of% (And.intro (uR Tryz.prog c17_0.eq_1) (And.intro (uR Tryz.prog c17_1.eq_1) (And.intro (uR Tryz.prog c17_2.eq_1) (And.intro (uC Tryz.prog c17_3.eq_1) (And.intro (uC Tryz.prog c17_4.eq_1) (And.intro (uC Tryz.prog c17_5.eq_1) (And.intro (uR Tryz.prog c17_6.eq_1) (And.intro (uC Tryz.prog c17_7.eq_1) (And.intro (uC Tryz.prog c17_8.eq_1) (And.intro (uC Tryz.prog c17_9.eq_1) (uC Tryz.prog c17.eq_1))))))))))) := (And.intro (uR Tryz.prog c17_0.eq_1) (And.intro (uR Tryz.prog c17_1.eq_1) (And.intro (uR Tryz.prog c17_2.eq_1) (And.intro (uC Tryz.prog c17_3.eq_1) (And.intro (uC Tryz.prog c17_4.eq_1) (And.intro (uC Tryz.prog c17_5.eq_1) (And.intro (uR Tryz.prog c17_6.eq_1) (And.intro (uC Tryz.prog c17_7.eq_1) (And.intro (uC Tryz.prog c17_8.eq_1) (And.intro (uC Tryz.prog c17_9.eq_1) (uC Tryz.prog c17.eq_1)))))))))))
def v17 : List RV := [.t 2]
theorem s17 : slimF Tryz.prog Tryz.f17 = some (c17.bare, v17) := by kernel_rfl

theorem clip_eqi (a b : Clip) : intsEq (encClip a) (encClip b) = some (decide (a = b)) := by
  obtain ⟨a1, a2, a3⟩ := a; obtain ⟨b1, b2, b3⟩ := b
  simp only [encClip, intsEq_cons, intsEq_nil, Option.map_some, Bool.and_true, Option.some.injEq]
  simp only [Clip.mk.injEq, Bool.decide_and]
theorem sameClips_ok (h : Heap) (v v' : Value) (l l' : List Clip) (s : SlT h encClip 3 v l) (s' : SlT h encClip 3 v' l') (hl : l.length ≤ 281474976710656) (hl' : l'.length ≤ 281474976710656) :
    ACall Tryz.prog 16 [v, v'] h fun r h' => h' = h ∧ r = .bool (decide (l = l')) := by
  refine ACall.of Tryz.func16 s16 (of_decide_eq_true rfl) ?_
  have R := s.rulesN
  have R' := s'.rulesN
  by_cases hn : l.length = l'.length
  rotate_left
  · have hn' : decide ((l.length : Int) = l'.length) = false := decide_eq_false (by omega)
    simp (maxSteps := 4000000) (disch := omega) only [ah, am, Nat.reduceEqDiff, reduceCtorEq, Nat.reduceAdd, Nat.reduceLeDiff, Nat.reduceMul, Nat.reduceLT, if_true, if_false, true_and, and_true, and_self, Nat.reduceBEq, QOp.loads, boxO, bslO, buildO, cutL, fillV, putL, w16, v16, R, R', hn']
    rw [decide_eq_false (by rintro rfl; exact hn rfl)]
  have hn' : decide ((l.length : Int) = l'.length) = true := decide_eq_true (by omega)
  simp (maxSteps := 4000000) (disch := omega) only [ah, am, Nat.reduceEqDiff, reduceCtorEq, Nat.reduceAdd, Nat.reduceLeDiff, Nat.reduceMul, Nat.reduceLT, if_true, if_false, true_and, and_true, and_self, Nat.reduceBEq, QOp.loads, boxO, bslO, buildO, cutL, fillV, putL, w16, v16, R, R', hn']
  refine SW_loop_up (fun i E H => E = [(0, v), (1, v'), (5, .int .i64 i)] ∧ H = h ∧ ∀ j (h1 : j < i) (h2 : j < l.length), l[j] = l'[j]) l.length 0 (by omega) ⟨rfl, rfl, fun j h1 => absurd h1 (by omega)⟩ ?_
  rintro i E H hi ⟨rfl, rfl, F⟩
  have W : IntKind.i64.wrap ((i : Int) + 1) = ((i + 1 : Nat) : Int) := i64e (by omega) (by omega)
  simp (maxSteps := 4000000) (disch := omega) only [ah, am, Nat.reduceEqDiff, reduceCtorEq, Nat.reduceAdd, Nat.reduceLeDiff, Nat.reduceMul, Nat.reduceLT, if_true, if_false, true_and, and_true, and_self, Nat.reduceBEq, QOp.loads, boxO, bslO, buildO, cutL, fillV, putL, w16, v16, R]
  refine stepI.split (fun hp => ?_) (fun hp => ?_)
  · simp (maxSteps := 4000000) (disch := omega) only [ah, am, Nat.reduceEqDiff, reduceCtorEq, Nat.reduceAdd, Nat.reduceLeDiff, Nat.reduceMul, Nat.reduceLT, if_true, if_false, true_and, and_true, and_self, Nat.reduceBEq, QOp.loads, boxO, bslO, buildO, cutL, fillV, putL, w16, v16, R, R', clip_eqi, encClip_len, Option.map_some, eq_self]
    refine stepI.split (fun hq => ?_) (fun hq => ?_)
    · simp (maxSteps := 4000000) (disch := omega) only [ah, am, Nat.reduceEqDiff, reduceCtorEq, Nat.reduceAdd, Nat.reduceLeDiff, Nat.reduceMul, Nat.reduceLT, if_true, if_false, true_and, and_true, and_self, Nat.reduceBEq, QOp.loads, boxO, bslO, buildO, cutL, fillV, putL, w16, v16, W]
      refine ⟨by omega, fun j h1 h2 => ?_⟩
      by_cases hj : j = i
      · subst hj; exact hq
      · exact F j (by omega) h2
    · simp (maxSteps := 4000000) (disch := omega) only [ah, am, Nat.reduceEqDiff, reduceCtorEq, Nat.reduceAdd, Nat.reduceLeDiff, Nat.reduceMul, Nat.reduceLT, if_true, if_false, true_and, and_true, and_self, Nat.reduceBEq, QOp.loads, boxO, bslO, buildO, cutL, fillV, putL, w16, v16]
      rw [decide_eq_false (by rintro rfl; exact hq rfl)]
  · simp (maxSteps := 4000000) (disch := omega) only [ah, am, Nat.reduceEqDiff, reduceCtorEq, Nat.reduceAdd, Nat.reduceLeDiff, Nat.reduceMul, Nat.reduceLT, if_true, if_false, true_and, and_true, and_self, Nat.reduceBEq, QOp.loads, boxO, bslO, buildO, cutL, fillV, putL, w16, v16]
    obtain rfl : i = l.length := by omega
    rw [decide_eq_true (List.ext_getElem hn fun j h1 h2 => F j (by omega) h1)]
def joinedI (l : List Clip) : List Clip := if trackOk l then join l else []
theorem Joined_ok (h : Heap) (v : Value) (l : List Clip) (s : SlT h encClip 3 v l) (hl : l.length ≤ 1100000) : ACall Tryz.prog 17 [v] h fun r h' => Fresh h h' encClip 3 r (joinedI l) := by
  refine ACall.of Tryz.func17 s17 (of_decide_eq_true rfl) ?_
  simp (maxSteps := 4000000) (disch := omega) only [ah, am, Nat.reduceEqDiff, reduceCtorEq, Nat.reduceAdd, Nat.reduceLeDiff, Nat.reduceMul, Nat.reduceLT, if_true, if_false, true_and, and_true, and_self, Nat.reduceBEq, QOp.loads, boxO, bslO, buildO, cutL, fillV, putL, w17, v17]
  refine stepC.of (implTrackOk_ok _ _ _ s hl) ?_
  rintro _ H1 ⟨e1, rfl⟩
  by_cases ht : trackOk l
  · have ht' : decide (trackOk l) = true := decide_eq_true ht
    simp (maxSteps := 4000000) (disch := omega) only [ah, am, Nat.reduceEqDiff, reduceCtorEq, Nat.reduceAdd, Nat.reduceLeDiff, Nat.reduceMul, Nat.reduceLT, if_true, if_false, true_and, and_true, and_self, Nat.reduceBEq, QOp.loads, boxO, bslO, buildO, cutL, fillV, putL, w17, v17, ht']
    refine stepC.of (joined_ok _ _ _ (s.ext e1) hl (fun k hk => (ht.2.1 k hk).in)) ?_
    intro r H2 F
    simp (maxSteps := 4000000) (disch := omega) only [ah, am, Nat.reduceEqDiff, reduceCtorEq, Nat.reduceAdd, Nat.reduceLeDiff, Nat.reduceMul, Nat.reduceLT, if_true, if_false, true_and, and_true, and_self, Nat.reduceBEq, QOp.loads, boxO, bslO, buildO, cutL, fillV, putL, w17, v17]
    rw [show joinedI l = join l from if_pos ht]
    exact F.mono e1
  · have ht' : decide (trackOk l) = false := decide_eq_false ht
    simp (maxSteps := 4000000) (disch := omega) only [ah, am, Nat.reduceEqDiff, reduceCtorEq, Nat.reduceAdd, Nat.reduceLeDiff, Nat.reduceMul, Nat.reduceLT, if_true, if_false, true_and, and_true, and_self, Nat.reduceBEq, QOp.loads, boxO, bslO, buildO, cutL, fillV, putL, w17, v17, ht']
    rw [show joinedI l = [] from if_neg ht]
    exact (Fresh.nil _ encClip_len (by omega)).mono e1
end Go.Proofs.YtgmimgmdbpcecaaGreatDoor
end

section
namespace Go.Proofs.YtgmimgmdbpcecaaGreatDoor
open Go Go.Ah
set_option linter.unusedSimpArgs false
set_option linter.unusedVariables false
set_option maxRecDepth 10000
set_option maxHeartbeats 4000000
/-! 4 loop.example/g00066/laws.FnListBack: parameters 1, live [0], slots [0:code, 1:code, 3:r, 4:t, 5:s, 6:u, 7:f, 8:q, 9:x, 10:v, 11:f, 12:_, 13:told] -/
def c4_0 : List SOper := [⟨some 2, .q (.mv (.c (.bool false))), none⟩]
def c4_1 : List SOper := [⟨some 14, .q (.mv (.t 0)), none⟩, ⟨some 15, .e (.call 12 [(.t 14)]), none⟩]
def c4_2 : List SOper := [⟨some 2, .q (.mv (.c (.bool true))), none⟩]
def c4_3 : SCode := .seq (.region c4_2 [2]) .ret
def c4_4 : SCode := .cond (.t 15) c4_3 .skip
def c4_5 : SCode := .seq (.region c4_1 [0, 15]) c4_4
def c4_6 : List SOper := [⟨some 17, .q (.mv (.t 0)), none⟩, ⟨some 18, .e (.call 13 [(.t 17)]), none⟩, ⟨some 16, .q (.mv (.t 18)), none⟩, ⟨some 19, .q (.ext (.t 16) 0), none⟩, ⟨some 20, .q (.ext (.t 16) 1), none⟩, ⟨some 3, .a (.new [(.int .i64 0), (.int .i64 0), (.bool false)]), none⟩, ⟨none, .e (.st 3 (.t 3) (.t 19)), none⟩, ⟨some 4, .q (.mv (.t 20)), none⟩]
def c4_7 : List SOper := [⟨some 21, .q (.ldn 3 (.t 3)), none⟩, ⟨some 22, .q (.mv (.t 4)), none⟩, ⟨some 23, .e (.call 14 [(.t 21), (.t 22)]), none⟩, ⟨some 5, .q (.mv (.t 23)), none⟩]
def c4_8 : List SOper := [⟨some 24, .q (.mv (.t 5)), none⟩, ⟨some 25, .q (.ldn 3 (.t 3)), none⟩, ⟨some 26, .q (.mv (.t 4)), none⟩, ⟨some 27, .e (.call 15 [(.t 25), (.t 26)]), none⟩, ⟨some 28, .q (.bin .neq (.t 24) (.t 27)), none⟩]
def c4_9 : List SOper := [⟨some 2, .q (.mv (.c (.bool false))), none⟩]
def c4_10 : SCode := .seq (.region c4_9 [2]) .ret
def c4_11 : SCode := .cond (.t 28) c4_10 .skip
def c4_12 : SCode := .seq (.region c4_8 [0, 3, 4, 5, 28]) c4_11
def c4_13 : List SOper := [⟨some 29, .q (.mv (.t 5)), none⟩, ⟨some 30, .q (.bin .neq (.t 29) (.c (.string ⟨#[]⟩))), none⟩, ⟨some 31, .q (.mv (.t 30)), none⟩, ⟨some 32, .q (.mv (.t 5)), some (31, true)⟩, ⟨some 33, .q (.lens (.t 32)), some (31, true)⟩, ⟨some 34, .q (.bin .leq (.t 33) (.c (.int .i64 20000))), some (31, true)⟩, ⟨some 35, .q (.pick (.t 31) (.t 34) (.c (.bool false))), none⟩]
def c4_14 : List SOper := [⟨some 37, .q (.ldn 3 (.t 3)), none⟩, ⟨some 38, .q (.mv (.t 5)), none⟩, ⟨some 39, .e (.call 7 [(.t 37), (.t 38)]), none⟩, ⟨some 36, .q (.mv (.t 39)), none⟩, ⟨some 40, .q (.ext (.t 36) 0), none⟩, ⟨some 41, .q (.ext (.t 36) 1), none⟩, ⟨some 7, .a (.new [(.int .i64 0), (.int .i64 0)]), none⟩, ⟨some 6, .q (.mv (.t 40)), none⟩, ⟨none, .e (.st 2 (.t 7) (.t 41)), none⟩]
def c4_15 : List SOper := [⟨some 42, .q (.fa 0 (.t 7)), none⟩, ⟨some 43, .q (.ld (.t 42)), none⟩, ⟨some 44, .q (.bin .neq (.t 43) (.c (.int .i64 0))), none⟩, ⟨some 45, .q (.mv (.t 44)), none⟩, ⟨some 46, .q (.mv (.t 6)), some (45, false)⟩, ⟨some 47, .q (.mv (.t 4)), some (45, false)⟩, ⟨some 48, .e (.call 17 [(.t 47)]), some (45, false)⟩, ⟨some 49, .e (.call 16 [(.t 46), (.t 48)]), some (45, false)⟩, ⟨some 50, .q (.not (.t 49)), some (45, false)⟩, ⟨some 51, .q (.pick (.t 45) (.c (.bool true)) (.t 50)), none⟩]
def c4_16 : List SOper := [⟨some 2, .q (.mv (.c (.bool false))), none⟩]
def c4_17 : SCode := .seq (.region c4_16 [2]) .ret
def c4_18 : SCode := .cond (.t 51) c4_17 .skip
def c4_19 : SCode := .seq (.region c4_15 [0, 51]) c4_18
def c4_20 : SCode := .seq (.region c4_14 [0, 4, 6, 7]) c4_19
def c4_21 : SCode := .cond (.t 35) c4_20 .skip
def c4_22 : SCode := .seq (.region c4_13 [0, 3, 4, 5, 35]) c4_21
def c4_23 : List SOper := [⟨some 53, .q (.mv (.t 0)), none⟩, ⟨some 54, .e (.call 18 [(.t 53)]), none⟩, ⟨some 52, .q (.mv (.t 54)), none⟩, ⟨some 55, .q (.ext (.t 52) 0), none⟩, ⟨some 56, .q (.ext (.t 52) 1), none⟩, ⟨some 8, .a (.new [(.int .i64 0), (.int .i64 0), (.bool false)]), none⟩, ⟨none, .e (.st 3 (.t 8) (.t 55)), none⟩, ⟨some 9, .q (.mv (.t 56)), none⟩]
def c4_24 : List SOper := [⟨some 58, .q (.ldn 3 (.t 8)), none⟩, ⟨some 59, .q (.mv (.t 9)), none⟩, ⟨some 60, .e (.call 7 [(.t 58), (.t 59)]), none⟩, ⟨some 57, .q (.mv (.t 60)), none⟩, ⟨some 61, .q (.ext (.t 57) 0), none⟩, ⟨some 62, .q (.ext (.t 57) 1), none⟩, ⟨some 11, .a (.new [(.int .i64 0), (.int .i64 0)]), none⟩, ⟨some 10, .q (.mv (.t 61)), none⟩, ⟨none, .e (.st 2 (.t 11) (.t 62)), none⟩]
def c4_25 : List SOper := [⟨some 64, .q (.ldn 3 (.t 8)), none⟩, ⟨some 65, .q (.mv (.t 9)), none⟩, ⟨some 66, .e (.call 5 [(.t 64), (.t 65)]), none⟩, ⟨some 63, .q (.mv (.t 66)), none⟩, ⟨some 67, .q (.ext (.t 63) 0), none⟩, ⟨some 68, .q (.ext (.t 63) 1), none⟩, ⟨some 13, .a (.new [(.int .i64 0), (.int .i64 0)]), none⟩, ⟨some 12, .q (.mv (.t 67)), none⟩, ⟨none, .e (.st 2 (.t 13) (.t 68)), none⟩]
def c4_26 : List SOper := [⟨some 69, .q (.ldn 2 (.t 11)), none⟩, ⟨some 70, .q (.ldn 2 (.t 13)), none⟩, ⟨some 71, .q (.eqi true 2 (.t 69) (.t 70)), none⟩]
def c4_27 : List SOper := [⟨some 2, .q (.mv (.c (.bool false))), none⟩]
def c4_28 : SCode := .seq (.region c4_27 [2]) .ret
def c4_29 : SCode := .cond (.t 71) c4_28 .skip
def c4_30 : SCode := .seq (.region c4_26 [8, 9, 10, 11, 71]) c4_29
def c4_31 : SCode := .seq (.region c4_25 [8, 9, 10, 11, 13]) c4_30
def c4_32 : List SOper := [⟨some 72, .q (.fa 0 (.t 11)), none⟩, ⟨some 73, .q (.ld (.t 72)), none⟩, ⟨some 74, .q (.bin .neq (.t 73) (.c (.int .i64 0))), none⟩]
def c4_33 : List SOper := [⟨some 75, .q (.mv (.t 10)), none⟩, ⟨some 76, .q (.len (.t 75)), none⟩, ⟨some 77, .q (.bin .eql (.t 76) (.c (.int .i64 0))), none⟩, ⟨some 2, .q (.mv (.t 77)), none⟩]
def c4_34 : SCode := .seq (.region c4_33 [2]) .ret
def c4_35 : SCode := .cond (.t 74) c4_34 .skip
def c4_36 : SCode := .seq (.region c4_32 [8, 9, 10, 74]) c4_35
def c4_37 : List SOper := [⟨some 78, .q (.ldn 3 (.t 8)), none⟩, ⟨some 79, .q (.mv (.t 10)), none⟩, ⟨some 80, .e (.call 14 [(.t 78), (.t 79)]), none⟩, ⟨some 81, .q (.mv (.t 9)), none⟩, ⟨some 82, .q (.bin .eql (.t 80) (.t 81)), none⟩, ⟨some 2, .q (.mv (.t 82)), none⟩]
def c4_38 : SCode := .seq (.region c4_37 [2]) .ret
def c4_39 : SCode := .seq c4_36 c4_38
def c4_40 : SCode := .seq c4_31 c4_39
def c4_41 : SCode := .seq (.region c4_24 [8, 9, 10, 11]) c4_40
def c4_42 : SCode := .seq (.region c4_23 [8, 9]) c4_41
def c4_43 : SCode := .seq c4_22 c4_42
def c4_44 : SCode := .seq c4_12 c4_43
def c4_45 : SCode := .seq (.region c4_7 [0, 3, 4, 5]) c4_44
def c4_46 : SCode := .seq (.region c4_6 [0, 3, 4]) c4_45
def c4_47 : SCode := .seq c4_5 c4_46
def c4_48 : SCode := .seq (.region c4_0 [0]) c4_47
def c4 : SCode := c4_48
theorem w4 : type_of% (And.intro (uR Tryz.prog c4_0.eq_1) (And.intro (uR Tryz.prog c4_1.eq_1) (And.intro (uR Tryz.prog c4_2.eq_1) (And.intro (uC Tryz.prog c4_3.eq_1) (And.intro (uC Tryz.prog c4_4.eq_1) (And.intro (uC Tryz.prog c4_5.eq_1) (And.intro (uR Tryz.prog c4_6.eq_1) (And.intro (uR Tryz.prog c4_7.eq_1) (And.intro (uR Tryz.prog c4_8.eq_1) (And.intro (uR Tryz.prog c4_9.eq_1) (And.intro (uC Tryz.prog c4_10.eq_1) (And.intro (uC Tryz.prog c4_11.eq_1) (And.intro (uC Tryz.prog c4_12.eq_1) (And.intro (uR Tryz.prog c4_13.eq_1) (And.intro (uR Tryz.prog c4_14.eq_1) (And.intro (uR Tryz.prog c4_15.eq_1) (And.intro (uR Tryz.prog c4_16.eq_1) (And.intro (uC Tryz.prog c4_17.eq_1) (And.intro (uC Tryz.prog c4_18.eq_1) (And.intro (uC Tryz.prog c4_19.eq_1) (And.intro (uC Tryz.prog c4_20.eq_1) (And.intro (uC Tryz.prog c4_21.eq_1) (And.intro (uC Tryz.prog c4_22.eq_1) (And.intro (uR Tryz.prog c4_23.eq_1) (And.intro (uR Tryz.prog c4_24.eq_1) (And.intro (uR Tryz.prog c4_25.eq_1) (And.intro (uR Tryz.prog c4_26.eq_1) (And.intro (uR Tryz.prog c4_27.eq_1) (And.intro (uC Tryz.prog c4_28.eq_1) (And.intro (uC Tryz.prog c4_29.eq_1) (And.intro (uC Tryz.prog c4_30.eq_1) (And.intro (uC Tryz.prog c4_31.eq_1) (And.intro (uR Tryz.prog c4_32.eq_1) (And.intro (uR Tryz.prog c4_33.eq_1) (And.intro (uC Tryz.prog c4_34.eq_1) (And.intro (uC Tryz.prog c4_35.eq_1) (And.intro (uC Tryz.prog c4_36.eq_1) (And.intro (uR Tryz.prog c4_37.eq_1) (And.intro (uC Tryz.prog c4_38.eq_1) (And.intro (uC Tryz.prog c4_39.eq_1) (And.intro (uC Tryz.prog c4_40.eq_1) (And.intro (uC Tryz.prog c4_41.eq_1) (And.intro (uC Tryz.prog c4_42.eq_1) (And.intro (uC Tryz.prog c4_43.eq_1) (And.intro (uC Tryz.prog c4_44.eq_1) (And.intro (uC Tryz.prog c4_45.eq_1) (And.intro (uC Tryz.prog c4_46.eq_1) (And.intro (uC Tryz.prog c4_47.eq_1) (And.intro (uC Tryz.prog c4_48.eq_1) (uC Tryz.prog c4.eq_1)))))))))))))))))))))))))))))))))))))))))))))))))) := (And.intro (uR Tryz.prog c4_0.eq_1) (And.intro (uR Tryz.prog c4_1.eq_1) (And.intro (uR Tryz.prog c4_2.eq_1) (And.intro (uC Tryz.prog c4_3.eq_1) (And.intro (uC Tryz.prog c4_4.eq_1) (And.intro (uC Tryz.prog c4_5.eq_1) (And.intro (uR Tryz.prog c4_6.eq_1) (And.intro (uR Tryz.prog c4_7.eq_1) (And.intro (uR Tryz.prog c4_8.eq_1) (And.intro (uR Tryz.prog c4_9.eq_1) (And.intro (uC Tryz.prog c4_10.eq_1) (And.intro (uC Tryz.prog c4_11.eq_1) (And.intro (uC Tryz.prog c4_12.eq_1) (And.intro (uR Tryz.prog c4_13.eq_1) (And.intro (uR Tryz.prog c4_14.eq_1) (And.intro (uR Tryz.prog c4_15.eq_1) (And.intro (uR Tryz.prog c4_16.eq_1) (And.intro (uC Tryz.prog c4_17.eq_1) (And.intro (uC Tryz.prog c4_18.eq_1) (And.intro (uC Tryz.prog c4_19.eq_1) (And.intro (uC Tryz.prog c4_20.eq_1) (And.intro (uC Tryz.prog c4_21.eq_1) (And.intro (uC Tryz.prog c4_22.eq_1) (And.intro (uR Tryz.prog c4_23.eq_1) (And.intro (uR Tryz.prog c4_24.eq_1) (And.intro (uR Tryz.prog c4_25.eq_1) (And.intro (uR Tryz.prog c4_26.eq_1) (And.intro (uR Tryz.prog c4_27.eq_1) (And.intro (uC Tryz.prog c4_28.eq_1) (And.intro (uC Tryz.prog c4_29.eq_1) (And.intro (uC Tryz.prog c4_30.eq_1) (And.intro (uC Tryz.prog c4_31.eq_1) (And.intro (uR Tryz.prog c4_32.eq_1) (And.intro (uR Tryz.prog c4_33.eq_1) (And.intro (uC Tryz.prog c4_34.eq_1) (And.intro (uC Tryz.prog c4_35.eq_1) (And.intro (uC Tryz.prog c4_36.eq_1) (And.intro (uR Tryz.prog c4_37.eq_1) (And.intro (uC Tryz.prog c4_38.eq_1) (And.intro (uC Tryz.prog c4_39.eq_1) (And.intro (uC Tryz.prog c4_40.eq_1) (And.intro (uC Tryz.prog c4_41.eq_1) (And.intro (uC Tryz.prog c4_42.eq_1) (And.intro (uC Tryz.prog c4_43.eq_1) (And.intro (uC Tryz.prog c4_44.eq_1) (And.intro (uC Tryz.prog c4_45.eq_1) (And.intro (uC Tryz.prog c4_46.eq_1) (And.intro (uC Tryz.prog c4_47.eq_1) (And.intro (uC Tryz.prog c4_48.eq_1) (uC Tryz.prog c4.eq_1))))))))))))))))))))))))))))))))))))))))))))))))))
def v4 : List RV := [.t 2]
theorem s4 : slimF Tryz.prog Tryz.f4 = some (c4.bare, v4) := by kernel_rfl

theorem FnListBack_ok (h : Heap) (v : Value) (code : List Int) (s : SlT h encByte 1 v code) (hl : code.length ≤ 9223372036854775807) :
    ACall Tryz.prog 4 [v] h fun x h' => x = .bool true := by
  refine ACall.of Tryz.func4 s4 (of_decide_eq_true rfl) ?_
  simp (maxSteps := 4000000) (disch := omega) only [ah, am, Nat.reduceEqDiff, reduceCtorEq, Nat.reduceAdd, Nat.reduceLeDiff, Nat.reduceMul, Nat.reduceLT, if_true, if_false, true_and, and_true, and_self, Nat.reduceBEq, QOp.loads, boxO, bslO, buildO, cutL, fillV, putL, w4, v4]
  refine stepC.of (big_ok _ _ _ s) ?_
  rintro _ Hx ⟨hx, rfl⟩; rw [hx]; clear hx Hx
  by_cases hbig : (4096 : Int) < code.length
  · simp (maxSteps := 4000000) (disch := omega) only [ah, am, Nat.reduceEqDiff, reduceCtorEq, Nat.reduceAdd, Nat.reduceLeDiff, Nat.reduceMul, Nat.reduceLT, if_true, if_false, true_and, and_true, and_self, Nat.reduceBEq, QOp.loads, boxO, bslO, buildO, cutL, fillV, putL, w4, v4, decide_eq_true hbig]
  simp (maxSteps := 4000000) (disch := omega) only [ah, am, Nat.reduceEqDiff, reduceCtorEq, Nat.reduceAdd, Nat.reduceLeDiff, Nat.reduceMul, Nat.reduceLT, if_true, if_false, true_and, and_true, and_self, Nat.reduceBEq, QOp.loads, boxO, bslO, buildO, cutL, fillV, putL, w4, v4, decide_eq_false hbig]
  refine stepC.of (DrawShowList_ok _ _ _ s (by omega)) ?_
  rintro _ K1 ⟨tv, r, t, rfl, e1, st, ht⟩
  have s := s.ext e1
  have B3 := Bx.new K1 (encRate r) []
  have e2 := Ext.more K1 [encRate r]
  simp only [encRate] at B3 e2
  simp (maxSteps := 4000000) (disch := omega) only [ah, am, Nat.reduceEqDiff, reduceCtorEq, Nat.reduceAdd, Nat.reduceLeDiff, Nat.reduceMul, Nat.reduceLT, if_true, if_false, true_and, and_true, and_self, Nat.reduceBEq, QOp.loads, boxO, bslO, buildO, cutL, fillV, putL, w4, v4]
  obtain ⟨K2, hK2⟩ : ∃ K2, K2 = K1.more [[.int .i64 r.num, .int .i64 r.den, .bool r.drop]] := ⟨_, rfl⟩
  obtain ⟨b3, hb3⟩ : ∃ q, q = K1.size := ⟨_, rfl⟩
  rw [← hK2] at B3 e2 ⊢
  rw [← hb3] at B3 ⊢
  have s := s.ext e2
  have st := st.ext e2
  clear hK2 hb3 e1 e2
  have sh := fun K s => ShowList_ok K tv r t s (by omega)
  have sp := fun K s => specShowList_ok K tv r t s (by omega)
  simp only [encRate] at sh sp
  refine stepC.of (sh K2 st) ?_
  rintro _ K3 ⟨e3, rfl⟩
  have s := s.ext e3
  have st := st.ext e3
  have B3 := B3.ext e3
  simp (maxSteps := 4000000) (disch := omega) only [ah, am, Nat.reduceEqDiff, reduceCtorEq, Nat.reduceAdd, Nat.reduceLeDiff, Nat.reduceMul, Nat.reduceLT, if_true, if_false, true_and, and_true, and_self, Nat.reduceBEq, QOp.loads, boxO, bslO, buildO, cutL, fillV, putL, w4, v4, B3.ld]
  refine stepC.of (sp K3 st) ?_
  rintro _ K4 ⟨e4, rfl⟩
  have s := s.ext e4
  have st := st.ext e4
  have B3 := B3.ext e4
  obtain ⟨T, hT⟩ : ∃ T, T = showL r t := ⟨_, rfl⟩
  rw [← hT]
  clear sh sp e3 e4
  have N1 : strB .neq (bL T) (bL T) = some (.bool false) := (strB_neq _ _).trans (by simp)
  have N0 : strB .neq (bL T) ⟨#[]⟩ = some (.bool (!decide (T = []))) := strB_neq _ _
  have hTs : (bL T).size = T.length := bL_size T
  have hTl : T.length ≤ 300000 := by rw [hT]; exact showL_len
  -- the second half
  have rest : ∀ (K : Heap) (R : Env), SlT K encByte 1 v code → SW Tryz.prog c4_42 (retQ v4 fun x h' => x = .bool true) ((0, v) :: R) K := by
    intro K R s
    simp (maxSteps := 4000000) (disch := omega) only [ah, am, Nat.reduceEqDiff, reduceCtorEq, Nat.reduceAdd, Nat.reduceLeDiff, Nat.reduceMul, Nat.reduceLT, if_true, if_false, true_and, and_true, and_self, Nat.reduceBEq, QOp.loads, boxO, bslO, buildO, cutL, fillV, putL, w4, v4]
    refine stepC.of (DrawReadList_ok K v code s (by omega)) ?_
    rintro _ K1 ⟨q, y, rfl, _, hy⟩
    have B8 := Bx.new K1 (encRate q) []
    simp only [encRate] at B8
    have ip := fun K => ReadList_ok K q y (by omega)
    have sp := fun K => specReadList_ok K q y (by omega)
    have sh := fun K u w s => ShowList_ok K u q w s
    simp only [encRate] at ip sp sh
    simp (maxSteps := 4000000) (disch := omega) only [ah, am, Nat.reduceEqDiff, reduceCtorEq, Nat.reduceAdd, Nat.reduceLeDiff, Nat.reduceMul, Nat.reduceLT, if_true, if_false, true_and, and_true, and_self, Nat.reduceBEq, QOp.loads, boxO, bslO, buildO, cutL, fillV, putL, w4, v4]
    obtain ⟨K2, hK2⟩ : ∃ K2, K2 = K1.more [[.int .i64 q.num, .int .i64 q.den, .bool q.drop]] := ⟨_, rfl⟩
    obtain ⟨b8, hb8⟩ : ∃ q, q = K1.size := ⟨_, rfl⟩
    rw [← hK2] at B8 ⊢
    rw [← hb8] at B8 ⊢
    clear hK2 hb8
    refine stepC.of (ip K2) ?_
    rintro _ K3 ⟨u, rfl, F3⟩
    have su := F3.slt
    have B8 := B8.ext F3.1
    clear F3
    have e4 := Ext.more K3 [[.int .i64 (readL q y).2.1, .int .i64 (readL q y).2.2]]
    have B11 := Bx.new K3 [.int .i64 (readL q y).2.1, .int .i64 (readL q y).2.2] []
    simp (maxSteps := 4000000) (disch := omega) only [ah, am, Nat.reduceEqDiff, reduceCtorEq, Nat.reduceAdd, Nat.reduceLeDiff, Nat.reduceMul, Nat.reduceLT, if_true, if_false, true_and, and_true, and_self, Nat.reduceBEq, QOp.loads, boxO, bslO, buildO, cutL, fillV, putL, w4, v4]
    obtain ⟨K4, hK4⟩ : ∃ K4, K4 = K3.more [[.int .i64 (readL q y).2.1, .int .i64 (readL q y).2.2]] := ⟨_, rfl⟩
    obtain ⟨b11, hb11⟩ : ∃ q, q = K3.size := ⟨_, rfl⟩
    rw [← hK4] at e4 B11 ⊢
    rw [← hb11] at B11 ⊢
    have su := su.ext e4
    have B8 := B8.ext e4
    clear hK4 hb11 e4
    simp (maxSteps := 4000000) (disch := omega) only [ah, am, Nat.reduceEqDiff, reduceCtorEq, Nat.reduceAdd, Nat.reduceLeDiff, Nat.reduceMul, Nat.reduceLT, if_true, if_false, true_and, and_true, and_self, Nat.reduceBEq, QOp.loads, boxO, bslO, buildO, cutL, fillV, putL, w4, v4, B8.ld]
    refine stepC.of (sp K4) ?_
    rintro _ K5 ⟨u2, rfl, F5⟩
    have su := su.ext F5.1
    have B8 := B8.ext F5.1
    have B11 := B11.ext F5.1
    clear F5
    have e6 := Ext.more K5 [[.int .i64 (readL q y).2.1, .int .i64 (readL q y).2.2]]
    have B13 := Bx.new K5 [.int .i64 (readL q y).2.1, .int .i64 (readL q y).2.2] []
    have su := su.ext e6
    have B8 := B8.ext e6
    have B11 := B11.ext e6
    have EQ : eqiV true 2 (.agg #[.int .i64 (readL q y).2.1, .int .i64 (readL q y).2.2]) (.agg #[.int .i64 (readL q y).2.1, .int .i64 (readL q y).2.2]) = some (.bool false) := by
      simp [eqiV, intsEq]
    have F := readL_facts q y
    have RS := read_shown (r := q) (x := y)
    have Ru := su.rulesN.1
    have sh2 := sh (K5.more [[.int .i64 (readL q y).2.1, .int .i64 (readL q y).2.2]]) u (readL q y).1 su
    generalize (readL q y).1 = V at *
    generalize (readL q y).2.1 = cd at *
    generalize (readL q y).2.2 = ln at *
    by_cases cz : cd = 0
    · have hV : V.length ≤ 300 := by
        rcases F with F | F
        · exact F.2.1.1.1
        · exact absurd cz F.1
      have hS := RS cz
      simp (maxSteps := 4000000) (disch := omega) only [ah, am, Nat.reduceEqDiff, reduceCtorEq, Nat.reduceAdd, Nat.reduceLeDiff, Nat.reduceMul, Nat.reduceLT, if_true, if_false, true_and, and_true, and_self, Nat.reduceBEq, QOp.loads, boxO, bslO, buildO, cutL, fillV, putL, w4, v4, B11.ld, B13.ld, EQ, decide_eq_true cz, Bool.not_true, B8.ld]
      refine stepC.of (sh2 (by omega)) ?_
      rintro _ K7 ⟨_, rfl⟩
      have N2 : strB .eql (bL (showL q V)) (bL y) = some (.bool true) := by rw [hS]; exact (strB_eql _ _).trans (by simp)
      simp (maxSteps := 4000000) (disch := omega) only [ah, am, Nat.reduceEqDiff, reduceCtorEq, Nat.reduceAdd, Nat.reduceLeDiff, Nat.reduceMul, Nat.reduceLT, if_true, if_false, true_and, and_true, and_self, Nat.reduceBEq, QOp.loads, boxO, bslO, buildO, cutL, fillV, putL, w4, v4, N2]
    · have hV : V = [] := by
        rcases F with F | F
        · exact absurd F.1 cz
        · exact F.2
      rw [hV] at Ru
      have Ru : lenV u = some (.int .i64 0) := Ru
      simp (maxSteps := 4000000) (disch := omega) only [ah, am, Nat.reduceEqDiff, reduceCtorEq, Nat.reduceAdd, Nat.reduceLeDiff, Nat.reduceMul, Nat.reduceLT, if_true, if_false, true_and, and_true, and_self, Nat.reduceBEq, QOp.loads, boxO, bslO, buildO, cutL, fillV, putL, w4, v4, B11.ld, B13.ld, EQ, decide_eq_false cz, Bool.not_false, Ru, eq_self, decide_true]
  rw [c4_43.eq_1]
  generalize c4_42 = fc at rest ⊢
  by_cases t0 : T = []
  · simp (maxSteps := 4000000) (disch := omega) only [ah, am, Nat.reduceEqDiff, reduceCtorEq, Nat.reduceAdd, Nat.reduceLeDiff, Nat.reduceMul, Nat.reduceLT, if_true, if_false, true_and, and_true, and_self, Nat.reduceBEq, QOp.loads, boxO, bslO, buildO, cutL, fillV, putL, w4, v4, N1, N0, decide_eq_true t0, Bool.not_true]
    exact rest K4 _ s
  by_cases t1 : T.length ≤ 20000
  rotate_left
  · simp (maxSteps := 4000000) (disch := omega) only [ah, am, Nat.reduceEqDiff, reduceCtorEq, Nat.reduceAdd, Nat.reduceLeDiff, Nat.reduceMul, Nat.reduceLT, if_true, if_false, true_and, and_true, and_self, Nat.reduceBEq, QOp.loads, boxO, bslO, buildO, cutL, fillV, putL, w4, v4, N1, N0, decide_eq_false t0, Bool.not_false, hTs, decide_eq_false (show ¬ (T.length : Int) ≤ 20000 by omega)]
    exact rest K4 _ s
  have back := shown_read (r := r) (t := t) (by rw [← hT]; exact t0) (by rw [← hT]; exact t1)
  rw [← hT] at back
  have ip := ReadList_ok K4 r T (by omega)
  rw [back] at ip
  simp only [encRate] at ip
  have tk : trackOk t := Classical.byContradiction fun q => t0 (by rw [hT]; exact showL_bad fun k => q k.2)
  simp (maxSteps := 4000000) (disch := omega) only [ah, am, Nat.reduceEqDiff, reduceCtorEq, Nat.reduceAdd, Nat.reduceLeDiff, Nat.reduceMul, Nat.reduceLT, if_true, if_false, true_and, and_true, and_self, Nat.reduceBEq, QOp.loads, boxO, bslO, buildO, cutL, fillV, putL, w4, v4, N1, N0, decide_eq_false t0, Bool.not_false, hTs, decide_eq_true (show (T.length : Int) ≤ 20000 by omega), B3.ld]
  refine stepC.of ip ?_
  rintro _ K5 ⟨u, rfl, F5⟩
  have e6 := Ext.more K5 [[.int .i64 0, .int .i64 0]]
  have B7 := Bx.new K5 [.int .i64 0, .int .i64 0] []
  have su := F5.slt.ext e6
  have st := (st.ext F5.1).ext e6
  have s := (s.ext F5.1).ext e6
  simp (maxSteps := 4000000) (disch := omega) only [ah, am, Nat.reduceEqDiff, reduceCtorEq, Nat.reduceAdd, Nat.reduceLeDiff, Nat.reduceMul, Nat.reduceLT, if_true, if_false, true_and, and_true, and_self, Nat.reduceBEq, QOp.loads, boxO, bslO, buildO, cutL, fillV, putL, w4, v4, B7.ld, eq_self, decide_true, Bool.not_true]
  obtain ⟨K6, hK6⟩ : ∃ K6, K6 = K5.more [[.int .i64 0, .int .i64 0]] := ⟨_, rfl⟩
  rw [← hK6] at su st s ⊢
  refine stepC.of (Joined_ok K6 tv t st (by omega)) ?_
  intro jv K7 F7
  have hj : joinedI t = join t := if_pos tk
  rw [hj] at F7
  have hjl := join_length t
  simp (maxSteps := 4000000) (disch := omega) only [ah, am, Nat.reduceEqDiff, reduceCtorEq, Nat.reduceAdd, Nat.reduceLeDiff, Nat.reduceMul, Nat.reduceLT, if_true, if_false, true_and, and_true, and_self, Nat.reduceBEq, QOp.loads, boxO, bslO, buildO, cutL, fillV, putL, w4, v4]
  refine stepC.of (sameClips_ok K7 u jv (join t) (join t) (su.ext F7.1) F7.slt (by omega) (by omega)) ?_
  rintro _ Hx ⟨hx, rfl⟩; rw [hx]; clear hx Hx
  simp (maxSteps := 4000000) (disch := omega) only [ah, am, Nat.reduceEqDiff, reduceCtorEq, Nat.reduceAdd, Nat.reduceLeDiff, Nat.reduceMul, Nat.reduceLT, if_true, if_false, true_and, and_true, and_self, Nat.reduceBEq, QOp.loads, boxO, bslO, buildO, cutL, fillV, putL, w4, v4, eq_self, decide_true, Bool.not_true]
  exact rest K7 _ (s.ext F7.1)
end Go.Proofs.YtgmimgmdbpcecaaGreatDoor
end
