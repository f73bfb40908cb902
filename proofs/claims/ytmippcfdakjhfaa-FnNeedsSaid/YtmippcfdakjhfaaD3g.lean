import Derived.Test.YtmippcfdakjhfaaD2g
namespace Go.Proofs.Ytmippcfdakjhfaa
open Go Go.Ah
set_option linter.unusedSimpArgs false
set_option linter.unusedVariables false
set_option maxRecDepth 10000
set_option maxHeartbeats 4000000
/-! 38 loop.example/g00066/spec.l4DrawTrack: parameters 1, live [0], slots [0:c, 1:c, 3:out, 4:n, 5:k, 6:last, 7:i] -/
def c38_0 : List SOper := [⟨some 2, .q (.mv (.c (.slice none 0 0))), none⟩]
def c38_1 : List SOper := [⟨some 8, .a (.bsl 0 3 [] []), none⟩, ⟨some 3, .q (.mv (.t 8)), none⟩]
def c38_2 : List SOper := [⟨some 9, .q (.mv (.t 0)), none⟩, ⟨some 10, .e (.call 37 [(.t 9), (.c (.int .i64 8))]), none⟩, ⟨some 4, .q (.mv (.t 10)), none⟩]
def c38_3 : List SOper := [⟨some 11, .q (.mv (.t 4)), none⟩, ⟨some 12, .q (.bin .gtr (.t 11) (.c (.int .i64 0))), none⟩]
def c38_4 : SCode := .cond (.t 12) .skip (.exit 0)
def c38_5 : SCode := .seq (.region c38_3 [0, 3, 4, 12]) c38_4
def c38_6 : List SOper := [⟨some 15, .q (.mv (.t 0)), none⟩, ⟨some 16, .e (.call 60 [(.t 15)]), none⟩, ⟨some 5, .a (.new [(.int .i64 0), (.int .i64 0), (.int .i64 0)]), none⟩, ⟨none, .e (.st 3 (.t 5) (.t 16)), none⟩]
def c38_7 : List SOper := [⟨some 17, .q (.mv (.t 3)), none⟩, ⟨some 18, .q (.len (.t 17)), none⟩, ⟨some 19, .q (.bin .gtr (.t 18) (.c (.int .i64 0))), none⟩, ⟨some 20, .q (.mv (.t 19)), none⟩, ⟨some 21, .q (.mv (.t 0)), some (20, true)⟩, ⟨some 22, .e (.call 36 [(.t 21), (.c (.int .i64 5))]), some (20, true)⟩, ⟨some 23, .q (.pick (.t 20) (.t 22) (.c (.bool false))), none⟩]
def c38_8 : List SOper := [⟨some 24, .q (.mv (.t 3)), none⟩, ⟨some 25, .q (.mv (.t 3)), none⟩, ⟨some 26, .q (.len (.t 25)), none⟩, ⟨some 27, .q (.bin .sub (.t 26) (.c (.int .i64 1))), none⟩, ⟨some 28, .q (.ia 3 (.t 24) (.t 27)), none⟩, ⟨some 29, .q (.ldn 3 (.t 28)), none⟩, ⟨some 6, .a (.new [(.int .i64 0), (.int .i64 0), (.int .i64 0)]), none⟩, ⟨none, .e (.st 3 (.t 6) (.t 29)), none⟩]
def c38_9 : List SOper := [⟨some 30, .q (.fa 0 (.t 6)), none⟩, ⟨some 31, .q (.ld (.t 30)), none⟩, ⟨some 32, .q (.fa 0 (.t 5)), none⟩, ⟨none, .e (.st 1 (.t 32) (.t 31)), none⟩]
def c38_10 : List SOper := [⟨some 33, .q (.fa 1 (.t 6)), none⟩, ⟨some 34, .q (.ld (.t 33)), none⟩, ⟨some 35, .q (.fa 2 (.t 6)), none⟩, ⟨some 36, .q (.ld (.t 35)), none⟩, ⟨some 37, .q (.bin .add (.t 34) (.t 36)), none⟩, ⟨some 38, .q (.fa 1 (.t 5)), none⟩, ⟨none, .e (.st 1 (.t 38) (.t 37)), none⟩]
def c38_11 : List SOper := [⟨some 39, .q (.fa 0 (.t 5)), none⟩, ⟨some 40, .q (.ld (.t 39)), none⟩, ⟨some 41, .q (.bin .eql (.t 40) (.c (.int .i64 0))), none⟩]
def c38_12 : List SOper := [⟨some 42, .q (.fa 1 (.t 5)), none⟩, ⟨none, .e (.st 1 (.t 42) (.c (.int .i64 0))), none⟩]
def c38_13 : SCode := .cond (.t 41) (.region c38_12 [0, 3, 4, 5]) .skip
def c38_14 : SCode := .seq (.region c38_11 [0, 3, 4, 5, 41]) c38_13
def c38_15 : SCode := .seq (.region c38_10 [0, 3, 4, 5]) c38_14
def c38_16 : SCode := .seq (.region c38_9 [0, 3, 4, 5, 6]) c38_15
def c38_17 : SCode := .seq (.region c38_8 [0, 3, 4, 5, 6]) c38_16
def c38_18 : SCode := .cond (.t 23) c38_17 .skip
def c38_19 : SCode := .seq (.region c38_7 [0, 3, 4, 5, 23]) c38_18
def c38_20 : List SOper := [⟨some 43, .q (.mv (.t 3)), none⟩, ⟨some 44, .q (.ldn 3 (.t 5)), none⟩, ⟨some 45, .a (.bsl 1 3 [(.int .i64 0), (.int .i64 0), (.int .i64 0)] [(0, 3, (.t 44))]), none⟩, ⟨some 46, .e (.app 24 3 (.t 43) (.t 45)), none⟩, ⟨some 3, .q (.mv (.t 46)), none⟩]
def c38_21 : SCode := .seq c38_19 (.region c38_20 [0, 3, 4])
def c38_22 : SCode := .seq (.region c38_6 [0, 3, 4, 5]) c38_21
def c38_23 : SCode := .block 1 c38_22
def c38_24 : List SOper := [⟨some 13, .q (.mv (.t 4)), none⟩, ⟨some 14, .q (.bin .sub (.t 13) (.c (.int .i64 1))), none⟩, ⟨some 4, .q (.mv (.t 14)), none⟩]
def c38_25 : SCode := .seq c38_23 (.region c38_24 [0, 3, 4])
def c38_26 : SCode := .seq c38_5 c38_25
def c38_27 : SCode := .loop c38_26
def c38_28 : SCode := .block 0 c38_27
def c38_29 : SCode := .seq (.region c38_2 [0, 3, 4]) c38_28
def c38_30 : List SOper := [⟨some 47, .q (.mv (.t 0)), none⟩, ⟨some 48, .e (.call 36 [(.t 47), (.c (.int .i64 60))]), none⟩]
def c38_31 : List SOper := [⟨some 49, .a (.bsl 0 3 [] []), none⟩, ⟨some 3, .q (.mv (.t 49)), none⟩]
def c38_32 : List SOper := [⟨some 7, .q (.mv (.c (.int .i64 0))), none⟩]
def c38_33 : List SOper := [⟨some 50, .q (.mv (.t 7)), none⟩, ⟨some 51, .q (.mv (.t 0)), none⟩, ⟨some 52, .e (.call 37 [(.t 51), (.c (.int .i64 2))]), none⟩, ⟨some 53, .q (.bin .add (.c (.int .i64 300)) (.t 52)), none⟩, ⟨some 54, .q (.bin .lss (.t 50) (.t 53)), none⟩]
def c38_34 : SCode := .cond (.t 54) .skip (.exit 2)
def c38_35 : SCode := .seq (.region c38_33 [0, 3, 7, 54]) c38_34
def c38_36 : List SOper := [⟨some 57, .q (.mv (.t 3)), none⟩, ⟨some 58, .q (.mv (.t 7)), none⟩, ⟨some 59, .q (.bin .rem (.t 58) (.c (.int .i64 2))), none⟩, ⟨some 60, .q (.bin .add (.c (.int .i64 1)) (.t 59)), none⟩, ⟨some 61, .q (.mv (.t 7)), none⟩, ⟨some 62, .q (.build [(.int .i64 0), (.int .i64 0), (.int .i64 0)] [(0, 1, (.t 60)), (1, 1, (.t 61)), (2, 1, (.c (.int .i64 1)))]), none⟩, ⟨some 63, .a (.bsl 1 3 [(.int .i64 0), (.int .i64 0), (.int .i64 0)] [(0, 3, (.t 62))]), none⟩, ⟨some 64, .e (.app 24 3 (.t 57) (.t 63)), none⟩, ⟨some 3, .q (.mv (.t 64)), none⟩]
def c38_37 : SCode := .block 3 (.region c38_36 [0, 3, 7])
def c38_38 : List SOper := [⟨some 55, .q (.mv (.t 7)), none⟩, ⟨some 56, .q (.bin .add (.t 55) (.c (.int .i64 1))), none⟩, ⟨some 7, .q (.mv (.t 56)), none⟩]
def c38_39 : SCode := .seq c38_37 (.region c38_38 [0, 3, 7])
def c38_40 : SCode := .seq c38_35 c38_39
def c38_41 : SCode := .loop c38_40
def c38_42 : SCode := .block 2 c38_41
def c38_43 : SCode := .seq (.region c38_32 [0, 3, 7]) c38_42
def c38_44 : SCode := .seq (.region c38_31 [0, 3]) c38_43
def c38_45 : SCode := .cond (.t 48) c38_44 .skip
def c38_46 : SCode := .seq (.region c38_30 [0, 3, 48]) c38_45
def c38_47 : List SOper := [⟨some 65, .q (.mv (.t 3)), none⟩, ⟨some 2, .q (.mv (.t 65)), none⟩]
def c38_48 : SCode := .seq (.region c38_47 [2]) .ret
def c38_49 : SCode := .seq c38_46 c38_48
def c38_50 : SCode := .seq c38_29 c38_49
def c38_51 : SCode := .seq (.region c38_1 [0, 3]) c38_50
def c38_52 : SCode := .seq (.region c38_0 [0]) c38_51
def c38 : SCode := c38_52
theorem w38 : type_of% (And.intro (uR Try.prog c38_0.eq_1) (And.intro (uR Try.prog c38_1.eq_1) (And.intro (uR Try.prog c38_2.eq_1) (And.intro (uR Try.prog c38_3.eq_1) (And.intro (uC Try.prog c38_4.eq_1) (And.intro (uC Try.prog c38_5.eq_1) (And.intro (uR Try.prog c38_6.eq_1) (And.intro (uR Try.prog c38_7.eq_1) (And.intro (uR Try.prog c38_8.eq_1) (And.intro (uR Try.prog c38_9.eq_1) (And.intro (uR Try.prog c38_10.eq_1) (And.intro (uR Try.prog c38_11.eq_1) (And.intro (uR Try.prog c38_12.eq_1) (And.intro (uC Try.prog c38_13.eq_1) (And.intro (uC Try.prog c38_14.eq_1) (And.intro (uC Try.prog c38_15.eq_1) (And.intro (uC Try.prog c38_16.eq_1) (And.intro (uC Try.prog c38_17.eq_1) (And.intro (uC Try.prog c38_18.eq_1) (And.intro (uC Try.prog c38_19.eq_1) (And.intro (uR Try.prog c38_20.eq_1) (And.intro (uC Try.prog c38_21.eq_1) (And.intro (uC Try.prog c38_22.eq_1) (And.intro (uC Try.prog c38_23.eq_1) (And.intro (uR Try.prog c38_24.eq_1) (And.intro (uC Try.prog c38_25.eq_1) (And.intro (uC Try.prog c38_26.eq_1) (And.intro (uC Try.prog c38_27.eq_1) (And.intro (uC Try.prog c38_28.eq_1) (And.intro (uC Try.prog c38_29.eq_1) (And.intro (uR Try.prog c38_30.eq_1) (And.intro (uR Try.prog c38_31.eq_1) (And.intro (uR Try.prog c38_32.eq_1) (And.intro (uR Try.prog c38_33.eq_1) (And.intro (uC Try.prog c38_34.eq_1) (And.intro (uC Try.prog c38_35.eq_1) (And.intro (uR Try.prog c38_36.eq_1) (And.intro (uC Try.prog c38_37.eq_1) (And.intro (uR Try.prog c38_38.eq_1) (And.intro (uC Try.prog c38_39.eq_1) (And.intro (uC Try.prog c38_40.eq_1) (And.intro (uC Try.prog c38_41.eq_1) (And.intro (uC Try.prog c38_42.eq_1) (And.intro (uC Try.prog c38_43.eq_1) (And.intro (uC Try.prog c38_44.eq_1) (And.intro (uC Try.prog c38_45.eq_1) (And.intro (uC Try.prog c38_46.eq_1) (And.intro (uR Try.prog c38_47.eq_1) (And.intro (uC Try.prog c38_48.eq_1) (And.intro (uC Try.prog c38_49.eq_1) (And.intro (uC Try.prog c38_50.eq_1) (And.intro (uC Try.prog c38_51.eq_1) (And.intro (uC Try.prog c38_52.eq_1) (uC Try.prog c38.eq_1)))))))))))))))))))))))))))))))))))))))))))))))))))))) := (And.intro (uR Try.prog c38_0.eq_1) (And.intro (uR Try.prog c38_1.eq_1) (And.intro (uR Try.prog c38_2.eq_1) (And.intro (uR Try.prog c38_3.eq_1) (And.intro (uC Try.prog c38_4.eq_1) (And.intro (uC Try.prog c38_5.eq_1) (And.intro (uR Try.prog c38_6.eq_1) (And.intro (uR Try.prog c38_7.eq_1) (And.intro (uR Try.prog c38_8.eq_1) (And.intro (uR Try.prog c38_9.eq_1) (And.intro (uR Try.prog c38_10.eq_1) (And.intro (uR Try.prog c38_11.eq_1) (And.intro (uR Try.prog c38_12.eq_1) (And.intro (uC Try.prog c38_13.eq_1) (And.intro (uC Try.prog c38_14.eq_1) (And.intro (uC Try.prog c38_15.eq_1) (And.intro (uC Try.prog c38_16.eq_1) (And.intro (uC Try.prog c38_17.eq_1) (And.intro (uC Try.prog c38_18.eq_1) (And.intro (uC Try.prog c38_19.eq_1) (And.intro (uR Try.prog c38_20.eq_1) (And.intro (uC Try.prog c38_21.eq_1) (And.intro (uC Try.prog c38_22.eq_1) (And.intro (uC Try.prog c38_23.eq_1) (And.intro (uR Try.prog c38_24.eq_1) (And.intro (uC Try.prog c38_25.eq_1) (And.intro (uC Try.prog c38_26.eq_1) (And.intro (uC Try.prog c38_27.eq_1) (And.intro (uC Try.prog c38_28.eq_1) (And.intro (uC Try.prog c38_29.eq_1) (And.intro (uR Try.prog c38_30.eq_1) (And.intro (uR Try.prog c38_31.eq_1) (And.intro (uR Try.prog c38_32.eq_1) (And.intro (uR Try.prog c38_33.eq_1) (And.intro (uC Try.prog c38_34.eq_1) (And.intro (uC Try.prog c38_35.eq_1) (And.intro (uR Try.prog c38_36.eq_1) (And.intro (uC Try.prog c38_37.eq_1) (And.intro (uR Try.prog c38_38.eq_1) (And.intro (uC Try.prog c38_39.eq_1) (And.intro (uC Try.prog c38_40.eq_1) (And.intro (uC Try.prog c38_41.eq_1) (And.intro (uC Try.prog c38_42.eq_1) (And.intro (uC Try.prog c38_43.eq_1) (And.intro (uC Try.prog c38_44.eq_1) (And.intro (uC Try.prog c38_45.eq_1) (And.intro (uC Try.prog c38_46.eq_1) (And.intro (uR Try.prog c38_47.eq_1) (And.intro (uC Try.prog c38_48.eq_1) (And.intro (uC Try.prog c38_49.eq_1) (And.intro (uC Try.prog c38_50.eq_1) (And.intro (uC Try.prog c38_51.eq_1) (And.intro (uC Try.prog c38_52.eq_1) (uC Try.prog c38.eq_1))))))))))))))))))))))))))))))))))))))))))))))))))))))
def v38 : List RV := [.t 2]
theorem s38 : slimF Try.prog Try.f38 = some (c38.bare, v38) := by kernel_rfl

def drawnL (l : List Clip) : Prop := (∀ k ∈ l, drawn k) ∧ l.length ≤ 301
def stayC (b a : Clip) : Clip := ⟨b.src, if b.src = 0 then 0 else IntKind.i64.wrap (b.inn + b.len), a.len⟩
def manyC (i : Nat) : Clip := ⟨1 + (i : Int).tmod 2, i, 1⟩
theorem l4DrawTrack_ok (h : Heap) (c : Nat) (k : Cur h c) : ACall Try.prog 38 [.pointer (some ⟨c, 0, none⟩)] h fun r h' => ∃ l, Fk [c] h h' encClip 3 r l [] ∧ Cur h' c ∧ drawnL l := by
  refine ACall.of Try.func38 s38 (of_decide_eq_true rfl) ?_
  have hc := k.lt
  have hm : c ∈ [c] := by simp
  simp (maxSteps := 4000000) (disch := omega) only [ah, am, Nat.reduceEqDiff, reduceCtorEq, Nat.reduceAdd, Nat.reduceLeDiff, Nat.reduceMul, Nat.reduceLT, if_true, if_false, true_and, and_true, and_self, Nat.reduceBEq, QOp.loads, boxO, bslO, buildO, cutL, fillV, putL, w38, v38]
  refine stepC.of (l1Below_ok _ _ _ (k.ext (Ext.more h [[]]))) ?_
  rintro _ H1 ⟨n0, rfl, n1, n2, _, g1, k1⟩
  have n3 : n0 < 8 := n2 (by omega)
  have F0 : Fk [c] h H1 encClip 3 (.slice (some ⟨h.size, 0, none⟩) 0 3) ([] : List Clip) [] := (Fk.of (Fresh.new0 h encClip_len (by omega))).stepG g1 hm hc
  simp (maxSteps := 4000000) (disch := omega) only [ah, am, Nat.reduceEqDiff, reduceCtorEq, Nat.reduceAdd, Nat.reduceLeDiff, Nat.reduceMul, Nat.reduceLT, if_true, if_false, true_and, and_true, and_self, Nat.reduceBEq, QOp.loads, boxO, bslO, buildO, cutL, fillV, putL, w38, v38]
  refine SW_loop_up (fun i E H => ∃ ov l, E = [(0, .pointer (some ⟨c, 0, none⟩)), (3, ov), (4, .int .i64 (n0 - i))] ∧ Fk [c] h H encClip 3 ov l [] ∧ Cur H c ∧ (∀ k ∈ l, drawn k) ∧ l.length ≤ i) n0.toNat 0 (by omega)
    ⟨.slice (some ⟨h.size, 0, none⟩) 0 3, [], by simp, F0, k1, by simp, by simp⟩ ?_
  rintro i E H hi ⟨ov, l, rfl, F, kH, A, hl⟩
  simp (maxSteps := 4000000) (disch := omega) only [ah, am, Nat.reduceEqDiff, reduceCtorEq, Nat.reduceAdd, Nat.reduceLeDiff, Nat.reduceMul, Nat.reduceLT, if_true, if_false, true_and, and_true, and_self, Nat.reduceBEq, QOp.loads, boxO, bslO, buildO, cutL, fillV, putL, w38, v38]
  refine stepI.split (fun hp => ?_) (fun hp => ?_)
  · have W : IntKind.i64.wrap (n0 - (i : Int) - 1) = n0 - ((i + 1 : Nat) : Int) := i64e (by omega) (by omega)
    have A2 : ∀ a : Clip, drawn a → ∀ k ∈ l ++ [a], drawn k := by
      intro a da k hk
      simp only [List.mem_append, List.mem_singleton] at hk
      rcases hk with hk | rfl
      · exact A k hk
      · exact da
    simp (maxSteps := 4000000) (disch := omega) only [ah, am, Nat.reduceEqDiff, reduceCtorEq, Nat.reduceAdd, Nat.reduceLeDiff, Nat.reduceMul, Nat.reduceLT, if_true, if_false, true_and, and_true, and_self, Nat.reduceBEq, QOp.loads, boxO, bslO, buildO, cutL, fillV, putL, w38, v38]
    refine stepC.of (l4DrawClip_ok _ _ kH) ?_
    rintro _ H2 ⟨a, rfl, da, g2, k2⟩
    have F2 := F.stepG g2 hm hc
    have R := F2.slt.rules
    by_cases h0 : l.length = 0
    · have h0' : decide (0 < (l.length : Int)) = false := decide_eq_false (by omega)
      obtain ⟨v2, H3, ea, F3, g, hg, G⟩ := F2.app1g [encClip a] a (bytes := 24) (by omega)
      simp only [boxesAt, List.cons_append, List.append_nil, List.nil_append, List.length_nil, List.length_cons, Nat.zero_add, Nat.add_zero, encClip] at ea G
      simp (maxSteps := 4000000) (disch := omega) only [ah, am, Nat.reduceEqDiff, reduceCtorEq, Nat.reduceAdd, Nat.reduceLeDiff, Nat.reduceMul, Nat.reduceLT, if_true, if_false, true_and, and_true, and_self, Nat.reduceBEq, QOp.loads, boxO, bslO, buildO, cutL, fillV, putL, w38, v38, R, h0', ea, W, encClip]
      exact ⟨by omega, _, l ++ [a], rfl, F3.bare, (k2.ext (Ext.more _ _)).step G (by omega), A2 a da, by simp; omega⟩
    · have h0' : decide (0 < (l.length : Int)) = true := decide_eq_true (by omega)
      have F3 : Fk [c] h (H2.more [encClip a]) encClip 3 ov l [(H2.size, encClip a)] := F2.more [encClip a]
      have k3 := k2.ext (Ext.more H2 [encClip a])
      have R3 := F3.slt.rules
      have on := l1Once_ok (H2.more [encClip a]) c 5 k3
      simp only [encClip] at on R3
      simp (maxSteps := 4000000) (disch := omega) only [ah, am, Nat.reduceEqDiff, reduceCtorEq, Nat.reduceAdd, Nat.reduceLeDiff, Nat.reduceMul, Nat.reduceLT, if_true, if_false, true_and, and_true, and_self, Nat.reduceBEq, QOp.loads, boxO, bslO, buildO, cutL, fillV, putL, w38, v38, R3, h0', encClip]
      refine stepC.of on ?_
      rintro _ H4 ⟨b, rfl, g4, k4⟩
      have F4 := F3.stepG g4 hm hc
      have X4 := F4.ld (i := H2.size) (cs := encClip a) (by simp)
      simp only [encClip] at X4
      cases b with
      | false =>
        obtain ⟨v2, H5, ea, F5, g, hg, G⟩ := F4.app1g [] a (bytes := 24) (by omega)
        simp only [boxesAt, List.cons_append, List.append_nil, List.nil_append, List.length_nil, List.length_cons, Nat.zero_add, Nat.add_zero, encClip] at ea G
        simp (maxSteps := 4000000) (disch := omega) only [ah, am, Nat.reduceEqDiff, reduceCtorEq, Nat.reduceAdd, Nat.reduceLeDiff, Nat.reduceMul, Nat.reduceLT, if_true, if_false, true_and, and_true, and_self, Nat.reduceBEq, QOp.loads, boxO, bslO, buildO, cutL, fillV, putL, w38, v38, X4, h0', ea, W, encClip]
        exact ⟨by omega, _, l ++ [a], rfl, F5.bare, (k4.ext (Ext.more _ _)).step G (by omega), A2 a da, by simp; omega⟩
      | true =>
        have hl1 : l.length - 1 < l.length := by omega
        have hin := List.getElem_mem hl1
        have db := A _ hin
        have W4 : IntKind.i64.wrap ((l.length : Int) - 1) = (l.length : Int) - 1 := i64w (by omega)
        have T : ((l.length : Int) - 1).toNat = l.length - 1 := by omega
        have R4 := F4.slt.rules
        have F5 : Fk [c] h (H4.more [encClip l[l.length - 1]]) encClip 3 ov l [(H2.size, encClip a), (H4.size, encClip l[l.length - 1])] := F4.more [encClip l[l.length - 1]]
        have hne : H2.size ≠ H4.size := by have := Heap.get_lt (F4.box (H2.size, encClip a) (by simp)).2; simp only at this; omega
        have k5 := k4.ext (Ext.more H4 [encClip l[l.length - 1]])
        obtain ⟨H6, es1, F6, G6, q6⟩ := F5.put2 hne (o := 0) (n := 1) (y := .int .i64 (l[l.length - 1]).src) rfl (by simp [encClip]) rfl
        simp only [splice, cells_int, encClip, List.take_succ_cons, List.take_zero, List.cons_append, List.nil_append, List.append_nil, List.length_cons, List.length_nil, List.drop_succ_cons, List.drop_zero, Nat.reduceAdd] at F6 es1
        have k6 := k5.step G6 (by omega)
        have X6a := F6.ld (i := H2.size) (List.mem_cons_self ..)
        have X6b := F6.ld (i := H4.size) (List.mem_cons_of_mem _ (List.mem_cons_self ..))
        obtain ⟨H7, es2, F7, G7, q7⟩ := F6.put2 hne (o := 1) (n := 1) (y := .int .i64 (IntKind.i64.wrap ((l[l.length - 1]).inn + (l[l.length - 1]).len))) rfl (by simp) rfl
        simp only [splice, cells_int, encClip, List.take_succ_cons, List.take_zero, List.cons_append, List.nil_append, List.append_nil, List.length_cons, List.length_nil, List.drop_succ_cons, List.drop_zero, Nat.reduceAdd] at F7 es2
        have k7 := k6.step G7 (by omega)
        have X7a := F7.ld (i := H2.size) (List.mem_cons_self ..)
        have X7b := F7.ld (i := H4.size) (List.mem_cons_of_mem _ (List.mem_cons_self ..))
        have R5 := F5.slt.rules
        simp only [encClip] at R5
        by_cases hs : (l[l.length - 1]).src = 0
        · have hs' : decide ((l[l.length - 1]).src = 0) = true := decide_eq_true hs
          obtain ⟨H8, es3, F8, G8, q8⟩ := F7.put2 hne (o := 1) (n := 1) (y := .int .i64 0) rfl (by simp) rfl
          simp only [splice, cells_int, encClip, List.take_succ_cons, List.take_zero, List.cons_append, List.nil_append, List.append_nil, List.length_cons, List.length_nil, List.drop_succ_cons, List.drop_zero, Nat.reduceAdd] at F8 es3
          have k8 := k7.step G8 (by omega)
          have X8a := F8.ld (i := H2.size) (List.mem_cons_self ..)
          obtain ⟨v2, H9, ea, F9, g, hg, G⟩ := F8.app1g [] ⟨(l[l.length - 1]).src, 0, a.len⟩ (bytes := 24) (by omega)
          simp only [boxesAt, List.cons_append, List.append_nil, List.nil_append, List.length_nil, List.length_cons, Nat.zero_add, Nat.add_zero, encClip] at ea G
          simp (maxSteps := 4000000) (disch := omega) only [ah, am, Nat.reduceEqDiff, reduceCtorEq, Nat.reduceAdd, Nat.reduceLeDiff, Nat.reduceMul, Nat.reduceLT, if_true, if_false, true_and, and_true, and_self, Nat.reduceBEq, QOp.loads, boxO, bslO, buildO, cutL, fillV, putL, w38, v38, X4, X6a, X6b, X7a, X7b, X8a, R4, R5, h0', hs', es1, es2, es3, ea, W, W4, T, encClip]
          exact ⟨by omega, _, l ++ [⟨(l[l.length - 1]).src, 0, a.len⟩], rfl, F9.bare, (k8.ext (Ext.more _ _)).step G (by omega), A2 _ db, by simp; omega⟩
        · have hs' : decide ((l[l.length - 1]).src = 0) = false := decide_eq_false hs
          obtain ⟨v2, H9, ea, F9, g, hg, G⟩ := F7.app1g [] ⟨(l[l.length - 1]).src, IntKind.i64.wrap ((l[l.length - 1]).inn + (l[l.length - 1]).len), a.len⟩ (bytes := 24) (by omega)
          simp only [boxesAt, List.cons_append, List.append_nil, List.nil_append, List.length_nil, List.length_cons, Nat.zero_add, Nat.add_zero, encClip] at ea G
          simp (maxSteps := 4000000) (disch := omega) only [ah, am, Nat.reduceEqDiff, reduceCtorEq, Nat.reduceAdd, Nat.reduceLeDiff, Nat.reduceMul, Nat.reduceLT, if_true, if_false, true_and, and_true, and_self, Nat.reduceBEq, QOp.loads, boxO, bslO, buildO, cutL, fillV, putL, w38, v38, X4, X6a, X6b, X7a, X7b, R4, R5, h0', hs', es1, es2, ea, W, W4, T, encClip]
          exact ⟨by omega, _, l ++ [⟨(l[l.length - 1]).src, IntKind.i64.wrap ((l[l.length - 1]).inn + (l[l.length - 1]).len), a.len⟩], rfl, F9.bare, (k7.ext (Ext.more _ _)).step G (by omega), A2 _ db, by simp; omega⟩
  · simp (maxSteps := 4000000) (disch := omega) only [ah, am, Nat.reduceEqDiff, reduceCtorEq, Nat.reduceAdd, Nat.reduceLeDiff, Nat.reduceMul, Nat.reduceLT, if_true, if_false, true_and, and_true, and_self, Nat.reduceBEq, QOp.loads, boxO, bslO, buildO, cutL, fillV, putL, w38, v38]
    refine stepC.of (l1Once_ok _ _ _ kH) ?_
    rintro _ H2 ⟨b, rfl, g2, k2⟩
    have F2 := F.stepG g2 hm hc
    cases b with
    | false =>
      simp (maxSteps := 4000000) (disch := omega) only [ah, am, Nat.reduceEqDiff, reduceCtorEq, Nat.reduceAdd, Nat.reduceLeDiff, Nat.reduceMul, Nat.reduceLT, if_true, if_false, true_and, and_true, and_self, Nat.reduceBEq, QOp.loads, boxO, bslO, buildO, cutL, fillV, putL, w38, v38]
      exact ⟨l, F2, k2, A, by omega⟩
    | true =>
      simp (maxSteps := 4000000) (disch := omega) only [ah, am, Nat.reduceEqDiff, reduceCtorEq, Nat.reduceAdd, Nat.reduceLeDiff, Nat.reduceMul, Nat.reduceLT, if_true, if_false, true_and, and_true, and_self, Nat.reduceBEq, QOp.loads, boxO, bslO, buildO, cutL, fillV, putL, w38, v38]
      have F3 : Fk [c] h (H2.more [[]]) encClip 3 (.slice (some ⟨H2.size, 0, none⟩) 0 3) ([] : List Clip) [] := (Fk.of (Fresh.new0 H2 encClip_len (by omega))).mono F2.ext
      refine SW_loop_up (fun i E H => ∃ ov l, E = [(0, .pointer (some ⟨c, 0, none⟩)), (3, ov), (7, .int .i64 i)] ∧ Fk [c] h H encClip 3 ov l [] ∧ Cur H c ∧ (∀ k ∈ l, drawn k) ∧ l.length ≤ i) 301 0 (by omega)
        ⟨.slice (some ⟨H2.size, 0, none⟩) 0 3, [], by simp, F3, k2.ext (Ext.more _ _), by simp, by simp⟩ ?_
      rintro i E H hi ⟨ov, l, rfl, F, kH, A, hl⟩
      simp (maxSteps := 4000000) (disch := omega) only [ah, am, Nat.reduceEqDiff, reduceCtorEq, Nat.reduceAdd, Nat.reduceLeDiff, Nat.reduceMul, Nat.reduceLT, if_true, if_false, true_and, and_true, and_self, Nat.reduceBEq, QOp.loads, boxO, bslO, buildO, cutL, fillV, putL, w38, v38]
      refine stepC.of (l1Below_ok _ _ _ kH) ?_
      rintro _ H3 ⟨x, rfl, x1, x2, _, g3, k3⟩
      have x3 : x < 2 := x2 (by omega)
      have F3 := F.stepG g3 hm hc
      simp (maxSteps := 4000000) (disch := omega) only [ah, am, Nat.reduceEqDiff, reduceCtorEq, Nat.reduceAdd, Nat.reduceLeDiff, Nat.reduceMul, Nat.reduceLT, if_true, if_false, true_and, and_true, and_self, Nat.reduceBEq, QOp.loads, boxO, bslO, buildO, cutL, fillV, putL, w38, v38, i64w]
      refine stepI.split (fun hq => ?_) (fun hq => ?_)
      · have W : IntKind.i64.wrap ((i : Int) + 1) = ((i + 1 : Nat) : Int) := i64e (by omega) (by omega)
        have M1 : 0 ≤ (i : Int).tmod 2 := Int.tmod_nonneg _ (by omega)
        have M2 : (i : Int).tmod 2 < 2 := Int.tmod_lt_of_pos _ (by omega)
        obtain ⟨v2, H4, ea, F4, g, hg, G⟩ := F3.app1g [] (manyC i) (bytes := 24) (by omega)
        simp only [manyC] at ea
        simp only [boxesAt, List.cons_append, List.append_nil, List.nil_append, List.length_nil, List.length_cons, Nat.zero_add, Nat.add_zero, encClip] at ea G
        have n2 : (2 : Int) ≠ 0 := by omega
        simp (maxSteps := 4000000) (disch := omega) only [ah, am, Nat.reduceEqDiff, reduceCtorEq, Nat.reduceAdd, Nat.reduceLeDiff, Nat.reduceMul, Nat.reduceLT, if_true, if_false, true_and, and_true, and_self, Nat.reduceBEq, QOp.loads, boxO, bslO, buildO, cutL, fillV, putL, w38, v38, n2, ne_eq, i64w, ea, W]
        refine ⟨by omega, _, l ++ [manyC i], rfl, F4.bare, (k3.ext (Ext.more _ _)).step G (by omega), ?_, by simp; omega⟩
        intro k hk
        simp only [List.mem_append, List.mem_singleton] at hk
        rcases hk with hk | rfl
        · exact A k hk
        · simp only [drawn, manyC]; omega
      · simp (maxSteps := 4000000) (disch := omega) only [ah, am, Nat.reduceEqDiff, reduceCtorEq, Nat.reduceAdd, Nat.reduceLeDiff, Nat.reduceMul, Nat.reduceLT, if_true, if_false, true_and, and_true, and_self, Nat.reduceBEq, QOp.loads, boxO, bslO, buildO, cutL, fillV, putL, w38, v38]
        exact ⟨l, F3, k3, A, by omega⟩
end Go.Proofs.Ytmippcfdakjhfaa
