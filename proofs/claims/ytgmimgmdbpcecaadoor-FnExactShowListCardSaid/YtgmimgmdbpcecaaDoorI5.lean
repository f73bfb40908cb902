import Derived.Test.YtgmimgmdbpcecaaDoorI4
namespace Go.Proofs.YtgmimgmdbpcecaaDoor
open Go Go.Ah
set_option linter.unusedSimpArgs false
set_option linter.unusedVariables false
set_option maxRecDepth 10000
set_option maxHeartbeats 4000000
/-! 19 loop.example/g00066/impl.joined: parameters 1, live [0], slots [0:track, 1:track, 3:out, 4:_, 5:c, 6:n] -/
def c19_0 : List SOper := [⟨some 2, .q (.mv (.c (.slice none 0 0))), none⟩]
def c19_1 : List SOper := [⟨some 7, .a (.bsl 0 3 [] []), none⟩, ⟨some 3, .q (.mv (.t 7)), none⟩]
def c19_2 : List SOper := [⟨some 8, .q (.mv (.t 0)), none⟩, ⟨some 9, .q (.len (.t 8)), none⟩, ⟨some 10, .q (.mv (.c (.int .i64 0))), none⟩]
def c19_3 : List SOper := [⟨some 11, .q (.bin .lss (.t 10) (.t 9)), none⟩]
def c19_4 : SCode := .cond (.t 11) .skip (.exit 0)
def c19_5 : List SOper := [⟨some 12, .q (.ia 3 (.t 8) (.t 10)), none⟩, ⟨some 13, .q (.ldn 3 (.t 12)), none⟩, ⟨some 5, .a (.new [(.int .i64 0), (.int .i64 0), (.int .i64 0)]), none⟩, ⟨none, .e (.st 3 (.t 5) (.t 13)), none⟩]
def c19_6 : List SOper := [⟨some 14, .q (.mv (.t 3)), none⟩, ⟨some 15, .q (.len (.t 14)), none⟩, ⟨some 6, .q (.mv (.t 15)), none⟩]
def c19_7 : List SOper := [⟨some 16, .q (.mv (.t 6)), none⟩, ⟨some 17, .q (.bin .gtr (.t 16) (.c (.int .i64 0))), none⟩, ⟨some 18, .q (.mv (.t 17)), none⟩, ⟨some 19, .q (.ldn 3 (.t 5)), some (18, true)⟩, ⟨some 20, .q (.mv (.t 3)), some (18, true)⟩, ⟨some 21, .q (.mv (.t 6)), some (18, true)⟩, ⟨some 22, .q (.bin .sub (.t 21) (.c (.int .i64 1))), some (18, true)⟩, ⟨some 23, .q (.ia 3 (.t 20) (.t 22)), some (18, true)⟩, ⟨some 24, .q (.ldn 3 (.t 23)), some (18, true)⟩, ⟨some 25, .e (.call 34 [(.t 19), (.t 24)]), some (18, true)⟩, ⟨some 26, .q (.pick (.t 18) (.t 25) (.c (.bool false))), none⟩]
def c19_8 : List SOper := [⟨some 27, .q (.mv (.t 3)), none⟩, ⟨some 28, .q (.mv (.t 6)), none⟩, ⟨some 29, .q (.bin .sub (.t 28) (.c (.int .i64 1))), none⟩, ⟨some 30, .q (.ia 3 (.t 27) (.t 29)), none⟩, ⟨some 31, .q (.fa 2 (.t 30)), none⟩, ⟨some 32, .q (.ld (.t 31)), none⟩, ⟨some 33, .q (.fa 2 (.t 5)), none⟩, ⟨some 34, .q (.ld (.t 33)), none⟩, ⟨some 35, .q (.bin .add (.t 32) (.t 34)), none⟩, ⟨some 36, .q (.ia 3 (.t 27) (.t 29)), none⟩, ⟨some 37, .q (.fa 2 (.t 36)), none⟩, ⟨none, .e (.st 1 (.t 37) (.t 35)), none⟩]
def c19_9 : SCode := .seq (.region c19_8 [3, 8, 9, 10]) (.exit 1)
def c19_10 : SCode := .cond (.t 26) c19_9 .skip
def c19_11 : SCode := .seq (.region c19_7 [3, 5, 6, 8, 9, 10, 26]) c19_10
def c19_12 : SCode := .seq (.region c19_6 [3, 5, 6, 8, 9, 10]) c19_11
def c19_13 : List SOper := [⟨some 38, .q (.mv (.t 3)), none⟩, ⟨some 39, .q (.ldn 3 (.t 5)), none⟩, ⟨some 40, .a (.bsl 1 3 [(.int .i64 0), (.int .i64 0), (.int .i64 0)] [(0, 3, (.t 39))]), none⟩, ⟨some 41, .e (.app 24 3 (.t 38) (.t 40)), none⟩, ⟨some 3, .q (.mv (.t 41)), none⟩]
def c19_14 : SCode := .seq c19_12 (.region c19_13 [3, 8, 9, 10])
def c19_15 : SCode := .seq (.region c19_5 [3, 5, 8, 9, 10]) c19_14
def c19_16 : SCode := .block 1 c19_15
def c19_17 : List SOper := [⟨some 42, .q (.bin .add (.t 10) (.c (.int .i64 1))), none⟩, ⟨some 10, .q (.mv (.t 42)), none⟩]
def c19_18 : SCode := .seq c19_16 (.region c19_17 [3, 8, 9, 10])
def c19_19 : SCode := .seq c19_4 c19_18
def c19_20 : SCode := .seq (.region c19_3 [3, 8, 9, 10, 11]) c19_19
def c19_21 : SCode := .loop c19_20
def c19_22 : SCode := .block 0 c19_21
def c19_23 : SCode := .seq (.region c19_2 [3, 8, 9, 10]) c19_22
def c19_24 : List SOper := [⟨some 43, .q (.mv (.t 3)), none⟩, ⟨some 2, .q (.mv (.t 43)), none⟩]
def c19_25 : SCode := .seq (.region c19_24 [2]) .ret
def c19_26 : SCode := .seq c19_23 c19_25
def c19_27 : SCode := .seq (.region c19_1 [0, 3]) c19_26
def c19_28 : SCode := .seq (.region c19_0 [0]) c19_27
def c19 : SCode := c19_28
theorem w19 : type_of% (And.intro (uR Tryd.prog c19_0.eq_1) (And.intro (uR Tryd.prog c19_1.eq_1) (And.intro (uR Tryd.prog c19_2.eq_1) (And.intro (uR Tryd.prog c19_3.eq_1) (And.intro (uC Tryd.prog c19_4.eq_1) (And.intro (uR Tryd.prog c19_5.eq_1) (And.intro (uR Tryd.prog c19_6.eq_1) (And.intro (uR Tryd.prog c19_7.eq_1) (And.intro (uR Tryd.prog c19_8.eq_1) (And.intro (uC Tryd.prog c19_9.eq_1) (And.intro (uC Tryd.prog c19_10.eq_1) (And.intro (uC Tryd.prog c19_11.eq_1) (And.intro (uC Tryd.prog c19_12.eq_1) (And.intro (uR Tryd.prog c19_13.eq_1) (And.intro (uC Tryd.prog c19_14.eq_1) (And.intro (uC Tryd.prog c19_15.eq_1) (And.intro (uC Tryd.prog c19_16.eq_1) (And.intro (uR Tryd.prog c19_17.eq_1) (And.intro (uC Tryd.prog c19_18.eq_1) (And.intro (uC Tryd.prog c19_19.eq_1) (And.intro (uC Tryd.prog c19_20.eq_1) (And.intro (uC Tryd.prog c19_21.eq_1) (And.intro (uC Tryd.prog c19_22.eq_1) (And.intro (uC Tryd.prog c19_23.eq_1) (And.intro (uR Tryd.prog c19_24.eq_1) (And.intro (uC Tryd.prog c19_25.eq_1) (And.intro (uC Tryd.prog c19_26.eq_1) (And.intro (uC Tryd.prog c19_27.eq_1) (And.intro (uC Tryd.prog c19_28.eq_1) (uC Tryd.prog c19.eq_1)))))))))))))))))))))))))))))) := (And.intro (uR Tryd.prog c19_0.eq_1) (And.intro (uR Tryd.prog c19_1.eq_1) (And.intro (uR Tryd.prog c19_2.eq_1) (And.intro (uR Tryd.prog c19_3.eq_1) (And.intro (uC Tryd.prog c19_4.eq_1) (And.intro (uR Tryd.prog c19_5.eq_1) (And.intro (uR Tryd.prog c19_6.eq_1) (And.intro (uR Tryd.prog c19_7.eq_1) (And.intro (uR Tryd.prog c19_8.eq_1) (And.intro (uC Tryd.prog c19_9.eq_1) (And.intro (uC Tryd.prog c19_10.eq_1) (And.intro (uC Tryd.prog c19_11.eq_1) (And.intro (uC Tryd.prog c19_12.eq_1) (And.intro (uR Tryd.prog c19_13.eq_1) (And.intro (uC Tryd.prog c19_14.eq_1) (And.intro (uC Tryd.prog c19_15.eq_1) (And.intro (uC Tryd.prog c19_16.eq_1) (And.intro (uR Tryd.prog c19_17.eq_1) (And.intro (uC Tryd.prog c19_18.eq_1) (And.intro (uC Tryd.prog c19_19.eq_1) (And.intro (uC Tryd.prog c19_20.eq_1) (And.intro (uC Tryd.prog c19_21.eq_1) (And.intro (uC Tryd.prog c19_22.eq_1) (And.intro (uC Tryd.prog c19_23.eq_1) (And.intro (uR Tryd.prog c19_24.eq_1) (And.intro (uC Tryd.prog c19_25.eq_1) (And.intro (uC Tryd.prog c19_26.eq_1) (And.intro (uC Tryd.prog c19_27.eq_1) (And.intro (uC Tryd.prog c19_28.eq_1) (uC Tryd.prog c19.eq_1))))))))))))))))))))))))))))))
def v19 : List RV := [.t 2]
theorem s19 : slimF Tryd.prog Tryd.f19 = some (c19.bare, v19) := by kernel_rfl

theorem follows_ok (h : Heap) (k a : Clip) (ha : clipIn 1000000000000000 a) : ACall Tryd.prog 34 [.agg (encClip k).toArray, .agg (encClip a).toArray] h
    fun r h' => Ext h h' ∧ r = .bool (decide (a.src = k.src ∧ (k.src = 0 ∨ a.inn + a.len = k.inn))) := by
  obtain ⟨a1, a2, a3⟩ := k; obtain ⟨b1, b2, b3⟩ := a
  simp only [clipIn] at ha
  refine ACall.of Tryd.func34 s34 (of_decide_eq_true rfl) ?_
  simp (maxSteps := 4000000) (disch := omega) only [ah, am, Nat.reduceEqDiff, reduceCtorEq, Nat.reduceAdd, Nat.reduceLeDiff, Nat.reduceMul, Nat.reduceLT, if_true, if_false, true_and, and_true, and_self, Nat.reduceBEq, QOp.loads, boxO, bslO, buildO, cutL, fillV, putL, w34, v34, encClip]
  (repeat' first
    | (refine stepC.of (isGap_ok' _ _ _ _) ?_; rintro _ _ ⟨rfl, rfl⟩; simp (maxSteps := 4000000) (disch := omega) only [ah, am, Nat.reduceEqDiff, reduceCtorEq, Nat.reduceAdd, Nat.reduceLeDiff, Nat.reduceMul, Nat.reduceLT, if_true, if_false, true_and, and_true, and_self, Nat.reduceBEq, QOp.loads, boxO, bslO, buildO, cutL, fillV, putL, i64w, w34, v34])
    | (refine stepG.cases (fun _ hp => ?_) (fun _ hp => ?_) <;> simp (maxSteps := 4000000) (disch := omega) only [hp, ah, am, Nat.reduceEqDiff, reduceCtorEq, Nat.reduceAdd, Nat.reduceLeDiff, Nat.reduceMul, Nat.reduceLT, if_true, if_false, true_and, and_true, and_self, Nat.reduceBEq, QOp.loads, boxO, bslO, buildO, cutL, fillV, putL, i64w, w34, v34])
    | (refine stepI.cases (fun _ hp => ?_) (fun _ hp => ?_) <;> simp (maxSteps := 4000000) (disch := omega) only [hp, ah, am, Nat.reduceEqDiff, reduceCtorEq, Nat.reduceAdd, Nat.reduceLeDiff, Nat.reduceMul, Nat.reduceLT, if_true, if_false, true_and, and_true, and_self, Nat.reduceBEq, QOp.loads, boxO, bslO, buildO, cutL, fillV, putL, i64w, w34, v34]))
  all_goals (refine ⟨Ext.more _ _, ?_⟩; refine bool_dec ?_; try simp only [decide_eq_true_eq, Bool.false_eq_true, false_and, and_false, true_and, and_true, false_iff, iff_false, true_iff, iff_true, not_false_eq_true, false_or, or_false, true_or, or_true]; first | done | omega | (refine Iff.intro (fun hq => ?_) (fun hq => ?_) <;> omega))
/-- A row of slices. -/
structure Rows (h : Heap) (v : Value) (ls : List (List Clip)) : Prop where
  rows : ∃ vs : List Value, SlT h encV 1 v vs ∧ vs.length = ls.length ∧ ∀ i (h1 : i < vs.length) (h2 : i < ls.length), SlT h encClip 3 vs[i] ls[i]
theorem flat_take (ls : List (List Clip)) (i : Nat) (hi : i < ls.length) : (ls.take (i + 1)).flatten = (ls.take i).flatten ++ ls[i] := by
  rw [List.take_succ_eq_append_getElem hi, List.flatten_append]; simp
theorem flat_take_le (ls : List (List Clip)) (i : Nat) : (ls.take i).flatten.length ≤ ls.flatten.length := by
  conv => rhs; rw [← List.take_append_drop i ls]
  rw [List.flatten_append, List.length_append]; omega
theorem joined_ok (h : Heap) (v : Value) (l : List Clip) (s : SlT h encClip 3 v l) (hl : l.length ≤ 1100000) (ho : ∀ k ∈ l, clipIn 10000000 k) : ACall Tryd.prog 19 [v] h fun r h' => Fresh h h' encClip 3 r (join l) := by
  refine ACall.of Tryd.func19 s19 (of_decide_eq_true rfl) ?_
  have R := s.rulesN
  simp (maxSteps := 4000000) (disch := omega) only [ah, am, Nat.reduceEqDiff, reduceCtorEq, Nat.reduceAdd, Nat.reduceLeDiff, Nat.reduceMul, Nat.reduceLT, if_true, if_false, true_and, and_true, and_self, Nat.reduceBEq, QOp.loads, boxO, bslO, buildO, cutL, fillV, putL, w19, v19, R]
  refine SW_loop_up (fun i E H => ∃ ov, E = [(3, ov), (8, v), (9, .int .i64 l.length), (10, .int .i64 i)] ∧ Fresh h H encClip 3 ov (join (l.take i))) l.length 0 (by omega) ⟨_, rfl, Fresh.new0 h encClip_len (by omega)⟩ ?_
  rintro i E H hi ⟨ov, rfl, F⟩
  have R := (s.ext F.1).rulesN
  have W : IntKind.i64.wrap ((i : Int) + 1) = ((i + 1 : Nat) : Int) := i64e (by omega) (by omega)
  simp (maxSteps := 4000000) (disch := omega) only [ah, am, Nat.reduceEqDiff, reduceCtorEq, Nat.reduceAdd, Nat.reduceLeDiff, Nat.reduceMul, Nat.reduceLT, if_true, if_false, true_and, and_true, and_self, Nat.reduceBEq, QOp.loads, boxO, bslO, buildO, cutL, fillV, putL, w19, v19, R]
  refine stepI.split (fun hp => ?_) (fun hp => ?_)
  · have hi' : i < l.length := by omega
    have J := join_take l i hi'
    have F' := F.ext (Ext.more H [encClip l[i]])
    have R' := F'.slt.rules
    have L := join_length (l.take i)
    rw [List.length_take] at L
    have B := join_in (l := l.take i) (fun k hk => ho k (List.mem_of_mem_take hk))
    have Bk := ho _ (List.getElem_mem hi')
    generalize join (l.take i) = out at *
    have T : ((out.length : Int) - 1).toNat = out.length - 1 := by omega
    simp only [encClip] at R'
    by_cases hn : 0 < out.length
    · have Bo := B _ (List.getElem_mem (l := out) (n := out.length - 1) (by omega))
      simp only [clipIn, List.length_take] at Bo Bk
      have fo := follows_ok (H.more [encClip l[i]]) l[i] out[out.length - 1] (by simp only [clipIn]; omega)
      simp only [encClip] at fo
      have hn' : decide (0 < (out.length : Int)) = true := decide_eq_true (by omega)
      simp (maxSteps := 4000000) (disch := omega) only [ah, am, Nat.reduceEqDiff, reduceCtorEq, Nat.reduceAdd, Nat.reduceLeDiff, Nat.reduceMul, Nat.reduceLT, if_true, if_false, true_and, and_true, and_self, Nat.reduceBEq, QOp.loads, boxO, bslO, buildO, cutL, fillV, putL, w19, v19, R, R', W, encClip, i64w, T, hn']
      refine stepC.of fo ?_
      rintro _ H2 ⟨e2, rfl⟩
      have X := e2.ld0
      have F2 := F'.ext e2
      have R2 := F2.slt.rules
      simp (maxSteps := 4000000) (disch := omega) only [ah, am, Nat.reduceEqDiff, reduceCtorEq, Nat.reduceAdd, Nat.reduceLeDiff, Nat.reduceMul, Nat.reduceLT, if_true, if_false, true_and, and_true, and_self, Nat.reduceBEq, QOp.loads, boxO, bslO, buildO, cutL, fillV, putL, w19, v19, R2, W, encClip, i64w, T, hn', X]
      refine stepI.cases (fun hc hp => ?_) (fun hc hp => ?_)
      · obtain ⟨H3, es, F3, -⟩ := F2.setF (j := out.length - 1) (f := 2) (n := 1) (by omega) (x := ⟨(out[out.length - 1]).src, (out[out.length - 1]).inn, (out[out.length - 1]).len + l[i].len⟩)
          (y := .int .i64 ((out[out.length - 1]).len + l[i].len)) (by simp [encClip, splice, cells_int]) (by omega) rfl (by omega) rfl
        simp (maxSteps := 4000000) (disch := omega) only [ah, am, Nat.reduceEqDiff, reduceCtorEq, Nat.reduceAdd, Nat.reduceLeDiff, Nat.reduceMul, Nat.reduceLT, if_true, if_false, true_and, and_true, and_self, Nat.reduceBEq, QOp.loads, boxO, bslO, buildO, cutL, fillV, putL, w19, v19, hp, R2, W, encClip, i64w, T, hn', X, es]
        refine ⟨by omega, _, rfl, ?_⟩; rw [J, joinStep, dif_pos hn, if_pos hc]; exact F3
      · obtain ⟨v2, H3, ea, F3⟩ := F2.app1 l[i] (bytes := 24) (by omega)
        simp only [encClip] at ea
        simp (maxSteps := 4000000) (disch := omega) only [ah, am, Nat.reduceEqDiff, reduceCtorEq, Nat.reduceAdd, Nat.reduceLeDiff, Nat.reduceMul, Nat.reduceLT, if_true, if_false, true_and, and_true, and_self, Nat.reduceBEq, QOp.loads, boxO, bslO, buildO, cutL, fillV, putL, w19, v19, hp, R2, W, encClip, i64w, T, hn', X, ea]
        refine ⟨by omega, _, rfl, ?_⟩; rw [J, joinStep, dif_pos hn, if_neg hc]; exact F3
    · have hn' : decide (0 < (out.length : Int)) = false := decide_eq_false (by omega)
      obtain ⟨v2, H2, ea, F2⟩ := F'.app1 l[i] (bytes := 24) (by omega)
      simp only [more_more, size_more, List.cons_append, List.nil_append, List.length_cons, List.length_nil, Nat.zero_add, encClip] at ea
      simp (maxSteps := 4000000) (disch := omega) only [ah, am, Nat.reduceEqDiff, reduceCtorEq, Nat.reduceAdd, Nat.reduceLeDiff, Nat.reduceMul, Nat.reduceLT, if_true, if_false, true_and, and_true, and_self, Nat.reduceBEq, QOp.loads, boxO, bslO, buildO, cutL, fillV, putL, w19, v19, R, R', W, encClip, i64w, T, hn', ea]
      refine ⟨by omega, _, rfl, ?_⟩; rw [J, joinStep, dif_neg hn]; exact F2
  · simp (maxSteps := 4000000) (disch := omega) only [ah, am, Nat.reduceEqDiff, reduceCtorEq, Nat.reduceAdd, Nat.reduceLeDiff, Nat.reduceMul, Nat.reduceLT, if_true, if_false, true_and, and_true, and_self, Nat.reduceBEq, QOp.loads, boxO, bslO, buildO, cutL, fillV, putL, w19, v19, R, W]
    obtain rfl : i = l.length := by omega
    rw [List.take_length] at F
    exact F
def editI (l : List Clip) : List Clip × Bool := if trackOk (join l) then (join l, true) else ([], false)
end Go.Proofs.YtgmimgmdbpcecaaDoor
