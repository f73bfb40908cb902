import Derived.Test.YtbanblghepekdaaS13
namespace Go.Proofs.Ytbanblghepekdaa
open Go Go.Ah
set_option linter.unusedSimpArgs false
set_option linter.unusedVariables false
set_option maxRecDepth 10000
set_option maxHeartbeats 4000000
/-! 41 loop.example/g00066/spec.Retime: parameters 3, live [0, 1, 2], slots [0:keys, 1:src, 2:n, 3:keys, 4:src, 5:n, 8:out, 9:t, 10:f, 11:_, 12:_] -/
def c41_0 : List SOper := [⟨some 6, .q (.mv (.c (.slice none 0 0))), none⟩, ⟨some 7, .q (.mv (.c (.bool false))), none⟩]
def c41_1 : List SOper := [⟨some 13, .q (.mv (.t 0)), none⟩, ⟨some 14, .e (.call 74 [(.t 13)]), none⟩, ⟨some 15, .q (.not (.t 14)), none⟩, ⟨some 16, .q (.mv (.t 15)), none⟩, ⟨some 17, .q (.mv (.t 1)), some (16, false)⟩, ⟨some 18, .e (.call 53 [(.t 17)]), some (16, false)⟩, ⟨some 19, .q (.not (.t 18)), some (16, false)⟩, ⟨some 20, .q (.pick (.t 16) (.c (.bool true)) (.t 19)), none⟩, ⟨some 21, .q (.mv (.t 20)), none⟩, ⟨some 22, .q (.mv (.t 2)), some (21, false)⟩, ⟨some 23, .e (.call 68 [(.t 22), (.c (.int .i64 1)), (.c (.int .i64 2000))]), some (21, false)⟩, ⟨some 24, .q (.not (.t 23)), some (21, false)⟩, ⟨some 25, .q (.pick (.t 21) (.c (.bool true)) (.t 24)), none⟩]
def c41_2 : List SOper := [⟨some 26, .a (.bsl 0 3 [] []), none⟩, ⟨some 6, .q (.mv (.t 26)), none⟩, ⟨some 7, .q (.mv (.c (.bool false))), none⟩]
def c41_3 : SCode := .seq (.region c41_2 [6, 7]) .ret
def c41_4 : SCode := .cond (.t 25) c41_3 .skip
def c41_5 : SCode := .seq (.region c41_1 [0, 1, 2, 25]) c41_4
def c41_6 : List SOper := [⟨some 27, .a (.bsl 0 3 [] []), none⟩, ⟨some 8, .q (.mv (.t 27)), none⟩]
def c41_7 : List SOper := [⟨some 9, .q (.mv (.c (.int .i64 0))), none⟩]
def c41_8 : List SOper := [⟨some 28, .q (.mv (.t 9)), none⟩, ⟨some 29, .q (.mv (.t 2)), none⟩, ⟨some 30, .q (.bin .lss (.t 28) (.t 29)), none⟩]
def c41_9 : SCode := .cond (.t 30) .skip (.exit 0)
def c41_10 : SCode := .seq (.region c41_8 [0, 1, 2, 8, 9, 30]) c41_9
def c41_11 : List SOper := [⟨some 34, .q (.mv (.t 0)), none⟩, ⟨some 35, .q (.mv (.t 9)), none⟩, ⟨some 36, .e (.call 75 [(.t 34), (.t 35)]), none⟩, ⟨some 33, .q (.mv (.t 36)), none⟩, ⟨some 37, .q (.ext (.t 33) 0), none⟩, ⟨some 38, .q (.ext (.t 33) 1), none⟩, ⟨some 39, .q (.ext (.t 33) 2), none⟩, ⟨some 10, .q (.mv (.t 37)), none⟩, ⟨some 11, .q (.mv (.t 38)), none⟩, ⟨some 12, .q (.mv (.t 39)), none⟩]
def c41_12 : List SOper := [⟨some 40, .q (.mv (.t 8)), none⟩, ⟨some 41, .q (.mv (.t 1)), none⟩, ⟨some 42, .q (.mv (.t 10)), none⟩, ⟨some 43, .q (.build [(.int .i64 0), (.int .i64 0), (.int .i64 0)] [(0, 1, (.t 41)), (1, 1, (.t 42)), (2, 1, (.c (.int .i64 1)))]), none⟩, ⟨some 44, .a (.bsl 1 3 [(.int .i64 0), (.int .i64 0), (.int .i64 0)] [(0, 3, (.t 43))]), none⟩, ⟨some 45, .e (.app 24 3 (.t 40) (.t 44)), none⟩, ⟨some 8, .q (.mv (.t 45)), none⟩]
def c41_13 : SCode := .seq (.region c41_11 [0, 1, 2, 8, 9, 10]) (.region c41_12 [0, 1, 2, 8, 9])
def c41_14 : SCode := .block 1 c41_13
def c41_15 : List SOper := [⟨some 31, .q (.mv (.t 9)), none⟩, ⟨some 32, .q (.bin .add (.t 31) (.c (.int .i64 1))), none⟩, ⟨some 9, .q (.mv (.t 32)), none⟩]
def c41_16 : SCode := .seq c41_14 (.region c41_15 [0, 1, 2, 8, 9])
def c41_17 : SCode := .seq c41_10 c41_16
def c41_18 : SCode := .loop c41_17
def c41_19 : SCode := .block 0 c41_18
def c41_20 : SCode := .seq (.region c41_7 [0, 1, 2, 8, 9]) c41_19
def c41_21 : List SOper := [⟨some 46, .q (.mv (.t 8)), none⟩, ⟨some 47, .e (.call 49 [(.t 46)]), none⟩, ⟨some 48, .q (.ext (.t 47) 0), none⟩, ⟨some 49, .q (.ext (.t 47) 1), none⟩, ⟨some 6, .q (.mv (.t 48)), none⟩, ⟨some 7, .q (.mv (.t 49)), none⟩]
def c41_22 : SCode := .seq (.region c41_21 [6, 7]) .ret
def c41_23 : SCode := .seq c41_20 c41_22
def c41_24 : SCode := .seq (.region c41_6 [0, 1, 2, 8]) c41_23
def c41_25 : SCode := .seq c41_5 c41_24
def c41_26 : SCode := .seq (.region c41_0 [0, 1, 2]) c41_25
def c41 : SCode := c41_26
theorem w41 : type_of% (And.intro (uR Try.prog c41_0.eq_1) (And.intro (uR Try.prog c41_1.eq_1) (And.intro (uR Try.prog c41_2.eq_1) (And.intro (uC Try.prog c41_3.eq_1) (And.intro (uC Try.prog c41_4.eq_1) (And.intro (uC Try.prog c41_5.eq_1) (And.intro (uR Try.prog c41_6.eq_1) (And.intro (uR Try.prog c41_7.eq_1) (And.intro (uR Try.prog c41_8.eq_1) (And.intro (uC Try.prog c41_9.eq_1) (And.intro (uC Try.prog c41_10.eq_1) (And.intro (uR Try.prog c41_11.eq_1) (And.intro (uR Try.prog c41_12.eq_1) (And.intro (uC Try.prog c41_13.eq_1) (And.intro (uC Try.prog c41_14.eq_1) (And.intro (uR Try.prog c41_15.eq_1) (And.intro (uC Try.prog c41_16.eq_1) (And.intro (uC Try.prog c41_17.eq_1) (And.intro (uC Try.prog c41_18.eq_1) (And.intro (uC Try.prog c41_19.eq_1) (And.intro (uC Try.prog c41_20.eq_1) (And.intro (uR Try.prog c41_21.eq_1) (And.intro (uC Try.prog c41_22.eq_1) (And.intro (uC Try.prog c41_23.eq_1) (And.intro (uC Try.prog c41_24.eq_1) (And.intro (uC Try.prog c41_25.eq_1) (And.intro (uC Try.prog c41_26.eq_1) (uC Try.prog c41.eq_1)))))))))))))))))))))))))))) := (And.intro (uR Try.prog c41_0.eq_1) (And.intro (uR Try.prog c41_1.eq_1) (And.intro (uR Try.prog c41_2.eq_1) (And.intro (uC Try.prog c41_3.eq_1) (And.intro (uC Try.prog c41_4.eq_1) (And.intro (uC Try.prog c41_5.eq_1) (And.intro (uR Try.prog c41_6.eq_1) (And.intro (uR Try.prog c41_7.eq_1) (And.intro (uR Try.prog c41_8.eq_1) (And.intro (uC Try.prog c41_9.eq_1) (And.intro (uC Try.prog c41_10.eq_1) (And.intro (uR Try.prog c41_11.eq_1) (And.intro (uR Try.prog c41_12.eq_1) (And.intro (uC Try.prog c41_13.eq_1) (And.intro (uC Try.prog c41_14.eq_1) (And.intro (uR Try.prog c41_15.eq_1) (And.intro (uC Try.prog c41_16.eq_1) (And.intro (uC Try.prog c41_17.eq_1) (And.intro (uC Try.prog c41_18.eq_1) (And.intro (uC Try.prog c41_19.eq_1) (And.intro (uC Try.prog c41_20.eq_1) (And.intro (uR Try.prog c41_21.eq_1) (And.intro (uC Try.prog c41_22.eq_1) (And.intro (uC Try.prog c41_23.eq_1) (And.intro (uC Try.prog c41_24.eq_1) (And.intro (uC Try.prog c41_25.eq_1) (And.intro (uC Try.prog c41_26.eq_1) (uC Try.prog c41.eq_1))))))))))))))))))))))))))))
def v41 : List RV := [.t 6, .t 7]
theorem s41 : slimF Try.prog Try.f41 = some (c41.bare, v41) := by kernel_rfl

def retOk (l : List Key) (src n : Int) : Prop := keysOk l ∧ (1 ≤ src ∧ src ≤ 500) ∧ (1 ≤ n ∧ n ≤ 2000)
instance (l : List Key) (src n : Int) : Decidable (retOk l src n) := by unfold retOk; infer_instance
def retC (l : List Key) (src : Int) (t : Nat) : Clip := ⟨src, sp l t, 1⟩
def retL (l : List Key) (src n : Int) : List Clip := (List.range n.toNat).map (retC l src)
def retF (l : List Key) (src n : Int) : List Clip × Bool := if retOk l src n then editF (retL l src n) else ([], false)
theorem specRetime_ok (h : Heap) (v : Value) (l : List Key) (src n : Int) (s : SlT h encKey 2 v l) (hl : l.length ≤ 1100000) :
    ACall Try.prog 41 [v, .int .i64 src, .int .i64 n] h fun r h' => Pair h h' r (retF l src n) := by
  refine ACall.of Try.func41 s41 (of_decide_eq_true rfl) ?_
  simp (maxSteps := 4000000) (disch := omega) only [ah, am, Nat.reduceEqDiff, reduceCtorEq, Nat.reduceAdd, Nat.reduceLeDiff, Nat.reduceMul, Nat.reduceLT, if_true, if_false, true_and, and_true, and_self, Nat.reduceBEq, QOp.loads, boxO, bslO, buildO, cutL, fillV, putL, w41, v41]
  refine stepC.of (specKeysOk_ok _ _ _ s (by omega)) ?_
  rintro _ Hx ⟨hx, rfl⟩; rw [hx]; clear hx Hx
  by_cases hc : retOk l src n
  · have hT : retF l src n = editF (retL l src n) := if_pos hc
    obtain ⟨hk, hs, hn⟩ := hc
    simp only [hk, hs, hn, decide_true, and_self]
    simp (maxSteps := 4000000) (disch := omega) only [ah, am, Nat.reduceEqDiff, reduceCtorEq, Nat.reduceAdd, Nat.reduceLeDiff, Nat.reduceMul, Nat.reduceLT, if_true, if_false, true_and, and_true, and_self, Nat.reduceBEq, QOp.loads, boxO, bslO, buildO, cutL, fillV, putL, w41, v41]
    refine stepC.of (l4Src_ok _ _) ?_
    rintro _ Hx ⟨hx, rfl⟩; rw [hx]; clear hx Hx
    simp (maxSteps := 4000000) (disch := omega) only [ah, am, Nat.reduceEqDiff, reduceCtorEq, Nat.reduceAdd, Nat.reduceLeDiff, Nat.reduceMul, Nat.reduceLT, if_true, if_false, true_and, and_true, and_self, Nat.reduceBEq, QOp.loads, boxO, bslO, buildO, cutL, fillV, putL, w41, v41, hs]
    refine stepC.of (l1In_ok _ _ _ _) ?_
    rintro _ Hx ⟨hx, rfl⟩; rw [hx]; clear hx Hx
    simp (maxSteps := 4000000) (disch := omega) only [ah, am, Nat.reduceEqDiff, reduceCtorEq, Nat.reduceAdd, Nat.reduceLeDiff, Nat.reduceMul, Nat.reduceLT, if_true, if_false, true_and, and_true, and_self, Nat.reduceBEq, QOp.loads, boxO, bslO, buildO, cutL, fillV, putL, w41, v41, hn]
    refine SW_loop_up (fun i E H => ∃ ov, E = [(0, v), (1, .int .i64 src), (2, .int .i64 n), (8, ov), (9, .int .i64 i)] ∧ Fresh h H encClip 3 ov ((List.range i).map (retC l src))) n.toNat 0 (by omega)
      ⟨.slice (some ⟨h.size, 0, none⟩) 0 3, by simp, by simpa using Fresh.new0 h encClip_len (by omega)⟩ ?_
    rintro i E H hi ⟨ov, rfl, F⟩
    have W : IntKind.i64.wrap ((i : Int) + 1) = ((i + 1 : Nat) : Int) := i64e (by omega) (by omega)
    simp (maxSteps := 4000000) (disch := omega) only [ah, am, Nat.reduceEqDiff, reduceCtorEq, Nat.reduceAdd, Nat.reduceLeDiff, Nat.reduceMul, Nat.reduceLT, if_true, if_false, true_and, and_true, and_self, Nat.reduceBEq, QOp.loads, boxO, bslO, buildO, cutL, fillV, putL, w41, v41]
    refine stepI.split (fun hp => ?_) (fun hp => ?_)
    · simp (maxSteps := 4000000) (disch := omega) only [ah, am, Nat.reduceEqDiff, reduceCtorEq, Nat.reduceAdd, Nat.reduceLeDiff, Nat.reduceMul, Nat.reduceLT, if_true, if_false, true_and, and_true, and_self, Nat.reduceBEq, QOp.loads, boxO, bslO, buildO, cutL, fillV, putL, w41, v41]
      refine stepC.of (l8At_ok _ _ _ _ (s.ext F.1) hk (by omega)) ?_
      rintro _ H2 ⟨e2, a, b, rfl⟩
      obtain ⟨v2, H3, ea, F3⟩ := (F.ext e2).app1 (retC l src i) (bytes := 24) (by simp; omega)
      simp only [encClip, retC] at ea
      simp (maxSteps := 4000000) (disch := omega) only [ah, am, Nat.reduceEqDiff, reduceCtorEq, Nat.reduceAdd, Nat.reduceLeDiff, Nat.reduceMul, Nat.reduceLT, if_true, if_false, true_and, and_true, and_self, Nat.reduceBEq, QOp.loads, boxO, bslO, buildO, cutL, fillV, putL, w41, v41, ea, W]
      refine ⟨by omega, _, rfl, ?_⟩
      rw [List.range_succ, List.map_append]; exact F3
    · simp (maxSteps := 4000000) (disch := omega) only [ah, am, Nat.reduceEqDiff, reduceCtorEq, Nat.reduceAdd, Nat.reduceLeDiff, Nat.reduceMul, Nat.reduceLT, if_true, if_false, true_and, and_true, and_self, Nat.reduceBEq, QOp.loads, boxO, bslO, buildO, cutL, fillV, putL, w41, v41]
      obtain rfl : i = n.toNat := by omega
      refine stepC.of (l4Edit_ok _ _ _ F.slt (by simp; omega)) ?_
      rintro _ H4 ⟨rv, rfl, F4⟩
      simp (maxSteps := 4000000) (disch := omega) only [ah, am, Nat.reduceEqDiff, reduceCtorEq, Nat.reduceAdd, Nat.reduceLeDiff, Nat.reduceMul, Nat.reduceLT, if_true, if_false, true_and, and_true, and_self, Nat.reduceBEq, QOp.loads, boxO, bslO, buildO, cutL, fillV, putL, w41, v41]
      rw [hT]
      exact ⟨rv, rfl, F4.mono F.1⟩
  · have hT : retF l src n = ([], false) := if_neg hc
    rw [hT]
    simp (maxSteps := 4000000) (disch := omega) only [ah, am, Nat.reduceEqDiff, reduceCtorEq, Nat.reduceAdd, Nat.reduceLeDiff, Nat.reduceMul, Nat.reduceLT, if_true, if_false, true_and, and_true, and_self, Nat.reduceBEq, QOp.loads, boxO, bslO, buildO, cutL, fillV, putL, w41, v41]
    (repeat' first
    | (refine stepC.of (l4Src_ok _ _) ?_; rintro _ _ ⟨rfl, rfl⟩; simp (maxSteps := 4000000) (disch := omega) only [ah, am, Nat.reduceEqDiff, reduceCtorEq, Nat.reduceAdd, Nat.reduceLeDiff, Nat.reduceMul, Nat.reduceLT, if_true, if_false, true_and, and_true, and_self, Nat.reduceBEq, QOp.loads, boxO, bslO, buildO, cutL, fillV, putL, i64w, w41, v41])
    | (refine stepC.of (l1In_ok _ _ _ _) ?_; rintro _ _ ⟨rfl, rfl⟩; simp (maxSteps := 4000000) (disch := omega) only [ah, am, Nat.reduceEqDiff, reduceCtorEq, Nat.reduceAdd, Nat.reduceLeDiff, Nat.reduceMul, Nat.reduceLT, if_true, if_false, true_and, and_true, and_self, Nat.reduceBEq, QOp.loads, boxO, bslO, buildO, cutL, fillV, putL, i64w, w41, v41])
    | (refine stepG.cases (fun _ hp => ?_) (fun _ hp => ?_) <;> simp (maxSteps := 4000000) (disch := omega) only [hp, ah, am, Nat.reduceEqDiff, reduceCtorEq, Nat.reduceAdd, Nat.reduceLeDiff, Nat.reduceMul, Nat.reduceLT, if_true, if_false, true_and, and_true, and_self, Nat.reduceBEq, QOp.loads, boxO, bslO, buildO, cutL, fillV, putL, i64w, w41, v41])
    | (refine stepI.cases (fun _ hp => ?_) (fun _ hp => ?_) <;> simp (maxSteps := 4000000) (disch := omega) only [hp, ah, am, Nat.reduceEqDiff, reduceCtorEq, Nat.reduceAdd, Nat.reduceLeDiff, Nat.reduceMul, Nat.reduceLT, if_true, if_false, true_and, and_true, and_self, Nat.reduceBEq, QOp.loads, boxO, bslO, buildO, cutL, fillV, putL, i64w, w41, v41]))
    all_goals first
      | exact ⟨_, rfl, (Fresh.new0 _ encClip_len (by omega))⟩
      | exact (hc ⟨by assumption, by assumption, by assumption⟩).elim
end Go.Proofs.Ytbanblghepekdaa
