import Derived.Test.YtknpombiomnkbaaS13
namespace Go.Proofs.Ytknpombiomnkbaa
open Go Go.Ah
set_option linter.unusedSimpArgs false
set_option linter.unusedVariables false
set_option maxRecDepth 10000
set_option maxHeartbeats 4000000
/-! 26 loop.example/g00066/spec.Retime: parameters 3, live [0, 1, 2], slots [0:keys, 1:src, 2:n, 3:keys, 4:src, 5:n, 8:out, 9:t, 10:f, 11:_, 12:_] -/
def c26_0 : List SOper := [⟨some 6, .q (.mv (.c (.slice none 0 0))), none⟩, ⟨some 7, .q (.mv (.c (.bool false))), none⟩]
def c26_1 : List SOper := [⟨some 13, .q (.mv (.t 0)), none⟩, ⟨some 14, .e (.call 73 [(.t 13)]), none⟩, ⟨some 15, .q (.not (.t 14)), none⟩, ⟨some 16, .q (.mv (.t 15)), none⟩, ⟨some 17, .q (.mv (.t 1)), some (16, false)⟩, ⟨some 18, .e (.call 56 [(.t 17)]), some (16, false)⟩, ⟨some 19, .q (.not (.t 18)), some (16, false)⟩, ⟨some 20, .q (.pick (.t 16) (.c (.bool true)) (.t 19)), none⟩, ⟨some 21, .q (.mv (.t 20)), none⟩, ⟨some 22, .q (.mv (.t 2)), some (21, false)⟩, ⟨some 23, .e (.call 68 [(.t 22), (.c (.int .i64 1)), (.c (.int .i64 2000))]), some (21, false)⟩, ⟨some 24, .q (.not (.t 23)), some (21, false)⟩, ⟨some 25, .q (.pick (.t 21) (.c (.bool true)) (.t 24)), none⟩]
def c26_2 : List SOper := [⟨some 26, .a (.bsl 0 3 [] []), none⟩, ⟨some 6, .q (.mv (.t 26)), none⟩, ⟨some 7, .q (.mv (.c (.bool false))), none⟩]
def c26_3 : SCode := .seq (.region c26_2 [6, 7]) .ret
def c26_4 : SCode := .cond (.t 25) c26_3 .skip
def c26_5 : SCode := .seq (.region c26_1 [0, 1, 2, 25]) c26_4
def c26_6 : List SOper := [⟨some 27, .a (.bsl 0 3 [] []), none⟩, ⟨some 8, .q (.mv (.t 27)), none⟩]
def c26_7 : List SOper := [⟨some 9, .q (.mv (.c (.int .i64 0))), none⟩]
def c26_8 : List SOper := [⟨some 28, .q (.mv (.t 9)), none⟩, ⟨some 29, .q (.mv (.t 2)), none⟩, ⟨some 30, .q (.bin .lss (.t 28) (.t 29)), none⟩]
def c26_9 : SCode := .cond (.t 30) .skip (.exit 0)
def c26_10 : SCode := .seq (.region c26_8 [0, 1, 2, 8, 9, 30]) c26_9
def c26_11 : List SOper := [⟨some 34, .q (.mv (.t 0)), none⟩, ⟨some 35, .q (.mv (.t 9)), none⟩, ⟨some 36, .e (.call 74 [(.t 34), (.t 35)]), none⟩, ⟨some 33, .q (.mv (.t 36)), none⟩, ⟨some 37, .q (.ext (.t 33) 0), none⟩, ⟨some 38, .q (.ext (.t 33) 1), none⟩, ⟨some 39, .q (.ext (.t 33) 2), none⟩, ⟨some 10, .q (.mv (.t 37)), none⟩, ⟨some 11, .q (.mv (.t 38)), none⟩, ⟨some 12, .q (.mv (.t 39)), none⟩]
def c26_12 : List SOper := [⟨some 40, .q (.mv (.t 8)), none⟩, ⟨some 41, .q (.mv (.t 1)), none⟩, ⟨some 42, .q (.mv (.t 10)), none⟩, ⟨some 43, .q (.build [(.int .i64 0), (.int .i64 0), (.int .i64 0)] [(0, 1, (.t 41)), (1, 1, (.t 42)), (2, 1, (.c (.int .i64 1)))]), none⟩, ⟨some 44, .a (.bsl 1 3 [(.int .i64 0), (.int .i64 0), (.int .i64 0)] [(0, 3, (.t 43))]), none⟩, ⟨some 45, .e (.app 24 3 (.t 40) (.t 44)), none⟩, ⟨some 8, .q (.mv (.t 45)), none⟩]
def c26_13 : SCode := .seq (.region c26_11 [0, 1, 2, 8, 9, 10]) (.region c26_12 [0, 1, 2, 8, 9])
def c26_14 : SCode := .block 1 c26_13
def c26_15 : List SOper := [⟨some 31, .q (.mv (.t 9)), none⟩, ⟨some 32, .q (.bin .add (.t 31) (.c (.int .i64 1))), none⟩, ⟨some 9, .q (.mv (.t 32)), none⟩]
def c26_16 : SCode := .seq c26_14 (.region c26_15 [0, 1, 2, 8, 9])
def c26_17 : SCode := .seq c26_10 c26_16
def c26_18 : SCode := .loop c26_17
def c26_19 : SCode := .block 0 c26_18
def c26_20 : SCode := .seq (.region c26_7 [0, 1, 2, 8, 9]) c26_19
def c26_21 : List SOper := [⟨some 46, .q (.mv (.t 8)), none⟩, ⟨some 47, .e (.call 58 [(.t 46)]), none⟩, ⟨some 48, .q (.ext (.t 47) 0), none⟩, ⟨some 49, .q (.ext (.t 47) 1), none⟩, ⟨some 6, .q (.mv (.t 48)), none⟩, ⟨some 7, .q (.mv (.t 49)), none⟩]
def c26_22 : SCode := .seq (.region c26_21 [6, 7]) .ret
def c26_23 : SCode := .seq c26_20 c26_22
def c26_24 : SCode := .seq (.region c26_6 [0, 1, 2, 8]) c26_23
def c26_25 : SCode := .seq c26_5 c26_24
def c26_26 : SCode := .seq (.region c26_0 [0, 1, 2]) c26_25
def c26 : SCode := c26_26
theorem w26 : type_of% (And.intro (uR Try.prog c26_0.eq_1) (And.intro (uR Try.prog c26_1.eq_1) (And.intro (uR Try.prog c26_2.eq_1) (And.intro (uC Try.prog c26_3.eq_1) (And.intro (uC Try.prog c26_4.eq_1) (And.intro (uC Try.prog c26_5.eq_1) (And.intro (uR Try.prog c26_6.eq_1) (And.intro (uR Try.prog c26_7.eq_1) (And.intro (uR Try.prog c26_8.eq_1) (And.intro (uC Try.prog c26_9.eq_1) (And.intro (uC Try.prog c26_10.eq_1) (And.intro (uR Try.prog c26_11.eq_1) (And.intro (uR Try.prog c26_12.eq_1) (And.intro (uC Try.prog c26_13.eq_1) (And.intro (uC Try.prog c26_14.eq_1) (And.intro (uR Try.prog c26_15.eq_1) (And.intro (uC Try.prog c26_16.eq_1) (And.intro (uC Try.prog c26_17.eq_1) (And.intro (uC Try.prog c26_18.eq_1) (And.intro (uC Try.prog c26_19.eq_1) (And.intro (uC Try.prog c26_20.eq_1) (And.intro (uR Try.prog c26_21.eq_1) (And.intro (uC Try.prog c26_22.eq_1) (And.intro (uC Try.prog c26_23.eq_1) (And.intro (uC Try.prog c26_24.eq_1) (And.intro (uC Try.prog c26_25.eq_1) (And.intro (uC Try.prog c26_26.eq_1) (uC Try.prog c26.eq_1)))))))))))))))))))))))))))) := (And.intro (uR Try.prog c26_0.eq_1) (And.intro (uR Try.prog c26_1.eq_1) (And.intro (uR Try.prog c26_2.eq_1) (And.intro (uC Try.prog c26_3.eq_1) (And.intro (uC Try.prog c26_4.eq_1) (And.intro (uC Try.prog c26_5.eq_1) (And.intro (uR Try.prog c26_6.eq_1) (And.intro (uR Try.prog c26_7.eq_1) (And.intro (uR Try.prog c26_8.eq_1) (And.intro (uC Try.prog c26_9.eq_1) (And.intro (uC Try.prog c26_10.eq_1) (And.intro (uR Try.prog c26_11.eq_1) (And.intro (uR Try.prog c26_12.eq_1) (And.intro (uC Try.prog c26_13.eq_1) (And.intro (uC Try.prog c26_14.eq_1) (And.intro (uR Try.prog c26_15.eq_1) (And.intro (uC Try.prog c26_16.eq_1) (And.intro (uC Try.prog c26_17.eq_1) (And.intro (uC Try.prog c26_18.eq_1) (And.intro (uC Try.prog c26_19.eq_1) (And.intro (uC Try.prog c26_20.eq_1) (And.intro (uR Try.prog c26_21.eq_1) (And.intro (uC Try.prog c26_22.eq_1) (And.intro (uC Try.prog c26_23.eq_1) (And.intro (uC Try.prog c26_24.eq_1) (And.intro (uC Try.prog c26_25.eq_1) (And.intro (uC Try.prog c26_26.eq_1) (uC Try.prog c26.eq_1))))))))))))))))))))))))))))
def v26 : List RV := [.t 6, .t 7]
theorem s26 : slimF Try.prog Try.f26 = some (c26.bare, v26) := by kernel_rfl

def retOk (l : List Key) (src n : Int) : Prop := keysOk l ∧ (1 ≤ src ∧ src ≤ 500) ∧ (1 ≤ n ∧ n ≤ 2000)
instance (l : List Key) (src n : Int) : Decidable (retOk l src n) := by unfold retOk; infer_instance
def retC (l : List Key) (src : Int) (t : Nat) : Clip := ⟨src, sp l t, 1⟩
def retL (l : List Key) (src n : Int) : List Clip := (List.range n.toNat).map (retC l src)
def retF (l : List Key) (src n : Int) : List Clip × Bool := if retOk l src n then editF (retL l src n) else ([], false)
theorem specRetime_ok (h : Heap) (v : Value) (l : List Key) (src n : Int) (s : SlT h encKey 2 v l) (hl : l.length ≤ 1100000) :
    ACall Try.prog 26 [v, .int .i64 src, .int .i64 n] h fun r h' => Pair h h' r (retF l src n) := by
  refine ACall.of Try.func26 s26 (of_decide_eq_true rfl) ?_
  simp (maxSteps := 4000000) (disch := omega) only [ah, am, Nat.reduceEqDiff, reduceCtorEq, Nat.reduceAdd, Nat.reduceLeDiff, Nat.reduceMul, Nat.reduceLT, if_true, if_false, true_and, and_true, and_self, Nat.reduceBEq, QOp.loads, boxO, bslO, buildO, cutL, fillV, putL, w26, v26]
  refine stepC.of (specKeysOk_ok _ _ _ s (by omega)) ?_
  rintro _ Hx ⟨hx, rfl⟩; rw [hx]; clear hx Hx
  by_cases hc : retOk l src n
  · have hT : retF l src n = editF (retL l src n) := if_pos hc
    obtain ⟨hk, hs, hn⟩ := hc
    simp only [hk, hs, hn, decide_true, and_self]
    simp (maxSteps := 4000000) (disch := omega) only [ah, am, Nat.reduceEqDiff, reduceCtorEq, Nat.reduceAdd, Nat.reduceLeDiff, Nat.reduceMul, Nat.reduceLT, if_true, if_false, true_and, and_true, and_self, Nat.reduceBEq, QOp.loads, boxO, bslO, buildO, cutL, fillV, putL, w26, v26]
    refine stepC.of (l4Src_ok _ _) ?_
    rintro _ Hx ⟨hx, rfl⟩; rw [hx]; clear hx Hx
    simp (maxSteps := 4000000) (disch := omega) only [ah, am, Nat.reduceEqDiff, reduceCtorEq, Nat.reduceAdd, Nat.reduceLeDiff, Nat.reduceMul, Nat.reduceLT, if_true, if_false, true_and, and_true, and_self, Nat.reduceBEq, QOp.loads, boxO, bslO, buildO, cutL, fillV, putL, w26, v26, hs]
    refine stepC.of (l1In_ok _ _ _ _) ?_
    rintro _ Hx ⟨hx, rfl⟩; rw [hx]; clear hx Hx
    simp (maxSteps := 4000000) (disch := omega) only [ah, am, Nat.reduceEqDiff, reduceCtorEq, Nat.reduceAdd, Nat.reduceLeDiff, Nat.reduceMul, Nat.reduceLT, if_true, if_false, true_and, and_true, and_self, Nat.reduceBEq, QOp.loads, boxO, bslO, buildO, cutL, fillV, putL, w26, v26, hn]
    refine SW_loop_up (fun i E H => ∃ ov, E = [(0, v), (1, .int .i64 src), (2, .int .i64 n), (8, ov), (9, .int .i64 i)] ∧ Fresh h H encClip 3 ov ((List.range i).map (retC l src))) n.toNat 0 (by omega)
      ⟨.slice (some ⟨h.size, 0, none⟩) 0 3, by simp, by simpa using Fresh.new0 h encClip_len (by omega)⟩ ?_
    rintro i E H hi ⟨ov, rfl, F⟩
    have W : IntKind.i64.wrap ((i : Int) + 1) = ((i + 1 : Nat) : Int) := i64e (by omega) (by omega)
    simp (maxSteps := 4000000) (disch := omega) only [ah, am, Nat.reduceEqDiff, reduceCtorEq, Nat.reduceAdd, Nat.reduceLeDiff, Nat.reduceMul, Nat.reduceLT, if_true, if_false, true_and, and_true, and_self, Nat.reduceBEq, QOp.loads, boxO, bslO, buildO, cutL, fillV, putL, w26, v26]
    refine stepI.split (fun hp => ?_) (fun hp => ?_)
    · simp (maxSteps := 4000000) (disch := omega) only [ah, am, Nat.reduceEqDiff, reduceCtorEq, Nat.reduceAdd, Nat.reduceLeDiff, Nat.reduceMul, Nat.reduceLT, if_true, if_false, true_and, and_true, and_self, Nat.reduceBEq, QOp.loads, boxO, bslO, buildO, cutL, fillV, putL, w26, v26]
      refine stepC.of (l8At_ok _ _ _ _ (s.ext F.1) hk (by omega)) ?_
      rintro _ H2 ⟨e2, a, b, rfl⟩
      obtain ⟨v2, H3, ea, F3⟩ := (F.ext e2).app1 (retC l src i) (bytes := 24) (by simp; omega)
      simp only [encClip, retC] at ea
      simp (maxSteps := 4000000) (disch := omega) only [ah, am, Nat.reduceEqDiff, reduceCtorEq, Nat.reduceAdd, Nat.reduceLeDiff, Nat.reduceMul, Nat.reduceLT, if_true, if_false, true_and, and_true, and_self, Nat.reduceBEq, QOp.loads, boxO, bslO, buildO, cutL, fillV, putL, w26, v26, ea, W]
      refine ⟨by omega, _, rfl, ?_⟩
      rw [List.range_succ, List.map_append]; exact F3
    · simp (maxSteps := 4000000) (disch := omega) only [ah, am, Nat.reduceEqDiff, reduceCtorEq, Nat.reduceAdd, Nat.reduceLeDiff, Nat.reduceMul, Nat.reduceLT, if_true, if_false, true_and, and_true, and_self, Nat.reduceBEq, QOp.loads, boxO, bslO, buildO, cutL, fillV, putL, w26, v26]
      obtain rfl : i = n.toNat := by omega
      refine stepC.of (l4Edit_ok _ _ _ F.slt (by simp; omega)) ?_
      rintro _ H4 ⟨rv, rfl, F4⟩
      simp (maxSteps := 4000000) (disch := omega) only [ah, am, Nat.reduceEqDiff, reduceCtorEq, Nat.reduceAdd, Nat.reduceLeDiff, Nat.reduceMul, Nat.reduceLT, if_true, if_false, true_and, and_true, and_self, Nat.reduceBEq, QOp.loads, boxO, bslO, buildO, cutL, fillV, putL, w26, v26]
      rw [hT]
      exact ⟨rv, rfl, F4.mono F.1⟩
  · have hT : retF l src n = ([], false) := if_neg hc
    rw [hT]
    simp (maxSteps := 4000000) (disch := omega) only [ah, am, Nat.reduceEqDiff, reduceCtorEq, Nat.reduceAdd, Nat.reduceLeDiff, Nat.reduceMul, Nat.reduceLT, if_true, if_false, true_and, and_true, and_self, Nat.reduceBEq, QOp.loads, boxO, bslO, buildO, cutL, fillV, putL, w26, v26]
    (repeat' first
    | (refine stepC.of (l4Src_ok _ _) ?_; rintro _ _ ⟨rfl, rfl⟩; simp (maxSteps := 4000000) (disch := omega) only [ah, am, Nat.reduceEqDiff, reduceCtorEq, Nat.reduceAdd, Nat.reduceLeDiff, Nat.reduceMul, Nat.reduceLT, if_true, if_false, true_and, and_true, and_self, Nat.reduceBEq, QOp.loads, boxO, bslO, buildO, cutL, fillV, putL, i64w, w26, v26])
    | (refine stepC.of (l1In_ok _ _ _ _) ?_; rintro _ _ ⟨rfl, rfl⟩; simp (maxSteps := 4000000) (disch := omega) only [ah, am, Nat.reduceEqDiff, reduceCtorEq, Nat.reduceAdd, Nat.reduceLeDiff, Nat.reduceMul, Nat.reduceLT, if_true, if_false, true_and, and_true, and_self, Nat.reduceBEq, QOp.loads, boxO, bslO, buildO, cutL, fillV, putL, i64w, w26, v26])
    | (refine stepG.cases (fun _ hp => ?_) (fun _ hp => ?_) <;> simp (maxSteps := 4000000) (disch := omega) only [hp, ah, am, Nat.reduceEqDiff, reduceCtorEq, Nat.reduceAdd, Nat.reduceLeDiff, Nat.reduceMul, Nat.reduceLT, if_true, if_false, true_and, and_true, and_self, Nat.reduceBEq, QOp.loads, boxO, bslO, buildO, cutL, fillV, putL, i64w, w26, v26])
    | (refine stepI.cases (fun _ hp => ?_) (fun _ hp => ?_) <;> simp (maxSteps := 4000000) (disch := omega) only [hp, ah, am, Nat.reduceEqDiff, reduceCtorEq, Nat.reduceAdd, Nat.reduceLeDiff, Nat.reduceMul, Nat.reduceLT, if_true, if_false, true_and, and_true, and_self, Nat.reduceBEq, QOp.loads, boxO, bslO, buildO, cutL, fillV, putL, i64w, w26, v26]))
    all_goals first
      | exact ⟨_, rfl, (Fresh.new0 _ encClip_len (by omega))⟩
      | exact (hc ⟨by assumption, by assumption, by assumption⟩).elim
end Go.Proofs.Ytknpombiomnkbaa
