import Derived.Test.YtknpombiomnkbaaI6
import Derived.Test.YtknpombiomnkbaaS11
namespace Go.Proofs.Ytknpombiomnkbaa
open Go Go.Ah
set_option linter.unusedSimpArgs false
set_option linter.unusedVariables false
set_option maxRecDepth 10000
set_option maxHeartbeats 4000000
/-! 12 loop.example/g00066/impl.Relink: parameters 4, live [0, 1, 2, 3], slots [0:track, 1:old, 2:new, 3:by, 4:track, 5:old, 6:new, 7:by, 10:out, 11:i, 12:c] -/
def c12_0 : List SOper := [⟨some 8, .q (.mv (.c (.slice none 0 0))), none⟩, ⟨some 9, .q (.mv (.c (.bool false))), none⟩]
def c12_1 : List SOper := [⟨some 13, .q (.mv (.t 0)), none⟩, ⟨some 14, .e (.call 50 [(.t 13)]), none⟩, ⟨some 15, .q (.not (.t 14)), none⟩, ⟨some 16, .q (.mv (.t 15)), none⟩, ⟨some 17, .q (.mv (.t 1)), some (16, false)⟩, ⟨some 18, .e (.call 51 [(.t 17), (.c (.int .i64 1)), (.c (.int .i64 500))]), some (16, false)⟩, ⟨some 19, .q (.not (.t 18)), some (16, false)⟩, ⟨some 20, .q (.pick (.t 16) (.c (.bool true)) (.t 19)), none⟩, ⟨some 21, .q (.mv (.t 20)), none⟩, ⟨some 22, .q (.mv (.t 2)), some (21, false)⟩, ⟨some 23, .e (.call 51 [(.t 22), (.c (.int .i64 1)), (.c (.int .i64 500))]), some (21, false)⟩, ⟨some 24, .q (.not (.t 23)), some (21, false)⟩, ⟨some 25, .q (.pick (.t 21) (.c (.bool true)) (.t 24)), none⟩, ⟨some 26, .q (.mv (.t 25)), none⟩, ⟨some 27, .q (.mv (.t 3)), some (26, false)⟩, ⟨some 28, .e (.call 51 [(.t 27), (.c (.int .i64 (-10000000))), (.c (.int .i64 10000000))]), some (26, false)⟩, ⟨some 29, .q (.not (.t 28)), some (26, false)⟩, ⟨some 30, .q (.pick (.t 26) (.c (.bool true)) (.t 29)), none⟩]
def c12_2 : List SOper := [⟨some 8, .q (.mv (.c (.slice none 0 0))), none⟩, ⟨some 9, .q (.mv (.c (.bool false))), none⟩]
def c12_3 : SCode := .seq (.region c12_2 [8, 9]) .ret
def c12_4 : SCode := .cond (.t 30) c12_3 .skip
def c12_5 : SCode := .seq (.region c12_1 [0, 1, 2, 3, 30]) c12_4
def c12_6 : List SOper := [⟨some 31, .q (.mv (.t 0)), none⟩, ⟨some 32, .e (.call 52 [(.t 31)]), none⟩, ⟨some 10, .q (.mv (.t 32)), none⟩]
def c12_7 : List SOper := [⟨some 33, .q (.mv (.t 10)), none⟩, ⟨some 34, .q (.len (.t 33)), none⟩, ⟨some 35, .q (.mv (.c (.int .i64 0))), none⟩]
def c12_8 : List SOper := [⟨some 36, .q (.bin .lss (.t 35) (.t 34)), none⟩]
def c12_9 : SCode := .cond (.t 36) .skip (.exit 0)
def c12_10 : List SOper := [⟨some 37, .q (.mv (.t 35)), none⟩, ⟨some 38, .q (.ia 3 (.t 33) (.t 35)), none⟩, ⟨some 39, .q (.ldn 3 (.t 38)), none⟩, ⟨some 12, .a (.new [(.int .i64 0), (.int .i64 0), (.int .i64 0)]), none⟩, ⟨some 11, .q (.mv (.t 37)), none⟩, ⟨none, .e (.st 3 (.t 12) (.t 39)), none⟩]
def c12_11 : List SOper := [⟨some 40, .q (.fa 0 (.t 12)), none⟩, ⟨some 41, .q (.ld (.t 40)), none⟩, ⟨some 42, .q (.mv (.t 1)), none⟩, ⟨some 43, .q (.bin .neq (.t 41) (.t 42)), none⟩]
def c12_12 : SCode := .cond (.t 43) (.exit 1) .skip
def c12_13 : SCode := .seq (.region c12_11 [1, 2, 3, 10, 11, 12, 33, 34, 35, 43]) c12_12
def c12_14 : List SOper := [⟨some 44, .q (.mv (.t 10)), none⟩, ⟨some 45, .q (.mv (.t 11)), none⟩, ⟨some 46, .q (.mv (.t 2)), none⟩, ⟨some 47, .q (.fa 1 (.t 12)), none⟩, ⟨some 48, .q (.ld (.t 47)), none⟩, ⟨some 49, .q (.mv (.t 3)), none⟩, ⟨some 50, .q (.bin .add (.t 48) (.t 49)), none⟩, ⟨some 51, .q (.fa 2 (.t 12)), none⟩, ⟨some 52, .q (.ld (.t 51)), none⟩, ⟨some 53, .q (.build [(.int .i64 0), (.int .i64 0), (.int .i64 0)] [(0, 1, (.t 46)), (1, 1, (.t 50)), (2, 1, (.t 52))]), none⟩, ⟨some 54, .q (.ia 3 (.t 44) (.t 45)), none⟩, ⟨none, .e (.st 3 (.t 54) (.t 53)), none⟩]
def c12_15 : List SOper := [⟨some 55, .q (.mv (.t 10)), none⟩, ⟨some 56, .q (.mv (.t 11)), none⟩, ⟨some 57, .q (.ia 3 (.t 55) (.t 56)), none⟩, ⟨some 58, .q (.ldn 3 (.t 57)), none⟩, ⟨some 59, .e (.call 53 [(.t 58)]), none⟩, ⟨some 60, .q (.not (.t 59)), none⟩]
def c12_16 : List SOper := [⟨some 8, .q (.mv (.c (.slice none 0 0))), none⟩, ⟨some 9, .q (.mv (.c (.bool false))), none⟩]
def c12_17 : SCode := .seq (.region c12_16 [8, 9]) .ret
def c12_18 : SCode := .cond (.t 60) c12_17 .skip
def c12_19 : SCode := .seq (.region c12_15 [1, 2, 3, 10, 33, 34, 35, 60]) c12_18
def c12_20 : SCode := .seq (.region c12_14 [1, 2, 3, 10, 11, 33, 34, 35]) c12_19
def c12_21 : SCode := .seq c12_13 c12_20
def c12_22 : SCode := .seq (.region c12_10 [1, 2, 3, 10, 11, 12, 33, 34, 35]) c12_21
def c12_23 : SCode := .block 1 c12_22
def c12_24 : List SOper := [⟨some 61, .q (.bin .add (.t 35) (.c (.int .i64 1))), none⟩, ⟨some 35, .q (.mv (.t 61)), none⟩]
def c12_25 : SCode := .seq c12_23 (.region c12_24 [1, 2, 3, 10, 33, 34, 35])
def c12_26 : SCode := .seq c12_9 c12_25
def c12_27 : SCode := .seq (.region c12_8 [1, 2, 3, 10, 33, 34, 35, 36]) c12_26
def c12_28 : SCode := .loop c12_27
def c12_29 : SCode := .block 0 c12_28
def c12_30 : SCode := .seq (.region c12_7 [1, 2, 3, 10, 33, 34, 35]) c12_29
def c12_31 : List SOper := [⟨some 62, .q (.mv (.t 10)), none⟩, ⟨some 63, .a (.bsl 1 1 [(.slice none 0 0)] [(0, 1, (.t 62))]), none⟩, ⟨some 64, .e (.call 54 [(.t 63)]), none⟩, ⟨some 65, .q (.ext (.t 64) 0), none⟩, ⟨some 66, .q (.ext (.t 64) 1), none⟩, ⟨some 8, .q (.mv (.t 65)), none⟩, ⟨some 9, .q (.mv (.t 66)), none⟩]
def c12_32 : SCode := .seq (.region c12_31 [8, 9]) .ret
def c12_33 : SCode := .seq c12_30 c12_32
def c12_34 : SCode := .seq (.region c12_6 [1, 2, 3, 10]) c12_33
def c12_35 : SCode := .seq c12_5 c12_34
def c12_36 : SCode := .seq (.region c12_0 [0, 1, 2, 3]) c12_35
def c12 : SCode := c12_36
theorem w12 : type_of% (And.intro (uR Try.prog c12_0.eq_1) (And.intro (uR Try.prog c12_1.eq_1) (And.intro (uR Try.prog c12_2.eq_1) (And.intro (uC Try.prog c12_3.eq_1) (And.intro (uC Try.prog c12_4.eq_1) (And.intro (uC Try.prog c12_5.eq_1) (And.intro (uR Try.prog c12_6.eq_1) (And.intro (uR Try.prog c12_7.eq_1) (And.intro (uR Try.prog c12_8.eq_1) (And.intro (uC Try.prog c12_9.eq_1) (And.intro (uR Try.prog c12_10.eq_1) (And.intro (uR Try.prog c12_11.eq_1) (And.intro (uC Try.prog c12_12.eq_1) (And.intro (uC Try.prog c12_13.eq_1) (And.intro (uR Try.prog c12_14.eq_1) (And.intro (uR Try.prog c12_15.eq_1) (And.intro (uR Try.prog c12_16.eq_1) (And.intro (uC Try.prog c12_17.eq_1) (And.intro (uC Try.prog c12_18.eq_1) (And.intro (uC Try.prog c12_19.eq_1) (And.intro (uC Try.prog c12_20.eq_1) (And.intro (uC Try.prog c12_21.eq_1) (And.intro (uC Try.prog c12_22.eq_1) (And.intro (uC Try.prog c12_23.eq_1) (And.intro (uR Try.prog c12_24.eq_1) (And.intro (uC Try.prog c12_25.eq_1) (And.intro (uC Try.prog c12_26.eq_1) (And.intro (uC Try.prog c12_27.eq_1) (And.intro (uC Try.prog c12_28.eq_1) (And.intro (uC Try.prog c12_29.eq_1) (And.intro (uC Try.prog c12_30.eq_1) (And.intro (uR Try.prog c12_31.eq_1) (And.intro (uC Try.prog c12_32.eq_1) (And.intro (uC Try.prog c12_33.eq_1) (And.intro (uC Try.prog c12_34.eq_1) (And.intro (uC Try.prog c12_35.eq_1) (And.intro (uC Try.prog c12_36.eq_1) (uC Try.prog c12.eq_1)))))))))))))))))))))))))))))))))))))) := (And.intro (uR Try.prog c12_0.eq_1) (And.intro (uR Try.prog c12_1.eq_1) (And.intro (uR Try.prog c12_2.eq_1) (And.intro (uC Try.prog c12_3.eq_1) (And.intro (uC Try.prog c12_4.eq_1) (And.intro (uC Try.prog c12_5.eq_1) (And.intro (uR Try.prog c12_6.eq_1) (And.intro (uR Try.prog c12_7.eq_1) (And.intro (uR Try.prog c12_8.eq_1) (And.intro (uC Try.prog c12_9.eq_1) (And.intro (uR Try.prog c12_10.eq_1) (And.intro (uR Try.prog c12_11.eq_1) (And.intro (uC Try.prog c12_12.eq_1) (And.intro (uC Try.prog c12_13.eq_1) (And.intro (uR Try.prog c12_14.eq_1) (And.intro (uR Try.prog c12_15.eq_1) (And.intro (uR Try.prog c12_16.eq_1) (And.intro (uC Try.prog c12_17.eq_1) (And.intro (uC Try.prog c12_18.eq_1) (And.intro (uC Try.prog c12_19.eq_1) (And.intro (uC Try.prog c12_20.eq_1) (And.intro (uC Try.prog c12_21.eq_1) (And.intro (uC Try.prog c12_22.eq_1) (And.intro (uC Try.prog c12_23.eq_1) (And.intro (uR Try.prog c12_24.eq_1) (And.intro (uC Try.prog c12_25.eq_1) (And.intro (uC Try.prog c12_26.eq_1) (And.intro (uC Try.prog c12_27.eq_1) (And.intro (uC Try.prog c12_28.eq_1) (And.intro (uC Try.prog c12_29.eq_1) (And.intro (uC Try.prog c12_30.eq_1) (And.intro (uR Try.prog c12_31.eq_1) (And.intro (uC Try.prog c12_32.eq_1) (And.intro (uC Try.prog c12_33.eq_1) (And.intro (uC Try.prog c12_34.eq_1) (And.intro (uC Try.prog c12_35.eq_1) (And.intro (uC Try.prog c12_36.eq_1) (uC Try.prog c12.eq_1))))))))))))))))))))))))))))))))))))))
def v12 : List RV := [.t 8, .t 9]
theorem s12 : slimF Try.prog Try.f12 = some (c12.bare, v12) := by kernel_rfl

theorem editFI' (l : List Clip) (h : ∀ k ∈ l, clipOk k) : editI [l].flatten = editF l := by
  rw [List.flatten_cons, List.flatten_nil, List.append_nil]
  unfold editI editF
  by_cases hj : trackOk (join l)
  · rw [if_pos hj, if_pos ⟨h, hj⟩]
  · rw [if_neg hj, if_neg fun q => hj q.2]
theorem Relink_ok (h : Heap) (v : Value) (l : List Clip) (a b n : Int) (s : SlT h encClip 3 v l) (hl : l.length ≤ 1100000) :
    ACall Try.prog 12 [v, .int .i64 a, .int .i64 b, .int .i64 n] h fun r h' => Pair h h' r (relF l a b n) := by
  refine ACall.of Try.func12 s12 (of_decide_eq_true rfl) ?_
  simp (maxSteps := 4000000) (disch := omega) only [ah, am, Nat.reduceEqDiff, reduceCtorEq, Nat.reduceAdd, Nat.reduceLeDiff, Nat.reduceMul, Nat.reduceLT, if_true, if_false, true_and, and_true, and_self, Nat.reduceBEq, QOp.loads, boxO, bslO, buildO, cutL, fillV, putL, w12, v12]
  refine stepC.of (implTrackOk_ok _ _ _ s (by omega)) ?_
  rintro _ H1 ⟨e1, rfl⟩
  have S1 := s.ext e1
  by_cases hc : relOk l a b n
  · have hT : relF l a b n = editF (l.map (relC a b n)) := if_pos hc
    obtain ⟨ht, ha, hb, hn⟩ := hc
    simp only [ht, ha, hb, hn, decide_true, and_self]
    simp (maxSteps := 4000000) (disch := omega) only [ah, am, Nat.reduceEqDiff, reduceCtorEq, Nat.reduceAdd, Nat.reduceLeDiff, Nat.reduceMul, Nat.reduceLT, if_true, if_false, true_and, and_true, and_self, Nat.reduceBEq, QOp.loads, boxO, bslO, buildO, cutL, fillV, putL, w12, v12, i64w]
    refine stepC.of (in_ok _ _ _ _) ?_
    rintro _ Hx ⟨hx, rfl⟩; rw [hx]; clear hx Hx
    simp (maxSteps := 4000000) (disch := omega) only [ah, am, Nat.reduceEqDiff, reduceCtorEq, Nat.reduceAdd, Nat.reduceLeDiff, Nat.reduceMul, Nat.reduceLT, if_true, if_false, true_and, and_true, and_self, Nat.reduceBEq, QOp.loads, boxO, bslO, buildO, cutL, fillV, putL, w12, v12, i64w, ha]
    refine stepC.of (in_ok _ _ _ _) ?_
    rintro _ Hx ⟨hx, rfl⟩; rw [hx]; clear hx Hx
    simp (maxSteps := 4000000) (disch := omega) only [ah, am, Nat.reduceEqDiff, reduceCtorEq, Nat.reduceAdd, Nat.reduceLeDiff, Nat.reduceMul, Nat.reduceLT, if_true, if_false, true_and, and_true, and_self, Nat.reduceBEq, QOp.loads, boxO, bslO, buildO, cutL, fillV, putL, w12, v12, i64w, hb]
    refine stepC.of (in_ok _ _ _ _) ?_
    rintro _ Hx ⟨hx, rfl⟩; rw [hx]; clear hx Hx
    simp (maxSteps := 4000000) (disch := omega) only [ah, am, Nat.reduceEqDiff, reduceCtorEq, Nat.reduceAdd, Nat.reduceLeDiff, Nat.reduceMul, Nat.reduceLT, if_true, if_false, true_and, and_true, and_self, Nat.reduceBEq, QOp.loads, boxO, bslO, buildO, cutL, fillV, putL, w12, v12, i64w, hn]
    refine stepC.of (Clone_ok _ _ _ S1 hl) ?_
    intro v2 H2 F2
    have R := F2.slt.rulesN
    simp (maxSteps := 4000000) (disch := omega) only [ah, am, Nat.reduceEqDiff, reduceCtorEq, Nat.reduceAdd, Nat.reduceLeDiff, Nat.reduceMul, Nat.reduceLT, if_true, if_false, true_and, and_true, and_self, Nat.reduceBEq, QOp.loads, boxO, bslO, buildO, cutL, fillV, putL, w12, v12, R]
    refine SW_loop_up (fun i E H => E = [(1, .int .i64 a), (2, .int .i64 b), (3, .int .i64 n), (10, v2), (33, v2), (34, .int .i64 l.length), (35, .int .i64 i)] ∧ Fresh _ H encClip 3 v2 ((l.take i).map (relC a b n) ++ l.drop i) ∧
      ∀ k ∈ (l.take i).map (relC a b n), clipOk k) l.length 0 (by omega) ⟨rfl, by simpa using F2, by simp⟩ ?_
    rintro i E H hi ⟨rfl, F, A⟩
    have R := F.slt.rulesN
    have hlen : ((l.take i).map (relC a b n) ++ l.drop i).length = l.length := by simp; omega
    simp only [hlen] at R
    have W : IntKind.i64.wrap ((i : Int) + 1) = ((i + 1 : Nat) : Int) := i64e (by omega) (by omega)
    simp (maxSteps := 4000000) (disch := omega) only [ah, am, Nat.reduceEqDiff, reduceCtorEq, Nat.reduceAdd, Nat.reduceLeDiff, Nat.reduceMul, Nat.reduceLT, if_true, if_false, true_and, and_true, and_self, Nat.reduceBEq, QOp.loads, boxO, bslO, buildO, cutL, fillV, putL, w12, v12, R]
    refine stepI.split (fun hp => ?_) (fun hp => ?_)
    · have hi' : i < l.length := by omega
      have G := map_get (relC a b n) l i hi' (by omega)
      have K' := ht.2.1 _ (List.getElem_mem hi')
      have K := K'
      simp only [clipOk] at K
      have G' : ∀ hx : i < ((l.take i).map (relC a b n) ++ l.drop i).length, ((l.take i).map (relC a b n) ++ l.drop i)[i]'hx = l[i] := fun _ => G
      have A2 : clipOk (relC a b n l[i]) → ∀ k ∈ (l.take (i + 1)).map (relC a b n), clipOk k := by
        intro hk k hm
        rw [List.take_succ_eq_append_getElem hi', List.map_append] at hm
        simp only [List.mem_append, List.map_cons, List.map_nil, List.mem_singleton] at hm
        rcases hm with hm | rfl
        · exact A k hm
        · exact hk
      by_cases hs : l[i].src = a
      · have hr : relC a b n l[i] = ⟨b, l[i].inn + n, l[i].len⟩ := if_pos hs
        have hs' : decide (l[i].src = a) = true := decide_eq_true hs
        have F0 := F.ext (Ext.more H [encClip l[i]])
        obtain ⟨H3, es, F3, -⟩ := F0.set (j := i) (by omega) (⟨b, l[i].inn + n, l[i].len⟩ : Clip) rfl
        have R0 := F0.slt.rulesN
        have R3 := F3.slt.rulesN
        simp only [hlen] at R0
        simp only [List.length_set, hlen] at R3
        simp only [encClip] at es R0
        simp (maxSteps := 4000000) (disch := omega) only [ah, am, Nat.reduceEqDiff, reduceCtorEq, Nat.reduceAdd, Nat.reduceLeDiff, Nat.reduceMul, Nat.reduceLT, if_true, if_false, true_and, and_true, and_self, Nat.reduceBEq, QOp.loads, boxO, bslO, buildO, cutL, fillV, putL, w12, v12, R, R0, W, G', encClip, i64w, hs', es, R3, List.getElem_set_self]
        refine stepC.of (ok_ok _ ⟨b, l[i].inn + n, l[i].len⟩) ?_
        rintro _ H5 ⟨e5, rfl⟩
        simp (maxSteps := 4000000) (disch := omega) only [ah, am, Nat.reduceEqDiff, reduceCtorEq, Nat.reduceAdd, Nat.reduceLeDiff, Nat.reduceMul, Nat.reduceLT, if_true, if_false, true_and, and_true, and_self, Nat.reduceBEq, QOp.loads, boxO, bslO, buildO, cutL, fillV, putL, w12, v12, W]
        refine stepI.split (fun hq => ?_) (fun hq => ?_)
        · simp (maxSteps := 4000000) (disch := omega) only [ah, am, Nat.reduceEqDiff, reduceCtorEq, Nat.reduceAdd, Nat.reduceLeDiff, Nat.reduceMul, Nat.reduceLT, if_true, if_false, true_and, and_true, and_self, Nat.reduceBEq, QOp.loads, boxO, bslO, buildO, cutL, fillV, putL, w12, v12, W]
          refine ⟨hi', ?_, A2 (by rw [hr]; exact hq)⟩
          rw [← map_step (relC a b n) l i hi', hr]; exact F3.ext e5
        · simp (maxSteps := 4000000) (disch := omega) only [ah, am, Nat.reduceEqDiff, reduceCtorEq, Nat.reduceAdd, Nat.reduceLeDiff, Nat.reduceMul, Nat.reduceLT, if_true, if_false, true_and, and_true, and_self, Nat.reduceBEq, QOp.loads, boxO, bslO, buildO, cutL, fillV, putL, w12, v12, W]
          have hE : editF (l.map (relC a b n)) = ([], false) := if_neg fun q => hq (by rw [← hr]; exact q.1 _ (List.mem_map.mpr ⟨_, List.getElem_mem hi', rfl⟩))
          rw [hT, hE]
          exact ⟨_, rfl, (Fresh.nil _ encClip_len (by omega)).mono (e1.trans (F3.1.trans e5))⟩
      · have hs' : decide (l[i].src = a) = false := decide_eq_false hs
        simp (maxSteps := 4000000) (disch := omega) only [ah, am, Nat.reduceEqDiff, reduceCtorEq, Nat.reduceAdd, Nat.reduceLeDiff, Nat.reduceMul, Nat.reduceLT, if_true, if_false, true_and, and_true, and_self, Nat.reduceBEq, QOp.loads, boxO, bslO, buildO, cutL, fillV, putL, w12, v12, R, W, G', encClip, i64w, hs']
        have hr : relC a b n l[i] = l[i] := if_neg hs
        refine ⟨hi', ?_, A2 (by rw [hr]; exact K')⟩
        rw [← map_keep (relC a b n) l i hi' hr]; exact F.ext (Ext.more _ _)
    · simp (maxSteps := 4000000) (disch := omega) only [ah, am, Nat.reduceEqDiff, reduceCtorEq, Nat.reduceAdd, Nat.reduceLeDiff, Nat.reduceMul, Nat.reduceLT, if_true, if_false, true_and, and_true, and_self, Nat.reduceBEq, QOp.loads, boxO, bslO, buildO, cutL, fillV, putL, w12, v12, R, W]
      obtain rfl : i = l.length := by omega
      rw [List.take_length, List.drop_length, List.append_nil] at F
      rw [List.take_length] at A
      have o1 := one_slice _ _ _ F.slt
      have c1 := cells_sl F.slt
      simp (maxSteps := 4000000) (disch := omega) only [ah, am, Nat.reduceEqDiff, reduceCtorEq, Nat.reduceAdd, Nat.reduceLeDiff, Nat.reduceMul, Nat.reduceLT, if_true, if_false, true_and, and_true, and_self, Nat.reduceBEq, QOp.loads, boxO, bslO, buildO, cutL, fillV, putL, w12, v12, o1, c1, size_mk, List.reduceReplicate]
      refine stepC.of (edited_ok _ _ _ (Rows.one F.slt) (by simp) (by simpa using hl) (fun k hk => (A k (by simpa using hk)).in)) ?_
      rintro _ H6 ⟨rv, rfl, F6⟩
      simp (maxSteps := 4000000) (disch := omega) only [ah, am, Nat.reduceEqDiff, reduceCtorEq, Nat.reduceAdd, Nat.reduceLeDiff, Nat.reduceMul, Nat.reduceLT, if_true, if_false, true_and, and_true, and_self, Nat.reduceBEq, QOp.loads, boxO, bslO, buildO, cutL, fillV, putL, w12, v12]
      rw [editFI' _ A] at F6 ⊢
      rw [hT]
      exact ⟨rv, rfl, F6.mono (e1.trans (F.1.trans (Ext.more _ _)))⟩
  · have hT : relF l a b n = ([], false) := if_neg hc
    rw [hT]
    simp (maxSteps := 4000000) (disch := omega) only [ah, am, Nat.reduceEqDiff, reduceCtorEq, Nat.reduceAdd, Nat.reduceLeDiff, Nat.reduceMul, Nat.reduceLT, if_true, if_false, true_and, and_true, and_self, Nat.reduceBEq, QOp.loads, boxO, bslO, buildO, cutL, fillV, putL, w12, v12]
    (repeat' first
    | (refine stepC.of (in_ok _ _ _ _) ?_; rintro _ _ ⟨rfl, rfl⟩; simp (maxSteps := 4000000) (disch := omega) only [ah, am, Nat.reduceEqDiff, reduceCtorEq, Nat.reduceAdd, Nat.reduceLeDiff, Nat.reduceMul, Nat.reduceLT, if_true, if_false, true_and, and_true, and_self, Nat.reduceBEq, QOp.loads, boxO, bslO, buildO, cutL, fillV, putL, i64w, w12, v12])
    | (refine stepG.cases (fun _ hp => ?_) (fun _ hp => ?_) <;> simp (maxSteps := 4000000) (disch := omega) only [hp, ah, am, Nat.reduceEqDiff, reduceCtorEq, Nat.reduceAdd, Nat.reduceLeDiff, Nat.reduceMul, Nat.reduceLT, if_true, if_false, true_and, and_true, and_self, Nat.reduceBEq, QOp.loads, boxO, bslO, buildO, cutL, fillV, putL, i64w, w12, v12])
    | (refine stepI.cases (fun _ hp => ?_) (fun _ hp => ?_) <;> simp (maxSteps := 4000000) (disch := omega) only [hp, ah, am, Nat.reduceEqDiff, reduceCtorEq, Nat.reduceAdd, Nat.reduceLeDiff, Nat.reduceMul, Nat.reduceLT, if_true, if_false, true_and, and_true, and_self, Nat.reduceBEq, QOp.loads, boxO, bslO, buildO, cutL, fillV, putL, i64w, w12, v12]))
    all_goals first
      | exact ⟨_, rfl, (Fresh.nil _ encClip_len (by omega)).mono e1⟩
      | exact (hc ⟨by assumption, by assumption, by assumption, by assumption⟩).elim
end Go.Proofs.Ytknpombiomnkbaa
