import Derived.Test.YtknpombiomnkbaaJ3
import Derived.Test.YtknpombiomnkbaaD8
import Derived.Test.YtknpombiomnkbaaI14
namespace Go.Proofs.Ytknpombiomnkbaa
open Go Go.Ah
set_option linter.unusedSimpArgs false
set_option linter.unusedVariables false
set_option maxRecDepth 10000
set_option maxHeartbeats 4000000
/-! 27 loop.example/g00066/impl.SpeedAt: parameters 2, live [0, 1], slots [0:keys, 1:t, 2:keys, 3:t, 5:out, 6:_, 7:_] -/
def c27_0 : List SOper := [⟨some 4, .q (.mv (.c (.int .i64 0))), none⟩]
def c27_1 : List SOper := [⟨some 8, .q (.mv (.t 0)), none⟩, ⟨some 9, .e (.call 71 [(.t 8)]), none⟩, ⟨some 10, .q (.not (.t 9)), none⟩, ⟨some 11, .q (.mv (.t 10)), none⟩, ⟨some 12, .q (.mv (.t 1)), some (11, false)⟩, ⟨some 13, .e (.call 75 [(.t 12)]), some (11, false)⟩, ⟨some 14, .q (.not (.t 13)), some (11, false)⟩, ⟨some 15, .q (.pick (.t 11) (.c (.bool true)) (.t 14)), none⟩]
def c27_2 : List SOper := [⟨some 4, .q (.mv (.c (.int .i64 (-1)))), none⟩]
def c27_3 : SCode := .seq (.region c27_2 [4]) .ret
def c27_4 : SCode := .cond (.t 15) c27_3 .skip
def c27_5 : SCode := .seq (.region c27_1 [0, 1, 15]) c27_4
def c27_6 : List SOper := [⟨some 17, .q (.mv (.t 0)), none⟩, ⟨some 18, .q (.mv (.t 1)), none⟩, ⟨some 19, .e (.call 72 [(.t 17), (.t 18)]), none⟩, ⟨some 16, .q (.mv (.t 19)), none⟩, ⟨some 20, .q (.ext (.t 16) 0), none⟩, ⟨some 21, .q (.ext (.t 16) 1), none⟩, ⟨some 22, .q (.ext (.t 16) 2), none⟩, ⟨some 5, .q (.mv (.t 20)), none⟩, ⟨some 6, .q (.mv (.t 21)), none⟩, ⟨some 7, .q (.mv (.t 22)), none⟩]
def c27_7 : List SOper := [⟨some 23, .q (.mv (.t 5)), none⟩, ⟨some 4, .q (.mv (.t 23)), none⟩]
def c27_8 : SCode := .seq (.region c27_7 [4]) .ret
def c27_9 : SCode := .seq (.region c27_6 [5]) c27_8
def c27_10 : SCode := .seq c27_5 c27_9
def c27_11 : SCode := .seq (.region c27_0 [0, 1]) c27_10
def c27 : SCode := c27_11
theorem w27 : type_of% (And.intro (uR Try.prog c27_0.eq_1) (And.intro (uR Try.prog c27_1.eq_1) (And.intro (uR Try.prog c27_2.eq_1) (And.intro (uC Try.prog c27_3.eq_1) (And.intro (uC Try.prog c27_4.eq_1) (And.intro (uC Try.prog c27_5.eq_1) (And.intro (uR Try.prog c27_6.eq_1) (And.intro (uR Try.prog c27_7.eq_1) (And.intro (uC Try.prog c27_8.eq_1) (And.intro (uC Try.prog c27_9.eq_1) (And.intro (uC Try.prog c27_10.eq_1) (And.intro (uC Try.prog c27_11.eq_1) (uC Try.prog c27.eq_1))))))))))))) := (And.intro (uR Try.prog c27_0.eq_1) (And.intro (uR Try.prog c27_1.eq_1) (And.intro (uR Try.prog c27_2.eq_1) (And.intro (uC Try.prog c27_3.eq_1) (And.intro (uC Try.prog c27_4.eq_1) (And.intro (uC Try.prog c27_5.eq_1) (And.intro (uR Try.prog c27_6.eq_1) (And.intro (uR Try.prog c27_7.eq_1) (And.intro (uC Try.prog c27_8.eq_1) (And.intro (uC Try.prog c27_9.eq_1) (And.intro (uC Try.prog c27_10.eq_1) (And.intro (uC Try.prog c27_11.eq_1) (uC Try.prog c27.eq_1)))))))))))))
def v27 : List RV := [.t 4]
theorem s27 : slimF Try.prog Try.f27 = some (c27.bare, v27) := by kernel_rfl
/-! 6 loop.example/g00066/laws.FnRetimed: parameters 1, live [0], slots [0:code, 1:code, 3:k, 4:src, 5:n, 6:t, 7:is, 8:_, 9:told, 10:i, 11:s, 12:f] -/
def c6_0 : List SOper := [⟨some 2, .q (.mv (.c (.bool false))), none⟩]
def c6_1 : List SOper := [⟨some 13, .q (.mv (.t 0)), none⟩, ⟨some 14, .e (.call 10 [(.t 13)]), none⟩]
def c6_2 : List SOper := [⟨some 2, .q (.mv (.c (.bool true))), none⟩]
def c6_3 : SCode := .seq (.region c6_2 [2]) .ret
def c6_4 : SCode := .cond (.t 14) c6_3 .skip
def c6_5 : SCode := .seq (.region c6_1 [0, 14]) c6_4
def c6_6 : List SOper := [⟨some 16, .q (.mv (.t 0)), none⟩, ⟨some 17, .e (.call 24 [(.t 16)]), none⟩, ⟨some 15, .q (.mv (.t 17)), none⟩, ⟨some 18, .q (.ext (.t 15) 0), none⟩, ⟨some 19, .q (.ext (.t 15) 1), none⟩, ⟨some 20, .q (.ext (.t 15) 2), none⟩, ⟨some 3, .q (.mv (.t 18)), none⟩, ⟨some 4, .q (.mv (.t 19)), none⟩, ⟨some 5, .q (.mv (.t 20)), none⟩]
def c6_7 : List SOper := [⟨some 22, .q (.mv (.t 3)), none⟩, ⟨some 23, .q (.mv (.t 4)), none⟩, ⟨some 24, .q (.mv (.t 5)), none⟩, ⟨some 25, .e (.call 25 [(.t 22), (.t 23), (.t 24)]), none⟩, ⟨some 21, .q (.mv (.t 25)), none⟩, ⟨some 26, .q (.ext (.t 21) 0), none⟩, ⟨some 27, .q (.ext (.t 21) 1), none⟩, ⟨some 6, .q (.mv (.t 26)), none⟩, ⟨some 7, .q (.mv (.t 27)), none⟩]
def c6_8 : List SOper := [⟨some 29, .q (.mv (.t 3)), none⟩, ⟨some 30, .q (.mv (.t 4)), none⟩, ⟨some 31, .q (.mv (.t 5)), none⟩, ⟨some 32, .e (.call 26 [(.t 29), (.t 30), (.t 31)]), none⟩, ⟨some 28, .q (.mv (.t 32)), none⟩, ⟨some 33, .q (.ext (.t 28) 0), none⟩, ⟨some 34, .q (.ext (.t 28) 1), none⟩, ⟨some 8, .q (.mv (.t 33)), none⟩, ⟨some 9, .q (.mv (.t 34)), none⟩]
def c6_9 : List SOper := [⟨some 35, .q (.mv (.t 7)), none⟩, ⟨some 36, .q (.mv (.t 9)), none⟩, ⟨some 37, .q (.eqb true (.t 35) (.t 36)), none⟩]
def c6_10 : List SOper := [⟨some 2, .q (.mv (.c (.bool false))), none⟩]
def c6_11 : SCode := .seq (.region c6_10 [2]) .ret
def c6_12 : SCode := .cond (.t 37) c6_11 .skip
def c6_13 : SCode := .seq (.region c6_9 [3, 4, 5, 6, 7, 37]) c6_12
def c6_14 : SCode := .seq (.region c6_8 [3, 4, 5, 6, 7, 9]) c6_13
def c6_15 : List SOper := [⟨some 38, .q (.mv (.t 7)), none⟩, ⟨some 39, .q (.not (.t 38)), none⟩]
def c6_16 : List SOper := [⟨some 40, .q (.mv (.t 6)), none⟩, ⟨some 41, .q (.len (.t 40)), none⟩, ⟨some 42, .q (.bin .eql (.t 41) (.c (.int .i64 0))), none⟩, ⟨some 2, .q (.mv (.t 42)), none⟩]
def c6_17 : SCode := .seq (.region c6_16 [2]) .ret
def c6_18 : SCode := .cond (.t 39) c6_17 .skip
def c6_19 : SCode := .seq (.region c6_15 [3, 4, 5, 6, 39]) c6_18
def c6_20 : List SOper := [⟨some 10, .q (.mv (.c (.int .i64 0))), none⟩]
def c6_21 : List SOper := [⟨some 43, .q (.mv (.t 10)), none⟩, ⟨some 44, .q (.mv (.t 5)), none⟩, ⟨some 45, .q (.bin .lss (.t 43) (.t 44)), none⟩, ⟨some 46, .q (.mv (.t 45)), none⟩, ⟨some 47, .q (.mv (.t 10)), some (46, true)⟩, ⟨some 48, .q (.bin .lss (.t 47) (.c (.int .i64 60))), some (46, true)⟩, ⟨some 49, .q (.pick (.t 46) (.t 48) (.c (.bool false))), none⟩]
def c6_22 : SCode := .cond (.t 49) .skip (.exit 0)
def c6_23 : SCode := .seq (.region c6_21 [3, 4, 5, 6, 10, 49]) c6_22
def c6_24 : List SOper := [⟨some 53, .q (.mv (.t 6)), none⟩, ⟨some 54, .q (.mv (.t 10)), none⟩, ⟨some 55, .e (.call 20 [(.t 53), (.t 54)]), none⟩, ⟨some 52, .q (.mv (.t 55)), none⟩, ⟨some 56, .q (.ext (.t 52) 0), none⟩, ⟨some 57, .q (.ext (.t 52) 1), none⟩, ⟨some 11, .q (.mv (.t 56)), none⟩, ⟨some 12, .q (.mv (.t 57)), none⟩]
def c6_25 : List SOper := [⟨some 58, .q (.mv (.t 11)), none⟩, ⟨some 59, .q (.mv (.t 4)), none⟩, ⟨some 60, .q (.bin .neq (.t 58) (.t 59)), none⟩, ⟨some 61, .q (.mv (.t 60)), none⟩, ⟨some 62, .q (.mv (.t 12)), some (61, false)⟩, ⟨some 63, .q (.mv (.t 3)), some (61, false)⟩, ⟨some 64, .q (.mv (.t 10)), some (61, false)⟩, ⟨some 65, .e (.call 27 [(.t 63), (.t 64)]), some (61, false)⟩, ⟨some 66, .q (.bin .neq (.t 62) (.t 65)), some (61, false)⟩, ⟨some 67, .q (.pick (.t 61) (.c (.bool true)) (.t 66)), none⟩]
def c6_26 : List SOper := [⟨some 2, .q (.mv (.c (.bool false))), none⟩]
def c6_27 : SCode := .seq (.region c6_26 [2]) .ret
def c6_28 : SCode := .cond (.t 67) c6_27 .skip
def c6_29 : SCode := .seq (.region c6_25 [3, 4, 5, 6, 10, 67]) c6_28
def c6_30 : SCode := .seq (.region c6_24 [3, 4, 5, 6, 10, 11, 12]) c6_29
def c6_31 : SCode := .block 1 c6_30
def c6_32 : List SOper := [⟨some 50, .q (.mv (.t 10)), none⟩, ⟨some 51, .q (.bin .add (.t 50) (.c (.int .i64 1))), none⟩, ⟨some 10, .q (.mv (.t 51)), none⟩]
def c6_33 : SCode := .seq c6_31 (.region c6_32 [3, 4, 5, 6, 10])
def c6_34 : SCode := .seq c6_23 c6_33
def c6_35 : SCode := .loop c6_34
def c6_36 : SCode := .block 0 c6_35
def c6_37 : SCode := .seq (.region c6_20 [3, 4, 5, 6, 10]) c6_36
def c6_38 : List SOper := [⟨some 68, .q (.mv (.t 6)), none⟩, ⟨some 69, .e (.call 16 [(.t 68)]), none⟩, ⟨some 70, .q (.mv (.t 5)), none⟩, ⟨some 71, .q (.bin .eql (.t 69) (.t 70)), none⟩, ⟨some 2, .q (.mv (.t 71)), none⟩]
def c6_39 : SCode := .seq (.region c6_38 [2]) .ret
def c6_40 : SCode := .seq c6_37 c6_39
def c6_41 : SCode := .seq c6_19 c6_40
def c6_42 : SCode := .seq c6_14 c6_41
def c6_43 : SCode := .seq (.region c6_7 [3, 4, 5, 6, 7]) c6_42
def c6_44 : SCode := .seq (.region c6_6 [3, 4, 5]) c6_43
def c6_45 : SCode := .seq c6_5 c6_44
def c6_46 : SCode := .seq (.region c6_0 [0]) c6_45
def c6 : SCode := c6_46
theorem w6 : type_of% (And.intro (uR Try.prog c6_0.eq_1) (And.intro (uR Try.prog c6_1.eq_1) (And.intro (uR Try.prog c6_2.eq_1) (And.intro (uC Try.prog c6_3.eq_1) (And.intro (uC Try.prog c6_4.eq_1) (And.intro (uC Try.prog c6_5.eq_1) (And.intro (uR Try.prog c6_6.eq_1) (And.intro (uR Try.prog c6_7.eq_1) (And.intro (uR Try.prog c6_8.eq_1) (And.intro (uR Try.prog c6_9.eq_1) (And.intro (uR Try.prog c6_10.eq_1) (And.intro (uC Try.prog c6_11.eq_1) (And.intro (uC Try.prog c6_12.eq_1) (And.intro (uC Try.prog c6_13.eq_1) (And.intro (uC Try.prog c6_14.eq_1) (And.intro (uR Try.prog c6_15.eq_1) (And.intro (uR Try.prog c6_16.eq_1) (And.intro (uC Try.prog c6_17.eq_1) (And.intro (uC Try.prog c6_18.eq_1) (And.intro (uC Try.prog c6_19.eq_1) (And.intro (uR Try.prog c6_20.eq_1) (And.intro (uR Try.prog c6_21.eq_1) (And.intro (uC Try.prog c6_22.eq_1) (And.intro (uC Try.prog c6_23.eq_1) (And.intro (uR Try.prog c6_24.eq_1) (And.intro (uR Try.prog c6_25.eq_1) (And.intro (uR Try.prog c6_26.eq_1) (And.intro (uC Try.prog c6_27.eq_1) (And.intro (uC Try.prog c6_28.eq_1) (And.intro (uC Try.prog c6_29.eq_1) (And.intro (uC Try.prog c6_30.eq_1) (And.intro (uC Try.prog c6_31.eq_1) (And.intro (uR Try.prog c6_32.eq_1) (And.intro (uC Try.prog c6_33.eq_1) (And.intro (uC Try.prog c6_34.eq_1) (And.intro (uC Try.prog c6_35.eq_1) (And.intro (uC Try.prog c6_36.eq_1) (And.intro (uC Try.prog c6_37.eq_1) (And.intro (uR Try.prog c6_38.eq_1) (And.intro (uC Try.prog c6_39.eq_1) (And.intro (uC Try.prog c6_40.eq_1) (And.intro (uC Try.prog c6_41.eq_1) (And.intro (uC Try.prog c6_42.eq_1) (And.intro (uC Try.prog c6_43.eq_1) (And.intro (uC Try.prog c6_44.eq_1) (And.intro (uC Try.prog c6_45.eq_1) (And.intro (uC Try.prog c6_46.eq_1) (uC Try.prog c6.eq_1)))))))))))))))))))))))))))))))))))))))))))))))) := (And.intro (uR Try.prog c6_0.eq_1) (And.intro (uR Try.prog c6_1.eq_1) (And.intro (uR Try.prog c6_2.eq_1) (And.intro (uC Try.prog c6_3.eq_1) (And.intro (uC Try.prog c6_4.eq_1) (And.intro (uC Try.prog c6_5.eq_1) (And.intro (uR Try.prog c6_6.eq_1) (And.intro (uR Try.prog c6_7.eq_1) (And.intro (uR Try.prog c6_8.eq_1) (And.intro (uR Try.prog c6_9.eq_1) (And.intro (uR Try.prog c6_10.eq_1) (And.intro (uC Try.prog c6_11.eq_1) (And.intro (uC Try.prog c6_12.eq_1) (And.intro (uC Try.prog c6_13.eq_1) (And.intro (uC Try.prog c6_14.eq_1) (And.intro (uR Try.prog c6_15.eq_1) (And.intro (uR Try.prog c6_16.eq_1) (And.intro (uC Try.prog c6_17.eq_1) (And.intro (uC Try.prog c6_18.eq_1) (And.intro (uC Try.prog c6_19.eq_1) (And.intro (uR Try.prog c6_20.eq_1) (And.intro (uR Try.prog c6_21.eq_1) (And.intro (uC Try.prog c6_22.eq_1) (And.intro (uC Try.prog c6_23.eq_1) (And.intro (uR Try.prog c6_24.eq_1) (And.intro (uR Try.prog c6_25.eq_1) (And.intro (uR Try.prog c6_26.eq_1) (And.intro (uC Try.prog c6_27.eq_1) (And.intro (uC Try.prog c6_28.eq_1) (And.intro (uC Try.prog c6_29.eq_1) (And.intro (uC Try.prog c6_30.eq_1) (And.intro (uC Try.prog c6_31.eq_1) (And.intro (uR Try.prog c6_32.eq_1) (And.intro (uC Try.prog c6_33.eq_1) (And.intro (uC Try.prog c6_34.eq_1) (And.intro (uC Try.prog c6_35.eq_1) (And.intro (uC Try.prog c6_36.eq_1) (And.intro (uC Try.prog c6_37.eq_1) (And.intro (uR Try.prog c6_38.eq_1) (And.intro (uC Try.prog c6_39.eq_1) (And.intro (uC Try.prog c6_40.eq_1) (And.intro (uC Try.prog c6_41.eq_1) (And.intro (uC Try.prog c6_42.eq_1) (And.intro (uC Try.prog c6_43.eq_1) (And.intro (uC Try.prog c6_44.eq_1) (And.intro (uC Try.prog c6_45.eq_1) (And.intro (uC Try.prog c6_46.eq_1) (uC Try.prog c6.eq_1))))))))))))))))))))))))))))))))))))))))))))))))
def v6 : List RV := [.t 2]
theorem s6 : slimF Try.prog Try.f6 = some (c6.bare, v6) := by kernel_rfl

theorem SpeedAt_ok (h : Heap) (v : Value) (l : List Key) (t : Int) (s : SlT h encKey 2 v l) (hk : keysOk l) (ht : 0 ≤ t ∧ t ≤ 10000000) : ACall Try.prog 27 [v, .int .i64 t] h fun r h' => Ext h h' ∧ r = .int .i64 (sp l t) := by
  refine ACall.of Try.func27 s27 (of_decide_eq_true rfl) ?_
  have hk' : decide (keysOk l) = true := decide_eq_true hk
  have h2 := hk.2.1
  simp (maxSteps := 4000000) (disch := omega) only [ah, am, Nat.reduceEqDiff, reduceCtorEq, Nat.reduceAdd, Nat.reduceLeDiff, Nat.reduceMul, Nat.reduceLT, if_true, if_false, true_and, and_true, and_self, Nat.reduceBEq, QOp.loads, boxO, bslO, buildO, cutL, fillV, putL, w27, v27]
  refine stepC.of (KeysOk_ok _ _ _ s (by omega)) ?_
  rintro _ H1 ⟨e1, rfl⟩
  simp (maxSteps := 4000000) (disch := omega) only [ah, am, Nat.reduceEqDiff, reduceCtorEq, Nat.reduceAdd, Nat.reduceLeDiff, Nat.reduceMul, Nat.reduceLT, if_true, if_false, true_and, and_true, and_self, Nat.reduceBEq, QOp.loads, boxO, bslO, buildO, cutL, fillV, putL, w27, v27, hk']
  refine stepC.of (isFrame_ok _ _) ?_
  rintro _ Hx ⟨hx, rfl⟩; rw [hx]; clear hx Hx
  have ht' : decide (0 ≤ t ∧ t ≤ 10000000) = true := decide_eq_true ht
  simp (maxSteps := 4000000) (disch := omega) only [ah, am, Nat.reduceEqDiff, reduceCtorEq, Nat.reduceAdd, Nat.reduceLeDiff, Nat.reduceMul, Nat.reduceLT, if_true, if_false, true_and, and_true, and_self, Nat.reduceBEq, QOp.loads, boxO, bslO, buildO, cutL, fillV, putL, w27, v27, hk', ht']
  refine stepC.of (between_ok _ _ _ _ (s.ext e1) hk ht) ?_
  rintro _ H2 ⟨e2, a, b, rfl⟩
  simp (maxSteps := 4000000) (disch := omega) only [ah, am, Nat.reduceEqDiff, reduceCtorEq, Nat.reduceAdd, Nat.reduceLeDiff, Nat.reduceMul, Nat.reduceLT, if_true, if_false, true_and, and_true, and_self, Nat.reduceBEq, QOp.loads, boxO, bslO, buildO, cutL, fillV, putL, w27, v27]
  exact e1.trans e2
theorem framesI_one' {a : Clip} (h : a.len = 1) : framesI a = [a] := by
  obtain ⟨s, i, n⟩ := a
  simp only at h; subst h
  by_cases hs : s = 0 <;> simp [framesI, frameI, List.range_succ, hs]
theorem ex_ones' (m : List Clip) (h : ∀ a ∈ m, a.len = 1) : ex m = m := by
  induction m with
  | nil => rfl
  | cons a m ih =>
    have : ex (a :: m) = framesI a ++ ex m := rfl
    rw [this, framesI_one' (h a (by simp)), ih (fun b hb => h b (by simp [hb]))]; rfl
theorem retF_facts {l : List Key} {src n : Int} {u : List Clip} (h : retF l src n = (u, true)) : retOk l src n ∧ trackOk u ∧ ex u = retL l src n ∧ sumLen u = n := by
  unfold retF at h
  split at h
  · rename_i hc
    obtain ⟨h1, h2, h3, h4, h5⟩ := editF_facts h
    have he : ex (retL l src n) = retL l src n := ex_ones' _ fun a ha => by
      simp only [retL, List.mem_map] at ha
      obtain ⟨d, _, rfl⟩ := ha; rfl
    refine ⟨hc, h3, by rw [h4, he], ?_⟩
    rw [← sum_ex h3, h4, he]
    have := hc.2.2
    simp [retL]; omega
  · cases h
theorem retF_false {l : List Key} {src n : Int} {u : List Clip} (h : retF l src n = (u, false)) : u = [] := by
  unfold retF at h
  split at h
  · exact editF_false h
  · cases h; rfl
theorem retF_length (l : List Key) (src n : Int) : (retF l src n).1.length ≤ 300 := by
  unfold retF editF; split
  · split
    · rename_i h; exact h.2.1
    · simp
  · simp
theorem ret_frame {l : List Key} {src n : Int} {u : List Clip} (h : retF l src n = (u, true)) (i : Int) (h0 : 0 ≤ i) (hi : i < n) : frameAt u i = (src, sp l i) := by
  obtain ⟨h1, h2, h3, h4⟩ := retF_facts h
  have hd : ((i.toNat : Nat) : Int) = i := by omega
  rw [frameAt_opt h2 h0, h3]
  simp only [retL, List.getElem?_map]
  rw [List.getElem?_range (by omega)]
  simp [retC, hd]
theorem FnRetimed_ok (h : Heap) (v : Value) (code : List Int) (s : SlT h encByte 1 v code) (hl : code.length ≤ 9223372036854775807) :
    ACall Try.prog 6 [v] h fun r h' => r = .bool true := by
  refine ACall.of Try.func6 s6 (of_decide_eq_true rfl) ?_
  simp (maxSteps := 4000000) (disch := omega) only [ah, am, Nat.reduceEqDiff, reduceCtorEq, Nat.reduceAdd, Nat.reduceLeDiff, Nat.reduceMul, Nat.reduceLT, if_true, if_false, true_and, and_true, and_self, Nat.reduceBEq, QOp.loads, boxO, bslO, buildO, cutL, fillV, putL, w6, v6]
  refine stepC.of (big_ok _ _ _ s) ?_
  rintro _ Hx ⟨hx, rfl⟩; rw [hx]; clear hx Hx
  by_cases hb : 4096 < code.length
  · have hb' : decide (4096 < (code.length : Int)) = true := decide_eq_true (by omega)
    simp (maxSteps := 4000000) (disch := omega) only [ah, am, Nat.reduceEqDiff, reduceCtorEq, Nat.reduceAdd, Nat.reduceLeDiff, Nat.reduceMul, Nat.reduceLT, if_true, if_false, true_and, and_true, and_self, Nat.reduceBEq, QOp.loads, boxO, bslO, buildO, cutL, fillV, putL, w6, v6, hb']
  have hb' : decide (4096 < (code.length : Int)) = false := decide_eq_false (by omega)
  simp (maxSteps := 4000000) (disch := omega) only [ah, am, Nat.reduceEqDiff, reduceCtorEq, Nat.reduceAdd, Nat.reduceLeDiff, Nat.reduceMul, Nat.reduceLT, if_true, if_false, true_and, and_true, and_self, Nat.reduceBEq, QOp.loads, boxO, bslO, buildO, cutL, fillV, putL, w6, v6, hb']
  refine stepC.of (DrawRetime_ok _ _ _ s (by omega)) ?_
  rintro _ H1 ⟨kv, l, src, n, rfl, F, D⟩
  have S1 := F.slt
  simp (maxSteps := 4000000) (disch := omega) only [ah, am, Nat.reduceEqDiff, reduceCtorEq, Nat.reduceAdd, Nat.reduceLeDiff, Nat.reduceMul, Nat.reduceLT, if_true, if_false, true_and, and_true, and_self, Nat.reduceBEq, QOp.loads, boxO, bslO, buildO, cutL, fillV, putL, w6, v6]
  refine stepC.of (Retime_ok _ _ _ _ _ S1 (by omega)) ?_
  rintro _ H2 ⟨uv, rfl, F2⟩
  have S2 := S1.ext F2.1
  have hlen := retF_length l src n
  obtain ⟨u, is, hR⟩ : ∃ u is, retF l src n = (u, is) := ⟨_, _, rfl⟩
  simp (maxSteps := 4000000) (disch := omega) only [ah, am, Nat.reduceEqDiff, reduceCtorEq, Nat.reduceAdd, Nat.reduceLeDiff, Nat.reduceMul, Nat.reduceLT, if_true, if_false, true_and, and_true, and_self, Nat.reduceBEq, QOp.loads, boxO, bslO, buildO, cutL, fillV, putL, w6, v6]
  refine stepC.of (specRetime_ok _ _ _ _ _ S2 (by omega)) ?_
  rintro _ H3 ⟨wv, rfl, F3⟩
  rw [hR] at F2 F3 hlen ⊢
  simp only at F2 F3 hlen ⊢
  have S3 := S2.ext F3.1
  have U3 := F2.slt.ext F3.1
  have RU := U3.rulesN
  cases is with
  | false =>
    obtain rfl := retF_false hR
    have z : decide (((0 : Nat) : Int) = 0) = true := rfl
    simp (maxSteps := 4000000) (disch := omega) only [ah, am, Nat.reduceEqDiff, reduceCtorEq, Nat.reduceAdd, Nat.reduceLeDiff, Nat.reduceMul, Nat.reduceLT, if_true, if_false, true_and, and_true, and_self, Nat.reduceBEq, QOp.loads, boxO, bslO, buildO, cutL, fillV, putL, w6, v6, eqbV_bool', beq_self_eq_true, RU, z]
  | true =>
    obtain ⟨⟨hk, hs, hn⟩, hu, he, hsu⟩ := retF_facts hR
    simp (maxSteps := 4000000) (disch := omega) only [ah, am, Nat.reduceEqDiff, reduceCtorEq, Nat.reduceAdd, Nat.reduceLeDiff, Nat.reduceMul, Nat.reduceLT, if_true, if_false, true_and, and_true, and_self, Nat.reduceBEq, QOp.loads, boxO, bslO, buildO, cutL, fillV, putL, w6, v6, eqbV_bool', beq_self_eq_true, RU]
    have done : ∀ (E : Env) (H : Heap), Ext H3 H → E.get 5 = some (.int .i64 n) → E.get 6 = some uv → SW Try.prog c6_39 (retQ [RV.t 2] fun r h' => r = .bool true) E H := by
      intro E H e E5 E6
      simp (maxSteps := 4000000) (disch := omega) only [ah, am, Nat.reduceEqDiff, reduceCtorEq, Nat.reduceAdd, Nat.reduceLeDiff, Nat.reduceMul, Nat.reduceLT, if_true, if_false, true_and, and_true, and_self, Nat.reduceBEq, QOp.loads, boxO, bslO, buildO, cutL, fillV, putL, w6, v6, E5, E6]
      refine stepC.of (Length_ok _ _ _ (U3.ext e) (by omega)) ?_
      rintro _ H4 ⟨e4, rfl⟩
      rw [show lengthI u = sumLen u from if_pos hu, hsu]
      simp (maxSteps := 4000000) (disch := omega) only [ah, am, Nat.reduceEqDiff, reduceCtorEq, Nat.reduceAdd, Nat.reduceLeDiff, Nat.reduceMul, Nat.reduceLT, if_true, if_false, true_and, and_true, and_self, Nat.reduceBEq, QOp.loads, boxO, bslO, buildO, cutL, fillV, putL, w6, v6, E5, E6, eq_self, decide_true]
    refine SW_loop_up (fun i E H => E = [(3, kv), (4, .int .i64 src), (5, .int .i64 n), (6, uv), (10, .int .i64 i)] ∧ Ext H3 H) 60 0 (by omega) ⟨rfl, Ext.refl _⟩ ?_
    rintro i E H hi ⟨rfl, e⟩
    have W1 : IntKind.i64.wrap ((i : Int) + 1) = ((i + 1 : Nat) : Int) := i64e (by omega) (by omega)
    by_cases h1 : (i : Int) < n
    · have d1 : decide ((i : Int) < n) = true := decide_eq_true h1
      by_cases h2 : (i : Int) < 60
      · have d2 : decide ((i : Int) < 60) = true := decide_eq_true h2
        simp (maxSteps := 4000000) (disch := omega) only [ah, am, Nat.reduceEqDiff, reduceCtorEq, Nat.reduceAdd, Nat.reduceLeDiff, Nat.reduceMul, Nat.reduceLT, if_true, if_false, true_and, and_true, and_self, Nat.reduceBEq, QOp.loads, boxO, bslO, buildO, cutL, fillV, putL, w6, v6, d1, d2]
        refine stepC.of (FrameAt_ok _ _ _ _ (U3.ext e) (by omega)) ?_
        rintro _ H6 ⟨e6, rfl⟩
        rw [ret_frame hR i (by omega) h1]
        simp (maxSteps := 4000000) (disch := omega) only [ah, am, Nat.reduceEqDiff, reduceCtorEq, Nat.reduceAdd, Nat.reduceLeDiff, Nat.reduceMul, Nat.reduceLT, if_true, if_false, true_and, and_true, and_self, Nat.reduceBEq, QOp.loads, boxO, bslO, buildO, cutL, fillV, putL, w6, v6, eq_self, decide_true]
        refine stepC.of (SpeedAt_ok _ _ _ _ ((S3.ext e).ext e6) hk (by omega)) ?_
        rintro _ H7 ⟨e7, rfl⟩
        simp (maxSteps := 4000000) (disch := omega) only [ah, am, Nat.reduceEqDiff, reduceCtorEq, Nat.reduceAdd, Nat.reduceLeDiff, Nat.reduceMul, Nat.reduceLT, if_true, if_false, true_and, and_true, and_self, Nat.reduceBEq, QOp.loads, boxO, bslO, buildO, cutL, fillV, putL, w6, v6, eq_self, decide_true, W1]
        exact ⟨by omega, (e.trans e6).trans e7⟩
      · have d2 : decide ((i : Int) < 60) = false := decide_eq_false h2
        have dn := fun E => done E H e
        generalize c6_39 = fc at dn ⊢
        simp (maxSteps := 4000000) (disch := omega) only [ah, am, Nat.reduceEqDiff, reduceCtorEq, Nat.reduceAdd, Nat.reduceLeDiff, Nat.reduceMul, Nat.reduceLT, if_true, if_false, true_and, and_true, and_self, Nat.reduceBEq, QOp.loads, boxO, bslO, buildO, cutL, fillV, putL, w6, v6, d1, d2]
        exact dn _ rfl rfl
    · have d1 : decide ((i : Int) < n) = false := decide_eq_false h1
      have dn := fun E => done E H e
      generalize c6_39 = fc at dn ⊢
      simp (maxSteps := 4000000) (disch := omega) only [ah, am, Nat.reduceEqDiff, reduceCtorEq, Nat.reduceAdd, Nat.reduceLeDiff, Nat.reduceMul, Nat.reduceLT, if_true, if_false, true_and, and_true, and_self, Nat.reduceBEq, QOp.loads, boxO, bslO, buildO, cutL, fillV, putL, w6, v6, d1]
      exact dn _ rfl rfl
end Go.Proofs.Ytknpombiomnkbaa
