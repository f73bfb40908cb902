import Derived.Test.YtknpombiomnkbaaJ3
import Derived.Test.YtknpombiomnkbaaD7
namespace Go.Proofs.Ytknpombiomnkbaa
open Go Go.Ah
set_option linter.unusedSimpArgs false
set_option linter.unusedVariables false
set_option maxRecDepth 10000
set_option maxHeartbeats 4000000
/-! 8 loop.example/g00066/laws.FnInsertOut: parameters 1, live [0], slots [0:code, 1:code, 3:t, 4:at, 5:k, 6:u, 7:is, 8:want, 9:told, 10:b, 11:back, 12:s, 13:f] -/
def c8_0 : List SOper := [⟨some 2, .q (.mv (.c (.bool false))), none⟩]
def c8_1 : List SOper := [⟨some 14, .q (.mv (.t 0)), none⟩, ⟨some 15, .e (.call 10 [(.t 14)]), none⟩]
def c8_2 : List SOper := [⟨some 2, .q (.mv (.c (.bool true))), none⟩]
def c8_3 : SCode := .seq (.region c8_2 [2]) .ret
def c8_4 : SCode := .cond (.t 15) c8_3 .skip
def c8_5 : SCode := .seq (.region c8_1 [0, 15]) c8_4
def c8_6 : List SOper := [⟨some 17, .q (.mv (.t 0)), none⟩, ⟨some 18, .e (.call 31 [(.t 17)]), none⟩, ⟨some 16, .q (.mv (.t 18)), none⟩, ⟨some 19, .q (.ext (.t 16) 0), none⟩, ⟨some 20, .q (.ext (.t 16) 1), none⟩, ⟨some 21, .q (.ext (.t 16) 2), none⟩, ⟨some 5, .a (.new [(.int .i64 0), (.int .i64 0), (.int .i64 0)]), none⟩, ⟨some 3, .q (.mv (.t 19)), none⟩, ⟨some 4, .q (.mv (.t 20)), none⟩, ⟨none, .e (.st 3 (.t 5) (.t 21)), none⟩]
def c8_7 : List SOper := [⟨some 23, .q (.mv (.t 3)), none⟩, ⟨some 24, .q (.mv (.t 4)), none⟩, ⟨some 25, .q (.ldn 3 (.t 5)), none⟩, ⟨some 26, .e (.call 32 [(.t 23), (.t 24), (.t 25)]), none⟩, ⟨some 22, .q (.mv (.t 26)), none⟩, ⟨some 27, .q (.ext (.t 22) 0), none⟩, ⟨some 28, .q (.ext (.t 22) 1), none⟩, ⟨some 6, .q (.mv (.t 27)), none⟩, ⟨some 7, .q (.mv (.t 28)), none⟩]
def c8_8 : List SOper := [⟨some 30, .q (.mv (.t 3)), none⟩, ⟨some 31, .q (.mv (.t 4)), none⟩, ⟨some 32, .q (.ldn 3 (.t 5)), none⟩, ⟨some 33, .e (.call 33 [(.t 30), (.t 31), (.t 32)]), none⟩, ⟨some 29, .q (.mv (.t 33)), none⟩, ⟨some 34, .q (.ext (.t 29) 0), none⟩, ⟨some 35, .q (.ext (.t 29) 1), none⟩, ⟨some 8, .q (.mv (.t 34)), none⟩, ⟨some 9, .q (.mv (.t 35)), none⟩]
def c8_9 : List SOper := [⟨some 36, .q (.mv (.t 7)), none⟩, ⟨some 37, .q (.mv (.t 9)), none⟩, ⟨some 38, .q (.eqb true (.t 36) (.t 37)), none⟩, ⟨some 39, .q (.mv (.t 38)), none⟩, ⟨some 40, .q (.mv (.t 6)), some (39, false)⟩, ⟨some 41, .q (.mv (.t 8)), some (39, false)⟩, ⟨some 42, .e (.call 14 [(.t 40), (.t 41)]), some (39, false)⟩, ⟨some 43, .q (.not (.t 42)), some (39, false)⟩, ⟨some 44, .q (.pick (.t 39) (.c (.bool true)) (.t 43)), none⟩]
def c8_10 : List SOper := [⟨some 2, .q (.mv (.c (.bool false))), none⟩]
def c8_11 : SCode := .seq (.region c8_10 [2]) .ret
def c8_12 : SCode := .cond (.t 44) c8_11 .skip
def c8_13 : SCode := .seq (.region c8_9 [3, 4, 5, 6, 7, 44]) c8_12
def c8_14 : SCode := .seq (.region c8_8 [3, 4, 5, 6, 7, 8, 9]) c8_13
def c8_15 : List SOper := [⟨some 45, .q (.mv (.t 7)), none⟩, ⟨some 46, .q (.not (.t 45)), none⟩]
def c8_16 : List SOper := [⟨some 47, .q (.mv (.t 6)), none⟩, ⟨some 48, .q (.len (.t 47)), none⟩, ⟨some 49, .q (.bin .eql (.t 48) (.c (.int .i64 0))), none⟩, ⟨some 2, .q (.mv (.t 49)), none⟩]
def c8_17 : SCode := .seq (.region c8_16 [2]) .ret
def c8_18 : SCode := .cond (.t 46) c8_17 .skip
def c8_19 : SCode := .seq (.region c8_15 [3, 4, 5, 6, 46]) c8_18
def c8_20 : List SOper := [⟨some 51, .q (.mv (.t 6)), none⟩, ⟨some 52, .q (.mv (.t 4)), none⟩, ⟨some 53, .q (.fa 2 (.t 5)), none⟩, ⟨some 54, .q (.ld (.t 53)), none⟩, ⟨some 55, .e (.call 34 [(.t 51), (.t 52), (.t 54)]), none⟩, ⟨some 50, .q (.mv (.t 55)), none⟩, ⟨some 56, .q (.ext (.t 50) 0), none⟩, ⟨some 57, .q (.ext (.t 50) 1), none⟩, ⟨some 10, .q (.mv (.t 56)), none⟩, ⟨some 11, .q (.mv (.t 57)), none⟩]
def c8_21 : List SOper := [⟨some 59, .q (.mv (.t 6)), none⟩, ⟨some 60, .q (.mv (.t 4)), none⟩, ⟨some 61, .e (.call 20 [(.t 59), (.t 60)]), none⟩, ⟨some 58, .q (.mv (.t 61)), none⟩, ⟨some 62, .q (.ext (.t 58) 0), none⟩, ⟨some 63, .q (.ext (.t 58) 1), none⟩, ⟨some 12, .q (.mv (.t 62)), none⟩, ⟨some 13, .q (.mv (.t 63)), none⟩]
def c8_22 : List DOper := [⟨0, ⟨some 64, .q (.mv (.t 11)), none⟩, [], []⟩, ⟨1, ⟨some 65, .q (.mv (.t 64)), none⟩, [], []⟩, ⟨2, ⟨some 66, .q (.mv (.t 10)), some (65, true)⟩, [], []⟩, ⟨3, ⟨some 67, .q (.mv (.t 3)), some (65, true)⟩, [], []⟩, ⟨4, ⟨some 68, .e (.call 15 [(.t 67)]), some (65, true)⟩, [], []⟩, ⟨5, ⟨some 69, .e (.call 14 [(.t 66), (.t 68)]), some (65, true)⟩, [], []⟩, ⟨6, ⟨some 70, .q (.pick (.t 65) (.t 69) (.c (.bool false))), none⟩, [], []⟩, ⟨7, ⟨some 71, .q (.mv (.t 70)), none⟩, [], []⟩, ⟨8, ⟨some 72, .q (.mv (.t 6)), some (71, true)⟩, [], []⟩, ⟨10, ⟨some 74, .q (.mv (.t 3)), some (71, true)⟩, [], []⟩, ⟨12, ⟨some 76, .q (.fa 2 (.t 5)), some (71, true)⟩, [], []⟩, ⟨13, ⟨some 77, .q (.ld (.t 76)), some (71, true)⟩, [], []⟩, ⟨9, ⟨some 73, .e (.call 16 [(.t 72)]), some (71, true)⟩, [], [13]⟩, ⟨11, ⟨some 75, .e (.call 16 [(.t 74)]), some (71, true)⟩, [], [13]⟩, ⟨14, ⟨some 78, .q (.bin .add (.t 75) (.t 77)), some (71, true)⟩, [], []⟩, ⟨15, ⟨some 79, .q (.bin .eql (.t 73) (.t 78)), some (71, true)⟩, [], []⟩, ⟨16, ⟨some 80, .q (.pick (.t 71) (.t 79) (.c (.bool false))), none⟩, [], []⟩, ⟨17, ⟨some 81, .q (.mv (.t 80)), none⟩, [], []⟩, ⟨18, ⟨some 82, .q (.mv (.t 12)), some (81, true)⟩, [], []⟩, ⟨19, ⟨some 83, .q (.fa 0 (.t 5)), some (81, true)⟩, [], []⟩, ⟨20, ⟨some 84, .q (.ld (.t 83)), some (81, true)⟩, [], []⟩, ⟨21, ⟨some 85, .q (.bin .eql (.t 82) (.t 84)), some (81, true)⟩, [], []⟩, ⟨22, ⟨some 86, .q (.pick (.t 81) (.t 85) (.c (.bool false))), none⟩, [], []⟩, ⟨23, ⟨some 87, .q (.mv (.t 86)), none⟩, [], []⟩, ⟨24, ⟨some 88, .q (.mv (.t 13)), some (87, true)⟩, [], []⟩, ⟨25, ⟨some 89, .q (.fa 1 (.t 5)), some (87, true)⟩, [], []⟩, ⟨26, ⟨some 90, .q (.ld (.t 89)), some (87, true)⟩, [], []⟩, ⟨27, ⟨some 91, .q (.bin .eql (.t 88) (.t 90)), some (87, true)⟩, [], []⟩, ⟨28, ⟨some 92, .q (.pick (.t 87) (.t 91) (.c (.bool false))), none⟩, [], []⟩, ⟨29, ⟨some 2, .q (.mv (.t 92)), none⟩, [], []⟩]
def c8_23 : SCode := .seq (.dregion c8_22 [2]) .ret
def c8_24 : SCode := .seq (.region c8_21 [3, 5, 6, 10, 11, 12, 13]) c8_23
def c8_25 : SCode := .seq (.region c8_20 [3, 4, 5, 6, 10, 11]) c8_24
def c8_26 : SCode := .seq c8_19 c8_25
def c8_27 : SCode := .seq c8_14 c8_26
def c8_28 : SCode := .seq (.region c8_7 [3, 4, 5, 6, 7]) c8_27
def c8_29 : SCode := .seq (.region c8_6 [3, 4, 5]) c8_28
def c8_30 : SCode := .seq c8_5 c8_29
def c8_31 : SCode := .seq (.region c8_0 [0]) c8_30
def c8 : SCode := c8_31
theorem w8 : type_of% (And.intro (uR Try.prog c8_0.eq_1) (And.intro (uR Try.prog c8_1.eq_1) (And.intro (uR Try.prog c8_2.eq_1) (And.intro (uC Try.prog c8_3.eq_1) (And.intro (uC Try.prog c8_4.eq_1) (And.intro (uC Try.prog c8_5.eq_1) (And.intro (uR Try.prog c8_6.eq_1) (And.intro (uR Try.prog c8_7.eq_1) (And.intro (uR Try.prog c8_8.eq_1) (And.intro (uR Try.prog c8_9.eq_1) (And.intro (uR Try.prog c8_10.eq_1) (And.intro (uC Try.prog c8_11.eq_1) (And.intro (uC Try.prog c8_12.eq_1) (And.intro (uC Try.prog c8_13.eq_1) (And.intro (uC Try.prog c8_14.eq_1) (And.intro (uR Try.prog c8_15.eq_1) (And.intro (uR Try.prog c8_16.eq_1) (And.intro (uC Try.prog c8_17.eq_1) (And.intro (uC Try.prog c8_18.eq_1) (And.intro (uC Try.prog c8_19.eq_1) (And.intro (uR Try.prog c8_20.eq_1) (And.intro (uR Try.prog c8_21.eq_1) (And.intro (uD Try.prog c8_22.eq_1) (And.intro (uC Try.prog c8_23.eq_1) (And.intro (uC Try.prog c8_24.eq_1) (And.intro (uC Try.prog c8_25.eq_1) (And.intro (uC Try.prog c8_26.eq_1) (And.intro (uC Try.prog c8_27.eq_1) (And.intro (uC Try.prog c8_28.eq_1) (And.intro (uC Try.prog c8_29.eq_1) (And.intro (uC Try.prog c8_30.eq_1) (And.intro (uC Try.prog c8_31.eq_1) (uC Try.prog c8.eq_1))))))))))))))))))))))))))))))))) := (And.intro (uR Try.prog c8_0.eq_1) (And.intro (uR Try.prog c8_1.eq_1) (And.intro (uR Try.prog c8_2.eq_1) (And.intro (uC Try.prog c8_3.eq_1) (And.intro (uC Try.prog c8_4.eq_1) (And.intro (uC Try.prog c8_5.eq_1) (And.intro (uR Try.prog c8_6.eq_1) (And.intro (uR Try.prog c8_7.eq_1) (And.intro (uR Try.prog c8_8.eq_1) (And.intro (uR Try.prog c8_9.eq_1) (And.intro (uR Try.prog c8_10.eq_1) (And.intro (uC Try.prog c8_11.eq_1) (And.intro (uC Try.prog c8_12.eq_1) (And.intro (uC Try.prog c8_13.eq_1) (And.intro (uC Try.prog c8_14.eq_1) (And.intro (uR Try.prog c8_15.eq_1) (And.intro (uR Try.prog c8_16.eq_1) (And.intro (uC Try.prog c8_17.eq_1) (And.intro (uC Try.prog c8_18.eq_1) (And.intro (uC Try.prog c8_19.eq_1) (And.intro (uR Try.prog c8_20.eq_1) (And.intro (uR Try.prog c8_21.eq_1) (And.intro (uD Try.prog c8_22.eq_1) (And.intro (uC Try.prog c8_23.eq_1) (And.intro (uC Try.prog c8_24.eq_1) (And.intro (uC Try.prog c8_25.eq_1) (And.intro (uC Try.prog c8_26.eq_1) (And.intro (uC Try.prog c8_27.eq_1) (And.intro (uC Try.prog c8_28.eq_1) (And.intro (uC Try.prog c8_29.eq_1) (And.intro (uC Try.prog c8_30.eq_1) (And.intro (uC Try.prog c8_31.eq_1) (uC Try.prog c8.eq_1)))))))))))))))))))))))))))))))))
def v8 : List RV := [.t 2]
theorem s8 : slimF Try.prog Try.f8 = some (c8.bare, v8) := by kernel_rfl

theorem insertS_facts {l u : List Clip} {i : Int} {k : Clip} (h : insertS l i k = (u, true)) : insOk l i k ∧ trackOk u ∧ ex u = (ex l).take i.toNat ++ ex [k] ++ (ex l).drop i.toNat := by
  unfold insertS at h
  split at h
  · rename_i hc
    have := putS_facts hc.1.2.1 hc.1.2.2 (by have := hc.2.2; omega) h
    exact ⟨hc, this.1, this.2.1⟩
  · cases h
theorem insertS_false {l u : List Clip} {i : Int} {k : Clip} (h : insertS l i k = (u, false)) : u = [] := by
  unfold insertS at h
  split at h
  · exact putS_false h
  · cases h; rfl
theorem insertS_length (l : List Clip) (i : Int) (k : Clip) : (insertS l i k).1.length ≤ 300 := by
  unfold insertS putS editF; split
  · split
    · rename_i h; exact h.2.1
    · simp
  · simp
theorem insert_out {l u : List Clip} {i : Int} {k : Clip} (h : insertS l i k = (u, true)) : sumLen u = sumLen l + k.len ∧ extractS u i k.len = (join l, true) ∧ frameAt u i = (k.src, k.inn) := by
  obtain ⟨⟨ht, hk, ha⟩, hu, he⟩ := insertS_facts h
  have hs := sum_ex ht
  have hs2 := sum_ex hu
  have hk2 := hk
  simp only [clipOk] at hk2
  have hf := framesI_len k
  have h1 : sumLen u = sumLen l + k.len := by
    rw [he, ex_one, List.length_append, List.length_append, List.length_take, List.length_drop, hf] at hs2; omega
  refine ⟨h1, ?_, ?_⟩
  · have hr : rangeOk u i k.len := ⟨hu, by omega, by omega, by omega⟩
    rw [show extractS u i k.len = putS u i [] (i + k.len) from if_pos hr]
    refine putS_back hu.2.1 hu.2.2 (by omega) (by simp) ht ?_
    have h2 : ((ex l).take i.toNat).length = i.toNat := by rw [List.length_take]; omega
    rw [he, ex_one]
    have t1 : ((ex l).take i.toNat ++ framesI k ++ (ex l).drop i.toNat).take i.toNat = (ex l).take i.toNat := by
      rw [List.append_assoc, List.take_append_of_le_length (by omega), List.take_of_length_le (by omega)]
    have t2 : ((ex l).take i.toNat ++ framesI k ++ (ex l).drop i.toNat).drop (i + k.len).toNat = (ex l).drop i.toNat := by
      rw [List.drop_append, List.drop_eq_nil_of_le (by rw [List.length_append]; omega), List.nil_append, List.length_append, show (i + k.len).toNat - (((ex l).take i.toNat).length + (framesI k).length) = 0 by omega, List.drop_zero]
    rw [t1, t2]
    simp [ex]
  · rw [frameAt_opt hu ha.1, he, ex_one, List.append_assoc, List.getElem?_append_right (by rw [List.length_take]; omega), List.getElem?_append_left (by rw [List.length_take]; omega), framesI_get, if_pos (by rw [List.length_take]; omega)]
    have h3 : i.toNat - ((ex l).take i.toNat).length = 0 := by rw [List.length_take]; omega
    rw [h3]
    simp [frameI]
theorem FnInsertOut_ok (h : Heap) (v : Value) (code : List Int) (s : SlT h encByte 1 v code) (hl : code.length ≤ 9223372036854775807) :
    ACall Try.prog 8 [v] h fun r h' => r = .bool true := by
  refine ACall.of Try.func8 s8 (of_decide_eq_true rfl) ?_
  simp (maxSteps := 4000000) (disch := omega) only [ah, am, Nat.reduceEqDiff, reduceCtorEq, Nat.reduceAdd, Nat.reduceLeDiff, Nat.reduceMul, Nat.reduceLT, if_true, if_false, true_and, and_true, and_self, Nat.reduceBEq, QOp.loads, boxO, bslO, buildO, cutL, fillV, putL, w8, v8]
  refine stepC.of (big_ok _ _ _ s) ?_
  rintro _ Hx ⟨hx, rfl⟩; rw [hx]; clear hx Hx
  by_cases hb : 4096 < code.length
  · have hb' : decide (4096 < (code.length : Int)) = true := decide_eq_true (by omega)
    simp (maxSteps := 4000000) (disch := omega) only [ah, am, Nat.reduceEqDiff, reduceCtorEq, Nat.reduceAdd, Nat.reduceLeDiff, Nat.reduceMul, Nat.reduceLT, if_true, if_false, true_and, and_true, and_self, Nat.reduceBEq, QOp.loads, boxO, bslO, buildO, cutL, fillV, putL, w8, v8, hb']
  have hb' : decide (4096 < (code.length : Int)) = false := decide_eq_false (by omega)
  simp (maxSteps := 4000000) (disch := omega) only [ah, am, Nat.reduceEqDiff, reduceCtorEq, Nat.reduceAdd, Nat.reduceLeDiff, Nat.reduceMul, Nat.reduceLT, if_true, if_false, true_and, and_true, and_self, Nat.reduceBEq, QOp.loads, boxO, bslO, buildO, cutL, fillV, putL, w8, v8, hb']
  refine stepC.of (DrawInsert_ok _ _ _ s (by omega)) ?_
  rintro _ H1 ⟨tv, l, a, k, rfl, F, D⟩
  have S1 := F.slt
  have e0 := Ext.more H1 [encClip k]
  have S0 := S1.ext e0
  have ov := Insert_ok (H1.more [encClip k]) tv l a k S0 (by omega)
  simp only [encClip] at ov
  simp (maxSteps := 4000000) (disch := omega) only [ah, am, Nat.reduceEqDiff, reduceCtorEq, Nat.reduceAdd, Nat.reduceLeDiff, Nat.reduceMul, Nat.reduceLT, if_true, if_false, true_and, and_true, and_self, Nat.reduceBEq, QOp.loads, boxO, bslO, buildO, cutL, fillV, putL, w8, v8, encClip]
  refine stepC.of ov ?_
  rintro _ H2 ⟨uv, rfl, F2⟩
  have S2 := S0.ext F2.1
  have hlen := insertS_length l a k
  obtain ⟨u, is, hR⟩ : ∃ u is, insertS l a k = (u, is) := ⟨_, _, rfl⟩
  have X2 := F2.1.ld0
  have sv := specInsert_ok H2 tv l a k S2 (by omega)
  simp only [encClip] at sv
  simp (maxSteps := 4000000) (disch := omega) only [ah, am, Nat.reduceEqDiff, reduceCtorEq, Nat.reduceAdd, Nat.reduceLeDiff, Nat.reduceMul, Nat.reduceLT, if_true, if_false, true_and, and_true, and_self, Nat.reduceBEq, QOp.loads, boxO, bslO, buildO, cutL, fillV, putL, w8, v8, X2]
  refine stepC.of sv ?_
  rintro _ H3 ⟨wv, rfl, F3⟩
  rw [hR] at F2 F3 hlen ⊢
  simp only at F2 F3 hlen ⊢
  have S3 := S2.ext F3.1
  have U3 := F2.slt.ext F3.1
  have RU := U3.rulesN
  have E3 : Ext (H1.more [encClip k]) H3 := F2.1.trans F3.1
  have X3 := E3.ld0
  simp only [encClip] at X3
  have jt : ∀ m : List Clip, decide (m = m) = true := fun m => decide_eq_true rfl
  simp (maxSteps := 4000000) (disch := omega) only [ah, am, Nat.reduceEqDiff, reduceCtorEq, Nat.reduceAdd, Nat.reduceLeDiff, Nat.reduceMul, Nat.reduceLT, if_true, if_false, true_and, and_true, and_self, Nat.reduceBEq, QOp.loads, boxO, bslO, buildO, cutL, fillV, putL, w8, v8, eqbV_bool', beq_self_eq_true]
  refine stepC.of (sameClips_ok _ _ _ _ _ U3 F3.slt (by omega) (by omega)) ?_
  rintro _ Hx ⟨hx, rfl⟩; rw [hx]; clear hx Hx
  cases is with
  | false =>
    obtain rfl := insertS_false hR
    have z : decide (((0 : Nat) : Int) = 0) = true := rfl
    simp (maxSteps := 4000000) (disch := omega) only [ah, am, Nat.reduceEqDiff, reduceCtorEq, Nat.reduceAdd, Nat.reduceLeDiff, Nat.reduceMul, Nat.reduceLT, if_true, if_false, true_and, and_true, and_self, Nat.reduceBEq, QOp.loads, boxO, bslO, buildO, cutL, fillV, putL, w8, v8, RU, z, jt]
  | true =>
    obtain ⟨⟨ht, hk, ha⟩, hu, he⟩ := insertS_facts hR
    obtain ⟨q1, q2, q3⟩ := insert_out hR
    have hk2 := hk
    simp only [clipOk] at hk2
    simp (maxSteps := 4000000) (disch := omega) only [ah, am, Nat.reduceEqDiff, reduceCtorEq, Nat.reduceAdd, Nat.reduceLeDiff, Nat.reduceMul, Nat.reduceLT, if_true, if_false, true_and, and_true, and_self, Nat.reduceBEq, QOp.loads, boxO, bslO, buildO, cutL, fillV, putL, w8, v8, RU, X3, jt]
    refine stepC.of (Extract_ok _ _ _ a k.len U3 (by omega)) ?_
    rintro _ H4 ⟨bv, rfl, F4⟩
    rw [q2] at F4 ⊢
    simp only at F4 ⊢
    simp (maxSteps := 4000000) (disch := omega) only [ah, am, Nat.reduceEqDiff, reduceCtorEq, Nat.reduceAdd, Nat.reduceLeDiff, Nat.reduceMul, Nat.reduceLT, if_true, if_false, true_and, and_true, and_self, Nat.reduceBEq, QOp.loads, boxO, bslO, buildO, cutL, fillV, putL, w8, v8]
    refine stepC.of (FrameAt_ok _ _ _ a (U3.ext F4.1) (by omega)) ?_
    rintro _ H5 ⟨e5, rfl⟩
    rw [q3]
    have E5 := (E3.trans F4.1).trans e5
    have S5 := (S3.ext F4.1).ext e5
    have U5 := (U3.ext F4.1).ext e5
    have X5 := E5.ld0
    simp only [encClip] at X5
    have hlt := ht.1; have hsm := ht.2.2; have hsu := hu.2.2
    simp (maxSteps := 4000000) (disch := omega) only [ah, am, Nat.reduceEqDiff, reduceCtorEq, Nat.reduceAdd, Nat.reduceLeDiff, Nat.reduceMul, Nat.reduceLT, if_true, if_false, true_and, and_true, and_self, Nat.reduceBEq, QOp.loads, boxO, bslO, buildO, cutL, fillV, putL, w8, v8, X5]
    refine stepC.of (Joined_ok _ _ _ S5 (by omega)) ?_
    intro jv H6 F6
    rw [show joinedI l = join l from if_pos ht] at F6
    have hj := join_length l
    simp (maxSteps := 4000000) (disch := omega) only [ah, am, Nat.reduceEqDiff, reduceCtorEq, Nat.reduceAdd, Nat.reduceLeDiff, Nat.reduceMul, Nat.reduceLT, if_true, if_false, true_and, and_true, and_self, Nat.reduceBEq, QOp.loads, boxO, bslO, buildO, cutL, fillV, putL, w8, v8, X5]
    refine stepC.of (sameClips_ok _ _ _ _ _ ((F4.slt.ext e5).ext F6.1) F6.slt (by omega) (by omega)) ?_
    rintro _ Hx ⟨hx, rfl⟩; rw [hx]; clear hx Hx
    have E6 := E5.trans F6.1
    have X6 := E6.ld0
    simp only [encClip] at X6
    simp (maxSteps := 4000000) (disch := omega) only [ah, am, Nat.reduceEqDiff, reduceCtorEq, Nat.reduceAdd, Nat.reduceLeDiff, Nat.reduceMul, Nat.reduceLT, if_true, if_false, true_and, and_true, and_self, Nat.reduceBEq, QOp.loads, boxO, bslO, buildO, cutL, fillV, putL, w8, v8, jt, X6]
    refine stepC.of (Length_ok _ _ _ (U5.ext F6.1) (by omega)) ?_
    rintro _ H7 ⟨e7, rfl⟩
    have X7 := (E6.trans e7).ld0
    simp only [encClip] at X7
    simp (maxSteps := 4000000) (disch := omega) only [ah, am, Nat.reduceEqDiff, reduceCtorEq, Nat.reduceAdd, Nat.reduceLeDiff, Nat.reduceMul, Nat.reduceLT, if_true, if_false, true_and, and_true, and_self, Nat.reduceBEq, QOp.loads, boxO, bslO, buildO, cutL, fillV, putL, w8, v8, X7]
    refine stepC.of (Length_ok _ _ _ ((S5.ext F6.1).ext e7) (by omega)) ?_
    rintro _ H8 ⟨e8, rfl⟩
    have X8 := ((E6.trans e7).trans e8).ld0
    simp only [encClip] at X8
    rw [show lengthI u = sumLen u from if_pos hu, show lengthI l = sumLen l from if_pos ht, q1]
    simp (maxSteps := 4000000) (disch := omega) only [ah, am, Nat.reduceEqDiff, reduceCtorEq, Nat.reduceAdd, Nat.reduceLeDiff, Nat.reduceMul, Nat.reduceLT, if_true, if_false, true_and, and_true, and_self, Nat.reduceBEq, QOp.loads, boxO, bslO, buildO, cutL, fillV, putL, w8, v8, X8, i64w, eq_self, decide_true]
end Go.Proofs.Ytknpombiomnkbaa
