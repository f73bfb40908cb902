import Derived.Test.YtgmimgmdbpcecaaDoorR7
namespace Go.Proofs.YtgmimgmdbpcecaaDoor
open Go Go.Ah
set_option linter.unusedSimpArgs false
set_option linter.unusedVariables false
set_option maxRecDepth 10000
set_option maxHeartbeats 4000000
/-! 8 loop.example/g00066/impl.ShowList: parameters 2, live [0, 1], slots [0:r, 1:track, 2:r, 3:track, 5:at, 6:out, 7:k, 8:c, 9:line] -/
def c8_0 : List SOper := [⟨some 2, .a (.box (.t 0)), none⟩, ⟨some 4, .q (.mv (.c (.string ⟨#[]⟩))), none⟩]
def c8_1 : List SOper := [⟨some 10, .q (.ldn 3 (.t 2)), none⟩, ⟨some 11, .e (.call 17 [(.t 10)]), none⟩, ⟨some 12, .q (.not (.t 11)), none⟩, ⟨some 13, .q (.mv (.t 12)), none⟩, ⟨some 14, .q (.mv (.t 1)), some (13, false)⟩, ⟨some 15, .e (.call 18 [(.t 14)]), some (13, false)⟩, ⟨some 16, .q (.not (.t 15)), some (13, false)⟩, ⟨some 17, .q (.pick (.t 13) (.c (.bool true)) (.t 16)), none⟩]
def c8_2 : List SOper := [⟨some 4, .q (.mv (.c (.string ⟨#[]⟩))), none⟩]
def c8_3 : SCode := .seq (.region c8_2 [4]) .ret
def c8_4 : SCode := .cond (.t 17) c8_3 .skip
def c8_5 : SCode := .seq (.region c8_1 [1, 2, 17]) c8_4
def c8_6 : List SOper := [⟨some 5, .q (.mv (.c (.int .i64 0))), none⟩, ⟨some 6, .q (.mv (.c (.string ⟨#[]⟩))), none⟩]
def c8_7 : List SOper := [⟨some 18, .q (.mv (.t 1)), none⟩, ⟨some 19, .e (.call 19 [(.t 18)]), none⟩, ⟨some 20, .q (.len (.t 19)), none⟩, ⟨some 21, .q (.mv (.c (.int .i64 0))), none⟩]
def c8_8 : List SOper := [⟨some 22, .q (.bin .lss (.t 21) (.t 20)), none⟩]
def c8_9 : SCode := .cond (.t 22) .skip (.exit 0)
def c8_10 : List SOper := [⟨some 23, .q (.mv (.t 21)), none⟩, ⟨some 24, .q (.ia 3 (.t 19) (.t 21)), none⟩, ⟨some 25, .q (.ldn 3 (.t 24)), none⟩, ⟨some 8, .a (.new [(.int .i64 0), (.int .i64 0), (.int .i64 0)]), none⟩, ⟨some 7, .q (.mv (.t 23)), none⟩, ⟨none, .e (.st 3 (.t 8) (.t 25)), none⟩]
def c8_11 : List SOper := [⟨some 26, .q (.ldn 3 (.t 2)), none⟩, ⟨some 27, .q (.mv (.t 7)), none⟩, ⟨some 28, .q (.ldn 3 (.t 8)), none⟩, ⟨some 29, .q (.mv (.t 5)), none⟩, ⟨some 30, .e (.call 20 [(.t 26), (.t 27), (.t 28), (.t 29)]), none⟩, ⟨some 9, .q (.mv (.t 30)), none⟩]
def c8_12 : List SOper := [⟨some 31, .q (.mv (.t 9)), none⟩, ⟨some 32, .q (.bin .eql (.t 31) (.c (.string ⟨#[]⟩))), none⟩]
def c8_13 : List SOper := [⟨some 4, .q (.mv (.c (.string ⟨#[]⟩))), none⟩]
def c8_14 : SCode := .seq (.region c8_13 [4]) .ret
def c8_15 : SCode := .cond (.t 32) c8_14 .skip
def c8_16 : SCode := .seq (.region c8_12 [2, 5, 6, 8, 9, 19, 20, 21, 32]) c8_15
def c8_17 : List SOper := [⟨some 33, .q (.mv (.t 6)), none⟩, ⟨some 34, .q (.mv (.t 9)), none⟩, ⟨some 35, .q (.bin .add (.t 33) (.t 34)), none⟩, ⟨some 36, .q (.mv (.t 5)), none⟩, ⟨some 37, .q (.fa 2 (.t 8)), none⟩, ⟨some 38, .q (.ld (.t 37)), none⟩, ⟨some 39, .q (.bin .add (.t 36) (.t 38)), none⟩, ⟨some 6, .q (.mv (.t 35)), none⟩, ⟨some 5, .q (.mv (.t 39)), none⟩]
def c8_18 : SCode := .seq c8_16 (.region c8_17 [2, 5, 6, 19, 20, 21])
def c8_19 : SCode := .seq (.region c8_11 [2, 5, 6, 8, 9, 19, 20, 21]) c8_18
def c8_20 : SCode := .seq (.region c8_10 [2, 5, 6, 7, 8, 19, 20, 21]) c8_19
def c8_21 : SCode := .block 1 c8_20
def c8_22 : List SOper := [⟨some 40, .q (.bin .add (.t 21) (.c (.int .i64 1))), none⟩, ⟨some 21, .q (.mv (.t 40)), none⟩]
def c8_23 : SCode := .seq c8_21 (.region c8_22 [2, 5, 6, 19, 20, 21])
def c8_24 : SCode := .seq c8_9 c8_23
def c8_25 : SCode := .seq (.region c8_8 [2, 5, 6, 19, 20, 21, 22]) c8_24
def c8_26 : SCode := .loop c8_25
def c8_27 : SCode := .block 0 c8_26
def c8_28 : SCode := .seq (.region c8_7 [2, 5, 6, 19, 20, 21]) c8_27
def c8_29 : List SOper := [⟨some 41, .q (.mv (.t 6)), none⟩, ⟨some 4, .q (.mv (.t 41)), none⟩]
def c8_30 : SCode := .seq (.region c8_29 [4]) .ret
def c8_31 : SCode := .seq c8_28 c8_30
def c8_32 : SCode := .seq (.region c8_6 [1, 2, 5, 6]) c8_31
def c8_33 : SCode := .seq c8_5 c8_32
def c8_34 : SCode := .seq (.region c8_0 [1, 2]) c8_33
def c8 : SCode := c8_34
theorem w8 : type_of% (And.intro (uR Tryd.prog c8_0.eq_1) (And.intro (uR Tryd.prog c8_1.eq_1) (And.intro (uR Tryd.prog c8_2.eq_1) (And.intro (uC Tryd.prog c8_3.eq_1) (And.intro (uC Tryd.prog c8_4.eq_1) (And.intro (uC Tryd.prog c8_5.eq_1) (And.intro (uR Tryd.prog c8_6.eq_1) (And.intro (uR Tryd.prog c8_7.eq_1) (And.intro (uR Tryd.prog c8_8.eq_1) (And.intro (uC Tryd.prog c8_9.eq_1) (And.intro (uR Tryd.prog c8_10.eq_1) (And.intro (uR Tryd.prog c8_11.eq_1) (And.intro (uR Tryd.prog c8_12.eq_1) (And.intro (uR Tryd.prog c8_13.eq_1) (And.intro (uC Tryd.prog c8_14.eq_1) (And.intro (uC Tryd.prog c8_15.eq_1) (And.intro (uC Tryd.prog c8_16.eq_1) (And.intro (uR Tryd.prog c8_17.eq_1) (And.intro (uC Tryd.prog c8_18.eq_1) (And.intro (uC Tryd.prog c8_19.eq_1) (And.intro (uC Tryd.prog c8_20.eq_1) (And.intro (uC Tryd.prog c8_21.eq_1) (And.intro (uR Tryd.prog c8_22.eq_1) (And.intro (uC Tryd.prog c8_23.eq_1) (And.intro (uC Tryd.prog c8_24.eq_1) (And.intro (uC Tryd.prog c8_25.eq_1) (And.intro (uC Tryd.prog c8_26.eq_1) (And.intro (uC Tryd.prog c8_27.eq_1) (And.intro (uC Tryd.prog c8_28.eq_1) (And.intro (uR Tryd.prog c8_29.eq_1) (And.intro (uC Tryd.prog c8_30.eq_1) (And.intro (uC Tryd.prog c8_31.eq_1) (And.intro (uC Tryd.prog c8_32.eq_1) (And.intro (uC Tryd.prog c8_33.eq_1) (And.intro (uC Tryd.prog c8_34.eq_1) (uC Tryd.prog c8.eq_1)))))))))))))))))))))))))))))))))))) := (And.intro (uR Tryd.prog c8_0.eq_1) (And.intro (uR Tryd.prog c8_1.eq_1) (And.intro (uR Tryd.prog c8_2.eq_1) (And.intro (uC Tryd.prog c8_3.eq_1) (And.intro (uC Tryd.prog c8_4.eq_1) (And.intro (uC Tryd.prog c8_5.eq_1) (And.intro (uR Tryd.prog c8_6.eq_1) (And.intro (uR Tryd.prog c8_7.eq_1) (And.intro (uR Tryd.prog c8_8.eq_1) (And.intro (uC Tryd.prog c8_9.eq_1) (And.intro (uR Tryd.prog c8_10.eq_1) (And.intro (uR Tryd.prog c8_11.eq_1) (And.intro (uR Tryd.prog c8_12.eq_1) (And.intro (uR Tryd.prog c8_13.eq_1) (And.intro (uC Tryd.prog c8_14.eq_1) (And.intro (uC Tryd.prog c8_15.eq_1) (And.intro (uC Tryd.prog c8_16.eq_1) (And.intro (uR Tryd.prog c8_17.eq_1) (And.intro (uC Tryd.prog c8_18.eq_1) (And.intro (uC Tryd.prog c8_19.eq_1) (And.intro (uC Tryd.prog c8_20.eq_1) (And.intro (uC Tryd.prog c8_21.eq_1) (And.intro (uR Tryd.prog c8_22.eq_1) (And.intro (uC Tryd.prog c8_23.eq_1) (And.intro (uC Tryd.prog c8_24.eq_1) (And.intro (uC Tryd.prog c8_25.eq_1) (And.intro (uC Tryd.prog c8_26.eq_1) (And.intro (uC Tryd.prog c8_27.eq_1) (And.intro (uC Tryd.prog c8_28.eq_1) (And.intro (uR Tryd.prog c8_29.eq_1) (And.intro (uC Tryd.prog c8_30.eq_1) (And.intro (uC Tryd.prog c8_31.eq_1) (And.intro (uC Tryd.prog c8_32.eq_1) (And.intro (uC Tryd.prog c8_33.eq_1) (And.intro (uC Tryd.prog c8_34.eq_1) (uC Tryd.prog c8.eq_1))))))))))))))))))))))))))))))))))))
def v8 : List RV := [.t 4]
theorem s8 : slimF Tryd.prog Tryd.f8 = some (c8.bare, v8) := by kernel_rfl

def atN (L : List Clip) (i : Nat) : Int := (L.take i).foldl (fun a c => IntKind.i64.wrap (a + c.len)) 0
theorem atN_succ {L : List Clip} {i : Nat} (hi : i < L.length) : atN L (i + 1) = IntKind.i64.wrap (atN L i + L[i].len) := by
  unfold atN; rw [List.take_succ_eq_append_getElem hi, List.foldl_append]; rfl
def lnN (r : Rate) (L : List Clip) (j : Nat) : List UInt8 := lineL r j (L.getD j zClip) (atN L j)
theorem lnN_eq {r : Rate} {L : List Clip} {j : Nat} (hj : j < L.length) : lnN r L j = lineL r j L[j] (atN L j) := by
  unfold lnN; rw [List.getD, List.getElem?_eq_getElem hj]; rfl
def outN (r : Rate) (L : List Clip) (i : Nat) : List UInt8 := (List.range i).flatMap (lnN r L)
theorem outN_succ (r : Rate) (L : List Clip) (i : Nat) : outN r L (i + 1) = outN r L i ++ lnN r L i := by
  unfold outN; rw [List.range_succ, List.flatMap_append]; simp
theorem outN_len (r : Rate) (L : List Clip) (hL : ∀ a ∈ L, 0 ≤ a.src ∧ a.src ≤ 500) (hn : L.length ≤ 1000000) : ∀ i, i ≤ L.length → (outN r L i).length ≤ 1000 * i := by
  intro i
  induction i with
  | zero => intro _; simp [outN]
  | succ i ih =>
    intro hi
    have := ih (by omega)
    have h2 := lineL_len r i L[i] (atN L i) (hL _ (List.getElem_mem (by omega))) (by omega)
    rw [outN_succ, List.length_append, lnN_eq (by omega)]; omega
noncomputable def showL (r : Rate) (l : List Clip) : List UInt8 := by
  classical exact if rateOk r ∧ trackOk l then (if ∀ j, j < (join l).length → lnN r (join l) j ≠ [] then outN r (join l) (join l).length else []) else []
theorem showL_bad {r : Rate} {l : List Clip} (h : ¬ (rateOk r ∧ trackOk l)) : showL r l = [] := by unfold showL; exact if_neg h
theorem showL_none {r : Rate} {l : List Clip} (h : rateOk r ∧ trackOk l) {j : Nat} (hj : j < (join l).length) (e : lnN r (join l) j = []) : showL r l = [] := by
  unfold showL; rw [if_pos h, if_neg fun q => q j hj e]
theorem showL_some {r : Rate} {l : List Clip} (h : rateOk r ∧ trackOk l) (e : ∀ j, j < (join l).length → lnN r (join l) j ≠ []) : showL r l = outN r (join l) (join l).length := by
  unfold showL; rw [if_pos h, if_pos e]
theorem ShowList_ok (h : Heap) (v : Value) (r : Rate) (l : List Clip) (s : SlT h encClip 3 v l) (hl : l.length ≤ 1100000) :
    ACall Tryd.prog 8 [.agg (encRate r).toArray, v] h fun x h' => Ext h h' ∧ x = .string (bL (showL r l)) := by
  have B := Bx.new h (encRate r) []
  have eM := Ext.more h [encRate r]
  have rk := RateOk_ok (h.more [encRate r]) r
  simp only [encRate] at B eM rk
  refine ACall.of Tryd.func8 s8 (of_decide_eq_true rfl) ?_
  simp (maxSteps := 4000000) (disch := omega) only [ah, am, Nat.reduceEqDiff, reduceCtorEq, Nat.reduceAdd, Nat.reduceLeDiff, Nat.reduceMul, Nat.reduceLT, if_true, if_false, true_and, and_true, and_self, Nat.reduceBEq, QOp.loads, boxO, bslO, buildO, cutL, fillV, putL, w8, v8, encRate, B.ld]
  refine stepC.of rk ?_
  rintro _ H1 ⟨e1, rfl⟩
  have E1 := eM.trans e1
  by_cases hr : rateOk r
  rotate_left
  · simp (maxSteps := 4000000) (disch := omega) only [ah, am, Nat.reduceEqDiff, reduceCtorEq, Nat.reduceAdd, Nat.reduceLeDiff, Nat.reduceMul, Nat.reduceLT, if_true, if_false, true_and, and_true, and_self, Nat.reduceBEq, QOp.loads, boxO, bslO, buildO, cutL, fillV, putL, w8, v8, decide_eq_false hr]
    exact ⟨E1, by rw [showL_bad fun q => hr q.1]; rfl⟩
  simp (maxSteps := 4000000) (disch := omega) only [ah, am, Nat.reduceEqDiff, reduceCtorEq, Nat.reduceAdd, Nat.reduceLeDiff, Nat.reduceMul, Nat.reduceLT, if_true, if_false, true_and, and_true, and_self, Nat.reduceBEq, QOp.loads, boxO, bslO, buildO, cutL, fillV, putL, w8, v8, decide_eq_true hr]
  refine stepC.of (implTrackOk_ok H1 v l (s.ext E1) hl) ?_
  rintro _ H2 ⟨e2, rfl⟩
  have E2 := E1.trans e2
  by_cases ht : trackOk l
  rotate_left
  · simp (maxSteps := 4000000) (disch := omega) only [ah, am, Nat.reduceEqDiff, reduceCtorEq, Nat.reduceAdd, Nat.reduceLeDiff, Nat.reduceMul, Nat.reduceLT, if_true, if_false, true_and, and_true, and_self, Nat.reduceBEq, QOp.loads, boxO, bslO, buildO, cutL, fillV, putL, w8, v8, decide_eq_false ht]
    exact ⟨E2, by rw [showL_bad fun q => ht q.2]; rfl⟩
  have OK : rateOk r ∧ trackOk l := ⟨hr, ht⟩
  have hck : ∀ k ∈ l, clipOk k := ht.2.1
  have hjl := join_length l
  have hl300 : l.length ≤ 300 := ht.1
  have hjs : ∀ a ∈ join l, 0 ≤ a.src ∧ a.src ≤ 500 := join_src fun k hk => by have := hck k hk; unfold clipOk at this; omega
  simp (maxSteps := 4000000) (disch := omega) only [ah, am, Nat.reduceEqDiff, reduceCtorEq, Nat.reduceAdd, Nat.reduceLeDiff, Nat.reduceMul, Nat.reduceLT, if_true, if_false, true_and, and_true, and_self, Nat.reduceBEq, QOp.loads, boxO, bslO, buildO, cutL, fillV, putL, w8, v8, decide_eq_true ht]
  refine stepC.of (joined_ok H2 v l (s.ext E2) hl fun k hk => (hck k hk).in) ?_
  intro jv H3 F3
  have sj := F3.slt
  have E3 := E2.trans F3.1
  have B3 := ((B.ext e1).ext e2).ext F3.1
  generalize hJ : join l = J at sj hjs hjl
  have RJ := sj.rulesN
  simp (maxSteps := 4000000) (disch := omega) only [ah, am, Nat.reduceEqDiff, reduceCtorEq, Nat.reduceAdd, Nat.reduceLeDiff, Nat.reduceMul, Nat.reduceLT, if_true, if_false, true_and, and_true, and_self, Nat.reduceBEq, QOp.loads, boxO, bslO, buildO, cutL, fillV, putL, w8, v8, RJ.1]
  refine SW_loop_up (fun i E K => Ext H3 K ∧ (∀ j, j < i → lnN r J j ≠ []) ∧ E = [(2, .pointer (some ⟨h.size, 0, none⟩)), (5, .int .i64 (atN J i)), (6, .string (bL (outN r J i))), (19, jv), (20, .int .i64 (J.length : Int)), (21, .int .i64 (i : Int))]) J.length 0 (by omega) ⟨Ext.refl _, fun j hj => by omega, rfl⟩ ?_
  rintro i E K hi ⟨eK, A, rfl⟩
  have wi : IntKind.i64.wrap ((i : Int) + 1) = ((i + 1 : Nat) : Int) := i64e (by omega) (by omega)
  have RK := (sj.ext eK).rulesN
  simp (maxSteps := 4000000) (disch := omega) only [ah, am, Nat.reduceEqDiff, reduceCtorEq, Nat.reduceAdd, Nat.reduceLeDiff, Nat.reduceMul, Nat.reduceLT, if_true, if_false, true_and, and_true, and_self, Nat.reduceBEq, QOp.loads, boxO, bslO, buildO, cutL, fillV, putL, w8, v8]
  refine stepI.split (fun hp => ?_) (fun hp => ?_)
  rotate_left
  · have hii : i = J.length := by omega
    subst hii
    simp (maxSteps := 4000000) (disch := omega) only [ah, am, Nat.reduceEqDiff, reduceCtorEq, Nat.reduceAdd, Nat.reduceLeDiff, Nat.reduceMul, Nat.reduceLT, if_true, if_false, true_and, and_true, and_self, Nat.reduceBEq, QOp.loads, boxO, bslO, buildO, cutL, fillV, putL, w8, v8]
    refine ⟨E3.trans eK, ?_⟩
    rw [showL_some OK (by rw [hJ]; exact A), hJ]
  have hi2 : i < J.length := by omega
  have IA := RK.2.1 .i64 i hi2
  have LN : ldnV K 3 (ptrAt jv (i * 3)) = some (.agg (encClip J[i]).toArray) := RK.2.2.2.2.2 i hi2
  have hsrc := hjs _ (List.getElem_mem hi2)
  have eN := Ext.more K [[.int .i64 J[i].src, .int .i64 J[i].inn, .int .i64 J[i].len]]
  have BN := Bx.new K [.int .i64 J[i].src, .int .i64 J[i].inn, .int .i64 J[i].len] []
  have BR := (B3.ext eK).ext eN
  have lk := lineOf_ok (K.more [[.int .i64 J[i].src, .int .i64 J[i].inn, .int .i64 J[i].len]]) r i J[i] (atN J i) hsrc (by omega)
  rw [← lnN_eq hi2] at lk
  simp only [encRate, encClip] at lk
  simp (maxSteps := 4000000) (disch := omega) only [ah, am, Nat.reduceEqDiff, reduceCtorEq, Nat.reduceAdd, Nat.reduceLeDiff, Nat.reduceMul, Nat.reduceLT, if_true, if_false, true_and, and_true, and_self, Nat.reduceBEq, QOp.loads, boxO, bslO, buildO, cutL, fillV, putL, w8, v8, IA, LN, encClip, BR.ld]
  refine stepC.of lk ?_
  rintro _ K2 ⟨e4, rfl⟩
  have BN2 := BN.ext e4
  by_cases cl : lnN r J i = []
  · simp (maxSteps := 4000000) (disch := omega) only [ah, am, Nat.reduceEqDiff, reduceCtorEq, Nat.reduceAdd, Nat.reduceLeDiff, Nat.reduceMul, Nat.reduceLT, if_true, if_false, true_and, and_true, and_self, Nat.reduceBEq, QOp.loads, boxO, bslO, buildO, cutL, fillV, putL, w8, v8, strB_nil, decide_eq_true cl]
    exact ⟨((E3.trans eK).trans eN).trans e4, by rw [showL_none OK (j := i) (by rw [hJ]; exact hi2) (by rw [hJ]; exact cl)]; rfl⟩
  · have hol := outN_len r J hjs (by omega) i (by omega)
    have hll := lineL_len r i J[i] (atN J i) hsrc (by omega)
    rw [← lnN_eq hi2] at hll
    have AD := strB_addL (outN r J i) (lnN r J i) (by omega)
    rw [← outN_succ] at AD
    simp (maxSteps := 4000000) (disch := omega) only [ah, am, Nat.reduceEqDiff, reduceCtorEq, Nat.reduceAdd, Nat.reduceLeDiff, Nat.reduceMul, Nat.reduceLT, if_true, if_false, true_and, and_true, and_self, Nat.reduceBEq, QOp.loads, boxO, bslO, buildO, cutL, fillV, putL, w8, v8, strB_nil, decide_eq_false cl, AD, BN2.ld, ← atN_succ hi2, wi]
    refine ⟨hi2, (eK.trans eN).trans e4, fun j hj => ?_⟩
    by_cases e : j = i
    · rw [e]; exact cl
    · exact A j (by omega)
end Go.Proofs.YtgmimgmdbpcecaaDoor
