/- Merged texts of this claim: V13, V14, V15, V16, V17. -/
import Derived.Test.YtgmimgmdbpcecaaGreatDoorZrG
section
namespace Go.Proofs.YtgmimgmdbpcecaaGreatDoor
open Go Go.Ah
set_option linter.unusedSimpArgs false
set_option linter.unusedVariables false
set_option maxRecDepth 10000
set_option maxHeartbeats 4000000
/-! 41 loop.example/g00066/spec.l6Words: parameters 1, live [0], slots [0:line, 1:line, 3:out, 4:from, 5:i] -/
def c41_0 : List SOper := [⟨some 2, .q (.mv (.c (.slice none 0 0))), none⟩]
def c41_1 : List SOper := [⟨some 6, .a (.bsl 0 1 [] []), none⟩, ⟨some 3, .q (.mv (.t 6)), none⟩]
def c41_2 : List SOper := [⟨some 4, .q (.mv (.c (.int .i64 0))), none⟩]
def c41_3 : List SOper := [⟨some 5, .q (.mv (.c (.int .i64 0))), none⟩]
def c41_4 : List SOper := [⟨some 7, .q (.mv (.t 5)), none⟩, ⟨some 8, .q (.mv (.t 0)), none⟩, ⟨some 9, .q (.lens (.t 8)), none⟩, ⟨some 10, .q (.bin .leq (.t 7) (.t 9)), none⟩]
def c41_5 : SCode := .cond (.t 10) .skip (.exit 0)
def c41_6 : SCode := .seq (.region c41_4 [0, 3, 4, 5, 10]) c41_5
def c41_7 : List SOper := [⟨some 13, .q (.mv (.t 5)), none⟩, ⟨some 14, .q (.mv (.t 0)), none⟩, ⟨some 15, .q (.lens (.t 14)), none⟩, ⟨some 16, .q (.bin .eql (.t 13) (.t 15)), none⟩, ⟨some 17, .q (.mv (.t 16)), none⟩, ⟨some 18, .q (.mv (.t 0)), some (17, false)⟩, ⟨some 19, .q (.mv (.t 5)), some (17, false)⟩, ⟨some 20, .q (.ivs (.t 18) (.t 19)), some (17, false)⟩, ⟨some 21, .q (.bin .eql (.t 20) (.c (.int .u8 32))), some (17, false)⟩, ⟨some 22, .q (.pick (.t 17) (.c (.bool true)) (.t 21)), none⟩]
def c41_8 : List SOper := [⟨some 23, .q (.mv (.t 3)), none⟩, ⟨some 24, .q (.mv (.t 0)), none⟩, ⟨some 25, .q (.mv (.t 4)), none⟩, ⟨some 26, .q (.mv (.t 5)), none⟩, ⟨some 27, .q (.sls (.t 24) (some (.t 25)) (some (.t 26))), none⟩, ⟨some 28, .a (.bsl 1 1 [(.string ⟨#[]⟩)] [(0, 1, (.t 27))]), none⟩, ⟨some 29, .e (.app 16 1 (.t 23) (.t 28)), none⟩, ⟨some 3, .q (.mv (.t 29)), none⟩]
def c41_9 : List SOper := [⟨some 30, .q (.mv (.t 5)), none⟩, ⟨some 31, .q (.bin .add (.t 30) (.c (.int .i64 1))), none⟩, ⟨some 4, .q (.mv (.t 31)), none⟩]
def c41_10 : SCode := .seq (.region c41_8 [0, 3, 5]) (.region c41_9 [0, 3, 4, 5])
def c41_11 : SCode := .cond (.t 22) c41_10 .skip
def c41_12 : SCode := .seq (.region c41_7 [0, 3, 4, 5, 22]) c41_11
def c41_13 : SCode := .block 1 c41_12
def c41_14 : List SOper := [⟨some 11, .q (.mv (.t 5)), none⟩, ⟨some 12, .q (.bin .add (.t 11) (.c (.int .i64 1))), none⟩, ⟨some 5, .q (.mv (.t 12)), none⟩]
def c41_15 : SCode := .seq c41_13 (.region c41_14 [0, 3, 4, 5])
def c41_16 : SCode := .seq c41_6 c41_15
def c41_17 : SCode := .loop c41_16
def c41_18 : SCode := .block 0 c41_17
def c41_19 : SCode := .seq (.region c41_3 [0, 3, 4, 5]) c41_18
def c41_20 : List SOper := [⟨some 32, .q (.mv (.t 3)), none⟩, ⟨some 2, .q (.mv (.t 32)), none⟩]
def c41_21 : SCode := .seq (.region c41_20 [2]) .ret
def c41_22 : SCode := .seq c41_19 c41_21
def c41_23 : SCode := .seq (.region c41_2 [0, 3, 4]) c41_22
def c41_24 : SCode := .seq (.region c41_1 [0, 3]) c41_23
def c41_25 : SCode := .seq (.region c41_0 [0]) c41_24
def c41 : SCode := c41_25
theorem w41 : type_of% (And.intro (uR Tryz.prog c41_0.eq_1) (And.intro (uR Tryz.prog c41_1.eq_1) (And.intro (uR Tryz.prog c41_2.eq_1) (And.intro (uR Tryz.prog c41_3.eq_1) (And.intro (uR Tryz.prog c41_4.eq_1) (And.intro (uC Tryz.prog c41_5.eq_1) (And.intro (uC Tryz.prog c41_6.eq_1) (And.intro (uR Tryz.prog c41_7.eq_1) (And.intro (uR Tryz.prog c41_8.eq_1) (And.intro (uR Tryz.prog c41_9.eq_1) (And.intro (uC Tryz.prog c41_10.eq_1) (And.intro (uC Tryz.prog c41_11.eq_1) (And.intro (uC Tryz.prog c41_12.eq_1) (And.intro (uC Tryz.prog c41_13.eq_1) (And.intro (uR Tryz.prog c41_14.eq_1) (And.intro (uC Tryz.prog c41_15.eq_1) (And.intro (uC Tryz.prog c41_16.eq_1) (And.intro (uC Tryz.prog c41_17.eq_1) (And.intro (uC Tryz.prog c41_18.eq_1) (And.intro (uC Tryz.prog c41_19.eq_1) (And.intro (uR Tryz.prog c41_20.eq_1) (And.intro (uC Tryz.prog c41_21.eq_1) (And.intro (uC Tryz.prog c41_22.eq_1) (And.intro (uC Tryz.prog c41_23.eq_1) (And.intro (uC Tryz.prog c41_24.eq_1) (And.intro (uC Tryz.prog c41_25.eq_1) (uC Tryz.prog c41.eq_1))))))))))))))))))))))))))) := (And.intro (uR Tryz.prog c41_0.eq_1) (And.intro (uR Tryz.prog c41_1.eq_1) (And.intro (uR Tryz.prog c41_2.eq_1) (And.intro (uR Tryz.prog c41_3.eq_1) (And.intro (uR Tryz.prog c41_4.eq_1) (And.intro (uC Tryz.prog c41_5.eq_1) (And.intro (uC Tryz.prog c41_6.eq_1) (And.intro (uR Tryz.prog c41_7.eq_1) (And.intro (uR Tryz.prog c41_8.eq_1) (And.intro (uR Tryz.prog c41_9.eq_1) (And.intro (uC Tryz.prog c41_10.eq_1) (And.intro (uC Tryz.prog c41_11.eq_1) (And.intro (uC Tryz.prog c41_12.eq_1) (And.intro (uC Tryz.prog c41_13.eq_1) (And.intro (uR Tryz.prog c41_14.eq_1) (And.intro (uC Tryz.prog c41_15.eq_1) (And.intro (uC Tryz.prog c41_16.eq_1) (And.intro (uC Tryz.prog c41_17.eq_1) (And.intro (uC Tryz.prog c41_18.eq_1) (And.intro (uC Tryz.prog c41_19.eq_1) (And.intro (uR Tryz.prog c41_20.eq_1) (And.intro (uC Tryz.prog c41_21.eq_1) (And.intro (uC Tryz.prog c41_22.eq_1) (And.intro (uC Tryz.prog c41_23.eq_1) (And.intro (uC Tryz.prog c41_24.eq_1) (And.intro (uC Tryz.prog c41_25.eq_1) (uC Tryz.prog c41.eq_1)))))))))))))))))))))))))))
def v41 : List RV := [.t 2]
theorem s41 : slimF Tryz.prog Tryz.f41 = some (c41.bare, v41) := by kernel_rfl

theorem l6Words_ok (h : Heap) (l : List UInt8) (hl : l.length ≤ 1000000) : ACall Tryz.prog 41 [.string (bL l)] h fun r h' => Fresh h h' encS 1 r ((spl l).map bL) := by
  have hsz : (bL l).size = l.length := bL_size l
  refine ACall.of Tryz.func41 s41 (of_decide_eq_true rfl) ?_
  simp (maxSteps := 4000000) (disch := omega) only [ah, am, Nat.reduceEqDiff, reduceCtorEq, Nat.reduceAdd, Nat.reduceLeDiff, Nat.reduceMul, Nat.reduceLT, if_true, if_false, true_and, and_true, and_self, Nat.reduceBEq, QOp.loads, boxO, bslO, buildO, cutL, fillV, putL, w41, v41]
  refine SW_loop_up (fun i E K => ∃ (w : Value) (f : Nat) (P : List (List UInt8)), E = [(0, .string (bL l)), (3, w), (4, .int .i64 (f : Int)), (5, .int .i64 (i : Int))] ∧ P.length ≤ i ∧
    ((i ≤ l.length ∧ f ≤ i ∧ Fresh h K encS 1 w (P.map bL) ∧ spl (l.take i) = P ++ [(l.drop f).take (i - f)]) ∨ (i = l.length + 1 ∧ Fresh h K encS 1 w ((spl l).map bL)))) (l.length + 1) 0 (by omega)
    ⟨_, 0, [], rfl, by simp, .inl ⟨by omega, by omega, Fresh.new0 h encS_len (by omega), rfl⟩⟩ ?_
  rintro i E K hi ⟨w, f, P, rfl, hP, I⟩
  have wi : IntKind.i64.wrap ((i : Int) + 1) = ((i + 1 : Nat) : Int) := i64e (by omega) (by omega)
  rcases I with ⟨i1, i2, F, e⟩ | ⟨i1, F⟩
  rotate_left
  · have c : decide ((i : Int) ≤ (l.length : Int)) = false := decide_eq_false (by omega)
    simp (maxSteps := 4000000) (disch := omega) only [ah, am, Nat.reduceEqDiff, reduceCtorEq, Nat.reduceAdd, Nat.reduceLeDiff, Nat.reduceMul, Nat.reduceLT, if_true, if_false, true_and, and_true, and_self, Nat.reduceBEq, QOp.loads, boxO, bslO, buildO, cutL, fillV, putL, w41, v41, hsz, c]
    exact F
  have c : decide ((i : Int) ≤ (l.length : Int)) = true := decide_eq_true (by omega)
  have SL := sls_ab l .i64 .i64 f i i2 i1
  obtain ⟨w2, K2, ap, F2⟩ := F.app1 (bL ((l.drop f).take (i - f))) (bytes := 16) (by simp; omega)
  simp only [encS] at ap
  have hm : P.map bL ++ [bL ((l.drop f).take (i - f))] = (P ++ [(l.drop f).take (i - f)]).map bL := by simp
  rw [hm] at F2
  by_cases c1 : i = l.length
  · have c1' : decide ((i : Int) = (l.length : Int)) = true := decide_eq_true (by omega)
    simp (maxSteps := 4000000) (disch := omega) only [ah, am, Nat.reduceEqDiff, reduceCtorEq, Nat.reduceAdd, Nat.reduceLeDiff, Nat.reduceMul, Nat.reduceLT, if_true, if_false, true_and, and_true, and_self, Nat.reduceBEq, QOp.loads, boxO, bslO, buildO, cutL, fillV, putL, w41, v41, hsz, c, c1', SL, ap, wi]
    refine ⟨by omega, w2, i + 1, P, rfl, by omega, .inr ⟨by omega, ?_⟩⟩
    have : spl l = P ++ [(l.drop f).take (i - f)] := by rw [← e, c1, List.take_length]
    rw [this]; exact F2
  have il : i < l.length := by omega
  have c1' : decide ((i : Int) = (l.length : Int)) = false := decide_eq_false (by omega)
  have IV := ivs_bL l .i64 i il
  have sn := spl_snoc l[i] (l.take i) P _ e
  rw [← List.take_succ_eq_append_getElem il] at sn
  by_cases c2 : (l[i].toNat : Int) = 32
  · have hb : l[i] = 32 := UInt8.toNat_inj.mp (by have : (32 : UInt8).toNat = 32 := rfl; omega)
    rw [if_pos hb] at sn
    simp (maxSteps := 4000000) (disch := omega) only [ah, am, Nat.reduceEqDiff, reduceCtorEq, Nat.reduceAdd, Nat.reduceLeDiff, Nat.reduceMul, Nat.reduceLT, if_true, if_false, true_and, and_true, and_self, Nat.reduceBEq, QOp.loads, boxO, bslO, buildO, cutL, fillV, putL, w41, v41, hsz, c, c1', IV, decide_eq_true c2, SL, ap, wi]
    refine ⟨by omega, w2, i + 1, P ++ [(l.drop f).take (i - f)], rfl, by simp; omega, .inl ⟨by omega, by omega, F2, ?_⟩⟩
    rw [sn, Nat.sub_self, List.take_zero]; simp
  · have hb : ¬ l[i] = 32 := fun q => c2 (by rw [q]; rfl)
    rw [if_neg hb] at sn
    simp (maxSteps := 4000000) (disch := omega) only [ah, am, Nat.reduceEqDiff, reduceCtorEq, Nat.reduceAdd, Nat.reduceLeDiff, Nat.reduceMul, Nat.reduceLT, if_true, if_false, true_and, and_true, and_self, Nat.reduceBEq, QOp.loads, boxO, bslO, buildO, cutL, fillV, putL, w41, v41, hsz, c, c1', IV, decide_eq_false c2, wi]
    refine ⟨by omega, w, f, P, rfl, by omega, .inl ⟨by omega, by omega, F, ?_⟩⟩
    rw [sn, show i + 1 - f = (i - f) + 1 from by omega, List.take_succ_eq_append_getElem (by simp; omega), List.getElem_drop]
    have hfi : f + (i - f) = i := by omega
    simp only [hfi]
end Go.Proofs.YtgmimgmdbpcecaaGreatDoor
end

section
namespace Go.Proofs.YtgmimgmdbpcecaaGreatDoor
open Go Go.Ah
set_option linter.unusedSimpArgs false
set_option linter.unusedVariables false
set_option maxRecDepth 10000
set_option maxHeartbeats 4000000
/-! ### An own slice that ends where its object does: what is appended to it leaves it as it was -/
structure Full {α : Type} (g : Nat) (h : Heap) (enc : α → List Value) (sz : Nat) (v : Value) (l : List α) : Prop where
  own : ∃ i, v = .slice (some ⟨i, 0, none⟩) l.length sz ∧ h.get i = some ⟨l.flatMap enc, g, true, true⟩
  hs : ∀ x, (enc x).length = sz
  pos : 0 < sz
section
variable {α : Type} {enc : α → List Value} {sz g : Nat} {h h' : Heap} {v : Value} {l : List α}
theorem Full.ownT (f : Full g h enc sz v l) : OwnT g h enc sz v l := by
  obtain ⟨i, rfl, hi⟩ := f.own
  refine ⟨.inr ⟨i, 0, l.length, _, rfl, hi, rfl, ?_, ?_, rfl, rfl⟩, f.hs, f.pos⟩
  · rw [flat_len f.hs]; omega
  · rw [List.drop_zero, ← flat_len f.hs l]; exact List.take_length
theorem Full.slt (f : Full g h enc sz v l) : SlT h enc sz v l := f.ownT.slt
theorem Full.lt (f : Full g h enc sz v l) : g < h.size := by
  obtain ⟨i, _, hi⟩ := f.own
  exact Nat.lt_of_le_of_lt (Heap.grp_le hi) (Heap.get_lt hi)
theorem Full.ext (f : Full g h enc sz v l) (e : Ext h h') : Full g h' enc sz v l := by
  obtain ⟨i, hv, hi⟩ := f.own
  exact ⟨⟨i, hv, by rw [e.2 i (Heap.get_lt hi)]; exact hi⟩, f.hs, f.pos⟩
theorem Full.extG {g' : Nat} (f : Full g h enc sz v l) (e : ExtG g' h h') (hg : g ≠ g') : Full g h' enc sz v l := by
  obtain ⟨i, hv, hi⟩ := f.own
  exact ⟨⟨i, hv, e.2 i _ hi hg⟩, f.hs, f.pos⟩
theorem Full.new0 (h : Heap) (hs : ∀ x, (enc x).length = sz) (pos : 0 < sz) : Full h.size (h.more [[]]) enc sz (.slice (some ⟨h.size, 0, none⟩) 0 sz) ([] : List α) :=
  ⟨⟨h.size, rfl, Heap.get_alloc_new h []⟩, hs, pos⟩
theorem Full.app1 (f : Full g h enc sz v l) (L : List (List Value)) (x : α) {bytes : Nat} (hr : (l.length + 1) * bytes ≤ 70368744177664) :
    ∃ v' h2, appV (h.more (L ++ [enc x])) bytes sz v (.slice (some ⟨h.size + L.length, 0, none⟩) 1 sz) = some (v', h2) ∧ Full g h2 enc sz v' (l ++ [x]) ∧ Full g h2 enc sz v l ∧ ExtG g (h.more (L ++ [enc x])) h2 := by
  have hs := f.hs
  have pos := f.pos
  have s : SlT (h.more (L ++ [enc x])) enc sz (.slice (some ⟨h.size + L.length, 0, none⟩) 1 sz) [x] := by
    have := (OwnT.new (h.more L) [x] hs pos).slt
    simp only [List.flatMap_cons, List.flatMap_nil, List.append_nil, List.length_cons, List.length_nil, Nat.zero_add, more_more, size_more] at this
    exact this
  have f1 := f.ext (Ext.more h (L ++ [enc x]))
  generalize h.more (L ++ [enc x]) = H at *
  obtain ⟨i, rfl, hi⟩ := f1.own
  have hsrc := srcW_of s.sl.src
  rw [s.slLen] at hsrc
  have hlt := Heap.get_lt hi
  have hfl := flat_len hs l
  have hgl : g ≤ H.size := Nat.le_trans (Heap.grp_le hi) (Nat.le_of_lt hlt)
  obtain ⟨h2, hh2⟩ : ∃ h2, h2 = H.push i g (decide (l.length * sz = (l.flatMap enc).length)) (((l.flatMap enc).drop 0).take (l.length * sz) ++ [x].flatMap enc) hgl := ⟨_, rfl⟩
  have hcs : ((l.flatMap enc).drop 0).take (l.length * sz) ++ [x].flatMap enc = (l ++ [x]).flatMap enc := by
    rw [List.drop_zero, ← hfl, List.take_length, List.flatMap_append]
  refine ⟨.slice (some ⟨H.size, 0, none⟩) (l.length + 1) sz, h2, ?_, ⟨⟨H.size, by simp, ?_⟩, hs, pos⟩, ⟨⟨i, rfl, ?_⟩, hs, pos⟩, ?_, ?_⟩
  · unfold appV
    rw [hsrc]
    simp only [Option.bind_some, List.length_cons, List.length_nil, Nat.zero_add]
    rw [if_neg (by omega)]
    split
    · rename_i ob' hg'
      rw [hi] at hg'; cases hg'
      rw [if_pos ⟨rfl, rfl, trivial, (show l.length * sz ≤ (l.flatMap enc).length by omega), hr⟩, hh2]
    · rename_i hg'; rw [hi] at hg'; cases hg'
  · rw [hh2, Heap.get_push_new, hcs]
  · rw [hh2, Heap.get_push_old _ _ _ _ _ _ hlt hi, if_neg]
    rintro ⟨_, q⟩
    simp [hfl] at q
  · rw [hh2, Heap.size_push]; omega
  · intro j ob' hj hg'
    rw [hh2, Heap.get_push_old _ _ _ _ _ _ (Heap.get_lt hj) hj, if_neg]
    rintro ⟨e, _⟩; exact hg' e
end
/-! ### A line of a list -/
def wd (l : List UInt8) (i : Nat) : List UInt8 := (spl l).getD i []
def lnWordsBad (l : List UInt8) : Prop := (∃ p ∈ spl l, p = []) ∨ (spl l).length ≠ 7
instance (l : List UInt8) : Decidable (lnWordsBad l) := by unfold lnWordsBad; infer_instance
def lnClip (r : Rate) (l : List UInt8) : Clip := ⟨srcV' (wd l 1), frameI r (wd l 3), frameI r (wd l 4) - frameI r (wd l 3)⟩
def follows (k a : Clip) : Prop := a.src = k.src ∧ (k.src = 0 ∨ a.inn + a.len = k.inn)
instance (k a : Clip) : Decidable (follows k a) := by unfold follows; infer_instance
def lnJoinBad (t : List Clip) (c : Clip) : Prop := (∃ h : 0 < t.length, follows c t[t.length - 1]) ∨ ¬ trackOk (t ++ [c])
instance (t : List Clip) (c : Clip) : Decidable (lnJoinBad t c) := by unfold lnJoinBad; infer_instance
def lnCode (r : Rate) (t : List Clip) (l : List UInt8) : Int :=
  if lnWordsBad l then 4 else
  if wd l 0 ≠ padL 3 (digs (t.length + 1)) then 5 else
  if ¬ srcOk (wd l 1) ∨ wd l 2 ≠ [67] then 6 else
  if ¬ (timeOkL r (wd l 3) ∧ timeOkL r (wd l 4) ∧ timeOkL r (wd l 5) ∧ timeOkL r (wd l 6)) then 7 else
  if ¬ clipOk (lnClip r l) then 8 else
  if frameI r (wd l 5) ≠ sumLen t ∨ frameI r (wd l 6) - frameI r (wd l 5) ≠ (lnClip r l).len then 9 else
  if lnJoinBad t (lnClip r l) then 10 else 0
theorem frameI_bd {r : Rate} {l : List UInt8} (h : timeOkL r l) : 0 ≤ frameI r l ∧ frameI r l ≤ 10000000 := by
  obtain ⟨_, h1, _, h2⟩ := h
  refine Classical.byContradiction fun q => ?_
  have : timeL r (frameI r l) = [] := if_neg fun t => by have := t; omega
  rw [this] at h2
  rw [← h2] at h1; simp at h1
theorem joinBad_iff {t : List Clip} (hj : join t = t) (c : Clip) : ((join (t ++ [c])).length ≠ (t ++ [c]).length ∨ ¬ trackOk (t ++ [c])) ↔ lnJoinBad t c := by
  have e : join (t ++ [c]) = joinStep t c := by
    rw [join, List.foldl_append]
    show joinStep (join t) c = _
    rw [hj]
  unfold lnJoinBad
  rw [e]
  refine or_congr ?_ Iff.rfl
  unfold joinStep follows
  split
  · rename_i h0
    split
    · rename_i h1
      refine ⟨fun _ => ⟨h0, h1⟩, fun _ => by simp⟩
    · rename_i h1
      refine ⟨fun q => absurd rfl q, fun q => absurd q.2 h1⟩
  · rename_i h0
    exact ⟨fun q => absurd rfl q, fun q => absurd q.1 h0⟩
theorem join_keep {t : List Clip} (hj : join t = t) {c : Clip} (h : ¬ lnJoinBad t c) : join (t ++ [c]) = t ++ [c] ∧ trackOk (t ++ [c]) := by
  refine ⟨?_, Classical.byContradiction fun q => h (.inr q)⟩
  have e : join (t ++ [c]) = joinStep t c := by
    rw [join, List.foldl_append]
    show joinStep (join t) c = _
    rw [hj]
  rw [e]
  unfold joinStep
  split
  · rename_i h0
    exact if_neg fun q => h (.inl ⟨h0, q⟩)
  · rfl
end Go.Proofs.YtgmimgmdbpcecaaGreatDoor
end

section
namespace Go.Proofs.YtgmimgmdbpcecaaGreatDoor
open Go Go.Ah
set_option linter.unusedSimpArgs false
set_option linter.unusedVariables false
set_option maxRecDepth 10000
set_option maxHeartbeats 4000000
/-! ### The codes of a line, one by one -/
section
variable {r : Rate} {t : List Clip} {l : List UInt8}
theorem lnCode_words (h : lnWordsBad l) : lnCode r t l = 4 := by unfold lnCode; rw [if_pos h]
theorem lnCode_number (h : ¬ lnWordsBad l) (h1 : wd l 0 ≠ padL 3 (digs (t.length + 1))) : lnCode r t l = 5 := by unfold lnCode; rw [if_neg h, if_pos h1]
theorem lnCode_source (h : ¬ lnWordsBad l) (h1 : wd l 0 = padL 3 (digs (t.length + 1))) (h2 : ¬ srcOk (wd l 1) ∨ wd l 2 ≠ [67]) : lnCode r t l = 6 := by
  unfold lnCode; rw [if_neg h, if_neg (fun q => q h1), if_pos h2]
theorem lnCode_time (h : ¬ lnWordsBad l) (h1 : wd l 0 = padL 3 (digs (t.length + 1))) (h2 : srcOk (wd l 1) ∧ wd l 2 = [67]) (h3 : ¬ (timeOkL r (wd l 3) ∧ timeOkL r (wd l 4) ∧ timeOkL r (wd l 5) ∧ timeOkL r (wd l 6))) : lnCode r t l = 7 := by
  unfold lnCode; rw [if_neg h, if_neg (fun q => q h1), if_neg (fun q => q.elim (fun a => a h2.1) fun a => a h2.2), if_pos h3]
structure LnOk (r : Rate) (t : List Clip) (l : List UInt8) : Prop where
  words : ¬ lnWordsBad l
  number : wd l 0 = padL 3 (digs (t.length + 1))
  source : srcOk (wd l 1) ∧ wd l 2 = [67]
  time : timeOkL r (wd l 3) ∧ timeOkL r (wd l 4) ∧ timeOkL r (wd l 5) ∧ timeOkL r (wd l 6)
theorem LnOk.code (h : LnOk r t l) : lnCode r t l = (if ¬ clipOk (lnClip r l) then 8 else
  if frameI r (wd l 5) ≠ sumLen t ∨ frameI r (wd l 6) - frameI r (wd l 5) ≠ (lnClip r l).len then 9 else
  if lnJoinBad t (lnClip r l) then 10 else 0) := by
  unfold lnCode; rw [if_neg h.words, if_neg (fun q => q h.number), if_neg (fun q => q.elim (fun a => a h.source.1) fun a => a h.source.2), if_neg (fun q => q h.time)]
theorem lnCode_in (h : LnOk r t l) (h1 : ¬ clipOk (lnClip r l)) : lnCode r t l = 8 := by rw [h.code, if_pos h1]
theorem lnCode_place (h : LnOk r t l) (h1 : clipOk (lnClip r l)) (h2 : frameI r (wd l 5) ≠ sumLen t ∨ frameI r (wd l 6) - frameI r (wd l 5) ≠ (lnClip r l).len) : lnCode r t l = 9 := by
  rw [h.code, if_neg fun q => q h1, if_pos h2]
theorem lnCode_join (h : LnOk r t l) (h1 : clipOk (lnClip r l)) (h2 : frameI r (wd l 5) = sumLen t ∧ frameI r (wd l 6) - frameI r (wd l 5) = (lnClip r l).len) (h3 : lnJoinBad t (lnClip r l)) : lnCode r t l = 10 := by
  rw [h.code, if_neg fun q => q h1, if_neg (fun q => q.elim (fun a => a h2.1) fun a => a h2.2), if_pos h3]
theorem lnCode_good (h : LnOk r t l) (h1 : clipOk (lnClip r l)) (h2 : frameI r (wd l 5) = sumLen t ∧ frameI r (wd l 6) - frameI r (wd l 5) = (lnClip r l).len) (h3 : ¬ lnJoinBad t (lnClip r l)) : lnCode r t l = 0 := by
  rw [h.code, if_neg fun q => q h1, if_neg (fun q => q.elim (fun a => a h2.1) fun a => a h2.2), if_neg h3]
theorem lnCode_zero (h : lnCode r t l = 0) : LnOk r t l ∧ clipOk (lnClip r l) ∧ (frameI r (wd l 5) = sumLen t ∧ frameI r (wd l 6) - frameI r (wd l 5) = (lnClip r l).len) ∧ ¬ lnJoinBad t (lnClip r l) := by
  by_cases a : lnWordsBad l
  · rw [lnCode_words a] at h; omega
  by_cases b : wd l 0 = padL 3 (digs (t.length + 1))
  rotate_left
  · rw [lnCode_number a b] at h; omega
  by_cases c : srcOk (wd l 1) ∧ wd l 2 = [67]
  rotate_left
  · rw [lnCode_source a b (by by_cases q : srcOk (wd l 1); exact .inr fun k => c ⟨q, k⟩; exact .inl q)] at h; omega
  by_cases d : timeOkL r (wd l 3) ∧ timeOkL r (wd l 4) ∧ timeOkL r (wd l 5) ∧ timeOkL r (wd l 6)
  rotate_left
  · rw [lnCode_time a b c d] at h; omega
  have L : LnOk r t l := ⟨a, b, c, d⟩
  by_cases e : clipOk (lnClip r l)
  rotate_left
  · rw [lnCode_in L e] at h; omega
  by_cases f : frameI r (wd l 5) = sumLen t ∧ frameI r (wd l 6) - frameI r (wd l 5) = (lnClip r l).len
  rotate_left
  · rw [lnCode_place L e (by by_cases q : frameI r (wd l 5) = sumLen t; exact .inr fun k => f ⟨q, k⟩; exact .inl q)] at h; omega
  by_cases g : lnJoinBad t (lnClip r l)
  · rw [lnCode_join L e f g] at h; omega
  exact ⟨L, e, f, g⟩
end
/-! ### Lines of a text -/
def lin : List UInt8 → List (List UInt8)
  | [] => []
  | b :: t => if b = 10 then [] :: lin t else match lin t with
    | h :: r => (b :: h) :: r
    | [] => []
def endsNl (l : List UInt8) : Prop := l = [] ∨ l.getLast? = some 10
instance (l : List UInt8) : Decidable (endsNl l) := by unfold endsNl; infer_instance
theorem lin_app (q : List UInt8) : ∀ p : List UInt8, (10 : UInt8) ∉ p → lin (p ++ 10 :: q) = p :: lin q := by
  intro p
  induction p with
  | nil => intro _; rw [List.nil_append, lin, if_pos rfl]
  | cons b p ih =>
    intro h
    rw [List.mem_cons, not_or] at h
    rw [List.cons_append, lin, if_neg (fun e => h.1 e.symm), ih h.2]
theorem lin_none : ∀ p : List UInt8, (10 : UInt8) ∉ p → lin p = [] := by
  intro p
  induction p with
  | nil => intro _; rfl
  | cons b p ih =>
    intro h
    rw [List.mem_cons, not_or] at h
    rw [lin, if_neg (fun e => h.1 e.symm), ih h.2]
theorem index_app (q : List UInt8) : ∀ p : List UInt8, (10 : UInt8) ∉ p → Lib.index (p ++ 10 :: q) [10] = p.length := by
  intro p
  induction p with
  | nil => intro _; rw [List.nil_append, Lib.index]; simp [List.isPrefixOf]
  | cons b p ih =>
    intro h
    rw [List.mem_cons, not_or] at h
    have : ([10] : List UInt8).isPrefixOf (b :: (p ++ 10 :: q)) = false := by simp [List.isPrefixOf]; exact h.1
    rw [List.cons_append, Lib.index, this, ih h.2]
    simp
theorem cut_app {p q : List UInt8} (h : (10 : UInt8) ∉ p) : Lib.cut (p ++ 10 :: q) [10] = (p, q, true) := by
  unfold Lib.cut
  rw [index_app q p h, if_pos (by omega)]
  simp
theorem first_nl : ∀ t : List UInt8, (10 : UInt8) ∈ t → ∃ p q, t = p ++ 10 :: q ∧ (10 : UInt8) ∉ p := by
  intro t
  induction t with
  | nil => intro h; cases h
  | cons b t ih =>
    intro h
    by_cases hb : b = 10
    · exact ⟨[], t, by rw [hb]; rfl, by simp⟩
    · rw [List.mem_cons] at h
      obtain ⟨p, q, e, n⟩ := ih (h.resolve_left fun k => hb k.symm)
      exact ⟨b :: p, q, by rw [e]; rfl, by rw [List.mem_cons, not_or]; exact ⟨fun k => hb k.symm, n⟩⟩
theorem endsNl_mem {t : List UInt8} (h : endsNl t) (h0 : t ≠ []) : (10 : UInt8) ∈ t := by
  rcases h with h | h
  · exact absurd h h0
  · exact List.mem_of_getLast? h
theorem endsNl_rest {p q : List UInt8} (h : endsNl (p ++ 10 :: q)) : endsNl q := by
  rcases h with h | h
  · simp at h
  · cases q with
    | nil => exact .inl rfl
    | cons a q =>
      right
      rw [List.getLast?_append] at h
      rw [List.getLast?_cons_cons] at h
      cases e : (a :: q).getLast? with
      | none => simp at e
      | some x => rw [e] at h; simpa using h
/-! ### A list read -/
def readG (r : Rate) : List (List UInt8) → Nat → List Clip → List Clip × Int × Int
  | [], _, t => (t, 0, 0)
  | l :: ls, n, t => if lnCode r t l = 0 then readG r ls (n + 1) (t ++ [lnClip r l]) else ([], lnCode r t l, n)
def readL (r : Rate) (x : List UInt8) : List Clip × Int × Int :=
  if ¬ rateOk r then ([], 1, 0) else if 20000 < x.length then ([], 2, 0) else if ¬ endsNl x then ([], 3, 0) else readG r (lin x) 0 []
def keeps (t : List Clip) : Prop := trackOk t ∧ join t = t
theorem keeps_nil : keeps [] := ⟨⟨by simp, by simp, by simp [sumLen]⟩, rfl⟩
theorem keeps_step {r : Rate} {t : List Clip} {l : List UInt8} (k : keeps t) (h : lnCode r t l = 0) : keeps (t ++ [lnClip r l]) := by
  obtain ⟨_, _, _, h4⟩ := lnCode_zero h
  obtain ⟨a, b⟩ := join_keep k.2 h4
  exact ⟨b, a⟩
theorem readG_bad {r : Rate} {l : List UInt8} {ls : List (List UInt8)} {n : Nat} {t : List Clip} (h : lnCode r t l ≠ 0) : readG r (l :: ls) n t = ([], lnCode r t l, (n : Int)) := if_neg h
theorem readG_good {r : Rate} {l : List UInt8} {ls : List (List UInt8)} {n : Nat} {t : List Clip} (h : lnCode r t l = 0) : readG r (l :: ls) n t = readG r ls (n + 1) (t ++ [lnClip r l]) := if_pos h
theorem readL_rate {r : Rate} {x : List UInt8} (h : ¬ rateOk r) : readL r x = ([], 1, 0) := by unfold readL; rw [if_pos h]
theorem readL_long {r : Rate} {x : List UInt8} (h : rateOk r) (h1 : 20000 < x.length) : readL r x = ([], 2, 0) := by unfold readL; rw [if_neg fun q => q h, if_pos h1]
theorem readL_end {r : Rate} {x : List UInt8} (h : rateOk r) (h1 : ¬ 20000 < x.length) (h2 : ¬ endsNl x) : readL r x = ([], 3, 0) := by unfold readL; rw [if_neg fun q => q h, if_neg h1, if_pos h2]
theorem readL_go {r : Rate} {x : List UInt8} (h : rateOk r) (h1 : ¬ 20000 < x.length) (h2 : endsNl x) : readL r x = readG r (lin x) 0 [] := by unfold readL; rw [if_neg fun q => q h, if_neg h1, if_neg fun q => q h2]
theorem readG_facts {r : Rate} : ∀ (ls : List (List UInt8)) (n : Nat) (t : List Clip), keeps t → (readG r ls n t).2.1 = 0 ∧ keeps (readG r ls n t).1 ∧ (readG r ls n t).2.2 = 0 ∨ (readG r ls n t).2.1 ≠ 0 ∧ (readG r ls n t).1 = [] := by
  intro ls
  induction ls with
  | nil => intro n t k; exact .inl ⟨rfl, k, rfl⟩
  | cons l ls ih =>
    intro n t k
    by_cases c : lnCode r t l = 0
    · rw [readG_good c]; exact ih _ _ (keeps_step k c)
    · rw [readG_bad c]; exact .inr ⟨c, rfl⟩
theorem readL_facts (r : Rate) (x : List UInt8) : (readL r x).2.1 = 0 ∧ keeps (readL r x).1 ∧ (readL r x).2.2 = 0 ∨ (readL r x).2.1 ≠ 0 ∧ (readL r x).1 = [] := by
  by_cases a : rateOk r
  rotate_left
  · rw [readL_rate a]; exact .inr ⟨by simp, rfl⟩
  by_cases b : 20000 < x.length
  · rw [readL_long a b]; exact .inr ⟨by simp, rfl⟩
  by_cases c : endsNl x
  · rw [readL_go a b c]; exact readG_facts _ _ _ keeps_nil
  · rw [readL_end a b c]; exact .inr ⟨by simp, rfl⟩
end Go.Proofs.YtgmimgmdbpcecaaGreatDoor
end

section
namespace Go.Proofs.YtgmimgmdbpcecaaGreatDoor
open Go Go.Ah
set_option linter.unusedSimpArgs false
set_option linter.unusedVariables false
set_option maxRecDepth 10000
set_option maxHeartbeats 4000000
/-! 22 strings.HasSuffix: parameters 2, live [0, 1], slots [0:s, 1:suffix, 2:s, 3:suffix] -/
def c22_0 : List SOper := [⟨some 4, .q (.mv (.c (.bool false))), none⟩]
def c22_1 : List SOper := [⟨some 5, .q (.mv (.t 0)), none⟩, ⟨some 6, .q (.mv (.t 1)), none⟩, ⟨some 7, .e (.call 48 [(.t 5), (.t 6)]), none⟩, ⟨some 4, .q (.mv (.t 7)), none⟩]
def c22_2 : SCode := .seq (.region c22_1 [4]) .ret
def c22_3 : SCode := .seq (.region c22_0 [0, 1]) c22_2
def c22 : SCode := c22_3
theorem w22 : type_of% (And.intro (uR Tryz.prog c22_0.eq_1) (And.intro (uR Tryz.prog c22_1.eq_1) (And.intro (uC Tryz.prog c22_2.eq_1) (And.intro (uC Tryz.prog c22_3.eq_1) (uC Tryz.prog c22.eq_1))))) := (And.intro (uR Tryz.prog c22_0.eq_1) (And.intro (uR Tryz.prog c22_1.eq_1) (And.intro (uC Tryz.prog c22_2.eq_1) (And.intro (uC Tryz.prog c22_3.eq_1) (uC Tryz.prog c22.eq_1)))))
def v22 : List RV := [.t 4]
theorem s22 : slimF Tryz.prog Tryz.f22 = some (c22.bare, v22) := by kernel_rfl
/-! 48 internal/stringslite.HasSuffix: parameters 2, live [0, 1], slots [0:s, 1:suffix, 2:s, 3:suffix] -/
def c48_0 : List SOper := [⟨some 4, .q (.mv (.c (.bool false))), none⟩]
def c48_1 : List SOper := [⟨some 5, .q (.mv (.t 0)), none⟩, ⟨some 6, .q (.lens (.t 5)), none⟩, ⟨some 7, .q (.mv (.t 1)), none⟩, ⟨some 8, .q (.lens (.t 7)), none⟩, ⟨some 9, .q (.bin .geq (.t 6) (.t 8)), none⟩, ⟨some 10, .q (.mv (.t 9)), none⟩, ⟨some 11, .q (.mv (.t 0)), some (10, true)⟩, ⟨some 12, .q (.mv (.t 0)), some (10, true)⟩, ⟨some 13, .q (.lens (.t 12)), some (10, true)⟩, ⟨some 14, .q (.mv (.t 1)), some (10, true)⟩, ⟨some 15, .q (.lens (.t 14)), some (10, true)⟩, ⟨some 16, .q (.bin .sub (.t 13) (.t 15)), some (10, true)⟩, ⟨some 17, .q (.sls (.t 11) (some (.t 16)) none), some (10, true)⟩, ⟨some 18, .q (.mv (.t 1)), some (10, true)⟩, ⟨some 19, .q (.bin .eql (.t 17) (.t 18)), some (10, true)⟩, ⟨some 20, .q (.pick (.t 10) (.t 19) (.c (.bool false))), none⟩, ⟨some 4, .q (.mv (.t 20)), none⟩]
def c48_2 : SCode := .seq (.region c48_1 [4]) .ret
def c48_3 : SCode := .seq (.region c48_0 [0, 1]) c48_2
def c48 : SCode := c48_3
theorem w48 : type_of% (And.intro (uR Tryz.prog c48_0.eq_1) (And.intro (uR Tryz.prog c48_1.eq_1) (And.intro (uC Tryz.prog c48_2.eq_1) (And.intro (uC Tryz.prog c48_3.eq_1) (uC Tryz.prog c48.eq_1))))) := (And.intro (uR Tryz.prog c48_0.eq_1) (And.intro (uR Tryz.prog c48_1.eq_1) (And.intro (uC Tryz.prog c48_2.eq_1) (And.intro (uC Tryz.prog c48_3.eq_1) (uC Tryz.prog c48.eq_1)))))
def v48 : List RV := [.t 4]
theorem s48 : slimF Tryz.prog Tryz.f48 = some (c48.bare, v48) := by kernel_rfl

theorem last_one (l : List UInt8) (c : UInt8) : l.drop (l.length - 1) = [c] ↔ l.getLast? = some c := by
  rcases List.eq_nil_or_concat l with rfl | ⟨a, b, rfl⟩
  · simp
  · rw [List.concat_eq_append]
    have h1 : (a ++ [b]).length - 1 = a.length := by simp
    rw [h1, List.drop_left, List.getLast?_append]
    simp
theorem slHasSuffix_ok (h : Heap) (l : List UInt8) (c : UInt8) (hl : l.length ≤ 1000000) : ACall Tryz.prog 48 [.string (bL l), .string (bL [c])] h fun r h' => h' = h ∧ r = .bool (decide (l.getLast? = some c)) := by
  have hsz : (bL l).size = l.length := bL_size l
  have hs1 : (((bL [c]).size : Nat) : Int) = 1 := rfl
  refine ACall.of Tryz.func48 s48 (of_decide_eq_true rfl) ?_
  by_cases c1 : (1 : Int) ≤ l.length
  · have w1 : IntKind.i64.wrap ((l.length : Int) - 1) = ((l.length - 1 : Nat) : Int) := i64e (by omega) (by omega)
    have s1 := sls_a l .i64 (l.length - 1) (by omega)
    have e : strB .eql (bL (l.drop (l.length - 1))) (bL [c]) = some (.bool (decide (l.getLast? = some c))) := (strB_eql _ _).trans (by
      rw [bL_data, bL_data]; exact congrArg (fun b => some (Value.bool b)) (decide_eq_decide.mpr (last_one l c)))
    simp (maxSteps := 4000000) (disch := omega) only [ah, am, Nat.reduceEqDiff, reduceCtorEq, Nat.reduceAdd, Nat.reduceLeDiff, Nat.reduceMul, Nat.reduceLT, if_true, if_false, true_and, and_true, and_self, Nat.reduceBEq, QOp.loads, boxO, bslO, buildO, cutL, fillV, putL, w48, v48, hsz, hs1, decide_eq_true c1, w1, s1, e, ge_iff_le]
  · simp (maxSteps := 4000000) (disch := omega) only [ah, am, Nat.reduceEqDiff, reduceCtorEq, Nat.reduceAdd, Nat.reduceLeDiff, Nat.reduceMul, Nat.reduceLT, if_true, if_false, true_and, and_true, and_self, Nat.reduceBEq, QOp.loads, boxO, bslO, buildO, cutL, fillV, putL, w48, v48, hsz, hs1, decide_eq_false c1, ge_iff_le]
    rw [decide_eq_false]
    intro q
    have : l = [] := List.eq_nil_of_length_eq_zero (by omega)
    rw [this] at q; cases q
theorem HasSuffix_ok (h : Heap) (l : List UInt8) (c : UInt8) (hl : l.length ≤ 1000000) : ACall Tryz.prog 22 [.string (bL l), .string (bL [c])] h fun r h' => h' = h ∧ r = .bool (decide (l.getLast? = some c)) := by
  refine ACall.of Tryz.func22 s22 (of_decide_eq_true rfl) ?_
  simp (maxSteps := 4000000) (disch := omega) only [ah, am, Nat.reduceEqDiff, reduceCtorEq, Nat.reduceAdd, Nat.reduceLeDiff, Nat.reduceMul, Nat.reduceLT, if_true, if_false, true_and, and_true, and_self, Nat.reduceBEq, QOp.loads, boxO, bslO, buildO, cutL, fillV, putL, w22, v22]
  refine stepC.of (slHasSuffix_ok h l c hl) ?_
  rintro _ Hx ⟨hx, rfl⟩; rw [hx]; clear hx Hx
  simp (maxSteps := 4000000) (disch := omega) only [ah, am, Nat.reduceEqDiff, reduceCtorEq, Nat.reduceAdd, Nat.reduceLeDiff, Nat.reduceMul, Nat.reduceLT, if_true, if_false, true_and, and_true, and_self, Nat.reduceBEq, QOp.loads, boxO, bslO, buildO, cutL, fillV, putL, w22, v22]
/-! ### Words that are read -/
theorem words_rules {K : Heap} {wv : Value} {W : List (List UInt8)} (s : SlT K encS 1 wv (W.map bL)) :
    lenV wv = some (.int .i64 (W.length : Int)) ∧ ∀ (k : IntKind) (j : Nat), j < W.length → iaV 1 wv (.int k (j : Int)) = some (ptrAt wv j) ∧ ldV K (ptrAt wv j) = some (.string (bL (W.getD j []))) := by
  obtain ⟨r1, r2, _, _, r5, _⟩ := s.rulesN
  refine ⟨by rw [r1, List.length_map], fun k j hj => ?_⟩
  have hj' : j < (W.map bL).length := by rw [List.length_map]; exact hj
  have a := r2 k j hj'
  have b := r5 j hj'
  rw [Nat.mul_one] at a b
  refine ⟨a, b.trans ?_⟩
  rw [List.getElem_map, List.getD, List.getElem?_eq_getElem hj]; rfl
theorem bL_map_of {ps : List ByteArray} {W : List (List UInt8)} (h : ps.map (·.data.toList) = W) : ps = W.map bL := by
  subst h
  rw [List.map_map]
  have : (bL ∘ fun x : ByteArray => x.data.toList) = id := funext fun s => bL_of s
  rw [this, List.map_id]
theorem wd_get {l : List UInt8} {i : Nat} : (spl l).getD i [] = wd l i := rfl
theorem wd_len (l : List UInt8) (i : Nat) : (wd l i).length ≤ l.length := by
  unfold wd
  rw [List.getD]
  cases h : (spl l)[i]? with
  | none => simp
  | some p => exact spl_piece l p (List.mem_of_getElem? h)
theorem words_bad_at {l : List UInt8} {i : Nat} (hi : i < (spl l).length) (h : wd l i = []) : lnWordsBad l :=
  .inl ⟨_, List.getElem_mem hi, by rw [← h]; unfold wd; rw [List.getD, List.getElem?_eq_getElem hi]; rfl⟩
theorem words_good {l : List UInt8} (h7 : (spl l).length = 7) (h : ∀ i, i < 7 → wd l i ≠ []) : ¬ lnWordsBad l := by
  rintro (⟨p, hp, e⟩ | q)
  · obtain ⟨i, hi, e2⟩ := List.getElem_of_mem hp
    refine h i (by omega) ?_
    unfold wd; rw [List.getD, List.getElem?_eq_getElem hi, e2, e]; rfl
  · exact q h7
theorem strB_neqL (a b : List UInt8) : strB .neq (bL a) (bL b) = some (.bool (!decide (a = b))) := strB_neq _ _
theorem put_res {K : Heap} {i : Nat} {a : Clip} (B : Bx K i (encClip a)) (c : Clip) :
    ∃ K', stV K 3 (.pointer (some ⟨i, 0, none⟩)) (.agg #[.int .i64 c.src, .int .i64 c.inn, .int .i64 c.len]) = some K' ∧ Bx K' i (encClip c) ∧ ExtG i K K' := by
  obtain ⟨K', e, B', G⟩ := B.put (o := 0) (n := 3) (y := .agg #[.int .i64 c.src, .int .i64 c.inn, .int .i64 c.len]) rfl (by simp [encClip]) rfl
  exact ⟨K', e, B', G⟩
end Go.Proofs.YtgmimgmdbpcecaaGreatDoor
end

section
namespace Go.Proofs.YtgmimgmdbpcecaaGreatDoor
open Go Go.Ah
set_option linter.unusedSimpArgs false
set_option linter.unusedVariables false
set_option maxRecDepth 10000
set_option maxHeartbeats 4000000
/-! 20 loop.example/g00066/spec.l6Line: parameters 5, live [0, 1, 2, 3, 4], slots [0:r, 1:line, 2:no, 3:track, 4:at, 5:r, 6:line, 7:no, 8:track, 9:at, 12:w, 13:none, 14:i, 15:src, 16:n, 17:is, 18:t, 19:i, 20:n, 21:is, 22:k, 23:all] -/
def c20_0 : List SOper := [⟨some 5, .a (.box (.t 0)), none⟩, ⟨some 10, .a (.new [(.int .i64 0), (.int .i64 0), (.int .i64 0)]), none⟩, ⟨some 11, .q (.mv (.c (.int .i64 0))), none⟩]
def c20_1 : List SOper := [⟨some 24, .q (.mv (.t 1)), none⟩, ⟨some 25, .e (.call 41 [(.t 24)]), none⟩, ⟨some 12, .q (.mv (.t 25)), none⟩]
def c20_2 : List SOper := [⟨some 26, .q (.build [(.int .i64 0), (.int .i64 0), (.int .i64 0)] []), none⟩, ⟨some 13, .a (.new [(.int .i64 0), (.int .i64 0), (.int .i64 0)]), none⟩, ⟨none, .e (.st 3 (.t 13) (.t 26)), none⟩]
def c20_3 : List SOper := [⟨some 27, .q (.mv (.t 12)), none⟩, ⟨some 28, .q (.len (.t 27)), none⟩, ⟨some 29, .q (.bin .neq (.t 28) (.c (.int .i64 7))), none⟩]
def c20_4 : List SOper := [⟨some 30, .q (.ldn 3 (.t 13)), none⟩, ⟨none, .e (.st 3 (.t 10) (.t 30)), none⟩, ⟨some 11, .q (.mv (.c (.int .i64 4))), none⟩]
def c20_5 : SCode := .seq (.region c20_4 [10, 11]) .ret
def c20_6 : SCode := .cond (.t 29) c20_5 .skip
def c20_7 : SCode := .seq (.region c20_3 [2, 3, 4, 5, 10, 12, 13, 29]) c20_6
def c20_8 : List SOper := [⟨some 14, .q (.mv (.c (.int .i64 0))), none⟩]
def c20_9 : List SOper := [⟨some 31, .q (.mv (.t 14)), none⟩, ⟨some 32, .q (.bin .lss (.t 31) (.c (.int .i64 7))), none⟩]
def c20_10 : SCode := .cond (.t 32) .skip (.exit 0)
def c20_11 : SCode := .seq (.region c20_9 [2, 3, 4, 5, 10, 12, 13, 14, 32]) c20_10
def c20_12 : List SOper := [⟨some 35, .q (.mv (.t 12)), none⟩, ⟨some 36, .q (.mv (.t 14)), none⟩, ⟨some 37, .q (.ia 1 (.t 35) (.t 36)), none⟩, ⟨some 38, .q (.ld (.t 37)), none⟩, ⟨some 39, .q (.bin .eql (.t 38) (.c (.string ⟨#[]⟩))), none⟩]
def c20_13 : List SOper := [⟨some 40, .q (.ldn 3 (.t 13)), none⟩, ⟨none, .e (.st 3 (.t 10) (.t 40)), none⟩, ⟨some 11, .q (.mv (.c (.int .i64 4))), none⟩]
def c20_14 : SCode := .seq (.region c20_13 [10, 11]) .ret
def c20_15 : SCode := .cond (.t 39) c20_14 .skip
def c20_16 : SCode := .seq (.region c20_12 [2, 3, 4, 5, 10, 12, 13, 14, 39]) c20_15
def c20_17 : SCode := .block 1 c20_16
def c20_18 : List SOper := [⟨some 33, .q (.mv (.t 14)), none⟩, ⟨some 34, .q (.bin .add (.t 33) (.c (.int .i64 1))), none⟩, ⟨some 14, .q (.mv (.t 34)), none⟩]
def c20_19 : SCode := .seq c20_17 (.region c20_18 [2, 3, 4, 5, 10, 12, 13, 14])
def c20_20 : SCode := .seq c20_11 c20_19
def c20_21 : SCode := .loop c20_20
def c20_22 : SCode := .block 0 c20_21
def c20_23 : SCode := .seq (.region c20_8 [2, 3, 4, 5, 10, 12, 13, 14]) c20_22
def c20_24 : List DOper := [⟨0, ⟨some 41, .q (.mv (.t 12)), none⟩, [], []⟩, ⟨1, ⟨some 42, .q (.ia 1 (.t 41) (.c (.int .i64 0))), none⟩, [], []⟩, ⟨2, ⟨some 43, .q (.ld (.t 42)), none⟩, [], []⟩, ⟨3, ⟨some 44, .q (.mv (.t 2)), none⟩, [], []⟩, ⟨4, ⟨some 45, .e (.call 37 [(.t 44)]), none⟩, [], [2]⟩, ⟨5, ⟨some 46, .q (.bin .neq (.t 43) (.t 45)), none⟩, [], []⟩]
def c20_25 : List SOper := [⟨some 47, .q (.ldn 3 (.t 13)), none⟩, ⟨none, .e (.st 3 (.t 10) (.t 47)), none⟩, ⟨some 11, .q (.mv (.c (.int .i64 5))), none⟩]
def c20_26 : SCode := .seq (.region c20_25 [10, 11]) .ret
def c20_27 : SCode := .cond (.t 46) c20_26 .skip
def c20_28 : SCode := .seq (.dregion c20_24 [3, 4, 5, 10, 12, 13, 46]) c20_27
def c20_29 : List SOper := [⟨some 15, .q (.mv (.c (.int .i64 0))), none⟩]
def c20_30 : List SOper := [⟨some 48, .q (.mv (.t 12)), none⟩, ⟨some 49, .q (.ia 1 (.t 48) (.c (.int .i64 1))), none⟩, ⟨some 50, .q (.ld (.t 49)), none⟩, ⟨some 51, .q (.bin .neq (.t 50) (.c (.string ⟨#[66, 76]⟩))), none⟩]
def c20_31 : List SOper := [⟨some 53, .q (.mv (.t 12)), none⟩, ⟨some 54, .q (.ia 1 (.t 53) (.c (.int .i64 1))), none⟩, ⟨some 55, .q (.ld (.t 54)), none⟩, ⟨some 56, .q (.sls (.t 55) (some (.c (.int .i64 1))) none), none⟩, ⟨some 57, .e (.call 42 [(.t 56)]), none⟩, ⟨some 52, .q (.mv (.t 57)), none⟩, ⟨some 58, .q (.ext (.t 52) 0), none⟩, ⟨some 59, .q (.ext (.t 52) 1), none⟩, ⟨some 16, .q (.mv (.t 58)), none⟩, ⟨some 17, .q (.mv (.t 59)), none⟩]
def c20_32 : List SOper := [⟨some 60, .q (.mv (.t 12)), none⟩, ⟨some 61, .q (.ia 1 (.t 60) (.c (.int .i64 1))), none⟩, ⟨some 62, .q (.ld (.t 61)), none⟩, ⟨some 63, .q (.ivs (.t 62) (.c (.int .i64 0))), none⟩, ⟨some 64, .q (.bin .neq (.t 63) (.c (.int .u8 82))), none⟩, ⟨some 65, .q (.mv (.t 64)), none⟩, ⟨some 66, .q (.mv (.t 17)), some (65, false)⟩, ⟨some 67, .q (.not (.t 66)), some (65, false)⟩, ⟨some 68, .q (.pick (.t 65) (.c (.bool true)) (.t 67)), none⟩, ⟨some 69, .q (.mv (.t 68)), none⟩, ⟨some 70, .q (.mv (.t 16)), some (69, false)⟩, ⟨some 71, .e (.call 43 [(.t 70)]), some (69, false)⟩, ⟨some 72, .q (.not (.t 71)), some (69, false)⟩, ⟨some 73, .q (.pick (.t 69) (.c (.bool true)) (.t 72)), none⟩]
def c20_33 : List SOper := [⟨some 74, .q (.ldn 3 (.t 13)), none⟩, ⟨none, .e (.st 3 (.t 10) (.t 74)), none⟩, ⟨some 11, .q (.mv (.c (.int .i64 6))), none⟩]
def c20_34 : SCode := .seq (.region c20_33 [10, 11]) .ret
def c20_35 : SCode := .cond (.t 73) c20_34 .skip
def c20_36 : SCode := .seq (.region c20_32 [3, 4, 5, 10, 12, 13, 16, 73]) c20_35
def c20_37 : List SOper := [⟨some 75, .q (.mv (.t 16)), none⟩, ⟨some 15, .q (.mv (.t 75)), none⟩]
def c20_38 : SCode := .seq c20_36 (.region c20_37 [3, 4, 5, 10, 12, 13, 15])
def c20_39 : SCode := .seq (.region c20_31 [3, 4, 5, 10, 12, 13, 16, 17]) c20_38
def c20_40 : SCode := .cond (.t 51) c20_39 .skip
def c20_41 : SCode := .seq (.region c20_30 [3, 4, 5, 10, 12, 13, 15, 51]) c20_40
def c20_42 : List SOper := [⟨some 76, .q (.mv (.t 12)), none⟩, ⟨some 77, .q (.ia 1 (.t 76) (.c (.int .i64 2))), none⟩, ⟨some 78, .q (.ld (.t 77)), none⟩, ⟨some 79, .q (.bin .neq (.t 78) (.c (.string ⟨#[67]⟩))), none⟩]
def c20_43 : List SOper := [⟨some 80, .q (.ldn 3 (.t 13)), none⟩, ⟨none, .e (.st 3 (.t 10) (.t 80)), none⟩, ⟨some 11, .q (.mv (.c (.int .i64 6))), none⟩]
def c20_44 : SCode := .seq (.region c20_43 [10, 11]) .ret
def c20_45 : SCode := .cond (.t 79) c20_44 .skip
def c20_46 : SCode := .seq (.region c20_42 [3, 4, 5, 10, 12, 13, 15, 79]) c20_45
def c20_47 : List SOper := [⟨some 81, .a (.bsl 0 1 [] []), none⟩, ⟨some 18, .q (.mv (.t 81)), none⟩]
def c20_48 : List SOper := [⟨some 19, .q (.mv (.c (.int .i64 3))), none⟩]
def c20_49 : List SOper := [⟨some 82, .q (.mv (.t 19)), none⟩, ⟨some 83, .q (.bin .lss (.t 82) (.c (.int .i64 7))), none⟩]
def c20_50 : SCode := .cond (.t 83) .skip (.exit 2)
def c20_51 : SCode := .seq (.region c20_49 [3, 4, 5, 10, 12, 13, 15, 18, 19, 83]) c20_50
def c20_52 : List SOper := [⟨some 87, .q (.ldn 3 (.t 5)), none⟩, ⟨some 88, .q (.mv (.t 12)), none⟩, ⟨some 89, .q (.mv (.t 19)), none⟩, ⟨some 90, .q (.ia 1 (.t 88) (.t 89)), none⟩, ⟨some 91, .q (.ld (.t 90)), none⟩, ⟨some 92, .e (.call 44 [(.t 87), (.t 91)]), none⟩, ⟨some 86, .q (.mv (.t 92)), none⟩, ⟨some 93, .q (.ext (.t 86) 0), none⟩, ⟨some 94, .q (.ext (.t 86) 1), none⟩, ⟨some 20, .q (.mv (.t 93)), none⟩, ⟨some 21, .q (.mv (.t 94)), none⟩]
def c20_53 : List SOper := [⟨some 95, .q (.mv (.t 21)), none⟩, ⟨some 96, .q (.not (.t 95)), none⟩]
def c20_54 : List SOper := [⟨some 97, .q (.ldn 3 (.t 13)), none⟩, ⟨none, .e (.st 3 (.t 10) (.t 97)), none⟩, ⟨some 11, .q (.mv (.c (.int .i64 7))), none⟩]
def c20_55 : SCode := .seq (.region c20_54 [10, 11]) .ret
def c20_56 : SCode := .cond (.t 96) c20_55 .skip
def c20_57 : SCode := .seq (.region c20_53 [3, 4, 5, 10, 12, 13, 15, 18, 19, 20, 96]) c20_56
def c20_58 : List SOper := [⟨some 98, .q (.mv (.t 18)), none⟩, ⟨some 99, .q (.mv (.t 20)), none⟩, ⟨some 100, .a (.bsl 1 1 [(.int .i64 0)] [(0, 1, (.t 99))]), none⟩, ⟨some 101, .e (.app 8 1 (.t 98) (.t 100)), none⟩, ⟨some 18, .q (.mv (.t 101)), none⟩]
def c20_59 : SCode := .seq c20_57 (.region c20_58 [3, 4, 5, 10, 12, 13, 15, 18, 19])
def c20_60 : SCode := .seq (.region c20_52 [3, 4, 5, 10, 12, 13, 15, 18, 19, 20, 21]) c20_59
def c20_61 : SCode := .block 3 c20_60
def c20_62 : List SOper := [⟨some 84, .q (.mv (.t 19)), none⟩, ⟨some 85, .q (.bin .add (.t 84) (.c (.int .i64 1))), none⟩, ⟨some 19, .q (.mv (.t 85)), none⟩]
def c20_63 : SCode := .seq c20_61 (.region c20_62 [3, 4, 5, 10, 12, 13, 15, 18, 19])
def c20_64 : SCode := .seq c20_51 c20_63
def c20_65 : SCode := .loop c20_64
def c20_66 : SCode := .block 2 c20_65
def c20_67 : SCode := .seq (.region c20_48 [3, 4, 5, 10, 12, 13, 15, 18, 19]) c20_66
def c20_68 : List SOper := [⟨some 102, .q (.mv (.t 15)), none⟩, ⟨some 103, .q (.mv (.t 18)), none⟩, ⟨some 104, .q (.ia 1 (.t 103) (.c (.int .i64 0))), none⟩, ⟨some 105, .q (.ld (.t 104)), none⟩, ⟨some 106, .q (.mv (.t 18)), none⟩, ⟨some 107, .q (.ia 1 (.t 106) (.c (.int .i64 1))), none⟩, ⟨some 108, .q (.ld (.t 107)), none⟩, ⟨some 109, .q (.mv (.t 18)), none⟩, ⟨some 110, .q (.ia 1 (.t 109) (.c (.int .i64 0))), none⟩, ⟨some 111, .q (.ld (.t 110)), none⟩, ⟨some 112, .q (.bin .sub (.t 108) (.t 111)), none⟩, ⟨some 113, .q (.build [(.int .i64 0), (.int .i64 0), (.int .i64 0)] [(0, 1, (.t 102)), (1, 1, (.t 105)), (2, 1, (.t 112))]), none⟩, ⟨some 22, .a (.new [(.int .i64 0), (.int .i64 0), (.int .i64 0)]), none⟩, ⟨none, .e (.st 3 (.t 22) (.t 113)), none⟩]
def c20_69 : List SOper := [⟨some 114, .q (.ldn 3 (.t 22)), none⟩, ⟨some 115, .e (.call 45 [(.t 114)]), none⟩, ⟨some 116, .q (.not (.t 115)), none⟩]
def c20_70 : List SOper := [⟨some 117, .q (.ldn 3 (.t 13)), none⟩, ⟨none, .e (.st 3 (.t 10) (.t 117)), none⟩, ⟨some 11, .q (.mv (.c (.int .i64 8))), none⟩]
def c20_71 : SCode := .seq (.region c20_70 [10, 11]) .ret
def c20_72 : SCode := .cond (.t 116) c20_71 .skip
def c20_73 : SCode := .seq (.region c20_69 [3, 4, 10, 13, 18, 22, 116]) c20_72
def c20_74 : List SOper := [⟨some 118, .q (.mv (.t 18)), none⟩, ⟨some 119, .q (.ia 1 (.t 118) (.c (.int .i64 2))), none⟩, ⟨some 120, .q (.ld (.t 119)), none⟩, ⟨some 121, .q (.mv (.t 4)), none⟩, ⟨some 122, .q (.bin .neq (.t 120) (.t 121)), none⟩, ⟨some 123, .q (.mv (.t 122)), none⟩, ⟨some 124, .q (.mv (.t 18)), some (123, false)⟩, ⟨some 125, .q (.ia 1 (.t 124) (.c (.int .i64 3))), some (123, false)⟩, ⟨some 126, .q (.ld (.t 125)), some (123, false)⟩, ⟨some 127, .q (.mv (.t 4)), some (123, false)⟩, ⟨some 128, .q (.fa 2 (.t 22)), some (123, false)⟩, ⟨some 129, .q (.ld (.t 128)), some (123, false)⟩, ⟨some 130, .q (.bin .add (.t 127) (.t 129)), some (123, false)⟩, ⟨some 131, .q (.bin .neq (.t 126) (.t 130)), some (123, false)⟩, ⟨some 132, .q (.pick (.t 123) (.c (.bool true)) (.t 131)), none⟩]
def c20_75 : List SOper := [⟨some 133, .q (.ldn 3 (.t 13)), none⟩, ⟨none, .e (.st 3 (.t 10) (.t 133)), none⟩, ⟨some 11, .q (.mv (.c (.int .i64 9))), none⟩]
def c20_76 : SCode := .seq (.region c20_75 [10, 11]) .ret
def c20_77 : SCode := .cond (.t 132) c20_76 .skip
def c20_78 : SCode := .seq (.region c20_74 [3, 10, 13, 22, 132]) c20_77
def c20_79 : List DOper := [⟨0, ⟨some 134, .a (.bsl 0 3 [] []), none⟩, [], []⟩, ⟨1, ⟨some 135, .q (.mv (.t 3)), none⟩, [], []⟩, ⟨3, ⟨some 137, .q (.ldn 3 (.t 22)), none⟩, [], []⟩, ⟨4, ⟨some 138, .a (.bsl 1 3 [(.int .i64 0), (.int .i64 0), (.int .i64 0)] [(0, 3, (.t 137))]), none⟩, [], []⟩, ⟨2, ⟨some 136, .e (.app 24 3 (.t 134) (.t 135)), none⟩, [], [3]⟩, ⟨5, ⟨some 139, .e (.app 24 3 (.t 136) (.t 138)), none⟩, [], []⟩, ⟨6, ⟨some 23, .q (.mv (.t 139)), none⟩, [], []⟩]
def c20_80 : List SOper := [⟨some 140, .q (.mv (.t 23)), none⟩, ⟨some 141, .e (.call 34 [(.t 140)]), none⟩, ⟨some 142, .q (.len (.t 141)), none⟩, ⟨some 143, .q (.mv (.t 23)), none⟩, ⟨some 144, .q (.len (.t 143)), none⟩, ⟨some 145, .q (.bin .neq (.t 142) (.t 144)), none⟩, ⟨some 146, .q (.mv (.t 145)), none⟩, ⟨some 147, .q (.mv (.t 23)), some (146, false)⟩, ⟨some 148, .e (.call 33 [(.t 147)]), some (146, false)⟩, ⟨some 149, .q (.not (.t 148)), some (146, false)⟩, ⟨some 150, .q (.pick (.t 146) (.c (.bool true)) (.t 149)), none⟩]
def c20_81 : List SOper := [⟨some 151, .q (.ldn 3 (.t 13)), none⟩, ⟨none, .e (.st 3 (.t 10) (.t 151)), none⟩, ⟨some 11, .q (.mv (.c (.int .i64 10))), none⟩]
def c20_82 : SCode := .seq (.region c20_81 [10, 11]) .ret
def c20_83 : SCode := .cond (.t 150) c20_82 .skip
def c20_84 : SCode := .seq (.region c20_80 [10, 13, 22, 150]) c20_83
def c20_85 : List SOper := [⟨some 152, .q (.ldn 3 (.t 22)), none⟩, ⟨none, .e (.st 3 (.t 10) (.t 152)), none⟩, ⟨some 11, .q (.mv (.c (.int .i64 0))), none⟩]
def c20_86 : SCode := .seq (.region c20_85 [10, 11]) .ret
def c20_87 : SCode := .seq c20_84 c20_86
def c20_88 : SCode := .seq (.dregion c20_79 [10, 13, 22, 23]) c20_87
def c20_89 : SCode := .seq c20_78 c20_88
def c20_90 : SCode := .seq c20_73 c20_89
def c20_91 : SCode := .seq (.region c20_68 [3, 4, 10, 13, 18, 22]) c20_90
def c20_92 : SCode := .seq c20_67 c20_91
def c20_93 : SCode := .seq (.region c20_47 [3, 4, 5, 10, 12, 13, 15, 18]) c20_92
def c20_94 : SCode := .seq c20_46 c20_93
def c20_95 : SCode := .seq c20_41 c20_94
def c20_96 : SCode := .seq (.region c20_29 [3, 4, 5, 10, 12, 13, 15]) c20_95
def c20_97 : SCode := .seq c20_28 c20_96
def c20_98 : SCode := .seq c20_23 c20_97
def c20_99 : SCode := .seq c20_7 c20_98
def c20_100 : SCode := .seq (.region c20_2 [2, 3, 4, 5, 10, 12, 13]) c20_99
def c20_101 : SCode := .seq (.region c20_1 [2, 3, 4, 5, 10, 12]) c20_100
def c20_102 : SCode := .seq (.region c20_0 [1, 2, 3, 4, 5, 10]) c20_101
def c20 : SCode := c20_102
theorem w20 : type_of% (And.intro (uR Tryz.prog c20_0.eq_1) (And.intro (uR Tryz.prog c20_1.eq_1) (And.intro (uR Tryz.prog c20_2.eq_1) (And.intro (uR Tryz.prog c20_3.eq_1) (And.intro (uR Tryz.prog c20_4.eq_1) (And.intro (uC Tryz.prog c20_5.eq_1) (And.intro (uC Tryz.prog c20_6.eq_1) (And.intro (uC Tryz.prog c20_7.eq_1) (And.intro (uR Tryz.prog c20_8.eq_1) (And.intro (uR Tryz.prog c20_9.eq_1) (And.intro (uC Tryz.prog c20_10.eq_1) (And.intro (uC Tryz.prog c20_11.eq_1) (And.intro (uR Tryz.prog c20_12.eq_1) (And.intro (uR Tryz.prog c20_13.eq_1) (And.intro (uC Tryz.prog c20_14.eq_1) (And.intro (uC Tryz.prog c20_15.eq_1) (And.intro (uC Tryz.prog c20_16.eq_1) (And.intro (uC Tryz.prog c20_17.eq_1) (And.intro (uR Tryz.prog c20_18.eq_1) (And.intro (uC Tryz.prog c20_19.eq_1) (And.intro (uC Tryz.prog c20_20.eq_1) (And.intro (uC Tryz.prog c20_21.eq_1) (And.intro (uC Tryz.prog c20_22.eq_1) (And.intro (uC Tryz.prog c20_23.eq_1) (And.intro (uD Tryz.prog c20_24.eq_1) (And.intro (uR Tryz.prog c20_25.eq_1) (And.intro (uC Tryz.prog c20_26.eq_1) (And.intro (uC Tryz.prog c20_27.eq_1) (And.intro (uC Tryz.prog c20_28.eq_1) (And.intro (uR Tryz.prog c20_29.eq_1) (And.intro (uR Tryz.prog c20_30.eq_1) (And.intro (uR Tryz.prog c20_31.eq_1) (And.intro (uR Tryz.prog c20_32.eq_1) (And.intro (uR Tryz.prog c20_33.eq_1) (And.intro (uC Tryz.prog c20_34.eq_1) (And.intro (uC Tryz.prog c20_35.eq_1) (And.intro (uC Tryz.prog c20_36.eq_1) (And.intro (uR Tryz.prog c20_37.eq_1) (And.intro (uC Tryz.prog c20_38.eq_1) (And.intro (uC Tryz.prog c20_39.eq_1) (And.intro (uC Tryz.prog c20_40.eq_1) (And.intro (uC Tryz.prog c20_41.eq_1) (And.intro (uR Tryz.prog c20_42.eq_1) (And.intro (uR Tryz.prog c20_43.eq_1) (And.intro (uC Tryz.prog c20_44.eq_1) (And.intro (uC Tryz.prog c20_45.eq_1) (And.intro (uC Tryz.prog c20_46.eq_1) (And.intro (uR Tryz.prog c20_47.eq_1) (And.intro (uR Tryz.prog c20_48.eq_1) (And.intro (uR Tryz.prog c20_49.eq_1) (And.intro (uC Tryz.prog c20_50.eq_1) (And.intro (uC Tryz.prog c20_51.eq_1) (And.intro (uR Tryz.prog c20_52.eq_1) (And.intro (uR Tryz.prog c20_53.eq_1) (And.intro (uR Tryz.prog c20_54.eq_1) (And.intro (uC Tryz.prog c20_55.eq_1) (And.intro (uC Tryz.prog c20_56.eq_1) (And.intro (uC Tryz.prog c20_57.eq_1) (And.intro (uR Tryz.prog c20_58.eq_1) (And.intro (uC Tryz.prog c20_59.eq_1) (And.intro (uC Tryz.prog c20_60.eq_1) (And.intro (uC Tryz.prog c20_61.eq_1) (And.intro (uR Tryz.prog c20_62.eq_1) (And.intro (uC Tryz.prog c20_63.eq_1) (And.intro (uC Tryz.prog c20_64.eq_1) (And.intro (uC Tryz.prog c20_65.eq_1) (And.intro (uC Tryz.prog c20_66.eq_1) (And.intro (uC Tryz.prog c20_67.eq_1) (And.intro (uR Tryz.prog c20_68.eq_1) (And.intro (uR Tryz.prog c20_69.eq_1) (And.intro (uR Tryz.prog c20_70.eq_1) (And.intro (uC Tryz.prog c20_71.eq_1) (And.intro (uC Tryz.prog c20_72.eq_1) (And.intro (uC Tryz.prog c20_73.eq_1) (And.intro (uR Tryz.prog c20_74.eq_1) (And.intro (uR Tryz.prog c20_75.eq_1) (And.intro (uC Tryz.prog c20_76.eq_1) (And.intro (uC Tryz.prog c20_77.eq_1) (And.intro (uC Tryz.prog c20_78.eq_1) (And.intro (uD Tryz.prog c20_79.eq_1) (And.intro (uR Tryz.prog c20_80.eq_1) (And.intro (uR Tryz.prog c20_81.eq_1) (And.intro (uC Tryz.prog c20_82.eq_1) (And.intro (uC Tryz.prog c20_83.eq_1) (And.intro (uC Tryz.prog c20_84.eq_1) (And.intro (uR Tryz.prog c20_85.eq_1) (And.intro (uC Tryz.prog c20_86.eq_1) (And.intro (uC Tryz.prog c20_87.eq_1) (And.intro (uC Tryz.prog c20_88.eq_1) (And.intro (uC Tryz.prog c20_89.eq_1) (And.intro (uC Tryz.prog c20_90.eq_1) (And.intro (uC Tryz.prog c20_91.eq_1) (And.intro (uC Tryz.prog c20_92.eq_1) (And.intro (uC Tryz.prog c20_93.eq_1) (And.intro (uC Tryz.prog c20_94.eq_1) (And.intro (uC Tryz.prog c20_95.eq_1) (And.intro (uC Tryz.prog c20_96.eq_1) (And.intro (uC Tryz.prog c20_97.eq_1) (And.intro (uC Tryz.prog c20_98.eq_1) (And.intro (uC Tryz.prog c20_99.eq_1) (And.intro (uC Tryz.prog c20_100.eq_1) (And.intro (uC Tryz.prog c20_101.eq_1) (And.intro (uC Tryz.prog c20_102.eq_1) (uC Tryz.prog c20.eq_1)))))))))))))))))))))))))))))))))))))))))))))))))))))))))))))))))))))))))))))))))))))))))))))))))))))))) := (And.intro (uR Tryz.prog c20_0.eq_1) (And.intro (uR Tryz.prog c20_1.eq_1) (And.intro (uR Tryz.prog c20_2.eq_1) (And.intro (uR Tryz.prog c20_3.eq_1) (And.intro (uR Tryz.prog c20_4.eq_1) (And.intro (uC Tryz.prog c20_5.eq_1) (And.intro (uC Tryz.prog c20_6.eq_1) (And.intro (uC Tryz.prog c20_7.eq_1) (And.intro (uR Tryz.prog c20_8.eq_1) (And.intro (uR Tryz.prog c20_9.eq_1) (And.intro (uC Tryz.prog c20_10.eq_1) (And.intro (uC Tryz.prog c20_11.eq_1) (And.intro (uR Tryz.prog c20_12.eq_1) (And.intro (uR Tryz.prog c20_13.eq_1) (And.intro (uC Tryz.prog c20_14.eq_1) (And.intro (uC Tryz.prog c20_15.eq_1) (And.intro (uC Tryz.prog c20_16.eq_1) (And.intro (uC Tryz.prog c20_17.eq_1) (And.intro (uR Tryz.prog c20_18.eq_1) (And.intro (uC Tryz.prog c20_19.eq_1) (And.intro (uC Tryz.prog c20_20.eq_1) (And.intro (uC Tryz.prog c20_21.eq_1) (And.intro (uC Tryz.prog c20_22.eq_1) (And.intro (uC Tryz.prog c20_23.eq_1) (And.intro (uD Tryz.prog c20_24.eq_1) (And.intro (uR Tryz.prog c20_25.eq_1) (And.intro (uC Tryz.prog c20_26.eq_1) (And.intro (uC Tryz.prog c20_27.eq_1) (And.intro (uC Tryz.prog c20_28.eq_1) (And.intro (uR Tryz.prog c20_29.eq_1) (And.intro (uR Tryz.prog c20_30.eq_1) (And.intro (uR Tryz.prog c20_31.eq_1) (And.intro (uR Tryz.prog c20_32.eq_1) (And.intro (uR Tryz.prog c20_33.eq_1) (And.intro (uC Tryz.prog c20_34.eq_1) (And.intro (uC Tryz.prog c20_35.eq_1) (And.intro (uC Tryz.prog c20_36.eq_1) (And.intro (uR Tryz.prog c20_37.eq_1) (And.intro (uC Tryz.prog c20_38.eq_1) (And.intro (uC Tryz.prog c20_39.eq_1) (And.intro (uC Tryz.prog c20_40.eq_1) (And.intro (uC Tryz.prog c20_41.eq_1) (And.intro (uR Tryz.prog c20_42.eq_1) (And.intro (uR Tryz.prog c20_43.eq_1) (And.intro (uC Tryz.prog c20_44.eq_1) (And.intro (uC Tryz.prog c20_45.eq_1) (And.intro (uC Tryz.prog c20_46.eq_1) (And.intro (uR Tryz.prog c20_47.eq_1) (And.intro (uR Tryz.prog c20_48.eq_1) (And.intro (uR Tryz.prog c20_49.eq_1) (And.intro (uC Tryz.prog c20_50.eq_1) (And.intro (uC Tryz.prog c20_51.eq_1) (And.intro (uR Tryz.prog c20_52.eq_1) (And.intro (uR Tryz.prog c20_53.eq_1) (And.intro (uR Tryz.prog c20_54.eq_1) (And.intro (uC Tryz.prog c20_55.eq_1) (And.intro (uC Tryz.prog c20_56.eq_1) (And.intro (uC Tryz.prog c20_57.eq_1) (And.intro (uR Tryz.prog c20_58.eq_1) (And.intro (uC Tryz.prog c20_59.eq_1) (And.intro (uC Tryz.prog c20_60.eq_1) (And.intro (uC Tryz.prog c20_61.eq_1) (And.intro (uR Tryz.prog c20_62.eq_1) (And.intro (uC Tryz.prog c20_63.eq_1) (And.intro (uC Tryz.prog c20_64.eq_1) (And.intro (uC Tryz.prog c20_65.eq_1) (And.intro (uC Tryz.prog c20_66.eq_1) (And.intro (uC Tryz.prog c20_67.eq_1) (And.intro (uR Tryz.prog c20_68.eq_1) (And.intro (uR Tryz.prog c20_69.eq_1) (And.intro (uR Tryz.prog c20_70.eq_1) (And.intro (uC Tryz.prog c20_71.eq_1) (And.intro (uC Tryz.prog c20_72.eq_1) (And.intro (uC Tryz.prog c20_73.eq_1) (And.intro (uR Tryz.prog c20_74.eq_1) (And.intro (uR Tryz.prog c20_75.eq_1) (And.intro (uC Tryz.prog c20_76.eq_1) (And.intro (uC Tryz.prog c20_77.eq_1) (And.intro (uC Tryz.prog c20_78.eq_1) (And.intro (uD Tryz.prog c20_79.eq_1) (And.intro (uR Tryz.prog c20_80.eq_1) (And.intro (uR Tryz.prog c20_81.eq_1) (And.intro (uC Tryz.prog c20_82.eq_1) (And.intro (uC Tryz.prog c20_83.eq_1) (And.intro (uC Tryz.prog c20_84.eq_1) (And.intro (uR Tryz.prog c20_85.eq_1) (And.intro (uC Tryz.prog c20_86.eq_1) (And.intro (uC Tryz.prog c20_87.eq_1) (And.intro (uC Tryz.prog c20_88.eq_1) (And.intro (uC Tryz.prog c20_89.eq_1) (And.intro (uC Tryz.prog c20_90.eq_1) (And.intro (uC Tryz.prog c20_91.eq_1) (And.intro (uC Tryz.prog c20_92.eq_1) (And.intro (uC Tryz.prog c20_93.eq_1) (And.intro (uC Tryz.prog c20_94.eq_1) (And.intro (uC Tryz.prog c20_95.eq_1) (And.intro (uC Tryz.prog c20_96.eq_1) (And.intro (uC Tryz.prog c20_97.eq_1) (And.intro (uC Tryz.prog c20_98.eq_1) (And.intro (uC Tryz.prog c20_99.eq_1) (And.intro (uC Tryz.prog c20_100.eq_1) (And.intro (uC Tryz.prog c20_101.eq_1) (And.intro (uC Tryz.prog c20_102.eq_1) (uC Tryz.prog c20.eq_1))))))))))))))))))))))))))))))))))))))))))))))))))))))))))))))))))))))))))))))))))))))))))))))))))))))))
def v20 : List RV := [.c 10 (some 3), .t 11]
theorem s20 : slimF Tryz.prog Tryz.f20 = some (c20.bare, v20) := by kernel_rfl

/-- A way that joins the other, or leaves. -/
theorem SW_ifQ {P : Program} {A : SCode} {Q : Go.Exit → Env → Heap → Prop} {E : Env} {h : Heap} {b : Bool} (S : Env → Heap → Prop)
    (h1 : b = true → SW P A (thenQ S Q) E h) (h2 : b = false → S E h) (h3 : ∀ E h, S E h → Q .normal E h) : stepI (some (.bool b)) (SW P A Q) (SW P .skip Q) E h := by
  refine stepI.splitB (fun hb => ?_) (fun hb => h3 _ _ (h2 hb))
  refine SW_mono A _ _ E h (fun e E h H => ?_) (h1 hb)
  cases e with
  | normal => exact h3 _ _ H
  | _ => exact H
theorem slt_box {α : Type} {enc : α → List Value} {sz : Nat} {K : Heap} {i : Nat} {x : α} (b : Bx K i (enc x)) (hs : ∀ x, (enc x).length = sz) (pos : 0 < sz) : SlT K enc sz (.slice (some ⟨i, 0, none⟩) 1 sz) [x] := by
  refine ⟨.inr (.inr ⟨i, 0, 1, _, rfl, b, rfl, by simp [hs], ?_⟩), hs, pos⟩
  simp only [List.drop_zero, List.flatMap_cons, List.flatMap_nil, List.append_nil, Nat.one_mul]
  rw [← hs x]; exact List.take_length
theorem range4 (f : Nat → Int) : (List.range 4).map f = [f 0, f 1, f 2, f 3] := rfl
theorem ints_rules {K : Heap} {w : Value} {L : List Int} (s : SlT K encI 1 w L) :
    ∀ (k : IntKind) (j : Nat), j < L.length → iaV 1 w (.int k (j : Int)) = some (ptrAt w j) ∧ ldV K (ptrAt w j) = some (.int .i64 (L.getD j 0)) := by
  obtain ⟨r1, r2, _, _, r5, _⟩ := s.rulesN
  refine fun k j hj => ?_
  have a := r2 k j hj
  have b := r5 j hj
  rw [Nat.mul_one] at a b
  refine ⟨a, b.trans ?_⟩
  rw [List.getD, List.getElem?_eq_getElem hj]; rfl
theorem l6Line_ok (h : Heap) (r : Rate) (l : List UInt8) (v : Value) (t : List Clip) (s : SlT h encClip 3 v t) (kp : keeps t) (hl : l.length ≤ 1000000) :
    ACall Tryz.prog 20 [.agg (encRate r).toArray, .string (bL l), .int .i64 ((t.length + 1 : Nat) : Int), v, .int .i64 (sumLen t)] h
      fun x h' => Ext h h' ∧ ∃ c : Clip, x = .tuple #[.agg (encClip c).toArray, .int .i64 (lnCode r t l)] ∧ (lnCode r t l = 0 → c = lnClip r l) := by
  have hsz : (bL l).size = l.length := bL_size l
  have ht3 : t.length ≤ 300 := kp.1.1
  have hts := sumLen_bound kp.1.2.1
  have hts2 := kp.1.2.2
  have BR := Bx.new h (encRate r) [encClip zClip]
  have BC := Bx.new (h.more [encRate r]) (encClip zClip) []
  rw [more_more, size_more] at BC
  have eM := Ext.more h [encRate r, encClip zClip]
  simp only [encRate, encClip, zClip, List.cons_append, List.nil_append, List.length_cons, List.length_nil, Nat.zero_add] at BR BC eM
  refine ACall.of Tryz.func20 s20 (of_decide_eq_true rfl) ?_
  simp (maxSteps := 4000000) (disch := omega) only [ah, am, Nat.reduceEqDiff, reduceCtorEq, Nat.reduceAdd, Nat.reduceLeDiff, Nat.reduceMul, Nat.reduceLT, if_true, if_false, true_and, and_true, and_self, Nat.reduceBEq, QOp.loads, boxO, bslO, buildO, cutL, fillV, putL, w20, v20, encRate]
  obtain ⟨h1, hh1⟩ : ∃ h1, h1 = h.more [[Value.int IntKind.i64 r.num, Value.int IntKind.i64 r.den, Value.bool r.drop], [Value.int IntKind.i64 0, Value.int IntKind.i64 0, Value.int IntKind.i64 0]] := ⟨_, rfl⟩
  rw [← hh1] at BR BC eM ⊢
  obtain ⟨rb, hrb⟩ : ∃ q, q = h.size := ⟨_, rfl⟩
  obtain ⟨cb, hcb⟩ : ∃ q, q = h.size + 1 := ⟨_, rfl⟩
  have hge : h.size ≤ cb := by omega
  have hne : rb ≠ cb := by omega
  rw [← hcb] at BC ⊢
  rw [← hrb] at BR ⊢
  have s := s.ext eM
  clear hh1 hrb
  refine stepC.of (l6Words_ok h1 l hl) ?_
  rintro wv H1 F
  have sw := F.slt
  have E1 := eM.trans F.1
  have BR := BR.ext F.1
  have BC := BC.ext F.1
  have s := s.ext F.1
  clear F
  have RW := words_rules sw
  have BN := Bx.new H1 [.int .i64 0, .int .i64 0, .int .i64 0] []
  have eN := Ext.more H1 [[.int .i64 0, .int .i64 0, .int .i64 0]]
  obtain ⟨nb, hnb⟩ : ∃ q, q = H1.size := ⟨_, rfl⟩
  have hbc := Heap.get_lt BC
  have hbr := Heap.get_lt BR
  simp (maxSteps := 4000000) (disch := omega) only [ah, am, Nat.reduceEqDiff, reduceCtorEq, Nat.reduceAdd, Nat.reduceLeDiff, Nat.reduceMul, Nat.reduceLT, if_true, if_false, true_and, and_true, and_self, Nat.reduceBEq, QOp.loads, boxO, bslO, buildO, cutL, fillV, putL, w20, v20, RW.1]
  obtain ⟨H2, hH2⟩ : ∃ H2, H2 = H1.more [[.int .i64 0, .int .i64 0, .int .i64 0]] := ⟨_, rfl⟩
  rw [← hH2] at BN eN ⊢
  rw [← hnb] at BN ⊢
  have hnc : nb ≠ cb := by omega
  have hnr : nb ≠ rb := by omega
  have E2 := E1.trans eN
  have BR := BR.ext eN
  have BC := BC.ext eN
  have sw := sw.ext eN
  have s := s.ext eN
  clear hH2 eN E1 RW
  have hne0 : h.size ≤ H2.size := E2.1
  -- a line that is refused: the heap behind its end
  have bad : ∀ (K : Heap) (e : Ext H2 K) (n : Int), lnCode r t l = n → n ≠ 0 → ∃ K', stV K 3 (.pointer (some ⟨cb, 0, none⟩)) (.agg #[.int .i64 0, .int .i64 0, .int .i64 0]) = some K' ∧
      (∀ o m, ldnV K' m (.pointer (some ⟨cb, o, none⟩)) = cutL [.int .i64 0, .int .i64 0, .int .i64 0] o m) ∧
      (∀ o m, ldnV K m (.pointer (some ⟨nb, o, none⟩)) = cutL [.int .i64 0, .int .i64 0, .int .i64 0] o m) ∧
      (Ext h K' ∧ ∃ c : Clip, (.tuple #[.agg #[.int .i64 0, .int .i64 0, .int .i64 0], .int .i64 n] : Value) = .tuple #[.agg (encClip c).toArray, .int .i64 (lnCode r t l)] ∧ (lnCode r t l = 0 → c = lnClip r l)) := by
    intro K e n hn h0
    obtain ⟨K', e1, B', G⟩ := put_res (a := zClip) (BC.ext e) zClip
    exact ⟨K', e1, B'.ld.2, (BN.ext e).ld.2, (G.ext (E2.trans e) hge), zClip, by rw [hn]; rfl, fun q => absurd (hn.symm.trans q) h0⟩
  have RW := words_rules sw
  by_cases n7 : (spl l).length = 7
  rotate_left
  · have n7' : decide (((spl l).length : Int) = 7) = false := decide_eq_false (by omega)
    obtain ⟨K', e1, e2, e3, fin⟩ := bad H2 (Ext.refl _) 4 (lnCode_words (.inr n7)) (by omega)
    simp (maxSteps := 4000000) (disch := omega) only [ah, am, Nat.reduceEqDiff, reduceCtorEq, Nat.reduceAdd, Nat.reduceLeDiff, Nat.reduceMul, Nat.reduceLT, if_true, if_false, true_and, and_true, and_self, Nat.reduceBEq, QOp.loads, boxO, bslO, buildO, cutL, fillV, putL, w20, v20, RW.1, n7', e1, e2, e3]
    exact fin
  have n7' : decide (((spl l).length : Int) = 7) = true := decide_eq_true (by omega)
  simp (maxSteps := 4000000) (disch := omega) only [ah, am, Nat.reduceEqDiff, reduceCtorEq, Nat.reduceAdd, Nat.reduceLeDiff, Nat.reduceMul, Nat.reduceLT, if_true, if_false, true_and, and_true, and_self, Nat.reduceBEq, QOp.loads, boxO, bslO, buildO, cutL, fillV, putL, w20, v20, RW.1, n7']
  refine SW_loop_up (fun i E K => K = H2 ∧ (∀ j, j < i → wd l j ≠ []) ∧ E = [(2, .int .i64 ((t.length + 1 : Nat) : Int)), (3, v), (4, .int .i64 (sumLen t)), (5, .pointer (some ⟨rb, 0, none⟩)), (10, .pointer (some ⟨cb, 0, none⟩)), (12, wv), (13, .pointer (some ⟨nb, 0, none⟩)), (14, .int .i64 (i : Int))]) 7 0 (by omega) ⟨rfl, fun j hj => by omega, rfl⟩ ?_
  rintro i E K hi ⟨hK, A, rfl⟩
  rw [hK]; clear hK K
  have wi : IntKind.i64.wrap ((i : Int) + 1) = ((i + 1 : Nat) : Int) := i64e (by omega) (by omega)
  simp (maxSteps := 4000000) (disch := omega) only [ah, am, Nat.reduceEqDiff, reduceCtorEq, Nat.reduceAdd, Nat.reduceLeDiff, Nat.reduceMul, Nat.reduceLT, if_true, if_false, true_and, and_true, and_self, Nat.reduceBEq, QOp.loads, boxO, bslO, buildO, cutL, fillV, putL, w20, v20]
  refine stepI.split (fun hq => ?_) (fun hq => ?_)
  · have hi7 : i < 7 := by omega
    obtain ⟨IA, LD⟩ := RW.2 .i64 i (by omega)
    rw [wd_get] at LD
    by_cases c0 : wd l i = []
    · obtain ⟨K', e1, e2, e3, fin⟩ := bad H2 (Ext.refl _) 4 (lnCode_words (words_bad_at (by omega) c0)) (by omega)
      simp (maxSteps := 4000000) (disch := omega) only [ah, am, Nat.reduceEqDiff, reduceCtorEq, Nat.reduceAdd, Nat.reduceLeDiff, Nat.reduceMul, Nat.reduceLT, if_true, if_false, true_and, and_true, and_self, Nat.reduceBEq, QOp.loads, boxO, bslO, buildO, cutL, fillV, putL, w20, v20, IA, LD, strB_nil, decide_eq_true c0, e1, e2, e3]
      exact fin
    · simp (maxSteps := 4000000) (disch := omega) only [ah, am, Nat.reduceEqDiff, reduceCtorEq, Nat.reduceAdd, Nat.reduceLeDiff, Nat.reduceMul, Nat.reduceLT, if_true, if_false, true_and, and_true, and_self, Nat.reduceBEq, QOp.loads, boxO, bslO, buildO, cutL, fillV, putL, w20, v20, IA, LD, strB_nil, decide_eq_false c0, wi]
      refine ⟨hi7, fun j hj => ?_⟩
      by_cases e : j = i
      · rw [e]; exact c0
      · exact A j (by omega)
  obtain rfl : i = 7 := by omega
  have hw : ¬ lnWordsBad l := words_good n7 A
  have W0 : ∀ K, Ext H2 K → ∀ j : Nat, j < 7 → iaV 1 wv (.int .i64 (j : Int)) = some (ptrAt wv j) ∧ ldV K (ptrAt wv j) = some (.string (bL (wd l j))) := fun K e j hj => (words_rules (sw.ext e)).2 .i64 j (by omega)
  have IA0 : iaV 1 wv (.int .i64 0) = _ := (W0 H2 (Ext.refl _) 0 (by omega)).1
  have LD0 := fun K e => (W0 K e 0 (by omega)).2
  simp (maxSteps := 4000000) (disch := omega) only [ah, am, Nat.reduceEqDiff, reduceCtorEq, Nat.reduceAdd, Nat.reduceLeDiff, Nat.reduceMul, Nat.reduceLT, if_true, if_false, true_and, and_true, and_self, Nat.reduceBEq, QOp.loads, boxO, bslO, buildO, cutL, fillV, putL, w20, v20, IA0, LD0 H2 (Ext.refl _)]
  refine stepC.of (l6Digits_ok H2 (t.length + 1) (by omega)) ?_
  rintro _ H3 ⟨e3, rfl⟩
  have IAk : ∀ j : Nat, j < 7 → iaV 1 wv (.int .i64 (j : Int)) = some (ptrAt wv j) := fun j hj => (W0 H2 (Ext.refl _) j hj).1
  have LDk : ∀ K, Ext H2 K → ∀ j : Nat, j < 7 → ldV K (ptrAt wv j) = some (.string (bL (wd l j))) := fun K e j hj => (W0 K e j hj).2
  have NB : strB .neq (bL (wd l 1)) ⟨#[66, 76]⟩ = some (.bool (decide (wd l 1 ≠ [66, 76]))) := (strB_neq _ _).trans (by rw [bL_data]; simp)
  have IA1 : iaV 1 wv (.int .i64 1) = _ := IAk 1 (by omega)
  have IA2 : iaV 1 wv (.int .i64 2) = _ := IAk 2 (by omega)
  have ln1 := wd_len l 1
  by_cases c1 : wd l 0 = padL 3 (digs (t.length + 1))
  rotate_left
  · obtain ⟨K', e1, e2, e4, fin⟩ := bad H3 e3 5 (lnCode_number hw c1) (by omega)
    simp (maxSteps := 4000000) (disch := omega) only [ah, am, Nat.reduceEqDiff, reduceCtorEq, Nat.reduceAdd, Nat.reduceLeDiff, Nat.reduceMul, Nat.reduceLT, if_true, if_false, true_and, and_true, and_self, Nat.reduceBEq, QOp.loads, boxO, bslO, buildO, cutL, fillV, putL, w20, v20, rechk_cons, rechk_end, chkV_some, chkV_false, LD0 H3 e3, strB_neqL, decide_eq_false c1, Bool.not_false, e1, e2, e4]
    exact fin
  simp (maxSteps := 4000000) (disch := omega) only [ah, am, Nat.reduceEqDiff, reduceCtorEq, Nat.reduceAdd, Nat.reduceLeDiff, Nat.reduceMul, Nat.reduceLT, if_true, if_false, true_and, and_true, and_self, Nat.reduceBEq, QOp.loads, boxO, bslO, buildO, cutL, fillV, putL, w20, v20, rechk_cons, rechk_end, chkV_some, chkV_false, LD0 H3 e3, strB_neqL, decide_eq_true c1, Bool.not_true, IA1, LDk H3 e3 1 (by omega), NB]
  have hn1 : wd l 1 ≠ [] := A 1 (by omega)
  refine SW_ifQ (fun E K => K = H3 ∧ srcOk (wd l 1) ∧ ∃ R, E = (3, v) :: (4, .int .i64 (sumLen t)) :: (5, .pointer (some ⟨rb, 0, none⟩)) :: (10, .pointer (some ⟨cb, 0, none⟩)) :: (12, wv) :: (13, .pointer (some ⟨nb, 0, none⟩)) :: (15, .int .i64 (srcV' (wd l 1))) :: R) (fun hb => ?_) (fun hb => ?_) ?_
  · have cB : wd l 1 ≠ [66, 76] := of_decide_eq_true hb
    clear hb
    have S1 : slsV (.string (bL (wd l 1))) (some (.int .i64 1)) none = _ := sls_a (wd l 1) .i64 1 (List.length_pos_iff.mpr hn1)
    have IV : ivsV (.string (bL (wd l 1))) (.int .i64 0) = some (.int .u8 ((wd l 1)[0]'(List.length_pos_iff.mpr hn1)).toNat) := ivs_bL (wd l 1) .i64 0 (List.length_pos_iff.mpr hn1)
    simp (maxSteps := 4000000) (disch := omega) only [ah, am, Nat.reduceEqDiff, reduceCtorEq, Nat.reduceAdd, Nat.reduceLeDiff, Nat.reduceMul, Nat.reduceLT, if_true, if_false, true_and, and_true, and_self, Nat.reduceBEq, QOp.loads, boxO, bslO, buildO, cutL, fillV, putL, w20, v20, IA1, LDk H3 e3 1 (by omega), S1]
    refine stepC.of (l6Number_ok H3 ((wd l 1).drop 1) (by simp; omega)) ?_
    rintro _ Hx ⟨hx, n, rfl, hn⟩; rw [hx]; clear hx Hx
    have h82 : (((wd l 1)[0]'(List.length_pos_iff.mpr hn1)).toNat : Int) = 82 ↔ hp 82 (wd l 1) := by
      generalize wd l 1 = w at hn1
      cases w with
      | nil => exact absurd rfl hn1
      | cons a w =>
        show (a.toNat : Int) = 82 ↔ [a] = [82]
        rw [List.cons.injEq]
        refine ⟨fun q => ⟨UInt8.toNat_inj.mp (by have : (82 : UInt8).toNat = 82 := rfl; omega), rfl⟩, fun q => by rw [q.1]; rfl⟩
    have no : ¬ (hp 82 (wd l 1) ∧ numOk ((wd l 1).drop 1) ∧ 1 ≤ numV ((wd l 1).drop 1) ∧ numV ((wd l 1).drop 1) ≤ 500) → ¬ srcOk (wd l 1) := fun q k => k.elim cB q
    by_cases c82 : (((wd l 1)[0]'(List.length_pos_iff.mpr hn1)).toNat : Int) = 82
    rotate_left
    · obtain ⟨K', e1, e2, e4, fin⟩ := bad H3 e3 6 (lnCode_source hw c1 (.inl (no fun q => c82 (h82.mpr q.1)))) (by omega)
      simp (maxSteps := 4000000) (disch := omega) only [ah, am, Nat.reduceEqDiff, reduceCtorEq, Nat.reduceAdd, Nat.reduceLeDiff, Nat.reduceMul, Nat.reduceLT, if_true, if_false, true_and, and_true, and_self, Nat.reduceBEq, QOp.loads, boxO, bslO, buildO, cutL, fillV, putL, w20, v20, IA1, LDk H3 e3 1 (by omega), IV, decide_eq_false c82, e1, e2, e4]
      exact fin
    by_cases cn : numOk ((wd l 1).drop 1)
    rotate_left
    · obtain ⟨K', e1, e2, e4, fin⟩ := bad H3 e3 6 (lnCode_source hw c1 (.inl (no fun q => cn q.2.1))) (by omega)
      simp (maxSteps := 4000000) (disch := omega) only [ah, am, Nat.reduceEqDiff, reduceCtorEq, Nat.reduceAdd, Nat.reduceLeDiff, Nat.reduceMul, Nat.reduceLT, if_true, if_false, true_and, and_true, and_self, Nat.reduceBEq, QOp.loads, boxO, bslO, buildO, cutL, fillV, putL, w20, v20, IA1, LDk H3 e3 1 (by omega), IV, decide_eq_true c82, decide_eq_false cn, e1, e2, e4]
      exact fin
    simp (maxSteps := 4000000) (disch := omega) only [ah, am, Nat.reduceEqDiff, reduceCtorEq, Nat.reduceAdd, Nat.reduceLeDiff, Nat.reduceMul, Nat.reduceLT, if_true, if_false, true_and, and_true, and_self, Nat.reduceBEq, QOp.loads, boxO, bslO, buildO, cutL, fillV, putL, w20, v20, IA1, LDk H3 e3 1 (by omega), IV, decide_eq_true c82, decide_eq_true cn]
    refine stepC.of (l4Src_ok H3 n) ?_
    rintro _ Hx ⟨hx, rfl⟩; rw [hx]; clear hx Hx
    have en := hn cn
    by_cases cr : 1 ≤ n ∧ n ≤ 500
    rotate_left
    · obtain ⟨K', e1, e2, e4, fin⟩ := bad H3 e3 6 (lnCode_source hw c1 (.inl (no fun q => cr (by rw [en]; exact q.2.2)))) (by omega)
      simp (maxSteps := 4000000) (disch := omega) only [ah, am, Nat.reduceEqDiff, reduceCtorEq, Nat.reduceAdd, Nat.reduceLeDiff, Nat.reduceMul, Nat.reduceLT, if_true, if_false, true_and, and_true, and_self, Nat.reduceBEq, QOp.loads, boxO, bslO, buildO, cutL, fillV, putL, w20, v20, decide_eq_false cr, e1, e2, e4]
      exact fin
    have hv : srcV' (wd l 1) = n := by rw [en]; exact if_neg cB
    simp (maxSteps := 4000000) (disch := omega) only [ah, am, Nat.reduceEqDiff, reduceCtorEq, Nat.reduceAdd, Nat.reduceLeDiff, Nat.reduceMul, Nat.reduceLT, if_true, if_false, true_and, and_true, and_self, Nat.reduceBEq, QOp.loads, boxO, bslO, buildO, cutL, fillV, putL, w20, v20, decide_eq_true cr]
    exact ⟨.inr ⟨h82.mp c82, cn, by rw [← en]; exact cr⟩, _, by rw [hv]⟩
  · have cB : wd l 1 = [66, 76] := Classical.byContradiction fun q => of_decide_eq_false hb q
    refine ⟨rfl, .inl cB, [(51, .bool (decide (wd l 1 ≠ [66, 76])))], ?_⟩
    rw [show srcV' (wd l 1) = 0 from if_pos cB]
  rintro E K ⟨hK, cS, R, rfl⟩
  rw [hK]; clear hK K
  have NC : strB .neq (bL (wd l 2)) ⟨#[67]⟩ = some (.bool (!decide (wd l 2 = [67]))) := strB_neq _ _
  by_cases cC : wd l 2 = [67]
  rotate_left
  · obtain ⟨K', e1, e2, e4, fin⟩ := bad H3 e3 6 (lnCode_source hw c1 (.inr cC)) (by omega)
    simp (maxSteps := 4000000) (disch := omega) only [ah, am, Nat.reduceEqDiff, reduceCtorEq, Nat.reduceAdd, Nat.reduceLeDiff, Nat.reduceMul, Nat.reduceLT, if_true, if_false, true_and, and_true, and_self, Nat.reduceBEq, QOp.loads, boxO, bslO, buildO, cutL, fillV, putL, w20, v20, IA2, LDk H3 e3 2 (by omega), NC, decide_eq_false cC, Bool.not_false, e1, e2, e4]
    exact fin
  have F0 := Fresh.new0 H3 encI_len (by omega)
  simp (maxSteps := 4000000) (disch := omega) only [ah, am, Nat.reduceEqDiff, reduceCtorEq, Nat.reduceAdd, Nat.reduceLeDiff, Nat.reduceMul, Nat.reduceLT, if_true, if_false, true_and, and_true, and_self, Nat.reduceBEq, QOp.loads, boxO, bslO, buildO, cutL, fillV, putL, w20, v20, IA2, LDk H3 e3 2 (by omega), NC, decide_eq_true cC, Bool.not_true]
  refine SW_loop_up (fun i E K => ∃ w, 3 ≤ i ∧ Fresh H3 K encI 1 w ((List.range (i - 3)).map fun j => frameI r (wd l (j + 3))) ∧ (∀ j, 3 ≤ j → j < i → timeOkL r (wd l j)) ∧
    E = [(3, v), (4, .int .i64 (sumLen t)), (5, .pointer (some ⟨rb, 0, none⟩)), (10, .pointer (some ⟨cb, 0, none⟩)), (12, wv), (13, .pointer (some ⟨nb, 0, none⟩)), (15, .int .i64 (srcV' (wd l 1))), (18, w), (19, .int .i64 (i : Int))]) 7 3 (by omega) ⟨_, by omega, F0, fun j h1 h2 => by omega, rfl⟩ ?_
  clear F0
  rintro i E K hi ⟨w, hi3, F, TO, rfl⟩
  have wi : IntKind.i64.wrap ((i : Int) + 1) = ((i + 1 : Nat) : Int) := i64e (by omega) (by omega)
  have eK := e3.trans F.1
  simp (maxSteps := 4000000) (disch := omega) only [ah, am, Nat.reduceEqDiff, reduceCtorEq, Nat.reduceAdd, Nat.reduceLeDiff, Nat.reduceMul, Nat.reduceLT, if_true, if_false, true_and, and_true, and_self, Nat.reduceBEq, QOp.loads, boxO, bslO, buildO, cutL, fillV, putL, w20, v20]
  refine stepI.split (fun hq => ?_) (fun hq => ?_)
  · have hi7 : i < 7 := by omega
    have lnI := wd_len l i
    have rd := specTimeRead_ok K r (wd l i) (by omega)
    simp only [encRate] at rd
    simp (maxSteps := 4000000) (disch := omega) only [ah, am, Nat.reduceEqDiff, reduceCtorEq, Nat.reduceAdd, Nat.reduceLeDiff, Nat.reduceMul, Nat.reduceLT, if_true, if_false, true_and, and_true, and_self, Nat.reduceBEq, QOp.loads, boxO, bslO, buildO, cutL, fillV, putL, w20, v20, IAk i hi7, LDk K eK i hi7, (BR.ext eK).ld]
    refine stepC.of rd ?_
    rintro _ K2 ⟨e4, rfl⟩
    by_cases ct : timeOkL r (wd l i)
    rotate_left
    · obtain ⟨K', e1, e2, e5, fin⟩ := bad K2 (eK.trans e4) 7 (lnCode_time hw c1 ⟨cS, cC⟩ (fun q => ct (by
        have : i = 3 ∨ i = 4 ∨ i = 5 ∨ i = 6 := by omega
        rcases this with rfl | rfl | rfl | rfl
        · exact q.1
        · exact q.2.1
        · exact q.2.2.1
        · exact q.2.2.2))) (by omega)
      rw [← timeRes_bad ct]
      simp (maxSteps := 4000000) (disch := omega) only [ah, am, Nat.reduceEqDiff, reduceCtorEq, Nat.reduceAdd, Nat.reduceLeDiff, Nat.reduceMul, Nat.reduceLT, if_true, if_false, true_and, and_true, and_self, Nat.reduceBEq, QOp.loads, boxO, bslO, buildO, cutL, fillV, putL, w20, v20, e1, e2, e5]
      exact fin
    rw [← timeRes_ok ct]
    obtain ⟨w2, K3, ap, F2⟩ := (F.ext e4).app1 (frameI r (wd l i)) (bytes := 8) (by simp; omega)
    simp only [encI] at ap
    simp (maxSteps := 4000000) (disch := omega) only [ah, am, Nat.reduceEqDiff, reduceCtorEq, Nat.reduceAdd, Nat.reduceLeDiff, Nat.reduceMul, Nat.reduceLT, if_true, if_false, true_and, and_true, and_self, Nat.reduceBEq, QOp.loads, boxO, bslO, buildO, cutL, fillV, putL, w20, v20, ap, wi]
    refine ⟨hi7, w2, by omega, ?_, fun j h1 h2 => ?_, rfl⟩
    · rw [show i + 1 - 3 = (i - 3) + 1 from by omega, List.range_succ, List.map_append]
      rw [List.map_cons, List.map_nil, show i - 3 + 3 = i from by omega]
      exact F2
    · by_cases e : j = i
      · rw [e]; exact ct
      · exact TO j h1 (by omega)
  obtain rfl : i = 7 := by omega
  have T3 := TO 3 (by omega) (by omega)
  have T4 := TO 4 (by omega) (by omega)
  have T5 := TO 5 (by omega) (by omega)
  have T6 := TO 6 (by omega) (by omega)
  have good : LnOk r t l := ⟨hw, c1, ⟨cS, cC⟩, T3, T4, T5, T6⟩
  rw [show 7 - 3 = 4 from rfl, range4] at F
  have sF := F.slt
  have eK := e3.trans F.1
  clear F TO
  have b3 := frameI_bd T3
  have b4 := frameI_bd T4
  have b5 := frameI_bd T5
  have b6 := frameI_bd T6
  have J0 : iaV 1 w (.int .i64 0) = some (ptrAt w 0) := (ints_rules sF .i64 0 (by simp)).1
  have J1 : iaV 1 w (.int .i64 1) = some (ptrAt w 1) := (ints_rules sF .i64 1 (by simp)).1
  have J2 : iaV 1 w (.int .i64 2) = some (ptrAt w 2) := (ints_rules sF .i64 2 (by simp)).1
  have J3 : iaV 1 w (.int .i64 3) = some (ptrAt w 3) := (ints_rules sF .i64 3 (by simp)).1
  have L0 : ldV K (ptrAt w 0) = some (.int .i64 (frameI r (wd l 3))) := (ints_rules sF .i64 0 (by simp)).2
  have L1 : ldV K (ptrAt w 1) = some (.int .i64 (frameI r (wd l 4))) := (ints_rules sF .i64 1 (by simp)).2
  have L2 : ∀ K', Ext K K' → ldV K' (ptrAt w 2) = some (.int .i64 (frameI r (wd l 5))) := fun K' e => (ints_rules (sF.ext e) .i64 2 (by simp)).2
  have L3 : ∀ K', Ext K K' → ldV K' (ptrAt w 3) = some (.int .i64 (frameI r (wd l 6))) := fun K' e => (ints_rules (sF.ext e) .i64 3 (by simp)).2
  have u1 : IntKind.i64.wrap (frameI r (wd l 4) - frameI r (wd l 3)) = frameI r (wd l 4) - frameI r (wd l 3) := i64w (by omega)
  have eC := Ext.more K [encClip (lnClip r l)]
  have BX := Bx.new K (encClip (lnClip r l)) []
  have lc := l4Clip_ok (K.more [encClip (lnClip r l)]) (lnClip r l)
  have hcl : encClip (lnClip r l) = [.int .i64 (srcV' (wd l 1)), .int .i64 (frameI r (wd l 3)), .int .i64 (frameI r (wd l 4) - frameI r (wd l 3))] := rfl
  have hlen : (lnClip r l).len = frameI r (wd l 4) - frameI r (wd l 3) := rfl
  rw [hcl] at eC BX lc
  have fin2 : ∀ K', Ext K K' → lnCode r t l = 0 → ∃ K2, stV K' 3 (.pointer (some ⟨cb, 0, none⟩)) (.agg #[.int .i64 (srcV' (wd l 1)), .int .i64 (frameI r (wd l 3)), .int .i64 (frameI r (wd l 4) - frameI r (wd l 3))]) = some K2 ∧
      (∀ o m, ldnV K2 m (.pointer (some ⟨cb, o, none⟩)) = cutL [.int .i64 (srcV' (wd l 1)), .int .i64 (frameI r (wd l 3)), .int .i64 (frameI r (wd l 4) - frameI r (wd l 3))] o m) ∧
      (Ext h K2 ∧ ∃ c : Clip, (.tuple #[.agg #[.int .i64 (srcV' (wd l 1)), .int .i64 (frameI r (wd l 3)), .int .i64 (frameI r (wd l 4) - frameI r (wd l 3))], .int .i64 0] : Value) = .tuple #[.agg (encClip c).toArray, .int .i64 (lnCode r t l)] ∧ (lnCode r t l = 0 → c = lnClip r l)) := by
    intro K' e hz
    obtain ⟨K2, e1, B', G⟩ := put_res (a := zClip) (BC.ext (eK.trans e)) (lnClip r l)
    exact ⟨K2, e1, B'.ld.2, G.ext (E2.trans (eK.trans e)) hge, lnClip r l, by rw [hz]; rfl, fun _ => rfl⟩
  obtain ⟨xb, hxb⟩ : ∃ q, q = K.size := ⟨_, rfl⟩
  simp (maxSteps := 4000000) (disch := omega) only [ah, am, Nat.reduceEqDiff, reduceCtorEq, Nat.reduceAdd, Nat.reduceLeDiff, Nat.reduceMul, Nat.reduceLT, if_true, if_false, true_and, and_true, and_self, Nat.reduceBEq, QOp.loads, boxO, bslO, buildO, cutL, fillV, putL, w20, v20, J0, J1, L0, L1, u1]
  obtain ⟨K1, hK1⟩ : ∃ K1, K1 = K.more [[.int .i64 (srcV' (wd l 1)), .int .i64 (frameI r (wd l 3)), .int .i64 (frameI r (wd l 4) - frameI r (wd l 3))]] := ⟨_, rfl⟩
  rw [← hK1] at eC BX lc ⊢
  rw [← hxb] at BX ⊢
  clear hK1
  refine stepC.of lc ?_
  rintro _ K4 ⟨e4, rfl⟩
  have eA := eC.trans e4
  have BX := BX.ext e4
  have sB := (s.ext eK).ext eA
  by_cases cc : clipOk (lnClip r l)
  rotate_left
  · obtain ⟨K', e1, e2, e5, fin⟩ := bad K4 (eK.trans eA) 8 (lnCode_in good cc) (by omega)
    simp (maxSteps := 4000000) (disch := omega) only [ah, am, Nat.reduceEqDiff, reduceCtorEq, Nat.reduceAdd, Nat.reduceLeDiff, Nat.reduceMul, Nat.reduceLT, if_true, if_false, true_and, and_true, and_self, Nat.reduceBEq, QOp.loads, boxO, bslO, buildO, cutL, fillV, putL, w20, v20, decide_eq_false cc, e1, e2, e5]
    exact fin
  have u2 : IntKind.i64.wrap (sumLen t + (frameI r (wd l 4) - frameI r (wd l 3))) = sumLen t + (frameI r (wd l 4) - frameI r (wd l 3)) := i64w (by omega)
  by_cases p5 : frameI r (wd l 5) = sumLen t
  rotate_left
  · obtain ⟨K', e1, e2, e5, fin⟩ := bad K4 (eK.trans eA) 9 (lnCode_place good cc (.inl p5)) (by omega)
    simp (maxSteps := 4000000) (disch := omega) only [ah, am, Nat.reduceEqDiff, reduceCtorEq, Nat.reduceAdd, Nat.reduceLeDiff, Nat.reduceMul, Nat.reduceLT, if_true, if_false, true_and, and_true, and_self, Nat.reduceBEq, QOp.loads, boxO, bslO, buildO, cutL, fillV, putL, w20, v20, decide_eq_true cc, J2, L2 K4 eA, decide_eq_false p5, e1, e2, e5]
    exact fin
  by_cases p6 : frameI r (wd l 6) = sumLen t + (frameI r (wd l 4) - frameI r (wd l 3))
  rotate_left
  · obtain ⟨K', e1, e2, e5, fin⟩ := bad K4 (eK.trans eA) 9 (lnCode_place good cc (.inr (by rw [hlen]; omega))) (by omega)
    simp (maxSteps := 4000000) (disch := omega) only [ah, am, Nat.reduceEqDiff, reduceCtorEq, Nat.reduceAdd, Nat.reduceLeDiff, Nat.reduceMul, Nat.reduceLT, if_true, if_false, true_and, and_true, and_self, Nat.reduceBEq, QOp.loads, boxO, bslO, buildO, cutL, fillV, putL, w20, v20, decide_eq_true cc, J2, L2 K4 eA, decide_eq_true p5, J3, L3 K4 eA, BX.ld, u2, decide_eq_false p6, e1, e2, e5]
    exact fin
  have hpl : frameI r (wd l 5) = sumLen t ∧ frameI r (wd l 6) - frameI r (wd l 5) = (lnClip r l).len := ⟨p5, by rw [hlen]; omega⟩
  -- append(append([]Clip{}, track...), k)
  have F0 : Fk [] K4 (K4.more [[], encClip (lnClip r l)]) encClip 3 (.slice (some ⟨K4.size, 0, none⟩) 0 3) [] [(K4.size + 1, encClip (lnClip r l))] := by
    have := (Fk.of (X := []) (Fresh.new0 K4 encClip_len (by omega))).more [encClip (lnClip r l)]
    simpa [more_more, size_more, boxesAt] using this
  have eQ := Ext.more K4 [[], encClip (lnClip r l)]
  have BX6 := BX.ext eQ
  obtain ⟨v2, K6, ap1, F6⟩ := F0.app (sB.ext eQ) (bytes := 24) (by simp; omega)
  rw [List.nil_append] at F6
  have BK6 := (F6.box _ (List.mem_singleton.mpr rfl)).2
  have s1 := slt_box (enc := encClip) (sz := 3) BK6 encClip_len (by omega)
  obtain ⟨v3, K7, ap2, F7⟩ := F6.fresh.app s1 (bytes := 24) (by simp; omega)
  have B6 := BX.ext F6.fresh.1
  have e7 := F7.1
  have s7 := F7.slt
  rw [hcl] at ap1 ap2 F0 eQ BX6
  clear F0 F6 F7 BK6 s1
  simp (maxSteps := 4000000) (disch := omega) only [ah, am, Nat.reduceEqDiff, reduceCtorEq, Nat.reduceAdd, Nat.reduceLeDiff, Nat.reduceMul, Nat.reduceLT, if_true, if_false, true_and, and_true, and_self, Nat.reduceBEq, QOp.loads, boxO, bslO, buildO, cutL, fillV, putL, w20, v20, decide_eq_true cc, J2, L2 K4 eA, decide_eq_true p5, J3, L3 K4 eA, BX.ld, u2, decide_eq_true p6, (BX.ext (Ext.more K4 [[]])).ld, ap1, ap2, rechk_cons, rechk_end, chkV_some, chkV_false, B6.ld]
  have hin : ∀ k ∈ t ++ [lnClip r l], clipIn 10000000 k := by
    intro k hk
    rcases List.mem_append.mp hk with hk | hk
    · exact (kp.1.2.1 k hk).in
    · rw [List.mem_singleton] at hk; rw [hk]; exact cc.in
  have hla : (t ++ [lnClip r l]).length ≤ 301 := by simp; omega
  refine stepC.of (l4Join_ok K7 v3 (t ++ [lnClip r l]) s7 (by omega) hin) ?_
  intro jv K8 F8
  have e8 := e7.trans F8.1
  have RJ := F8.slt.rulesN.1
  have RA := (s7.ext F8.1).rulesN.1
  have eA8 := eA.trans e8
  have iff := joinBad_iff kp.2 (lnClip r l)
  by_cases cj : (join (t ++ [lnClip r l])).length = (t ++ [lnClip r l]).length
  rotate_left
  · have d : decide (((join (t ++ [lnClip r l])).length : Int) = ((t ++ [lnClip r l]).length : Int)) = false := decide_eq_false (by omega)
    obtain ⟨K', e1, e2, e5, fin⟩ := bad K8 (eK.trans eA8) 10 (lnCode_join good cc hpl (iff.mp (.inl cj))) (by omega)
    simp (maxSteps := 4000000) (disch := omega) only [ah, am, Nat.reduceEqDiff, reduceCtorEq, Nat.reduceAdd, Nat.reduceLeDiff, Nat.reduceMul, Nat.reduceLT, if_true, if_false, true_and, and_true, and_self, Nat.reduceBEq, QOp.loads, boxO, bslO, buildO, cutL, fillV, putL, w20, v20, RJ, RA, d, e1, e2, e5]
    exact fin
  have d : decide (((join (t ++ [lnClip r l])).length : Int) = ((t ++ [lnClip r l]).length : Int)) = true := decide_eq_true (by omega)
  simp (maxSteps := 4000000) (disch := omega) only [ah, am, Nat.reduceEqDiff, reduceCtorEq, Nat.reduceAdd, Nat.reduceLeDiff, Nat.reduceMul, Nat.reduceLT, if_true, if_false, true_and, and_true, and_self, Nat.reduceBEq, QOp.loads, boxO, bslO, buildO, cutL, fillV, putL, w20, v20, RJ, RA, d]
  refine stepC.of (TrackOk_ok K8 v3 (t ++ [lnClip r l]) (s7.ext F8.1) (by omega)) ?_
  rintro _ K9 ⟨e9, rfl⟩
  have eA9 := eA8.trans e9
  by_cases ck : trackOk (t ++ [lnClip r l])
  rotate_left
  · obtain ⟨K', e1, e2, e5, fin⟩ := bad K9 (eK.trans eA9) 10 (lnCode_join good cc hpl (iff.mp (.inr ck))) (by omega)
    simp (maxSteps := 4000000) (disch := omega) only [ah, am, Nat.reduceEqDiff, reduceCtorEq, Nat.reduceAdd, Nat.reduceLeDiff, Nat.reduceMul, Nat.reduceLT, if_true, if_false, true_and, and_true, and_self, Nat.reduceBEq, QOp.loads, boxO, bslO, buildO, cutL, fillV, putL, w20, v20, decide_eq_false ck, e1, e2, e5]
    exact fin
  obtain ⟨K', e1, e2, fin⟩ := fin2 K9 eA9 (lnCode_good good cc hpl (fun q => (iff.mpr q).elim (fun a => a cj) fun a => a ck))
  simp (maxSteps := 4000000) (disch := omega) only [ah, am, Nat.reduceEqDiff, reduceCtorEq, Nat.reduceAdd, Nat.reduceLeDiff, Nat.reduceMul, Nat.reduceLT, if_true, if_false, true_and, and_true, and_self, Nat.reduceBEq, QOp.loads, boxO, bslO, buildO, cutL, fillV, putL, w20, v20, decide_eq_true ck, (BX.ext (e8.trans e9)).ld, e1, e2]
  exact fin
end Go.Proofs.YtgmimgmdbpcecaaGreatDoor
end
