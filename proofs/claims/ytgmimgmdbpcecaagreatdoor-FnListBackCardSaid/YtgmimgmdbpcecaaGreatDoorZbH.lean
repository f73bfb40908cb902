/- Merged texts of this claim: V13, V14, V15, J1z, V20, V21, V22, E0. -/
import Derived.Test.YtgmimgmdbpcecaaGreatDoorAhY
import Derived.Test.YtgmimgmdbpcecaaGreatDoorZbG
section
namespace Go.Proofs.YtgmimgmdbpcecaaGreatDoor
open Go Go.Ah
set_option linter.unusedSimpArgs false
set_option linter.unusedVariables false
set_option maxRecDepth 10000
set_option maxHeartbeats 4000000
/-! 41 loop.example/g00066/spec.l6Words: parameters 1, live [0], slots [0:line, 1:line, 3:out, 4:from, 5:i] -/
def c41_0 : List SOper := [⟨some 2, .q (.mv (.c (.slice none 0 0))), none⟩]
def c41_1 : List SOper := [⟨some 6, .a (.bsl 0 1 [] []), none⟩, ⟨some 3, .q (.mv (.t 6)), none⟩]
def c41_2 : List SOper := [⟨some 4, .q (.mv (.c (.int .i64 0))), none⟩]
def c41_3 : List SOper := [⟨some 5, .q (.mv (.c (.int .i64 0))), none⟩]
def c41_4 : List SOper := [⟨some 7, .q (.mv (.t 5)), none⟩, ⟨some 8, .q (.mv (.t 0)), none⟩, ⟨some 9, .q (.lens (.t 8)), none⟩, ⟨some 10, .q (.bin .leq (.t 7) (.t 9)), none⟩]
def c41_5 : SCode := .cond (.t 10) .skip (.exit 0)
def c41_6 : SCode := .seq (.region c41_4 [0, 3, 4, 5, 10]) c41_5
def c41_7 : List SOper := [⟨some 13, .q (.mv (.t 5)), none⟩, ⟨some 14, .q (.mv (.t 0)), none⟩, ⟨some 15, .q (.lens (.t 14)), none⟩, ⟨some 16, .q (.bin .eql (.t 13) (.t 15)), none⟩, ⟨some 17, .q (.mv (.t 16)), none⟩, ⟨some 18, .q (.mv (.t 0)), some (17, false)⟩, ⟨some 19, .q (.mv (.t 5)), some (17, false)⟩, ⟨some 20, .q (.ivs (.t 18) (.t 19)), some (17, false)⟩, ⟨some 21, .q (.bin .eql (.t 20) (.c (.int .u8 32))), some (17, false)⟩, ⟨some 22, .q (.pick (.t 17) (.c (.bool true)) (.t 21)), none⟩]
def c41_8 : List SOper := [⟨some 23, .q (.mv (.t 3)), none⟩, ⟨some 24, .q (.mv (.t 0)), none⟩, ⟨some 25, .q (.mv (.t 4)), none⟩, ⟨some 26, .q (.mv (.t 5)), none⟩, ⟨some 27, .q (.sls (.t 24) (some (.t 25)) (some (.t 26))), none⟩, ⟨some 28, .a (.bsl 1 1 [(.string ⟨#[]⟩)] [(0, 1, (.t 27))]), none⟩, ⟨some 29, .e (.app 16 1 (.t 23) (.t 28)), none⟩, ⟨some 3, .q (.mv (.t 29)), none⟩]
def c41_9 : List SOper := [⟨some 30, .q (.mv (.t 5)), none⟩, ⟨some 31, .q (.bin .add (.t 30) (.c (.int .i64 1))), none⟩, ⟨some 4, .q (.mv (.t 31)), none⟩]
def c41_10 : SCode := .seq (.region c41_8 [0, 3, 5]) (.region c41_9 [0, 3, 4, 5])
def c41_11 : SCode := .cond (.t 22) c41_10 .skip
def c41_12 : SCode := .seq (.region c41_7 [0, 3, 4, 5, 22]) c41_11
def c41_13 : SCode := .block 1 c41_12
def c41_14 : List SOper := [⟨some 11, .q (.mv (.t 5)), none⟩, ⟨some 12, .q (.bin .add (.t 11) (.c (.int .i64 1))), none⟩, ⟨some 5, .q (.mv (.t 12)), none⟩]
def c41_15 : SCode := .seq c41_13 (.region c41_14 [0, 3, 4, 5])
def c41_16 : SCode := .seq c41_6 c41_15
def c41_17 : SCode := .loop c41_16
def c41_18 : SCode := .block 0 c41_17
def c41_19 : SCode := .seq (.region c41_3 [0, 3, 4, 5]) c41_18
def c41_20 : List SOper := [⟨some 32, .q (.mv (.t 3)), none⟩, ⟨some 2, .q (.mv (.t 32)), none⟩]
def c41_21 : SCode := .seq (.region c41_20 [2]) .ret
def c41_22 : SCode := .seq c41_19 c41_21
def c41_23 : SCode := .seq (.region c41_2 [0, 3, 4]) c41_22
def c41_24 : SCode := .seq (.region c41_1 [0, 3]) c41_23
def c41_25 : SCode := .seq (.region c41_0 [0]) c41_24
def c41 : SCode := c41_25
theorem w41 : type_of% (And.intro (uR Tryz.prog c41_0.eq_1) (And.intro (uR Tryz.prog c41_1.eq_1) (And.intro (uR Tryz.prog c41_2.eq_1) (And.intro (uR Tryz.prog c41_3.eq_1) (And.intro (uR Tryz.prog c41_4.eq_1) (And.intro (uC Tryz.prog c41_5.eq_1) (And.intro (uC Tryz.prog c41_6.eq_1) (And.intro (uR Tryz.prog c41_7.eq_1) (And.intro (uR Tryz.prog c41_8.eq_1) (And.intro (uR Tryz.prog c41_9.eq_1) (And.intro (uC Tryz.prog c41_10.eq_1) (And.intro (uC Tryz.prog c41_11.eq_1) (And.intro (uC Tryz.prog c41_12.eq_1) (And.intro (uC Tryz.prog c41_13.eq_1) (And.intro (uR Tryz.prog c41_14.eq_1) (And.intro (uC Tryz.prog c41_15.eq_1) (And.intro (uC Tryz.prog c41_16.eq_1) (And.intro (uC Tryz.prog c41_17.eq_1) (And.intro (uC Tryz.prog c41_18.eq_1) (And.intro (uC Tryz.prog c41_19.eq_1) (And.intro (uR Tryz.prog c41_20.eq_1) (And.intro (uC Tryz.prog c41_21.eq_1) (And.intro (uC Tryz.prog c41_22.eq_1) (And.intro (uC Tryz.prog c41_23.eq_1) (And.intro (uC Tryz.prog c41_24.eq_1) (And.intro (uC Tryz.prog c41_25.eq_1) (uC Tryz.prog c41.eq_1))))))))))))))))))))))))))) := (And.intro (uR Tryz.prog c41_0.eq_1) (And.intro (uR Tryz.prog c41_1.eq_1) (And.intro (uR Tryz.prog c41_2.eq_1) (And.intro (uR Tryz.prog c41_3.eq_1) (And.intro (uR Tryz.prog c41_4.eq_1) (And.intro (uC Tryz.prog c41_5.eq_1) (And.intro (uC Tryz.prog c41_6.eq_1) (And.intro (uR Tryz.prog c41_7.eq_1) (And.intro (uR Tryz.prog c41_8.eq_1) (And.intro (uR Tryz.prog c41_9.eq_1) (And.intro (uC Tryz.prog c41_10.eq_1) (And.intro (uC Tryz.prog c41_11.eq_1) (And.intro (uC Tryz.prog c41_12.eq_1) (And.intro (uC Tryz.prog c41_13.eq_1) (And.intro (uR Tryz.prog c41_14.eq_1) (And.intro (uC Tryz.prog c41_15.eq_1) (And.intro (uC Tryz.prog c41_16.eq_1) (And.intro (uC Tryz.prog c41_17.eq_1) (And.intro (uC Tryz.prog c41_18.eq_1) (And.intro (uC Tryz.prog c41_19.eq_1) (And.intro (uR Tryz.prog c41_20.eq_1) (And.intro (uC Tryz.prog c41_21.eq_1) (And.intro (uC Tryz.prog c41_22.eq_1) (And.intro (uC Tryz.prog c41_23.eq_1) (And.intro (uC Tryz.prog c41_24.eq_1) (And.intro (uC Tryz.prog c41_25.eq_1) (uC Tryz.prog c41.eq_1)))))))))))))))))))))))))))
def v41 : List RV := [.t 2]
theorem s41 : slimF Tryz.prog Tryz.f41 = some (c41.bare, v41) := by kernel_rfl

theorem l6Words_ok (h : Heap) (l : List UInt8) (hl : l.length ≤ 1000000) : ACall Tryz.prog 41 [.string (bL l)] h fun r h' => Fresh h h' encS 1 r ((spl l).map bL) := by
  have hsz : (bL l).size = l.length := bL_size l
  refine ACall.of Tryz.func41 s41 (of_decide_eq_true rfl) ?_
  simp (maxSteps := 4000000) (disch := omega) only [ah, am, Nat.reduceEqDiff, reduceCtorEq, Nat.reduceAdd, Nat.reduceLeDiff, Nat.reduceMul, Nat.reduceLT, if_true, if_false, true_and, and_true, and_self, Nat.reduceBEq, QOp.loads, boxO, bslO, buildO, cutL, fillV, putL, w41, v41]
  refine SW_loop_up (fun i E K => ∃ (w : Value) (f : Nat) (P : List (List UInt8)), E = [(0, .string (bL l)), (3, w), (4, .int .i64 (f : Int)), (5, .int .i64 (i : Int))] ∧ P.length ≤ i ∧
    ((i ≤ l.length ∧ f ≤ i ∧ Fresh h K encS 1 w (P.map bL) ∧ spl (l.take i) = P ++ [(l.drop f).take (i - f)]) ∨ (i = l.length + 1 ∧ Fresh h K encS 1 w ((spl l).map bL)))) (l.length + 1) 0 (by omega)
    ⟨_, 0, [], rfl, by simp, .inl ⟨by omega, by omega, Fresh.new0 h encS_len (by omega), rfl⟩⟩ ?_
  rintro i E K hi ⟨w, f, P, rfl, hP, I⟩
  have wi : IntKind.i64.wrap ((i : Int) + 1) = ((i + 1 : Nat) : Int) := i64e (by omega) (by omega)
  rcases I with ⟨i1, i2, F, e⟩ | ⟨i1, F⟩
  rotate_left
  · have c : decide ((i : Int) ≤ (l.length : Int)) = false := decide_eq_false (by omega)
    simp (maxSteps := 4000000) (disch := omega) only [ah, am, Nat.reduceEqDiff, reduceCtorEq, Nat.reduceAdd, Nat.reduceLeDiff, Nat.reduceMul, Nat.reduceLT, if_true, if_false, true_and, and_true, and_self, Nat.reduceBEq, QOp.loads, boxO, bslO, buildO, cutL, fillV, putL, w41, v41, hsz, c]
    exact F
  have c : decide ((i : Int) ≤ (l.length : Int)) = true := decide_eq_true (by omega)
  have SL := sls_ab l .i64 .i64 f i i2 i1
  obtain ⟨w2, K2, ap, F2⟩ := F.app1 (bL ((l.drop f).take (i - f))) (bytes := 16) (by simp; omega)
  simp only [encS] at ap
  have hm : P.map bL ++ [bL ((l.drop f).take (i - f))] = (P ++ [(l.drop f).take (i - f)]).map bL := by simp
  rw [hm] at F2
  by_cases c1 : i = l.length
  · have c1' : decide ((i : Int) = (l.length : Int)) = true := decide_eq_true (by omega)
    simp (maxSteps := 4000000) (disch := omega) only [ah, am, Nat.reduceEqDiff, reduceCtorEq, Nat.reduceAdd, Nat.reduceLeDiff, Nat.reduceMul, Nat.reduceLT, if_true, if_false, true_and, and_true, and_self, Nat.reduceBEq, QOp.loads, boxO, bslO, buildO, cutL, fillV, putL, w41, v41, hsz, c, c1', SL, ap, wi]
    refine ⟨by omega, w2, i + 1, P, rfl, by omega, .inr ⟨by omega, ?_⟩⟩
    have : spl l = P ++ [(l.drop f).take (i - f)] := by rw [← e, c1, List.take_length]
    rw [this]; exact F2
  have il : i < l.length := by omega
  have c1' : decide ((i : Int) = (l.length : Int)) = false := decide_eq_false (by omega)
  have IV := ivs_bL l .i64 i il
  have sn := spl_snoc l[i] (l.take i) P _ e
  rw [← List.take_succ_eq_append_getElem il] at sn
  by_cases c2 : (l[i].toNat : Int) = 32
  · have hb : l[i] = 32 := UInt8.toNat_inj.mp (by have : (32 : UInt8).toNat = 32 := rfl; omega)
    rw [if_pos hb] at sn
    simp (maxSteps := 4000000) (disch := omega) only [ah, am, Nat.reduceEqDiff, reduceCtorEq, Nat.reduceAdd, Nat.reduceLeDiff, Nat.reduceMul, Nat.reduceLT, if_true, if_false, true_and, and_true, and_self, Nat.reduceBEq, QOp.loads, boxO, bslO, buildO, cutL, fillV, putL, w41, v41, hsz, c, c1', IV, decide_eq_true c2, SL, ap, wi]
    refine ⟨by omega, w2, i + 1, P ++ [(l.drop f).take (i - f)], rfl, by simp; omega, .inl ⟨by omega, by omega, F2, ?_⟩⟩
    rw [sn, Nat.sub_self, List.take_zero]; simp
  · have hb : ¬ l[i] = 32 := fun q => c2 (by rw [q]; rfl)
    rw [if_neg hb] at sn
    simp (maxSteps := 4000000) (disch := omega) only [ah, am, Nat.reduceEqDiff, reduceCtorEq, Nat.reduceAdd, Nat.reduceLeDiff, Nat.reduceMul, Nat.reduceLT, if_true, if_false, true_and, and_true, and_self, Nat.reduceBEq, QOp.loads, boxO, bslO, buildO, cutL, fillV, putL, w41, v41, hsz, c, c1', IV, decide_eq_false c2, wi]
    refine ⟨by omega, w, f, P, rfl, by omega, .inl ⟨by omega, by omega, F, ?_⟩⟩
    rw [sn, show i + 1 - f = (i - f) + 1 from by omega, List.take_succ_eq_append_getElem (by simp; omega), List.getElem_drop]
    have hfi : f + (i - f) = i := by omega
    simp only [hfi]
end Go.Proofs.YtgmimgmdbpcecaaGreatDoor
end

section
namespace Go.Proofs.YtgmimgmdbpcecaaGreatDoor
open Go Go.Ah
set_option linter.unusedSimpArgs false
set_option linter.unusedVariables false
set_option maxRecDepth 10000
set_option maxHeartbeats 4000000
/-! ### An own slice that ends where its object does: what is appended to it leaves it as it was -/
structure Full {α : Type} (g : Nat) (h : Heap) (enc : α → List Value) (sz : Nat) (v : Value) (l : List α) : Prop where
  own : ∃ i, v = .slice (some ⟨i, 0, none⟩) l.length sz ∧ h.get i = some ⟨l.flatMap enc, g, true, true⟩
  hs : ∀ x, (enc x).length = sz
  pos : 0 < sz
section
variable {α : Type} {enc : α → List Value} {sz g : Nat} {h h' : Heap} {v : Value} {l : List α}
theorem Full.ownT (f : Full g h enc sz v l) : OwnT g h enc sz v l := by
  obtain ⟨i, rfl, hi⟩ := f.own
  refine ⟨.inr ⟨i, 0, l.length, _, rfl, hi, rfl, ?_, ?_, rfl, rfl⟩, f.hs, f.pos⟩
  · rw [flat_len f.hs]; omega
  · rw [List.drop_zero, ← flat_len f.hs l]; exact List.take_length
theorem Full.slt (f : Full g h enc sz v l) : SlT h enc sz v l := f.ownT.slt
theorem Full.lt (f : Full g h enc sz v l) : g < h.size := by
  obtain ⟨i, _, hi⟩ := f.own
  exact Nat.lt_of_le_of_lt (Heap.grp_le hi) (Heap.get_lt hi)
theorem Full.ext (f : Full g h enc sz v l) (e : Ext h h') : Full g h' enc sz v l := by
  obtain ⟨i, hv, hi⟩ := f.own
  exact ⟨⟨i, hv, by rw [e.2 i (Heap.get_lt hi)]; exact hi⟩, f.hs, f.pos⟩
theorem Full.extG {g' : Nat} (f : Full g h enc sz v l) (e : ExtG g' h h') (hg : g ≠ g') : Full g h' enc sz v l := by
  obtain ⟨i, hv, hi⟩ := f.own
  exact ⟨⟨i, hv, e.2 i _ hi hg⟩, f.hs, f.pos⟩
theorem Full.new0 (h : Heap) (hs : ∀ x, (enc x).length = sz) (pos : 0 < sz) : Full h.size (h.more [[]]) enc sz (.slice (some ⟨h.size, 0, none⟩) 0 sz) ([] : List α) :=
  ⟨⟨h.size, rfl, Heap.get_alloc_new h []⟩, hs, pos⟩
theorem Full.app1 (f : Full g h enc sz v l) (L : List (List Value)) (x : α) {bytes : Nat} (hr : (l.length + 1) * bytes ≤ 70368744177664) :
    ∃ v' h2, appV (h.more (L ++ [enc x])) bytes sz v (.slice (some ⟨h.size + L.length, 0, none⟩) 1 sz) = some (v', h2) ∧ Full g h2 enc sz v' (l ++ [x]) ∧ Full g h2 enc sz v l ∧ ExtG g (h.more (L ++ [enc x])) h2 := by
  have hs := f.hs
  have pos := f.pos
  have s : SlT (h.more (L ++ [enc x])) enc sz (.slice (some ⟨h.size + L.length, 0, none⟩) 1 sz) [x] := by
    have := (OwnT.new (h.more L) [x] hs pos).slt
    simp only [List.flatMap_cons, List.flatMap_nil, List.append_nil, List.length_cons, List.length_nil, Nat.zero_add, more_more, size_more] at this
    exact this
  have f1 := f.ext (Ext.more h (L ++ [enc x]))
  generalize h.more (L ++ [enc x]) = H at *
  obtain ⟨i, rfl, hi⟩ := f1.own
  have hsrc := srcW_of s.sl.src
  rw [s.slLen] at hsrc
  have hlt := Heap.get_lt hi
  have hfl := flat_len hs l
  have hgl : g ≤ H.size := Nat.le_trans (Heap.grp_le hi) (Nat.le_of_lt hlt)
  obtain ⟨h2, hh2⟩ : ∃ h2, h2 = H.push i g (decide (l.length * sz = (l.flatMap enc).length)) (((l.flatMap enc).drop 0).take (l.length * sz) ++ [x].flatMap enc) hgl := ⟨_, rfl⟩
  have hcs : ((l.flatMap enc).drop 0).take (l.length * sz) ++ [x].flatMap enc = (l ++ [x]).flatMap enc := by
    rw [List.drop_zero, ← hfl, List.take_length, List.flatMap_append]
  refine ⟨.slice (some ⟨H.size, 0, none⟩) (l.length + 1) sz, h2, ?_, ⟨⟨H.size, by simp, ?_⟩, hs, pos⟩, ⟨⟨i, rfl, ?_⟩, hs, pos⟩, ?_, ?_⟩
  · unfold appV
    rw [hsrc]
    simp only [Option.bind_some, List.length_cons, List.length_nil, Nat.zero_add]
    rw [if_neg (by omega)]
    split
    · rename_i ob' hg'
      rw [hi] at hg'; cases hg'
      rw [if_pos ⟨rfl, rfl, trivial, (show l.length * sz ≤ (l.flatMap enc).length by omega), hr⟩, hh2]
    · rename_i hg'; rw [hi] at hg'; cases hg'
  · rw [hh2, Heap.get_push_new, hcs]
  · rw [hh2, Heap.get_push_old _ _ _ _ _ _ hlt hi, if_neg]
    rintro ⟨_, q⟩
    simp [hfl] at q
  · rw [hh2, Heap.size_push]; omega
  · intro j ob' hj hg'
    rw [hh2, Heap.get_push_old _ _ _ _ _ _ (Heap.get_lt hj) hj, if_neg]
    rintro ⟨e, _⟩; exact hg' e
end
/-! ### A line of a list -/
def wd (l : List UInt8) (i : Nat) : List UInt8 := (spl l).getD i []
def lnWordsBad (l : List UInt8) : Prop := (∃ p ∈ spl l, p = []) ∨ (spl l).length ≠ 7
instance (l : List UInt8) : Decidable (lnWordsBad l) := by unfold lnWordsBad; infer_instance
def lnClip (r : Rate) (l : List UInt8) : Clip := ⟨srcV' (wd l 1), frameI r (wd l 3), frameI r (wd l 4) - frameI r (wd l 3)⟩
def follows (k a : Clip) : Prop := a.src = k.src ∧ (k.src = 0 ∨ a.inn + a.len = k.inn)
instance (k a : Clip) : Decidable (follows k a) := by unfold follows; infer_instance
def lnJoinBad (t : List Clip) (c : Clip) : Prop := (∃ h : 0 < t.length, follows c t[t.length - 1]) ∨ ¬ trackOk (t ++ [c])
instance (t : List Clip) (c : Clip) : Decidable (lnJoinBad t c) := by unfold lnJoinBad; infer_instance
def lnCode (r : Rate) (t : List Clip) (l : List UInt8) : Int :=
  if lnWordsBad l then 4 else
  if wd l 0 ≠ padL 3 (digs (t.length + 1)) then 5 else
  if ¬ srcOk (wd l 1) ∨ wd l 2 ≠ [67] then 6 else
  if ¬ (timeOkL r (wd l 3) ∧ timeOkL r (wd l 4) ∧ timeOkL r (wd l 5) ∧ timeOkL r (wd l 6)) then 7 else
  if ¬ clipOk (lnClip r l) then 8 else
  if frameI r (wd l 5) ≠ sumLen t ∨ frameI r (wd l 6) - frameI r (wd l 5) ≠ (lnClip r l).len then 9 else
  if lnJoinBad t (lnClip r l) then 10 else 0
theorem frameI_bd {r : Rate} {l : List UInt8} (h : timeOkL r l) : 0 ≤ frameI r l ∧ frameI r l ≤ 10000000 := by
  obtain ⟨_, h1, _, h2⟩ := h
  refine Classical.byContradiction fun q => ?_
  have : timeL r (frameI r l) = [] := if_neg fun t => by have := t; omega
  rw [this] at h2
  rw [← h2] at h1; simp at h1
theorem joinBad_iff {t : List Clip} (hj : join t = t) (c : Clip) : ((join (t ++ [c])).length ≠ (t ++ [c]).length ∨ ¬ trackOk (t ++ [c])) ↔ lnJoinBad t c := by
  have e : join (t ++ [c]) = joinStep t c := by
    rw [join, List.foldl_append]
    show joinStep (join t) c = _
    rw [hj]
  unfold lnJoinBad
  rw [e]
  refine or_congr ?_ Iff.rfl
  unfold joinStep follows
  split
  · rename_i h0
    split
    · rename_i h1
      refine ⟨fun _ => ⟨h0, h1⟩, fun _ => by simp⟩
    · rename_i h1
      refine ⟨fun q => absurd rfl q, fun q => absurd q.2 h1⟩
  · rename_i h0
    exact ⟨fun q => absurd rfl q, fun q => absurd q.1 h0⟩
theorem join_keep {t : List Clip} (hj : join t = t) {c : Clip} (h : ¬ lnJoinBad t c) : join (t ++ [c]) = t ++ [c] ∧ trackOk (t ++ [c]) := by
  refine ⟨?_, Classical.byContradiction fun q => h (.inr q)⟩
  have e : join (t ++ [c]) = joinStep t c := by
    rw [join, List.foldl_append]
    show joinStep (join t) c = _
    rw [hj]
  rw [e]
  unfold joinStep
  split
  · rename_i h0
    exact if_neg fun q => h (.inl ⟨h0, q⟩)
  · rfl
end Go.Proofs.YtgmimgmdbpcecaaGreatDoor
end

section
namespace Go.Proofs.YtgmimgmdbpcecaaGreatDoor
open Go Go.Ah
set_option linter.unusedSimpArgs false
set_option linter.unusedVariables false
set_option maxRecDepth 10000
set_option maxHeartbeats 4000000
/-! ### The codes of a line, one by one -/
section
variable {r : Rate} {t : List Clip} {l : List UInt8}
theorem lnCode_words (h : lnWordsBad l) : lnCode r t l = 4 := by unfold lnCode; rw [if_pos h]
theorem lnCode_number (h : ¬ lnWordsBad l) (h1 : wd l 0 ≠ padL 3 (digs (t.length + 1))) : lnCode r t l = 5 := by unfold lnCode; rw [if_neg h, if_pos h1]
theorem lnCode_source (h : ¬ lnWordsBad l) (h1 : wd l 0 = padL 3 (digs (t.length + 1))) (h2 : ¬ srcOk (wd l 1) ∨ wd l 2 ≠ [67]) : lnCode r t l = 6 := by
  unfold lnCode; rw [if_neg h, if_neg (fun q => q h1), if_pos h2]
theorem lnCode_time (h : ¬ lnWordsBad l) (h1 : wd l 0 = padL 3 (digs (t.length + 1))) (h2 : srcOk (wd l 1) ∧ wd l 2 = [67]) (h3 : ¬ (timeOkL r (wd l 3) ∧ timeOkL r (wd l 4) ∧ timeOkL r (wd l 5) ∧ timeOkL r (wd l 6))) : lnCode r t l = 7 := by
  unfold lnCode; rw [if_neg h, if_neg (fun q => q h1), if_neg (fun q => q.elim (fun a => a h2.1) fun a => a h2.2), if_pos h3]
structure LnOk (r : Rate) (t : List Clip) (l : List UInt8) : Prop where
  words : ¬ lnWordsBad l
  number : wd l 0 = padL 3 (digs (t.length + 1))
  source : srcOk (wd l 1) ∧ wd l 2 = [67]
  time : timeOkL r (wd l 3) ∧ timeOkL r (wd l 4) ∧ timeOkL r (wd l 5) ∧ timeOkL r (wd l 6)
theorem LnOk.code (h : LnOk r t l) : lnCode r t l = (if ¬ clipOk (lnClip r l) then 8 else
  if frameI r (wd l 5) ≠ sumLen t ∨ frameI r (wd l 6) - frameI r (wd l 5) ≠ (lnClip r l).len then 9 else
  if lnJoinBad t (lnClip r l) then 10 else 0) := by
  unfold lnCode; rw [if_neg h.words, if_neg (fun q => q h.number), if_neg (fun q => q.elim (fun a => a h.source.1) fun a => a h.source.2), if_neg (fun q => q h.time)]
theorem lnCode_in (h : LnOk r t l) (h1 : ¬ clipOk (lnClip r l)) : lnCode r t l = 8 := by rw [h.code, if_pos h1]
theorem lnCode_place (h : LnOk r t l) (h1 : clipOk (lnClip r l)) (h2 : frameI r (wd l 5) ≠ sumLen t ∨ frameI r (wd l 6) - frameI r (wd l 5) ≠ (lnClip r l).len) : lnCode r t l = 9 := by
  rw [h.code, if_neg fun q => q h1, if_pos h2]
theorem lnCode_join (h : LnOk r t l) (h1 : clipOk (lnClip r l)) (h2 : frameI r (wd l 5) = sumLen t ∧ frameI r (wd l 6) - frameI r (wd l 5) = (lnClip r l).len) (h3 : lnJoinBad t (lnClip r l)) : lnCode r t l = 10 := by
  rw [h.code, if_neg fun q => q h1, if_neg (fun q => q.elim (fun a => a h2.1) fun a => a h2.2), if_pos h3]
theorem lnCode_good (h : LnOk r t l) (h1 : clipOk (lnClip r l)) (h2 : frameI r (wd l 5) = sumLen t ∧ frameI r (wd l 6) - frameI r (wd l 5) = (lnClip r l).len) (h3 : ¬ lnJoinBad t (lnClip r l)) : lnCode r t l = 0 := by
  rw [h.code, if_neg fun q => q h1, if_neg (fun q => q.elim (fun a => a h2.1) fun a => a h2.2), if_neg h3]
theorem lnCode_zero (h : lnCode r t l = 0) : LnOk r t l ∧ clipOk (lnClip r l) ∧ (frameI r (wd l 5) = sumLen t ∧ frameI r (wd l 6) - frameI r (wd l 5) = (lnClip r l).len) ∧ ¬ lnJoinBad t (lnClip r l) := by
  by_cases a : lnWordsBad l
  · rw [lnCode_words a] at h; omega
  by_cases b : wd l 0 = padL 3 (digs (t.length + 1))
  rotate_left
  · rw [lnCode_number a b] at h; omega
  by_cases c : srcOk (wd l 1) ∧ wd l 2 = [67]
  rotate_left
  · rw [lnCode_source a b (by by_cases q : srcOk (wd l 1); exact .inr fun k => c ⟨q, k⟩; exact .inl q)] at h; omega
  by_cases d : timeOkL r (wd l 3) ∧ timeOkL r (wd l 4) ∧ timeOkL r (wd l 5) ∧ timeOkL r (wd l 6)
  rotate_left
  · rw [lnCode_time a b c d] at h; omega
  have L : LnOk r t l := ⟨a, b, c, d⟩
  by_cases e : clipOk (lnClip r l)
  rotate_left
  · rw [lnCode_in L e] at h; omega
  by_cases f : frameI r (wd l 5) = sumLen t ∧ frameI r (wd l 6) - frameI r (wd l 5) = (lnClip r l).len
  rotate_left
  · rw [lnCode_place L e (by by_cases q : frameI r (wd l 5) = sumLen t; exact .inr fun k => f ⟨q, k⟩; exact .inl q)] at h; omega
  by_cases g : lnJoinBad t (lnClip r l)
  · rw [lnCode_join L e f g] at h; omega
  exact ⟨L, e, f, g⟩
end
/-! ### Lines of a text -/
def lin : List UInt8 → List (List UInt8)
  | [] => []
  | b :: t => if b = 10 then [] :: lin t else match lin t with
    | h :: r => (b :: h) :: r
    | [] => []
def endsNl (l : List UInt8) : Prop := l = [] ∨ l.getLast? = some 10
instance (l : List UInt8) : Decidable (endsNl l) := by unfold endsNl; infer_instance
theorem lin_app (q : List UInt8) : ∀ p : List UInt8, (10 : UInt8) ∉ p → lin (p ++ 10 :: q) = p :: lin q := by
  intro p
  induction p with
  | nil => intro _; rw [List.nil_append, lin, if_pos rfl]
  | cons b p ih =>
    intro h
    rw [List.mem_cons, not_or] at h
    rw [List.cons_append, lin, if_neg (fun e => h.1 e.symm), ih h.2]
theorem lin_none : ∀ p : List UInt8, (10 : UInt8) ∉ p → lin p = [] := by
  intro p
  induction p with
  | nil => intro _; rfl
  | cons b p ih =>
    intro h
    rw [List.mem_cons, not_or] at h
    rw [lin, if_neg (fun e => h.1 e.symm), ih h.2]
theorem index_app (q : List UInt8) : ∀ p : List UInt8, (10 : UInt8) ∉ p → Lib.index (p ++ 10 :: q) [10] = p.length := by
  intro p
  induction p with
  | nil => intro _; rw [List.nil_append, Lib.index]; simp [List.isPrefixOf]
  | cons b p ih =>
    intro h
    rw [List.mem_cons, not_or] at h
    have : ([10] : List UInt8).isPrefixOf (b :: (p ++ 10 :: q)) = false := by simp [List.isPrefixOf]; exact h.1
    rw [List.cons_append, Lib.index, this, ih h.2]
    simp
theorem cut_app {p q : List UInt8} (h : (10 : UInt8) ∉ p) : Lib.cut (p ++ 10 :: q) [10] = (p, q, true) := by
  unfold Lib.cut
  rw [index_app q p h, if_pos (by omega)]
  simp
theorem first_nl : ∀ t : List UInt8, (10 : UInt8) ∈ t → ∃ p q, t = p ++ 10 :: q ∧ (10 : UInt8) ∉ p := by
  intro t
  induction t with
  | nil => intro h; cases h
  | cons b t ih =>
    intro h
    by_cases hb : b = 10
    · exact ⟨[], t, by rw [hb]; rfl, by simp⟩
    · rw [List.mem_cons] at h
      obtain ⟨p, q, e, n⟩ := ih (h.resolve_left fun k => hb k.symm)
      exact ⟨b :: p, q, by rw [e]; rfl, by rw [List.mem_cons, not_or]; exact ⟨fun k => hb k.symm, n⟩⟩
theorem endsNl_mem {t : List UInt8} (h : endsNl t) (h0 : t ≠ []) : (10 : UInt8) ∈ t := by
  rcases h with h | h
  · exact absurd h h0
  · exact List.mem_of_getLast? h
theorem endsNl_rest {p q : List UInt8} (h : endsNl (p ++ 10 :: q)) : endsNl q := by
  rcases h with h | h
  · simp at h
  · cases q with
    | nil => exact .inl rfl
    | cons a q =>
      right
      rw [List.getLast?_append] at h
      rw [List.getLast?_cons_cons] at h
      cases e : (a :: q).getLast? with
      | none => simp at e
      | some x => rw [e] at h; simpa using h
/-! ### A list read -/
def readG (r : Rate) : List (List UInt8) → Nat → List Clip → List Clip × Int × Int
  | [], _, t => (t, 0, 0)
  | l :: ls, n, t => if lnCode r t l = 0 then readG r ls (n + 1) (t ++ [lnClip r l]) else ([], lnCode r t l, n)
def readL (r : Rate) (x : List UInt8) : List Clip × Int × Int :=
  if ¬ rateOk r then ([], 1, 0) else if 20000 < x.length then ([], 2, 0) else if ¬ endsNl x then ([], 3, 0) else readG r (lin x) 0 []
def keeps (t : List Clip) : Prop := trackOk t ∧ join t = t
theorem keeps_nil : keeps [] := ⟨⟨by simp, by simp, by simp [sumLen]⟩, rfl⟩
theorem keeps_step {r : Rate} {t : List Clip} {l : List UInt8} (k : keeps t) (h : lnCode r t l = 0) : keeps (t ++ [lnClip r l]) := by
  obtain ⟨_, _, _, h4⟩ := lnCode_zero h
  obtain ⟨a, b⟩ := join_keep k.2 h4
  exact ⟨b, a⟩
theorem readG_bad {r : Rate} {l : List UInt8} {ls : List (List UInt8)} {n : Nat} {t : List Clip} (h : lnCode r t l ≠ 0) : readG r (l :: ls) n t = ([], lnCode r t l, (n : Int)) := if_neg h
theorem readG_good {r : Rate} {l : List UInt8} {ls : List (List UInt8)} {n : Nat} {t : List Clip} (h : lnCode r t l = 0) : readG r (l :: ls) n t = readG r ls (n + 1) (t ++ [lnClip r l]) := if_pos h
theorem readL_rate {r : Rate} {x : List UInt8} (h : ¬ rateOk r) : readL r x = ([], 1, 0) := by unfold readL; rw [if_pos h]
theorem readL_long {r : Rate} {x : List UInt8} (h : rateOk r) (h1 : 20000 < x.length) : readL r x = ([], 2, 0) := by unfold readL; rw [if_neg fun q => q h, if_pos h1]
theorem readL_end {r : Rate} {x : List UInt8} (h : rateOk r) (h1 : ¬ 20000 < x.length) (h2 : ¬ endsNl x) : readL r x = ([], 3, 0) := by unfold readL; rw [if_neg fun q => q h, if_neg h1, if_pos h2]
theorem readL_go {r : Rate} {x : List UInt8} (h : rateOk r) (h1 : ¬ 20000 < x.length) (h2 : endsNl x) : readL r x = readG r (lin x) 0 [] := by unfold readL; rw [if_neg fun q => q h, if_neg h1, if_neg fun q => q h2]
theorem readG_facts {r : Rate} : ∀ (ls : List (List UInt8)) (n : Nat) (t : List Clip), keeps t → (readG r ls n t).2.1 = 0 ∧ keeps (readG r ls n t).1 ∧ (readG r ls n t).2.2 = 0 ∨ (readG r ls n t).2.1 ≠ 0 ∧ (readG r ls n t).1 = [] := by
  intro ls
  induction ls with
  | nil => intro n t k; exact .inl ⟨rfl, k, rfl⟩
  | cons l ls ih =>
    intro n t k
    by_cases c : lnCode r t l = 0
    · rw [readG_good c]; exact ih _ _ (keeps_step k c)
    · rw [readG_bad c]; exact .inr ⟨c, rfl⟩
theorem readL_facts (r : Rate) (x : List UInt8) : (readL r x).2.1 = 0 ∧ keeps (readL r x).1 ∧ (readL r x).2.2 = 0 ∨ (readL r x).2.1 ≠ 0 ∧ (readL r x).1 = [] := by
  by_cases a : rateOk r
  rotate_left
  · rw [readL_rate a]; exact .inr ⟨by simp, rfl⟩
  by_cases b : 20000 < x.length
  · rw [readL_long a b]; exact .inr ⟨by simp, rfl⟩
  by_cases c : endsNl x
  · rw [readL_go a b c]; exact readG_facts _ _ _ keeps_nil
  · rw [readL_end a b c]; exact .inr ⟨by simp, rfl⟩
end Go.Proofs.YtgmimgmdbpcecaaGreatDoor
end

section
namespace Go.Proofs.YtgmimgmdbpcecaaGreatDoor
open Go Go.Ah
set_option linter.unusedSimpArgs false
set_option linter.unusedVariables false
set_option maxRecDepth 10000
set_option maxHeartbeats 4000000
/-! Tracks as rows of frames -/
def frC (k : Clip) (d : Nat) : Clip := ⟨k.src, if k.src = 0 then k.inn else k.inn + d, 1⟩
def frsC (k : Clip) : List Clip := (List.range k.len.toNat).map (frC k)
def ex (l : List Clip) : List Clip := l.flatMap frsC
def wfC (k : Clip) : Prop := 1 ≤ k.len ∧ (k.src = 0 → k.inn = 0)
theorem clipOk.wf {k : Clip} (h : clipOk k) : wfC k := by simp only [clipOk] at h; exact ⟨by omega, by omega⟩
theorem joinStep_nil (k : Clip) : joinStep [] k = [k] := rfl
theorem joinStep_snoc (out : List Clip) (a k : Clip) : joinStep (out ++ [a]) k = if a.src = k.src ∧ (k.src = 0 ∨ a.inn + a.len = k.inn) then out ++ [⟨a.src, a.inn, a.len + k.len⟩] else out ++ [a] ++ [k] := by
  unfold joinStep
  have hl : (out ++ [a]).length - 1 = out.length := by simp
  have hg : (out ++ [a])[(out ++ [a]).length - 1]'(by simp) = a := by simp
  rw [dif_pos (by simp), hg]
  split
  · rw [hl, List.set_append_right _ _ (Nat.le_refl _)]; simp
  · rfl
theorem snoc_cases {α : Type} (l : List α) : l = [] ∨ ∃ a b, l = a ++ [b] := by
  rcases List.eq_nil_or_concat l with h | ⟨a, b, h⟩
  · exact .inl h
  · exact .inr ⟨a, b, by simpa using h⟩
theorem framesI_ok (k : Clip) (hk : clipOk k) : ∀ a ∈ frsC k, clipOk a := by
  intro a ha
  simp only [frsC, List.mem_map, List.mem_range] at ha
  obtain ⟨d, hd, rfl⟩ := ha
  simp only [clipOk, frC] at hk ⊢
  by_cases hg : k.src = 0
  · simp only [if_pos hg]; exact ⟨by omega, by omega, by omega, by omega, by omega, by omega, by omega, by omega⟩
  · simp only [if_neg hg]; exact ⟨by omega, by omega, by omega, by omega, by omega, by omega, by omega, Or.inl hg⟩
theorem framesI_add (a : Clip) (n : Int) (ha : 0 ≤ a.len) (hn : 0 ≤ n) : frsC ⟨a.src, a.inn, a.len + n⟩ = frsC a ++ frsC ⟨a.src, if a.src = 0 then a.inn else a.inn + a.len, n⟩ := by
  unfold frsC
  have : (a.len + n).toNat = a.len.toNat + n.toNat := by omega
  simp only [this, List.range_add, List.map_append, List.map_map]
  congr 1
  apply List.map_congr_left
  intro d _
  simp only [Function.comp, frC]
  by_cases hg : a.src = 0
  · simp [hg]
  · simp only [hg, if_false, Clip.mk.injEq, true_and, and_true]; omega
theorem joinStep_merge (out : List Clip) (K K1 : Clip) (h1 : K.src = K1.src) (h2 : K1.src = 0 ∨ K.inn + K.len = K1.inn) : joinStep (joinStep out K) K1 = joinStep out ⟨K.src, K.inn, K.len + K1.len⟩ := by
  rcases snoc_cases out with rfl | ⟨o, a, rfl⟩
  · rw [joinStep_nil, joinStep_nil]
    have := joinStep_snoc [] K K1
    rw [if_pos ⟨h1, h2⟩] at this
    simpa using this
  · rw [joinStep_snoc, joinStep_snoc]
    by_cases hf : a.src = K.src ∧ (K.src = 0 ∨ a.inn + a.len = K.inn)
    · rw [if_pos hf, if_pos hf, joinStep_snoc, if_pos ⟨by simp only; omega, by simp only; omega⟩]
      simp only [Int.add_assoc]
    · rw [if_neg hf, if_neg hf, joinStep_snoc, if_pos ⟨h1, h2⟩]
theorem expl_join (n : Nat) : ∀ (s i : Int) (out : List Clip), (frsC ⟨s, i, (n : Int) + 1⟩).foldl joinStep out = joinStep out ⟨s, i, (n : Int) + 1⟩ := by
  induction n with
  | zero =>
    intro s i out
    have : frsC ⟨s, i, ((0 : Nat) : Int) + 1⟩ = [⟨s, i, 1⟩] := by simp [frsC, frC, List.range_succ]
    rw [this]; simp
  | succ n ih =>
    intro s i out
    have h := framesI_add ⟨s, i, (n : Int) + 1⟩ 1 (by simp only; omega) (by omega)
    simp only at h
    have h1 : frsC ⟨s, if s = 0 then i else i + ((n : Int) + 1), 1⟩ = [⟨s, if s = 0 then i else i + ((n : Int) + 1), 1⟩] := by simp [frsC, frC, List.range_succ]
    rw [show (((n + 1 : Nat) : Int) + 1) = (n : Int) + 1 + 1 by omega, h, h1, List.foldl_append, ih]
    simp only [List.foldl_cons, List.foldl_nil]
    refine joinStep_merge out ⟨s, i, (n : Int) + 1⟩ _ rfl ?_
    by_cases hs : s = 0
    · exact .inl hs
    · right; simp only [hs, if_false]
theorem clip_join (k : Clip) (hk : wfC k) (out : List Clip) : (frsC k).foldl joinStep out = joinStep out k := by
  obtain ⟨s, i, len⟩ := k
  have h1 := hk.1
  simp only at h1
  obtain ⟨n, rfl⟩ : ∃ n : Nat, len = (n : Int) + 1 := ⟨(len - 1).toNat, by omega⟩
  exact expl_join n s i out
theorem ex_join (l : List Clip) (hl : ∀ k ∈ l, wfC k) : join (ex l) = join l := by
  have key : ∀ (l : List Clip), (∀ k ∈ l, wfC k) → ∀ out, (l.flatMap frsC).foldl joinStep out = l.foldl joinStep out := by
    intro l
    induction l with
    | nil => intro _ out; rfl
    | cons k l ih =>
      intro h out
      rw [List.flatMap_cons, List.foldl_append, clip_join k (h k (by simp)), ih (fun a ha => h a (by simp [ha]))]; rfl
  exact key l hl []
theorem join_eq_of_ex {A B : List Clip} (hA : ∀ k ∈ A, wfC k) (hB : ∀ k ∈ B, wfC k) (h : ex A = ex B) : join A = join B := by
  rw [← ex_join A hA, ← ex_join B hB, h]
theorem ex_append (a b : List Clip) : ex (a ++ b) = ex a ++ ex b := by simp [ex]
theorem ex_one (k : Clip) : ex [k] = frsC k := by simp [ex]
theorem joinStep_wf {out : List Clip} {k : Clip} (ho : ∀ a ∈ out, wfC a) (hk : wfC k) : (∀ a ∈ joinStep out k, wfC a) ∧ ex (joinStep out k) = ex out ++ frsC k ∧ sumLen (joinStep out k) = sumLen out + k.len := by
  rcases snoc_cases out with rfl | ⟨o, a, rfl⟩
  · rw [joinStep_nil]
    exact ⟨fun b hb => by simp at hb; subst hb; exact hk, by simp [ex], by simp [sumLen]⟩
  · rw [joinStep_snoc]
    have ha := ho a (by simp)
    have h1 := ha.1; have h2 := hk.1
    split
    · rename_i hf
      refine ⟨fun b hb => ?_, ?_, ?_⟩
      · simp only [List.mem_append, List.mem_singleton] at hb
        rcases hb with hb | rfl
        · exact ho b (by simp [hb])
        · exact ⟨by simp only; omega, ha.2⟩
      · rw [ex_append, ex_append, ex_one, ex_one, List.append_assoc, framesI_add a k.len (by omega) (by omega)]
        congr 2
        obtain ⟨s, i, len⟩ := k
        simp only at hf
        congr 1
        simp only [Clip.mk.injEq, and_true]
        refine ⟨hf.1, ?_⟩
        by_cases hg : a.src = 0
        · rw [if_pos hg, ha.2 hg]; exact (hk.2 (by simp only; omega)).symm
        · rw [if_neg hg]; omega
      · rw [sumLen_append, sumLen_append]; simp [sumLen]; omega
    · refine ⟨fun b hb => ?_, by rw [ex_append, ex_one], by rw [sumLen_append]; simp [sumLen]⟩
      simp only [List.mem_append, List.mem_singleton] at hb
      rcases hb with hb | rfl
      · exact ho b (by simpa using hb)
      · exact hk
theorem join_facts (l : List Clip) (hl : ∀ k ∈ l, wfC k) : (∀ a ∈ join l, wfC a) ∧ ex (join l) = ex l ∧ sumLen (join l) = sumLen l := by
  have key : ∀ (l : List Clip), (∀ k ∈ l, wfC k) → ∀ out, (∀ a ∈ out, wfC a) → (∀ a ∈ l.foldl joinStep out, wfC a) ∧ ex (l.foldl joinStep out) = ex out ++ ex l ∧ sumLen (l.foldl joinStep out) = sumLen out + sumLen l := by
    intro l
    induction l with
    | nil => intro _ out ho; exact ⟨ho, by simp [ex], by simp [sumLen]⟩
    | cons k l ih =>
      intro h out ho
      obtain ⟨s1, s2, s3⟩ := joinStep_wf ho (h k (by simp))
      obtain ⟨t1, t2, t3⟩ := ih (fun a ha => h a (by simp [ha])) (joinStep out k) s1
      refine ⟨t1, by rw [List.foldl_cons, t2, s2]; simp [ex], ?_⟩
      rw [List.foldl_cons, t3, s3]; simp [sumLen]; omega
  have := key l hl [] (by simp)
  refine ⟨this.1, by have := this.2.1; simpa [ex, join] using this, by have := this.2.2; simpa [sumLen, join] using this⟩
theorem join_idem (l : List Clip) (hl : ∀ k ∈ l, wfC k) : join (join l) = join l := by
  obtain ⟨h1, h2, _⟩ := join_facts l hl
  exact join_eq_of_ex h1 hl h2
theorem len_ex (l : List Clip) (hl : ∀ k ∈ l, wfC k) : ((ex l).length : Int) = sumLen l := by
  induction l with
  | nil => rfl
  | cons k l ih =>
    have h1 := (hl k (by simp)).1
    have h2 := ih (fun a ha => hl a (by simp [ha]))
    have : ex (k :: l) = frsC k ++ ex l := by simp [ex]
    rw [this, List.length_append]
    have h3 : (frsC k).length = k.len.toNat := by simp [frsC]
    have h4 : sumLen (k :: l) = k.len + sumLen l := by simp [sumLen]
    rw [h3, h4]; omega
theorem clipOk_of_frames {k : Clip} (h1 : 1 ≤ k.len) (h2 : k.len ≤ 10000000) (h : ∀ a ∈ frsC k, clipOk a) : clipOk k := by
  have m : ∀ d : Nat, d < k.len.toNat → clipOk (frC k d) := fun d hd => h _ (by simp only [frsC, List.mem_map, List.mem_range]; exact ⟨d, hd, rfl⟩)
  have a := m 0 (by omega)
  have b := m (k.len.toNat - 1) (by omega)
  simp only [clipOk, frC] at a b ⊢
  by_cases hg : k.src = 0
  · simp only [if_pos hg] at a b; exact ⟨h1, h2, by omega, by omega, by omega, by omega, by omega, by omega⟩
  · simp only [if_neg hg] at a b; exact ⟨h1, h2, by omega, by omega, by omega, by omega, by omega, Or.inl hg⟩
theorem len_le_sum (l : List Clip) (hl : ∀ k ∈ l, wfC k) : ∀ k ∈ l, k.len ≤ sumLen l ∧ 0 ≤ sumLen l := by
  have pos : ∀ l : List Clip, (∀ k ∈ l, wfC k) → 0 ≤ sumLen l := by
    intro l h; rw [← len_ex l h]; omega
  induction l with
  | nil => intro k hk; cases hk
  | cons a l ih =>
    intro k hk
    have h1 := (hl a (by simp)).1
    have h4 : sumLen (a :: l) = a.len + sumLen l := by simp [sumLen]
    have h5 := pos l (fun b hb => hl b (by simp [hb]))
    rcases List.mem_cons.mp hk with rfl | hk
    · omega
    · have := ih (fun b hb => hl b (by simp [hb])) k hk; omega
theorem join_ok (l : List Clip) (hl : ∀ k ∈ l, clipOk k) (hs : sumLen l ≤ 10000000) : ∀ k ∈ join l, clipOk k := by
  obtain ⟨h1, h2, h3⟩ := join_facts l (fun k hk => (hl k hk).wf)
  intro k hk
  refine clipOk_of_frames (h1 k hk).1 (by have := len_le_sum _ h1 k hk; omega) fun a ha => ?_
  have : a ∈ ex (join l) := by simp only [ex, List.mem_flatMap]; exact ⟨k, hk, ha⟩
  rw [h2] at this
  simp only [ex, List.mem_flatMap] at this
  obtain ⟨b, hb, hab⟩ := this
  exact framesI_ok b (hl b hb) a hab
theorem trackOk_join {l : List Clip} (h : trackOk l) : trackOk (join l) :=
  ⟨Nat.le_trans (join_length l) h.1, join_ok l h.2.1 h.2.2, by rw [(join_facts l (fun k hk => (h.2.1 k hk).wf)).2.2]; exact h.2.2⟩
end Go.Proofs.YtgmimgmdbpcecaaGreatDoor
end

section
namespace Go.Proofs.YtgmimgmdbpcecaaGreatDoor
open Go Go.Ah
set_option linter.unusedSimpArgs false
set_option linter.unusedVariables false
set_option maxRecDepth 10000
set_option maxHeartbeats 4000000
/-! ### Words, glued -/
theorem spl_app (q : List UInt8) : ∀ p : List UInt8, (32 : UInt8) ∉ p → spl (p ++ 32 :: q) = p :: spl q := by
  intro p
  induction p with
  | nil => intro _; rw [List.nil_append, spl_nl]
  | cons b p ih =>
    intro h
    rw [List.mem_cons, not_or] at h
    rw [List.cons_append, spl_cons (fun e => h.1 e.symm) (ih h.2)]
theorem spl_one : ∀ p : List UInt8, (32 : UInt8) ∉ p → spl p = [p] := by
  intro p
  induction p with
  | nil => intro _; rfl
  | cons b p ih =>
    intro h
    rw [List.mem_cons, not_or] at h
    rw [spl_cons (fun e => h.1 e.symm) (ih h.2)]
def glue : List (List UInt8) → List UInt8
  | [] => []
  | [p] => p
  | p :: q :: r => p ++ 32 :: glue (q :: r)
theorem glue_cons (p : List UInt8) {r : List (List UInt8)} (h : r ≠ []) : glue (p :: r) = p ++ 32 :: glue r := by
  cases r with
  | nil => exact absurd rfl h
  | cons q r => rfl
theorem glue_spl : ∀ l : List UInt8, glue (spl l) = l := by
  intro l
  induction l with
  | nil => rfl
  | cons b t ih =>
    obtain ⟨h, r, e⟩ := spl_ne t
    by_cases hb : b = 32
    · subst hb
      rw [spl_nl, glue_cons [] (by rw [e]; simp), ih]; rfl
    · rw [spl_cons hb e]
      rw [e] at ih
      cases r with
      | nil => rw [← ih]; rfl
      | cons q r =>
        rw [← ih]; rfl
theorem spl_glue : ∀ W : List (List UInt8), W ≠ [] → (∀ w ∈ W, (32 : UInt8) ∉ w) → spl (glue W) = W := by
  intro W
  induction W with
  | nil => intro h; exact absurd rfl h
  | cons p r ih =>
    intro _ h
    have hp := h p (by simp)
    cases r with
    | nil => exact spl_one p hp
    | cons q r =>
      rw [glue_cons p (by simp), spl_app _ _ hp, ih (by simp) (fun w hw => h w (by simp [hw]))]
theorem glue_no : ∀ W : List (List UInt8), (∀ w ∈ W, (10 : UInt8) ∉ w) → (10 : UInt8) ∉ glue W := by
  intro W
  induction W with
  | nil => intro _ h; cases h
  | cons p r ih =>
    intro h hm
    have hp := h p (by simp)
    cases r with
    | nil => exact hp hm
    | cons q r =>
      rw [glue_cons p (by simp), List.mem_append, List.mem_cons] at hm
      rcases hm with hm | hm | hm
      · exact hp hm
      · cases hm
      · exact ih (fun w hw => h w (by simp [hw])) hm
/-! ### Times, there and back -/
theorem valD_zeros (l : List UInt8) : ∀ m : Nat, valD (List.replicate m 48 ++ l) = valD l := by
  intro m
  induction m with
  | zero => rfl
  | succ m ih => rw [List.replicate_succ, List.cons_append, ← ih]; rfl
theorem valD_padL (k n : Nat) : valD (padL k (digs n)) = n := by
  unfold padL
  rw [valD_zeros, valD_digs]
theorem isD48 : isD 48 := by unfold isD; decide
theorem padL_all (k n : Nat) : ∀ b ∈ padL k (digs n), isD b := by
  intro b hb
  unfold padL at hb
  rcases List.mem_append.mp hb with hb | hb
  · rw [List.eq_of_mem_replicate hb]; exact isD48
  · exact digs_all n b hb
theorem padL_two {n : Nat} (h : n ≤ 99) : ∃ a b, padL 2 (digs n) = [a, b] ∧ isD a ∧ isD b ∧ 10 * (a.toNat - 48) + (b.toNat - 48) = n := by
  have h1 := digs_len 1 n (by omega)
  have h2 := padL_len 2 (digs n)
  have h3 := padL_all 2 n
  have h4 := valD_padL 2 n
  have h5 : (padL 2 (digs n)).length = 2 := by omega
  generalize padL 2 (digs n) = l at *
  match l, h5 with
  | [a, b], _ =>
    refine ⟨a, b, rfl, h3 a (by simp), h3 b (by simp), ?_⟩
    rw [← h4]; simp [valD, stepD']
theorem told_back {r : Rate} (hr : rateOk r) {f : Nat} (hf : f ≤ 10000000) : toldN r f - leftN r * (toldN r f / baseN r / 60 - toldN r f / baseN r / 60 / 10) = f ∧ leftN r * (toldN r f / baseN r / 60 - toldN r f / baseN r / 60 / 10) ≤ toldN r f := by
  cases hd : r.drop with
  | false =>
    have h0 : leftN r = 0 := by unfold leftN; rw [hd]; rfl
    have h1 : toldN r f = f := by unfold toldN; rw [h0, hd]; simp
    rw [h0, h1]; simp
  | true =>
    rcases drop_two hr hd with ⟨h1, h2⟩ | ⟨h1, h2⟩
    · have h3 : toldN r f = f + 18 * (f / 17982) + (if 1800 ≤ f % 17982 then 2 * (1 + (f % 17982 - 1800) / 1798) else 0) := by
        unfold toldN; rw [h1, h2, hd]; simp
      rw [h3, h1, h2]
      obtain ⟨q, hq⟩ : ∃ q, q = f / 17982 := ⟨_, rfl⟩
      obtain ⟨m, hm⟩ : ∃ m, m = f % 17982 := ⟨_, rfl⟩
      rw [← hq, ← hm]
      have hf2 : f = 17982 * q + m ∧ m < 17982 := by omega
      split
      · obtain ⟨c, hc⟩ : ∃ c, c = (m - 1800) / 1798 := ⟨_, rfl⟩
        obtain ⟨d, hd2⟩ : ∃ d, d = (m - 1800) % 1798 := ⟨_, rfl⟩
        rw [← hc]
        have hc2 : m = 1800 + 1798 * c + d ∧ d < 1798 ∧ c ≤ 8 := by omega
        have hM : (f + 18 * q + 2 * (1 + c)) / 30 / 60 = 10 * q + 1 + c := by omega
        rw [hM]; omega
      · have hM : (f + 18 * q + 0) / 30 / 60 = 10 * q := by omega
        rw [hM]; omega
    · have h3 : toldN r f = f + 36 * (f / 35964) + (if 3600 ≤ f % 35964 then 4 * (1 + (f % 35964 - 3600) / 3596) else 0) := by
        unfold toldN; rw [h1, h2, hd]; simp
      rw [h3, h1, h2]
      obtain ⟨q, hq⟩ : ∃ q, q = f / 35964 := ⟨_, rfl⟩
      obtain ⟨m, hm⟩ : ∃ m, m = f % 35964 := ⟨_, rfl⟩
      rw [← hq, ← hm]
      have hf2 : f = 35964 * q + m ∧ m < 35964 := by omega
      split
      · obtain ⟨c, hc⟩ : ∃ c, c = (m - 3600) / 3596 := ⟨_, rfl⟩
        obtain ⟨d, hd2⟩ : ∃ d, d = (m - 3600) % 3596 := ⟨_, rfl⟩
        rw [← hc]
        have hc2 : m = 3600 + 3596 * c + d ∧ d < 3596 ∧ c ≤ 8 := by omega
        have hM : (f + 36 * q + 4 * (1 + c)) / 60 / 60 = 10 * q + 1 + c := by omega
        rw [hM]; omega
      · have hM : (f + 36 * q + 0) / 60 / 60 = 10 * q := by omega
        rw [hM]; omega
end Go.Proofs.YtgmimgmdbpcecaaGreatDoor
end

section
namespace Go.Proofs.YtgmimgmdbpcecaaGreatDoor
open Go Go.Ah
set_option linter.unusedSimpArgs false
set_option linter.unusedVariables false
set_option maxRecDepth 10000
set_option maxHeartbeats 4000000
theorem digOk_two {a b : UInt8} (ha : isD a) (hb : isD b) : digOk [a, b] := ⟨by simp, by simp, by intro x hx; simp only [List.mem_cons, List.not_mem_nil, or_false] at hx; rcases hx with rfl | rfl <;> assumption⟩
theorem time_back {r : Rate} (hr : rateOk r) {f : Int} (h : timeL r f ≠ []) : frameI r (timeL r f) = f ∧ timeOkL r (timeL r f) ∧ (0 ≤ f ∧ f ≤ 10000000) ∧ ∀ b ∈ timeL r f, isD b ∨ b = 58 ∨ b = 59 := by
  by_cases hf : 0 ≤ f ∧ f ≤ 10000000
  rotate_left
  · exact absurd (if_neg fun q => hf q.2) h
  by_cases h99 : 99 < toldN r f.toNat / baseN r / 3600
  · exfalso; apply h; unfold timeL; rw [if_pos ⟨hr, hf⟩, if_pos h99]
  have ht : timeL r f = timeN (baseN r) (toldN r f.toNat) (if r.drop = true then 59 else 58) (if 100 < baseN r then 3 else 2) := by unfold timeL; rw [if_pos ⟨hr, hf⟩, if_neg h99]
  obtain ⟨_, b1, b2⟩ := base_bd hr
  obtain ⟨tb1, tb2⟩ := told_back hr (f := f.toNat) (by omega)
  have hmk : (if r.drop = true then (59 : UInt8) else 58) = 58 ∨ (if r.drop = true then (59 : UInt8) else 58) = 59 := by split <;> simp
  generalize (if r.drop = true then (59 : UInt8) else 58) = mk at ht hmk
  obtain ⟨w, hw⟩ : ∃ w, w = (if 100 < baseN r then 3 else 2) := ⟨_, rfl⟩
  rw [← hw] at ht
  have e1 : toldN r f.toNat / baseN r * baseN r + toldN r f.toNat % baseN r = toldN r f.toNat := Nat.div_add_mod' _ _
  have e2 := Nat.mod_lt (toldN r f.toNat) (show baseN r > 0 by omega)
  have key : frameI r (timeL r f) = f ∧ (11 ≤ (timeL r f).length ∧ (timeL r f).length ≤ 12) ∧ (∀ g ∈ fieldsL (timeL r f), digOk g) ∧ ∀ b ∈ timeL r f, isD b ∨ b = 58 ∨ b = 59 := by
    rw [ht]
    unfold timeN frameI
    generalize toldN r f.toNat = T at *
    generalize baseN r = B at *
    generalize hX : T / B = X at *
    generalize hF : T % B = F at *
    obtain ⟨a1, a2, ea, ia1, ia2, va⟩ := padL_two (n := X / 3600) (by omega)
    obtain ⟨c1, c2, ec, ic1, ic2, vc⟩ := padL_two (n := X / 60 % 60) (by omega)
    obtain ⟨d1, d2, ed, id1, id2, vd⟩ := padL_two (n := X % 60) (by omega)
    have gl := padL_len w (digs F)
    have ga := padL_all w F
    have gv := valD_padL w F
    have gd : (digs F).length ≤ w := by
      rw [hw]
      split
      · exact digs_len 2 F (by omega)
      · exact digs_len 1 F (by omega)
    have gw : w = 2 ∨ w = 3 := by rw [hw]; split <;> simp
    generalize padL w (digs F) = D at *
    have hlD : D.length = w := by omega
    rw [ea, ec, ed]
    have v1 : valD [a1, a2] = X / 3600 := by rw [← va]; simp [valD, stepD']
    have v2 : valD [c1, c2] = X / 60 % 60 := by rw [← vc]; simp [valD, stepD']
    have v3 : valD [d1, d2] = X % 60 := by rw [← vd]; simp [valD, stepD']
    have f0 : ([a1, a2] ++ [58] ++ [c1, c2] ++ [58] ++ [d1, d2] ++ [mk] ++ D : List UInt8) = a1 :: a2 :: 58 :: c1 :: c2 :: 58 :: d1 :: d2 :: mk :: D := rfl
    rw [f0]
    refine ⟨?_, ?_, ?_, ?_⟩
    · unfold minuteN
      simp only [List.take_succ_cons, List.take_zero, List.drop_succ_cons, List.drop_zero, v1, v2, v3, gv]
      have m1 : 60 * (X / 3600) + X / 60 % 60 = X / 60 := by omega
      have m2 : 60 * (X / 60) + X % 60 = X := by omega
      rw [m1, m2, e1]
      omega
    · simp only [List.length_cons]; omega
    · intro g hg
      simp only [fieldsL, List.take_succ_cons, List.take_zero, List.drop_succ_cons, List.drop_zero, List.mem_cons, List.not_mem_nil, or_false] at hg
      rcases hg with rfl | rfl | rfl | rfl
      · exact digOk_two ia1 ia2
      · exact digOk_two ic1 ic2
      · exact digOk_two id1 id2
      · refine ⟨?_, by omega, ga⟩
        intro q; rw [q] at hlD; simp at hlD; omega
    · intro b hb
      simp only [List.mem_cons] at hb
      rcases hb with rfl | rfl | rfl | rfl | rfl | rfl | rfl | rfl | rfl | hb
      · exact .inl ia1
      · exact .inl ia2
      · exact .inr (.inl rfl)
      · exact .inl ic1
      · exact .inl ic2
      · exact .inr (.inl rfl)
      · exact .inl id1
      · exact .inl id2
      · exact .inr hmk
      · exact .inl (ga b hb)
  exact ⟨key.1, ⟨hr, key.2.1, key.2.2.1, by rw [key.1]⟩, hf, key.2.2.2⟩
/-! ### A line of a list, there and back -/
def W7 (r : Rate) (k : Nat) (c : Clip) (at' : Int) : List (List UInt8) :=
  [padL 3 (digs (k + 1)), namedL c, [67], timeL r c.inn, timeL r (IntKind.i64.wrap (c.inn + c.len)), timeL r at', timeL r (IntKind.i64.wrap (at' + c.len))]
theorem lineL_glue {r : Rate} {k : Nat} {c : Clip} {at' : Int} (h : ∀ f ∈ frames c at', timeL r f ≠ []) : lineL r k c at' = glue (W7 r k c at') ++ [10] := by
  have h1 := h c.inn (by simp [frames])
  have h2 := h (IntKind.i64.wrap (c.inn + c.len)) (by simp [frames])
  have h3 := h at' (by simp [frames])
  have h4 := h (IntKind.i64.wrap (at' + c.len)) (by simp [frames])
  unfold lineL W7
  rw [if_neg (by rintro (q | q | q | q) <;> contradiction)]
  simp [glue]
theorem lineL_frames {r : Rate} {k : Nat} {c : Clip} {at' : Int} (h : lineL r k c at' ≠ []) : ∀ f ∈ frames c at', timeL r f ≠ [] := fun f hf q => h (lineL_none hf q)
theorem isD_no {b : UInt8} (h : isD b ∨ b = 58 ∨ b = 59) : b ≠ 32 ∧ b ≠ 10 := by
  refine ⟨?_, ?_⟩ <;> (rintro rfl; rcases h with h | h | h)
  · unfold isD at h; revert h; decide
  · cases h
  · cases h
  · unfold isD at h; revert h; decide
  · cases h
  · cases h
theorem named_ok' {c : Clip} (hs : 0 ≤ c.src ∧ c.src ≤ 500) : srcOk (namedL c) ∧ srcV' (namedL c) = c.src ∧ ∀ b ∈ namedL c, b ≠ 32 ∧ b ≠ 10 := by
  unfold namedL
  by_cases h0 : c.src = 0
  · rw [if_pos h0]
    refine ⟨.inl rfl, by rw [h0]; rfl, by decide⟩
  · rw [if_neg h0]
    generalize hn : c.src.toNat = n
    have hb : ¬ hp 45 (digs n) := by
      intro q
      have q1 := hp_cons q
      have := digs_all n 45 (by rw [q1]; simp)
      unfold isD at this; revert this; decide
    have bd : bodyL (digs n) = digs n := if_neg hb
    have vv : numV (digs n) = n := by unfold numV; rw [if_neg hb, bd, valD_digs]
    have hl := digs_len 2 n (by omega)
    have hpz := digs_pos n
    have hok : numOk (digs n) := by
      refine ⟨?_, .inl ?_⟩
      · rw [bd]; exact ⟨by intro q; rw [q] at hpz; simp at hpz, by omega, digs_all n⟩
      · rw [bd]; exact digs_head (by omega)
    have hd : (82 :: digs n : List UInt8).drop 1 = digs n := rfl
    refine ⟨.inr ⟨rfl, by rw [hd]; exact hok, by rw [hd, vv]; omega, by rw [hd, vv]; omega⟩, ?_, ?_⟩
    · unfold srcV'; rw [if_neg (by simp), hd, vv]; omega
    · intro b hb'
      rcases List.mem_cons.mp hb' with rfl | hb'
      · decide
      · exact isD_no (.inl (digs_all n b hb'))
theorem W7_clean {r : Rate} (hr : rateOk r) {k : Nat} {c : Clip} {at' : Int} (hs : 0 ≤ c.src ∧ c.src ≤ 500) (h : ∀ f ∈ frames c at', timeL r f ≠ []) : ∀ w ∈ W7 r k c at', w ≠ [] ∧ ∀ b ∈ w, b ≠ 32 ∧ b ≠ 10 := by
  have tm : ∀ f ∈ frames c at', timeL r f ≠ [] ∧ ∀ b ∈ timeL r f, b ≠ 32 ∧ b ≠ 10 := fun f hf => ⟨h f hf, fun b hb => isD_no ((time_back hr (h f hf)).2.2.2 b hb)⟩
  intro w hw
  simp only [W7, List.mem_cons, List.not_mem_nil, or_false] at hw
  rcases hw with rfl | rfl | rfl | rfl | rfl | rfl | rfl
  · refine ⟨?_, fun b hb => isD_no (.inl (padL_all _ _ b hb))⟩
    intro q
    have := padL_len 3 (digs (k + 1)); rw [q] at this; simp at this; omega
  · refine ⟨?_, (named_ok' hs).2.2⟩
    unfold namedL; split <;> simp
  · exact ⟨by simp, by decide⟩
  · exact tm _ (by simp [frames])
  · exact tm _ (by simp [frames])
  · exact tm _ (by simp [frames])
  · exact tm _ (by simp [frames])
theorem wd_of {l : List UInt8} {a b c d e f g : List UInt8} (h : spl l = [a, b, c, d, e, f, g]) : wd l 0 = a ∧ wd l 1 = b ∧ wd l 2 = c ∧ wd l 3 = d ∧ wd l 4 = e ∧ wd l 5 = f ∧ wd l 6 = g := by
  unfold wd; rw [h]; exact ⟨rfl, rfl, rfl, rfl, rfl, rfl, rfl⟩
theorem words_good' {l : List UInt8} {W : List (List UInt8)} {P : List UInt8 → Prop} (h : spl l = W) (cl : ∀ w ∈ W, w ≠ [] ∧ P w) (h7 : W.length = 7) : ¬ lnWordsBad l := by
  rintro (⟨p, hp, e⟩ | q)
  · rw [h] at hp; exact (cl p hp).1 e
  · rw [h] at q; exact q h7
/-- A line that is shown is read back. -/
theorem line_read {r : Rate} (hr : rateOk r) {t : List Clip} {c : Clip} (hc : clipOk c) (hj : ¬ lnJoinBad t c) (hst : 0 ≤ sumLen t ∧ sumLen t + c.len ≤ 10000000) (h : ∀ f ∈ frames c (sumLen t), timeL r f ≠ []) :
    lnCode r t (glue (W7 r t.length c (sumLen t))) = 0 ∧ lnClip r (glue (W7 r t.length c (sumLen t))) = c := by
  have hs : 0 ≤ c.src ∧ c.src ≤ 500 := by unfold clipOk at hc; omega
  have cl := W7_clean hr (k := t.length) hs h
  have hsp := spl_glue (W7 r t.length c (sumLen t)) (by simp [W7]) (fun w hw q => ((cl w hw).2 32 q).1 rfl)
  generalize hL : glue (W7 r t.length c (sumLen t)) = L at *
  obtain ⟨w0, w1, w2, w3, w4, w5, w6⟩ := wd_of hsp
  have u1 : IntKind.i64.wrap (c.inn + c.len) = c.inn + c.len := i64w (by unfold clipOk at hc; omega)
  have u2 : IntKind.i64.wrap (sumLen t + c.len) = sumLen t + c.len := i64w (by unfold clipOk at hc; omega)
  have t3 := time_back hr (h c.inn (by simp [frames]))
  have t4 := time_back hr (h (IntKind.i64.wrap (c.inn + c.len)) (by simp [frames]))
  have t5 := time_back hr (h (sumLen t) (by simp [frames]))
  have t6 := time_back hr (h (IntKind.i64.wrap (sumLen t + c.len)) (by simp [frames]))
  rw [← w3] at t3
  rw [← w4, u1] at t4
  rw [← w5] at t5
  rw [← w6, u2] at t6
  obtain ⟨n1, n2, _⟩ := named_ok' hs
  rw [← w1] at n1 n2
  have hcl : lnClip r L = c := by
    unfold lnClip
    rw [n2, t3.1, t4.1]
    cases c; simp; omega
  have good : LnOk r t L := ⟨words_good' hsp cl rfl, w0, ⟨n1, w2⟩, t3.2.1, t4.2.1, t5.2.1, t6.2.1⟩
  refine ⟨lnCode_good good (by rw [hcl]; exact hc) ⟨t5.1, ?_⟩ (by rw [hcl]; exact hj), hcl⟩
  rw [t6.1, t5.1, hcl]; omega
end Go.Proofs.YtgmimgmdbpcecaaGreatDoor
end

section
namespace Go.Proofs.YtgmimgmdbpcecaaGreatDoor
open Go Go.Ah
set_option linter.unusedSimpArgs false
set_option linter.unusedVariables false
set_option maxRecDepth 10000
set_option maxHeartbeats 4000000
/-! ### Joined tracks, their beginnings -/
theorem fold_len : ∀ (l out : List Clip), (l.foldl joinStep out).length ≤ out.length + l.length := by
  intro l; induction l with
  | nil => intro out; simp
  | cons k l ih => intro out; have h1 := joinStep_length out k; have h2 := ih (joinStep out k); simp only [List.foldl_cons, List.length_cons]; omega
theorem joinStep_two (out : List Clip) (k : Clip) : joinStep out k = out ++ [k] ∨ (joinStep out k).length ≤ out.length := by
  unfold joinStep
  split
  · split
    · right; simp
    · left; rfl
  · left; rfl
theorem join_prefix {J : List Clip} (h : join J = J) : ∀ i, i ≤ J.length → join (J.take i) = J.take i := by
  intro i
  induction i with
  | zero => intro _; rfl
  | succ i ih =>
    intro hi
    rw [join_take J i (by omega), ih (by omega), List.take_succ_eq_append_getElem (by omega)]
    rcases joinStep_two (J.take i) J[i] with q | q
    · exact q
    · exfalso
      have e : join J = (J.drop (i + 1)).foldl joinStep (join (J.take (i + 1))) := by
        unfold join; rw [← List.foldl_append, List.take_append_drop]
      have h1 := fold_len (J.drop (i + 1)) (join (J.take (i + 1)))
      rw [← e, h, join_take J i (by omega), ih (by omega)] at h1
      simp only [List.length_take, List.length_drop] at h1 q
      omega
theorem sum_take_le {J : List Clip} (h : ∀ k ∈ J, clipOk k) (i : Nat) : 0 ≤ sumLen (J.take i) ∧ sumLen (J.take i) ≤ sumLen J := by
  have h1 := (sumLen_bound (l := J.take i) fun k hk => h k (List.mem_of_mem_take hk)).1
  have h2 := (sumLen_bound (l := J.drop i) fun k hk => h k (List.mem_of_mem_drop hk)).1
  have h3 := sumLen_append (J.take i) (J.drop i)
  rw [List.take_append_drop] at h3
  omega
theorem trackOk_take {J : List Clip} (h : trackOk J) (i : Nat) : trackOk (J.take i) :=
  ⟨by rw [List.length_take]; have := h.1; omega, fun k hk => h.2.1 k (List.mem_of_mem_take hk), by have := (sum_take_le h.2.1 i).2; have := h.2.2; omega⟩
theorem atN_sum {J : List Clip} (h : trackOk J) : ∀ i, i ≤ J.length → atN J i = sumLen (J.take i) := by
  intro i
  induction i with
  | zero => intro _; rfl
  | succ i ih =>
    intro hi
    have h1 := sum_take_le h.2.1 (i + 1)
    have h2 := h.2.2
    rw [atN_succ (by omega), ih (by omega), sumLen_take J i (by omega)]
    rw [sumLen_take J i (by omega)] at h1
    exact i64w (by omega)
/-! ### What is shown is read -/
theorem line_no {r : Rate} (hr : rateOk r) {k : Nat} {c : Clip} {at' : Int} (hs : 0 ≤ c.src ∧ c.src ≤ 500) (h : ∀ f ∈ frames c at', timeL r f ≠ []) : (10 : UInt8) ∉ glue (W7 r k c at') :=
  glue_no _ fun w hw q => ((W7_clean hr hs h w hw).2 10 q).2 rfl
theorem shown_lines {r : Rate} (hr : rateOk r) {J : List Clip} (hJ : trackOk J) (hj : join J = J) (A : ∀ j, j < J.length → lnN r J j ≠ []) : ∀ m i, i + m = J.length → readG r (lin ((List.range' i m).flatMap (lnN r J))) i (J.take i) = (J, 0, 0) := by
  intro m
  induction m with
  | zero =>
    intro i hi
    rw [List.range'_zero, List.flatMap_nil, List.take_of_length_le (by omega)]; rfl
  | succ m ih =>
    intro i hi
    have hi2 : i < J.length := by omega
    have a := A i hi2
    have e := atN_sum hJ i (by omega)
    have ck := hJ.2.1 _ (List.getElem_mem hi2)
    have hs : 0 ≤ J[i].src ∧ J[i].src ≤ 500 := by unfold clipOk at ck; omega
    have h1 := sum_take_le hJ.2.1 (i + 1)
    rw [sumLen_take J i hi2] at h1
    have h0 := sum_take_le hJ.2.1 i
    have h2 := hJ.2.2
    have hlt : (J.take i).length = i := by rw [List.length_take]; omega
    have hsn : J.take i ++ [J[i]] = J.take (i + 1) := (List.take_succ_eq_append_getElem hi2).symm
    rw [lnN_eq hi2, e] at a
    have fr := lineL_frames a
    have nb : ¬ lnJoinBad (J.take i) J[i] := by
      intro q
      rcases (joinBad_iff (join_prefix hj i (by omega)) J[i]).mpr q with q | q
      · rw [hsn, join_prefix hj (i + 1) (by omega)] at q; exact q rfl
      · rw [hsn] at q; exact q (trackOk_take hJ (i + 1))
    have L := line_read hr (t := J.take i) ck nb ⟨h0.1, by omega⟩ fr
    rw [hlt] at L
    rw [List.range'_succ, List.flatMap_cons, lnN_eq hi2, e, lineL_glue fr, List.append_assoc, List.singleton_append, lin_app _ _ (line_no hr hs fr), readG_good L.1, L.2, hsn]
    exact ih (i + 1) (by omega)
theorem shown_read {r : Rate} {t : List Clip} (hs : showL r t ≠ []) (hl : (showL r t).length ≤ 20000) : readL r (showL r t) = (join t, 0, 0) := by
  by_cases ok : rateOk r ∧ trackOk t
  rotate_left
  · exact absurd (showL_bad ok) hs
  have hr := ok.1
  have hJ := trackOk_join ok.2
  have hj := join_idem t fun k hk => (ok.2.2.1 k hk).wf
  have A : ∀ j, j < (join t).length → lnN r (join t) j ≠ [] := fun j hj e => hs (showL_none ok hj e)
  have hsh := showL_some ok A
  generalize hJJ : join t = J at *
  have en : endsNl (showL r t) := by
    rw [hsh]
    cases hn : J.length with
    | zero => exact .inl rfl
    | succ m =>
      right
      have hm : m < J.length := by omega
      have a := A m hm
      rw [outN_succ]
      rw [lnN_eq hm] at a ⊢
      rw [lineL_glue (lineL_frames a), ← List.append_assoc, List.getLast?_append]; rfl
  rw [readL_go hr (by omega) en, hsh]
  have := shown_lines hr hJ hj A J.length 0 (by omega)
  rw [← List.range_eq_range'] at this
  exact this
/-! ### What is read is shown -/
theorem list7 {α : Type} (d : α) {l : List α} (h : l.length = 7) : l = [l.getD 0 d, l.getD 1 d, l.getD 2 d, l.getD 3 d, l.getD 4 d, l.getD 5 d, l.getD 6 d] := by
  match l, h with
  | [a, b, c, e, f, g, i], _ => rfl
theorem named_back {w : List UInt8} (h : srcOk w) {c : Clip} (hc : c.src = srcV' w) : namedL c = w := by
  unfold namedL
  rw [hc]
  rcases h with h | ⟨h1, h2, h3, h4⟩
  · rw [h]; rfl
  · have e := hp_cons h1
    have hne : w ≠ [66, 76] := by intro q; rw [q] at e; cases e
    have hv : srcV' w = numV (w.drop 1) := if_neg hne
    have hi := (num_iff h2.1).mpr h2.2
    rw [hv, if_neg (by omega)]
    generalize w.drop 1 = u at *
    obtain ⟨n, hn⟩ : ∃ n : Nat, numV u = (n : Int) := ⟨(numV u).toNat, by omega⟩
    rw [hn] at hi ⊢
    have hd : digs n = u := by
      rw [← hi]
      have := congrArg (fun b => b.data.toList) (itoa_nat n)
      exact this.symm
    rw [Int.toNat_natCast, hd, e]
theorem time_ne {r : Rate} {l : List UInt8} (h : timeOkL r l) : timeL r (frameI r l) = l ∧ l ≠ [] :=
  ⟨h.2.2.2, by intro q; have := h.2.1; rw [q] at this; simp at this⟩
theorem line_shown {r : Rate} {t : List Clip} {l : List UInt8} (h : lnCode r t l = 0) : lineL r t.length (lnClip r l) (sumLen t) = l ++ [10] ∧ lineL r t.length (lnClip r l) (sumLen t) ≠ [] := by
  obtain ⟨⟨hw, hn, ⟨hs, hC⟩, t3, t4, t5, t6⟩, hc, ⟨p5, p6⟩, _⟩ := lnCode_zero h
  have b3 := frameI_bd t3
  have b4 := frameI_bd t4
  have b5 := frameI_bd t5
  have b6 := frameI_bd t6
  have u1 : IntKind.i64.wrap ((lnClip r l).inn + (lnClip r l).len) = frameI r (wd l 4) := i64e (by show frameI r (wd l 3) + (frameI r (wd l 4) - frameI r (wd l 3)) = _; omega) (by omega)
  have hlen : (lnClip r l).len = frameI r (wd l 4) - frameI r (wd l 3) := rfl
  have u2 : IntKind.i64.wrap (sumLen t + (lnClip r l).len) = frameI r (wd l 6) := i64e (by omega) (by omega)
  have h7 : (spl l).length = 7 := Classical.byContradiction fun q => hw (.inr q)
  have hsp := list7 [] h7
  have q3 := time_ne t3
  have q4 := time_ne t4
  have q5 := time_ne t5
  have q6 := time_ne t6
  have hW : W7 r t.length (lnClip r l) (sumLen t) = spl l := by
    rw [hsp]
    unfold W7
    rw [u1, u2, ← p5]
    show [padL 3 (digs (t.length + 1)), namedL (lnClip r l), [67], timeL r (frameI r (wd l 3)), timeL r (frameI r (wd l 4)), timeL r (frameI r (wd l 5)), timeL r (frameI r (wd l 6))] = [wd l 0, wd l 1, wd l 2, wd l 3, wd l 4, wd l 5, wd l 6]
    rw [q3.1, q4.1, q5.1, q6.1, ← hn, hC, named_back hs rfl]
  have fr : ∀ f ∈ frames (lnClip r l) (sumLen t), timeL r f ≠ [] := by
    intro f hf
    simp only [frames, u1, u2, List.mem_cons, List.not_mem_nil, or_false] at hf
    rcases hf with rfl | rfl | rfl | rfl
    · show timeL r (frameI r (wd l 3)) ≠ []
      rw [q3.1]; exact q3.2
    · rw [q4.1]; exact q4.2
    · rw [← p5, q5.1]; exact q5.2
    · rw [q6.1]; exact q6.2
  have e := lineL_glue (k := t.length) fr
  rw [hW, glue_spl] at e
  exact ⟨e, by rw [e]; simp⟩
theorem lnN_app (r : Rate) (t s : List Clip) {j : Nat} (hj : j < t.length) : lnN r (t ++ s) j = lnN r t j := by
  unfold lnN atN
  rw [List.take_append_of_le_length (by omega), List.getD, List.getD, List.getElem?_append_left hj]
theorem outN_app (r : Rate) (t s : List Clip) : ∀ i, i ≤ t.length → outN r (t ++ s) i = outN r t i := by
  intro i
  induction i with
  | zero => intro _; rfl
  | succ i ih => intro hi; rw [outN_succ, outN_succ, ih (by omega), lnN_app r t s (by omega)]
theorem read_lines {r : Rate} : ∀ (ls : List (List UInt8)) (y : List UInt8) (t : List Clip), lin y = ls → endsNl y → keeps t → (readG r ls t.length t).2.1 = 0 → (∀ j, j < t.length → lnN r t j ≠ []) →
    (∀ j, j < (readG r ls t.length t).1.length → lnN r (readG r ls t.length t).1 j ≠ []) ∧ outN r (readG r ls t.length t).1 (readG r ls t.length t).1.length = outN r t t.length ++ y := by
  intro ls
  induction ls with
  | nil =>
    intro y t hl hy kp _ A
    have : y = [] := by
      refine Classical.byContradiction fun q => ?_
      obtain ⟨p, q', rfl, hp⟩ := first_nl y (endsNl_mem hy q)
      rw [lin_app q' p hp] at hl; cases hl
    subst this
    exact ⟨A, by rw [List.append_nil]; rfl⟩
  | cons l ls ih =>
    intro y t hl hy kp h0 A
    have yne : y ≠ [] := by intro q; rw [q] at hl; cases hl
    obtain ⟨p, q, rfl, hp⟩ := first_nl y (endsNl_mem hy yne)
    rw [lin_app q p hp] at hl
    obtain ⟨rfl, hq⟩ := List.cons.inj hl
    have cz : lnCode r t p = 0 := by
      refine Classical.byContradiction fun c => ?_
      rw [readG_bad c] at h0; exact c h0
    rw [readG_good cz] at h0 ⊢
    obtain ⟨s1, s2⟩ := line_shown cz
    have k2 := keeps_step kp cz
    have hl2 : (t ++ [lnClip r p]).length = t.length + 1 := by simp
    have hat : atN (t ++ [lnClip r p]) t.length = sumLen t := by
      have := atN_sum kp.1 t.length (Nat.le_refl _)
      rw [List.take_length] at this
      rw [← this]; unfold atN; rw [List.take_append_of_le_length (Nat.le_refl _)]
    have hln : lnN r (t ++ [lnClip r p]) t.length = p ++ [10] := by
      rw [lnN_eq (by omega), hat]
      have : (t ++ [lnClip r p])[t.length]'(by omega) = lnClip r p := by simp
      rw [this, s1]
    have A2 : ∀ j, j < (t ++ [lnClip r p]).length → lnN r (t ++ [lnClip r p]) j ≠ [] := by
      intro j hj
      by_cases e : j < t.length
      · rw [lnN_app r t _ e]; exact A j e
      · obtain rfl : j = t.length := by omega
        rw [hln]; simp
    rw [← hl2] at h0 ⊢
    obtain ⟨i1, i2⟩ := ih q (t ++ [lnClip r p]) hq (endsNl_rest hy) k2 h0 A2
    refine ⟨i1, ?_⟩
    rw [i2, hl2, outN_succ, outN_app r t _ t.length (Nat.le_refl _), hln]
    simp
theorem read_shown {r : Rate} {x : List UInt8} (h : (readL r x).2.1 = 0) : showL r (readL r x).1 = x := by
  by_cases a : rateOk r
  rotate_left
  · rw [readL_rate a] at h; cases h
  by_cases b : 20000 < x.length
  · rw [readL_long a b] at h; cases h
  by_cases c : endsNl x
  rotate_left
  · rw [readL_end a b c] at h; cases h
  have kp : keeps (readL r x).1 := by
    rcases readL_facts r x with q | q
    · exact q.2.1
    · exact absurd h q.1
  rw [readL_go a b c] at h kp ⊢
  obtain ⟨i1, i2⟩ := read_lines (lin x) x [] rfl c keeps_nil h (fun j hj => by simp at hj)
  simp only [List.length_nil] at i1 i2
  generalize (readG r (lin x) 0 []).1 = V at *
  have hs := showL_some ⟨a, kp.1⟩ (by rw [kp.2]; exact i1)
  rw [hs, kp.2, i2]; rfl
end Go.Proofs.YtgmimgmdbpcecaaGreatDoor
end

section
namespace Go.Proofs.YtgmimgmdbpcecaaGreatDoor
open Go Go.Ah
set_option linter.unusedSimpArgs false
set_option linter.unusedVariables false
set_option maxRecDepth 10000
set_option maxHeartbeats 4000000
/-! 12 loop.example/g00066/laws.big: parameters 1, live [0], slots [0:code, 1:code] -/
def c12_0 : List SOper := [⟨some 2, .q (.mv (.c (.bool false))), none⟩]
def c12_1 : List SOper := [⟨some 3, .q (.mv (.t 0)), none⟩, ⟨some 4, .q (.len (.t 3)), none⟩, ⟨some 5, .q (.bin .gtr (.t 4) (.c (.int .i64 4096))), none⟩, ⟨some 2, .q (.mv (.t 5)), none⟩]
def c12_2 : SCode := .seq (.region c12_1 [2]) .ret
def c12_3 : SCode := .seq (.region c12_0 [0]) c12_2
def c12 : SCode := c12_3
theorem w12 : type_of% (And.intro (uR Tryz.prog c12_0.eq_1) (And.intro (uR Tryz.prog c12_1.eq_1) (And.intro (uC Tryz.prog c12_2.eq_1) (And.intro (uC Tryz.prog c12_3.eq_1) (uC Tryz.prog c12.eq_1))))) := (And.intro (uR Tryz.prog c12_0.eq_1) (And.intro (uR Tryz.prog c12_1.eq_1) (And.intro (uC Tryz.prog c12_2.eq_1) (And.intro (uC Tryz.prog c12_3.eq_1) (uC Tryz.prog c12.eq_1)))))
def v12 : List RV := [.t 2]
theorem s12 : slimF Tryz.prog Tryz.f12 = some (c12.bare, v12) := by kernel_rfl
/-! 26 loop.example/g00066/spec.l1New: parameters 1, live [0], slots [0:code, 1:code, 3:h, 4:i] -/
def c26_0 : List SOper := [⟨some 2, .q (.mv (.c (.pointer none))), none⟩]
def c26_1 : List SOper := [⟨some 5, .q (.mv (.t 0)), none⟩, ⟨some 6, .q (.len (.t 5)), none⟩, ⟨some 7, .q (.bin .add (.c (.int .i64 60293)) (.t 6)), none⟩, ⟨some 3, .q (.mv (.t 7)), none⟩]
def c26_2 : List SOper := [⟨some 4, .q (.mv (.c (.int .i64 0))), none⟩]
def c26_3 : List SOper := [⟨some 8, .q (.mv (.t 4)), none⟩, ⟨some 9, .q (.mv (.t 0)), none⟩, ⟨some 10, .q (.len (.t 9)), none⟩, ⟨some 11, .q (.bin .lss (.t 8) (.t 10)), none⟩]
def c26_4 : SCode := .cond (.t 11) .skip (.exit 0)
def c26_5 : SCode := .seq (.region c26_3 [0, 3, 4, 11]) c26_4
def c26_6 : List SOper := [⟨some 14, .q (.mv (.t 3)), none⟩, ⟨some 15, .q (.bin .mul (.t 14) (.c (.int .i64 137))), none⟩, ⟨some 16, .q (.mv (.t 0)), none⟩, ⟨some 17, .q (.mv (.t 4)), none⟩, ⟨some 18, .q (.ia 1 (.t 16) (.t 17)), none⟩, ⟨some 19, .q (.ld (.t 18)), none⟩, ⟨some 20, .q (.cvi .i64 (.t 19)), none⟩, ⟨some 21, .q (.bin .add (.t 15) (.t 20)), none⟩, ⟨some 22, .q (.bin .add (.t 21) (.c (.int .i64 11))), none⟩, ⟨some 23, .q (.bin .and (.t 22) (.c (.int .i64 1073741823))), none⟩, ⟨some 3, .q (.mv (.t 23)), none⟩]
def c26_7 : SCode := .block 1 (.region c26_6 [0, 3, 4])
def c26_8 : List SOper := [⟨some 12, .q (.mv (.t 4)), none⟩, ⟨some 13, .q (.bin .add (.t 12) (.c (.int .i64 1))), none⟩, ⟨some 4, .q (.mv (.t 13)), none⟩]
def c26_9 : SCode := .seq c26_7 (.region c26_8 [0, 3, 4])
def c26_10 : SCode := .seq c26_5 c26_9
def c26_11 : SCode := .loop c26_10
def c26_12 : SCode := .block 0 c26_11
def c26_13 : SCode := .seq (.region c26_2 [0, 3, 4]) c26_12
def c26_14 : List SOper := [⟨some 24, .q (.mv (.t 0)), none⟩, ⟨some 25, .q (.mv (.t 3)), none⟩, ⟨some 26, .q (.build [(.slice none 0 0), (.int .i64 0), (.int .i64 0)] [(0, 1, (.t 24)), (2, 1, (.t 25))]), none⟩, ⟨some 27, .a (.box (.t 26)), none⟩, ⟨some 2, .q (.mv (.t 27)), none⟩]
def c26_15 : SCode := .seq (.region c26_14 [2]) .ret
def c26_16 : SCode := .seq c26_13 c26_15
def c26_17 : SCode := .seq (.region c26_1 [0, 3]) c26_16
def c26_18 : SCode := .seq (.region c26_0 [0]) c26_17
def c26 : SCode := c26_18
theorem w26 : type_of% (And.intro (uR Tryz.prog c26_0.eq_1) (And.intro (uR Tryz.prog c26_1.eq_1) (And.intro (uR Tryz.prog c26_2.eq_1) (And.intro (uR Tryz.prog c26_3.eq_1) (And.intro (uC Tryz.prog c26_4.eq_1) (And.intro (uC Tryz.prog c26_5.eq_1) (And.intro (uR Tryz.prog c26_6.eq_1) (And.intro (uC Tryz.prog c26_7.eq_1) (And.intro (uR Tryz.prog c26_8.eq_1) (And.intro (uC Tryz.prog c26_9.eq_1) (And.intro (uC Tryz.prog c26_10.eq_1) (And.intro (uC Tryz.prog c26_11.eq_1) (And.intro (uC Tryz.prog c26_12.eq_1) (And.intro (uC Tryz.prog c26_13.eq_1) (And.intro (uR Tryz.prog c26_14.eq_1) (And.intro (uC Tryz.prog c26_15.eq_1) (And.intro (uC Tryz.prog c26_16.eq_1) (And.intro (uC Tryz.prog c26_17.eq_1) (And.intro (uC Tryz.prog c26_18.eq_1) (uC Tryz.prog c26.eq_1)))))))))))))))))))) := (And.intro (uR Tryz.prog c26_0.eq_1) (And.intro (uR Tryz.prog c26_1.eq_1) (And.intro (uR Tryz.prog c26_2.eq_1) (And.intro (uR Tryz.prog c26_3.eq_1) (And.intro (uC Tryz.prog c26_4.eq_1) (And.intro (uC Tryz.prog c26_5.eq_1) (And.intro (uR Tryz.prog c26_6.eq_1) (And.intro (uC Tryz.prog c26_7.eq_1) (And.intro (uR Tryz.prog c26_8.eq_1) (And.intro (uC Tryz.prog c26_9.eq_1) (And.intro (uC Tryz.prog c26_10.eq_1) (And.intro (uC Tryz.prog c26_11.eq_1) (And.intro (uC Tryz.prog c26_12.eq_1) (And.intro (uC Tryz.prog c26_13.eq_1) (And.intro (uR Tryz.prog c26_14.eq_1) (And.intro (uC Tryz.prog c26_15.eq_1) (And.intro (uC Tryz.prog c26_16.eq_1) (And.intro (uC Tryz.prog c26_17.eq_1) (And.intro (uC Tryz.prog c26_18.eq_1) (uC Tryz.prog c26.eq_1))))))))))))))))))))
def v26 : List RV := [.t 2]
theorem s26 : slimF Tryz.prog Tryz.f26 = some (c26.bare, v26) := by kernel_rfl
/-! 67 loop.example/g00066/spec.l1Byte: parameters 1, live [0], slots [0:c, 1:c, 3:x] -/
def c67_0 : List SOper := [⟨some 2, .q (.mv (.c (.int .i64 0))), none⟩]
def c67_1 : List SOper := [⟨some 4, .q (.mv (.t 0)), none⟩, ⟨some 5, .q (.mv (.t 0)), none⟩, ⟨some 6, .q (.nil (.t 5)), none⟩, ⟨some 7, .q (.fa 2 (.t 6)), none⟩, ⟨some 8, .q (.ld (.t 7)), none⟩, ⟨some 9, .q (.bin .mul (.t 8) (.c (.int .i64 6364136223846793005))), none⟩, ⟨some 10, .q (.bin .add (.t 9) (.c (.int .i64 1442695040888963407))), none⟩, ⟨some 11, .q (.nil (.t 4)), none⟩, ⟨some 12, .q (.fa 2 (.t 11)), none⟩, ⟨none, .e (.st 1 (.t 12) (.t 10)), none⟩]
def c67_2 : List SOper := [⟨some 13, .q (.mv (.t 0)), none⟩, ⟨some 14, .q (.nil (.t 13)), none⟩, ⟨some 15, .q (.fa 2 (.t 14)), none⟩, ⟨some 16, .q (.ld (.t 15)), none⟩, ⟨some 17, .q (.bin .shr (.t 16) (.c (.int .u64 33))), none⟩, ⟨some 18, .q (.mv (.t 0)), none⟩, ⟨some 19, .q (.nil (.t 18)), none⟩, ⟨some 20, .q (.fa 2 (.t 19)), none⟩, ⟨some 21, .q (.ld (.t 20)), none⟩, ⟨some 22, .q (.bin .shr (.t 21) (.c (.int .u64 45))), none⟩, ⟨some 23, .q (.bin .xor (.t 17) (.t 22)), none⟩, ⟨some 24, .q (.bin .and (.t 23) (.c (.int .i64 255))), none⟩, ⟨some 3, .q (.mv (.t 24)), none⟩]
def c67_3 : List SOper := [⟨some 25, .q (.mv (.t 0)), none⟩, ⟨some 26, .q (.nil (.t 25)), none⟩, ⟨some 27, .q (.fa 1 (.t 26)), none⟩, ⟨some 28, .q (.ld (.t 27)), none⟩, ⟨some 29, .q (.mv (.t 0)), none⟩, ⟨some 30, .q (.nil (.t 29)), none⟩, ⟨some 31, .q (.fa 0 (.t 30)), none⟩, ⟨some 32, .q (.ld (.t 31)), none⟩, ⟨some 33, .q (.len (.t 32)), none⟩, ⟨some 34, .q (.bin .lss (.t 28) (.t 33)), none⟩]
def c67_4 : List SOper := [⟨some 35, .q (.mv (.t 3)), none⟩, ⟨some 36, .q (.mv (.t 0)), none⟩, ⟨some 37, .q (.nil (.t 36)), none⟩, ⟨some 38, .q (.fa 0 (.t 37)), none⟩, ⟨some 39, .q (.ld (.t 38)), none⟩, ⟨some 40, .q (.mv (.t 0)), none⟩, ⟨some 41, .q (.nil (.t 40)), none⟩, ⟨some 42, .q (.fa 1 (.t 41)), none⟩, ⟨some 43, .q (.ld (.t 42)), none⟩, ⟨some 44, .q (.ia 1 (.t 39) (.t 43)), none⟩, ⟨some 45, .q (.ld (.t 44)), none⟩, ⟨some 46, .q (.cvi .i64 (.t 45)), none⟩, ⟨some 47, .q (.bin .add (.t 35) (.t 46)), none⟩, ⟨some 48, .q (.bin .and (.t 47) (.c (.int .i64 255))), none⟩, ⟨some 3, .q (.mv (.t 48)), none⟩]
def c67_5 : List SOper := [⟨some 49, .q (.mv (.t 0)), none⟩, ⟨some 50, .q (.mv (.t 0)), none⟩, ⟨some 51, .q (.nil (.t 50)), none⟩, ⟨some 52, .q (.fa 1 (.t 51)), none⟩, ⟨some 53, .q (.ld (.t 52)), none⟩, ⟨some 54, .q (.bin .add (.t 53) (.c (.int .i64 1))), none⟩, ⟨some 55, .q (.nil (.t 49)), none⟩, ⟨some 56, .q (.fa 1 (.t 55)), none⟩, ⟨none, .e (.st 1 (.t 56) (.t 54)), none⟩]
def c67_6 : SCode := .seq (.region c67_4 [0, 3]) (.region c67_5 [3])
def c67_7 : SCode := .cond (.t 34) c67_6 .skip
def c67_8 : SCode := .seq (.region c67_3 [0, 3, 34]) c67_7
def c67_9 : List SOper := [⟨some 57, .q (.mv (.t 3)), none⟩, ⟨some 2, .q (.mv (.t 57)), none⟩]
def c67_10 : SCode := .seq (.region c67_9 [2]) .ret
def c67_11 : SCode := .seq c67_8 c67_10
def c67_12 : SCode := .seq (.region c67_2 [0, 3]) c67_11
def c67_13 : SCode := .seq (.region c67_1 [0]) c67_12
def c67_14 : SCode := .seq (.region c67_0 [0]) c67_13
def c67 : SCode := c67_14
theorem w67 : type_of% (And.intro (uR Tryz.prog c67_0.eq_1) (And.intro (uR Tryz.prog c67_1.eq_1) (And.intro (uR Tryz.prog c67_2.eq_1) (And.intro (uR Tryz.prog c67_3.eq_1) (And.intro (uR Tryz.prog c67_4.eq_1) (And.intro (uR Tryz.prog c67_5.eq_1) (And.intro (uC Tryz.prog c67_6.eq_1) (And.intro (uC Tryz.prog c67_7.eq_1) (And.intro (uC Tryz.prog c67_8.eq_1) (And.intro (uR Tryz.prog c67_9.eq_1) (And.intro (uC Tryz.prog c67_10.eq_1) (And.intro (uC Tryz.prog c67_11.eq_1) (And.intro (uC Tryz.prog c67_12.eq_1) (And.intro (uC Tryz.prog c67_13.eq_1) (And.intro (uC Tryz.prog c67_14.eq_1) (uC Tryz.prog c67.eq_1)))))))))))))))) := (And.intro (uR Tryz.prog c67_0.eq_1) (And.intro (uR Tryz.prog c67_1.eq_1) (And.intro (uR Tryz.prog c67_2.eq_1) (And.intro (uR Tryz.prog c67_3.eq_1) (And.intro (uR Tryz.prog c67_4.eq_1) (And.intro (uR Tryz.prog c67_5.eq_1) (And.intro (uC Tryz.prog c67_6.eq_1) (And.intro (uC Tryz.prog c67_7.eq_1) (And.intro (uC Tryz.prog c67_8.eq_1) (And.intro (uR Tryz.prog c67_9.eq_1) (And.intro (uC Tryz.prog c67_10.eq_1) (And.intro (uC Tryz.prog c67_11.eq_1) (And.intro (uC Tryz.prog c67_12.eq_1) (And.intro (uC Tryz.prog c67_13.eq_1) (And.intro (uC Tryz.prog c67_14.eq_1) (uC Tryz.prog c67.eq_1))))))))))))))))
def v67 : List RV := [.t 2]
theorem s67 : slimF Tryz.prog Tryz.f67 = some (c67.bare, v67) := by kernel_rfl
/-! 38 loop.example/g00066/spec.l1Below: parameters 2, live [0, 1], slots [0:c, 1:n, 2:c, 3:n, 5:x, 6:y, 7:z, 8:w] -/
def c38_0 : List SOper := [⟨some 4, .q (.mv (.c (.int .i64 0))), none⟩]
def c38_1 : List SOper := [⟨some 9, .q (.mv (.t 1)), none⟩, ⟨some 10, .q (.bin .leq (.t 9) (.c (.int .i64 0))), none⟩]
def c38_2 : List SOper := [⟨some 4, .q (.mv (.c (.int .i64 0))), none⟩]
def c38_3 : SCode := .seq (.region c38_2 [4]) .ret
def c38_4 : SCode := .cond (.t 10) c38_3 .skip
def c38_5 : SCode := .seq (.region c38_1 [0, 1, 10]) c38_4
def c38_6 : List SOper := [⟨some 11, .q (.mv (.t 1)), none⟩, ⟨some 12, .q (.bin .leq (.t 11) (.c (.int .i64 256))), none⟩]
def c38_7 : List SOper := [⟨some 13, .q (.mv (.t 0)), none⟩, ⟨some 14, .e (.call 67 [(.t 13)]), none⟩, ⟨some 15, .q (.mv (.t 1)), none⟩, ⟨some 16, .q (.bin .rem (.t 14) (.t 15)), none⟩, ⟨some 4, .q (.mv (.t 16)), none⟩]
def c38_8 : SCode := .seq (.region c38_7 [4]) .ret
def c38_9 : SCode := .cond (.t 12) c38_8 .skip
def c38_10 : SCode := .seq (.region c38_6 [0, 1, 12]) c38_9
def c38_11 : List SOper := [⟨some 17, .q (.mv (.t 0)), none⟩, ⟨some 18, .e (.call 67 [(.t 17)]), none⟩, ⟨some 5, .q (.mv (.t 18)), none⟩]
def c38_12 : List SOper := [⟨some 19, .q (.mv (.t 0)), none⟩, ⟨some 20, .e (.call 67 [(.t 19)]), none⟩, ⟨some 6, .q (.mv (.t 20)), none⟩]
def c38_13 : List SOper := [⟨some 21, .q (.mv (.t 0)), none⟩, ⟨some 22, .e (.call 67 [(.t 21)]), none⟩, ⟨some 7, .q (.mv (.t 22)), none⟩]
def c38_14 : List SOper := [⟨some 23, .q (.mv (.t 0)), none⟩, ⟨some 24, .e (.call 67 [(.t 23)]), none⟩, ⟨some 8, .q (.mv (.t 24)), none⟩]
def c38_15 : List SOper := [⟨some 25, .q (.mv (.t 5)), none⟩, ⟨some 26, .q (.bin .mul (.t 25) (.c (.int .i64 16777216))), none⟩, ⟨some 27, .q (.mv (.t 6)), none⟩, ⟨some 28, .q (.bin .mul (.t 27) (.c (.int .i64 65536))), none⟩, ⟨some 29, .q (.bin .add (.t 26) (.t 28)), none⟩, ⟨some 30, .q (.mv (.t 7)), none⟩, ⟨some 31, .q (.bin .mul (.t 30) (.c (.int .i64 256))), none⟩, ⟨some 32, .q (.bin .add (.t 29) (.t 31)), none⟩, ⟨some 33, .q (.mv (.t 8)), none⟩, ⟨some 34, .q (.bin .add (.t 32) (.t 33)), none⟩, ⟨some 35, .q (.mv (.t 1)), none⟩, ⟨some 36, .q (.bin .rem (.t 34) (.t 35)), none⟩, ⟨some 4, .q (.mv (.t 36)), none⟩]
def c38_16 : SCode := .seq (.region c38_15 [4]) .ret
def c38_17 : SCode := .seq (.region c38_14 [1, 5, 6, 7, 8]) c38_16
def c38_18 : SCode := .seq (.region c38_13 [0, 1, 5, 6, 7]) c38_17
def c38_19 : SCode := .seq (.region c38_12 [0, 1, 5, 6]) c38_18
def c38_20 : SCode := .seq (.region c38_11 [0, 1, 5]) c38_19
def c38_21 : SCode := .seq c38_10 c38_20
def c38_22 : SCode := .seq c38_5 c38_21
def c38_23 : SCode := .seq (.region c38_0 [0, 1]) c38_22
def c38 : SCode := c38_23
theorem w38 : type_of% (And.intro (uR Tryz.prog c38_0.eq_1) (And.intro (uR Tryz.prog c38_1.eq_1) (And.intro (uR Tryz.prog c38_2.eq_1) (And.intro (uC Tryz.prog c38_3.eq_1) (And.intro (uC Tryz.prog c38_4.eq_1) (And.intro (uC Tryz.prog c38_5.eq_1) (And.intro (uR Tryz.prog c38_6.eq_1) (And.intro (uR Tryz.prog c38_7.eq_1) (And.intro (uC Tryz.prog c38_8.eq_1) (And.intro (uC Tryz.prog c38_9.eq_1) (And.intro (uC Tryz.prog c38_10.eq_1) (And.intro (uR Tryz.prog c38_11.eq_1) (And.intro (uR Tryz.prog c38_12.eq_1) (And.intro (uR Tryz.prog c38_13.eq_1) (And.intro (uR Tryz.prog c38_14.eq_1) (And.intro (uR Tryz.prog c38_15.eq_1) (And.intro (uC Tryz.prog c38_16.eq_1) (And.intro (uC Tryz.prog c38_17.eq_1) (And.intro (uC Tryz.prog c38_18.eq_1) (And.intro (uC Tryz.prog c38_19.eq_1) (And.intro (uC Tryz.prog c38_20.eq_1) (And.intro (uC Tryz.prog c38_21.eq_1) (And.intro (uC Tryz.prog c38_22.eq_1) (And.intro (uC Tryz.prog c38_23.eq_1) (uC Tryz.prog c38.eq_1))))))))))))))))))))))))) := (And.intro (uR Tryz.prog c38_0.eq_1) (And.intro (uR Tryz.prog c38_1.eq_1) (And.intro (uR Tryz.prog c38_2.eq_1) (And.intro (uC Tryz.prog c38_3.eq_1) (And.intro (uC Tryz.prog c38_4.eq_1) (And.intro (uC Tryz.prog c38_5.eq_1) (And.intro (uR Tryz.prog c38_6.eq_1) (And.intro (uR Tryz.prog c38_7.eq_1) (And.intro (uC Tryz.prog c38_8.eq_1) (And.intro (uC Tryz.prog c38_9.eq_1) (And.intro (uC Tryz.prog c38_10.eq_1) (And.intro (uR Tryz.prog c38_11.eq_1) (And.intro (uR Tryz.prog c38_12.eq_1) (And.intro (uR Tryz.prog c38_13.eq_1) (And.intro (uR Tryz.prog c38_14.eq_1) (And.intro (uR Tryz.prog c38_15.eq_1) (And.intro (uC Tryz.prog c38_16.eq_1) (And.intro (uC Tryz.prog c38_17.eq_1) (And.intro (uC Tryz.prog c38_18.eq_1) (And.intro (uC Tryz.prog c38_19.eq_1) (And.intro (uC Tryz.prog c38_20.eq_1) (And.intro (uC Tryz.prog c38_21.eq_1) (And.intro (uC Tryz.prog c38_22.eq_1) (And.intro (uC Tryz.prog c38_23.eq_1) (uC Tryz.prog c38.eq_1)))))))))))))))))))))))))
def v38 : List RV := [.t 4]
theorem s38 : slimF Tryz.prog Tryz.f38 = some (c38.bare, v38) := by kernel_rfl
/-! 29 loop.example/g00066/spec.l1Once: parameters 2, live [0, 1], slots [0:c, 1:n, 2:c, 3:n] -/
def c29_0 : List SOper := [⟨some 4, .q (.mv (.c (.bool false))), none⟩]
def c29_1 : List SOper := [⟨some 5, .q (.mv (.t 0)), none⟩, ⟨some 6, .q (.mv (.t 1)), none⟩, ⟨some 7, .e (.call 38 [(.t 5), (.t 6)]), none⟩, ⟨some 8, .q (.bin .eql (.t 7) (.c (.int .i64 0))), none⟩, ⟨some 4, .q (.mv (.t 8)), none⟩]
def c29_2 : SCode := .seq (.region c29_1 [4]) .ret
def c29_3 : SCode := .seq (.region c29_0 [0, 1]) c29_2
def c29 : SCode := c29_3
theorem w29 : type_of% (And.intro (uR Tryz.prog c29_0.eq_1) (And.intro (uR Tryz.prog c29_1.eq_1) (And.intro (uC Tryz.prog c29_2.eq_1) (And.intro (uC Tryz.prog c29_3.eq_1) (uC Tryz.prog c29.eq_1))))) := (And.intro (uR Tryz.prog c29_0.eq_1) (And.intro (uR Tryz.prog c29_1.eq_1) (And.intro (uC Tryz.prog c29_2.eq_1) (And.intro (uC Tryz.prog c29_3.eq_1) (uC Tryz.prog c29.eq_1)))))
def v29 : List RV := [.t 4]
theorem s29 : slimF Tryz.prog Tryz.f29 = some (c29.bare, v29) := by kernel_rfl

def encByte (x : Int) : List Value := [.int .u8 x]
theorem encByte_len (x : Int) : (encByte x).length = 1 := rfl
theorem big_ok (h : Heap) (v : Value) (l : List Int) (s : SlT h encByte 1 v l) : ACall Tryz.prog 12 [v] h fun r h' => h' = h ∧ r = .bool (decide (4096 < (l.length : Int))) := by
  refine ACall.of Tryz.func12 s12 (of_decide_eq_true rfl) ?_
  have R := s.rulesN
  simp (maxSteps := 4000000) (disch := omega) only [ah, am, Nat.reduceEqDiff, reduceCtorEq, Nat.reduceAdd, Nat.reduceLeDiff, Nat.reduceMul, Nat.reduceLT, if_true, if_false, true_and, and_true, and_self, Nat.reduceBEq, QOp.loads, boxO, bslO, buildO, cutL, fillV, putL, w12, v12, R]
/-- A cursor. -/
def Cur (h : Heap) (c : Nat) : Prop := ∃ (h0 : Heap) (bv : Value) (code : List Int) (pos : Nat) (hh : Int), h0.size ≤ c ∧ Ext h0 h ∧ SlT h0 encByte 1 bv code ∧ code.length ≤ 4096 ∧ pos ≤ code.length ∧ Bx h c [bv, .int .i64 pos, .int .i64 hh]
theorem Cur.ext {h h' : Heap} {c : Nat} (k : Cur h c) (e : Ext h h') : Cur h' c := by
  obtain ⟨h0, bv, code, pos, hh, k1, k2, k3, k4, k5, k6⟩ := k
  exact ⟨h0, bv, code, pos, hh, k1, k2.trans e, k3, k4, k5, k6.ext e⟩
theorem Cur.lt {h : Heap} {c : Nat} (k : Cur h c) : c < h.size := by
  obtain ⟨h0, bv, code, pos, hh, k1, k2, k3, k4, k5, k6⟩ := k; exact Heap.get_lt k6
theorem and_bound (a m : Int) (hm : 0 ≤ m ∧ m ≤ 1073741823) : 0 ≤ IntKind.i64.wrap ((BitVec.ofInt IntKind.i64.bits a &&& BitVec.ofInt IntKind.i64.bits m).toNat) ∧ IntKind.i64.wrap ((BitVec.ofInt IntKind.i64.bits a &&& BitVec.ofInt IntKind.i64.bits m).toNat) ≤ m := by
  have h1 : (BitVec.ofInt IntKind.i64.bits m).toNat = m.toNat := by
    rw [BitVec.toNat_ofInt]
    have : ((2 ^ IntKind.i64.bits : Nat) : Int) = 18446744073709551616 := rfl
    rw [this, Int.emod_eq_of_lt (by omega) (by omega)]
  have h2 : (BitVec.ofInt IntKind.i64.bits a &&& BitVec.ofInt IntKind.i64.bits m).toNat ≤ m.toNat := by
    rw [BitVec.toNat_and, h1]; exact Nat.and_le_right
  rw [i64w (by omega)]; omega
theorem l1New_ok (h : Heap) (v : Value) (l : List Int) (s : SlT h encByte 1 v l) (hl : l.length ≤ 4096) : ACall Tryz.prog 26 [v] h fun r h' => Ext h h' ∧ r = .pointer (some ⟨h.size, 0, none⟩) ∧ Cur h' h.size := by
  refine ACall.of Tryz.func26 s26 (of_decide_eq_true rfl) ?_
  have R := s.rulesN
  simp (maxSteps := 4000000) (disch := omega) only [ah, am, Nat.reduceEqDiff, reduceCtorEq, Nat.reduceAdd, Nat.reduceLeDiff, Nat.reduceMul, Nat.reduceLT, if_true, if_false, true_and, and_true, and_self, Nat.reduceBEq, QOp.loads, boxO, bslO, buildO, cutL, fillV, putL, w26, v26, R, i64w]
  refine SW_loop_up (fun i E H => ∃ hh, E = [(0, v), (3, .int .i64 hh), (4, .int .i64 i)] ∧ H = h) l.length 0 (by omega) ⟨_, rfl, rfl⟩ ?_
  rintro i E H hi ⟨hh, rfl, rfl⟩
  have W : IntKind.i64.wrap ((i : Int) + 1) = ((i + 1 : Nat) : Int) := i64e (by omega) (by omega)
  simp (maxSteps := 4000000) (disch := omega) only [ah, am, Nat.reduceEqDiff, reduceCtorEq, Nat.reduceAdd, Nat.reduceLeDiff, Nat.reduceMul, Nat.reduceLT, if_true, if_false, true_and, and_true, and_self, Nat.reduceBEq, QOp.loads, boxO, bslO, buildO, cutL, fillV, putL, w26, v26, R]
  refine stepI.split (fun hp => ?_) (fun hp => ?_)
  · simp (maxSteps := 4000000) (disch := omega) only [ah, am, Nat.reduceEqDiff, reduceCtorEq, Nat.reduceAdd, Nat.reduceLeDiff, Nat.reduceMul, Nat.reduceLT, if_true, if_false, true_and, and_true, and_self, Nat.reduceBEq, QOp.loads, boxO, bslO, buildO, cutL, fillV, putL, w26, v26, R, W, encByte]
    exact ⟨by omega, _, rfl⟩
  · obtain ⟨c1, o1⟩ : v.cells = #[v] ∧ ∀ L, oneB (v :: L) = oneB L := by
      rcases s.sl with ⟨rfl, _⟩ | ⟨rfl, _⟩ | ⟨i, o, n, ob, rfl, _⟩ <;> exact ⟨rfl, fun _ => rfl⟩
    simp (maxSteps := 4000000) (disch := omega) only [ah, am, Nat.reduceEqDiff, reduceCtorEq, Nat.reduceAdd, Nat.reduceLeDiff, Nat.reduceMul, Nat.reduceLT, if_true, if_false, true_and, and_true, and_self, Nat.reduceBEq, QOp.loads, boxO, bslO, buildO, cutL, fillV, putL, w26, v26, c1, o1, size_mk, List.size_toArray, List.reduceReplicate]
    exact ⟨Ext.more _ _, H, v, l, 0, hh, Nat.le_refl _, Ext.more _ _, s, hl, by omega, Bx.new H _ []⟩
theorem l1Byte_ok (h : Heap) (c : Nat) (k : Cur h c) : ACall Tryz.prog 67 [.pointer (some ⟨c, 0, none⟩)] h fun r h' => ∃ n, r = .int .i64 n ∧ (0 ≤ n ∧ n ≤ 255) ∧ ExtG c h h' ∧ Cur h' c := by
  obtain ⟨h0, bv, code, pos, hh, k1, k2, k3, k4, k5, k6⟩ := k
  refine ACall.of Tryz.func67 s67 (of_decide_eq_true rfl) ?_
  have X := k6.ld
  obtain ⟨h1, es1, b1, g1⟩ := k6.put (o := 2) (n := 1) (y := .int .i64 (IntKind.i64.wrap (IntKind.i64.wrap (hh * 6364136223846793005) + 1442695040888963407))) rfl (by simp) rfl
  obtain ⟨h2, hh2⟩ : ∃ h2, IntKind.i64.wrap (IntKind.i64.wrap (hh * 6364136223846793005) + 1442695040888963407) = h2 := ⟨_, rfl⟩
  rw [hh2] at es1 b1
  simp only [splice, cells_int, List.take_succ_cons, List.take_zero, List.cons_append, List.nil_append, List.append_nil, List.length_cons, List.length_nil, List.drop_succ_cons, List.drop_zero, Nat.reduceAdd] at b1
  have X1 := b1.ld
  have e1 : Ext h0 h1 := g1.ext k2 k1
  have R := (k3.ext e1).rulesN
  simp (maxSteps := 4000000) (disch := omega) only [ah, am, Nat.reduceEqDiff, reduceCtorEq, Nat.reduceAdd, Nat.reduceLeDiff, Nat.reduceMul, Nat.reduceLT, if_true, if_false, true_and, and_true, and_self, Nat.reduceBEq, QOp.loads, boxO, bslO, buildO, cutL, fillV, putL, w67, v67, X, hh2, es1, X1, R]
  refine stepI.split (fun hp => ?_) (fun hp => ?_)
  · obtain ⟨h3, es2, b2, g2⟩ := b1.put (o := 1) (n := 1) (y := .int .i64 ((pos + 1 : Nat) : Int)) rfl (by simp) rfl
    simp only [splice, cells_int, List.take_succ_cons, List.take_zero, List.cons_append, List.nil_append, List.append_nil, List.length_cons, List.length_nil, List.drop_succ_cons, List.drop_zero, Nat.reduceAdd] at b2
    have W : IntKind.i64.wrap ((pos : Int) + 1) = ((pos + 1 : Nat) : Int) := i64e (by omega) (by omega)
    simp (maxSteps := 4000000) (disch := omega) only [ah, am, Nat.reduceEqDiff, reduceCtorEq, Nat.reduceAdd, Nat.reduceLeDiff, Nat.reduceMul, Nat.reduceLT, if_true, if_false, true_and, and_true, and_self, Nat.reduceBEq, QOp.loads, boxO, bslO, buildO, cutL, fillV, putL, w67, v67, X1, es2, R, encByte, W]
    exact ⟨_, rfl, and_bound _ 255 (by omega), g1.trans g2, h0, bv, code, pos + 1, h2, k1, g2.ext e1 k1, k3, k4, by omega, b2⟩
  · simp (maxSteps := 4000000) (disch := omega) only [ah, am, Nat.reduceEqDiff, reduceCtorEq, Nat.reduceAdd, Nat.reduceLeDiff, Nat.reduceMul, Nat.reduceLT, if_true, if_false, true_and, and_true, and_self, Nat.reduceBEq, QOp.loads, boxO, bslO, buildO, cutL, fillV, putL, w67, v67, X1]
    exact ⟨_, rfl, and_bound _ 255 (by omega), g1, h0, bv, code, pos, h2, k1, e1, k3, k4, k5, b1⟩
theorem l1Below_ok (h : Heap) (c : Nat) (n : Int) (k : Cur h c) : ACall Tryz.prog 38 [.pointer (some ⟨c, 0, none⟩), .int .i64 n] h
    fun r h' => ∃ x, r = .int .i64 x ∧ 0 ≤ x ∧ (0 < n → x < n) ∧ (n ≤ 0 → x = 0) ∧ ExtG c h h' ∧ Cur h' c := by
  refine ACall.of Tryz.func38 s38 (of_decide_eq_true rfl) ?_
  by_cases h0 : n ≤ 0
  · have h0' : decide (n ≤ 0) = true := decide_eq_true h0
    simp (maxSteps := 4000000) (disch := omega) only [ah, am, Nat.reduceEqDiff, reduceCtorEq, Nat.reduceAdd, Nat.reduceLeDiff, Nat.reduceMul, Nat.reduceLT, if_true, if_false, true_and, and_true, and_self, Nat.reduceBEq, QOp.loads, boxO, bslO, buildO, cutL, fillV, putL, w38, v38, h0']
    exact ⟨_, rfl, by omega, by omega, by omega, ExtG.refl c h, k⟩
  have h0' : decide (n ≤ 0) = false := decide_eq_false h0
  have hn : n ≠ 0 := by omega
  by_cases h1 : n ≤ 256
  · have h1' : decide (n ≤ 256) = true := decide_eq_true h1
    simp (maxSteps := 4000000) (disch := omega) only [ah, am, Nat.reduceEqDiff, reduceCtorEq, Nat.reduceAdd, Nat.reduceLeDiff, Nat.reduceMul, Nat.reduceLT, if_true, if_false, true_and, and_true, and_self, Nat.reduceBEq, QOp.loads, boxO, bslO, buildO, cutL, fillV, putL, w38, v38, h0', h1']
    refine stepC.of (l1Byte_ok _ _ k) ?_
    rintro _ H1 ⟨x, rfl, hx, g1, k1⟩
    simp (maxSteps := 4000000) (disch := omega) only [ah, am, Nat.reduceEqDiff, reduceCtorEq, Nat.reduceAdd, Nat.reduceLeDiff, Nat.reduceMul, Nat.reduceLT, if_true, if_false, true_and, and_true, and_self, Nat.reduceBEq, QOp.loads, boxO, bslO, buildO, cutL, fillV, putL, w38, v38, hn, ne_eq]
    rw [Int.tmod_eq_emod_of_nonneg hx.1]
    exact ⟨_, rfl, Int.emod_nonneg _ hn, fun _ => Int.emod_lt_of_pos _ (by omega), by omega, g1, k1⟩
  · have h1' : decide (n ≤ 256) = false := decide_eq_false h1
    simp (maxSteps := 4000000) (disch := omega) only [ah, am, Nat.reduceEqDiff, reduceCtorEq, Nat.reduceAdd, Nat.reduceLeDiff, Nat.reduceMul, Nat.reduceLT, if_true, if_false, true_and, and_true, and_self, Nat.reduceBEq, QOp.loads, boxO, bslO, buildO, cutL, fillV, putL, w38, v38, h0', h1']
    refine stepC.of (l1Byte_ok _ _ k) ?_
    rintro _ H1 ⟨x1, rfl, hx1, g1, k1⟩
    simp (maxSteps := 4000000) (disch := omega) only [ah, am, Nat.reduceEqDiff, reduceCtorEq, Nat.reduceAdd, Nat.reduceLeDiff, Nat.reduceMul, Nat.reduceLT, if_true, if_false, true_and, and_true, and_self, Nat.reduceBEq, QOp.loads, boxO, bslO, buildO, cutL, fillV, putL, w38, v38]
    refine stepC.of (l1Byte_ok _ _ k1) ?_
    rintro _ H2 ⟨x2, rfl, hx2, g2, k2⟩
    simp (maxSteps := 4000000) (disch := omega) only [ah, am, Nat.reduceEqDiff, reduceCtorEq, Nat.reduceAdd, Nat.reduceLeDiff, Nat.reduceMul, Nat.reduceLT, if_true, if_false, true_and, and_true, and_self, Nat.reduceBEq, QOp.loads, boxO, bslO, buildO, cutL, fillV, putL, w38, v38]
    refine stepC.of (l1Byte_ok _ _ k2) ?_
    rintro _ H3 ⟨x3, rfl, hx3, g3, k3⟩
    simp (maxSteps := 4000000) (disch := omega) only [ah, am, Nat.reduceEqDiff, reduceCtorEq, Nat.reduceAdd, Nat.reduceLeDiff, Nat.reduceMul, Nat.reduceLT, if_true, if_false, true_and, and_true, and_self, Nat.reduceBEq, QOp.loads, boxO, bslO, buildO, cutL, fillV, putL, w38, v38]
    refine stepC.of (l1Byte_ok _ _ k3) ?_
    rintro _ H4 ⟨x4, rfl, hx4, g4, k4⟩
    simp (maxSteps := 4000000) (disch := omega) only [ah, am, Nat.reduceEqDiff, reduceCtorEq, Nat.reduceAdd, Nat.reduceLeDiff, Nat.reduceMul, Nat.reduceLT, if_true, if_false, true_and, and_true, and_self, Nat.reduceBEq, QOp.loads, boxO, bslO, buildO, cutL, fillV, putL, w38, v38, hn, ne_eq, i64w]
    rw [Int.tmod_eq_emod_of_nonneg (by omega)]
    exact ⟨_, rfl, Int.emod_nonneg _ hn, fun _ => Int.emod_lt_of_pos _ (by omega), by omega, ((g1.trans g2).trans g3).trans g4, k4⟩
theorem l1Once_ok (h : Heap) (c : Nat) (n : Int) (k : Cur h c) : ACall Tryz.prog 29 [.pointer (some ⟨c, 0, none⟩), .int .i64 n] h
    fun r h' => ∃ b, r = .bool b ∧ ExtG c h h' ∧ Cur h' c := by
  refine ACall.of Tryz.func29 s29 (of_decide_eq_true rfl) ?_
  simp (maxSteps := 4000000) (disch := omega) only [ah, am, Nat.reduceEqDiff, reduceCtorEq, Nat.reduceAdd, Nat.reduceLeDiff, Nat.reduceMul, Nat.reduceLT, if_true, if_false, true_and, and_true, and_self, Nat.reduceBEq, QOp.loads, boxO, bslO, buildO, cutL, fillV, putL, w29, v29]
  refine stepC.of (l1Below_ok _ _ _ k) ?_
  rintro _ H1 ⟨x, rfl, _, _, _, g1, k1⟩
  simp (maxSteps := 4000000) (disch := omega) only [ah, am, Nat.reduceEqDiff, reduceCtorEq, Nat.reduceAdd, Nat.reduceLeDiff, Nat.reduceMul, Nat.reduceLT, if_true, if_false, true_and, and_true, and_self, Nat.reduceBEq, QOp.loads, boxO, bslO, buildO, cutL, fillV, putL, w29, v29]
  exact ⟨_, rfl, g1, k1⟩
end Go.Proofs.YtgmimgmdbpcecaaGreatDoor
end
