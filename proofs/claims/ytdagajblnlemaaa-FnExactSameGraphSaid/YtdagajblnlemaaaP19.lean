import Derived.Test.YtdagajblnlemaaaP5
namespace Go.Proofs.Ytdagajblnlemaaa
open Go Go.Ah
set_option linter.unusedSimpArgs false
set_option linter.unusedVariables false
set_option maxRecDepth 10000
set_option maxHeartbeats 4000000
/-! ### When two graphs are the same -/
def sameN (x y : Node) : Prop := x.kind = y.kind ∧ x.inn = y.inn ∧ x.in2 = y.in2 ∧ sameF x.v y.v
instance (x y : Node) : Decidable (sameN x y) := by unfold sameN; infer_instance
def sameL (x y : List Node) : Prop := x.length = y.length ∧ ∀ i, i < x.length → sameN (nd x i) (nd y i)
instance (x y : List Node) : Decidable (sameL x y) := by unfold sameL; infer_instance
def sameG (a b : List Node) : Prop := graphOk a ∧ graphOk b ∧ sameL (prunedF a) (prunedF b)
instance (x y : List Node) : Decidable (sameG x y) := by unfold sameG; infer_instance
theorem set_keeps (w : List Bool) (j i : Nat) (h : w.getD i false = true) : (w.set j true).getD i false = true := by
  rw [List.getD, List.getElem?_set]
  split
  · split
    · rfl
    · rename_i q1 q2; subst q1
      rw [List.getD, List.getElem?_eq_none (by omega)] at h; cases h
  · exact h
theorem need_last (l : List Node) (hl : 0 < l.length) : ∀ k, (needK l k).getD (l.length - 1) false = true := by
  intro k
  induction k with
  | zero =>
    unfold needK
    rw [List.getD, List.getElem?_set, if_pos rfl, if_pos (by simp; omega)]; rfl
  | succ k ih =>
    unfold needK needS
    split
    · unfold stepW; split
      · exact set_keeps _ _ _ (set_keeps _ _ _ ih)
      · exact set_keeps _ _ _ ih
    · exact ih
theorem pruned_some {l : List Node} (ok : graphOk l) : 0 < (prunedF l).length := by
  have hn := ok.1
  rw [show prunedF l = (outK l (needK l l.length) l.length).2 from if_pos ok]
  obtain ⟨n, hn'⟩ : ∃ n, l.length = n + 1 := ⟨l.length - 1, by omega⟩
  have q := need_last l (by omega) l.length
  generalize needK l l.length = need at q
  rw [hn'] at q ⊢
  rw [show outK l need (n + 1) = outS l need n (outK l need n) from rfl]
  unfold outS
  rw [Nat.add_sub_cancel] at q
  rw [if_pos q]; simp
theorem pruned_none {l : List Node} (ok : ¬ graphOk l) : prunedF l = [] := if_neg ok
theorem pruned_len (a : List Node) : (prunedF a).length ≤ 1000000 := by
  unfold prunedF; split
  · rename_i ok; have := (outK_len a (needK a a.length) a.length).2; have := ok.1; omega
  · simp
/-- So the specification has it. -/
theorem sameG_iff (a b : List Node) : sameG a b ↔ (prunedF a).length ≠ 0 ∧ sameL (prunedF a) (prunedF b) := by
  constructor
  · rintro ⟨ha, hb, q⟩; have := pruned_some ha; exact ⟨by omega, q⟩
  · rintro ⟨h, q⟩
    have ha : graphOk a := Classical.byContradiction fun n => h (by rw [pruned_none n]; rfl)
    have hb : graphOk b := Classical.byContradiction fun n => h (by rw [q.1, pruned_none n]; rfl)
    exact ⟨ha, hb, q⟩
theorem specSameGraph_ok (h : Heap) (va vb : Value) (a b : List Node) (sa : SlT h encNode 4 va a) (sb : SlT h encNode 4 vb b) (hla : a.length ≤ 281474976710656) (hlb : b.length ≤ 281474976710656) :
    ACall Try.prog 16 [va, vb] h fun r h' => Ext h h' ∧ r = .bool (decide (sameG a b)) := by
  refine ACall.of Try.func16 s16 (of_decide_eq_true rfl) ?_
  simp (maxSteps := 4000000) (disch := omega) only [ah, am, Nat.reduceEqDiff, reduceCtorEq, Nat.reduceAdd, Nat.reduceLeDiff, Nat.reduceMul, Nat.reduceLT, if_true, if_false, true_and, and_true, and_self, Nat.reduceBEq, QOp.loads, boxO, bslO, buildO, cutL, fillV, putL, w16, v16]
  refine stepC.of (specPruned_ok h va a sa hla) ?_
  intro x H1 Fx
  simp (maxSteps := 4000000) (disch := omega) only [ah, am, Nat.reduceEqDiff, reduceCtorEq, Nat.reduceAdd, Nat.reduceLeDiff, Nat.reduceMul, Nat.reduceLT, if_true, if_false, true_and, and_true, and_self, Nat.reduceBEq, QOp.loads, boxO, bslO, buildO, cutL, fillV, putL, w16, v16]
  refine stepC.of (specPruned_ok H1 vb b (sb.ext Fx.1) hlb) ?_
  intro y H2 Fy
  have E2 : Ext h H2 := Ext.trans Fx.1 Fy.1
  have sx := (Fx.ext Fy.1).slt
  have sy := Fy.slt
  have Rx := sx.rulesN
  have Ry := sy.rulesN
  have qq := sameG_iff a b
  have hxl := pruned_len a
  have hyl := pruned_len b
  generalize prunedF a = p at *
  generalize prunedF b = q at *
  by_cases h0 : ((p.length : Int) = 0)
  · simp (maxSteps := 4000000) (disch := omega) only [ah, am, Nat.reduceEqDiff, reduceCtorEq, Nat.reduceAdd, Nat.reduceLeDiff, Nat.reduceMul, Nat.reduceLT, if_true, if_false, true_and, and_true, and_self, Nat.reduceBEq, QOp.loads, boxO, bslO, buildO, cutL, fillV, putL, w16, v16, Rx.1, Ry.1, decide_eq_true h0]
    exact ⟨E2, by rw [decide_eq_false]; rw [qq]; intro z; exact z.1 (by omega)⟩
  by_cases h1 : ((p.length : Int) = q.length)
  rotate_left
  · simp (maxSteps := 4000000) (disch := omega) only [ah, am, Nat.reduceEqDiff, reduceCtorEq, Nat.reduceAdd, Nat.reduceLeDiff, Nat.reduceMul, Nat.reduceLT, if_true, if_false, true_and, and_true, and_self, Nat.reduceBEq, QOp.loads, boxO, bslO, buildO, cutL, fillV, putL, w16, v16, Rx.1, Ry.1, decide_eq_false h0, decide_eq_false h1, Bool.not_false]
    exact ⟨E2, by rw [decide_eq_false]; rw [qq]; intro z; exact h1 (by rw [z.2.1])⟩
  simp (maxSteps := 4000000) (disch := omega) only [ah, am, Nat.reduceEqDiff, reduceCtorEq, Nat.reduceAdd, Nat.reduceLeDiff, Nat.reduceMul, Nat.reduceLT, if_true, if_false, true_and, and_true, and_self, Nat.reduceBEq, QOp.loads, boxO, bslO, buildO, cutL, fillV, putL, w16, v16, Rx.1, Ry.1, decide_eq_false h0, decide_eq_true h1, Bool.not_true]
  refine SW_loop_up (fun i E H => E = [(5, x), (6, y), (7, .int .i64 i)] ∧ H = H2 ∧ ∀ j, j < i → sameN (nd p j) (nd q j)) p.length 0 (by omega) ⟨rfl, rfl, fun j h1 => absurd h1 (by omega)⟩ ?_
  rintro i E H hi ⟨rfl, rfl, F⟩
  have W : IntKind.i64.wrap ((i : Int) + 1) = ((i + 1 : Nat) : Int) := i64e (by omega) (by omega)
  by_cases c0 : i < p.length
  rotate_left
  · simp (maxSteps := 4000000) (disch := omega) only [ah, am, Nat.reduceEqDiff, reduceCtorEq, Nat.reduceAdd, Nat.reduceLeDiff, Nat.reduceMul, Nat.reduceLT, if_true, if_false, true_and, and_true, and_self, Nat.reduceBEq, QOp.loads, boxO, bslO, buildO, cutL, fillV, putL, w16, v16, Rx.1, decide_eq_false (show ¬ ((i : Int) < (p.length : Int)) by omega)]
    exact ⟨E2, by rw [decide_eq_true]; rw [qq]; exact ⟨by omega, by omega, fun j hj => F j (by omega)⟩⟩
  have c1 : i < q.length := by omega
  have lt1 : decide ((i : Int) < (p.length : Int)) = true := decide_eq_true (by omega)
  have IX := Rx.2.1 .i64 i c0
  have IY := Ry.2.1 .i64 i c1
  have hp0 : 0 < p.length := by omega
  have hq0 : 0 < q.length := by omega
  have FX := Rx.2.2.1
  have FY := Ry.2.2.1
  have KX : ldV H (ptrAt x (i * 4)) = some (.int .i64 p[i].kind) := Rx.2.2.2.2.1 i c0
  have KY : ldV H (ptrAt y (i * 4)) = some (.int .i64 q[i].kind) := Ry.2.2.2.2.1 i c1
  have LX1 : ldV H (ptrAt x (i * 4 + 1)) = some (.int .i64 p[i].inn) := Rx.2.2.2.1 i 1 c0 (by omega)
  have LY1 : ldV H (ptrAt y (i * 4 + 1)) = some (.int .i64 q[i].inn) := Ry.2.2.2.1 i 1 c1 (by omega)
  have LX2 : ldV H (ptrAt x (i * 4 + 2)) = some (.int .i64 p[i].in2) := Rx.2.2.2.1 i 2 c0 (by omega)
  have LY2 : ldV H (ptrAt y (i * 4 + 2)) = some (.int .i64 q[i].in2) := Ry.2.2.2.1 i 2 c1 (by omega)
  have LX3 : ldV H (ptrAt x (i * 4 + 3)) = some (.float .f64 p[i].v) := Rx.2.2.2.1 i 3 c0 (by omega)
  have LY3 : ldV H (ptrAt y (i * 4 + 3)) = some (.float .f64 q[i].v) := Ry.2.2.2.1 i 3 c1 (by omega)
  have nx := nd_eq c0
  have ny := nd_eq c1
  have no : ¬ sameN p[i] q[i] → decide (sameG a b) = false := fun z => by
    rw [decide_eq_false]; rw [qq]; intro w; have := w.2.2 i c0; rw [nx, ny] at this; exact z this
  by_cases k1 : p[i].kind = q[i].kind
  rotate_left
  · simp (maxSteps := 4000000) (disch := omega) only [ah, am, Nat.reduceEqDiff, reduceCtorEq, Nat.reduceAdd, Nat.reduceLeDiff, Nat.reduceMul, Nat.reduceLT, if_true, if_false, true_and, and_true, and_self, Nat.reduceBEq, QOp.loads, boxO, bslO, buildO, cutL, fillV, putL, w16, v16, Rx.1, lt1, IX, IY, FX 0 _ hp0, FY 0 _ hq0, Nat.add_zero, KX, KY, decide_eq_false k1, Bool.not_false]
    exact ⟨E2, by rw [no fun z => k1 z.1]⟩
  by_cases k2 : p[i].inn = q[i].inn
  rotate_left
  · simp (maxSteps := 4000000) (disch := omega) only [ah, am, Nat.reduceEqDiff, reduceCtorEq, Nat.reduceAdd, Nat.reduceLeDiff, Nat.reduceMul, Nat.reduceLT, if_true, if_false, true_and, and_true, and_self, Nat.reduceBEq, QOp.loads, boxO, bslO, buildO, cutL, fillV, putL, w16, v16, Rx.1, lt1, IX, IY, FX 0 _ hp0, FY 0 _ hq0, FX 1 _ hp0, FY 1 _ hq0, Nat.add_zero, KX, KY, LX1, LY1, decide_eq_true k1, decide_eq_false k2, Bool.not_false, Bool.not_true]
    exact ⟨E2, by rw [no fun z => k2 z.2.1]⟩
  by_cases k3 : p[i].in2 = q[i].in2
  rotate_left
  · simp (maxSteps := 4000000) (disch := omega) only [ah, am, Nat.reduceEqDiff, reduceCtorEq, Nat.reduceAdd, Nat.reduceLeDiff, Nat.reduceMul, Nat.reduceLT, if_true, if_false, true_and, and_true, and_self, Nat.reduceBEq, QOp.loads, boxO, bslO, buildO, cutL, fillV, putL, w16, v16, Rx.1, lt1, IX, IY, FX 0 _ hp0, FY 0 _ hq0, FX 1 _ hp0, FY 1 _ hq0, FX 2 _ hp0, FY 2 _ hq0, Nat.add_zero, KX, KY, LX1, LY1, LX2, LY2, decide_eq_true k1, decide_eq_true k2, decide_eq_false k3, Bool.not_false, Bool.not_true]
    exact ⟨E2, by rw [no fun z => k3 z.2.2.1]⟩
  simp (maxSteps := 4000000) (disch := omega) only [ah, am, Nat.reduceEqDiff, reduceCtorEq, Nat.reduceAdd, Nat.reduceLeDiff, Nat.reduceMul, Nat.reduceLT, if_true, if_false, true_and, and_true, and_self, Nat.reduceBEq, QOp.loads, boxO, bslO, buildO, cutL, fillV, putL, w16, v16, Rx.1, lt1, IX, IY, FX 0 _ hp0, FY 0 _ hq0, FX 1 _ hp0, FY 1 _ hq0, FX 2 _ hp0, FY 2 _ hq0, FX 3 _ hp0, FY 3 _ hq0, Nat.add_zero, KX, KY, LX1, LY1, LX2, LY2, LX3, LY3, decide_eq_true k1, decide_eq_true k2, decide_eq_true k3, Bool.not_true]
  refine stepC.of (l10Same_ok H p[i].v q[i].v) ?_
  rintro _ Hx ⟨hx, rfl⟩; rw [hx]; clear hx Hx
  by_cases k4 : sameF p[i].v q[i].v
  · simp (maxSteps := 4000000) (disch := omega) only [ah, am, Nat.reduceEqDiff, reduceCtorEq, Nat.reduceAdd, Nat.reduceLeDiff, Nat.reduceMul, Nat.reduceLT, if_true, if_false, true_and, and_true, and_self, Nat.reduceBEq, QOp.loads, boxO, bslO, buildO, cutL, fillV, putL, w16, v16, decide_eq_true k4, Bool.not_true, W]
    refine ⟨c0, fun j hj => ?_⟩
    by_cases z : j = i
    · subst z; rw [nx, ny]; exact ⟨k1, k2, k3, k4⟩
    · exact F j (by omega)
  · simp (maxSteps := 4000000) (disch := omega) only [ah, am, Nat.reduceEqDiff, reduceCtorEq, Nat.reduceAdd, Nat.reduceLeDiff, Nat.reduceMul, Nat.reduceLT, if_true, if_false, true_and, and_true, and_self, Nat.reduceBEq, QOp.loads, boxO, bslO, buildO, cutL, fillV, putL, w16, v16, decide_eq_false k4, Bool.not_false]
    exact ⟨E2, by rw [no fun z => k4 z.2.2.2]⟩
end Go.Proofs.Ytdagajblnlemaaa
