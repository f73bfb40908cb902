import Derived.Test.YtdagajblnlemaaaP12
namespace Go.Proofs.Ytdagajblnlemaaa
open Go Go.Ah
set_option linter.unusedSimpArgs false
set_option linter.unusedVariables false
set_option maxRecDepth 10000
set_option maxHeartbeats 4000000
/-! 39 slices.Backward[[]loop.example/g00066/impl.Node,loop.example/g00066/impl.Node]: parameters 1, live [0], slots [0:s, 1:s] -/
def c39_0 : List SOper := [⟨some 1, .a (.box (.t 0)), none⟩, ⟨some 2, .q (.mv (.c .nilFunc)), none⟩]
def c39_1 : List SOper := [⟨some 3, .q (.mkf 58 [(.t 1)]), none⟩, ⟨some 2, .q (.mv (.t 3)), none⟩]
def c39_2 : SCode := .seq (.region c39_1 [2]) .ret
def c39_3 : SCode := .seq (.region c39_0 [1]) c39_2
def c39 : SCode := c39_3
theorem w39 : type_of% (And.intro (uR Try.prog c39_0.eq_1) (And.intro (uR Try.prog c39_1.eq_1) (And.intro (uC Try.prog c39_2.eq_1) (And.intro (uC Try.prog c39_3.eq_1) (uC Try.prog c39.eq_1))))) := (And.intro (uR Try.prog c39_0.eq_1) (And.intro (uR Try.prog c39_1.eq_1) (And.intro (uC Try.prog c39_2.eq_1) (And.intro (uC Try.prog c39_3.eq_1) (uC Try.prog c39.eq_1)))))
def v39 : List RV := [.t 2]
theorem s39 : slimF Try.prog Try.f39 = some (c39.bare, v39) := by kernel_rfl

theorem slc_one {h : Heap} {n : Nat} {v : Value} {L : List Value} (s : Sl h n v L) : v.cells = #[v] ∧ oneB [v] = true := by
  rcases s with ⟨rfl, _⟩ | ⟨rfl, _⟩ | ⟨i, o, k, ob, rfl, _⟩ <;> exact ⟨rfl, rfl⟩
theorem backward_ok (h : Heap) (v : Value) (hc : v.cells = #[v]) (ho : oneB [v] = true) : ACall Try.prog 39 [v] h fun r h' => h' = h.more [[v]] ∧ r = .func (.func 58) #[] #[.pointer (some ⟨h.size, 0, none⟩)] := by
  refine ACall.of Try.func39 s39 (of_decide_eq_true rfl) ?_
  simp (maxSteps := 4000000) (disch := omega) only [ah, am, Nat.reduceEqDiff, reduceCtorEq, Nat.reduceAdd, Nat.reduceLeDiff, Nat.reduceMul, Nat.reduceLT, if_true, if_false, true_and, and_true, and_self, Nat.reduceBEq, QOp.loads, boxO, bslO, buildO, cutL, fillV, putL, w39, v39, hc, ho]
/-- What stands at the loop. -/
def HoleF (h : Heap) (v : Value) (l : List Node) (E : Env) (K : Heap) : Prop :=
  ∃ ib bb sb, graphOk l ∧ Ext h K ∧ h.size ≤ ib ∧ ib < bb ∧ bb < sb ∧ Bx K ib ((needK l 0).map Value.bool) ∧ Bx K bb [.slice (some ⟨ib, 0, none⟩) l.length 1] ∧ Bx K sb [v] ∧
    E = [(0, v), (3, .pointer (some ⟨bb, 0, none⟩)), (28, .func (.func 58) #[] #[.pointer (some ⟨sb, 0, none⟩)])]
def preQ (h : Heap) (v : Value) (l : List Node) : Go.Exit → Env → Heap → Prop
  | .normal, E, K => HoleF h v l E K
  | .ret, E, K => retQ v12 (fun r h' => Fresh h h' encNode 4 r (prunedF l)) .ret E K
  | _, _, _ => False
def sPre : SCode := .seq (.region c12_0 [0]) (.seq c12_5 (.seq (.region c12_6 [0, 3]) (.seq (.region c12_7 [0, 3]) (.region c12_8 [0, 3, 28]))))
theorem pre_ok (h : Heap) (v : Value) (l : List Node) (s : SlT h encNode 4 v l) (hl : l.length ≤ 281474976710656) : SW Try.prog sPre (preQ h v l) (env0 0 [v]) h := by
  unfold sPre
  skip
  simp (maxSteps := 4000000) (disch := omega) only [ah, am, Nat.reduceEqDiff, reduceCtorEq, Nat.reduceAdd, Nat.reduceLeDiff, Nat.reduceMul, Nat.reduceLT, if_true, if_false, true_and, and_true, and_self, Nat.reduceBEq, QOp.loads, boxO, bslO, buildO, cutL, fillV, putL, w12, v12]
  refine stepC.of (implGraphOk_ok h v l s hl) ?_
  rintro _ H1 ⟨e1, rfl⟩
  by_cases ok : graphOk l
  rotate_left
  · simp (maxSteps := 4000000) (disch := omega) only [ah, am, Nat.reduceEqDiff, reduceCtorEq, Nat.reduceAdd, Nat.reduceLeDiff, Nat.reduceMul, Nat.reduceLT, if_true, if_false, true_and, and_true, and_self, Nat.reduceBEq, QOp.loads, boxO, bslO, buildO, cutL, fillV, putL, w12, v12, decide_eq_false ok, Bool.not_false, preQ, v12]
    rw [show prunedF l = [] from if_neg ok]
    exact ⟨e1, H1.size, e1.1, ⟨.inl ⟨rfl, rfl⟩, encNode_len, by omega⟩⟩
  have hn := ok.1
  have R := s.rulesN
  have w1 : IntKind.i64.wrap ((l.length : Int) - 1) = ((l.length - 1 : Nat) : Int) := i64e (by omega) (by omega)
  have hrep : (List.replicate l.length [Value.bool false]).flatten = (List.replicate l.length false).map Value.bool := by simp
  simp (maxSteps := 4000000) (disch := omega) only [ah, am, Nat.reduceEqDiff, reduceCtorEq, Nat.reduceAdd, Nat.reduceLeDiff, Nat.reduceMul, Nat.reduceLT, if_true, if_false, true_and, and_true, and_self, Nat.reduceBEq, QOp.loads, boxO, bslO, buildO, cutL, fillV, putL, w12, v12, decide_eq_true ok, Bool.not_true, R.1, mksV_nat, hrep, w1]
  have hlen : (l.length - 1) * 1 + 1 ≤ ((List.replicate l.length false).map Value.bool).length := by simp; omega
  have hrow : List.take ((l.length - 1) * 1) ((List.replicate l.length false).map Value.bool) ++ [Value.bool true] ++ List.drop ((l.length - 1) * 1 + 1) ((List.replicate l.length false).map Value.bool) = (needK l 0).map Value.bool := by
    rw [Nat.mul_one]; exact map_splice Value.bool (List.replicate l.length false) (l.length - 1) true (by simp; omega)
  rw [if_pos hlen, hrow]
  simp (maxSteps := 4000000) (disch := omega) only [ah, am, Nat.reduceEqDiff, reduceCtorEq, Nat.reduceAdd, Nat.reduceLeDiff, Nat.reduceMul, Nat.reduceLT, if_true, if_false, true_and, and_true, and_self, Nat.reduceBEq, QOp.loads, boxO, bslO, buildO, cutL, fillV, putL, w12, v12]
  obtain ⟨hc, ho⟩ := slc_one s.sl
  refine stepC.of (backward_ok _ v hc ho) ?_
  rintro _ _ ⟨rfl, rfl⟩
  simp (maxSteps := 4000000) (disch := omega) only [ah, am, Nat.reduceEqDiff, reduceCtorEq, Nat.reduceAdd, Nat.reduceLeDiff, Nat.reduceMul, Nat.reduceLT, if_true, if_false, true_and, and_true, and_self, Nat.reduceBEq, QOp.loads, boxO, bslO, buildO, cutL, fillV, putL, w12, v12, preQ]
  have g := fun k => get_more H1 [(needK l 0).map Value.bool, [Value.slice (some ⟨H1.size, 0, none⟩) l.length 1], [v]] k
  refine ⟨H1.size, H1.size + 1, H1.size + 2, ok, e1.trans (Ext.more _ _), e1.1, by omega, by omega, ?_, ?_, ?_, rfl⟩
  · exact g 0
  · exact g 1
  · exact g 2
section
variable {P : Program} {W0 : World} {N : Nat} {dl : List Deferred} {m0 : Map} {h0 : Heap}
theorem peel {x y : Code} {s0 s1 : SCode} {Q : Go.Exit → Env → Heap → Prop} {R : Go.Exit → Act → World → Prop} (hs : slimC P N x = some s0.bare) {m : Map} {E : Env} {h : Heap} {a : Act} {w : World} (A : At W0 N dl m0 h0 m E h a w)
    (H : SW P (.seq s0 s1) Q E h) (hn : ∀ m E h a w, At W0 N dl m0 h0 m E h a w → SW P s1 Q E h → y.wp P R a w) (hx : ∀ e m E h a w, e ≠ .normal → At W0 N dl m0 h0 m E h a w → Q e E h → R e a w) : (Code.seq x y).wp P R a w := by
  refine wp_seq (wp_mono (sw_sound x s0 hs _ m E h a w A H) ?_)
  rintro e a' w' ⟨m', E', h', A', k⟩
  cases e with
  | normal => exact hn _ _ _ _ _ A' k
  | ret => exact hx .ret _ _ _ _ _ (by simp) A' k
  | exit i => exact hx (.exit i) _ _ _ _ _ (by simp) A' k
  | goto l => exact hx (.goto l) _ _ _ _ _ (by simp) A' k
  | panic c => exact hx (.panic c) _ _ _ _ _ (by simp) A' k
  | outgrown => exact hx .outgrown _ _ _ _ _ (by simp) A' k
end
end Go.Proofs.Ytdagajblnlemaaa
