import Derived.Test.YtdagajblnlemaaaP9
namespace Go.Proofs.Ytdagajblnlemaaa
open Go Go.Ah Go.RowKit Go.Shelf
attribute [local go_sem] Oper.semAt_some
set_option linter.unusedVariables false
set_option maxRecDepth 100000
set_option maxHeartbeats 8000000
def rowP (l : List Node) (pre : List Nat) : List Bool := pre.foldl (fun w i => needS l i w) (needK l 0)
theorem rowP_snoc (l : List Node) (pre : List Nat) (x : Nat) : rowP l (pre ++ [x]) = needS l x (rowP l pre) := by simp [rowP]
theorem rowP_down (l : List Node) : ∀ k, rowP l (down l.length k) = needK l k := by
  intro k
  induction k with
  | zero => rfl
  | succ k ih => rw [down_succ, rowP_snoc, ih]; rfl
theorem needS_len (l : List Node) (i : Nat) (w : List Bool) : (needS l i w).length = w.length := by unfold needS; split <;> simp [stepW_len]
theorem rowP_len (l : List Node) : ∀ pre, (rowP l pre).length = l.length := by
  intro pre
  unfold rowP
  have : ∀ (pre : List Nat) (w : List Bool), (pre.foldl (fun w i => needS l i w) w).length = w.length := by
    intro pre
    induction pre with
    | nil => intro w; rfl
    | cons x pre ih => intro w; rw [List.foldl_cons, ih, needS_len]
  rw [this, needK_len]
theorem set_self (w : List Bool) (i : Nat) : w.set i (w.getD i false) = w := by
  apply List.ext_getElem
  · simp
  · intro j h1 h2
    rw [List.getElem_set]
    split
    · rename_i e; subst e; simp [List.getD, h2]
    · rfl
theorem row_step (nd : Node) (w : List Bool) (i j : Nat) (hi : nd.inn.toNat = i) (hj : nd.in2.toNat = j) (hil : i < w.length) (hjl : j < w.length) :
    (w.set i (w.getD i false || has1 nd.kind)).set j ((if j = i then w.getD i false || has1 nd.kind else w.getD j false) || has2 nd.kind) = if nd.kind ≠ 1 then stepW nd w else w := by
  subst hi; subst hj
  unfold stepW has1 has2
  by_cases k1 : nd.kind = 1
  · have k4 : ¬ nd.kind = 4 := by omega
    simp only [k1, k4, ne_eq, not_true, decide_false, Bool.or_false, if_false]
    rw [show decide ((1 : Int) = 4) = false from rfl, Bool.or_false, set_self]
    split
    · rename_i e; rw [e]; exact set_self _ _
    · exact set_self _ _
  · by_cases k4 : nd.kind = 4
    · simp [k1, k4]
    · simp only [k1, k4, ne_eq, not_false_eq_true, decide_true, decide_false, Bool.or_true, Bool.or_false, if_true, if_false]
      split
      · rename_i e; rw [e, List.set_set]
      · rename_i e
        apply List.ext_getElem
        · simp
        · intro q h1 h2
          rw [List.getElem_set]
          split
          · rename_i e2; subst e2
            rw [List.getElem_set_ne (fun z => e z.symm)]
            simp [List.getD, hjl]
          · rfl
section
variable {W0 : World} {m : Map}
/-- Between two rounds. -/
def InvL (W0 : World) (m : Map) (K0 : Heap) (w : World) (wb ib : Nat) (l : List Node) (pre : List Nat) (W : World) : Prop :=
  KeepBut wb w W ∧ ∃ K, Rel W0 m K W ∧ Step m K0 m K ∧ Bx K ib ((rowP l pre).map Value.bool) ∧ ExtG ib K0 K
theorem keepBut_grown {wb : Nat} {w A B : World} {row : Option Nat} (h : KeepBut wb w A) (hg : A.grownBy B row) (hr : ∀ r, row = some r → ∃ o : Go.Obj, A.heap[r]? = some o ∧ o.isCells = false) : KeepBut wb w B :=
  fun p v hp e => cell_kept (h p v hp e) hg hr
theorem relGrown {K : Heap} {A B : World} {row : Option Nat} {n : Nat} (r : Rel W0 m K A) (hn : W0.heap.size ≤ n) (hg : A.grownBy B row) (hr : ∀ q, row = some q → n ≤ q ∧ ∃ o : Go.Obj, A.heap[q]? = some o ∧ o.isCells = false) : Rel W0 m K B :=
  relKept r (fun b c e f h => (grownBy_keeps_cells hg (fun q e => (hr q e).2) h rfl).trans h) (r.below.grown hg r.below.size (fun k e => Nat.le_trans hn (hr k e).1))
end
end Go.Proofs.Ytdagajblnlemaaa
