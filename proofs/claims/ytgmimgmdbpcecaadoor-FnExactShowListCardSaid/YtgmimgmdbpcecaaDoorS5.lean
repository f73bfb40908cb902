import Derived.Test.YtgmimgmdbpcecaaDoorS4
namespace Go.Proofs.YtgmimgmdbpcecaaDoor
open Go Go.Ah
set_option linter.unusedSimpArgs false
set_option linter.unusedVariables false
set_option maxRecDepth 10000
set_option maxHeartbeats 4000000

/-- A pair of a list and a bool, as a call answers it. -/
def Pair (h h' : Heap) (r : Value) (p : List Clip × Bool) : Prop := ∃ rv, r = .tuple #[rv, .bool p.2] ∧ Fresh h h' encClip 3 rv p.1
def editF (l : List Clip) : List Clip × Bool := if (∀ k ∈ l, clipOk k) ∧ trackOk (join l) then (join l, true) else ([], false)
theorem Pair.mono {h0 h h' : Heap} {r : Value} {p : List Clip × Bool} (f : Pair h h' r p) (e : Ext h0 h) : Pair h0 h' r p := by
  obtain ⟨rv, e1, f⟩ := f; exact ⟨rv, e1, f.mono e⟩
def cAt (l : List Clip) (i : Int) : Clip := l.getD i.toNat zClip
def realAt (l : List Clip) (i : Int) : Prop := 0 ≤ i ∧ i < l.length ∧ (cAt l i).src ≠ 0
instance (l : List Clip) (i : Int) : Decidable (realAt l i) := by unfold realAt; infer_instance
theorem cAt_eq (l : List Clip) (i : Int) (hi : i.toNat < l.length) : cAt l i = l[i.toNat] := by
  simp only [cAt, List.getD_eq_getElem?_getD, List.getElem?_eq_getElem hi, Option.getD_some]
/-- A clip that is no gap turned into another one. -/
def turnF (l : List Clip) (i n : Int) (f : Clip → Clip) : List Clip × Bool :=
  if trackOk l ∧ (-10000000 ≤ n ∧ n ≤ 10000000) ∧ realAt l i then editF (l.set i.toNat (f (cAt l i))) else ([], false)
end Go.Proofs.YtgmimgmdbpcecaaDoor
