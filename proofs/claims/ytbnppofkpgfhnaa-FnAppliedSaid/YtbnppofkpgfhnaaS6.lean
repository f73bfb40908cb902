import Derived.Test.YtbnppofkpgfhnaaS5
namespace Go.Proofs.Ytbnppofkpgfhnaa
open Go Go.Ah
set_option linter.unusedSimpArgs false
set_option linter.unusedVariables false
set_option maxRecDepth 10000
set_option maxHeartbeats 4000000

/-- The end of one clip and the begin of another one moved. -/
def moveF (l : List Clip) (a b n : Int) : List Clip × Bool :=
  if trackOk l ∧ (-10000000 ≤ n ∧ n ≤ 10000000) ∧ realAt l a ∧ realAt l b then
    editF ((l.set a.toNat ⟨(cAt l a).src, (cAt l a).inn, (cAt l a).len + n⟩).set b.toNat ⟨(cAt l b).src, (cAt l b).inn + n, (cAt l b).len - n⟩)
  else ([], false)
def slideF (l : List Clip) (i n : Int) : List Clip × Bool := if 1 ≤ i ∧ realAt l i then moveF l (i - 1) (i + 1) n else ([], false)
end Go.Proofs.Ytbnppofkpgfhnaa
