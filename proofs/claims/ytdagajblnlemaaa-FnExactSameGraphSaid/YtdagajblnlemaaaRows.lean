/-
  No cell of these rows narrows 'for every input' (looked for: loops, veiled, ifaces, maps, wideKeys, modest, calm, conditions, laid).
  DERIVED. THE GIVEN ROWS OF THIS SEAT. 6 by the template 'for every input the law returns true; each argument reads behind the call as it read before'; 0 by the template 'total and deterministic' (their statements: YtdagajblnlemaaaTotals.lean).
  GIVEN WITH THE SEED: the statements are not yours to turn. If you find one false, say at which input.
  Laid BY PROGRAM, IN A SANDBOX (cutbox-rows.mjs): the forced cells as the released guide's own fill.sh prints them over the translation 9c27fa8c595909de… (all of the seat's roots in one cut). By AI agents, Wed Nov 11 2026. No macro, syntax, notation, axiom, sorry.
-/
import Derived.Test.YtdagajblnlemaaaChecked
import GoSem.Claim
import GoSem.ClaimJoined
import GoSem.ClaimMapViews
import Derived.JoinedTies
import Derived.KernelRfl
namespace Go.Proofs.Ytdagajblnlemaaa
/- THE CELL 'sum', in the pinned program and in every row, IS THE sha256 OF THE DUMP (.gsa) THAT YtdagajblnlemaaaProg.lean LOADS. Nothing in Lean hashes anything: it is a label: what it is worth is what the hold of that sum in a sandbox is worth. -/
noncomputable def Try.pinned : Pinned := { name := "ytdagajblnlemaaa", sum := "9c27fa8c595909de4a8b46c66481904c0b307bd2ecb906c211d5d8de0dc7a13a", checked := Try.checked }
namespace Rows
def none {H : Type} : Left H := { results := [], args := [] }

/-- 'laws.FnExactPruned': WHATEVER THE INPUT: true; the input reads as it did. -/
def fnExactPrunedSpec : ChangeSpec := { name := "fnExactPruned", fn := fun _ => fun
  | [d] => { results := [.lit (.bool true)], args := [d] }
  | _ => none }
def fnExactPrunedRow : OpenClaim := { program := "ytdagajblnlemaaa", sum := "9c27fa8c595909de4a8b46c66481904c0b307bd2ecb906c211d5d8de0dc7a13a", func := "loop.example/g00066/laws.FnExactPruned", spec := "fnExactPruned", inPlace := ["math.Float64bits"], unfollowed := true, recurses := true, apart := false }
def FnExactPrunedSaid : Prop := fnExactPrunedRow.holds Try.pinned (OpenSpec.ofChange fnExactPrunedSpec)

/-- ITS FALSE NEIGHBOUR: 'it returns false'. Refute it at one input. -/
def fnExactPrunedWrong : ChangeSpec := { name := "fnExactPruned", fn := fun _ => fun
  | [d] => { results := [.lit (.bool false)], args := [d] }
  | _ => none }
def FnExactPrunedWrongFalsely : Prop := fnExactPrunedRow.holds Try.pinned (OpenSpec.ofChange fnExactPrunedWrong)

/-- 'laws.FnExactSameGraph': WHATEVER THE INPUT: true; the input reads as it did. -/
def fnExactSameGraphSpec : ChangeSpec := { name := "fnExactSameGraph", fn := fun _ => fun
  | [d1, d2] => { results := [.lit (.bool true)], args := [d1, d2] }
  | _ => none }
def fnExactSameGraphRow : OpenClaim := { program := "ytdagajblnlemaaa", sum := "9c27fa8c595909de4a8b46c66481904c0b307bd2ecb906c211d5d8de0dc7a13a", func := "loop.example/g00066/laws.FnExactSameGraph", spec := "fnExactSameGraph", inPlace := ["math.Float64bits"], unfollowed := true, recurses := true, apart := false }
def FnExactSameGraphSaid : Prop := fnExactSameGraphRow.holds Try.pinned (OpenSpec.ofChange fnExactSameGraphSpec)

/-- ITS FALSE NEIGHBOUR: 'it returns false'. Refute it at one input. -/
def fnExactSameGraphWrong : ChangeSpec := { name := "fnExactSameGraph", fn := fun _ => fun
  | [d1, d2] => { results := [.lit (.bool false)], args := [d1, d2] }
  | _ => none }
def FnExactSameGraphWrongFalsely : Prop := fnExactSameGraphRow.holds Try.pinned (OpenSpec.ofChange fnExactSameGraphWrong)

/-- 'laws.FnExactGrade': WHATEVER THE INPUT: true; the input reads as it did. -/
def fnExactGradeSpec : ChangeSpec := { name := "fnExactGrade", fn := fun _ => fun
  | [d1, d2] => { results := [.lit (.bool true)], args := [d1, d2] }
  | _ => none }
def fnExactGradeRow : OpenClaim := { program := "ytdagajblnlemaaa", sum := "9c27fa8c595909de4a8b46c66481904c0b307bd2ecb906c211d5d8de0dc7a13a", func := "loop.example/g00066/laws.FnExactGrade", spec := "fnExactGrade", inPlace := ["math.Float64bits"], unfollowed := true, recurses := true, apart := false }
def FnExactGradeSaid : Prop := fnExactGradeRow.holds Try.pinned (OpenSpec.ofChange fnExactGradeSpec)

/-- ITS FALSE NEIGHBOUR: 'it returns false'. Refute it at one input. -/
def fnExactGradeWrong : ChangeSpec := { name := "fnExactGrade", fn := fun _ => fun
  | [d1, d2] => { results := [.lit (.bool false)], args := [d1, d2] }
  | _ => none }
def FnExactGradeWrongFalsely : Prop := fnExactGradeRow.holds Try.pinned (OpenSpec.ofChange fnExactGradeWrong)

/-- 'laws.FnExactGradeAll': WHATEVER THE INPUT: true; the input reads as it did. -/
def fnExactGradeAllSpec : ChangeSpec := { name := "fnExactGradeAll", fn := fun _ => fun
  | [d1, d2] => { results := [.lit (.bool true)], args := [d1, d2] }
  | _ => none }
def fnExactGradeAllRow : OpenClaim := { program := "ytdagajblnlemaaa", sum := "9c27fa8c595909de4a8b46c66481904c0b307bd2ecb906c211d5d8de0dc7a13a", func := "loop.example/g00066/laws.FnExactGradeAll", spec := "fnExactGradeAll", inPlace := ["math.Float64bits"], unfollowed := true, recurses := true, apart := false }
def FnExactGradeAllSaid : Prop := fnExactGradeAllRow.holds Try.pinned (OpenSpec.ofChange fnExactGradeAllSpec)

/-- ITS FALSE NEIGHBOUR: 'it returns false'. Refute it at one input. -/
def fnExactGradeAllWrong : ChangeSpec := { name := "fnExactGradeAll", fn := fun _ => fun
  | [d1, d2] => { results := [.lit (.bool false)], args := [d1, d2] }
  | _ => none }
def FnExactGradeAllWrongFalsely : Prop := fnExactGradeAllRow.holds Try.pinned (OpenSpec.ofChange fnExactGradeAllWrong)

/-- 'laws.FnSameGraph': WHATEVER THE INPUT: true; the input reads as it did. -/
def fnSameGraphSpec : ChangeSpec := { name := "fnSameGraph", fn := fun _ => fun
  | [d] => { results := [.lit (.bool true)], args := [d] }
  | _ => none }
def fnSameGraphRow : OpenClaim := { program := "ytdagajblnlemaaa", sum := "9c27fa8c595909de4a8b46c66481904c0b307bd2ecb906c211d5d8de0dc7a13a", func := "loop.example/g00066/laws.FnSameGraph", spec := "fnSameGraph", inPlace := ["math.Float64bits"], unfollowed := true, recurses := true, apart := false }
def FnSameGraphSaid : Prop := fnSameGraphRow.holds Try.pinned (OpenSpec.ofChange fnSameGraphSpec)

/-- ITS FALSE NEIGHBOUR: 'it returns false'. Refute it at one input. -/
def fnSameGraphWrong : ChangeSpec := { name := "fnSameGraph", fn := fun _ => fun
  | [d] => { results := [.lit (.bool false)], args := [d] }
  | _ => none }
def FnSameGraphWrongFalsely : Prop := fnSameGraphRow.holds Try.pinned (OpenSpec.ofChange fnSameGraphWrong)

/-- 'laws.FnGraphSplit': WHATEVER THE INPUT: true; the input reads as it did. -/
def fnGraphSplitSpec : ChangeSpec := { name := "fnGraphSplit", fn := fun _ => fun
  | [d] => { results := [.lit (.bool true)], args := [d] }
  | _ => none }
def fnGraphSplitRow : OpenClaim := { program := "ytdagajblnlemaaa", sum := "9c27fa8c595909de4a8b46c66481904c0b307bd2ecb906c211d5d8de0dc7a13a", func := "loop.example/g00066/laws.FnGraphSplit", spec := "fnGraphSplit", inPlace := ["math.Float64bits"], unfollowed := true, recurses := true, apart := false }
def FnGraphSplitSaid : Prop := fnGraphSplitRow.holds Try.pinned (OpenSpec.ofChange fnGraphSplitSpec)

/-- ITS FALSE NEIGHBOUR: 'it returns false'. Refute it at one input. -/
def fnGraphSplitWrong : ChangeSpec := { name := "fnGraphSplit", fn := fun _ => fun
  | [d] => { results := [.lit (.bool false)], args := [d] }
  | _ => none }
def FnGraphSplitWrongFalsely : Prop := fnGraphSplitRow.holds Try.pinned (OpenSpec.ofChange fnGraphSplitWrong)

/- THE SECOND FORM. 'bulk': how many values and letters a reading holds, each counted each time it is reached (what is shared counts as often as it is met; a slice's spare places count too). A statement '..UptoSaid' is the law's where the arguments, and the package variables that the reading takes, are together of bulk at most 1048576: NARROWER than '..Said'. Prove '..Said' where nothing that the law and all that it calls make is longer than what came in: it says more and counts as full. Else prove '..UptoSaid'. A law counts once. -/
mutual
def uptoBulk {H : Type} : DataW H → Nat
  | .lit (.string bytes) => bytes.length + 1
  | .lit _ => 1
  | .nil => 1
  | .ptr d => uptoBulk d + 1
  | .slice elems spare => uptoBulkAll elems + uptoBulkAll spare + 1
  | .agg parts => uptoBulkAll parts + 1
  | .iface _ d => uptoBulk d + 1
  | .map entries => uptoBulkEntries entries + 1
  | .held _ => 1
def uptoBulkAll {H : Type} : List (DataW H) → Nat
  | [] => 0
  | d :: r => uptoBulk d + uptoBulkAll r
def uptoBulkEntries {H : Type} : List (Lit × DataW H) → Nat
  | [] => 0
  | x :: r => uptoBulkEntry x + uptoBulkEntries r
def uptoBulkEntry {H : Type} : Lit × DataW H → Nat
  | (.string bytes, d) => bytes.length + uptoBulk d + 1
  | (_, d) => uptoBulk d + 1
 end
def uptoSmall : (H : Type) → List (DataW H) → Bool := fun _ ds => decide (uptoBulkAll ds ≤ 1048576)
def OpenSpec.upto (s : _root_.Go.ChangeSpec) : _root_.Go.OpenSpec := { _root_.Go.OpenSpec.ofChange s with cond := some uptoSmall }

/-- 'laws.FnExactPruned', WHERE WHAT IT READS IS OF BULK AT MOST 1048576: true; the input reads as it did. -/
def fnExactPrunedUptoRow : OpenClaim := { program := "ytdagajblnlemaaa", sum := "9c27fa8c595909de4a8b46c66481904c0b307bd2ecb906c211d5d8de0dc7a13a", func := "loop.example/g00066/laws.FnExactPruned", spec := "fnExactPruned", inPlace := ["math.Float64bits"], unfollowed := true, recurses := true, apart := false, narrowed := true }
def FnExactPrunedUptoSaid : Prop := fnExactPrunedUptoRow.holds Try.pinned (OpenSpec.upto fnExactPrunedSpec)

/-- 'laws.FnExactSameGraph', WHERE WHAT IT READS IS OF BULK AT MOST 1048576: true; the input reads as it did. -/
def fnExactSameGraphUptoRow : OpenClaim := { program := "ytdagajblnlemaaa", sum := "9c27fa8c595909de4a8b46c66481904c0b307bd2ecb906c211d5d8de0dc7a13a", func := "loop.example/g00066/laws.FnExactSameGraph", spec := "fnExactSameGraph", inPlace := ["math.Float64bits"], unfollowed := true, recurses := true, apart := false, narrowed := true }
def FnExactSameGraphUptoSaid : Prop := fnExactSameGraphUptoRow.holds Try.pinned (OpenSpec.upto fnExactSameGraphSpec)

/-- 'laws.FnExactGrade', WHERE WHAT IT READS IS OF BULK AT MOST 1048576: true; the input reads as it did. -/
def fnExactGradeUptoRow : OpenClaim := { program := "ytdagajblnlemaaa", sum := "9c27fa8c595909de4a8b46c66481904c0b307bd2ecb906c211d5d8de0dc7a13a", func := "loop.example/g00066/laws.FnExactGrade", spec := "fnExactGrade", inPlace := ["math.Float64bits"], unfollowed := true, recurses := true, apart := false, narrowed := true }
def FnExactGradeUptoSaid : Prop := fnExactGradeUptoRow.holds Try.pinned (OpenSpec.upto fnExactGradeSpec)

/-- 'laws.FnExactGradeAll', WHERE WHAT IT READS IS OF BULK AT MOST 1048576: true; the input reads as it did. -/
def fnExactGradeAllUptoRow : OpenClaim := { program := "ytdagajblnlemaaa", sum := "9c27fa8c595909de4a8b46c66481904c0b307bd2ecb906c211d5d8de0dc7a13a", func := "loop.example/g00066/laws.FnExactGradeAll", spec := "fnExactGradeAll", inPlace := ["math.Float64bits"], unfollowed := true, recurses := true, apart := false, narrowed := true }
def FnExactGradeAllUptoSaid : Prop := fnExactGradeAllUptoRow.holds Try.pinned (OpenSpec.upto fnExactGradeAllSpec)

/-- 'laws.FnSameGraph', WHERE WHAT IT READS IS OF BULK AT MOST 1048576: true; the input reads as it did. -/
def fnSameGraphUptoRow : OpenClaim := { program := "ytdagajblnlemaaa", sum := "9c27fa8c595909de4a8b46c66481904c0b307bd2ecb906c211d5d8de0dc7a13a", func := "loop.example/g00066/laws.FnSameGraph", spec := "fnSameGraph", inPlace := ["math.Float64bits"], unfollowed := true, recurses := true, apart := false, narrowed := true }
def FnSameGraphUptoSaid : Prop := fnSameGraphUptoRow.holds Try.pinned (OpenSpec.upto fnSameGraphSpec)

/-- 'laws.FnGraphSplit', WHERE WHAT IT READS IS OF BULK AT MOST 1048576: true; the input reads as it did. -/
def fnGraphSplitUptoRow : OpenClaim := { program := "ytdagajblnlemaaa", sum := "9c27fa8c595909de4a8b46c66481904c0b307bd2ecb906c211d5d8de0dc7a13a", func := "loop.example/g00066/laws.FnGraphSplit", spec := "fnGraphSplit", inPlace := ["math.Float64bits"], unfollowed := true, recurses := true, apart := false, narrowed := true }
def FnGraphSplitUptoSaid : Prop := fnGraphSplitUptoRow.holds Try.pinned (OpenSpec.upto fnGraphSplitSpec)

end Rows
end Go.Proofs.Ytdagajblnlemaaa
