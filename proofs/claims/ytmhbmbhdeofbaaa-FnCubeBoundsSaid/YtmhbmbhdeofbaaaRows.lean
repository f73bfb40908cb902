/-
  No cell of these rows narrows 'for every input' (looked for: loops, veiled, ifaces, maps, wideKeys, modest, calm, conditions, laid).
  DERIVED. THE GIVEN ROWS OF THIS SEAT. 3 by the template 'for every input the law returns true; each argument reads behind the call as it read before'; 0 by the template 'total and deterministic' (their statements: YtmhbmbhdeofbaaaTotals.lean).
  GIVEN WITH THE SEED: the statements are not yours to turn. If you find one false, say at which input.
  Laid BY PROGRAM, IN A SANDBOX (cutbox-rows.mjs): the forced cells as the released guide's own fill.sh prints them over the translation 05ceef39716e9239… (all of the seat's roots in one cut). By AI agents, Wed Nov 11 2026. No macro, syntax, notation, axiom, sorry.
-/
import Derived.Test.YtmhbmbhdeofbaaaChecked
import GoSem.Claim
import GoSem.ClaimJoined
import GoSem.ClaimMapViews
import Derived.JoinedTies
import Derived.KernelRfl
namespace Go.Proofs.Ytmhbmbhdeofbaaa
/- THE CELL 'sum', in the pinned program and in every row, IS THE sha256 OF THE DUMP (.gsa) THAT YtmhbmbhdeofbaaaProg.lean LOADS. Nothing in Lean hashes anything: it is a label: what it is worth is what the hold of that sum in a sandbox is worth. -/
noncomputable def Try.pinned : Pinned := { name := "ytmhbmbhdeofbaaa", sum := "05ceef39716e9239cc6353b9d74fb67ee4407e77e4fcf4a280ef6a3c25efc97f", checked := Try.checked }
namespace Rows
def none {H : Type} : Left H := { results := [], args := [] }

/-- 'laws.FnExactCube': WHATEVER THE INPUT: true; the input reads as it did. -/
def fnExactCubeSpec : ChangeSpec := { name := "fnExactCube", fn := fun _ => fun
  | [d1, d2, d3] => { results := [.lit (.bool true)], args := [d1, d2, d3] }
  | _ => none }
def fnExactCubeRow : OpenClaim := { program := "ytmhbmbhdeofbaaa", sum := "05ceef39716e9239cc6353b9d74fb67ee4407e77e4fcf4a280ef6a3c25efc97f", func := "loop.example/g00066/laws.FnExactCube", spec := "fnExactCube", unfollowed := true, recurses := true, apart := false }
def FnExactCubeSaid : Prop := fnExactCubeRow.holds Try.pinned (OpenSpec.ofChange fnExactCubeSpec)

/-- ITS FALSE NEIGHBOUR: 'it returns false'. Refute it at one input. -/
def fnExactCubeWrong : ChangeSpec := { name := "fnExactCube", fn := fun _ => fun
  | [d1, d2, d3] => { results := [.lit (.bool false)], args := [d1, d2, d3] }
  | _ => none }
def FnExactCubeWrongFalsely : Prop := fnExactCubeRow.holds Try.pinned (OpenSpec.ofChange fnExactCubeWrong)

/-- 'laws.FnPlainCube': WHATEVER THE INPUT: true; the input reads as it did. -/
def fnPlainCubeSpec : ChangeSpec := { name := "fnPlainCube", fn := fun _ => fun
  | [d] => { results := [.lit (.bool true)], args := [d] }
  | _ => none }
def fnPlainCubeRow : OpenClaim := { program := "ytmhbmbhdeofbaaa", sum := "05ceef39716e9239cc6353b9d74fb67ee4407e77e4fcf4a280ef6a3c25efc97f", func := "loop.example/g00066/laws.FnPlainCube", spec := "fnPlainCube", unfollowed := true, recurses := true, apart := false }
def FnPlainCubeSaid : Prop := fnPlainCubeRow.holds Try.pinned (OpenSpec.ofChange fnPlainCubeSpec)

/-- ITS FALSE NEIGHBOUR: 'it returns false'. Refute it at one input. -/
def fnPlainCubeWrong : ChangeSpec := { name := "fnPlainCube", fn := fun _ => fun
  | [d] => { results := [.lit (.bool false)], args := [d] }
  | _ => none }
def FnPlainCubeWrongFalsely : Prop := fnPlainCubeRow.holds Try.pinned (OpenSpec.ofChange fnPlainCubeWrong)

/-- 'laws.FnCubeBounds': WHATEVER THE INPUT: true; the input reads as it did. -/
def fnCubeBoundsSpec : ChangeSpec := { name := "fnCubeBounds", fn := fun _ => fun
  | [d] => { results := [.lit (.bool true)], args := [d] }
  | _ => none }
def fnCubeBoundsRow : OpenClaim := { program := "ytmhbmbhdeofbaaa", sum := "05ceef39716e9239cc6353b9d74fb67ee4407e77e4fcf4a280ef6a3c25efc97f", func := "loop.example/g00066/laws.FnCubeBounds", spec := "fnCubeBounds", unfollowed := true, recurses := true, apart := false }
def FnCubeBoundsSaid : Prop := fnCubeBoundsRow.holds Try.pinned (OpenSpec.ofChange fnCubeBoundsSpec)

/-- ITS FALSE NEIGHBOUR: 'it returns false'. Refute it at one input. -/
def fnCubeBoundsWrong : ChangeSpec := { name := "fnCubeBounds", fn := fun _ => fun
  | [d] => { results := [.lit (.bool false)], args := [d] }
  | _ => none }
def FnCubeBoundsWrongFalsely : Prop := fnCubeBoundsRow.holds Try.pinned (OpenSpec.ofChange fnCubeBoundsWrong)

/- THE SECOND FORM. 'bulk': how many values and letters a reading holds, each counted each time it is reached (what is shared counts as often as it is met; a slice's spare places count too). A statement '..UptoSaid' is the law's where the arguments, and the package variables that the reading takes, are together of bulk at most 1048576: NARROWER than '..Said'. Prove '..Said' where nothing that the law and all that it calls make is longer than what came in: it says more and counts as full. Else prove '..UptoSaid'. A law counts once. -/
mutual
def uptoBulk {H : Type} : DataW H → Nat
  | .lit (.string bytes) => bytes.length + 1
  | .lit _ => 1
  | .nil => 1
  | .ptr d => uptoBulk d + 1
  | .slice elems spare => uptoBulkAll elems + uptoBulkAll spare + 1
  | .agg parts => uptoBulkAll parts + 1
  | .iface _ d => uptoBulk d + 1
  | .map entries => uptoBulkEntries entries + 1
  | .held _ => 1
def uptoBulkAll {H : Type} : List (DataW H) → Nat
  | [] => 0
  | d :: r => uptoBulk d + uptoBulkAll r
def uptoBulkEntries {H : Type} : List (Lit × DataW H) → Nat
  | [] => 0
  | x :: r => uptoBulkEntry x + uptoBulkEntries r
def uptoBulkEntry {H : Type} : Lit × DataW H → Nat
  | (.string bytes, d) => bytes.length + uptoBulk d + 1
  | (_, d) => uptoBulk d + 1
 end
def uptoSmall : (H : Type) → List (DataW H) → Bool := fun _ ds => decide (uptoBulkAll ds ≤ 1048576)
def OpenSpec.upto (s : _root_.Go.ChangeSpec) : _root_.Go.OpenSpec := { _root_.Go.OpenSpec.ofChange s with cond := some uptoSmall }

/-- 'laws.FnExactCube', WHERE WHAT IT READS IS OF BULK AT MOST 1048576: true; the input reads as it did. -/
def fnExactCubeUptoRow : OpenClaim := { program := "ytmhbmbhdeofbaaa", sum := "05ceef39716e9239cc6353b9d74fb67ee4407e77e4fcf4a280ef6a3c25efc97f", func := "loop.example/g00066/laws.FnExactCube", spec := "fnExactCube", unfollowed := true, recurses := true, apart := false, narrowed := true }
def FnExactCubeUptoSaid : Prop := fnExactCubeUptoRow.holds Try.pinned (OpenSpec.upto fnExactCubeSpec)

/-- 'laws.FnPlainCube', WHERE WHAT IT READS IS OF BULK AT MOST 1048576: true; the input reads as it did. -/
def fnPlainCubeUptoRow : OpenClaim := { program := "ytmhbmbhdeofbaaa", sum := "05ceef39716e9239cc6353b9d74fb67ee4407e77e4fcf4a280ef6a3c25efc97f", func := "loop.example/g00066/laws.FnPlainCube", spec := "fnPlainCube", unfollowed := true, recurses := true, apart := false, narrowed := true }
def FnPlainCubeUptoSaid : Prop := fnPlainCubeUptoRow.holds Try.pinned (OpenSpec.upto fnPlainCubeSpec)

/-- 'laws.FnCubeBounds', WHERE WHAT IT READS IS OF BULK AT MOST 1048576: true; the input reads as it did. -/
def fnCubeBoundsUptoRow : OpenClaim := { program := "ytmhbmbhdeofbaaa", sum := "05ceef39716e9239cc6353b9d74fb67ee4407e77e4fcf4a280ef6a3c25efc97f", func := "loop.example/g00066/laws.FnCubeBounds", spec := "fnCubeBounds", unfollowed := true, recurses := true, apart := false, narrowed := true }
def FnCubeBoundsUptoSaid : Prop := fnCubeBoundsUptoRow.holds Try.pinned (OpenSpec.upto fnCubeBoundsSpec)

end Rows
end Go.Proofs.Ytmhbmbhdeofbaaa
