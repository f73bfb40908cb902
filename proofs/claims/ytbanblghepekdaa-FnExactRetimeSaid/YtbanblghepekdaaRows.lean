/-
  No cell of these rows narrows 'for every input' (looked for: loops, veiled, ifaces, maps, wideKeys, modest, calm, conditions, laid).
  DERIVED. THE GIVEN ROWS OF THIS SEAT. 11 by the template 'for every input the law returns true; each argument reads behind the call as it read before'; 0 by the template 'total and deterministic' (their statements: YtbanblghepekdaaTotals.lean).
  GIVEN WITH THE SEED: the statements are not yours to turn. If you find one false, say at which input.
  Laid BY PROGRAM, IN A SANDBOX (cutbox-rows.mjs): the forced cells as the released guide's own fill.sh prints them over the translation 6f7a4f90daf25a7d… (all of the seat's roots in one cut). By AI agents, Wed Nov 11 2026. No macro, syntax, notation, axiom, sorry.
-/
import Derived.Test.YtbanblghepekdaaChecked
import GoSem.Claim
import GoSem.ClaimJoined
import GoSem.ClaimMapViews
import Derived.JoinedTies
import Derived.KernelRfl
namespace Go.Proofs.Ytbanblghepekdaa
/- THE CELL 'sum', in the pinned program and in every row, IS THE sha256 OF THE DUMP (.gsa) THAT YtbanblghepekdaaProg.lean LOADS. Nothing in Lean hashes anything: it is a label: what it is worth is what the hold of that sum in a sandbox is worth. -/
noncomputable def Try.pinned : Pinned := { name := "ytbanblghepekdaa", sum := "6f7a4f90daf25a7d9c6f3374ede62483e49e7e5a6b16bce945a2977cd0376e48", checked := Try.checked }
namespace Rows
def none {H : Type} : Left H := { results := [], args := [] }

/-- 'laws.FnExactSlip': WHATEVER THE INPUT: true; the input reads as it did. -/
def fnExactSlipSpec : ChangeSpec := { name := "fnExactSlip", fn := fun _ => fun
  | [d1, d2, d3] => { results := [.lit (.bool true)], args := [d1, d2, d3] }
  | _ => none }
def fnExactSlipRow : OpenClaim := { program := "ytbanblghepekdaa", sum := "6f7a4f90daf25a7d9c6f3374ede62483e49e7e5a6b16bce945a2977cd0376e48", func := "loop.example/g00066/laws.FnExactSlip", spec := "fnExactSlip", unfollowed := true, recurses := true, apart := false }
def FnExactSlipSaid : Prop := fnExactSlipRow.holds Try.pinned (OpenSpec.ofChange fnExactSlipSpec)

/-- ITS FALSE NEIGHBOUR: 'it returns false'. Refute it at one input. -/
def fnExactSlipWrong : ChangeSpec := { name := "fnExactSlip", fn := fun _ => fun
  | [d1, d2, d3] => { results := [.lit (.bool false)], args := [d1, d2, d3] }
  | _ => none }
def FnExactSlipWrongFalsely : Prop := fnExactSlipRow.holds Try.pinned (OpenSpec.ofChange fnExactSlipWrong)

/-- 'laws.FnExactRelink': WHATEVER THE INPUT: true; the input reads as it did. -/
def fnExactRelinkSpec : ChangeSpec := { name := "fnExactRelink", fn := fun _ => fun
  | [d1, d2, d3, d4] => { results := [.lit (.bool true)], args := [d1, d2, d3, d4] }
  | _ => none }
def fnExactRelinkRow : OpenClaim := { program := "ytbanblghepekdaa", sum := "6f7a4f90daf25a7d9c6f3374ede62483e49e7e5a6b16bce945a2977cd0376e48", func := "loop.example/g00066/laws.FnExactRelink", spec := "fnExactRelink", unfollowed := true, recurses := true, apart := false }
def FnExactRelinkSaid : Prop := fnExactRelinkRow.holds Try.pinned (OpenSpec.ofChange fnExactRelinkSpec)

/-- ITS FALSE NEIGHBOUR: 'it returns false'. Refute it at one input. -/
def fnExactRelinkWrong : ChangeSpec := { name := "fnExactRelink", fn := fun _ => fun
  | [d1, d2, d3, d4] => { results := [.lit (.bool false)], args := [d1, d2, d3, d4] }
  | _ => none }
def FnExactRelinkWrongFalsely : Prop := fnExactRelinkRow.holds Try.pinned (OpenSpec.ofChange fnExactRelinkWrong)

/-- 'laws.FnExactRipple': WHATEVER THE INPUT: true; the input reads as it did. -/
def fnExactRippleSpec : ChangeSpec := { name := "fnExactRipple", fn := fun _ => fun
  | [d1, d2, d3] => { results := [.lit (.bool true)], args := [d1, d2, d3] }
  | _ => none }
def fnExactRippleRow : OpenClaim := { program := "ytbanblghepekdaa", sum := "6f7a4f90daf25a7d9c6f3374ede62483e49e7e5a6b16bce945a2977cd0376e48", func := "loop.example/g00066/laws.FnExactRipple", spec := "fnExactRipple", unfollowed := true, recurses := true, apart := false }
def FnExactRippleSaid : Prop := fnExactRippleRow.holds Try.pinned (OpenSpec.ofChange fnExactRippleSpec)

/-- ITS FALSE NEIGHBOUR: 'it returns false'. Refute it at one input. -/
def fnExactRippleWrong : ChangeSpec := { name := "fnExactRipple", fn := fun _ => fun
  | [d1, d2, d3] => { results := [.lit (.bool false)], args := [d1, d2, d3] }
  | _ => none }
def FnExactRippleWrongFalsely : Prop := fnExactRippleRow.holds Try.pinned (OpenSpec.ofChange fnExactRippleWrong)

/-- 'laws.FnExactReverse': WHATEVER THE INPUT: true; the input reads as it did. -/
def fnExactReverseSpec : ChangeSpec := { name := "fnExactReverse", fn := fun _ => fun
  | [d] => { results := [.lit (.bool true)], args := [d] }
  | _ => none }
def fnExactReverseRow : OpenClaim := { program := "ytbanblghepekdaa", sum := "6f7a4f90daf25a7d9c6f3374ede62483e49e7e5a6b16bce945a2977cd0376e48", func := "loop.example/g00066/laws.FnExactReverse", spec := "fnExactReverse", unfollowed := true, recurses := true, apart := false }
def FnExactReverseSaid : Prop := fnExactReverseRow.holds Try.pinned (OpenSpec.ofChange fnExactReverseSpec)

/-- ITS FALSE NEIGHBOUR: 'it returns false'. Refute it at one input. -/
def fnExactReverseWrong : ChangeSpec := { name := "fnExactReverse", fn := fun _ => fun
  | [d] => { results := [.lit (.bool false)], args := [d] }
  | _ => none }
def FnExactReverseWrongFalsely : Prop := fnExactReverseRow.holds Try.pinned (OpenSpec.ofChange fnExactReverseWrong)

/-- 'laws.FnExactRoll': WHATEVER THE INPUT: true; the input reads as it did. -/
def fnExactRollSpec : ChangeSpec := { name := "fnExactRoll", fn := fun _ => fun
  | [d1, d2, d3] => { results := [.lit (.bool true)], args := [d1, d2, d3] }
  | _ => none }
def fnExactRollRow : OpenClaim := { program := "ytbanblghepekdaa", sum := "6f7a4f90daf25a7d9c6f3374ede62483e49e7e5a6b16bce945a2977cd0376e48", func := "loop.example/g00066/laws.FnExactRoll", spec := "fnExactRoll", unfollowed := true, recurses := true, apart := false }
def FnExactRollSaid : Prop := fnExactRollRow.holds Try.pinned (OpenSpec.ofChange fnExactRollSpec)

/-- ITS FALSE NEIGHBOUR: 'it returns false'. Refute it at one input. -/
def fnExactRollWrong : ChangeSpec := { name := "fnExactRoll", fn := fun _ => fun
  | [d1, d2, d3] => { results := [.lit (.bool false)], args := [d1, d2, d3] }
  | _ => none }
def FnExactRollWrongFalsely : Prop := fnExactRollRow.holds Try.pinned (OpenSpec.ofChange fnExactRollWrong)

/-- 'laws.FnExactSlide': WHATEVER THE INPUT: true; the input reads as it did. -/
def fnExactSlideSpec : ChangeSpec := { name := "fnExactSlide", fn := fun _ => fun
  | [d1, d2, d3] => { results := [.lit (.bool true)], args := [d1, d2, d3] }
  | _ => none }
def fnExactSlideRow : OpenClaim := { program := "ytbanblghepekdaa", sum := "6f7a4f90daf25a7d9c6f3374ede62483e49e7e5a6b16bce945a2977cd0376e48", func := "loop.example/g00066/laws.FnExactSlide", spec := "fnExactSlide", unfollowed := true, recurses := true, apart := false }
def FnExactSlideSaid : Prop := fnExactSlideRow.holds Try.pinned (OpenSpec.ofChange fnExactSlideSpec)

/-- ITS FALSE NEIGHBOUR: 'it returns false'. Refute it at one input. -/
def fnExactSlideWrong : ChangeSpec := { name := "fnExactSlide", fn := fun _ => fun
  | [d1, d2, d3] => { results := [.lit (.bool false)], args := [d1, d2, d3] }
  | _ => none }
def FnExactSlideWrongFalsely : Prop := fnExactSlideRow.holds Try.pinned (OpenSpec.ofChange fnExactSlideWrong)

/-- 'laws.FnExactInsert': WHATEVER THE INPUT: true; the input reads as it did. -/
def fnExactInsertSpec : ChangeSpec := { name := "fnExactInsert", fn := fun _ => fun
  | [d1, d2, d3] => { results := [.lit (.bool true)], args := [d1, d2, d3] }
  | _ => none }
def fnExactInsertRow : OpenClaim := { program := "ytbanblghepekdaa", sum := "6f7a4f90daf25a7d9c6f3374ede62483e49e7e5a6b16bce945a2977cd0376e48", func := "loop.example/g00066/laws.FnExactInsert", spec := "fnExactInsert", unfollowed := true, recurses := true, apart := false }
def FnExactInsertSaid : Prop := fnExactInsertRow.holds Try.pinned (OpenSpec.ofChange fnExactInsertSpec)

/-- ITS FALSE NEIGHBOUR: 'it returns false'. Refute it at one input. -/
def fnExactInsertWrong : ChangeSpec := { name := "fnExactInsert", fn := fun _ => fun
  | [d1, d2, d3] => { results := [.lit (.bool false)], args := [d1, d2, d3] }
  | _ => none }
def FnExactInsertWrongFalsely : Prop := fnExactInsertRow.holds Try.pinned (OpenSpec.ofChange fnExactInsertWrong)

/-- 'laws.FnExactOverwrite': WHATEVER THE INPUT: true; the input reads as it did. -/
def fnExactOverwriteSpec : ChangeSpec := { name := "fnExactOverwrite", fn := fun _ => fun
  | [d1, d2, d3] => { results := [.lit (.bool true)], args := [d1, d2, d3] }
  | _ => none }
def fnExactOverwriteRow : OpenClaim := { program := "ytbanblghepekdaa", sum := "6f7a4f90daf25a7d9c6f3374ede62483e49e7e5a6b16bce945a2977cd0376e48", func := "loop.example/g00066/laws.FnExactOverwrite", spec := "fnExactOverwrite", unfollowed := true, recurses := true, apart := false }
def FnExactOverwriteSaid : Prop := fnExactOverwriteRow.holds Try.pinned (OpenSpec.ofChange fnExactOverwriteSpec)

/-- ITS FALSE NEIGHBOUR: 'it returns false'. Refute it at one input. -/
def fnExactOverwriteWrong : ChangeSpec := { name := "fnExactOverwrite", fn := fun _ => fun
  | [d1, d2, d3] => { results := [.lit (.bool false)], args := [d1, d2, d3] }
  | _ => none }
def FnExactOverwriteWrongFalsely : Prop := fnExactOverwriteRow.holds Try.pinned (OpenSpec.ofChange fnExactOverwriteWrong)

/-- 'laws.FnExactExtract': WHATEVER THE INPUT: true; the input reads as it did. -/
def fnExactExtractSpec : ChangeSpec := { name := "fnExactExtract", fn := fun _ => fun
  | [d1, d2, d3] => { results := [.lit (.bool true)], args := [d1, d2, d3] }
  | _ => none }
def fnExactExtractRow : OpenClaim := { program := "ytbanblghepekdaa", sum := "6f7a4f90daf25a7d9c6f3374ede62483e49e7e5a6b16bce945a2977cd0376e48", func := "loop.example/g00066/laws.FnExactExtract", spec := "fnExactExtract", unfollowed := true, recurses := true, apart := false }
def FnExactExtractSaid : Prop := fnExactExtractRow.holds Try.pinned (OpenSpec.ofChange fnExactExtractSpec)

/-- ITS FALSE NEIGHBOUR: 'it returns false'. Refute it at one input. -/
def fnExactExtractWrong : ChangeSpec := { name := "fnExactExtract", fn := fun _ => fun
  | [d1, d2, d3] => { results := [.lit (.bool false)], args := [d1, d2, d3] }
  | _ => none }
def FnExactExtractWrongFalsely : Prop := fnExactExtractRow.holds Try.pinned (OpenSpec.ofChange fnExactExtractWrong)

/-- 'laws.FnExactLift': WHATEVER THE INPUT: true; the input reads as it did. -/
def fnExactLiftSpec : ChangeSpec := { name := "fnExactLift", fn := fun _ => fun
  | [d1, d2, d3] => { results := [.lit (.bool true)], args := [d1, d2, d3] }
  | _ => none }
def fnExactLiftRow : OpenClaim := { program := "ytbanblghepekdaa", sum := "6f7a4f90daf25a7d9c6f3374ede62483e49e7e5a6b16bce945a2977cd0376e48", func := "loop.example/g00066/laws.FnExactLift", spec := "fnExactLift", unfollowed := true, recurses := true, apart := false }
def FnExactLiftSaid : Prop := fnExactLiftRow.holds Try.pinned (OpenSpec.ofChange fnExactLiftSpec)

/-- ITS FALSE NEIGHBOUR: 'it returns false'. Refute it at one input. -/
def fnExactLiftWrong : ChangeSpec := { name := "fnExactLift", fn := fun _ => fun
  | [d1, d2, d3] => { results := [.lit (.bool false)], args := [d1, d2, d3] }
  | _ => none }
def FnExactLiftWrongFalsely : Prop := fnExactLiftRow.holds Try.pinned (OpenSpec.ofChange fnExactLiftWrong)

/-- 'laws.FnExactRetime': WHATEVER THE INPUT: true; the input reads as it did. -/
def fnExactRetimeSpec : ChangeSpec := { name := "fnExactRetime", fn := fun _ => fun
  | [d1, d2, d3] => { results := [.lit (.bool true)], args := [d1, d2, d3] }
  | _ => none }
def fnExactRetimeRow : OpenClaim := { program := "ytbanblghepekdaa", sum := "6f7a4f90daf25a7d9c6f3374ede62483e49e7e5a6b16bce945a2977cd0376e48", func := "loop.example/g00066/laws.FnExactRetime", spec := "fnExactRetime", unfollowed := true, recurses := true, apart := false }
def FnExactRetimeSaid : Prop := fnExactRetimeRow.holds Try.pinned (OpenSpec.ofChange fnExactRetimeSpec)

/-- ITS FALSE NEIGHBOUR: 'it returns false'. Refute it at one input. -/
def fnExactRetimeWrong : ChangeSpec := { name := "fnExactRetime", fn := fun _ => fun
  | [d1, d2, d3] => { results := [.lit (.bool false)], args := [d1, d2, d3] }
  | _ => none }
def FnExactRetimeWrongFalsely : Prop := fnExactRetimeRow.holds Try.pinned (OpenSpec.ofChange fnExactRetimeWrong)

/- THE SECOND FORM. 'bulk': how many values and letters a reading holds, each counted each time it is reached (what is shared counts as often as it is met; a slice's spare places count too). A statement '..UptoSaid' is the law's where the arguments, and the package variables that the reading takes, are together of bulk at most 1048576: NARROWER than '..Said'. Prove '..Said' where nothing that the law and all that it calls make is longer than what came in: it says more and counts as full. Else prove '..UptoSaid'. A law counts once. -/
mutual
def uptoBulk {H : Type} : DataW H → Nat
  | .lit (.string bytes) => bytes.length + 1
  | .lit _ => 1
  | .nil => 1
  | .ptr d => uptoBulk d + 1
  | .slice elems spare => uptoBulkAll elems + uptoBulkAll spare + 1
  | .agg parts => uptoBulkAll parts + 1
  | .iface _ d => uptoBulk d + 1
  | .map entries => uptoBulkEntries entries + 1
  | .held _ => 1
def uptoBulkAll {H : Type} : List (DataW H) → Nat
  | [] => 0
  | d :: r => uptoBulk d + uptoBulkAll r
def uptoBulkEntries {H : Type} : List (Lit × DataW H) → Nat
  | [] => 0
  | x :: r => uptoBulkEntry x + uptoBulkEntries r
def uptoBulkEntry {H : Type} : Lit × DataW H → Nat
  | (.string bytes, d) => bytes.length + uptoBulk d + 1
  | (_, d) => uptoBulk d + 1
 end
def uptoSmall : (H : Type) → List (DataW H) → Bool := fun _ ds => decide (uptoBulkAll ds ≤ 1048576)
def OpenSpec.upto (s : _root_.Go.ChangeSpec) : _root_.Go.OpenSpec := { _root_.Go.OpenSpec.ofChange s with cond := some uptoSmall }

/-- 'laws.FnExactSlip', WHERE WHAT IT READS IS OF BULK AT MOST 1048576: true; the input reads as it did. -/
def fnExactSlipUptoRow : OpenClaim := { program := "ytbanblghepekdaa", sum := "6f7a4f90daf25a7d9c6f3374ede62483e49e7e5a6b16bce945a2977cd0376e48", func := "loop.example/g00066/laws.FnExactSlip", spec := "fnExactSlip", unfollowed := true, recurses := true, apart := false, narrowed := true }
def FnExactSlipUptoSaid : Prop := fnExactSlipUptoRow.holds Try.pinned (OpenSpec.upto fnExactSlipSpec)

/-- 'laws.FnExactRelink', WHERE WHAT IT READS IS OF BULK AT MOST 1048576: true; the input reads as it did. -/
def fnExactRelinkUptoRow : OpenClaim := { program := "ytbanblghepekdaa", sum := "6f7a4f90daf25a7d9c6f3374ede62483e49e7e5a6b16bce945a2977cd0376e48", func := "loop.example/g00066/laws.FnExactRelink", spec := "fnExactRelink", unfollowed := true, recurses := true, apart := false, narrowed := true }
def FnExactRelinkUptoSaid : Prop := fnExactRelinkUptoRow.holds Try.pinned (OpenSpec.upto fnExactRelinkSpec)

/-- 'laws.FnExactRipple', WHERE WHAT IT READS IS OF BULK AT MOST 1048576: true; the input reads as it did. -/
def fnExactRippleUptoRow : OpenClaim := { program := "ytbanblghepekdaa", sum := "6f7a4f90daf25a7d9c6f3374ede62483e49e7e5a6b16bce945a2977cd0376e48", func := "loop.example/g00066/laws.FnExactRipple", spec := "fnExactRipple", unfollowed := true, recurses := true, apart := false, narrowed := true }
def FnExactRippleUptoSaid : Prop := fnExactRippleUptoRow.holds Try.pinned (OpenSpec.upto fnExactRippleSpec)

/-- 'laws.FnExactReverse', WHERE WHAT IT READS IS OF BULK AT MOST 1048576: true; the input reads as it did. -/
def fnExactReverseUptoRow : OpenClaim := { program := "ytbanblghepekdaa", sum := "6f7a4f90daf25a7d9c6f3374ede62483e49e7e5a6b16bce945a2977cd0376e48", func := "loop.example/g00066/laws.FnExactReverse", spec := "fnExactReverse", unfollowed := true, recurses := true, apart := false, narrowed := true }
def FnExactReverseUptoSaid : Prop := fnExactReverseUptoRow.holds Try.pinned (OpenSpec.upto fnExactReverseSpec)

/-- 'laws.FnExactRoll', WHERE WHAT IT READS IS OF BULK AT MOST 1048576: true; the input reads as it did. -/
def fnExactRollUptoRow : OpenClaim := { program := "ytbanblghepekdaa", sum := "6f7a4f90daf25a7d9c6f3374ede62483e49e7e5a6b16bce945a2977cd0376e48", func := "loop.example/g00066/laws.FnExactRoll", spec := "fnExactRoll", unfollowed := true, recurses := true, apart := false, narrowed := true }
def FnExactRollUptoSaid : Prop := fnExactRollUptoRow.holds Try.pinned (OpenSpec.upto fnExactRollSpec)

/-- 'laws.FnExactSlide', WHERE WHAT IT READS IS OF BULK AT MOST 1048576: true; the input reads as it did. -/
def fnExactSlideUptoRow : OpenClaim := { program := "ytbanblghepekdaa", sum := "6f7a4f90daf25a7d9c6f3374ede62483e49e7e5a6b16bce945a2977cd0376e48", func := "loop.example/g00066/laws.FnExactSlide", spec := "fnExactSlide", unfollowed := true, recurses := true, apart := false, narrowed := true }
def FnExactSlideUptoSaid : Prop := fnExactSlideUptoRow.holds Try.pinned (OpenSpec.upto fnExactSlideSpec)

/-- 'laws.FnExactInsert', WHERE WHAT IT READS IS OF BULK AT MOST 1048576: true; the input reads as it did. -/
def fnExactInsertUptoRow : OpenClaim := { program := "ytbanblghepekdaa", sum := "6f7a4f90daf25a7d9c6f3374ede62483e49e7e5a6b16bce945a2977cd0376e48", func := "loop.example/g00066/laws.FnExactInsert", spec := "fnExactInsert", unfollowed := true, recurses := true, apart := false, narrowed := true }
def FnExactInsertUptoSaid : Prop := fnExactInsertUptoRow.holds Try.pinned (OpenSpec.upto fnExactInsertSpec)

/-- 'laws.FnExactOverwrite', WHERE WHAT IT READS IS OF BULK AT MOST 1048576: true; the input reads as it did. -/
def fnExactOverwriteUptoRow : OpenClaim := { program := "ytbanblghepekdaa", sum := "6f7a4f90daf25a7d9c6f3374ede62483e49e7e5a6b16bce945a2977cd0376e48", func := "loop.example/g00066/laws.FnExactOverwrite", spec := "fnExactOverwrite", unfollowed := true, recurses := true, apart := false, narrowed := true }
def FnExactOverwriteUptoSaid : Prop := fnExactOverwriteUptoRow.holds Try.pinned (OpenSpec.upto fnExactOverwriteSpec)

/-- 'laws.FnExactExtract', WHERE WHAT IT READS IS OF BULK AT MOST 1048576: true; the input reads as it did. -/
def fnExactExtractUptoRow : OpenClaim := { program := "ytbanblghepekdaa", sum := "6f7a4f90daf25a7d9c6f3374ede62483e49e7e5a6b16bce945a2977cd0376e48", func := "loop.example/g00066/laws.FnExactExtract", spec := "fnExactExtract", unfollowed := true, recurses := true, apart := false, narrowed := true }
def FnExactExtractUptoSaid : Prop := fnExactExtractUptoRow.holds Try.pinned (OpenSpec.upto fnExactExtractSpec)

/-- 'laws.FnExactLift', WHERE WHAT IT READS IS OF BULK AT MOST 1048576: true; the input reads as it did. -/
def fnExactLiftUptoRow : OpenClaim := { program := "ytbanblghepekdaa", sum := "6f7a4f90daf25a7d9c6f3374ede62483e49e7e5a6b16bce945a2977cd0376e48", func := "loop.example/g00066/laws.FnExactLift", spec := "fnExactLift", unfollowed := true, recurses := true, apart := false, narrowed := true }
def FnExactLiftUptoSaid : Prop := fnExactLiftUptoRow.holds Try.pinned (OpenSpec.upto fnExactLiftSpec)

/-- 'laws.FnExactRetime', WHERE WHAT IT READS IS OF BULK AT MOST 1048576: true; the input reads as it did. -/
def fnExactRetimeUptoRow : OpenClaim := { program := "ytbanblghepekdaa", sum := "6f7a4f90daf25a7d9c6f3374ede62483e49e7e5a6b16bce945a2977cd0376e48", func := "loop.example/g00066/laws.FnExactRetime", spec := "fnExactRetime", unfollowed := true, recurses := true, apart := false, narrowed := true }
def FnExactRetimeUptoSaid : Prop := fnExactRetimeUptoRow.holds Try.pinned (OpenSpec.upto fnExactRetimeSpec)

end Rows
end Go.Proofs.Ytbanblghepekdaa
