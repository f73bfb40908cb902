/-
  No cell of these rows narrows 'for every input' (looked for: loops, veiled, ifaces, maps, wideKeys, modest, calm, conditions, laid).
  DERIVED. THE GIVEN ROWS OF THIS SEAT. 7 by the template 'for every input the law returns true; each argument reads behind the call as it read before'; 0 by the template 'total and deterministic' (their statements: YtknpombiomnkbaaTotals.lean).
  GIVEN WITH THE SEED: the statements are not yours to turn. If you find one false, say at which input.
  Laid BY PROGRAM, IN A SANDBOX (cutbox-rows.mjs): the forced cells as the released guide's own fill.sh prints them over the translation 438471c0289e9a00… (all of the seat's roots in one cut). By AI agents, Wed Nov 11 2026. No macro, syntax, notation, axiom, sorry.
-/
import Derived.Test.YtknpombiomnkbaaChecked
import GoSem.Claim
import GoSem.ClaimJoined
import GoSem.ClaimMapViews
import Derived.JoinedTies
import Derived.KernelRfl
namespace Go.Proofs.Ytknpombiomnkbaa
/- THE CELL 'sum', in the pinned program and in every row, IS THE sha256 OF THE DUMP (.gsa) THAT YtknpombiomnkbaaProg.lean LOADS. Nothing in Lean hashes anything: it is a label: what it is worth is what the hold of that sum in a sandbox is worth. -/
noncomputable def Try.pinned : Pinned := { name := "ytknpombiomnkbaa", sum := "438471c0289e9a008fc77a78623d235db6f20227ccbc40b118a7392c23d05477", checked := Try.checked }
namespace Rows
def none {H : Type} : Left H := { results := [], args := [] }

/-- 'laws.FnRelinked': WHATEVER THE INPUT: true; the input reads as it did. -/
def fnRelinkedSpec : ChangeSpec := { name := "fnRelinked", fn := fun _ => fun
  | [d] => { results := [.lit (.bool true)], args := [d] }
  | _ => none }
def fnRelinkedRow : OpenClaim := { program := "ytknpombiomnkbaa", sum := "438471c0289e9a008fc77a78623d235db6f20227ccbc40b118a7392c23d05477", func := "loop.example/g00066/laws.FnRelinked", spec := "fnRelinked", unfollowed := true, recurses := true, apart := false }
def FnRelinkedSaid : Prop := fnRelinkedRow.holds Try.pinned (OpenSpec.ofChange fnRelinkedSpec)

/-- ITS FALSE NEIGHBOUR: 'it returns false'. Refute it at one input. -/
def fnRelinkedWrong : ChangeSpec := { name := "fnRelinked", fn := fun _ => fun
  | [d] => { results := [.lit (.bool false)], args := [d] }
  | _ => none }
def FnRelinkedWrongFalsely : Prop := fnRelinkedRow.holds Try.pinned (OpenSpec.ofChange fnRelinkedWrong)

/-- 'laws.FnReversed': WHATEVER THE INPUT: true; the input reads as it did. -/
def fnReversedSpec : ChangeSpec := { name := "fnReversed", fn := fun _ => fun
  | [d] => { results := [.lit (.bool true)], args := [d] }
  | _ => none }
def fnReversedRow : OpenClaim := { program := "ytknpombiomnkbaa", sum := "438471c0289e9a008fc77a78623d235db6f20227ccbc40b118a7392c23d05477", func := "loop.example/g00066/laws.FnReversed", spec := "fnReversed", unfollowed := true, recurses := true, apart := false }
def FnReversedSaid : Prop := fnReversedRow.holds Try.pinned (OpenSpec.ofChange fnReversedSpec)

/-- ITS FALSE NEIGHBOUR: 'it returns false'. Refute it at one input. -/
def fnReversedWrong : ChangeSpec := { name := "fnReversed", fn := fun _ => fun
  | [d] => { results := [.lit (.bool false)], args := [d] }
  | _ => none }
def FnReversedWrongFalsely : Prop := fnReversedRow.holds Try.pinned (OpenSpec.ofChange fnReversedWrong)

/-- 'laws.FnOver': WHATEVER THE INPUT: true; the input reads as it did. -/
def fnOverSpec : ChangeSpec := { name := "fnOver", fn := fun _ => fun
  | [d] => { results := [.lit (.bool true)], args := [d] }
  | _ => none }
def fnOverRow : OpenClaim := { program := "ytknpombiomnkbaa", sum := "438471c0289e9a008fc77a78623d235db6f20227ccbc40b118a7392c23d05477", func := "loop.example/g00066/laws.FnOver", spec := "fnOver", unfollowed := true, recurses := true, apart := false }
def FnOverSaid : Prop := fnOverRow.holds Try.pinned (OpenSpec.ofChange fnOverSpec)

/-- ITS FALSE NEIGHBOUR: 'it returns false'. Refute it at one input. -/
def fnOverWrong : ChangeSpec := { name := "fnOver", fn := fun _ => fun
  | [d] => { results := [.lit (.bool false)], args := [d] }
  | _ => none }
def FnOverWrongFalsely : Prop := fnOverRow.holds Try.pinned (OpenSpec.ofChange fnOverWrong)

/-- 'laws.FnRetimed': WHATEVER THE INPUT: true; the input reads as it did. -/
def fnRetimedSpec : ChangeSpec := { name := "fnRetimed", fn := fun _ => fun
  | [d] => { results := [.lit (.bool true)], args := [d] }
  | _ => none }
def fnRetimedRow : OpenClaim := { program := "ytknpombiomnkbaa", sum := "438471c0289e9a008fc77a78623d235db6f20227ccbc40b118a7392c23d05477", func := "loop.example/g00066/laws.FnRetimed", spec := "fnRetimed", unfollowed := true, recurses := true, apart := false }
def FnRetimedSaid : Prop := fnRetimedRow.holds Try.pinned (OpenSpec.ofChange fnRetimedSpec)

/-- ITS FALSE NEIGHBOUR: 'it returns false'. Refute it at one input. -/
def fnRetimedWrong : ChangeSpec := { name := "fnRetimed", fn := fun _ => fun
  | [d] => { results := [.lit (.bool false)], args := [d] }
  | _ => none }
def FnRetimedWrongFalsely : Prop := fnRetimedRow.holds Try.pinned (OpenSpec.ofChange fnRetimedWrong)

/-- 'laws.FnLift': WHATEVER THE INPUT: true; the input reads as it did. -/
def fnLiftSpec : ChangeSpec := { name := "fnLift", fn := fun _ => fun
  | [d] => { results := [.lit (.bool true)], args := [d] }
  | _ => none }
def fnLiftRow : OpenClaim := { program := "ytknpombiomnkbaa", sum := "438471c0289e9a008fc77a78623d235db6f20227ccbc40b118a7392c23d05477", func := "loop.example/g00066/laws.FnLift", spec := "fnLift", unfollowed := true, recurses := true, apart := false }
def FnLiftSaid : Prop := fnLiftRow.holds Try.pinned (OpenSpec.ofChange fnLiftSpec)

/-- ITS FALSE NEIGHBOUR: 'it returns false'. Refute it at one input. -/
def fnLiftWrong : ChangeSpec := { name := "fnLift", fn := fun _ => fun
  | [d] => { results := [.lit (.bool false)], args := [d] }
  | _ => none }
def FnLiftWrongFalsely : Prop := fnLiftRow.holds Try.pinned (OpenSpec.ofChange fnLiftWrong)

/-- 'laws.FnInsertOut': WHATEVER THE INPUT: true; the input reads as it did. -/
def fnInsertOutSpec : ChangeSpec := { name := "fnInsertOut", fn := fun _ => fun
  | [d] => { results := [.lit (.bool true)], args := [d] }
  | _ => none }
def fnInsertOutRow : OpenClaim := { program := "ytknpombiomnkbaa", sum := "438471c0289e9a008fc77a78623d235db6f20227ccbc40b118a7392c23d05477", func := "loop.example/g00066/laws.FnInsertOut", spec := "fnInsertOut", unfollowed := true, recurses := true, apart := false }
def FnInsertOutSaid : Prop := fnInsertOutRow.holds Try.pinned (OpenSpec.ofChange fnInsertOutSpec)

/-- ITS FALSE NEIGHBOUR: 'it returns false'. Refute it at one input. -/
def fnInsertOutWrong : ChangeSpec := { name := "fnInsertOut", fn := fun _ => fun
  | [d] => { results := [.lit (.bool false)], args := [d] }
  | _ => none }
def FnInsertOutWrongFalsely : Prop := fnInsertOutRow.holds Try.pinned (OpenSpec.ofChange fnInsertOutWrong)

/-- 'laws.FnTrims': WHATEVER THE INPUT: true; the input reads as it did. -/
def fnTrimsSpec : ChangeSpec := { name := "fnTrims", fn := fun _ => fun
  | [d] => { results := [.lit (.bool true)], args := [d] }
  | _ => none }
def fnTrimsRow : OpenClaim := { program := "ytknpombiomnkbaa", sum := "438471c0289e9a008fc77a78623d235db6f20227ccbc40b118a7392c23d05477", func := "loop.example/g00066/laws.FnTrims", spec := "fnTrims", unfollowed := true, recurses := true, apart := false }
def FnTrimsSaid : Prop := fnTrimsRow.holds Try.pinned (OpenSpec.ofChange fnTrimsSpec)

/-- ITS FALSE NEIGHBOUR: 'it returns false'. Refute it at one input. -/
def fnTrimsWrong : ChangeSpec := { name := "fnTrims", fn := fun _ => fun
  | [d] => { results := [.lit (.bool false)], args := [d] }
  | _ => none }
def FnTrimsWrongFalsely : Prop := fnTrimsRow.holds Try.pinned (OpenSpec.ofChange fnTrimsWrong)

/- THE SECOND FORM. 'bulk': how many values and letters a reading holds, each counted each time it is reached (what is shared counts as often as it is met; a slice's spare places count too). A statement '..UptoSaid' is the law's where the arguments, and the package variables that the reading takes, are together of bulk at most 1048576: NARROWER than '..Said'. Prove '..Said' where nothing that the law and all that it calls make is longer than what came in: it says more and counts as full. Else prove '..UptoSaid'. A law counts once. -/
mutual
def uptoBulk {H : Type} : DataW H → Nat
  | .lit (.string bytes) => bytes.length + 1
  | .lit _ => 1
  | .nil => 1
  | .ptr d => uptoBulk d + 1
  | .slice elems spare => uptoBulkAll elems + uptoBulkAll spare + 1
  | .agg parts => uptoBulkAll parts + 1
  | .iface _ d => uptoBulk d + 1
  | .map entries => uptoBulkEntries entries + 1
  | .held _ => 1
def uptoBulkAll {H : Type} : List (DataW H) → Nat
  | [] => 0
  | d :: r => uptoBulk d + uptoBulkAll r
def uptoBulkEntries {H : Type} : List (Lit × DataW H) → Nat
  | [] => 0
  | x :: r => uptoBulkEntry x + uptoBulkEntries r
def uptoBulkEntry {H : Type} : Lit × DataW H → Nat
  | (.string bytes, d) => bytes.length + uptoBulk d + 1
  | (_, d) => uptoBulk d + 1
 end
def uptoSmall : (H : Type) → List (DataW H) → Bool := fun _ ds => decide (uptoBulkAll ds ≤ 1048576)
def OpenSpec.upto (s : _root_.Go.ChangeSpec) : _root_.Go.OpenSpec := { _root_.Go.OpenSpec.ofChange s with cond := some uptoSmall }

/-- 'laws.FnRelinked', WHERE WHAT IT READS IS OF BULK AT MOST 1048576: true; the input reads as it did. -/
def fnRelinkedUptoRow : OpenClaim := { program := "ytknpombiomnkbaa", sum := "438471c0289e9a008fc77a78623d235db6f20227ccbc40b118a7392c23d05477", func := "loop.example/g00066/laws.FnRelinked", spec := "fnRelinked", unfollowed := true, recurses := true, apart := false, narrowed := true }
def FnRelinkedUptoSaid : Prop := fnRelinkedUptoRow.holds Try.pinned (OpenSpec.upto fnRelinkedSpec)

/-- 'laws.FnReversed', WHERE WHAT IT READS IS OF BULK AT MOST 1048576: true; the input reads as it did. -/
def fnReversedUptoRow : OpenClaim := { program := "ytknpombiomnkbaa", sum := "438471c0289e9a008fc77a78623d235db6f20227ccbc40b118a7392c23d05477", func := "loop.example/g00066/laws.FnReversed", spec := "fnReversed", unfollowed := true, recurses := true, apart := false, narrowed := true }
def FnReversedUptoSaid : Prop := fnReversedUptoRow.holds Try.pinned (OpenSpec.upto fnReversedSpec)

/-- 'laws.FnOver', WHERE WHAT IT READS IS OF BULK AT MOST 1048576: true; the input reads as it did. -/
def fnOverUptoRow : OpenClaim := { program := "ytknpombiomnkbaa", sum := "438471c0289e9a008fc77a78623d235db6f20227ccbc40b118a7392c23d05477", func := "loop.example/g00066/laws.FnOver", spec := "fnOver", unfollowed := true, recurses := true, apart := false, narrowed := true }
def FnOverUptoSaid : Prop := fnOverUptoRow.holds Try.pinned (OpenSpec.upto fnOverSpec)

/-- 'laws.FnRetimed', WHERE WHAT IT READS IS OF BULK AT MOST 1048576: true; the input reads as it did. -/
def fnRetimedUptoRow : OpenClaim := { program := "ytknpombiomnkbaa", sum := "438471c0289e9a008fc77a78623d235db6f20227ccbc40b118a7392c23d05477", func := "loop.example/g00066/laws.FnRetimed", spec := "fnRetimed", unfollowed := true, recurses := true, apart := false, narrowed := true }
def FnRetimedUptoSaid : Prop := fnRetimedUptoRow.holds Try.pinned (OpenSpec.upto fnRetimedSpec)

/-- 'laws.FnLift', WHERE WHAT IT READS IS OF BULK AT MOST 1048576: true; the input reads as it did. -/
def fnLiftUptoRow : OpenClaim := { program := "ytknpombiomnkbaa", sum := "438471c0289e9a008fc77a78623d235db6f20227ccbc40b118a7392c23d05477", func := "loop.example/g00066/laws.FnLift", spec := "fnLift", unfollowed := true, recurses := true, apart := false, narrowed := true }
def FnLiftUptoSaid : Prop := fnLiftUptoRow.holds Try.pinned (OpenSpec.upto fnLiftSpec)

/-- 'laws.FnInsertOut', WHERE WHAT IT READS IS OF BULK AT MOST 1048576: true; the input reads as it did. -/
def fnInsertOutUptoRow : OpenClaim := { program := "ytknpombiomnkbaa", sum := "438471c0289e9a008fc77a78623d235db6f20227ccbc40b118a7392c23d05477", func := "loop.example/g00066/laws.FnInsertOut", spec := "fnInsertOut", unfollowed := true, recurses := true, apart := false, narrowed := true }
def FnInsertOutUptoSaid : Prop := fnInsertOutUptoRow.holds Try.pinned (OpenSpec.upto fnInsertOutSpec)

/-- 'laws.FnTrims', WHERE WHAT IT READS IS OF BULK AT MOST 1048576: true; the input reads as it did. -/
def fnTrimsUptoRow : OpenClaim := { program := "ytknpombiomnkbaa", sum := "438471c0289e9a008fc77a78623d235db6f20227ccbc40b118a7392c23d05477", func := "loop.example/g00066/laws.FnTrims", spec := "fnTrims", unfollowed := true, recurses := true, apart := false, narrowed := true }
def FnTrimsUptoSaid : Prop := fnTrimsUptoRow.holds Try.pinned (OpenSpec.upto fnTrimsSpec)

end Rows
end Go.Proofs.Ytknpombiomnkbaa
