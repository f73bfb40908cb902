/-
  No cell of these rows narrows 'for every input' (looked for: loops, veiled, ifaces, maps, wideKeys, modest, calm, conditions, laid).
  DERIVED. THE GIVEN ROWS OF THIS SEAT. 5 by the template 'for every input the law returns true; each argument reads behind the call as it read before'; 0 by the template 'total and deterministic' (their statements: YtbnkpligdcponaaTotals.lean).
  GIVEN WITH THE SEED: the statements are not yours to turn. If you find one false, say at which input.
  Laid BY PROGRAM, IN A SANDBOX (cutbox-rows.mjs): the forced cells as the released guide's own fill.sh prints them over the translation 29e5179cf017233f… (all of the seat's roots in one cut). By AI agents, Wed Nov 11 2026. No macro, syntax, notation, axiom, sorry.
-/
import Derived.Test.YtbnkpligdcponaaChecked
import GoSem.Claim
import GoSem.ClaimJoined
import GoSem.ClaimMapViews
import Derived.JoinedTies
import Derived.KernelRfl
namespace Go.Proofs.Ytbnkpligdcponaa
/- THE CELL 'sum', in the pinned program and in every row, IS THE sha256 OF THE DUMP (.gsa) THAT YtbnkpligdcponaaProg.lean LOADS. Nothing in Lean hashes anything: it is a label: what it is worth is what the hold of that sum in a sandbox is worth. -/
noncomputable def Try.pinned : Pinned := { name := "ytbnkpligdcponaa", sum := "29e5179cf017233f144febd1623c4f7b55e31977e925670327f01ee924044e19", checked := Try.checked }
namespace Rows
def none {H : Type} : Left H := { results := [], args := [] }

/-- 'laws.FnExactDirty': WHATEVER THE INPUT: true; the input reads as it did. -/
def fnExactDirtySpec : ChangeSpec := { name := "fnExactDirty", fn := fun _ => fun
  | [d1, d2] => { results := [.lit (.bool true)], args := [d1, d2] }
  | _ => none }
def fnExactDirtyRow : OpenClaim := { program := "ytbnkpligdcponaa", sum := "29e5179cf017233f144febd1623c4f7b55e31977e925670327f01ee924044e19", func := "loop.example/g00066/laws.FnExactDirty", spec := "fnExactDirty", unfollowed := true, recurses := true, apart := false }
def FnExactDirtySaid : Prop := fnExactDirtyRow.holds Try.pinned (OpenSpec.ofChange fnExactDirtySpec)

/-- ITS FALSE NEIGHBOUR: 'it returns false'. Refute it at one input. -/
def fnExactDirtyWrong : ChangeSpec := { name := "fnExactDirty", fn := fun _ => fun
  | [d1, d2] => { results := [.lit (.bool false)], args := [d1, d2] }
  | _ => none }
def FnExactDirtyWrongFalsely : Prop := fnExactDirtyRow.holds Try.pinned (OpenSpec.ofChange fnExactDirtyWrong)

/-- 'laws.FnExactReused': WHATEVER THE INPUT: true; the input reads as it did. -/
def fnExactReusedSpec : ChangeSpec := { name := "fnExactReused", fn := fun _ => fun
  | [d1, d2] => { results := [.lit (.bool true)], args := [d1, d2] }
  | _ => none }
def fnExactReusedRow : OpenClaim := { program := "ytbnkpligdcponaa", sum := "29e5179cf017233f144febd1623c4f7b55e31977e925670327f01ee924044e19", func := "loop.example/g00066/laws.FnExactReused", spec := "fnExactReused", apart := false }
def FnExactReusedSaid : Prop := fnExactReusedRow.holds Try.pinned (OpenSpec.ofChange fnExactReusedSpec)

/-- ITS FALSE NEIGHBOUR: 'it returns false'. Refute it at one input. -/
def fnExactReusedWrong : ChangeSpec := { name := "fnExactReused", fn := fun _ => fun
  | [d1, d2] => { results := [.lit (.bool false)], args := [d1, d2] }
  | _ => none }
def FnExactReusedWrongFalsely : Prop := fnExactReusedRow.holds Try.pinned (OpenSpec.ofChange fnExactReusedWrong)

/-- 'laws.FnFarmed': WHATEVER THE INPUT: true; the input reads as it did. -/
def fnFarmedSpec : ChangeSpec := { name := "fnFarmed", fn := fun _ => fun
  | [d] => { results := [.lit (.bool true)], args := [d] }
  | _ => none }
def fnFarmedRow : OpenClaim := { program := "ytbnkpligdcponaa", sum := "29e5179cf017233f144febd1623c4f7b55e31977e925670327f01ee924044e19", func := "loop.example/g00066/laws.FnFarmed", spec := "fnFarmed", unfollowed := true, recurses := true, apart := false }
def FnFarmedSaid : Prop := fnFarmedRow.holds Try.pinned (OpenSpec.ofChange fnFarmedSpec)

/-- ITS FALSE NEIGHBOUR: 'it returns false'. Refute it at one input. -/
def fnFarmedWrong : ChangeSpec := { name := "fnFarmed", fn := fun _ => fun
  | [d] => { results := [.lit (.bool false)], args := [d] }
  | _ => none }
def FnFarmedWrongFalsely : Prop := fnFarmedRow.holds Try.pinned (OpenSpec.ofChange fnFarmedWrong)

/-- 'laws.FnReused': WHATEVER THE INPUT: true; the input reads as it did. -/
def fnReusedSpec : ChangeSpec := { name := "fnReused", fn := fun _ => fun
  | [d] => { results := [.lit (.bool true)], args := [d] }
  | _ => none }
def fnReusedRow : OpenClaim := { program := "ytbnkpligdcponaa", sum := "29e5179cf017233f144febd1623c4f7b55e31977e925670327f01ee924044e19", func := "loop.example/g00066/laws.FnReused", spec := "fnReused", unfollowed := true, recurses := true, apart := false }
def FnReusedSaid : Prop := fnReusedRow.holds Try.pinned (OpenSpec.ofChange fnReusedSpec)

/-- ITS FALSE NEIGHBOUR: 'it returns false'. Refute it at one input. -/
def fnReusedWrong : ChangeSpec := { name := "fnReused", fn := fun _ => fun
  | [d] => { results := [.lit (.bool false)], args := [d] }
  | _ => none }
def FnReusedWrongFalsely : Prop := fnReusedRow.holds Try.pinned (OpenSpec.ofChange fnReusedWrong)

/-- 'laws.FnExactFarm': WHATEVER THE INPUT: true; the input reads as it did. -/
def fnExactFarmSpec : ChangeSpec := { name := "fnExactFarm", fn := fun _ => fun
  | [d1, d2] => { results := [.lit (.bool true)], args := [d1, d2] }
  | _ => none }
def fnExactFarmRow : OpenClaim := { program := "ytbnkpligdcponaa", sum := "29e5179cf017233f144febd1623c4f7b55e31977e925670327f01ee924044e19", func := "loop.example/g00066/laws.FnExactFarm", spec := "fnExactFarm", unfollowed := true, recurses := true, apart := false }
def FnExactFarmSaid : Prop := fnExactFarmRow.holds Try.pinned (OpenSpec.ofChange fnExactFarmSpec)

/-- ITS FALSE NEIGHBOUR: 'it returns false'. Refute it at one input. -/
def fnExactFarmWrong : ChangeSpec := { name := "fnExactFarm", fn := fun _ => fun
  | [d1, d2] => { results := [.lit (.bool false)], args := [d1, d2] }
  | _ => none }
def FnExactFarmWrongFalsely : Prop := fnExactFarmRow.holds Try.pinned (OpenSpec.ofChange fnExactFarmWrong)

/- THE SECOND FORM. 'bulk': how many values and letters a reading holds, each counted each time it is reached (what is shared counts as often as it is met; a slice's spare places count too). A statement '..UptoSaid' is the law's where the arguments, and the package variables that the reading takes, are together of bulk at most 1048576: NARROWER than '..Said'. Prove '..Said' where nothing that the law and all that it calls make is longer than what came in: it says more and counts as full. Else prove '..UptoSaid'. A law counts once. -/
mutual
def uptoBulk {H : Type} : DataW H → Nat
  | .lit (.string bytes) => bytes.length + 1
  | .lit _ => 1
  | .nil => 1
  | .ptr d => uptoBulk d + 1
  | .slice elems spare => uptoBulkAll elems + uptoBulkAll spare + 1
  | .agg parts => uptoBulkAll parts + 1
  | .iface _ d => uptoBulk d + 1
  | .map entries => uptoBulkEntries entries + 1
  | .held _ => 1
def uptoBulkAll {H : Type} : List (DataW H) → Nat
  | [] => 0
  | d :: r => uptoBulk d + uptoBulkAll r
def uptoBulkEntries {H : Type} : List (Lit × DataW H) → Nat
  | [] => 0
  | x :: r => uptoBulkEntry x + uptoBulkEntries r
def uptoBulkEntry {H : Type} : Lit × DataW H → Nat
  | (.string bytes, d) => bytes.length + uptoBulk d + 1
  | (_, d) => uptoBulk d + 1
 end
def uptoSmall : (H : Type) → List (DataW H) → Bool := fun _ ds => decide (uptoBulkAll ds ≤ 1048576)
def OpenSpec.upto (s : _root_.Go.ChangeSpec) : _root_.Go.OpenSpec := { _root_.Go.OpenSpec.ofChange s with cond := some uptoSmall }

/-- 'laws.FnExactDirty', WHERE WHAT IT READS IS OF BULK AT MOST 1048576: true; the input reads as it did. -/
def fnExactDirtyUptoRow : OpenClaim := { program := "ytbnkpligdcponaa", sum := "29e5179cf017233f144febd1623c4f7b55e31977e925670327f01ee924044e19", func := "loop.example/g00066/laws.FnExactDirty", spec := "fnExactDirty", unfollowed := true, recurses := true, apart := false, narrowed := true }
def FnExactDirtyUptoSaid : Prop := fnExactDirtyUptoRow.holds Try.pinned (OpenSpec.upto fnExactDirtySpec)

/-- 'laws.FnExactReused', WHERE WHAT IT READS IS OF BULK AT MOST 1048576: true; the input reads as it did. -/
def fnExactReusedUptoRow : OpenClaim := { program := "ytbnkpligdcponaa", sum := "29e5179cf017233f144febd1623c4f7b55e31977e925670327f01ee924044e19", func := "loop.example/g00066/laws.FnExactReused", spec := "fnExactReused", apart := false, narrowed := true }
def FnExactReusedUptoSaid : Prop := fnExactReusedUptoRow.holds Try.pinned (OpenSpec.upto fnExactReusedSpec)

/-- 'laws.FnFarmed', WHERE WHAT IT READS IS OF BULK AT MOST 1048576: true; the input reads as it did. -/
def fnFarmedUptoRow : OpenClaim := { program := "ytbnkpligdcponaa", sum := "29e5179cf017233f144febd1623c4f7b55e31977e925670327f01ee924044e19", func := "loop.example/g00066/laws.FnFarmed", spec := "fnFarmed", unfollowed := true, recurses := true, apart := false, narrowed := true }
def FnFarmedUptoSaid : Prop := fnFarmedUptoRow.holds Try.pinned (OpenSpec.upto fnFarmedSpec)

/-- 'laws.FnReused', WHERE WHAT IT READS IS OF BULK AT MOST 1048576: true; the input reads as it did. -/
def fnReusedUptoRow : OpenClaim := { program := "ytbnkpligdcponaa", sum := "29e5179cf017233f144febd1623c4f7b55e31977e925670327f01ee924044e19", func := "loop.example/g00066/laws.FnReused", spec := "fnReused", unfollowed := true, recurses := true, apart := false, narrowed := true }
def FnReusedUptoSaid : Prop := fnReusedUptoRow.holds Try.pinned (OpenSpec.upto fnReusedSpec)

/-- 'laws.FnExactFarm', WHERE WHAT IT READS IS OF BULK AT MOST 1048576: true; the input reads as it did. -/
def fnExactFarmUptoRow : OpenClaim := { program := "ytbnkpligdcponaa", sum := "29e5179cf017233f144febd1623c4f7b55e31977e925670327f01ee924044e19", func := "loop.example/g00066/laws.FnExactFarm", spec := "fnExactFarm", unfollowed := true, recurses := true, apart := false, narrowed := true }
def FnExactFarmUptoSaid : Prop := fnExactFarmUptoRow.holds Try.pinned (OpenSpec.upto fnExactFarmSpec)

end Rows
end Go.Proofs.Ytbnkpligdcponaa
