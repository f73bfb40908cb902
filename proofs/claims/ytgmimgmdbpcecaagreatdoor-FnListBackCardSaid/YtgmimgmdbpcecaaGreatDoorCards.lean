/-
  DERIVED. GIVEN WITH THE SEED: THE CARDS: each row of YtgmimgmdbpcecaaGreatDoorRows.lean that lists a variable, with what it lists TIED to the program's text (the seventh form; the later family's looks); each row that meets fmt, with fmt's text TOLD by the authors' own Lean function (tested against real Go, not proved from fmt's source: count such statements apart). THE CARD IS WHAT COUNTS. Prove the row's statement (the work); the ties are given (YtgmimgmdbpcecaaGreatDoorTie.lean); close each card by the builder's one call (the guide's Derived/Test/ToyasCard.lean, 'card_holds'). Laid BY PROGRAM, IN A SANDBOX (cutbox-door.mjs). By AI agents, Wed Nov 11 2026. No macro, syntax, notation, axiom, sorry.
-/
import Derived.Test.YtgmimgmdbpcecaaGreatDoorRows
import GoSem.ClaimSeven
namespace Go.Proofs.YtgmimgmdbpcecaaGreatDoor
namespace Rows

/-- THE TIED CARD OF 'laws.FnExactReadList'. -/
def fnExactReadListCard : Claim7 := { stood := { row := fnExactReadListRow, standIns := [], harness := (true, "42af351caafb5c0aa504f8ad66396ba932f8b04a52ef3c83f37b7b76fd8d9661"), looks := false }, kinds := [], alts := [], laidByText := true, laidKinds := [.data, .data, .data, .data, .pinned], laidTests := true, laidLooks := .later }
def FnExactReadListCardSaid : Prop := Claim7.holds Tryz.pinned (.plain (OpenSpec.ofChange fnExactReadListSpec)) fnExactReadListCard

/-- THE TIED CARD OF 'laws.FnListBack'. -/
def fnListBackCard : Claim7 := { stood := { row := fnListBackRow, standIns := [], harness := (true, "42af351caafb5c0aa504f8ad66396ba932f8b04a52ef3c83f37b7b76fd8d9661"), looks := false }, kinds := [], alts := [], laidByText := true, laidKinds := [.data, .data, .data, .data, .pinned], laidTests := true, laidLooks := .later }
def FnListBackCardSaid : Prop := Claim7.holds Tryz.pinned (.plain (OpenSpec.ofChange fnListBackSpec)) fnListBackCard

/-- THE SECOND FORM's CARD OF 'laws.FnExactReadList'. -/
def fnExactReadListUptoCard : Claim7 := { stood := { row := fnExactReadListUptoRow, standIns := [], harness := (true, "42af351caafb5c0aa504f8ad66396ba932f8b04a52ef3c83f37b7b76fd8d9661"), looks := false }, kinds := [], alts := [], laidByText := true, laidKinds := [.data, .data, .data, .data, .pinned], laidTests := true, laidLooks := .later }
def FnExactReadListUptoCardSaid : Prop := Claim7.holds Tryz.pinned (.plain (OpenSpec.upto fnExactReadListSpec)) fnExactReadListUptoCard

/-- THE SECOND FORM's CARD OF 'laws.FnListBack'. -/
def fnListBackUptoCard : Claim7 := { stood := { row := fnListBackUptoRow, standIns := [], harness := (true, "42af351caafb5c0aa504f8ad66396ba932f8b04a52ef3c83f37b7b76fd8d9661"), looks := false }, kinds := [], alts := [], laidByText := true, laidKinds := [.data, .data, .data, .data, .pinned], laidTests := true, laidLooks := .later }
def FnListBackUptoCardSaid : Prop := Claim7.holds Tryz.pinned (.plain (OpenSpec.upto fnListBackSpec)) fnListBackUptoCard
end Rows
end Go.Proofs.YtgmimgmdbpcecaaGreatDoor
