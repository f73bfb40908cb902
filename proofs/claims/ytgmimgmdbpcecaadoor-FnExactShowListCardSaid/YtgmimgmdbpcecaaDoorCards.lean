/-
  DERIVED. GIVEN WITH THE SEED: THE CARDS: each row of YtgmimgmdbpcecaaDoorRows.lean that lists a variable, with what it lists TIED to the program's text (the seventh form; the later family's looks); each row that meets fmt, with fmt's text TOLD by the authors' own Lean function (tested against real Go, not proved from fmt's source: count such statements apart). THE CARD IS WHAT COUNTS. Prove the row's statement (the work); the ties are given (YtgmimgmdbpcecaaDoorTie.lean); close each card by the builder's one call (the guide's Derived/Test/ToyasCard.lean, 'card_holds'). Laid BY PROGRAM, IN A SANDBOX (cutbox-door.mjs). By AI agents, Wed Nov 11 2026. No macro, syntax, notation, axiom, sorry.
-/
import Derived.Test.YtgmimgmdbpcecaaDoorRows
import GoSem.ClaimSeven
namespace Go.Proofs.YtgmimgmdbpcecaaDoor
namespace Rows

/-- THE TIED CARD OF 'laws.FnExactShowList'. -/
def fnExactShowListCard : Claim7 := { stood := { row := fnExactShowListRow, standIns := [], harness := (true, "a0f88972139d488bc11bf708b1c182deab204fbb327b29faa116348891434008"), looks := false }, kinds := [], alts := [], laidByText := true, laidKinds := [.data, .data, .data], laidTests := true, laidLooks := .later }
def FnExactShowListCardSaid : Prop := Claim7.holds Tryd.pinned (.plain (OpenSpec.ofChange fnExactShowListSpec)) fnExactShowListCard

/-- THE SECOND FORM's CARD OF 'laws.FnExactShowList'. -/
def fnExactShowListUptoCard : Claim7 := { stood := { row := fnExactShowListUptoRow, standIns := [], harness := (true, "a0f88972139d488bc11bf708b1c182deab204fbb327b29faa116348891434008"), looks := false }, kinds := [], alts := [], laidByText := true, laidKinds := [.data, .data, .data], laidTests := true, laidLooks := .later }
def FnExactShowListUptoCardSaid : Prop := Claim7.holds Tryd.pinned (.plain (OpenSpec.upto fnExactShowListSpec)) fnExactShowListUptoCard
end Rows
end Go.Proofs.YtgmimgmdbpcecaaDoor
