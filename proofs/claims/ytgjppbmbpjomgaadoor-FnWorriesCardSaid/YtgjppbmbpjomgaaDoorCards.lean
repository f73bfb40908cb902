/-
  DERIVED. GIVEN WITH THE SEED: THE CARDS: each row of YtgjppbmbpjomgaaDoorRows.lean that lists a variable, with what it lists TIED to the program's text (the seventh form; the later family's looks); each row that meets fmt, with fmt's text TOLD by the authors' own Lean function (tested against real Go, not proved from fmt's source: count such statements apart). THE CARD IS WHAT COUNTS. Prove the row's statement (the work); the ties are given (YtgjppbmbpjomgaaDoorTie.lean); close each card by the builder's one call (the guide's Derived/Test/ToyasCard.lean, 'card_holds'). Laid BY PROGRAM, IN A SANDBOX (cutbox-door.mjs). By AI agents, Wed Nov 11 2026. No macro, syntax, notation, axiom, sorry.
-/
import Derived.Test.YtgjppbmbpjomgaaDoorRows
import GoSem.ClaimSeven
namespace Go.Proofs.YtgjppbmbpjomgaaDoor
namespace Rows

/-- THE TIED CARD OF 'laws.FnWorries'. -/
def fnWorriesCard : Claim7 := { stood := { row := fnWorriesRow, standIns := [], harness := (true, "32b3721331d731f6c67932734115484c74add2206da64d40027919549b399a81"), looks := false }, kinds := [], alts := [], laidByText := true, laidKinds := [.data, .pinned], laidTests := true, laidLooks := .later }
def FnWorriesCardSaid : Prop := Claim7.holds Tryd.pinned (.plain (OpenSpec.ofChange fnWorriesSpec)) fnWorriesCard

/-- THE TIED CARD OF 'laws.FnExactUnread'. -/
def fnExactUnreadCard : Claim7 := { stood := { row := fnExactUnreadRow, standIns := [], harness := (true, "32b3721331d731f6c67932734115484c74add2206da64d40027919549b399a81"), looks := false }, kinds := [], alts := [], laidByText := true, laidKinds := [.data, .pinned], laidTests := true, laidLooks := .later }
def FnExactUnreadCardSaid : Prop := Claim7.holds Tryd.pinned (.plain (OpenSpec.ofChange fnExactUnreadSpec)) fnExactUnreadCard

/-- THE SECOND FORM's CARD OF 'laws.FnWorries'. -/
def fnWorriesUptoCard : Claim7 := { stood := { row := fnWorriesUptoRow, standIns := [], harness := (true, "32b3721331d731f6c67932734115484c74add2206da64d40027919549b399a81"), looks := false }, kinds := [], alts := [], laidByText := true, laidKinds := [.data, .pinned], laidTests := true, laidLooks := .later }
def FnWorriesUptoCardSaid : Prop := Claim7.holds Tryd.pinned (.plain (OpenSpec.upto fnWorriesSpec)) fnWorriesUptoCard

/-- THE SECOND FORM's CARD OF 'laws.FnExactUnread'. -/
def fnExactUnreadUptoCard : Claim7 := { stood := { row := fnExactUnreadUptoRow, standIns := [], harness := (true, "32b3721331d731f6c67932734115484c74add2206da64d40027919549b399a81"), looks := false }, kinds := [], alts := [], laidByText := true, laidKinds := [.data, .pinned], laidTests := true, laidLooks := .later }
def FnExactUnreadUptoCardSaid : Prop := Claim7.holds Tryd.pinned (.plain (OpenSpec.upto fnExactUnreadSpec)) fnExactUnreadUptoCard
end Rows
end Go.Proofs.YtgjppbmbpjomgaaDoor
