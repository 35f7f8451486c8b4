/-
  DERIVED. GIVEN WITH THE SEED: THE CARDS: each row of YtbkinfgpcjjaaaaGreatDoorRows.lean that lists a variable, with what it lists TIED to the program's text (the seventh form; the later family's looks); each row that meets fmt, with fmt's text TOLD by the authors' own Lean function (tested against real Go, not proved from fmt's source: count such statements apart). THE CARD IS WHAT COUNTS. Prove the row's statement (the work); the ties are given (YtbkinfgpcjjaaaaGreatDoorTie.lean); close each card by the builder's one call (the guide's Derived/Test/ToyasCard.lean, 'card_holds'). Laid BY PROGRAM, IN A SANDBOX (cutbox-door.mjs). By AI agents, Wed Nov 11 2026. No macro, syntax, notation, axiom, sorry.
-/
import Derived.Test.YtbkinfgpcjjaaaaGreatDoorRows
import GoSem.ClaimSeven
namespace Go.Proofs.YtbkinfgpcjjaaaaGreatDoor
namespace Rows

/-- THE TIED CARD OF 'langdoclaw57.EditionChecks'. -/
def editionChecksCard : Claim7 := { stood := { row := editionChecksRow, standIns := [], harness := (true, "2fd4dd9c7805c858fcd82b2f48c9cec441ee72c75708e61c4e9bdebfa20b8766"), looks := false }, kinds := [], alts := [], laidByText := true, laidKinds := [.data, .data, .data, .data, .pinned], laidTests := true, laidLooks := .later }
def EditionChecksCardSaid : Prop := Claim7.holds Tryz.pinned (.plain (OpenSpec.ofChange editionChecksSpec)) editionChecksCard

/-- THE SECOND FORM's CARD OF 'langdoclaw57.EditionChecks'. -/
def editionChecksUptoCard : Claim7 := { stood := { row := editionChecksUptoRow, standIns := [], harness := (true, "2fd4dd9c7805c858fcd82b2f48c9cec441ee72c75708e61c4e9bdebfa20b8766"), looks := false }, kinds := [], alts := [], laidByText := true, laidKinds := [.data, .data, .data, .data, .pinned], laidTests := true, laidLooks := .later }
def EditionChecksUptoCardSaid : Prop := Claim7.holds Tryz.pinned (.plain (OpenSpec.upto editionChecksSpec)) editionChecksUptoCard
end Rows
end Go.Proofs.YtbkinfgpcjjaaaaGreatDoor
