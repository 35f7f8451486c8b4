/-
  DERIVED. GIVEN WITH THE SEED: THE CARDS: each row of YtgkfhfcieamncaaGreatDoorRows.lean that lists a variable, with what it lists TIED to the program's text (the seventh form; the later family's looks); each row that meets fmt, with fmt's text TOLD by the authors' own Lean function (tested against real Go, not proved from fmt's source: count such statements apart). THE CARD IS WHAT COUNTS. Prove the row's statement (the work); the ties are given (YtgkfhfcieamncaaGreatDoorTie.lean); close each card by the builder's one call (the guide's Derived/Test/ToyasCard.lean, 'card_holds'). Laid BY PROGRAM, IN A SANDBOX (cutbox-door.mjs). By AI agents, Wed Nov 11 2026. No macro, syntax, notation, axiom, sorry.
-/
import Derived.Test.YtgkfhfcieamncaaGreatDoorRows
import GoSem.ClaimSeven
namespace Go.Proofs.YtgkfhfcieamncaaGreatDoor
namespace Rows

/-- THE TIED CARD OF 'langdoclaw57.EditionSums'. -/
def editionSumsCard : Claim7 := { stood := { row := editionSumsRow, standIns := [], harness := (true, "d06750b2c50d357a820bb2e246d0925507662d08b96dc663ef37801b5667c14f"), looks := false }, kinds := [], alts := [], laidByText := true, laidKinds := [.data, .data, .data, .data, .pinned], laidTests := true, laidLooks := .later }
def EditionSumsCardSaid : Prop := Claim7.holds Tryz.pinned (.plain (OpenSpec.ofChange editionSumsSpec)) editionSumsCard

/-- THE SECOND FORM's CARD OF 'langdoclaw57.EditionSums'. -/
def editionSumsUptoCard : Claim7 := { stood := { row := editionSumsUptoRow, standIns := [], harness := (true, "d06750b2c50d357a820bb2e246d0925507662d08b96dc663ef37801b5667c14f"), looks := false }, kinds := [], alts := [], laidByText := true, laidKinds := [.data, .data, .data, .data, .pinned], laidTests := true, laidLooks := .later }
def EditionSumsUptoCardSaid : Prop := Claim7.holds Tryz.pinned (.plain (OpenSpec.upto editionSumsSpec)) editionSumsUptoCard
end Rows
end Go.Proofs.YtgkfhfcieamncaaGreatDoor
