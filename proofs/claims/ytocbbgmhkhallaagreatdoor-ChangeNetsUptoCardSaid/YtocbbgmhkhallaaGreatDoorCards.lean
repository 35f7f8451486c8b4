/-
  DERIVED. GIVEN WITH THE SEED: THE CARDS: each row of YtocbbgmhkhallaaGreatDoorRows.lean that lists a variable, with what it lists TIED to the program's text (the seventh form; the later family's looks); each row that meets fmt, with fmt's text TOLD by the authors' own Lean function (tested against real Go, not proved from fmt's source: count such statements apart). THE CARD IS WHAT COUNTS. Prove the row's statement (the work); the ties are given (YtocbbgmhkhallaaGreatDoorTie.lean); close each card by the builder's one call (the guide's Derived/Test/ToyasCard.lean, 'card_holds'). Laid BY PROGRAM, IN A SANDBOX (cutbox-door.mjs). By AI agents, Wed Nov 11 2026. No macro, syntax, notation, axiom, sorry.
-/
import Derived.Test.YtocbbgmhkhallaaGreatDoorRows
import GoSem.ClaimSeven
namespace Go.Proofs.YtocbbgmhkhallaaGreatDoor
namespace Rows

/-- THE TIED CARD OF 'langdoclaw40.ChangeNets'. -/
def changeNetsCard : Claim7 := { stood := { row := changeNetsRow, standIns := [], harness := (true, "1ca7c02ce4691c50af93124c06d2be4742719dc70b1f6e7e6f73e8d9ddaddcf7"), looks := false }, kinds := [], alts := [], laidByText := true, laidKinds := [.data, .pinned], laidTests := true, laidLooks := .later }
def ChangeNetsCardSaid : Prop := Claim7.holds Tryz.pinned (.plain (OpenSpec.ofChange changeNetsSpec)) changeNetsCard

/-- THE SECOND FORM's CARD OF 'langdoclaw40.ChangeNets'. -/
def changeNetsUptoCard : Claim7 := { stood := { row := changeNetsUptoRow, standIns := [], harness := (true, "1ca7c02ce4691c50af93124c06d2be4742719dc70b1f6e7e6f73e8d9ddaddcf7"), looks := false }, kinds := [], alts := [], laidByText := true, laidKinds := [.data, .pinned], laidTests := true, laidLooks := .later }
def ChangeNetsUptoCardSaid : Prop := Claim7.holds Tryz.pinned (.plain (OpenSpec.upto changeNetsSpec)) changeNetsUptoCard
end Rows
end Go.Proofs.YtocbbgmhkhallaaGreatDoor
