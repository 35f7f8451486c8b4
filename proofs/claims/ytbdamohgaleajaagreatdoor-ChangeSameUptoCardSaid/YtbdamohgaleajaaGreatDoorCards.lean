/-
  DERIVED. GIVEN WITH THE SEED: THE CARDS: each row of YtbdamohgaleajaaGreatDoorRows.lean that lists a variable, with what it lists TIED to the program's text (the seventh form; the later family's looks); each row that meets fmt, with fmt's text TOLD by the authors' own Lean function (tested against real Go, not proved from fmt's source: count such statements apart). THE CARD IS WHAT COUNTS. Prove the row's statement (the work); the ties are given (YtbdamohgaleajaaGreatDoorTie.lean); close each card by the builder's one call (the guide's Derived/Test/ToyasCard.lean, 'card_holds'). Laid BY PROGRAM, IN A SANDBOX (cutbox-door.mjs). By AI agents, Wed Nov 11 2026. No macro, syntax, notation, axiom, sorry.
-/
import Derived.Test.YtbdamohgaleajaaGreatDoorRows
import GoSem.ClaimSeven
namespace Go.Proofs.YtbdamohgaleajaaGreatDoor
namespace Rows

/-- THE TIED CARD OF 'langdoclaw40.ChangeSame'. -/
def changeSameCard : Claim7 := { stood := { row := changeSameRow, standIns := [], harness := (true, "997fd38b597ffb1611ea53118374f283fdd5b16214d9b6d0ae9d4a83211fbc08"), looks := false }, kinds := [], alts := [], laidByText := true, laidKinds := [.data, .pinned], laidTests := true, laidLooks := .later }
def ChangeSameCardSaid : Prop := Claim7.holds Tryz.pinned (.plain (OpenSpec.ofChange changeSameSpec)) changeSameCard

/-- THE SECOND FORM's CARD OF 'langdoclaw40.ChangeSame'. -/
def changeSameUptoCard : Claim7 := { stood := { row := changeSameUptoRow, standIns := [], harness := (true, "997fd38b597ffb1611ea53118374f283fdd5b16214d9b6d0ae9d4a83211fbc08"), looks := false }, kinds := [], alts := [], laidByText := true, laidKinds := [.data, .pinned], laidTests := true, laidLooks := .later }
def ChangeSameUptoCardSaid : Prop := Claim7.holds Tryz.pinned (.plain (OpenSpec.upto changeSameSpec)) changeSameUptoCard
end Rows
end Go.Proofs.YtbdamohgaleajaaGreatDoor
