/-
  DERIVED. GIVEN WITH THE SEED: THE CARDS: each row of YtindbmgnapmdmaaGreatDoorRows.lean that lists a variable, with what it lists TIED to the program's text (the seventh form; the later family's looks); each row that meets fmt, with fmt's text TOLD by the authors' own Lean function (tested against real Go, not proved from fmt's source: count such statements apart). THE CARD IS WHAT COUNTS. Prove the row's statement (the work); the ties are given (YtindbmgnapmdmaaGreatDoorTie.lean); close each card by the builder's one call (the guide's Derived/Test/ToyasCard.lean, 'card_holds'). Laid BY PROGRAM, IN A SANDBOX (cutbox-door.mjs). By AI agents, Wed Nov 11 2026. No macro, syntax, notation, axiom, sorry.
-/
import Derived.Test.YtindbmgnapmdmaaGreatDoorRows
import GoSem.ClaimSeven
namespace Go.Proofs.YtindbmgnapmdmaaGreatDoor
namespace Rows

/-- THE TIED CARD OF 'langdoclaw48.WithdrawSames'. -/
def withdrawSamesCard : Claim7 := { stood := { row := withdrawSamesRow, standIns := [], harness := (true, "5373c6576b3b5195046f5cc9f1953618d841445467d8ba2c29265b35dbfaf5f0"), looks := false }, kinds := [], alts := [], laidByText := true, laidKinds := [.data, .pinned], laidTests := true, laidLooks := .later }
def WithdrawSamesCardSaid : Prop := Claim7.holds Tryz.pinned (.plain (OpenSpec.ofChange withdrawSamesSpec)) withdrawSamesCard

/-- THE SECOND FORM's CARD OF 'langdoclaw48.WithdrawSames'. -/
def withdrawSamesUptoCard : Claim7 := { stood := { row := withdrawSamesUptoRow, standIns := [], harness := (true, "5373c6576b3b5195046f5cc9f1953618d841445467d8ba2c29265b35dbfaf5f0"), looks := false }, kinds := [], alts := [], laidByText := true, laidKinds := [.data, .pinned], laidTests := true, laidLooks := .later }
def WithdrawSamesUptoCardSaid : Prop := Claim7.holds Tryz.pinned (.plain (OpenSpec.upto withdrawSamesSpec)) withdrawSamesUptoCard
end Rows
end Go.Proofs.YtindbmgnapmdmaaGreatDoor
