/-
  DERIVED. GIVEN WITH THE SEED: THE CARDS: each row of YtminhjecpnpaeaaGreatDoorRows.lean that lists a variable, with what it lists TIED to the program's text (the seventh form; the later family's looks); each row that meets fmt, with fmt's text TOLD by the authors' own Lean function (tested against real Go, not proved from fmt's source: count such statements apart). THE CARD IS WHAT COUNTS. Prove the row's statement (the work); the ties are given (YtminhjecpnpaeaaGreatDoorTie.lean); close each card by the builder's one call (the guide's Derived/Test/ToyasCard.lean, 'card_holds'). Laid BY PROGRAM, IN A SANDBOX (cutbox-door.mjs). By AI agents, Wed Nov 11 2026. No macro, syntax, notation, axiom, sorry.
-/
import Derived.Test.YtminhjecpnpaeaaGreatDoorRows
import GoSem.ClaimSeven
namespace Go.Proofs.YtminhjecpnpaeaaGreatDoor
namespace Rows

/-- THE TIED CARD OF 'langdoclaw40.ChangeRules'. -/
def changeRulesCard : Claim7 := { stood := { row := changeRulesRow, standIns := [], harness := (true, "70656c375026eca6e58a993b7c37364f98c5a0104708b07c70ad3d8cf8cb19c0"), looks := false }, kinds := [], alts := [], laidByText := true, laidKinds := [.data, .pinned], laidTests := true, laidLooks := .later }
def ChangeRulesCardSaid : Prop := Claim7.holds Tryz.pinned (.plain (OpenSpec.ofChange changeRulesSpec)) changeRulesCard

/-- THE TIED CARD OF 'langdoclaw40.ChangeSets'. -/
def changeSetsCard : Claim7 := { stood := { row := changeSetsRow, standIns := [], harness := (true, "70656c375026eca6e58a993b7c37364f98c5a0104708b07c70ad3d8cf8cb19c0"), looks := false }, kinds := [], alts := [], laidByText := true, laidKinds := [.data, .pinned], laidTests := true, laidLooks := .later }
def ChangeSetsCardSaid : Prop := Claim7.holds Tryz.pinned (.plain (OpenSpec.ofChange changeSetsSpec)) changeSetsCard

/-- THE SECOND FORM's CARD OF 'langdoclaw40.ChangeRules'. -/
def changeRulesUptoCard : Claim7 := { stood := { row := changeRulesUptoRow, standIns := [], harness := (true, "70656c375026eca6e58a993b7c37364f98c5a0104708b07c70ad3d8cf8cb19c0"), looks := false }, kinds := [], alts := [], laidByText := true, laidKinds := [.data, .pinned], laidTests := true, laidLooks := .later }
def ChangeRulesUptoCardSaid : Prop := Claim7.holds Tryz.pinned (.plain (OpenSpec.upto changeRulesSpec)) changeRulesUptoCard

/-- THE SECOND FORM's CARD OF 'langdoclaw40.ChangeSets'. -/
def changeSetsUptoCard : Claim7 := { stood := { row := changeSetsUptoRow, standIns := [], harness := (true, "70656c375026eca6e58a993b7c37364f98c5a0104708b07c70ad3d8cf8cb19c0"), looks := false }, kinds := [], alts := [], laidByText := true, laidKinds := [.data, .pinned], laidTests := true, laidLooks := .later }
def ChangeSetsUptoCardSaid : Prop := Claim7.holds Tryz.pinned (.plain (OpenSpec.upto changeSetsSpec)) changeSetsUptoCard
end Rows
end Go.Proofs.YtminhjecpnpaeaaGreatDoor
