/-
  No cell of these rows narrows 'for every input' (looked for: loops, veiled, ifaces, maps, wideKeys, modest, calm, conditions, laid).
  DERIVED. THE GIVEN ROWS OF THIS SEAT. 4 by the template 'for every input the law returns true; each argument reads behind the call as it read before'; 0 by the template 'total and deterministic' (their statements: YtpbmnkajhedaiaaGreatTotals.lean).
  GIVEN WITH THE SEED: the statements are not yours to turn. If you find one false, say at which input.
  Laid BY PROGRAM, IN A SANDBOX (cutbox-rows.mjs): the forced cells as the released guide's own fill.sh prints them over the translation f916f33078b9cbeb… (all of the seat's roots in one cut). By AI agents, Wed Nov 11 2026. No macro, syntax, notation, axiom, sorry.
-/
import Derived.Test.YtpbmnkajhedaiaaGreatChecked
import GoSem.Claim
import GoSem.ClaimJoined
import GoSem.ClaimMapViews
import Derived.JoinedTies
import Derived.KernelRfl
namespace Go.Proofs.YtpbmnkajhedaiaaGreat
/- THE CELL 'sum', in the pinned program and in every row, IS THE sha256 OF THE DUMP (.gsa) THAT YtpbmnkajhedaiaaGreatProg.lean LOADS. Nothing in Lean hashes anything: it is a label: what it is worth is what the hold of that sum in a sandbox is worth. -/
noncomputable def Tryz.pinned : Pinned := { name := "ytpbmnkajhedaiaagreat", sum := "f916f33078b9cbeb7ddf1d49776d8d5305f82feefc97b4a379270c5144d19ef1", checked := Tryz.checked }
namespace Rows
def none {H : Type} : Left H := { results := [], args := [] }

/-- 'langdoclaw41.RecheckAlls': WHATEVER THE INPUT: true; the input reads as it did. -/
def recheckAllsSpec : ChangeSpec := { name := "recheckAlls", fn := fun _ => fun
  | [d1, d2, d3] => { results := [.lit (.bool true)], args := [d1, d2, d3] }
  | _ => none }
def recheckAllsRow : OpenClaim := { program := "ytpbmnkajhedaiaagreat", sum := "f916f33078b9cbeb7ddf1d49776d8d5305f82feefc97b4a379270c5144d19ef1", func := "langdoc/langdoclaw41.RecheckAlls", spec := "recheckAlls", unfollowed := true, recurses := true, plainKeys := false, apart := false }
def RecheckAllsSaid : Prop := recheckAllsRow.holds Tryz.pinned (OpenSpec.ofChange recheckAllsSpec)

/-- ITS FALSE NEIGHBOUR: 'it returns false'. Refute it at one input. -/
def recheckAllsWrong : ChangeSpec := { name := "recheckAlls", fn := fun _ => fun
  | [d1, d2, d3] => { results := [.lit (.bool false)], args := [d1, d2, d3] }
  | _ => none }
def RecheckAllsWrongFalsely : Prop := recheckAllsRow.holds Tryz.pinned (OpenSpec.ofChange recheckAllsWrong)

/-- 'langdoclaw41.RecheckUpdates': WHATEVER THE INPUT: true; the input reads as it did. -/
def recheckUpdatesSpec : ChangeSpec := { name := "recheckUpdates", fn := fun _ => fun
  | [d1, d2, d3, d4] => { results := [.lit (.bool true)], args := [d1, d2, d3, d4] }
  | _ => none }
def recheckUpdatesRow : OpenClaim := { program := "ytpbmnkajhedaiaagreat", sum := "f916f33078b9cbeb7ddf1d49776d8d5305f82feefc97b4a379270c5144d19ef1", func := "langdoc/langdoclaw41.RecheckUpdates", spec := "recheckUpdates", unfollowed := true, recurses := true, plainKeys := false, apart := false }
def RecheckUpdatesSaid : Prop := recheckUpdatesRow.holds Tryz.pinned (OpenSpec.ofChange recheckUpdatesSpec)

/-- ITS FALSE NEIGHBOUR: 'it returns false'. Refute it at one input. -/
def recheckUpdatesWrong : ChangeSpec := { name := "recheckUpdates", fn := fun _ => fun
  | [d1, d2, d3, d4] => { results := [.lit (.bool false)], args := [d1, d2, d3, d4] }
  | _ => none }
def RecheckUpdatesWrongFalsely : Prop := recheckUpdatesRow.holds Tryz.pinned (OpenSpec.ofChange recheckUpdatesWrong)

/-- 'langdoclaw41.RecheckParts': WHATEVER THE INPUT: true; the input reads as it did. -/
def recheckPartsSpec : ChangeSpec := { name := "recheckParts", fn := fun _ => fun
  | [d1, d2, d3, d4] => { results := [.lit (.bool true)], args := [d1, d2, d3, d4] }
  | _ => none }
def recheckPartsRow : OpenClaim := { program := "ytpbmnkajhedaiaagreat", sum := "f916f33078b9cbeb7ddf1d49776d8d5305f82feefc97b4a379270c5144d19ef1", func := "langdoc/langdoclaw41.RecheckParts", spec := "recheckParts", unfollowed := true, recurses := true, plainKeys := false, apart := false }
def RecheckPartsSaid : Prop := recheckPartsRow.holds Tryz.pinned (OpenSpec.ofChange recheckPartsSpec)

/-- ITS FALSE NEIGHBOUR: 'it returns false'. Refute it at one input. -/
def recheckPartsWrong : ChangeSpec := { name := "recheckParts", fn := fun _ => fun
  | [d1, d2, d3, d4] => { results := [.lit (.bool false)], args := [d1, d2, d3, d4] }
  | _ => none }
def RecheckPartsWrongFalsely : Prop := recheckPartsRow.holds Tryz.pinned (OpenSpec.ofChange recheckPartsWrong)

/-- 'langdoclaw41.RecheckEdits': WHATEVER THE INPUT: true; the input reads as it did. -/
def recheckEditsSpec : ChangeSpec := { name := "recheckEdits", fn := fun _ => fun
  | [d1, d2, d3, d4, d5] => { results := [.lit (.bool true)], args := [d1, d2, d3, d4, d5] }
  | _ => none }
def recheckEditsRow : OpenClaim := { program := "ytpbmnkajhedaiaagreat", sum := "f916f33078b9cbeb7ddf1d49776d8d5305f82feefc97b4a379270c5144d19ef1", func := "langdoc/langdoclaw41.RecheckEdits", spec := "recheckEdits", unfollowed := true, recurses := true, plainKeys := false, apart := false }
def RecheckEditsSaid : Prop := recheckEditsRow.holds Tryz.pinned (OpenSpec.ofChange recheckEditsSpec)

/-- ITS FALSE NEIGHBOUR: 'it returns false'. Refute it at one input. -/
def recheckEditsWrong : ChangeSpec := { name := "recheckEdits", fn := fun _ => fun
  | [d1, d2, d3, d4, d5] => { results := [.lit (.bool false)], args := [d1, d2, d3, d4, d5] }
  | _ => none }
def RecheckEditsWrongFalsely : Prop := recheckEditsRow.holds Tryz.pinned (OpenSpec.ofChange recheckEditsWrong)

/- THE SECOND FORM. 'bulk': how many values and letters a reading holds, each counted each time it is reached (what is shared counts as often as it is met; a slice's spare places count too). A statement '..UptoSaid' is the law's where the arguments, and the package variables that the reading takes, are together of bulk at most 1048576: NARROWER than '..Said'. Prove '..Said' where nothing that the law and all that it calls make is longer than what came in: it says more and counts as full. Else prove '..UptoSaid'. A law counts once. -/
mutual
def uptoBulk {H : Type} : DataW H → Nat
  | .lit (.string bytes) => bytes.length + 1
  | .lit _ => 1
  | .nil => 1
  | .ptr d => uptoBulk d + 1
  | .slice elems spare => uptoBulkAll elems + uptoBulkAll spare + 1
  | .agg parts => uptoBulkAll parts + 1
  | .iface _ d => uptoBulk d + 1
  | .map entries => uptoBulkEntries entries + 1
  | .held _ => 1
def uptoBulkAll {H : Type} : List (DataW H) → Nat
  | [] => 0
  | d :: r => uptoBulk d + uptoBulkAll r
def uptoBulkEntries {H : Type} : List (Lit × DataW H) → Nat
  | [] => 0
  | x :: r => uptoBulkEntry x + uptoBulkEntries r
def uptoBulkEntry {H : Type} : Lit × DataW H → Nat
  | (.string bytes, d) => bytes.length + uptoBulk d + 1
  | (_, d) => uptoBulk d + 1
 end
def uptoSmall : (H : Type) → List (DataW H) → Bool := fun _ ds => decide (uptoBulkAll ds ≤ 1048576)
def OpenSpec.upto (s : _root_.Go.ChangeSpec) : _root_.Go.OpenSpec := { _root_.Go.OpenSpec.ofChange s with cond := some uptoSmall }

/-- 'langdoclaw41.RecheckAlls', WHERE WHAT IT READS IS OF BULK AT MOST 1048576: true; the input reads as it did. -/
def recheckAllsUptoRow : OpenClaim := { program := "ytpbmnkajhedaiaagreat", sum := "f916f33078b9cbeb7ddf1d49776d8d5305f82feefc97b4a379270c5144d19ef1", func := "langdoc/langdoclaw41.RecheckAlls", spec := "recheckAlls", unfollowed := true, recurses := true, plainKeys := false, apart := false, narrowed := true }
def RecheckAllsUptoSaid : Prop := recheckAllsUptoRow.holds Tryz.pinned (OpenSpec.upto recheckAllsSpec)

/-- 'langdoclaw41.RecheckUpdates', WHERE WHAT IT READS IS OF BULK AT MOST 1048576: true; the input reads as it did. -/
def recheckUpdatesUptoRow : OpenClaim := { program := "ytpbmnkajhedaiaagreat", sum := "f916f33078b9cbeb7ddf1d49776d8d5305f82feefc97b4a379270c5144d19ef1", func := "langdoc/langdoclaw41.RecheckUpdates", spec := "recheckUpdates", unfollowed := true, recurses := true, plainKeys := false, apart := false, narrowed := true }
def RecheckUpdatesUptoSaid : Prop := recheckUpdatesUptoRow.holds Tryz.pinned (OpenSpec.upto recheckUpdatesSpec)

/-- 'langdoclaw41.RecheckParts', WHERE WHAT IT READS IS OF BULK AT MOST 1048576: true; the input reads as it did. -/
def recheckPartsUptoRow : OpenClaim := { program := "ytpbmnkajhedaiaagreat", sum := "f916f33078b9cbeb7ddf1d49776d8d5305f82feefc97b4a379270c5144d19ef1", func := "langdoc/langdoclaw41.RecheckParts", spec := "recheckParts", unfollowed := true, recurses := true, plainKeys := false, apart := false, narrowed := true }
def RecheckPartsUptoSaid : Prop := recheckPartsUptoRow.holds Tryz.pinned (OpenSpec.upto recheckPartsSpec)

/-- 'langdoclaw41.RecheckEdits', WHERE WHAT IT READS IS OF BULK AT MOST 1048576: true; the input reads as it did. -/
def recheckEditsUptoRow : OpenClaim := { program := "ytpbmnkajhedaiaagreat", sum := "f916f33078b9cbeb7ddf1d49776d8d5305f82feefc97b4a379270c5144d19ef1", func := "langdoc/langdoclaw41.RecheckEdits", spec := "recheckEdits", unfollowed := true, recurses := true, plainKeys := false, apart := false, narrowed := true }
def RecheckEditsUptoSaid : Prop := recheckEditsUptoRow.holds Tryz.pinned (OpenSpec.upto recheckEditsSpec)

end Rows
end Go.Proofs.YtpbmnkajhedaiaaGreat
