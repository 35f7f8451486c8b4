/-
  No cell of these rows narrows 'for every input' (looked for: loops, veiled, ifaces, maps, wideKeys, modest, calm, conditions, laid).
  DERIVED. THE GIVEN ROWS OF THIS SEAT. 5 by the template 'for every input the law returns true; each argument reads behind the call as it read before'; 0 by the template 'total and deterministic' (their statements: YtnemldklhelbeaaGreatTotals.lean).
  GIVEN WITH THE SEED: the statements are not yours to turn. If you find one false, say at which input.
  Laid BY PROGRAM, IN A SANDBOX (cutbox-rows.mjs): the forced cells as the released guide's own fill.sh prints them over the translation 64601558a6946ef4… (all of the seat's roots in one cut). By AI agents, Wed Nov 11 2026. No macro, syntax, notation, axiom, sorry.
-/
import Derived.Test.YtnemldklhelbeaaGreatChecked
import GoSem.Claim
import GoSem.ClaimJoined
import GoSem.ClaimMapViews
import Derived.JoinedTies
import Derived.KernelRfl
namespace Go.Proofs.YtnemldklhelbeaaGreat
/- THE CELL 'sum', in the pinned program and in every row, IS THE sha256 OF THE DUMP (.gsa) THAT YtnemldklhelbeaaGreatProg.lean LOADS. Nothing in Lean hashes anything: it is a label: what it is worth is what the hold of that sum in a sandbox is worth. -/
noncomputable def Tryz.pinned : Pinned := { name := "ytnemldklhelbeaagreat", sum := "64601558a6946ef4044fd1c4b8c93715173f1a5f6bdfe9c85107ac5f95892f24", checked := Tryz.checked }
namespace Rows
def none {H : Type} : Left H := { results := [], args := [] }

/-- 'langdoclaw29.SurfaceCheck': WHATEVER THE INPUT: true; the input reads as it did. -/
def surfaceCheckSpec : ChangeSpec := { name := "surfaceCheck", fn := fun _ => fun
  | [d] => { results := [.lit (.bool true)], args := [d] }
  | _ => none }
def surfaceCheckRow : OpenClaim := { program := "ytnemldklhelbeaagreat", sum := "64601558a6946ef4044fd1c4b8c93715173f1a5f6bdfe9c85107ac5f95892f24", func := "langdoc/langdoclaw29.SurfaceCheck", spec := "surfaceCheck", inPlace := ["internal/abi.NoEscape"], unfollowed := true, recurses := true, apart := false }
def SurfaceCheckSaid : Prop := surfaceCheckRow.holds Tryz.pinned (OpenSpec.ofChange surfaceCheckSpec)

/-- ITS FALSE NEIGHBOUR: 'it returns false'. Refute it at one input. -/
def surfaceCheckWrong : ChangeSpec := { name := "surfaceCheck", fn := fun _ => fun
  | [d] => { results := [.lit (.bool false)], args := [d] }
  | _ => none }
def SurfaceCheckWrongFalsely : Prop := surfaceCheckRow.holds Tryz.pinned (OpenSpec.ofChange surfaceCheckWrong)

/-- 'langdoclaw29.SurfaceForms': WHATEVER THE INPUT: true; the input reads as it did. -/
def surfaceFormsSpec : ChangeSpec := { name := "surfaceForms", fn := fun _ => fun
  | [d1, d2] => { results := [.lit (.bool true)], args := [d1, d2] }
  | _ => none }
def surfaceFormsRow : OpenClaim := { program := "ytnemldklhelbeaagreat", sum := "64601558a6946ef4044fd1c4b8c93715173f1a5f6bdfe9c85107ac5f95892f24", func := "langdoc/langdoclaw29.SurfaceForms", spec := "surfaceForms", inPlace := ["internal/abi.NoEscape"], unfollowed := true, recurses := true, apart := false }
def SurfaceFormsSaid : Prop := surfaceFormsRow.holds Tryz.pinned (OpenSpec.ofChange surfaceFormsSpec)

/-- ITS FALSE NEIGHBOUR: 'it returns false'. Refute it at one input. -/
def surfaceFormsWrong : ChangeSpec := { name := "surfaceForms", fn := fun _ => fun
  | [d1, d2] => { results := [.lit (.bool false)], args := [d1, d2] }
  | _ => none }
def SurfaceFormsWrongFalsely : Prop := surfaceFormsRow.holds Tryz.pinned (OpenSpec.ofChange surfaceFormsWrong)

/-- 'langdoclaw29.SurfaceShort': WHATEVER THE INPUT: true; the input reads as it did. -/
def surfaceShortSpec : ChangeSpec := { name := "surfaceShort", fn := fun _ => fun
  | [d1, d2] => { results := [.lit (.bool true)], args := [d1, d2] }
  | _ => none }
def surfaceShortRow : OpenClaim := { program := "ytnemldklhelbeaagreat", sum := "64601558a6946ef4044fd1c4b8c93715173f1a5f6bdfe9c85107ac5f95892f24", func := "langdoc/langdoclaw29.SurfaceShort", spec := "surfaceShort", inPlace := ["internal/abi.NoEscape"], unfollowed := true, recurses := true, apart := false }
def SurfaceShortSaid : Prop := surfaceShortRow.holds Tryz.pinned (OpenSpec.ofChange surfaceShortSpec)

/-- ITS FALSE NEIGHBOUR: 'it returns false'. Refute it at one input. -/
def surfaceShortWrong : ChangeSpec := { name := "surfaceShort", fn := fun _ => fun
  | [d1, d2] => { results := [.lit (.bool false)], args := [d1, d2] }
  | _ => none }
def SurfaceShortWrongFalsely : Prop := surfaceShortRow.holds Tryz.pinned (OpenSpec.ofChange surfaceShortWrong)

/-- 'langdoclaw29.SurfaceKeeps': WHATEVER THE INPUT: true; the input reads as it did. -/
def surfaceKeepsSpec : ChangeSpec := { name := "surfaceKeeps", fn := fun _ => fun
  | [d1, d2, d3] => { results := [.lit (.bool true)], args := [d1, d2, d3] }
  | _ => none }
def surfaceKeepsRow : OpenClaim := { program := "ytnemldklhelbeaagreat", sum := "64601558a6946ef4044fd1c4b8c93715173f1a5f6bdfe9c85107ac5f95892f24", func := "langdoc/langdoclaw29.SurfaceKeeps", spec := "surfaceKeeps", inPlace := ["internal/abi.NoEscape"], unfollowed := true, recurses := true, apart := false }
def SurfaceKeepsSaid : Prop := surfaceKeepsRow.holds Tryz.pinned (OpenSpec.ofChange surfaceKeepsSpec)

/-- ITS FALSE NEIGHBOUR: 'it returns false'. Refute it at one input. -/
def surfaceKeepsWrong : ChangeSpec := { name := "surfaceKeeps", fn := fun _ => fun
  | [d1, d2, d3] => { results := [.lit (.bool false)], args := [d1, d2, d3] }
  | _ => none }
def SurfaceKeepsWrongFalsely : Prop := surfaceKeepsRow.holds Tryz.pinned (OpenSpec.ofChange surfaceKeepsWrong)

/-- 'langdoclaw29.SurfaceSpells': WHATEVER THE INPUT: true; the input reads as it did. -/
def surfaceSpellsSpec : ChangeSpec := { name := "surfaceSpells", fn := fun _ => fun
  | [d1, d2] => { results := [.lit (.bool true)], args := [d1, d2] }
  | _ => none }
def surfaceSpellsRow : OpenClaim := { program := "ytnemldklhelbeaagreat", sum := "64601558a6946ef4044fd1c4b8c93715173f1a5f6bdfe9c85107ac5f95892f24", func := "langdoc/langdoclaw29.SurfaceSpells", spec := "surfaceSpells", inPlace := ["internal/abi.NoEscape"], unfollowed := true, recurses := true, apart := false }
def SurfaceSpellsSaid : Prop := surfaceSpellsRow.holds Tryz.pinned (OpenSpec.ofChange surfaceSpellsSpec)

/-- ITS FALSE NEIGHBOUR: 'it returns false'. Refute it at one input. -/
def surfaceSpellsWrong : ChangeSpec := { name := "surfaceSpells", fn := fun _ => fun
  | [d1, d2] => { results := [.lit (.bool false)], args := [d1, d2] }
  | _ => none }
def SurfaceSpellsWrongFalsely : Prop := surfaceSpellsRow.holds Tryz.pinned (OpenSpec.ofChange surfaceSpellsWrong)

/- THE SECOND FORM. 'bulk': how many values and letters a reading holds, each counted each time it is reached (what is shared counts as often as it is met; a slice's spare places count too). A statement '..UptoSaid' is the law's where the arguments, and the package variables that the reading takes, are together of bulk at most 1048576: NARROWER than '..Said'. Prove '..Said' where nothing that the law and all that it calls make is longer than what came in: it says more and counts as full. Else prove '..UptoSaid'. A law counts once. -/
mutual
def uptoBulk {H : Type} : DataW H → Nat
  | .lit (.string bytes) => bytes.length + 1
  | .lit _ => 1
  | .nil => 1
  | .ptr d => uptoBulk d + 1
  | .slice elems spare => uptoBulkAll elems + uptoBulkAll spare + 1
  | .agg parts => uptoBulkAll parts + 1
  | .iface _ d => uptoBulk d + 1
  | .map entries => uptoBulkEntries entries + 1
  | .held _ => 1
def uptoBulkAll {H : Type} : List (DataW H) → Nat
  | [] => 0
  | d :: r => uptoBulk d + uptoBulkAll r
def uptoBulkEntries {H : Type} : List (Lit × DataW H) → Nat
  | [] => 0
  | x :: r => uptoBulkEntry x + uptoBulkEntries r
def uptoBulkEntry {H : Type} : Lit × DataW H → Nat
  | (.string bytes, d) => bytes.length + uptoBulk d + 1
  | (_, d) => uptoBulk d + 1
 end
def uptoSmall : (H : Type) → List (DataW H) → Bool := fun _ ds => decide (uptoBulkAll ds ≤ 1048576)
def OpenSpec.upto (s : _root_.Go.ChangeSpec) : _root_.Go.OpenSpec := { _root_.Go.OpenSpec.ofChange s with cond := some uptoSmall }

/-- 'langdoclaw29.SurfaceCheck', WHERE WHAT IT READS IS OF BULK AT MOST 1048576: true; the input reads as it did. -/
def surfaceCheckUptoRow : OpenClaim := { program := "ytnemldklhelbeaagreat", sum := "64601558a6946ef4044fd1c4b8c93715173f1a5f6bdfe9c85107ac5f95892f24", func := "langdoc/langdoclaw29.SurfaceCheck", spec := "surfaceCheck", inPlace := ["internal/abi.NoEscape"], unfollowed := true, recurses := true, apart := false, narrowed := true }
def SurfaceCheckUptoSaid : Prop := surfaceCheckUptoRow.holds Tryz.pinned (OpenSpec.upto surfaceCheckSpec)

/-- 'langdoclaw29.SurfaceForms', WHERE WHAT IT READS IS OF BULK AT MOST 1048576: true; the input reads as it did. -/
def surfaceFormsUptoRow : OpenClaim := { program := "ytnemldklhelbeaagreat", sum := "64601558a6946ef4044fd1c4b8c93715173f1a5f6bdfe9c85107ac5f95892f24", func := "langdoc/langdoclaw29.SurfaceForms", spec := "surfaceForms", inPlace := ["internal/abi.NoEscape"], unfollowed := true, recurses := true, apart := false, narrowed := true }
def SurfaceFormsUptoSaid : Prop := surfaceFormsUptoRow.holds Tryz.pinned (OpenSpec.upto surfaceFormsSpec)

/-- 'langdoclaw29.SurfaceShort', WHERE WHAT IT READS IS OF BULK AT MOST 1048576: true; the input reads as it did. -/
def surfaceShortUptoRow : OpenClaim := { program := "ytnemldklhelbeaagreat", sum := "64601558a6946ef4044fd1c4b8c93715173f1a5f6bdfe9c85107ac5f95892f24", func := "langdoc/langdoclaw29.SurfaceShort", spec := "surfaceShort", inPlace := ["internal/abi.NoEscape"], unfollowed := true, recurses := true, apart := false, narrowed := true }
def SurfaceShortUptoSaid : Prop := surfaceShortUptoRow.holds Tryz.pinned (OpenSpec.upto surfaceShortSpec)

/-- 'langdoclaw29.SurfaceKeeps', WHERE WHAT IT READS IS OF BULK AT MOST 1048576: true; the input reads as it did. -/
def surfaceKeepsUptoRow : OpenClaim := { program := "ytnemldklhelbeaagreat", sum := "64601558a6946ef4044fd1c4b8c93715173f1a5f6bdfe9c85107ac5f95892f24", func := "langdoc/langdoclaw29.SurfaceKeeps", spec := "surfaceKeeps", inPlace := ["internal/abi.NoEscape"], unfollowed := true, recurses := true, apart := false, narrowed := true }
def SurfaceKeepsUptoSaid : Prop := surfaceKeepsUptoRow.holds Tryz.pinned (OpenSpec.upto surfaceKeepsSpec)

/-- 'langdoclaw29.SurfaceSpells', WHERE WHAT IT READS IS OF BULK AT MOST 1048576: true; the input reads as it did. -/
def surfaceSpellsUptoRow : OpenClaim := { program := "ytnemldklhelbeaagreat", sum := "64601558a6946ef4044fd1c4b8c93715173f1a5f6bdfe9c85107ac5f95892f24", func := "langdoc/langdoclaw29.SurfaceSpells", spec := "surfaceSpells", inPlace := ["internal/abi.NoEscape"], unfollowed := true, recurses := true, apart := false, narrowed := true }
def SurfaceSpellsUptoSaid : Prop := surfaceSpellsUptoRow.holds Tryz.pinned (OpenSpec.upto surfaceSpellsSpec)

end Rows
end Go.Proofs.YtnemldklhelbeaaGreat
