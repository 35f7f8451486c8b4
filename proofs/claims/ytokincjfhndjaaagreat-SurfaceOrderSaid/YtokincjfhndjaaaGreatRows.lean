/-
  No cell of these rows narrows 'for every input' (looked for: loops, veiled, ifaces, maps, wideKeys, modest, calm, conditions, laid).
  DERIVED. THE GIVEN ROWS OF THIS SEAT. 2 by the template 'for every input the law returns true; each argument reads behind the call as it read before'; 0 by the template 'total and deterministic' (their statements: YtokincjfhndjaaaGreatTotals.lean).
  GIVEN WITH THE SEED: the statements are not yours to turn. If you find one false, say at which input.
  Laid BY PROGRAM, IN A SANDBOX (cutbox-rows.mjs): the forced cells as the released guide's own fill.sh prints them over the translation a2fb347880b4f49c… (all of the seat's roots in one cut). By AI agents, Wed Nov 11 2026. No macro, syntax, notation, axiom, sorry.
-/
import Derived.Test.YtokincjfhndjaaaGreatChecked
import GoSem.Claim
import GoSem.ClaimJoined
import GoSem.ClaimMapViews
import Derived.JoinedTies
import Derived.KernelRfl
namespace Go.Proofs.YtokincjfhndjaaaGreat
/- THE CELL 'sum', in the pinned program and in every row, IS THE sha256 OF THE DUMP (.gsa) THAT YtokincjfhndjaaaGreatProg.lean LOADS. Nothing in Lean hashes anything: it is a label: what it is worth is what the hold of that sum in a sandbox is worth. -/
noncomputable def Tryz.pinned : Pinned := { name := "ytokincjfhndjaaagreat", sum := "a2fb347880b4f49c03c2f1c9ef3c83e2bb8b910ccfb165e7f6b18bcd30dd2d45", checked := Tryz.checked }
namespace Rows
def none {H : Type} : Left H := { results := [], args := [] }

/-- 'langdoclaw29.SurfaceLess': WHATEVER THE INPUT: true; the input reads as it did. -/
def surfaceLessSpec : ChangeSpec := { name := "surfaceLess", fn := fun _ => fun
  | [d1, d2] => { results := [.lit (.bool true)], args := [d1, d2] }
  | _ => none }
def surfaceLessRow : OpenClaim := { program := "ytokincjfhndjaaagreat", sum := "a2fb347880b4f49c03c2f1c9ef3c83e2bb8b910ccfb165e7f6b18bcd30dd2d45", func := "langdoc/langdoclaw29.SurfaceLess", spec := "surfaceLess", inPlace := ["internal/abi.NoEscape"], unfollowed := true, recurses := true, apart := false }
def SurfaceLessSaid : Prop := surfaceLessRow.holds Tryz.pinned (OpenSpec.ofChange surfaceLessSpec)

/-- ITS FALSE NEIGHBOUR: 'it returns false'. Refute it at one input. -/
def surfaceLessWrong : ChangeSpec := { name := "surfaceLess", fn := fun _ => fun
  | [d1, d2] => { results := [.lit (.bool false)], args := [d1, d2] }
  | _ => none }
def SurfaceLessWrongFalsely : Prop := surfaceLessRow.holds Tryz.pinned (OpenSpec.ofChange surfaceLessWrong)

/-- 'langdoclaw29.SurfaceOrder': WHATEVER THE INPUT: true; the input reads as it did. -/
def surfaceOrderSpec : ChangeSpec := { name := "surfaceOrder", fn := fun _ => fun
  | [d1, d2, d3] => { results := [.lit (.bool true)], args := [d1, d2, d3] }
  | _ => none }
def surfaceOrderRow : OpenClaim := { program := "ytokincjfhndjaaagreat", sum := "a2fb347880b4f49c03c2f1c9ef3c83e2bb8b910ccfb165e7f6b18bcd30dd2d45", func := "langdoc/langdoclaw29.SurfaceOrder", spec := "surfaceOrder", inPlace := ["internal/abi.NoEscape"], unfollowed := true, recurses := true, apart := false }
def SurfaceOrderSaid : Prop := surfaceOrderRow.holds Tryz.pinned (OpenSpec.ofChange surfaceOrderSpec)

/-- ITS FALSE NEIGHBOUR: 'it returns false'. Refute it at one input. -/
def surfaceOrderWrong : ChangeSpec := { name := "surfaceOrder", fn := fun _ => fun
  | [d1, d2, d3] => { results := [.lit (.bool false)], args := [d1, d2, d3] }
  | _ => none }
def SurfaceOrderWrongFalsely : Prop := surfaceOrderRow.holds Tryz.pinned (OpenSpec.ofChange surfaceOrderWrong)

/- THE SECOND FORM. 'bulk': how many values and letters a reading holds, each counted each time it is reached (what is shared counts as often as it is met; a slice's spare places count too). A statement '..UptoSaid' is the law's where the arguments, and the package variables that the reading takes, are together of bulk at most 1048576: NARROWER than '..Said'. Prove '..Said' where nothing that the law and all that it calls make is longer than what came in: it says more and counts as full. Else prove '..UptoSaid'. A law counts once. -/
mutual
def uptoBulk {H : Type} : DataW H → Nat
  | .lit (.string bytes) => bytes.length + 1
  | .lit _ => 1
  | .nil => 1
  | .ptr d => uptoBulk d + 1
  | .slice elems spare => uptoBulkAll elems + uptoBulkAll spare + 1
  | .agg parts => uptoBulkAll parts + 1
  | .iface _ d => uptoBulk d + 1
  | .map entries => uptoBulkEntries entries + 1
  | .held _ => 1
def uptoBulkAll {H : Type} : List (DataW H) → Nat
  | [] => 0
  | d :: r => uptoBulk d + uptoBulkAll r
def uptoBulkEntries {H : Type} : List (Lit × DataW H) → Nat
  | [] => 0
  | x :: r => uptoBulkEntry x + uptoBulkEntries r
def uptoBulkEntry {H : Type} : Lit × DataW H → Nat
  | (.string bytes, d) => bytes.length + uptoBulk d + 1
  | (_, d) => uptoBulk d + 1
 end
def uptoSmall : (H : Type) → List (DataW H) → Bool := fun _ ds => decide (uptoBulkAll ds ≤ 1048576)
def OpenSpec.upto (s : _root_.Go.ChangeSpec) : _root_.Go.OpenSpec := { _root_.Go.OpenSpec.ofChange s with cond := some uptoSmall }

/-- 'langdoclaw29.SurfaceLess', WHERE WHAT IT READS IS OF BULK AT MOST 1048576: true; the input reads as it did. -/
def surfaceLessUptoRow : OpenClaim := { program := "ytokincjfhndjaaagreat", sum := "a2fb347880b4f49c03c2f1c9ef3c83e2bb8b910ccfb165e7f6b18bcd30dd2d45", func := "langdoc/langdoclaw29.SurfaceLess", spec := "surfaceLess", inPlace := ["internal/abi.NoEscape"], unfollowed := true, recurses := true, apart := false, narrowed := true }
def SurfaceLessUptoSaid : Prop := surfaceLessUptoRow.holds Tryz.pinned (OpenSpec.upto surfaceLessSpec)

/-- 'langdoclaw29.SurfaceOrder', WHERE WHAT IT READS IS OF BULK AT MOST 1048576: true; the input reads as it did. -/
def surfaceOrderUptoRow : OpenClaim := { program := "ytokincjfhndjaaagreat", sum := "a2fb347880b4f49c03c2f1c9ef3c83e2bb8b910ccfb165e7f6b18bcd30dd2d45", func := "langdoc/langdoclaw29.SurfaceOrder", spec := "surfaceOrder", inPlace := ["internal/abi.NoEscape"], unfollowed := true, recurses := true, apart := false, narrowed := true }
def SurfaceOrderUptoSaid : Prop := surfaceOrderUptoRow.holds Tryz.pinned (OpenSpec.upto surfaceOrderSpec)

end Rows
end Go.Proofs.YtokincjfhndjaaaGreat
