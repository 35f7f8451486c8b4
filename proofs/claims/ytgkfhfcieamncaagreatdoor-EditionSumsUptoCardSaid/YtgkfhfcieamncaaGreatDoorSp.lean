/- The closed facts of a row, one by one. Conditions: none. -/
import Derived.JoinedOf
import Derived.Test.YtgkfhfcieamncaaGreatDoorRows
import Derived.KernelRfl
import Derived.JoinedCond
set_option linter.unusedVariables false
set_option linter.unusedSimpArgs false
namespace Go.Am
open Go
theorem and_t {a b : Bool} (h : a = true) (g : b = true) : (a && b) = true := by rw [h, g]; rfl
def kindsB (P : Program) (fn : Func) (c : OpenClaim) : Bool := (c.kinds == (if c.domain.isEmpty then [] else fn.params.toList.map fun t => match P.underlying t with | some (.int k) => some k | _ => none))
theorem facts_of {P : Program} {f : FuncId} {fn : Func} {s : ChangeSpec} {c : OpenClaim}
    (k0 : c.wf (OpenSpec.ofChange s) = true)
    (k1 : laidOutB P = true)
    (k2 : mapsRowed P = true)
    (k3 : fn.params.all (P.readableRec ·) = true)
    (k4 : namedTie P c.named s.vars = true)
    (k5 : (c.stops == []) = true)
    (k6 : (P.stops == []) = true)
    (k7 : (c.knobs == []) = true)
    (k8 : (P.stopKnobs == []) = true)
    (k9 : (c.inPlace == P.inPlace f) = true)
    (k10 : (c.unfollowed == P.unfollowed f) = true)
    (k11 : (c.recurses == P.recurses f) = true)
    (k12 : (c.named == P.varsNamed f) = true)
    (k13 : (c.maps == (fn.params.toList ++ s.plain.varTypes P).any (P.mapsRec ·)) = true)
    (k14 : (c.ifaces == (fn.params.toList ++ s.plain.varTypes P).any (P.ifacesRec ·)) = true)
    (k15 : (c.mapsOut == P.mapsAmong fn.resultTypes.toList) = true)
    (k16 : (c.loops == (fn.params.toList ++ s.plain.varTypes P).any (P.loopsFrom ·)) = true)
    (k17 : (c.wideKeys == (fn.params.toList ++ s.plain.varTypes P ++ fn.resultTypes.toList).any (P.wideKeysFrom ·)) = true)
    (k18 : s.vars.all (P.varReadable ·) = true)
    (k19 : fn.resultTypes.all (fun t => P.readableRec t && decide (t < P.types.size)) = true)
    (k20 : (c.ifacesOut == fn.resultTypes.toList.any (P.ifacesRec ·)) = true)
    (k21 : (c.loopsOut == fn.resultTypes.toList.any (P.loopsFrom ·)) = true)
    (k22 : (c.plainKeys == P.plainKeys) = true)
    (k23 : c.shortTexts.isNone = true)
    (k24 : P.stopsHeard = true)
    (k25 : P.mayEnter = true)
    (k26 : (c.lifted == P.liftsFinal) = true)
    (k27 : (P.make == some c.make) = true)
    (k28 : kindsB P fn c = true)
    (k29 : (c.pinned == c.pinnedBy) = true)
    (k30 : (c.veiled == (fn.params.toList ++ s.plain.varTypes P ++ fn.resultTypes.toList).any (P.veiledRec ·)) = true)
    (k31 : c.veiledFits P fn.params.toList (fn.params.toList ++ s.plain.varTypes P ++ fn.resultTypes.toList) = true)
    : joinedFacts P f fn s c = true := by
  unfold joinedFacts
  exact and_t (and_t (and_t (and_t (and_t (and_t (and_t (and_t (and_t (and_t (and_t (and_t (and_t (and_t (and_t (and_t (and_t (and_t (and_t (and_t (and_t (and_t (and_t (and_t (and_t (and_t (and_t (and_t (and_t (and_t (and_t (k0) k1) k2) k3) k4) k5) k6) k7) k8) k9) k10) k11) k12) k13) k14) k15) k16) k17) k18) k19) k20) k21) k22) k23) k24) k25) k26) k27) k28) k29) k30) k31
end Go.Am
namespace Go.Proofs.YtgkfhfcieamncaaGreatDoor
open Go Go.Am Go.Proofs
namespace editionSums
theorem named : Tryz.prog.funcNamed "langdoc/langdoclaw57.EditionSums" = some 3 := by kernel_rfl
def clos : List FuncId := [3, 4, 11, 12, 13, 16, 48, 47, 88, 40, 60, 61, 94, 124, 79, 62, 95, 126, 170, 203, 236, 254, 255, 284, 204, 237, 257, 256, 171, 205, 238, 258, 285, 300, 286, 302, 301, 70, 104, 141, 154, 192, 225, 191, 223, 246, 224, 240, 267, 249, 247, 272, 278, 201, 273, 297, 274, 288, 289, 275, 298, 299, 305, 276, 277, 279, 280, 190, 172, 177, 210, 209, 208, 211, 175, 212, 239, 259, 260, 287, 261, 262, 290, 291, 303, 263, 264, 265, 266, 213, 168, 206, 99, 132, 81, 174, 207, 133, 178, 176, 125, 72, 107, 106, 169, 68, 202, 235, 64, 98, 131, 101, 134, 179, 214, 215, 241, 268, 135, 143, 63, 67, 96, 66, 97, 127, 129, 128, 130, 173, 65, 100, 42, 41, 69, 102, 136, 180, 137, 119, 159, 186, 221, 197, 232, 148, 149, 103, 139, 118, 157, 194, 230, 195, 231, 158, 196, 138, 140, 181, 182, 120, 160, 198, 199, 146, 185, 161, 183, 216, 217, 218, 242, 219, 243, 269, 270, 292, 244, 271, 293, 304, 306, 294, 295, 296, 43, 71, 74, 109, 147, 85, 110, 150, 105, 142, 108, 144, 145, 184, 220, 73, 75, 76, 111, 151, 188, 187, 78, 116, 155, 193, 226, 227, 248, 250, 228, 229, 251, 252, 281, 282, 112, 113, 152, 115, 114, 153, 189, 222, 245, 44, 77, 80, 45, 82, 117, 156, 84, 122, 123, 164, 165, 166, 167, 121, 162, 163, 200, 233, 234, 253, 283, 83, 37, 38, 5, 17, 19, 49, 90, 89, 31, 57, 91, 92, 18, 32, 58, 93, 20, 50, 51, 21, 22, 35, 23, 39, 59, 7, 9, 14, 15, 46, 86, 87, 6, 24, 25, 26, 33, 52, 27, 53, 54, 28, 29, 55, 36, 30, 56, 8, 34, 10]
theorem clos_eq : Tryz.prog.closure 3 = clos := by kernel_rfl
abbrev sp := (Rows.OpenSpec.upto Rows.editionSumsSpec).bare
abbrev rw_ := Rows.editionSumsUptoRow
theorem k0 : rw_.wf (OpenSpec.ofChange sp) = true := by kernel_rfl
theorem k1 : laidOutB Tryz.prog = true := by kernel_rfl
theorem k2 : mapsRowed Tryz.prog = true := by kernel_rfl
theorem k3 : Tryz.f3.params.all (Tryz.prog.readableRec ·) = true := by kernel_rfl
theorem k4 : namedTie Tryz.prog rw_.named sp.vars = true := by kernel_rfl
theorem k5 : (rw_.stops == []) = true := by kernel_rfl
theorem k6 : (Tryz.prog.stops == []) = true := by kernel_rfl
theorem k7 : (rw_.knobs == []) = true := by kernel_rfl
theorem k8 : (Tryz.prog.stopKnobs == []) = true := by kernel_rfl
theorem k9 : (rw_.inPlace == Tryz.prog.inPlace 3) = true := by
  unfold Program.inPlace
  rw [clos_eq]
  kernel_rfl
theorem k10 : (rw_.unfollowed == Tryz.prog.unfollowed 3) = true := by
  unfold Program.unfollowed
  rw [clos_eq]
  kernel_rfl
theorem k11 : (rw_.recurses == Tryz.prog.recurses 3) = true := by
  unfold Program.recurses Program.unfollowed
  rw [clos_eq]
  kernel_rfl
theorem k12 : (rw_.named == Tryz.prog.varsNamed 3) = true := by
  unfold Program.varsNamed
  rw [clos_eq]
  kernel_rfl
theorem k13 : (rw_.maps == (Tryz.f3.params.toList ++ sp.plain.varTypes Tryz.prog).any (Tryz.prog.mapsRec ·)) = true := by kernel_rfl
theorem k14 : (rw_.ifaces == (Tryz.f3.params.toList ++ sp.plain.varTypes Tryz.prog).any (Tryz.prog.ifacesRec ·)) = true := by kernel_rfl
theorem k15 : (rw_.mapsOut == Tryz.prog.mapsAmong Tryz.f3.resultTypes.toList) = true := by kernel_rfl
theorem k16 : (rw_.loops == (Tryz.f3.params.toList ++ sp.plain.varTypes Tryz.prog).any (Tryz.prog.loopsFrom ·)) = true := by kernel_rfl
theorem k17 : (rw_.wideKeys == (Tryz.f3.params.toList ++ sp.plain.varTypes Tryz.prog ++ Tryz.f3.resultTypes.toList).any (Tryz.prog.wideKeysFrom ·)) = true := by kernel_rfl
theorem k18 : sp.vars.all (Tryz.prog.varReadable ·) = true := by kernel_rfl
theorem k19 : Tryz.f3.resultTypes.all (fun t => Tryz.prog.readableRec t && decide (t < Tryz.prog.types.size)) = true := by kernel_rfl
theorem k20 : (rw_.ifacesOut == Tryz.f3.resultTypes.toList.any (Tryz.prog.ifacesRec ·)) = true := by kernel_rfl
theorem k21 : (rw_.loopsOut == Tryz.f3.resultTypes.toList.any (Tryz.prog.loopsFrom ·)) = true := by kernel_rfl
theorem k22 : (rw_.plainKeys == Tryz.prog.plainKeys) = true := by kernel_rfl
theorem k23 : rw_.shortTexts.isNone = true := by kernel_rfl
theorem k24 : Tryz.prog.stopsHeard = true := by kernel_rfl
theorem k25 : Tryz.prog.mayEnter = true := by kernel_rfl
theorem k26 : (rw_.lifted == Tryz.prog.liftsFinal) = true := by kernel_rfl
theorem k27 : (Tryz.prog.make == some rw_.make) = true := by kernel_rfl
theorem k28 : kindsB Tryz.prog Tryz.f3 rw_ = true := by kernel_rfl
theorem k29 : (rw_.pinned == rw_.pinnedBy) = true := by kernel_rfl
theorem k30 : (rw_.veiled == (Tryz.f3.params.toList ++ sp.plain.varTypes Tryz.prog ++ Tryz.f3.resultTypes.toList).any (Tryz.prog.veiledRec ·)) = true := by kernel_rfl
theorem k31 : rw_.veiledFits Tryz.prog Tryz.f3.params.toList (Tryz.f3.params.toList ++ sp.plain.varTypes Tryz.prog ++ Tryz.f3.resultTypes.toList) = true := by kernel_rfl
theorem facts : joinedFacts Tryz.pinned.checked.prog 3 Tryz.f3 (Rows.OpenSpec.upto Rows.editionSumsSpec).bare Rows.editionSumsUptoRow = true :=
  facts_of (P := Tryz.prog) (f := 3) (fn := Tryz.f3) (s := sp) (c := rw_) k0 k1 k2 k3 k4 k5 k6 k7 k8 k9 k10 k11 k12 k13 k14 k15 k16 k17 k18 k19 k20 k21 k22 k23 k24 k25 k26 k27 k28 k29 k30 k31
end editionSums
end Go.Proofs.YtgkfhfcieamncaaGreatDoor
