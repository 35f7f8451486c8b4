/- The closed facts of a row, one by one. Conditions: none. -/
import Derived.JoinedOf
import Derived.Test.YtbkinfgpcjjaaaaGreatDoorRows
import Derived.KernelRfl
import Derived.JoinedCond
set_option linter.all false
namespace Go.Am
open Go
theorem and_t {a b : Bool} (h : a = true) (g : b = true) : (a && b) = true := by rw [h, g]; rfl
def kindsB (P : Program) (fn : Func) (c : OpenClaim) : Bool := (c.kinds == (if c.domain.isEmpty then [] else fn.params.toList.map fun t => match P.underlying t with | some (.int k) => some k | _ => none))
theorem facts_of {P : Program} {f : FuncId} {fn : Func} {s : ChangeSpec} {c : OpenClaim}
    (k0 : c.wf (OpenSpec.ofChange s) = true)
    (k1 : laidOutB P = true)
    (k2 : mapsRowed P = true)
    (k3 : fn.params.all (P.readableRec ·) = true)
    (k4 : namedTie P c.named s.vars = true)
    (k5 : (c.stops == []) = true)
    (k6 : (P.stops == []) = true)
    (k7 : (c.knobs == []) = true)
    (k8 : (P.stopKnobs == []) = true)
    (k9 : (c.inPlace == P.inPlace f) = true)
    (k10 : (c.unfollowed == P.unfollowed f) = true)
    (k11 : (c.recurses == P.recurses f) = true)
    (k12 : (c.named == P.varsNamed f) = true)
    (k13 : (c.maps == (fn.params.toList ++ s.plain.varTypes P).any (P.mapsRec ·)) = true)
    (k14 : (c.ifaces == (fn.params.toList ++ s.plain.varTypes P).any (P.ifacesRec ·)) = true)
    (k15 : (c.mapsOut == P.mapsAmong fn.resultTypes.toList) = true)
    (k16 : (c.loops == (fn.params.toList ++ s.plain.varTypes P).any (P.loopsFrom ·)) = true)
    (k17 : (c.wideKeys == (fn.params.toList ++ s.plain.varTypes P ++ fn.resultTypes.toList).any (P.wideKeysFrom ·)) = true)
    (k18 : s.vars.all (P.varReadable ·) = true)
    (k19 : fn.resultTypes.all (fun t => P.readableRec t && decide (t < P.types.size)) = true)
    (k20 : (c.ifacesOut == fn.resultTypes.toList.any (P.ifacesRec ·)) = true)
    (k21 : (c.loopsOut == fn.resultTypes.toList.any (P.loopsFrom ·)) = true)
    (k22 : (c.plainKeys == P.plainKeys) = true)
    (k23 : c.shortTexts.isNone = true)
    (k24 : P.stopsHeard = true)
    (k25 : P.mayEnter = true)
    (k26 : (c.lifted == P.liftsFinal) = true)
    (k27 : (P.make == some c.make) = true)
    (k28 : kindsB P fn c = true)
    (k29 : (c.pinned == c.pinnedBy) = true)
    (k30 : (c.veiled == (fn.params.toList ++ s.plain.varTypes P ++ fn.resultTypes.toList).any (P.veiledRec ·)) = true)
    (k31 : c.veiledFits P fn.params.toList (fn.params.toList ++ s.plain.varTypes P ++ fn.resultTypes.toList) = true)
    : joinedFacts P f fn s c = true := by
  unfold joinedFacts
  exact and_t (and_t (and_t (and_t (and_t (and_t (and_t (and_t (and_t (and_t (and_t (and_t (and_t (and_t (and_t (and_t (and_t (and_t (and_t (and_t (and_t (and_t (and_t (and_t (and_t (and_t (and_t (and_t (and_t (and_t (and_t (k0) k1) k2) k3) k4) k5) k6) k7) k8) k9) k10) k11) k12) k13) k14) k15) k16) k17) k18) k19) k20) k21) k22) k23) k24) k25) k26) k27) k28) k29) k30) k31
end Go.Am
namespace Go.Proofs.YtbkinfgpcjjaaaaGreatDoor
open Go Go.Am Go.Proofs
namespace editionChecks
theorem named : Tryz.prog.funcNamed "langdoc/langdoclaw57.EditionChecks" = some 3 := by kernel_rfl
def clos : List FuncId := [3, 4, 8, 21, 38, 88, 166, 232, 277, 278, 39, 89, 90, 91, 92, 40, 93, 167, 168, 233, 41, 94, 42, 95, 169, 48, 234, 235, 170, 236, 279, 105, 280, 171, 117, 177, 178, 96, 116, 43, 97, 98, 99, 101, 100, 44, 102, 103, 22, 45, 104, 172, 173, 174, 46, 106, 110, 108, 124, 47, 107, 109, 112, 111, 175, 237, 281, 238, 113, 23, 49, 114, 176, 24, 50, 115, 11, 25, 51, 52, 118, 179, 53, 119, 120, 122, 180, 121, 54, 123, 55, 125, 181, 9, 26, 10, 12, 5, 13, 14, 15, 6, 19, 18, 37, 30, 60, 61, 136, 187, 79, 62, 137, 189, 245, 283, 316, 334, 335, 364, 284, 317, 337, 336, 246, 285, 318, 338, 365, 380, 366, 382, 381, 70, 146, 204, 217, 267, 305, 266, 303, 326, 304, 320, 347, 329, 327, 352, 358, 276, 353, 377, 354, 368, 369, 355, 378, 379, 385, 356, 357, 359, 360, 265, 247, 252, 290, 289, 288, 291, 250, 292, 319, 339, 340, 367, 341, 342, 370, 371, 383, 343, 344, 345, 346, 293, 231, 286, 141, 195, 81, 249, 287, 196, 253, 251, 188, 72, 149, 148, 244, 68, 282, 315, 64, 140, 194, 143, 197, 254, 294, 295, 321, 348, 198, 206, 63, 67, 138, 66, 139, 190, 192, 191, 193, 248, 65, 142, 32, 31, 69, 144, 199, 255, 200, 161, 222, 261, 301, 272, 312, 211, 212, 145, 202, 160, 220, 269, 310, 270, 311, 221, 271, 201, 203, 256, 257, 162, 223, 273, 274, 209, 260, 224, 258, 296, 297, 298, 322, 299, 323, 349, 350, 372, 324, 351, 373, 384, 386, 374, 375, 376, 33, 71, 74, 151, 210, 85, 152, 213, 147, 205, 150, 207, 208, 259, 300, 73, 75, 76, 153, 214, 263, 262, 78, 158, 218, 268, 306, 307, 328, 330, 308, 309, 331, 332, 361, 362, 154, 155, 215, 157, 156, 216, 264, 302, 325, 34, 77, 80, 35, 82, 159, 219, 84, 164, 165, 227, 228, 229, 230, 163, 225, 226, 275, 313, 314, 333, 363, 83, 27, 28, 56, 126, 128, 182, 240, 239, 133, 185, 241, 242, 127, 134, 186, 243, 129, 183, 184, 130, 131, 135, 132, 29, 59, 57, 58, 16, 17, 36, 86, 87, 7, 20]
theorem clos_eq : Tryz.prog.closure 3 = clos := by kernel_rfl
abbrev sp := (Rows.OpenSpec.upto Rows.editionChecksSpec).bare
abbrev rw_ := Rows.editionChecksUptoRow
theorem k0 : rw_.wf (OpenSpec.ofChange sp) = true := by kernel_rfl
theorem k1 : laidOutB Tryz.prog = true := by kernel_rfl
theorem k2 : mapsRowed Tryz.prog = true := by kernel_rfl
theorem k3 : Tryz.f3.params.all (Tryz.prog.readableRec ·) = true := by kernel_rfl
theorem k4 : namedTie Tryz.prog rw_.named sp.vars = true := by kernel_rfl
theorem k5 : (rw_.stops == []) = true := by kernel_rfl
theorem k6 : (Tryz.prog.stops == []) = true := by kernel_rfl
theorem k7 : (rw_.knobs == []) = true := by kernel_rfl
theorem k8 : (Tryz.prog.stopKnobs == []) = true := by kernel_rfl
theorem k9 : (rw_.inPlace == Tryz.prog.inPlace 3) = true := by
  unfold Program.inPlace
  rw [clos_eq]
  kernel_rfl
theorem k10 : (rw_.unfollowed == Tryz.prog.unfollowed 3) = true := by
  unfold Program.unfollowed
  rw [clos_eq]
  kernel_rfl
theorem k11 : (rw_.recurses == Tryz.prog.recurses 3) = true := by
  unfold Program.recurses Program.unfollowed
  rw [clos_eq]
  kernel_rfl
theorem k12 : (rw_.named == Tryz.prog.varsNamed 3) = true := by
  unfold Program.varsNamed
  rw [clos_eq]
  kernel_rfl
theorem k13 : (rw_.maps == (Tryz.f3.params.toList ++ sp.plain.varTypes Tryz.prog).any (Tryz.prog.mapsRec ·)) = true := by kernel_rfl
theorem k14 : (rw_.ifaces == (Tryz.f3.params.toList ++ sp.plain.varTypes Tryz.prog).any (Tryz.prog.ifacesRec ·)) = true := by kernel_rfl
theorem k15 : (rw_.mapsOut == Tryz.prog.mapsAmong Tryz.f3.resultTypes.toList) = true := by kernel_rfl
theorem k16 : (rw_.loops == (Tryz.f3.params.toList ++ sp.plain.varTypes Tryz.prog).any (Tryz.prog.loopsFrom ·)) = true := by kernel_rfl
theorem k17 : (rw_.wideKeys == (Tryz.f3.params.toList ++ sp.plain.varTypes Tryz.prog ++ Tryz.f3.resultTypes.toList).any (Tryz.prog.wideKeysFrom ·)) = true := by kernel_rfl
theorem k18 : sp.vars.all (Tryz.prog.varReadable ·) = true := by kernel_rfl
theorem k19 : Tryz.f3.resultTypes.all (fun t => Tryz.prog.readableRec t && decide (t < Tryz.prog.types.size)) = true := by kernel_rfl
theorem k20 : (rw_.ifacesOut == Tryz.f3.resultTypes.toList.any (Tryz.prog.ifacesRec ·)) = true := by kernel_rfl
theorem k21 : (rw_.loopsOut == Tryz.f3.resultTypes.toList.any (Tryz.prog.loopsFrom ·)) = true := by kernel_rfl
theorem k22 : (rw_.plainKeys == Tryz.prog.plainKeys) = true := by kernel_rfl
theorem k23 : rw_.shortTexts.isNone = true := by kernel_rfl
theorem k24 : Tryz.prog.stopsHeard = true := by kernel_rfl
theorem k25 : Tryz.prog.mayEnter = true := by kernel_rfl
theorem k26 : (rw_.lifted == Tryz.prog.liftsFinal) = true := by kernel_rfl
theorem k27 : (Tryz.prog.make == some rw_.make) = true := by kernel_rfl
theorem k28 : kindsB Tryz.prog Tryz.f3 rw_ = true := by kernel_rfl
theorem k29 : (rw_.pinned == rw_.pinnedBy) = true := by kernel_rfl
theorem k30 : (rw_.veiled == (Tryz.f3.params.toList ++ sp.plain.varTypes Tryz.prog ++ Tryz.f3.resultTypes.toList).any (Tryz.prog.veiledRec ·)) = true := by kernel_rfl
theorem k31 : rw_.veiledFits Tryz.prog Tryz.f3.params.toList (Tryz.f3.params.toList ++ sp.plain.varTypes Tryz.prog ++ Tryz.f3.resultTypes.toList) = true := by kernel_rfl
theorem facts : joinedFacts Tryz.pinned.checked.prog 3 Tryz.f3 (Rows.OpenSpec.upto Rows.editionChecksSpec).bare Rows.editionChecksUptoRow = true :=
  facts_of (P := Tryz.prog) (f := 3) (fn := Tryz.f3) (s := sp) (c := rw_) k0 k1 k2 k3 k4 k5 k6 k7 k8 k9 k10 k11 k12 k13 k14 k15 k16 k17 k18 k19 k20 k21 k22 k23 k24 k25 k26 k27 k28 k29 k30 k31
end editionChecks
end Go.Proofs.YtbkinfgpcjjaaaaGreatDoor
