/- SurfaceForms: for every input whose bulk is at most 1048576 it returns true, and each argument reads afterwards as before. Conditions: the bulk, as the given statement says. -/
import Derived.Test.YtnemldklhelbeaaGreatKd
set_option linter.unusedVariables false
set_option linter.unusedSimpArgs false
namespace Go.Proofs.YtnemldklhelbeaaGreat
open Go Go.Am Go.Proofs
open Go.ChangeShapes Go.WideShapes Go.ChangeAt Go.RowKit
namespace surfaceForms
set_option maxHeartbeats 4000000 in
theorem proved:Rows.SurfaceFormsUptoSaid :=
 OpenClaim.holds_of_cond 4 Tryz.f4 rfl rfl rfl rfl rfl rfl rfl ⟨rfl,rfl,rfl,rfl,rfl⟩ rfl rfl rfl rfl rfl qU4 Tryz.func4 facts
  (dT (by as_aux_lemma=>kernel_rfl)) (by unfold Func.isWrapper; first | (rw [if_pos (by decide +kernel)]; kernel_rfl) | (rw [if_neg (by decide +kernel)]; exact ⟨rfl,rfl⟩))
  (fun os started H enc _ F=>qSi os started H enc F)
end surfaceForms
#print axioms surfaceForms.proved
end Go.Proofs.YtnemldklhelbeaaGreat
