/- SurfaceParts: for every input whose bulk is at most 1048576 it returns true, and each argument reads afterwards as before. Conditions: the bulk, as the given statement says. -/
import Derived.Test.YtonebjbldlokmaaGreatPl
namespace Go.Proofs.YtonebjbldlokmaaGreat
open Go Go.Am Go.Proofs
namespace surfaceParts
theorem proved : Rows.SurfacePartsUptoSaid :=
  OpenClaim.holds_of_cond 3 Tryz.f3 rfl rfl rfl rfl rfl rfl rfl ⟨rfl, rfl, rfl, rfl, rfl⟩ rfl rfl rfl rfl rfl (by as_aux_lemma => kernel_rfl) Tryz.func3 (by as_aux_lemma => kernel_rfl)
    (of_decide_eq_true (by as_aux_lemma => kernel_rfl)) (by unfold Func.isWrapper; first | (rw [if_pos (by decide +kernel)]; kernel_rfl) | (rw [if_neg (by decide +kernel)]; exact ⟨rfl, rfl⟩))
    (fun os started H enc _ F => lifted os started H enc F)
end surfaceParts
#print axioms surfaceParts.proved
end Go.Proofs.YtonebjbldlokmaaGreat
