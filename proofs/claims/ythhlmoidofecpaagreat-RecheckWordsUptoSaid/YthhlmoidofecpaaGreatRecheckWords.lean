/- RecheckWords: for every input whose bulk is at most 1048576 it returns true, and each argument reads afterwards as before. Conditions: the bulk, as the given statement says. -/
import Derived.Test.YthhlmoidofecpaaGreatZk
import Derived.Test.YthhlmoidofecpaaGreatZl
set_option linter.unusedVariables false
set_option linter.unusedSimpArgs false
namespace Go.Proofs.YthhlmoidofecpaaGreat
open Go Go.Am Go.Proofs
open Go.ChangeShapes Go.WideShapes Go.ChangeAt Go.RowKit
namespace recheckWords
set_option maxHeartbeats 4000000 in
theorem proved:Rows.RecheckWordsUptoSaid :=
 OpenClaim.holds_of_cond 3 Tryz.f3 rfl rfl rfl rfl rfl rfl rfl ⟨rfl,rfl,rfl,rfl,rfl⟩ rfl rfl rfl rfl rfl qRS Tryz.func3 facts
  (dT (by as_aux_lemma=>kernel_rfl)) (by unfold Func.isWrapper; first | (rw [if_pos (by decide +kernel)]; kernel_rfl) | (rw [if_neg (by decide +kernel)]; exact ⟨rfl,rfl⟩))
  (fun os started H enc _ F=>qPL os started H enc F)
end recheckWords
#print axioms recheckWords.proved
end Go.Proofs.YthhlmoidofecpaaGreat
