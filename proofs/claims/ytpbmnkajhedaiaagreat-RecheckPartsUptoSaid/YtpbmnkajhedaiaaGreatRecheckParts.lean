/- RecheckParts: for every input whose bulk is at most 1048576 it returns true, and each argument reads afterwards as before. Conditions: the bulk, as the given statement says. -/
import Derived.Test.YtpbmnkajhedaiaaGreatHr
import Derived.Test.YtpbmnkajhedaiaaGreatHg
set_option linter.all false
namespace Go.Proofs.YtpbmnkajhedaiaaGreat
open Go Go.Am Go.Proofs
open Go.ChangeShapes Go.WideShapes Go.ChangeAt Go.RowKit
namespace recheckParts
set_option maxHeartbeats 4000000 in
theorem proved:Rows.RecheckPartsUptoSaid:=
 OpenClaim.holds_of_cond 5 Tryz.f5 rfl rfl rfl rfl rfl rfl rfl ⟨rfl,rfl,rfl,rfl,rfl⟩ rfl rfl rfl rfl rfl qZO Tryz.func5 facts (dT (by as_aux_lemma=>kernel_rfl)) (by unfold Func.isWrapper;first|(rw[if_pos (by decide +kernel)];kernel_rfl)|(rw[if_neg (by decide +kernel)];exact⟨rfl,rfl⟩)) (λos h H enc _ F=>qWT os h H enc F)
end recheckParts
#print axioms recheckParts.proved
end Go.Proofs.YtpbmnkajhedaiaaGreat
