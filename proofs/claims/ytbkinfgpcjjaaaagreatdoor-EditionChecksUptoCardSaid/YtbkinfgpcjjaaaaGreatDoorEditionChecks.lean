/- EditionChecks: for every input whose bulk is at most 1048576 it returns true, and each argument reads afterwards as before. Conditions: the bulk, as the given statement says; the laid variables, tied to the text. -/
import Derived.Test.YtbkinfgpcjjaaaaGreatDoorEs
import Derived.Test.YtbkinfgpcjjaaaaGreatDoorEt
set_option linter.all false
namespace Go.Proofs.YtbkinfgpcjjaaaaGreatDoor
open Go Go.Am Go.Proofs
open Go.ChangeShapes Go.WideShapes Go.ChangeAt Go.RowKit
namespace editionChecks
set_option maxHeartbeats 4000000 in
theorem said : Rows.EditionChecksUptoSaid :=
  OpenClaim.holds_of_cond 3 Tryz.f3 rfl rfl rfl rfl rfl rfl rfl ⟨rfl, rfl, rfl, rfl, rfl⟩ rfl rfl rfl rfl rfl named Tryz.func3 facts
    (of_decide_eq_true (by as_aux_lemma => kernel_rfl)) (by unfold Func.isWrapper; first | (rw [if_pos (by decide +kernel)]; kernel_rfl) | (rw [if_neg (by decide +kernel)]; exact ⟨rfl, rfl⟩))
    (fun os started H enc _ F => (OpenClaim.pre_eq_preRow ..).symm ▸ lifted os started H enc F)
theorem proved : Rows.EditionChecksUptoCardSaid :=
  Claim7.holds_tied_plain_at .later [] [.data, .data, .data, .data, .pinned] true (true, "2fd4dd9c7805c858fcd82b2f48c9cec441ee72c75708e61c4e9bdebfa20b8766") false
    said (fun _ h => by cases h) (by as_aux_lemma => kernel_rfl) (fun _ h => by cases h) editionChecksUpto_row_tie rfl ⟨rfl, rfl⟩ (by as_aux_lemma => kernel_rfl) rfl
    (fun f fn hf hfn => by
      obtain rfl : f = 3 := Option.some.inj (named.symm.trans hf) |>.symm
      obtain rfl : fn = Tryz.f3 := (Option.some.inj (Tryz.func3.symm.trans hfn)).symm
      exact ⟨by kernel_rfl, fun j t ht => by
        rw [Tryz.params3] at ht
        have hall : ((#[47, 51] : Array TypeId).toList.all fun u => !Tryz.prog.wantsStandIn u) = true := by kernel_rfl
        have hm : t ∈ (#[47, 51] : Array TypeId).toList := by simpa using Array.mem_of_getElem? ht
        exact (show Tryz.prog.wantsStandIn t = false by simpa using List.all_eq_true.1 hall t hm)⟩)
    (by as_aux_lemma => kernel_rfl)
end editionChecks
#print axioms editionChecks.proved
end Go.Proofs.YtbkinfgpcjjaaaaGreatDoor
