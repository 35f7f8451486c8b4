/- WithdrawSames: for every input it returns true, and each argument reads afterwards as before. Conditions: none beyond the statement's own (its laid variables, tied to the text). -/
import Derived.Test.YtindbmgnapmdmaaGreatDoorWk
import Derived.Test.YtindbmgnapmdmaaGreatDoorWm
namespace Go.Proofs.YtindbmgnapmdmaaGreatDoor
open Go Go.Am Go.Proofs
open Go.ChangeShapes Go.WideShapes Go.ChangeAt Go.RowKit
theorem facts : joinedFacts Tryz.prog 3 Tryz.f3 Rows.withdrawSamesSpec Rows.withdrawSamesRow = true :=
  facts_of (P := Tryz.prog) (f := 3) (fn := Tryz.f3) (s := Rows.withdrawSamesSpec) (c := Rows.withdrawSamesRow) k0 k1 k2 k3 k4 k5 k6 k7 k8 k9 k10 k11 k12 k13 k14 k15 k16 k17 k18 k19 k20 k21 k22 k23 k24 k25 k26 k27 k28 k29 k30 k31
namespace withdrawSames
theorem named : Tryz.prog.funcNamed "langdoc/langdoclaw48.WithdrawSames" = some 3 := by kernel_rfl
set_option maxHeartbeats 4000000 in
theorem said : Rows.WithdrawSamesSaid :=
  OpenClaim.holds_of_wide 3 Tryz.f3 rfl rfl rfl rfl rfl rfl rfl ⟨rfl, rfl, rfl, rfl, rfl⟩ rfl rfl rfl rfl rfl named Tryz.func3 facts
    (of_decide_eq_true (by as_aux_lemma => kernel_rfl)) (by unfold Func.isWrapper; first | (rw [if_pos (by decide +kernel)]; kernel_rfl) | (rw [if_neg (by decide +kernel)]; exact ⟨rfl, rfl⟩))
    (fun os started H enc _ => lifted os started H enc)
theorem proved : Rows.WithdrawSamesCardSaid :=
  Claim7.holds_tied_plain_at .later [] [.data, .pinned] true (true, "5373c6576b3b5195046f5cc9f1953618d841445467d8ba2c29265b35dbfaf5f0") false
    said (fun _ h => by cases h) (by as_aux_lemma => kernel_rfl) (fun _ h => by cases h) withdrawSames_row_tie rfl ⟨rfl, rfl⟩ (by as_aux_lemma => kernel_rfl) rfl
    (fun f fn hf hfn => by
      obtain rfl : f = 3 := Option.some.inj (named.symm.trans hf) |>.symm
      obtain rfl : fn = Tryz.f3 := (Option.some.inj (Tryz.func3.symm.trans hfn)).symm
      exact ⟨by kernel_rfl, fun j t ht => by
        rw [Tryz.params3] at ht
        have hall : ((#[47, 47] : Array TypeId).toList.all fun u => !Tryz.prog.wantsStandIn u) = true := by kernel_rfl
        have hm : t ∈ (#[47, 47] : Array TypeId).toList := by simpa using Array.mem_of_getElem? ht
        exact (show Tryz.prog.wantsStandIn t = false by simpa using List.all_eq_true.1 hall t hm)⟩)
    (by as_aux_lemma => kernel_rfl)
end withdrawSames
#print axioms withdrawSames.proved
end Go.Proofs.YtindbmgnapmdmaaGreatDoor
