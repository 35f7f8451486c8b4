/- awake; what the law does. Conditions: none. -/
import Derived.Test.YtbmjdlgfnoaocaaGreatNh
import Derived.Test.YtbmjdlgfnoaocaaGreatOp
set_option linter.unusedVariables false
set_option linter.unusedSimpArgs false
namespace Go.Proofs.YtbmjdlgfnoaocaaGreat
open Go Go.Am Go.Proofs
theorem globs : Nat.ble Tryz.prog.globals.size 1000 = true := by kernel_rfl
theorem awake_there : ((envOf Tryz.prog).funcs.get 4).isSome = true := by kernel_rfl
theorem awake_run : isTrue (runF (envOf Tryz.prog) 1000000 (.call 4 []) (heap0 1000)) = true := by kernel_rfl
theorem h4 : Holds EE 4 [] (dB true) := holds_run good (Option.isSome_iff_exists.1 awake_there) globs awake_run
attribute [local irreducible] Go.Am.wp Go.Am.TOp.eval
theorem law3 {a b : D} {k : Int} (ha : HasSh ShL a) (hb : HasSh ShL b) : Holds EE 3 [a, b, dI k] (dB true) := by
  have i_a := isSl_of ha
  have i_b := isSl_of hb
  have i_k : (dI k).one = true := rfl
  refine u3 rfl (Goes.step' ?_)
  show wp _ _ _ u3T0 _
  refine wp_bindE (ρ' := [_, _, _, dI ((a.es.length : Nat) : Int)]) (sh_len i_a) rfl rfl ?_
  refine wp_bindE (ρ' := [_, _, _, _, dB (decide ((30 : Int) < ((a.es.length : Nat) : Int)))]) sk_gtr rfl rfl ?_
  refine wp_iteC rfl (fun c => ?_) (fun c => ?_)
  · skip
    refine wp_callE (ρ' := [_, _, _, _, _, dB (true)]) h4 rfl rfl rfl rfl ?_
    exact wp_retTo rfl rfl
  · have c1 := of_decide_eq_false c
    have la : a.es.length ≤ 30 := by omega
    refine wp_bindE (ρ' := [_, _, _, _, _, dI ((b.es.length : Nat) : Int)]) (sh_len i_b) rfl rfl ?_
    refine wp_bindE (ρ' := [_, _, _, _, _, _, dB (decide ((30 : Int) < ((b.es.length : Nat) : Int)))]) sk_gtr rfl rfl ?_
    refine wp_iteC rfl (fun d => ?_) (fun d => ?_)
    · skip
      refine wp_callE (ρ' := [_, _, _, _, _, _, _, dB (true)]) h4 rfl rfl rfl rfl ?_
      exact wp_retTo rfl rfl
    · have d1 := of_decide_eq_false d
      have lb : b.es.length ≤ 30 := by omega
      have k6 := h6 ha hb la lb
      have k7 := h7 ha hb la lb
      rw [rC_mk] at k6
      have hR : (R2 a (R1 a b [] a.es) b.es).length ≤ 1000000 := by
        rw [← ways]
        refine Nat.le_trans (cpN_len _ _) ?_
        rw [srt_len]
        refine Nat.le_trans (List.length_filter_le _ _) ?_
        rw [List.length_map, List.length_append]; omega
      have sM := mk_sh hR
      have k5 := h5 sM sM
      rw [deq_self _ _ sM] at k5
      have k8 := h8 (k := k) ha la
      have k9 := h9 (k := k) ha la
      have k10 := h10 ha hb
      have k11 := h11 ha hb
      generalize mkOut 50 2 ((R2 a (R1 a b [] a.es) b.es).map toP) = m at *
      have i_m := isSl_of sM
      generalize cn a k a.es.length = n at *
      generalize deq a b = e at *
      refine wp_callE (ρ' := [_, _, _, _, _, _, _, m]) k6 rfl rfl rfl rfl ?_
      refine wp_callE (ρ' := [_, _, _, _, _, _, _, _, m]) k7 rfl rfl rfl rfl ?_
      refine wp_callE (ρ' := [_, _, _, _, _, _, _, _, _, dB (true)]) k5 rfl rfl rfl rfl ?_
      refine wp_iteB (t := true) rfl ?_
      refine ite_t ?_
      refine wp_callE (ρ' := [_, _, _, _, _, _, _, _, _, _, dI ((n : Nat) : Int)]) k8 rfl rfl rfl rfl ?_
      refine wp_callE (ρ' := [_, _, _, _, _, _, _, _, _, _, _, dI ((n : Nat) : Int)]) k9 rfl rfl rfl rfl ?_
      refine wp_bindE (ρ' := [_, _, _, _, _, _, _, _, _, _, _, _, dB (decide (((n : Nat) : Int) = ((n : Nat) : Int)))]) sk_eql rfl rfl ?_
      refine wp_iteC rfl (fun f => ?_) (fun f => ?_)
      · skip
        refine wp_callE (ρ' := [_, _, _, _, _, _, _, _, _, _, _, _, _, dB (e)]) k10 rfl rfl rfl rfl ?_
        refine wp_callE (ρ' := [_, _, _, _, _, _, _, _, _, _, _, _, _, _, dB (e)]) k11 rfl rfl rfl rfl ?_
        refine wp_bindE (ρ' := [_, _, _, _, _, _, _, _, _, _, _, _, _, _, _, dB (e == e)]) (eqB e e) rfl rfl ?_
        refine wp_iteC rfl (fun g => ?_) (fun g => ?_)
        · skip
          refine wp_callE (ρ' := [_, _, _, _, _, _, _, _, _, _, _, _, _, _, _, _, dB (true)]) h4 rfl rfl rfl rfl ?_
          exact wp_retTo rfl rfl
        · cases e <;> cases g
      · exact absurd rfl (of_decide_eq_false f)
end Go.Proofs.YtbmjdlgfnoaocaaGreat
