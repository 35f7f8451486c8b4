/- Functions that hold two data against each other. Conditions: none. -/
import Derived.Test.YtonebjbldlokmaaGreatPe
import Derived.Test.YtonebjbldlokmaaGreatUn
namespace Go.Proofs.YtonebjbldlokmaaGreat
open Go Go.Am Go.Proofs
attribute [local irreducible] Go.Am.wp Go.Am.TOp.eval
/- 7 langdoc/langdocref01.Same -/
theorem h7 {a b : D} (h_a : HasSh (.sl 3 1 (.int .i64)) a) (h_b : HasSh (.sl 3 1 (.int .i64)) b) : Holds EE 7 [a, b] (dB (deq a b)) := by
  refine u7 rfl (Goes.step' ?_)
  have i_a := isSl_of h_a
  have i_b := isSl_of h_b
  show wp _ _ _ u7T0 _
  refine wp_bindE (ρ' := [_, _, dI ((a.es.length : Nat) : Int)]) (sh_len i_a) rfl rfl ?_
  refine wp_bindE (ρ' := [_, _, _, dI ((b.es.length : Nat) : Int)]) (sh_len i_b) rfl rfl ?_
  refine wp_bindE (ρ' := [_, _, _, _, _]) sh_neq rfl rfl ?_
  refine wp_iteC rfl (fun c0 => ?_) (fun c0 => ?_)
  · have q0 := deq_len i_a i_b (len_ne c0)
    refine wp_retTo (d' := dB (false)) rfl (db_congr ?_)
    ((try simp only [deq_leaf, deq_agg, deqs_nil, deqs_cons, veq_int, veq_bool, veq_str] at q0 ⊢); grind)
  · have l_a_b := len_of c0
    refine wp_bindE (ρ' := [_, _, _, _, _, dI ((a.es.length : Nat) : Int)]) (sh_len i_a) rfl rfl ?_
    refine wp_jumpTo rfl ?_
    refine loop_eq2 (ρ := fun i1 => [a, b, dI ((a.es.length : Nat) : Int), dI ((i1 : Nat) : Int)]) i_a i_b l_a_b (fun q1 => ?_) ?_ (fun q1 => ?_)
    · ((try simp only [deq_leaf, deq_agg, deqs_nil, deqs_cons, veq_int, veq_bool, veq_str] at q1 ⊢); grind)
    · intro i1 x1 y1 e_x1 e_y1 hi1 hj1
      obtain ⟨x1, rfl⟩ := elem_of h_a e_x1
      obtain ⟨y1, rfl⟩ := elem_of h_b e_y1
      show wp _ _ _ u7T1 _
      refine wp_bindE (ρ' := [_, _, _, _, _]) sh_lss rfl rfl ?_
      refine wp_iteB rfl ?_
      rw [lt_true (show i1 < a.es.length by omega)]
      refine ite_t ?_
      refine wp_bindE (ρ' := [_, _, _, _, _, dB (true)]) (sh_inr e_x1) rfl rfl ?_
      refine wp_bindE (ρ' := [_, _, _, _, _, _, dI x1]) (sh_elem1 i_a e_x1 rfl) rfl rfl ?_
      refine wp_bindE (ρ' := [_, _, _, _, _, _, _, dB (true)]) (sh_inr e_y1) rfl rfl ?_
      refine wp_bindE (ρ' := [_, _, _, _, _, _, _, _, dI y1]) (sh_elem1 i_b e_y1 rfl) rfl rfl ?_
      refine wp_bindE (ρ' := [_, _, _, _, _, _, _, _, _, dB (x1 != y1)]) sh_neq rfl rfl ?_
      refine wp_iteC rfl (fun c2 => ?_) (fun c2 => ?_)
      · skip
        refine wp_retR rfl ?_
        clear hi1 hj1; ((try simp only [deq_leaf, deq_agg, deqs_nil, deqs_cons, veq_int, veq_bool, veq_str] at c2 ⊢); grind)
      · skip
        refine wp_bindE (ρ' := [_, _, _, _, _, _, _, _, _, _, dI ((i1 + 1 : Nat) : Int)]) (sh_add hj1) rfl rfl ?_
        refine wp_jumpR rfl ?_
        clear hi1 hj1; ((try simp only [deq_leaf, deq_agg, deqs_nil, deqs_cons, veq_int, veq_bool, veq_str] at c2 ⊢); grind)
    · show wp _ _ _ u7T1 _
      refine wp_bindE (ρ' := [_, _, _, _, _]) sh_lss rfl rfl ?_
      refine wp_iteB rfl ?_
      rw [lt_false]
      refine ite_f ?_
      refine wp_retTo (d' := dB (true)) rfl (db_congr ?_)
      ((try simp only [deq_leaf, deq_agg, deqs_nil, deqs_cons, veq_int, veq_bool, veq_str] at q1 ⊢); grind)
end Go.Proofs.YtonebjbldlokmaaGreat
