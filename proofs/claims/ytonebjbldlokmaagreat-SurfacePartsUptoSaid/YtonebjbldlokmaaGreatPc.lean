/- Closed facts of the seat: conversions of numbers, division by constants. Conditions: none. -/
import Derived.Test.YtonebjbldlokmaaGreatPb
import Derived.Test.YtonebjbldlokmaaGreatUv
namespace Go.Proofs.YtonebjbldlokmaaGreat
open Go Go.Am Go.Proofs
theorem cv_5_3 (m : Int) : ∃ n : Int, TOp.eval EE (.conv 5 3) [.leaf (.int .u8 m)] = some (dI n) := ⟨IntKind.i64.wrap m, by kernel_rfl⟩
theorem cv_3_5 (m : Int) : ∃ n : Int, TOp.eval EE (.conv 3 5) [dI m] = some (.leaf (.int .u8 n)) := ⟨IntKind.u8.wrap m, by kernel_rfl⟩
theorem op_quo_3_64 (m : Int) {x y : Operand} : ∃ n : Int, TOp.eval EE (.bin .quo 3 x y) [dI m, dI ((64 : Nat) : Int)] = some (dI n) := ⟨IntKind.i64.wrap (m.tdiv 64), by kernel_rfl⟩
theorem op_quo_3_4096 (m : Int) {x y : Operand} : ∃ n : Int, TOp.eval EE (.bin .quo 3 x y) [dI m, dI ((4096 : Nat) : Int)] = some (dI n) := ⟨IntKind.i64.wrap (m.tdiv 4096), by kernel_rfl⟩
theorem op_quo_3_262144 (m : Int) {x y : Operand} : ∃ n : Int, TOp.eval EE (.bin .quo 3 x y) [dI m, dI ((262144 : Nat) : Int)] = some (dI n) := ⟨IntKind.i64.wrap (m.tdiv 262144), by kernel_rfl⟩
theorem op_rem_3_64 (m : Int) {x y : Operand} : ∃ n : Int, TOp.eval EE (.bin .rem 3 x y) [dI m, dI ((64 : Nat) : Int)] = some (dI n) := ⟨m.tmod 64, by kernel_rfl⟩
end Go.Proofs.YtonebjbldlokmaaGreat
namespace Go.Proofs.YtonebjbldlokmaaGreat
open Go Go.Am Go.Proofs
attribute [local irreducible] Go.Am.wp Go.Am.TOp.eval
theorem ty116 : eqTy EE.prog 4 116 = some [.int .i64, .int .i64] := by kernel_rfl
theorem st116 : isSt EE.prog 116 = true := by kernel_rfl
theorem gu116 : EE.prog.eqGuardType EE.prog.depth 116 = false := by kernel_rfl
/- 86 langdoc/langdocref10.Identifier -/
theorem t86 {a : D} (h_a : HasB 300000000 (.int .i64) a) : ∃ d, (HasB 300000000 (.bool)) d ∧ Holds EE 86 [a] d := by
  suffices h : ∃ d, (HasB 300000000 (.bool)) d ∧ Goes EE (Holds EE) u86Ts 0 [a] d by
    obtain ⟨d, hd, hg⟩ := h; exact ⟨d, hd, u86 rfl hg⟩
  obtain ⟨a, rfl⟩ := h_a
  refine goes_R (R := (HasB 300000000 (.bool))) ?_
  show wp _ _ _ u86T0 _
  refine wp_bindE (ρ' := [_, _]) sk_geq rfl rfl ?_
  refine wp_iteC rfl (fun c0 => ?_) (fun c0 => ?_)
  · replace c0 : (a) ≥ ((1 : Nat) : Int) := of_decide_eq_true c0
    refine wp_bindE (ρ' := [_, _, _]) sk_leq rfl rfl ?_
    exact wr_ret rfl hb_bool
  · replace c0 : ¬ ((a) ≥ ((1 : Nat) : Int)) := of_decide_eq_false c0
    exact wr_ret rfl hb_bool
/- 70 langdoc/langdocref16.Is -/
theorem t70 {a b : D} (h_a : HasB 300000000 (.st [.sl 79 2 (.st [.str, .int .i64])]) a) (h_b : HasB 300000000 (.int .i64) b) : ∃ d, (HasB 300000000 (.bool)) d ∧ Holds EE 70 [a, b] d := by
  suffices h : ∃ d, (HasB 300000000 (.bool)) d ∧ Goes EE (Holds EE) u70Ts 0 [a, b] d by
    obtain ⟨d, hd, hg⟩ := h; exact ⟨d, hd, u70 rfl hg⟩
  obtain ⟨_, rfl, a_0, _, rfl, h_a_0, rfl⟩ := h_a
  have i_a_0 := isSl_ofB h_a_0
  have b_a_0 := len_leB h_a_0
  obtain ⟨b, rfl⟩ := h_b
  refine goes_R (R := (HasB 300000000 (.bool))) ?_
  show wp _ _ _ u70T0 _
  refine wp_bindE (ρ' := [_, _, .agg [a_0]]) (sh_chkW rfl) rfl rfl ?_
  refine wp_bindE (ρ' := [_, _, _, _]) sk_geq rfl rfl ?_
  refine wp_iteC rfl (fun c0 => ?_) (fun c0 => ?_)
  · replace c0 : (b) ≥ ((1 : Nat) : Int) := of_decide_eq_true c0
    refine wp_bindE (ρ' := [_, _, _, _, a_0]) (sh_fld1 (off := 0) rfl i_a_0.one) rfl rfl ?_
    refine wp_bindE (ρ' := [_, _, _, _, _, dI ((a_0.es.length : Nat) : Int)]) (sh_len i_a_0) rfl rfl ?_
    refine wp_bindE (ρ' := [_, _, _, _, _, _, _]) sk_leq rfl rfl ?_
    exact wr_ret rfl hb_bool
  · replace c0 : ¬ ((b) ≥ ((1 : Nat) : Int)) := of_decide_eq_false c0
    exact wr_ret rfl hb_bool
/- 7 langdoc/langdocref01.Same -/
theorem t7 {a b : D} (h_a : HasB 300000000 (.sl 3 1 (.int .i64)) a) (h_b : HasB 300000000 (.sl 3 1 (.int .i64)) b) : ∃ d, (HasB 300000000 (.bool)) d ∧ Holds EE 7 [a, b] d := by
  suffices h : ∃ d, (HasB 300000000 (.bool)) d ∧ Goes EE (Holds EE) u7Ts 0 [a, b] d by
    obtain ⟨d, hd, hg⟩ := h; exact ⟨d, hd, u7 rfl hg⟩
  have i_a := isSl_ofB h_a
  have b_a := len_leB h_a
  have i_b := isSl_ofB h_b
  have b_b := len_leB h_b
  refine goes_R (R := (HasB 300000000 (.bool))) ?_
  show wp _ _ _ u7T0 _
  refine wp_bindE (ρ' := [_, _, dI ((a.es.length : Nat) : Int)]) (sh_len i_a) rfl rfl ?_
  refine wp_bindE (ρ' := [_, _, _, dI ((b.es.length : Nat) : Int)]) (sh_len i_b) rfl rfl ?_
  refine wp_bindE (ρ' := [_, _, _, _, _]) sk_neq rfl rfl ?_
  refine wp_iteC rfl (fun c0 => ?_) (fun c0 => ?_)
  · replace c0 : ¬ (((a.es.length : Nat) : Int) = ((b.es.length : Nat) : Int)) := of_decide_eq_true c0
    exact wr_ret rfl hb_bool
  · replace c0 : ¬ ¬ (((a.es.length : Nat) : Int) = ((b.es.length : Nat) : Int)) := of_decide_eq_false c0
    refine wp_bindE (ρ' := [_, _, _, _, _, dI ((a.es.length : Nat) : Int)]) (sh_len i_a) rfl rfl ?_
    refine wr_jump rfl (loop_up (P := fun i1 => i1 ≤ a.es.length → ∃ d, (HasB 300000000 (.bool)) d ∧ Goes EE (Holds EE) u7Ts 1 [a, b, dI ((a.es.length : Nat) : Int), dI ((i1 : Nat) : Int)] d) (a.es.length) (fun i1 ih1 => ?_) 0 (by omega))
    intro hn1
    refine goes_R (R := (HasB 300000000 (.bool))) ?_
    show wp _ _ _ u7T1 _
    refine wp_bindE (ρ' := [_, _, _, _, _]) sk_lss rfl rfl ?_
    refine wp_iteC rfl (fun c2 => ?_) (fun c2 => ?_)
    · replace c2 : ((i1 : Nat) : Int) < ((a.es.length : Nat) : Int) := of_decide_eq_true c2
      obtain ⟨x3, e_x3⟩ := get_at (d := a) (s := ((i1 : Nat) : Int)) (by omega) (by omega)
      obtain ⟨x3, rfl⟩ := (elem_ofB h_a e_x3)
      refine wp_bindE (ρ' := [_, _, _, _, _, dB (true)]) (si_inr (by omega) e_x3) rfl rfl ?_
      refine wp_bindE (ρ' := [_, _, _, _, _, _, dI (x3)]) (si_elem1 i_a (by omega) e_x3 rfl) rfl rfl ?_
      obtain ⟨x4, e_x4⟩ := get_at (d := b) (s := ((i1 : Nat) : Int)) (by omega) (by omega)
      obtain ⟨x4, rfl⟩ := (elem_ofB h_b e_x4)
      refine wp_bindE (ρ' := [_, _, _, _, _, _, _, dB (true)]) (si_inr (by omega) e_x4) rfl rfl ?_
      refine wp_bindE (ρ' := [_, _, _, _, _, _, _, _, dI (x4)]) (si_elem1 i_b (by omega) e_x4 rfl) rfl rfl ?_
      refine wp_bindE (ρ' := [_, _, _, _, _, _, _, _, _, _]) sk_neq rfl rfl ?_
      refine wp_iteC rfl (fun c5 => ?_) (fun c5 => ?_)
      · replace c5 : ¬ ((x3) = (x4)) := of_decide_eq_true c5
        exact wr_ret rfl hb_bool
      · replace c5 : ¬ ¬ ((x3) = (x4)) := of_decide_eq_false c5
        refine wp_bindE (ρ' := [_, _, _, _, _, _, _, _, _, _, dI ((i1 + 1 : Nat) : Int)]) (sh_add (cap_bd' (by omega))) rfl rfl ?_
        exact wr_jump rfl (ih1 (by omega) (by omega))
    · replace c2 : ¬ (((i1 : Nat) : Int) < ((a.es.length : Nat) : Int)) := of_decide_eq_false c2
      exact wr_ret rfl hb_bool
/- 47 langdoc/langdocref23.state -/
theorem t47 {a b : D} (h_a : HasB 300000000 (.st [.int .i64, .sl 85 3 (.st [.int .i64, .int .i64, .int .i64]), .sl 3 1 (.int .i64)]) a) (h_b : HasB 300000000 (.int .i64) b) : ∃ d, (HasB 300000000 (.bool)) d ∧ Holds EE 47 [a, b] d := by
  suffices h : ∃ d, (HasB 300000000 (.bool)) d ∧ Goes EE (Holds EE) u47Ts 0 [a, b] d by
    obtain ⟨d, hd, hg⟩ := h; exact ⟨d, hd, u47 rfl hg⟩
  obtain ⟨_, rfl, _, _, rfl, ⟨a_0, rfl⟩, a_1, _, rfl, h_a_1, a_2, _, rfl, h_a_2, rfl⟩ := h_a
  have i_a_1 := isSl_ofB h_a_1
  have b_a_1 := len_leB h_a_1
  have i_a_2 := isSl_ofB h_a_2
  have b_a_2 := len_leB h_a_2
  obtain ⟨b, rfl⟩ := h_b
  refine goes_R (R := (HasB 300000000 (.bool))) ?_
  show wp _ _ _ u47T0 _
  refine wp_bindE (ρ' := [_, _, .agg [dI (a_0), a_1, a_2]]) (sh_chkW rfl) rfl rfl ?_
  refine wp_bindE (ρ' := [_, _, _, _]) sk_geq rfl rfl ?_
  refine wp_iteC rfl (fun c0 => ?_) (fun c0 => ?_)
  · replace c0 : (b) ≥ ((0 : Nat) : Int) := of_decide_eq_true c0
    refine wp_bindE (ρ' := [_, _, _, _, dI (a_0)]) (sh_fld1 (off := 0) rfl rfl) rfl rfl ?_
    refine wp_bindE (ρ' := [_, _, _, _, _, _]) sk_lss rfl rfl ?_
    exact wr_ret rfl hb_bool
  · replace c0 : ¬ ((b) ≥ ((0 : Nat) : Int)) := of_decide_eq_false c0
    exact wr_ret rfl hb_bool
/- 50 langdoc/langdocref26.Inverse -/
theorem t50 {a : D} (h_a : HasB 300000000 (.int .i64) a) : ∃ d, (HasB 300000000 (.int .i64)) d ∧ Holds EE 50 [a] d := by
  suffices h : ∃ d, (HasB 300000000 (.int .i64)) d ∧ Goes EE (Holds EE) u50Ts 0 [a] d by
    obtain ⟨d, hd, hg⟩ := h; exact ⟨d, hd, u50 rfl hg⟩
  obtain ⟨a, rfl⟩ := h_a
  refine goes_R (R := (HasB 300000000 (.int .i64))) ?_
  show wp _ _ _ u50T0 _
  refine wp_bindE (ρ' := [_, _]) sk_eql rfl rfl ?_
  refine wp_iteC rfl (fun c0 => ?_) (fun c0 => ?_)
  · replace c0 : (a) = ((0 : Nat) : Int) := of_decide_eq_true c0
    exact wr_ret rfl hb_int
  · replace c0 : ¬ ((a) = ((0 : Nat) : Int)) := of_decide_eq_false c0
    refine wp_bindE (ρ' := [_, _, _]) sk_eql rfl rfl ?_
    refine wp_iteC rfl (fun c1 => ?_) (fun c1 => ?_)
    · replace c1 : (a) = ((1 : Nat) : Int) := of_decide_eq_true c1
      exact wr_ret rfl hb_int
    · replace c1 : ¬ ((a) = ((1 : Nat) : Int)) := of_decide_eq_false c1
      refine wp_bindE (ρ' := [_, _, _, _]) sk_eql rfl rfl ?_
      refine wp_iteC rfl (fun c2 => ?_) (fun c2 => ?_)
      · replace c2 : (a) = ((2 : Nat) : Int) := of_decide_eq_true c2
        exact wr_ret rfl hb_int
      · replace c2 : ¬ ((a) = ((2 : Nat) : Int)) := of_decide_eq_false c2
        refine wp_bindE (ρ' := [_, _, _, _, _]) sk_eql rfl rfl ?_
        refine wp_iteC rfl (fun c3 => ?_) (fun c3 => ?_)
        · replace c3 : (a) = ((3 : Nat) : Int) := of_decide_eq_true c3
          exact wr_ret rfl hb_int
        · replace c3 : ¬ ((a) = ((3 : Nat) : Int)) := of_decide_eq_false c3
          refine wp_bindE (ρ' := [_, _, _, _, _, _]) sk_eql rfl rfl ?_
          refine wp_iteC rfl (fun c4 => ?_) (fun c4 => ?_)
          · replace c4 : (a) = ((4 : Nat) : Int) := of_decide_eq_true c4
            exact wr_ret rfl hb_int
          · replace c4 : ¬ ((a) = ((4 : Nat) : Int)) := of_decide_eq_false c4
            refine wp_bindE (ρ' := [_, _, _, _, _, _, _]) sk_eql rfl rfl ?_
            refine wp_iteC rfl (fun c5 => ?_) (fun c5 => ?_)
            · replace c5 : (a) = ((5 : Nat) : Int) := of_decide_eq_true c5
              exact wr_ret rfl hb_int
            · replace c5 : ¬ ((a) = ((5 : Nat) : Int)) := of_decide_eq_false c5
              exact wr_ret rfl hb_int
/- 96 langdoc/langdocref02.Scalar -/
theorem t96 {a : D} (h_a : HasB 300000000 (.int .i64) a) : ∃ d, (HasB 300000000 (.bool)) d ∧ Holds EE 96 [a] d := by
  suffices h : ∃ d, (HasB 300000000 (.bool)) d ∧ Goes EE (Holds EE) u96Ts 0 [a] d by
    obtain ⟨d, hd, hg⟩ := h; exact ⟨d, hd, u96 rfl hg⟩
  obtain ⟨a, rfl⟩ := h_a
  refine goes_R (R := (HasB 300000000 (.bool))) ?_
  show wp _ _ _ u96T0 _
  refine wp_bindE (ρ' := [_, _]) sk_geq rfl rfl ?_
  refine wp_iteC rfl (fun c0 => ?_) (fun c0 => ?_)
  · replace c0 : (a) ≥ ((0 : Nat) : Int) := of_decide_eq_true c0
    refine wp_bindE (ρ' := [_, _, _]) sk_leq rfl rfl ?_
    refine wp_iteC rfl (fun c1 => ?_) (fun c1 => ?_)
    · replace c1 : (a) ≤ ((1114111 : Nat) : Int) := of_decide_eq_true c1
      refine wp_bindE (ρ' := [_, _, _, _]) sk_lss rfl rfl ?_
      refine wp_iteC rfl (fun c2 => ?_) (fun c2 => ?_)
      · replace c2 : (a) < ((55296 : Nat) : Int) := of_decide_eq_true c2
        exact wr_ret rfl hb_bool
      · replace c2 : ¬ ((a) < ((55296 : Nat) : Int)) := of_decide_eq_false c2
        refine wp_bindE (ρ' := [_, _, _, _, _]) sk_gtr rfl rfl ?_
        exact wr_ret rfl hb_bool
    · replace c1 : ¬ ((a) ≤ ((1114111 : Nat) : Int)) := of_decide_eq_false c1
      exact wr_ret rfl hb_bool
  · replace c0 : ¬ ((a) ≥ ((0 : Nat) : Int)) := of_decide_eq_false c0
    exact wr_ret rfl hb_bool
/- 42 langdoc/langdocref10.Name -/
theorem t42 {a : D} (h_a : HasB 300000000 (.str) a) : ∃ d, (HasB 300000000 (.bool)) d ∧ Holds EE 42 [a] d := by
  suffices h : ∃ d, (HasB 300000000 (.bool)) d ∧ Goes EE (Holds EE) u42Ts 0 [a] d by
    obtain ⟨d, hd, hg⟩ := h; exact ⟨d, hd, u42 rfl hg⟩
  obtain ⟨a, rfl, hs_a⟩ := h_a
  refine goes_R (R := (HasB 300000000 (.bool))) ?_
  show wp _ _ _ u42T0 _
  refine wr_jump rfl (loop_up (P := fun i0 => i0 ≤ a.size → ∃ d, (HasB 300000000 (.bool)) d ∧ Goes EE (Holds EE) u42Ts 1 [.leaf (.string a), dI ((i0 : Nat) : Int)] d) (a.size) (fun i0 ih0 => ?_) 0 (by omega))
  intro hn0
  refine goes_R (R := (HasB 300000000 (.bool))) ?_
  show wp _ _ _ u42T1 _
  refine wp_bindE (ρ' := [_, _, dI ((a.size : Nat) : Int)]) ss_len rfl rfl ?_
  refine wp_bindE (ρ' := [_, _, _, _]) sk_lss rfl rfl ?_
  refine wp_iteC rfl (fun c1 => ?_) (fun c1 => ?_)
  · replace c1 : ((i0 : Nat) : Int) < ((a.size : Nat) : Int) := of_decide_eq_true c1
    obtain ⟨w2, p2, q2, ew2⟩ := ss_chr (E := EE) (s := a) (i := ((i0 : Nat) : Int)) (by omega) (by omega)
    refine wp_bindE (ρ' := [_, _, _, _, .leaf (.int .u8 (w2))]) ew2 rfl rfl ?_
    refine wp_bindE (ρ' := [_, _, _, _, _, _]) sk_geq rfl rfl ?_
    refine wp_iteC rfl (fun c3 => ?_) (fun c3 => ?_)
    · replace c3 : (w2) ≥ (97) := of_decide_eq_true c3
      obtain ⟨w4, p4, q4, ew4⟩ := ss_chr (E := EE) (s := a) (i := ((i0 : Nat) : Int)) (by omega) (by omega)
      refine wp_bindE (ρ' := [_, _, _, _, _, _, .leaf (.int .u8 (w4))]) ew4 rfl rfl ?_
      refine wp_bindE (ρ' := [_, _, _, _, _, _, _, _]) sk_leq rfl rfl ?_
      refine wp_bindE (ρ' := [_, _, _, _, _, _, _, _, dB (_)]) sh_not rfl rfl ?_
      refine wp_iteC rfl (fun c5 => ?_) (fun c5 => ?_)
      · clear c5
        refine wp_bindE (ρ' := [_, _, _, _, _, _, _, _, _, _]) sk_eql rfl rfl ?_
        refine wp_iteC rfl (fun c6 => ?_) (fun c6 => ?_)
        · replace c6 : ((i0 : Nat) : Int) = ((0 : Nat) : Int) := of_decide_eq_true c6
          exact wr_ret rfl hb_bool
        · replace c6 : ¬ (((i0 : Nat) : Int) = ((0 : Nat) : Int)) := of_decide_eq_false c6
          obtain ⟨w7, p7, q7, ew7⟩ := ss_chr (E := EE) (s := a) (i := ((i0 : Nat) : Int)) (by omega) (by omega)
          refine wp_bindE (ρ' := [_, _, _, _, _, _, _, _, _, _, .leaf (.int .u8 (w7))]) ew7 rfl rfl ?_
          refine wp_bindE (ρ' := [_, _, _, _, _, _, _, _, _, _, _, _]) sk_neq rfl rfl ?_
          refine wp_iteC rfl (fun c8 => ?_) (fun c8 => ?_)
          · replace c8 : ¬ ((w7) = (45)) := of_decide_eq_true c8
            obtain ⟨w9, p9, q9, ew9⟩ := ss_chr (E := EE) (s := a) (i := ((i0 : Nat) : Int)) (by omega) (by omega)
            refine wp_bindE (ρ' := [_, _, _, _, _, _, _, _, _, _, _, _, .leaf (.int .u8 (w9))]) ew9 rfl rfl ?_
            refine wp_bindE (ρ' := [_, _, _, _, _, _, _, _, _, _, _, _, _, _]) sk_neq rfl rfl ?_
            refine wp_iteC rfl (fun c10 => ?_) (fun c10 => ?_)
            · replace c10 : ¬ ((w9) = (95)) := of_decide_eq_true c10
              obtain ⟨w11, p11, q11, ew11⟩ := ss_chr (E := EE) (s := a) (i := ((i0 : Nat) : Int)) (by omega) (by omega)
              refine wp_bindE (ρ' := [_, _, _, _, _, _, _, _, _, _, _, _, _, _, .leaf (.int .u8 (w11))]) ew11 rfl rfl ?_
              refine wp_bindE (ρ' := [_, _, _, _, _, _, _, _, _, _, _, _, _, _, _, _]) sk_lss rfl rfl ?_
              refine wp_iteC rfl (fun c12 => ?_) (fun c12 => ?_)
              · replace c12 : (w11) < (48) := of_decide_eq_true c12
                exact wr_ret rfl hb_bool
              · replace c12 : ¬ ((w11) < (48)) := of_decide_eq_false c12
                obtain ⟨w13, p13, q13, ew13⟩ := ss_chr (E := EE) (s := a) (i := ((i0 : Nat) : Int)) (by omega) (by omega)
                refine wp_bindE (ρ' := [_, _, _, _, _, _, _, _, _, _, _, _, _, _, _, _, .leaf (.int .u8 (w13))]) ew13 rfl rfl ?_
                refine wp_bindE (ρ' := [_, _, _, _, _, _, _, _, _, _, _, _, _, _, _, _, _, _]) sk_gtr rfl rfl ?_
                refine wp_iteC rfl (fun c14 => ?_) (fun c14 => ?_)
                · replace c14 : (w13) > (57) := of_decide_eq_true c14
                  exact wr_ret rfl hb_bool
                · replace c14 : ¬ ((w13) > (57)) := of_decide_eq_false c14
                  refine wp_bindE (ρ' := [_, _, _, _, _, _, _, _, _, _, _, _, _, _, _, _, _, _, dI ((i0 + 1 : Nat) : Int)]) (sh_add (cap_bd' (by omega))) rfl rfl ?_
                  exact wr_jump rfl (ih0 (by omega) (by omega))
            · replace c10 : ¬ ¬ ((w9) = (95)) := of_decide_eq_false c10
              refine wp_bindE (ρ' := [_, _, _, _, _, _, _, _, _, _, _, _, _, _, dI ((i0 + 1 : Nat) : Int)]) (sh_add (cap_bd' (by omega))) rfl rfl ?_
              exact wr_jump rfl (ih0 (by omega) (by omega))
          · replace c8 : ¬ ¬ ((w7) = (45)) := of_decide_eq_false c8
            refine wp_bindE (ρ' := [_, _, _, _, _, _, _, _, _, _, _, _, dI ((i0 + 1 : Nat) : Int)]) (sh_add (cap_bd' (by omega))) rfl rfl ?_
            exact wr_jump rfl (ih0 (by omega) (by omega))
      · clear c5
        refine wp_bindE (ρ' := [_, _, _, _, _, _, _, _, _, dI ((i0 + 1 : Nat) : Int)]) (sh_add (cap_bd' (by omega))) rfl rfl ?_
        exact wr_jump rfl (ih0 (by omega) (by omega))
    · replace c3 : ¬ ((w2) ≥ (97)) := of_decide_eq_false c3
      refine wp_bindE (ρ' := [_, _, _, _, _, _, _]) sk_eql rfl rfl ?_
      refine wp_iteC rfl (fun c4 => ?_) (fun c4 => ?_)
      · replace c4 : ((i0 : Nat) : Int) = ((0 : Nat) : Int) := of_decide_eq_true c4
        exact wr_ret rfl hb_bool
      · replace c4 : ¬ (((i0 : Nat) : Int) = ((0 : Nat) : Int)) := of_decide_eq_false c4
        obtain ⟨w5, p5, q5, ew5⟩ := ss_chr (E := EE) (s := a) (i := ((i0 : Nat) : Int)) (by omega) (by omega)
        refine wp_bindE (ρ' := [_, _, _, _, _, _, _, .leaf (.int .u8 (w5))]) ew5 rfl rfl ?_
        refine wp_bindE (ρ' := [_, _, _, _, _, _, _, _, _]) sk_neq rfl rfl ?_
        refine wp_iteC rfl (fun c6 => ?_) (fun c6 => ?_)
        · replace c6 : ¬ ((w5) = (45)) := of_decide_eq_true c6
          obtain ⟨w7, p7, q7, ew7⟩ := ss_chr (E := EE) (s := a) (i := ((i0 : Nat) : Int)) (by omega) (by omega)
          refine wp_bindE (ρ' := [_, _, _, _, _, _, _, _, _, .leaf (.int .u8 (w7))]) ew7 rfl rfl ?_
          refine wp_bindE (ρ' := [_, _, _, _, _, _, _, _, _, _, _]) sk_neq rfl rfl ?_
          refine wp_iteC rfl (fun c8 => ?_) (fun c8 => ?_)
          · replace c8 : ¬ ((w7) = (95)) := of_decide_eq_true c8
            obtain ⟨w9, p9, q9, ew9⟩ := ss_chr (E := EE) (s := a) (i := ((i0 : Nat) : Int)) (by omega) (by omega)
            refine wp_bindE (ρ' := [_, _, _, _, _, _, _, _, _, _, _, .leaf (.int .u8 (w9))]) ew9 rfl rfl ?_
            refine wp_bindE (ρ' := [_, _, _, _, _, _, _, _, _, _, _, _, _]) sk_lss rfl rfl ?_
            refine wp_iteC rfl (fun c10 => ?_) (fun c10 => ?_)
            · replace c10 : (w9) < (48) := of_decide_eq_true c10
              exact wr_ret rfl hb_bool
            · replace c10 : ¬ ((w9) < (48)) := of_decide_eq_false c10
              obtain ⟨w11, p11, q11, ew11⟩ := ss_chr (E := EE) (s := a) (i := ((i0 : Nat) : Int)) (by omega) (by omega)
              refine wp_bindE (ρ' := [_, _, _, _, _, _, _, _, _, _, _, _, _, .leaf (.int .u8 (w11))]) ew11 rfl rfl ?_
              refine wp_bindE (ρ' := [_, _, _, _, _, _, _, _, _, _, _, _, _, _, _]) sk_gtr rfl rfl ?_
              refine wp_iteC rfl (fun c12 => ?_) (fun c12 => ?_)
              · replace c12 : (w11) > (57) := of_decide_eq_true c12
                exact wr_ret rfl hb_bool
              · replace c12 : ¬ ((w11) > (57)) := of_decide_eq_false c12
                refine wp_bindE (ρ' := [_, _, _, _, _, _, _, _, _, _, _, _, _, _, _, dI ((i0 + 1 : Nat) : Int)]) (sh_add (cap_bd' (by omega))) rfl rfl ?_
                exact wr_jump rfl (ih0 (by omega) (by omega))
          · replace c8 : ¬ ¬ ((w7) = (95)) := of_decide_eq_false c8
            refine wp_bindE (ρ' := [_, _, _, _, _, _, _, _, _, _, _, dI ((i0 + 1 : Nat) : Int)]) (sh_add (cap_bd' (by omega))) rfl rfl ?_
            exact wr_jump rfl (ih0 (by omega) (by omega))
        · replace c6 : ¬ ¬ ((w5) = (45)) := of_decide_eq_false c6
          refine wp_bindE (ρ' := [_, _, _, _, _, _, _, _, _, dI ((i0 + 1 : Nat) : Int)]) (sh_add (cap_bd' (by omega))) rfl rfl ?_
          exact wr_jump rfl (ih0 (by omega) (by omega))
  · replace c1 : ¬ (((i0 : Nat) : Int) < ((a.size : Nat) : Int)) := of_decide_eq_false c1
    refine wp_bindE (ρ' := [_, _, _, _, dI ((a.size : Nat) : Int)]) ss_len rfl rfl ?_
    refine wp_bindE (ρ' := [_, _, _, _, _, _]) sk_geq rfl rfl ?_
    refine wp_iteC rfl (fun c2 => ?_) (fun c2 => ?_)
    · replace c2 : ((a.size : Nat) : Int) ≥ ((1 : Nat) : Int) := of_decide_eq_true c2
      refine wp_bindE (ρ' := [_, _, _, _, _, _, dI ((a.size : Nat) : Int)]) ss_len rfl rfl ?_
      refine wp_bindE (ρ' := [_, _, _, _, _, _, _, _]) sk_leq rfl rfl ?_
      exact wr_ret rfl hb_bool
    · replace c2 : ¬ (((a.size : Nat) : Int) ≥ ((1 : Nat) : Int)) := of_decide_eq_false c2
      exact wr_ret rfl hb_bool
/- 45 langdoc/langdocref17.has -/
theorem t45 {a b : D} (h_a : HasB 300000000 (.sl 9 1 (.str)) a) (h_b : HasB 300000000 (.str) b) : ∃ d, (HasB 300000000 (.bool)) d ∧ Holds EE 45 [a, b] d := by
  suffices h : ∃ d, (HasB 300000000 (.bool)) d ∧ Goes EE (Holds EE) u45Ts 0 [a, b] d by
    obtain ⟨d, hd, hg⟩ := h; exact ⟨d, hd, u45 rfl hg⟩
  have i_a := isSl_ofB h_a
  have b_a := len_leB h_a
  obtain ⟨b, rfl, hs_b⟩ := h_b
  refine goes_R (R := (HasB 300000000 (.bool))) ?_
  show wp _ _ _ u45T0 _
  refine wr_jump rfl (loop_up (P := fun i0 => i0 ≤ a.es.length → ∃ d, (HasB 300000000 (.bool)) d ∧ Goes EE (Holds EE) u45Ts 1 [a, .leaf (.string b), dI ((i0 : Nat) : Int)] d) (a.es.length) (fun i0 ih0 => ?_) 0 (by omega))
  intro hn0
  refine goes_R (R := (HasB 300000000 (.bool))) ?_
  show wp _ _ _ u45T1 _
  refine wp_bindE (ρ' := [_, _, _, dI ((a.es.length : Nat) : Int)]) (sh_len i_a) rfl rfl ?_
  refine wp_bindE (ρ' := [_, _, _, _, _]) sk_lss rfl rfl ?_
  refine wp_iteC rfl (fun c1 => ?_) (fun c1 => ?_)
  · replace c1 : ((i0 : Nat) : Int) < ((a.es.length : Nat) : Int) := of_decide_eq_true c1
    obtain ⟨x2, e_x2⟩ := get_at (d := a) (s := ((i0 : Nat) : Int)) (by omega) (by omega)
    obtain ⟨x2, rfl, hs_x2⟩ := (elem_ofB h_a e_x2)
    refine wp_bindE (ρ' := [_, _, _, _, _, dB (true)]) (si_inr (by omega) e_x2) rfl rfl ?_
    refine wp_bindE (ρ' := [_, _, _, _, _, _, .leaf (.string x2)]) (si_elem1 i_a (by omega) e_x2 rfl) rfl rfl ?_
    refine wp_bindE (ρ' := [_, _, _, _, _, _, _, dB (x2 == b)]) sh_strE rfl rfl ?_
    refine wp_iteC rfl (fun c3 => ?_) (fun c3 => ?_)
    · clear c3
      exact wr_ret rfl hb_bool
    · clear c3
      refine wp_bindE (ρ' := [_, _, _, _, _, _, _, _, dI ((i0 + 1 : Nat) : Int)]) (sh_add (cap_bd' (by omega))) rfl rfl ?_
      exact wr_jump rfl (ih0 (by omega) (by omega))
  · replace c1 : ¬ (((i0 : Nat) : Int) < ((a.es.length : Nat) : Int)) := of_decide_eq_false c1
    exact wr_ret rfl hb_bool
/- 51 langdoc/langdocref26.find -/
theorem t51 {a b : D} (h_a : HasB 300000000 (.sl 66 8 (.st [.int .i64, .sl 3 1 (.int .i64), .int .i64, .sl 31 1 (.sl 3 1 (.int .i64)), .int .i64, .sl 87 2 (.st [.str, .str]), .sl 116 2 (.st [.int .i64, .int .i64]), .sl 166 2 (.st [.int .i64, .int .i64])])) a) (h_b : HasB 300000000 (.int .i64) b) : ∃ d, (fun d => ∃ n : Int, d = dI n ∧ -1 ≤ n ∧ n < (a.es.length : Int)) d ∧ Holds EE 51 [a, b] d := by
  suffices h : ∃ d, (fun d => ∃ n : Int, d = dI n ∧ -1 ≤ n ∧ n < (a.es.length : Int)) d ∧ Goes EE (Holds EE) u51Ts 0 [a, b] d by
    obtain ⟨d, hd, hg⟩ := h; exact ⟨d, hd, u51 rfl hg⟩
  have i_a := isSl_ofB h_a
  have b_a := len_leB h_a
  obtain ⟨b, rfl⟩ := h_b
  refine goes_R (R := (fun d => ∃ n : Int, d = dI n ∧ -1 ≤ n ∧ n < (a.es.length : Int))) ?_
  show wp _ _ _ u51T0 _
  refine wr_jump rfl (loop_up (P := fun i0 => i0 ≤ a.es.length → ∃ d, (fun d => ∃ n : Int, d = dI n ∧ -1 ≤ n ∧ n < (a.es.length : Int)) d ∧ Goes EE (Holds EE) u51Ts 1 [a, dI (b), dI ((i0 : Nat) : Int)] d) (a.es.length) (fun i0 ih0 => ?_) 0 (by omega))
  intro hn0
  refine goes_R (R := (fun d => ∃ n : Int, d = dI n ∧ -1 ≤ n ∧ n < (a.es.length : Int))) ?_
  show wp _ _ _ u51T1 _
  refine wp_bindE (ρ' := [_, _, _, dI ((a.es.length : Nat) : Int)]) (sh_len i_a) rfl rfl ?_
  refine wp_bindE (ρ' := [_, _, _, _, _]) sk_lss rfl rfl ?_
  refine wp_iteC rfl (fun c1 => ?_) (fun c1 => ?_)
  · replace c1 : ((i0 : Nat) : Int) < ((a.es.length : Nat) : Int) := of_decide_eq_true c1
    obtain ⟨x2, e_x2⟩ := get_at (d := a) (s := ((i0 : Nat) : Int)) (by omega) (by omega)
    obtain ⟨_, rfl, _, _, rfl, ⟨x2_0, rfl⟩, x2_1, _, rfl, h_x2_1, _, _, rfl, ⟨x2_2, rfl⟩, x2_3, _, rfl, h_x2_3, _, _, rfl, ⟨x2_4, rfl⟩, x2_5, _, rfl, h_x2_5, x2_6, _, rfl, h_x2_6, x2_7, _, rfl, h_x2_7, rfl⟩ := (elem_ofB h_a e_x2)
    have i_x2_1 := isSl_ofB h_x2_1
    have b_x2_1 := len_leB h_x2_1
    have i_x2_3 := isSl_ofB h_x2_3
    have b_x2_3 := len_leB h_x2_3
    have i_x2_5 := isSl_ofB h_x2_5
    have b_x2_5 := len_leB h_x2_5
    have i_x2_6 := isSl_ofB h_x2_6
    have b_x2_6 := len_leB h_x2_6
    have i_x2_7 := isSl_ofB h_x2_7
    have b_x2_7 := len_leB h_x2_7
    refine wp_bindE (ρ' := [_, _, _, _, _, dB (true)]) (si_inr (by omega) e_x2) rfl rfl ?_
    refine wp_bindE (ρ' := [_, _, _, _, _, _, dI (x2_0)]) (si_elemP (off := 0) i_a (by omega) e_x2 rfl rfl (by decide)) rfl rfl ?_
    refine wp_bindE (ρ' := [_, _, _, _, _, _, _, _]) sk_eql rfl rfl ?_
    refine wp_iteC rfl (fun c3 => ?_) (fun c3 => ?_)
    · replace c3 : (x2_0) = (b) := of_decide_eq_true c3
      exact wr_ret rfl ⟨_, rfl, by omega, by omega⟩
    · replace c3 : ¬ ((x2_0) = (b)) := of_decide_eq_false c3
      refine wp_bindE (ρ' := [_, _, _, _, _, _, _, _, dI ((i0 + 1 : Nat) : Int)]) (sh_add (cap_bd' (by omega))) rfl rfl ?_
      exact wr_jump rfl (ih0 (by omega) (by omega))
  · replace c1 : ¬ (((i0 : Nat) : Int) < ((a.es.length : Nat) : Int)) := of_decide_eq_false c1
    exact wr_ret rfl ⟨_, rfl, by omega, by omega⟩
/- 52 langdoc/langdocref26.has -/
theorem t52 {a b : D} (h_a : HasB 300000000 (.st [.int .i64, .sl 3 1 (.int .i64), .int .i64, .sl 31 1 (.sl 3 1 (.int .i64)), .int .i64, .sl 87 2 (.st [.str, .str]), .sl 116 2 (.st [.int .i64, .int .i64]), .sl 166 2 (.st [.int .i64, .int .i64])]) a) (h_b : HasB 300000000 (.st [.int .i64, .int .i64]) b) : ∃ d, (HasB 300000000 (.bool)) d ∧ Holds EE 52 [a, b] d := by
  suffices h : ∃ d, (HasB 300000000 (.bool)) d ∧ Goes EE (Holds EE) u52Ts 0 [a, b] d by
    obtain ⟨d, hd, hg⟩ := h; exact ⟨d, hd, u52 rfl hg⟩
  obtain ⟨_, rfl, _, _, rfl, ⟨a_0, rfl⟩, a_1, _, rfl, h_a_1, _, _, rfl, ⟨a_2, rfl⟩, a_3, _, rfl, h_a_3, _, _, rfl, ⟨a_4, rfl⟩, a_5, _, rfl, h_a_5, a_6, _, rfl, h_a_6, a_7, _, rfl, h_a_7, rfl⟩ := h_a
  have i_a_1 := isSl_ofB h_a_1
  have b_a_1 := len_leB h_a_1
  have i_a_3 := isSl_ofB h_a_3
  have b_a_3 := len_leB h_a_3
  have i_a_5 := isSl_ofB h_a_5
  have b_a_5 := len_leB h_a_5
  have i_a_6 := isSl_ofB h_a_6
  have b_a_6 := len_leB h_a_6
  have i_a_7 := isSl_ofB h_a_7
  have b_a_7 := len_leB h_a_7
  obtain ⟨_, rfl, _, _, rfl, ⟨b_0, rfl⟩, _, _, rfl, ⟨b_1, rfl⟩, rfl⟩ := h_b
  refine goes_R (R := (HasB 300000000 (.bool))) ?_
  show wp _ _ _ u52T0 _
  refine wp_bindE (ρ' := [_, _, .agg [dI (a_0), a_1, dI (a_2), a_3, dI (a_4), a_5, a_6, a_7]]) (sh_chkW rfl) rfl rfl ?_
  refine wp_bindE (ρ' := [_, _, _, .agg [dI (b_0), dI (b_1)]]) (sh_chkW rfl) rfl rfl ?_
  refine wr_jump rfl (loop_up (P := fun i0 => i0 ≤ a_6.es.length → ∃ d, (HasB 300000000 (.bool)) d ∧ Goes EE (Holds EE) u52Ts 1 [dI ((i0 : Nat) : Int), .agg [dI (a_0), a_1, dI (a_2), a_3, dI (a_4), a_5, a_6, a_7], .agg [dI (b_0), dI (b_1)]] d) (a_6.es.length) (fun i0 ih0 => ?_) 0 (by omega))
  intro hn0
  refine goes_R (R := (HasB 300000000 (.bool))) ?_
  show wp _ _ _ u52T1 _
  refine wp_bindE (ρ' := [_, _, _, a_6]) (sh_fld1 (off := 6) rfl i_a_6.one) rfl rfl ?_
  refine wp_bindE (ρ' := [_, _, _, _, dI ((a_6.es.length : Nat) : Int)]) (sh_len i_a_6) rfl rfl ?_
  refine wp_bindE (ρ' := [_, _, _, _, _, _]) sk_lss rfl rfl ?_
  refine wp_iteC rfl (fun c1 => ?_) (fun c1 => ?_)
  · replace c1 : ((i0 : Nat) : Int) < ((a_6.es.length : Nat) : Int) := of_decide_eq_true c1
    refine wp_bindE (ρ' := [_, _, _, _, _, _, a_6]) (sh_fld1 (off := 6) rfl i_a_6.one) rfl rfl ?_
    obtain ⟨x2, e_x2⟩ := get_at (d := a_6) (s := ((i0 : Nat) : Int)) (by omega) (by omega)
    obtain ⟨_, rfl, _, _, rfl, ⟨x2_0, rfl⟩, _, _, rfl, ⟨x2_1, rfl⟩, rfl⟩ := (elem_ofB h_a_6 e_x2)
    refine wp_bindE (ρ' := [_, _, _, _, _, _, _, dB (true)]) (si_inr (by omega) e_x2) rfl rfl ?_
    refine wp_bindE (ρ' := [_, _, _, _, _, _, _, _, .agg [dI (x2_0), dI (x2_1)]]) (si_elemW i_a_6 (by omega) e_x2 rfl) rfl rfl ?_
    refine wp_bindE (ρ' := [_, _, _, _, _, _, _, _, _, dB (deqs [dI (x2_0), dI (x2_1)] [dI (b_0), dI (b_1)])]) (sh_cmpS .eql (.inr rfl) ty116 st116 le4 gu116 rfl (hasBs_sh (B := 300000000) (hbs_cons hb_int (hbs_cons hb_int hbs_nil))) (hasBs_sh (B := 300000000) (hbs_cons hb_int (hbs_cons hb_int hbs_nil)))) rfl rfl ?_
    refine wp_iteC rfl (fun c3 => ?_) (fun c3 => ?_)
    · clear c3
      exact wr_ret rfl hb_bool
    · clear c3
      refine wp_bindE (ρ' := [_, _, _, _, _, _, _, _, _, _, dI ((i0 + 1 : Nat) : Int)]) (sh_add (cap_bd' (by omega))) rfl rfl ?_
      exact wr_jump rfl (ih0 (by omega) (by omega))
  · replace c1 : ¬ (((i0 : Nat) : Int) < ((a_6.es.length : Nat) : Int)) := of_decide_eq_false c1
    exact wr_ret rfl hb_bool
/- 53 langdoc/langdocref26.in -/
theorem t53 {a b : D} (h_a : HasB 300000000 (.sl 3 1 (.int .i64)) a) (h_b : HasB 300000000 (.int .i64) b) : ∃ d, (HasB 300000000 (.bool)) d ∧ Holds EE 53 [a, b] d := by
  suffices h : ∃ d, (HasB 300000000 (.bool)) d ∧ Goes EE (Holds EE) u53Ts 0 [a, b] d by
    obtain ⟨d, hd, hg⟩ := h; exact ⟨d, hd, u53 rfl hg⟩
  have i_a := isSl_ofB h_a
  have b_a := len_leB h_a
  obtain ⟨b, rfl⟩ := h_b
  refine goes_R (R := (HasB 300000000 (.bool))) ?_
  show wp _ _ _ u53T0 _
  refine wr_jump rfl (loop_up (P := fun i0 => i0 ≤ a.es.length → ∃ d, (HasB 300000000 (.bool)) d ∧ Goes EE (Holds EE) u53Ts 1 [a, dI (b), dI ((i0 : Nat) : Int)] d) (a.es.length) (fun i0 ih0 => ?_) 0 (by omega))
  intro hn0
  refine goes_R (R := (HasB 300000000 (.bool))) ?_
  show wp _ _ _ u53T1 _
  refine wp_bindE (ρ' := [_, _, _, dI ((a.es.length : Nat) : Int)]) (sh_len i_a) rfl rfl ?_
  refine wp_bindE (ρ' := [_, _, _, _, _]) sk_lss rfl rfl ?_
  refine wp_iteC rfl (fun c1 => ?_) (fun c1 => ?_)
  · replace c1 : ((i0 : Nat) : Int) < ((a.es.length : Nat) : Int) := of_decide_eq_true c1
    obtain ⟨x2, e_x2⟩ := get_at (d := a) (s := ((i0 : Nat) : Int)) (by omega) (by omega)
    obtain ⟨x2, rfl⟩ := (elem_ofB h_a e_x2)
    refine wp_bindE (ρ' := [_, _, _, _, _, dB (true)]) (si_inr (by omega) e_x2) rfl rfl ?_
    refine wp_bindE (ρ' := [_, _, _, _, _, _, dI (x2)]) (si_elem1 i_a (by omega) e_x2 rfl) rfl rfl ?_
    refine wp_bindE (ρ' := [_, _, _, _, _, _, _, _]) sk_eql rfl rfl ?_
    refine wp_iteC rfl (fun c3 => ?_) (fun c3 => ?_)
    · replace c3 : (x2) = (b) := of_decide_eq_true c3
      exact wr_ret rfl hb_bool
    · replace c3 : ¬ ((x2) = (b)) := of_decide_eq_false c3
      refine wp_bindE (ρ' := [_, _, _, _, _, _, _, _, dI ((i0 + 1 : Nat) : Int)]) (sh_add (cap_bd' (by omega))) rfl rfl ?_
      exact wr_jump rfl (ih0 (by omega) (by omega))
  · replace c1 : ¬ (((i0 : Nat) : Int) < ((a.es.length : Nat) : Int)) := of_decide_eq_false c1
    exact wr_ret rfl hb_bool
/- 55 langdoc/langdocref27.find -/
theorem t55 {a b : D} (h_a : HasB 300000000 (.sl 66 8 (.st [.int .i64, .sl 3 1 (.int .i64), .int .i64, .sl 31 1 (.sl 3 1 (.int .i64)), .int .i64, .sl 87 2 (.st [.str, .str]), .sl 116 2 (.st [.int .i64, .int .i64]), .sl 166 2 (.st [.int .i64, .int .i64])])) a) (h_b : HasB 300000000 (.int .i64) b) : ∃ d, (fun d => ∃ n : Int, d = dI n ∧ -1 ≤ n ∧ n < (a.es.length : Int)) d ∧ Holds EE 55 [a, b] d := by
  suffices h : ∃ d, (fun d => ∃ n : Int, d = dI n ∧ -1 ≤ n ∧ n < (a.es.length : Int)) d ∧ Goes EE (Holds EE) u55Ts 0 [a, b] d by
    obtain ⟨d, hd, hg⟩ := h; exact ⟨d, hd, u55 rfl hg⟩
  have i_a := isSl_ofB h_a
  have b_a := len_leB h_a
  obtain ⟨b, rfl⟩ := h_b
  refine goes_R (R := (fun d => ∃ n : Int, d = dI n ∧ -1 ≤ n ∧ n < (a.es.length : Int))) ?_
  show wp _ _ _ u55T0 _
  refine wr_jump rfl (loop_up (P := fun i0 => i0 ≤ a.es.length → ∃ d, (fun d => ∃ n : Int, d = dI n ∧ -1 ≤ n ∧ n < (a.es.length : Int)) d ∧ Goes EE (Holds EE) u55Ts 1 [a, dI (b), dI ((i0 : Nat) : Int)] d) (a.es.length) (fun i0 ih0 => ?_) 0 (by omega))
  intro hn0
  refine goes_R (R := (fun d => ∃ n : Int, d = dI n ∧ -1 ≤ n ∧ n < (a.es.length : Int))) ?_
  show wp _ _ _ u55T1 _
  refine wp_bindE (ρ' := [_, _, _, dI ((a.es.length : Nat) : Int)]) (sh_len i_a) rfl rfl ?_
  refine wp_bindE (ρ' := [_, _, _, _, _]) sk_lss rfl rfl ?_
  refine wp_iteC rfl (fun c1 => ?_) (fun c1 => ?_)
  · replace c1 : ((i0 : Nat) : Int) < ((a.es.length : Nat) : Int) := of_decide_eq_true c1
    obtain ⟨x2, e_x2⟩ := get_at (d := a) (s := ((i0 : Nat) : Int)) (by omega) (by omega)
    obtain ⟨_, rfl, _, _, rfl, ⟨x2_0, rfl⟩, x2_1, _, rfl, h_x2_1, _, _, rfl, ⟨x2_2, rfl⟩, x2_3, _, rfl, h_x2_3, _, _, rfl, ⟨x2_4, rfl⟩, x2_5, _, rfl, h_x2_5, x2_6, _, rfl, h_x2_6, x2_7, _, rfl, h_x2_7, rfl⟩ := (elem_ofB h_a e_x2)
    have i_x2_1 := isSl_ofB h_x2_1
    have b_x2_1 := len_leB h_x2_1
    have i_x2_3 := isSl_ofB h_x2_3
    have b_x2_3 := len_leB h_x2_3
    have i_x2_5 := isSl_ofB h_x2_5
    have b_x2_5 := len_leB h_x2_5
    have i_x2_6 := isSl_ofB h_x2_6
    have b_x2_6 := len_leB h_x2_6
    have i_x2_7 := isSl_ofB h_x2_7
    have b_x2_7 := len_leB h_x2_7
    refine wp_bindE (ρ' := [_, _, _, _, _, dB (true)]) (si_inr (by omega) e_x2) rfl rfl ?_
    refine wp_bindE (ρ' := [_, _, _, _, _, _, dI (x2_0)]) (si_elemP (off := 0) i_a (by omega) e_x2 rfl rfl (by decide)) rfl rfl ?_
    refine wp_bindE (ρ' := [_, _, _, _, _, _, _, _]) sk_eql rfl rfl ?_
    refine wp_iteC rfl (fun c3 => ?_) (fun c3 => ?_)
    · replace c3 : (x2_0) = (b) := of_decide_eq_true c3
      exact wr_ret rfl ⟨_, rfl, by omega, by omega⟩
    · replace c3 : ¬ ((x2_0) = (b)) := of_decide_eq_false c3
      refine wp_bindE (ρ' := [_, _, _, _, _, _, _, _, dI ((i0 + 1 : Nat) : Int)]) (sh_add (cap_bd' (by omega))) rfl rfl ?_
      exact wr_jump rfl (ih0 (by omega) (by omega))
  · replace c1 : ¬ (((i0 : Nat) : Int) < ((a.es.length : Nat) : Int)) := of_decide_eq_false c1
    exact wr_ret rfl ⟨_, rfl, by omega, by omega⟩
/- 100 langdoc/langdocref24.has -/
theorem t100 {a b : D} (h_a : HasB 300000000 (.sl 87 2 (.st [.str, .str])) a) (h_b : HasB 300000000 (.str) b) : ∃ d, (HasB 300000000 (.bool)) d ∧ Holds EE 100 [a, b] d := by
  suffices h : ∃ d, (HasB 300000000 (.bool)) d ∧ Goes EE (Holds EE) u100Ts 0 [a, b] d by
    obtain ⟨d, hd, hg⟩ := h; exact ⟨d, hd, u100 rfl hg⟩
  have i_a := isSl_ofB h_a
  have b_a := len_leB h_a
  obtain ⟨b, rfl, hs_b⟩ := h_b
  refine goes_R (R := (HasB 300000000 (.bool))) ?_
  show wp _ _ _ u100T0 _
  refine wr_jump rfl (loop_up (P := fun i0 => i0 ≤ a.es.length → ∃ d, (HasB 300000000 (.bool)) d ∧ Goes EE (Holds EE) u100Ts 1 [a, .leaf (.string b), dI ((i0 : Nat) : Int)] d) (a.es.length) (fun i0 ih0 => ?_) 0 (by omega))
  intro hn0
  refine goes_R (R := (HasB 300000000 (.bool))) ?_
  show wp _ _ _ u100T1 _
  refine wp_bindE (ρ' := [_, _, _, dI ((a.es.length : Nat) : Int)]) (sh_len i_a) rfl rfl ?_
  refine wp_bindE (ρ' := [_, _, _, _, _]) sk_lss rfl rfl ?_
  refine wp_iteC rfl (fun c1 => ?_) (fun c1 => ?_)
  · replace c1 : ((i0 : Nat) : Int) < ((a.es.length : Nat) : Int) := of_decide_eq_true c1
    obtain ⟨x2, e_x2⟩ := get_at (d := a) (s := ((i0 : Nat) : Int)) (by omega) (by omega)
    obtain ⟨_, rfl, _, _, rfl, ⟨x2_0, rfl, hs_x2_0⟩, _, _, rfl, ⟨x2_1, rfl, hs_x2_1⟩, rfl⟩ := (elem_ofB h_a e_x2)
    refine wp_bindE (ρ' := [_, _, _, _, _, dB (true)]) (si_inr (by omega) e_x2) rfl rfl ?_
    refine wp_bindE (ρ' := [_, _, _, _, _, _, .leaf (.string x2_0)]) (si_elemP (off := 0) i_a (by omega) e_x2 rfl rfl (by decide)) rfl rfl ?_
    refine wp_bindE (ρ' := [_, _, _, _, _, _, _, dB (x2_0 == b)]) sh_strE rfl rfl ?_
    refine wp_iteC rfl (fun c3 => ?_) (fun c3 => ?_)
    · clear c3
      exact wr_ret rfl hb_bool
    · clear c3
      refine wp_bindE (ρ' := [_, _, _, _, _, _, _, _, dI ((i0 + 1 : Nat) : Int)]) (sh_add (cap_bd' (by omega))) rfl rfl ?_
      exact wr_jump rfl (ih0 (by omega) (by omega))
  · replace c1 : ¬ (((i0 : Nat) : Int) < ((a.es.length : Nat) : Int)) := of_decide_eq_false c1
    exact wr_ret rfl hb_bool
/- 89 langdoc/langdocref24.Ref -/
theorem t89 {a : D} (h_a : HasB 300000000 (.st [.int .i64, .int .i64]) a) : ∃ d, (HasB 300000000 (.bool)) d ∧ Holds EE 89 [a] d := by
  suffices h : ∃ d, (HasB 300000000 (.bool)) d ∧ Goes EE (Holds EE) u89Ts 0 [a] d by
    obtain ⟨d, hd, hg⟩ := h; exact ⟨d, hd, u89 rfl hg⟩
  obtain ⟨_, rfl, _, _, rfl, ⟨a_0, rfl⟩, _, _, rfl, ⟨a_1, rfl⟩, rfl⟩ := h_a
  refine goes_R (R := (HasB 300000000 (.bool))) ?_
  show wp _ _ _ u89T0 _
  refine wp_bindE (ρ' := [_, .agg [dI (a_0), dI (a_1)]]) (sh_chkW rfl) rfl rfl ?_
  refine wp_bindE (ρ' := [_, _, dI (a_0)]) (sh_fld1 (off := 0) rfl rfl) rfl rfl ?_
  obtain ⟨_, ⟨r0, rfl⟩, k_r0⟩ := t86 hb_int
  refine wp_callE (ρ' := [_, _, _, dB (r0)]) k_r0 rfl rfl rfl rfl ?_
  refine wp_iteC rfl (fun c1 => ?_) (fun c1 => ?_)
  · clear c1
    refine wp_bindE (ρ' := [_, _, _, _, dI (a_1)]) (sh_fld1 (off := 1) rfl rfl) rfl rfl ?_
    obtain ⟨_, ⟨r2, rfl⟩, k_r2⟩ := t86 hb_int
    refine wp_callE (ρ' := [_, _, _, _, _, dB (r2)]) k_r2 rfl rfl rfl rfl ?_
    exact wr_ret rfl hb_bool
  · clear c1
    exact wr_ret rfl hb_bool
/- 90 langdoc/langdocref24.Precedes -/
theorem t90 {a b : D} (h_a : HasB 300000000 (.st [.int .i64, .int .i64]) a) (h_b : HasB 300000000 (.st [.int .i64, .int .i64]) b) : ∃ d, (HasB 300000000 (.bool)) d ∧ Holds EE 90 [a, b] d := by
  suffices h : ∃ d, (HasB 300000000 (.bool)) d ∧ Goes EE (Holds EE) u90Ts 0 [a, b] d by
    obtain ⟨d, hd, hg⟩ := h; exact ⟨d, hd, u90 rfl hg⟩
  obtain ⟨_, rfl, _, _, rfl, ⟨a_0, rfl⟩, _, _, rfl, ⟨a_1, rfl⟩, rfl⟩ := h_a
  obtain ⟨_, rfl, _, _, rfl, ⟨b_0, rfl⟩, _, _, rfl, ⟨b_1, rfl⟩, rfl⟩ := h_b
  refine goes_R (R := (HasB 300000000 (.bool))) ?_
  show wp _ _ _ u90T0 _
  refine wp_bindE (ρ' := [_, _, .agg [dI (a_0), dI (a_1)]]) (sh_chkW rfl) rfl rfl ?_
  refine wp_bindE (ρ' := [_, _, _, .agg [dI (b_0), dI (b_1)]]) (sh_chkW rfl) rfl rfl ?_
  refine wp_bindE (ρ' := [_, _, _, _, dI (a_0)]) (sh_fld1 (off := 0) rfl rfl) rfl rfl ?_
  refine wp_bindE (ρ' := [_, _, _, _, _, dI (b_0)]) (sh_fld1 (off := 0) rfl rfl) rfl rfl ?_
  refine wp_bindE (ρ' := [_, _, _, _, _, _, _]) sk_lss rfl rfl ?_
  refine wp_iteC rfl (fun c0 => ?_) (fun c0 => ?_)
  · replace c0 : (a_0) < (b_0) := of_decide_eq_true c0
    exact wr_ret rfl hb_bool
  · replace c0 : ¬ ((a_0) < (b_0)) := of_decide_eq_false c0
    refine wp_bindE (ρ' := [_, _, _, _, _, _, _, dI (a_0)]) (sh_fld1 (off := 0) rfl rfl) rfl rfl ?_
    refine wp_bindE (ρ' := [_, _, _, _, _, _, _, _, dI (b_0)]) (sh_fld1 (off := 0) rfl rfl) rfl rfl ?_
    refine wp_bindE (ρ' := [_, _, _, _, _, _, _, _, _, _]) sk_eql rfl rfl ?_
    refine wp_iteC rfl (fun c1 => ?_) (fun c1 => ?_)
    · replace c1 : (a_0) = (b_0) := of_decide_eq_true c1
      refine wp_bindE (ρ' := [_, _, _, _, _, _, _, _, _, _, dI (a_1)]) (sh_fld1 (off := 1) rfl rfl) rfl rfl ?_
      refine wp_bindE (ρ' := [_, _, _, _, _, _, _, _, _, _, _, dI (b_1)]) (sh_fld1 (off := 1) rfl rfl) rfl rfl ?_
      refine wp_bindE (ρ' := [_, _, _, _, _, _, _, _, _, _, _, _, _]) sk_lss rfl rfl ?_
      exact wr_ret rfl hb_bool
    · replace c1 : ¬ ((a_0) = (b_0)) := of_decide_eq_false c1
      exact wr_ret rfl hb_bool
/- 12 langdoc/langdocref29.small -/
theorem t12 {a : D} (h_a : HasB 300000000 (.sl 66 8 (.st [.int .i64, .sl 3 1 (.int .i64), .int .i64, .sl 31 1 (.sl 3 1 (.int .i64)), .int .i64, .sl 87 2 (.st [.str, .str]), .sl 116 2 (.st [.int .i64, .int .i64]), .sl 166 2 (.st [.int .i64, .int .i64])])) a) : ∃ d, (HasB 300000000 (.bool)) d ∧ Holds EE 12 [a] d := by
  suffices h : ∃ d, (HasB 300000000 (.bool)) d ∧ Goes EE (Holds EE) u12Ts 0 [a] d by
    obtain ⟨d, hd, hg⟩ := h; exact ⟨d, hd, u12 rfl hg⟩
  have i_a := isSl_ofB h_a
  have b_a := len_leB h_a
  refine goes_R (R := (HasB 300000000 (.bool))) ?_
  show wp _ _ _ u12T0 _
  refine wp_bindE (ρ' := [_, dI ((a.es.length : Nat) : Int)]) (sh_len i_a) rfl rfl ?_
  refine wp_bindE (ρ' := [_, _, _]) sk_gtr rfl rfl ?_
  refine wp_iteC rfl (fun c0 => ?_) (fun c0 => ?_)
  · replace c0 : ((a.es.length : Nat) : Int) > ((5 : Nat) : Int) := of_decide_eq_true c0
    exact wr_ret rfl hb_bool
  · replace c0 : ¬ (((a.es.length : Nat) : Int) > ((5 : Nat) : Int)) := of_decide_eq_false c0
    refine wr_jump rfl (loop_up (P := fun i1 => i1 ≤ a.es.length → ∃ d, (HasB 300000000 (.bool)) d ∧ Goes EE (Holds EE) u12Ts 1 [a, dI ((i1 : Nat) : Int)] d) (a.es.length) (fun i1 ih1 => ?_) 0 (by omega))
    intro hn1
    refine goes_R (R := (HasB 300000000 (.bool))) ?_
    show wp _ _ _ u12T1 _
    refine wp_bindE (ρ' := [_, _, dI ((a.es.length : Nat) : Int)]) (sh_len i_a) rfl rfl ?_
    refine wp_bindE (ρ' := [_, _, _, _]) sk_lss rfl rfl ?_
    refine wp_iteC rfl (fun c2 => ?_) (fun c2 => ?_)
    · replace c2 : ((i1 : Nat) : Int) < ((a.es.length : Nat) : Int) := of_decide_eq_true c2
      obtain ⟨x3, e_x3⟩ := get_at (d := a) (s := ((i1 : Nat) : Int)) (by omega) (by omega)
      obtain ⟨_, rfl, _, _, rfl, ⟨x3_0, rfl⟩, x3_1, _, rfl, h_x3_1, _, _, rfl, ⟨x3_2, rfl⟩, x3_3, _, rfl, h_x3_3, _, _, rfl, ⟨x3_4, rfl⟩, x3_5, _, rfl, h_x3_5, x3_6, _, rfl, h_x3_6, x3_7, _, rfl, h_x3_7, rfl⟩ := (elem_ofB h_a e_x3)
      have i_x3_1 := isSl_ofB h_x3_1
      have b_x3_1 := len_leB h_x3_1
      have i_x3_3 := isSl_ofB h_x3_3
      have b_x3_3 := len_leB h_x3_3
      have i_x3_5 := isSl_ofB h_x3_5
      have b_x3_5 := len_leB h_x3_5
      have i_x3_6 := isSl_ofB h_x3_6
      have b_x3_6 := len_leB h_x3_6
      have i_x3_7 := isSl_ofB h_x3_7
      have b_x3_7 := len_leB h_x3_7
      refine wp_bindE (ρ' := [_, _, _, _, dB (true)]) (si_inr (by omega) e_x3) rfl rfl ?_
      refine wp_bindE (ρ' := [_, _, _, _, _, x3_1]) (si_elemP (off := 1) i_a (by omega) e_x3 rfl i_x3_1.one (by decide)) rfl rfl ?_
      refine wp_bindE (ρ' := [_, _, _, _, _, _, dI ((x3_1.es.length : Nat) : Int)]) (sh_len i_x3_1) rfl rfl ?_
      refine wp_bindE (ρ' := [_, _, _, _, _, _, _, _]) sk_gtr rfl rfl ?_
      refine wp_iteC rfl (fun c4 => ?_) (fun c4 => ?_)
      · replace c4 : ((x3_1.es.length : Nat) : Int) > ((3 : Nat) : Int) := of_decide_eq_true c4
        exact wr_ret rfl hb_bool
      · replace c4 : ¬ (((x3_1.es.length : Nat) : Int) > ((3 : Nat) : Int)) := of_decide_eq_false c4
        refine wp_bindE (ρ' := [_, _, _, _, _, _, _, _, dB (true)]) (si_inr (by omega) e_x3) rfl rfl ?_
        refine wp_bindE (ρ' := [_, _, _, _, _, _, _, _, _, x3_3]) (si_elemP (off := 3) i_a (by omega) e_x3 rfl i_x3_3.one (by decide)) rfl rfl ?_
        refine wp_bindE (ρ' := [_, _, _, _, _, _, _, _, _, _, dI ((x3_3.es.length : Nat) : Int)]) (sh_len i_x3_3) rfl rfl ?_
        refine wp_bindE (ρ' := [_, _, _, _, _, _, _, _, _, _, _, _]) sk_gtr rfl rfl ?_
        refine wp_iteC rfl (fun c5 => ?_) (fun c5 => ?_)
        · replace c5 : ((x3_3.es.length : Nat) : Int) > ((1 : Nat) : Int) := of_decide_eq_true c5
          exact wr_ret rfl hb_bool
        · replace c5 : ¬ (((x3_3.es.length : Nat) : Int) > ((1 : Nat) : Int)) := of_decide_eq_false c5
          refine wr_jump rfl (loop_up (P := fun i6 => i6 ≤ x3_3.es.length → ∃ d, (HasB 300000000 (.bool)) d ∧ Goes EE (Holds EE) u12Ts 2 [a, dI ((i1 : Nat) : Int), dI ((i6 : Nat) : Int), x3_3, dI ((x3_3.es.length : Nat) : Int)] d) (x3_3.es.length) (fun i6 ih6 => ?_) 0 (by omega))
          intro hn6
          refine goes_R (R := (HasB 300000000 (.bool))) ?_
          show wp _ _ _ u12T2 _
          refine wp_bindE (ρ' := [_, _, _, _, _, dB (true)]) (si_inr (by omega) e_x3) rfl rfl ?_
          refine wp_bindE (ρ' := [_, _, _, _, _, _, x3_3]) (si_elemP (off := 3) i_a (by omega) e_x3 rfl i_x3_3.one (by decide)) rfl rfl ?_
          refine wp_bindE (ρ' := [_, _, _, _, _, _, _, dI ((x3_3.es.length : Nat) : Int)]) (sh_len i_x3_3) rfl rfl ?_
          refine wp_bindE (ρ' := [_, _, _, _, _, _, _, _, _]) sk_lss rfl rfl ?_
          refine wp_iteC rfl (fun c7 => ?_) (fun c7 => ?_)
          · replace c7 : ((i6 : Nat) : Int) < ((x3_3.es.length : Nat) : Int) := of_decide_eq_true c7
            refine wp_bindE (ρ' := [_, _, _, _, _, _, _, _, _, dB (true)]) (si_inr (by omega) e_x3) rfl rfl ?_
            refine wp_bindE (ρ' := [_, _, _, _, _, _, _, _, _, _, x3_3]) (si_elemP (off := 3) i_a (by omega) e_x3 rfl i_x3_3.one (by decide)) rfl rfl ?_
            obtain ⟨x8, e_x8⟩ := get_at (d := x3_3) (s := ((i6 : Nat) : Int)) (by omega) (by omega)
            have h_x8 := (elem_ofB h_x3_3 e_x8)
            have i_x8 := isSl_ofB h_x8
            have b_x8 := len_leB h_x8
            refine wp_bindE (ρ' := [_, _, _, _, _, _, _, _, _, _, _, dB (true)]) (si_inr (by omega) e_x8) rfl rfl ?_
            refine wp_bindE (ρ' := [_, _, _, _, _, _, _, _, _, _, _, _, x8]) (si_elem1 i_x3_3 (by omega) e_x8 i_x8.one) rfl rfl ?_
            refine wp_bindE (ρ' := [_, _, _, _, _, _, _, _, _, _, _, _, _, dI ((x8.es.length : Nat) : Int)]) (sh_len i_x8) rfl rfl ?_
            refine wp_bindE (ρ' := [_, _, _, _, _, _, _, _, _, _, _, _, _, _, _]) sk_gtr rfl rfl ?_
            refine wp_iteC rfl (fun c9 => ?_) (fun c9 => ?_)
            · replace c9 : ((x8.es.length : Nat) : Int) > ((3 : Nat) : Int) := of_decide_eq_true c9
              exact wr_ret rfl hb_bool
            · replace c9 : ¬ (((x8.es.length : Nat) : Int) > ((3 : Nat) : Int)) := of_decide_eq_false c9
              refine wp_bindE (ρ' := [_, _, _, _, _, _, _, _, _, _, _, _, _, _, _, dI ((i6 + 1 : Nat) : Int)]) (sh_add (cap_bd' (by omega))) rfl rfl ?_
              exact wr_jump rfl (ih6 (by omega) (by omega))
          · replace c7 : ¬ (((i6 : Nat) : Int) < ((x3_3.es.length : Nat) : Int)) := of_decide_eq_false c7
            refine wp_bindE (ρ' := [_, _, _, _, _, _, _, _, _, dI ((i1 + 1 : Nat) : Int)]) (sh_add (cap_bd' (by omega))) rfl rfl ?_
            exact wr_jump rfl (ih1 (by omega) (by omega))
    · replace c2 : ¬ (((i1 : Nat) : Int) < ((a.es.length : Nat) : Int)) := of_decide_eq_false c2
      exact wr_ret rfl hb_bool
/- 22 langdoc/langdocref25.Get -/
theorem t22 {a b : D} (h_a : HasB 300000000 (.sl 66 8 (.st [.int .i64, .sl 3 1 (.int .i64), .int .i64, .sl 31 1 (.sl 3 1 (.int .i64)), .int .i64, .sl 87 2 (.st [.str, .str]), .sl 116 2 (.st [.int .i64, .int .i64]), .sl 166 2 (.st [.int .i64, .int .i64])])) a) (h_b : HasB 300000000 (.int .i64) b) : ∃ d, (HasT 300000000 [.st [.int .i64, .sl 3 1 (.int .i64), .int .i64, .sl 31 1 (.sl 3 1 (.int .i64)), .int .i64, .sl 87 2 (.st [.str, .str]), .sl 116 2 (.st [.int .i64, .int .i64]), .sl 166 2 (.st [.int .i64, .int .i64])], .bool]) d ∧ Holds EE 22 [a, b] d := by
  suffices h : ∃ d, (HasT 300000000 [.st [.int .i64, .sl 3 1 (.int .i64), .int .i64, .sl 31 1 (.sl 3 1 (.int .i64)), .int .i64, .sl 87 2 (.st [.str, .str]), .sl 116 2 (.st [.int .i64, .int .i64]), .sl 166 2 (.st [.int .i64, .int .i64])], .bool]) d ∧ Goes EE (Holds EE) u22Ts 0 [a, b] d by
    obtain ⟨d, hd, hg⟩ := h; exact ⟨d, hd, u22 rfl hg⟩
  have i_a := isSl_ofB h_a
  have b_a := len_leB h_a
  obtain ⟨b, rfl⟩ := h_b
  refine goes_R (R := (HasT 300000000 [.st [.int .i64, .sl 3 1 (.int .i64), .int .i64, .sl 31 1 (.sl 3 1 (.int .i64)), .int .i64, .sl 87 2 (.st [.str, .str]), .sl 116 2 (.st [.int .i64, .int .i64]), .sl 166 2 (.st [.int .i64, .int .i64])], .bool])) ?_
  show wp _ _ _ u22T0 _
  refine wp_bindE (ρ' := [_, _, dI ((a.es.length : Nat) : Int)]) (sh_len i_a) rfl rfl ?_
  refine wr_jump rfl (loop_up (P := fun i0 => i0 ≤ a.es.length → ∃ d, (HasT 300000000 [.st [.int .i64, .sl 3 1 (.int .i64), .int .i64, .sl 31 1 (.sl 3 1 (.int .i64)), .int .i64, .sl 87 2 (.st [.str, .str]), .sl 116 2 (.st [.int .i64, .int .i64]), .sl 166 2 (.st [.int .i64, .int .i64])], .bool]) d ∧ Goes EE (Holds EE) u22Ts 1 [a, dI (b), dI ((a.es.length : Nat) : Int), dI ((i0 : Nat) : Int)] d) (a.es.length) (fun i0 ih0 => ?_) 0 (by omega))
  intro hn0
  refine goes_R (R := (HasT 300000000 [.st [.int .i64, .sl 3 1 (.int .i64), .int .i64, .sl 31 1 (.sl 3 1 (.int .i64)), .int .i64, .sl 87 2 (.st [.str, .str]), .sl 116 2 (.st [.int .i64, .int .i64]), .sl 166 2 (.st [.int .i64, .int .i64])], .bool])) ?_
  show wp _ _ _ u22T1 _
  refine wp_bindE (ρ' := [_, _, _, _, _]) sk_lss rfl rfl ?_
  refine wp_iteC rfl (fun c1 => ?_) (fun c1 => ?_)
  · replace c1 : ((i0 : Nat) : Int) < ((a.es.length : Nat) : Int) := of_decide_eq_true c1
    obtain ⟨x2, e_x2⟩ := get_at (d := a) (s := ((i0 : Nat) : Int)) (by omega) (by omega)
    obtain ⟨_, rfl, _, _, rfl, ⟨x2_0, rfl⟩, x2_1, _, rfl, h_x2_1, _, _, rfl, ⟨x2_2, rfl⟩, x2_3, _, rfl, h_x2_3, _, _, rfl, ⟨x2_4, rfl⟩, x2_5, _, rfl, h_x2_5, x2_6, _, rfl, h_x2_6, x2_7, _, rfl, h_x2_7, rfl⟩ := (elem_ofB h_a e_x2)
    have i_x2_1 := isSl_ofB h_x2_1
    have b_x2_1 := len_leB h_x2_1
    have i_x2_3 := isSl_ofB h_x2_3
    have b_x2_3 := len_leB h_x2_3
    have i_x2_5 := isSl_ofB h_x2_5
    have b_x2_5 := len_leB h_x2_5
    have i_x2_6 := isSl_ofB h_x2_6
    have b_x2_6 := len_leB h_x2_6
    have i_x2_7 := isSl_ofB h_x2_7
    have b_x2_7 := len_leB h_x2_7
    refine wp_bindE (ρ' := [_, _, _, _, _, dB (true)]) (si_inr (by omega) e_x2) rfl rfl ?_
    refine wp_bindE (ρ' := [_, _, _, _, _, _, dI (x2_0)]) (si_elemP (off := 0) i_a (by omega) e_x2 rfl rfl (by decide)) rfl rfl ?_
    refine wp_bindE (ρ' := [_, _, _, _, _, _, _, _]) sk_eql rfl rfl ?_
    refine wp_iteC rfl (fun c3 => ?_) (fun c3 => ?_)
    · replace c3 : (x2_0) = (b) := of_decide_eq_true c3
      refine wp_bindE (ρ' := [_, _, _, _, _, _, _, _, dB (true)]) (si_inr (by omega) e_x2) rfl rfl ?_
      refine wp_bindE (ρ' := [_, _, _, _, _, _, _, _, _, .agg [dI (x2_0), x2_1, dI (x2_2), x2_3, dI (x2_4), x2_5, x2_6, x2_7]]) (si_elemW i_a (by omega) e_x2 rfl) rfl rfl ?_
      refine wp_bindE (ρ' := [_, _, _, _, _, _, _, _, _, _, .agg [dI (x2_0), x2_1, dI (x2_2), x2_3, dI (x2_4), x2_5, x2_6, x2_7]]) (sh_chkW rfl) rfl rfl ?_
      exact wr_ret rfl ⟨_, rfl, (hbs_cons (hb_st (hbs_cons hb_int (hbs_cons h_x2_1 (hbs_cons hb_int (hbs_cons h_x2_3 (hbs_cons hb_int (hbs_cons h_x2_5 (hbs_cons h_x2_6 (hbs_cons h_x2_7 hbs_nil))))))))) (hbs_cons hb_bool hbs_nil))⟩
    · replace c3 : ¬ ((x2_0) = (b)) := of_decide_eq_false c3
      refine wp_bindE (ρ' := [_, _, _, _, _, _, _, _, dI ((i0 + 1 : Nat) : Int)]) (sh_add (cap_bd' (by omega))) rfl rfl ?_
      exact wr_jump rfl (ih0 (by omega) (by omega))
  · replace c1 : ¬ (((i0 : Nat) : Int) < ((a.es.length : Nat) : Int)) := of_decide_eq_false c1
    exact wr_ret rfl ⟨_, rfl, (hbs_cons (hb_st (hbs_cons hb_int (hbs_cons hb_nil (hbs_cons hb_int (hbs_cons hb_nil (hbs_cons hb_int (hbs_cons hb_nil (hbs_cons hb_nil (hbs_cons hb_nil hbs_nil))))))))) (hbs_cons hb_bool hbs_nil))⟩
/- 49 langdoc/langdocref25.has -/
theorem t49 {a b : D} (h_a : HasB 300000000 (.sl 66 8 (.st [.int .i64, .sl 3 1 (.int .i64), .int .i64, .sl 31 1 (.sl 3 1 (.int .i64)), .int .i64, .sl 87 2 (.st [.str, .str]), .sl 116 2 (.st [.int .i64, .int .i64]), .sl 166 2 (.st [.int .i64, .int .i64])])) a) (h_b : HasB 300000000 (.int .i64) b) : ∃ d, (HasB 300000000 (.bool)) d ∧ Holds EE 49 [a, b] d := by
  suffices h : ∃ d, (HasB 300000000 (.bool)) d ∧ Goes EE (Holds EE) u49Ts 0 [a, b] d by
    obtain ⟨d, hd, hg⟩ := h; exact ⟨d, hd, u49 rfl hg⟩
  have i_a := isSl_ofB h_a
  have b_a := len_leB h_a
  obtain ⟨b, rfl⟩ := h_b
  refine goes_R (R := (HasB 300000000 (.bool))) ?_
  show wp _ _ _ u49T0 _
  obtain ⟨_, ⟨_, rfl, _, _, rfl, ⟨_, rfl, _, _, rfl, ⟨r0_0_0, rfl⟩, r0_0_1, _, rfl, h_r0_0_1, _, _, rfl, ⟨r0_0_2, rfl⟩, r0_0_3, _, rfl, h_r0_0_3, _, _, rfl, ⟨r0_0_4, rfl⟩, r0_0_5, _, rfl, h_r0_0_5, r0_0_6, _, rfl, h_r0_0_6, r0_0_7, _, rfl, h_r0_0_7, rfl⟩, _, _, rfl, ⟨r0_1, rfl⟩, rfl⟩, k_r0⟩ := t22 h_a hb_int
  have i_r0_0_1 := isSl_ofB h_r0_0_1
  have b_r0_0_1 := len_leB h_r0_0_1
  have i_r0_0_3 := isSl_ofB h_r0_0_3
  have b_r0_0_3 := len_leB h_r0_0_3
  have i_r0_0_5 := isSl_ofB h_r0_0_5
  have b_r0_0_5 := len_leB h_r0_0_5
  have i_r0_0_6 := isSl_ofB h_r0_0_6
  have b_r0_0_6 := len_leB h_r0_0_6
  have i_r0_0_7 := isSl_ofB h_r0_0_7
  have b_r0_0_7 := len_leB h_r0_0_7
  refine wp_callE (ρ' := [_, _, .tup [.agg [dI (r0_0_0), r0_0_1, dI (r0_0_2), r0_0_3, dI (r0_0_4), r0_0_5, r0_0_6, r0_0_7], dB (r0_1)]]) k_r0 rfl rfl rfl rfl ?_
  refine wp_bindE (ρ' := [_, _, _, .agg [dI (r0_0_0), r0_0_1, dI (r0_0_2), r0_0_3, dI (r0_0_4), r0_0_5, r0_0_6, r0_0_7]]) (te_ext rfl) rfl rfl ?_
  refine wp_bindE (ρ' := [_, _, _, _, dB (r0_1)]) (te_ext rfl) rfl rfl ?_
  refine wp_bindE (ρ' := [_, _, _, _, _, .agg [dI (r0_0_0), r0_0_1, dI (r0_0_2), r0_0_3, dI (r0_0_4), r0_0_5, r0_0_6, r0_0_7]]) (sh_chkW rfl) rfl rfl ?_
  exact wr_ret rfl hb_bool
/- 87 langdoc/langdocref16.Word -/
theorem t87 {a b : D} (h_a : HasB 300000000 (.st [.sl 79 2 (.st [.str, .int .i64])]) a) (h_b : HasB 300000000 (.sl 3 1 (.int .i64)) b) : ∃ d, (HasB 300000000 (.int .i64)) d ∧ Holds EE 87 [a, b] d := by
  suffices h : ∃ d, (HasB 300000000 (.int .i64)) d ∧ Goes EE (Holds EE) u87Ts 0 [a, b] d by
    obtain ⟨d, hd, hg⟩ := h; exact ⟨d, hd, u87 rfl hg⟩
  obtain ⟨_, rfl, a_0, _, rfl, h_a_0, rfl⟩ := h_a
  have i_a_0 := isSl_ofB h_a_0
  have b_a_0 := len_leB h_a_0
  have i_b := isSl_ofB h_b
  have b_b := len_leB h_b
  refine goes_R (R := (HasB 300000000 (.int .i64))) ?_
  show wp _ _ _ u87T0 _
  refine wp_bindE (ρ' := [_, _, .agg [a_0]]) (sh_chkW rfl) rfl rfl ?_
  refine wp_bindE (ρ' := [_, _, _, dI ((b.es.length : Nat) : Int)]) (sh_len i_b) rfl rfl ?_
  refine wp_bindE (ρ' := [_, _, _, _, _]) sk_eql rfl rfl ?_
  refine wp_iteC rfl (fun c0 => ?_) (fun c0 => ?_)
  · replace c0 : ((b.es.length : Nat) : Int) = ((0 : Nat) : Int) := of_decide_eq_true c0
    exact wr_ret rfl hb_int
  · replace c0 : ¬ (((b.es.length : Nat) : Int) = ((0 : Nat) : Int)) := of_decide_eq_false c0
    refine wp_bindE (ρ' := [_, _, _, _, _, dI ((b.es.length : Nat) : Int)]) (sh_len i_b) rfl rfl ?_
    refine wp_bindE (ρ' := [_, _, _, _, _, _, _]) sk_gtr rfl rfl ?_
    refine wp_iteC rfl (fun c1 => ?_) (fun c1 => ?_)
    · replace c1 : ((b.es.length : Nat) : Int) > ((24 : Nat) : Int) := of_decide_eq_true c1
      exact wr_ret rfl hb_int
    · replace c1 : ¬ (((b.es.length : Nat) : Int) > ((24 : Nat) : Int)) := of_decide_eq_false c1
      refine wp_bindE (ρ' := [_, _, _, _, _, _, _, dI ((b.es.length : Nat) : Int)]) (sh_len i_b) rfl rfl ?_
      refine wr_jump rfl (loop_up (P := fun i2 => i2 ≤ b.es.length → ∃ d, (HasB 300000000 (.int .i64)) d ∧ Goes EE (Holds EE) u87Ts 1 [b, dI ((b.es.length : Nat) : Int), dI ((i2 : Nat) : Int), .agg [a_0]] d) (b.es.length) (fun i2 ih2 => ?_) 0 (by omega))
      intro hn2
      refine goes_R (R := (HasB 300000000 (.int .i64))) ?_
      show wp _ _ _ u87T1 _
      refine wp_bindE (ρ' := [_, _, _, _, _]) sk_lss rfl rfl ?_
      refine wp_iteC rfl (fun c3 => ?_) (fun c3 => ?_)
      · replace c3 : ((i2 : Nat) : Int) < ((b.es.length : Nat) : Int) := of_decide_eq_true c3
        obtain ⟨x4, e_x4⟩ := get_at (d := b) (s := ((i2 : Nat) : Int)) (by omega) (by omega)
        obtain ⟨x4, rfl⟩ := (elem_ofB h_b e_x4)
        refine wp_bindE (ρ' := [_, _, _, _, _, dB (true)]) (si_inr (by omega) e_x4) rfl rfl ?_
        refine wp_bindE (ρ' := [_, _, _, _, _, _, dI (x4)]) (si_elem1 i_b (by omega) e_x4 rfl) rfl rfl ?_
        obtain ⟨_, ⟨r5, rfl⟩, k_r5⟩ := t70 (hb_st (hbs_cons h_a_0 hbs_nil)) hb_int
        refine wp_callE (ρ' := [_, _, _, _, _, _, _, dB (r5)]) k_r5 rfl rfl rfl rfl ?_
        refine wp_bindE (ρ' := [_, _, _, _, _, _, _, _, dB (!(r5))]) sh_not rfl rfl ?_
        refine wp_iteC rfl (fun c6 => ?_) (fun c6 => ?_)
        · clear c6
          exact wr_ret rfl hb_int
        · clear c6
          refine wp_bindE (ρ' := [_, _, _, _, _, _, _, _, _, dI ((i2 + 1 : Nat) : Int)]) (sh_add (cap_bd' (by omega))) rfl rfl ?_
          exact wr_jump rfl (ih2 (by omega) (by omega))
      · replace c3 : ¬ (((i2 : Nat) : Int) < ((b.es.length : Nat) : Int)) := of_decide_eq_false c3
        exact wr_ret rfl hb_int
/- 85 langdoc/langdocref01.Put -/
theorem t85 {a b : D} (h_a : HasB 300000000 (.sl 3 1 (.int .i64)) a) (h_b : HasB 300000000 (.int .i64) b) (hp : a.es.length < 300000000) : ∃ d, (fun d => HasB 300000000 (.sl 3 1 (.int .i64)) d ∧ d.es.length ≤ a.es.length + 1) d ∧ Holds EE 85 [a, b] d := by
  suffices h : ∃ d, (fun d => HasB 300000000 (.sl 3 1 (.int .i64)) d ∧ d.es.length ≤ a.es.length + 1) d ∧ Goes EE (Holds EE) u85Ts 0 [a, b] d by
    obtain ⟨d, hd, hg⟩ := h; exact ⟨d, hd, u85 rfl hg⟩
  have i_a := isSl_ofB h_a
  have b_a := len_leB h_a
  obtain ⟨b, rfl⟩ := h_b
  refine goes_R (R := (fun d => HasB 300000000 (.sl 3 1 (.int .i64)) d ∧ d.es.length ≤ a.es.length + 1)) ?_
  show wp _ _ _ u85T0 _
  refine wr_jump rfl (loop_up (P := fun i0 => i0 ≤ a.es.length → ∀ v0_2 : D, HasB 300000000 (.sl 3 1 (.int .i64)) v0_2 → v0_2.es.length ≤ i0 → ∃ d, (fun d => HasB 300000000 (.sl 3 1 (.int .i64)) d ∧ d.es.length ≤ a.es.length + 1) d ∧ Goes EE (Holds EE) u85Ts 1 [a, dI (b), v0_2, dI ((i0 : Nat) : Int)] d) (a.es.length) (fun i0 ih0 => ?_) 0 (by omega) .nil hb_nil (by simp [D.es]))
  intro hn0 v0_2 h_v0_2 z_v0_2
  have i_v0_2 := isSl_ofB h_v0_2
  have b_v0_2 := len_leB h_v0_2
  refine goes_R (R := (fun d => HasB 300000000 (.sl 3 1 (.int .i64)) d ∧ d.es.length ≤ a.es.length + 1)) ?_
  show wp _ _ _ u85T1 _
  refine wp_bindE (ρ' := [_, _, _, _, dI ((a.es.length : Nat) : Int)]) (sh_len i_a) rfl rfl ?_
  refine wp_bindE (ρ' := [_, _, _, _, _, _]) sk_lss rfl rfl ?_
  refine wp_iteC rfl (fun c1 => ?_) (fun c1 => ?_)
  · replace c1 : ((i0 : Nat) : Int) < ((a.es.length : Nat) : Int) := of_decide_eq_true c1
    obtain ⟨x2, e_x2⟩ := get_at (d := a) (s := ((i0 : Nat) : Int)) (by omega) (by omega)
    obtain ⟨x2, rfl⟩ := (elem_ofB h_a e_x2)
    refine wp_bindE (ρ' := [_, _, _, _, _, _, dB (true)]) (si_inr (by omega) e_x2) rfl rfl ?_
    refine wp_bindE (ρ' := [_, _, _, _, _, _, _, dI (x2)]) (si_elem1 i_a (by omega) e_x2 rfl) rfl rfl ?_
    refine wp_bindE (ρ' := [_, _, _, _, _, _, _, _, _]) sk_lss rfl rfl ?_
    refine wp_iteC rfl (fun c3 => ?_) (fun c3 => ?_)
    · replace c3 : (x2) < (b) := of_decide_eq_true c3
      refine wp_bindE (ρ' := [_, _, _, _, _, _, _, _, _, dB (true)]) (si_inr (by omega) e_x2) rfl rfl ?_
      refine wp_bindE (ρ' := [_, _, _, _, _, _, _, _, _, _, dI (x2)]) (si_elem1 i_a (by omega) e_x2 rfl) rfl rfl ?_
      refine wp_bindE (ρ' := [_, _, _, _, _, _, _, _, _, _, _, dI (x2)]) (sh_chk1 rfl) rfl rfl ?_
      obtain ⟨y4, ev_y4, l_y4, h_y4, n_y4⟩ := vs_lit (E := EE) (B := 300000000) (el := 3) (sz := 1) (xs := [dI (x2)]) (e := .int .i64) rfl (all_c hb_int all_n) rfl rfl
      simp only [List.length_cons, List.length_nil] at l_y4
      have i_y4 := isSl_ofB h_y4
      have b_y4 := len_leB h_y4
      refine wp_bindE (ρ' := [_, _, _, _, _, _, _, _, _, _, _, _, y4]) ev_y4 rfl rfl ?_
      obtain ⟨y5, ev_y5, l_y5, h_y5⟩ := vs_app (E := EE) (el := 3) (sz := 1) (bytes := 8) h_v0_2 h_y4 (by decide) (by omega)
      have i_y5 := isSl_ofB h_y5
      have b_y5 := len_leB h_y5
      refine wp_bindE (ρ' := [_, _, _, _, _, _, _, _, _, _, _, _, _, y5]) ev_y5 rfl rfl ?_
      refine wp_bindE (ρ' := [_, _, _, _, _, _, _, _, _, _, _, _, _, _, dI ((i0 + 1 : Nat) : Int)]) (sh_add (cap_bd' (by omega))) rfl rfl ?_
      exact wr_jump rfl (ih0 (by omega) (by omega) y5 h_y5 (by omega))
    · replace c3 : ¬ ((x2) < (b)) := of_decide_eq_false c3
      refine wp_bindE (ρ' := [_, _, _, _, _, _, _, _, _, dI (b)]) (sh_chk1 rfl) rfl rfl ?_
      obtain ⟨y4, ev_y4, l_y4, h_y4, n_y4⟩ := vs_lit (E := EE) (B := 300000000) (el := 3) (sz := 1) (xs := [dI (b)]) (e := .int .i64) rfl (all_c hb_int all_n) rfl rfl
      simp only [List.length_cons, List.length_nil] at l_y4
      have i_y4 := isSl_ofB h_y4
      have b_y4 := len_leB h_y4
      refine wp_bindE (ρ' := [_, _, _, _, _, _, _, _, _, _, y4]) ev_y4 rfl rfl ?_
      obtain ⟨y5, ev_y5, l_y5, h_y5⟩ := vs_app (E := EE) (el := 3) (sz := 1) (bytes := 8) h_v0_2 h_y4 (by decide) (by omega)
      have i_y5 := isSl_ofB h_y5
      have b_y5 := len_leB h_y5
      refine wp_bindE (ρ' := [_, _, _, _, _, _, _, _, _, _, _, y5]) ev_y5 rfl rfl ?_
      refine wp_bindE (ρ' := [_, _, _, _, _, _, _, _, _, _, _, _, dI ((a.es.length : Nat) : Int)]) (sh_len i_a) rfl rfl ?_
      refine wp_bindE (ρ' := [_, _, _, _, _, _, _, _, _, _, _, _, _, _]) sk_lss rfl rfl ?_
      refine wp_iteC rfl (fun c6 => ?_) (fun c6 => ?_)
      · replace c6 : ((i0 : Nat) : Int) < ((a.es.length : Nat) : Int) := of_decide_eq_true c6
        refine wp_bindE (ρ' := [_, _, _, _, _, _, _, _, _, _, _, _, _, _, dB (true)]) (si_inr (by omega) e_x2) rfl rfl ?_
        refine wp_bindE (ρ' := [_, _, _, _, _, _, _, _, _, _, _, _, _, _, _, dI (x2)]) (si_elem1 i_a (by omega) e_x2 rfl) rfl rfl ?_
        refine wp_bindE (ρ' := [_, _, _, _, _, _, _, _, _, _, _, _, _, _, _, _, _]) sk_eql rfl rfl ?_
        refine wp_iteC rfl (fun c7 => ?_) (fun c7 => ?_)
        · replace c7 : (x2) = (b) := of_decide_eq_true c7
          refine wp_bindE (ρ' := [_, _, _, _, _, _, _, _, _, _, _, _, _, _, _, _, _, dI ((i0 + 1 : Nat) : Int)]) (sh_add (cap_bd' (by omega))) rfl rfl ?_
          obtain ⟨y8, ev_y8, l_y8, h_y8⟩ := vs_lo (E := EE) (j := ((i0 + 1 : Nat) : Int)) h_a (by omega) (by omega)
          have i_y8 := isSl_ofB h_y8
          have b_y8 := len_leB h_y8
          refine wp_bindE (ρ' := [_, _, _, _, _, _, _, _, _, _, _, _, _, _, _, _, _, _, y8]) ev_y8 rfl rfl ?_
          obtain ⟨y9, ev_y9, l_y9, h_y9⟩ := vs_app (E := EE) (el := 3) (sz := 1) (bytes := 8) h_y5 h_y8 (by decide) (by omega)
          have i_y9 := isSl_ofB h_y9
          have b_y9 := len_leB h_y9
          refine wp_bindE (ρ' := [_, _, _, _, _, _, _, _, _, _, _, _, _, _, _, _, _, _, _, y9]) ev_y9 rfl rfl ?_
          exact wr_ret (ds := [y9]) rfl ⟨h_y9, by show y9.es.length ≤ _; omega⟩
        · replace c7 : ¬ ((x2) = (b)) := of_decide_eq_false c7
          obtain ⟨y8, ev_y8, l_y8, h_y8⟩ := vs_lo (E := EE) (j := ((i0 : Nat) : Int)) h_a (by omega) (by omega)
          have i_y8 := isSl_ofB h_y8
          have b_y8 := len_leB h_y8
          refine wp_bindE (ρ' := [_, _, _, _, _, _, _, _, _, _, _, _, _, _, _, _, _, y8]) ev_y8 rfl rfl ?_
          obtain ⟨y9, ev_y9, l_y9, h_y9⟩ := vs_app (E := EE) (el := 3) (sz := 1) (bytes := 8) h_y5 h_y8 (by decide) (by omega)
          have i_y9 := isSl_ofB h_y9
          have b_y9 := len_leB h_y9
          refine wp_bindE (ρ' := [_, _, _, _, _, _, _, _, _, _, _, _, _, _, _, _, _, _, y9]) ev_y9 rfl rfl ?_
          exact wr_ret (ds := [y9]) rfl ⟨h_y9, by show y9.es.length ≤ _; omega⟩
      · replace c6 : ¬ (((i0 : Nat) : Int) < ((a.es.length : Nat) : Int)) := of_decide_eq_false c6
        obtain ⟨y7, ev_y7, l_y7, h_y7⟩ := vs_lo (E := EE) (j := ((i0 : Nat) : Int)) h_a (by omega) (by omega)
        have i_y7 := isSl_ofB h_y7
        have b_y7 := len_leB h_y7
        refine wp_bindE (ρ' := [_, _, _, _, _, _, _, _, _, _, _, _, _, _, y7]) ev_y7 rfl rfl ?_
        obtain ⟨y8, ev_y8, l_y8, h_y8⟩ := vs_app (E := EE) (el := 3) (sz := 1) (bytes := 8) h_y5 h_y7 (by decide) (by omega)
        have i_y8 := isSl_ofB h_y8
        have b_y8 := len_leB h_y8
        refine wp_bindE (ρ' := [_, _, _, _, _, _, _, _, _, _, _, _, _, _, _, y8]) ev_y8 rfl rfl ?_
        exact wr_ret (ds := [y8]) rfl ⟨h_y8, by show y8.es.length ≤ _; omega⟩
  · replace c1 : ¬ (((i0 : Nat) : Int) < ((a.es.length : Nat) : Int)) := of_decide_eq_false c1
    refine wp_bindE (ρ' := [_, _, _, _, _, _, dI (b)]) (sh_chk1 rfl) rfl rfl ?_
    obtain ⟨y2, ev_y2, l_y2, h_y2, n_y2⟩ := vs_lit (E := EE) (B := 300000000) (el := 3) (sz := 1) (xs := [dI (b)]) (e := .int .i64) rfl (all_c hb_int all_n) rfl rfl
    simp only [List.length_cons, List.length_nil] at l_y2
    have i_y2 := isSl_ofB h_y2
    have b_y2 := len_leB h_y2
    refine wp_bindE (ρ' := [_, _, _, _, _, _, _, y2]) ev_y2 rfl rfl ?_
    obtain ⟨y3, ev_y3, l_y3, h_y3⟩ := vs_app (E := EE) (el := 3) (sz := 1) (bytes := 8) h_v0_2 h_y2 (by decide) (by omega)
    have i_y3 := isSl_ofB h_y3
    have b_y3 := len_leB h_y3
    refine wp_bindE (ρ' := [_, _, _, _, _, _, _, _, y3]) ev_y3 rfl rfl ?_
    refine wp_bindE (ρ' := [_, _, _, _, _, _, _, _, _, dI ((a.es.length : Nat) : Int)]) (sh_len i_a) rfl rfl ?_
    refine wp_bindE (ρ' := [_, _, _, _, _, _, _, _, _, _, _]) sk_lss rfl rfl ?_
    refine wp_iteC rfl (fun c4 => ?_) (fun c4 => ?_)
    · replace c4 : ((i0 : Nat) : Int) < ((a.es.length : Nat) : Int) := of_decide_eq_true c4
      obtain ⟨x5, e_x5⟩ := get_at (d := a) (s := ((i0 : Nat) : Int)) (by omega) (by omega)
      obtain ⟨x5, rfl⟩ := (elem_ofB h_a e_x5)
      refine wp_bindE (ρ' := [_, _, _, _, _, _, _, _, _, _, _, dB (true)]) (si_inr (by omega) e_x5) rfl rfl ?_
      refine wp_bindE (ρ' := [_, _, _, _, _, _, _, _, _, _, _, _, dI (x5)]) (si_elem1 i_a (by omega) e_x5 rfl) rfl rfl ?_
      refine wp_bindE (ρ' := [_, _, _, _, _, _, _, _, _, _, _, _, _, _]) sk_eql rfl rfl ?_
      refine wp_iteC rfl (fun c6 => ?_) (fun c6 => ?_)
      · replace c6 : (x5) = (b) := of_decide_eq_true c6
        refine wp_bindE (ρ' := [_, _, _, _, _, _, _, _, _, _, _, _, _, _, dI ((i0 + 1 : Nat) : Int)]) (sh_add (cap_bd' (by omega))) rfl rfl ?_
        obtain ⟨y7, ev_y7, l_y7, h_y7⟩ := vs_lo (E := EE) (j := ((i0 + 1 : Nat) : Int)) h_a (by omega) (by omega)
        have i_y7 := isSl_ofB h_y7
        have b_y7 := len_leB h_y7
        refine wp_bindE (ρ' := [_, _, _, _, _, _, _, _, _, _, _, _, _, _, _, y7]) ev_y7 rfl rfl ?_
        obtain ⟨y8, ev_y8, l_y8, h_y8⟩ := vs_app (E := EE) (el := 3) (sz := 1) (bytes := 8) h_y3 h_y7 (by decide) (by omega)
        have i_y8 := isSl_ofB h_y8
        have b_y8 := len_leB h_y8
        refine wp_bindE (ρ' := [_, _, _, _, _, _, _, _, _, _, _, _, _, _, _, _, y8]) ev_y8 rfl rfl ?_
        exact wr_ret (ds := [y8]) rfl ⟨h_y8, by show y8.es.length ≤ _; omega⟩
      · replace c6 : ¬ ((x5) = (b)) := of_decide_eq_false c6
        obtain ⟨y7, ev_y7, l_y7, h_y7⟩ := vs_lo (E := EE) (j := ((i0 : Nat) : Int)) h_a (by omega) (by omega)
        have i_y7 := isSl_ofB h_y7
        have b_y7 := len_leB h_y7
        refine wp_bindE (ρ' := [_, _, _, _, _, _, _, _, _, _, _, _, _, _, y7]) ev_y7 rfl rfl ?_
        obtain ⟨y8, ev_y8, l_y8, h_y8⟩ := vs_app (E := EE) (el := 3) (sz := 1) (bytes := 8) h_y3 h_y7 (by decide) (by omega)
        have i_y8 := isSl_ofB h_y8
        have b_y8 := len_leB h_y8
        refine wp_bindE (ρ' := [_, _, _, _, _, _, _, _, _, _, _, _, _, _, _, y8]) ev_y8 rfl rfl ?_
        exact wr_ret (ds := [y8]) rfl ⟨h_y8, by show y8.es.length ≤ _; omega⟩
    · replace c4 : ¬ (((i0 : Nat) : Int) < ((a.es.length : Nat) : Int)) := of_decide_eq_false c4
      obtain ⟨y5, ev_y5, l_y5, h_y5⟩ := vs_lo (E := EE) (j := ((i0 : Nat) : Int)) h_a (by omega) (by omega)
      have i_y5 := isSl_ofB h_y5
      have b_y5 := len_leB h_y5
      refine wp_bindE (ρ' := [_, _, _, _, _, _, _, _, _, _, _, y5]) ev_y5 rfl rfl ?_
      obtain ⟨y6, ev_y6, l_y6, h_y6⟩ := vs_app (E := EE) (el := 3) (sz := 1) (bytes := 8) h_y3 h_y5 (by decide) (by omega)
      have i_y6 := isSl_ofB h_y6
      have b_y6 := len_leB h_y6
      refine wp_bindE (ρ' := [_, _, _, _, _, _, _, _, _, _, _, _, y6]) ev_y6 rfl rfl ?_
      exact wr_ret (ds := [y6]) rfl ⟨h_y6, by show y6.es.length ≤ _; omega⟩
/- 71 langdoc/langdocref01.Sorted -/
theorem t71 {a : D} (h_a : HasB 300000000 (.sl 3 1 (.int .i64)) a) : ∃ d, (HasB 300000000 (.sl 3 1 (.int .i64))) d ∧ Holds EE 71 [a] d := by
  suffices h : ∃ d, (HasB 300000000 (.sl 3 1 (.int .i64))) d ∧ Goes EE (Holds EE) u71Ts 0 [a] d by
    obtain ⟨d, hd, hg⟩ := h; exact ⟨d, hd, u71 rfl hg⟩
  have i_a := isSl_ofB h_a
  have b_a := len_leB h_a
  refine goes_R (R := (HasB 300000000 (.sl 3 1 (.int .i64)))) ?_
  show wp _ _ _ u71T0 _
  refine wp_bindE (ρ' := [_, dI ((a.es.length : Nat) : Int)]) (sh_len i_a) rfl rfl ?_
  refine wr_jump rfl (loop_up (P := fun i0 => i0 ≤ a.es.length → ∀ v0_1 : D, HasB 300000000 (.sl 3 1 (.int .i64)) v0_1 → v0_1.es.length ≤ i0 → ∃ d, (HasB 300000000 (.sl 3 1 (.int .i64))) d ∧ Goes EE (Holds EE) u71Ts 1 [a, v0_1, dI ((a.es.length : Nat) : Int), dI ((i0 : Nat) : Int)] d) (a.es.length) (fun i0 ih0 => ?_) 0 (by omega) .nil hb_nil (by simp [D.es]))
  intro hn0 v0_1 h_v0_1 z_v0_1
  have i_v0_1 := isSl_ofB h_v0_1
  have b_v0_1 := len_leB h_v0_1
  refine goes_R (R := (HasB 300000000 (.sl 3 1 (.int .i64)))) ?_
  show wp _ _ _ u71T1 _
  refine wp_bindE (ρ' := [_, _, _, _, _]) sk_lss rfl rfl ?_
  refine wp_iteC rfl (fun c1 => ?_) (fun c1 => ?_)
  · replace c1 : ((i0 : Nat) : Int) < ((a.es.length : Nat) : Int) := of_decide_eq_true c1
    obtain ⟨x2, e_x2⟩ := get_at (d := a) (s := ((i0 : Nat) : Int)) (by omega) (by omega)
    obtain ⟨x2, rfl⟩ := (elem_ofB h_a e_x2)
    refine wp_bindE (ρ' := [_, _, _, _, _, dB (true)]) (si_inr (by omega) e_x2) rfl rfl ?_
    refine wp_bindE (ρ' := [_, _, _, _, _, _, dI (x2)]) (si_elem1 i_a (by omega) e_x2 rfl) rfl rfl ?_
    obtain ⟨r3, ⟨h_r3, q_r3⟩, k_r3⟩ := t85 h_v0_1 hb_int (by omega)
    have i_r3 := isSl_ofB h_r3
    have b_r3 := len_leB h_r3
    refine wp_callE (ρ' := [_, _, _, _, _, _, _, r3]) k_r3 rfl rfl rfl rfl ?_
    refine wp_bindE (ρ' := [_, _, _, _, _, _, _, _, dI ((i0 + 1 : Nat) : Int)]) (sh_add (cap_bd' (by omega))) rfl rfl ?_
    exact wr_jump rfl (ih0 (by omega) (by omega) r3 h_r3 (by omega))
  · replace c1 : ¬ (((i0 : Nat) : Int) < ((a.es.length : Nat) : Int)) := of_decide_eq_false c1
    exact wr_ret rfl h_v0_1
/- 46 langdoc/langdocref22.Check -/
theorem t46 {a b : D} (h_a : HasB 300000000 (.st [.sl 79 2 (.st [.str, .int .i64])]) a) (h_b : HasB 300000000 (.st [.sl 3 1 (.int .i64), .sl 3 1 (.int .i64), .sl 83 2 (.st [.int .i64, .int .i64]), .sl 83 2 (.st [.int .i64, .int .i64]), .bool, .bool]) b) : ∃ d, (HasB 300000000 (.int .i64)) d ∧ Holds EE 46 [a, b] d := by
  suffices h : ∃ d, (HasB 300000000 (.int .i64)) d ∧ Goes EE (Holds EE) u46Ts 0 [a, b] d by
    obtain ⟨d, hd, hg⟩ := h; exact ⟨d, hd, u46 rfl hg⟩
  obtain ⟨_, rfl, a_0, _, rfl, h_a_0, rfl⟩ := h_a
  have i_a_0 := isSl_ofB h_a_0
  have b_a_0 := len_leB h_a_0
  obtain ⟨_, rfl, b_0, _, rfl, h_b_0, b_1, _, rfl, h_b_1, b_2, _, rfl, h_b_2, b_3, _, rfl, h_b_3, _, _, rfl, ⟨b_4, rfl⟩, _, _, rfl, ⟨b_5, rfl⟩, rfl⟩ := h_b
  have i_b_0 := isSl_ofB h_b_0
  have b_b_0 := len_leB h_b_0
  have i_b_1 := isSl_ofB h_b_1
  have b_b_1 := len_leB h_b_1
  have i_b_2 := isSl_ofB h_b_2
  have b_b_2 := len_leB h_b_2
  have i_b_3 := isSl_ofB h_b_3
  have b_b_3 := len_leB h_b_3
  refine goes_R (R := (HasB 300000000 (.int .i64))) ?_
  show wp _ _ _ u46T0 _
  refine wp_bindE (ρ' := [_, _, .agg [a_0]]) (sh_chkW rfl) rfl rfl ?_
  refine wp_bindE (ρ' := [_, _, _, .agg [b_0, b_1, b_2, b_3, dB (b_4), dB (b_5)]]) (sh_chkW rfl) rfl rfl ?_
  refine wp_bindE (ρ' := [_, _, _, _, b_0]) (sh_fld1 (off := 0) rfl i_b_0.one) rfl rfl ?_
  refine wp_bindE (ρ' := [_, _, _, _, _, dI ((b_0.es.length : Nat) : Int)]) (sh_len i_b_0) rfl rfl ?_
  refine wp_bindE (ρ' := [_, _, _, _, _, _, _]) sk_eql rfl rfl ?_
  refine wp_iteC rfl (fun c0 => ?_) (fun c0 => ?_)
  · replace c0 : ((b_0.es.length : Nat) : Int) = ((0 : Nat) : Int) := of_decide_eq_true c0
    exact wr_ret rfl hb_int
  · replace c0 : ¬ (((b_0.es.length : Nat) : Int) = ((0 : Nat) : Int)) := of_decide_eq_false c0
    refine wp_bindE (ρ' := [_, _, _, _, _, _, _, b_1]) (sh_fld1 (off := 1) rfl i_b_1.one) rfl rfl ?_
    refine wp_bindE (ρ' := [_, _, _, _, _, _, _, _, dI ((b_1.es.length : Nat) : Int)]) (sh_len i_b_1) rfl rfl ?_
    refine wp_bindE (ρ' := [_, _, _, _, _, _, _, _, _, b_0]) (sh_fld1 (off := 0) rfl i_b_0.one) rfl rfl ?_
    refine wp_bindE (ρ' := [_, _, _, _, _, _, _, _, _, _, dI ((b_0.es.length : Nat) : Int)]) (sh_len i_b_0) rfl rfl ?_
    refine wp_bindE (ρ' := [_, _, _, _, _, _, _, _, _, _, _, _]) sk_neq rfl rfl ?_
    refine wp_iteC rfl (fun c1 => ?_) (fun c1 => ?_)
    · replace c1 : ¬ (((b_1.es.length : Nat) : Int) = ((b_0.es.length : Nat) : Int)) := of_decide_eq_true c1
      exact wr_ret rfl hb_int
    · replace c1 : ¬ ¬ (((b_1.es.length : Nat) : Int) = ((b_0.es.length : Nat) : Int)) := of_decide_eq_false c1
      refine wp_bindE (ρ' := [_, _, _, _, _, _, _, _, _, _, _, _, b_0]) (sh_fld1 (off := 0) rfl i_b_0.one) rfl rfl ?_
      refine wp_bindE (ρ' := [_, _, _, _, _, _, _, _, _, _, _, _, _, dI ((b_0.es.length : Nat) : Int)]) (sh_len i_b_0) rfl rfl ?_
      refine wr_jump rfl (loop_up (P := fun i2 => i2 ≤ b_0.es.length → ∃ d, (HasB 300000000 (.int .i64)) d ∧ Goes EE (Holds EE) u46Ts 1 [dI ((b_0.es.length : Nat) : Int), dI ((i2 : Nat) : Int), .agg [a_0], .agg [b_0, b_1, b_2, b_3, dB (b_4), dB (b_5)]] d) (b_0.es.length) (fun i2 ih2 => ?_) 0 (by omega))
      intro hn2
      refine goes_R (R := (HasB 300000000 (.int .i64))) ?_
      show wp _ _ _ u46T1 _
      refine wp_bindE (ρ' := [_, _, _, _, _]) sk_lss rfl rfl ?_
      refine wp_iteC rfl (fun c3 => ?_) (fun c3 => ?_)
      · replace c3 : ((i2 : Nat) : Int) < ((b_0.es.length : Nat) : Int) := of_decide_eq_true c3
        refine wp_bindE (ρ' := [_, _, _, _, _, b_0]) (sh_fld1 (off := 0) rfl i_b_0.one) rfl rfl ?_
        obtain ⟨x4, e_x4⟩ := get_at (d := b_0) (s := ((i2 : Nat) : Int)) (by omega) (by omega)
        obtain ⟨x4, rfl⟩ := (elem_ofB h_b_0 e_x4)
        refine wp_bindE (ρ' := [_, _, _, _, _, _, dB (true)]) (si_inr (by omega) e_x4) rfl rfl ?_
        refine wp_bindE (ρ' := [_, _, _, _, _, _, _, dI (x4)]) (si_elem1 i_b_0 (by omega) e_x4 rfl) rfl rfl ?_
        obtain ⟨_, ⟨r5, rfl⟩, k_r5⟩ := t70 (hb_st (hbs_cons h_a_0 hbs_nil)) hb_int
        refine wp_callE (ρ' := [_, _, _, _, _, _, _, _, dB (r5)]) k_r5 rfl rfl rfl rfl ?_
        refine wp_bindE (ρ' := [_, _, _, _, _, _, _, _, _, dB (!(r5))]) sh_not rfl rfl ?_
        refine wp_iteC rfl (fun c6 => ?_) (fun c6 => ?_)
        · clear c6
          exact wr_ret rfl hb_int
        · clear c6
          refine wp_bindE (ρ' := [_, _, _, _, _, _, _, _, _, _, b_1]) (sh_fld1 (off := 1) rfl i_b_1.one) rfl rfl ?_
          obtain ⟨x7, e_x7⟩ := get_at (d := b_1) (s := ((i2 : Nat) : Int)) (by omega) (by omega)
          obtain ⟨x7, rfl⟩ := (elem_ofB h_b_1 e_x7)
          refine wp_bindE (ρ' := [_, _, _, _, _, _, _, _, _, _, _, dB (true)]) (si_inr (by omega) e_x7) rfl rfl ?_
          refine wp_bindE (ρ' := [_, _, _, _, _, _, _, _, _, _, _, _, dI (x7)]) (si_elem1 i_b_1 (by omega) e_x7 rfl) rfl rfl ?_
          refine wp_bindE (ρ' := [_, _, _, _, _, _, _, _, _, _, _, _, _, _]) sk_neq rfl rfl ?_
          refine wp_iteC rfl (fun c8 => ?_) (fun c8 => ?_)
          · replace c8 : ¬ ((x7) = ((0 : Nat) : Int)) := of_decide_eq_true c8
            refine wp_bindE (ρ' := [_, _, _, _, _, _, _, _, _, _, _, _, _, _, b_1]) (sh_fld1 (off := 1) rfl i_b_1.one) rfl rfl ?_
            refine wp_bindE (ρ' := [_, _, _, _, _, _, _, _, _, _, _, _, _, _, _, dB (true)]) (si_inr (by omega) e_x7) rfl rfl ?_
            refine wp_bindE (ρ' := [_, _, _, _, _, _, _, _, _, _, _, _, _, _, _, _, dI (x7)]) (si_elem1 i_b_1 (by omega) e_x7 rfl) rfl rfl ?_
            obtain ⟨_, ⟨r9, rfl⟩, k_r9⟩ := t70 (hb_st (hbs_cons h_a_0 hbs_nil)) hb_int
            refine wp_callE (ρ' := [_, _, _, _, _, _, _, _, _, _, _, _, _, _, _, _, _, dB (r9)]) k_r9 rfl rfl rfl rfl ?_
            refine wp_bindE (ρ' := [_, _, _, _, _, _, _, _, _, _, _, _, _, _, _, _, _, _, dB (!(r9))]) sh_not rfl rfl ?_
            refine wp_iteC rfl (fun c10 => ?_) (fun c10 => ?_)
            · clear c10
              exact wr_ret rfl hb_int
            · clear c10
              refine wp_bindE (ρ' := [_, _, _, _, _, _, _, _, _, _, _, _, _, _, _, _, _, _, _, dI ((i2 + 1 : Nat) : Int)]) (sh_add (cap_bd' (by omega))) rfl rfl ?_
              exact wr_jump rfl (ih2 (by omega) (by omega))
          · replace c8 : ¬ ¬ ((x7) = ((0 : Nat) : Int)) := of_decide_eq_false c8
            refine wp_bindE (ρ' := [_, _, _, _, _, _, _, _, _, _, _, _, _, _, dI ((i2 + 1 : Nat) : Int)]) (sh_add (cap_bd' (by omega))) rfl rfl ?_
            exact wr_jump rfl (ih2 (by omega) (by omega))
      · replace c3 : ¬ (((i2 : Nat) : Int) < ((b_0.es.length : Nat) : Int)) := of_decide_eq_false c3
        refine wp_bindE (ρ' := [_, _, _, _, _, b_0]) (sh_fld1 (off := 0) rfl i_b_0.one) rfl rfl ?_
        obtain ⟨r4, h_r4, k_r4⟩ := t71 h_b_0
        have i_r4 := isSl_ofB h_r4
        have b_r4 := len_leB h_r4
        refine wp_callE (ρ' := [_, _, _, _, _, _, r4]) k_r4 rfl rfl rfl rfl ?_
        refine wp_bindE (ρ' := [_, _, _, _, _, _, _, dI ((r4.es.length : Nat) : Int)]) (sh_len i_r4) rfl rfl ?_
        refine wp_bindE (ρ' := [_, _, _, _, _, _, _, _, b_0]) (sh_fld1 (off := 0) rfl i_b_0.one) rfl rfl ?_
        refine wp_bindE (ρ' := [_, _, _, _, _, _, _, _, _, dI ((b_0.es.length : Nat) : Int)]) (sh_len i_b_0) rfl rfl ?_
        refine wp_bindE (ρ' := [_, _, _, _, _, _, _, _, _, _, _]) sk_neq rfl rfl ?_
        refine wp_iteC rfl (fun c5 => ?_) (fun c5 => ?_)
        · replace c5 : ¬ (((r4.es.length : Nat) : Int) = ((b_0.es.length : Nat) : Int)) := of_decide_eq_true c5
          exact wr_ret rfl hb_int
        · replace c5 : ¬ ¬ (((r4.es.length : Nat) : Int) = ((b_0.es.length : Nat) : Int)) := of_decide_eq_false c5
          refine wp_bindE (ρ' := [_, _, _, _, _, _, _, _, _, _, _, b_2]) (sh_fld1 (off := 2) rfl i_b_2.one) rfl rfl ?_
          refine wp_bindE (ρ' := [_, _, _, _, _, _, _, _, _, _, _, _, dI ((b_2.es.length : Nat) : Int)]) (sh_len i_b_2) rfl rfl ?_
          refine wp_bindE (ρ' := [_, _, _, _, _, _, _, _, _, _, _, _, _, _]) sk_gtr rfl rfl ?_
          refine wp_iteC rfl (fun c6 => ?_) (fun c6 => ?_)
          · replace c6 : ((b_2.es.length : Nat) : Int) > ((2 : Nat) : Int) := of_decide_eq_true c6
            exact wr_ret rfl hb_int
          · replace c6 : ¬ (((b_2.es.length : Nat) : Int) > ((2 : Nat) : Int)) := of_decide_eq_false c6
            refine wp_bindE (ρ' := [_, _, _, _, _, _, _, _, _, _, _, _, _, _, b_3]) (sh_fld1 (off := 3) rfl i_b_3.one) rfl rfl ?_
            refine wp_bindE (ρ' := [_, _, _, _, _, _, _, _, _, _, _, _, _, _, _, dI ((b_3.es.length : Nat) : Int)]) (sh_len i_b_3) rfl rfl ?_
            refine wp_bindE (ρ' := [_, _, _, _, _, _, _, _, _, _, _, _, _, _, _, _, _]) sk_gtr rfl rfl ?_
            refine wp_iteC rfl (fun c7 => ?_) (fun c7 => ?_)
            · replace c7 : ((b_3.es.length : Nat) : Int) > ((2 : Nat) : Int) := of_decide_eq_true c7
              exact wr_ret rfl hb_int
            · replace c7 : ¬ (((b_3.es.length : Nat) : Int) > ((2 : Nat) : Int)) := of_decide_eq_false c7
              exact wr_ret rfl hb_int
/- 27 langdoc/langdocref29.rules -/
theorem t27 {a : D} (h_a : HasB 300000000 (.st [.sl 79 2 (.st [.str, .int .i64]), .str, .sl 81 2 (.st [.str, .sl 3 1 (.int .i64)]), .sl 109 1 (.sl 9 1 (.str)), .sl 49 6 (.st [.sl 3 1 (.int .i64), .sl 3 1 (.int .i64), .sl 83 2 (.st [.int .i64, .int .i64]), .sl 83 2 (.st [.int .i64, .int .i64]), .bool, .bool]), .int .i64, .sl 85 3 (.st [.int .i64, .int .i64, .int .i64]), .sl 3 1 (.int .i64), .sl 66 8 (.st [.int .i64, .sl 3 1 (.int .i64), .int .i64, .sl 31 1 (.sl 3 1 (.int .i64)), .int .i64, .sl 87 2 (.st [.str, .str]), .sl 116 2 (.st [.int .i64, .int .i64]), .sl 166 2 (.st [.int .i64, .int .i64])])]) a) : ∃ d, (HasB 300000000 (.int .i64)) d ∧ Holds EE 27 [a] d := by
  suffices h : ∃ d, (HasB 300000000 (.int .i64)) d ∧ Goes EE (Holds EE) u27Ts 0 [a] d by
    obtain ⟨d, hd, hg⟩ := h; exact ⟨d, hd, u27 rfl hg⟩
  obtain ⟨_, rfl, a_0, _, rfl, h_a_0, _, _, rfl, ⟨a_1, rfl, hs_a_1⟩, a_2, _, rfl, h_a_2, a_3, _, rfl, h_a_3, a_4, _, rfl, h_a_4, _, _, rfl, ⟨a_5, rfl⟩, a_6, _, rfl, h_a_6, a_7, _, rfl, h_a_7, a_8, _, rfl, h_a_8, rfl⟩ := h_a
  have i_a_0 := isSl_ofB h_a_0
  have b_a_0 := len_leB h_a_0
  have i_a_2 := isSl_ofB h_a_2
  have b_a_2 := len_leB h_a_2
  have i_a_3 := isSl_ofB h_a_3
  have b_a_3 := len_leB h_a_3
  have i_a_4 := isSl_ofB h_a_4
  have b_a_4 := len_leB h_a_4
  have i_a_6 := isSl_ofB h_a_6
  have b_a_6 := len_leB h_a_6
  have i_a_7 := isSl_ofB h_a_7
  have b_a_7 := len_leB h_a_7
  have i_a_8 := isSl_ofB h_a_8
  have b_a_8 := len_leB h_a_8
  refine goes_R (R := (HasB 300000000 (.int .i64))) ?_
  show wp _ _ _ u27T0 _
  refine wp_bindE (ρ' := [_, .agg [a_0, .leaf (.string a_1), a_2, a_3, a_4, dI (a_5), a_6, a_7, a_8]]) (sh_chkW rfl) rfl rfl ?_
  refine wp_bindE (ρ' := [_, _, a_4]) (sh_fld1 (off := 4) rfl i_a_4.one) rfl rfl ?_
  refine wp_bindE (ρ' := [_, _, _, dI ((a_4.es.length : Nat) : Int)]) (sh_len i_a_4) rfl rfl ?_
  refine wp_bindE (ρ' := [_, _, _, _, _]) sk_gtr rfl rfl ?_
  refine wp_iteC rfl (fun c0 => ?_) (fun c0 => ?_)
  · replace c0 : ((a_4.es.length : Nat) : Int) > ((12 : Nat) : Int) := of_decide_eq_true c0
    exact wr_ret rfl hb_int
  · replace c0 : ¬ (((a_4.es.length : Nat) : Int) > ((12 : Nat) : Int)) := of_decide_eq_false c0
    refine wr_jump rfl (loop_up (P := fun i1 => i1 ≤ a_4.es.length → ∃ d, (HasB 300000000 (.int .i64)) d ∧ Goes EE (Holds EE) u27Ts 1 [dI ((i1 : Nat) : Int), .agg [a_0, .leaf (.string a_1), a_2, a_3, a_4, dI (a_5), a_6, a_7, a_8]] d) (a_4.es.length) (fun i1 ih1 => ?_) 0 (by omega))
    intro hn1
    refine goes_R (R := (HasB 300000000 (.int .i64))) ?_
    show wp _ _ _ u27T1 _
    refine wp_bindE (ρ' := [_, _, a_4]) (sh_fld1 (off := 4) rfl i_a_4.one) rfl rfl ?_
    refine wp_bindE (ρ' := [_, _, _, dI ((a_4.es.length : Nat) : Int)]) (sh_len i_a_4) rfl rfl ?_
    refine wp_bindE (ρ' := [_, _, _, _, _]) sk_lss rfl rfl ?_
    refine wp_iteC rfl (fun c2 => ?_) (fun c2 => ?_)
    · replace c2 : ((i1 : Nat) : Int) < ((a_4.es.length : Nat) : Int) := of_decide_eq_true c2
      refine wp_bindE (ρ' := [_, _, _, _, _, .agg [a_0]]) (sh_fldA rfl) rfl rfl ?_
      refine wp_bindE (ρ' := [_, _, _, _, _, _, a_4]) (sh_fld1 (off := 4) rfl i_a_4.one) rfl rfl ?_
      obtain ⟨x3, e_x3⟩ := get_at (d := a_4) (s := ((i1 : Nat) : Int)) (by omega) (by omega)
      obtain ⟨_, rfl, x3_0, _, rfl, h_x3_0, x3_1, _, rfl, h_x3_1, x3_2, _, rfl, h_x3_2, x3_3, _, rfl, h_x3_3, _, _, rfl, ⟨x3_4, rfl⟩, _, _, rfl, ⟨x3_5, rfl⟩, rfl⟩ := (elem_ofB h_a_4 e_x3)
      have i_x3_0 := isSl_ofB h_x3_0
      have b_x3_0 := len_leB h_x3_0
      have i_x3_1 := isSl_ofB h_x3_1
      have b_x3_1 := len_leB h_x3_1
      have i_x3_2 := isSl_ofB h_x3_2
      have b_x3_2 := len_leB h_x3_2
      have i_x3_3 := isSl_ofB h_x3_3
      have b_x3_3 := len_leB h_x3_3
      refine wp_bindE (ρ' := [_, _, _, _, _, _, _, dB (true)]) (si_inr (by omega) e_x3) rfl rfl ?_
      refine wp_bindE (ρ' := [_, _, _, _, _, _, _, _, .agg [x3_0, x3_1, x3_2, x3_3, dB (x3_4), dB (x3_5)]]) (si_elemW i_a_4 (by omega) e_x3 rfl) rfl rfl ?_
      obtain ⟨_, ⟨r4, rfl⟩, k_r4⟩ := t46 (hb_st (hbs_cons h_a_0 hbs_nil)) (hb_st (hbs_cons h_x3_0 (hbs_cons h_x3_1 (hbs_cons h_x3_2 (hbs_cons h_x3_3 (hbs_cons hb_bool (hbs_cons hb_bool hbs_nil)))))))
      refine wp_callE (ρ' := [_, _, _, _, _, _, _, _, _, dI (r4)]) k_r4 rfl rfl rfl rfl ?_
      refine wp_bindE (ρ' := [_, _, _, _, _, _, _, _, _, _, _]) sk_neq rfl rfl ?_
      refine wp_iteC rfl (fun c5 => ?_) (fun c5 => ?_)
      · replace c5 : ¬ ((r4) = ((0 : Nat) : Int)) := of_decide_eq_true c5
        exact wr_ret rfl hb_int
      · replace c5 : ¬ ¬ ((r4) = ((0 : Nat) : Int)) := of_decide_eq_false c5
        refine wp_bindE (ρ' := [_, _, _, _, _, _, _, _, _, _, _, dI ((i1 + 1 : Nat) : Int)]) (sh_add (cap_bd' (by omega))) rfl rfl ?_
        exact wr_jump rfl (ih1 (by omega) (by omega))
    · replace c2 : ¬ (((i1 : Nat) : Int) < ((a_4.es.length : Nat) : Int)) := of_decide_eq_false c2
      exact wr_ret rfl hb_int
end Go.Proofs.YtonebjbldlokmaaGreat
