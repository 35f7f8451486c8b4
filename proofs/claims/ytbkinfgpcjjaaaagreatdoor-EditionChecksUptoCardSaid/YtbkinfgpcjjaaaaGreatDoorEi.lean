/- The check of orthographies, by hand. Conditions: none. -/
import Derived.Test.YtbkinfgpcjjaaaaGreatDoorEh
set_option linter.all false
namespace Go.Proofs.YtbkinfgpcjjaaaaGreatDoor
open Go Go.Am Go.Proofs Go.Am.Tt
def bdl (i : Nat) : Nat := i * 1048576
theorem bdl_eq (i : Nat) : bdl i = i * 1048576 := rfl
attribute [local irreducible] Go.Am.wp Go.Am.TOp.eval bdl
theorem t89 {a : D} (h_a : HasB 300000000 (.str) a) : ∃ d, HasB 300000000 (.bool) d ∧ Holds EE 89 [a] d :=
  sp1 (S := e89.S) (sp_of tabB (by kernel_rfl)) rfl rfl rfl rfl (hbs_cons h_a hbs_nil)
theorem t91 {a : D} (h_a : HasB 300000000 (.str) a) : ∃ d, HasB 300000000 (.bool) d ∧ Holds EE 91 [a] d :=
  sp1 (S := e91.S) (sp_of tabB (by kernel_rfl)) rfl rfl rfl rfl (hbs_cons h_a hbs_nil)
theorem t92 {a b : D} (h_a : HasB 300000000 (.sl 9 1 (.str)) a) (h_b : HasB 300000000 (.str) b) : ∃ d, HasB 300000000 (.bool) d ∧ Holds EE 92 [a, b] d :=
  sp1 (S := e92.S) (sp_of tabB (by kernel_rfl)) rfl rfl rfl rfl (hbs_cons h_a (hbs_cons h_b hbs_nil))
theorem t90 {a b c : D} (h_a : HasB 300000000 (.st [.sl 92 2 (.st [.str, .int .i64])]) a) (h_b : HasB 300000000 (.st [.str, .sl 94 2 (.st [.str, .sl 3 1 (.int .i64)]), .sl 71 1 (.sl 9 1 (.str))]) b) (h_c : HasB 300000000 (.int .i64) c) (p0 : ∀ n : Int, c = dI n → 0 ≤ n) (p1 : ∀ cs x n, b = .agg cs → cs[1]? = some x → c = dI n → n < (x.es.length : Int)) : ∃ d, HasB 300000000 (.int .i64) d ∧ Holds EE 90 [a, b, c] d := by
  obtain ⟨rs, h1, _, h2⟩ := (sp_of tabB (f := 90) (S := e90.S) (by kernel_rfl)) [a, b, c] (hasBs_N rfl (hbs_cons h_a (hbs_cons h_b (hbs_cons h_c hbs_nil)))) (by
    obtain ⟨n, rfl⟩ := h_c
    obtain ⟨_, rfl, y0, _, rfl, _, y1, _, rfl, hy, y2, _, rfl, _, rfl⟩ := h_b
    have q0 := p0 _ rfl
    have q1 := p1 _ y1 _ rfl rfl rfl
    have e1 : valD y1 = (y1.es.length : Int) := by
      simp only [HasB] at hy
      rcases hy with rfl | ⟨es, rfl, _⟩ <;> rfl
    intro q hq
    rcases List.mem_cons.1 hq with rfl | hq
    · show (0 : Int) ≤ n + 0; omega
    · rcases List.mem_cons.1 hq with rfl | hq
      · show n ≤ valD y1 + -1; omega
      · cases hq)
  have h1 : HasNs [.int .i64] rs := h1
  simp only [HasNs] at h1
  obtain ⟨d, _, rfl, h3, rfl⟩ := h1
  exact ⟨d, hasN_B rfl h3, h2⟩
theorem t39 {a b : D} (h_a : HasB 300000000 (.st [.sl 92 2 (.st [.str, .int .i64])]) a) (h_b : HasB 300000000 (.st [.str, .sl 94 2 (.st [.str, .sl 3 1 (.int .i64)]), .sl 71 1 (.sl 9 1 (.str))]) b) (hq : ∀ cs, b = .agg cs → ∀ x, cs[2]? = some x → ∀ y ∈ x.es, y.es.length ≤ 1048576) : ∃ d, (HasB 300000000 (.int .i64)) d ∧ Holds EE 39 [a, b] d := by
  suffices h : ∃ d, (HasB 300000000 (.int .i64)) d ∧ Goes EE (Holds EE) u39Ts 0 [a, b] d by
    obtain ⟨d, hd, hg⟩ := h; exact ⟨d, hd, u39 rfl hg⟩
  obtain ⟨_, rfl, a_0, _, rfl, h_a_0, rfl⟩ := h_a
  have i_a_0 := isSl_ofB h_a_0
  have b_a_0 := len_leB h_a_0
  obtain ⟨_, rfl, _, _, rfl, ⟨b_0, rfl, hs_b_0⟩, b_1, _, rfl, h_b_1, b_2, _, rfl, h_b_2, rfl⟩ := h_b
  have i_b_1 := isSl_ofB h_b_1
  have b_b_1 := len_leB h_b_1
  have i_b_2 := isSl_ofB h_b_2
  have b_b_2 := len_leB h_b_2
  replace hq := hq _ rfl _ rfl
  refine goes_R (R := (HasB 300000000 (.int .i64))) ?_
  show wp _ _ _ u39T0 _
  refine wp_bindE (ρ' := [_, _, .agg [a_0]]) (sh_chkW rfl) rfl rfl ?_
  refine wp_bindE (ρ' := [_, _, _, .agg [.leaf (.string b_0), b_1, b_2]]) (sh_chkW rfl) rfl rfl ?_
  refine wp_bindE (ρ' := [_, _, _, _, .leaf (.string b_0)]) (sh_fld1 (off := 0) rfl rfl) rfl rfl ?_
  obtain ⟨_, ⟨r0, rfl⟩, k_r0⟩ := t89 (a := .leaf (.string b_0)) (hb_str hs_b_0)
  refine wp_callE (ρ' := [_, _, _, _, _, dB (r0)]) k_r0 rfl rfl rfl rfl ?_
  refine wp_bindE (ρ' := [_, _, _, _, _, _, dB (!(r0))]) sh_not rfl rfl ?_
  refine wp_iteC rfl (fun c1 => ?_) (fun c1 => ?_)
  · clear c1
    exact wr_ret rfl hb_int
  · clear c1
    refine wp_bindE (ρ' := [_, _, _, _, _, _, _, b_1]) (sh_fld1 (off := 1) rfl i_b_1.one) rfl rfl ?_
    refine wp_bindE (ρ' := [_, _, _, _, _, _, _, _, dI ((b_1.es.length : Nat) : Int)]) (sh_len i_b_1) rfl rfl ?_
    refine wp_bindE (ρ' := [_, _, _, _, _, _, _, _, _, _]) sk_gtr rfl rfl ?_
    refine wp_iteC rfl (fun c2 => ?_) (fun c2 => ?_)
    · replace c2 : ((b_1.es.length : Nat) : Int) > ((100 : Nat) : Int) := of_decide_eq_true c2
      exact wr_ret rfl hb_int
    · replace c2 : ¬ (((b_1.es.length : Nat) : Int) > ((100 : Nat) : Int)) := of_decide_eq_false c2
      refine wr_jump rfl (loop_up (P := fun i3 => i3 ≤ b_1.es.length → ∃ d, (HasB 300000000 (.int .i64)) d ∧ Goes EE (Holds EE) u39Ts 1 [dI ((i3 : Nat) : Int), .agg [a_0], .agg [.leaf (.string b_0), b_1, b_2]] d) (b_1.es.length) (fun i3 ih3 => ?_) 0 (by omega))
      intro hn3
      refine goes_R (R := (HasB 300000000 (.int .i64))) ?_
      show wp _ _ _ u39T1 _
      refine wp_bindE (ρ' := [_, _, _, b_1]) (sh_fld1 (off := 1) rfl i_b_1.one) rfl rfl ?_
      refine wp_bindE (ρ' := [_, _, _, _, dI ((b_1.es.length : Nat) : Int)]) (sh_len i_b_1) rfl rfl ?_
      refine wp_bindE (ρ' := [_, _, _, _, _, _]) sk_lss rfl rfl ?_
      refine wp_iteC rfl (fun c4 => ?_) (fun c4 => ?_)
      · replace c4 : ((i3 : Nat) : Int) < ((b_1.es.length : Nat) : Int) := of_decide_eq_true c4
        obtain ⟨_, ⟨r5, rfl⟩, k_r5⟩ := t90 (a := .agg [a_0]) (b := .agg [.leaf (.string b_0), b_1, b_2]) (c := dI ((i3 : Nat) : Int)) (hb_st (hbs_cons h_a_0 hbs_nil)) (hb_st (hbs_cons (hb_str hs_b_0) (hbs_cons h_b_1 (hbs_cons h_b_2 hbs_nil)))) hb_int (by intro n hn; cases hn; omega) (by intro cs x n hcs hx hn; cases hcs; cases hx; cases hn; omega)
        refine wp_callE (ρ' := [_, _, _, _, _, _, dI (r5)]) k_r5 rfl rfl rfl rfl ?_
        refine wp_bindE (ρ' := [_, _, _, _, _, _, _, _]) sk_neq rfl rfl ?_
        refine wp_iteC rfl (fun c6 => ?_) (fun c6 => ?_)
        · replace c6 : ¬ ((r5) = ((0 : Nat) : Int)) := of_decide_eq_true c6
          exact wr_ret rfl hb_int
        · replace c6 : ¬ ¬ ((r5) = ((0 : Nat) : Int)) := of_decide_eq_false c6
          refine wp_bindE (ρ' := [_, _, _, _, _, _, _, _, dI ((i3 + 1 : Nat) : Int)]) (sh_add (cap_bd' (by omega))) rfl rfl ?_
          exact wr_jump rfl (ih3 (by omega) (by omega))
      · replace c4 : ¬ (((i3 : Nat) : Int) < ((b_1.es.length : Nat) : Int)) := of_decide_eq_false c4
        refine wp_bindE (ρ' := [_, _, _, _, _, _, b_2]) (sh_fld1 (off := 2) rfl i_b_2.one) rfl rfl ?_
        refine wp_bindE (ρ' := [_, _, _, _, _, _, _, dI ((b_2.es.length : Nat) : Int)]) (sh_len i_b_2) rfl rfl ?_
        refine wp_bindE (ρ' := [_, _, _, _, _, _, _, _, _]) sk_gtr rfl rfl ?_
        refine wp_iteC rfl (fun c5 => ?_) (fun c5 => ?_)
        · replace c5 : ((b_2.es.length : Nat) : Int) > ((100 : Nat) : Int) := of_decide_eq_true c5
          exact wr_ret rfl hb_int
        · replace c5 : ¬ (((b_2.es.length : Nat) : Int) > ((100 : Nat) : Int)) := of_decide_eq_false c5
          refine wr_jump rfl (loop_up (P := fun i6 => i6 ≤ b_2.es.length → ∀ v6_0 : D, HasB 300000000 (.sl 9 1 .str) v6_0 → v6_0.es.length ≤ bdl i6 → ∃ d, (HasB 300000000 (.int .i64)) d ∧ Goes EE (Holds EE) u39Ts 2 [v6_0, dI ((i6 : Nat) : Int), .agg [.leaf (.string b_0), b_1, b_2]] d) (b_2.es.length) (fun i6 ih6 => ?_) 0 (by omega) .nil hb_nil (by simp [D.es]))
          intro hn6 v6_0 h_v6_0 z_v6_0
          have r_b := bdl_eq i6
          have s_b := bdl_eq (i6 + 1)
          have i_v6_0 := isSl_ofB h_v6_0
          have b_v6_0 := len_leB h_v6_0
          refine goes_R (R := (HasB 300000000 (.int .i64))) ?_
          show wp _ _ _ u39T2 _
          refine wp_bindE (ρ' := [_, _, _, b_2]) (sh_fld1 (off := 2) rfl i_b_2.one) rfl rfl ?_
          refine wp_bindE (ρ' := [_, _, _, _, dI ((b_2.es.length : Nat) : Int)]) (sh_len i_b_2) rfl rfl ?_
          refine wp_bindE (ρ' := [_, _, _, _, _, _]) sk_lss rfl rfl ?_
          refine wp_iteC rfl (fun c7 => ?_) (fun c7 => ?_)
          · replace c7 : ((i6 : Nat) : Int) < ((b_2.es.length : Nat) : Int) := of_decide_eq_true c7
            refine wp_bindE (ρ' := [_, _, _, _, _, _, b_2]) (sh_fld1 (off := 2) rfl i_b_2.one) rfl rfl ?_
            obtain ⟨x8, e_x8⟩ := get_at (d := b_2) (s := ((i6 : Nat) : Int)) (by omega) (by omega)
            have bb_x8 := hq _ (List.mem_of_getElem? e_x8)
            have h_x8 := (elem_ofB h_b_2 e_x8)
            have i_x8 := isSl_ofB h_x8
            have b_x8 := len_leB h_x8
            refine wp_bindE (ρ' := [_, _, _, _, _, _, _, dB (true)]) (si_inr (by omega) e_x8) rfl rfl ?_
            refine wp_bindE (ρ' := [_, _, _, _, _, _, _, _, x8]) (si_elem1 i_b_2 (by omega) e_x8 i_x8.one) rfl rfl ?_
            refine wp_bindE (ρ' := [_, _, _, _, _, _, _, _, _, dI ((x8.es.length : Nat) : Int)]) (sh_len i_x8) rfl rfl ?_
            refine wp_bindE (ρ' := [_, _, _, _, _, _, _, _, _, _, _]) sk_eql rfl rfl ?_
            refine wp_iteC rfl (fun c9 => ?_) (fun c9 => ?_)
            · replace c9 : ((x8.es.length : Nat) : Int) = ((0 : Nat) : Int) := of_decide_eq_true c9
              exact wr_ret rfl hb_int
            · replace c9 : ¬ (((x8.es.length : Nat) : Int) = ((0 : Nat) : Int)) := of_decide_eq_false c9
              refine wr_jump rfl (loop_up (P := fun i10 => i10 ≤ x8.es.length → ∀ v10_0 : D, HasB 300000000 (.sl 9 1 .str) v10_0 → v10_0.es.length ≤ bdl i6 + i10 → ∃ d, (HasB 300000000 (.int .i64)) d ∧ Goes EE (Holds EE) u39Ts 3 [v10_0, dI ((i6 : Nat) : Int), dI ((i10 : Nat) : Int), .agg [.leaf (.string b_0), b_1, b_2]] d) (x8.es.length) (fun i10 ih10 => ?_) 0 (by omega) v6_0 h_v6_0 (by omega))
              intro hn10 v10_0 h_v10_0 z_v10_0
              have i_v10_0 := isSl_ofB h_v10_0
              have b_v10_0 := len_leB h_v10_0
              refine goes_R (R := (HasB 300000000 (.int .i64))) ?_
              show wp _ _ _ u39T3 _
              refine wp_bindE (ρ' := [_, _, _, _, b_2]) (sh_fld1 (off := 2) rfl i_b_2.one) rfl rfl ?_
              refine wp_bindE (ρ' := [_, _, _, _, _, dB (true)]) (si_inr (by omega) e_x8) rfl rfl ?_
              refine wp_bindE (ρ' := [_, _, _, _, _, _, x8]) (si_elem1 i_b_2 (by omega) e_x8 i_x8.one) rfl rfl ?_
              refine wp_bindE (ρ' := [_, _, _, _, _, _, _, dI ((x8.es.length : Nat) : Int)]) (sh_len i_x8) rfl rfl ?_
              refine wp_bindE (ρ' := [_, _, _, _, _, _, _, _, _]) sk_lss rfl rfl ?_
              refine wp_iteC rfl (fun c11 => ?_) (fun c11 => ?_)
              · replace c11 : ((i10 : Nat) : Int) < ((x8.es.length : Nat) : Int) := of_decide_eq_true c11
                refine wp_bindE (ρ' := [_, _, _, _, _, _, _, _, _, b_2]) (sh_fld1 (off := 2) rfl i_b_2.one) rfl rfl ?_
                refine wp_bindE (ρ' := [_, _, _, _, _, _, _, _, _, _, dB (true)]) (si_inr (by omega) e_x8) rfl rfl ?_
                refine wp_bindE (ρ' := [_, _, _, _, _, _, _, _, _, _, _, x8]) (si_elem1 i_b_2 (by omega) e_x8 i_x8.one) rfl rfl ?_
                obtain ⟨x12, e_x12⟩ := get_at (d := x8) (s := ((i10 : Nat) : Int)) (by omega) (by omega)
                obtain ⟨x12, rfl, hs_x12⟩ := (elem_ofB h_x8 e_x12)
                refine wp_bindE (ρ' := [_, _, _, _, _, _, _, _, _, _, _, _, dB (true)]) (si_inr (by omega) e_x12) rfl rfl ?_
                refine wp_bindE (ρ' := [_, _, _, _, _, _, _, _, _, _, _, _, _, .leaf (.string x12)]) (si_elem1 i_x8 (by omega) e_x12 rfl) rfl rfl ?_
                obtain ⟨_, ⟨r13, rfl⟩, k_r13⟩ := t91 (a := .leaf (.string x12)) (hb_str hs_x12)
                refine wp_callE (ρ' := [_, _, _, _, _, _, _, _, _, _, _, _, _, _, dB (r13)]) k_r13 rfl rfl rfl rfl ?_
                refine wp_bindE (ρ' := [_, _, _, _, _, _, _, _, _, _, _, _, _, _, _, dB (!(r13))]) sh_not rfl rfl ?_
                refine wp_iteC rfl (fun c14 => ?_) (fun c14 => ?_)
                · clear c14
                  exact wr_ret rfl hb_int
                · clear c14
                  obtain ⟨_, ⟨r15, rfl⟩, k_r15⟩ := t92 (a := v10_0) (b := .leaf (.string x12)) h_v10_0 (hb_str hs_x12)
                  refine wp_callE (ρ' := [_, _, _, _, _, _, _, _, _, _, _, _, _, _, _, _, dB (r15)]) k_r15 rfl rfl rfl rfl ?_
                  refine wp_iteC rfl (fun c16 => ?_) (fun c16 => ?_)
                  · clear c16
                    exact wr_ret rfl hb_int
                  · clear c16
                    refine wp_bindE (ρ' := [_, _, _, _, _, _, _, _, _, _, _, _, _, _, _, _, _, .leaf (.string x12)]) (sh_chk1 rfl) rfl rfl ?_
                    obtain ⟨y17, ev_y17, l_y17, h_y17, n_y17⟩ := vs_lit (E := EE) (B := 300000000) (el := 9) (sz := 1) (xs := [.leaf (.string x12)]) (e := .str) rfl (all_c (hb_str hs_x12) all_n) rfl rfl
                    simp only [List.length_cons, List.length_nil] at l_y17
                    have i_y17 := isSl_ofB h_y17
                    have b_y17 := len_leB h_y17
                    refine wp_bindE (ρ' := [_, _, _, _, _, _, _, _, _, _, _, _, _, _, _, _, _, _, y17]) ev_y17 rfl rfl ?_
                    obtain ⟨y18, ev_y18, l_y18, h_y18⟩ := vs_app (E := EE) (el := 9) (sz := 1) (bytes := 16) h_v10_0 h_y17 (by decide) (by omega)
                    have i_y18 := isSl_ofB h_y18
                    have b_y18 := len_leB h_y18
                    refine wp_bindE (ρ' := [_, _, _, _, _, _, _, _, _, _, _, _, _, _, _, _, _, _, _, y18]) ev_y18 rfl rfl ?_
                    refine wp_bindE (ρ' := [_, _, _, _, _, _, _, _, _, _, _, _, _, _, _, _, _, _, _, _, dI ((i10 + 1 : Nat) : Int)]) (sh_add (cap_bd' (by omega))) rfl rfl ?_
                    exact wr_jump rfl (ih10 (by omega) (by omega) y18 h_y18 (by omega))
              · replace c11 : ¬ (((i10 : Nat) : Int) < ((x8.es.length : Nat) : Int)) := of_decide_eq_false c11
                refine wp_bindE (ρ' := [_, _, _, _, _, _, _, _, _, dI ((i6 + 1 : Nat) : Int)]) (sh_add (cap_bd' (by omega))) rfl rfl ?_
                exact wr_jump rfl (ih6 (by omega) (by omega) v10_0 h_v10_0 (by omega))
          · replace c7 : ¬ (((i6 : Nat) : Int) < ((b_2.es.length : Nat) : Int)) := of_decide_eq_false c7
            exact wr_ret rfl hb_int
def s39 : Tt.Spec := ⟨[n1, (.st [(.str BG), (.sl 94 2 BG (.st [(.str BG), (.sl 3 1 1048576 (.int .i64))])), (.sl 71 1 BG (.sl 9 1 1048576 (.str BG)))])], [(.int .i64)], [], []⟩
theorem h39 : SpOk (Holds EE) 39 s39 := by
  intro ds hd _
  simp only [s39, HasNs] at hd
  obtain ⟨a, _, rfl, ha, b, _, rfl, hb, rfl⟩ := hd
  obtain ⟨d, h1, h2⟩ := t39 (hasN_B rfl ha) (hasN_B rfl hb) (by
    intro cs hcs x hx y hy
    subst hcs
    simp only [HasN, HasNs] at hb
    obtain ⟨_, e, _, _, rfl, _, _, _, rfl, _, l, _, rfl, hl, rfl⟩ := hb
    cases e; cases hx
    rcases hl with rfl | ⟨es, rfl, _, h⟩
    · cases hy
    · rcases h y hy with rfl | ⟨es', rfl, h', _⟩
      · exact Nat.zero_le _
      · exact h')
  exact ⟨[d], by simp only [s39, HasNs]; exact ⟨_, _, rfl, hasB_N rfl h1, rfl⟩, fun q hq => (by cases hq), h2⟩
def tab2 : List (FuncId × Tt.Spec) := (39, s39) :: tabOf tab1 ensB
theorem tab2_ok : ∀ p ∈ tab2, SpOk (Holds EE) p.1 p.2 := allC h39 tabB
end Go.Proofs.YtbkinfgpcjjaaaaGreatDoor
