/- Functions that always give something, by hand. Conditions: none. -/
import Derived.Test.YtbkinfgpcjjaaaaGreatDoorEc
import Derived.Test.YtbkinfgpcjjaaaaGreatDoorEd
import Derived.Test.YtbkinfgpcjjaaaaGreatDoorUv
set_option linter.all false
namespace Go.Proofs.YtbkinfgpcjjaaaaGreatDoor
open Go Go.Am Go.Proofs Go.Am.Tt
attribute [local irreducible] Go.Am.wp Go.Am.TOp.eval
theorem cv_5_3 (m : Int) : ∃ n : Int, TOp.eval EE (.conv 5 3) [.leaf (.int .u8 m)] = some (dI n) := ⟨IntKind.i64.wrap m, by kernel_rfl⟩
theorem op_rem_3_64 (m : Int) {x y : Operand} : ∃ n : Int, TOp.eval EE (.bin .rem 3 x y) [dI m, dI ((64 : Nat) : Int)] = some (dI n) := ⟨m.tmod 64, by kernel_rfl⟩
theorem t277 {a : D} (h_a : HasB 300000000 (.int .i64) a) : ∃ d, HasB 300000000 (.bool) d ∧ Holds EE 277 [a] d :=
  sp1 (S := e277.S) (sp_of tabA (by kernel_rfl)) rfl rfl rfl rfl (hbs_cons h_a hbs_nil)
theorem t278 {a : D} (h_a : HasB 300000000 (.int .i64) a) : ∃ d, HasB 300000000 (.str) d ∧ Holds EE 278 [a] d :=
  sp1 (S := e278.S) (sp_of tabA (by kernel_rfl)) rfl rfl rfl rfl (hbs_cons h_a hbs_nil)
theorem t98 {a b : D} (h_a : HasB 300000000 (.sl 106 8 (.st [.int .i64, .sl 3 1 (.int .i64), .int .i64, .sl 31 1 (.sl 3 1 (.int .i64)), .int .i64, .sl 98 2 (.st [.str, .str]), .sl 204 2 (.st [.int .i64, .int .i64]), .sl 101 2 (.st [.int .i64, .int .i64])])) a) (h_b : HasB 300000000 (.int .i64) b) : ∃ d, (∃ n : Int, d = dI n ∧ -1 ≤ n ∧ n < (a.es.length : Int)) ∧ Holds EE 98 [a, b] d := by
  obtain ⟨rs, h1, hp, h2⟩ := (sp_of tabA (f := 98) (S := e98.S) (by kernel_rfl)) [a, b] (hasBs_N rfl (hbs_cons h_a (hbs_cons h_b hbs_nil))) (fun q hq => by cases hq)
  have h1 : HasNs [.int .i64] rs := h1
  simp only [HasNs] at h1
  obtain ⟨d, _, rfl, ⟨n, rfl⟩, rfl⟩ := h1
  have e1 : valD a = (a.es.length : Int) := by
    simp only [HasB] at h_a
    rcases h_a with rfl | ⟨es, rfl, _⟩ <;> rfl
  have q1 : (0 : Int) ≤ n + 1 := hp _ List.mem_cons_self
  have q2 : n ≤ valD a + -1 := hp _ (List.mem_cons_of_mem _ List.mem_cons_self)
  exact ⟨_, ⟨n, rfl, by omega, by omega⟩, h2⟩
theorem t232 {a b : D} (h_a : HasB 300000000 (.str) a) (h_b : HasB 300000000 (.int .i64) b) (p0 : ∀ n : Int, b = dI n → 0 ≤ n) (p1 : ∀ (s : ByteArray) (n : Int), a = .leaf (.string s) → b = dI n → n < (s.size : Int)) : ∃ d, (fun d => ∃ p n : Int, d = .tup [dI p, dI n] ∧ 0 ≤ n ∧ n ≤ 4) d ∧ Holds EE 232 [a, b] d := by
  suffices h : ∃ d, (fun d => ∃ p n : Int, d = .tup [dI p, dI n] ∧ 0 ≤ n ∧ n ≤ 4) d ∧ Goes EE (Holds EE) u232Ts 0 [a, b] d by
    obtain ⟨d, hd, hg⟩ := h; exact ⟨d, hd, u232 rfl hg⟩
  obtain ⟨a, rfl, hs_a⟩ := h_a
  obtain ⟨b, rfl⟩ := h_b
  replace p0 := p0 _ rfl
  replace p1 := p1 _ _ rfl rfl
  refine goes_R (R := (fun d => ∃ p n : Int, d = .tup [dI p, dI n] ∧ 0 ≤ n ∧ n ≤ 4)) ?_
  show wp _ _ _ u232T0 _
  obtain ⟨w0, p0, q0, ew0⟩ := ss_chr (E := EE) (s := a) (i := (b)) (by omega) (by omega)
  refine wp_bindE (ρ' := [_, _, .leaf (.int .u8 (w0))]) ew0 rfl rfl ?_
  obtain ⟨w1, ew1⟩ := cv_5_3 (w0)
  refine wp_bindE (ρ' := [_, _, _, dI (w1)]) ew1 rfl rfl ?_
  refine wp_bindE (ρ' := [_, _, _, _, _]) sk_geq rfl rfl ?_
  refine wp_iteC rfl (fun c2 => ?_) (fun c2 => ?_)
  · replace c2 : (w1) ≥ ((240 : Nat) : Int) := of_decide_eq_true c2
    obtain ⟨w3, ew3⟩ : ∃ w : Int, IntKind.i64.wrap ((w1) - ((240 : Nat) : Int)) = w := ⟨_, rfl⟩
    refine wp_bindE (ρ' := [_, _, _, _, _, dI (w3)]) (by rw [← ew3]; exact si_subW) rfl rfl ?_
    refine wp_bindE (ρ' := [_, _, _, _, _, _, dI ((b) + ((4 : Nat) : Int))]) (si_add (by omega)) rfl rfl ?_
    refine wp_bindE (ρ' := [_, _, _, _, _, _, _, dI ((a.size : Nat) : Int)]) ss_len rfl rfl ?_
    refine wp_bindE (ρ' := [_, _, _, _, _, _, _, _, _]) sk_gtr rfl rfl ?_
    refine wp_iteC rfl (fun c4 => ?_) (fun c4 => ?_)
    · replace c4 : ((b) + ((4 : Nat) : Int)) > ((a.size : Nat) : Int) := of_decide_eq_true c4
      exact wr_ret rfl ⟨_, _, rfl, by omega, by omega⟩
    · replace c4 : ¬ (((b) + ((4 : Nat) : Int)) > ((a.size : Nat) : Int)) := of_decide_eq_false c4
      refine wr_jump rfl (loop_up (P := fun i5 => 1 ≤ i5 → ∀ v5_2 : Int, ∃ d, (fun d => ∃ p n : Int, d = .tup [dI p, dI n] ∧ 0 ≤ n ∧ n ≤ 4) d ∧ Goes EE (Holds EE) u232Ts 1 [.leaf (.string a), dI (b), dI (v5_2), dI ((4 : Nat) : Int), dI ((i5 : Nat) : Int)] d) (4) (fun i5 ih5 => ?_) 1 (by omega) _)
      intro hn5 v5_2
      refine goes_R (R := (fun d => ∃ p n : Int, d = .tup [dI p, dI n] ∧ 0 ≤ n ∧ n ≤ 4)) ?_
      show wp _ _ _ u232T1 _
      refine wp_bindE (ρ' := [_, _, _, _, _, _]) sk_lss rfl rfl ?_
      refine wp_iteC rfl (fun c6 => ?_) (fun c6 => ?_)
      · replace c6 : ((i5 : Nat) : Int) < ((4 : Nat) : Int) := of_decide_eq_true c6
        obtain ⟨w7, ew7⟩ : ∃ w : Int, IntKind.i64.wrap ((v5_2) * ((64 : Nat) : Int)) = w := ⟨_, rfl⟩
        refine wp_bindE (ρ' := [_, _, _, _, _, _, dI (w7)]) (by rw [← ew7]; exact si_mulW) rfl rfl ?_
        refine wp_bindE (ρ' := [_, _, _, _, _, _, _, dI ((b) + ((i5 : Nat) : Int))]) (si_add (by omega)) rfl rfl ?_
        obtain ⟨w8, p8, q8, ew8⟩ := ss_chr (E := EE) (s := a) (i := ((b) + ((i5 : Nat) : Int))) (by omega) (by omega)
        refine wp_bindE (ρ' := [_, _, _, _, _, _, _, _, .leaf (.int .u8 (w8))]) ew8 rfl rfl ?_
        obtain ⟨w9, ew9⟩ := cv_5_3 (w8)
        refine wp_bindE (ρ' := [_, _, _, _, _, _, _, _, _, dI (w9)]) ew9 rfl rfl ?_
        obtain ⟨w10, ew10⟩ := op_rem_3_64 (w9)
        refine wp_bindE (ρ' := [_, _, _, _, _, _, _, _, _, _, dI (w10)]) ew10 rfl rfl ?_
        obtain ⟨w11, ew11⟩ : ∃ w : Int, IntKind.i64.wrap ((w7) + (w10)) = w := ⟨_, rfl⟩
        refine wp_bindE (ρ' := [_, _, _, _, _, _, _, _, _, _, _, dI (w11)]) (by rw [← ew11]; exact si_addW) rfl rfl ?_
        refine wp_bindE (ρ' := [_, _, _, _, _, _, _, _, _, _, _, _, dI ((i5 + 1 : Nat) : Int)]) (sh_add (cap_bd' (by omega))) rfl rfl ?_
        exact wr_jump rfl (ih5 (by omega) (by omega) _)
      · replace c6 : ¬ (((i5 : Nat) : Int) < ((4 : Nat) : Int)) := of_decide_eq_false c6
        obtain ⟨_, ⟨r7, rfl⟩, k_r7⟩ := t277 (a := dI (v5_2)) hb_int
        refine wp_callE (ρ' := [_, _, _, _, _, _, dB (r7)]) k_r7 rfl rfl rfl rfl ?_
        refine wp_bindE (ρ' := [_, _, _, _, _, _, _, dB (!(r7))]) sh_not rfl rfl ?_
        refine wp_iteC rfl (fun c8 => ?_) (fun c8 => ?_)
        · clear c8
          exact wr_ret rfl ⟨_, _, rfl, by omega, by omega⟩
        · clear c8
          obtain ⟨_, ⟨r9, rfl, hs_r9⟩, k_r9⟩ := t278 (a := dI (v5_2)) hb_int
          refine wp_callE (ρ' := [_, _, _, _, _, _, _, _, .leaf (.string r9)]) k_r9 rfl rfl rfl rfl ?_
          refine wp_bindE (ρ' := [_, _, _, _, _, _, _, _, _, dI ((b) + ((4 : Nat) : Int))]) (si_add (by omega)) rfl rfl ?_
          obtain ⟨s10, hs_s10, ev10⟩ := vs_sub (E := EE) (B := 300000000) (s := a) (i := (b)) (j := ((b) + ((4 : Nat) : Int))) (by omega) (by omega) (by omega) (by omega)
          refine wp_bindE (ρ' := [_, _, _, _, _, _, _, _, _, _, .leaf (.string s10)]) ev10 rfl rfl ?_
          refine wp_bindE (ρ' := [_, _, _, _, _, _, _, _, _, _, _, dB (!(r9 == s10))]) sh_strN rfl rfl ?_
          refine wp_iteC rfl (fun c11 => ?_) (fun c11 => ?_)
          · clear c11
            exact wr_ret rfl ⟨_, _, rfl, by omega, by omega⟩
          · clear c11
            exact wr_ret rfl ⟨_, _, rfl, by omega, by omega⟩
  · replace c2 : ¬ ((w1) ≥ ((240 : Nat) : Int)) := of_decide_eq_false c2
    refine wp_bindE (ρ' := [_, _, _, _, _, _]) sk_geq rfl rfl ?_
    refine wp_iteC rfl (fun c3 => ?_) (fun c3 => ?_)
    · replace c3 : (w1) ≥ ((224 : Nat) : Int) := of_decide_eq_true c3
      obtain ⟨w4, ew4⟩ : ∃ w : Int, IntKind.i64.wrap ((w1) - ((224 : Nat) : Int)) = w := ⟨_, rfl⟩
      refine wp_bindE (ρ' := [_, _, _, _, _, _, dI (w4)]) (by rw [← ew4]; exact si_subW) rfl rfl ?_
      refine wp_bindE (ρ' := [_, _, _, _, _, _, _, dI ((b) + ((3 : Nat) : Int))]) (si_add (by omega)) rfl rfl ?_
      refine wp_bindE (ρ' := [_, _, _, _, _, _, _, _, dI ((a.size : Nat) : Int)]) ss_len rfl rfl ?_
      refine wp_bindE (ρ' := [_, _, _, _, _, _, _, _, _, _]) sk_gtr rfl rfl ?_
      refine wp_iteC rfl (fun c5 => ?_) (fun c5 => ?_)
      · replace c5 : ((b) + ((3 : Nat) : Int)) > ((a.size : Nat) : Int) := of_decide_eq_true c5
        exact wr_ret rfl ⟨_, _, rfl, by omega, by omega⟩
      · replace c5 : ¬ (((b) + ((3 : Nat) : Int)) > ((a.size : Nat) : Int)) := of_decide_eq_false c5
        refine wr_jump rfl (loop_up (P := fun i6 => 1 ≤ i6 → ∀ v6_2 : Int, ∃ d, (fun d => ∃ p n : Int, d = .tup [dI p, dI n] ∧ 0 ≤ n ∧ n ≤ 4) d ∧ Goes EE (Holds EE) u232Ts 1 [.leaf (.string a), dI (b), dI (v6_2), dI ((3 : Nat) : Int), dI ((i6 : Nat) : Int)] d) (3) (fun i6 ih6 => ?_) 1 (by omega) _)
        intro hn6 v6_2
        refine goes_R (R := (fun d => ∃ p n : Int, d = .tup [dI p, dI n] ∧ 0 ≤ n ∧ n ≤ 4)) ?_
        show wp _ _ _ u232T1 _
        refine wp_bindE (ρ' := [_, _, _, _, _, _]) sk_lss rfl rfl ?_
        refine wp_iteC rfl (fun c7 => ?_) (fun c7 => ?_)
        · replace c7 : ((i6 : Nat) : Int) < ((3 : Nat) : Int) := of_decide_eq_true c7
          obtain ⟨w8, ew8⟩ : ∃ w : Int, IntKind.i64.wrap ((v6_2) * ((64 : Nat) : Int)) = w := ⟨_, rfl⟩
          refine wp_bindE (ρ' := [_, _, _, _, _, _, dI (w8)]) (by rw [← ew8]; exact si_mulW) rfl rfl ?_
          refine wp_bindE (ρ' := [_, _, _, _, _, _, _, dI ((b) + ((i6 : Nat) : Int))]) (si_add (by omega)) rfl rfl ?_
          obtain ⟨w9, p9, q9, ew9⟩ := ss_chr (E := EE) (s := a) (i := ((b) + ((i6 : Nat) : Int))) (by omega) (by omega)
          refine wp_bindE (ρ' := [_, _, _, _, _, _, _, _, .leaf (.int .u8 (w9))]) ew9 rfl rfl ?_
          obtain ⟨w10, ew10⟩ := cv_5_3 (w9)
          refine wp_bindE (ρ' := [_, _, _, _, _, _, _, _, _, dI (w10)]) ew10 rfl rfl ?_
          obtain ⟨w11, ew11⟩ := op_rem_3_64 (w10)
          refine wp_bindE (ρ' := [_, _, _, _, _, _, _, _, _, _, dI (w11)]) ew11 rfl rfl ?_
          obtain ⟨w12, ew12⟩ : ∃ w : Int, IntKind.i64.wrap ((w8) + (w11)) = w := ⟨_, rfl⟩
          refine wp_bindE (ρ' := [_, _, _, _, _, _, _, _, _, _, _, dI (w12)]) (by rw [← ew12]; exact si_addW) rfl rfl ?_
          refine wp_bindE (ρ' := [_, _, _, _, _, _, _, _, _, _, _, _, dI ((i6 + 1 : Nat) : Int)]) (sh_add (cap_bd' (by omega))) rfl rfl ?_
          exact wr_jump rfl (ih6 (by omega) (by omega) _)
        · replace c7 : ¬ (((i6 : Nat) : Int) < ((3 : Nat) : Int)) := of_decide_eq_false c7
          obtain ⟨_, ⟨r8, rfl⟩, k_r8⟩ := t277 (a := dI (v6_2)) hb_int
          refine wp_callE (ρ' := [_, _, _, _, _, _, dB (r8)]) k_r8 rfl rfl rfl rfl ?_
          refine wp_bindE (ρ' := [_, _, _, _, _, _, _, dB (!(r8))]) sh_not rfl rfl ?_
          refine wp_iteC rfl (fun c9 => ?_) (fun c9 => ?_)
          · clear c9
            exact wr_ret rfl ⟨_, _, rfl, by omega, by omega⟩
          · clear c9
            obtain ⟨_, ⟨r10, rfl, hs_r10⟩, k_r10⟩ := t278 (a := dI (v6_2)) hb_int
            refine wp_callE (ρ' := [_, _, _, _, _, _, _, _, .leaf (.string r10)]) k_r10 rfl rfl rfl rfl ?_
            refine wp_bindE (ρ' := [_, _, _, _, _, _, _, _, _, dI ((b) + ((3 : Nat) : Int))]) (si_add (by omega)) rfl rfl ?_
            obtain ⟨s11, hs_s11, ev11⟩ := vs_sub (E := EE) (B := 300000000) (s := a) (i := (b)) (j := ((b) + ((3 : Nat) : Int))) (by omega) (by omega) (by omega) (by omega)
            refine wp_bindE (ρ' := [_, _, _, _, _, _, _, _, _, _, .leaf (.string s11)]) ev11 rfl rfl ?_
            refine wp_bindE (ρ' := [_, _, _, _, _, _, _, _, _, _, _, dB (!(r10 == s11))]) sh_strN rfl rfl ?_
            refine wp_iteC rfl (fun c12 => ?_) (fun c12 => ?_)
            · clear c12
              exact wr_ret rfl ⟨_, _, rfl, by omega, by omega⟩
            · clear c12
              exact wr_ret rfl ⟨_, _, rfl, by omega, by omega⟩
    · replace c3 : ¬ ((w1) ≥ ((224 : Nat) : Int)) := of_decide_eq_false c3
      refine wp_bindE (ρ' := [_, _, _, _, _, _, _]) sk_geq rfl rfl ?_
      refine wp_iteC rfl (fun c4 => ?_) (fun c4 => ?_)
      · replace c4 : (w1) ≥ ((192 : Nat) : Int) := of_decide_eq_true c4
        obtain ⟨w5, ew5⟩ : ∃ w : Int, IntKind.i64.wrap ((w1) - ((192 : Nat) : Int)) = w := ⟨_, rfl⟩
        refine wp_bindE (ρ' := [_, _, _, _, _, _, _, dI (w5)]) (by rw [← ew5]; exact si_subW) rfl rfl ?_
        refine wp_bindE (ρ' := [_, _, _, _, _, _, _, _, dI ((b) + ((2 : Nat) : Int))]) (si_add (by omega)) rfl rfl ?_
        refine wp_bindE (ρ' := [_, _, _, _, _, _, _, _, _, dI ((a.size : Nat) : Int)]) ss_len rfl rfl ?_
        refine wp_bindE (ρ' := [_, _, _, _, _, _, _, _, _, _, _]) sk_gtr rfl rfl ?_
        refine wp_iteC rfl (fun c6 => ?_) (fun c6 => ?_)
        · replace c6 : ((b) + ((2 : Nat) : Int)) > ((a.size : Nat) : Int) := of_decide_eq_true c6
          exact wr_ret rfl ⟨_, _, rfl, by omega, by omega⟩
        · replace c6 : ¬ (((b) + ((2 : Nat) : Int)) > ((a.size : Nat) : Int)) := of_decide_eq_false c6
          refine wr_jump rfl (loop_up (P := fun i7 => 1 ≤ i7 → ∀ v7_2 : Int, ∃ d, (fun d => ∃ p n : Int, d = .tup [dI p, dI n] ∧ 0 ≤ n ∧ n ≤ 4) d ∧ Goes EE (Holds EE) u232Ts 1 [.leaf (.string a), dI (b), dI (v7_2), dI ((2 : Nat) : Int), dI ((i7 : Nat) : Int)] d) (2) (fun i7 ih7 => ?_) 1 (by omega) _)
          intro hn7 v7_2
          refine goes_R (R := (fun d => ∃ p n : Int, d = .tup [dI p, dI n] ∧ 0 ≤ n ∧ n ≤ 4)) ?_
          show wp _ _ _ u232T1 _
          refine wp_bindE (ρ' := [_, _, _, _, _, _]) sk_lss rfl rfl ?_
          refine wp_iteC rfl (fun c8 => ?_) (fun c8 => ?_)
          · replace c8 : ((i7 : Nat) : Int) < ((2 : Nat) : Int) := of_decide_eq_true c8
            obtain ⟨w9, ew9⟩ : ∃ w : Int, IntKind.i64.wrap ((v7_2) * ((64 : Nat) : Int)) = w := ⟨_, rfl⟩
            refine wp_bindE (ρ' := [_, _, _, _, _, _, dI (w9)]) (by rw [← ew9]; exact si_mulW) rfl rfl ?_
            refine wp_bindE (ρ' := [_, _, _, _, _, _, _, dI ((b) + ((i7 : Nat) : Int))]) (si_add (by omega)) rfl rfl ?_
            obtain ⟨w10, p10, q10, ew10⟩ := ss_chr (E := EE) (s := a) (i := ((b) + ((i7 : Nat) : Int))) (by omega) (by omega)
            refine wp_bindE (ρ' := [_, _, _, _, _, _, _, _, .leaf (.int .u8 (w10))]) ew10 rfl rfl ?_
            obtain ⟨w11, ew11⟩ := cv_5_3 (w10)
            refine wp_bindE (ρ' := [_, _, _, _, _, _, _, _, _, dI (w11)]) ew11 rfl rfl ?_
            obtain ⟨w12, ew12⟩ := op_rem_3_64 (w11)
            refine wp_bindE (ρ' := [_, _, _, _, _, _, _, _, _, _, dI (w12)]) ew12 rfl rfl ?_
            obtain ⟨w13, ew13⟩ : ∃ w : Int, IntKind.i64.wrap ((w9) + (w12)) = w := ⟨_, rfl⟩
            refine wp_bindE (ρ' := [_, _, _, _, _, _, _, _, _, _, _, dI (w13)]) (by rw [← ew13]; exact si_addW) rfl rfl ?_
            refine wp_bindE (ρ' := [_, _, _, _, _, _, _, _, _, _, _, _, dI ((i7 + 1 : Nat) : Int)]) (sh_add (cap_bd' (by omega))) rfl rfl ?_
            exact wr_jump rfl (ih7 (by omega) (by omega) _)
          · replace c8 : ¬ (((i7 : Nat) : Int) < ((2 : Nat) : Int)) := of_decide_eq_false c8
            obtain ⟨_, ⟨r9, rfl⟩, k_r9⟩ := t277 (a := dI (v7_2)) hb_int
            refine wp_callE (ρ' := [_, _, _, _, _, _, dB (r9)]) k_r9 rfl rfl rfl rfl ?_
            refine wp_bindE (ρ' := [_, _, _, _, _, _, _, dB (!(r9))]) sh_not rfl rfl ?_
            refine wp_iteC rfl (fun c10 => ?_) (fun c10 => ?_)
            · clear c10
              exact wr_ret rfl ⟨_, _, rfl, by omega, by omega⟩
            · clear c10
              obtain ⟨_, ⟨r11, rfl, hs_r11⟩, k_r11⟩ := t278 (a := dI (v7_2)) hb_int
              refine wp_callE (ρ' := [_, _, _, _, _, _, _, _, .leaf (.string r11)]) k_r11 rfl rfl rfl rfl ?_
              refine wp_bindE (ρ' := [_, _, _, _, _, _, _, _, _, dI ((b) + ((2 : Nat) : Int))]) (si_add (by omega)) rfl rfl ?_
              obtain ⟨s12, hs_s12, ev12⟩ := vs_sub (E := EE) (B := 300000000) (s := a) (i := (b)) (j := ((b) + ((2 : Nat) : Int))) (by omega) (by omega) (by omega) (by omega)
              refine wp_bindE (ρ' := [_, _, _, _, _, _, _, _, _, _, .leaf (.string s12)]) ev12 rfl rfl ?_
              refine wp_bindE (ρ' := [_, _, _, _, _, _, _, _, _, _, _, dB (!(r11 == s12))]) sh_strN rfl rfl ?_
              refine wp_iteC rfl (fun c13 => ?_) (fun c13 => ?_)
              · clear c13
                exact wr_ret rfl ⟨_, _, rfl, by omega, by omega⟩
              · clear c13
                exact wr_ret rfl ⟨_, _, rfl, by omega, by omega⟩
      · replace c4 : ¬ ((w1) ≥ ((192 : Nat) : Int)) := of_decide_eq_false c4
        refine wp_bindE (ρ' := [_, _, _, _, _, _, _, dI ((b) + ((1 : Nat) : Int))]) (si_add (by omega)) rfl rfl ?_
        refine wp_bindE (ρ' := [_, _, _, _, _, _, _, _, dI ((a.size : Nat) : Int)]) ss_len rfl rfl ?_
        refine wp_bindE (ρ' := [_, _, _, _, _, _, _, _, _, _]) sk_gtr rfl rfl ?_
        refine wp_iteC rfl (fun c5 => ?_) (fun c5 => ?_)
        · replace c5 : ((b) + ((1 : Nat) : Int)) > ((a.size : Nat) : Int) := of_decide_eq_true c5
          exact wr_ret rfl ⟨_, _, rfl, by omega, by omega⟩
        · replace c5 : ¬ (((b) + ((1 : Nat) : Int)) > ((a.size : Nat) : Int)) := of_decide_eq_false c5
          refine wr_jump rfl (loop_up (P := fun i6 => 1 ≤ i6 → ∀ v6_2 : Int, ∃ d, (fun d => ∃ p n : Int, d = .tup [dI p, dI n] ∧ 0 ≤ n ∧ n ≤ 4) d ∧ Goes EE (Holds EE) u232Ts 1 [.leaf (.string a), dI (b), dI (v6_2), dI ((1 : Nat) : Int), dI ((i6 : Nat) : Int)] d) (1) (fun i6 ih6 => ?_) 1 (by omega) _)
          intro hn6 v6_2
          refine goes_R (R := (fun d => ∃ p n : Int, d = .tup [dI p, dI n] ∧ 0 ≤ n ∧ n ≤ 4)) ?_
          show wp _ _ _ u232T1 _
          refine wp_bindE (ρ' := [_, _, _, _, _, _]) sk_lss rfl rfl ?_
          refine wp_iteC rfl (fun c7 => ?_) (fun c7 => ?_)
          · replace c7 : ((i6 : Nat) : Int) < ((1 : Nat) : Int) := of_decide_eq_true c7
            obtain ⟨w8, ew8⟩ : ∃ w : Int, IntKind.i64.wrap ((v6_2) * ((64 : Nat) : Int)) = w := ⟨_, rfl⟩
            refine wp_bindE (ρ' := [_, _, _, _, _, _, dI (w8)]) (by rw [← ew8]; exact si_mulW) rfl rfl ?_
            refine wp_bindE (ρ' := [_, _, _, _, _, _, _, dI ((b) + ((i6 : Nat) : Int))]) (si_add (by omega)) rfl rfl ?_
            obtain ⟨w9, p9, q9, ew9⟩ := ss_chr (E := EE) (s := a) (i := ((b) + ((i6 : Nat) : Int))) (by omega) (by omega)
            refine wp_bindE (ρ' := [_, _, _, _, _, _, _, _, .leaf (.int .u8 (w9))]) ew9 rfl rfl ?_
            obtain ⟨w10, ew10⟩ := cv_5_3 (w9)
            refine wp_bindE (ρ' := [_, _, _, _, _, _, _, _, _, dI (w10)]) ew10 rfl rfl ?_
            obtain ⟨w11, ew11⟩ := op_rem_3_64 (w10)
            refine wp_bindE (ρ' := [_, _, _, _, _, _, _, _, _, _, dI (w11)]) ew11 rfl rfl ?_
            obtain ⟨w12, ew12⟩ : ∃ w : Int, IntKind.i64.wrap ((w8) + (w11)) = w := ⟨_, rfl⟩
            refine wp_bindE (ρ' := [_, _, _, _, _, _, _, _, _, _, _, dI (w12)]) (by rw [← ew12]; exact si_addW) rfl rfl ?_
            refine wp_bindE (ρ' := [_, _, _, _, _, _, _, _, _, _, _, _, dI ((i6 + 1 : Nat) : Int)]) (sh_add (cap_bd' (by omega))) rfl rfl ?_
            exact wr_jump rfl (ih6 (by omega) (by omega) _)
          · replace c7 : ¬ (((i6 : Nat) : Int) < ((1 : Nat) : Int)) := of_decide_eq_false c7
            obtain ⟨_, ⟨r8, rfl⟩, k_r8⟩ := t277 (a := dI (v6_2)) hb_int
            refine wp_callE (ρ' := [_, _, _, _, _, _, dB (r8)]) k_r8 rfl rfl rfl rfl ?_
            refine wp_bindE (ρ' := [_, _, _, _, _, _, _, dB (!(r8))]) sh_not rfl rfl ?_
            refine wp_iteC rfl (fun c9 => ?_) (fun c9 => ?_)
            · clear c9
              exact wr_ret rfl ⟨_, _, rfl, by omega, by omega⟩
            · clear c9
              obtain ⟨_, ⟨r10, rfl, hs_r10⟩, k_r10⟩ := t278 (a := dI (v6_2)) hb_int
              refine wp_callE (ρ' := [_, _, _, _, _, _, _, _, .leaf (.string r10)]) k_r10 rfl rfl rfl rfl ?_
              refine wp_bindE (ρ' := [_, _, _, _, _, _, _, _, _, dI ((b) + ((1 : Nat) : Int))]) (si_add (by omega)) rfl rfl ?_
              obtain ⟨s11, hs_s11, ev11⟩ := vs_sub (E := EE) (B := 300000000) (s := a) (i := (b)) (j := ((b) + ((1 : Nat) : Int))) (by omega) (by omega) (by omega) (by omega)
              refine wp_bindE (ρ' := [_, _, _, _, _, _, _, _, _, _, .leaf (.string s11)]) ev11 rfl rfl ?_
              refine wp_bindE (ρ' := [_, _, _, _, _, _, _, _, _, _, _, dB (!(r10 == s11))]) sh_strN rfl rfl ?_
              refine wp_iteC rfl (fun c12 => ?_) (fun c12 => ?_)
              · clear c12
                exact wr_ret rfl ⟨_, _, rfl, by omega, by omega⟩
              · clear c12
                exact wr_ret rfl ⟨_, _, rfl, by omega, by omega⟩
theorem t233 {a b : D} (h_a : HasB 300000000 (.sl 3 1 (.int .i64)) a) (h_b : HasB 300000000 (.int .i64) b) (hp : a.es.length < 300000000) : ∃ d, (fun d => HasB 300000000 (.sl 3 1 (.int .i64)) d ∧ d.es.length ≤ a.es.length + 1) d ∧ Holds EE 233 [a, b] d := by
  suffices h : ∃ d, (fun d => HasB 300000000 (.sl 3 1 (.int .i64)) d ∧ d.es.length ≤ a.es.length + 1) d ∧ Goes EE (Holds EE) u233Ts 0 [a, b] d by
    obtain ⟨d, hd, hg⟩ := h; exact ⟨d, hd, u233 rfl hg⟩
  have i_a := isSl_ofB h_a
  have b_a := len_leB h_a
  obtain ⟨b, rfl⟩ := h_b
  refine goes_R (R := (fun d => HasB 300000000 (.sl 3 1 (.int .i64)) d ∧ d.es.length ≤ a.es.length + 1)) ?_
  show wp _ _ _ u233T0 _
  refine wr_jump rfl (loop_up (P := fun i0 => i0 ≤ a.es.length → ∀ v0_2 : D, HasB 300000000 (.sl 3 1 (.int .i64)) v0_2 → v0_2.es.length ≤ i0 → ∃ d, (fun d => HasB 300000000 (.sl 3 1 (.int .i64)) d ∧ d.es.length ≤ a.es.length + 1) d ∧ Goes EE (Holds EE) u233Ts 1 [a, dI (b), v0_2, dI ((i0 : Nat) : Int)] d) (a.es.length) (fun i0 ih0 => ?_) 0 (by omega) .nil hb_nil (by simp [D.es]))
  intro hn0 v0_2 h_v0_2 z_v0_2
  have i_v0_2 := isSl_ofB h_v0_2
  have b_v0_2 := len_leB h_v0_2
  refine goes_R (R := (fun d => HasB 300000000 (.sl 3 1 (.int .i64)) d ∧ d.es.length ≤ a.es.length + 1)) ?_
  show wp _ _ _ u233T1 _
  refine wp_bindE (ρ' := [_, _, _, _, dI ((a.es.length : Nat) : Int)]) (sh_len i_a) rfl rfl ?_
  refine wp_bindE (ρ' := [_, _, _, _, _, _]) sk_lss rfl rfl ?_
  refine wp_iteC rfl (fun c1 => ?_) (fun c1 => ?_)
  · replace c1 : ((i0 : Nat) : Int) < ((a.es.length : Nat) : Int) := of_decide_eq_true c1
    obtain ⟨x2, e_x2⟩ := get_at (d := a) (s := ((i0 : Nat) : Int)) (by omega) (by omega)
    obtain ⟨x2, rfl⟩ := (elem_ofB h_a e_x2)
    refine wp_bindE (ρ' := [_, _, _, _, _, _, dB (true)]) (si_inr (by omega) e_x2) rfl rfl ?_
    refine wp_bindE (ρ' := [_, _, _, _, _, _, _, dI (x2)]) (si_elem1 i_a (by omega) e_x2 rfl) rfl rfl ?_
    refine wp_bindE (ρ' := [_, _, _, _, _, _, _, _, _]) sk_lss rfl rfl ?_
    refine wp_iteC rfl (fun c3 => ?_) (fun c3 => ?_)
    · replace c3 : (x2) < (b) := of_decide_eq_true c3
      refine wp_bindE (ρ' := [_, _, _, _, _, _, _, _, _, dB (true)]) (si_inr (by omega) e_x2) rfl rfl ?_
      refine wp_bindE (ρ' := [_, _, _, _, _, _, _, _, _, _, dI (x2)]) (si_elem1 i_a (by omega) e_x2 rfl) rfl rfl ?_
      refine wp_bindE (ρ' := [_, _, _, _, _, _, _, _, _, _, _, dI (x2)]) (sh_chk1 rfl) rfl rfl ?_
      obtain ⟨y4, ev_y4, l_y4, h_y4, n_y4⟩ := vs_lit (E := EE) (B := 300000000) (el := 3) (sz := 1) (xs := [dI (x2)]) (e := .int .i64) rfl (all_c hb_int all_n) rfl rfl
      simp only [List.length_cons, List.length_nil] at l_y4
      have i_y4 := isSl_ofB h_y4
      have b_y4 := len_leB h_y4
      refine wp_bindE (ρ' := [_, _, _, _, _, _, _, _, _, _, _, _, y4]) ev_y4 rfl rfl ?_
      obtain ⟨y5, ev_y5, l_y5, h_y5⟩ := vs_app (E := EE) (el := 3) (sz := 1) (bytes := 8) h_v0_2 h_y4 (by decide) (by omega)
      have i_y5 := isSl_ofB h_y5
      have b_y5 := len_leB h_y5
      refine wp_bindE (ρ' := [_, _, _, _, _, _, _, _, _, _, _, _, _, y5]) ev_y5 rfl rfl ?_
      refine wp_bindE (ρ' := [_, _, _, _, _, _, _, _, _, _, _, _, _, _, dI ((i0 + 1 : Nat) : Int)]) (sh_add (cap_bd' (by omega))) rfl rfl ?_
      exact wr_jump rfl (ih0 (by omega) (by omega) y5 h_y5 (by omega))
    · replace c3 : ¬ ((x2) < (b)) := of_decide_eq_false c3
      refine wp_bindE (ρ' := [_, _, _, _, _, _, _, _, _, dI (b)]) (sh_chk1 rfl) rfl rfl ?_
      obtain ⟨y4, ev_y4, l_y4, h_y4, n_y4⟩ := vs_lit (E := EE) (B := 300000000) (el := 3) (sz := 1) (xs := [dI (b)]) (e := .int .i64) rfl (all_c hb_int all_n) rfl rfl
      simp only [List.length_cons, List.length_nil] at l_y4
      have i_y4 := isSl_ofB h_y4
      have b_y4 := len_leB h_y4
      refine wp_bindE (ρ' := [_, _, _, _, _, _, _, _, _, _, y4]) ev_y4 rfl rfl ?_
      obtain ⟨y5, ev_y5, l_y5, h_y5⟩ := vs_app (E := EE) (el := 3) (sz := 1) (bytes := 8) h_v0_2 h_y4 (by decide) (by omega)
      have i_y5 := isSl_ofB h_y5
      have b_y5 := len_leB h_y5
      refine wp_bindE (ρ' := [_, _, _, _, _, _, _, _, _, _, _, y5]) ev_y5 rfl rfl ?_
      refine wp_bindE (ρ' := [_, _, _, _, _, _, _, _, _, _, _, _, dI ((a.es.length : Nat) : Int)]) (sh_len i_a) rfl rfl ?_
      refine wp_bindE (ρ' := [_, _, _, _, _, _, _, _, _, _, _, _, _, _]) sk_lss rfl rfl ?_
      refine wp_iteC rfl (fun c6 => ?_) (fun c6 => ?_)
      · replace c6 : ((i0 : Nat) : Int) < ((a.es.length : Nat) : Int) := of_decide_eq_true c6
        refine wp_bindE (ρ' := [_, _, _, _, _, _, _, _, _, _, _, _, _, _, dB (true)]) (si_inr (by omega) e_x2) rfl rfl ?_
        refine wp_bindE (ρ' := [_, _, _, _, _, _, _, _, _, _, _, _, _, _, _, dI (x2)]) (si_elem1 i_a (by omega) e_x2 rfl) rfl rfl ?_
        refine wp_bindE (ρ' := [_, _, _, _, _, _, _, _, _, _, _, _, _, _, _, _, _]) sk_eql rfl rfl ?_
        refine wp_iteC rfl (fun c7 => ?_) (fun c7 => ?_)
        · replace c7 : (x2) = (b) := of_decide_eq_true c7
          refine wp_bindE (ρ' := [_, _, _, _, _, _, _, _, _, _, _, _, _, _, _, _, _, dI ((i0 + 1 : Nat) : Int)]) (sh_add (cap_bd' (by omega))) rfl rfl ?_
          obtain ⟨y8, ev_y8, l_y8, h_y8⟩ := vs_lo (E := EE) (j := ((i0 + 1 : Nat) : Int)) h_a (by omega) (by omega)
          have i_y8 := isSl_ofB h_y8
          have b_y8 := len_leB h_y8
          refine wp_bindE (ρ' := [_, _, _, _, _, _, _, _, _, _, _, _, _, _, _, _, _, _, y8]) ev_y8 rfl rfl ?_
          obtain ⟨y9, ev_y9, l_y9, h_y9⟩ := vs_app (E := EE) (el := 3) (sz := 1) (bytes := 8) h_y5 h_y8 (by decide) (by omega)
          have i_y9 := isSl_ofB h_y9
          have b_y9 := len_leB h_y9
          refine wp_bindE (ρ' := [_, _, _, _, _, _, _, _, _, _, _, _, _, _, _, _, _, _, _, y9]) ev_y9 rfl rfl ?_
          exact wr_ret (ds := [y9]) rfl ⟨h_y9, by show y9.es.length ≤ _; omega⟩
        · replace c7 : ¬ ((x2) = (b)) := of_decide_eq_false c7
          obtain ⟨y8, ev_y8, l_y8, h_y8⟩ := vs_lo (E := EE) (j := ((i0 : Nat) : Int)) h_a (by omega) (by omega)
          have i_y8 := isSl_ofB h_y8
          have b_y8 := len_leB h_y8
          refine wp_bindE (ρ' := [_, _, _, _, _, _, _, _, _, _, _, _, _, _, _, _, _, y8]) ev_y8 rfl rfl ?_
          obtain ⟨y9, ev_y9, l_y9, h_y9⟩ := vs_app (E := EE) (el := 3) (sz := 1) (bytes := 8) h_y5 h_y8 (by decide) (by omega)
          have i_y9 := isSl_ofB h_y9
          have b_y9 := len_leB h_y9
          refine wp_bindE (ρ' := [_, _, _, _, _, _, _, _, _, _, _, _, _, _, _, _, _, _, y9]) ev_y9 rfl rfl ?_
          exact wr_ret (ds := [y9]) rfl ⟨h_y9, by show y9.es.length ≤ _; omega⟩
      · replace c6 : ¬ (((i0 : Nat) : Int) < ((a.es.length : Nat) : Int)) := of_decide_eq_false c6
        obtain ⟨y7, ev_y7, l_y7, h_y7⟩ := vs_lo (E := EE) (j := ((i0 : Nat) : Int)) h_a (by omega) (by omega)
        have i_y7 := isSl_ofB h_y7
        have b_y7 := len_leB h_y7
        refine wp_bindE (ρ' := [_, _, _, _, _, _, _, _, _, _, _, _, _, _, y7]) ev_y7 rfl rfl ?_
        obtain ⟨y8, ev_y8, l_y8, h_y8⟩ := vs_app (E := EE) (el := 3) (sz := 1) (bytes := 8) h_y5 h_y7 (by decide) (by omega)
        have i_y8 := isSl_ofB h_y8
        have b_y8 := len_leB h_y8
        refine wp_bindE (ρ' := [_, _, _, _, _, _, _, _, _, _, _, _, _, _, _, y8]) ev_y8 rfl rfl ?_
        exact wr_ret (ds := [y8]) rfl ⟨h_y8, by show y8.es.length ≤ _; omega⟩
  · replace c1 : ¬ (((i0 : Nat) : Int) < ((a.es.length : Nat) : Int)) := of_decide_eq_false c1
    refine wp_bindE (ρ' := [_, _, _, _, _, _, dI (b)]) (sh_chk1 rfl) rfl rfl ?_
    obtain ⟨y2, ev_y2, l_y2, h_y2, n_y2⟩ := vs_lit (E := EE) (B := 300000000) (el := 3) (sz := 1) (xs := [dI (b)]) (e := .int .i64) rfl (all_c hb_int all_n) rfl rfl
    simp only [List.length_cons, List.length_nil] at l_y2
    have i_y2 := isSl_ofB h_y2
    have b_y2 := len_leB h_y2
    refine wp_bindE (ρ' := [_, _, _, _, _, _, _, y2]) ev_y2 rfl rfl ?_
    obtain ⟨y3, ev_y3, l_y3, h_y3⟩ := vs_app (E := EE) (el := 3) (sz := 1) (bytes := 8) h_v0_2 h_y2 (by decide) (by omega)
    have i_y3 := isSl_ofB h_y3
    have b_y3 := len_leB h_y3
    refine wp_bindE (ρ' := [_, _, _, _, _, _, _, _, y3]) ev_y3 rfl rfl ?_
    refine wp_bindE (ρ' := [_, _, _, _, _, _, _, _, _, dI ((a.es.length : Nat) : Int)]) (sh_len i_a) rfl rfl ?_
    refine wp_bindE (ρ' := [_, _, _, _, _, _, _, _, _, _, _]) sk_lss rfl rfl ?_
    refine wp_iteC rfl (fun c4 => ?_) (fun c4 => ?_)
    · replace c4 : ((i0 : Nat) : Int) < ((a.es.length : Nat) : Int) := of_decide_eq_true c4
      obtain ⟨x5, e_x5⟩ := get_at (d := a) (s := ((i0 : Nat) : Int)) (by omega) (by omega)
      obtain ⟨x5, rfl⟩ := (elem_ofB h_a e_x5)
      refine wp_bindE (ρ' := [_, _, _, _, _, _, _, _, _, _, _, dB (true)]) (si_inr (by omega) e_x5) rfl rfl ?_
      refine wp_bindE (ρ' := [_, _, _, _, _, _, _, _, _, _, _, _, dI (x5)]) (si_elem1 i_a (by omega) e_x5 rfl) rfl rfl ?_
      refine wp_bindE (ρ' := [_, _, _, _, _, _, _, _, _, _, _, _, _, _]) sk_eql rfl rfl ?_
      refine wp_iteC rfl (fun c6 => ?_) (fun c6 => ?_)
      · replace c6 : (x5) = (b) := of_decide_eq_true c6
        refine wp_bindE (ρ' := [_, _, _, _, _, _, _, _, _, _, _, _, _, _, dI ((i0 + 1 : Nat) : Int)]) (sh_add (cap_bd' (by omega))) rfl rfl ?_
        obtain ⟨y7, ev_y7, l_y7, h_y7⟩ := vs_lo (E := EE) (j := ((i0 + 1 : Nat) : Int)) h_a (by omega) (by omega)
        have i_y7 := isSl_ofB h_y7
        have b_y7 := len_leB h_y7
        refine wp_bindE (ρ' := [_, _, _, _, _, _, _, _, _, _, _, _, _, _, _, y7]) ev_y7 rfl rfl ?_
        obtain ⟨y8, ev_y8, l_y8, h_y8⟩ := vs_app (E := EE) (el := 3) (sz := 1) (bytes := 8) h_y3 h_y7 (by decide) (by omega)
        have i_y8 := isSl_ofB h_y8
        have b_y8 := len_leB h_y8
        refine wp_bindE (ρ' := [_, _, _, _, _, _, _, _, _, _, _, _, _, _, _, _, y8]) ev_y8 rfl rfl ?_
        exact wr_ret (ds := [y8]) rfl ⟨h_y8, by show y8.es.length ≤ _; omega⟩
      · replace c6 : ¬ ((x5) = (b)) := of_decide_eq_false c6
        obtain ⟨y7, ev_y7, l_y7, h_y7⟩ := vs_lo (E := EE) (j := ((i0 : Nat) : Int)) h_a (by omega) (by omega)
        have i_y7 := isSl_ofB h_y7
        have b_y7 := len_leB h_y7
        refine wp_bindE (ρ' := [_, _, _, _, _, _, _, _, _, _, _, _, _, _, y7]) ev_y7 rfl rfl ?_
        obtain ⟨y8, ev_y8, l_y8, h_y8⟩ := vs_app (E := EE) (el := 3) (sz := 1) (bytes := 8) h_y3 h_y7 (by decide) (by omega)
        have i_y8 := isSl_ofB h_y8
        have b_y8 := len_leB h_y8
        refine wp_bindE (ρ' := [_, _, _, _, _, _, _, _, _, _, _, _, _, _, _, y8]) ev_y8 rfl rfl ?_
        exact wr_ret (ds := [y8]) rfl ⟨h_y8, by show y8.es.length ≤ _; omega⟩
    · replace c4 : ¬ (((i0 : Nat) : Int) < ((a.es.length : Nat) : Int)) := of_decide_eq_false c4
      obtain ⟨y5, ev_y5, l_y5, h_y5⟩ := vs_lo (E := EE) (j := ((i0 : Nat) : Int)) h_a (by omega) (by omega)
      have i_y5 := isSl_ofB h_y5
      have b_y5 := len_leB h_y5
      refine wp_bindE (ρ' := [_, _, _, _, _, _, _, _, _, _, _, y5]) ev_y5 rfl rfl ?_
      obtain ⟨y6, ev_y6, l_y6, h_y6⟩ := vs_app (E := EE) (el := 3) (sz := 1) (bytes := 8) h_y3 h_y5 (by decide) (by omega)
      have i_y6 := isSl_ofB h_y6
      have b_y6 := len_leB h_y6
      refine wp_bindE (ρ' := [_, _, _, _, _, _, _, _, _, _, _, _, y6]) ev_y6 rfl rfl ?_
      exact wr_ret (ds := [y6]) rfl ⟨h_y6, by show y6.es.length ≤ _; omega⟩
theorem t101 {a b c : D} (h_a : HasB 300000000 (.sl 106 8 (.st [.int .i64, .sl 3 1 (.int .i64), .int .i64, .sl 31 1 (.sl 3 1 (.int .i64)), .int .i64, .sl 98 2 (.st [.str, .str]), .sl 204 2 (.st [.int .i64, .int .i64]), .sl 101 2 (.st [.int .i64, .int .i64])])) a) (h_b : HasB 300000000 (.int .i64) b) (h_c : HasB 300000000 (.int .i64) c) : ∃ d, (HasB 300000000 (.sl 3 1 (.int .i64))) d ∧ Holds EE 101 [a, b, c] d := by
  suffices h : ∃ d, (HasB 300000000 (.sl 3 1 (.int .i64))) d ∧ Goes EE (Holds EE) u101Ts 0 [a, b, c] d by
    obtain ⟨d, hd, hg⟩ := h; exact ⟨d, hd, u101 rfl hg⟩
  have i_a := isSl_ofB h_a
  have b_a := len_leB h_a
  obtain ⟨b, rfl⟩ := h_b
  obtain ⟨c, rfl⟩ := h_c
  refine goes_R (R := (HasB 300000000 (.sl 3 1 (.int .i64)))) ?_
  show wp _ _ _ u101T0 _
  refine wp_bindE (ρ' := [_, _, _, dI ((a.es.length : Nat) : Int)]) (sh_len i_a) rfl rfl ?_
  obtain ⟨y0, ev_y0, l_y0, h_y0⟩ := vs_mk (E := EE) (B := 300000000) (el := 4) (sz := 1) (bytes := 1) (ag := false) (z := [(.bool false)]) (n := ((a.es.length : Nat) : Int)) (e := .bool) (by omega) (by omega) rfl (by decide) hb_bool
  have i_y0 := isSl_ofB h_y0
  have b_y0 := len_leB h_y0
  refine wp_bindE (ρ' := [_, _, _, _, y0]) ev_y0 rfl rfl ?_
  refine wp_bindE (ρ' := [_, _, _, _, _, dI (b)]) (sh_chk1 rfl) rfl rfl ?_
  obtain ⟨y1, ev_y1, l_y1, h_y1, n_y1⟩ := vs_lit (E := EE) (B := 300000000) (el := 3) (sz := 1) (xs := [dI (b)]) (e := .int .i64) rfl (all_c hb_int all_n) rfl rfl
  simp only [List.length_cons, List.length_nil] at l_y1
  have i_y1 := isSl_ofB h_y1
  have b_y1 := len_leB h_y1
  refine wp_bindE (ρ' := [_, _, _, _, _, _, y1]) ev_y1 rfl rfl ?_
  refine wr_jump rfl (loop_up (P := fun i2 => i2 ≤ a.es.length + 1 → ∀ v2_2 : D, HasB 300000000 (.sl 4 1 (.bool)) v2_2 → v2_2.es.length = a.es.length → ∀ v2_3 : D, HasB 300000000 (.sl 3 1 (.int .i64)) v2_3 → True → ∃ d, (HasB 300000000 (.sl 3 1 (.int .i64))) d ∧ Goes EE (Holds EE) u101Ts 1 [a, dI (c), v2_2, v2_3, dI ((i2 : Nat) : Int)] d) (a.es.length + 1) (fun i2 ih2 => ?_) 0 (by omega) y0 h_y0 (by omega) y1 h_y1 trivial)
  intro hn2 v2_2 h_v2_2 z_v2_2 v2_3 h_v2_3 z_v2_3
  have i_v2_2 := isSl_ofB h_v2_2
  have b_v2_2 := len_leB h_v2_2
  have i_v2_3 := isSl_ofB h_v2_3
  have b_v2_3 := len_leB h_v2_3
  refine goes_R (R := (HasB 300000000 (.sl 3 1 (.int .i64)))) ?_
  show wp _ _ _ u101T1 _
  refine wp_bindE (ρ' := [_, _, _, _, _, dI ((a.es.length : Nat) : Int)]) (sh_len i_a) rfl rfl ?_
  refine wp_bindE (ρ' := [_, _, _, _, _, _, _]) sk_leq rfl rfl ?_
  refine wp_iteC rfl (fun c3 => ?_) (fun c3 => ?_)
  · replace c3 : ((i2 : Nat) : Int) ≤ ((a.es.length : Nat) : Int) := of_decide_eq_true c3
    refine wr_jump rfl (loop_up (P := fun i4 => i4 ≤ v2_3.es.length → ∀ v4_2 : D, HasB 300000000 (.sl 4 1 (.bool)) v4_2 → v4_2.es.length = a.es.length → ∀ v4_5 : D, HasB 300000000 (.sl 3 1 (.int .i64)) v4_5 → v4_5.es.length + cntF v4_2 ≤ a.es.length → ∃ d, (HasB 300000000 (.sl 3 1 (.int .i64))) d ∧ Goes EE (Holds EE) u101Ts 2 [a, dI (c), v4_2, v2_3, dI ((i2 : Nat) : Int), v4_5, dI ((i4 : Nat) : Int)] d) (v2_3.es.length) (fun i4 ih4 => ?_) 0 (by omega) v2_2 h_v2_2 (by omega) .nil hb_nil (by have := cntF_le v2_2; show 0 + cntF v2_2 ≤ _; omega))
    intro hn4 v4_2 h_v4_2 z_v4_2 v4_5 h_v4_5 z_v4_5
    have i_v4_2 := isSl_ofB h_v4_2
    have b_v4_2 := len_leB h_v4_2
    have i_v4_5 := isSl_ofB h_v4_5
    have b_v4_5 := len_leB h_v4_5
    refine goes_R (R := (HasB 300000000 (.sl 3 1 (.int .i64)))) ?_
    show wp _ _ _ u101T2 _
    refine wp_bindE (ρ' := [_, _, _, _, _, _, _, dI ((v2_3.es.length : Nat) : Int)]) (sh_len i_v2_3) rfl rfl ?_
    refine wp_bindE (ρ' := [_, _, _, _, _, _, _, _, _]) sk_lss rfl rfl ?_
    refine wp_iteC rfl (fun c5 => ?_) (fun c5 => ?_)
    · replace c5 : ((i4 : Nat) : Int) < ((v2_3.es.length : Nat) : Int) := of_decide_eq_true c5
      obtain ⟨x6, e_x6⟩ := get_at (d := v2_3) (s := ((i4 : Nat) : Int)) (by omega) (by omega)
      obtain ⟨x6, rfl⟩ := (elem_ofB h_v2_3 e_x6)
      refine wp_bindE (ρ' := [_, _, _, _, _, _, _, _, _, dB (true)]) (si_inr (by omega) e_x6) rfl rfl ?_
      refine wp_bindE (ρ' := [_, _, _, _, _, _, _, _, _, _, dI (x6)]) (si_elem1 i_v2_3 (by omega) e_x6 rfl) rfl rfl ?_
      obtain ⟨_, ⟨r7, rfl, pa_r7, pb_r7⟩, k_r7⟩ := t98 (a := a) (b := dI (x6)) h_a hb_int
      refine wp_callE (ρ' := [_, _, _, _, _, _, _, _, _, _, _, dI (r7)]) k_r7 rfl rfl rfl rfl ?_
      refine wr_jump rfl (loop_up (P := fun i8 => ∀ v8_2 : D, HasB 300000000 (.sl 4 1 (.bool)) v8_2 → v8_2.es.length = a.es.length → ∀ v8_5 : D, HasB 300000000 (.sl 3 1 (.int .i64)) v8_5 → v8_5.es.length + cntF v8_2 ≤ a.es.length → ∃ d, (HasB 300000000 (.sl 3 1 (.int .i64))) d ∧ Goes EE (Holds EE) u101Ts 3 [a, dI (c), v8_2, v2_3, dI ((i2 : Nat) : Int), v8_5, dI ((i4 : Nat) : Int), dI (r7), dI ((i8 : Nat) : Int)] d) (300000000) (fun i8 ih8 => ?_) 0 v4_2 h_v4_2 (by omega) v4_5 h_v4_5 (by omega))
      intro v8_2 h_v8_2 z_v8_2 v8_5 h_v8_5 z_v8_5
      have i_v8_2 := isSl_ofB h_v8_2
      have b_v8_2 := len_leB h_v8_2
      have i_v8_5 := isSl_ofB h_v8_5
      have b_v8_5 := len_leB h_v8_5
      refine goes_R (R := (HasB 300000000 (.sl 3 1 (.int .i64)))) ?_
      show wp _ _ _ u101T3 _
      refine wp_bindE (ρ' := [_, _, _, _, _, _, _, _, _, _]) sk_geq rfl rfl ?_
      refine wp_iteC rfl (fun c9 => ?_) (fun c9 => ?_)
      · replace c9 : (r7) ≥ ((0 : Nat) : Int) := of_decide_eq_true c9
        obtain ⟨x10, e_x10⟩ := get_at (d := a) (s := (r7)) (by omega) (by omega)
        obtain ⟨_, rfl, _, _, rfl, ⟨x10_0, rfl⟩, x10_1, _, rfl, h_x10_1, _, _, rfl, ⟨x10_2, rfl⟩, x10_3, _, rfl, h_x10_3, _, _, rfl, ⟨x10_4, rfl⟩, x10_5, _, rfl, h_x10_5, x10_6, _, rfl, h_x10_6, x10_7, _, rfl, h_x10_7, rfl⟩ := (elem_ofB h_a e_x10)
        have i_x10_1 := isSl_ofB h_x10_1
        have b_x10_1 := len_leB h_x10_1
        have i_x10_3 := isSl_ofB h_x10_3
        have b_x10_3 := len_leB h_x10_3
        have i_x10_5 := isSl_ofB h_x10_5
        have b_x10_5 := len_leB h_x10_5
        have i_x10_6 := isSl_ofB h_x10_6
        have b_x10_6 := len_leB h_x10_6
        have i_x10_7 := isSl_ofB h_x10_7
        have b_x10_7 := len_leB h_x10_7
        refine wp_bindE (ρ' := [_, _, _, _, _, _, _, _, _, _, dB (true)]) (si_inr (by omega) e_x10) rfl rfl ?_
        refine wp_bindE (ρ' := [_, _, _, _, _, _, _, _, _, _, _, x10_6]) (si_elemP (off := 6) i_a (by omega) e_x10 rfl i_x10_6.one (by decide)) rfl rfl ?_
        refine wp_bindE (ρ' := [_, _, _, _, _, _, _, _, _, _, _, _, dI ((x10_6.es.length : Nat) : Int)]) (sh_len i_x10_6) rfl rfl ?_
        refine wp_bindE (ρ' := [_, _, _, _, _, _, _, _, _, _, _, _, _, _]) sk_lss rfl rfl ?_
        refine wp_iteC rfl (fun c11 => ?_) (fun c11 => ?_)
        · replace c11 : ((i8 : Nat) : Int) < ((x10_6.es.length : Nat) : Int) := of_decide_eq_true c11
          refine wp_bindE (ρ' := [_, _, _, _, _, _, _, _, _, _, _, _, _, _, dB (true)]) (si_inr (by omega) e_x10) rfl rfl ?_
          refine wp_bindE (ρ' := [_, _, _, _, _, _, _, _, _, _, _, _, _, _, _, x10_6]) (si_elemP (off := 6) i_a (by omega) e_x10 rfl i_x10_6.one (by decide)) rfl rfl ?_
          obtain ⟨x12, e_x12⟩ := get_at (d := x10_6) (s := ((i8 : Nat) : Int)) (by omega) (by omega)
          obtain ⟨_, rfl, _, _, rfl, ⟨x12_0, rfl⟩, _, _, rfl, ⟨x12_1, rfl⟩, rfl⟩ := (elem_ofB h_x10_6 e_x12)
          refine wp_bindE (ρ' := [_, _, _, _, _, _, _, _, _, _, _, _, _, _, _, _, dB (true)]) (si_inr (by omega) e_x12) rfl rfl ?_
          refine wp_bindE (ρ' := [_, _, _, _, _, _, _, _, _, _, _, _, _, _, _, _, _, .agg [dI (x12_0), dI (x12_1)]]) (si_elemW i_x10_6 (by omega) e_x12 rfl) rfl rfl ?_
          refine wp_bindE (ρ' := [_, _, _, _, _, _, _, _, _, _, _, _, _, _, _, _, _, _, .agg [dI (x12_0), dI (x12_1)]]) (sh_chkW rfl) rfl rfl ?_
          refine wp_bindE (ρ' := [_, _, _, _, _, _, _, _, _, _, _, _, _, _, _, _, _, _, _, dI (x12_1)]) (sh_fld1 (off := 1) rfl rfl) rfl rfl ?_
          obtain ⟨_, ⟨r13, rfl, pa_r13, pb_r13⟩, k_r13⟩ := t98 (a := a) (b := dI (x12_1)) h_a hb_int
          refine wp_callE (ρ' := [_, _, _, _, _, _, _, _, _, _, _, _, _, _, _, _, _, _, _, _, dI (r13)]) k_r13 rfl rfl rfl rfl ?_
          refine wp_bindE (ρ' := [_, _, _, _, _, _, _, _, _, _, _, _, _, _, _, _, _, _, _, _, _, dI (x12_0)]) (sh_fld1 (off := 0) rfl rfl) rfl rfl ?_
          refine wp_bindE (ρ' := [_, _, _, _, _, _, _, _, _, _, _, _, _, _, _, _, _, _, _, _, _, _, _]) sk_eql rfl rfl ?_
          refine wp_iteC rfl (fun c14 => ?_) (fun c14 => ?_)
          · replace c14 : (x12_0) = (c) := of_decide_eq_true c14
            refine wp_bindE (ρ' := [_, _, _, _, _, _, _, _, _, _, _, _, _, _, _, _, _, _, _, _, _, _, _, _]) sk_geq rfl rfl ?_
            refine wp_iteC rfl (fun c15 => ?_) (fun c15 => ?_)
            · replace c15 : (r13) ≥ ((0 : Nat) : Int) := of_decide_eq_true c15
              obtain ⟨x16, e_x16⟩ := get_at (d := v8_2) (s := (r13)) (by omega) (by omega)
              obtain ⟨x16, rfl⟩ := (elem_ofB h_v8_2 e_x16)
              refine wp_bindE (ρ' := [_, _, _, _, _, _, _, _, _, _, _, _, _, _, _, _, _, _, _, _, _, _, _, _, dB (true)]) (si_inr (by omega) e_x16) rfl rfl ?_
              refine wp_bindE (ρ' := [_, _, _, _, _, _, _, _, _, _, _, _, _, _, _, _, _, _, _, _, _, _, _, _, _, dB (x16)]) (si_elem1 i_v8_2 (by omega) e_x16 rfl) rfl rfl ?_
              refine wp_bindE (ρ' := [_, _, _, _, _, _, _, _, _, _, _, _, _, _, _, _, _, _, _, _, _, _, _, _, _, _, dB (!(x16))]) sh_not rfl rfl ?_
              refine wp_iteC rfl (fun c17 => ?_) (fun c17 => ?_)
              · have cf : x16 = false := by
                  cases x16 with
                  | false => rfl
                  | true => exact absurd c17 (by decide)
                subst cf
                refine wp_bindE (ρ' := [_, _, _, _, _, _, _, _, _, _, _, _, _, _, _, _, _, _, _, _, _, _, _, _, _, _, _, dB (true)]) (si_inr (by omega) e_x16) rfl rfl ?_
                obtain ⟨y18, ev_y18, l_y18, h_y18, q_y18⟩ := vs_setC (E := EE) (i := (r13)) h_v8_2 (by omega) (by omega) e_x16
                have i_y18 := isSl_ofB h_y18
                have b_y18 := len_leB h_y18
                refine wp_bindE (ρ' := [_, _, _, _, _, _, _, _, _, _, _, _, _, _, _, _, _, _, _, _, _, _, _, _, _, _, _, _, y18]) ev_y18 rfl rfl ?_
                refine wp_bindE (ρ' := [_, _, _, _, _, _, _, _, _, _, _, _, _, _, _, _, _, _, _, _, _, _, _, _, _, _, _, _, _, dI (x12_1)]) (sh_fld1 (off := 1) rfl rfl) rfl rfl ?_
                refine wp_bindE (ρ' := [_, _, _, _, _, _, _, _, _, _, _, _, _, _, _, _, _, _, _, _, _, _, _, _, _, _, _, _, _, _, dI (x12_1)]) (sh_chk1 rfl) rfl rfl ?_
                obtain ⟨y19, ev_y19, l_y19, h_y19, n_y19⟩ := vs_lit (E := EE) (B := 300000000) (el := 3) (sz := 1) (xs := [dI (x12_1)]) (e := .int .i64) rfl (all_c hb_int all_n) rfl rfl
                simp only [List.length_cons, List.length_nil] at l_y19
                have i_y19 := isSl_ofB h_y19
                have b_y19 := len_leB h_y19
                refine wp_bindE (ρ' := [_, _, _, _, _, _, _, _, _, _, _, _, _, _, _, _, _, _, _, _, _, _, _, _, _, _, _, _, _, _, _, y19]) ev_y19 rfl rfl ?_
                obtain ⟨y20, ev_y20, l_y20, h_y20⟩ := vs_app (E := EE) (el := 3) (sz := 1) (bytes := 8) h_v8_5 h_y19 (by decide) (by omega)
                have i_y20 := isSl_ofB h_y20
                have b_y20 := len_leB h_y20
                refine wp_bindE (ρ' := [_, _, _, _, _, _, _, _, _, _, _, _, _, _, _, _, _, _, _, _, _, _, _, _, _, _, _, _, _, _, _, _, y20]) ev_y20 rfl rfl ?_
                refine wp_bindE (ρ' := [_, _, _, _, _, _, _, _, _, _, _, _, _, _, _, _, _, _, _, _, _, _, _, _, _, _, _, _, _, _, _, _, _, dI ((i8 + 1 : Nat) : Int)]) (sh_add (cap_bd' (by omega))) rfl rfl ?_
                exact wr_jump rfl (ih8 (by omega) y18 h_y18 (by omega) y20 h_y20 (by omega))
              · clear c17
                refine wp_bindE (ρ' := [_, _, _, _, _, _, _, _, _, _, _, _, _, _, _, _, _, _, _, _, _, _, _, _, _, _, _, dI ((i8 + 1 : Nat) : Int)]) (sh_add (cap_bd' (by omega))) rfl rfl ?_
                exact wr_jump rfl (ih8 (by omega) v8_2 h_v8_2 (by omega) v8_5 h_v8_5 (by omega))
            · replace c15 : ¬ ((r13) ≥ ((0 : Nat) : Int)) := of_decide_eq_false c15
              refine wp_bindE (ρ' := [_, _, _, _, _, _, _, _, _, _, _, _, _, _, _, _, _, _, _, _, _, _, _, _, dI ((i8 + 1 : Nat) : Int)]) (sh_add (cap_bd' (by omega))) rfl rfl ?_
              exact wr_jump rfl (ih8 (by omega) v8_2 h_v8_2 (by omega) v8_5 h_v8_5 (by omega))
          · replace c14 : ¬ ((x12_0) = (c)) := of_decide_eq_false c14
            refine wp_bindE (ρ' := [_, _, _, _, _, _, _, _, _, _, _, _, _, _, _, _, _, _, _, _, _, _, _, dI ((i8 + 1 : Nat) : Int)]) (sh_add (cap_bd' (by omega))) rfl rfl ?_
            exact wr_jump rfl (ih8 (by omega) v8_2 h_v8_2 (by omega) v8_5 h_v8_5 (by omega))
        · replace c11 : ¬ (((i8 : Nat) : Int) < ((x10_6.es.length : Nat) : Int)) := of_decide_eq_false c11
          refine wp_bindE (ρ' := [_, _, _, _, _, _, _, _, _, _, _, _, _, _, dI ((i4 + 1 : Nat) : Int)]) (sh_add (cap_bd' (by omega))) rfl rfl ?_
          exact wr_jump rfl (ih4 (by omega) (by omega) v8_2 h_v8_2 (by omega) v8_5 h_v8_5 (by omega))
      · replace c9 : ¬ ((r7) ≥ ((0 : Nat) : Int)) := of_decide_eq_false c9
        refine wp_bindE (ρ' := [_, _, _, _, _, _, _, _, _, _, dI ((i4 + 1 : Nat) : Int)]) (sh_add (cap_bd' (by omega))) rfl rfl ?_
        exact wr_jump rfl (ih4 (by omega) (by omega) v8_2 h_v8_2 (by omega) v8_5 h_v8_5 (by omega))
    · replace c5 : ¬ (((i4 : Nat) : Int) < ((v2_3.es.length : Nat) : Int)) := of_decide_eq_false c5
      refine wp_bindE (ρ' := [_, _, _, _, _, _, _, _, _, dI ((i2 + 1 : Nat) : Int)]) (sh_add (cap_bd' (by omega))) rfl rfl ?_
      exact wr_jump rfl (ih2 (by omega) (by omega) v4_2 h_v4_2 (by omega) v4_5 h_v4_5 trivial)
  · replace c3 : ¬ (((i2 : Nat) : Int) ≤ ((a.es.length : Nat) : Int)) := of_decide_eq_false c3
    refine wr_jump rfl (loop_up (P := fun i4 => i4 ≤ a.es.length → ∀ v4_2 : D, HasB 300000000 (.sl 3 1 (.int .i64)) v4_2 → v4_2.es.length ≤ i4 → ∃ d, (HasB 300000000 (.sl 3 1 (.int .i64))) d ∧ Goes EE (Holds EE) u101Ts 4 [a, v2_2, v4_2, dI ((i4 : Nat) : Int)] d) (a.es.length) (fun i4 ih4 => ?_) 0 (by omega) .nil hb_nil (by simp [D.es]))
    intro hn4 v4_2 h_v4_2 z_v4_2
    have i_v4_2 := isSl_ofB h_v4_2
    have b_v4_2 := len_leB h_v4_2
    refine goes_R (R := (HasB 300000000 (.sl 3 1 (.int .i64)))) ?_
    show wp _ _ _ u101T4 _
    refine wp_bindE (ρ' := [_, _, _, _, dI ((a.es.length : Nat) : Int)]) (sh_len i_a) rfl rfl ?_
    refine wp_bindE (ρ' := [_, _, _, _, _, _]) sk_lss rfl rfl ?_
    refine wp_iteC rfl (fun c5 => ?_) (fun c5 => ?_)
    · replace c5 : ((i4 : Nat) : Int) < ((a.es.length : Nat) : Int) := of_decide_eq_true c5
      obtain ⟨x6, e_x6⟩ := get_at (d := v2_2) (s := ((i4 : Nat) : Int)) (by omega) (by omega)
      obtain ⟨x6, rfl⟩ := (elem_ofB h_v2_2 e_x6)
      refine wp_bindE (ρ' := [_, _, _, _, _, _, dB (true)]) (si_inr (by omega) e_x6) rfl rfl ?_
      refine wp_bindE (ρ' := [_, _, _, _, _, _, _, dB (x6)]) (si_elem1 i_v2_2 (by omega) e_x6 rfl) rfl rfl ?_
      refine wp_iteC rfl (fun c7 => ?_) (fun c7 => ?_)
      · clear c7
        obtain ⟨x8, e_x8⟩ := get_at (d := a) (s := ((i4 : Nat) : Int)) (by omega) (by omega)
        obtain ⟨_, rfl, _, _, rfl, ⟨x8_0, rfl⟩, x8_1, _, rfl, h_x8_1, _, _, rfl, ⟨x8_2, rfl⟩, x8_3, _, rfl, h_x8_3, _, _, rfl, ⟨x8_4, rfl⟩, x8_5, _, rfl, h_x8_5, x8_6, _, rfl, h_x8_6, x8_7, _, rfl, h_x8_7, rfl⟩ := (elem_ofB h_a e_x8)
        have i_x8_1 := isSl_ofB h_x8_1
        have b_x8_1 := len_leB h_x8_1
        have i_x8_3 := isSl_ofB h_x8_3
        have b_x8_3 := len_leB h_x8_3
        have i_x8_5 := isSl_ofB h_x8_5
        have b_x8_5 := len_leB h_x8_5
        have i_x8_6 := isSl_ofB h_x8_6
        have b_x8_6 := len_leB h_x8_6
        have i_x8_7 := isSl_ofB h_x8_7
        have b_x8_7 := len_leB h_x8_7
        refine wp_bindE (ρ' := [_, _, _, _, _, _, _, _, dB (true)]) (si_inr (by omega) e_x8) rfl rfl ?_
        refine wp_bindE (ρ' := [_, _, _, _, _, _, _, _, _, dI (x8_0)]) (si_elemP (off := 0) i_a (by omega) e_x8 rfl rfl (by decide)) rfl rfl ?_
        refine wp_bindE (ρ' := [_, _, _, _, _, _, _, _, _, _, dI (x8_0)]) (sh_chk1 rfl) rfl rfl ?_
        obtain ⟨y9, ev_y9, l_y9, h_y9, n_y9⟩ := vs_lit (E := EE) (B := 300000000) (el := 3) (sz := 1) (xs := [dI (x8_0)]) (e := .int .i64) rfl (all_c hb_int all_n) rfl rfl
        simp only [List.length_cons, List.length_nil] at l_y9
        have i_y9 := isSl_ofB h_y9
        have b_y9 := len_leB h_y9
        refine wp_bindE (ρ' := [_, _, _, _, _, _, _, _, _, _, _, y9]) ev_y9 rfl rfl ?_
        obtain ⟨y10, ev_y10, l_y10, h_y10⟩ := vs_app (E := EE) (el := 3) (sz := 1) (bytes := 8) h_v4_2 h_y9 (by decide) (by omega)
        have i_y10 := isSl_ofB h_y10
        have b_y10 := len_leB h_y10
        refine wp_bindE (ρ' := [_, _, _, _, _, _, _, _, _, _, _, _, y10]) ev_y10 rfl rfl ?_
        refine wp_bindE (ρ' := [_, _, _, _, _, _, _, _, _, _, _, _, _, dI ((i4 + 1 : Nat) : Int)]) (sh_add (cap_bd' (by omega))) rfl rfl ?_
        exact wr_jump rfl (ih4 (by omega) (by omega) y10 h_y10 (by omega))
      · clear c7
        refine wp_bindE (ρ' := [_, _, _, _, _, _, _, _, dI ((i4 + 1 : Nat) : Int)]) (sh_add (cap_bd' (by omega))) rfl rfl ?_
        exact wr_jump rfl (ih4 (by omega) (by omega) v4_2 h_v4_2 (by omega))
    · replace c5 : ¬ (((i4 : Nat) : Int) < ((a.es.length : Nat) : Int)) := of_decide_eq_false c5
      exact wr_ret rfl h_v4_2
end Go.Proofs.YtbkinfgpcjjaaaaGreatDoor
