/- Functions that always give something. Conditions: none. -/
import Derived.Test.YtbdamohgaleajaaGreatDoorCd
namespace Go.Proofs.YtbdamohgaleajaaGreatDoor
open Go Go.Am Go.Proofs
attribute [local irreducible] Go.Am.wp Go.Am.TOp.eval
theorem ty84 : eqTy EE.prog 4 84 = some [.int .i64, .int .i64, .int .i64] := by kernel_rfl
theorem st84 : isSt EE.prog 84 = true := by kernel_rfl
theorem gu84 : EE.prog.eqGuardType EE.prog.depth 84 = false := by kernel_rfl
theorem t155 {a : D} (h_a : HasB 300000000 (.int .i64) a) : ∃ d, (HasB 300000000 (.str)) d ∧ Holds EE 155 [a] d := by
 suffices h : ∃ d, (HasB 300000000 (.str)) d ∧ Goes EE (Holds EE) u155Ts 0 [a] d by
  obtain ⟨d, hd, hg⟩ := h; exact ⟨d, hd, u155 rfl hg⟩
 obtain ⟨a, rfl⟩ := h_a
 refine goes_R (R := (HasB 300000000 (.str))) ?_
 show wp _ _ _ u155T0 _
 refine bS sk_lss ?_
 refine iD rfl (fun c0 => ?_) (fun c0 => ?_)
 ·
  obtain ⟨w1, ew1⟩ := cv_3_5 (a)
  refine bS (d := .leaf (.int .u8 (w1))) ew1 ?_
  refine bS (d := .leaf (.int .u8 (w1))) (sh_chk1 rfl) ?_
  obtain ⟨y2, ev_y2, l_y2, h_y2, n_y2⟩ := vs_lit (E := EE) (B := 300000000) (el := 5) (sz := 1) (xs := [.leaf (.int .u8 (w1))]) (e := .int .u8) rfl (all_c hb_int all_n) rfl rfl
  simp only [List.length_cons, List.length_nil] at l_y2
  have i_y2 := isSl_ofB h_y2
  have b_y2 := len_leB h_y2
  refine bS (d := y2) ev_y2 ?_
  obtain ⟨s3, hs_s3, ev3⟩ := vs_bstr (E := EE) h_y2 n_y2
  refine bS (d := .leaf (.string s3)) ev3 ?_
  exact wr_ret rfl (hb_str hs_s3)
 ·
  refine bS sk_lss ?_
  refine iD rfl (fun c1 => ?_) (fun c1 => ?_)
  ·
   obtain ⟨w2, ew2⟩ := op_quo_3_64 (a)
   refine bS (d := dI (w2)) ew2 ?_
   obtain ⟨w3, ew3⟩ : ∃ w : Int, IntKind.i64.wrap (((192 : Nat) : Int) + (w2)) = w := ⟨_, rfl⟩
   refine bS (d := dI (w3)) (by rw [← ew3]; exact si_addW) ?_
   obtain ⟨w4, ew4⟩ := cv_3_5 (w3)
   refine bS (d := .leaf (.int .u8 (w4))) ew4 ?_
   obtain ⟨w5, ew5⟩ := op_rem_3_64 (a)
   refine bS (d := dI (w5)) ew5 ?_
   obtain ⟨w6, ew6⟩ : ∃ w : Int, IntKind.i64.wrap (((128 : Nat) : Int) + (w5)) = w := ⟨_, rfl⟩
   refine bS (d := dI (w6)) (by rw [← ew6]; exact si_addW) ?_
   obtain ⟨w7, ew7⟩ := cv_3_5 (w6)
   refine bS (d := .leaf (.int .u8 (w7))) ew7 ?_
   refine bS (d := .leaf (.int .u8 (w4))) (sh_chk1 rfl) ?_
   refine bS (d := .leaf (.int .u8 (w7))) (sh_chk1 rfl) ?_
   obtain ⟨y8, ev_y8, l_y8, h_y8, n_y8⟩ := vs_lit (E := EE) (B := 300000000) (el := 5) (sz := 1) (xs := [.leaf (.int .u8 (w4)), .leaf (.int .u8 (w7))]) (e := .int .u8) rfl (all_c hb_int (all_c hb_int all_n)) rfl rfl
   simp only [List.length_cons, List.length_nil] at l_y8
   have i_y8 := isSl_ofB h_y8
   have b_y8 := len_leB h_y8
   refine bS (d := y8) ev_y8 ?_
   obtain ⟨s9, hs_s9, ev9⟩ := vs_bstr (E := EE) h_y8 n_y8
   refine bS (d := .leaf (.string s9)) ev9 ?_
   exact wr_ret rfl (hb_str hs_s9)
  ·
   refine bS sk_lss ?_
   refine iD rfl (fun c2 => ?_) (fun c2 => ?_)
   ·
    obtain ⟨w3, ew3⟩ := op_quo_3_4096 (a)
    refine bS (d := dI (w3)) ew3 ?_
    obtain ⟨w4, ew4⟩ : ∃ w : Int, IntKind.i64.wrap (((224 : Nat) : Int) + (w3)) = w := ⟨_, rfl⟩
    refine bS (d := dI (w4)) (by rw [← ew4]; exact si_addW) ?_
    obtain ⟨w5, ew5⟩ := cv_3_5 (w4)
    refine bS (d := .leaf (.int .u8 (w5))) ew5 ?_
    obtain ⟨w6, ew6⟩ := op_quo_3_64 (a)
    refine bS (d := dI (w6)) ew6 ?_
    obtain ⟨w7, ew7⟩ := op_rem_3_64 (w6)
    refine bS (d := dI (w7)) ew7 ?_
    obtain ⟨w8, ew8⟩ : ∃ w : Int, IntKind.i64.wrap (((128 : Nat) : Int) + (w7)) = w := ⟨_, rfl⟩
    refine bS (d := dI (w8)) (by rw [← ew8]; exact si_addW) ?_
    obtain ⟨w9, ew9⟩ := cv_3_5 (w8)
    refine bS (d := .leaf (.int .u8 (w9))) ew9 ?_
    obtain ⟨w10, ew10⟩ := op_rem_3_64 (a)
    refine bS (d := dI (w10)) ew10 ?_
    obtain ⟨w11, ew11⟩ : ∃ w : Int, IntKind.i64.wrap (((128 : Nat) : Int) + (w10)) = w := ⟨_, rfl⟩
    refine bS (d := dI (w11)) (by rw [← ew11]; exact si_addW) ?_
    obtain ⟨w12, ew12⟩ := cv_3_5 (w11)
    refine bS (d := .leaf (.int .u8 (w12))) ew12 ?_
    refine bS (d := .leaf (.int .u8 (w5))) (sh_chk1 rfl) ?_
    refine bS (d := .leaf (.int .u8 (w9))) (sh_chk1 rfl) ?_
    refine bS (d := .leaf (.int .u8 (w12))) (sh_chk1 rfl) ?_
    obtain ⟨y13, ev_y13, l_y13, h_y13, n_y13⟩ := vs_lit (E := EE) (B := 300000000) (el := 5) (sz := 1) (xs := [.leaf (.int .u8 (w5)), .leaf (.int .u8 (w9)), .leaf (.int .u8 (w12))]) (e := .int .u8) rfl (all_c hb_int (all_c hb_int (all_c hb_int all_n))) rfl rfl
    simp only [List.length_cons, List.length_nil] at l_y13
    have i_y13 := isSl_ofB h_y13
    have b_y13 := len_leB h_y13
    refine bS (d := y13) ev_y13 ?_
    obtain ⟨s14, hs_s14, ev14⟩ := vs_bstr (E := EE) h_y13 n_y13
    refine bS (d := .leaf (.string s14)) ev14 ?_
    exact wr_ret rfl (hb_str hs_s14)
   ·
    obtain ⟨w3, ew3⟩ := op_quo_3_262144 (a)
    refine bS (d := dI (w3)) ew3 ?_
    obtain ⟨w4, ew4⟩ : ∃ w : Int, IntKind.i64.wrap (((240 : Nat) : Int) + (w3)) = w := ⟨_, rfl⟩
    refine bS (d := dI (w4)) (by rw [← ew4]; exact si_addW) ?_
    obtain ⟨w5, ew5⟩ := cv_3_5 (w4)
    refine bS (d := .leaf (.int .u8 (w5))) ew5 ?_
    obtain ⟨w6, ew6⟩ := op_quo_3_4096 (a)
    refine bS (d := dI (w6)) ew6 ?_
    obtain ⟨w7, ew7⟩ := op_rem_3_64 (w6)
    refine bS (d := dI (w7)) ew7 ?_
    obtain ⟨w8, ew8⟩ : ∃ w : Int, IntKind.i64.wrap (((128 : Nat) : Int) + (w7)) = w := ⟨_, rfl⟩
    refine bS (d := dI (w8)) (by rw [← ew8]; exact si_addW) ?_
    obtain ⟨w9, ew9⟩ := cv_3_5 (w8)
    refine bS (d := .leaf (.int .u8 (w9))) ew9 ?_
    obtain ⟨w10, ew10⟩ := op_quo_3_64 (a)
    refine bS (d := dI (w10)) ew10 ?_
    obtain ⟨w11, ew11⟩ := op_rem_3_64 (w10)
    refine bS (d := dI (w11)) ew11 ?_
    obtain ⟨w12, ew12⟩ : ∃ w : Int, IntKind.i64.wrap (((128 : Nat) : Int) + (w11)) = w := ⟨_, rfl⟩
    refine bS (d := dI (w12)) (by rw [← ew12]; exact si_addW) ?_
    obtain ⟨w13, ew13⟩ := cv_3_5 (w12)
    refine bS (d := .leaf (.int .u8 (w13))) ew13 ?_
    obtain ⟨w14, ew14⟩ := op_rem_3_64 (a)
    refine bS (d := dI (w14)) ew14 ?_
    obtain ⟨w15, ew15⟩ : ∃ w : Int, IntKind.i64.wrap (((128 : Nat) : Int) + (w14)) = w := ⟨_, rfl⟩
    refine bS (d := dI (w15)) (by rw [← ew15]; exact si_addW) ?_
    obtain ⟨w16, ew16⟩ := cv_3_5 (w15)
    refine bS (d := .leaf (.int .u8 (w16))) ew16 ?_
    refine bS (d := .leaf (.int .u8 (w5))) (sh_chk1 rfl) ?_
    refine bS (d := .leaf (.int .u8 (w9))) (sh_chk1 rfl) ?_
    refine bS (d := .leaf (.int .u8 (w13))) (sh_chk1 rfl) ?_
    refine bS (d := .leaf (.int .u8 (w16))) (sh_chk1 rfl) ?_
    obtain ⟨y17, ev_y17, l_y17, h_y17, n_y17⟩ := vs_lit (E := EE) (B := 300000000) (el := 5) (sz := 1) (xs := [.leaf (.int .u8 (w5)), .leaf (.int .u8 (w9)), .leaf (.int .u8 (w13)), .leaf (.int .u8 (w16))]) (e := .int .u8) rfl (all_c hb_int (all_c hb_int (all_c hb_int (all_c hb_int all_n)))) rfl rfl
    simp only [List.length_cons, List.length_nil] at l_y17
    have i_y17 := isSl_ofB h_y17
    have b_y17 := len_leB h_y17
    refine bS (d := y17) ev_y17 ?_
    obtain ⟨s18, hs_s18, ev18⟩ := vs_bstr (E := EE) h_y17 n_y17
    refine bS (d := .leaf (.string s18)) ev18 ?_
    exact wr_ret rfl (hb_str hs_s18)
theorem t130 {a b : D} (h_a : HasB 300000000 (.str) a) (h_b : HasB 300000000 (.int .i64) b) (p0 : ∀ n : Int, b = dI n → 0 ≤ n) (p1 : ∀ (s : ByteArray) (n : Int), a = .leaf (.string s) → b = dI n → n < (s.size : Int)) : ∃ d, (fun d => ∃ p n : Int, d = .tup [dI p, dI n] ∧ 0 ≤ n ∧ n ≤ 4) d ∧ Holds EE 130 [a, b] d := by
 suffices h : ∃ d, (fun d => ∃ p n : Int, d = .tup [dI p, dI n] ∧ 0 ≤ n ∧ n ≤ 4) d ∧ Goes EE (Holds EE) u130Ts 0 [a, b] d by
  obtain ⟨d, hd, hg⟩ := h; exact ⟨d, hd, u130 rfl hg⟩
 obtain ⟨a, rfl, hs_a⟩ := h_a
 obtain ⟨b, rfl⟩ := h_b
 replace p0 := p0 _ rfl
 replace p1 := p1 _ _ rfl rfl
 refine goes_R (R := (fun d => ∃ p n : Int, d = .tup [dI p, dI n] ∧ 0 ≤ n ∧ n ≤ 4)) ?_
 show wp _ _ _ u130T0 _
 obtain ⟨w0, p0, q0, ew0⟩ := ss_chr (E := EE) (s := a) (i := (b)) (by omega) (by omega)
 refine bS (d := .leaf (.int .u8 (w0))) ew0 ?_
 obtain ⟨w1, ew1⟩ := cv_5_3 (w0)
 refine bS (d := dI (w1)) ew1 ?_
 refine bS sk_geq ?_
 refine iD rfl (fun c2 => ?_) (fun c2 => ?_)
 ·
  obtain ⟨w3, ew3⟩ : ∃ w : Int, IntKind.i64.wrap ((w1) - ((240 : Nat) : Int)) = w := ⟨_, rfl⟩
  refine bS (d := dI (w3)) (by rw [← ew3]; exact si_subW) ?_
  refine bS (d := dI ((b) + ((4 : Nat) : Int))) (si_add (by omega)) ?_
  refine bS (d := dI ((a.size : Nat) : Int)) ss_len ?_
  refine bS sk_gtr ?_
  refine iD rfl (fun c4 => ?_) (fun c4 => ?_)
  ·
   exact wr_ret rfl ⟨_, _, rfl, by omega, by omega⟩
  ·
   refine wr_jump rfl (loop_up (P := fun i5 => 1 ≤ i5 → ∀ v5_2 : Int, ∃ d, (fun d => ∃ p n : Int, d = .tup [dI p, dI n] ∧ 0 ≤ n ∧ n ≤ 4) d ∧ Goes EE (Holds EE) u130Ts 1 [.leaf (.string a), dI (b), dI (v5_2), dI ((4 : Nat) : Int), dI ((i5 : Nat) : Int)] d) (4) (fun i5 ih5 => ?_) 1 (by omega) _)
   intro hn5 v5_2
   refine goes_R (R := (fun d => ∃ p n : Int, d = .tup [dI p, dI n] ∧ 0 ≤ n ∧ n ≤ 4)) ?_
   show wp _ _ _ u130T1 _
   refine bS sk_lss ?_
   refine iD rfl (fun c6 => ?_) (fun c6 => ?_)
   ·
    obtain ⟨w7, ew7⟩ : ∃ w : Int, IntKind.i64.wrap ((v5_2) * ((64 : Nat) : Int)) = w := ⟨_, rfl⟩
    refine bS (d := dI (w7)) (by rw [← ew7]; exact si_mulW) ?_
    refine bS (d := dI ((b) + ((i5 : Nat) : Int))) (si_add (by omega)) ?_
    obtain ⟨w8, p8, q8, ew8⟩ := ss_chr (E := EE) (s := a) (i := ((b) + ((i5 : Nat) : Int))) (by omega) (by omega)
    refine bS (d := .leaf (.int .u8 (w8))) ew8 ?_
    obtain ⟨w9, ew9⟩ := cv_5_3 (w8)
    refine bS (d := dI (w9)) ew9 ?_
    obtain ⟨w10, ew10⟩ := op_rem_3_64 (w9)
    refine bS (d := dI (w10)) ew10 ?_
    obtain ⟨w11, ew11⟩ : ∃ w : Int, IntKind.i64.wrap ((w7) + (w10)) = w := ⟨_, rfl⟩
    refine bS (d := dI (w11)) (by rw [← ew11]; exact si_addW) ?_
    refine bS (d := dI ((i5 + 1 : Nat) : Int)) (sh_add (cap_bd' (by omega))) ?_
    exact wr_jump rfl (ih5 (by omega) (by omega) _)
   ·
    obtain ⟨_, ⟨r7, rfl⟩, k_r7⟩ := t154 (a := dI (v5_2)) hb_int
    refine cS (d := dB (r7)) k_r7 ?_
    refine bS (d := dB (!(r7))) sh_not ?_
    refine wp_iteC rfl (fun c8 => ?_) (fun c8 => ?_)
    ·
     clear c8
     exact wr_ret rfl ⟨_, _, rfl, by omega, by omega⟩
    ·
     clear c8
     obtain ⟨_, ⟨r9, rfl, hs_r9⟩, k_r9⟩ := t155 (a := dI (v5_2)) hb_int
     refine cS (d := .leaf (.string r9)) k_r9 ?_
     refine bS (d := dI ((b) + ((4 : Nat) : Int))) (si_add (by omega)) ?_
     obtain ⟨s10, hs_s10, ev10⟩ := vs_sub (E := EE) (B := 300000000) (s := a) (i := (b)) (j := ((b) + ((4 : Nat) : Int))) (by omega) (by omega) (by omega) (by omega)
     refine bS (d := .leaf (.string s10)) ev10 ?_
     refine bS (d := dB (!(r9 == s10))) sh_strN ?_
     refine wp_iteC rfl (fun c11 => ?_) (fun c11 => ?_)
     ·
      clear c11
      exact wr_ret rfl ⟨_, _, rfl, by omega, by omega⟩
     ·
      clear c11
      exact wr_ret rfl ⟨_, _, rfl, by omega, by omega⟩
 ·
  refine bS sk_geq ?_
  refine iD rfl (fun c3 => ?_) (fun c3 => ?_)
  ·
   obtain ⟨w4, ew4⟩ : ∃ w : Int, IntKind.i64.wrap ((w1) - ((224 : Nat) : Int)) = w := ⟨_, rfl⟩
   refine bS (d := dI (w4)) (by rw [← ew4]; exact si_subW) ?_
   refine bS (d := dI ((b) + ((3 : Nat) : Int))) (si_add (by omega)) ?_
   refine bS (d := dI ((a.size : Nat) : Int)) ss_len ?_
   refine bS sk_gtr ?_
   refine iD rfl (fun c5 => ?_) (fun c5 => ?_)
   ·
    exact wr_ret rfl ⟨_, _, rfl, by omega, by omega⟩
   ·
    refine wr_jump rfl (loop_up (P := fun i6 => 1 ≤ i6 → ∀ v6_2 : Int, ∃ d, (fun d => ∃ p n : Int, d = .tup [dI p, dI n] ∧ 0 ≤ n ∧ n ≤ 4) d ∧ Goes EE (Holds EE) u130Ts 1 [.leaf (.string a), dI (b), dI (v6_2), dI ((3 : Nat) : Int), dI ((i6 : Nat) : Int)] d) (3) (fun i6 ih6 => ?_) 1 (by omega) _)
    intro hn6 v6_2
    refine goes_R (R := (fun d => ∃ p n : Int, d = .tup [dI p, dI n] ∧ 0 ≤ n ∧ n ≤ 4)) ?_
    show wp _ _ _ u130T1 _
    refine bS sk_lss ?_
    refine iD rfl (fun c7 => ?_) (fun c7 => ?_)
    ·
     obtain ⟨w8, ew8⟩ : ∃ w : Int, IntKind.i64.wrap ((v6_2) * ((64 : Nat) : Int)) = w := ⟨_, rfl⟩
     refine bS (d := dI (w8)) (by rw [← ew8]; exact si_mulW) ?_
     refine bS (d := dI ((b) + ((i6 : Nat) : Int))) (si_add (by omega)) ?_
     obtain ⟨w9, p9, q9, ew9⟩ := ss_chr (E := EE) (s := a) (i := ((b) + ((i6 : Nat) : Int))) (by omega) (by omega)
     refine bS (d := .leaf (.int .u8 (w9))) ew9 ?_
     obtain ⟨w10, ew10⟩ := cv_5_3 (w9)
     refine bS (d := dI (w10)) ew10 ?_
     obtain ⟨w11, ew11⟩ := op_rem_3_64 (w10)
     refine bS (d := dI (w11)) ew11 ?_
     obtain ⟨w12, ew12⟩ : ∃ w : Int, IntKind.i64.wrap ((w8) + (w11)) = w := ⟨_, rfl⟩
     refine bS (d := dI (w12)) (by rw [← ew12]; exact si_addW) ?_
     refine bS (d := dI ((i6 + 1 : Nat) : Int)) (sh_add (cap_bd' (by omega))) ?_
     exact wr_jump rfl (ih6 (by omega) (by omega) _)
    ·
     obtain ⟨_, ⟨r8, rfl⟩, k_r8⟩ := t154 (a := dI (v6_2)) hb_int
     refine cS (d := dB (r8)) k_r8 ?_
     refine bS (d := dB (!(r8))) sh_not ?_
     refine wp_iteC rfl (fun c9 => ?_) (fun c9 => ?_)
     ·
      clear c9
      exact wr_ret rfl ⟨_, _, rfl, by omega, by omega⟩
     ·
      clear c9
      obtain ⟨_, ⟨r10, rfl, hs_r10⟩, k_r10⟩ := t155 (a := dI (v6_2)) hb_int
      refine cS (d := .leaf (.string r10)) k_r10 ?_
      refine bS (d := dI ((b) + ((3 : Nat) : Int))) (si_add (by omega)) ?_
      obtain ⟨s11, hs_s11, ev11⟩ := vs_sub (E := EE) (B := 300000000) (s := a) (i := (b)) (j := ((b) + ((3 : Nat) : Int))) (by omega) (by omega) (by omega) (by omega)
      refine bS (d := .leaf (.string s11)) ev11 ?_
      refine bS (d := dB (!(r10 == s11))) sh_strN ?_
      refine wp_iteC rfl (fun c12 => ?_) (fun c12 => ?_)
      ·
       clear c12
       exact wr_ret rfl ⟨_, _, rfl, by omega, by omega⟩
      ·
       clear c12
       exact wr_ret rfl ⟨_, _, rfl, by omega, by omega⟩
  ·
   refine bS sk_geq ?_
   refine iD rfl (fun c4 => ?_) (fun c4 => ?_)
   ·
    obtain ⟨w5, ew5⟩ : ∃ w : Int, IntKind.i64.wrap ((w1) - ((192 : Nat) : Int)) = w := ⟨_, rfl⟩
    refine bS (d := dI (w5)) (by rw [← ew5]; exact si_subW) ?_
    refine bS (d := dI ((b) + ((2 : Nat) : Int))) (si_add (by omega)) ?_
    refine bS (d := dI ((a.size : Nat) : Int)) ss_len ?_
    refine bS sk_gtr ?_
    refine iD rfl (fun c6 => ?_) (fun c6 => ?_)
    ·
     exact wr_ret rfl ⟨_, _, rfl, by omega, by omega⟩
    ·
     refine wr_jump rfl (loop_up (P := fun i7 => 1 ≤ i7 → ∀ v7_2 : Int, ∃ d, (fun d => ∃ p n : Int, d = .tup [dI p, dI n] ∧ 0 ≤ n ∧ n ≤ 4) d ∧ Goes EE (Holds EE) u130Ts 1 [.leaf (.string a), dI (b), dI (v7_2), dI ((2 : Nat) : Int), dI ((i7 : Nat) : Int)] d) (2) (fun i7 ih7 => ?_) 1 (by omega) _)
     intro hn7 v7_2
     refine goes_R (R := (fun d => ∃ p n : Int, d = .tup [dI p, dI n] ∧ 0 ≤ n ∧ n ≤ 4)) ?_
     show wp _ _ _ u130T1 _
     refine bS sk_lss ?_
     refine iD rfl (fun c8 => ?_) (fun c8 => ?_)
     ·
      obtain ⟨w9, ew9⟩ : ∃ w : Int, IntKind.i64.wrap ((v7_2) * ((64 : Nat) : Int)) = w := ⟨_, rfl⟩
      refine bS (d := dI (w9)) (by rw [← ew9]; exact si_mulW) ?_
      refine bS (d := dI ((b) + ((i7 : Nat) : Int))) (si_add (by omega)) ?_
      obtain ⟨w10, p10, q10, ew10⟩ := ss_chr (E := EE) (s := a) (i := ((b) + ((i7 : Nat) : Int))) (by omega) (by omega)
      refine bS (d := .leaf (.int .u8 (w10))) ew10 ?_
      obtain ⟨w11, ew11⟩ := cv_5_3 (w10)
      refine bS (d := dI (w11)) ew11 ?_
      obtain ⟨w12, ew12⟩ := op_rem_3_64 (w11)
      refine bS (d := dI (w12)) ew12 ?_
      obtain ⟨w13, ew13⟩ : ∃ w : Int, IntKind.i64.wrap ((w9) + (w12)) = w := ⟨_, rfl⟩
      refine bS (d := dI (w13)) (by rw [← ew13]; exact si_addW) ?_
      refine bS (d := dI ((i7 + 1 : Nat) : Int)) (sh_add (cap_bd' (by omega))) ?_
      exact wr_jump rfl (ih7 (by omega) (by omega) _)
     ·
      obtain ⟨_, ⟨r9, rfl⟩, k_r9⟩ := t154 (a := dI (v7_2)) hb_int
      refine cS (d := dB (r9)) k_r9 ?_
      refine bS (d := dB (!(r9))) sh_not ?_
      refine wp_iteC rfl (fun c10 => ?_) (fun c10 => ?_)
      ·
       clear c10
       exact wr_ret rfl ⟨_, _, rfl, by omega, by omega⟩
      ·
       clear c10
       obtain ⟨_, ⟨r11, rfl, hs_r11⟩, k_r11⟩ := t155 (a := dI (v7_2)) hb_int
       refine cS (d := .leaf (.string r11)) k_r11 ?_
       refine bS (d := dI ((b) + ((2 : Nat) : Int))) (si_add (by omega)) ?_
       obtain ⟨s12, hs_s12, ev12⟩ := vs_sub (E := EE) (B := 300000000) (s := a) (i := (b)) (j := ((b) + ((2 : Nat) : Int))) (by omega) (by omega) (by omega) (by omega)
       refine bS (d := .leaf (.string s12)) ev12 ?_
       refine bS (d := dB (!(r11 == s12))) sh_strN ?_
       refine wp_iteC rfl (fun c13 => ?_) (fun c13 => ?_)
       ·
        clear c13
        exact wr_ret rfl ⟨_, _, rfl, by omega, by omega⟩
       ·
        clear c13
        exact wr_ret rfl ⟨_, _, rfl, by omega, by omega⟩
   ·
    refine bS (d := dI ((b) + ((1 : Nat) : Int))) (si_add (by omega)) ?_
    refine bS (d := dI ((a.size : Nat) : Int)) ss_len ?_
    refine bS sk_gtr ?_
    refine iD rfl (fun c5 => ?_) (fun c5 => ?_)
    ·
     exact wr_ret rfl ⟨_, _, rfl, by omega, by omega⟩
    ·
     refine wr_jump rfl (loop_up (P := fun i6 => 1 ≤ i6 → ∀ v6_2 : Int, ∃ d, (fun d => ∃ p n : Int, d = .tup [dI p, dI n] ∧ 0 ≤ n ∧ n ≤ 4) d ∧ Goes EE (Holds EE) u130Ts 1 [.leaf (.string a), dI (b), dI (v6_2), dI ((1 : Nat) : Int), dI ((i6 : Nat) : Int)] d) (1) (fun i6 ih6 => ?_) 1 (by omega) _)
     intro hn6 v6_2
     refine goes_R (R := (fun d => ∃ p n : Int, d = .tup [dI p, dI n] ∧ 0 ≤ n ∧ n ≤ 4)) ?_
     show wp _ _ _ u130T1 _
     refine bS sk_lss ?_
     refine iD rfl (fun c7 => ?_) (fun c7 => ?_)
     ·
      obtain ⟨w8, ew8⟩ : ∃ w : Int, IntKind.i64.wrap ((v6_2) * ((64 : Nat) : Int)) = w := ⟨_, rfl⟩
      refine bS (d := dI (w8)) (by rw [← ew8]; exact si_mulW) ?_
      refine bS (d := dI ((b) + ((i6 : Nat) : Int))) (si_add (by omega)) ?_
      obtain ⟨w9, p9, q9, ew9⟩ := ss_chr (E := EE) (s := a) (i := ((b) + ((i6 : Nat) : Int))) (by omega) (by omega)
      refine bS (d := .leaf (.int .u8 (w9))) ew9 ?_
      obtain ⟨w10, ew10⟩ := cv_5_3 (w9)
      refine bS (d := dI (w10)) ew10 ?_
      obtain ⟨w11, ew11⟩ := op_rem_3_64 (w10)
      refine bS (d := dI (w11)) ew11 ?_
      obtain ⟨w12, ew12⟩ : ∃ w : Int, IntKind.i64.wrap ((w8) + (w11)) = w := ⟨_, rfl⟩
      refine bS (d := dI (w12)) (by rw [← ew12]; exact si_addW) ?_
      refine bS (d := dI ((i6 + 1 : Nat) : Int)) (sh_add (cap_bd' (by omega))) ?_
      exact wr_jump rfl (ih6 (by omega) (by omega) _)
     ·
      obtain ⟨_, ⟨r8, rfl⟩, k_r8⟩ := t154 (a := dI (v6_2)) hb_int
      refine cS (d := dB (r8)) k_r8 ?_
      refine bS (d := dB (!(r8))) sh_not ?_
      refine wp_iteC rfl (fun c9 => ?_) (fun c9 => ?_)
      ·
       clear c9
       exact wr_ret rfl ⟨_, _, rfl, by omega, by omega⟩
      ·
       clear c9
       obtain ⟨_, ⟨r10, rfl, hs_r10⟩, k_r10⟩ := t155 (a := dI (v6_2)) hb_int
       refine cS (d := .leaf (.string r10)) k_r10 ?_
       refine bS (d := dI ((b) + ((1 : Nat) : Int))) (si_add (by omega)) ?_
       obtain ⟨s11, hs_s11, ev11⟩ := vs_sub (E := EE) (B := 300000000) (s := a) (i := (b)) (j := ((b) + ((1 : Nat) : Int))) (by omega) (by omega) (by omega) (by omega)
       refine bS (d := .leaf (.string s11)) ev11 ?_
       refine bS (d := dB (!(r10 == s11))) sh_strN ?_
       refine wp_iteC rfl (fun c12 => ?_) (fun c12 => ?_)
       ·
        clear c12
        exact wr_ret rfl ⟨_, _, rfl, by omega, by omega⟩
       ·
        clear c12
        exact wr_ret rfl ⟨_, _, rfl, by omega, by omega⟩
theorem t104 {a : D} (h_a : HasB 300000000 (.str) a) : ∃ d, (HasT 300000000 [zL, .bool]) d ∧ Holds EE 104 [a] d := by
 suffices h : ∃ d, (HasT 300000000 [zL, .bool]) d ∧ Goes EE (Holds EE) u104Ts 0 [a] d by
  obtain ⟨d, hd, hg⟩ := h; exact ⟨d, hd, u104 rfl hg⟩
 obtain ⟨a, rfl, hs_a⟩ := h_a
 refine goes_R (R := (HasT 300000000 [zL, .bool])) ?_
 show wp _ _ _ u104T0 _
 refine wr_jump rfl (loop_up (P := fun (i0 : Nat) => ∀ j0 : Int, (i0 : Int) ≤ j0 → ∀ v0 : D, HasB 300000000 zL v0 → (v0.es.length : Int) ≤ j0 → ∃ d, (HasT 300000000 [zL, .bool]) d ∧ Goes EE (Holds EE) u104Ts 1 [.leaf (.string a), v0, dI (j0)] d) (300000000) (fun i0 ih0 => ?_) 0 ((0 : Nat) : Int) (by omega) .nil hb_nil (by simp [D.es]))
 intro j0 hj0 v0 h_v0 z_v0
 have i_v0 := isSl_ofB h_v0
 have b_v0 := len_leB h_v0
 refine goes_R (R := (HasT 300000000 [zL, .bool])) ?_
 show wp _ _ _ u104T1 _
 refine bS (d := dI ((a.size : Nat) : Int)) ss_len ?_
 refine bS sk_lss ?_
 refine iD rfl (fun c1 => ?_) (fun c1 => ?_)
 ·
  obtain ⟨_, ⟨r2_0, r2_1, rfl, pa_r2, pb_r2⟩, k_r2⟩ := t130 (a := .leaf (.string a)) (b := dI (j0)) (hb_str hs_a) hb_int (by intro n hn; cases hn; omega) (by intro s n hs hn; cases hs; cases hn; omega)
  refine cS (d := .tup [dI r2_0, dI r2_1]) k_r2 ?_
  refine bS (d := dI (r2_0)) (te_ext rfl) ?_
  refine bS (d := dI (r2_1)) (te_ext rfl) ?_
  refine bS sk_eql ?_
  refine iD rfl (fun c3 => ?_) (fun c3 => ?_)
  ·
   exact wr_ret rfl ⟨_, rfl, (hbs_cons hb_nil (hbs_cons hb_bool hbs_nil))⟩
  ·
   refine bS (d := dI (r2_0)) (sh_chk1 rfl) ?_
   obtain ⟨y4, ev_y4, l_y4, h_y4, n_y4⟩ := vs_lit (E := EE) (B := 300000000) (el := 3) (sz := 1) (xs := [dI (r2_0)]) (e := .int .i64) rfl (all_c hb_int all_n) rfl rfl
   simp only [List.length_cons, List.length_nil] at l_y4
   have i_y4 := isSl_ofB h_y4
   have b_y4 := len_leB h_y4
   refine bS (d := y4) ev_y4 ?_
   obtain ⟨y5, ev_y5, l_y5, h_y5⟩ := vs_app (E := EE) (el := 3) (sz := 1) (bytes := 8) h_v0 h_y4 (by decide) (by omega)
   have i_y5 := isSl_ofB h_y5
   have b_y5 := len_leB h_y5
   refine bS (d := y5) ev_y5 ?_
   refine bS (d := dI ((j0) + (r2_1))) (si_add (by omega)) ?_
   exact wr_jump rfl (ih0 (by omega) ((j0) + (r2_1)) (by omega) y5 h_y5 (by omega))
 ·
  exact wr_ret rfl ⟨_, rfl, (hbs_cons h_v0 (hbs_cons hb_bool hbs_nil))⟩
theorem t64 {a : D} (h_a : HasB 300000000 (.str) a) : ∃ d, (HasB 300000000 (.bool)) d ∧ Holds EE 64 [a] d := by
 suffices h : ∃ d, (HasB 300000000 (.bool)) d ∧ Goes EE (Holds EE) u64Ts 0 [a] d by
  obtain ⟨d, hd, hg⟩ := h; exact ⟨d, hd, u64 rfl hg⟩
 obtain ⟨a, rfl, hs_a⟩ := h_a
 refine goes_R (R := (HasB 300000000 (.bool))) ?_
 show wp _ _ _ u64T0 _
 refine wr_jump rfl (loop_up (P := fun i0 => i0 ≤ a.size → ∃ d, (HasB 300000000 (.bool)) d ∧ Goes EE (Holds EE) u64Ts 1 [.leaf (.string a), dI ((i0 : Nat) : Int)] d) (a.size) (fun i0 ih0 => ?_) 0 (by omega))
 intro hn0
 refine goes_R (R := (HasB 300000000 (.bool))) ?_
 show wp _ _ _ u64T1 _
 refine bS (d := dI ((a.size : Nat) : Int)) ss_len ?_
 refine bS sk_lss ?_
 refine iD rfl (fun c1 => ?_) (fun c1 => ?_)
 ·
  obtain ⟨w2, p2, q2, ew2⟩ := ss_chr (E := EE) (s := a) (i := ((i0 : Nat) : Int)) (by omega) (by omega)
  refine bS (d := .leaf (.int .u8 (w2))) ew2 ?_
  refine bS sk_lss ?_
  refine iD rfl (fun c3 => ?_) (fun c3 => ?_)
  ·
   exact wr_ret rfl hb_bool
  ·
   obtain ⟨w4, p4, q4, ew4⟩ := ss_chr (E := EE) (s := a) (i := ((i0 : Nat) : Int)) (by omega) (by omega)
   refine bS (d := .leaf (.int .u8 (w4))) ew4 ?_
   refine bS sk_eql ?_
   refine iD rfl (fun c5 => ?_) (fun c5 => ?_)
   ·
    exact wr_ret rfl hb_bool
   ·
    refine bS (d := dI ((i0 + 1 : Nat) : Int)) (sh_add (cap_bd' (by omega))) ?_
    exact wr_jump rfl (ih0 (by omega) (by omega))
 ·
  obtain ⟨_, ⟨_, rfl, r2_0, _, rfl, h_r2_0, _, _, rfl, ⟨r2_1, rfl⟩, rfl⟩, k_r2⟩ := t104 (a := .leaf (.string a)) (hb_str hs_a)
  have i_r2_0 := isSl_ofB h_r2_0
  have b_r2_0 := len_leB h_r2_0
  refine cS (d := .tup [r2_0, dB (r2_1)]) k_r2 ?_
  refine bS (d := r2_0) (te_ext rfl) ?_
  refine bS (d := dB (r2_1)) (te_ext rfl) ?_
  refine wp_iteC rfl (fun c3 => ?_) (fun c3 => ?_)
  ·
   clear c3
   refine bS (d := dI ((a.size : Nat) : Int)) ss_len ?_
   refine bS sk_geq ?_
   refine iD rfl (fun c4 => ?_) (fun c4 => ?_)
   ·
    refine bS (d := dI ((a.size : Nat) : Int)) ss_len ?_
    refine bS sk_leq ?_
    exact wr_ret rfl hb_bool
   ·
    exact wr_ret rfl hb_bool
  ·
   clear c3
   exact wr_ret rfl hb_bool
theorem t67 {a : D} (h_a : HasB 300000000 (.str) a) : ∃ d, (HasB 300000000 (.bool)) d ∧ Holds EE 67 [a] d := by
 suffices h : ∃ d, (HasB 300000000 (.bool)) d ∧ Goes EE (Holds EE) u67Ts 0 [a] d by
  obtain ⟨d, hd, hg⟩ := h; exact ⟨d, hd, u67 rfl hg⟩
 obtain ⟨a, rfl, hs_a⟩ := h_a
 refine goes_R (R := (HasB 300000000 (.bool))) ?_
 show wp _ _ _ u67T0 _
 refine wr_jump rfl (loop_up (P := fun i0 => i0 ≤ a.size → ∃ d, (HasB 300000000 (.bool)) d ∧ Goes EE (Holds EE) u67Ts 1 [.leaf (.string a), dI ((i0 : Nat) : Int)] d) (a.size) (fun i0 ih0 => ?_) 0 (by omega))
 intro hn0
 refine goes_R (R := (HasB 300000000 (.bool))) ?_
 show wp _ _ _ u67T1 _
 refine bS (d := dI ((a.size : Nat) : Int)) ss_len ?_
 refine bS sk_lss ?_
 refine iD rfl (fun c1 => ?_) (fun c1 => ?_)
 ·
  obtain ⟨w2, p2, q2, ew2⟩ := ss_chr (E := EE) (s := a) (i := ((i0 : Nat) : Int)) (by omega) (by omega)
  refine bS (d := .leaf (.int .u8 (w2))) ew2 ?_
  refine bS sk_eql ?_
  refine iD rfl (fun c3 => ?_) (fun c3 => ?_)
  ·
   exact wr_ret rfl hb_bool
  ·
   refine bS (d := dI ((i0 + 1 : Nat) : Int)) (sh_add (cap_bd' (by omega))) ?_
   exact wr_jump rfl (ih0 (by omega) (by omega))
 ·
  obtain ⟨_, ⟨r2, rfl⟩, k_r2⟩ := t64 (a := .leaf (.string a)) (hb_str hs_a)
  refine cS (d := dB (r2)) k_r2 ?_
  exact wr_ret rfl hb_bool
theorem t156 {a : D} (h_a : HasB 300000000 (.str) a) : ∃ d, (HasB 300000000 (.bool)) d ∧ Holds EE 156 [a] d := by
 suffices h : ∃ d, (HasB 300000000 (.bool)) d ∧ Goes EE (Holds EE) u156Ts 0 [a] d by
  obtain ⟨d, hd, hg⟩ := h; exact ⟨d, hd, u156 rfl hg⟩
 obtain ⟨a, rfl, hs_a⟩ := h_a
 refine goes_R (R := (HasB 300000000 (.bool))) ?_
 show wp _ _ _ u156T0 _
 refine wr_jump rfl (loop_up (P := fun i0 => i0 ≤ a.size → ∃ d, (HasB 300000000 (.bool)) d ∧ Goes EE (Holds EE) u156Ts 1 [.leaf (.string a), dI ((i0 : Nat) : Int)] d) (a.size) (fun i0 ih0 => ?_) 0 (by omega))
 intro hn0
 refine goes_R (R := (HasB 300000000 (.bool))) ?_
 show wp _ _ _ u156T1 _
 refine bS (d := dI ((a.size : Nat) : Int)) ss_len ?_
 refine bS sk_lss ?_
 refine iD rfl (fun c1 => ?_) (fun c1 => ?_)
 ·
  obtain ⟨w2, p2, q2, ew2⟩ := ss_chr (E := EE) (s := a) (i := ((i0 : Nat) : Int)) (by omega) (by omega)
  refine bS (d := .leaf (.int .u8 (w2))) ew2 ?_
  refine bS sk_eql ?_
  refine iD rfl (fun c3 => ?_) (fun c3 => ?_)
  ·
   exact wr_ret rfl hb_bool
  ·
   obtain ⟨w4, p4, q4, ew4⟩ := ss_chr (E := EE) (s := a) (i := ((i0 : Nat) : Int)) (by omega) (by omega)
   refine bS (d := .leaf (.int .u8 (w4))) ew4 ?_
   refine bS sk_eql ?_
   refine iD rfl (fun c5 => ?_) (fun c5 => ?_)
   ·
    exact wr_ret rfl hb_bool
   ·
    refine bS (d := dI ((i0 + 1 : Nat) : Int)) (sh_add (cap_bd' (by omega))) ?_
    exact wr_jump rfl (ih0 (by omega) (by omega))
 ·
  obtain ⟨_, ⟨r2, rfl⟩, k_r2⟩ := t64 (a := .leaf (.string a)) (hb_str hs_a)
  refine cS (d := dB (r2)) k_r2 ?_
  exact wr_ret rfl hb_bool
theorem t157 {a : D} (h_a : HasB 300000000 (.str) a) : ∃ d, (HasB 300000000 (.int .i64)) d ∧ Holds EE 157 [a] d := by
 suffices h : ∃ d, (HasB 300000000 (.int .i64)) d ∧ Goes EE (Holds EE) u157Ts 0 [a] d by
  obtain ⟨d, hd, hg⟩ := h; exact ⟨d, hd, u157 rfl hg⟩
 obtain ⟨a, rfl, hs_a⟩ := h_a
 refine goes_R (R := (HasB 300000000 (.int .i64))) ?_
 show wp _ _ _ u157T0 _
 refine bS (d := dI ((a.size : Nat) : Int)) ss_len ?_
 refine bS sk_gtr ?_
 refine iD rfl (fun c0 => ?_) (fun c0 => ?_)
 ·
  exact wr_ret rfl hb_int
 ·
  obtain ⟨_, ⟨_, rfl, r1_0, _, rfl, h_r1_0, _, _, rfl, ⟨r1_1, rfl⟩, rfl⟩, k_r1⟩ := t104 (a := .leaf (.string a)) (hb_str hs_a)
  have i_r1_0 := isSl_ofB h_r1_0
  have b_r1_0 := len_leB h_r1_0
  refine cS (d := .tup [r1_0, dB (r1_1)]) k_r1 ?_
  refine bS (d := r1_0) (te_ext rfl) ?_
  refine bS (d := dB (r1_1)) (te_ext rfl) ?_
  refine bS (d := dB (!(r1_1))) sh_not ?_
  refine wp_iteC rfl (fun c2 => ?_) (fun c2 => ?_)
  ·
   clear c2
   exact wr_ret rfl hb_int
  ·
   clear c2
   refine wr_jump rfl (loop_up (P := fun i3 => i3 ≤ r1_0.es.length → ∃ d, (HasB 300000000 (.int .i64)) d ∧ Goes EE (Holds EE) u157Ts 1 [r1_0, dI ((i3 : Nat) : Int)] d) (r1_0.es.length) (fun i3 ih3 => ?_) 0 (by omega))
   intro hn3
   refine goes_R (R := (HasB 300000000 (.int .i64))) ?_
   show wp _ _ _ u157T1 _
   refine bS (d := dI ((r1_0.es.length : Nat) : Int)) (sh_len i_r1_0) ?_
   refine bS sk_lss ?_
   refine iD rfl (fun c4 => ?_) (fun c4 => ?_)
   ·
    obtain ⟨x5, e_x5⟩ := get_at (d := r1_0) (s := ((i3 : Nat) : Int)) (by omega) (by omega)
    obtain ⟨x5, rfl⟩ := (elem_ofB h_r1_0 e_x5)
    refine bS (d := dB (true)) (si_inr (by omega) e_x5) ?_
    refine bS (d := dI (x5)) (si_elem1 i_r1_0 (by omega) e_x5 rfl) ?_
    refine bS sk_lss ?_
    refine iD rfl (fun c6 => ?_) (fun c6 => ?_)
    ·
     exact wr_ret rfl hb_int
    ·
     refine bS (d := dB (true)) (si_inr (by omega) e_x5) ?_
     refine bS (d := dI (x5)) (si_elem1 i_r1_0 (by omega) e_x5 rfl) ?_
     refine bS sk_eql ?_
     refine iD rfl (fun c7 => ?_) (fun c7 => ?_)
     ·
      exact wr_ret rfl hb_int
     ·
      refine bS (d := dI ((i3 + 1 : Nat) : Int)) (sh_add (cap_bd' (by omega))) ?_
      exact wr_jump rfl (ih3 (by omega) (by omega))
   ·
    exact wr_ret rfl hb_int
theorem t134 {a b : D} (h_a : HasB 300000000 (.sl 86 2 (.st [.str, .str])) a) (h_b : HasB 300000000 (.st [.str, .str]) b) : ∃ d, (HasB 300000000 (.int .i64)) d ∧ Holds EE 134 [a, b] d := by
 suffices h : ∃ d, (HasB 300000000 (.int .i64)) d ∧ Goes EE (Holds EE) u134Ts 0 [a, b] d by
  obtain ⟨d, hd, hg⟩ := h; exact ⟨d, hd, u134 rfl hg⟩
 have i_a := isSl_ofB h_a
 have b_a := len_leB h_a
 obtain ⟨_, rfl, _, _, rfl, ⟨b_0, rfl, hs_b_0⟩, _, _, rfl, ⟨b_1, rfl, hs_b_1⟩, rfl⟩ := h_b
 refine goes_R (R := (HasB 300000000 (.int .i64))) ?_
 show wp _ _ _ u134T0 _
 refine bS (d := .agg [.leaf (.string b_0), .leaf (.string b_1)]) (sh_chkW rfl) ?_
 refine bS (d := .leaf (.string b_0)) (sh_fld1 rfl rfl) ?_
 obtain ⟨_, ⟨r0, rfl⟩, k_r0⟩ := t156 (a := .leaf (.string b_0)) (hb_str hs_b_0)
 refine cS (d := dB (r0)) k_r0 ?_
 refine bS (d := dB (!(r0))) sh_not ?_
 refine wp_iteC rfl (fun c1 => ?_) (fun c1 => ?_)
 ·
  clear c1
  exact wr_ret rfl hb_int
 ·
  clear c1
  refine bS (d := .leaf (.string b_1)) (sh_fld1 rfl rfl) ?_
  obtain ⟨_, ⟨r2, rfl⟩, k_r2⟩ := t157 (a := .leaf (.string b_1)) (hb_str hs_b_1)
  refine cS (d := dI (r2)) k_r2 ?_
  refine bS sk_neq ?_
  refine iD rfl (fun c3 => ?_) (fun c3 => ?_)
  ·
   exact wr_ret rfl hb_int
  ·
   refine bS (d := .leaf (.string b_0)) (sh_fld1 rfl rfl) ?_
   obtain ⟨_, ⟨r4, rfl⟩, k_r4⟩ := t158 (a := a) (b := .leaf (.string b_0)) h_a (hb_str hs_b_0)
   refine cS (d := dB (r4)) k_r4 ?_
   refine wp_iteC rfl (fun c5 => ?_) (fun c5 => ?_)
   ·
    clear c5
    exact wr_ret rfl hb_int
   ·
    clear c5
    exact wr_ret rfl hb_int
theorem t108 {a : D} (h_a : HasB 300000000 zE a) : ∃ d, (HasB 300000000 (.int .i64)) d ∧ Holds EE 108 [a] d := by
 suffices h : ∃ d, (HasB 300000000 (.int .i64)) d ∧ Goes EE (Holds EE) u108Ts 0 [a] d by
  obtain ⟨d, hd, hg⟩ := h; exact ⟨d, hd, u108 rfl hg⟩
 obtain ⟨_, rfl, _, _, rfl, ⟨a_0, rfl⟩, a_1, _, rfl, h_a_1, _, _, rfl, ⟨a_2, rfl⟩, a_3, _, rfl, h_a_3, _, _, rfl, ⟨a_4, rfl⟩, a_5, _, rfl, h_a_5, a_6, _, rfl, h_a_6, a_7, _, rfl, h_a_7, rfl⟩ := h_a
 have i_a_1 := isSl_ofB h_a_1
 have b_a_1 := len_leB h_a_1
 have i_a_3 := isSl_ofB h_a_3
 have b_a_3 := len_leB h_a_3
 have i_a_5 := isSl_ofB h_a_5
 have b_a_5 := len_leB h_a_5
 have i_a_6 := isSl_ofB h_a_6
 have b_a_6 := len_leB h_a_6
 have i_a_7 := isSl_ofB h_a_7
 have b_a_7 := len_leB h_a_7
 refine goes_R (R := (HasB 300000000 (.int .i64))) ?_
 show wp _ _ _ u108T0 _
 refine bS (d := .agg [dI (a_0), a_1, dI (a_2), a_3, dI (a_4), a_5, a_6, a_7]) (sh_chkW rfl) ?_
 refine bS (d := dI (a_4)) (sh_fld1 rfl rfl) ?_
 refine bS sk_neq ?_
 refine iD rfl (fun c0 => ?_) (fun c0 => ?_)
 ·
  refine bS (d := dI (a_4)) (sh_fld1 rfl rfl) ?_
  obtain ⟨_, ⟨r1, rfl⟩, k_r1⟩ := t132 (a := dI (a_4)) hb_int
  refine cS (d := dB (r1)) k_r1 ?_
  refine bS (d := dB (!(r1))) sh_not ?_
  refine wp_iteC rfl (fun c2 => ?_) (fun c2 => ?_)
  ·
   clear c2
   exact wr_ret rfl hb_int
  ·
   clear c2
   refine bS (d := dI (a_4)) (sh_fld1 rfl rfl) ?_
   refine bS (d := dI (a_0)) (sh_fld1 rfl rfl) ?_
   refine bS sk_eql ?_
   refine iD rfl (fun c3 => ?_) (fun c3 => ?_)
   ·
    exact wr_ret rfl hb_int
   ·
    refine bS (d := a_5) (sh_fld1 rfl i_a_5.one) ?_
    refine bS (d := dI ((a_5.es.length : Nat) : Int)) (sh_len i_a_5) ?_
    refine bS sk_gtr ?_
    refine iD rfl (fun c4 => ?_) (fun c4 => ?_)
    ·
     exact wr_ret rfl hb_int
    ·
     refine bS (d := a_5) (sh_fld1 rfl i_a_5.one) ?_
     refine bS (d := dI ((a_5.es.length : Nat) : Int)) (sh_len i_a_5) ?_
     refine bS sk_eql ?_
     refine iD rfl (fun c5 => ?_) (fun c5 => ?_)
     ·
      refine bS (d := dI (a_4)) (sh_fld1 rfl rfl) ?_
      refine bS sk_eql ?_
      refine iD rfl (fun c6 => ?_) (fun c6 => ?_)
      ·
       exact wr_ret rfl hb_int
      ·
       refine wr_jump rfl (loop_up (P := fun i7 => i7 ≤ a_5.es.length → ∃ d, (HasB 300000000 (.int .i64)) d ∧ Goes EE (Holds EE) u108Ts 1 [dI ((i7 : Nat) : Int), .agg [dI (a_0), a_1, dI (a_2), a_3, dI (a_4), a_5, a_6, a_7]] d) (a_5.es.length) (fun i7 ih7 => ?_) 0 (by omega))
       intro hn7
       refine goes_R (R := (HasB 300000000 (.int .i64))) ?_
       show wp _ _ _ u108T1 _
       refine bS (d := a_5) (sh_fld1 rfl i_a_5.one) ?_
       refine bS (d := dI ((a_5.es.length : Nat) : Int)) (sh_len i_a_5) ?_
       refine bS sk_lss ?_
       refine iD rfl (fun c8 => ?_) (fun c8 => ?_)
       ·
        refine bS (d := a_5) (sh_fld1 rfl i_a_5.one) ?_
        obtain ⟨y9, ev_y9, l_y9, h_y9⟩ := vs_hi (E := EE) (j := ((i7 : Nat) : Int)) h_a_5 (by omega) (by omega)
        have i_y9 := isSl_ofB h_y9
        have b_y9 := len_leB h_y9
        refine bS (d := y9) ev_y9 ?_
        refine bS (d := a_5) (sh_fld1 rfl i_a_5.one) ?_
        obtain ⟨x10, e_x10⟩ := get_at (d := a_5) (s := ((i7 : Nat) : Int)) (by omega) (by omega)
        obtain ⟨_, rfl, _, _, rfl, ⟨x10_0, rfl, hs_x10_0⟩, _, _, rfl, ⟨x10_1, rfl, hs_x10_1⟩, rfl⟩ := (elem_ofB h_a_5 e_x10)
        refine bS (d := dB (true)) (si_inr (by omega) e_x10) ?_
        refine bS (d := .agg [.leaf (.string x10_0), .leaf (.string x10_1)]) (si_elemW i_a_5 (by omega) e_x10 rfl) ?_
        obtain ⟨_, ⟨r11, rfl⟩, k_r11⟩ := t134 (a := y9) (b := .agg [.leaf (.string x10_0), .leaf (.string x10_1)]) h_y9 (hb_st (hbs_cons (hb_str hs_x10_0) (hbs_cons (hb_str hs_x10_1) hbs_nil)))
        refine cS (d := dI (r11)) k_r11 ?_
        refine bS sk_neq ?_
        refine iD rfl (fun c12 => ?_) (fun c12 => ?_)
        ·
         exact wr_ret rfl hb_int
        ·
         refine bS (d := dI ((i7 + 1 : Nat) : Int)) (sh_add (cap_bd' (by omega))) ?_
         exact wr_jump rfl (ih7 (by omega) (by omega))
       ·
        exact wr_ret rfl hb_int
     ·
      refine wr_jump rfl (loop_up (P := fun i6 => i6 ≤ a_5.es.length → ∃ d, (HasB 300000000 (.int .i64)) d ∧ Goes EE (Holds EE) u108Ts 1 [dI ((i6 : Nat) : Int), .agg [dI (a_0), a_1, dI (a_2), a_3, dI (a_4), a_5, a_6, a_7]] d) (a_5.es.length) (fun i6 ih6 => ?_) 0 (by omega))
      intro hn6
      refine goes_R (R := (HasB 300000000 (.int .i64))) ?_
      show wp _ _ _ u108T1 _
      refine bS (d := a_5) (sh_fld1 rfl i_a_5.one) ?_
      refine bS (d := dI ((a_5.es.length : Nat) : Int)) (sh_len i_a_5) ?_
      refine bS sk_lss ?_
      refine iD rfl (fun c7 => ?_) (fun c7 => ?_)
      ·
       refine bS (d := a_5) (sh_fld1 rfl i_a_5.one) ?_
       obtain ⟨y8, ev_y8, l_y8, h_y8⟩ := vs_hi (E := EE) (j := ((i6 : Nat) : Int)) h_a_5 (by omega) (by omega)
       have i_y8 := isSl_ofB h_y8
       have b_y8 := len_leB h_y8
       refine bS (d := y8) ev_y8 ?_
       refine bS (d := a_5) (sh_fld1 rfl i_a_5.one) ?_
       obtain ⟨x9, e_x9⟩ := get_at (d := a_5) (s := ((i6 : Nat) : Int)) (by omega) (by omega)
       obtain ⟨_, rfl, _, _, rfl, ⟨x9_0, rfl, hs_x9_0⟩, _, _, rfl, ⟨x9_1, rfl, hs_x9_1⟩, rfl⟩ := (elem_ofB h_a_5 e_x9)
       refine bS (d := dB (true)) (si_inr (by omega) e_x9) ?_
       refine bS (d := .agg [.leaf (.string x9_0), .leaf (.string x9_1)]) (si_elemW i_a_5 (by omega) e_x9 rfl) ?_
       obtain ⟨_, ⟨r10, rfl⟩, k_r10⟩ := t134 (a := y8) (b := .agg [.leaf (.string x9_0), .leaf (.string x9_1)]) h_y8 (hb_st (hbs_cons (hb_str hs_x9_0) (hbs_cons (hb_str hs_x9_1) hbs_nil)))
       refine cS (d := dI (r10)) k_r10 ?_
       refine bS sk_neq ?_
       refine iD rfl (fun c11 => ?_) (fun c11 => ?_)
       ·
        exact wr_ret rfl hb_int
       ·
        refine bS (d := dI ((i6 + 1 : Nat) : Int)) (sh_add (cap_bd' (by omega))) ?_
        exact wr_jump rfl (ih6 (by omega) (by omega))
      ·
       exact wr_ret rfl hb_int
 ·
  refine bS (d := dI (a_4)) (sh_fld1 rfl rfl) ?_
  refine bS (d := dI (a_0)) (sh_fld1 rfl rfl) ?_
  refine bS sk_eql ?_
  refine iD rfl (fun c1 => ?_) (fun c1 => ?_)
  ·
   exact wr_ret rfl hb_int
  ·
   refine bS (d := a_5) (sh_fld1 rfl i_a_5.one) ?_
   refine bS (d := dI ((a_5.es.length : Nat) : Int)) (sh_len i_a_5) ?_
   refine bS sk_gtr ?_
   refine iD rfl (fun c2 => ?_) (fun c2 => ?_)
   ·
    exact wr_ret rfl hb_int
   ·
    refine bS (d := a_5) (sh_fld1 rfl i_a_5.one) ?_
    refine bS (d := dI ((a_5.es.length : Nat) : Int)) (sh_len i_a_5) ?_
    refine bS sk_eql ?_
    refine iD rfl (fun c3 => ?_) (fun c3 => ?_)
    ·
     refine bS (d := dI (a_4)) (sh_fld1 rfl rfl) ?_
     refine bS sk_eql ?_
     refine iD rfl (fun c4 => ?_) (fun c4 => ?_)
     ·
      exact wr_ret rfl hb_int
     ·
      refine wr_jump rfl (loop_up (P := fun i5 => i5 ≤ a_5.es.length → ∃ d, (HasB 300000000 (.int .i64)) d ∧ Goes EE (Holds EE) u108Ts 1 [dI ((i5 : Nat) : Int), .agg [dI (a_0), a_1, dI (a_2), a_3, dI (a_4), a_5, a_6, a_7]] d) (a_5.es.length) (fun i5 ih5 => ?_) 0 (by omega))
      intro hn5
      refine goes_R (R := (HasB 300000000 (.int .i64))) ?_
      show wp _ _ _ u108T1 _
      refine bS (d := a_5) (sh_fld1 rfl i_a_5.one) ?_
      refine bS (d := dI ((a_5.es.length : Nat) : Int)) (sh_len i_a_5) ?_
      refine bS sk_lss ?_
      refine iD rfl (fun c6 => ?_) (fun c6 => ?_)
      ·
       refine bS (d := a_5) (sh_fld1 rfl i_a_5.one) ?_
       obtain ⟨y7, ev_y7, l_y7, h_y7⟩ := vs_hi (E := EE) (j := ((i5 : Nat) : Int)) h_a_5 (by omega) (by omega)
       have i_y7 := isSl_ofB h_y7
       have b_y7 := len_leB h_y7
       refine bS (d := y7) ev_y7 ?_
       refine bS (d := a_5) (sh_fld1 rfl i_a_5.one) ?_
       obtain ⟨x8, e_x8⟩ := get_at (d := a_5) (s := ((i5 : Nat) : Int)) (by omega) (by omega)
       obtain ⟨_, rfl, _, _, rfl, ⟨x8_0, rfl, hs_x8_0⟩, _, _, rfl, ⟨x8_1, rfl, hs_x8_1⟩, rfl⟩ := (elem_ofB h_a_5 e_x8)
       refine bS (d := dB (true)) (si_inr (by omega) e_x8) ?_
       refine bS (d := .agg [.leaf (.string x8_0), .leaf (.string x8_1)]) (si_elemW i_a_5 (by omega) e_x8 rfl) ?_
       obtain ⟨_, ⟨r9, rfl⟩, k_r9⟩ := t134 (a := y7) (b := .agg [.leaf (.string x8_0), .leaf (.string x8_1)]) h_y7 (hb_st (hbs_cons (hb_str hs_x8_0) (hbs_cons (hb_str hs_x8_1) hbs_nil)))
       refine cS (d := dI (r9)) k_r9 ?_
       refine bS sk_neq ?_
       refine iD rfl (fun c10 => ?_) (fun c10 => ?_)
       ·
        exact wr_ret rfl hb_int
       ·
        refine bS (d := dI ((i5 + 1 : Nat) : Int)) (sh_add (cap_bd' (by omega))) ?_
        exact wr_jump rfl (ih5 (by omega) (by omega))
      ·
       exact wr_ret rfl hb_int
    ·
     refine wr_jump rfl (loop_up (P := fun i4 => i4 ≤ a_5.es.length → ∃ d, (HasB 300000000 (.int .i64)) d ∧ Goes EE (Holds EE) u108Ts 1 [dI ((i4 : Nat) : Int), .agg [dI (a_0), a_1, dI (a_2), a_3, dI (a_4), a_5, a_6, a_7]] d) (a_5.es.length) (fun i4 ih4 => ?_) 0 (by omega))
     intro hn4
     refine goes_R (R := (HasB 300000000 (.int .i64))) ?_
     show wp _ _ _ u108T1 _
     refine bS (d := a_5) (sh_fld1 rfl i_a_5.one) ?_
     refine bS (d := dI ((a_5.es.length : Nat) : Int)) (sh_len i_a_5) ?_
     refine bS sk_lss ?_
     refine iD rfl (fun c5 => ?_) (fun c5 => ?_)
     ·
      refine bS (d := a_5) (sh_fld1 rfl i_a_5.one) ?_
      obtain ⟨y6, ev_y6, l_y6, h_y6⟩ := vs_hi (E := EE) (j := ((i4 : Nat) : Int)) h_a_5 (by omega) (by omega)
      have i_y6 := isSl_ofB h_y6
      have b_y6 := len_leB h_y6
      refine bS (d := y6) ev_y6 ?_
      refine bS (d := a_5) (sh_fld1 rfl i_a_5.one) ?_
      obtain ⟨x7, e_x7⟩ := get_at (d := a_5) (s := ((i4 : Nat) : Int)) (by omega) (by omega)
      obtain ⟨_, rfl, _, _, rfl, ⟨x7_0, rfl, hs_x7_0⟩, _, _, rfl, ⟨x7_1, rfl, hs_x7_1⟩, rfl⟩ := (elem_ofB h_a_5 e_x7)
      refine bS (d := dB (true)) (si_inr (by omega) e_x7) ?_
      refine bS (d := .agg [.leaf (.string x7_0), .leaf (.string x7_1)]) (si_elemW i_a_5 (by omega) e_x7 rfl) ?_
      obtain ⟨_, ⟨r8, rfl⟩, k_r8⟩ := t134 (a := y6) (b := .agg [.leaf (.string x7_0), .leaf (.string x7_1)]) h_y6 (hb_st (hbs_cons (hb_str hs_x7_0) (hbs_cons (hb_str hs_x7_1) hbs_nil)))
      refine cS (d := dI (r8)) k_r8 ?_
      refine bS sk_neq ?_
      refine iD rfl (fun c9 => ?_) (fun c9 => ?_)
      ·
       exact wr_ret rfl hb_int
      ·
       refine bS (d := dI ((i4 + 1 : Nat) : Int)) (sh_add (cap_bd' (by omega))) ?_
       exact wr_jump rfl (ih4 (by omega) (by omega))
     ·
      exact wr_ret rfl hb_int
theorem t109 {a : D} (h_a : HasB 300000000 zE a) : ∃ d, (HasB 300000000 (.int .i64)) d ∧ Holds EE 109 [a] d := by
 suffices h : ∃ d, (HasB 300000000 (.int .i64)) d ∧ Goes EE (Holds EE) u109Ts 0 [a] d by
  obtain ⟨d, hd, hg⟩ := h; exact ⟨d, hd, u109 rfl hg⟩
 obtain ⟨_, rfl, _, _, rfl, ⟨a_0, rfl⟩, a_1, _, rfl, h_a_1, _, _, rfl, ⟨a_2, rfl⟩, a_3, _, rfl, h_a_3, _, _, rfl, ⟨a_4, rfl⟩, a_5, _, rfl, h_a_5, a_6, _, rfl, h_a_6, a_7, _, rfl, h_a_7, rfl⟩ := h_a
 have i_a_1 := isSl_ofB h_a_1
 have b_a_1 := len_leB h_a_1
 have i_a_3 := isSl_ofB h_a_3
 have b_a_3 := len_leB h_a_3
 have i_a_5 := isSl_ofB h_a_5
 have b_a_5 := len_leB h_a_5
 have i_a_6 := isSl_ofB h_a_6
 have b_a_6 := len_leB h_a_6
 have i_a_7 := isSl_ofB h_a_7
 have b_a_7 := len_leB h_a_7
 refine goes_R (R := (HasB 300000000 (.int .i64))) ?_
 show wp _ _ _ u109T0 _
 refine bS (d := .agg [dI (a_0), a_1, dI (a_2), a_3, dI (a_4), a_5, a_6, a_7]) (sh_chkW rfl) ?_
 refine bS (d := a_6) (sh_fld1 rfl i_a_6.one) ?_
 refine bS (d := dI ((a_6.es.length : Nat) : Int)) (sh_len i_a_6) ?_
 refine bS sk_gtr ?_
 refine iD rfl (fun c0 => ?_) (fun c0 => ?_)
 ·
  exact wr_ret rfl hb_int
 ·
  refine wr_jump rfl (loop_up (P := fun i1 => i1 ≤ a_6.es.length → ∃ d, (HasB 300000000 (.int .i64)) d ∧ Goes EE (Holds EE) u109Ts 1 [dI ((i1 : Nat) : Int), .agg [dI (a_0), a_1, dI (a_2), a_3, dI (a_4), a_5, a_6, a_7]] d) (a_6.es.length) (fun i1 ih1 => ?_) 0 (by omega))
  intro hn1
  refine goes_R (R := (HasB 300000000 (.int .i64))) ?_
  show wp _ _ _ u109T1 _
  refine bS (d := a_6) (sh_fld1 rfl i_a_6.one) ?_
  refine bS (d := dI ((a_6.es.length : Nat) : Int)) (sh_len i_a_6) ?_
  refine bS sk_lss ?_
  refine iD rfl (fun c2 => ?_) (fun c2 => ?_)
  ·
   refine bS (d := a_6) (sh_fld1 rfl i_a_6.one) ?_
   obtain ⟨x3, e_x3⟩ := get_at (d := a_6) (s := ((i1 : Nat) : Int)) (by omega) (by omega)
   obtain ⟨_, rfl, _, _, rfl, ⟨x3_0, rfl⟩, _, _, rfl, ⟨x3_1, rfl⟩, rfl⟩ := (elem_ofB h_a_6 e_x3)
   refine bS (d := dB (true)) (si_inr (by omega) e_x3) ?_
   refine bS (d := .agg [dI (x3_0), dI (x3_1)]) (si_elemW i_a_6 (by omega) e_x3 rfl) ?_
   refine bS (d := .agg [dI (x3_0), dI (x3_1)]) (sh_chkW rfl) ?_
   refine bS (d := dI (x3_0)) (sh_fld1 rfl rfl) ?_
   refine bS sk_lss ?_
   refine iD rfl (fun c4 => ?_) (fun c4 => ?_)
   ·
    exact wr_ret rfl hb_int
   ·
    refine bS (d := dI (x3_0)) (sh_fld1 rfl rfl) ?_
    refine bS sk_gtr ?_
    refine iD rfl (fun c5 => ?_) (fun c5 => ?_)
    ·
     exact wr_ret rfl hb_int
    ·
     refine bS (d := dI (x3_1)) (sh_fld1 rfl rfl) ?_
     obtain ⟨_, ⟨r6, rfl⟩, k_r6⟩ := t132 (a := dI (x3_1)) hb_int
     refine cS (d := dB (r6)) k_r6 ?_
     refine bS (d := dB (!(r6))) sh_not ?_
     refine wp_iteC rfl (fun c7 => ?_) (fun c7 => ?_)
     ·
      clear c7
      exact wr_ret rfl hb_int
     ·
      clear c7
      refine bS (d := dI (x3_1)) (sh_fld1 rfl rfl) ?_
      refine bS (d := dI (a_0)) (sh_fld1 rfl rfl) ?_
      refine bS sk_eql ?_
      refine iD rfl (fun c8 => ?_) (fun c8 => ?_)
      ·
       exact wr_ret rfl hb_int
      ·
       refine bS sk_gtr ?_
       refine iD rfl (fun c9 => ?_) (fun c9 => ?_)
       ·
        refine bS (d := dI (x3_0)) (sh_fld1 rfl rfl) ?_
        refine bS (d := a_6) (sh_fld1 rfl i_a_6.one) ?_
        refine bS (d := dI (((i1 : Nat) : Int) - ((1 : Nat) : Int))) (si_sub (by omega)) ?_
        obtain ⟨x10, e_x10⟩ := get_at (d := a_6) (s := (((i1 : Nat) : Int) - ((1 : Nat) : Int))) (by omega) (by omega)
        obtain ⟨_, rfl, _, _, rfl, ⟨x10_0, rfl⟩, _, _, rfl, ⟨x10_1, rfl⟩, rfl⟩ := (elem_ofB h_a_6 e_x10)
        refine bS (d := dB (true)) (si_inr (by omega) e_x10) ?_
        refine bS (d := dI (x10_0)) (si_elemP (off := 0) i_a_6 (by omega) e_x10 rfl rfl (by decide)) ?_
        refine bS sk_lss ?_
        refine iD rfl (fun c11 => ?_) (fun c11 => ?_)
        ·
         exact wr_ret rfl hb_int
        ·
         refine bS (d := dI (x3_0)) (sh_fld1 rfl rfl) ?_
         refine bS (d := a_6) (sh_fld1 rfl i_a_6.one) ?_
         refine bS (d := dI (((i1 : Nat) : Int) - ((1 : Nat) : Int))) (si_sub (by omega)) ?_
         refine bS (d := dB (true)) (si_inr (by omega) e_x10) ?_
         refine bS (d := dI (x10_0)) (si_elemP (off := 0) i_a_6 (by omega) e_x10 rfl rfl (by decide)) ?_
         refine bS sk_eql ?_
         refine iD rfl (fun c12 => ?_) (fun c12 => ?_)
         ·
          refine bS (d := dI (x3_1)) (sh_fld1 rfl rfl) ?_
          refine bS (d := a_6) (sh_fld1 rfl i_a_6.one) ?_
          refine bS (d := dI (((i1 : Nat) : Int) - ((1 : Nat) : Int))) (si_sub (by omega)) ?_
          refine bS (d := dB (true)) (si_inr (by omega) e_x10) ?_
          refine bS (d := dI (x10_1)) (si_elemP (off := 1) i_a_6 (by omega) e_x10 rfl rfl (by decide)) ?_
          refine bS sk_leq ?_
          refine iD rfl (fun c13 => ?_) (fun c13 => ?_)
          ·
           exact wr_ret rfl hb_int
          ·
           refine bS (d := dI ((i1 + 1 : Nat) : Int)) (sh_add (cap_bd' (by omega))) ?_
           exact wr_jump rfl (ih1 (by omega) (by omega))
         ·
          refine bS (d := dI ((i1 + 1 : Nat) : Int)) (sh_add (cap_bd' (by omega))) ?_
          exact wr_jump rfl (ih1 (by omega) (by omega))
       ·
        refine bS (d := dI ((i1 + 1 : Nat) : Int)) (sh_add (cap_bd' (by omega))) ?_
        exact wr_jump rfl (ih1 (by omega) (by omega))
  ·
   exact wr_ret rfl hb_int
theorem t110 {a b : D} (h_a : HasB 300000000 (.sl 116 2 (.st [.int .i64, .int .i64])) a) (h_b : HasB 300000000 (.int .i64) b) : ∃ d, (HasB 300000000 (.int .i64)) d ∧ Holds EE 110 [a, b] d := by
 suffices h : ∃ d, (HasB 300000000 (.int .i64)) d ∧ Goes EE (Holds EE) u110Ts 0 [a, b] d by
  obtain ⟨d, hd, hg⟩ := h; exact ⟨d, hd, u110 rfl hg⟩
 have i_a := isSl_ofB h_a
 have b_a := len_leB h_a
 obtain ⟨b, rfl⟩ := h_b
 refine goes_R (R := (HasB 300000000 (.int .i64))) ?_
 show wp _ _ _ u110T0 _
 refine bS (d := dI ((a.es.length : Nat) : Int)) (sh_len i_a) ?_
 refine bS sk_gtr ?_
 refine iD rfl (fun c0 => ?_) (fun c0 => ?_)
 ·
  exact wr_ret rfl hb_int
 ·
  refine wr_jump rfl (loop_up (P := fun i1 => i1 ≤ a.es.length → ∃ d, (HasB 300000000 (.int .i64)) d ∧ Goes EE (Holds EE) u110Ts 1 [a, dI ((i1 : Nat) : Int)] d) (a.es.length) (fun i1 ih1 => ?_) 0 (by omega))
  intro hn1
  refine goes_R (R := (HasB 300000000 (.int .i64))) ?_
  show wp _ _ _ u110T1 _
  refine bS (d := dI ((a.es.length : Nat) : Int)) (sh_len i_a) ?_
  refine bS sk_lss ?_
  refine iD rfl (fun c2 => ?_) (fun c2 => ?_)
  ·
   obtain ⟨x3, e_x3⟩ := get_at (d := a) (s := ((i1 : Nat) : Int)) (by omega) (by omega)
   obtain ⟨_, rfl, _, _, rfl, ⟨x3_0, rfl⟩, _, _, rfl, ⟨x3_1, rfl⟩, rfl⟩ := (elem_ofB h_a e_x3)
   refine bS (d := dB (true)) (si_inr (by omega) e_x3) ?_
   refine bS (d := .agg [dI (x3_0), dI (x3_1)]) (si_elemW i_a (by omega) e_x3 rfl) ?_
   obtain ⟨_, ⟨r4, rfl⟩, k_r4⟩ := t135 (a := .agg [dI (x3_0), dI (x3_1)]) (hb_st (hbs_cons hb_int (hbs_cons hb_int hbs_nil)))
   refine cS (d := dB (r4)) k_r4 ?_
   refine bS (d := dB (!(r4))) sh_not ?_
   refine wp_iteC rfl (fun c5 => ?_) (fun c5 => ?_)
   ·
    clear c5
    exact wr_ret rfl hb_int
   ·
    clear c5
    refine bS sk_gtr ?_
    refine iD rfl (fun c6 => ?_) (fun c6 => ?_)
    ·
     refine bS (d := dI (((i1 : Nat) : Int) - ((1 : Nat) : Int))) (si_sub (by omega)) ?_
     obtain ⟨x7, e_x7⟩ := get_at (d := a) (s := (((i1 : Nat) : Int) - ((1 : Nat) : Int))) (by omega) (by omega)
     obtain ⟨_, rfl, _, _, rfl, ⟨x7_0, rfl⟩, _, _, rfl, ⟨x7_1, rfl⟩, rfl⟩ := (elem_ofB h_a e_x7)
     refine bS (d := dB (true)) (si_inr (by omega) e_x7) ?_
     refine bS (d := .agg [dI (x7_0), dI (x7_1)]) (si_elemW i_a (by omega) e_x7 rfl) ?_
     refine bS (d := dB (true)) (si_inr (by omega) e_x3) ?_
     refine bS (d := .agg [dI (x3_0), dI (x3_1)]) (si_elemW i_a (by omega) e_x3 rfl) ?_
     obtain ⟨_, ⟨r8, rfl⟩, k_r8⟩ := t136 (a := .agg [dI (x7_0), dI (x7_1)]) (b := .agg [dI (x3_0), dI (x3_1)]) (hb_st (hbs_cons hb_int (hbs_cons hb_int hbs_nil))) (hb_st (hbs_cons hb_int (hbs_cons hb_int hbs_nil)))
     refine cS (d := dB (r8)) k_r8 ?_
     refine bS (d := dB (!(r8))) sh_not ?_
     refine wp_iteC rfl (fun c9 => ?_) (fun c9 => ?_)
     ·
      clear c9
      exact wr_ret rfl hb_int
     ·
      clear c9
      refine bS (d := dI ((i1 + 1 : Nat) : Int)) (sh_add (cap_bd' (by omega))) ?_
      exact wr_jump rfl (ih1 (by omega) (by omega))
    ·
     refine bS (d := dI ((i1 + 1 : Nat) : Int)) (sh_add (cap_bd' (by omega))) ?_
     exact wr_jump rfl (ih1 (by omega) (by omega))
  ·
   exact wr_ret rfl hb_int
theorem t107 {a b : D} (h_a : HasB 300000000 zV a) (h_b : HasB 300000000 zE b) : ∃ d, (HasB 300000000 (.int .i64)) d ∧ Holds EE 107 [a, b] d := by
 suffices h : ∃ d, (HasB 300000000 (.int .i64)) d ∧ Goes EE (Holds EE) u107Ts 0 [a, b] d by
  obtain ⟨d, hd, hg⟩ := h; exact ⟨d, hd, u107 rfl hg⟩
 obtain ⟨_, rfl, a_0, _, rfl, h_a_0, rfl⟩ := h_a
 have i_a_0 := isSl_ofB h_a_0
 have b_a_0 := len_leB h_a_0
 obtain ⟨_, rfl, _, _, rfl, ⟨b_0, rfl⟩, b_1, _, rfl, h_b_1, _, _, rfl, ⟨b_2, rfl⟩, b_3, _, rfl, h_b_3, _, _, rfl, ⟨b_4, rfl⟩, b_5, _, rfl, h_b_5, b_6, _, rfl, h_b_6, b_7, _, rfl, h_b_7, rfl⟩ := h_b
 have i_b_1 := isSl_ofB h_b_1
 have b_b_1 := len_leB h_b_1
 have i_b_3 := isSl_ofB h_b_3
 have b_b_3 := len_leB h_b_3
 have i_b_5 := isSl_ofB h_b_5
 have b_b_5 := len_leB h_b_5
 have i_b_6 := isSl_ofB h_b_6
 have b_b_6 := len_leB h_b_6
 have i_b_7 := isSl_ofB h_b_7
 have b_b_7 := len_leB h_b_7
 refine goes_R (R := (HasB 300000000 (.int .i64))) ?_
 show wp _ _ _ u107T0 _
 refine bS (d := .agg [a_0]) (sh_chkW rfl) ?_
 refine bS (d := .agg [dI (b_0), b_1, dI (b_2), b_3, dI (b_4), b_5, b_6, b_7]) (sh_chkW rfl) ?_
 refine bS (d := dI (b_0)) (sh_fld1 rfl rfl) ?_
 obtain ⟨_, ⟨r0, rfl⟩, k_r0⟩ := t132 (a := dI (b_0)) hb_int
 refine cS (d := dB (r0)) k_r0 ?_
 refine bS (d := dB (!(r0))) sh_not ?_
 refine wp_iteC rfl (fun c1 => ?_) (fun c1 => ?_)
 ·
  clear c1
  exact wr_ret rfl hb_int
 ·
  clear c1
  refine bS (d := b_1) (sh_fld1 rfl i_b_1.one) ?_
  obtain ⟨_, ⟨r2, rfl⟩, k_r2⟩ := t133 (a := .agg [a_0]) (b := b_1) (hb_st (hbs_cons h_a_0 hbs_nil)) h_b_1
  refine cS (d := dI (r2)) k_r2 ?_
  refine bS sk_neq ?_
  refine iD rfl (fun c3 => ?_) (fun c3 => ?_)
  ·
   exact wr_ret rfl hb_int
  ·
   refine bS (d := dI (b_2)) (sh_fld1 rfl rfl) ?_
   refine bS sk_lss ?_
   refine iD rfl (fun c4 => ?_) (fun c4 => ?_)
   ·
    exact wr_ret rfl hb_int
   ·
    refine bS (d := dI (b_2)) (sh_fld1 rfl rfl) ?_
    refine bS sk_gtr ?_
    refine iD rfl (fun c5 => ?_) (fun c5 => ?_)
    ·
     exact wr_ret rfl hb_int
    ·
     refine bS (d := b_3) (sh_fld1 rfl i_b_3.one) ?_
     refine bS (d := dI ((b_3.es.length : Nat) : Int)) (sh_len i_b_3) ?_
     refine bS sk_gtr ?_
     refine iD rfl (fun c6 => ?_) (fun c6 => ?_)
     ·
      exact wr_ret rfl hb_int
     ·
      refine wr_jump rfl (loop_up (P := fun i7 => i7 ≤ b_3.es.length → ∃ d, (HasB 300000000 (.int .i64)) d ∧ Goes EE (Holds EE) u107Ts 1 [dI ((i7 : Nat) : Int), .agg [a_0], .agg [dI (b_0), b_1, dI (b_2), b_3, dI (b_4), b_5, b_6, b_7]] d) (b_3.es.length) (fun i7 ih7 => ?_) 0 (by omega))
      intro hn7
      refine goes_R (R := (HasB 300000000 (.int .i64))) ?_
      show wp _ _ _ u107T1 _
      refine bS (d := b_3) (sh_fld1 rfl i_b_3.one) ?_
      refine bS (d := dI ((b_3.es.length : Nat) : Int)) (sh_len i_b_3) ?_
      refine bS sk_lss ?_
      refine iD rfl (fun c8 => ?_) (fun c8 => ?_)
      ·
       refine bS (d := b_3) (sh_fld1 rfl i_b_3.one) ?_
       obtain ⟨x9, e_x9⟩ := get_at (d := b_3) (s := ((i7 : Nat) : Int)) (by omega) (by omega)
       have h_x9 := (elem_ofB h_b_3 e_x9)
       have i_x9 := isSl_ofB h_x9
       have b_x9 := len_leB h_x9
       refine bS (d := dB (true)) (si_inr (by omega) e_x9) ?_
       refine bS (d := x9) (si_elem1 i_b_3 (by omega) e_x9 i_x9.one) ?_
       obtain ⟨_, ⟨r10, rfl⟩, k_r10⟩ := t133 (a := .agg [a_0]) (b := x9) (hb_st (hbs_cons h_a_0 hbs_nil)) h_x9
       refine cS (d := dI (r10)) k_r10 ?_
       refine bS sk_neq ?_
       refine iD rfl (fun c11 => ?_) (fun c11 => ?_)
       ·
        exact wr_ret rfl hb_int
       ·
        refine bS (d := b_3) (sh_fld1 rfl i_b_3.one) ?_
        refine bS (d := dB (true)) (si_inr (by omega) e_x9) ?_
        refine bS (d := x9) (si_elem1 i_b_3 (by omega) e_x9 i_x9.one) ?_
        refine bS (d := b_1) (sh_fld1 rfl i_b_1.one) ?_
        obtain ⟨_, ⟨r12, rfl⟩, k_r12⟩ := t62 (a := x9) (b := b_1) h_x9 h_b_1
        refine cS (d := dB (r12)) k_r12 ?_
        refine wp_iteC rfl (fun c13 => ?_) (fun c13 => ?_)
        ·
         clear c13
         exact wr_ret rfl hb_int
        ·
         clear c13
         refine wr_jump rfl (loop_up (P := fun i14 => i14 ≤ i7 → ∃ d, (HasB 300000000 (.int .i64)) d ∧ Goes EE (Holds EE) u107Ts 2 [dI ((i7 : Nat) : Int), dI ((i14 : Nat) : Int), .agg [a_0], .agg [dI (b_0), b_1, dI (b_2), b_3, dI (b_4), b_5, b_6, b_7]] d) (i7) (fun i14 ih14 => ?_) 0 (by omega))
         intro hn14
         refine goes_R (R := (HasB 300000000 (.int .i64))) ?_
         show wp _ _ _ u107T2 _
         refine bS sk_lss ?_
         refine iD rfl (fun c15 => ?_) (fun c15 => ?_)
         ·
          refine bS (d := b_3) (sh_fld1 rfl i_b_3.one) ?_
          refine bS (d := dB (true)) (si_inr (by omega) e_x9) ?_
          refine bS (d := x9) (si_elem1 i_b_3 (by omega) e_x9 i_x9.one) ?_
          refine bS (d := b_3) (sh_fld1 rfl i_b_3.one) ?_
          obtain ⟨x16, e_x16⟩ := get_at (d := b_3) (s := ((i14 : Nat) : Int)) (by omega) (by omega)
          have h_x16 := (elem_ofB h_b_3 e_x16)
          have i_x16 := isSl_ofB h_x16
          have b_x16 := len_leB h_x16
          refine bS (d := dB (true)) (si_inr (by omega) e_x16) ?_
          refine bS (d := x16) (si_elem1 i_b_3 (by omega) e_x16 i_x16.one) ?_
          obtain ⟨_, ⟨r17, rfl⟩, k_r17⟩ := t62 (a := x9) (b := x16) h_x9 h_x16
          refine cS (d := dB (r17)) k_r17 ?_
          refine wp_iteC rfl (fun c18 => ?_) (fun c18 => ?_)
          ·
           clear c18
           exact wr_ret rfl hb_int
          ·
           clear c18
           refine bS (d := dI ((i14 + 1 : Nat) : Int)) (sh_add (cap_bd' (by omega))) ?_
           exact wr_jump rfl (ih14 (by omega) (by omega))
         ·
          refine bS (d := dI ((i7 + 1 : Nat) : Int)) (sh_add (cap_bd' (by omega))) ?_
          exact wr_jump rfl (ih7 (by omega) (by omega))
      ·
       exact wr_ret rfl hb_int
theorem t71 {a b : D} (h_a : HasB 300000000 zV a) (h_b : HasB 300000000 zE b) : ∃ d, (HasB 300000000 (.int .i64)) d ∧ Holds EE 71 [a, b] d := by
 suffices h : ∃ d, (HasB 300000000 (.int .i64)) d ∧ Goes EE (Holds EE) u71Ts 0 [a, b] d by
  obtain ⟨d, hd, hg⟩ := h; exact ⟨d, hd, u71 rfl hg⟩
 obtain ⟨_, rfl, a_0, _, rfl, h_a_0, rfl⟩ := h_a
 have i_a_0 := isSl_ofB h_a_0
 have b_a_0 := len_leB h_a_0
 obtain ⟨_, rfl, _, _, rfl, ⟨b_0, rfl⟩, b_1, _, rfl, h_b_1, _, _, rfl, ⟨b_2, rfl⟩, b_3, _, rfl, h_b_3, _, _, rfl, ⟨b_4, rfl⟩, b_5, _, rfl, h_b_5, b_6, _, rfl, h_b_6, b_7, _, rfl, h_b_7, rfl⟩ := h_b
 have i_b_1 := isSl_ofB h_b_1
 have b_b_1 := len_leB h_b_1
 have i_b_3 := isSl_ofB h_b_3
 have b_b_3 := len_leB h_b_3
 have i_b_5 := isSl_ofB h_b_5
 have b_b_5 := len_leB h_b_5
 have i_b_6 := isSl_ofB h_b_6
 have b_b_6 := len_leB h_b_6
 have i_b_7 := isSl_ofB h_b_7
 have b_b_7 := len_leB h_b_7
 refine goes_R (R := (HasB 300000000 (.int .i64))) ?_
 show wp _ _ _ u71T0 _
 refine bS (d := .agg [a_0]) (sh_chkW rfl) ?_
 refine bS (d := .agg [dI (b_0), b_1, dI (b_2), b_3, dI (b_4), b_5, b_6, b_7]) (sh_chkW rfl) ?_
 obtain ⟨_, ⟨r0, rfl⟩, k_r0⟩ := t107 (a := .agg [a_0]) (b := .agg [dI (b_0), b_1, dI (b_2), b_3, dI (b_4), b_5, b_6, b_7]) (hb_st (hbs_cons h_a_0 hbs_nil)) (hb_st (hbs_cons hb_int (hbs_cons h_b_1 (hbs_cons hb_int (hbs_cons h_b_3 (hbs_cons hb_int (hbs_cons h_b_5 (hbs_cons h_b_6 (hbs_cons h_b_7 hbs_nil)))))))))
 refine cS (d := dI (r0)) k_r0 ?_
 refine bS sk_neq ?_
 refine iD rfl (fun c1 => ?_) (fun c1 => ?_)
 ·
  exact wr_ret rfl hb_int
 ·
  obtain ⟨_, ⟨r2, rfl⟩, k_r2⟩ := t108 (a := .agg [dI (b_0), b_1, dI (b_2), b_3, dI (b_4), b_5, b_6, b_7]) (hb_st (hbs_cons hb_int (hbs_cons h_b_1 (hbs_cons hb_int (hbs_cons h_b_3 (hbs_cons hb_int (hbs_cons h_b_5 (hbs_cons h_b_6 (hbs_cons h_b_7 hbs_nil)))))))))
  refine cS (d := dI (r2)) k_r2 ?_
  refine bS sk_neq ?_
  refine iD rfl (fun c3 => ?_) (fun c3 => ?_)
  ·
   exact wr_ret rfl hb_int
  ·
   obtain ⟨_, ⟨r4, rfl⟩, k_r4⟩ := t109 (a := .agg [dI (b_0), b_1, dI (b_2), b_3, dI (b_4), b_5, b_6, b_7]) (hb_st (hbs_cons hb_int (hbs_cons h_b_1 (hbs_cons hb_int (hbs_cons h_b_3 (hbs_cons hb_int (hbs_cons h_b_5 (hbs_cons h_b_6 (hbs_cons h_b_7 hbs_nil)))))))))
   refine cS (d := dI (r4)) k_r4 ?_
   refine bS sk_neq ?_
   refine iD rfl (fun c5 => ?_) (fun c5 => ?_)
   ·
    exact wr_ret rfl hb_int
   ·
    refine bS (d := b_7) (sh_fld1 rfl i_b_7.one) ?_
    obtain ⟨_, ⟨r6, rfl⟩, k_r6⟩ := t110 (a := b_7) (b := dI ((12 : Nat) : Int)) h_b_7 hb_int
    refine cS (d := dI (r6)) k_r6 ?_
    exact wr_ret rfl hb_int
theorem t29 {a : D} (h_a : HasB 300000000 zV a) : ∃ d, (HasB 300000000 (.int .i64)) d ∧ Holds EE 29 [a] d := by
 suffices h : ∃ d, (HasB 300000000 (.int .i64)) d ∧ Goes EE (Holds EE) u29Ts 0 [a] d by
  obtain ⟨d, hd, hg⟩ := h; exact ⟨d, hd, u29 rfl hg⟩
 obtain ⟨_, rfl, a_0, _, rfl, h_a_0, rfl⟩ := h_a
 have i_a_0 := isSl_ofB h_a_0
 have b_a_0 := len_leB h_a_0
 refine goes_R (R := (HasB 300000000 (.int .i64))) ?_
 show wp _ _ _ u29T0 _
 refine bS (d := .agg [a_0]) (sh_chkW rfl) ?_
 refine bS (d := a_0) (sh_fld1 rfl i_a_0.one) ?_
 refine bS (d := dI ((a_0.es.length : Nat) : Int)) (sh_len i_a_0) ?_
 refine bS sk_gtr ?_
 refine iD rfl (fun c0 => ?_) (fun c0 => ?_)
 ·
  exact wr_ret rfl hb_int
 ·
  refine bS (d := a_0) (sh_fld1 rfl i_a_0.one) ?_
  refine bS (d := dI ((a_0.es.length : Nat) : Int)) (sh_len i_a_0) ?_
  refine wr_jump rfl (loop_up (P := fun i1 => i1 ≤ a_0.es.length → ∃ d, (HasB 300000000 (.int .i64)) d ∧ Goes EE (Holds EE) u29Ts 1 [dI ((a_0.es.length : Nat) : Int), dI ((i1 : Nat) : Int), .agg [a_0]] d) (a_0.es.length) (fun i1 ih1 => ?_) 0 (by omega))
  intro hn1
  refine goes_R (R := (HasB 300000000 (.int .i64))) ?_
  show wp _ _ _ u29T1 _
  refine bS sk_lss ?_
  refine iD rfl (fun c2 => ?_) (fun c2 => ?_)
  ·
   refine bS (d := a_0) (sh_fld1 rfl i_a_0.one) ?_
   obtain ⟨x3, e_x3⟩ := get_at (d := a_0) (s := ((i1 : Nat) : Int)) (by omega) (by omega)
   obtain ⟨_, rfl, _, _, rfl, ⟨x3_0, rfl, hs_x3_0⟩, _, _, rfl, ⟨x3_1, rfl⟩, rfl⟩ := (elem_ofB h_a_0 e_x3)
   refine bS (d := dB (true)) (si_inr (by omega) e_x3) ?_
   refine bS (d := .leaf (.string x3_0)) (si_elemP (off := 0) i_a_0 (by omega) e_x3 rfl rfl (by decide)) ?_
   obtain ⟨_, ⟨r4, rfl⟩, k_r4⟩ := t64 (a := .leaf (.string x3_0)) (hb_str hs_x3_0)
   refine cS (d := dB (r4)) k_r4 ?_
   refine bS (d := dB (!(r4))) sh_not ?_
   refine wp_iteC rfl (fun c5 => ?_) (fun c5 => ?_)
   ·
    clear c5
    exact wr_ret rfl hb_int
   ·
    clear c5
    refine wr_jump rfl (loop_up (P := fun i6 => i6 ≤ i1 → ∃ d, (HasB 300000000 (.int .i64)) d ∧ Goes EE (Holds EE) u29Ts 2 [dI ((i1 : Nat) : Int), dI ((i6 : Nat) : Int), dI ((a_0.es.length : Nat) : Int), .agg [a_0]] d) (i1) (fun i6 ih6 => ?_) 0 (by omega))
    intro hn6
    refine goes_R (R := (HasB 300000000 (.int .i64))) ?_
    show wp _ _ _ u29T2 _
    refine bS sk_lss ?_
    refine iD rfl (fun c7 => ?_) (fun c7 => ?_)
    ·
     refine bS (d := a_0) (sh_fld1 rfl i_a_0.one) ?_
     obtain ⟨x8, e_x8⟩ := get_at (d := a_0) (s := ((i6 : Nat) : Int)) (by omega) (by omega)
     obtain ⟨_, rfl, _, _, rfl, ⟨x8_0, rfl, hs_x8_0⟩, _, _, rfl, ⟨x8_1, rfl⟩, rfl⟩ := (elem_ofB h_a_0 e_x8)
     refine bS (d := dB (true)) (si_inr (by omega) e_x8) ?_
     refine bS (d := .leaf (.string x8_0)) (si_elemP (off := 0) i_a_0 (by omega) e_x8 rfl rfl (by decide)) ?_
     refine bS (d := a_0) (sh_fld1 rfl i_a_0.one) ?_
     refine bS (d := dB (true)) (si_inr (by omega) e_x3) ?_
     refine bS (d := .leaf (.string x3_0)) (si_elemP (off := 0) i_a_0 (by omega) e_x3 rfl rfl (by decide)) ?_
     refine bS (d := dB (x8_0 == x3_0)) sh_strE ?_
     refine wp_iteC rfl (fun c9 => ?_) (fun c9 => ?_)
     ·
      clear c9
      exact wr_ret rfl hb_int
     ·
      clear c9
      refine bS (d := dI ((i6 + 1 : Nat) : Int)) (sh_add (cap_bd' (by omega))) ?_
      exact wr_jump rfl (ih6 (by omega) (by omega))
    ·
     refine bS (d := a_0) (sh_fld1 rfl i_a_0.one) ?_
     refine bS (d := dB (true)) (si_inr (by omega) e_x3) ?_
     refine bS (d := dI (x3_1)) (si_elemP (off := 1) i_a_0 (by omega) e_x3 rfl rfl (by decide)) ?_
     refine bS sk_lss ?_
     refine iD rfl (fun c8 => ?_) (fun c8 => ?_)
     ·
      exact wr_ret rfl hb_int
     ·
      refine bS (d := a_0) (sh_fld1 rfl i_a_0.one) ?_
      refine bS (d := dB (true)) (si_inr (by omega) e_x3) ?_
      refine bS (d := dI (x3_1)) (si_elemP (off := 1) i_a_0 (by omega) e_x3 rfl rfl (by decide)) ?_
      refine bS sk_geq ?_
      refine iD rfl (fun c9 => ?_) (fun c9 => ?_)
      ·
       exact wr_ret rfl hb_int
      ·
       refine bS (d := dI ((i1 + 1 : Nat) : Int)) (sh_add (cap_bd' (by omega))) ?_
       exact wr_jump rfl (ih1 (by omega) (by omega))
  ·
   exact wr_ret rfl hb_int
theorem t66 {a b c : D} (h_a : HasB 300000000 zV a) (h_b : HasB 300000000 zO b) (h_c : HasB 300000000 (.int .i64) c) (p0 : ∀ n : Int, c = dI n → 0 ≤ n) (p1 : ∀ cs x n, b = .agg cs → cs[1]? = some x → c = dI n → n < (x.es.length : Int)) : ∃ d, (HasB 300000000 (.int .i64)) d ∧ Holds EE 66 [a, b, c] d := by
 suffices h : ∃ d, (HasB 300000000 (.int .i64)) d ∧ Goes EE (Holds EE) u66Ts 0 [a, b, c] d by
  obtain ⟨d, hd, hg⟩ := h; exact ⟨d, hd, u66 rfl hg⟩
 obtain ⟨_, rfl, a_0, _, rfl, h_a_0, rfl⟩ := h_a
 have i_a_0 := isSl_ofB h_a_0
 have b_a_0 := len_leB h_a_0
 obtain ⟨_, rfl, _, _, rfl, ⟨b_0, rfl, hs_b_0⟩, b_1, _, rfl, h_b_1, b_2, _, rfl, h_b_2, rfl⟩ := h_b
 have i_b_1 := isSl_ofB h_b_1
 have b_b_1 := len_leB h_b_1
 have i_b_2 := isSl_ofB h_b_2
 have b_b_2 := len_leB h_b_2
 obtain ⟨c, rfl⟩ := h_c
 replace p0 := p0 _ rfl
 replace p1 := p1 _ _ _ rfl rfl rfl
 refine goes_R (R := (HasB 300000000 (.int .i64))) ?_
 show wp _ _ _ u66T0 _
 refine bS (d := .agg [a_0]) (sh_chkW rfl) ?_
 refine bS (d := .agg [.leaf (.string b_0), b_1, b_2]) (sh_chkW rfl) ?_
 refine bS (d := b_1) (sh_fld1 rfl i_b_1.one) ?_
 obtain ⟨x0, e_x0⟩ := get_at (d := b_1) (s := (c)) (by omega) (by omega)
 obtain ⟨_, rfl, _, _, rfl, ⟨x0_0, rfl, hs_x0_0⟩, x0_1, _, rfl, h_x0_1, rfl⟩ := (elem_ofB h_b_1 e_x0)
 have i_x0_1 := isSl_ofB h_x0_1
 have b_x0_1 := len_leB h_x0_1
 refine bS (d := dB (true)) (si_inr (by omega) e_x0) ?_
 refine bS (d := .agg [.leaf (.string x0_0), x0_1]) (si_elemW i_b_1 (by omega) e_x0 rfl) ?_
 refine bS (d := .agg [.leaf (.string x0_0), x0_1]) (sh_chkW rfl) ?_
 refine bS (d := .leaf (.string x0_0)) (sh_fld1 rfl rfl) ?_
 obtain ⟨_, ⟨r1, rfl⟩, k_r1⟩ := t67 (a := .leaf (.string x0_0)) (hb_str hs_x0_0)
 refine cS (d := dB (r1)) k_r1 ?_
 refine bS (d := dB (!(r1))) sh_not ?_
 refine wp_iteC rfl (fun c2 => ?_) (fun c2 => ?_)
 ·
  clear c2
  exact wr_ret rfl hb_int
 ·
  clear c2
  refine wr_jump rfl (loop_up (P := fun i3 => i3 ≤ (c).toNat → ∃ d, (HasB 300000000 (.int .i64)) d ∧ Goes EE (Holds EE) u66Ts 1 [dI (c), dI ((i3 : Nat) : Int), .agg [a_0], .agg [.leaf (.string b_0), b_1, b_2], .agg [.leaf (.string x0_0), x0_1]] d) ((c).toNat) (fun i3 ih3 => ?_) 0 (by omega))
  intro hn3
  refine goes_R (R := (HasB 300000000 (.int .i64))) ?_
  show wp _ _ _ u66T1 _
  refine bS sk_lss ?_
  refine iD rfl (fun c4 => ?_) (fun c4 => ?_)
  ·
   refine bS (d := b_1) (sh_fld1 rfl i_b_1.one) ?_
   obtain ⟨x5, e_x5⟩ := get_at (d := b_1) (s := ((i3 : Nat) : Int)) (by omega) (by omega)
   obtain ⟨_, rfl, _, _, rfl, ⟨x5_0, rfl, hs_x5_0⟩, x5_1, _, rfl, h_x5_1, rfl⟩ := (elem_ofB h_b_1 e_x5)
   have i_x5_1 := isSl_ofB h_x5_1
   have b_x5_1 := len_leB h_x5_1
   refine bS (d := dB (true)) (si_inr (by omega) e_x5) ?_
   refine bS (d := .leaf (.string x5_0)) (si_elemP (off := 0) i_b_1 (by omega) e_x5 rfl rfl (by decide)) ?_
   refine bS (d := .leaf (.string x0_0)) (sh_fld1 rfl rfl) ?_
   refine bS (d := dB (x5_0 == x0_0)) sh_strE ?_
   refine wp_iteC rfl (fun c6 => ?_) (fun c6 => ?_)
   ·
    clear c6
    exact wr_ret rfl hb_int
   ·
    clear c6
    refine bS (d := dI ((i3 + 1 : Nat) : Int)) (sh_add (cap_bd' (by omega))) ?_
    exact wr_jump rfl (ih3 (by omega) (by omega))
  ·
   refine bS (d := x0_1) (sh_fld1 rfl i_x0_1.one) ?_
   refine bS (d := dI ((x0_1.es.length : Nat) : Int)) (sh_len i_x0_1) ?_
   refine bS sk_lss ?_
   refine iD rfl (fun c5 => ?_) (fun c5 => ?_)
   ·
    exact wr_ret rfl hb_int
   ·
    refine bS (d := x0_1) (sh_fld1 rfl i_x0_1.one) ?_
    refine bS (d := dI ((x0_1.es.length : Nat) : Int)) (sh_len i_x0_1) ?_
    refine bS sk_gtr ?_
    refine iD rfl (fun c6 => ?_) (fun c6 => ?_)
    ·
     exact wr_ret rfl hb_int
    ·
     refine wr_jump rfl (loop_up (P := fun i7 => i7 ≤ x0_1.es.length → ∃ d, (HasB 300000000 (.int .i64)) d ∧ Goes EE (Holds EE) u66Ts 2 [dI ((i7 : Nat) : Int), .agg [a_0], .agg [.leaf (.string x0_0), x0_1]] d) (x0_1.es.length) (fun i7 ih7 => ?_) 0 (by omega))
     intro hn7
     refine goes_R (R := (HasB 300000000 (.int .i64))) ?_
     show wp _ _ _ u66T2 _
     refine bS (d := x0_1) (sh_fld1 rfl i_x0_1.one) ?_
     refine bS (d := dI ((x0_1.es.length : Nat) : Int)) (sh_len i_x0_1) ?_
     refine bS sk_lss ?_
     refine iD rfl (fun c8 => ?_) (fun c8 => ?_)
     ·
      refine bS (d := x0_1) (sh_fld1 rfl i_x0_1.one) ?_
      obtain ⟨x9, e_x9⟩ := get_at (d := x0_1) (s := ((i7 : Nat) : Int)) (by omega) (by omega)
      obtain ⟨x9, rfl⟩ := (elem_ofB h_x0_1 e_x9)
      refine bS (d := dB (true)) (si_inr (by omega) e_x9) ?_
      refine bS (d := dI (x9)) (si_elem1 i_x0_1 (by omega) e_x9 rfl) ?_
      refine bS sk_lss ?_
      refine iD rfl (fun c10 => ?_) (fun c10 => ?_)
      ·
       exact wr_ret rfl hb_int
      ·
       refine bS (d := x0_1) (sh_fld1 rfl i_x0_1.one) ?_
       refine bS (d := dB (true)) (si_inr (by omega) e_x9) ?_
       refine bS (d := dI (x9)) (si_elem1 i_x0_1 (by omega) e_x9 rfl) ?_
       refine bS (d := a_0) (sh_fld1 rfl i_a_0.one) ?_
       refine bS (d := dI ((a_0.es.length : Nat) : Int)) (sh_len i_a_0) ?_
       refine bS sk_gtr ?_
       refine iD rfl (fun c11 => ?_) (fun c11 => ?_)
       ·
        exact wr_ret rfl hb_int
       ·
        refine bS (d := dI ((i7 + 1 : Nat) : Int)) (sh_add (cap_bd' (by omega))) ?_
        exact wr_jump rfl (ih7 (by omega) (by omega))
     ·
      exact wr_ret rfl hb_int
theorem t32 {a : D} (h_a : HasB 300000000 zN a) : ∃ d, (HasB 300000000 (.int .i64)) d ∧ Holds EE 32 [a] d := by
 suffices h : ∃ d, (HasB 300000000 (.int .i64)) d ∧ Goes EE (Holds EE) u32Ts 0 [a] d by
  obtain ⟨d, hd, hg⟩ := h; exact ⟨d, hd, u32 rfl hg⟩
 obtain ⟨_, rfl, _, _, rfl, ⟨a_0, rfl⟩, a_1, _, rfl, h_a_1, a_2, _, rfl, h_a_2, rfl⟩ := h_a
 have i_a_1 := isSl_ofB h_a_1
 have b_a_1 := len_leB h_a_1
 have i_a_2 := isSl_ofB h_a_2
 have b_a_2 := len_leB h_a_2
 refine goes_R (R := (HasB 300000000 (.int .i64))) ?_
 show wp _ _ _ u32T0 _
 refine bS (d := .agg [dI (a_0), a_1, a_2]) (sh_chkW rfl) ?_
 refine bS (d := dI (a_0)) (sh_fld1 rfl rfl) ?_
 refine bS sk_lss ?_
 refine iD rfl (fun c0 => ?_) (fun c0 => ?_)
 ·
  exact wr_ret rfl hb_int
 ·
  refine bS (d := dI (a_0)) (sh_fld1 rfl rfl) ?_
  refine bS sk_gtr ?_
  refine iD rfl (fun c1 => ?_) (fun c1 => ?_)
  ·
   exact wr_ret rfl hb_int
  ·
   refine bS (d := a_1) (sh_fld1 rfl i_a_1.one) ?_
   refine bS (d := dI ((a_1.es.length : Nat) : Int)) (sh_len i_a_1) ?_
   refine bS sk_gtr ?_
   refine iD rfl (fun c2 => ?_) (fun c2 => ?_)
   ·
    exact wr_ret rfl hb_int
   ·
    refine wr_jump rfl (loop_up (P := fun i3 => i3 ≤ a_1.es.length → ∃ d, (HasB 300000000 (.int .i64)) d ∧ Goes EE (Holds EE) u32Ts 1 [dI ((i3 : Nat) : Int), .agg [dI (a_0), a_1, a_2]] d) (a_1.es.length) (fun i3 ih3 => ?_) 0 (by omega))
    intro hn3
    refine goes_R (R := (HasB 300000000 (.int .i64))) ?_
    show wp _ _ _ u32T1 _
    refine bS (d := a_1) (sh_fld1 rfl i_a_1.one) ?_
    refine bS (d := dI ((a_1.es.length : Nat) : Int)) (sh_len i_a_1) ?_
    refine bS sk_lss ?_
    refine iD rfl (fun c4 => ?_) (fun c4 => ?_)
    ·
     refine bS (d := a_1) (sh_fld1 rfl i_a_1.one) ?_
     obtain ⟨x5, e_x5⟩ := get_at (d := a_1) (s := ((i3 : Nat) : Int)) (by omega) (by omega)
     obtain ⟨_, rfl, _, _, rfl, ⟨x5_0, rfl⟩, _, _, rfl, ⟨x5_1, rfl⟩, _, _, rfl, ⟨x5_2, rfl⟩, rfl⟩ := (elem_ofB h_a_1 e_x5)
     refine bS (d := dB (true)) (si_inr (by omega) e_x5) ?_
     refine bS (d := .agg [dI (x5_0), dI (x5_1), dI (x5_2)]) (si_elemW i_a_1 (by omega) e_x5 rfl) ?_
     refine bS (d := .agg [dI (x5_0), dI (x5_1), dI (x5_2)]) (sh_chkW rfl) ?_
     refine bS (d := dI (x5_0)) (sh_fld1 rfl rfl) ?_
     obtain ⟨_, ⟨r6, rfl⟩, k_r6⟩ := t70 (a := .agg [dI (a_0), a_1, a_2]) (b := dI (x5_0)) (hb_st (hbs_cons hb_int (hbs_cons h_a_1 (hbs_cons h_a_2 hbs_nil)))) hb_int
     refine cS (d := dB (r6)) k_r6 ?_
     refine bS (d := dB (!(r6))) sh_not ?_
     refine wp_iteC rfl (fun c7 => ?_) (fun c7 => ?_)
     ·
      clear c7
      exact wr_ret rfl hb_int
     ·
      clear c7
      refine bS (d := dI (x5_2)) (sh_fld1 rfl rfl) ?_
      obtain ⟨_, ⟨r8, rfl⟩, k_r8⟩ := t70 (a := .agg [dI (a_0), a_1, a_2]) (b := dI (x5_2)) (hb_st (hbs_cons hb_int (hbs_cons h_a_1 (hbs_cons h_a_2 hbs_nil)))) hb_int
      refine cS (d := dB (r8)) k_r8 ?_
      refine bS (d := dB (!(r8))) sh_not ?_
      refine wp_iteC rfl (fun c9 => ?_) (fun c9 => ?_)
      ·
       clear c9
       exact wr_ret rfl hb_int
      ·
       clear c9
       refine bS (d := dI (x5_1)) (sh_fld1 rfl rfl) ?_
       refine bS sk_lss ?_
       refine iD rfl (fun c10 => ?_) (fun c10 => ?_)
       ·
        exact wr_ret rfl hb_int
       ·
        refine bS (d := dI (x5_1)) (sh_fld1 rfl rfl) ?_
        refine bS sk_gtr ?_
        refine iD rfl (fun c11 => ?_) (fun c11 => ?_)
        ·
         exact wr_ret rfl hb_int
        ·
         refine wr_jump rfl (loop_up (P := fun i12 => i12 ≤ i3 → ∃ d, (HasB 300000000 (.int .i64)) d ∧ Goes EE (Holds EE) u32Ts 2 [dI ((i3 : Nat) : Int), dI ((i12 : Nat) : Int), .agg [dI (a_0), a_1, a_2], dI (x5_2), dB (r8), dI (x5_1), .agg [dI (x5_0), dI (x5_1), dI (x5_2)]] d) (i3) (fun i12 ih12 => ?_) 0 (by omega))
         intro hn12
         refine goes_R (R := (HasB 300000000 (.int .i64))) ?_
         show wp _ _ _ u32T2 _
         refine bS sk_lss ?_
         refine iD rfl (fun c13 => ?_) (fun c13 => ?_)
         ·
          refine bS (d := a_1) (sh_fld1 rfl i_a_1.one) ?_
          obtain ⟨x14, e_x14⟩ := get_at (d := a_1) (s := ((i12 : Nat) : Int)) (by omega) (by omega)
          obtain ⟨_, rfl, _, _, rfl, ⟨x14_0, rfl⟩, _, _, rfl, ⟨x14_1, rfl⟩, _, _, rfl, ⟨x14_2, rfl⟩, rfl⟩ := (elem_ofB h_a_1 e_x14)
          refine bS (d := dB (true)) (si_inr (by omega) e_x14) ?_
          refine bS (d := .agg [dI (x14_0), dI (x14_1), dI (x14_2)]) (si_elemW i_a_1 (by omega) e_x14 rfl) ?_
          refine bS (d := dB (deqs [dI (x14_0), dI (x14_1), dI (x14_2)] [dI (x5_0), dI (x5_1), dI (x5_2)])) (sh_cmpS .eql (.inr rfl) ty84 st84 le4 gu84 rfl (hasBs_sh (B := 300000000) (hbs_cons hb_int (hbs_cons hb_int (hbs_cons hb_int hbs_nil)))) (hasBs_sh (B := 300000000) (hbs_cons hb_int (hbs_cons hb_int (hbs_cons hb_int hbs_nil))))) ?_
          refine wp_iteC rfl (fun c15 => ?_) (fun c15 => ?_)
          ·
           clear c15
           exact wr_ret rfl hb_int
          ·
           clear c15
           refine bS (d := dI ((i12 + 1 : Nat) : Int)) (sh_add (cap_bd' (by omega))) ?_
           exact wr_jump rfl (ih12 (by omega) (by omega))
         ·
          refine bS (d := dI ((i3 + 1 : Nat) : Int)) (sh_add (cap_bd' (by omega))) ?_
          exact wr_jump rfl (ih3 (by omega) (by omega))
    ·
     refine wr_jump rfl (loop_up (P := fun i5 => 1 ≤ i5 → ∃ d, (HasB 300000000 (.int .i64)) d ∧ Goes EE (Holds EE) u32Ts 3 [dI ((i5 : Nat) : Int), .agg [dI (a_0), a_1, a_2]] d) (a_2.es.length) (fun i5 ih5 => ?_) 1 (by omega))
     intro hn5
     refine goes_R (R := (HasB 300000000 (.int .i64))) ?_
     show wp _ _ _ u32T3 _
     refine bS (d := a_2) (sh_fld1 rfl i_a_2.one) ?_
     refine bS (d := dI ((a_2.es.length : Nat) : Int)) (sh_len i_a_2) ?_
     refine bS sk_lss ?_
     refine iD rfl (fun c6 => ?_) (fun c6 => ?_)
     ·
      refine bS (d := a_2) (sh_fld1 rfl i_a_2.one) ?_
      obtain ⟨x7, e_x7⟩ := get_at (d := a_2) (s := ((i5 : Nat) : Int)) (by omega) (by omega)
      obtain ⟨x7, rfl⟩ := (elem_ofB h_a_2 e_x7)
      refine bS (d := dB (true)) (si_inr (by omega) e_x7) ?_
      refine bS (d := dI (x7)) (si_elem1 i_a_2 (by omega) e_x7 rfl) ?_
      refine bS (d := a_2) (sh_fld1 rfl i_a_2.one) ?_
      refine bS (d := dI (((i5 : Nat) : Int) - ((1 : Nat) : Int))) (si_sub (by omega)) ?_
      obtain ⟨x8, e_x8⟩ := get_at (d := a_2) (s := (((i5 : Nat) : Int) - ((1 : Nat) : Int))) (by omega) (by omega)
      obtain ⟨x8, rfl⟩ := (elem_ofB h_a_2 e_x8)
      refine bS (d := dB (true)) (si_inr (by omega) e_x8) ?_
      refine bS (d := dI (x8)) (si_elem1 i_a_2 (by omega) e_x8 rfl) ?_
      refine bS sk_leq ?_
      refine iD rfl (fun c9 => ?_) (fun c9 => ?_)
      ·
       exact wr_ret rfl hb_int
      ·
       refine bS (d := dI ((i5 + 1 : Nat) : Int)) (sh_add (cap_bd' (by omega))) ?_
       exact wr_jump rfl (ih5 (by omega) (by omega))
     ·
      refine wr_jump rfl (loop_up (P := fun i7 => i7 ≤ a_2.es.length → ∃ d, (HasB 300000000 (.int .i64)) d ∧ Goes EE (Holds EE) u32Ts 4 [dI ((i7 : Nat) : Int), .agg [dI (a_0), a_1, a_2]] d) (a_2.es.length) (fun i7 ih7 => ?_) 0 (by omega))
      intro hn7
      refine goes_R (R := (HasB 300000000 (.int .i64))) ?_
      show wp _ _ _ u32T4 _
      refine bS (d := a_2) (sh_fld1 rfl i_a_2.one) ?_
      refine bS (d := dI ((a_2.es.length : Nat) : Int)) (sh_len i_a_2) ?_
      refine bS sk_lss ?_
      refine iD rfl (fun c8 => ?_) (fun c8 => ?_)
      ·
       refine bS (d := a_2) (sh_fld1 rfl i_a_2.one) ?_
       obtain ⟨x9, e_x9⟩ := get_at (d := a_2) (s := ((i7 : Nat) : Int)) (by omega) (by omega)
       obtain ⟨x9, rfl⟩ := (elem_ofB h_a_2 e_x9)
       refine bS (d := dB (true)) (si_inr (by omega) e_x9) ?_
       refine bS (d := dI (x9)) (si_elem1 i_a_2 (by omega) e_x9 rfl) ?_
       obtain ⟨_, ⟨r10, rfl⟩, k_r10⟩ := t70 (a := .agg [dI (a_0), a_1, a_2]) (b := dI (x9)) (hb_st (hbs_cons hb_int (hbs_cons h_a_1 (hbs_cons h_a_2 hbs_nil)))) hb_int
       refine cS (d := dB (r10)) k_r10 ?_
       refine bS (d := dB (!(r10))) sh_not ?_
       refine wp_iteC rfl (fun c11 => ?_) (fun c11 => ?_)
       ·
        clear c11
        exact wr_ret rfl hb_int
       ·
        clear c11
        refine bS (d := dI ((i7 + 1 : Nat) : Int)) (sh_add (cap_bd' (by omega))) ?_
        exact wr_jump rfl (ih7 (by omega) (by omega))
      ·
       exact wr_ret rfl hb_int
theorem t33 {a b : D} (h_a : HasB 300000000 zV a) (h_b : HasB 300000000 zEs b) : ∃ d, (HasB 300000000 (.int .i64)) d ∧ Holds EE 33 [a, b] d := by
 suffices h : ∃ d, (HasB 300000000 (.int .i64)) d ∧ Goes EE (Holds EE) u33Ts 0 [a, b] d by
  obtain ⟨d, hd, hg⟩ := h; exact ⟨d, hd, u33 rfl hg⟩
 obtain ⟨_, rfl, a_0, _, rfl, h_a_0, rfl⟩ := h_a
 have i_a_0 := isSl_ofB h_a_0
 have b_a_0 := len_leB h_a_0
 have i_b := isSl_ofB h_b
 have b_b := len_leB h_b
 refine goes_R (R := (HasB 300000000 (.int .i64))) ?_
 show wp _ _ _ u33T0 _
 refine bS (d := .agg [a_0]) (sh_chkW rfl) ?_
 refine bS (d := dI ((b.es.length : Nat) : Int)) (sh_len i_b) ?_
 refine bS sk_gtr ?_
 refine iD rfl (fun c0 => ?_) (fun c0 => ?_)
 ·
  exact wr_ret rfl hb_int
 ·
  refine bS (d := dI ((b.es.length : Nat) : Int)) (sh_len i_b) ?_
  refine wr_jump rfl (loop_up (P := fun i1 => i1 ≤ b.es.length → ∃ d, (HasB 300000000 (.int .i64)) d ∧ Goes EE (Holds EE) u33Ts 1 [b, dI ((b.es.length : Nat) : Int), dI ((i1 : Nat) : Int), .agg [a_0]] d) (b.es.length) (fun i1 ih1 => ?_) 0 (by omega))
  intro hn1
  refine goes_R (R := (HasB 300000000 (.int .i64))) ?_
  show wp _ _ _ u33T1 _
  refine bS sk_lss ?_
  refine iD rfl (fun c2 => ?_) (fun c2 => ?_)
  ·
   obtain ⟨x3, e_x3⟩ := get_at (d := b) (s := ((i1 : Nat) : Int)) (by omega) (by omega)
   obtain ⟨_, rfl, _, _, rfl, ⟨x3_0, rfl⟩, x3_1, _, rfl, h_x3_1, _, _, rfl, ⟨x3_2, rfl⟩, x3_3, _, rfl, h_x3_3, _, _, rfl, ⟨x3_4, rfl⟩, x3_5, _, rfl, h_x3_5, x3_6, _, rfl, h_x3_6, x3_7, _, rfl, h_x3_7, rfl⟩ := (elem_ofB h_b e_x3)
   have i_x3_1 := isSl_ofB h_x3_1
   have b_x3_1 := len_leB h_x3_1
   have i_x3_3 := isSl_ofB h_x3_3
   have b_x3_3 := len_leB h_x3_3
   have i_x3_5 := isSl_ofB h_x3_5
   have b_x3_5 := len_leB h_x3_5
   have i_x3_6 := isSl_ofB h_x3_6
   have b_x3_6 := len_leB h_x3_6
   have i_x3_7 := isSl_ofB h_x3_7
   have b_x3_7 := len_leB h_x3_7
   refine bS (d := dB (true)) (si_inr (by omega) e_x3) ?_
   refine bS (d := .agg [dI (x3_0), x3_1, dI (x3_2), x3_3, dI (x3_4), x3_5, x3_6, x3_7]) (si_elemW i_b (by omega) e_x3 rfl) ?_
   obtain ⟨_, ⟨r4, rfl⟩, k_r4⟩ := t71 (a := .agg [a_0]) (b := .agg [dI (x3_0), x3_1, dI (x3_2), x3_3, dI (x3_4), x3_5, x3_6, x3_7]) (hb_st (hbs_cons h_a_0 hbs_nil)) (hb_st (hbs_cons hb_int (hbs_cons h_x3_1 (hbs_cons hb_int (hbs_cons h_x3_3 (hbs_cons hb_int (hbs_cons h_x3_5 (hbs_cons h_x3_6 (hbs_cons h_x3_7 hbs_nil)))))))))
   refine cS (d := dI (r4)) k_r4 ?_
   refine bS sk_neq ?_
   refine iD rfl (fun c5 => ?_) (fun c5 => ?_)
   ·
    exact wr_ret rfl hb_int
   ·
    refine bS sk_gtr ?_
    refine iD rfl (fun c6 => ?_) (fun c6 => ?_)
    ·
     refine bS (d := dB (true)) (si_inr (by omega) e_x3) ?_
     refine bS (d := dI (x3_0)) (si_elemP (off := 0) i_b (by omega) e_x3 rfl rfl (by decide)) ?_
     refine bS (d := dI (((i1 : Nat) : Int) - ((1 : Nat) : Int))) (si_sub (by omega)) ?_
     obtain ⟨x7, e_x7⟩ := get_at (d := b) (s := (((i1 : Nat) : Int) - ((1 : Nat) : Int))) (by omega) (by omega)
     obtain ⟨_, rfl, _, _, rfl, ⟨x7_0, rfl⟩, x7_1, _, rfl, h_x7_1, _, _, rfl, ⟨x7_2, rfl⟩, x7_3, _, rfl, h_x7_3, _, _, rfl, ⟨x7_4, rfl⟩, x7_5, _, rfl, h_x7_5, x7_6, _, rfl, h_x7_6, x7_7, _, rfl, h_x7_7, rfl⟩ := (elem_ofB h_b e_x7)
     have i_x7_1 := isSl_ofB h_x7_1
     have b_x7_1 := len_leB h_x7_1
     have i_x7_3 := isSl_ofB h_x7_3
     have b_x7_3 := len_leB h_x7_3
     have i_x7_5 := isSl_ofB h_x7_5
     have b_x7_5 := len_leB h_x7_5
     have i_x7_6 := isSl_ofB h_x7_6
     have b_x7_6 := len_leB h_x7_6
     have i_x7_7 := isSl_ofB h_x7_7
     have b_x7_7 := len_leB h_x7_7
     refine bS (d := dB (true)) (si_inr (by omega) e_x7) ?_
     refine bS (d := dI (x7_0)) (si_elemP (off := 0) i_b (by omega) e_x7 rfl rfl (by decide)) ?_
     refine bS sk_leq ?_
     refine iD rfl (fun c8 => ?_) (fun c8 => ?_)
     ·
      exact wr_ret rfl hb_int
     ·
      refine bS (d := dI ((i1 + 1 : Nat) : Int)) (sh_add (cap_bd' (by omega))) ?_
      exact wr_jump rfl (ih1 (by omega) (by omega))
    ·
     refine bS (d := dI ((i1 + 1 : Nat) : Int)) (sh_add (cap_bd' (by omega))) ?_
     exact wr_jump rfl (ih1 (by omega) (by omega))
  ·
   refine bS (d := dI ((b.es.length : Nat) : Int)) (sh_len i_b) ?_
   refine wr_jump rfl (loop_up (P := fun i3 => i3 ≤ b.es.length → ∃ d, (HasB 300000000 (.int .i64)) d ∧ Goes EE (Holds EE) u33Ts 2 [b, dI ((b.es.length : Nat) : Int), dI ((i3 : Nat) : Int)] d) (b.es.length) (fun i3 ih3 => ?_) 0 (by omega))
   intro hn3
   refine goes_R (R := (HasB 300000000 (.int .i64))) ?_
   show wp _ _ _ u33T2 _
   refine bS sk_lss ?_
   refine iD rfl (fun c4 => ?_) (fun c4 => ?_)
   ·
    obtain ⟨x5, e_x5⟩ := get_at (d := b) (s := ((i3 : Nat) : Int)) (by omega) (by omega)
    obtain ⟨_, rfl, _, _, rfl, ⟨x5_0, rfl⟩, x5_1, _, rfl, h_x5_1, _, _, rfl, ⟨x5_2, rfl⟩, x5_3, _, rfl, h_x5_3, _, _, rfl, ⟨x5_4, rfl⟩, x5_5, _, rfl, h_x5_5, x5_6, _, rfl, h_x5_6, x5_7, _, rfl, h_x5_7, rfl⟩ := (elem_ofB h_b e_x5)
    have i_x5_1 := isSl_ofB h_x5_1
    have b_x5_1 := len_leB h_x5_1
    have i_x5_3 := isSl_ofB h_x5_3
    have b_x5_3 := len_leB h_x5_3
    have i_x5_5 := isSl_ofB h_x5_5
    have b_x5_5 := len_leB h_x5_5
    have i_x5_6 := isSl_ofB h_x5_6
    have b_x5_6 := len_leB h_x5_6
    have i_x5_7 := isSl_ofB h_x5_7
    have b_x5_7 := len_leB h_x5_7
    refine bS (d := dB (true)) (si_inr (by omega) e_x5) ?_
    refine bS (d := dI (x5_4)) (si_elemP (off := 4) i_b (by omega) e_x5 rfl rfl (by decide)) ?_
    refine bS sk_neq ?_
    refine iD rfl (fun c6 => ?_) (fun c6 => ?_)
    ·
     refine bS (d := dB (true)) (si_inr (by omega) e_x5) ?_
     refine bS (d := dI (x5_4)) (si_elemP (off := 4) i_b (by omega) e_x5 rfl rfl (by decide)) ?_
     obtain ⟨_, ⟨r7, rfl⟩, k_r7⟩ := t72 (a := b) (b := dI (x5_4)) h_b hb_int
     refine cS (d := dB (r7)) k_r7 ?_
     refine bS (d := dB (!(r7))) sh_not ?_
     refine wp_iteC rfl (fun c8 => ?_) (fun c8 => ?_)
     ·
      clear c8
      exact wr_ret rfl hb_int
     ·
      clear c8
      refine bS (d := dB (true)) (si_inr (by omega) e_x5) ?_
      refine bS (d := x5_6) (si_elemP (off := 6) i_b (by omega) e_x5 rfl i_x5_6.one (by decide)) ?_
      refine bS (d := dI ((x5_6.es.length : Nat) : Int)) (sh_len i_x5_6) ?_
      refine wr_jump rfl (loop_up (P := fun i9 => i9 ≤ x5_6.es.length → ∃ d, (HasB 300000000 (.int .i64)) d ∧ Goes EE (Holds EE) u33Ts 3 [b, dI ((i3 : Nat) : Int), dI ((b.es.length : Nat) : Int), b, dI ((i3 : Nat) : Int), dI (x5_4), dB (r7), dB (false), dI ((x5_6.es.length : Nat) : Int), dI ((i9 : Nat) : Int)] d) (x5_6.es.length) (fun i9 ih9 => ?_) 0 (by omega))
      intro hn9
      refine goes_R (R := (HasB 300000000 (.int .i64))) ?_
      show wp _ _ _ u33T3 _
      refine bS sk_lss ?_
      refine iD rfl (fun c10 => ?_) (fun c10 => ?_)
      ·
       refine bS (d := dB (true)) (si_inr (by omega) e_x5) ?_
       refine bS (d := x5_6) (si_elemP (off := 6) i_b (by omega) e_x5 rfl i_x5_6.one (by decide)) ?_
       obtain ⟨x11, e_x11⟩ := get_at (d := x5_6) (s := ((i9 : Nat) : Int)) (by omega) (by omega)
       obtain ⟨_, rfl, _, _, rfl, ⟨x11_0, rfl⟩, _, _, rfl, ⟨x11_1, rfl⟩, rfl⟩ := (elem_ofB h_x5_6 e_x11)
       refine bS (d := dB (true)) (si_inr (by omega) e_x11) ?_
       refine bS (d := dI (x11_1)) (si_elemP (off := 1) i_x5_6 (by omega) e_x11 rfl rfl (by decide)) ?_
       obtain ⟨_, ⟨r12, rfl⟩, k_r12⟩ := t72 (a := b) (b := dI (x11_1)) h_b hb_int
       refine cS (d := dB (r12)) k_r12 ?_
       refine bS (d := dB (!(r12))) sh_not ?_
       refine wp_iteC rfl (fun c13 => ?_) (fun c13 => ?_)
       ·
        clear c13
        exact wr_ret rfl hb_int
       ·
        clear c13
        refine bS (d := dI ((i9 + 1 : Nat) : Int)) (sh_add (cap_bd' (by omega))) ?_
        exact wr_jump rfl (ih9 (by omega) (by omega))
      ·
       refine bS (d := dI ((i3 + 1 : Nat) : Int)) (sh_add (cap_bd' (by omega))) ?_
       exact wr_jump rfl (ih3 (by omega) (by omega))
    ·
     refine bS (d := dB (true)) (si_inr (by omega) e_x5) ?_
     refine bS (d := x5_6) (si_elemP (off := 6) i_b (by omega) e_x5 rfl i_x5_6.one (by decide)) ?_
     refine bS (d := dI ((x5_6.es.length : Nat) : Int)) (sh_len i_x5_6) ?_
     refine wr_jump rfl (loop_up (P := fun i7 => i7 ≤ x5_6.es.length → ∃ d, (HasB 300000000 (.int .i64)) d ∧ Goes EE (Holds EE) u33Ts 3 [b, dI ((i3 : Nat) : Int), dI ((b.es.length : Nat) : Int), _, _, _, _, _, dI ((x5_6.es.length : Nat) : Int), dI ((i7 : Nat) : Int)] d) (x5_6.es.length) (fun i7 ih7 => ?_) 0 (by omega))
     intro hn7
     refine goes_R (R := (HasB 300000000 (.int .i64))) ?_
     show wp _ _ _ u33T3 _
     refine bS sk_lss ?_
     refine iD rfl (fun c8 => ?_) (fun c8 => ?_)
     ·
      refine bS (d := dB (true)) (si_inr (by omega) e_x5) ?_
      refine bS (d := x5_6) (si_elemP (off := 6) i_b (by omega) e_x5 rfl i_x5_6.one (by decide)) ?_
      obtain ⟨x9, e_x9⟩ := get_at (d := x5_6) (s := ((i7 : Nat) : Int)) (by omega) (by omega)
      obtain ⟨_, rfl, _, _, rfl, ⟨x9_0, rfl⟩, _, _, rfl, ⟨x9_1, rfl⟩, rfl⟩ := (elem_ofB h_x5_6 e_x9)
      refine bS (d := dB (true)) (si_inr (by omega) e_x9) ?_
      refine bS (d := dI (x9_1)) (si_elemP (off := 1) i_x5_6 (by omega) e_x9 rfl rfl (by decide)) ?_
      obtain ⟨_, ⟨r10, rfl⟩, k_r10⟩ := t72 (a := b) (b := dI (x9_1)) h_b hb_int
      refine cS (d := dB (r10)) k_r10 ?_
      refine bS (d := dB (!(r10))) sh_not ?_
      refine wp_iteC rfl (fun c11 => ?_) (fun c11 => ?_)
      ·
       clear c11
       exact wr_ret rfl hb_int
      ·
       clear c11
       refine bS (d := dI ((i7 + 1 : Nat) : Int)) (sh_add (cap_bd' (by omega))) ?_
       exact wr_jump rfl (ih7 (by omega) (by omega))
     ·
      refine bS (d := dI ((i3 + 1 : Nat) : Int)) (sh_add (cap_bd' (by omega))) ?_
      exact wr_jump rfl (ih3 (by omega) (by omega))
   ·
    exact wr_ret rfl hb_int
end Go.Proofs.YtbdamohgaleajaaGreatDoor
