/- Closed facts of the seat: conversions of numbers, division by constants. Conditions: none. -/
import Derived.Test.YtbdamohgaleajaaGreatDoorCb
import Derived.Test.YtbdamohgaleajaaGreatDoorUv
namespace Go.Proofs.YtbdamohgaleajaaGreatDoor
open Go Go.Am Go.Proofs
theorem cv_5_3 (m : Int) : ∃ n : Int, TOp.eval EE (.conv 5 3) [.leaf (.int .u8 m)] = some (dI n) := ⟨IntKind.i64.wrap m, by kernel_rfl⟩
theorem cv_3_5 (m : Int) : ∃ n : Int, TOp.eval EE (.conv 3 5) [dI m] = some (.leaf (.int .u8 n)) := ⟨IntKind.u8.wrap m, by kernel_rfl⟩
theorem op_quo_3_64 (m : Int) {x y : Operand} : ∃ n : Int, TOp.eval EE (.bin .quo 3 x y) [dI m, dI ((64 : Nat) : Int)] = some (dI n) := ⟨IntKind.i64.wrap (m.tdiv 64), by kernel_rfl⟩
theorem op_quo_3_4096 (m : Int) {x y : Operand} : ∃ n : Int, TOp.eval EE (.bin .quo 3 x y) [dI m, dI ((4096 : Nat) : Int)] = some (dI n) := ⟨IntKind.i64.wrap (m.tdiv 4096), by kernel_rfl⟩
theorem op_quo_3_262144 (m : Int) {x y : Operand} : ∃ n : Int, TOp.eval EE (.bin .quo 3 x y) [dI m, dI ((262144 : Nat) : Int)] = some (dI n) := ⟨IntKind.i64.wrap (m.tdiv 262144), by kernel_rfl⟩
theorem op_rem_3_64 (m : Int) {x y : Operand} : ∃ n : Int, TOp.eval EE (.bin .rem 3 x y) [dI m, dI ((64 : Nat) : Int)] = some (dI n) := ⟨m.tmod 64, by kernel_rfl⟩
end Go.Proofs.YtbdamohgaleajaaGreatDoor
namespace Go.Proofs.YtbdamohgaleajaaGreatDoor
open Go Go.Am Go.Proofs
attribute [local irreducible] Go.Am.wp Go.Am.TOp.eval
theorem ty59 : eqTy EE.prog 4 59 = some [.int .i64, .int .i64] := by kernel_rfl
theorem st59 : isSt EE.prog 59 = true := by kernel_rfl
theorem gu59 : EE.prog.eqGuardType EE.prog.depth 59 = false := by kernel_rfl
theorem t132 {a : D} (h_a : HasB 300000000 (.int .i64) a) : ∃ d, (HasB 300000000 (.bool)) d ∧ Holds EE 132 [a] d := by
 suffices h : ∃ d, (HasB 300000000 (.bool)) d ∧ Goes EE (Holds EE) u132Ts 0 [a] d by
  obtain ⟨d, hd, hg⟩ := h; exact ⟨d, hd, u132 rfl hg⟩
 obtain ⟨a, rfl⟩ := h_a
 refine goes_R (R := (HasB 300000000 (.bool))) ?_
 show wp _ _ _ u132T0 _
 refine bS sk_geq ?_
 refine iD rfl (fun c0 => ?_) (fun c0 => ?_)
 ·
  refine bS sk_leq ?_
  exact wr_ret rfl hb_bool
 ·
  exact wr_ret rfl hb_bool
theorem t105 {a b : D} (h_a : HasB 300000000 zV a) (h_b : HasB 300000000 (.int .i64) b) : ∃ d, (HasB 300000000 (.bool)) d ∧ Holds EE 105 [a, b] d := by
 suffices h : ∃ d, (HasB 300000000 (.bool)) d ∧ Goes EE (Holds EE) u105Ts 0 [a, b] d by
  obtain ⟨d, hd, hg⟩ := h; exact ⟨d, hd, u105 rfl hg⟩
 obtain ⟨_, rfl, a_0, _, rfl, h_a_0, rfl⟩ := h_a
 have i_a_0 := isSl_ofB h_a_0
 have b_a_0 := len_leB h_a_0
 obtain ⟨b, rfl⟩ := h_b
 refine goes_R (R := (HasB 300000000 (.bool))) ?_
 show wp _ _ _ u105T0 _
 refine bS (d := .agg [a_0]) (sh_chkW rfl) ?_
 refine bS sk_geq ?_
 refine iD rfl (fun c0 => ?_) (fun c0 => ?_)
 ·
  refine bS (d := a_0) (sh_fld1 rfl i_a_0.one) ?_
  refine bS (d := dI ((a_0.es.length : Nat) : Int)) (sh_len i_a_0) ?_
  refine bS sk_leq ?_
  exact wr_ret rfl hb_bool
 ·
  exact wr_ret rfl hb_bool
theorem t62 {a b : D} (h_a : HasB 300000000 zL a) (h_b : HasB 300000000 zL b) : ∃ d, (HasB 300000000 (.bool)) d ∧ Holds EE 62 [a, b] d := by
 suffices h : ∃ d, (HasB 300000000 (.bool)) d ∧ Goes EE (Holds EE) u62Ts 0 [a, b] d by
  obtain ⟨d, hd, hg⟩ := h; exact ⟨d, hd, u62 rfl hg⟩
 have i_a := isSl_ofB h_a
 have b_a := len_leB h_a
 have i_b := isSl_ofB h_b
 have b_b := len_leB h_b
 refine goes_R (R := (HasB 300000000 (.bool))) ?_
 show wp _ _ _ u62T0 _
 refine bS (d := dI ((a.es.length : Nat) : Int)) (sh_len i_a) ?_
 refine bS (d := dI ((b.es.length : Nat) : Int)) (sh_len i_b) ?_
 refine bS sk_neq ?_
 refine iD rfl (fun c0 => ?_) (fun c0 => ?_)
 ·
  exact wr_ret rfl hb_bool
 ·
  refine bS (d := dI ((a.es.length : Nat) : Int)) (sh_len i_a) ?_
  refine wr_jump rfl (loop_up (P := fun i1 => i1 ≤ a.es.length → ∃ d, (HasB 300000000 (.bool)) d ∧ Goes EE (Holds EE) u62Ts 1 [a, b, dI ((a.es.length : Nat) : Int), dI ((i1 : Nat) : Int)] d) (a.es.length) (fun i1 ih1 => ?_) 0 (by omega))
  intro hn1
  refine goes_R (R := (HasB 300000000 (.bool))) ?_
  show wp _ _ _ u62T1 _
  refine bS sk_lss ?_
  refine iD rfl (fun c2 => ?_) (fun c2 => ?_)
  ·
   obtain ⟨x3, e_x3⟩ := get_at (d := a) (s := ((i1 : Nat) : Int)) (by omega) (by omega)
   obtain ⟨x3, rfl⟩ := (elem_ofB h_a e_x3)
   refine bS (d := dB (true)) (si_inr (by omega) e_x3) ?_
   refine bS (d := dI (x3)) (si_elem1 i_a (by omega) e_x3 rfl) ?_
   obtain ⟨x4, e_x4⟩ := get_at (d := b) (s := ((i1 : Nat) : Int)) (by omega) (by omega)
   obtain ⟨x4, rfl⟩ := (elem_ofB h_b e_x4)
   refine bS (d := dB (true)) (si_inr (by omega) e_x4) ?_
   refine bS (d := dI (x4)) (si_elem1 i_b (by omega) e_x4 rfl) ?_
   refine bS sk_neq ?_
   refine iD rfl (fun c5 => ?_) (fun c5 => ?_)
   ·
    exact wr_ret rfl hb_bool
   ·
    refine bS (d := dI ((i1 + 1 : Nat) : Int)) (sh_add (cap_bd' (by omega))) ?_
    exact wr_jump rfl (ih1 (by omega) (by omega))
  ·
   exact wr_ret rfl hb_bool
theorem t70 {a b : D} (h_a : HasB 300000000 zN a) (h_b : HasB 300000000 (.int .i64) b) : ∃ d, (HasB 300000000 (.bool)) d ∧ Holds EE 70 [a, b] d := by
 suffices h : ∃ d, (HasB 300000000 (.bool)) d ∧ Goes EE (Holds EE) u70Ts 0 [a, b] d by
  obtain ⟨d, hd, hg⟩ := h; exact ⟨d, hd, u70 rfl hg⟩
 obtain ⟨_, rfl, _, _, rfl, ⟨a_0, rfl⟩, a_1, _, rfl, h_a_1, a_2, _, rfl, h_a_2, rfl⟩ := h_a
 have i_a_1 := isSl_ofB h_a_1
 have b_a_1 := len_leB h_a_1
 have i_a_2 := isSl_ofB h_a_2
 have b_a_2 := len_leB h_a_2
 obtain ⟨b, rfl⟩ := h_b
 refine goes_R (R := (HasB 300000000 (.bool))) ?_
 show wp _ _ _ u70T0 _
 refine bS (d := .agg [dI (a_0), a_1, a_2]) (sh_chkW rfl) ?_
 refine bS sk_geq ?_
 refine iD rfl (fun c0 => ?_) (fun c0 => ?_)
 ·
  refine bS (d := dI (a_0)) (sh_fld1 rfl rfl) ?_
  refine bS sk_lss ?_
  exact wr_ret rfl hb_bool
 ·
  exact wr_ret rfl hb_bool
theorem t73 {a : D} (h_a : HasB 300000000 (.int .i64) a) : ∃ d, (HasB 300000000 (.int .i64)) d ∧ Holds EE 73 [a] d := by
 suffices h : ∃ d, (HasB 300000000 (.int .i64)) d ∧ Goes EE (Holds EE) u73Ts 0 [a] d by
  obtain ⟨d, hd, hg⟩ := h; exact ⟨d, hd, u73 rfl hg⟩
 obtain ⟨a, rfl⟩ := h_a
 refine goes_R (R := (HasB 300000000 (.int .i64))) ?_
 show wp _ _ _ u73T0 _
 refine bS sk_eql ?_
 refine iD rfl (fun c0 => ?_) (fun c0 => ?_)
 ·
  exact wr_ret rfl hb_int
 ·
  refine bS sk_eql ?_
  refine iD rfl (fun c1 => ?_) (fun c1 => ?_)
  ·
   exact wr_ret rfl hb_int
  ·
   refine bS sk_eql ?_
   refine iD rfl (fun c2 => ?_) (fun c2 => ?_)
   ·
    exact wr_ret rfl hb_int
   ·
    refine bS sk_eql ?_
    refine iD rfl (fun c3 => ?_) (fun c3 => ?_)
    ·
     exact wr_ret rfl hb_int
    ·
     refine bS sk_eql ?_
     refine iD rfl (fun c4 => ?_) (fun c4 => ?_)
     ·
      exact wr_ret rfl hb_int
     ·
      refine bS sk_eql ?_
      refine iD rfl (fun c5 => ?_) (fun c5 => ?_)
      ·
       exact wr_ret rfl hb_int
      ·
       exact wr_ret rfl hb_int
theorem t154 {a : D} (h_a : HasB 300000000 (.int .i64) a) : ∃ d, (HasB 300000000 (.bool)) d ∧ Holds EE 154 [a] d := by
 suffices h : ∃ d, (HasB 300000000 (.bool)) d ∧ Goes EE (Holds EE) u154Ts 0 [a] d by
  obtain ⟨d, hd, hg⟩ := h; exact ⟨d, hd, u154 rfl hg⟩
 obtain ⟨a, rfl⟩ := h_a
 refine goes_R (R := (HasB 300000000 (.bool))) ?_
 show wp _ _ _ u154T0 _
 refine bS sk_geq ?_
 refine iD rfl (fun c0 => ?_) (fun c0 => ?_)
 ·
  refine bS sk_leq ?_
  refine iD rfl (fun c1 => ?_) (fun c1 => ?_)
  ·
   refine bS sk_lss ?_
   refine iD rfl (fun c2 => ?_) (fun c2 => ?_)
   ·
    exact wr_ret rfl hb_bool
   ·
    refine bS sk_gtr ?_
    exact wr_ret rfl hb_bool
  ·
   exact wr_ret rfl hb_bool
 ·
  exact wr_ret rfl hb_bool
theorem t65 {a : D} (h_a : HasB 300000000 (.str) a) : ∃ d, (HasB 300000000 (.bool)) d ∧ Holds EE 65 [a] d := by
 suffices h : ∃ d, (HasB 300000000 (.bool)) d ∧ Goes EE (Holds EE) u65Ts 0 [a] d by
  obtain ⟨d, hd, hg⟩ := h; exact ⟨d, hd, u65 rfl hg⟩
 obtain ⟨a, rfl, hs_a⟩ := h_a
 refine goes_R (R := (HasB 300000000 (.bool))) ?_
 show wp _ _ _ u65T0 _
 refine wr_jump rfl (loop_up (P := fun i0 => i0 ≤ a.size → ∃ d, (HasB 300000000 (.bool)) d ∧ Goes EE (Holds EE) u65Ts 1 [.leaf (.string a), dI ((i0 : Nat) : Int)] d) (a.size) (fun i0 ih0 => ?_) 0 (by omega))
 intro hn0
 refine goes_R (R := (HasB 300000000 (.bool))) ?_
 show wp _ _ _ u65T1 _
 refine bS (d := dI ((a.size : Nat) : Int)) ss_len ?_
 refine bS sk_lss ?_
 refine iD rfl (fun c1 => ?_) (fun c1 => ?_)
 ·
  obtain ⟨w2, p2, q2, ew2⟩ := ss_chr (E := EE) (s := a) (i := ((i0 : Nat) : Int)) (by omega) (by omega)
  refine bS (d := .leaf (.int .u8 (w2))) ew2 ?_
  refine bS sk_geq ?_
  refine iD rfl (fun c3 => ?_) (fun c3 => ?_)
  ·
   obtain ⟨w4, p4, q4, ew4⟩ := ss_chr (E := EE) (s := a) (i := ((i0 : Nat) : Int)) (by omega) (by omega)
   refine bS (d := .leaf (.int .u8 (w4))) ew4 ?_
   refine bS sk_leq ?_
   refine bS (d := dB (_)) sh_not ?_
   refine wp_iteC rfl (fun c5 => ?_) (fun c5 => ?_)
   ·
    clear c5
    refine bS sk_eql ?_
    refine iD rfl (fun c6 => ?_) (fun c6 => ?_)
    ·
     exact wr_ret rfl hb_bool
    ·
     obtain ⟨w7, p7, q7, ew7⟩ := ss_chr (E := EE) (s := a) (i := ((i0 : Nat) : Int)) (by omega) (by omega)
     refine bS (d := .leaf (.int .u8 (w7))) ew7 ?_
     refine bS sk_neq ?_
     refine iD rfl (fun c8 => ?_) (fun c8 => ?_)
     ·
      obtain ⟨w9, p9, q9, ew9⟩ := ss_chr (E := EE) (s := a) (i := ((i0 : Nat) : Int)) (by omega) (by omega)
      refine bS (d := .leaf (.int .u8 (w9))) ew9 ?_
      refine bS sk_neq ?_
      refine iD rfl (fun c10 => ?_) (fun c10 => ?_)
      ·
       obtain ⟨w11, p11, q11, ew11⟩ := ss_chr (E := EE) (s := a) (i := ((i0 : Nat) : Int)) (by omega) (by omega)
       refine bS (d := .leaf (.int .u8 (w11))) ew11 ?_
       refine bS sk_lss ?_
       refine iD rfl (fun c12 => ?_) (fun c12 => ?_)
       ·
        exact wr_ret rfl hb_bool
       ·
        obtain ⟨w13, p13, q13, ew13⟩ := ss_chr (E := EE) (s := a) (i := ((i0 : Nat) : Int)) (by omega) (by omega)
        refine bS (d := .leaf (.int .u8 (w13))) ew13 ?_
        refine bS sk_gtr ?_
        refine iD rfl (fun c14 => ?_) (fun c14 => ?_)
        ·
         exact wr_ret rfl hb_bool
        ·
         refine bS (d := dI ((i0 + 1 : Nat) : Int)) (sh_add (cap_bd' (by omega))) ?_
         exact wr_jump rfl (ih0 (by omega) (by omega))
      ·
       refine bS (d := dI ((i0 + 1 : Nat) : Int)) (sh_add (cap_bd' (by omega))) ?_
       exact wr_jump rfl (ih0 (by omega) (by omega))
     ·
      refine bS (d := dI ((i0 + 1 : Nat) : Int)) (sh_add (cap_bd' (by omega))) ?_
      exact wr_jump rfl (ih0 (by omega) (by omega))
   ·
    clear c5
    refine bS (d := dI ((i0 + 1 : Nat) : Int)) (sh_add (cap_bd' (by omega))) ?_
    exact wr_jump rfl (ih0 (by omega) (by omega))
  ·
   refine bS sk_eql ?_
   refine iD rfl (fun c4 => ?_) (fun c4 => ?_)
   ·
    exact wr_ret rfl hb_bool
   ·
    obtain ⟨w5, p5, q5, ew5⟩ := ss_chr (E := EE) (s := a) (i := ((i0 : Nat) : Int)) (by omega) (by omega)
    refine bS (d := .leaf (.int .u8 (w5))) ew5 ?_
    refine bS sk_neq ?_
    refine iD rfl (fun c6 => ?_) (fun c6 => ?_)
    ·
     obtain ⟨w7, p7, q7, ew7⟩ := ss_chr (E := EE) (s := a) (i := ((i0 : Nat) : Int)) (by omega) (by omega)
     refine bS (d := .leaf (.int .u8 (w7))) ew7 ?_
     refine bS sk_neq ?_
     refine iD rfl (fun c8 => ?_) (fun c8 => ?_)
     ·
      obtain ⟨w9, p9, q9, ew9⟩ := ss_chr (E := EE) (s := a) (i := ((i0 : Nat) : Int)) (by omega) (by omega)
      refine bS (d := .leaf (.int .u8 (w9))) ew9 ?_
      refine bS sk_lss ?_
      refine iD rfl (fun c10 => ?_) (fun c10 => ?_)
      ·
       exact wr_ret rfl hb_bool
      ·
       obtain ⟨w11, p11, q11, ew11⟩ := ss_chr (E := EE) (s := a) (i := ((i0 : Nat) : Int)) (by omega) (by omega)
       refine bS (d := .leaf (.int .u8 (w11))) ew11 ?_
       refine bS sk_gtr ?_
       refine iD rfl (fun c12 => ?_) (fun c12 => ?_)
       ·
        exact wr_ret rfl hb_bool
       ·
        refine bS (d := dI ((i0 + 1 : Nat) : Int)) (sh_add (cap_bd' (by omega))) ?_
        exact wr_jump rfl (ih0 (by omega) (by omega))
     ·
      refine bS (d := dI ((i0 + 1 : Nat) : Int)) (sh_add (cap_bd' (by omega))) ?_
      exact wr_jump rfl (ih0 (by omega) (by omega))
    ·
     refine bS (d := dI ((i0 + 1 : Nat) : Int)) (sh_add (cap_bd' (by omega))) ?_
     exact wr_jump rfl (ih0 (by omega) (by omega))
 ·
  refine bS (d := dI ((a.size : Nat) : Int)) ss_len ?_
  refine bS sk_geq ?_
  refine iD rfl (fun c2 => ?_) (fun c2 => ?_)
  ·
   refine bS (d := dI ((a.size : Nat) : Int)) ss_len ?_
   refine bS sk_leq ?_
   exact wr_ret rfl hb_bool
  ·
   exact wr_ret rfl hb_bool
theorem t68 {a b : D} (h_a : HasB 300000000 (.sl 9 1 (.str)) a) (h_b : HasB 300000000 (.str) b) : ∃ d, (HasB 300000000 (.bool)) d ∧ Holds EE 68 [a, b] d := by
 suffices h : ∃ d, (HasB 300000000 (.bool)) d ∧ Goes EE (Holds EE) u68Ts 0 [a, b] d by
  obtain ⟨d, hd, hg⟩ := h; exact ⟨d, hd, u68 rfl hg⟩
 have i_a := isSl_ofB h_a
 have b_a := len_leB h_a
 obtain ⟨b, rfl, hs_b⟩ := h_b
 refine goes_R (R := (HasB 300000000 (.bool))) ?_
 show wp _ _ _ u68T0 _
 refine wr_jump rfl (loop_up (P := fun i0 => i0 ≤ a.es.length → ∃ d, (HasB 300000000 (.bool)) d ∧ Goes EE (Holds EE) u68Ts 1 [a, .leaf (.string b), dI ((i0 : Nat) : Int)] d) (a.es.length) (fun i0 ih0 => ?_) 0 (by omega))
 intro hn0
 refine goes_R (R := (HasB 300000000 (.bool))) ?_
 show wp _ _ _ u68T1 _
 refine bS (d := dI ((a.es.length : Nat) : Int)) (sh_len i_a) ?_
 refine bS sk_lss ?_
 refine iD rfl (fun c1 => ?_) (fun c1 => ?_)
 ·
  obtain ⟨x2, e_x2⟩ := get_at (d := a) (s := ((i0 : Nat) : Int)) (by omega) (by omega)
  obtain ⟨x2, rfl, hs_x2⟩ := (elem_ofB h_a e_x2)
  refine bS (d := dB (true)) (si_inr (by omega) e_x2) ?_
  refine bS (d := .leaf (.string x2)) (si_elem1 i_a (by omega) e_x2 rfl) ?_
  refine bS (d := dB (x2 == b)) sh_strE ?_
  refine wp_iteC rfl (fun c3 => ?_) (fun c3 => ?_)
  ·
   clear c3
   exact wr_ret rfl hb_bool
  ·
   clear c3
   refine bS (d := dI ((i0 + 1 : Nat) : Int)) (sh_add (cap_bd' (by omega))) ?_
   exact wr_jump rfl (ih0 (by omega) (by omega))
 ·
  exact wr_ret rfl hb_bool
theorem t74 {a b : D} (h_a : HasB 300000000 zEs a) (h_b : HasB 300000000 (.int .i64) b) : ∃ d, (fun d => ∃ n : Int, d = dI n ∧ -1 ≤ n ∧ n < (a.es.length : Int)) d ∧ Holds EE 74 [a, b] d := by
 suffices h : ∃ d, (fun d => ∃ n : Int, d = dI n ∧ -1 ≤ n ∧ n < (a.es.length : Int)) d ∧ Goes EE (Holds EE) u74Ts 0 [a, b] d by
  obtain ⟨d, hd, hg⟩ := h; exact ⟨d, hd, u74 rfl hg⟩
 have i_a := isSl_ofB h_a
 have b_a := len_leB h_a
 obtain ⟨b, rfl⟩ := h_b
 refine goes_R (R := (fun d => ∃ n : Int, d = dI n ∧ -1 ≤ n ∧ n < (a.es.length : Int))) ?_
 show wp _ _ _ u74T0 _
 refine wr_jump rfl (loop_up (P := fun i0 => i0 ≤ a.es.length → ∃ d, (fun d => ∃ n : Int, d = dI n ∧ -1 ≤ n ∧ n < (a.es.length : Int)) d ∧ Goes EE (Holds EE) u74Ts 1 [a, dI (b), dI ((i0 : Nat) : Int)] d) (a.es.length) (fun i0 ih0 => ?_) 0 (by omega))
 intro hn0
 refine goes_R (R := (fun d => ∃ n : Int, d = dI n ∧ -1 ≤ n ∧ n < (a.es.length : Int))) ?_
 show wp _ _ _ u74T1 _
 refine bS (d := dI ((a.es.length : Nat) : Int)) (sh_len i_a) ?_
 refine bS sk_lss ?_
 refine iD rfl (fun c1 => ?_) (fun c1 => ?_)
 ·
  obtain ⟨x2, e_x2⟩ := get_at (d := a) (s := ((i0 : Nat) : Int)) (by omega) (by omega)
  obtain ⟨_, rfl, _, _, rfl, ⟨x2_0, rfl⟩, x2_1, _, rfl, h_x2_1, _, _, rfl, ⟨x2_2, rfl⟩, x2_3, _, rfl, h_x2_3, _, _, rfl, ⟨x2_4, rfl⟩, x2_5, _, rfl, h_x2_5, x2_6, _, rfl, h_x2_6, x2_7, _, rfl, h_x2_7, rfl⟩ := (elem_ofB h_a e_x2)
  have i_x2_1 := isSl_ofB h_x2_1
  have b_x2_1 := len_leB h_x2_1
  have i_x2_3 := isSl_ofB h_x2_3
  have b_x2_3 := len_leB h_x2_3
  have i_x2_5 := isSl_ofB h_x2_5
  have b_x2_5 := len_leB h_x2_5
  have i_x2_6 := isSl_ofB h_x2_6
  have b_x2_6 := len_leB h_x2_6
  have i_x2_7 := isSl_ofB h_x2_7
  have b_x2_7 := len_leB h_x2_7
  refine bS (d := dB (true)) (si_inr (by omega) e_x2) ?_
  refine bS (d := dI (x2_0)) (si_elemP (off := 0) i_a (by omega) e_x2 rfl rfl (by decide)) ?_
  refine bS sk_eql ?_
  refine iD rfl (fun c3 => ?_) (fun c3 => ?_)
  ·
   exact wr_ret rfl ⟨_, rfl, by omega, by omega⟩
  ·
   refine bS (d := dI ((i0 + 1 : Nat) : Int)) (sh_add (cap_bd' (by omega))) ?_
   exact wr_jump rfl (ih0 (by omega) (by omega))
 ·
  exact wr_ret rfl ⟨_, rfl, by omega, by omega⟩
theorem t75 {a b : D} (h_a : HasB 300000000 zE a) (h_b : HasB 300000000 (.st [.int .i64, .int .i64]) b) : ∃ d, (HasB 300000000 (.bool)) d ∧ Holds EE 75 [a, b] d := by
 suffices h : ∃ d, (HasB 300000000 (.bool)) d ∧ Goes EE (Holds EE) u75Ts 0 [a, b] d by
  obtain ⟨d, hd, hg⟩ := h; exact ⟨d, hd, u75 rfl hg⟩
 obtain ⟨_, rfl, _, _, rfl, ⟨a_0, rfl⟩, a_1, _, rfl, h_a_1, _, _, rfl, ⟨a_2, rfl⟩, a_3, _, rfl, h_a_3, _, _, rfl, ⟨a_4, rfl⟩, a_5, _, rfl, h_a_5, a_6, _, rfl, h_a_6, a_7, _, rfl, h_a_7, rfl⟩ := h_a
 have i_a_1 := isSl_ofB h_a_1
 have b_a_1 := len_leB h_a_1
 have i_a_3 := isSl_ofB h_a_3
 have b_a_3 := len_leB h_a_3
 have i_a_5 := isSl_ofB h_a_5
 have b_a_5 := len_leB h_a_5
 have i_a_6 := isSl_ofB h_a_6
 have b_a_6 := len_leB h_a_6
 have i_a_7 := isSl_ofB h_a_7
 have b_a_7 := len_leB h_a_7
 obtain ⟨_, rfl, _, _, rfl, ⟨b_0, rfl⟩, _, _, rfl, ⟨b_1, rfl⟩, rfl⟩ := h_b
 refine goes_R (R := (HasB 300000000 (.bool))) ?_
 show wp _ _ _ u75T0 _
 refine bS (d := .agg [dI (a_0), a_1, dI (a_2), a_3, dI (a_4), a_5, a_6, a_7]) (sh_chkW rfl) ?_
 refine bS (d := .agg [dI (b_0), dI (b_1)]) (sh_chkW rfl) ?_
 refine wr_jump rfl (loop_up (P := fun i0 => i0 ≤ a_6.es.length → ∃ d, (HasB 300000000 (.bool)) d ∧ Goes EE (Holds EE) u75Ts 1 [dI ((i0 : Nat) : Int), .agg [dI (a_0), a_1, dI (a_2), a_3, dI (a_4), a_5, a_6, a_7], .agg [dI (b_0), dI (b_1)]] d) (a_6.es.length) (fun i0 ih0 => ?_) 0 (by omega))
 intro hn0
 refine goes_R (R := (HasB 300000000 (.bool))) ?_
 show wp _ _ _ u75T1 _
 refine bS (d := a_6) (sh_fld1 rfl i_a_6.one) ?_
 refine bS (d := dI ((a_6.es.length : Nat) : Int)) (sh_len i_a_6) ?_
 refine bS sk_lss ?_
 refine iD rfl (fun c1 => ?_) (fun c1 => ?_)
 ·
  refine bS (d := a_6) (sh_fld1 rfl i_a_6.one) ?_
  obtain ⟨x2, e_x2⟩ := get_at (d := a_6) (s := ((i0 : Nat) : Int)) (by omega) (by omega)
  obtain ⟨_, rfl, _, _, rfl, ⟨x2_0, rfl⟩, _, _, rfl, ⟨x2_1, rfl⟩, rfl⟩ := (elem_ofB h_a_6 e_x2)
  refine bS (d := dB (true)) (si_inr (by omega) e_x2) ?_
  refine bS (d := .agg [dI (x2_0), dI (x2_1)]) (si_elemW i_a_6 (by omega) e_x2 rfl) ?_
  refine bS (d := dB (deqs [dI (x2_0), dI (x2_1)] [dI (b_0), dI (b_1)])) (sh_cmpS .eql (.inr rfl) ty59 st59 le4 gu59 rfl (hasBs_sh (B := 300000000) (hbs_cons hb_int (hbs_cons hb_int hbs_nil))) (hasBs_sh (B := 300000000) (hbs_cons hb_int (hbs_cons hb_int hbs_nil)))) ?_
  refine wp_iteC rfl (fun c3 => ?_) (fun c3 => ?_)
  ·
   clear c3
   exact wr_ret rfl hb_bool
  ·
   clear c3
   refine bS (d := dI ((i0 + 1 : Nat) : Int)) (sh_add (cap_bd' (by omega))) ?_
   exact wr_jump rfl (ih0 (by omega) (by omega))
 ·
  exact wr_ret rfl hb_bool
theorem t76 {a b : D} (h_a : HasB 300000000 zL a) (h_b : HasB 300000000 (.int .i64) b) : ∃ d, (HasB 300000000 (.bool)) d ∧ Holds EE 76 [a, b] d := by
 suffices h : ∃ d, (HasB 300000000 (.bool)) d ∧ Goes EE (Holds EE) u76Ts 0 [a, b] d by
  obtain ⟨d, hd, hg⟩ := h; exact ⟨d, hd, u76 rfl hg⟩
 have i_a := isSl_ofB h_a
 have b_a := len_leB h_a
 obtain ⟨b, rfl⟩ := h_b
 refine goes_R (R := (HasB 300000000 (.bool))) ?_
 show wp _ _ _ u76T0 _
 refine wr_jump rfl (loop_up (P := fun i0 => i0 ≤ a.es.length → ∃ d, (HasB 300000000 (.bool)) d ∧ Goes EE (Holds EE) u76Ts 1 [a, dI (b), dI ((i0 : Nat) : Int)] d) (a.es.length) (fun i0 ih0 => ?_) 0 (by omega))
 intro hn0
 refine goes_R (R := (HasB 300000000 (.bool))) ?_
 show wp _ _ _ u76T1 _
 refine bS (d := dI ((a.es.length : Nat) : Int)) (sh_len i_a) ?_
 refine bS sk_lss ?_
 refine iD rfl (fun c1 => ?_) (fun c1 => ?_)
 ·
  obtain ⟨x2, e_x2⟩ := get_at (d := a) (s := ((i0 : Nat) : Int)) (by omega) (by omega)
  obtain ⟨x2, rfl⟩ := (elem_ofB h_a e_x2)
  refine bS (d := dB (true)) (si_inr (by omega) e_x2) ?_
  refine bS (d := dI (x2)) (si_elem1 i_a (by omega) e_x2 rfl) ?_
  refine bS sk_eql ?_
  refine iD rfl (fun c3 => ?_) (fun c3 => ?_)
  ·
   exact wr_ret rfl hb_bool
  ·
   refine bS (d := dI ((i0 + 1 : Nat) : Int)) (sh_add (cap_bd' (by omega))) ?_
   exact wr_jump rfl (ih0 (by omega) (by omega))
 ·
  exact wr_ret rfl hb_bool
theorem t78 {a b : D} (h_a : HasB 300000000 zEs a) (h_b : HasB 300000000 (.int .i64) b) : ∃ d, (fun d => ∃ n : Int, d = dI n ∧ -1 ≤ n ∧ n < (a.es.length : Int)) d ∧ Holds EE 78 [a, b] d := by
 suffices h : ∃ d, (fun d => ∃ n : Int, d = dI n ∧ -1 ≤ n ∧ n < (a.es.length : Int)) d ∧ Goes EE (Holds EE) u78Ts 0 [a, b] d by
  obtain ⟨d, hd, hg⟩ := h; exact ⟨d, hd, u78 rfl hg⟩
 have i_a := isSl_ofB h_a
 have b_a := len_leB h_a
 obtain ⟨b, rfl⟩ := h_b
 refine goes_R (R := (fun d => ∃ n : Int, d = dI n ∧ -1 ≤ n ∧ n < (a.es.length : Int))) ?_
 show wp _ _ _ u78T0 _
 refine wr_jump rfl (loop_up (P := fun i0 => i0 ≤ a.es.length → ∃ d, (fun d => ∃ n : Int, d = dI n ∧ -1 ≤ n ∧ n < (a.es.length : Int)) d ∧ Goes EE (Holds EE) u78Ts 1 [a, dI (b), dI ((i0 : Nat) : Int)] d) (a.es.length) (fun i0 ih0 => ?_) 0 (by omega))
 intro hn0
 refine goes_R (R := (fun d => ∃ n : Int, d = dI n ∧ -1 ≤ n ∧ n < (a.es.length : Int))) ?_
 show wp _ _ _ u78T1 _
 refine bS (d := dI ((a.es.length : Nat) : Int)) (sh_len i_a) ?_
 refine bS sk_lss ?_
 refine iD rfl (fun c1 => ?_) (fun c1 => ?_)
 ·
  obtain ⟨x2, e_x2⟩ := get_at (d := a) (s := ((i0 : Nat) : Int)) (by omega) (by omega)
  obtain ⟨_, rfl, _, _, rfl, ⟨x2_0, rfl⟩, x2_1, _, rfl, h_x2_1, _, _, rfl, ⟨x2_2, rfl⟩, x2_3, _, rfl, h_x2_3, _, _, rfl, ⟨x2_4, rfl⟩, x2_5, _, rfl, h_x2_5, x2_6, _, rfl, h_x2_6, x2_7, _, rfl, h_x2_7, rfl⟩ := (elem_ofB h_a e_x2)
  have i_x2_1 := isSl_ofB h_x2_1
  have b_x2_1 := len_leB h_x2_1
  have i_x2_3 := isSl_ofB h_x2_3
  have b_x2_3 := len_leB h_x2_3
  have i_x2_5 := isSl_ofB h_x2_5
  have b_x2_5 := len_leB h_x2_5
  have i_x2_6 := isSl_ofB h_x2_6
  have b_x2_6 := len_leB h_x2_6
  have i_x2_7 := isSl_ofB h_x2_7
  have b_x2_7 := len_leB h_x2_7
  refine bS (d := dB (true)) (si_inr (by omega) e_x2) ?_
  refine bS (d := dI (x2_0)) (si_elemP (off := 0) i_a (by omega) e_x2 rfl rfl (by decide)) ?_
  refine bS sk_eql ?_
  refine iD rfl (fun c3 => ?_) (fun c3 => ?_)
  ·
   exact wr_ret rfl ⟨_, rfl, by omega, by omega⟩
  ·
   refine bS (d := dI ((i0 + 1 : Nat) : Int)) (sh_add (cap_bd' (by omega))) ?_
   exact wr_jump rfl (ih0 (by omega) (by omega))
 ·
  exact wr_ret rfl ⟨_, rfl, by omega, by omega⟩
theorem t158 {a b : D} (h_a : HasB 300000000 (.sl 86 2 (.st [.str, .str])) a) (h_b : HasB 300000000 (.str) b) : ∃ d, (HasB 300000000 (.bool)) d ∧ Holds EE 158 [a, b] d := by
 suffices h : ∃ d, (HasB 300000000 (.bool)) d ∧ Goes EE (Holds EE) u158Ts 0 [a, b] d by
  obtain ⟨d, hd, hg⟩ := h; exact ⟨d, hd, u158 rfl hg⟩
 have i_a := isSl_ofB h_a
 have b_a := len_leB h_a
 obtain ⟨b, rfl, hs_b⟩ := h_b
 refine goes_R (R := (HasB 300000000 (.bool))) ?_
 show wp _ _ _ u158T0 _
 refine wr_jump rfl (loop_up (P := fun i0 => i0 ≤ a.es.length → ∃ d, (HasB 300000000 (.bool)) d ∧ Goes EE (Holds EE) u158Ts 1 [a, .leaf (.string b), dI ((i0 : Nat) : Int)] d) (a.es.length) (fun i0 ih0 => ?_) 0 (by omega))
 intro hn0
 refine goes_R (R := (HasB 300000000 (.bool))) ?_
 show wp _ _ _ u158T1 _
 refine bS (d := dI ((a.es.length : Nat) : Int)) (sh_len i_a) ?_
 refine bS sk_lss ?_
 refine iD rfl (fun c1 => ?_) (fun c1 => ?_)
 ·
  obtain ⟨x2, e_x2⟩ := get_at (d := a) (s := ((i0 : Nat) : Int)) (by omega) (by omega)
  obtain ⟨_, rfl, _, _, rfl, ⟨x2_0, rfl, hs_x2_0⟩, _, _, rfl, ⟨x2_1, rfl, hs_x2_1⟩, rfl⟩ := (elem_ofB h_a e_x2)
  refine bS (d := dB (true)) (si_inr (by omega) e_x2) ?_
  refine bS (d := .leaf (.string x2_0)) (si_elemP (off := 0) i_a (by omega) e_x2 rfl rfl (by decide)) ?_
  refine bS (d := dB (x2_0 == b)) sh_strE ?_
  refine wp_iteC rfl (fun c3 => ?_) (fun c3 => ?_)
  ·
   clear c3
   exact wr_ret rfl hb_bool
  ·
   clear c3
   refine bS (d := dI ((i0 + 1 : Nat) : Int)) (sh_add (cap_bd' (by omega))) ?_
   exact wr_jump rfl (ih0 (by omega) (by omega))
 ·
  exact wr_ret rfl hb_bool
theorem t135 {a : D} (h_a : HasB 300000000 (.st [.int .i64, .int .i64]) a) : ∃ d, (HasB 300000000 (.bool)) d ∧ Holds EE 135 [a] d := by
 suffices h : ∃ d, (HasB 300000000 (.bool)) d ∧ Goes EE (Holds EE) u135Ts 0 [a] d by
  obtain ⟨d, hd, hg⟩ := h; exact ⟨d, hd, u135 rfl hg⟩
 obtain ⟨_, rfl, _, _, rfl, ⟨a_0, rfl⟩, _, _, rfl, ⟨a_1, rfl⟩, rfl⟩ := h_a
 refine goes_R (R := (HasB 300000000 (.bool))) ?_
 show wp _ _ _ u135T0 _
 refine bS (d := .agg [dI (a_0), dI (a_1)]) (sh_chkW rfl) ?_
 refine bS (d := dI (a_0)) (sh_fld1 rfl rfl) ?_
 obtain ⟨_, ⟨r0, rfl⟩, k_r0⟩ := t132 hb_int
 refine cS (d := dB (r0)) k_r0 ?_
 refine wp_iteC rfl (fun c1 => ?_) (fun c1 => ?_)
 ·
  clear c1
  refine bS (d := dI (a_1)) (sh_fld1 rfl rfl) ?_
  obtain ⟨_, ⟨r2, rfl⟩, k_r2⟩ := t132 hb_int
  refine cS (d := dB (r2)) k_r2 ?_
  exact wr_ret rfl hb_bool
 ·
  clear c1
  exact wr_ret rfl hb_bool
theorem t136 {a b : D} (h_a : HasB 300000000 (.st [.int .i64, .int .i64]) a) (h_b : HasB 300000000 (.st [.int .i64, .int .i64]) b) : ∃ d, (HasB 300000000 (.bool)) d ∧ Holds EE 136 [a, b] d := by
 suffices h : ∃ d, (HasB 300000000 (.bool)) d ∧ Goes EE (Holds EE) u136Ts 0 [a, b] d by
  obtain ⟨d, hd, hg⟩ := h; exact ⟨d, hd, u136 rfl hg⟩
 obtain ⟨_, rfl, _, _, rfl, ⟨a_0, rfl⟩, _, _, rfl, ⟨a_1, rfl⟩, rfl⟩ := h_a
 obtain ⟨_, rfl, _, _, rfl, ⟨b_0, rfl⟩, _, _, rfl, ⟨b_1, rfl⟩, rfl⟩ := h_b
 refine goes_R (R := (HasB 300000000 (.bool))) ?_
 show wp _ _ _ u136T0 _
 refine bS (d := .agg [dI (a_0), dI (a_1)]) (sh_chkW rfl) ?_
 refine bS (d := .agg [dI (b_0), dI (b_1)]) (sh_chkW rfl) ?_
 refine bS (d := dI (a_0)) (sh_fld1 rfl rfl) ?_
 refine bS (d := dI (b_0)) (sh_fld1 rfl rfl) ?_
 refine bS sk_lss ?_
 refine iD rfl (fun c0 => ?_) (fun c0 => ?_)
 ·
  exact wr_ret rfl hb_bool
 ·
  refine bS (d := dI (a_0)) (sh_fld1 rfl rfl) ?_
  refine bS (d := dI (b_0)) (sh_fld1 rfl rfl) ?_
  refine bS sk_eql ?_
  refine iD rfl (fun c1 => ?_) (fun c1 => ?_)
  ·
   refine bS (d := dI (a_1)) (sh_fld1 rfl rfl) ?_
   refine bS (d := dI (b_1)) (sh_fld1 rfl rfl) ?_
   refine bS sk_lss ?_
   exact wr_ret rfl hb_bool
  ·
   exact wr_ret rfl hb_bool
theorem t9 {a : D} (h_a : HasB 300000000 zEs a) : ∃ d, (HasB 300000000 (.bool)) d ∧ Holds EE 9 [a] d := by
 suffices h : ∃ d, (HasB 300000000 (.bool)) d ∧ Goes EE (Holds EE) u9Ts 0 [a] d by
  obtain ⟨d, hd, hg⟩ := h; exact ⟨d, hd, u9 rfl hg⟩
 have i_a := isSl_ofB h_a
 have b_a := len_leB h_a
 refine goes_R (R := (HasB 300000000 (.bool))) ?_
 show wp _ _ _ u9T0 _
 refine bS (d := dI ((a.es.length : Nat) : Int)) (sh_len i_a) ?_
 refine bS sk_gtr ?_
 refine iD rfl (fun c0 => ?_) (fun c0 => ?_)
 ·
  exact wr_ret rfl hb_bool
 ·
  refine wr_jump rfl (loop_up (P := fun i1 => i1 ≤ a.es.length → ∃ d, (HasB 300000000 (.bool)) d ∧ Goes EE (Holds EE) u9Ts 1 [a, dI ((i1 : Nat) : Int)] d) (a.es.length) (fun i1 ih1 => ?_) 0 (by omega))
  intro hn1
  refine goes_R (R := (HasB 300000000 (.bool))) ?_
  show wp _ _ _ u9T1 _
  refine bS (d := dI ((a.es.length : Nat) : Int)) (sh_len i_a) ?_
  refine bS sk_lss ?_
  refine iD rfl (fun c2 => ?_) (fun c2 => ?_)
  ·
   obtain ⟨x3, e_x3⟩ := get_at (d := a) (s := ((i1 : Nat) : Int)) (by omega) (by omega)
   obtain ⟨_, rfl, _, _, rfl, ⟨x3_0, rfl⟩, x3_1, _, rfl, h_x3_1, _, _, rfl, ⟨x3_2, rfl⟩, x3_3, _, rfl, h_x3_3, _, _, rfl, ⟨x3_4, rfl⟩, x3_5, _, rfl, h_x3_5, x3_6, _, rfl, h_x3_6, x3_7, _, rfl, h_x3_7, rfl⟩ := (elem_ofB h_a e_x3)
   have i_x3_1 := isSl_ofB h_x3_1
   have b_x3_1 := len_leB h_x3_1
   have i_x3_3 := isSl_ofB h_x3_3
   have b_x3_3 := len_leB h_x3_3
   have i_x3_5 := isSl_ofB h_x3_5
   have b_x3_5 := len_leB h_x3_5
   have i_x3_6 := isSl_ofB h_x3_6
   have b_x3_6 := len_leB h_x3_6
   have i_x3_7 := isSl_ofB h_x3_7
   have b_x3_7 := len_leB h_x3_7
   refine bS (d := dB (true)) (si_inr (by omega) e_x3) ?_
   refine bS (d := x3_1) (si_elemP (off := 1) i_a (by omega) e_x3 rfl i_x3_1.one (by decide)) ?_
   refine bS (d := dI ((x3_1.es.length : Nat) : Int)) (sh_len i_x3_1) ?_
   refine bS sk_gtr ?_
   refine iD rfl (fun c4 => ?_) (fun c4 => ?_)
   ·
    exact wr_ret rfl hb_bool
   ·
    refine bS (d := dB (true)) (si_inr (by omega) e_x3) ?_
    refine bS (d := x3_3) (si_elemP (off := 3) i_a (by omega) e_x3 rfl i_x3_3.one (by decide)) ?_
    refine bS (d := dI ((x3_3.es.length : Nat) : Int)) (sh_len i_x3_3) ?_
    refine bS sk_gtr ?_
    refine iD rfl (fun c5 => ?_) (fun c5 => ?_)
    ·
     exact wr_ret rfl hb_bool
    ·
     refine wr_jump rfl (loop_up (P := fun i6 => i6 ≤ x3_3.es.length → ∃ d, (HasB 300000000 (.bool)) d ∧ Goes EE (Holds EE) u9Ts 2 [a, dI ((i1 : Nat) : Int), dI ((i6 : Nat) : Int), x3_3, dI ((x3_3.es.length : Nat) : Int)] d) (x3_3.es.length) (fun i6 ih6 => ?_) 0 (by omega))
     intro hn6
     refine goes_R (R := (HasB 300000000 (.bool))) ?_
     show wp _ _ _ u9T2 _
     refine bS (d := dB (true)) (si_inr (by omega) e_x3) ?_
     refine bS (d := x3_3) (si_elemP (off := 3) i_a (by omega) e_x3 rfl i_x3_3.one (by decide)) ?_
     refine bS (d := dI ((x3_3.es.length : Nat) : Int)) (sh_len i_x3_3) ?_
     refine bS sk_lss ?_
     refine iD rfl (fun c7 => ?_) (fun c7 => ?_)
     ·
      refine bS (d := dB (true)) (si_inr (by omega) e_x3) ?_
      refine bS (d := x3_3) (si_elemP (off := 3) i_a (by omega) e_x3 rfl i_x3_3.one (by decide)) ?_
      obtain ⟨x8, e_x8⟩ := get_at (d := x3_3) (s := ((i6 : Nat) : Int)) (by omega) (by omega)
      have h_x8 := (elem_ofB h_x3_3 e_x8)
      have i_x8 := isSl_ofB h_x8
      have b_x8 := len_leB h_x8
      refine bS (d := dB (true)) (si_inr (by omega) e_x8) ?_
      refine bS (d := x8) (si_elem1 i_x3_3 (by omega) e_x8 i_x8.one) ?_
      refine bS (d := dI ((x8.es.length : Nat) : Int)) (sh_len i_x8) ?_
      refine bS sk_gtr ?_
      refine iD rfl (fun c9 => ?_) (fun c9 => ?_)
      ·
       exact wr_ret rfl hb_bool
      ·
       refine bS (d := dI ((i6 + 1 : Nat) : Int)) (sh_add (cap_bd' (by omega))) ?_
       exact wr_jump rfl (ih6 (by omega) (by omega))
     ·
      refine bS (d := dI ((i1 + 1 : Nat) : Int)) (sh_add (cap_bd' (by omega))) ?_
      exact wr_jump rfl (ih1 (by omega) (by omega))
  ·
   exact wr_ret rfl hb_bool
theorem t111 {a b : D} (h_a : HasB 300000000 zEs a) (h_b : HasB 300000000 (.int .i64) b) : ∃ d, (HasT 300000000 [zE, .bool]) d ∧ Holds EE 111 [a, b] d := by
 suffices h : ∃ d, (HasT 300000000 [zE, .bool]) d ∧ Goes EE (Holds EE) u111Ts 0 [a, b] d by
  obtain ⟨d, hd, hg⟩ := h; exact ⟨d, hd, u111 rfl hg⟩
 have i_a := isSl_ofB h_a
 have b_a := len_leB h_a
 obtain ⟨b, rfl⟩ := h_b
 refine goes_R (R := (HasT 300000000 [zE, .bool])) ?_
 show wp _ _ _ u111T0 _
 refine bS (d := dI ((a.es.length : Nat) : Int)) (sh_len i_a) ?_
 refine wr_jump rfl (loop_up (P := fun i0 => i0 ≤ a.es.length → ∃ d, (HasT 300000000 [zE, .bool]) d ∧ Goes EE (Holds EE) u111Ts 1 [a, dI (b), dI ((a.es.length : Nat) : Int), dI ((i0 : Nat) : Int)] d) (a.es.length) (fun i0 ih0 => ?_) 0 (by omega))
 intro hn0
 refine goes_R (R := (HasT 300000000 [zE, .bool])) ?_
 show wp _ _ _ u111T1 _
 refine bS sk_lss ?_
 refine iD rfl (fun c1 => ?_) (fun c1 => ?_)
 ·
  obtain ⟨x2, e_x2⟩ := get_at (d := a) (s := ((i0 : Nat) : Int)) (by omega) (by omega)
  obtain ⟨_, rfl, _, _, rfl, ⟨x2_0, rfl⟩, x2_1, _, rfl, h_x2_1, _, _, rfl, ⟨x2_2, rfl⟩, x2_3, _, rfl, h_x2_3, _, _, rfl, ⟨x2_4, rfl⟩, x2_5, _, rfl, h_x2_5, x2_6, _, rfl, h_x2_6, x2_7, _, rfl, h_x2_7, rfl⟩ := (elem_ofB h_a e_x2)
  have i_x2_1 := isSl_ofB h_x2_1
  have b_x2_1 := len_leB h_x2_1
  have i_x2_3 := isSl_ofB h_x2_3
  have b_x2_3 := len_leB h_x2_3
  have i_x2_5 := isSl_ofB h_x2_5
  have b_x2_5 := len_leB h_x2_5
  have i_x2_6 := isSl_ofB h_x2_6
  have b_x2_6 := len_leB h_x2_6
  have i_x2_7 := isSl_ofB h_x2_7
  have b_x2_7 := len_leB h_x2_7
  refine bS (d := dB (true)) (si_inr (by omega) e_x2) ?_
  refine bS (d := dI (x2_0)) (si_elemP (off := 0) i_a (by omega) e_x2 rfl rfl (by decide)) ?_
  refine bS sk_eql ?_
  refine iD rfl (fun c3 => ?_) (fun c3 => ?_)
  ·
   refine bS (d := dB (true)) (si_inr (by omega) e_x2) ?_
   refine bS (d := .agg [dI (x2_0), x2_1, dI (x2_2), x2_3, dI (x2_4), x2_5, x2_6, x2_7]) (si_elemW i_a (by omega) e_x2 rfl) ?_
   refine bS (d := .agg [dI (x2_0), x2_1, dI (x2_2), x2_3, dI (x2_4), x2_5, x2_6, x2_7]) (sh_chkW rfl) ?_
   exact wr_ret rfl ⟨_, rfl, (hbs_cons (hb_st (hbs_cons hb_int (hbs_cons h_x2_1 (hbs_cons hb_int (hbs_cons h_x2_3 (hbs_cons hb_int (hbs_cons h_x2_5 (hbs_cons h_x2_6 (hbs_cons h_x2_7 hbs_nil))))))))) (hbs_cons hb_bool hbs_nil))⟩
  ·
   refine bS (d := dI ((i0 + 1 : Nat) : Int)) (sh_add (cap_bd' (by omega))) ?_
   exact wr_jump rfl (ih0 (by omega) (by omega))
 ·
  exact wr_ret rfl ⟨_, rfl, (hbs_cons (hb_st (hbs_cons hb_int (hbs_cons hb_nil (hbs_cons hb_int (hbs_cons hb_nil (hbs_cons hb_int (hbs_cons hb_nil (hbs_cons hb_nil (hbs_cons hb_nil hbs_nil))))))))) (hbs_cons hb_bool hbs_nil))⟩
theorem t72 {a b : D} (h_a : HasB 300000000 zEs a) (h_b : HasB 300000000 (.int .i64) b) : ∃ d, (HasB 300000000 (.bool)) d ∧ Holds EE 72 [a, b] d := by
 suffices h : ∃ d, (HasB 300000000 (.bool)) d ∧ Goes EE (Holds EE) u72Ts 0 [a, b] d by
  obtain ⟨d, hd, hg⟩ := h; exact ⟨d, hd, u72 rfl hg⟩
 have i_a := isSl_ofB h_a
 have b_a := len_leB h_a
 obtain ⟨b, rfl⟩ := h_b
 refine goes_R (R := (HasB 300000000 (.bool))) ?_
 show wp _ _ _ u72T0 _
 obtain ⟨_, ⟨_, rfl, _, _, rfl, ⟨_, rfl, _, _, rfl, ⟨r0_0_0, rfl⟩, r0_0_1, _, rfl, h_r0_0_1, _, _, rfl, ⟨r0_0_2, rfl⟩, r0_0_3, _, rfl, h_r0_0_3, _, _, rfl, ⟨r0_0_4, rfl⟩, r0_0_5, _, rfl, h_r0_0_5, r0_0_6, _, rfl, h_r0_0_6, r0_0_7, _, rfl, h_r0_0_7, rfl⟩, _, _, rfl, ⟨r0_1, rfl⟩, rfl⟩, k_r0⟩ := t111 h_a hb_int
 have i_r0_0_1 := isSl_ofB h_r0_0_1
 have b_r0_0_1 := len_leB h_r0_0_1
 have i_r0_0_3 := isSl_ofB h_r0_0_3
 have b_r0_0_3 := len_leB h_r0_0_3
 have i_r0_0_5 := isSl_ofB h_r0_0_5
 have b_r0_0_5 := len_leB h_r0_0_5
 have i_r0_0_6 := isSl_ofB h_r0_0_6
 have b_r0_0_6 := len_leB h_r0_0_6
 have i_r0_0_7 := isSl_ofB h_r0_0_7
 have b_r0_0_7 := len_leB h_r0_0_7
 refine cS (d := .tup [.agg [dI (r0_0_0), r0_0_1, dI (r0_0_2), r0_0_3, dI (r0_0_4), r0_0_5, r0_0_6, r0_0_7], dB (r0_1)]) k_r0 ?_
 refine bS (d := .agg [dI (r0_0_0), r0_0_1, dI (r0_0_2), r0_0_3, dI (r0_0_4), r0_0_5, r0_0_6, r0_0_7]) (te_ext rfl) ?_
 refine bS (d := dB (r0_1)) (te_ext rfl) ?_
 refine bS (d := .agg [dI (r0_0_0), r0_0_1, dI (r0_0_2), r0_0_3, dI (r0_0_4), r0_0_5, r0_0_6, r0_0_7]) (sh_chkW rfl) ?_
 exact wr_ret rfl hb_bool
theorem t133 {a b : D} (h_a : HasB 300000000 zV a) (h_b : HasB 300000000 zL b) : ∃ d, (HasB 300000000 (.int .i64)) d ∧ Holds EE 133 [a, b] d := by
 suffices h : ∃ d, (HasB 300000000 (.int .i64)) d ∧ Goes EE (Holds EE) u133Ts 0 [a, b] d by
  obtain ⟨d, hd, hg⟩ := h; exact ⟨d, hd, u133 rfl hg⟩
 obtain ⟨_, rfl, a_0, _, rfl, h_a_0, rfl⟩ := h_a
 have i_a_0 := isSl_ofB h_a_0
 have b_a_0 := len_leB h_a_0
 have i_b := isSl_ofB h_b
 have b_b := len_leB h_b
 refine goes_R (R := (HasB 300000000 (.int .i64))) ?_
 show wp _ _ _ u133T0 _
 refine bS (d := .agg [a_0]) (sh_chkW rfl) ?_
 refine bS (d := dI ((b.es.length : Nat) : Int)) (sh_len i_b) ?_
 refine bS sk_eql ?_
 refine iD rfl (fun c0 => ?_) (fun c0 => ?_)
 ·
  exact wr_ret rfl hb_int
 ·
  refine bS (d := dI ((b.es.length : Nat) : Int)) (sh_len i_b) ?_
  refine bS sk_gtr ?_
  refine iD rfl (fun c1 => ?_) (fun c1 => ?_)
  ·
   exact wr_ret rfl hb_int
  ·
   refine bS (d := dI ((b.es.length : Nat) : Int)) (sh_len i_b) ?_
   refine wr_jump rfl (loop_up (P := fun i2 => i2 ≤ b.es.length → ∃ d, (HasB 300000000 (.int .i64)) d ∧ Goes EE (Holds EE) u133Ts 1 [b, dI ((b.es.length : Nat) : Int), dI ((i2 : Nat) : Int), .agg [a_0]] d) (b.es.length) (fun i2 ih2 => ?_) 0 (by omega))
   intro hn2
   refine goes_R (R := (HasB 300000000 (.int .i64))) ?_
   show wp _ _ _ u133T1 _
   refine bS sk_lss ?_
   refine iD rfl (fun c3 => ?_) (fun c3 => ?_)
   ·
    obtain ⟨x4, e_x4⟩ := get_at (d := b) (s := ((i2 : Nat) : Int)) (by omega) (by omega)
    obtain ⟨x4, rfl⟩ := (elem_ofB h_b e_x4)
    refine bS (d := dB (true)) (si_inr (by omega) e_x4) ?_
    refine bS (d := dI (x4)) (si_elem1 i_b (by omega) e_x4 rfl) ?_
    obtain ⟨_, ⟨r5, rfl⟩, k_r5⟩ := t105 (hb_st (hbs_cons h_a_0 hbs_nil)) hb_int
    refine cS (d := dB (r5)) k_r5 ?_
    refine bS (d := dB (!(r5))) sh_not ?_
    refine wp_iteC rfl (fun c6 => ?_) (fun c6 => ?_)
    ·
     clear c6
     exact wr_ret rfl hb_int
    ·
     clear c6
     refine bS (d := dI ((i2 + 1 : Nat) : Int)) (sh_add (cap_bd' (by omega))) ?_
     exact wr_jump rfl (ih2 (by omega) (by omega))
   ·
    exact wr_ret rfl hb_int
theorem t131 {a b : D} (h_a : HasB 300000000 zL a) (h_b : HasB 300000000 (.int .i64) b) (hp : a.es.length < 300000000) : ∃ d, (fun d => HasB 300000000 zL d ∧ d.es.length ≤ a.es.length + 1) d ∧ Holds EE 131 [a, b] d := by
 suffices h : ∃ d, (fun d => HasB 300000000 zL d ∧ d.es.length ≤ a.es.length + 1) d ∧ Goes EE (Holds EE) u131Ts 0 [a, b] d by
  obtain ⟨d, hd, hg⟩ := h; exact ⟨d, hd, u131 rfl hg⟩
 have i_a := isSl_ofB h_a
 have b_a := len_leB h_a
 obtain ⟨b, rfl⟩ := h_b
 refine goes_R (R := (fun d => HasB 300000000 zL d ∧ d.es.length ≤ a.es.length + 1)) ?_
 show wp _ _ _ u131T0 _
 refine wr_jump rfl (loop_up (P := fun i0 => i0 ≤ a.es.length → ∀ v0_2 : D, HasB 300000000 zL v0_2 → v0_2.es.length ≤ i0 → ∃ d, (fun d => HasB 300000000 zL d ∧ d.es.length ≤ a.es.length + 1) d ∧ Goes EE (Holds EE) u131Ts 1 [a, dI (b), v0_2, dI ((i0 : Nat) : Int)] d) (a.es.length) (fun i0 ih0 => ?_) 0 (by omega) .nil hb_nil (by simp [D.es]))
 intro hn0 v0_2 h_v0_2 z_v0_2
 have i_v0_2 := isSl_ofB h_v0_2
 have b_v0_2 := len_leB h_v0_2
 refine goes_R (R := (fun d => HasB 300000000 zL d ∧ d.es.length ≤ a.es.length + 1)) ?_
 show wp _ _ _ u131T1 _
 refine bS (d := dI ((a.es.length : Nat) : Int)) (sh_len i_a) ?_
 refine bS sk_lss ?_
 refine iD rfl (fun c1 => ?_) (fun c1 => ?_)
 ·
  obtain ⟨x2, e_x2⟩ := get_at (d := a) (s := ((i0 : Nat) : Int)) (by omega) (by omega)
  obtain ⟨x2, rfl⟩ := (elem_ofB h_a e_x2)
  refine bS (d := dB (true)) (si_inr (by omega) e_x2) ?_
  refine bS (d := dI (x2)) (si_elem1 i_a (by omega) e_x2 rfl) ?_
  refine bS sk_lss ?_
  refine iD rfl (fun c3 => ?_) (fun c3 => ?_)
  ·
   refine bS (d := dB (true)) (si_inr (by omega) e_x2) ?_
   refine bS (d := dI (x2)) (si_elem1 i_a (by omega) e_x2 rfl) ?_
   refine bS (d := dI (x2)) (sh_chk1 rfl) ?_
   obtain ⟨y4, ev_y4, l_y4, h_y4, n_y4⟩ := vs_lit (E := EE) (B := 300000000) (el := 3) (sz := 1) (xs := [dI (x2)]) (e := .int .i64) rfl (all_c hb_int all_n) rfl rfl
   simp only [List.length_cons, List.length_nil] at l_y4
   have i_y4 := isSl_ofB h_y4
   have b_y4 := len_leB h_y4
   refine bS (d := y4) ev_y4 ?_
   obtain ⟨y5, ev_y5, l_y5, h_y5⟩ := vs_app (E := EE) (el := 3) (sz := 1) (bytes := 8) h_v0_2 h_y4 (by decide) (by omega)
   have i_y5 := isSl_ofB h_y5
   have b_y5 := len_leB h_y5
   refine bS (d := y5) ev_y5 ?_
   refine bS (d := dI ((i0 + 1 : Nat) : Int)) (sh_add (cap_bd' (by omega))) ?_
   exact wr_jump rfl (ih0 (by omega) (by omega) y5 h_y5 (by omega))
  ·
   refine bS (d := dI (b)) (sh_chk1 rfl) ?_
   obtain ⟨y4, ev_y4, l_y4, h_y4, n_y4⟩ := vs_lit (E := EE) (B := 300000000) (el := 3) (sz := 1) (xs := [dI (b)]) (e := .int .i64) rfl (all_c hb_int all_n) rfl rfl
   simp only [List.length_cons, List.length_nil] at l_y4
   have i_y4 := isSl_ofB h_y4
   have b_y4 := len_leB h_y4
   refine bS (d := y4) ev_y4 ?_
   obtain ⟨y5, ev_y5, l_y5, h_y5⟩ := vs_app (E := EE) (el := 3) (sz := 1) (bytes := 8) h_v0_2 h_y4 (by decide) (by omega)
   have i_y5 := isSl_ofB h_y5
   have b_y5 := len_leB h_y5
   refine bS (d := y5) ev_y5 ?_
   refine bS (d := dI ((a.es.length : Nat) : Int)) (sh_len i_a) ?_
   refine bS sk_lss ?_
   refine iD rfl (fun c6 => ?_) (fun c6 => ?_)
   ·
    refine bS (d := dB (true)) (si_inr (by omega) e_x2) ?_
    refine bS (d := dI (x2)) (si_elem1 i_a (by omega) e_x2 rfl) ?_
    refine bS sk_eql ?_
    refine iD rfl (fun c7 => ?_) (fun c7 => ?_)
    ·
     refine bS (d := dI ((i0 + 1 : Nat) : Int)) (sh_add (cap_bd' (by omega))) ?_
     obtain ⟨y8, ev_y8, l_y8, h_y8⟩ := vs_lo (E := EE) (j := ((i0 + 1 : Nat) : Int)) h_a (by omega) (by omega)
     have i_y8 := isSl_ofB h_y8
     have b_y8 := len_leB h_y8
     refine bS (d := y8) ev_y8 ?_
     obtain ⟨y9, ev_y9, l_y9, h_y9⟩ := vs_app (E := EE) (el := 3) (sz := 1) (bytes := 8) h_y5 h_y8 (by decide) (by omega)
     have i_y9 := isSl_ofB h_y9
     have b_y9 := len_leB h_y9
     refine bS (d := y9) ev_y9 ?_
     exact wr_ret (ds := [y9]) rfl ⟨h_y9, by show y9.es.length ≤ _; omega⟩
    ·
     obtain ⟨y8, ev_y8, l_y8, h_y8⟩ := vs_lo (E := EE) (j := ((i0 : Nat) : Int)) h_a (by omega) (by omega)
     have i_y8 := isSl_ofB h_y8
     have b_y8 := len_leB h_y8
     refine bS (d := y8) ev_y8 ?_
     obtain ⟨y9, ev_y9, l_y9, h_y9⟩ := vs_app (E := EE) (el := 3) (sz := 1) (bytes := 8) h_y5 h_y8 (by decide) (by omega)
     have i_y9 := isSl_ofB h_y9
     have b_y9 := len_leB h_y9
     refine bS (d := y9) ev_y9 ?_
     exact wr_ret (ds := [y9]) rfl ⟨h_y9, by show y9.es.length ≤ _; omega⟩
   ·
    obtain ⟨y7, ev_y7, l_y7, h_y7⟩ := vs_lo (E := EE) (j := ((i0 : Nat) : Int)) h_a (by omega) (by omega)
    have i_y7 := isSl_ofB h_y7
    have b_y7 := len_leB h_y7
    refine bS (d := y7) ev_y7 ?_
    obtain ⟨y8, ev_y8, l_y8, h_y8⟩ := vs_app (E := EE) (el := 3) (sz := 1) (bytes := 8) h_y5 h_y7 (by decide) (by omega)
    have i_y8 := isSl_ofB h_y8
    have b_y8 := len_leB h_y8
    refine bS (d := y8) ev_y8 ?_
    exact wr_ret (ds := [y8]) rfl ⟨h_y8, by show y8.es.length ≤ _; omega⟩
 ·
  refine bS (d := dI (b)) (sh_chk1 rfl) ?_
  obtain ⟨y2, ev_y2, l_y2, h_y2, n_y2⟩ := vs_lit (E := EE) (B := 300000000) (el := 3) (sz := 1) (xs := [dI (b)]) (e := .int .i64) rfl (all_c hb_int all_n) rfl rfl
  simp only [List.length_cons, List.length_nil] at l_y2
  have i_y2 := isSl_ofB h_y2
  have b_y2 := len_leB h_y2
  refine bS (d := y2) ev_y2 ?_
  obtain ⟨y3, ev_y3, l_y3, h_y3⟩ := vs_app (E := EE) (el := 3) (sz := 1) (bytes := 8) h_v0_2 h_y2 (by decide) (by omega)
  have i_y3 := isSl_ofB h_y3
  have b_y3 := len_leB h_y3
  refine bS (d := y3) ev_y3 ?_
  refine bS (d := dI ((a.es.length : Nat) : Int)) (sh_len i_a) ?_
  refine bS sk_lss ?_
  refine iD rfl (fun c4 => ?_) (fun c4 => ?_)
  ·
   obtain ⟨x5, e_x5⟩ := get_at (d := a) (s := ((i0 : Nat) : Int)) (by omega) (by omega)
   obtain ⟨x5, rfl⟩ := (elem_ofB h_a e_x5)
   refine bS (d := dB (true)) (si_inr (by omega) e_x5) ?_
   refine bS (d := dI (x5)) (si_elem1 i_a (by omega) e_x5 rfl) ?_
   refine bS sk_eql ?_
   refine iD rfl (fun c6 => ?_) (fun c6 => ?_)
   ·
    refine bS (d := dI ((i0 + 1 : Nat) : Int)) (sh_add (cap_bd' (by omega))) ?_
    obtain ⟨y7, ev_y7, l_y7, h_y7⟩ := vs_lo (E := EE) (j := ((i0 + 1 : Nat) : Int)) h_a (by omega) (by omega)
    have i_y7 := isSl_ofB h_y7
    have b_y7 := len_leB h_y7
    refine bS (d := y7) ev_y7 ?_
    obtain ⟨y8, ev_y8, l_y8, h_y8⟩ := vs_app (E := EE) (el := 3) (sz := 1) (bytes := 8) h_y3 h_y7 (by decide) (by omega)
    have i_y8 := isSl_ofB h_y8
    have b_y8 := len_leB h_y8
    refine bS (d := y8) ev_y8 ?_
    exact wr_ret (ds := [y8]) rfl ⟨h_y8, by show y8.es.length ≤ _; omega⟩
   ·
    obtain ⟨y7, ev_y7, l_y7, h_y7⟩ := vs_lo (E := EE) (j := ((i0 : Nat) : Int)) h_a (by omega) (by omega)
    have i_y7 := isSl_ofB h_y7
    have b_y7 := len_leB h_y7
    refine bS (d := y7) ev_y7 ?_
    obtain ⟨y8, ev_y8, l_y8, h_y8⟩ := vs_app (E := EE) (el := 3) (sz := 1) (bytes := 8) h_y3 h_y7 (by decide) (by omega)
    have i_y8 := isSl_ofB h_y8
    have b_y8 := len_leB h_y8
    refine bS (d := y8) ev_y8 ?_
    exact wr_ret (ds := [y8]) rfl ⟨h_y8, by show y8.es.length ≤ _; omega⟩
  ·
   obtain ⟨y5, ev_y5, l_y5, h_y5⟩ := vs_lo (E := EE) (j := ((i0 : Nat) : Int)) h_a (by omega) (by omega)
   have i_y5 := isSl_ofB h_y5
   have b_y5 := len_leB h_y5
   refine bS (d := y5) ev_y5 ?_
   obtain ⟨y6, ev_y6, l_y6, h_y6⟩ := vs_app (E := EE) (el := 3) (sz := 1) (bytes := 8) h_y3 h_y5 (by decide) (by omega)
   have i_y6 := isSl_ofB h_y6
   have b_y6 := len_leB h_y6
   refine bS (d := y6) ev_y6 ?_
   exact wr_ret (ds := [y6]) rfl ⟨h_y6, by show y6.es.length ≤ _; omega⟩
theorem t106 {a : D} (h_a : HasB 300000000 zL a) : ∃ d, (HasB 300000000 zL) d ∧ Holds EE 106 [a] d := by
 suffices h : ∃ d, (HasB 300000000 zL) d ∧ Goes EE (Holds EE) u106Ts 0 [a] d by
  obtain ⟨d, hd, hg⟩ := h; exact ⟨d, hd, u106 rfl hg⟩
 have i_a := isSl_ofB h_a
 have b_a := len_leB h_a
 refine goes_R (R := (HasB 300000000 zL)) ?_
 show wp _ _ _ u106T0 _
 refine bS (d := dI ((a.es.length : Nat) : Int)) (sh_len i_a) ?_
 refine wr_jump rfl (loop_up (P := fun i0 => i0 ≤ a.es.length → ∀ v0_1 : D, HasB 300000000 zL v0_1 → v0_1.es.length ≤ i0 → ∃ d, (HasB 300000000 zL) d ∧ Goes EE (Holds EE) u106Ts 1 [a, v0_1, dI ((a.es.length : Nat) : Int), dI ((i0 : Nat) : Int)] d) (a.es.length) (fun i0 ih0 => ?_) 0 (by omega) .nil hb_nil (by simp [D.es]))
 intro hn0 v0_1 h_v0_1 z_v0_1
 have i_v0_1 := isSl_ofB h_v0_1
 have b_v0_1 := len_leB h_v0_1
 refine goes_R (R := (HasB 300000000 zL)) ?_
 show wp _ _ _ u106T1 _
 refine bS sk_lss ?_
 refine iD rfl (fun c1 => ?_) (fun c1 => ?_)
 ·
  obtain ⟨x2, e_x2⟩ := get_at (d := a) (s := ((i0 : Nat) : Int)) (by omega) (by omega)
  obtain ⟨x2, rfl⟩ := (elem_ofB h_a e_x2)
  refine bS (d := dB (true)) (si_inr (by omega) e_x2) ?_
  refine bS (d := dI (x2)) (si_elem1 i_a (by omega) e_x2 rfl) ?_
  obtain ⟨r3, ⟨h_r3, q_r3⟩, k_r3⟩ := t131 h_v0_1 hb_int (by omega)
  have i_r3 := isSl_ofB h_r3
  have b_r3 := len_leB h_r3
  refine cS (d := r3) k_r3 ?_
  refine bS (d := dI ((i0 + 1 : Nat) : Int)) (sh_add (cap_bd' (by omega))) ?_
  exact wr_jump rfl (ih0 (by omega) (by omega) r3 h_r3 (by omega))
 ·
  exact wr_ret rfl h_v0_1
theorem t69 {a b : D} (h_a : HasB 300000000 zV a) (h_b : HasB 300000000 zR b) : ∃ d, (HasB 300000000 (.int .i64)) d ∧ Holds EE 69 [a, b] d := by
 suffices h : ∃ d, (HasB 300000000 (.int .i64)) d ∧ Goes EE (Holds EE) u69Ts 0 [a, b] d by
  obtain ⟨d, hd, hg⟩ := h; exact ⟨d, hd, u69 rfl hg⟩
 obtain ⟨_, rfl, a_0, _, rfl, h_a_0, rfl⟩ := h_a
 have i_a_0 := isSl_ofB h_a_0
 have b_a_0 := len_leB h_a_0
 obtain ⟨_, rfl, b_0, _, rfl, h_b_0, b_1, _, rfl, h_b_1, b_2, _, rfl, h_b_2, b_3, _, rfl, h_b_3, _, _, rfl, ⟨b_4, rfl⟩, _, _, rfl, ⟨b_5, rfl⟩, rfl⟩ := h_b
 have i_b_0 := isSl_ofB h_b_0
 have b_b_0 := len_leB h_b_0
 have i_b_1 := isSl_ofB h_b_1
 have b_b_1 := len_leB h_b_1
 have i_b_2 := isSl_ofB h_b_2
 have b_b_2 := len_leB h_b_2
 have i_b_3 := isSl_ofB h_b_3
 have b_b_3 := len_leB h_b_3
 refine goes_R (R := (HasB 300000000 (.int .i64))) ?_
 show wp _ _ _ u69T0 _
 refine bS (d := .agg [a_0]) (sh_chkW rfl) ?_
 refine bS (d := .agg [b_0, b_1, b_2, b_3, dB (b_4), dB (b_5)]) (sh_chkW rfl) ?_
 refine bS (d := b_0) (sh_fld1 rfl i_b_0.one) ?_
 refine bS (d := dI ((b_0.es.length : Nat) : Int)) (sh_len i_b_0) ?_
 refine bS sk_eql ?_
 refine iD rfl (fun c0 => ?_) (fun c0 => ?_)
 ·
  exact wr_ret rfl hb_int
 ·
  refine bS (d := b_1) (sh_fld1 rfl i_b_1.one) ?_
  refine bS (d := dI ((b_1.es.length : Nat) : Int)) (sh_len i_b_1) ?_
  refine bS (d := b_0) (sh_fld1 rfl i_b_0.one) ?_
  refine bS (d := dI ((b_0.es.length : Nat) : Int)) (sh_len i_b_0) ?_
  refine bS sk_neq ?_
  refine iD rfl (fun c1 => ?_) (fun c1 => ?_)
  ·
   exact wr_ret rfl hb_int
  ·
   refine bS (d := b_0) (sh_fld1 rfl i_b_0.one) ?_
   refine bS (d := dI ((b_0.es.length : Nat) : Int)) (sh_len i_b_0) ?_
   refine wr_jump rfl (loop_up (P := fun i2 => i2 ≤ b_0.es.length → ∃ d, (HasB 300000000 (.int .i64)) d ∧ Goes EE (Holds EE) u69Ts 1 [dI ((b_0.es.length : Nat) : Int), dI ((i2 : Nat) : Int), .agg [a_0], .agg [b_0, b_1, b_2, b_3, dB (b_4), dB (b_5)]] d) (b_0.es.length) (fun i2 ih2 => ?_) 0 (by omega))
   intro hn2
   refine goes_R (R := (HasB 300000000 (.int .i64))) ?_
   show wp _ _ _ u69T1 _
   refine bS sk_lss ?_
   refine iD rfl (fun c3 => ?_) (fun c3 => ?_)
   ·
    refine bS (d := b_0) (sh_fld1 rfl i_b_0.one) ?_
    obtain ⟨x4, e_x4⟩ := get_at (d := b_0) (s := ((i2 : Nat) : Int)) (by omega) (by omega)
    obtain ⟨x4, rfl⟩ := (elem_ofB h_b_0 e_x4)
    refine bS (d := dB (true)) (si_inr (by omega) e_x4) ?_
    refine bS (d := dI (x4)) (si_elem1 i_b_0 (by omega) e_x4 rfl) ?_
    obtain ⟨_, ⟨r5, rfl⟩, k_r5⟩ := t105 (hb_st (hbs_cons h_a_0 hbs_nil)) hb_int
    refine cS (d := dB (r5)) k_r5 ?_
    refine bS (d := dB (!(r5))) sh_not ?_
    refine wp_iteC rfl (fun c6 => ?_) (fun c6 => ?_)
    ·
     clear c6
     exact wr_ret rfl hb_int
    ·
     clear c6
     refine bS (d := b_1) (sh_fld1 rfl i_b_1.one) ?_
     obtain ⟨x7, e_x7⟩ := get_at (d := b_1) (s := ((i2 : Nat) : Int)) (by omega) (by omega)
     obtain ⟨x7, rfl⟩ := (elem_ofB h_b_1 e_x7)
     refine bS (d := dB (true)) (si_inr (by omega) e_x7) ?_
     refine bS (d := dI (x7)) (si_elem1 i_b_1 (by omega) e_x7 rfl) ?_
     refine bS sk_neq ?_
     refine iD rfl (fun c8 => ?_) (fun c8 => ?_)
     ·
      refine bS (d := b_1) (sh_fld1 rfl i_b_1.one) ?_
      refine bS (d := dB (true)) (si_inr (by omega) e_x7) ?_
      refine bS (d := dI (x7)) (si_elem1 i_b_1 (by omega) e_x7 rfl) ?_
      obtain ⟨_, ⟨r9, rfl⟩, k_r9⟩ := t105 (hb_st (hbs_cons h_a_0 hbs_nil)) hb_int
      refine cS (d := dB (r9)) k_r9 ?_
      refine bS (d := dB (!(r9))) sh_not ?_
      refine wp_iteC rfl (fun c10 => ?_) (fun c10 => ?_)
      ·
       clear c10
       exact wr_ret rfl hb_int
      ·
       clear c10
       refine bS (d := dI ((i2 + 1 : Nat) : Int)) (sh_add (cap_bd' (by omega))) ?_
       exact wr_jump rfl (ih2 (by omega) (by omega))
     ·
      refine bS (d := dI ((i2 + 1 : Nat) : Int)) (sh_add (cap_bd' (by omega))) ?_
      exact wr_jump rfl (ih2 (by omega) (by omega))
   ·
    refine bS (d := b_0) (sh_fld1 rfl i_b_0.one) ?_
    obtain ⟨r4, h_r4, k_r4⟩ := t106 h_b_0
    have i_r4 := isSl_ofB h_r4
    have b_r4 := len_leB h_r4
    refine cS (d := r4) k_r4 ?_
    refine bS (d := dI ((r4.es.length : Nat) : Int)) (sh_len i_r4) ?_
    refine bS (d := b_0) (sh_fld1 rfl i_b_0.one) ?_
    refine bS (d := dI ((b_0.es.length : Nat) : Int)) (sh_len i_b_0) ?_
    refine bS sk_neq ?_
    refine iD rfl (fun c5 => ?_) (fun c5 => ?_)
    ·
     exact wr_ret rfl hb_int
    ·
     refine bS (d := b_2) (sh_fld1 rfl i_b_2.one) ?_
     refine bS (d := dI ((b_2.es.length : Nat) : Int)) (sh_len i_b_2) ?_
     refine bS sk_gtr ?_
     refine iD rfl (fun c6 => ?_) (fun c6 => ?_)
     ·
      exact wr_ret rfl hb_int
     ·
      refine bS (d := b_3) (sh_fld1 rfl i_b_3.one) ?_
      refine bS (d := dI ((b_3.es.length : Nat) : Int)) (sh_len i_b_3) ?_
      refine bS sk_gtr ?_
      refine iD rfl (fun c7 => ?_) (fun c7 => ?_)
      ·
       exact wr_ret rfl hb_int
      ·
       exact wr_ret rfl hb_int
theorem t31 {a : D} (h_a : HasB 300000000 zG a) : ∃ d, (HasB 300000000 (.int .i64)) d ∧ Holds EE 31 [a] d := by
 suffices h : ∃ d, (HasB 300000000 (.int .i64)) d ∧ Goes EE (Holds EE) u31Ts 0 [a] d by
  obtain ⟨d, hd, hg⟩ := h; exact ⟨d, hd, u31 rfl hg⟩
 obtain ⟨_, rfl, a_0, _, rfl, h_a_0, _, _, rfl, ⟨a_1, rfl, hs_a_1⟩, a_2, _, rfl, h_a_2, a_3, _, rfl, h_a_3, a_4, _, rfl, h_a_4, _, _, rfl, ⟨a_5, rfl⟩, a_6, _, rfl, h_a_6, a_7, _, rfl, h_a_7, a_8, _, rfl, h_a_8, rfl⟩ := h_a
 have i_a_0 := isSl_ofB h_a_0
 have b_a_0 := len_leB h_a_0
 have i_a_2 := isSl_ofB h_a_2
 have b_a_2 := len_leB h_a_2
 have i_a_3 := isSl_ofB h_a_3
 have b_a_3 := len_leB h_a_3
 have i_a_4 := isSl_ofB h_a_4
 have b_a_4 := len_leB h_a_4
 have i_a_6 := isSl_ofB h_a_6
 have b_a_6 := len_leB h_a_6
 have i_a_7 := isSl_ofB h_a_7
 have b_a_7 := len_leB h_a_7
 have i_a_8 := isSl_ofB h_a_8
 have b_a_8 := len_leB h_a_8
 refine goes_R (R := (HasB 300000000 (.int .i64))) ?_
 show wp _ _ _ u31T0 _
 refine bS (d := .agg [a_0, .leaf (.string a_1), a_2, a_3, a_4, dI (a_5), a_6, a_7, a_8]) (sh_chkW rfl) ?_
 refine bS (d := a_4) (sh_fld1 rfl i_a_4.one) ?_
 refine bS (d := dI ((a_4.es.length : Nat) : Int)) (sh_len i_a_4) ?_
 refine bS sk_gtr ?_
 refine iD rfl (fun c0 => ?_) (fun c0 => ?_)
 ·
  exact wr_ret rfl hb_int
 ·
  refine wr_jump rfl (loop_up (P := fun i1 => i1 ≤ a_4.es.length → ∃ d, (HasB 300000000 (.int .i64)) d ∧ Goes EE (Holds EE) u31Ts 1 [dI ((i1 : Nat) : Int), .agg [a_0, .leaf (.string a_1), a_2, a_3, a_4, dI (a_5), a_6, a_7, a_8]] d) (a_4.es.length) (fun i1 ih1 => ?_) 0 (by omega))
  intro hn1
  refine goes_R (R := (HasB 300000000 (.int .i64))) ?_
  show wp _ _ _ u31T1 _
  refine bS (d := a_4) (sh_fld1 rfl i_a_4.one) ?_
  refine bS (d := dI ((a_4.es.length : Nat) : Int)) (sh_len i_a_4) ?_
  refine bS sk_lss ?_
  refine iD rfl (fun c2 => ?_) (fun c2 => ?_)
  ·
   refine bS (d := .agg [a_0]) (sh_fldA rfl) ?_
   refine bS (d := a_4) (sh_fld1 rfl i_a_4.one) ?_
   obtain ⟨x3, e_x3⟩ := get_at (d := a_4) (s := ((i1 : Nat) : Int)) (by omega) (by omega)
   obtain ⟨_, rfl, x3_0, _, rfl, h_x3_0, x3_1, _, rfl, h_x3_1, x3_2, _, rfl, h_x3_2, x3_3, _, rfl, h_x3_3, _, _, rfl, ⟨x3_4, rfl⟩, _, _, rfl, ⟨x3_5, rfl⟩, rfl⟩ := (elem_ofB h_a_4 e_x3)
   have i_x3_0 := isSl_ofB h_x3_0
   have b_x3_0 := len_leB h_x3_0
   have i_x3_1 := isSl_ofB h_x3_1
   have b_x3_1 := len_leB h_x3_1
   have i_x3_2 := isSl_ofB h_x3_2
   have b_x3_2 := len_leB h_x3_2
   have i_x3_3 := isSl_ofB h_x3_3
   have b_x3_3 := len_leB h_x3_3
   refine bS (d := dB (true)) (si_inr (by omega) e_x3) ?_
   refine bS (d := .agg [x3_0, x3_1, x3_2, x3_3, dB (x3_4), dB (x3_5)]) (si_elemW i_a_4 (by omega) e_x3 rfl) ?_
   obtain ⟨_, ⟨r4, rfl⟩, k_r4⟩ := t69 (hb_st (hbs_cons h_a_0 hbs_nil)) (hb_st (hbs_cons h_x3_0 (hbs_cons h_x3_1 (hbs_cons h_x3_2 (hbs_cons h_x3_3 (hbs_cons hb_bool (hbs_cons hb_bool hbs_nil)))))))
   refine cS (d := dI (r4)) k_r4 ?_
   refine bS sk_neq ?_
   refine iD rfl (fun c5 => ?_) (fun c5 => ?_)
   ·
    exact wr_ret rfl hb_int
   ·
    refine bS (d := dI ((i1 + 1 : Nat) : Int)) (sh_add (cap_bd' (by omega))) ?_
    exact wr_jump rfl (ih1 (by omega) (by omega))
  ·
   exact wr_ret rfl hb_int
end Go.Proofs.YtbdamohgaleajaaGreatDoor
