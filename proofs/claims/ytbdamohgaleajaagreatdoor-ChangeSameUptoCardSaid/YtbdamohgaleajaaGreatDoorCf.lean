/- Functions that always give something. Conditions: none. -/
import Derived.Test.YtbdamohgaleajaaGreatDoorCe
import Derived.Test.YtbdamohgaleajaaGreatDoorUv
namespace Go.Proofs.YtbdamohgaleajaaGreatDoor
open Go Go.Am Go.Proofs
attribute [local irreducible] Go.Am.wp Go.Am.TOp.eval
theorem t79 {a b : D} (h_a : HasB 300000000 zEs a) (h_b : HasB 300000000 (.int .i64) b) (hp : a.es.length < 300000000) : ∃ d, (HasB 300000000 zL) d ∧ Holds EE 79 [a, b] d := by
 suffices h : ∃ d, (HasB 300000000 zL) d ∧ Goes EE (Holds EE) u79Ts 0 [a, b] d by
  obtain ⟨d, hd, hg⟩ := h; exact ⟨d, hd, u79 rfl hg⟩
 have i_a := isSl_ofB h_a
 have b_a := len_leB h_a
 obtain ⟨b, rfl⟩ := h_b
 refine goes_R (R := (HasB 300000000 zL)) ?_
 show wp _ _ _ u79T0 _
 obtain ⟨y0, ev_y0, l_y0, h_y0, n_y0⟩ := vs_lit (E := EE) (B := 300000000) (el := 3) (sz := 1) (xs := []) (e := .int .i64) rfl all_n rfl rfl
 simp only [List.length_cons, List.length_nil] at l_y0
 have i_y0 := isSl_ofB h_y0
 have b_y0 := len_leB h_y0
 refine bS (d := y0) ev_y0 ?_
 obtain ⟨_, ⟨r1, rfl, pa_r1, pb_r1⟩, k_r1⟩ := t78 (a := a) (b := dI (b)) h_a hb_int
 refine cS (d := dI (r1)) k_r1 ?_
 refine wr_jump rfl (loop_up (P := fun (i2 : Nat) => ∀ v2 : D, HasB 300000000 zL v2 → i2 ≤ v2.es.length → ∀ j2 : Int, -1 ≤ j2 → j2 < (a.es.length : Int) → ∃ d, (HasB 300000000 zL) d ∧ Goes EE (Holds EE) u79Ts 1 [a, v2, dI (j2)] d) (300000000) (fun i2 ih2 => ?_) 0 _ h_y0 (by omega) (r1) (by omega) (by omega))
 intro v2 h_v2 z_v2 j2 hj2 hk2
 have i_v2 := isSl_ofB h_v2
 have b_v2 := len_leB h_v2
 refine goes_R (R := (HasB 300000000 zL)) ?_
 show wp _ _ _ u79T1 _
 refine bS sk_geq ?_
 refine iD rfl (fun c3 => ?_) (fun c3 => ?_)
 ·
  refine bS (d := dI ((v2.es.length : Nat) : Int)) (sh_len i_v2) ?_
  refine bS (d := dI ((a.es.length : Nat) : Int)) (sh_len i_a) ?_
  refine bS sk_leq ?_
  refine iD rfl (fun c4 => ?_) (fun c4 => ?_)
  ·
   obtain ⟨x5, e_x5⟩ := get_at (d := a) (s := (j2)) (by omega) (by omega)
   obtain ⟨_, rfl, _, _, rfl, ⟨x5_0, rfl⟩, x5_1, _, rfl, h_x5_1, _, _, rfl, ⟨x5_2, rfl⟩, x5_3, _, rfl, h_x5_3, _, _, rfl, ⟨x5_4, rfl⟩, x5_5, _, rfl, h_x5_5, x5_6, _, rfl, h_x5_6, x5_7, _, rfl, h_x5_7, rfl⟩ := (elem_ofB h_a e_x5)
   have i_x5_1 := isSl_ofB h_x5_1
   have b_x5_1 := len_leB h_x5_1
   have i_x5_3 := isSl_ofB h_x5_3
   have b_x5_3 := len_leB h_x5_3
   have i_x5_5 := isSl_ofB h_x5_5
   have b_x5_5 := len_leB h_x5_5
   have i_x5_6 := isSl_ofB h_x5_6
   have b_x5_6 := len_leB h_x5_6
   have i_x5_7 := isSl_ofB h_x5_7
   have b_x5_7 := len_leB h_x5_7
   refine bS (d := dB (true)) (si_inr (by omega) e_x5) ?_
   refine bS (d := dI (x5_0)) (si_elemP (off := 0) i_a (by omega) e_x5 rfl rfl (by decide)) ?_
   refine bS (d := dI (x5_0)) (sh_chk1 rfl) ?_
   obtain ⟨y6, ev_y6, l_y6, h_y6, n_y6⟩ := vs_lit (E := EE) (B := 300000000) (el := 3) (sz := 1) (xs := [dI (x5_0)]) (e := .int .i64) rfl (all_c hb_int all_n) rfl rfl
   simp only [List.length_cons, List.length_nil] at l_y6
   have i_y6 := isSl_ofB h_y6
   have b_y6 := len_leB h_y6
   refine bS (d := y6) ev_y6 ?_
   obtain ⟨y7, ev_y7, l_y7, h_y7⟩ := vs_app (E := EE) (el := 3) (sz := 1) (bytes := 8) h_v2 h_y6 (by decide) (by omega)
   have i_y7 := isSl_ofB h_y7
   have b_y7 := len_leB h_y7
   refine bS (d := y7) ev_y7 ?_
   refine bS (d := dB (true)) (si_inr (by omega) e_x5) ?_
   refine bS (d := dI (x5_4)) (si_elemP (off := 4) i_a (by omega) e_x5 rfl rfl (by decide)) ?_
   refine bS sk_eql ?_
   refine iD rfl (fun c8 => ?_) (fun c8 => ?_)
   ·
    exact wr_ret rfl h_y7
   ·
    refine bS (d := dB (true)) (si_inr (by omega) e_x5) ?_
    refine bS (d := dI (x5_4)) (si_elemP (off := 4) i_a (by omega) e_x5 rfl rfl (by decide)) ?_
    obtain ⟨_, ⟨r9, rfl, pa_r9, pb_r9⟩, k_r9⟩ := t78 (a := a) (b := dI (x5_4)) h_a hb_int
    refine cS (d := dI (r9)) k_r9 ?_
    exact wr_jump rfl (ih2 (by omega) y7 h_y7 (by omega) (r9) (by omega) (by omega))
  ·
   exact wr_ret rfl h_v2
 ·
  exact wr_ret rfl h_v2
theorem t35 {a : D} (h_a : HasB 300000000 zEs a) (hp : a.es.length < 300000000) : ∃ d, (HasB 300000000 (.int .i64)) d ∧ Holds EE 35 [a] d := by
 suffices h : ∃ d, (HasB 300000000 (.int .i64)) d ∧ Goes EE (Holds EE) u35Ts 0 [a] d by
  obtain ⟨d, hd, hg⟩ := h; exact ⟨d, hd, u35 rfl hg⟩
 have i_a := isSl_ofB h_a
 have b_a := len_leB h_a
 refine goes_R (R := (HasB 300000000 (.int .i64))) ?_
 show wp _ _ _ u35T0 _
 refine wr_jump rfl (loop_up (P := fun i0 => i0 ≤ a.es.length → ∃ d, (HasB 300000000 (.int .i64)) d ∧ Goes EE (Holds EE) u35Ts 1 [a, dI ((i0 : Nat) : Int)] d) (a.es.length) (fun i0 ih0 => ?_) 0 (by omega))
 intro hn0
 refine goes_R (R := (HasB 300000000 (.int .i64))) ?_
 show wp _ _ _ u35T1 _
 refine bS (d := dI ((a.es.length : Nat) : Int)) (sh_len i_a) ?_
 refine bS sk_lss ?_
 refine iD rfl (fun c1 => ?_) (fun c1 => ?_)
 ·
  obtain ⟨x2, e_x2⟩ := get_at (d := a) (s := ((i0 : Nat) : Int)) (by omega) (by omega)
  obtain ⟨_, rfl, _, _, rfl, ⟨x2_0, rfl⟩, x2_1, _, rfl, h_x2_1, _, _, rfl, ⟨x2_2, rfl⟩, x2_3, _, rfl, h_x2_3, _, _, rfl, ⟨x2_4, rfl⟩, x2_5, _, rfl, h_x2_5, x2_6, _, rfl, h_x2_6, x2_7, _, rfl, h_x2_7, rfl⟩ := (elem_ofB h_a e_x2)
  have i_x2_1 := isSl_ofB h_x2_1
  have b_x2_1 := len_leB h_x2_1
  have i_x2_3 := isSl_ofB h_x2_3
  have b_x2_3 := len_leB h_x2_3
  have i_x2_5 := isSl_ofB h_x2_5
  have b_x2_5 := len_leB h_x2_5
  have i_x2_6 := isSl_ofB h_x2_6
  have b_x2_6 := len_leB h_x2_6
  have i_x2_7 := isSl_ofB h_x2_7
  have b_x2_7 := len_leB h_x2_7
  refine bS (d := dB (true)) (si_inr (by omega) e_x2) ?_
  refine bS (d := dI (x2_4)) (si_elemP (off := 4) i_a (by omega) e_x2 rfl rfl (by decide)) ?_
  refine bS sk_neq ?_
  refine iD rfl (fun c3 => ?_) (fun c3 => ?_)
  ·
   refine bS (d := dB (true)) (si_inr (by omega) e_x2) ?_
   refine bS (d := dI (x2_4)) (si_elemP (off := 4) i_a (by omega) e_x2 rfl rfl (by decide)) ?_
   obtain ⟨_, ⟨r4, rfl, pa_r4, pb_r4⟩, k_r4⟩ := t78 (a := a) (b := dI (x2_4)) h_a hb_int
   refine cS (d := dI (r4)) k_r4 ?_
   refine bS sk_lss ?_
   refine iD rfl (fun c5 => ?_) (fun c5 => ?_)
   ·
    exact wr_ret rfl hb_int
   ·
    refine bS (d := dI ((i0 + 1 : Nat) : Int)) (sh_add (cap_bd' (by omega))) ?_
    exact wr_jump rfl (ih0 (by omega) (by omega))
  ·
   refine bS (d := dI ((i0 + 1 : Nat) : Int)) (sh_add (cap_bd' (by omega))) ?_
   exact wr_jump rfl (ih0 (by omega) (by omega))
 ·
  refine wr_jump rfl (loop_up (P := fun i2 => i2 ≤ a.es.length → ∃ d, (HasB 300000000 (.int .i64)) d ∧ Goes EE (Holds EE) u35Ts 2 [a, dI ((i2 : Nat) : Int)] d) (a.es.length) (fun i2 ih2 => ?_) 0 (by omega))
  intro hn2
  refine goes_R (R := (HasB 300000000 (.int .i64))) ?_
  show wp _ _ _ u35T2 _
  refine bS (d := dI ((a.es.length : Nat) : Int)) (sh_len i_a) ?_
  refine bS sk_lss ?_
  refine iD rfl (fun c3 => ?_) (fun c3 => ?_)
  ·
   obtain ⟨x4, e_x4⟩ := get_at (d := a) (s := ((i2 : Nat) : Int)) (by omega) (by omega)
   obtain ⟨_, rfl, _, _, rfl, ⟨x4_0, rfl⟩, x4_1, _, rfl, h_x4_1, _, _, rfl, ⟨x4_2, rfl⟩, x4_3, _, rfl, h_x4_3, _, _, rfl, ⟨x4_4, rfl⟩, x4_5, _, rfl, h_x4_5, x4_6, _, rfl, h_x4_6, x4_7, _, rfl, h_x4_7, rfl⟩ := (elem_ofB h_a e_x4)
   have i_x4_1 := isSl_ofB h_x4_1
   have b_x4_1 := len_leB h_x4_1
   have i_x4_3 := isSl_ofB h_x4_3
   have b_x4_3 := len_leB h_x4_3
   have i_x4_5 := isSl_ofB h_x4_5
   have b_x4_5 := len_leB h_x4_5
   have i_x4_6 := isSl_ofB h_x4_6
   have b_x4_6 := len_leB h_x4_6
   have i_x4_7 := isSl_ofB h_x4_7
   have b_x4_7 := len_leB h_x4_7
   refine bS (d := dB (true)) (si_inr (by omega) e_x4) ?_
   refine bS (d := dI (x4_0)) (si_elemP (off := 0) i_a (by omega) e_x4 rfl rfl (by decide)) ?_
   obtain ⟨r5, h_r5, k_r5⟩ := t79 (a := a) (b := dI (x4_0)) h_a hb_int (by omega)
   have i_r5 := isSl_ofB h_r5
   have b_r5 := len_leB h_r5
   refine cS (d := r5) k_r5 ?_
   refine bS (d := dI ((r5.es.length : Nat) : Int)) (sh_len i_r5) ?_
   refine bS (d := dI ((a.es.length : Nat) : Int)) (sh_len i_a) ?_
   refine bS sk_gtr ?_
   refine iD rfl (fun c6 => ?_) (fun c6 => ?_)
   ·
    exact wr_ret rfl hb_int
   ·
    refine bS (d := dI ((i2 + 1 : Nat) : Int)) (sh_add (cap_bd' (by omega))) ?_
    exact wr_jump rfl (ih2 (by omega) (by omega))
  ·
   exact wr_ret rfl hb_int
end Go.Proofs.YtbdamohgaleajaaGreatDoor
namespace Go.Proofs.YtbdamohgaleajaaGreatDoor
open Go Go.Am Go.Proofs
def bdl (i : Nat) : Nat := i * 1048576
theorem bdl_eq (i : Nat) : bdl i = i * 1048576 := rfl
attribute [local irreducible] Go.Am.wp Go.Am.TOp.eval bdl
theorem t30 {a b : D} (h_a : HasB 300000000 zV a) (h_b : HasB 300000000 zO b) (hq : ∀ cs, b = .agg cs → ∀ x, cs[2]? = some x → ∀ y ∈ x.es, y.es.length ≤ 1048576) : ∃ d, (HasB 300000000 (.int .i64)) d ∧ Holds EE 30 [a, b] d := by
 suffices h : ∃ d, (HasB 300000000 (.int .i64)) d ∧ Goes EE (Holds EE) u30Ts 0 [a, b] d by
  obtain ⟨d, hd, hg⟩ := h; exact ⟨d, hd, u30 rfl hg⟩
 obtain ⟨_, rfl, a_0, _, rfl, h_a_0, rfl⟩ := h_a
 have i_a_0 := isSl_ofB h_a_0
 have b_a_0 := len_leB h_a_0
 obtain ⟨_, rfl, _, _, rfl, ⟨b_0, rfl, hs_b_0⟩, b_1, _, rfl, h_b_1, b_2, _, rfl, h_b_2, rfl⟩ := h_b
 have i_b_1 := isSl_ofB h_b_1
 have b_b_1 := len_leB h_b_1
 have i_b_2 := isSl_ofB h_b_2
 have b_b_2 := len_leB h_b_2
 replace hq := hq _ rfl _ rfl
 refine goes_R (R := (HasB 300000000 (.int .i64))) ?_
 show wp _ _ _ u30T0 _
 refine bS (d := .agg [a_0]) (sh_chkW rfl) ?_
 refine bS (d := .agg [.leaf (.string b_0), b_1, b_2]) (sh_chkW rfl) ?_
 refine bS (d := .leaf (.string b_0)) (sh_fld1 rfl rfl) ?_
 obtain ⟨_, ⟨r0, rfl⟩, k_r0⟩ := t65 (a := .leaf (.string b_0)) (hb_str hs_b_0)
 refine cS (d := dB (r0)) k_r0 ?_
 refine bS (d := dB (!(r0))) sh_not ?_
 refine wp_iteC rfl (fun c1 => ?_) (fun c1 => ?_)
 ·
  clear c1
  exact wr_ret rfl hb_int
 ·
  clear c1
  refine bS (d := b_1) (sh_fld1 rfl i_b_1.one) ?_
  refine bS (d := dI ((b_1.es.length : Nat) : Int)) (sh_len i_b_1) ?_
  refine bS sk_gtr ?_
  refine iD rfl (fun c2 => ?_) (fun c2 => ?_)
  ·
   exact wr_ret rfl hb_int
  ·
   refine wr_jump rfl (loop_up (P := fun i3 => i3 ≤ b_1.es.length → ∃ d, (HasB 300000000 (.int .i64)) d ∧ Goes EE (Holds EE) u30Ts 1 [dI ((i3 : Nat) : Int), .agg [a_0], .agg [.leaf (.string b_0), b_1, b_2]] d) (b_1.es.length) (fun i3 ih3 => ?_) 0 (by omega))
   intro hn3
   refine goes_R (R := (HasB 300000000 (.int .i64))) ?_
   show wp _ _ _ u30T1 _
   refine bS (d := b_1) (sh_fld1 rfl i_b_1.one) ?_
   refine bS (d := dI ((b_1.es.length : Nat) : Int)) (sh_len i_b_1) ?_
   refine bS sk_lss ?_
   refine iD rfl (fun c4 => ?_) (fun c4 => ?_)
   ·
    obtain ⟨_, ⟨r5, rfl⟩, k_r5⟩ := t66 (a := .agg [a_0]) (b := .agg [.leaf (.string b_0), b_1, b_2]) (c := dI ((i3 : Nat) : Int)) (hb_st (hbs_cons h_a_0 hbs_nil)) (hb_st (hbs_cons (hb_str hs_b_0) (hbs_cons h_b_1 (hbs_cons h_b_2 hbs_nil)))) hb_int (by intro n hn; cases hn; omega) (by intro cs x n hcs hx hn; cases hcs; cases hx; cases hn; omega)
    refine cS (d := dI (r5)) k_r5 ?_
    refine bS sk_neq ?_
    refine iD rfl (fun c6 => ?_) (fun c6 => ?_)
    ·
     exact wr_ret rfl hb_int
    ·
     refine bS (d := dI ((i3 + 1 : Nat) : Int)) (sh_add (cap_bd' (by omega))) ?_
     exact wr_jump rfl (ih3 (by omega) (by omega))
   ·
    refine bS (d := b_2) (sh_fld1 rfl i_b_2.one) ?_
    refine bS (d := dI ((b_2.es.length : Nat) : Int)) (sh_len i_b_2) ?_
    refine bS sk_gtr ?_
    refine iD rfl (fun c5 => ?_) (fun c5 => ?_)
    ·
     exact wr_ret rfl hb_int
    ·
     refine wr_jump rfl (loop_up (P := fun i6 => i6 ≤ b_2.es.length → ∀ v6_0 : D, HasB 300000000 (.sl 9 1 .str) v6_0 → v6_0.es.length ≤ bdl i6 → ∃ d, (HasB 300000000 (.int .i64)) d ∧ Goes EE (Holds EE) u30Ts 2 [v6_0, dI ((i6 : Nat) : Int), .agg [.leaf (.string b_0), b_1, b_2]] d) (b_2.es.length) (fun i6 ih6 => ?_) 0 (by omega) .nil hb_nil (by simp [D.es]))
     intro hn6 v6_0 h_v6_0 z_v6_0
     have r_b := bdl_eq i6
     have s_b := bdl_eq (i6 + 1)
     have i_v6_0 := isSl_ofB h_v6_0
     have b_v6_0 := len_leB h_v6_0
     refine goes_R (R := (HasB 300000000 (.int .i64))) ?_
     show wp _ _ _ u30T2 _
     refine bS (d := b_2) (sh_fld1 rfl i_b_2.one) ?_
     refine bS (d := dI ((b_2.es.length : Nat) : Int)) (sh_len i_b_2) ?_
     refine bS sk_lss ?_
     refine iD rfl (fun c7 => ?_) (fun c7 => ?_)
     ·
      refine bS (d := b_2) (sh_fld1 rfl i_b_2.one) ?_
      obtain ⟨x8, e_x8⟩ := get_at (d := b_2) (s := ((i6 : Nat) : Int)) (by omega) (by omega)
      have bb_x8 := hq _ (List.mem_of_getElem? e_x8)
      have h_x8 := (elem_ofB h_b_2 e_x8)
      have i_x8 := isSl_ofB h_x8
      have b_x8 := len_leB h_x8
      refine bS (d := dB (true)) (si_inr (by omega) e_x8) ?_
      refine bS (d := x8) (si_elem1 i_b_2 (by omega) e_x8 i_x8.one) ?_
      refine bS (d := dI ((x8.es.length : Nat) : Int)) (sh_len i_x8) ?_
      refine bS sk_eql ?_
      refine iD rfl (fun c9 => ?_) (fun c9 => ?_)
      ·
       exact wr_ret rfl hb_int
      ·
       refine wr_jump rfl (loop_up (P := fun i10 => i10 ≤ x8.es.length → ∀ v10_0 : D, HasB 300000000 (.sl 9 1 .str) v10_0 → v10_0.es.length ≤ bdl i6 + i10 → ∃ d, (HasB 300000000 (.int .i64)) d ∧ Goes EE (Holds EE) u30Ts 3 [v10_0, dI ((i6 : Nat) : Int), dI ((i10 : Nat) : Int), .agg [.leaf (.string b_0), b_1, b_2]] d) (x8.es.length) (fun i10 ih10 => ?_) 0 (by omega) v6_0 h_v6_0 (by omega))
       intro hn10 v10_0 h_v10_0 z_v10_0
       have i_v10_0 := isSl_ofB h_v10_0
       have b_v10_0 := len_leB h_v10_0
       refine goes_R (R := (HasB 300000000 (.int .i64))) ?_
       show wp _ _ _ u30T3 _
       refine bS (d := b_2) (sh_fld1 rfl i_b_2.one) ?_
       refine bS (d := dB (true)) (si_inr (by omega) e_x8) ?_
       refine bS (d := x8) (si_elem1 i_b_2 (by omega) e_x8 i_x8.one) ?_
       refine bS (d := dI ((x8.es.length : Nat) : Int)) (sh_len i_x8) ?_
       refine bS sk_lss ?_
       refine iD rfl (fun c11 => ?_) (fun c11 => ?_)
       ·
        refine bS (d := b_2) (sh_fld1 rfl i_b_2.one) ?_
        refine bS (d := dB (true)) (si_inr (by omega) e_x8) ?_
        refine bS (d := x8) (si_elem1 i_b_2 (by omega) e_x8 i_x8.one) ?_
        obtain ⟨x12, e_x12⟩ := get_at (d := x8) (s := ((i10 : Nat) : Int)) (by omega) (by omega)
        obtain ⟨x12, rfl, hs_x12⟩ := (elem_ofB h_x8 e_x12)
        refine bS (d := dB (true)) (si_inr (by omega) e_x12) ?_
        refine bS (d := .leaf (.string x12)) (si_elem1 i_x8 (by omega) e_x12 rfl) ?_
        obtain ⟨_, ⟨r13, rfl⟩, k_r13⟩ := t67 (a := .leaf (.string x12)) (hb_str hs_x12)
        refine cS (d := dB (r13)) k_r13 ?_
        refine bS (d := dB (!(r13))) sh_not ?_
        refine wp_iteC rfl (fun c14 => ?_) (fun c14 => ?_)
        ·
         clear c14
         exact wr_ret rfl hb_int
        ·
         clear c14
         obtain ⟨_, ⟨r15, rfl⟩, k_r15⟩ := t68 (a := v10_0) (b := .leaf (.string x12)) h_v10_0 (hb_str hs_x12)
         refine cS (d := dB (r15)) k_r15 ?_
         refine wp_iteC rfl (fun c16 => ?_) (fun c16 => ?_)
         ·
          clear c16
          exact wr_ret rfl hb_int
         ·
          clear c16
          refine bS (d := .leaf (.string x12)) (sh_chk1 rfl) ?_
          obtain ⟨y17, ev_y17, l_y17, h_y17, n_y17⟩ := vs_lit (E := EE) (B := 300000000) (el := 9) (sz := 1) (xs := [.leaf (.string x12)]) (e := .str) rfl (all_c (hb_str hs_x12) all_n) rfl rfl
          simp only [List.length_cons, List.length_nil] at l_y17
          have i_y17 := isSl_ofB h_y17
          have b_y17 := len_leB h_y17
          refine bS (d := y17) ev_y17 ?_
          obtain ⟨y18, ev_y18, l_y18, h_y18⟩ := vs_app (E := EE) (el := 9) (sz := 1) (bytes := 16) h_v10_0 h_y17 (by decide) (by omega)
          have i_y18 := isSl_ofB h_y18
          have b_y18 := len_leB h_y18
          refine bS (d := y18) ev_y18 ?_
          refine bS (d := dI ((i10 + 1 : Nat) : Int)) (sh_add (cap_bd' (by omega))) ?_
          exact wr_jump rfl (ih10 (by omega) (by omega) y18 h_y18 (by omega))
       ·
        refine bS (d := dI ((i6 + 1 : Nat) : Int)) (sh_add (cap_bd' (by omega))) ?_
        exact wr_jump rfl (ih6 (by omega) (by omega) v10_0 h_v10_0 (by omega))
     ·
      exact wr_ret rfl hb_int
end Go.Proofs.YtbdamohgaleajaaGreatDoor
namespace Go.Proofs.YtbdamohgaleajaaGreatDoor
open Go Go.Am Go.Proofs
attribute [local irreducible] Go.Am.wp Go.Am.TOp.eval
theorem t77 {a b c : D} (h_a : HasB 300000000 zEs a) (h_b : HasB 300000000 (.int .i64) b) (h_c : HasB 300000000 (.int .i64) c) : ∃ d, (HasB 300000000 zL) d ∧ Holds EE 77 [a, b, c] d := by
 suffices h : ∃ d, (HasB 300000000 zL) d ∧ Goes EE (Holds EE) u77Ts 0 [a, b, c] d by
  obtain ⟨d, hd, hg⟩ := h; exact ⟨d, hd, u77 rfl hg⟩
 have i_a := isSl_ofB h_a
 have b_a := len_leB h_a
 obtain ⟨b, rfl⟩ := h_b
 obtain ⟨c, rfl⟩ := h_c
 refine goes_R (R := (HasB 300000000 zL)) ?_
 show wp _ _ _ u77T0 _
 refine bS (d := dI ((a.es.length : Nat) : Int)) (sh_len i_a) ?_
 obtain ⟨y0, ev_y0, l_y0, h_y0⟩ := vs_mk (E := EE) (B := 300000000) (el := 4) (sz := 1) (bytes := 1) (ag := false) (z := [(.bool false)]) (n := ((a.es.length : Nat) : Int)) (e := .bool) (by omega) (by omega) rfl (by decide) hb_bool
 have i_y0 := isSl_ofB h_y0
 have b_y0 := len_leB h_y0
 refine bS (d := y0) ev_y0 ?_
 refine bS (d := dI (b)) (sh_chk1 rfl) ?_
 obtain ⟨y1, ev_y1, l_y1, h_y1, n_y1⟩ := vs_lit (E := EE) (B := 300000000) (el := 3) (sz := 1) (xs := [dI (b)]) (e := .int .i64) rfl (all_c hb_int all_n) rfl rfl
 simp only [List.length_cons, List.length_nil] at l_y1
 have i_y1 := isSl_ofB h_y1
 have b_y1 := len_leB h_y1
 refine bS (d := y1) ev_y1 ?_
 refine wr_jump rfl (loop_up (P := fun i2 => i2 ≤ a.es.length + 1 → ∀ v2_2 : D, HasB 300000000 (.sl 4 1 (.bool)) v2_2 → v2_2.es.length = a.es.length → ∀ v2_3 : D, HasB 300000000 zL v2_3 → True → ∃ d, (HasB 300000000 zL) d ∧ Goes EE (Holds EE) u77Ts 1 [a, dI (c), v2_2, v2_3, dI ((i2 : Nat) : Int)] d) (a.es.length + 1) (fun i2 ih2 => ?_) 0 (by omega) y0 h_y0 (by omega) y1 h_y1 trivial)
 intro hn2 v2_2 h_v2_2 z_v2_2 v2_3 h_v2_3 z_v2_3
 have i_v2_2 := isSl_ofB h_v2_2
 have b_v2_2 := len_leB h_v2_2
 have i_v2_3 := isSl_ofB h_v2_3
 have b_v2_3 := len_leB h_v2_3
 refine goes_R (R := (HasB 300000000 zL)) ?_
 show wp _ _ _ u77T1 _
 refine bS (d := dI ((a.es.length : Nat) : Int)) (sh_len i_a) ?_
 refine bS sk_leq ?_
 refine iD rfl (fun c3 => ?_) (fun c3 => ?_)
 ·
  refine wr_jump rfl (loop_up (P := fun i4 => i4 ≤ v2_3.es.length → ∀ v4_2 : D, HasB 300000000 (.sl 4 1 (.bool)) v4_2 → v4_2.es.length = a.es.length → ∀ v4_5 : D, HasB 300000000 zL v4_5 → v4_5.es.length + cntF v4_2 ≤ a.es.length → ∃ d, (HasB 300000000 zL) d ∧ Goes EE (Holds EE) u77Ts 2 [a, dI (c), v4_2, v2_3, dI ((i2 : Nat) : Int), v4_5, dI ((i4 : Nat) : Int)] d) (v2_3.es.length) (fun i4 ih4 => ?_) 0 (by omega) v2_2 h_v2_2 (by omega) .nil hb_nil (by have := cntF_le v2_2; show 0 + cntF v2_2 ≤ _; omega))
  intro hn4 v4_2 h_v4_2 z_v4_2 v4_5 h_v4_5 z_v4_5
  have i_v4_2 := isSl_ofB h_v4_2
  have b_v4_2 := len_leB h_v4_2
  have i_v4_5 := isSl_ofB h_v4_5
  have b_v4_5 := len_leB h_v4_5
  refine goes_R (R := (HasB 300000000 zL)) ?_
  show wp _ _ _ u77T2 _
  refine bS (d := dI ((v2_3.es.length : Nat) : Int)) (sh_len i_v2_3) ?_
  refine bS sk_lss ?_
  refine iD rfl (fun c5 => ?_) (fun c5 => ?_)
  ·
   obtain ⟨x6, e_x6⟩ := get_at (d := v2_3) (s := ((i4 : Nat) : Int)) (by omega) (by omega)
   obtain ⟨x6, rfl⟩ := (elem_ofB h_v2_3 e_x6)
   refine bS (d := dB (true)) (si_inr (by omega) e_x6) ?_
   refine bS (d := dI (x6)) (si_elem1 i_v2_3 (by omega) e_x6 rfl) ?_
   obtain ⟨_, ⟨r7, rfl, pa_r7, pb_r7⟩, k_r7⟩ := t74 (a := a) (b := dI (x6)) h_a hb_int
   refine cS (d := dI (r7)) k_r7 ?_
   refine wr_jump rfl (loop_up (P := fun i8 => ∀ v8_2 : D, HasB 300000000 (.sl 4 1 (.bool)) v8_2 → v8_2.es.length = a.es.length → ∀ v8_5 : D, HasB 300000000 zL v8_5 → v8_5.es.length + cntF v8_2 ≤ a.es.length → ∃ d, (HasB 300000000 zL) d ∧ Goes EE (Holds EE) u77Ts 3 [a, dI (c), v8_2, v2_3, dI ((i2 : Nat) : Int), v8_5, dI ((i4 : Nat) : Int), dI (r7), dI ((i8 : Nat) : Int)] d) (300000000) (fun i8 ih8 => ?_) 0 v4_2 h_v4_2 (by omega) v4_5 h_v4_5 (by omega))
   intro v8_2 h_v8_2 z_v8_2 v8_5 h_v8_5 z_v8_5
   have i_v8_2 := isSl_ofB h_v8_2
   have b_v8_2 := len_leB h_v8_2
   have i_v8_5 := isSl_ofB h_v8_5
   have b_v8_5 := len_leB h_v8_5
   refine goes_R (R := (HasB 300000000 zL)) ?_
   show wp _ _ _ u77T3 _
   refine bS sk_geq ?_
   refine iD rfl (fun c9 => ?_) (fun c9 => ?_)
   ·
    obtain ⟨x10, e_x10⟩ := get_at (d := a) (s := (r7)) (by omega) (by omega)
    obtain ⟨_, rfl, _, _, rfl, ⟨x10_0, rfl⟩, x10_1, _, rfl, h_x10_1, _, _, rfl, ⟨x10_2, rfl⟩, x10_3, _, rfl, h_x10_3, _, _, rfl, ⟨x10_4, rfl⟩, x10_5, _, rfl, h_x10_5, x10_6, _, rfl, h_x10_6, x10_7, _, rfl, h_x10_7, rfl⟩ := (elem_ofB h_a e_x10)
    have i_x10_1 := isSl_ofB h_x10_1
    have b_x10_1 := len_leB h_x10_1
    have i_x10_3 := isSl_ofB h_x10_3
    have b_x10_3 := len_leB h_x10_3
    have i_x10_5 := isSl_ofB h_x10_5
    have b_x10_5 := len_leB h_x10_5
    have i_x10_6 := isSl_ofB h_x10_6
    have b_x10_6 := len_leB h_x10_6
    have i_x10_7 := isSl_ofB h_x10_7
    have b_x10_7 := len_leB h_x10_7
    refine bS (d := dB (true)) (si_inr (by omega) e_x10) ?_
    refine bS (d := x10_6) (si_elemP (off := 6) i_a (by omega) e_x10 rfl i_x10_6.one (by decide)) ?_
    refine bS (d := dI ((x10_6.es.length : Nat) : Int)) (sh_len i_x10_6) ?_
    refine bS sk_lss ?_
    refine iD rfl (fun c11 => ?_) (fun c11 => ?_)
    ·
     refine bS (d := dB (true)) (si_inr (by omega) e_x10) ?_
     refine bS (d := x10_6) (si_elemP (off := 6) i_a (by omega) e_x10 rfl i_x10_6.one (by decide)) ?_
     obtain ⟨x12, e_x12⟩ := get_at (d := x10_6) (s := ((i8 : Nat) : Int)) (by omega) (by omega)
     obtain ⟨_, rfl, _, _, rfl, ⟨x12_0, rfl⟩, _, _, rfl, ⟨x12_1, rfl⟩, rfl⟩ := (elem_ofB h_x10_6 e_x12)
     refine bS (d := dB (true)) (si_inr (by omega) e_x12) ?_
     refine bS (d := .agg [dI (x12_0), dI (x12_1)]) (si_elemW i_x10_6 (by omega) e_x12 rfl) ?_
     refine bS (d := .agg [dI (x12_0), dI (x12_1)]) (sh_chkW rfl) ?_
     refine bS (d := dI (x12_1)) (sh_fld1 rfl rfl) ?_
     obtain ⟨_, ⟨r13, rfl, pa_r13, pb_r13⟩, k_r13⟩ := t74 (a := a) (b := dI (x12_1)) h_a hb_int
     refine cS (d := dI (r13)) k_r13 ?_
     refine bS (d := dI (x12_0)) (sh_fld1 rfl rfl) ?_
     refine bS sk_eql ?_
     refine iD rfl (fun c14 => ?_) (fun c14 => ?_)
     ·
      refine bS sk_geq ?_
      refine iD rfl (fun c15 => ?_) (fun c15 => ?_)
      ·
       obtain ⟨x16, e_x16⟩ := get_at (d := v8_2) (s := (r13)) (by omega) (by omega)
       obtain ⟨x16, rfl⟩ := (elem_ofB h_v8_2 e_x16)
       refine bS (d := dB (true)) (si_inr (by omega) e_x16) ?_
       refine bS (d := dB (x16)) (si_elem1 i_v8_2 (by omega) e_x16 rfl) ?_
       refine bS (d := dB (!(x16))) sh_not ?_
       refine wp_iteC rfl (fun c17 => ?_) (fun c17 => ?_)
       ·
        have cf : x16 = false := by
         cases x16 with
         | false => rfl
         | true => exact absurd c17 (by decide)
        subst cf
        refine bS (d := dB (true)) (si_inr (by omega) e_x16) ?_
        obtain ⟨y18, ev_y18, l_y18, h_y18, q_y18⟩ := vs_setC (E := EE) (i := (r13)) h_v8_2 (by omega) (by omega) e_x16
        have i_y18 := isSl_ofB h_y18
        have b_y18 := len_leB h_y18
        refine bS (d := y18) ev_y18 ?_
        refine bS (d := dI (x12_1)) (sh_fld1 rfl rfl) ?_
        refine bS (d := dI (x12_1)) (sh_chk1 rfl) ?_
        obtain ⟨y19, ev_y19, l_y19, h_y19, n_y19⟩ := vs_lit (E := EE) (B := 300000000) (el := 3) (sz := 1) (xs := [dI (x12_1)]) (e := .int .i64) rfl (all_c hb_int all_n) rfl rfl
        simp only [List.length_cons, List.length_nil] at l_y19
        have i_y19 := isSl_ofB h_y19
        have b_y19 := len_leB h_y19
        refine bS (d := y19) ev_y19 ?_
        obtain ⟨y20, ev_y20, l_y20, h_y20⟩ := vs_app (E := EE) (el := 3) (sz := 1) (bytes := 8) h_v8_5 h_y19 (by decide) (by omega)
        have i_y20 := isSl_ofB h_y20
        have b_y20 := len_leB h_y20
        refine bS (d := y20) ev_y20 ?_
        refine bS (d := dI ((i8 + 1 : Nat) : Int)) (sh_add (cap_bd' (by omega))) ?_
        exact wr_jump rfl (ih8 (by omega) y18 h_y18 (by omega) y20 h_y20 (by omega))
       ·
        clear c17
        refine bS (d := dI ((i8 + 1 : Nat) : Int)) (sh_add (cap_bd' (by omega))) ?_
        exact wr_jump rfl (ih8 (by omega) v8_2 h_v8_2 (by omega) v8_5 h_v8_5 (by omega))
      ·
       refine bS (d := dI ((i8 + 1 : Nat) : Int)) (sh_add (cap_bd' (by omega))) ?_
       exact wr_jump rfl (ih8 (by omega) v8_2 h_v8_2 (by omega) v8_5 h_v8_5 (by omega))
     ·
      refine bS (d := dI ((i8 + 1 : Nat) : Int)) (sh_add (cap_bd' (by omega))) ?_
      exact wr_jump rfl (ih8 (by omega) v8_2 h_v8_2 (by omega) v8_5 h_v8_5 (by omega))
    ·
     refine bS (d := dI ((i4 + 1 : Nat) : Int)) (sh_add (cap_bd' (by omega))) ?_
     exact wr_jump rfl (ih4 (by omega) (by omega) v8_2 h_v8_2 (by omega) v8_5 h_v8_5 (by omega))
   ·
    refine bS (d := dI ((i4 + 1 : Nat) : Int)) (sh_add (cap_bd' (by omega))) ?_
    exact wr_jump rfl (ih4 (by omega) (by omega) v8_2 h_v8_2 (by omega) v8_5 h_v8_5 (by omega))
  ·
   refine bS (d := dI ((i2 + 1 : Nat) : Int)) (sh_add (cap_bd' (by omega))) ?_
   exact wr_jump rfl (ih2 (by omega) (by omega) v4_2 h_v4_2 (by omega) v4_5 h_v4_5 trivial)
 ·
  refine wr_jump rfl (loop_up (P := fun i4 => i4 ≤ a.es.length → ∀ v4_2 : D, HasB 300000000 zL v4_2 → v4_2.es.length ≤ i4 → ∃ d, (HasB 300000000 zL) d ∧ Goes EE (Holds EE) u77Ts 4 [a, v2_2, v4_2, dI ((i4 : Nat) : Int)] d) (a.es.length) (fun i4 ih4 => ?_) 0 (by omega) .nil hb_nil (by simp [D.es]))
  intro hn4 v4_2 h_v4_2 z_v4_2
  have i_v4_2 := isSl_ofB h_v4_2
  have b_v4_2 := len_leB h_v4_2
  refine goes_R (R := (HasB 300000000 zL)) ?_
  show wp _ _ _ u77T4 _
  refine bS (d := dI ((a.es.length : Nat) : Int)) (sh_len i_a) ?_
  refine bS sk_lss ?_
  refine iD rfl (fun c5 => ?_) (fun c5 => ?_)
  ·
   obtain ⟨x6, e_x6⟩ := get_at (d := v2_2) (s := ((i4 : Nat) : Int)) (by omega) (by omega)
   obtain ⟨x6, rfl⟩ := (elem_ofB h_v2_2 e_x6)
   refine bS (d := dB (true)) (si_inr (by omega) e_x6) ?_
   refine bS (d := dB (x6)) (si_elem1 i_v2_2 (by omega) e_x6 rfl) ?_
   refine wp_iteC rfl (fun c7 => ?_) (fun c7 => ?_)
   ·
    clear c7
    obtain ⟨x8, e_x8⟩ := get_at (d := a) (s := ((i4 : Nat) : Int)) (by omega) (by omega)
    obtain ⟨_, rfl, _, _, rfl, ⟨x8_0, rfl⟩, x8_1, _, rfl, h_x8_1, _, _, rfl, ⟨x8_2, rfl⟩, x8_3, _, rfl, h_x8_3, _, _, rfl, ⟨x8_4, rfl⟩, x8_5, _, rfl, h_x8_5, x8_6, _, rfl, h_x8_6, x8_7, _, rfl, h_x8_7, rfl⟩ := (elem_ofB h_a e_x8)
    have i_x8_1 := isSl_ofB h_x8_1
    have b_x8_1 := len_leB h_x8_1
    have i_x8_3 := isSl_ofB h_x8_3
    have b_x8_3 := len_leB h_x8_3
    have i_x8_5 := isSl_ofB h_x8_5
    have b_x8_5 := len_leB h_x8_5
    have i_x8_6 := isSl_ofB h_x8_6
    have b_x8_6 := len_leB h_x8_6
    have i_x8_7 := isSl_ofB h_x8_7
    have b_x8_7 := len_leB h_x8_7
    refine bS (d := dB (true)) (si_inr (by omega) e_x8) ?_
    refine bS (d := dI (x8_0)) (si_elemP (off := 0) i_a (by omega) e_x8 rfl rfl (by decide)) ?_
    refine bS (d := dI (x8_0)) (sh_chk1 rfl) ?_
    obtain ⟨y9, ev_y9, l_y9, h_y9, n_y9⟩ := vs_lit (E := EE) (B := 300000000) (el := 3) (sz := 1) (xs := [dI (x8_0)]) (e := .int .i64) rfl (all_c hb_int all_n) rfl rfl
    simp only [List.length_cons, List.length_nil] at l_y9
    have i_y9 := isSl_ofB h_y9
    have b_y9 := len_leB h_y9
    refine bS (d := y9) ev_y9 ?_
    obtain ⟨y10, ev_y10, l_y10, h_y10⟩ := vs_app (E := EE) (el := 3) (sz := 1) (bytes := 8) h_v4_2 h_y9 (by decide) (by omega)
    have i_y10 := isSl_ofB h_y10
    have b_y10 := len_leB h_y10
    refine bS (d := y10) ev_y10 ?_
    refine bS (d := dI ((i4 + 1 : Nat) : Int)) (sh_add (cap_bd' (by omega))) ?_
    exact wr_jump rfl (ih4 (by omega) (by omega) y10 h_y10 (by omega))
   ·
    clear c7
    refine bS (d := dI ((i4 + 1 : Nat) : Int)) (sh_add (cap_bd' (by omega))) ?_
    exact wr_jump rfl (ih4 (by omega) (by omega) v4_2 h_v4_2 (by omega))
  ·
   exact wr_ret rfl h_v4_2
theorem t34 {a : D} (h_a : HasB 300000000 zEs a) : ∃ d, (HasB 300000000 (.int .i64)) d ∧ Holds EE 34 [a] d := by
 suffices h : ∃ d, (HasB 300000000 (.int .i64)) d ∧ Goes EE (Holds EE) u34Ts 0 [a] d by
  obtain ⟨d, hd, hg⟩ := h; exact ⟨d, hd, u34 rfl hg⟩
 have i_a := isSl_ofB h_a
 have b_a := len_leB h_a
 refine goes_R (R := (HasB 300000000 (.int .i64))) ?_
 show wp _ _ _ u34T0 _
 refine wr_jump rfl (loop_up (P := fun i0 => i0 ≤ a.es.length → ∃ d, (HasB 300000000 (.int .i64)) d ∧ Goes EE (Holds EE) u34Ts 1 [a, dI ((i0 : Nat) : Int)] d) (a.es.length) (fun i0 ih0 => ?_) 0 (by omega))
 intro hn0
 refine goes_R (R := (HasB 300000000 (.int .i64))) ?_
 show wp _ _ _ u34T1 _
 refine bS (d := dI ((a.es.length : Nat) : Int)) (sh_len i_a) ?_
 refine bS sk_lss ?_
 refine iD rfl (fun c1 => ?_) (fun c1 => ?_)
 ·
  refine wr_jump rfl (loop_up (P := fun i2 => ∃ d, (HasB 300000000 (.int .i64)) d ∧ Goes EE (Holds EE) u34Ts 2 [a, dI ((i0 : Nat) : Int), dI ((i2 : Nat) : Int)] d) (300000000) (fun i2 ih2 => ?_) 0)
  refine goes_R (R := (HasB 300000000 (.int .i64))) ?_
  show wp _ _ _ u34T2 _
  obtain ⟨x3, e_x3⟩ := get_at (d := a) (s := ((i0 : Nat) : Int)) (by omega) (by omega)
  obtain ⟨_, rfl, _, _, rfl, ⟨x3_0, rfl⟩, x3_1, _, rfl, h_x3_1, _, _, rfl, ⟨x3_2, rfl⟩, x3_3, _, rfl, h_x3_3, _, _, rfl, ⟨x3_4, rfl⟩, x3_5, _, rfl, h_x3_5, x3_6, _, rfl, h_x3_6, x3_7, _, rfl, h_x3_7, rfl⟩ := (elem_ofB h_a e_x3)
  have i_x3_1 := isSl_ofB h_x3_1
  have b_x3_1 := len_leB h_x3_1
  have i_x3_3 := isSl_ofB h_x3_3
  have b_x3_3 := len_leB h_x3_3
  have i_x3_5 := isSl_ofB h_x3_5
  have b_x3_5 := len_leB h_x3_5
  have i_x3_6 := isSl_ofB h_x3_6
  have b_x3_6 := len_leB h_x3_6
  have i_x3_7 := isSl_ofB h_x3_7
  have b_x3_7 := len_leB h_x3_7
  refine bS (d := dB (true)) (si_inr (by omega) e_x3) ?_
  refine bS (d := x3_6) (si_elemP (off := 6) i_a (by omega) e_x3 rfl i_x3_6.one (by decide)) ?_
  refine bS (d := dI ((x3_6.es.length : Nat) : Int)) (sh_len i_x3_6) ?_
  refine bS sk_lss ?_
  refine iD rfl (fun c4 => ?_) (fun c4 => ?_)
  ·
   refine bS (d := dB (true)) (si_inr (by omega) e_x3) ?_
   refine bS (d := x3_6) (si_elemP (off := 6) i_a (by omega) e_x3 rfl i_x3_6.one (by decide)) ?_
   obtain ⟨x5, e_x5⟩ := get_at (d := x3_6) (s := ((i2 : Nat) : Int)) (by omega) (by omega)
   obtain ⟨_, rfl, _, _, rfl, ⟨x5_0, rfl⟩, _, _, rfl, ⟨x5_1, rfl⟩, rfl⟩ := (elem_ofB h_x3_6 e_x5)
   refine bS (d := dB (true)) (si_inr (by omega) e_x5) ?_
   refine bS (d := .agg [dI (x5_0), dI (x5_1)]) (si_elemW i_x3_6 (by omega) e_x5 rfl) ?_
   refine bS (d := .agg [dI (x5_0), dI (x5_1)]) (sh_chkW rfl) ?_
   refine bS (d := dI (x5_0)) (sh_fld1 rfl rfl) ?_
   obtain ⟨_, ⟨r6, rfl⟩, k_r6⟩ := t73 (a := dI (x5_0)) hb_int
   refine cS (d := dI (r6)) k_r6 ?_
   refine bS sk_lss ?_
   refine iD rfl (fun c7 => ?_) (fun c7 => ?_)
   ·
    exact wr_ret rfl hb_int
   ·
    refine bS (d := dI (x5_1)) (sh_fld1 rfl rfl) ?_
    obtain ⟨_, ⟨r8, rfl, pa_r8, pb_r8⟩, k_r8⟩ := t74 (a := a) (b := dI (x5_1)) h_a hb_int
    refine cS (d := dI (r8)) k_r8 ?_
    refine bS sk_lss ?_
    refine iD rfl (fun c9 => ?_) (fun c9 => ?_)
    ·
     exact wr_ret rfl hb_int
    ·
     obtain ⟨x10, e_x10⟩ := get_at (d := a) (s := (r8)) (by omega) (by omega)
     obtain ⟨_, rfl, _, _, rfl, ⟨x10_0, rfl⟩, x10_1, _, rfl, h_x10_1, _, _, rfl, ⟨x10_2, rfl⟩, x10_3, _, rfl, h_x10_3, _, _, rfl, ⟨x10_4, rfl⟩, x10_5, _, rfl, h_x10_5, x10_6, _, rfl, h_x10_6, x10_7, _, rfl, h_x10_7, rfl⟩ := (elem_ofB h_a e_x10)
     have i_x10_1 := isSl_ofB h_x10_1
     have b_x10_1 := len_leB h_x10_1
     have i_x10_3 := isSl_ofB h_x10_3
     have b_x10_3 := len_leB h_x10_3
     have i_x10_5 := isSl_ofB h_x10_5
     have b_x10_5 := len_leB h_x10_5
     have i_x10_6 := isSl_ofB h_x10_6
     have b_x10_6 := len_leB h_x10_6
     have i_x10_7 := isSl_ofB h_x10_7
     have b_x10_7 := len_leB h_x10_7
     refine bS (d := dB (true)) (si_inr (by omega) e_x10) ?_
     refine bS (d := .agg [dI (x10_0), x10_1, dI (x10_2), x10_3, dI (x10_4), x10_5, x10_6, x10_7]) (si_elemW i_a (by omega) e_x10 rfl) ?_
     refine bS (d := dI (x5_0)) (sh_fld1 rfl rfl) ?_
     obtain ⟨_, ⟨r11, rfl⟩, k_r11⟩ := t73 (a := dI (x5_0)) hb_int
     refine cS (d := dI (r11)) k_r11 ?_
     refine bS (d := dB (true)) (si_inr (by omega) e_x3) ?_
     refine bS (d := dI (x3_0)) (si_elemP (off := 0) i_a (by omega) e_x3 rfl rfl (by decide)) ?_
     obtain ⟨_, ⟨r12, rfl⟩, k_r12⟩ := t75 (a := .agg [dI (x10_0), x10_1, dI (x10_2), x10_3, dI (x10_4), x10_5, x10_6, x10_7]) (b := .agg [dI (r11), dI (x3_0)]) (hb_st (hbs_cons hb_int (hbs_cons h_x10_1 (hbs_cons hb_int (hbs_cons h_x10_3 (hbs_cons hb_int (hbs_cons h_x10_5 (hbs_cons h_x10_6 (hbs_cons h_x10_7 hbs_nil))))))))) (hb_st (hbs_cons hb_int (hbs_cons hb_int hbs_nil)))
     refine cS (d := dB (r12)) k_r12 ?_
     refine bS (d := dB (!(r12))) sh_not ?_
     refine wp_iteC rfl (fun c13 => ?_) (fun c13 => ?_)
     ·
      clear c13
      exact wr_ret rfl hb_int
     ·
      clear c13
      refine bS (d := dI ((i2 + 1 : Nat) : Int)) (sh_add (cap_bd' (by omega))) ?_
      exact wr_jump rfl (ih2 (by omega))
  ·
   refine bS (d := dI ((i0 + 1 : Nat) : Int)) (sh_add (cap_bd' (by omega))) ?_
   exact wr_jump rfl (ih0 (by omega) (by omega))
 ·
  refine wr_jump rfl (loop_up (P := fun i2 => i2 ≤ a.es.length → ∃ d, (HasB 300000000 (.int .i64)) d ∧ Goes EE (Holds EE) u34Ts 3 [a, dI ((i2 : Nat) : Int)] d) (a.es.length) (fun i2 ih2 => ?_) 0 (by omega))
  intro hn2
  refine goes_R (R := (HasB 300000000 (.int .i64))) ?_
  show wp _ _ _ u34T3 _
  refine bS (d := dI ((a.es.length : Nat) : Int)) (sh_len i_a) ?_
  refine bS sk_lss ?_
  refine iD rfl (fun c3 => ?_) (fun c3 => ?_)
  ·
   obtain ⟨x4, e_x4⟩ := get_at (d := a) (s := ((i2 : Nat) : Int)) (by omega) (by omega)
   obtain ⟨_, rfl, _, _, rfl, ⟨x4_0, rfl⟩, x4_1, _, rfl, h_x4_1, _, _, rfl, ⟨x4_2, rfl⟩, x4_3, _, rfl, h_x4_3, _, _, rfl, ⟨x4_4, rfl⟩, x4_5, _, rfl, h_x4_5, x4_6, _, rfl, h_x4_6, x4_7, _, rfl, h_x4_7, rfl⟩ := (elem_ofB h_a e_x4)
   have i_x4_1 := isSl_ofB h_x4_1
   have b_x4_1 := len_leB h_x4_1
   have i_x4_3 := isSl_ofB h_x4_3
   have b_x4_3 := len_leB h_x4_3
   have i_x4_5 := isSl_ofB h_x4_5
   have b_x4_5 := len_leB h_x4_5
   have i_x4_6 := isSl_ofB h_x4_6
   have b_x4_6 := len_leB h_x4_6
   have i_x4_7 := isSl_ofB h_x4_7
   have b_x4_7 := len_leB h_x4_7
   refine bS (d := dB (true)) (si_inr (by omega) e_x4) ?_
   refine bS (d := dI (x4_0)) (si_elemP (off := 0) i_a (by omega) e_x4 rfl rfl (by decide)) ?_
   obtain ⟨r5, h_r5, k_r5⟩ := t77 (a := a) (b := dI (x4_0)) (c := dI ((2 : Nat) : Int)) h_a hb_int hb_int
   have i_r5 := isSl_ofB h_r5
   have b_r5 := len_leB h_r5
   refine cS (d := r5) k_r5 ?_
   refine bS (d := dB (true)) (si_inr (by omega) e_x4) ?_
   refine bS (d := dI (x4_0)) (si_elemP (off := 0) i_a (by omega) e_x4 rfl rfl (by decide)) ?_
   obtain ⟨_, ⟨r6, rfl⟩, k_r6⟩ := t76 (a := r5) (b := dI (x4_0)) h_r5 hb_int
   refine cS (d := dB (r6)) k_r6 ?_
   refine wp_iteC rfl (fun c7 => ?_) (fun c7 => ?_)
   ·
    clear c7
    exact wr_ret rfl hb_int
   ·
    clear c7
    refine bS (d := dB (true)) (si_inr (by omega) e_x4) ?_
    refine bS (d := dI (x4_0)) (si_elemP (off := 0) i_a (by omega) e_x4 rfl rfl (by decide)) ?_
    obtain ⟨r8, h_r8, k_r8⟩ := t77 (a := a) (b := dI (x4_0)) (c := dI ((4 : Nat) : Int)) h_a hb_int hb_int
    have i_r8 := isSl_ofB h_r8
    have b_r8 := len_leB h_r8
    refine cS (d := r8) k_r8 ?_
    refine bS (d := dB (true)) (si_inr (by omega) e_x4) ?_
    refine bS (d := dI (x4_0)) (si_elemP (off := 0) i_a (by omega) e_x4 rfl rfl (by decide)) ?_
    obtain ⟨_, ⟨r9, rfl⟩, k_r9⟩ := t76 (a := r8) (b := dI (x4_0)) h_r8 hb_int
    refine cS (d := dB (r9)) k_r9 ?_
    refine wp_iteC rfl (fun c10 => ?_) (fun c10 => ?_)
    ·
     clear c10
     exact wr_ret rfl hb_int
    ·
     clear c10
     refine bS (d := dI ((i2 + 1 : Nat) : Int)) (sh_add (cap_bd' (by omega))) ?_
     exact wr_jump rfl (ih2 (by omega) (by omega))
  ·
   exact wr_ret rfl hb_int
theorem t10 {a : D} (h_a : HasB 300000000 zG a) (hp : ∀ cs, a = .agg cs → ∀ x, cs[8]? = some x → x.es.length < 300000000) (hq : ∀ cs, a = .agg cs → ∀ x, cs[3]? = some x → ∀ y ∈ x.es, y.es.length ≤ 1048576) : ∃ d, (HasB 300000000 (.int .i64)) d ∧ Holds EE 10 [a] d := by
 suffices h : ∃ d, (HasB 300000000 (.int .i64)) d ∧ Goes EE (Holds EE) u10Ts 0 [a] d by
  obtain ⟨d, hd, hg⟩ := h; exact ⟨d, hd, u10 rfl hg⟩
 obtain ⟨_, rfl, a_0, _, rfl, h_a_0, _, _, rfl, ⟨a_1, rfl, hs_a_1⟩, a_2, _, rfl, h_a_2, a_3, _, rfl, h_a_3, a_4, _, rfl, h_a_4, _, _, rfl, ⟨a_5, rfl⟩, a_6, _, rfl, h_a_6, a_7, _, rfl, h_a_7, a_8, _, rfl, h_a_8, rfl⟩ := h_a
 have i_a_0 := isSl_ofB h_a_0
 have b_a_0 := len_leB h_a_0
 have i_a_2 := isSl_ofB h_a_2
 have b_a_2 := len_leB h_a_2
 have i_a_3 := isSl_ofB h_a_3
 have b_a_3 := len_leB h_a_3
 have i_a_4 := isSl_ofB h_a_4
 have b_a_4 := len_leB h_a_4
 have i_a_6 := isSl_ofB h_a_6
 have b_a_6 := len_leB h_a_6
 have i_a_7 := isSl_ofB h_a_7
 have b_a_7 := len_leB h_a_7
 have i_a_8 := isSl_ofB h_a_8
 have b_a_8 := len_leB h_a_8
 replace hp := hp _ rfl _ rfl
 replace hq := hq _ rfl _ rfl
 refine goes_R (R := (HasB 300000000 (.int .i64))) ?_
 show wp _ _ _ u10T0 _
 refine bS (d := .agg [a_0, .leaf (.string a_1), a_2, a_3, a_4, dI (a_5), a_6, a_7, a_8]) (sh_chkW rfl) ?_
 refine bS (d := .agg [a_0]) (sh_fldA rfl) ?_
 obtain ⟨_, ⟨r0, rfl⟩, k_r0⟩ := t29 (a := .agg [a_0]) (hb_st (hbs_cons h_a_0 hbs_nil))
 refine cS (d := dI (r0)) k_r0 ?_
 refine bS sk_neq ?_
 refine iD rfl (fun c1 => ?_) (fun c1 => ?_)
 ·
  exact wr_ret rfl hb_int
 ·
  refine bS (d := .agg [a_0]) (sh_fldA rfl) ?_
  refine bS (d := .agg [.leaf (.string a_1), a_2, a_3]) (sh_fldA rfl) ?_
  obtain ⟨_, ⟨r2, rfl⟩, k_r2⟩ := t30 (a := .agg [a_0]) (b := .agg [.leaf (.string a_1), a_2, a_3]) (hb_st (hbs_cons h_a_0 hbs_nil)) (hb_st (hbs_cons (hb_str hs_a_1) (hbs_cons h_a_2 (hbs_cons h_a_3 hbs_nil)))) (by intro cs hcs x hx; cases hcs; cases hx; exact hq)
  refine cS (d := dI (r2)) k_r2 ?_
  refine bS sk_neq ?_
  refine iD rfl (fun c3 => ?_) (fun c3 => ?_)
  ·
   exact wr_ret rfl hb_int
  ·
   obtain ⟨_, ⟨r4, rfl⟩, k_r4⟩ := t31 (a := .agg [a_0, .leaf (.string a_1), a_2, a_3, a_4, dI (a_5), a_6, a_7, a_8]) (hb_st (hbs_cons h_a_0 (hbs_cons (hb_str hs_a_1) (hbs_cons h_a_2 (hbs_cons h_a_3 (hbs_cons h_a_4 (hbs_cons hb_int (hbs_cons h_a_6 (hbs_cons h_a_7 (hbs_cons h_a_8 hbs_nil))))))))))
   refine cS (d := dI (r4)) k_r4 ?_
   refine bS sk_neq ?_
   refine iD rfl (fun c5 => ?_) (fun c5 => ?_)
   ·
    exact wr_ret rfl hb_int
   ·
    refine bS (d := .agg [dI (a_5), a_6, a_7]) (sh_fldA rfl) ?_
    obtain ⟨_, ⟨r6, rfl⟩, k_r6⟩ := t32 (a := .agg [dI (a_5), a_6, a_7]) (hb_st (hbs_cons hb_int (hbs_cons h_a_6 (hbs_cons h_a_7 hbs_nil))))
    refine cS (d := dI (r6)) k_r6 ?_
    refine bS sk_neq ?_
    refine iD rfl (fun c7 => ?_) (fun c7 => ?_)
    ·
     exact wr_ret rfl hb_int
    ·
     refine bS (d := .agg [a_0]) (sh_fldA rfl) ?_
     refine bS (d := a_8) (sh_fld1 rfl i_a_8.one) ?_
     obtain ⟨_, ⟨r8, rfl⟩, k_r8⟩ := t33 (a := .agg [a_0]) (b := a_8) (hb_st (hbs_cons h_a_0 hbs_nil)) h_a_8
     refine cS (d := dI (r8)) k_r8 ?_
     refine bS sk_neq ?_
     refine iD rfl (fun c9 => ?_) (fun c9 => ?_)
     ·
      exact wr_ret rfl hb_int
     ·
      refine bS (d := a_8) (sh_fld1 rfl i_a_8.one) ?_
      obtain ⟨_, ⟨r10, rfl⟩, k_r10⟩ := t34 (a := a_8) h_a_8
      refine cS (d := dI (r10)) k_r10 ?_
      refine bS sk_neq ?_
      refine iD rfl (fun c11 => ?_) (fun c11 => ?_)
      ·
       exact wr_ret rfl hb_int
      ·
       refine bS (d := a_8) (sh_fld1 rfl i_a_8.one) ?_
       obtain ⟨_, ⟨r12, rfl⟩, k_r12⟩ := t35 (a := a_8) h_a_8 (by omega)
       refine cS (d := dI (r12)) k_r12 ?_
       exact wr_ret rfl hb_int
theorem t4 {a : D} (h_a : HasB 300000000 zG a) (hp : ∀ cs, a = .agg cs → ∀ x, cs[8]? = some x → x.es.length < 300000000) (hq : ∀ cs, a = .agg cs → ∀ x, cs[3]? = some x → ∀ y ∈ x.es, y.es.length ≤ 1048576) : ∃ d, (HasB 300000000 (.bool)) d ∧ Holds EE 4 [a] d := by
 suffices h : ∃ d, (HasB 300000000 (.bool)) d ∧ Goes EE (Holds EE) u4Ts 0 [a] d by
  obtain ⟨d, hd, hg⟩ := h; exact ⟨d, hd, u4 rfl hg⟩
 obtain ⟨_, rfl, a_0, _, rfl, h_a_0, _, _, rfl, ⟨a_1, rfl, hs_a_1⟩, a_2, _, rfl, h_a_2, a_3, _, rfl, h_a_3, a_4, _, rfl, h_a_4, _, _, rfl, ⟨a_5, rfl⟩, a_6, _, rfl, h_a_6, a_7, _, rfl, h_a_7, a_8, _, rfl, h_a_8, rfl⟩ := h_a
 have i_a_0 := isSl_ofB h_a_0
 have b_a_0 := len_leB h_a_0
 have i_a_2 := isSl_ofB h_a_2
 have b_a_2 := len_leB h_a_2
 have i_a_3 := isSl_ofB h_a_3
 have b_a_3 := len_leB h_a_3
 have i_a_4 := isSl_ofB h_a_4
 have b_a_4 := len_leB h_a_4
 have i_a_6 := isSl_ofB h_a_6
 have b_a_6 := len_leB h_a_6
 have i_a_7 := isSl_ofB h_a_7
 have b_a_7 := len_leB h_a_7
 have i_a_8 := isSl_ofB h_a_8
 have b_a_8 := len_leB h_a_8
 replace hp := hp _ rfl _ rfl
 replace hq := hq _ rfl _ rfl
 refine goes_R (R := (HasB 300000000 (.bool))) ?_
 show wp _ _ _ u4T0 _
 refine bS (d := .agg [a_0, .leaf (.string a_1), a_2, a_3, a_4, dI (a_5), a_6, a_7, a_8]) (sh_chkW rfl) ?_
 refine bS (d := a_0) (sh_fld1 rfl i_a_0.one) ?_
 refine bS (d := dI ((a_0.es.length : Nat) : Int)) (sh_len i_a_0) ?_
 refine bS sk_gtr ?_
 refine iD rfl (fun c0 => ?_) (fun c0 => ?_)
 ·
  exact wr_ret rfl hb_bool
 ·
  refine bS (d := a_2) (sh_fld1 rfl i_a_2.one) ?_
  refine bS (d := dI ((a_2.es.length : Nat) : Int)) (sh_len i_a_2) ?_
  refine bS sk_gtr ?_
  refine iD rfl (fun c1 => ?_) (fun c1 => ?_)
  ·
   exact wr_ret rfl hb_bool
  ·
   refine bS (d := a_4) (sh_fld1 rfl i_a_4.one) ?_
   refine bS (d := dI ((a_4.es.length : Nat) : Int)) (sh_len i_a_4) ?_
   refine bS sk_gtr ?_
   refine iD rfl (fun c2 => ?_) (fun c2 => ?_)
   ·
    exact wr_ret rfl hb_bool
   ·
    refine bS (d := dI (a_5)) (sh_fld1 rfl rfl) ?_
    refine bS sk_gtr ?_
    refine iD rfl (fun c3 => ?_) (fun c3 => ?_)
    ·
     exact wr_ret rfl hb_bool
    ·
     refine bS (d := a_6) (sh_fld1 rfl i_a_6.one) ?_
     refine bS (d := dI ((a_6.es.length : Nat) : Int)) (sh_len i_a_6) ?_
     refine bS sk_gtr ?_
     refine iD rfl (fun c4 => ?_) (fun c4 => ?_)
     ·
      exact wr_ret rfl hb_bool
     ·
      refine bS (d := a_7) (sh_fld1 rfl i_a_7.one) ?_
      refine bS (d := dI ((a_7.es.length : Nat) : Int)) (sh_len i_a_7) ?_
      refine bS sk_gtr ?_
      refine iD rfl (fun c5 => ?_) (fun c5 => ?_)
      ·
       exact wr_ret rfl hb_bool
      ·
       refine bS (d := a_8) (sh_fld1 rfl i_a_8.one) ?_
       obtain ⟨_, ⟨r6, rfl⟩, k_r6⟩ := t9 (a := a_8) h_a_8
       refine cS (d := dB (r6)) k_r6 ?_
       refine bS (d := dB (!(r6))) sh_not ?_
       refine wp_iteC rfl (fun c7 => ?_) (fun c7 => ?_)
       ·
        clear c7
        exact wr_ret rfl hb_bool
       ·
        clear c7
        refine wr_jump rfl (loop_up (P := fun i8 => i8 ≤ a_4.es.length → ∃ d, (HasB 300000000 (.bool)) d ∧ Goes EE (Holds EE) u4Ts 1 [dI ((i8 : Nat) : Int), .agg [a_0, .leaf (.string a_1), a_2, a_3, a_4, dI (a_5), a_6, a_7, a_8]] d) (a_4.es.length) (fun i8 ih8 => ?_) 0 (by omega))
        intro hn8
        refine goes_R (R := (HasB 300000000 (.bool))) ?_
        show wp _ _ _ u4T1 _
        refine bS (d := a_4) (sh_fld1 rfl i_a_4.one) ?_
        refine bS (d := dI ((a_4.es.length : Nat) : Int)) (sh_len i_a_4) ?_
        refine bS sk_lss ?_
        refine iD rfl (fun c9 => ?_) (fun c9 => ?_)
        ·
         refine bS (d := a_4) (sh_fld1 rfl i_a_4.one) ?_
         obtain ⟨x10, e_x10⟩ := get_at (d := a_4) (s := ((i8 : Nat) : Int)) (by omega) (by omega)
         obtain ⟨_, rfl, x10_0, _, rfl, h_x10_0, x10_1, _, rfl, h_x10_1, x10_2, _, rfl, h_x10_2, x10_3, _, rfl, h_x10_3, _, _, rfl, ⟨x10_4, rfl⟩, _, _, rfl, ⟨x10_5, rfl⟩, rfl⟩ := (elem_ofB h_a_4 e_x10)
         have i_x10_0 := isSl_ofB h_x10_0
         have b_x10_0 := len_leB h_x10_0
         have i_x10_1 := isSl_ofB h_x10_1
         have b_x10_1 := len_leB h_x10_1
         have i_x10_2 := isSl_ofB h_x10_2
         have b_x10_2 := len_leB h_x10_2
         have i_x10_3 := isSl_ofB h_x10_3
         have b_x10_3 := len_leB h_x10_3
         refine bS (d := dB (true)) (si_inr (by omega) e_x10) ?_
         refine bS (d := x10_0) (si_elemP (off := 0) i_a_4 (by omega) e_x10 rfl i_x10_0.one (by decide)) ?_
         refine bS (d := dI ((x10_0.es.length : Nat) : Int)) (sh_len i_x10_0) ?_
         refine bS sk_gtr ?_
         refine iD rfl (fun c11 => ?_) (fun c11 => ?_)
         ·
          exact wr_ret rfl hb_bool
         ·
          refine bS (d := dI ((i8 + 1 : Nat) : Int)) (sh_add (cap_bd' (by omega))) ?_
          exact wr_jump rfl (ih8 (by omega) (by omega))
        ·
         obtain ⟨_, ⟨r10, rfl⟩, k_r10⟩ := t10 (a := .agg [a_0, .leaf (.string a_1), a_2, a_3, a_4, dI (a_5), a_6, a_7, a_8]) (hb_st (hbs_cons h_a_0 (hbs_cons (hb_str hs_a_1) (hbs_cons h_a_2 (hbs_cons h_a_3 (hbs_cons h_a_4 (hbs_cons hb_int (hbs_cons h_a_6 (hbs_cons h_a_7 (hbs_cons h_a_8 hbs_nil)))))))))) (by intro cs hcs x hx; cases hcs; cases hx; exact hp) (by intro cs hcs x hx; cases hcs; cases hx; exact hq)
         refine cS (d := dI (r10)) k_r10 ?_
         refine bS sk_eql ?_
         exact wr_ret rfl hb_bool
end Go.Proofs.YtbdamohgaleajaaGreatDoor
