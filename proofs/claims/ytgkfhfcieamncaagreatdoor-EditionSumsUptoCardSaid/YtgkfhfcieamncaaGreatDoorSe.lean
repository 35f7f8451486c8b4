/- What the program's writers write. Conditions: none. -/
import Derived.Test.YtgkfhfcieamncaaGreatDoorSd
set_option linter.unusedVariables false
set_option linter.unusedSimpArgs false
namespace Go.Proofs.YtgkfhfcieamncaaGreatDoor
open Go Go.Am Go.Proofs Go.Am.Tt
attribute [local irreducible] Go.Am.wp Go.Am.TOp.eval
theorem W35 {x : D} (h : Wd (.sl 127 2 (.st [(.int .i64), (.int .i64)])) x) : Wm EE 35 m35_0 x (enc (.sl 127 2 (.st [(.int .i64), (.int .i64)])) x) := by
  intro b l hb hl
  suffices hh : ∃ d, IsY d (l ++ enc (.sl 127 2 (.st [(.int .i64), (.int .i64)])) x) ∧ Goes EE (Holds EE) w35_0Ts 0 [x, b] d by
    obtain ⟨d, hd, hg⟩ := hh; exact ⟨d, hd, w35_0 hg ⟨[d], rfl, rfl⟩⟩
  refine goes_R ?_
  show wp _ _ _ w35_0T0 _
  refine wp_bindE (ρ' := [_, _, dI (x.es.length : Int)]) (sh_len (wd_sl h).1) rfl rfl ?_
  obtain ⟨b1, h1, z1⟩ := (number_ok (n := (x.es.length : Int)) (by have := (wd_sl h).2.1; omega) (by have := (wd_sl h).2.1; omega)) hb (by simp only [enc, encs, List.length_append, List.length_nil, List.append_nil, List.nil_append] at hl ⊢; omega)
  refine wp_callM (rs := [b1]) (ρ' := [_, _, _, b1]) z1 rfl rfl rfl ?_
  refine wp_bindE (ρ' := [_, _, _, _, dI (x.es.length : Int)]) (sh_len (wd_sl h).1) rfl rfl ?_
  have ln2 := (wd_sl h).2.1
  refine wr_jump rfl ?_
  refine loop_wr (es := x.es) (enc := enc (.st [(.int .i64), (.int .i64)])) (ρ := fun i2 b => [x, dI (x.es.length : Int), dI (i2 : Int), b]) (l0 := (l ++ encI (x.es.length : Int))) ?_ (fun i2 x2 b2 l2 hx2 hi2 hb2 hl2 next2 => ?_) (fun b2 hb2 => ?_) b1 h1
  · simp only [enc, encs, List.length_append, List.length_nil, List.append_nil, List.nil_append] at hl ⊢; omega
  · have w2 := (wd_sl h).2.2 x2 (List.mem_of_getElem? hx2)
    obtain ⟨cs3, rfl, k3⟩ := wd_st w2
    obtain ⟨y3_0, r3_0, rfl, g3_0, k3⟩ := wds_cons k3
    obtain ⟨y3_1, r3_1, rfl, g3_1, k3⟩ := wds_cons k3
    obtain rfl := wds_nil k3
    refine goes_R ?_
    show wp _ _ _ w35_0T1 _
    refine wp_bindE (ρ' := [_, _, _, _, dB true]) (by rw [show true = decide ((i2 : Int) < (x.es.length : Int)) from (decide_eq_true (by omega)).symm]; exact sk_lss) rfl rfl ?_
    refine wp_iteC rfl (fun _ => ?_) (fun c => by cases c)
    refine wp_bindE (ρ' := [_, _, _, _, _, dB true]) (sh_inr hx2) rfl rfl ?_
    refine wp_bindE (ρ' := [_, _, _, _, _, _, .agg [y3_0, y3_1]]) (sh_elemW (wd_sl h).1 hx2 rfl) rfl rfl ?_
    refine wp_bindE (ρ' := [_, _, _, _, _, _, _, .agg [y3_0, y3_1]]) (sh_chkW rfl) rfl rfl ?_
    refine wp_bindE (ρ' := [_, _, _, _, _, _, _, _, y3_0]) (sh_fld1 (off := 0) rfl (wd_one g3_0 (by intro _ e; cases e))) rfl rfl ?_
    obtain ⟨b4, h4, z4⟩ := (W19 g3_0) hb2 (by simp only [enc, encs, List.length_append, List.length_nil, List.append_nil, List.nil_append] at hl2 ⊢; omega)
    refine wp_callM (rs := [b4]) (ρ' := [_, _, _, _, _, _, _, _, _, b4]) z4 rfl rfl rfl ?_
    refine wp_bindE (ρ' := [_, _, _, _, _, _, _, _, _, _, y3_1]) (sh_fld1 (off := 1) rfl (wd_one g3_1 (by intro _ e; cases e))) rfl rfl ?_
    obtain ⟨b5, h5, z5⟩ := (W19 g3_1) h4 (by simp only [enc, encs, List.length_append, List.length_nil, List.append_nil, List.nil_append] at hl2 ⊢; omega)
    refine wp_callM (rs := [b5]) (ρ' := [_, _, _, _, _, _, _, _, _, _, _, b5]) z5 rfl rfl rfl ?_
    refine wp_bindE (ρ' := [_, _, _, _, _, _, _, _, _, _, _, _, dI ((i2 + 1 : Nat) : Int)]) (sh_add (cap_bd' (by have := ln2; omega))) rfl rfl ?_
    exact wr_jump rfl (next2 b5 (by simpa only [enc, encs, List.append_assoc, List.append_nil, List.nil_append] using h5))
  · refine goes_R ?_
    show wp _ _ _ w35_0T1 _
    refine wp_bindE (ρ' := [_, _, _, _, dB false]) (by rw [show false = decide ((x.es.length : Int) < (x.es.length : Int)) from (decide_eq_false (by omega)).symm]; exact sk_lss) rfl rfl ?_
    refine wp_iteC rfl (fun c => by cases c) (fun _ => ?_)
    refine wr_ret (ds := [b2]) rfl ?_
    show IsY b2 _
    simpa only [enc, encs, List.append_assoc, List.append_nil, List.nil_append] using hb2
theorem W50 {x : D} (h : Wd (.sl 200 2 (.st [(.int .i64), (.int .i64)])) x) : Wm EE 50 m50_0 x (enc (.sl 200 2 (.st [(.int .i64), (.int .i64)])) x) := by
  intro b l hb hl
  suffices hh : ∃ d, IsY d (l ++ enc (.sl 200 2 (.st [(.int .i64), (.int .i64)])) x) ∧ Goes EE (Holds EE) w50_0Ts 0 [x, b] d by
    obtain ⟨d, hd, hg⟩ := hh; exact ⟨d, hd, w50_0 hg ⟨[d], rfl, rfl⟩⟩
  refine goes_R ?_
  show wp _ _ _ w50_0T0 _
  refine wp_bindE (ρ' := [_, _, dI (x.es.length : Int)]) (sh_len (wd_sl h).1) rfl rfl ?_
  obtain ⟨b1, h1, z1⟩ := (number_ok (n := (x.es.length : Int)) (by have := (wd_sl h).2.1; omega) (by have := (wd_sl h).2.1; omega)) hb (by simp only [enc, encs, List.length_append, List.length_nil, List.append_nil, List.nil_append] at hl ⊢; omega)
  refine wp_callM (rs := [b1]) (ρ' := [_, _, _, b1]) z1 rfl rfl rfl ?_
  refine wp_bindE (ρ' := [_, _, _, _, dI (x.es.length : Int)]) (sh_len (wd_sl h).1) rfl rfl ?_
  have ln2 := (wd_sl h).2.1
  refine wr_jump rfl ?_
  refine loop_wr (es := x.es) (enc := enc (.st [(.int .i64), (.int .i64)])) (ρ := fun i2 b => [x, dI (x.es.length : Int), dI (i2 : Int), b]) (l0 := (l ++ encI (x.es.length : Int))) ?_ (fun i2 x2 b2 l2 hx2 hi2 hb2 hl2 next2 => ?_) (fun b2 hb2 => ?_) b1 h1
  · simp only [enc, encs, List.length_append, List.length_nil, List.append_nil, List.nil_append] at hl ⊢; omega
  · have w2 := (wd_sl h).2.2 x2 (List.mem_of_getElem? hx2)
    obtain ⟨cs3, rfl, k3⟩ := wd_st w2
    obtain ⟨y3_0, r3_0, rfl, g3_0, k3⟩ := wds_cons k3
    obtain ⟨y3_1, r3_1, rfl, g3_1, k3⟩ := wds_cons k3
    obtain rfl := wds_nil k3
    refine goes_R ?_
    show wp _ _ _ w50_0T1 _
    refine wp_bindE (ρ' := [_, _, _, _, dB true]) (by rw [show true = decide ((i2 : Int) < (x.es.length : Int)) from (decide_eq_true (by omega)).symm]; exact sk_lss) rfl rfl ?_
    refine wp_iteC rfl (fun _ => ?_) (fun c => by cases c)
    refine wp_bindE (ρ' := [_, _, _, _, _, dB true]) (sh_inr hx2) rfl rfl ?_
    refine wp_bindE (ρ' := [_, _, _, _, _, _, .agg [y3_0, y3_1]]) (sh_elemW (wd_sl h).1 hx2 rfl) rfl rfl ?_
    refine wp_bindE (ρ' := [_, _, _, _, _, _, _, .agg [y3_0, y3_1]]) (sh_chkW rfl) rfl rfl ?_
    refine wp_bindE (ρ' := [_, _, _, _, _, _, _, _, y3_0]) (sh_fld1 (off := 0) rfl (wd_one g3_0 (by intro _ e; cases e))) rfl rfl ?_
    obtain ⟨b4, h4, z4⟩ := (W19 g3_0) hb2 (by simp only [enc, encs, List.length_append, List.length_nil, List.append_nil, List.nil_append] at hl2 ⊢; omega)
    refine wp_callM (rs := [b4]) (ρ' := [_, _, _, _, _, _, _, _, _, b4]) z4 rfl rfl rfl ?_
    refine wp_bindE (ρ' := [_, _, _, _, _, _, _, _, _, _, y3_1]) (sh_fld1 (off := 1) rfl (wd_one g3_1 (by intro _ e; cases e))) rfl rfl ?_
    obtain ⟨b5, h5, z5⟩ := (W19 g3_1) h4 (by simp only [enc, encs, List.length_append, List.length_nil, List.append_nil, List.nil_append] at hl2 ⊢; omega)
    refine wp_callM (rs := [b5]) (ρ' := [_, _, _, _, _, _, _, _, _, _, _, b5]) z5 rfl rfl rfl ?_
    refine wp_bindE (ρ' := [_, _, _, _, _, _, _, _, _, _, _, _, dI ((i2 + 1 : Nat) : Int)]) (sh_add (cap_bd' (by have := ln2; omega))) rfl rfl ?_
    exact wr_jump rfl (next2 b5 (by simpa only [enc, encs, List.append_assoc, List.append_nil, List.nil_append] using h5))
  · refine goes_R ?_
    show wp _ _ _ w50_0T1 _
    refine wp_bindE (ρ' := [_, _, _, _, dB false]) (by rw [show false = decide ((x.es.length : Int) < (x.es.length : Int)) from (decide_eq_false (by omega)).symm]; exact sk_lss) rfl rfl ?_
    refine wp_iteC rfl (fun c => by cases c) (fun _ => ?_)
    refine wr_ret (ds := [b2]) rfl ?_
    show IsY b2 _
    simpa only [enc, encs, List.append_assoc, List.append_nil, List.nil_append] using hb2
theorem W17 {x : D} (h : Wd (.st [(.sl 102 2 (.st [.str, (.int .i64)]))]) x) : Wm EE 17 m17_0 x (enc (.st [(.sl 102 2 (.st [.str, (.int .i64)]))]) x) := by
  intro b l hb hl
  suffices hh : ∃ d, IsY d (l ++ enc (.st [(.sl 102 2 (.st [.str, (.int .i64)]))]) x) ∧ Goes EE (Holds EE) w17_0Ts 0 [x, b] d by
    obtain ⟨d, hd, hg⟩ := hh; exact ⟨d, hd, w17_0 hg ⟨[d], rfl, rfl⟩⟩
  obtain ⟨cs1, rfl, k1⟩ := wd_st h
  obtain ⟨y1_0, r1_0, rfl, g1_0, k1⟩ := wds_cons k1
  obtain rfl := wds_nil k1
  refine goes_R ?_
  show wp _ _ _ w17_0T0 _
  refine wp_bindE (ρ' := [_, _, .agg [y1_0]]) (sh_chkW rfl) rfl rfl ?_
  refine wp_bindE (ρ' := [_, _, _, y1_0]) (sh_fld1 (off := 0) rfl (wd_one g1_0 (by intro _ e; cases e))) rfl rfl ?_
  refine wp_bindE (ρ' := [_, _, _, _, dI (y1_0.es.length : Int)]) (sh_len (wd_sl g1_0).1) rfl rfl ?_
  obtain ⟨b2, h2, z2⟩ := (number_ok (n := (y1_0.es.length : Int)) (by have := (wd_sl g1_0).2.1; omega) (by have := (wd_sl g1_0).2.1; omega)) hb (by simp only [enc, encs, List.length_append, List.length_nil, List.append_nil, List.nil_append] at hl ⊢; omega)
  refine wp_callM (rs := [b2]) (ρ' := [_, _, _, _, _, b2]) z2 rfl rfl rfl ?_
  refine wp_bindE (ρ' := [_, _, _, _, _, _, y1_0]) (sh_fld1 (off := 0) rfl (wd_one g1_0 (by intro _ e; cases e))) rfl rfl ?_
  refine wp_bindE (ρ' := [_, _, _, _, _, _, _, dI (y1_0.es.length : Int)]) (sh_len (wd_sl g1_0).1) rfl rfl ?_
  have ln3 := (wd_sl g1_0).2.1
  refine wr_jump rfl ?_
  refine loop_wr (es := y1_0.es) (enc := enc (.st [.str, (.int .i64)])) (ρ := fun i3 b => [y1_0, dI (y1_0.es.length : Int), dI (i3 : Int), b]) (l0 := (l ++ encI (y1_0.es.length : Int))) ?_ (fun i3 x3 b3 l3 hx3 hi3 hb3 hl3 next3 => ?_) (fun b3 hb3 => ?_) b2 h2
  · simp only [enc, encs, List.length_append, List.length_nil, List.append_nil, List.nil_append] at hl ⊢; omega
  · have w3 := (wd_sl g1_0).2.2 x3 (List.mem_of_getElem? hx3)
    obtain ⟨cs4, rfl, k4⟩ := wd_st w3
    obtain ⟨y4_0, r4_0, rfl, g4_0, k4⟩ := wds_cons k4
    obtain ⟨y4_1, r4_1, rfl, g4_1, k4⟩ := wds_cons k4
    obtain rfl := wds_nil k4
    refine goes_R ?_
    show wp _ _ _ w17_0T1 _
    refine wp_bindE (ρ' := [_, _, _, _, dB true]) (by rw [show true = decide ((i3 : Int) < (y1_0.es.length : Int)) from (decide_eq_true (by omega)).symm]; exact sk_lss) rfl rfl ?_
    refine wp_iteC rfl (fun _ => ?_) (fun c => by cases c)
    refine wp_bindE (ρ' := [_, _, _, _, _, dB true]) (sh_inr hx3) rfl rfl ?_
    refine wp_bindE (ρ' := [_, _, _, _, _, _, .agg [y4_0, y4_1]]) (sh_elemW (wd_sl g1_0).1 hx3 rfl) rfl rfl ?_
    refine wp_bindE (ρ' := [_, _, _, _, _, _, _, .agg [y4_0, y4_1]]) (sh_chkW rfl) rfl rfl ?_
    refine wp_bindE (ρ' := [_, _, _, _, _, _, _, _, y4_0]) (sh_fld1 (off := 0) rfl (wd_one g4_0 (by intro _ e; cases e))) rfl rfl ?_
    obtain ⟨b5, h5, z5⟩ := (W31 g4_0) hb3 (by simp only [enc, encs, List.length_append, List.length_nil, List.append_nil, List.nil_append] at hl3 ⊢; omega)
    refine wp_callM (rs := [b5]) (ρ' := [_, _, _, _, _, _, _, _, _, b5]) z5 rfl rfl rfl ?_
    refine wp_bindE (ρ' := [_, _, _, _, _, _, _, _, _, _, y4_1]) (sh_fld1 (off := 1) rfl (wd_one g4_1 (by intro _ e; cases e))) rfl rfl ?_
    obtain ⟨b6, h6, z6⟩ := (W19 g4_1) h5 (by simp only [enc, encs, List.length_append, List.length_nil, List.append_nil, List.nil_append] at hl3 ⊢; omega)
    refine wp_callM (rs := [b6]) (ρ' := [_, _, _, _, _, _, _, _, _, _, _, b6]) z6 rfl rfl rfl ?_
    refine wp_bindE (ρ' := [_, _, _, _, _, _, _, _, _, _, _, _, dI ((i3 + 1 : Nat) : Int)]) (sh_add (cap_bd' (by have := ln3; omega))) rfl rfl ?_
    exact wr_jump rfl (next3 b6 (by simpa only [enc, encs, List.append_assoc, List.append_nil, List.nil_append] using h6))
  · refine goes_R ?_
    show wp _ _ _ w17_0T1 _
    refine wp_bindE (ρ' := [_, _, _, _, dB false]) (by rw [show false = decide ((y1_0.es.length : Int) < (y1_0.es.length : Int)) from (decide_eq_false (by omega)).symm]; exact sk_lss) rfl rfl ?_
    refine wp_iteC rfl (fun c => by cases c) (fun _ => ?_)
    refine wr_ret (ds := [b3]) rfl ?_
    show IsY b3 _
    simpa only [enc, encs, List.append_assoc, List.append_nil, List.nil_append] using hb3
theorem W18 {x : D} (h : Wd (.st [.str, (.sl 121 2 (.st [.str, (.sl 3 1 (.int .i64))])), (.sl 68 1 (.sl 9 1 .str))]) x) : Wm EE 18 m18_0 x (enc (.st [.str, (.sl 121 2 (.st [.str, (.sl 3 1 (.int .i64))])), (.sl 68 1 (.sl 9 1 .str))]) x) := by
  intro b l hb hl
  suffices hh : ∃ d, IsY d (l ++ enc (.st [.str, (.sl 121 2 (.st [.str, (.sl 3 1 (.int .i64))])), (.sl 68 1 (.sl 9 1 .str))]) x) ∧ Goes EE (Holds EE) w18_0Ts 0 [x, b] d by
    obtain ⟨d, hd, hg⟩ := hh; exact ⟨d, hd, w18_0 hg ⟨[d], rfl, rfl⟩⟩
  obtain ⟨cs1, rfl, k1⟩ := wd_st h
  obtain ⟨y1_0, r1_0, rfl, g1_0, k1⟩ := wds_cons k1
  obtain ⟨y1_1, r1_1, rfl, g1_1, k1⟩ := wds_cons k1
  obtain ⟨y1_2, r1_2, rfl, g1_2, k1⟩ := wds_cons k1
  obtain rfl := wds_nil k1
  refine goes_R ?_
  show wp _ _ _ w18_0T0 _
  refine wp_bindE (ρ' := [_, _, .agg [y1_0, y1_1, y1_2]]) (sh_chkW rfl) rfl rfl ?_
  refine wp_bindE (ρ' := [_, _, _, y1_0]) (sh_fld1 (off := 0) rfl (wd_one g1_0 (by intro _ e; cases e))) rfl rfl ?_
  obtain ⟨b2, h2, z2⟩ := (W31 g1_0) hb (by simp only [enc, encs, List.length_append, List.length_nil, List.append_nil, List.nil_append] at hl ⊢; omega)
  refine wp_callM (rs := [b2]) (ρ' := [_, _, _, _, b2]) z2 rfl rfl rfl ?_
  refine wp_bindE (ρ' := [_, _, _, _, _, y1_1]) (sh_fld1 (off := 1) rfl (wd_one g1_1 (by intro _ e; cases e))) rfl rfl ?_
  refine wp_bindE (ρ' := [_, _, _, _, _, _, dI (y1_1.es.length : Int)]) (sh_len (wd_sl g1_1).1) rfl rfl ?_
  obtain ⟨b3, h3, z3⟩ := (number_ok (n := (y1_1.es.length : Int)) (by have := (wd_sl g1_1).2.1; omega) (by have := (wd_sl g1_1).2.1; omega)) h2 (by simp only [enc, encs, List.length_append, List.length_nil, List.append_nil, List.nil_append] at hl ⊢; omega)
  refine wp_callM (rs := [b3]) (ρ' := [_, _, _, _, _, _, _, b3]) z3 rfl rfl rfl ?_
  refine wp_bindE (ρ' := [_, _, _, _, _, _, _, _, y1_1]) (sh_fld1 (off := 1) rfl (wd_one g1_1 (by intro _ e; cases e))) rfl rfl ?_
  refine wp_bindE (ρ' := [_, _, _, _, _, _, _, _, _, dI (y1_1.es.length : Int)]) (sh_len (wd_sl g1_1).1) rfl rfl ?_
  have ln4 := (wd_sl g1_1).2.1
  refine wr_jump rfl ?_
  refine loop_wr (es := y1_1.es) (enc := enc (.st [.str, (.sl 3 1 (.int .i64))])) (ρ := fun i4 b => [y1_1, dI (y1_1.es.length : Int), dI (i4 : Int), b, .agg [y1_0, y1_1, y1_2]]) (l0 := ((l ++ enc .str y1_0) ++ encI (y1_1.es.length : Int))) ?_ (fun i4 x4 b4 l4 hx4 hi4 hb4 hl4 next4 => ?_) (fun b4 hb4 => ?_) b3 h3
  · simp only [enc, encs, List.length_append, List.length_nil, List.append_nil, List.nil_append] at hl ⊢; omega
  · have w4 := (wd_sl g1_1).2.2 x4 (List.mem_of_getElem? hx4)
    obtain ⟨cs5, rfl, k5⟩ := wd_st w4
    obtain ⟨y5_0, r5_0, rfl, g5_0, k5⟩ := wds_cons k5
    obtain ⟨y5_1, r5_1, rfl, g5_1, k5⟩ := wds_cons k5
    obtain rfl := wds_nil k5
    refine goes_R ?_
    show wp _ _ _ w18_0T1 _
    refine wp_bindE (ρ' := [_, _, _, _, _, dB true]) (by rw [show true = decide ((i4 : Int) < (y1_1.es.length : Int)) from (decide_eq_true (by omega)).symm]; exact sk_lss) rfl rfl ?_
    refine wp_iteC rfl (fun _ => ?_) (fun c => by cases c)
    refine wp_bindE (ρ' := [_, _, _, _, _, _, dB true]) (sh_inr hx4) rfl rfl ?_
    refine wp_bindE (ρ' := [_, _, _, _, _, _, _, .agg [y5_0, y5_1]]) (sh_elemW (wd_sl g1_1).1 hx4 rfl) rfl rfl ?_
    refine wp_bindE (ρ' := [_, _, _, _, _, _, _, _, .agg [y5_0, y5_1]]) (sh_chkW rfl) rfl rfl ?_
    refine wp_bindE (ρ' := [_, _, _, _, _, _, _, _, _, y5_0]) (sh_fld1 (off := 0) rfl (wd_one g5_0 (by intro _ e; cases e))) rfl rfl ?_
    obtain ⟨b6, h6, z6⟩ := (W31 g5_0) hb4 (by simp only [enc, encs, List.length_append, List.length_nil, List.append_nil, List.nil_append] at hl4 ⊢; omega)
    refine wp_callM (rs := [b6]) (ρ' := [_, _, _, _, _, _, _, _, _, _, b6]) z6 rfl rfl rfl ?_
    refine wp_bindE (ρ' := [_, _, _, _, _, _, _, _, _, _, _, y5_1]) (sh_fld1 (off := 1) rfl (wd_one g5_1 (by intro _ e; cases e))) rfl rfl ?_
    obtain ⟨b7, h7, z7⟩ := (W32 g5_1) h6 (by simp only [enc, encs, List.length_append, List.length_nil, List.append_nil, List.nil_append] at hl4 ⊢; omega)
    refine wp_callM (rs := [b7]) (ρ' := [_, _, _, _, _, _, _, _, _, _, _, _, b7]) z7 rfl rfl rfl ?_
    refine wp_bindE (ρ' := [_, _, _, _, _, _, _, _, _, _, _, _, _, dI ((i4 + 1 : Nat) : Int)]) (sh_add (cap_bd' (by have := ln4; omega))) rfl rfl ?_
    exact wr_jump rfl (next4 b7 (by simpa only [enc, encs, List.append_assoc, List.append_nil, List.nil_append] using h7))
  · refine goes_R ?_
    show wp _ _ _ w18_0T1 _
    refine wp_bindE (ρ' := [_, _, _, _, _, dB false]) (by rw [show false = decide ((y1_1.es.length : Int) < (y1_1.es.length : Int)) from (decide_eq_false (by omega)).symm]; exact sk_lss) rfl rfl ?_
    refine wp_iteC rfl (fun c => by cases c) (fun _ => ?_)
    refine wp_bindE (ρ' := [_, _, _, _, _, _, y1_2]) (sh_fld1 (off := 2) rfl (wd_one g1_2 (by intro _ e; cases e))) rfl rfl ?_
    refine wp_bindE (ρ' := [_, _, _, _, _, _, _, dI (y1_2.es.length : Int)]) (sh_len (wd_sl g1_2).1) rfl rfl ?_
    obtain ⟨b8, h8, z8⟩ := (number_ok (n := (y1_2.es.length : Int)) (by have := (wd_sl g1_2).2.1; omega) (by have := (wd_sl g1_2).2.1; omega)) hb4 (by simp only [enc, encs, List.length_append, List.length_nil, List.append_nil, List.nil_append] at hl ⊢; omega)
    refine wp_callM (rs := [b8]) (ρ' := [_, _, _, _, _, _, _, _, b8]) z8 rfl rfl rfl ?_
    refine wp_bindE (ρ' := [_, _, _, _, _, _, _, _, _, y1_2]) (sh_fld1 (off := 2) rfl (wd_one g1_2 (by intro _ e; cases e))) rfl rfl ?_
    refine wp_bindE (ρ' := [_, _, _, _, _, _, _, _, _, _, dI (y1_2.es.length : Int)]) (sh_len (wd_sl g1_2).1) rfl rfl ?_
    have ln9 := (wd_sl g1_2).2.1
    refine wr_jump rfl ?_
    refine loop_wr (es := y1_2.es) (enc := enc (.sl 9 1 .str)) (ρ := fun i9 b => [y1_2, dI (y1_2.es.length : Int), dI (i9 : Int), b]) (l0 := ((((l ++ enc .str y1_0) ++ encI (y1_1.es.length : Int)) ++ y1_1.es.flatMap (enc (.st [.str, (.sl 3 1 (.int .i64))]))) ++ encI (y1_2.es.length : Int))) ?_ (fun i9 x9 b9 l9 hx9 hi9 hb9 hl9 next9 => ?_) (fun b9 hb9 => ?_) b8 h8
    · simp only [enc, encs, List.length_append, List.length_nil, List.append_nil, List.nil_append] at hl ⊢; omega
    · have w9 := (wd_sl g1_2).2.2 x9 (List.mem_of_getElem? hx9)
      refine goes_R ?_
      show wp _ _ _ w18_0T2 _
      refine wp_bindE (ρ' := [_, _, _, _, dB true]) (by rw [show true = decide ((i9 : Int) < (y1_2.es.length : Int)) from (decide_eq_true (by omega)).symm]; exact sk_lss) rfl rfl ?_
      refine wp_iteC rfl (fun _ => ?_) (fun c => by cases c)
      refine wp_bindE (ρ' := [_, _, _, _, _, dB true]) (sh_inr hx9) rfl rfl ?_
      refine wp_bindE (ρ' := [_, _, _, _, _, _, x9]) (sh_elem1 (wd_sl g1_2).1 hx9 (wd_one w9 (by intro _ e; cases e))) rfl rfl ?_
      refine wp_bindE (ρ' := [_, _, _, _, _, _, _, dI (x9.es.length : Int)]) (sh_len (wd_sl w9).1) rfl rfl ?_
      obtain ⟨b10, h10, z10⟩ := (number_ok (n := (x9.es.length : Int)) (by have := (wd_sl w9).2.1; omega) (by have := (wd_sl w9).2.1; omega)) hb9 (by simp only [enc, encs, List.length_append, List.length_nil, List.append_nil, List.nil_append] at hl9 ⊢; omega)
      refine wp_callM (rs := [b10]) (ρ' := [_, _, _, _, _, _, _, _, b10]) z10 rfl rfl rfl ?_
      refine wp_bindE (ρ' := [_, _, _, _, _, _, _, _, _, dI (x9.es.length : Int)]) (sh_len (wd_sl w9).1) rfl rfl ?_
      have ln11 := (wd_sl w9).2.1
      refine wr_jump rfl ?_
      refine loop_wr (es := x9.es) (enc := enc .str) (ρ := fun i11 b => [y1_2, dI (y1_2.es.length : Int), dI (i9 : Int), x9, dI (x9.es.length : Int), dI (i11 : Int), b]) (l0 := (l9 ++ encI (x9.es.length : Int))) ?_ (fun i11 x11 b11 l11 hx11 hi11 hb11 hl11 next11 => ?_) (fun b11 hb11 => ?_) b10 h10
      · simp only [enc, encs, List.length_append, List.length_nil, List.append_nil, List.nil_append] at hl9 ⊢; omega
      · have w11 := (wd_sl w9).2.2 x11 (List.mem_of_getElem? hx11)
        refine goes_R ?_
        show wp _ _ _ w18_0T3 _
        refine wp_bindE (ρ' := [_, _, _, _, _, _, _, dB true]) (by rw [show true = decide ((i11 : Int) < (x9.es.length : Int)) from (decide_eq_true (by omega)).symm]; exact sk_lss) rfl rfl ?_
        refine wp_iteC rfl (fun _ => ?_) (fun c => by cases c)
        refine wp_bindE (ρ' := [_, _, _, _, _, _, _, _, dB true]) (sh_inr hx11) rfl rfl ?_
        refine wp_bindE (ρ' := [_, _, _, _, _, _, _, _, _, x11]) (sh_elem1 (wd_sl w9).1 hx11 (wd_one w11 (by intro _ e; cases e))) rfl rfl ?_
        obtain ⟨b12, h12, z12⟩ := (W31 w11) hb11 (by simp only [enc, encs, List.length_append, List.length_nil, List.append_nil, List.nil_append] at hl11 ⊢; omega)
        refine wp_callM (rs := [b12]) (ρ' := [_, _, _, _, _, _, _, _, _, _, b12]) z12 rfl rfl rfl ?_
        refine wp_bindE (ρ' := [_, _, _, _, _, _, _, _, _, _, _, dI ((i11 + 1 : Nat) : Int)]) (sh_add (cap_bd' (by have := ln11; omega))) rfl rfl ?_
        exact wr_jump rfl (next11 b12 (by simpa only [enc, encs, List.append_assoc, List.append_nil, List.nil_append] using h12))
      · refine goes_R ?_
        show wp _ _ _ w18_0T3 _
        refine wp_bindE (ρ' := [_, _, _, _, _, _, _, dB false]) (by rw [show false = decide ((x9.es.length : Int) < (x9.es.length : Int)) from (decide_eq_false (by omega)).symm]; exact sk_lss) rfl rfl ?_
        refine wp_iteC rfl (fun c => by cases c) (fun _ => ?_)
        refine wp_bindE (ρ' := [_, _, _, _, _, _, _, _, dI ((i9 + 1 : Nat) : Int)]) (sh_add (cap_bd' (by have := ln9; omega))) rfl rfl ?_
        exact wr_jump rfl (next9 b11 (by simpa only [enc, encs, List.append_assoc, List.append_nil, List.nil_append] using hb11))
    · refine goes_R ?_
      show wp _ _ _ w18_0T2 _
      refine wp_bindE (ρ' := [_, _, _, _, dB false]) (by rw [show false = decide ((y1_2.es.length : Int) < (y1_2.es.length : Int)) from (decide_eq_false (by omega)).symm]; exact sk_lss) rfl rfl ?_
      refine wp_iteC rfl (fun c => by cases c) (fun _ => ?_)
      refine wr_ret (ds := [b9]) rfl ?_
      show IsY b9 _
      simpa only [enc, encs, List.append_assoc, List.append_nil, List.nil_append] using hb9
theorem W20 {x : D} (h : Wd (.st [(.sl 3 1 (.int .i64)), (.sl 3 1 (.int .i64)), (.sl 200 2 (.st [(.int .i64), (.int .i64)])), (.sl 200 2 (.st [(.int .i64), (.int .i64)])), .bool, .bool]) x) : Wm EE 20 m20_0 x (enc (.st [(.sl 3 1 (.int .i64)), (.sl 3 1 (.int .i64)), (.sl 200 2 (.st [(.int .i64), (.int .i64)])), (.sl 200 2 (.st [(.int .i64), (.int .i64)])), .bool, .bool]) x) := by
  intro b l hb hl
  suffices hh : ∃ d, IsY d (l ++ enc (.st [(.sl 3 1 (.int .i64)), (.sl 3 1 (.int .i64)), (.sl 200 2 (.st [(.int .i64), (.int .i64)])), (.sl 200 2 (.st [(.int .i64), (.int .i64)])), .bool, .bool]) x) ∧ Goes EE (Holds EE) w20_0Ts 0 [x, b] d by
    obtain ⟨d, hd, hg⟩ := hh; exact ⟨d, hd, w20_0 hg ⟨[d], rfl, rfl⟩⟩
  obtain ⟨cs1, rfl, k1⟩ := wd_st h
  obtain ⟨y1_0, r1_0, rfl, g1_0, k1⟩ := wds_cons k1
  obtain ⟨y1_1, r1_1, rfl, g1_1, k1⟩ := wds_cons k1
  obtain ⟨y1_2, r1_2, rfl, g1_2, k1⟩ := wds_cons k1
  obtain ⟨y1_3, r1_3, rfl, g1_3, k1⟩ := wds_cons k1
  obtain ⟨y1_4, r1_4, rfl, g1_4, k1⟩ := wds_cons k1
  obtain ⟨y1_5, r1_5, rfl, g1_5, k1⟩ := wds_cons k1
  obtain rfl := wds_nil k1
  refine goes_R ?_
  show wp _ _ _ w20_0T0 _
  refine wp_bindE (ρ' := [_, _, .agg [y1_0, y1_1, y1_2, y1_3, y1_4, y1_5]]) (sh_chkW rfl) rfl rfl ?_
  refine wp_bindE (ρ' := [_, _, _, y1_0]) (sh_fld1 (off := 0) rfl (wd_one g1_0 (by intro _ e; cases e))) rfl rfl ?_
  obtain ⟨b2, h2, z2⟩ := (W32 g1_0) hb (by simp only [enc, encs, List.length_append, List.length_nil, List.append_nil, List.nil_append] at hl ⊢; omega)
  refine wp_callM (rs := [b2]) (ρ' := [_, _, _, _, b2]) z2 rfl rfl rfl ?_
  refine wp_bindE (ρ' := [_, _, _, _, _, y1_1]) (sh_fld1 (off := 1) rfl (wd_one g1_1 (by intro _ e; cases e))) rfl rfl ?_
  obtain ⟨b3, h3, z3⟩ := (W32 g1_1) h2 (by simp only [enc, encs, List.length_append, List.length_nil, List.append_nil, List.nil_append] at hl ⊢; omega)
  refine wp_callM (rs := [b3]) (ρ' := [_, _, _, _, _, _, b3]) z3 rfl rfl rfl ?_
  refine wp_bindE (ρ' := [_, _, _, _, _, _, _, y1_2]) (sh_fld1 (off := 2) rfl (wd_one g1_2 (by intro _ e; cases e))) rfl rfl ?_
  obtain ⟨b4, h4, z4⟩ := (W50 g1_2) h3 (by simp only [enc, encs, List.length_append, List.length_nil, List.append_nil, List.nil_append] at hl ⊢; omega)
  refine wp_callM (rs := [b4]) (ρ' := [_, _, _, _, _, _, _, _, b4]) z4 rfl rfl rfl ?_
  refine wp_bindE (ρ' := [_, _, _, _, _, _, _, _, _, y1_3]) (sh_fld1 (off := 3) rfl (wd_one g1_3 (by intro _ e; cases e))) rfl rfl ?_
  obtain ⟨b5, h5, z5⟩ := (W50 g1_3) h4 (by simp only [enc, encs, List.length_append, List.length_nil, List.append_nil, List.nil_append] at hl ⊢; omega)
  refine wp_callM (rs := [b5]) (ρ' := [_, _, _, _, _, _, _, _, _, _, b5]) z5 rfl rfl rfl ?_
  refine wp_bindE (ρ' := [_, _, _, _, _, _, _, _, _, _, _, y1_4]) (sh_fld1 (off := 4) rfl (wd_one g1_4 (by intro _ e; cases e))) rfl rfl ?_
  obtain ⟨b6, h6, z6⟩ := (W51 g1_4) h5 (by simp only [enc, encs, List.length_append, List.length_nil, List.append_nil, List.nil_append] at hl ⊢; omega)
  refine wp_callM (rs := [b6]) (ρ' := [_, _, _, _, _, _, _, _, _, _, _, _, b6]) z6 rfl rfl rfl ?_
  refine wp_bindE (ρ' := [_, _, _, _, _, _, _, _, _, _, _, _, _, y1_5]) (sh_fld1 (off := 5) rfl (wd_one g1_5 (by intro _ e; cases e))) rfl rfl ?_
  obtain ⟨b7, h7, z7⟩ := (W51 g1_5) h6 (by simp only [enc, encs, List.length_append, List.length_nil, List.append_nil, List.nil_append] at hl ⊢; omega)
  refine wp_callM (rs := [b7]) (ρ' := [_, _, _, _, _, _, _, _, _, _, _, _, _, _, b7]) z7 rfl rfl rfl ?_
  refine wr_ret (ds := [b7]) rfl ?_
  show IsY b7 _
  simpa only [enc, encs, List.append_assoc, List.append_nil, List.nil_append] using h7
theorem W21 {x : D} (h : Wd (.st [(.int .i64), (.sl 123 3 (.st [(.int .i64), (.int .i64), (.int .i64)])), (.sl 3 1 (.int .i64))]) x) : Wm EE 21 m21_0 x (enc (.st [(.int .i64), (.sl 123 3 (.st [(.int .i64), (.int .i64), (.int .i64)])), (.sl 3 1 (.int .i64))]) x) := by
  intro b l hb hl
  suffices hh : ∃ d, IsY d (l ++ enc (.st [(.int .i64), (.sl 123 3 (.st [(.int .i64), (.int .i64), (.int .i64)])), (.sl 3 1 (.int .i64))]) x) ∧ Goes EE (Holds EE) w21_0Ts 0 [x, b] d by
    obtain ⟨d, hd, hg⟩ := hh; exact ⟨d, hd, w21_0 hg ⟨[d], rfl, rfl⟩⟩
  obtain ⟨cs1, rfl, k1⟩ := wd_st h
  obtain ⟨y1_0, r1_0, rfl, g1_0, k1⟩ := wds_cons k1
  obtain ⟨y1_1, r1_1, rfl, g1_1, k1⟩ := wds_cons k1
  obtain ⟨y1_2, r1_2, rfl, g1_2, k1⟩ := wds_cons k1
  obtain rfl := wds_nil k1
  refine goes_R ?_
  show wp _ _ _ w21_0T0 _
  refine wp_bindE (ρ' := [_, _, .agg [y1_0, y1_1, y1_2]]) (sh_chkW rfl) rfl rfl ?_
  refine wp_bindE (ρ' := [_, _, _, y1_0]) (sh_fld1 (off := 0) rfl (wd_one g1_0 (by intro _ e; cases e))) rfl rfl ?_
  obtain ⟨b2, h2, z2⟩ := (W19 g1_0) hb (by simp only [enc, encs, List.length_append, List.length_nil, List.append_nil, List.nil_append] at hl ⊢; omega)
  refine wp_callM (rs := [b2]) (ρ' := [_, _, _, _, b2]) z2 rfl rfl rfl ?_
  refine wp_bindE (ρ' := [_, _, _, _, _, y1_1]) (sh_fld1 (off := 1) rfl (wd_one g1_1 (by intro _ e; cases e))) rfl rfl ?_
  refine wp_bindE (ρ' := [_, _, _, _, _, _, dI (y1_1.es.length : Int)]) (sh_len (wd_sl g1_1).1) rfl rfl ?_
  obtain ⟨b3, h3, z3⟩ := (number_ok (n := (y1_1.es.length : Int)) (by have := (wd_sl g1_1).2.1; omega) (by have := (wd_sl g1_1).2.1; omega)) h2 (by simp only [enc, encs, List.length_append, List.length_nil, List.append_nil, List.nil_append] at hl ⊢; omega)
  refine wp_callM (rs := [b3]) (ρ' := [_, _, _, _, _, _, _, b3]) z3 rfl rfl rfl ?_
  refine wp_bindE (ρ' := [_, _, _, _, _, _, _, _, y1_1]) (sh_fld1 (off := 1) rfl (wd_one g1_1 (by intro _ e; cases e))) rfl rfl ?_
  refine wp_bindE (ρ' := [_, _, _, _, _, _, _, _, _, dI (y1_1.es.length : Int)]) (sh_len (wd_sl g1_1).1) rfl rfl ?_
  have ln4 := (wd_sl g1_1).2.1
  refine wr_jump rfl ?_
  refine loop_wr (es := y1_1.es) (enc := enc (.st [(.int .i64), (.int .i64), (.int .i64)])) (ρ := fun i4 b => [y1_1, dI (y1_1.es.length : Int), dI (i4 : Int), b, .agg [y1_0, y1_1, y1_2]]) (l0 := ((l ++ enc (.int .i64) y1_0) ++ encI (y1_1.es.length : Int))) ?_ (fun i4 x4 b4 l4 hx4 hi4 hb4 hl4 next4 => ?_) (fun b4 hb4 => ?_) b3 h3
  · simp only [enc, encs, List.length_append, List.length_nil, List.append_nil, List.nil_append] at hl ⊢; omega
  · have w4 := (wd_sl g1_1).2.2 x4 (List.mem_of_getElem? hx4)
    obtain ⟨cs5, rfl, k5⟩ := wd_st w4
    obtain ⟨y5_0, r5_0, rfl, g5_0, k5⟩ := wds_cons k5
    obtain ⟨y5_1, r5_1, rfl, g5_1, k5⟩ := wds_cons k5
    obtain ⟨y5_2, r5_2, rfl, g5_2, k5⟩ := wds_cons k5
    obtain rfl := wds_nil k5
    refine goes_R ?_
    show wp _ _ _ w21_0T1 _
    refine wp_bindE (ρ' := [_, _, _, _, _, dB true]) (by rw [show true = decide ((i4 : Int) < (y1_1.es.length : Int)) from (decide_eq_true (by omega)).symm]; exact sk_lss) rfl rfl ?_
    refine wp_iteC rfl (fun _ => ?_) (fun c => by cases c)
    refine wp_bindE (ρ' := [_, _, _, _, _, _, dB true]) (sh_inr hx4) rfl rfl ?_
    refine wp_bindE (ρ' := [_, _, _, _, _, _, _, .agg [y5_0, y5_1, y5_2]]) (sh_elemW (wd_sl g1_1).1 hx4 rfl) rfl rfl ?_
    refine wp_bindE (ρ' := [_, _, _, _, _, _, _, _, .agg [y5_0, y5_1, y5_2]]) (sh_chkW rfl) rfl rfl ?_
    refine wp_bindE (ρ' := [_, _, _, _, _, _, _, _, _, y5_0]) (sh_fld1 (off := 0) rfl (wd_one g5_0 (by intro _ e; cases e))) rfl rfl ?_
    obtain ⟨b6, h6, z6⟩ := (W19 g5_0) hb4 (by simp only [enc, encs, List.length_append, List.length_nil, List.append_nil, List.nil_append] at hl4 ⊢; omega)
    refine wp_callM (rs := [b6]) (ρ' := [_, _, _, _, _, _, _, _, _, _, b6]) z6 rfl rfl rfl ?_
    refine wp_bindE (ρ' := [_, _, _, _, _, _, _, _, _, _, _, y5_1]) (sh_fld1 (off := 1) rfl (wd_one g5_1 (by intro _ e; cases e))) rfl rfl ?_
    obtain ⟨b7, h7, z7⟩ := (W19 g5_1) h6 (by simp only [enc, encs, List.length_append, List.length_nil, List.append_nil, List.nil_append] at hl4 ⊢; omega)
    refine wp_callM (rs := [b7]) (ρ' := [_, _, _, _, _, _, _, _, _, _, _, _, b7]) z7 rfl rfl rfl ?_
    refine wp_bindE (ρ' := [_, _, _, _, _, _, _, _, _, _, _, _, _, y5_2]) (sh_fld1 (off := 2) rfl (wd_one g5_2 (by intro _ e; cases e))) rfl rfl ?_
    obtain ⟨b8, h8, z8⟩ := (W19 g5_2) h7 (by simp only [enc, encs, List.length_append, List.length_nil, List.append_nil, List.nil_append] at hl4 ⊢; omega)
    refine wp_callM (rs := [b8]) (ρ' := [_, _, _, _, _, _, _, _, _, _, _, _, _, _, b8]) z8 rfl rfl rfl ?_
    refine wp_bindE (ρ' := [_, _, _, _, _, _, _, _, _, _, _, _, _, _, _, dI ((i4 + 1 : Nat) : Int)]) (sh_add (cap_bd' (by have := ln4; omega))) rfl rfl ?_
    exact wr_jump rfl (next4 b8 (by simpa only [enc, encs, List.append_assoc, List.append_nil, List.nil_append] using h8))
  · refine goes_R ?_
    show wp _ _ _ w21_0T1 _
    refine wp_bindE (ρ' := [_, _, _, _, _, dB false]) (by rw [show false = decide ((y1_1.es.length : Int) < (y1_1.es.length : Int)) from (decide_eq_false (by omega)).symm]; exact sk_lss) rfl rfl ?_
    refine wp_iteC rfl (fun c => by cases c) (fun _ => ?_)
    refine wp_bindE (ρ' := [_, _, _, _, _, _, y1_2]) (sh_fld1 (off := 2) rfl (wd_one g1_2 (by intro _ e; cases e))) rfl rfl ?_
    obtain ⟨b9, h9, z9⟩ := (W32 g1_2) hb4 (by simp only [enc, encs, List.length_append, List.length_nil, List.append_nil, List.nil_append] at hl ⊢; omega)
    refine wp_callM (rs := [b9]) (ρ' := [_, _, _, _, _, _, _, b9]) z9 rfl rfl rfl ?_
    refine wr_ret (ds := [b9]) rfl ?_
    show IsY b9 _
    simpa only [enc, encs, List.append_assoc, List.append_nil, List.nil_append] using h9
theorem W22 {x : D} (h : Wd (.st [(.int .i64), (.sl 3 1 (.int .i64)), (.int .i64), (.sl 31 1 (.sl 3 1 (.int .i64))), (.int .i64), (.sl 125 2 (.st [.str, .str])), (.sl 148 2 (.st [(.int .i64), (.int .i64)])), (.sl 127 2 (.st [(.int .i64), (.int .i64)]))]) x) : Wm EE 22 m22_0 x (enc (.st [(.int .i64), (.sl 3 1 (.int .i64)), (.int .i64), (.sl 31 1 (.sl 3 1 (.int .i64))), (.int .i64), (.sl 125 2 (.st [.str, .str])), (.sl 148 2 (.st [(.int .i64), (.int .i64)])), (.sl 127 2 (.st [(.int .i64), (.int .i64)]))]) x) := by
  intro b l hb hl
  suffices hh : ∃ d, IsY d (l ++ enc (.st [(.int .i64), (.sl 3 1 (.int .i64)), (.int .i64), (.sl 31 1 (.sl 3 1 (.int .i64))), (.int .i64), (.sl 125 2 (.st [.str, .str])), (.sl 148 2 (.st [(.int .i64), (.int .i64)])), (.sl 127 2 (.st [(.int .i64), (.int .i64)]))]) x) ∧ Goes EE (Holds EE) w22_0Ts 0 [x, b] d by
    obtain ⟨d, hd, hg⟩ := hh; exact ⟨d, hd, w22_0 hg ⟨[d], rfl, rfl⟩⟩
  obtain ⟨cs1, rfl, k1⟩ := wd_st h
  obtain ⟨y1_0, r1_0, rfl, g1_0, k1⟩ := wds_cons k1
  obtain ⟨y1_1, r1_1, rfl, g1_1, k1⟩ := wds_cons k1
  obtain ⟨y1_2, r1_2, rfl, g1_2, k1⟩ := wds_cons k1
  obtain ⟨y1_3, r1_3, rfl, g1_3, k1⟩ := wds_cons k1
  obtain ⟨y1_4, r1_4, rfl, g1_4, k1⟩ := wds_cons k1
  obtain ⟨y1_5, r1_5, rfl, g1_5, k1⟩ := wds_cons k1
  obtain ⟨y1_6, r1_6, rfl, g1_6, k1⟩ := wds_cons k1
  obtain ⟨y1_7, r1_7, rfl, g1_7, k1⟩ := wds_cons k1
  obtain rfl := wds_nil k1
  refine goes_R ?_
  show wp _ _ _ w22_0T0 _
  refine wp_bindE (ρ' := [_, _, .agg [y1_0, y1_1, y1_2, y1_3, y1_4, y1_5, y1_6, y1_7]]) (sh_chkW rfl) rfl rfl ?_
  refine wp_bindE (ρ' := [_, _, _, y1_0]) (sh_fld1 (off := 0) rfl (wd_one g1_0 (by intro _ e; cases e))) rfl rfl ?_
  obtain ⟨b2, h2, z2⟩ := (W19 g1_0) hb (by simp only [enc, encs, List.length_append, List.length_nil, List.append_nil, List.nil_append] at hl ⊢; omega)
  refine wp_callM (rs := [b2]) (ρ' := [_, _, _, _, b2]) z2 rfl rfl rfl ?_
  refine wp_bindE (ρ' := [_, _, _, _, _, y1_1]) (sh_fld1 (off := 1) rfl (wd_one g1_1 (by intro _ e; cases e))) rfl rfl ?_
  obtain ⟨b3, h3, z3⟩ := (W32 g1_1) h2 (by simp only [enc, encs, List.length_append, List.length_nil, List.append_nil, List.nil_append] at hl ⊢; omega)
  refine wp_callM (rs := [b3]) (ρ' := [_, _, _, _, _, _, b3]) z3 rfl rfl rfl ?_
  refine wp_bindE (ρ' := [_, _, _, _, _, _, _, y1_2]) (sh_fld1 (off := 2) rfl (wd_one g1_2 (by intro _ e; cases e))) rfl rfl ?_
  obtain ⟨b4, h4, z4⟩ := (W19 g1_2) h3 (by simp only [enc, encs, List.length_append, List.length_nil, List.append_nil, List.nil_append] at hl ⊢; omega)
  refine wp_callM (rs := [b4]) (ρ' := [_, _, _, _, _, _, _, _, b4]) z4 rfl rfl rfl ?_
  refine wp_bindE (ρ' := [_, _, _, _, _, _, _, _, _, y1_3]) (sh_fld1 (off := 3) rfl (wd_one g1_3 (by intro _ e; cases e))) rfl rfl ?_
  refine wp_bindE (ρ' := [_, _, _, _, _, _, _, _, _, _, dI (y1_3.es.length : Int)]) (sh_len (wd_sl g1_3).1) rfl rfl ?_
  obtain ⟨b5, h5, z5⟩ := (number_ok (n := (y1_3.es.length : Int)) (by have := (wd_sl g1_3).2.1; omega) (by have := (wd_sl g1_3).2.1; omega)) h4 (by simp only [enc, encs, List.length_append, List.length_nil, List.append_nil, List.nil_append] at hl ⊢; omega)
  refine wp_callM (rs := [b5]) (ρ' := [_, _, _, _, _, _, _, _, _, _, _, b5]) z5 rfl rfl rfl ?_
  refine wp_bindE (ρ' := [_, _, _, _, _, _, _, _, _, _, _, _, y1_3]) (sh_fld1 (off := 3) rfl (wd_one g1_3 (by intro _ e; cases e))) rfl rfl ?_
  refine wp_bindE (ρ' := [_, _, _, _, _, _, _, _, _, _, _, _, _, dI (y1_3.es.length : Int)]) (sh_len (wd_sl g1_3).1) rfl rfl ?_
  have ln6 := (wd_sl g1_3).2.1
  refine wr_jump rfl ?_
  refine loop_wr (es := y1_3.es) (enc := enc (.sl 3 1 (.int .i64))) (ρ := fun i6 b => [y1_3, dI (y1_3.es.length : Int), dI (i6 : Int), b, .agg [y1_0, y1_1, y1_2, y1_3, y1_4, y1_5, y1_6, y1_7]]) (l0 := ((((l ++ enc (.int .i64) y1_0) ++ enc (.sl 3 1 (.int .i64)) y1_1) ++ enc (.int .i64) y1_2) ++ encI (y1_3.es.length : Int))) ?_ (fun i6 x6 b6 l6 hx6 hi6 hb6 hl6 next6 => ?_) (fun b6 hb6 => ?_) b5 h5
  · simp only [enc, encs, List.length_append, List.length_nil, List.append_nil, List.nil_append] at hl ⊢; omega
  · have w6 := (wd_sl g1_3).2.2 x6 (List.mem_of_getElem? hx6)
    refine goes_R ?_
    show wp _ _ _ w22_0T1 _
    refine wp_bindE (ρ' := [_, _, _, _, _, dB true]) (by rw [show true = decide ((i6 : Int) < (y1_3.es.length : Int)) from (decide_eq_true (by omega)).symm]; exact sk_lss) rfl rfl ?_
    refine wp_iteC rfl (fun _ => ?_) (fun c => by cases c)
    refine wp_bindE (ρ' := [_, _, _, _, _, _, dB true]) (sh_inr hx6) rfl rfl ?_
    refine wp_bindE (ρ' := [_, _, _, _, _, _, _, x6]) (sh_elem1 (wd_sl g1_3).1 hx6 (wd_one w6 (by intro _ e; cases e))) rfl rfl ?_
    obtain ⟨b7, h7, z7⟩ := (W32 w6) hb6 (by simp only [enc, encs, List.length_append, List.length_nil, List.append_nil, List.nil_append] at hl6 ⊢; omega)
    refine wp_callM (rs := [b7]) (ρ' := [_, _, _, _, _, _, _, _, b7]) z7 rfl rfl rfl ?_
    refine wp_bindE (ρ' := [_, _, _, _, _, _, _, _, _, dI ((i6 + 1 : Nat) : Int)]) (sh_add (cap_bd' (by have := ln6; omega))) rfl rfl ?_
    exact wr_jump rfl (next6 b7 (by simpa only [enc, encs, List.append_assoc, List.append_nil, List.nil_append] using h7))
  · refine goes_R ?_
    show wp _ _ _ w22_0T1 _
    refine wp_bindE (ρ' := [_, _, _, _, _, dB false]) (by rw [show false = decide ((y1_3.es.length : Int) < (y1_3.es.length : Int)) from (decide_eq_false (by omega)).symm]; exact sk_lss) rfl rfl ?_
    refine wp_iteC rfl (fun c => by cases c) (fun _ => ?_)
    refine wp_bindE (ρ' := [_, _, _, _, _, _, y1_4]) (sh_fld1 (off := 4) rfl (wd_one g1_4 (by intro _ e; cases e))) rfl rfl ?_
    obtain ⟨b8, h8, z8⟩ := (W19 g1_4) hb6 (by simp only [enc, encs, List.length_append, List.length_nil, List.append_nil, List.nil_append] at hl ⊢; omega)
    refine wp_callM (rs := [b8]) (ρ' := [_, _, _, _, _, _, _, b8]) z8 rfl rfl rfl ?_
    refine wp_bindE (ρ' := [_, _, _, _, _, _, _, _, y1_5]) (sh_fld1 (off := 5) rfl (wd_one g1_5 (by intro _ e; cases e))) rfl rfl ?_
    refine wp_bindE (ρ' := [_, _, _, _, _, _, _, _, _, dI (y1_5.es.length : Int)]) (sh_len (wd_sl g1_5).1) rfl rfl ?_
    obtain ⟨b9, h9, z9⟩ := (number_ok (n := (y1_5.es.length : Int)) (by have := (wd_sl g1_5).2.1; omega) (by have := (wd_sl g1_5).2.1; omega)) h8 (by simp only [enc, encs, List.length_append, List.length_nil, List.append_nil, List.nil_append] at hl ⊢; omega)
    refine wp_callM (rs := [b9]) (ρ' := [_, _, _, _, _, _, _, _, _, _, b9]) z9 rfl rfl rfl ?_
    refine wp_bindE (ρ' := [_, _, _, _, _, _, _, _, _, _, _, y1_5]) (sh_fld1 (off := 5) rfl (wd_one g1_5 (by intro _ e; cases e))) rfl rfl ?_
    refine wp_bindE (ρ' := [_, _, _, _, _, _, _, _, _, _, _, _, dI (y1_5.es.length : Int)]) (sh_len (wd_sl g1_5).1) rfl rfl ?_
    have ln10 := (wd_sl g1_5).2.1
    refine wr_jump rfl ?_
    refine loop_wr (es := y1_5.es) (enc := enc (.st [.str, .str])) (ρ := fun i10 b => [y1_5, dI (y1_5.es.length : Int), dI (i10 : Int), b, .agg [y1_0, y1_1, y1_2, y1_3, y1_4, y1_5, y1_6, y1_7]]) (l0 := (((((((l ++ enc (.int .i64) y1_0) ++ enc (.sl 3 1 (.int .i64)) y1_1) ++ enc (.int .i64) y1_2) ++ encI (y1_3.es.length : Int)) ++ y1_3.es.flatMap (enc (.sl 3 1 (.int .i64)))) ++ enc (.int .i64) y1_4) ++ encI (y1_5.es.length : Int))) ?_ (fun i10 x10 b10 l10 hx10 hi10 hb10 hl10 next10 => ?_) (fun b10 hb10 => ?_) b9 h9
    · simp only [enc, encs, List.length_append, List.length_nil, List.append_nil, List.nil_append] at hl ⊢; omega
    · have w10 := (wd_sl g1_5).2.2 x10 (List.mem_of_getElem? hx10)
      obtain ⟨cs11, rfl, k11⟩ := wd_st w10
      obtain ⟨y11_0, r11_0, rfl, g11_0, k11⟩ := wds_cons k11
      obtain ⟨y11_1, r11_1, rfl, g11_1, k11⟩ := wds_cons k11
      obtain rfl := wds_nil k11
      refine goes_R ?_
      show wp _ _ _ w22_0T2 _
      refine wp_bindE (ρ' := [_, _, _, _, _, dB true]) (by rw [show true = decide ((i10 : Int) < (y1_5.es.length : Int)) from (decide_eq_true (by omega)).symm]; exact sk_lss) rfl rfl ?_
      refine wp_iteC rfl (fun _ => ?_) (fun c => by cases c)
      refine wp_bindE (ρ' := [_, _, _, _, _, _, dB true]) (sh_inr hx10) rfl rfl ?_
      refine wp_bindE (ρ' := [_, _, _, _, _, _, _, .agg [y11_0, y11_1]]) (sh_elemW (wd_sl g1_5).1 hx10 rfl) rfl rfl ?_
      refine wp_bindE (ρ' := [_, _, _, _, _, _, _, _, .agg [y11_0, y11_1]]) (sh_chkW rfl) rfl rfl ?_
      refine wp_bindE (ρ' := [_, _, _, _, _, _, _, _, _, y11_0]) (sh_fld1 (off := 0) rfl (wd_one g11_0 (by intro _ e; cases e))) rfl rfl ?_
      obtain ⟨b12, h12, z12⟩ := (W31 g11_0) hb10 (by simp only [enc, encs, List.length_append, List.length_nil, List.append_nil, List.nil_append] at hl10 ⊢; omega)
      refine wp_callM (rs := [b12]) (ρ' := [_, _, _, _, _, _, _, _, _, _, b12]) z12 rfl rfl rfl ?_
      refine wp_bindE (ρ' := [_, _, _, _, _, _, _, _, _, _, _, y11_1]) (sh_fld1 (off := 1) rfl (wd_one g11_1 (by intro _ e; cases e))) rfl rfl ?_
      obtain ⟨b13, h13, z13⟩ := (W31 g11_1) h12 (by simp only [enc, encs, List.length_append, List.length_nil, List.append_nil, List.nil_append] at hl10 ⊢; omega)
      refine wp_callM (rs := [b13]) (ρ' := [_, _, _, _, _, _, _, _, _, _, _, _, b13]) z13 rfl rfl rfl ?_
      refine wp_bindE (ρ' := [_, _, _, _, _, _, _, _, _, _, _, _, _, dI ((i10 + 1 : Nat) : Int)]) (sh_add (cap_bd' (by have := ln10; omega))) rfl rfl ?_
      exact wr_jump rfl (next10 b13 (by simpa only [enc, encs, List.append_assoc, List.append_nil, List.nil_append] using h13))
    · refine goes_R ?_
      show wp _ _ _ w22_0T2 _
      refine wp_bindE (ρ' := [_, _, _, _, _, dB false]) (by rw [show false = decide ((y1_5.es.length : Int) < (y1_5.es.length : Int)) from (decide_eq_false (by omega)).symm]; exact sk_lss) rfl rfl ?_
      refine wp_iteC rfl (fun c => by cases c) (fun _ => ?_)
      refine wp_bindE (ρ' := [_, _, _, _, _, _, y1_6]) (sh_fld1 (off := 6) rfl (wd_one g1_6 (by intro _ e; cases e))) rfl rfl ?_
      refine wp_bindE (ρ' := [_, _, _, _, _, _, _, dI (y1_6.es.length : Int)]) (sh_len (wd_sl g1_6).1) rfl rfl ?_
      obtain ⟨b14, h14, z14⟩ := (number_ok (n := (y1_6.es.length : Int)) (by have := (wd_sl g1_6).2.1; omega) (by have := (wd_sl g1_6).2.1; omega)) hb10 (by simp only [enc, encs, List.length_append, List.length_nil, List.append_nil, List.nil_append] at hl ⊢; omega)
      refine wp_callM (rs := [b14]) (ρ' := [_, _, _, _, _, _, _, _, b14]) z14 rfl rfl rfl ?_
      refine wp_bindE (ρ' := [_, _, _, _, _, _, _, _, _, y1_6]) (sh_fld1 (off := 6) rfl (wd_one g1_6 (by intro _ e; cases e))) rfl rfl ?_
      refine wp_bindE (ρ' := [_, _, _, _, _, _, _, _, _, _, dI (y1_6.es.length : Int)]) (sh_len (wd_sl g1_6).1) rfl rfl ?_
      have ln15 := (wd_sl g1_6).2.1
      refine wr_jump rfl ?_
      refine loop_wr (es := y1_6.es) (enc := enc (.st [(.int .i64), (.int .i64)])) (ρ := fun i15 b => [y1_6, dI (y1_6.es.length : Int), dI (i15 : Int), b, .agg [y1_0, y1_1, y1_2, y1_3, y1_4, y1_5, y1_6, y1_7]]) (l0 := (((((((((l ++ enc (.int .i64) y1_0) ++ enc (.sl 3 1 (.int .i64)) y1_1) ++ enc (.int .i64) y1_2) ++ encI (y1_3.es.length : Int)) ++ y1_3.es.flatMap (enc (.sl 3 1 (.int .i64)))) ++ enc (.int .i64) y1_4) ++ encI (y1_5.es.length : Int)) ++ y1_5.es.flatMap (enc (.st [.str, .str]))) ++ encI (y1_6.es.length : Int))) ?_ (fun i15 x15 b15 l15 hx15 hi15 hb15 hl15 next15 => ?_) (fun b15 hb15 => ?_) b14 h14
      · simp only [enc, encs, List.length_append, List.length_nil, List.append_nil, List.nil_append] at hl ⊢; omega
      · have w15 := (wd_sl g1_6).2.2 x15 (List.mem_of_getElem? hx15)
        obtain ⟨cs16, rfl, k16⟩ := wd_st w15
        obtain ⟨y16_0, r16_0, rfl, g16_0, k16⟩ := wds_cons k16
        obtain ⟨y16_1, r16_1, rfl, g16_1, k16⟩ := wds_cons k16
        obtain rfl := wds_nil k16
        refine goes_R ?_
        show wp _ _ _ w22_0T3 _
        refine wp_bindE (ρ' := [_, _, _, _, _, dB true]) (by rw [show true = decide ((i15 : Int) < (y1_6.es.length : Int)) from (decide_eq_true (by omega)).symm]; exact sk_lss) rfl rfl ?_
        refine wp_iteC rfl (fun _ => ?_) (fun c => by cases c)
        refine wp_bindE (ρ' := [_, _, _, _, _, _, dB true]) (sh_inr hx15) rfl rfl ?_
        refine wp_bindE (ρ' := [_, _, _, _, _, _, _, .agg [y16_0, y16_1]]) (sh_elemW (wd_sl g1_6).1 hx15 rfl) rfl rfl ?_
        refine wp_bindE (ρ' := [_, _, _, _, _, _, _, _, .agg [y16_0, y16_1]]) (sh_chkW rfl) rfl rfl ?_
        refine wp_bindE (ρ' := [_, _, _, _, _, _, _, _, _, y16_0]) (sh_fld1 (off := 0) rfl (wd_one g16_0 (by intro _ e; cases e))) rfl rfl ?_
        obtain ⟨b17, h17, z17⟩ := (W19 g16_0) hb15 (by simp only [enc, encs, List.length_append, List.length_nil, List.append_nil, List.nil_append] at hl15 ⊢; omega)
        refine wp_callM (rs := [b17]) (ρ' := [_, _, _, _, _, _, _, _, _, _, b17]) z17 rfl rfl rfl ?_
        refine wp_bindE (ρ' := [_, _, _, _, _, _, _, _, _, _, _, y16_1]) (sh_fld1 (off := 1) rfl (wd_one g16_1 (by intro _ e; cases e))) rfl rfl ?_
        obtain ⟨b18, h18, z18⟩ := (W19 g16_1) h17 (by simp only [enc, encs, List.length_append, List.length_nil, List.append_nil, List.nil_append] at hl15 ⊢; omega)
        refine wp_callM (rs := [b18]) (ρ' := [_, _, _, _, _, _, _, _, _, _, _, _, b18]) z18 rfl rfl rfl ?_
        refine wp_bindE (ρ' := [_, _, _, _, _, _, _, _, _, _, _, _, _, dI ((i15 + 1 : Nat) : Int)]) (sh_add (cap_bd' (by have := ln15; omega))) rfl rfl ?_
        exact wr_jump rfl (next15 b18 (by simpa only [enc, encs, List.append_assoc, List.append_nil, List.nil_append] using h18))
      · refine goes_R ?_
        show wp _ _ _ w22_0T3 _
        refine wp_bindE (ρ' := [_, _, _, _, _, dB false]) (by rw [show false = decide ((y1_6.es.length : Int) < (y1_6.es.length : Int)) from (decide_eq_false (by omega)).symm]; exact sk_lss) rfl rfl ?_
        refine wp_iteC rfl (fun c => by cases c) (fun _ => ?_)
        refine wp_bindE (ρ' := [_, _, _, _, _, _, y1_7]) (sh_fld1 (off := 7) rfl (wd_one g1_7 (by intro _ e; cases e))) rfl rfl ?_
        obtain ⟨b19, h19, z19⟩ := (W35 g1_7) hb15 (by simp only [enc, encs, List.length_append, List.length_nil, List.append_nil, List.nil_append] at hl ⊢; omega)
        refine wp_callM (rs := [b19]) (ρ' := [_, _, _, _, _, _, _, b19]) z19 rfl rfl rfl ?_
        refine wr_ret (ds := [b19]) rfl ?_
        show IsY b19 _
        simpa only [enc, encs, List.append_assoc, List.append_nil, List.nil_append] using h19
end Go.Proofs.YtgkfhfcieamncaaGreatDoor
