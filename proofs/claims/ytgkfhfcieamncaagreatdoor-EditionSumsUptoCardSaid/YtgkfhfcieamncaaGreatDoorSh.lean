/- What the specification writes. Conditions: none. -/
import Derived.Test.YtgkfhfcieamncaaGreatDoorSg
set_option linter.unusedVariables false
set_option linter.unusedSimpArgs false
namespace Go.Proofs.YtgkfhfcieamncaaGreatDoor
open Go Go.Am Go.Proofs Go.Am.Tt
attribute [local irreducible] Go.Am.wp Go.Am.TOp.eval
theorem R33 {x : D} (h : Wd (.sl 3 1 (.int .i64)) x) : Wf EE 33 x (enc (.sl 3 1 (.int .i64)) x) := by
  intro b l hb hl
  suffices hh : ∃ d, IsY d (l ++ enc (.sl 3 1 (.int .i64)) x) ∧ Goes EE (Holds EE) u33Ts 0 [b, x] d by
    obtain ⟨d, hd, hg⟩ := hh; exact ⟨d, hd, u33 rfl hg⟩
  refine goes_R ?_
  show wp _ _ _ u33T0 _
  refine wp_bindE (ρ' := [_, _, dI (x.es.length : Int)]) (sh_len (wd_sl h).1) rfl rfl ?_
  obtain ⟨b1, h1, z1⟩ := (rnumP_ok (n := (x.es.length : Int)) (by have := (wd_sl h).2.1; omega) (by have := (wd_sl h).2.1; omega)) hb (by simp only [enc, encs, List.length_append, List.length_nil, List.append_nil, List.nil_append] at hl ⊢; omega)
  refine wp_callE (ρ' := [_, _, _, b1]) z1 rfl rfl rfl rfl ?_
  refine wp_bindE (ρ' := [_, _, _, _, dI (x.es.length : Int)]) (sh_len (wd_sl h).1) rfl rfl ?_
  have ln2 := (wd_sl h).2.1
  refine wr_jump rfl ?_
  refine loop_wr (es := x.es) (enc := enc (.int .i64)) (ρ := fun i2 b => [x, b, dI (x.es.length : Int), dI (i2 : Int)]) (l0 := (l ++ encI (x.es.length : Int))) ?_ (fun i2 x2 b2 l2 hx2 hi2 hb2 hl2 next2 => ?_) (fun b2 hb2 => ?_) b1 h1
  · simp only [enc, encs, List.length_append, List.length_nil, List.append_nil, List.nil_append] at hl ⊢; omega
  · have w2 := (wd_sl h).2.2 x2 (List.mem_of_getElem? hx2)
    refine goes_R ?_
    show wp _ _ _ u33T1 _
    refine wp_bindE (ρ' := [_, _, _, _, dB true]) (by rw [show true = decide ((i2 : Int) < (x.es.length : Int)) from (decide_eq_true (by omega)).symm]; exact sk_lss) rfl rfl ?_
    refine wp_iteC rfl (fun _ => ?_) (fun c => by cases c)
    refine wp_bindE (ρ' := [_, _, _, _, _, dB true]) (sh_inr hx2) rfl rfl ?_
    refine wp_bindE (ρ' := [_, _, _, _, _, _, x2]) (sh_elem1 (wd_sl h).1 hx2 (wd_one w2 (by intro _ e; cases e))) rfl rfl ?_
    obtain ⟨b3, h3, z3⟩ := (R24 w2) hb2 (by simp only [enc, encs, List.length_append, List.length_nil, List.append_nil, List.nil_append] at hl2 ⊢; omega)
    refine wp_callE (ρ' := [_, _, _, _, _, _, _, b3]) z3 rfl rfl rfl rfl ?_
    refine wp_bindE (ρ' := [_, _, _, _, _, _, _, _, dI ((i2 + 1 : Nat) : Int)]) (sh_add (cap_bd' (by have := ln2; omega))) rfl rfl ?_
    exact wr_jump rfl (next2 b3 (by simpa only [enc, encs, List.append_assoc, List.append_nil, List.nil_append] using h3))
  · refine goes_R ?_
    show wp _ _ _ u33T1 _
    refine wp_bindE (ρ' := [_, _, _, _, dB false]) (by rw [show false = decide ((x.es.length : Int) < (x.es.length : Int)) from (decide_eq_false (by omega)).symm]; exact sk_lss) rfl rfl ?_
    refine wp_iteC rfl (fun c => by cases c) (fun _ => ?_)
    refine wr_ret (ds := [b2]) rfl ?_
    show IsY b2 _
    simpa only [enc, encs, List.append_assoc, List.append_nil, List.nil_append] using hb2
theorem R36 {x : D} (h : Wd (.sl 127 2 (.st [(.int .i64), (.int .i64)])) x) : Wf EE 36 x (enc (.sl 127 2 (.st [(.int .i64), (.int .i64)])) x) := by
  intro b l hb hl
  suffices hh : ∃ d, IsY d (l ++ enc (.sl 127 2 (.st [(.int .i64), (.int .i64)])) x) ∧ Goes EE (Holds EE) u36Ts 0 [b, x] d by
    obtain ⟨d, hd, hg⟩ := hh; exact ⟨d, hd, u36 rfl hg⟩
  refine goes_R ?_
  show wp _ _ _ u36T0 _
  refine wp_bindE (ρ' := [_, _, dI (x.es.length : Int)]) (sh_len (wd_sl h).1) rfl rfl ?_
  obtain ⟨b1, h1, z1⟩ := (rnumP_ok (n := (x.es.length : Int)) (by have := (wd_sl h).2.1; omega) (by have := (wd_sl h).2.1; omega)) hb (by simp only [enc, encs, List.length_append, List.length_nil, List.append_nil, List.nil_append] at hl ⊢; omega)
  refine wp_callE (ρ' := [_, _, _, b1]) z1 rfl rfl rfl rfl ?_
  have ln2 := (wd_sl h).2.1
  refine wr_jump rfl ?_
  refine loop_wr (es := x.es) (enc := enc (.st [(.int .i64), (.int .i64)])) (ρ := fun i2 b => [b, x, dI (i2 : Int)]) (l0 := (l ++ encI (x.es.length : Int))) ?_ (fun i2 x2 b2 l2 hx2 hi2 hb2 hl2 next2 => ?_) (fun b2 hb2 => ?_) b1 h1
  · simp only [enc, encs, List.length_append, List.length_nil, List.append_nil, List.nil_append] at hl ⊢; omega
  · have w2 := (wd_sl h).2.2 x2 (List.mem_of_getElem? hx2)
    obtain ⟨cs3, rfl, k3⟩ := wd_st w2
    obtain ⟨y3_0, r3_0, rfl, g3_0, k3⟩ := wds_cons k3
    obtain ⟨y3_1, r3_1, rfl, g3_1, k3⟩ := wds_cons k3
    obtain rfl := wds_nil k3
    refine goes_R ?_
    show wp _ _ _ u36T1 _
    refine wp_bindE (ρ' := [_, _, _, dI (x.es.length : Int)]) (sh_len (wd_sl h).1) rfl rfl ?_
    refine wp_bindE (ρ' := [_, _, _, _, dB true]) (by rw [show true = decide ((i2 : Int) < (x.es.length : Int)) from (decide_eq_true (by omega)).symm]; exact sk_lss) rfl rfl ?_
    refine wp_iteC rfl (fun _ => ?_) (fun c => by cases c)
    refine wp_bindE (ρ' := [_, _, _, _, _, dB true]) (sh_inr hx2) rfl rfl ?_
    refine wp_bindE (ρ' := [_, _, _, _, _, _, y3_0]) (sh_elemP (off := 0) (wd_sl h).1 hx2 rfl (wd_one g3_0 (by intro _ e; cases e)) (by decide)) rfl rfl ?_
    obtain ⟨b4, h4, z4⟩ := (R24 g3_0) hb2 (by simp only [enc, encs, List.length_append, List.length_nil, List.append_nil, List.nil_append] at hl2 ⊢; omega)
    refine wp_callE (ρ' := [_, _, _, _, _, _, _, b4]) z4 rfl rfl rfl rfl ?_
    refine wp_bindE (ρ' := [_, _, _, _, _, _, _, _, dB true]) (sh_inr hx2) rfl rfl ?_
    refine wp_bindE (ρ' := [_, _, _, _, _, _, _, _, _, y3_1]) (sh_elemP (off := 1) (wd_sl h).1 hx2 rfl (wd_one g3_1 (by intro _ e; cases e)) (by decide)) rfl rfl ?_
    obtain ⟨b5, h5, z5⟩ := (R24 g3_1) h4 (by simp only [enc, encs, List.length_append, List.length_nil, List.append_nil, List.nil_append] at hl2 ⊢; omega)
    refine wp_callE (ρ' := [_, _, _, _, _, _, _, _, _, _, b5]) z5 rfl rfl rfl rfl ?_
    refine wp_bindE (ρ' := [_, _, _, _, _, _, _, _, _, _, _, dI ((i2 + 1 : Nat) : Int)]) (sh_add (cap_bd' (by have := ln2; omega))) rfl rfl ?_
    exact wr_jump rfl (next2 b5 (by simpa only [enc, encs, List.append_assoc, List.append_nil, List.nil_append] using h5))
  · refine goes_R ?_
    show wp _ _ _ u36T1 _
    refine wp_bindE (ρ' := [_, _, _, dI (x.es.length : Int)]) (sh_len (wd_sl h).1) rfl rfl ?_
    refine wp_bindE (ρ' := [_, _, _, _, dB false]) (by rw [show false = decide ((x.es.length : Int) < (x.es.length : Int)) from (decide_eq_false (by omega)).symm]; exact sk_lss) rfl rfl ?_
    refine wp_iteC rfl (fun c => by cases c) (fun _ => ?_)
    refine wr_ret (ds := [b2]) rfl ?_
    show IsY b2 _
    simpa only [enc, encs, List.append_assoc, List.append_nil, List.nil_append] using hb2
theorem R53 {x : D} (h : Wd (.sl 200 2 (.st [(.int .i64), (.int .i64)])) x) : Wf EE 53 x (enc (.sl 200 2 (.st [(.int .i64), (.int .i64)])) x) := by
  intro b l hb hl
  suffices hh : ∃ d, IsY d (l ++ enc (.sl 200 2 (.st [(.int .i64), (.int .i64)])) x) ∧ Goes EE (Holds EE) u53Ts 0 [b, x] d by
    obtain ⟨d, hd, hg⟩ := hh; exact ⟨d, hd, u53 rfl hg⟩
  refine goes_R ?_
  show wp _ _ _ u53T0 _
  refine wp_bindE (ρ' := [_, _, dI (x.es.length : Int)]) (sh_len (wd_sl h).1) rfl rfl ?_
  obtain ⟨b1, h1, z1⟩ := (rnumP_ok (n := (x.es.length : Int)) (by have := (wd_sl h).2.1; omega) (by have := (wd_sl h).2.1; omega)) hb (by simp only [enc, encs, List.length_append, List.length_nil, List.append_nil, List.nil_append] at hl ⊢; omega)
  refine wp_callE (ρ' := [_, _, _, b1]) z1 rfl rfl rfl rfl ?_
  have ln2 := (wd_sl h).2.1
  refine wr_jump rfl ?_
  refine loop_wr (es := x.es) (enc := enc (.st [(.int .i64), (.int .i64)])) (ρ := fun i2 b => [b, x, dI (i2 : Int)]) (l0 := (l ++ encI (x.es.length : Int))) ?_ (fun i2 x2 b2 l2 hx2 hi2 hb2 hl2 next2 => ?_) (fun b2 hb2 => ?_) b1 h1
  · simp only [enc, encs, List.length_append, List.length_nil, List.append_nil, List.nil_append] at hl ⊢; omega
  · have w2 := (wd_sl h).2.2 x2 (List.mem_of_getElem? hx2)
    obtain ⟨cs3, rfl, k3⟩ := wd_st w2
    obtain ⟨y3_0, r3_0, rfl, g3_0, k3⟩ := wds_cons k3
    obtain ⟨y3_1, r3_1, rfl, g3_1, k3⟩ := wds_cons k3
    obtain rfl := wds_nil k3
    refine goes_R ?_
    show wp _ _ _ u53T1 _
    refine wp_bindE (ρ' := [_, _, _, dI (x.es.length : Int)]) (sh_len (wd_sl h).1) rfl rfl ?_
    refine wp_bindE (ρ' := [_, _, _, _, dB true]) (by rw [show true = decide ((i2 : Int) < (x.es.length : Int)) from (decide_eq_true (by omega)).symm]; exact sk_lss) rfl rfl ?_
    refine wp_iteC rfl (fun _ => ?_) (fun c => by cases c)
    refine wp_bindE (ρ' := [_, _, _, _, _, dB true]) (sh_inr hx2) rfl rfl ?_
    refine wp_bindE (ρ' := [_, _, _, _, _, _, y3_0]) (sh_elemP (off := 0) (wd_sl h).1 hx2 rfl (wd_one g3_0 (by intro _ e; cases e)) (by decide)) rfl rfl ?_
    obtain ⟨b4, h4, z4⟩ := (R24 g3_0) hb2 (by simp only [enc, encs, List.length_append, List.length_nil, List.append_nil, List.nil_append] at hl2 ⊢; omega)
    refine wp_callE (ρ' := [_, _, _, _, _, _, _, b4]) z4 rfl rfl rfl rfl ?_
    refine wp_bindE (ρ' := [_, _, _, _, _, _, _, _, dB true]) (sh_inr hx2) rfl rfl ?_
    refine wp_bindE (ρ' := [_, _, _, _, _, _, _, _, _, y3_1]) (sh_elemP (off := 1) (wd_sl h).1 hx2 rfl (wd_one g3_1 (by intro _ e; cases e)) (by decide)) rfl rfl ?_
    obtain ⟨b5, h5, z5⟩ := (R24 g3_1) h4 (by simp only [enc, encs, List.length_append, List.length_nil, List.append_nil, List.nil_append] at hl2 ⊢; omega)
    refine wp_callE (ρ' := [_, _, _, _, _, _, _, _, _, _, b5]) z5 rfl rfl rfl rfl ?_
    refine wp_bindE (ρ' := [_, _, _, _, _, _, _, _, _, _, _, dI ((i2 + 1 : Nat) : Int)]) (sh_add (cap_bd' (by have := ln2; omega))) rfl rfl ?_
    exact wr_jump rfl (next2 b5 (by simpa only [enc, encs, List.append_assoc, List.append_nil, List.nil_append] using h5))
  · refine goes_R ?_
    show wp _ _ _ u53T1 _
    refine wp_bindE (ρ' := [_, _, _, dI (x.es.length : Int)]) (sh_len (wd_sl h).1) rfl rfl ?_
    refine wp_bindE (ρ' := [_, _, _, _, dB false]) (by rw [show false = decide ((x.es.length : Int) < (x.es.length : Int)) from (decide_eq_false (by omega)).symm]; exact sk_lss) rfl rfl ?_
    refine wp_iteC rfl (fun c => by cases c) (fun _ => ?_)
    refine wr_ret (ds := [b2]) rfl ?_
    show IsY b2 _
    simpa only [enc, encs, List.append_assoc, List.append_nil, List.nil_append] using hb2
theorem R52 {x : D} (h : Wd (.sl 9 1 .str) x) : Wf EE 52 x (enc (.sl 9 1 .str) x) := by
  intro b l hb hl
  suffices hh : ∃ d, IsY d (l ++ enc (.sl 9 1 .str) x) ∧ Goes EE (Holds EE) u52Ts 0 [b, x] d by
    obtain ⟨d, hd, hg⟩ := hh; exact ⟨d, hd, u52 rfl hg⟩
  refine goes_R ?_
  show wp _ _ _ u52T0 _
  refine wp_bindE (ρ' := [_, _, dI (x.es.length : Int)]) (sh_len (wd_sl h).1) rfl rfl ?_
  obtain ⟨b1, h1, z1⟩ := (rnumP_ok (n := (x.es.length : Int)) (by have := (wd_sl h).2.1; omega) (by have := (wd_sl h).2.1; omega)) hb (by simp only [enc, encs, List.length_append, List.length_nil, List.append_nil, List.nil_append] at hl ⊢; omega)
  refine wp_callE (ρ' := [_, _, _, b1]) z1 rfl rfl rfl rfl ?_
  have ln2 := (wd_sl h).2.1
  refine wr_jump rfl ?_
  refine loop_wr (es := x.es) (enc := enc .str) (ρ := fun i2 b => [b, x, dI (i2 : Int)]) (l0 := (l ++ encI (x.es.length : Int))) ?_ (fun i2 x2 b2 l2 hx2 hi2 hb2 hl2 next2 => ?_) (fun b2 hb2 => ?_) b1 h1
  · simp only [enc, encs, List.length_append, List.length_nil, List.append_nil, List.nil_append] at hl ⊢; omega
  · have w2 := (wd_sl h).2.2 x2 (List.mem_of_getElem? hx2)
    refine goes_R ?_
    show wp _ _ _ u52T1 _
    refine wp_bindE (ρ' := [_, _, _, dI (x.es.length : Int)]) (sh_len (wd_sl h).1) rfl rfl ?_
    refine wp_bindE (ρ' := [_, _, _, _, dB true]) (by rw [show true = decide ((i2 : Int) < (x.es.length : Int)) from (decide_eq_true (by omega)).symm]; exact sk_lss) rfl rfl ?_
    refine wp_iteC rfl (fun _ => ?_) (fun c => by cases c)
    refine wp_bindE (ρ' := [_, _, _, _, _, dB true]) (sh_inr hx2) rfl rfl ?_
    refine wp_bindE (ρ' := [_, _, _, _, _, _, x2]) (sh_elem1 (wd_sl h).1 hx2 (wd_one w2 (by intro _ e; cases e))) rfl rfl ?_
    obtain ⟨b3, h3, z3⟩ := (R25 w2) hb2 (by simp only [enc, encs, List.length_append, List.length_nil, List.append_nil, List.nil_append] at hl2 ⊢; omega)
    refine wp_callE (ρ' := [_, _, _, _, _, _, _, b3]) z3 rfl rfl rfl rfl ?_
    refine wp_bindE (ρ' := [_, _, _, _, _, _, _, _, dI ((i2 + 1 : Nat) : Int)]) (sh_add (cap_bd' (by have := ln2; omega))) rfl rfl ?_
    exact wr_jump rfl (next2 b3 (by simpa only [enc, encs, List.append_assoc, List.append_nil, List.nil_append] using h3))
  · refine goes_R ?_
    show wp _ _ _ u52T1 _
    refine wp_bindE (ρ' := [_, _, _, dI (x.es.length : Int)]) (sh_len (wd_sl h).1) rfl rfl ?_
    refine wp_bindE (ρ' := [_, _, _, _, dB false]) (by rw [show false = decide ((x.es.length : Int) < (x.es.length : Int)) from (decide_eq_false (by omega)).symm]; exact sk_lss) rfl rfl ?_
    refine wp_iteC rfl (fun c => by cases c) (fun _ => ?_)
    refine wr_ret (ds := [b2]) rfl ?_
    show IsY b2 _
    simpa only [enc, encs, List.append_assoc, List.append_nil, List.nil_append] using hb2
theorem R55 {x : D} (h : Wd (.sl 31 1 (.sl 3 1 (.int .i64))) x) : Wf EE 55 x (enc (.sl 31 1 (.sl 3 1 (.int .i64))) x) := by
  intro b l hb hl
  suffices hh : ∃ d, IsY d (l ++ enc (.sl 31 1 (.sl 3 1 (.int .i64))) x) ∧ Goes EE (Holds EE) u55Ts 0 [b, x] d by
    obtain ⟨d, hd, hg⟩ := hh; exact ⟨d, hd, u55 rfl hg⟩
  refine goes_R ?_
  show wp _ _ _ u55T0 _
  refine wp_bindE (ρ' := [_, _, dI (x.es.length : Int)]) (sh_len (wd_sl h).1) rfl rfl ?_
  obtain ⟨b1, h1, z1⟩ := (rnumP_ok (n := (x.es.length : Int)) (by have := (wd_sl h).2.1; omega) (by have := (wd_sl h).2.1; omega)) hb (by simp only [enc, encs, List.length_append, List.length_nil, List.append_nil, List.nil_append] at hl ⊢; omega)
  refine wp_callE (ρ' := [_, _, _, b1]) z1 rfl rfl rfl rfl ?_
  have ln2 := (wd_sl h).2.1
  refine wr_jump rfl ?_
  refine loop_wr (es := x.es) (enc := enc (.sl 3 1 (.int .i64))) (ρ := fun i2 b => [b, x, dI (i2 : Int)]) (l0 := (l ++ encI (x.es.length : Int))) ?_ (fun i2 x2 b2 l2 hx2 hi2 hb2 hl2 next2 => ?_) (fun b2 hb2 => ?_) b1 h1
  · simp only [enc, encs, List.length_append, List.length_nil, List.append_nil, List.nil_append] at hl ⊢; omega
  · have w2 := (wd_sl h).2.2 x2 (List.mem_of_getElem? hx2)
    refine goes_R ?_
    show wp _ _ _ u55T1 _
    refine wp_bindE (ρ' := [_, _, _, dI (x.es.length : Int)]) (sh_len (wd_sl h).1) rfl rfl ?_
    refine wp_bindE (ρ' := [_, _, _, _, dB true]) (by rw [show true = decide ((i2 : Int) < (x.es.length : Int)) from (decide_eq_true (by omega)).symm]; exact sk_lss) rfl rfl ?_
    refine wp_iteC rfl (fun _ => ?_) (fun c => by cases c)
    refine wp_bindE (ρ' := [_, _, _, _, _, dB true]) (sh_inr hx2) rfl rfl ?_
    refine wp_bindE (ρ' := [_, _, _, _, _, _, x2]) (sh_elem1 (wd_sl h).1 hx2 (wd_one w2 (by intro _ e; cases e))) rfl rfl ?_
    obtain ⟨b3, h3, z3⟩ := (R33 w2) hb2 (by simp only [enc, encs, List.length_append, List.length_nil, List.append_nil, List.nil_append] at hl2 ⊢; omega)
    refine wp_callE (ρ' := [_, _, _, _, _, _, _, b3]) z3 rfl rfl rfl rfl ?_
    refine wp_bindE (ρ' := [_, _, _, _, _, _, _, _, dI ((i2 + 1 : Nat) : Int)]) (sh_add (cap_bd' (by have := ln2; omega))) rfl rfl ?_
    exact wr_jump rfl (next2 b3 (by simpa only [enc, encs, List.append_assoc, List.append_nil, List.nil_append] using h3))
  · refine goes_R ?_
    show wp _ _ _ u55T1 _
    refine wp_bindE (ρ' := [_, _, _, dI (x.es.length : Int)]) (sh_len (wd_sl h).1) rfl rfl ?_
    refine wp_bindE (ρ' := [_, _, _, _, dB false]) (by rw [show false = decide ((x.es.length : Int) < (x.es.length : Int)) from (decide_eq_false (by omega)).symm]; exact sk_lss) rfl rfl ?_
    refine wp_iteC rfl (fun c => by cases c) (fun _ => ?_)
    refine wr_ret (ds := [b2]) rfl ?_
    show IsY b2 _
    simpa only [enc, encs, List.append_assoc, List.append_nil, List.nil_append] using hb2
theorem R34 {x : D} (h : Wd (.st [(.int .i64), (.int .i64)]) x) : Wf EE 34 x (enc (.st [(.int .i64), (.int .i64)]) x) := by
  intro b l hb hl
  suffices hh : ∃ d, IsY d (l ++ enc (.st [(.int .i64), (.int .i64)]) x) ∧ Goes EE (Holds EE) u34Ts 0 [b, x] d by
    obtain ⟨d, hd, hg⟩ := hh; exact ⟨d, hd, u34 rfl hg⟩
  obtain ⟨cs1, rfl, k1⟩ := wd_st h
  obtain ⟨y1_0, r1_0, rfl, g1_0, k1⟩ := wds_cons k1
  obtain ⟨y1_1, r1_1, rfl, g1_1, k1⟩ := wds_cons k1
  obtain rfl := wds_nil k1
  refine goes_R ?_
  show wp _ _ _ u34T0 _
  refine wp_bindE (ρ' := [_, _, .agg [y1_0, y1_1]]) (sh_chkW rfl) rfl rfl ?_
  refine wp_bindE (ρ' := [_, _, _, y1_0]) (sh_fld1 (off := 0) rfl (wd_one g1_0 (by intro _ e; cases e))) rfl rfl ?_
  obtain ⟨b2, h2, z2⟩ := (R24 g1_0) hb (by simp only [enc, encs, List.length_append, List.length_nil, List.append_nil, List.nil_append] at hl ⊢; omega)
  refine wp_callE (ρ' := [_, _, _, _, b2]) z2 rfl rfl rfl rfl ?_
  refine wp_bindE (ρ' := [_, _, _, _, _, y1_1]) (sh_fld1 (off := 1) rfl (wd_one g1_1 (by intro _ e; cases e))) rfl rfl ?_
  obtain ⟨b3, h3, z3⟩ := (R24 g1_1) h2 (by simp only [enc, encs, List.length_append, List.length_nil, List.append_nil, List.nil_append] at hl ⊢; omega)
  refine wp_callE (ρ' := [_, _, _, _, _, _, b3]) z3 rfl rfl rfl rfl ?_
  refine wr_ret (ds := [b3]) rfl ?_
  show IsY b3 _
  simpa only [enc, encs, List.append_assoc, List.append_nil, List.nil_append] using h3
theorem R26 {x : D} (h : Wd (.st [.str, (.sl 121 2 (.st [.str, (.sl 3 1 (.int .i64))])), (.sl 68 1 (.sl 9 1 .str))]) x) : Wf EE 26 x (enc (.st [.str, (.sl 121 2 (.st [.str, (.sl 3 1 (.int .i64))])), (.sl 68 1 (.sl 9 1 .str))]) x) := by
  intro b l hb hl
  suffices hh : ∃ d, IsY d (l ++ enc (.st [.str, (.sl 121 2 (.st [.str, (.sl 3 1 (.int .i64))])), (.sl 68 1 (.sl 9 1 .str))]) x) ∧ Goes EE (Holds EE) u26Ts 0 [b, x] d by
    obtain ⟨d, hd, hg⟩ := hh; exact ⟨d, hd, u26 rfl hg⟩
  obtain ⟨cs1, rfl, k1⟩ := wd_st h
  obtain ⟨y1_0, r1_0, rfl, g1_0, k1⟩ := wds_cons k1
  obtain ⟨y1_1, r1_1, rfl, g1_1, k1⟩ := wds_cons k1
  obtain ⟨y1_2, r1_2, rfl, g1_2, k1⟩ := wds_cons k1
  obtain rfl := wds_nil k1
  refine goes_R ?_
  show wp _ _ _ u26T0 _
  refine wp_bindE (ρ' := [_, _, .agg [y1_0, y1_1, y1_2]]) (sh_chkW rfl) rfl rfl ?_
  refine wp_bindE (ρ' := [_, _, _, y1_0]) (sh_fld1 (off := 0) rfl (wd_one g1_0 (by intro _ e; cases e))) rfl rfl ?_
  obtain ⟨b2, h2, z2⟩ := (R25 g1_0) hb (by simp only [enc, encs, List.length_append, List.length_nil, List.append_nil, List.nil_append] at hl ⊢; omega)
  refine wp_callE (ρ' := [_, _, _, _, b2]) z2 rfl rfl rfl rfl ?_
  refine wp_bindE (ρ' := [_, _, _, _, _, y1_1]) (sh_fld1 (off := 1) rfl (wd_one g1_1 (by intro _ e; cases e))) rfl rfl ?_
  refine wp_bindE (ρ' := [_, _, _, _, _, _, dI (y1_1.es.length : Int)]) (sh_len (wd_sl g1_1).1) rfl rfl ?_
  obtain ⟨b3, h3, z3⟩ := (rnumP_ok (n := (y1_1.es.length : Int)) (by have := (wd_sl g1_1).2.1; omega) (by have := (wd_sl g1_1).2.1; omega)) h2 (by simp only [enc, encs, List.length_append, List.length_nil, List.append_nil, List.nil_append] at hl ⊢; omega)
  refine wp_callE (ρ' := [_, _, _, _, _, _, _, b3]) z3 rfl rfl rfl rfl ?_
  have ln4 := (wd_sl g1_1).2.1
  refine wr_jump rfl ?_
  refine loop_wr (es := y1_1.es) (enc := enc (.st [.str, (.sl 3 1 (.int .i64))])) (ρ := fun i4 b => [b, dI (i4 : Int), .agg [y1_0, y1_1, y1_2]]) (l0 := ((l ++ enc .str y1_0) ++ encI (y1_1.es.length : Int))) ?_ (fun i4 x4 b4 l4 hx4 hi4 hb4 hl4 next4 => ?_) (fun b4 hb4 => ?_) b3 h3
  · simp only [enc, encs, List.length_append, List.length_nil, List.append_nil, List.nil_append] at hl ⊢; omega
  · have w4 := (wd_sl g1_1).2.2 x4 (List.mem_of_getElem? hx4)
    obtain ⟨cs5, rfl, k5⟩ := wd_st w4
    obtain ⟨y5_0, r5_0, rfl, g5_0, k5⟩ := wds_cons k5
    obtain ⟨y5_1, r5_1, rfl, g5_1, k5⟩ := wds_cons k5
    obtain rfl := wds_nil k5
    refine goes_R ?_
    show wp _ _ _ u26T1 _
    refine wp_bindE (ρ' := [_, _, _, y1_1]) (sh_fld1 (off := 1) rfl (wd_one g1_1 (by intro _ e; cases e))) rfl rfl ?_
    refine wp_bindE (ρ' := [_, _, _, _, dI (y1_1.es.length : Int)]) (sh_len (wd_sl g1_1).1) rfl rfl ?_
    refine wp_bindE (ρ' := [_, _, _, _, _, dB true]) (by rw [show true = decide ((i4 : Int) < (y1_1.es.length : Int)) from (decide_eq_true (by omega)).symm]; exact sk_lss) rfl rfl ?_
    refine wp_iteC rfl (fun _ => ?_) (fun c => by cases c)
    refine wp_bindE (ρ' := [_, _, _, _, _, _, y1_1]) (sh_fld1 (off := 1) rfl (wd_one g1_1 (by intro _ e; cases e))) rfl rfl ?_
    refine wp_bindE (ρ' := [_, _, _, _, _, _, _, dB true]) (sh_inr hx4) rfl rfl ?_
    refine wp_bindE (ρ' := [_, _, _, _, _, _, _, _, y5_0]) (sh_elemP (off := 0) (wd_sl g1_1).1 hx4 rfl (wd_one g5_0 (by intro _ e; cases e)) (by decide)) rfl rfl ?_
    obtain ⟨b6, h6, z6⟩ := (R25 g5_0) hb4 (by simp only [enc, encs, List.length_append, List.length_nil, List.append_nil, List.nil_append] at hl4 ⊢; omega)
    refine wp_callE (ρ' := [_, _, _, _, _, _, _, _, _, b6]) z6 rfl rfl rfl rfl ?_
    refine wp_bindE (ρ' := [_, _, _, _, _, _, _, _, _, _, y1_1]) (sh_fld1 (off := 1) rfl (wd_one g1_1 (by intro _ e; cases e))) rfl rfl ?_
    refine wp_bindE (ρ' := [_, _, _, _, _, _, _, _, _, _, _, dB true]) (sh_inr hx4) rfl rfl ?_
    refine wp_bindE (ρ' := [_, _, _, _, _, _, _, _, _, _, _, _, y5_1]) (sh_elemP (off := 1) (wd_sl g1_1).1 hx4 rfl (wd_one g5_1 (by intro _ e; cases e)) (by decide)) rfl rfl ?_
    obtain ⟨b7, h7, z7⟩ := (R33 g5_1) h6 (by simp only [enc, encs, List.length_append, List.length_nil, List.append_nil, List.nil_append] at hl4 ⊢; omega)
    refine wp_callE (ρ' := [_, _, _, _, _, _, _, _, _, _, _, _, _, b7]) z7 rfl rfl rfl rfl ?_
    refine wp_bindE (ρ' := [_, _, _, _, _, _, _, _, _, _, _, _, _, _, dI ((i4 + 1 : Nat) : Int)]) (sh_add (cap_bd' (by have := ln4; omega))) rfl rfl ?_
    exact wr_jump rfl (next4 b7 (by simpa only [enc, encs, List.append_assoc, List.append_nil, List.nil_append] using h7))
  · refine goes_R ?_
    show wp _ _ _ u26T1 _
    refine wp_bindE (ρ' := [_, _, _, y1_1]) (sh_fld1 (off := 1) rfl (wd_one g1_1 (by intro _ e; cases e))) rfl rfl ?_
    refine wp_bindE (ρ' := [_, _, _, _, dI (y1_1.es.length : Int)]) (sh_len (wd_sl g1_1).1) rfl rfl ?_
    refine wp_bindE (ρ' := [_, _, _, _, _, dB false]) (by rw [show false = decide ((y1_1.es.length : Int) < (y1_1.es.length : Int)) from (decide_eq_false (by omega)).symm]; exact sk_lss) rfl rfl ?_
    refine wp_iteC rfl (fun c => by cases c) (fun _ => ?_)
    refine wp_bindE (ρ' := [_, _, _, _, _, _, y1_2]) (sh_fld1 (off := 2) rfl (wd_one g1_2 (by intro _ e; cases e))) rfl rfl ?_
    refine wp_bindE (ρ' := [_, _, _, _, _, _, _, dI (y1_2.es.length : Int)]) (sh_len (wd_sl g1_2).1) rfl rfl ?_
    obtain ⟨b8, h8, z8⟩ := (rnumP_ok (n := (y1_2.es.length : Int)) (by have := (wd_sl g1_2).2.1; omega) (by have := (wd_sl g1_2).2.1; omega)) hb4 (by simp only [enc, encs, List.length_append, List.length_nil, List.append_nil, List.nil_append] at hl ⊢; omega)
    refine wp_callE (ρ' := [_, _, _, _, _, _, _, _, b8]) z8 rfl rfl rfl rfl ?_
    have ln9 := (wd_sl g1_2).2.1
    refine wr_jump rfl ?_
    refine loop_wr (es := y1_2.es) (enc := enc (.sl 9 1 .str)) (ρ := fun i9 b => [b, dI (i9 : Int), .agg [y1_0, y1_1, y1_2]]) (l0 := ((((l ++ enc .str y1_0) ++ encI (y1_1.es.length : Int)) ++ y1_1.es.flatMap (enc (.st [.str, (.sl 3 1 (.int .i64))]))) ++ encI (y1_2.es.length : Int))) ?_ (fun i9 x9 b9 l9 hx9 hi9 hb9 hl9 next9 => ?_) (fun b9 hb9 => ?_) b8 h8
    · simp only [enc, encs, List.length_append, List.length_nil, List.append_nil, List.nil_append] at hl ⊢; omega
    · have w9 := (wd_sl g1_2).2.2 x9 (List.mem_of_getElem? hx9)
      refine goes_R ?_
      show wp _ _ _ u26T2 _
      refine wp_bindE (ρ' := [_, _, _, y1_2]) (sh_fld1 (off := 2) rfl (wd_one g1_2 (by intro _ e; cases e))) rfl rfl ?_
      refine wp_bindE (ρ' := [_, _, _, _, dI (y1_2.es.length : Int)]) (sh_len (wd_sl g1_2).1) rfl rfl ?_
      refine wp_bindE (ρ' := [_, _, _, _, _, dB true]) (by rw [show true = decide ((i9 : Int) < (y1_2.es.length : Int)) from (decide_eq_true (by omega)).symm]; exact sk_lss) rfl rfl ?_
      refine wp_iteC rfl (fun _ => ?_) (fun c => by cases c)
      refine wp_bindE (ρ' := [_, _, _, _, _, _, y1_2]) (sh_fld1 (off := 2) rfl (wd_one g1_2 (by intro _ e; cases e))) rfl rfl ?_
      refine wp_bindE (ρ' := [_, _, _, _, _, _, _, dB true]) (sh_inr hx9) rfl rfl ?_
      refine wp_bindE (ρ' := [_, _, _, _, _, _, _, _, x9]) (sh_elem1 (wd_sl g1_2).1 hx9 (wd_one w9 (by intro _ e; cases e))) rfl rfl ?_
      obtain ⟨b10, h10, z10⟩ := (R52 w9) hb9 (by simp only [enc, encs, List.length_append, List.length_nil, List.append_nil, List.nil_append] at hl9 ⊢; omega)
      refine wp_callE (ρ' := [_, _, _, _, _, _, _, _, _, b10]) z10 rfl rfl rfl rfl ?_
      refine wp_bindE (ρ' := [_, _, _, _, _, _, _, _, _, _, dI ((i9 + 1 : Nat) : Int)]) (sh_add (cap_bd' (by have := ln9; omega))) rfl rfl ?_
      exact wr_jump rfl (next9 b10 (by simpa only [enc, encs, List.append_assoc, List.append_nil, List.nil_append] using h10))
    · refine goes_R ?_
      show wp _ _ _ u26T2 _
      refine wp_bindE (ρ' := [_, _, _, y1_2]) (sh_fld1 (off := 2) rfl (wd_one g1_2 (by intro _ e; cases e))) rfl rfl ?_
      refine wp_bindE (ρ' := [_, _, _, _, dI (y1_2.es.length : Int)]) (sh_len (wd_sl g1_2).1) rfl rfl ?_
      refine wp_bindE (ρ' := [_, _, _, _, _, dB false]) (by rw [show false = decide ((y1_2.es.length : Int) < (y1_2.es.length : Int)) from (decide_eq_false (by omega)).symm]; exact sk_lss) rfl rfl ?_
      refine wp_iteC rfl (fun c => by cases c) (fun _ => ?_)
      refine wr_ret (ds := [b9]) rfl ?_
      show IsY b9 _
      simpa only [enc, encs, List.append_assoc, List.append_nil, List.nil_append] using hb9
theorem R27 {x : D} (h : Wd (.st [(.sl 3 1 (.int .i64)), (.sl 3 1 (.int .i64)), (.sl 200 2 (.st [(.int .i64), (.int .i64)])), (.sl 200 2 (.st [(.int .i64), (.int .i64)])), .bool, .bool]) x) : Wf EE 27 x (enc (.st [(.sl 3 1 (.int .i64)), (.sl 3 1 (.int .i64)), (.sl 200 2 (.st [(.int .i64), (.int .i64)])), (.sl 200 2 (.st [(.int .i64), (.int .i64)])), .bool, .bool]) x) := by
  intro b l hb hl
  suffices hh : ∃ d, IsY d (l ++ enc (.st [(.sl 3 1 (.int .i64)), (.sl 3 1 (.int .i64)), (.sl 200 2 (.st [(.int .i64), (.int .i64)])), (.sl 200 2 (.st [(.int .i64), (.int .i64)])), .bool, .bool]) x) ∧ Goes EE (Holds EE) u27Ts 0 [b, x] d by
    obtain ⟨d, hd, hg⟩ := hh; exact ⟨d, hd, u27 rfl hg⟩
  obtain ⟨cs1, rfl, k1⟩ := wd_st h
  obtain ⟨y1_0, r1_0, rfl, g1_0, k1⟩ := wds_cons k1
  obtain ⟨y1_1, r1_1, rfl, g1_1, k1⟩ := wds_cons k1
  obtain ⟨y1_2, r1_2, rfl, g1_2, k1⟩ := wds_cons k1
  obtain ⟨y1_3, r1_3, rfl, g1_3, k1⟩ := wds_cons k1
  obtain ⟨y1_4, r1_4, rfl, g1_4, k1⟩ := wds_cons k1
  obtain ⟨y1_5, r1_5, rfl, g1_5, k1⟩ := wds_cons k1
  obtain rfl := wds_nil k1
  refine goes_R ?_
  show wp _ _ _ u27T0 _
  refine wp_bindE (ρ' := [_, _, .agg [y1_0, y1_1, y1_2, y1_3, y1_4, y1_5]]) (sh_chkW rfl) rfl rfl ?_
  refine wp_bindE (ρ' := [_, _, _, y1_0]) (sh_fld1 (off := 0) rfl (wd_one g1_0 (by intro _ e; cases e))) rfl rfl ?_
  obtain ⟨b2, h2, z2⟩ := (R33 g1_0) hb (by simp only [enc, encs, List.length_append, List.length_nil, List.append_nil, List.nil_append] at hl ⊢; omega)
  refine wp_callE (ρ' := [_, _, _, _, b2]) z2 rfl rfl rfl rfl ?_
  refine wp_bindE (ρ' := [_, _, _, _, _, y1_1]) (sh_fld1 (off := 1) rfl (wd_one g1_1 (by intro _ e; cases e))) rfl rfl ?_
  obtain ⟨b3, h3, z3⟩ := (R33 g1_1) h2 (by simp only [enc, encs, List.length_append, List.length_nil, List.append_nil, List.nil_append] at hl ⊢; omega)
  refine wp_callE (ρ' := [_, _, _, _, _, _, b3]) z3 rfl rfl rfl rfl ?_
  refine wp_bindE (ρ' := [_, _, _, _, _, _, _, y1_2]) (sh_fld1 (off := 2) rfl (wd_one g1_2 (by intro _ e; cases e))) rfl rfl ?_
  obtain ⟨b4, h4, z4⟩ := (R53 g1_2) h3 (by simp only [enc, encs, List.length_append, List.length_nil, List.append_nil, List.nil_append] at hl ⊢; omega)
  refine wp_callE (ρ' := [_, _, _, _, _, _, _, _, b4]) z4 rfl rfl rfl rfl ?_
  refine wp_bindE (ρ' := [_, _, _, _, _, _, _, _, _, y1_3]) (sh_fld1 (off := 3) rfl (wd_one g1_3 (by intro _ e; cases e))) rfl rfl ?_
  obtain ⟨b5, h5, z5⟩ := (R53 g1_3) h4 (by simp only [enc, encs, List.length_append, List.length_nil, List.append_nil, List.nil_append] at hl ⊢; omega)
  refine wp_callE (ρ' := [_, _, _, _, _, _, _, _, _, _, b5]) z5 rfl rfl rfl rfl ?_
  refine wp_bindE (ρ' := [_, _, _, _, _, _, _, _, _, _, _, y1_4]) (sh_fld1 (off := 4) rfl (wd_one g1_4 (by intro _ e; cases e))) rfl rfl ?_
  obtain ⟨b6, h6, z6⟩ := (R54 g1_4) h5 (by simp only [enc, encs, List.length_append, List.length_nil, List.append_nil, List.nil_append] at hl ⊢; omega)
  refine wp_callE (ρ' := [_, _, _, _, _, _, _, _, _, _, _, _, b6]) z6 rfl rfl rfl rfl ?_
  refine wp_bindE (ρ' := [_, _, _, _, _, _, _, _, _, _, _, _, _, y1_5]) (sh_fld1 (off := 5) rfl (wd_one g1_5 (by intro _ e; cases e))) rfl rfl ?_
  obtain ⟨b7, h7, z7⟩ := (R54 g1_5) h6 (by simp only [enc, encs, List.length_append, List.length_nil, List.append_nil, List.nil_append] at hl ⊢; omega)
  refine wp_callE (ρ' := [_, _, _, _, _, _, _, _, _, _, _, _, _, _, b7]) z7 rfl rfl rfl rfl ?_
  refine wr_ret (ds := [b7]) rfl ?_
  show IsY b7 _
  simpa only [enc, encs, List.append_assoc, List.append_nil, List.nil_append] using h7
theorem R28 {x : D} (h : Wd (.st [(.int .i64), (.sl 123 3 (.st [(.int .i64), (.int .i64), (.int .i64)])), (.sl 3 1 (.int .i64))]) x) : Wf EE 28 x (enc (.st [(.int .i64), (.sl 123 3 (.st [(.int .i64), (.int .i64), (.int .i64)])), (.sl 3 1 (.int .i64))]) x) := by
  intro b l hb hl
  suffices hh : ∃ d, IsY d (l ++ enc (.st [(.int .i64), (.sl 123 3 (.st [(.int .i64), (.int .i64), (.int .i64)])), (.sl 3 1 (.int .i64))]) x) ∧ Goes EE (Holds EE) u28Ts 0 [b, x] d by
    obtain ⟨d, hd, hg⟩ := hh; exact ⟨d, hd, u28 rfl hg⟩
  obtain ⟨cs1, rfl, k1⟩ := wd_st h
  obtain ⟨y1_0, r1_0, rfl, g1_0, k1⟩ := wds_cons k1
  obtain ⟨y1_1, r1_1, rfl, g1_1, k1⟩ := wds_cons k1
  obtain ⟨y1_2, r1_2, rfl, g1_2, k1⟩ := wds_cons k1
  obtain rfl := wds_nil k1
  refine goes_R ?_
  show wp _ _ _ u28T0 _
  refine wp_bindE (ρ' := [_, _, .agg [y1_0, y1_1, y1_2]]) (sh_chkW rfl) rfl rfl ?_
  refine wp_bindE (ρ' := [_, _, _, y1_0]) (sh_fld1 (off := 0) rfl (wd_one g1_0 (by intro _ e; cases e))) rfl rfl ?_
  obtain ⟨b2, h2, z2⟩ := (R24 g1_0) hb (by simp only [enc, encs, List.length_append, List.length_nil, List.append_nil, List.nil_append] at hl ⊢; omega)
  refine wp_callE (ρ' := [_, _, _, _, b2]) z2 rfl rfl rfl rfl ?_
  refine wp_bindE (ρ' := [_, _, _, _, _, y1_1]) (sh_fld1 (off := 1) rfl (wd_one g1_1 (by intro _ e; cases e))) rfl rfl ?_
  refine wp_bindE (ρ' := [_, _, _, _, _, _, dI (y1_1.es.length : Int)]) (sh_len (wd_sl g1_1).1) rfl rfl ?_
  obtain ⟨b3, h3, z3⟩ := (rnumP_ok (n := (y1_1.es.length : Int)) (by have := (wd_sl g1_1).2.1; omega) (by have := (wd_sl g1_1).2.1; omega)) h2 (by simp only [enc, encs, List.length_append, List.length_nil, List.append_nil, List.nil_append] at hl ⊢; omega)
  refine wp_callE (ρ' := [_, _, _, _, _, _, _, b3]) z3 rfl rfl rfl rfl ?_
  have ln4 := (wd_sl g1_1).2.1
  refine wr_jump rfl ?_
  refine loop_wr (es := y1_1.es) (enc := enc (.st [(.int .i64), (.int .i64), (.int .i64)])) (ρ := fun i4 b => [b, dI (i4 : Int), .agg [y1_0, y1_1, y1_2]]) (l0 := ((l ++ enc (.int .i64) y1_0) ++ encI (y1_1.es.length : Int))) ?_ (fun i4 x4 b4 l4 hx4 hi4 hb4 hl4 next4 => ?_) (fun b4 hb4 => ?_) b3 h3
  · simp only [enc, encs, List.length_append, List.length_nil, List.append_nil, List.nil_append] at hl ⊢; omega
  · have w4 := (wd_sl g1_1).2.2 x4 (List.mem_of_getElem? hx4)
    obtain ⟨cs5, rfl, k5⟩ := wd_st w4
    obtain ⟨y5_0, r5_0, rfl, g5_0, k5⟩ := wds_cons k5
    obtain ⟨y5_1, r5_1, rfl, g5_1, k5⟩ := wds_cons k5
    obtain ⟨y5_2, r5_2, rfl, g5_2, k5⟩ := wds_cons k5
    obtain rfl := wds_nil k5
    refine goes_R ?_
    show wp _ _ _ u28T1 _
    refine wp_bindE (ρ' := [_, _, _, y1_1]) (sh_fld1 (off := 1) rfl (wd_one g1_1 (by intro _ e; cases e))) rfl rfl ?_
    refine wp_bindE (ρ' := [_, _, _, _, dI (y1_1.es.length : Int)]) (sh_len (wd_sl g1_1).1) rfl rfl ?_
    refine wp_bindE (ρ' := [_, _, _, _, _, dB true]) (by rw [show true = decide ((i4 : Int) < (y1_1.es.length : Int)) from (decide_eq_true (by omega)).symm]; exact sk_lss) rfl rfl ?_
    refine wp_iteC rfl (fun _ => ?_) (fun c => by cases c)
    refine wp_bindE (ρ' := [_, _, _, _, _, _, y1_1]) (sh_fld1 (off := 1) rfl (wd_one g1_1 (by intro _ e; cases e))) rfl rfl ?_
    refine wp_bindE (ρ' := [_, _, _, _, _, _, _, dB true]) (sh_inr hx4) rfl rfl ?_
    refine wp_bindE (ρ' := [_, _, _, _, _, _, _, _, y5_0]) (sh_elemP (off := 0) (wd_sl g1_1).1 hx4 rfl (wd_one g5_0 (by intro _ e; cases e)) (by decide)) rfl rfl ?_
    obtain ⟨b6, h6, z6⟩ := (R24 g5_0) hb4 (by simp only [enc, encs, List.length_append, List.length_nil, List.append_nil, List.nil_append] at hl4 ⊢; omega)
    refine wp_callE (ρ' := [_, _, _, _, _, _, _, _, _, b6]) z6 rfl rfl rfl rfl ?_
    refine wp_bindE (ρ' := [_, _, _, _, _, _, _, _, _, _, y1_1]) (sh_fld1 (off := 1) rfl (wd_one g1_1 (by intro _ e; cases e))) rfl rfl ?_
    refine wp_bindE (ρ' := [_, _, _, _, _, _, _, _, _, _, _, dB true]) (sh_inr hx4) rfl rfl ?_
    refine wp_bindE (ρ' := [_, _, _, _, _, _, _, _, _, _, _, _, y5_1]) (sh_elemP (off := 1) (wd_sl g1_1).1 hx4 rfl (wd_one g5_1 (by intro _ e; cases e)) (by decide)) rfl rfl ?_
    obtain ⟨b7, h7, z7⟩ := (R24 g5_1) h6 (by simp only [enc, encs, List.length_append, List.length_nil, List.append_nil, List.nil_append] at hl4 ⊢; omega)
    refine wp_callE (ρ' := [_, _, _, _, _, _, _, _, _, _, _, _, _, b7]) z7 rfl rfl rfl rfl ?_
    refine wp_bindE (ρ' := [_, _, _, _, _, _, _, _, _, _, _, _, _, _, y1_1]) (sh_fld1 (off := 1) rfl (wd_one g1_1 (by intro _ e; cases e))) rfl rfl ?_
    refine wp_bindE (ρ' := [_, _, _, _, _, _, _, _, _, _, _, _, _, _, _, dB true]) (sh_inr hx4) rfl rfl ?_
    refine wp_bindE (ρ' := [_, _, _, _, _, _, _, _, _, _, _, _, _, _, _, _, y5_2]) (sh_elemP (off := 2) (wd_sl g1_1).1 hx4 rfl (wd_one g5_2 (by intro _ e; cases e)) (by decide)) rfl rfl ?_
    obtain ⟨b8, h8, z8⟩ := (R24 g5_2) h7 (by simp only [enc, encs, List.length_append, List.length_nil, List.append_nil, List.nil_append] at hl4 ⊢; omega)
    refine wp_callE (ρ' := [_, _, _, _, _, _, _, _, _, _, _, _, _, _, _, _, _, b8]) z8 rfl rfl rfl rfl ?_
    refine wp_bindE (ρ' := [_, _, _, _, _, _, _, _, _, _, _, _, _, _, _, _, _, _, dI ((i4 + 1 : Nat) : Int)]) (sh_add (cap_bd' (by have := ln4; omega))) rfl rfl ?_
    exact wr_jump rfl (next4 b8 (by simpa only [enc, encs, List.append_assoc, List.append_nil, List.nil_append] using h8))
  · refine goes_R ?_
    show wp _ _ _ u28T1 _
    refine wp_bindE (ρ' := [_, _, _, y1_1]) (sh_fld1 (off := 1) rfl (wd_one g1_1 (by intro _ e; cases e))) rfl rfl ?_
    refine wp_bindE (ρ' := [_, _, _, _, dI (y1_1.es.length : Int)]) (sh_len (wd_sl g1_1).1) rfl rfl ?_
    refine wp_bindE (ρ' := [_, _, _, _, _, dB false]) (by rw [show false = decide ((y1_1.es.length : Int) < (y1_1.es.length : Int)) from (decide_eq_false (by omega)).symm]; exact sk_lss) rfl rfl ?_
    refine wp_iteC rfl (fun c => by cases c) (fun _ => ?_)
    refine wp_bindE (ρ' := [_, _, _, _, _, _, y1_2]) (sh_fld1 (off := 2) rfl (wd_one g1_2 (by intro _ e; cases e))) rfl rfl ?_
    obtain ⟨b9, h9, z9⟩ := (R33 g1_2) hb4 (by simp only [enc, encs, List.length_append, List.length_nil, List.append_nil, List.nil_append] at hl ⊢; omega)
    refine wp_callE (ρ' := [_, _, _, _, _, _, _, b9]) z9 rfl rfl rfl rfl ?_
    refine wr_ret (ds := [b9]) rfl ?_
    show IsY b9 _
    simpa only [enc, encs, List.append_assoc, List.append_nil, List.nil_append] using h9
theorem R29 {x : D} (h : Wd (.st [(.int .i64), (.sl 3 1 (.int .i64)), (.int .i64), (.sl 31 1 (.sl 3 1 (.int .i64))), (.int .i64), (.sl 125 2 (.st [.str, .str])), (.sl 148 2 (.st [(.int .i64), (.int .i64)])), (.sl 127 2 (.st [(.int .i64), (.int .i64)]))]) x) : Wf EE 29 x (enc (.st [(.int .i64), (.sl 3 1 (.int .i64)), (.int .i64), (.sl 31 1 (.sl 3 1 (.int .i64))), (.int .i64), (.sl 125 2 (.st [.str, .str])), (.sl 148 2 (.st [(.int .i64), (.int .i64)])), (.sl 127 2 (.st [(.int .i64), (.int .i64)]))]) x) := by
  intro b l hb hl
  suffices hh : ∃ d, IsY d (l ++ enc (.st [(.int .i64), (.sl 3 1 (.int .i64)), (.int .i64), (.sl 31 1 (.sl 3 1 (.int .i64))), (.int .i64), (.sl 125 2 (.st [.str, .str])), (.sl 148 2 (.st [(.int .i64), (.int .i64)])), (.sl 127 2 (.st [(.int .i64), (.int .i64)]))]) x) ∧ Goes EE (Holds EE) u29Ts 0 [b, x] d by
    obtain ⟨d, hd, hg⟩ := hh; exact ⟨d, hd, u29 rfl hg⟩
  obtain ⟨cs1, rfl, k1⟩ := wd_st h
  obtain ⟨y1_0, r1_0, rfl, g1_0, k1⟩ := wds_cons k1
  obtain ⟨y1_1, r1_1, rfl, g1_1, k1⟩ := wds_cons k1
  obtain ⟨y1_2, r1_2, rfl, g1_2, k1⟩ := wds_cons k1
  obtain ⟨y1_3, r1_3, rfl, g1_3, k1⟩ := wds_cons k1
  obtain ⟨y1_4, r1_4, rfl, g1_4, k1⟩ := wds_cons k1
  obtain ⟨y1_5, r1_5, rfl, g1_5, k1⟩ := wds_cons k1
  obtain ⟨y1_6, r1_6, rfl, g1_6, k1⟩ := wds_cons k1
  obtain ⟨y1_7, r1_7, rfl, g1_7, k1⟩ := wds_cons k1
  obtain rfl := wds_nil k1
  refine goes_R ?_
  show wp _ _ _ u29T0 _
  refine wp_bindE (ρ' := [_, _, .agg [y1_0, y1_1, y1_2, y1_3, y1_4, y1_5, y1_6, y1_7]]) (sh_chkW rfl) rfl rfl ?_
  refine wp_bindE (ρ' := [_, _, _, y1_0]) (sh_fld1 (off := 0) rfl (wd_one g1_0 (by intro _ e; cases e))) rfl rfl ?_
  obtain ⟨b2, h2, z2⟩ := (R24 g1_0) hb (by simp only [enc, encs, List.length_append, List.length_nil, List.append_nil, List.nil_append] at hl ⊢; omega)
  refine wp_callE (ρ' := [_, _, _, _, b2]) z2 rfl rfl rfl rfl ?_
  refine wp_bindE (ρ' := [_, _, _, _, _, y1_1]) (sh_fld1 (off := 1) rfl (wd_one g1_1 (by intro _ e; cases e))) rfl rfl ?_
  obtain ⟨b3, h3, z3⟩ := (R33 g1_1) h2 (by simp only [enc, encs, List.length_append, List.length_nil, List.append_nil, List.nil_append] at hl ⊢; omega)
  refine wp_callE (ρ' := [_, _, _, _, _, _, b3]) z3 rfl rfl rfl rfl ?_
  refine wp_bindE (ρ' := [_, _, _, _, _, _, _, y1_2]) (sh_fld1 (off := 2) rfl (wd_one g1_2 (by intro _ e; cases e))) rfl rfl ?_
  obtain ⟨b4, h4, z4⟩ := (R24 g1_2) h3 (by simp only [enc, encs, List.length_append, List.length_nil, List.append_nil, List.nil_append] at hl ⊢; omega)
  refine wp_callE (ρ' := [_, _, _, _, _, _, _, _, b4]) z4 rfl rfl rfl rfl ?_
  refine wp_bindE (ρ' := [_, _, _, _, _, _, _, _, _, y1_3]) (sh_fld1 (off := 3) rfl (wd_one g1_3 (by intro _ e; cases e))) rfl rfl ?_
  obtain ⟨b5, h5, z5⟩ := (R55 g1_3) h4 (by simp only [enc, encs, List.length_append, List.length_nil, List.append_nil, List.nil_append] at hl ⊢; omega)
  refine wp_callE (ρ' := [_, _, _, _, _, _, _, _, _, _, b5]) z5 rfl rfl rfl rfl ?_
  refine wp_bindE (ρ' := [_, _, _, _, _, _, _, _, _, _, _, y1_4]) (sh_fld1 (off := 4) rfl (wd_one g1_4 (by intro _ e; cases e))) rfl rfl ?_
  obtain ⟨b6, h6, z6⟩ := (R24 g1_4) h5 (by simp only [enc, encs, List.length_append, List.length_nil, List.append_nil, List.nil_append] at hl ⊢; omega)
  refine wp_callE (ρ' := [_, _, _, _, _, _, _, _, _, _, _, _, b6]) z6 rfl rfl rfl rfl ?_
  refine wp_bindE (ρ' := [_, _, _, _, _, _, _, _, _, _, _, _, _, y1_5]) (sh_fld1 (off := 5) rfl (wd_one g1_5 (by intro _ e; cases e))) rfl rfl ?_
  refine wp_bindE (ρ' := [_, _, _, _, _, _, _, _, _, _, _, _, _, _, dI (y1_5.es.length : Int)]) (sh_len (wd_sl g1_5).1) rfl rfl ?_
  obtain ⟨b7, h7, z7⟩ := (rnumP_ok (n := (y1_5.es.length : Int)) (by have := (wd_sl g1_5).2.1; omega) (by have := (wd_sl g1_5).2.1; omega)) h6 (by simp only [enc, encs, List.length_append, List.length_nil, List.append_nil, List.nil_append] at hl ⊢; omega)
  refine wp_callE (ρ' := [_, _, _, _, _, _, _, _, _, _, _, _, _, _, _, b7]) z7 rfl rfl rfl rfl ?_
  have ln8 := (wd_sl g1_5).2.1
  refine wr_jump rfl ?_
  refine loop_wr (es := y1_5.es) (enc := enc (.st [.str, .str])) (ρ := fun i8 b => [b, dI (i8 : Int), .agg [y1_0, y1_1, y1_2, y1_3, y1_4, y1_5, y1_6, y1_7]]) (l0 := ((((((l ++ enc (.int .i64) y1_0) ++ enc (.sl 3 1 (.int .i64)) y1_1) ++ enc (.int .i64) y1_2) ++ enc (.sl 31 1 (.sl 3 1 (.int .i64))) y1_3) ++ enc (.int .i64) y1_4) ++ encI (y1_5.es.length : Int))) ?_ (fun i8 x8 b8 l8 hx8 hi8 hb8 hl8 next8 => ?_) (fun b8 hb8 => ?_) b7 h7
  · simp only [enc, encs, List.length_append, List.length_nil, List.append_nil, List.nil_append] at hl ⊢; omega
  · have w8 := (wd_sl g1_5).2.2 x8 (List.mem_of_getElem? hx8)
    obtain ⟨cs9, rfl, k9⟩ := wd_st w8
    obtain ⟨y9_0, r9_0, rfl, g9_0, k9⟩ := wds_cons k9
    obtain ⟨y9_1, r9_1, rfl, g9_1, k9⟩ := wds_cons k9
    obtain rfl := wds_nil k9
    refine goes_R ?_
    show wp _ _ _ u29T1 _
    refine wp_bindE (ρ' := [_, _, _, y1_5]) (sh_fld1 (off := 5) rfl (wd_one g1_5 (by intro _ e; cases e))) rfl rfl ?_
    refine wp_bindE (ρ' := [_, _, _, _, dI (y1_5.es.length : Int)]) (sh_len (wd_sl g1_5).1) rfl rfl ?_
    refine wp_bindE (ρ' := [_, _, _, _, _, dB true]) (by rw [show true = decide ((i8 : Int) < (y1_5.es.length : Int)) from (decide_eq_true (by omega)).symm]; exact sk_lss) rfl rfl ?_
    refine wp_iteC rfl (fun _ => ?_) (fun c => by cases c)
    refine wp_bindE (ρ' := [_, _, _, _, _, _, y1_5]) (sh_fld1 (off := 5) rfl (wd_one g1_5 (by intro _ e; cases e))) rfl rfl ?_
    refine wp_bindE (ρ' := [_, _, _, _, _, _, _, dB true]) (sh_inr hx8) rfl rfl ?_
    refine wp_bindE (ρ' := [_, _, _, _, _, _, _, _, y9_0]) (sh_elemP (off := 0) (wd_sl g1_5).1 hx8 rfl (wd_one g9_0 (by intro _ e; cases e)) (by decide)) rfl rfl ?_
    obtain ⟨b10, h10, z10⟩ := (R25 g9_0) hb8 (by simp only [enc, encs, List.length_append, List.length_nil, List.append_nil, List.nil_append] at hl8 ⊢; omega)
    refine wp_callE (ρ' := [_, _, _, _, _, _, _, _, _, b10]) z10 rfl rfl rfl rfl ?_
    refine wp_bindE (ρ' := [_, _, _, _, _, _, _, _, _, _, y1_5]) (sh_fld1 (off := 5) rfl (wd_one g1_5 (by intro _ e; cases e))) rfl rfl ?_
    refine wp_bindE (ρ' := [_, _, _, _, _, _, _, _, _, _, _, dB true]) (sh_inr hx8) rfl rfl ?_
    refine wp_bindE (ρ' := [_, _, _, _, _, _, _, _, _, _, _, _, y9_1]) (sh_elemP (off := 1) (wd_sl g1_5).1 hx8 rfl (wd_one g9_1 (by intro _ e; cases e)) (by decide)) rfl rfl ?_
    obtain ⟨b11, h11, z11⟩ := (R25 g9_1) h10 (by simp only [enc, encs, List.length_append, List.length_nil, List.append_nil, List.nil_append] at hl8 ⊢; omega)
    refine wp_callE (ρ' := [_, _, _, _, _, _, _, _, _, _, _, _, _, b11]) z11 rfl rfl rfl rfl ?_
    refine wp_bindE (ρ' := [_, _, _, _, _, _, _, _, _, _, _, _, _, _, dI ((i8 + 1 : Nat) : Int)]) (sh_add (cap_bd' (by have := ln8; omega))) rfl rfl ?_
    exact wr_jump rfl (next8 b11 (by simpa only [enc, encs, List.append_assoc, List.append_nil, List.nil_append] using h11))
  · refine goes_R ?_
    show wp _ _ _ u29T1 _
    refine wp_bindE (ρ' := [_, _, _, y1_5]) (sh_fld1 (off := 5) rfl (wd_one g1_5 (by intro _ e; cases e))) rfl rfl ?_
    refine wp_bindE (ρ' := [_, _, _, _, dI (y1_5.es.length : Int)]) (sh_len (wd_sl g1_5).1) rfl rfl ?_
    refine wp_bindE (ρ' := [_, _, _, _, _, dB false]) (by rw [show false = decide ((y1_5.es.length : Int) < (y1_5.es.length : Int)) from (decide_eq_false (by omega)).symm]; exact sk_lss) rfl rfl ?_
    refine wp_iteC rfl (fun c => by cases c) (fun _ => ?_)
    refine wp_bindE (ρ' := [_, _, _, _, _, _, y1_6]) (sh_fld1 (off := 6) rfl (wd_one g1_6 (by intro _ e; cases e))) rfl rfl ?_
    refine wp_bindE (ρ' := [_, _, _, _, _, _, _, dI (y1_6.es.length : Int)]) (sh_len (wd_sl g1_6).1) rfl rfl ?_
    obtain ⟨b12, h12, z12⟩ := (rnumP_ok (n := (y1_6.es.length : Int)) (by have := (wd_sl g1_6).2.1; omega) (by have := (wd_sl g1_6).2.1; omega)) hb8 (by simp only [enc, encs, List.length_append, List.length_nil, List.append_nil, List.nil_append] at hl ⊢; omega)
    refine wp_callE (ρ' := [_, _, _, _, _, _, _, _, b12]) z12 rfl rfl rfl rfl ?_
    have ln13 := (wd_sl g1_6).2.1
    refine wr_jump rfl ?_
    refine loop_wr (es := y1_6.es) (enc := enc (.st [(.int .i64), (.int .i64)])) (ρ := fun i13 b => [b, dI (i13 : Int), .agg [y1_0, y1_1, y1_2, y1_3, y1_4, y1_5, y1_6, y1_7]]) (l0 := ((((((((l ++ enc (.int .i64) y1_0) ++ enc (.sl 3 1 (.int .i64)) y1_1) ++ enc (.int .i64) y1_2) ++ enc (.sl 31 1 (.sl 3 1 (.int .i64))) y1_3) ++ enc (.int .i64) y1_4) ++ encI (y1_5.es.length : Int)) ++ y1_5.es.flatMap (enc (.st [.str, .str]))) ++ encI (y1_6.es.length : Int))) ?_ (fun i13 x13 b13 l13 hx13 hi13 hb13 hl13 next13 => ?_) (fun b13 hb13 => ?_) b12 h12
    · simp only [enc, encs, List.length_append, List.length_nil, List.append_nil, List.nil_append] at hl ⊢; omega
    · have w13 := (wd_sl g1_6).2.2 x13 (List.mem_of_getElem? hx13)
      obtain ⟨cs14, rfl, k14⟩ := wd_st w13
      obtain ⟨y14_0, r14_0, rfl, g14_0, k14⟩ := wds_cons k14
      obtain ⟨y14_1, r14_1, rfl, g14_1, k14⟩ := wds_cons k14
      obtain rfl := wds_nil k14
      refine goes_R ?_
      show wp _ _ _ u29T2 _
      refine wp_bindE (ρ' := [_, _, _, y1_6]) (sh_fld1 (off := 6) rfl (wd_one g1_6 (by intro _ e; cases e))) rfl rfl ?_
      refine wp_bindE (ρ' := [_, _, _, _, dI (y1_6.es.length : Int)]) (sh_len (wd_sl g1_6).1) rfl rfl ?_
      refine wp_bindE (ρ' := [_, _, _, _, _, dB true]) (by rw [show true = decide ((i13 : Int) < (y1_6.es.length : Int)) from (decide_eq_true (by omega)).symm]; exact sk_lss) rfl rfl ?_
      refine wp_iteC rfl (fun _ => ?_) (fun c => by cases c)
      refine wp_bindE (ρ' := [_, _, _, _, _, _, y1_6]) (sh_fld1 (off := 6) rfl (wd_one g1_6 (by intro _ e; cases e))) rfl rfl ?_
      refine wp_bindE (ρ' := [_, _, _, _, _, _, _, dB true]) (sh_inr hx13) rfl rfl ?_
      refine wp_bindE (ρ' := [_, _, _, _, _, _, _, _, y14_0]) (sh_elemP (off := 0) (wd_sl g1_6).1 hx13 rfl (wd_one g14_0 (by intro _ e; cases e)) (by decide)) rfl rfl ?_
      obtain ⟨b15, h15, z15⟩ := (R24 g14_0) hb13 (by simp only [enc, encs, List.length_append, List.length_nil, List.append_nil, List.nil_append] at hl13 ⊢; omega)
      refine wp_callE (ρ' := [_, _, _, _, _, _, _, _, _, b15]) z15 rfl rfl rfl rfl ?_
      refine wp_bindE (ρ' := [_, _, _, _, _, _, _, _, _, _, y1_6]) (sh_fld1 (off := 6) rfl (wd_one g1_6 (by intro _ e; cases e))) rfl rfl ?_
      refine wp_bindE (ρ' := [_, _, _, _, _, _, _, _, _, _, _, dB true]) (sh_inr hx13) rfl rfl ?_
      refine wp_bindE (ρ' := [_, _, _, _, _, _, _, _, _, _, _, _, y14_1]) (sh_elemP (off := 1) (wd_sl g1_6).1 hx13 rfl (wd_one g14_1 (by intro _ e; cases e)) (by decide)) rfl rfl ?_
      obtain ⟨b16, h16, z16⟩ := (R24 g14_1) h15 (by simp only [enc, encs, List.length_append, List.length_nil, List.append_nil, List.nil_append] at hl13 ⊢; omega)
      refine wp_callE (ρ' := [_, _, _, _, _, _, _, _, _, _, _, _, _, b16]) z16 rfl rfl rfl rfl ?_
      refine wp_bindE (ρ' := [_, _, _, _, _, _, _, _, _, _, _, _, _, _, dI ((i13 + 1 : Nat) : Int)]) (sh_add (cap_bd' (by have := ln13; omega))) rfl rfl ?_
      exact wr_jump rfl (next13 b16 (by simpa only [enc, encs, List.append_assoc, List.append_nil, List.nil_append] using h16))
    · refine goes_R ?_
      show wp _ _ _ u29T2 _
      refine wp_bindE (ρ' := [_, _, _, y1_6]) (sh_fld1 (off := 6) rfl (wd_one g1_6 (by intro _ e; cases e))) rfl rfl ?_
      refine wp_bindE (ρ' := [_, _, _, _, dI (y1_6.es.length : Int)]) (sh_len (wd_sl g1_6).1) rfl rfl ?_
      refine wp_bindE (ρ' := [_, _, _, _, _, dB false]) (by rw [show false = decide ((y1_6.es.length : Int) < (y1_6.es.length : Int)) from (decide_eq_false (by omega)).symm]; exact sk_lss) rfl rfl ?_
      refine wp_iteC rfl (fun c => by cases c) (fun _ => ?_)
      refine wp_bindE (ρ' := [_, _, _, _, _, _, y1_7]) (sh_fld1 (off := 7) rfl (wd_one g1_7 (by intro _ e; cases e))) rfl rfl ?_
      obtain ⟨b17, h17, z17⟩ := (R36 g1_7) hb13 (by simp only [enc, encs, List.length_append, List.length_nil, List.append_nil, List.nil_append] at hl ⊢; omega)
      refine wp_callE (ρ' := [_, _, _, _, _, _, _, b17]) z17 rfl rfl rfl rfl ?_
      refine wr_ret (ds := [b17]) rfl ?_
      show IsY b17 _
      simpa only [enc, encs, List.append_assoc, List.append_nil, List.nil_append] using h17
theorem H10 {x : D} (h : Wd (.st [(.int .i64), .str, .str, (.sl 3 1 (.int .i64)), (.sl 127 2 (.st [(.int .i64), (.int .i64)]))]) x) : Holds EE 10 [x] (dI (hashV (enc (.st [(.int .i64), .str, .str, (.sl 3 1 (.int .i64)), (.sl 127 2 (.st [(.int .i64), (.int .i64)]))]) x))) := by
  have hl := wd_len h
  suffices hh : ∃ d, d = dI (hashV (enc (.st [(.int .i64), .str, .str, (.sl 3 1 (.int .i64)), (.sl 127 2 (.st [(.int .i64), (.int .i64)]))]) x)) ∧ Goes EE (Holds EE) u10Ts 0 [x] d by
    obtain ⟨d, rfl, hg⟩ := hh; exact u10 rfl hg
  obtain ⟨cs1, rfl, k1⟩ := wd_st h
  obtain ⟨y1_0, r1_0, rfl, g1_0, k1⟩ := wds_cons k1
  obtain ⟨y1_1, r1_1, rfl, g1_1, k1⟩ := wds_cons k1
  obtain ⟨y1_2, r1_2, rfl, g1_2, k1⟩ := wds_cons k1
  obtain ⟨y1_3, r1_3, rfl, g1_3, k1⟩ := wds_cons k1
  obtain ⟨y1_4, r1_4, rfl, g1_4, k1⟩ := wds_cons k1
  obtain rfl := wds_nil k1
  refine goes_R ?_
  show wp _ _ _ u10T0 _
  refine wp_bindE (ρ' := [_, .agg [y1_0, y1_1, y1_2, y1_3, y1_4]]) (sh_chkW rfl) rfl rfl ?_
  refine wp_bindE (ρ' := [_, _, y1_0]) (sh_fld1 (off := 0) rfl (wd_one g1_0 (by intro _ e; cases e))) rfl rfl ?_
  obtain ⟨b2, h2, z2⟩ := (R24 g1_0) IsY.nil (by simp only [enc, encs, List.length_append, List.length_nil, List.append_nil, List.nil_append] at hl ⊢; omega)
  refine wp_callE (ρ' := [_, _, _, b2]) z2 rfl rfl rfl rfl ?_
  refine wp_bindE (ρ' := [_, _, _, _, y1_1]) (sh_fld1 (off := 1) rfl (wd_one g1_1 (by intro _ e; cases e))) rfl rfl ?_
  obtain ⟨b3, h3, z3⟩ := (R25 g1_1) h2 (by simp only [enc, encs, List.length_append, List.length_nil, List.append_nil, List.nil_append] at hl ⊢; omega)
  refine wp_callE (ρ' := [_, _, _, _, _, b3]) z3 rfl rfl rfl rfl ?_
  refine wp_bindE (ρ' := [_, _, _, _, _, _, y1_2]) (sh_fld1 (off := 2) rfl (wd_one g1_2 (by intro _ e; cases e))) rfl rfl ?_
  obtain ⟨b4, h4, z4⟩ := (R25 g1_2) h3 (by simp only [enc, encs, List.length_append, List.length_nil, List.append_nil, List.nil_append] at hl ⊢; omega)
  refine wp_callE (ρ' := [_, _, _, _, _, _, _, b4]) z4 rfl rfl rfl rfl ?_
  refine wp_bindE (ρ' := [_, _, _, _, _, _, _, _, y1_3]) (sh_fld1 (off := 3) rfl (wd_one g1_3 (by intro _ e; cases e))) rfl rfl ?_
  obtain ⟨b5, h5, z5⟩ := (R33 g1_3) h4 (by simp only [enc, encs, List.length_append, List.length_nil, List.append_nil, List.nil_append] at hl ⊢; omega)
  refine wp_callE (ρ' := [_, _, _, _, _, _, _, _, _, b5]) z5 rfl rfl rfl rfl ?_
  refine wp_bindE (ρ' := [_, _, _, _, _, _, _, _, _, _, y1_4]) (sh_fld1 (off := 4) rfl (wd_one g1_4 (by intro _ e; cases e))) rfl rfl ?_
  obtain ⟨b6, h6, z6⟩ := (R36 g1_4) h5 (by simp only [enc, encs, List.length_append, List.length_nil, List.append_nil, List.nil_append] at hl ⊢; omega)
  refine wp_callE (ρ' := [_, _, _, _, _, _, _, _, _, _, _, b6]) z6 rfl rfl rfl rfl ?_
  have q7 : IsY b6 (enc (.st [(.int .i64), .str, .str, (.sl 3 1 (.int .i64)), (.sl 127 2 (.st [(.int .i64), (.int .i64)]))]) (.agg [y1_0, y1_1, y1_2, y1_3, y1_4])) := by simpa only [enc, encs, List.append_assoc, List.append_nil, List.nil_append] using h6
  refine wp_callE (ρ' := [_, _, _, _, _, _, _, _, _, _, _, _, _]) (rhash_ok q7 hl) rfl rfl rfl rfl ?_
  exact wr_ret rfl rfl
theorem H8 {x : D} (h : Wd (.st [(.int .i64), .str, (.int .i64), (.int .i64), (.sl 3 1 (.int .i64)), (.sl 111 4 (.st [.str, (.int .i64), (.int .i64), (.int .i64)])), (.sl 115 7 (.st [(.int .i64), (.int .i64), (.int .i64), (.int .i64), (.int .i64), (.int .i64), .str]))]) x) : Holds EE 8 [x] (dI (hashV (enc (.st [(.int .i64), .str, (.int .i64), (.int .i64), (.sl 3 1 (.int .i64)), (.sl 111 4 (.st [.str, (.int .i64), (.int .i64), (.int .i64)])), (.sl 115 7 (.st [(.int .i64), (.int .i64), (.int .i64), (.int .i64), (.int .i64), (.int .i64), .str]))]) x))) := by
  have hl := wd_len h
  suffices hh : ∃ d, d = dI (hashV (enc (.st [(.int .i64), .str, (.int .i64), (.int .i64), (.sl 3 1 (.int .i64)), (.sl 111 4 (.st [.str, (.int .i64), (.int .i64), (.int .i64)])), (.sl 115 7 (.st [(.int .i64), (.int .i64), (.int .i64), (.int .i64), (.int .i64), (.int .i64), .str]))]) x)) ∧ Goes EE (Holds EE) u8Ts 0 [x] d by
    obtain ⟨d, rfl, hg⟩ := hh; exact u8 rfl hg
  obtain ⟨cs1, rfl, k1⟩ := wd_st h
  obtain ⟨y1_0, r1_0, rfl, g1_0, k1⟩ := wds_cons k1
  obtain ⟨y1_1, r1_1, rfl, g1_1, k1⟩ := wds_cons k1
  obtain ⟨y1_2, r1_2, rfl, g1_2, k1⟩ := wds_cons k1
  obtain ⟨y1_3, r1_3, rfl, g1_3, k1⟩ := wds_cons k1
  obtain ⟨y1_4, r1_4, rfl, g1_4, k1⟩ := wds_cons k1
  obtain ⟨y1_5, r1_5, rfl, g1_5, k1⟩ := wds_cons k1
  obtain ⟨y1_6, r1_6, rfl, g1_6, k1⟩ := wds_cons k1
  obtain rfl := wds_nil k1
  refine goes_R ?_
  show wp _ _ _ u8T0 _
  refine wp_bindE (ρ' := [_, .agg [y1_0, y1_1, y1_2, y1_3, y1_4, y1_5, y1_6]]) (sh_chkW rfl) rfl rfl ?_
  refine wp_bindE (ρ' := [_, _, y1_0]) (sh_fld1 (off := 0) rfl (wd_one g1_0 (by intro _ e; cases e))) rfl rfl ?_
  obtain ⟨b2, h2, z2⟩ := (R24 g1_0) IsY.nil (by simp only [enc, encs, List.length_append, List.length_nil, List.append_nil, List.nil_append] at hl ⊢; omega)
  refine wp_callE (ρ' := [_, _, _, b2]) z2 rfl rfl rfl rfl ?_
  refine wp_bindE (ρ' := [_, _, _, _, y1_1]) (sh_fld1 (off := 1) rfl (wd_one g1_1 (by intro _ e; cases e))) rfl rfl ?_
  obtain ⟨b3, h3, z3⟩ := (R25 g1_1) h2 (by simp only [enc, encs, List.length_append, List.length_nil, List.append_nil, List.nil_append] at hl ⊢; omega)
  refine wp_callE (ρ' := [_, _, _, _, _, b3]) z3 rfl rfl rfl rfl ?_
  refine wp_bindE (ρ' := [_, _, _, _, _, _, y1_2]) (sh_fld1 (off := 2) rfl (wd_one g1_2 (by intro _ e; cases e))) rfl rfl ?_
  obtain ⟨b4, h4, z4⟩ := (R24 g1_2) h3 (by simp only [enc, encs, List.length_append, List.length_nil, List.append_nil, List.nil_append] at hl ⊢; omega)
  refine wp_callE (ρ' := [_, _, _, _, _, _, _, b4]) z4 rfl rfl rfl rfl ?_
  refine wp_bindE (ρ' := [_, _, _, _, _, _, _, _, y1_3]) (sh_fld1 (off := 3) rfl (wd_one g1_3 (by intro _ e; cases e))) rfl rfl ?_
  obtain ⟨b5, h5, z5⟩ := (R24 g1_3) h4 (by simp only [enc, encs, List.length_append, List.length_nil, List.append_nil, List.nil_append] at hl ⊢; omega)
  refine wp_callE (ρ' := [_, _, _, _, _, _, _, _, _, b5]) z5 rfl rfl rfl rfl ?_
  refine wp_bindE (ρ' := [_, _, _, _, _, _, _, _, _, _, y1_4]) (sh_fld1 (off := 4) rfl (wd_one g1_4 (by intro _ e; cases e))) rfl rfl ?_
  obtain ⟨b6, h6, z6⟩ := (R33 g1_4) h5 (by simp only [enc, encs, List.length_append, List.length_nil, List.append_nil, List.nil_append] at hl ⊢; omega)
  refine wp_callE (ρ' := [_, _, _, _, _, _, _, _, _, _, _, b6]) z6 rfl rfl rfl rfl ?_
  refine wp_bindE (ρ' := [_, _, _, _, _, _, _, _, _, _, _, _, y1_5]) (sh_fld1 (off := 5) rfl (wd_one g1_5 (by intro _ e; cases e))) rfl rfl ?_
  refine wp_bindE (ρ' := [_, _, _, _, _, _, _, _, _, _, _, _, _, dI (y1_5.es.length : Int)]) (sh_len (wd_sl g1_5).1) rfl rfl ?_
  obtain ⟨b7, h7, z7⟩ := (rnumP_ok (n := (y1_5.es.length : Int)) (by have := (wd_sl g1_5).2.1; omega) (by have := (wd_sl g1_5).2.1; omega)) h6 (by simp only [enc, encs, List.length_append, List.length_nil, List.append_nil, List.nil_append] at hl ⊢; omega)
  refine wp_callE (ρ' := [_, _, _, _, _, _, _, _, _, _, _, _, _, _, b7]) z7 rfl rfl rfl rfl ?_
  have ln8 := (wd_sl g1_5).2.1
  refine wr_jump rfl ?_
  refine loop_wr (es := y1_5.es) (enc := enc (.st [.str, (.int .i64), (.int .i64), (.int .i64)])) (ρ := fun i8 b => [b, dI (i8 : Int), .agg [y1_0, y1_1, y1_2, y1_3, y1_4, y1_5, y1_6]]) (l0 := (((((([] ++ enc (.int .i64) y1_0) ++ enc .str y1_1) ++ enc (.int .i64) y1_2) ++ enc (.int .i64) y1_3) ++ enc (.sl 3 1 (.int .i64)) y1_4) ++ encI (y1_5.es.length : Int))) ?_ (fun i8 x8 b8 l8 hx8 hi8 hb8 hl8 next8 => ?_) (fun b8 hb8 => ?_) b7 h7
  · simp only [enc, encs, List.length_append, List.length_nil, List.append_nil, List.nil_append] at hl ⊢; omega
  · have w8 := (wd_sl g1_5).2.2 x8 (List.mem_of_getElem? hx8)
    obtain ⟨cs9, rfl, k9⟩ := wd_st w8
    obtain ⟨y9_0, r9_0, rfl, g9_0, k9⟩ := wds_cons k9
    obtain ⟨y9_1, r9_1, rfl, g9_1, k9⟩ := wds_cons k9
    obtain ⟨y9_2, r9_2, rfl, g9_2, k9⟩ := wds_cons k9
    obtain ⟨y9_3, r9_3, rfl, g9_3, k9⟩ := wds_cons k9
    obtain rfl := wds_nil k9
    refine goes_R ?_
    show wp _ _ _ u8T1 _
    refine wp_bindE (ρ' := [_, _, _, y1_5]) (sh_fld1 (off := 5) rfl (wd_one g1_5 (by intro _ e; cases e))) rfl rfl ?_
    refine wp_bindE (ρ' := [_, _, _, _, dI (y1_5.es.length : Int)]) (sh_len (wd_sl g1_5).1) rfl rfl ?_
    refine wp_bindE (ρ' := [_, _, _, _, _, dB true]) (by rw [show true = decide ((i8 : Int) < (y1_5.es.length : Int)) from (decide_eq_true (by omega)).symm]; exact sk_lss) rfl rfl ?_
    refine wp_iteC rfl (fun _ => ?_) (fun c => by cases c)
    refine wp_bindE (ρ' := [_, _, _, _, _, _, y1_5]) (sh_fld1 (off := 5) rfl (wd_one g1_5 (by intro _ e; cases e))) rfl rfl ?_
    refine wp_bindE (ρ' := [_, _, _, _, _, _, _, dB true]) (sh_inr hx8) rfl rfl ?_
    refine wp_bindE (ρ' := [_, _, _, _, _, _, _, _, .agg [y9_0, y9_1, y9_2, y9_3]]) (sh_elemW (wd_sl g1_5).1 hx8 rfl) rfl rfl ?_
    refine wp_bindE (ρ' := [_, _, _, _, _, _, _, _, _, .agg [y9_0, y9_1, y9_2, y9_3]]) (sh_chkW rfl) rfl rfl ?_
    refine wp_bindE (ρ' := [_, _, _, _, _, _, _, _, _, _, y9_0]) (sh_fld1 (off := 0) rfl (wd_one g9_0 (by intro _ e; cases e))) rfl rfl ?_
    obtain ⟨b10, h10, z10⟩ := (R25 g9_0) hb8 (by simp only [enc, encs, List.length_append, List.length_nil, List.append_nil, List.nil_append] at hl8 ⊢; omega)
    refine wp_callE (ρ' := [_, _, _, _, _, _, _, _, _, _, _, b10]) z10 rfl rfl rfl rfl ?_
    refine wp_bindE (ρ' := [_, _, _, _, _, _, _, _, _, _, _, _, y9_1]) (sh_fld1 (off := 1) rfl (wd_one g9_1 (by intro _ e; cases e))) rfl rfl ?_
    obtain ⟨b11, h11, z11⟩ := (R24 g9_1) h10 (by simp only [enc, encs, List.length_append, List.length_nil, List.append_nil, List.nil_append] at hl8 ⊢; omega)
    refine wp_callE (ρ' := [_, _, _, _, _, _, _, _, _, _, _, _, _, b11]) z11 rfl rfl rfl rfl ?_
    refine wp_bindE (ρ' := [_, _, _, _, _, _, _, _, _, _, _, _, _, _, y9_2]) (sh_fld1 (off := 2) rfl (wd_one g9_2 (by intro _ e; cases e))) rfl rfl ?_
    obtain ⟨b12, h12, z12⟩ := (R24 g9_2) h11 (by simp only [enc, encs, List.length_append, List.length_nil, List.append_nil, List.nil_append] at hl8 ⊢; omega)
    refine wp_callE (ρ' := [_, _, _, _, _, _, _, _, _, _, _, _, _, _, _, b12]) z12 rfl rfl rfl rfl ?_
    refine wp_bindE (ρ' := [_, _, _, _, _, _, _, _, _, _, _, _, _, _, _, _, y9_3]) (sh_fld1 (off := 3) rfl (wd_one g9_3 (by intro _ e; cases e))) rfl rfl ?_
    obtain ⟨b13, h13, z13⟩ := (R24 g9_3) h12 (by simp only [enc, encs, List.length_append, List.length_nil, List.append_nil, List.nil_append] at hl8 ⊢; omega)
    refine wp_callE (ρ' := [_, _, _, _, _, _, _, _, _, _, _, _, _, _, _, _, _, b13]) z13 rfl rfl rfl rfl ?_
    refine wp_bindE (ρ' := [_, _, _, _, _, _, _, _, _, _, _, _, _, _, _, _, _, _, dI ((i8 + 1 : Nat) : Int)]) (sh_add (cap_bd' (by have := ln8; omega))) rfl rfl ?_
    exact wr_jump rfl (next8 b13 (by simpa only [enc, encs, List.append_assoc, List.append_nil, List.nil_append] using h13))
  · refine goes_R ?_
    show wp _ _ _ u8T1 _
    refine wp_bindE (ρ' := [_, _, _, y1_5]) (sh_fld1 (off := 5) rfl (wd_one g1_5 (by intro _ e; cases e))) rfl rfl ?_
    refine wp_bindE (ρ' := [_, _, _, _, dI (y1_5.es.length : Int)]) (sh_len (wd_sl g1_5).1) rfl rfl ?_
    refine wp_bindE (ρ' := [_, _, _, _, _, dB false]) (by rw [show false = decide ((y1_5.es.length : Int) < (y1_5.es.length : Int)) from (decide_eq_false (by omega)).symm]; exact sk_lss) rfl rfl ?_
    refine wp_iteC rfl (fun c => by cases c) (fun _ => ?_)
    refine wp_bindE (ρ' := [_, _, _, _, _, _, y1_6]) (sh_fld1 (off := 6) rfl (wd_one g1_6 (by intro _ e; cases e))) rfl rfl ?_
    refine wp_bindE (ρ' := [_, _, _, _, _, _, _, dI (y1_6.es.length : Int)]) (sh_len (wd_sl g1_6).1) rfl rfl ?_
    obtain ⟨b14, h14, z14⟩ := (rnumP_ok (n := (y1_6.es.length : Int)) (by have := (wd_sl g1_6).2.1; omega) (by have := (wd_sl g1_6).2.1; omega)) hb8 (by simp only [enc, encs, List.length_append, List.length_nil, List.append_nil, List.nil_append] at hl ⊢; omega)
    refine wp_callE (ρ' := [_, _, _, _, _, _, _, _, b14]) z14 rfl rfl rfl rfl ?_
    have ln15 := (wd_sl g1_6).2.1
    refine wr_jump rfl ?_
    refine loop_wr (es := y1_6.es) (enc := enc (.st [(.int .i64), (.int .i64), (.int .i64), (.int .i64), (.int .i64), (.int .i64), .str])) (ρ := fun i15 b => [b, dI (i15 : Int), .agg [y1_0, y1_1, y1_2, y1_3, y1_4, y1_5, y1_6]]) (l0 := (((((((([] ++ enc (.int .i64) y1_0) ++ enc .str y1_1) ++ enc (.int .i64) y1_2) ++ enc (.int .i64) y1_3) ++ enc (.sl 3 1 (.int .i64)) y1_4) ++ encI (y1_5.es.length : Int)) ++ y1_5.es.flatMap (enc (.st [.str, (.int .i64), (.int .i64), (.int .i64)]))) ++ encI (y1_6.es.length : Int))) ?_ (fun i15 x15 b15 l15 hx15 hi15 hb15 hl15 next15 => ?_) (fun b15 hb15 => ?_) b14 h14
    · simp only [enc, encs, List.length_append, List.length_nil, List.append_nil, List.nil_append] at hl ⊢; omega
    · have w15 := (wd_sl g1_6).2.2 x15 (List.mem_of_getElem? hx15)
      obtain ⟨cs16, rfl, k16⟩ := wd_st w15
      obtain ⟨y16_0, r16_0, rfl, g16_0, k16⟩ := wds_cons k16
      obtain ⟨y16_1, r16_1, rfl, g16_1, k16⟩ := wds_cons k16
      obtain ⟨y16_2, r16_2, rfl, g16_2, k16⟩ := wds_cons k16
      obtain ⟨y16_3, r16_3, rfl, g16_3, k16⟩ := wds_cons k16
      obtain ⟨y16_4, r16_4, rfl, g16_4, k16⟩ := wds_cons k16
      obtain ⟨y16_5, r16_5, rfl, g16_5, k16⟩ := wds_cons k16
      obtain ⟨y16_6, r16_6, rfl, g16_6, k16⟩ := wds_cons k16
      obtain rfl := wds_nil k16
      refine goes_R ?_
      show wp _ _ _ u8T2 _
      refine wp_bindE (ρ' := [_, _, _, y1_6]) (sh_fld1 (off := 6) rfl (wd_one g1_6 (by intro _ e; cases e))) rfl rfl ?_
      refine wp_bindE (ρ' := [_, _, _, _, dI (y1_6.es.length : Int)]) (sh_len (wd_sl g1_6).1) rfl rfl ?_
      refine wp_bindE (ρ' := [_, _, _, _, _, dB true]) (by rw [show true = decide ((i15 : Int) < (y1_6.es.length : Int)) from (decide_eq_true (by omega)).symm]; exact sk_lss) rfl rfl ?_
      refine wp_iteC rfl (fun _ => ?_) (fun c => by cases c)
      refine wp_bindE (ρ' := [_, _, _, _, _, _, y1_6]) (sh_fld1 (off := 6) rfl (wd_one g1_6 (by intro _ e; cases e))) rfl rfl ?_
      refine wp_bindE (ρ' := [_, _, _, _, _, _, _, dB true]) (sh_inr hx15) rfl rfl ?_
      refine wp_bindE (ρ' := [_, _, _, _, _, _, _, _, .agg [y16_0, y16_1, y16_2, y16_3, y16_4, y16_5, y16_6]]) (sh_elemW (wd_sl g1_6).1 hx15 rfl) rfl rfl ?_
      refine wp_bindE (ρ' := [_, _, _, _, _, _, _, _, _, .agg [y16_0, y16_1, y16_2, y16_3, y16_4, y16_5, y16_6]]) (sh_chkW rfl) rfl rfl ?_
      refine wp_bindE (ρ' := [_, _, _, _, _, _, _, _, _, _, y16_0]) (sh_fld1 (off := 0) rfl (wd_one g16_0 (by intro _ e; cases e))) rfl rfl ?_
      obtain ⟨b17, h17, z17⟩ := (R24 g16_0) hb15 (by simp only [enc, encs, List.length_append, List.length_nil, List.append_nil, List.nil_append] at hl15 ⊢; omega)
      refine wp_callE (ρ' := [_, _, _, _, _, _, _, _, _, _, _, b17]) z17 rfl rfl rfl rfl ?_
      refine wp_bindE (ρ' := [_, _, _, _, _, _, _, _, _, _, _, _, y16_1]) (sh_fld1 (off := 1) rfl (wd_one g16_1 (by intro _ e; cases e))) rfl rfl ?_
      obtain ⟨b18, h18, z18⟩ := (R24 g16_1) h17 (by simp only [enc, encs, List.length_append, List.length_nil, List.append_nil, List.nil_append] at hl15 ⊢; omega)
      refine wp_callE (ρ' := [_, _, _, _, _, _, _, _, _, _, _, _, _, b18]) z18 rfl rfl rfl rfl ?_
      refine wp_bindE (ρ' := [_, _, _, _, _, _, _, _, _, _, _, _, _, _, y16_2]) (sh_fld1 (off := 2) rfl (wd_one g16_2 (by intro _ e; cases e))) rfl rfl ?_
      obtain ⟨b19, h19, z19⟩ := (R24 g16_2) h18 (by simp only [enc, encs, List.length_append, List.length_nil, List.append_nil, List.nil_append] at hl15 ⊢; omega)
      refine wp_callE (ρ' := [_, _, _, _, _, _, _, _, _, _, _, _, _, _, _, b19]) z19 rfl rfl rfl rfl ?_
      have p20 : Wd (.st [(.int .i64), (.int .i64)]) (.agg [y16_3, y16_4]) := wd_part (off := 3) (size := 2) w15
      refine wp_bindE (ρ' := [_, _, _, _, _, _, _, _, _, _, _, _, _, _, _, _, .agg [y16_3, y16_4]]) (sh_fldA rfl) rfl rfl ?_
      obtain ⟨b21, h21, z21⟩ := (R34 p20) h19 (by simp only [enc, encs, List.length_append, List.length_nil, List.append_nil, List.nil_append] at hl15 ⊢; omega)
      refine wp_callE (ρ' := [_, _, _, _, _, _, _, _, _, _, _, _, _, _, _, _, _, b21]) z21 rfl rfl rfl rfl ?_
      refine wp_bindE (ρ' := [_, _, _, _, _, _, _, _, _, _, _, _, _, _, _, _, _, _, y16_5]) (sh_fld1 (off := 5) rfl (wd_one g16_5 (by intro _ e; cases e))) rfl rfl ?_
      obtain ⟨b22, h22, z22⟩ := (R24 g16_5) h21 (by simp only [enc, encs, List.length_append, List.length_nil, List.append_nil, List.nil_append] at hl15 ⊢; omega)
      refine wp_callE (ρ' := [_, _, _, _, _, _, _, _, _, _, _, _, _, _, _, _, _, _, _, b22]) z22 rfl rfl rfl rfl ?_
      refine wp_bindE (ρ' := [_, _, _, _, _, _, _, _, _, _, _, _, _, _, _, _, _, _, _, _, y16_6]) (sh_fld1 (off := 6) rfl (wd_one g16_6 (by intro _ e; cases e))) rfl rfl ?_
      obtain ⟨b23, h23, z23⟩ := (R25 g16_6) h22 (by simp only [enc, encs, List.length_append, List.length_nil, List.append_nil, List.nil_append] at hl15 ⊢; omega)
      refine wp_callE (ρ' := [_, _, _, _, _, _, _, _, _, _, _, _, _, _, _, _, _, _, _, _, _, b23]) z23 rfl rfl rfl rfl ?_
      refine wp_bindE (ρ' := [_, _, _, _, _, _, _, _, _, _, _, _, _, _, _, _, _, _, _, _, _, _, dI ((i15 + 1 : Nat) : Int)]) (sh_add (cap_bd' (by have := ln15; omega))) rfl rfl ?_
      exact wr_jump rfl (next15 b23 (by simpa only [enc, encs, List.append_assoc, List.append_nil, List.nil_append] using h23))
    · refine goes_R ?_
      show wp _ _ _ u8T2 _
      refine wp_bindE (ρ' := [_, _, _, y1_6]) (sh_fld1 (off := 6) rfl (wd_one g1_6 (by intro _ e; cases e))) rfl rfl ?_
      refine wp_bindE (ρ' := [_, _, _, _, dI (y1_6.es.length : Int)]) (sh_len (wd_sl g1_6).1) rfl rfl ?_
      refine wp_bindE (ρ' := [_, _, _, _, _, dB false]) (by rw [show false = decide ((y1_6.es.length : Int) < (y1_6.es.length : Int)) from (decide_eq_false (by omega)).symm]; exact sk_lss) rfl rfl ?_
      refine wp_iteC rfl (fun c => by cases c) (fun _ => ?_)
      have q24 : IsY b15 (enc (.st [(.int .i64), .str, (.int .i64), (.int .i64), (.sl 3 1 (.int .i64)), (.sl 111 4 (.st [.str, (.int .i64), (.int .i64), (.int .i64)])), (.sl 115 7 (.st [(.int .i64), (.int .i64), (.int .i64), (.int .i64), (.int .i64), (.int .i64), .str]))]) (.agg [y1_0, y1_1, y1_2, y1_3, y1_4, y1_5, y1_6])) := by simpa only [enc, encs, List.append_assoc, List.append_nil, List.nil_append] using hb15
      refine wp_callE (ρ' := [_, _, _, _, _, _, _]) (rhash_ok q24 hl) rfl rfl rfl rfl ?_
      exact wr_ret rfl rfl
theorem H6 {x : D} (h : Wd (.st [(.sl 102 2 (.st [.str, (.int .i64)])), .str, (.sl 121 2 (.st [.str, (.sl 3 1 (.int .i64))])), (.sl 68 1 (.sl 9 1 .str)), (.sl 89 6 (.st [(.sl 3 1 (.int .i64)), (.sl 3 1 (.int .i64)), (.sl 200 2 (.st [(.int .i64), (.int .i64)])), (.sl 200 2 (.st [(.int .i64), (.int .i64)])), .bool, .bool])), (.int .i64), (.sl 123 3 (.st [(.int .i64), (.int .i64), (.int .i64)])), (.sl 3 1 (.int .i64)), (.sl 96 8 (.st [(.int .i64), (.sl 3 1 (.int .i64)), (.int .i64), (.sl 31 1 (.sl 3 1 (.int .i64))), (.int .i64), (.sl 125 2 (.st [.str, .str])), (.sl 148 2 (.st [(.int .i64), (.int .i64)])), (.sl 127 2 (.st [(.int .i64), (.int .i64)]))]))]) x) : Holds EE 6 [x] (dI (hashV (enc (.st [(.sl 102 2 (.st [.str, (.int .i64)])), .str, (.sl 121 2 (.st [.str, (.sl 3 1 (.int .i64))])), (.sl 68 1 (.sl 9 1 .str)), (.sl 89 6 (.st [(.sl 3 1 (.int .i64)), (.sl 3 1 (.int .i64)), (.sl 200 2 (.st [(.int .i64), (.int .i64)])), (.sl 200 2 (.st [(.int .i64), (.int .i64)])), .bool, .bool])), (.int .i64), (.sl 123 3 (.st [(.int .i64), (.int .i64), (.int .i64)])), (.sl 3 1 (.int .i64)), (.sl 96 8 (.st [(.int .i64), (.sl 3 1 (.int .i64)), (.int .i64), (.sl 31 1 (.sl 3 1 (.int .i64))), (.int .i64), (.sl 125 2 (.st [.str, .str])), (.sl 148 2 (.st [(.int .i64), (.int .i64)])), (.sl 127 2 (.st [(.int .i64), (.int .i64)]))]))]) x))) := by
  have hl := wd_len h
  suffices hh : ∃ d, d = dI (hashV (enc (.st [(.sl 102 2 (.st [.str, (.int .i64)])), .str, (.sl 121 2 (.st [.str, (.sl 3 1 (.int .i64))])), (.sl 68 1 (.sl 9 1 .str)), (.sl 89 6 (.st [(.sl 3 1 (.int .i64)), (.sl 3 1 (.int .i64)), (.sl 200 2 (.st [(.int .i64), (.int .i64)])), (.sl 200 2 (.st [(.int .i64), (.int .i64)])), .bool, .bool])), (.int .i64), (.sl 123 3 (.st [(.int .i64), (.int .i64), (.int .i64)])), (.sl 3 1 (.int .i64)), (.sl 96 8 (.st [(.int .i64), (.sl 3 1 (.int .i64)), (.int .i64), (.sl 31 1 (.sl 3 1 (.int .i64))), (.int .i64), (.sl 125 2 (.st [.str, .str])), (.sl 148 2 (.st [(.int .i64), (.int .i64)])), (.sl 127 2 (.st [(.int .i64), (.int .i64)]))]))]) x)) ∧ Goes EE (Holds EE) u6Ts 0 [x] d by
    obtain ⟨d, rfl, hg⟩ := hh; exact u6 rfl hg
  obtain ⟨cs1, rfl, k1⟩ := wd_st h
  obtain ⟨y1_0, r1_0, rfl, g1_0, k1⟩ := wds_cons k1
  obtain ⟨y1_1, r1_1, rfl, g1_1, k1⟩ := wds_cons k1
  obtain ⟨y1_2, r1_2, rfl, g1_2, k1⟩ := wds_cons k1
  obtain ⟨y1_3, r1_3, rfl, g1_3, k1⟩ := wds_cons k1
  obtain ⟨y1_4, r1_4, rfl, g1_4, k1⟩ := wds_cons k1
  obtain ⟨y1_5, r1_5, rfl, g1_5, k1⟩ := wds_cons k1
  obtain ⟨y1_6, r1_6, rfl, g1_6, k1⟩ := wds_cons k1
  obtain ⟨y1_7, r1_7, rfl, g1_7, k1⟩ := wds_cons k1
  obtain ⟨y1_8, r1_8, rfl, g1_8, k1⟩ := wds_cons k1
  obtain rfl := wds_nil k1
  refine goes_R ?_
  show wp _ _ _ u6T0 _
  refine wp_bindE (ρ' := [_, .agg [y1_0, y1_1, y1_2, y1_3, y1_4, y1_5, y1_6, y1_7, y1_8]]) (sh_chkW rfl) rfl rfl ?_
  refine wp_bindE (ρ' := [_, _, y1_0]) (sh_fld1 (off := 0) rfl (wd_one g1_0 (by intro _ e; cases e))) rfl rfl ?_
  refine wp_bindE (ρ' := [_, _, _, dI (y1_0.es.length : Int)]) (sh_len (wd_sl g1_0).1) rfl rfl ?_
  obtain ⟨b2, h2, z2⟩ := (rnumP_ok (n := (y1_0.es.length : Int)) (by have := (wd_sl g1_0).2.1; omega) (by have := (wd_sl g1_0).2.1; omega)) IsY.nil (by simp only [enc, encs, List.length_append, List.length_nil, List.append_nil, List.nil_append] at hl ⊢; omega)
  refine wp_callE (ρ' := [_, _, _, _, b2]) z2 rfl rfl rfl rfl ?_
  have ln3 := (wd_sl g1_0).2.1
  refine wr_jump rfl ?_
  refine loop_wr (es := y1_0.es) (enc := enc (.st [.str, (.int .i64)])) (ρ := fun i3 b => [b, dI (i3 : Int), .agg [y1_0, y1_1, y1_2, y1_3, y1_4, y1_5, y1_6, y1_7, y1_8]]) (l0 := ([] ++ encI (y1_0.es.length : Int))) ?_ (fun i3 x3 b3 l3 hx3 hi3 hb3 hl3 next3 => ?_) (fun b3 hb3 => ?_) b2 h2
  · simp only [enc, encs, List.length_append, List.length_nil, List.append_nil, List.nil_append] at hl ⊢; omega
  · have w3 := (wd_sl g1_0).2.2 x3 (List.mem_of_getElem? hx3)
    obtain ⟨cs4, rfl, k4⟩ := wd_st w3
    obtain ⟨y4_0, r4_0, rfl, g4_0, k4⟩ := wds_cons k4
    obtain ⟨y4_1, r4_1, rfl, g4_1, k4⟩ := wds_cons k4
    obtain rfl := wds_nil k4
    refine goes_R ?_
    show wp _ _ _ u6T1 _
    refine wp_bindE (ρ' := [_, _, _, y1_0]) (sh_fld1 (off := 0) rfl (wd_one g1_0 (by intro _ e; cases e))) rfl rfl ?_
    refine wp_bindE (ρ' := [_, _, _, _, dI (y1_0.es.length : Int)]) (sh_len (wd_sl g1_0).1) rfl rfl ?_
    refine wp_bindE (ρ' := [_, _, _, _, _, dB true]) (by rw [show true = decide ((i3 : Int) < (y1_0.es.length : Int)) from (decide_eq_true (by omega)).symm]; exact sk_lss) rfl rfl ?_
    refine wp_iteC rfl (fun _ => ?_) (fun c => by cases c)
    refine wp_bindE (ρ' := [_, _, _, _, _, _, y1_0]) (sh_fld1 (off := 0) rfl (wd_one g1_0 (by intro _ e; cases e))) rfl rfl ?_
    refine wp_bindE (ρ' := [_, _, _, _, _, _, _, dB true]) (sh_inr hx3) rfl rfl ?_
    refine wp_bindE (ρ' := [_, _, _, _, _, _, _, _, y4_0]) (sh_elemP (off := 0) (wd_sl g1_0).1 hx3 rfl (wd_one g4_0 (by intro _ e; cases e)) (by decide)) rfl rfl ?_
    obtain ⟨b5, h5, z5⟩ := (R25 g4_0) hb3 (by simp only [enc, encs, List.length_append, List.length_nil, List.append_nil, List.nil_append] at hl3 ⊢; omega)
    refine wp_callE (ρ' := [_, _, _, _, _, _, _, _, _, b5]) z5 rfl rfl rfl rfl ?_
    refine wp_bindE (ρ' := [_, _, _, _, _, _, _, _, _, _, y1_0]) (sh_fld1 (off := 0) rfl (wd_one g1_0 (by intro _ e; cases e))) rfl rfl ?_
    refine wp_bindE (ρ' := [_, _, _, _, _, _, _, _, _, _, _, dB true]) (sh_inr hx3) rfl rfl ?_
    refine wp_bindE (ρ' := [_, _, _, _, _, _, _, _, _, _, _, _, y4_1]) (sh_elemP (off := 1) (wd_sl g1_0).1 hx3 rfl (wd_one g4_1 (by intro _ e; cases e)) (by decide)) rfl rfl ?_
    obtain ⟨b6, h6, z6⟩ := (R24 g4_1) h5 (by simp only [enc, encs, List.length_append, List.length_nil, List.append_nil, List.nil_append] at hl3 ⊢; omega)
    refine wp_callE (ρ' := [_, _, _, _, _, _, _, _, _, _, _, _, _, b6]) z6 rfl rfl rfl rfl ?_
    refine wp_bindE (ρ' := [_, _, _, _, _, _, _, _, _, _, _, _, _, _, dI ((i3 + 1 : Nat) : Int)]) (sh_add (cap_bd' (by have := ln3; omega))) rfl rfl ?_
    exact wr_jump rfl (next3 b6 (by simpa only [enc, encs, List.append_assoc, List.append_nil, List.nil_append] using h6))
  · refine goes_R ?_
    show wp _ _ _ u6T1 _
    refine wp_bindE (ρ' := [_, _, _, y1_0]) (sh_fld1 (off := 0) rfl (wd_one g1_0 (by intro _ e; cases e))) rfl rfl ?_
    refine wp_bindE (ρ' := [_, _, _, _, dI (y1_0.es.length : Int)]) (sh_len (wd_sl g1_0).1) rfl rfl ?_
    refine wp_bindE (ρ' := [_, _, _, _, _, dB false]) (by rw [show false = decide ((y1_0.es.length : Int) < (y1_0.es.length : Int)) from (decide_eq_false (by omega)).symm]; exact sk_lss) rfl rfl ?_
    refine wp_iteC rfl (fun c => by cases c) (fun _ => ?_)
    have p7 : Wd (.st [.str, (.sl 121 2 (.st [.str, (.sl 3 1 (.int .i64))])), (.sl 68 1 (.sl 9 1 .str))]) (.agg [y1_1, y1_2, y1_3]) := wd_part (off := 1) (size := 3) h
    refine wp_bindE (ρ' := [_, _, _, _, _, _, .agg [y1_1, y1_2, y1_3]]) (sh_fldA rfl) rfl rfl ?_
    obtain ⟨b8, h8, z8⟩ := (R26 p7) hb3 (by simp only [enc, encs, List.length_append, List.length_nil, List.append_nil, List.nil_append] at hl ⊢; omega)
    refine wp_callE (ρ' := [_, _, _, _, _, _, _, b8]) z8 rfl rfl rfl rfl ?_
    refine wp_bindE (ρ' := [_, _, _, _, _, _, _, _, y1_4]) (sh_fld1 (off := 4) rfl (wd_one g1_4 (by intro _ e; cases e))) rfl rfl ?_
    refine wp_bindE (ρ' := [_, _, _, _, _, _, _, _, _, dI (y1_4.es.length : Int)]) (sh_len (wd_sl g1_4).1) rfl rfl ?_
    obtain ⟨b9, h9, z9⟩ := (rnumP_ok (n := (y1_4.es.length : Int)) (by have := (wd_sl g1_4).2.1; omega) (by have := (wd_sl g1_4).2.1; omega)) h8 (by simp only [enc, encs, List.length_append, List.length_nil, List.append_nil, List.nil_append] at hl ⊢; omega)
    refine wp_callE (ρ' := [_, _, _, _, _, _, _, _, _, _, b9]) z9 rfl rfl rfl rfl ?_
    have ln10 := (wd_sl g1_4).2.1
    refine wr_jump rfl ?_
    refine loop_wr (es := y1_4.es) (enc := enc (.st [(.sl 3 1 (.int .i64)), (.sl 3 1 (.int .i64)), (.sl 200 2 (.st [(.int .i64), (.int .i64)])), (.sl 200 2 (.st [(.int .i64), (.int .i64)])), .bool, .bool])) (ρ := fun i10 b => [b, dI (i10 : Int), .agg [y1_0, y1_1, y1_2, y1_3, y1_4, y1_5, y1_6, y1_7, y1_8]]) (l0 := (((([] ++ encI (y1_0.es.length : Int)) ++ y1_0.es.flatMap (enc (.st [.str, (.int .i64)]))) ++ enc (.st [.str, (.sl 121 2 (.st [.str, (.sl 3 1 (.int .i64))])), (.sl 68 1 (.sl 9 1 .str))]) (.agg [y1_1, y1_2, y1_3])) ++ encI (y1_4.es.length : Int))) ?_ (fun i10 x10 b10 l10 hx10 hi10 hb10 hl10 next10 => ?_) (fun b10 hb10 => ?_) b9 h9
    · simp only [enc, encs, List.length_append, List.length_nil, List.append_nil, List.nil_append] at hl ⊢; omega
    · have w10 := (wd_sl g1_4).2.2 x10 (List.mem_of_getElem? hx10)
      obtain ⟨cs11, rfl, k11⟩ := wd_st w10
      obtain ⟨y11_0, r11_0, rfl, g11_0, k11⟩ := wds_cons k11
      obtain ⟨y11_1, r11_1, rfl, g11_1, k11⟩ := wds_cons k11
      obtain ⟨y11_2, r11_2, rfl, g11_2, k11⟩ := wds_cons k11
      obtain ⟨y11_3, r11_3, rfl, g11_3, k11⟩ := wds_cons k11
      obtain ⟨y11_4, r11_4, rfl, g11_4, k11⟩ := wds_cons k11
      obtain ⟨y11_5, r11_5, rfl, g11_5, k11⟩ := wds_cons k11
      obtain rfl := wds_nil k11
      refine goes_R ?_
      show wp _ _ _ u6T2 _
      refine wp_bindE (ρ' := [_, _, _, y1_4]) (sh_fld1 (off := 4) rfl (wd_one g1_4 (by intro _ e; cases e))) rfl rfl ?_
      refine wp_bindE (ρ' := [_, _, _, _, dI (y1_4.es.length : Int)]) (sh_len (wd_sl g1_4).1) rfl rfl ?_
      refine wp_bindE (ρ' := [_, _, _, _, _, dB true]) (by rw [show true = decide ((i10 : Int) < (y1_4.es.length : Int)) from (decide_eq_true (by omega)).symm]; exact sk_lss) rfl rfl ?_
      refine wp_iteC rfl (fun _ => ?_) (fun c => by cases c)
      refine wp_bindE (ρ' := [_, _, _, _, _, _, y1_4]) (sh_fld1 (off := 4) rfl (wd_one g1_4 (by intro _ e; cases e))) rfl rfl ?_
      refine wp_bindE (ρ' := [_, _, _, _, _, _, _, dB true]) (sh_inr hx10) rfl rfl ?_
      refine wp_bindE (ρ' := [_, _, _, _, _, _, _, _, .agg [y11_0, y11_1, y11_2, y11_3, y11_4, y11_5]]) (sh_elemW (wd_sl g1_4).1 hx10 rfl) rfl rfl ?_
      obtain ⟨b12, h12, z12⟩ := (R27 w10) hb10 (by simp only [enc, encs, List.length_append, List.length_nil, List.append_nil, List.nil_append] at hl10 ⊢; omega)
      refine wp_callE (ρ' := [_, _, _, _, _, _, _, _, _, b12]) z12 rfl rfl rfl rfl ?_
      refine wp_bindE (ρ' := [_, _, _, _, _, _, _, _, _, _, dI ((i10 + 1 : Nat) : Int)]) (sh_add (cap_bd' (by have := ln10; omega))) rfl rfl ?_
      exact wr_jump rfl (next10 b12 (by simpa only [enc, encs, List.append_assoc, List.append_nil, List.nil_append] using h12))
    · refine goes_R ?_
      show wp _ _ _ u6T2 _
      refine wp_bindE (ρ' := [_, _, _, y1_4]) (sh_fld1 (off := 4) rfl (wd_one g1_4 (by intro _ e; cases e))) rfl rfl ?_
      refine wp_bindE (ρ' := [_, _, _, _, dI (y1_4.es.length : Int)]) (sh_len (wd_sl g1_4).1) rfl rfl ?_
      refine wp_bindE (ρ' := [_, _, _, _, _, dB false]) (by rw [show false = decide ((y1_4.es.length : Int) < (y1_4.es.length : Int)) from (decide_eq_false (by omega)).symm]; exact sk_lss) rfl rfl ?_
      refine wp_iteC rfl (fun c => by cases c) (fun _ => ?_)
      have p13 : Wd (.st [(.int .i64), (.sl 123 3 (.st [(.int .i64), (.int .i64), (.int .i64)])), (.sl 3 1 (.int .i64))]) (.agg [y1_5, y1_6, y1_7]) := wd_part (off := 5) (size := 3) h
      refine wp_bindE (ρ' := [_, _, _, _, _, _, .agg [y1_5, y1_6, y1_7]]) (sh_fldA rfl) rfl rfl ?_
      obtain ⟨b14, h14, z14⟩ := (R28 p13) hb10 (by simp only [enc, encs, List.length_append, List.length_nil, List.append_nil, List.nil_append] at hl ⊢; omega)
      refine wp_callE (ρ' := [_, _, _, _, _, _, _, b14]) z14 rfl rfl rfl rfl ?_
      refine wp_bindE (ρ' := [_, _, _, _, _, _, _, _, y1_8]) (sh_fld1 (off := 8) rfl (wd_one g1_8 (by intro _ e; cases e))) rfl rfl ?_
      refine wp_bindE (ρ' := [_, _, _, _, _, _, _, _, _, dI (y1_8.es.length : Int)]) (sh_len (wd_sl g1_8).1) rfl rfl ?_
      obtain ⟨b15, h15, z15⟩ := (rnumP_ok (n := (y1_8.es.length : Int)) (by have := (wd_sl g1_8).2.1; omega) (by have := (wd_sl g1_8).2.1; omega)) h14 (by simp only [enc, encs, List.length_append, List.length_nil, List.append_nil, List.nil_append] at hl ⊢; omega)
      refine wp_callE (ρ' := [_, _, _, _, _, _, _, _, _, _, b15]) z15 rfl rfl rfl rfl ?_
      have ln16 := (wd_sl g1_8).2.1
      refine wr_jump rfl ?_
      refine loop_wr (es := y1_8.es) (enc := enc (.st [(.int .i64), (.sl 3 1 (.int .i64)), (.int .i64), (.sl 31 1 (.sl 3 1 (.int .i64))), (.int .i64), (.sl 125 2 (.st [.str, .str])), (.sl 148 2 (.st [(.int .i64), (.int .i64)])), (.sl 127 2 (.st [(.int .i64), (.int .i64)]))])) (ρ := fun i16 b => [b, dI (i16 : Int), .agg [y1_0, y1_1, y1_2, y1_3, y1_4, y1_5, y1_6, y1_7, y1_8]]) (l0 := ((((((([] ++ encI (y1_0.es.length : Int)) ++ y1_0.es.flatMap (enc (.st [.str, (.int .i64)]))) ++ enc (.st [.str, (.sl 121 2 (.st [.str, (.sl 3 1 (.int .i64))])), (.sl 68 1 (.sl 9 1 .str))]) (.agg [y1_1, y1_2, y1_3])) ++ encI (y1_4.es.length : Int)) ++ y1_4.es.flatMap (enc (.st [(.sl 3 1 (.int .i64)), (.sl 3 1 (.int .i64)), (.sl 200 2 (.st [(.int .i64), (.int .i64)])), (.sl 200 2 (.st [(.int .i64), (.int .i64)])), .bool, .bool]))) ++ enc (.st [(.int .i64), (.sl 123 3 (.st [(.int .i64), (.int .i64), (.int .i64)])), (.sl 3 1 (.int .i64))]) (.agg [y1_5, y1_6, y1_7])) ++ encI (y1_8.es.length : Int))) ?_ (fun i16 x16 b16 l16 hx16 hi16 hb16 hl16 next16 => ?_) (fun b16 hb16 => ?_) b15 h15
      · simp only [enc, encs, List.length_append, List.length_nil, List.append_nil, List.nil_append] at hl ⊢; omega
      · have w16 := (wd_sl g1_8).2.2 x16 (List.mem_of_getElem? hx16)
        obtain ⟨cs17, rfl, k17⟩ := wd_st w16
        obtain ⟨y17_0, r17_0, rfl, g17_0, k17⟩ := wds_cons k17
        obtain ⟨y17_1, r17_1, rfl, g17_1, k17⟩ := wds_cons k17
        obtain ⟨y17_2, r17_2, rfl, g17_2, k17⟩ := wds_cons k17
        obtain ⟨y17_3, r17_3, rfl, g17_3, k17⟩ := wds_cons k17
        obtain ⟨y17_4, r17_4, rfl, g17_4, k17⟩ := wds_cons k17
        obtain ⟨y17_5, r17_5, rfl, g17_5, k17⟩ := wds_cons k17
        obtain ⟨y17_6, r17_6, rfl, g17_6, k17⟩ := wds_cons k17
        obtain ⟨y17_7, r17_7, rfl, g17_7, k17⟩ := wds_cons k17
        obtain rfl := wds_nil k17
        refine goes_R ?_
        show wp _ _ _ u6T3 _
        refine wp_bindE (ρ' := [_, _, _, y1_8]) (sh_fld1 (off := 8) rfl (wd_one g1_8 (by intro _ e; cases e))) rfl rfl ?_
        refine wp_bindE (ρ' := [_, _, _, _, dI (y1_8.es.length : Int)]) (sh_len (wd_sl g1_8).1) rfl rfl ?_
        refine wp_bindE (ρ' := [_, _, _, _, _, dB true]) (by rw [show true = decide ((i16 : Int) < (y1_8.es.length : Int)) from (decide_eq_true (by omega)).symm]; exact sk_lss) rfl rfl ?_
        refine wp_iteC rfl (fun _ => ?_) (fun c => by cases c)
        refine wp_bindE (ρ' := [_, _, _, _, _, _, y1_8]) (sh_fld1 (off := 8) rfl (wd_one g1_8 (by intro _ e; cases e))) rfl rfl ?_
        refine wp_bindE (ρ' := [_, _, _, _, _, _, _, dB true]) (sh_inr hx16) rfl rfl ?_
        refine wp_bindE (ρ' := [_, _, _, _, _, _, _, _, .agg [y17_0, y17_1, y17_2, y17_3, y17_4, y17_5, y17_6, y17_7]]) (sh_elemW (wd_sl g1_8).1 hx16 rfl) rfl rfl ?_
        obtain ⟨b18, h18, z18⟩ := (R29 w16) hb16 (by simp only [enc, encs, List.length_append, List.length_nil, List.append_nil, List.nil_append] at hl16 ⊢; omega)
        refine wp_callE (ρ' := [_, _, _, _, _, _, _, _, _, b18]) z18 rfl rfl rfl rfl ?_
        refine wp_bindE (ρ' := [_, _, _, _, _, _, _, _, _, _, dI ((i16 + 1 : Nat) : Int)]) (sh_add (cap_bd' (by have := ln16; omega))) rfl rfl ?_
        exact wr_jump rfl (next16 b18 (by simpa only [enc, encs, List.append_assoc, List.append_nil, List.nil_append] using h18))
      · refine goes_R ?_
        show wp _ _ _ u6T3 _
        refine wp_bindE (ρ' := [_, _, _, y1_8]) (sh_fld1 (off := 8) rfl (wd_one g1_8 (by intro _ e; cases e))) rfl rfl ?_
        refine wp_bindE (ρ' := [_, _, _, _, dI (y1_8.es.length : Int)]) (sh_len (wd_sl g1_8).1) rfl rfl ?_
        refine wp_bindE (ρ' := [_, _, _, _, _, dB false]) (by rw [show false = decide ((y1_8.es.length : Int) < (y1_8.es.length : Int)) from (decide_eq_false (by omega)).symm]; exact sk_lss) rfl rfl ?_
        refine wp_iteC rfl (fun c => by cases c) (fun _ => ?_)
        have q19 : IsY b16 (enc (.st [(.sl 102 2 (.st [.str, (.int .i64)])), .str, (.sl 121 2 (.st [.str, (.sl 3 1 (.int .i64))])), (.sl 68 1 (.sl 9 1 .str)), (.sl 89 6 (.st [(.sl 3 1 (.int .i64)), (.sl 3 1 (.int .i64)), (.sl 200 2 (.st [(.int .i64), (.int .i64)])), (.sl 200 2 (.st [(.int .i64), (.int .i64)])), .bool, .bool])), (.int .i64), (.sl 123 3 (.st [(.int .i64), (.int .i64), (.int .i64)])), (.sl 3 1 (.int .i64)), (.sl 96 8 (.st [(.int .i64), (.sl 3 1 (.int .i64)), (.int .i64), (.sl 31 1 (.sl 3 1 (.int .i64))), (.int .i64), (.sl 125 2 (.st [.str, .str])), (.sl 148 2 (.st [(.int .i64), (.int .i64)])), (.sl 127 2 (.st [(.int .i64), (.int .i64)]))]))]) (.agg [y1_0, y1_1, y1_2, y1_3, y1_4, y1_5, y1_6, y1_7, y1_8])) := by simpa only [enc, encs, List.append_assoc, List.append_nil, List.nil_append] using hb16
        refine wp_callE (ρ' := [_, _, _, _, _, _, _]) (rhash_ok q19 hl) rfl rfl rfl rfl ?_
        exact wr_ret rfl rfl
end Go.Proofs.YtgkfhfcieamncaaGreatDoor
