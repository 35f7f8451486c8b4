/- Numbers, texts, flags as bytes, and checksums: the specification's functions. Conditions: none. -/
import Derived.Test.YtgkfhfcieamncaaGreatDoorSf
import Derived.Test.YtgkfhfcieamncaaGreatDoorSc
set_option linter.unusedVariables false
set_option linter.unusedSimpArgs false
namespace Go.Proofs.YtgkfhfcieamncaaGreatDoor
open Go Go.Am Go.Proofs Go.Am.Tt
theorem o_add (m n : Int) {x y : Operand} : TOp.eval EE (.bin .add 149 x y) [dU m, dU n] = some (dU (IntKind.u64.wrap (m + n))) := by kernel_rfl
theorem o_quo (m : Int) {x y : Operand} : TOp.eval EE (.bin .quo 149 x y) [dU m, dU 128] = some (dU (IntKind.u64.wrap (m.tdiv 128))) := by kernel_rfl
theorem o_rem (m : Int) {x y : Operand} : TOp.eval EE (.bin .rem 149 x y) [dU m, dU 128] = some (dU (m.tmod 128)) := by kernel_rfl
theorem o_neg0 (m : Int) : TOp.eval EE (.un .neg 3) [dI m] = some (dI (IntKind.i64.wrap (0 - m))) := by kernel_rfl
theorem o_neg (m : Int) : TOp.eval EE (.un .neg 3) [dI m] = some (dI (IntKind.i64.wrap (-m))) := by rw [o_neg0, Int.zero_sub]
attribute [local irreducible] Go.Am.wp Go.Am.TOp.eval
theorem rvar_ok : ∀ (u : Nat), u < 18446744073709551616 → ∀ (b : D) (l : List Int), IsY b l → (l ++ encU u).length ≤ 300000000 → ∃ d, IsY d (l ++ encU u) ∧ Goes EE (Holds EE) w24_0Ts 1 [dU (u : Int), b] d := by
  intro u
  induction u using Nat.strongRecOn with
  | _ u ih =>
    intro hu64 b l hb hl
    rw [encU] at hl ⊢
    refine goes_R ?_
    show wp _ _ _ w24_0T1 _
    refine wp_bindE (ρ' := [_, _, _]) sk_geq rfl rfl ?_
    refine wp_iteC rfl (fun c => ?_) (fun c => ?_)
    · replace c : (u : Int) ≥ 128 := of_decide_eq_true c
      have hu : ¬ u < 128 := by omega
      rw [if_neg hu] at hl ⊢
      have e1 : ((u : Int)).tmod 128 = ((u % 128 : Nat) : Int) := by
        rw [Int.tmod_eq_emod_of_nonneg (by omega)]; omega
      have e2 : IntKind.u64.wrap (((u % 128 : Nat) : Int) + 128) = ((u % 128 + 128 : Nat) : Int) := by rw [wrapU]; omega
      have e3 : IntKind.u8.wrap ((u % 128 + 128 : Nat) : Int) = ((u % 128 + 128 : Nat) : Int) := by rw [wrapY]; omega
      have e4 : IntKind.u64.wrap (((u : Int)).tdiv 128) = ((u / 128 : Nat) : Int) := by
        rw [Int.tdiv_eq_ediv_of_nonneg (by omega), wrapU]; omega
      have a1 := o_rem (u : Int) (x := .tmp 24) (y := .const (.int .u64 128))
      rw [e1] at a1
      have a2 := o_add ((u % 128 : Nat) : Int) 128 (x := .tmp 25) (y := .const (.int .u64 128))
      rw [e2] at a2
      have a3 := o_byte ((u % 128 + 128 : Nat) : Int)
      rw [e3] at a3
      have a4 := o_quo (u : Int) (x := .tmp 30) (y := .const (.int .u64 128))
      rw [e4] at a4
      simp only [List.length_append, List.length_cons] at hl
      obtain ⟨y, ey, hy⟩ := app_Y (E := EE) hb (IsY.one (x := ((u % 128 + 128 : Nat) : Int))) (by simp only [List.length_singleton]; omega)
      refine wp_bindE (ρ' := [_, _, _, dU ((u % 128 : Nat) : Int)]) a1 rfl rfl ?_
      refine wp_bindE (ρ' := [_, _, _, _, dU ((u % 128 + 128 : Nat) : Int)]) a2 rfl rfl ?_
      refine wp_bindE (ρ' := [_, _, _, _, _, dY ((u % 128 + 128 : Nat) : Int)]) a3 rfl rfl ?_
      refine wp_bindE (ρ' := [_, _, _, _, _, _, dY ((u % 128 + 128 : Nat) : Int)]) (sh_chk1 rfl) rfl rfl ?_
      refine wp_bindE (ρ' := [_, _, _, _, _, _, _, .sl 5 1 [dY ((u % 128 + 128 : Nat) : Int)]]) lit_Y rfl rfl ?_
      refine wp_bindE (ρ' := [_, _, _, _, _, _, _, _, y]) ey rfl rfl ?_
      refine wp_bindE (ρ' := [_, _, _, _, _, _, _, _, _, dU ((u / 128 : Nat) : Int)]) a4 rfl rfl ?_
      obtain ⟨d, hd, hg⟩ := ih (u / 128) (by omega) (by omega) y _ hy (by simp only [List.length_append, List.length_singleton]; omega)
      refine wr_jump rfl ⟨d, ?_, hg⟩
      rw [List.append_assoc] at hd; exact hd
    · replace c : ¬ ((u : Int) ≥ 128) := of_decide_eq_false c
      have hu : u < 128 := by omega
      rw [if_pos hu] at hl ⊢
      have hw : IntKind.u8.wrap (u : Int) = (u : Int) := by rw [wrapY]; omega
      have hby := o_byte (u : Int)
      rw [hw] at hby
      simp only [List.length_append, List.length_singleton] at hl
      obtain ⟨y, ey, hy⟩ := app_Y (E := EE) hb (IsY.one (x := (u : Int))) (by simp only [List.length_singleton]; omega)
      refine wp_bindE (ρ' := [_, _, _, dY (u : Int)]) hby rfl rfl ?_
      refine wp_bindE (ρ' := [_, _, _, _, dY (u : Int)]) (sh_chk1 rfl) rfl rfl ?_
      refine wp_bindE (ρ' := [_, _, _, _, _, .sl 5 1 [dY (u : Int)]]) lit_Y rfl rfl ?_
      refine wp_bindE (ρ' := [_, _, _, _, _, _, y]) ey rfl rfl ?_
      exact wr_ret rfl hy
theorem rnum_ok {n : Int} (h0 : -9223372036854775808 ≤ n) (h1 : n ≤ 9223372036854775807) : Wb EE 24 m24_0 (dI n) (encI n) := by
  intro b l hb hl
  suffices h : ∃ d, IsY d (l ++ encI n) ∧ Goes EE (Holds EE) w24_0Ts 0 [b, dI n] d by
    obtain ⟨d, hd, hg⟩ := h; exact ⟨d, hd, w24_0 hg ⟨[d], rfl, rfl⟩⟩
  have hl' := hl
  rw [List.length_append] at hl'
  obtain ⟨c, ec, hc⟩ := app_Y (E := EE) IsY.empty hb (by rw [List.length_nil]; omega)
  rw [List.nil_append] at hc
  refine goes_R ?_
  show wp _ _ _ w24_0T0 _
  refine wp_bindE (ρ' := [_, _, dU (IntKind.u64.wrap n)]) (o_conv n) rfl rfl ?_
  refine wp_bindE (ρ' := [_, _, _, dU (IntKind.u64.wrap (IntKind.u64.wrap n * 2))]) (o_mul _ 2) rfl rfl ?_
  refine wp_bindE (ρ' := [_, _, _, _, _]) sk_lss rfl rfl ?_
  refine wp_iteC rfl (fun c0 => ?_) (fun c0 => ?_)
  · replace c0 : n < 0 := of_decide_eq_true c0
    have e1 : IntKind.i64.wrap (-(n + 1)) = -(n + 1) := wrapI (by omega) (by omega)
    have a1 := o_neg (n + 1)
    rw [e1] at a1
    have e2 : IntKind.u64.wrap (-(n + 1)) = -(n + 1) := by rw [wrapU]; omega
    have a2 := o_conv (-(n + 1))
    rw [e2] at a2
    have e3 : IntKind.u64.wrap (-(n + 1) * 2) = -(n + 1) * 2 := by rw [wrapU]; omega
    have a3 := o_mul (-(n + 1)) 2 (x := .tmp 15) (y := .const (.int .u64 2))
    rw [e3] at a3
    have e4 : IntKind.u64.wrap (-(n + 1) * 2 + 1) = (zig n : Int) := by
      rw [wrapU]; unfold zig; rw [if_pos c0]; omega
    have a4 := o_add (-(n + 1) * 2) 1 (x := .tmp 16) (y := .const (.int .u64 1))
    rw [e4] at a4
    refine wp_bindE (ρ' := [_, _, _, _, _, dI (n + 1)]) (si_add (by omega)) rfl rfl ?_
    refine wp_bindE (ρ' := [_, _, _, _, _, _, dI (-(n + 1))]) a1 rfl rfl ?_
    refine wp_bindE (ρ' := [_, _, _, _, _, _, _, dU (-(n + 1))]) a2 rfl rfl ?_
    refine wp_bindE (ρ' := [_, _, _, _, _, _, _, _, dU (-(n + 1) * 2)]) a3 rfl rfl ?_
    refine wp_bindE (ρ' := [_, _, _, _, _, _, _, _, _, dU (zig n : Int)]) a4 rfl rfl ?_
    refine wp_bindE (ρ' := [_, _, _, _, _, _, _, _, _, _, .sl 5 1 []]) lit_Y0 rfl rfl ?_
    refine wp_bindE (ρ' := [_, _, _, _, _, _, _, _, _, _, _, c]) ec rfl rfl ?_
    exact wr_jump rfl (rvar_ok (zig n) (zig_lt h0 h1) c l hc hl)
  · replace c0 : ¬ n < 0 := of_decide_eq_false c0
    have e1 : IntKind.u64.wrap (IntKind.u64.wrap n * 2) = (zig n : Int) := by
      rw [wrapU, wrapU]; unfold zig; rw [if_neg c0]; omega
    rw [e1]
    refine wp_bindE (ρ' := [_, _, _, _, _, .sl 5 1 []]) lit_Y0 rfl rfl ?_
    refine wp_bindE (ρ' := [_, _, _, _, _, _, c]) ec rfl rfl ?_
    exact wr_jump rfl (rvar_ok (zig n) (zig_lt h0 h1) c l hc hl)
theorem rvarP_ok : ∀ (u : Nat), u < 18446744073709551616 → ∀ (b : D) (l : List Int), IsY b l → (l ++ encU u).length ≤ 300000000 → ∃ d, IsY d (l ++ encU u) ∧ Goes EE (Holds EE) u24Ts 1 [dU (u : Int), b] d := by
  intro u
  induction u using Nat.strongRecOn with
  | _ u ih =>
    intro hu64 b l hb hl
    rw [encU] at hl ⊢
    refine goes_R ?_
    show wp _ _ _ u24T1 _
    refine wp_bindE (ρ' := [_, _, _]) sk_geq rfl rfl ?_
    refine wp_iteC rfl (fun c => ?_) (fun c => ?_)
    · replace c : (u : Int) ≥ 128 := of_decide_eq_true c
      have hu : ¬ u < 128 := by omega
      rw [if_neg hu] at hl ⊢
      have e1 : ((u : Int)).tmod 128 = ((u % 128 : Nat) : Int) := by
        rw [Int.tmod_eq_emod_of_nonneg (by omega)]; omega
      have e2 : IntKind.u64.wrap (((u % 128 : Nat) : Int) + 128) = ((u % 128 + 128 : Nat) : Int) := by rw [wrapU]; omega
      have e3 : IntKind.u8.wrap ((u % 128 + 128 : Nat) : Int) = ((u % 128 + 128 : Nat) : Int) := by rw [wrapY]; omega
      have e4 : IntKind.u64.wrap (((u : Int)).tdiv 128) = ((u / 128 : Nat) : Int) := by
        rw [Int.tdiv_eq_ediv_of_nonneg (by omega), wrapU]; omega
      have a1 := o_rem (u : Int) (x := .tmp 24) (y := .const (.int .u64 128))
      rw [e1] at a1
      have a2 := o_add ((u % 128 : Nat) : Int) 128 (x := .tmp 25) (y := .const (.int .u64 128))
      rw [e2] at a2
      have a3 := o_byte ((u % 128 + 128 : Nat) : Int)
      rw [e3] at a3
      have a4 := o_quo (u : Int) (x := .tmp 30) (y := .const (.int .u64 128))
      rw [e4] at a4
      simp only [List.length_append, List.length_cons] at hl
      obtain ⟨y, ey, hy⟩ := app_Y (E := EE) hb (IsY.one (x := ((u % 128 + 128 : Nat) : Int))) (by simp only [List.length_singleton]; omega)
      refine wp_bindE (ρ' := [_, _, _, dU ((u % 128 : Nat) : Int)]) a1 rfl rfl ?_
      refine wp_bindE (ρ' := [_, _, _, _, dU ((u % 128 + 128 : Nat) : Int)]) a2 rfl rfl ?_
      refine wp_bindE (ρ' := [_, _, _, _, _, dY ((u % 128 + 128 : Nat) : Int)]) a3 rfl rfl ?_
      refine wp_bindE (ρ' := [_, _, _, _, _, _, dY ((u % 128 + 128 : Nat) : Int)]) (sh_chk1 rfl) rfl rfl ?_
      refine wp_bindE (ρ' := [_, _, _, _, _, _, _, .sl 5 1 [dY ((u % 128 + 128 : Nat) : Int)]]) lit_Y rfl rfl ?_
      refine wp_bindE (ρ' := [_, _, _, _, _, _, _, _, y]) ey rfl rfl ?_
      refine wp_bindE (ρ' := [_, _, _, _, _, _, _, _, _, dU ((u / 128 : Nat) : Int)]) a4 rfl rfl ?_
      obtain ⟨d, hd, hg⟩ := ih (u / 128) (by omega) (by omega) y _ hy (by simp only [List.length_append, List.length_singleton]; omega)
      refine wr_jump rfl ⟨d, ?_, hg⟩
      rw [List.append_assoc] at hd; exact hd
    · replace c : ¬ ((u : Int) ≥ 128) := of_decide_eq_false c
      have hu : u < 128 := by omega
      rw [if_pos hu] at hl ⊢
      have hw : IntKind.u8.wrap (u : Int) = (u : Int) := by rw [wrapY]; omega
      have hby := o_byte (u : Int)
      rw [hw] at hby
      simp only [List.length_append, List.length_singleton] at hl
      obtain ⟨y, ey, hy⟩ := app_Y (E := EE) hb (IsY.one (x := (u : Int))) (by simp only [List.length_singleton]; omega)
      refine wp_bindE (ρ' := [_, _, _, dY (u : Int)]) hby rfl rfl ?_
      refine wp_bindE (ρ' := [_, _, _, _, dY (u : Int)]) (sh_chk1 rfl) rfl rfl ?_
      refine wp_bindE (ρ' := [_, _, _, _, _, .sl 5 1 [dY (u : Int)]]) lit_Y rfl rfl ?_
      refine wp_bindE (ρ' := [_, _, _, _, _, _, y]) ey rfl rfl ?_
      exact wr_ret rfl hy
theorem rnumP_ok {n : Int} (h0 : -9223372036854775808 ≤ n) (h1 : n ≤ 9223372036854775807) : Wf EE 24 (dI n) (encI n) := by
  intro b l hb hl
  suffices h : ∃ d, IsY d (l ++ encI n) ∧ Goes EE (Holds EE) u24Ts 0 [b, dI n] d by
    obtain ⟨d, hd, hg⟩ := h; exact ⟨d, hd, u24 rfl hg⟩
  have hl' := hl
  rw [List.length_append] at hl'
  obtain ⟨c, ec, hc⟩ := app_Y (E := EE) IsY.empty hb (by rw [List.length_nil]; omega)
  rw [List.nil_append] at hc
  refine goes_R ?_
  show wp _ _ _ u24T0 _
  refine wp_bindE (ρ' := [_, _, dU (IntKind.u64.wrap n)]) (o_conv n) rfl rfl ?_
  refine wp_bindE (ρ' := [_, _, _, dU (IntKind.u64.wrap (IntKind.u64.wrap n * 2))]) (o_mul _ 2) rfl rfl ?_
  refine wp_bindE (ρ' := [_, _, _, _, _]) sk_lss rfl rfl ?_
  refine wp_iteC rfl (fun c0 => ?_) (fun c0 => ?_)
  · replace c0 : n < 0 := of_decide_eq_true c0
    have e1 : IntKind.i64.wrap (-(n + 1)) = -(n + 1) := wrapI (by omega) (by omega)
    have a1 := o_neg (n + 1)
    rw [e1] at a1
    have e2 : IntKind.u64.wrap (-(n + 1)) = -(n + 1) := by rw [wrapU]; omega
    have a2 := o_conv (-(n + 1))
    rw [e2] at a2
    have e3 : IntKind.u64.wrap (-(n + 1) * 2) = -(n + 1) * 2 := by rw [wrapU]; omega
    have a3 := o_mul (-(n + 1)) 2 (x := .tmp 15) (y := .const (.int .u64 2))
    rw [e3] at a3
    have e4 : IntKind.u64.wrap (-(n + 1) * 2 + 1) = (zig n : Int) := by
      rw [wrapU]; unfold zig; rw [if_pos c0]; omega
    have a4 := o_add (-(n + 1) * 2) 1 (x := .tmp 16) (y := .const (.int .u64 1))
    rw [e4] at a4
    refine wp_bindE (ρ' := [_, _, _, _, _, dI (n + 1)]) (si_add (by omega)) rfl rfl ?_
    refine wp_bindE (ρ' := [_, _, _, _, _, _, dI (-(n + 1))]) a1 rfl rfl ?_
    refine wp_bindE (ρ' := [_, _, _, _, _, _, _, dU (-(n + 1))]) a2 rfl rfl ?_
    refine wp_bindE (ρ' := [_, _, _, _, _, _, _, _, dU (-(n + 1) * 2)]) a3 rfl rfl ?_
    refine wp_bindE (ρ' := [_, _, _, _, _, _, _, _, _, dU (zig n : Int)]) a4 rfl rfl ?_
    refine wp_bindE (ρ' := [_, _, _, _, _, _, _, _, _, _, .sl 5 1 []]) lit_Y0 rfl rfl ?_
    refine wp_bindE (ρ' := [_, _, _, _, _, _, _, _, _, _, _, c]) ec rfl rfl ?_
    exact wr_jump rfl (rvarP_ok (zig n) (zig_lt h0 h1) c l hc hl)
  · replace c0 : ¬ n < 0 := of_decide_eq_false c0
    have e1 : IntKind.u64.wrap (IntKind.u64.wrap n * 2) = (zig n : Int) := by
      rw [wrapU, wrapU]; unfold zig; rw [if_neg c0]; omega
    rw [e1]
    refine wp_bindE (ρ' := [_, _, _, _, _, .sl 5 1 []]) lit_Y0 rfl rfl ?_
    refine wp_bindE (ρ' := [_, _, _, _, _, _, c]) ec rfl rfl ?_
    exact wr_jump rfl (rvarP_ok (zig n) (zig_lt h0 h1) c l hc hl)
theorem R24 {x : D} (h : Wd (.int .i64) x) : Wf EE 24 x (enc (.int .i64) x) := by
  obtain ⟨n, rfl, h0, h1⟩ := wd_int h
  exact rnumP_ok h0 h1
theorem R25 {x : D} (h : Wd .str x) : Wf EE 25 x (enc .str x) := by
  intro b l hb hl
  obtain ⟨s, rfl, hs⟩ := wd_str h
  suffices hh : ∃ d, IsY d (l ++ encT s) ∧ Goes EE (Holds EE) u25Ts 0 [b, .leaf (.string s)] d by
    obtain ⟨d, hd, hg⟩ := hh; exact ⟨d, hd, u25 rfl hg⟩
  have hl2 : (l ++ encT s).length ≤ 300000000 := hl
  have hl' := hl2
  unfold encT at hl' ⊢
  rw [List.length_append, List.length_append] at hl'
  obtain ⟨c, hc, kc⟩ := (rnum_ok (n := (s.size : Int)) (by omega) (by omega)) hb (by rw [List.length_append]; omega)
  obtain ⟨q, eq, hq⟩ := byt_Y hs
  obtain ⟨y, ey, hy⟩ := app_Y (E := EE) hc hq (by rw [List.length_append]; omega)
  refine goes_R ?_
  show wp _ _ _ u25T0 _
  refine wp_bindE (ρ' := [_, _, dI (s.size : Int)]) ss_len rfl rfl ?_
  refine wp_callM (rs := [c]) (ρ' := [_, _, _, c]) kc rfl rfl rfl ?_
  refine wp_bindE (ρ' := [_, _, _, _, q]) eq rfl rfl ?_
  refine wp_bindE (ρ' := [_, _, _, _, _, y]) ey rfl rfl ?_
  refine wr_ret (ds := [y]) rfl ?_
  show IsY y _
  rw [List.append_assoc] at hy; exact hy
theorem R54 {x : D} (h : Wd .bool x) : Wf EE 54 x (enc .bool x) := by
  intro b l hb hl
  suffices hh : ∃ d, IsY d (l ++ enc .bool x) ∧ Goes EE (Holds EE) u54Ts 0 [b, x] d by
    obtain ⟨d, hd, hg⟩ := hh; exact ⟨d, hd, u54 rfl hg⟩
  obtain ⟨t, rfl⟩ := wd_bool h
  refine goes_R ?_
  show wp _ _ _ u54T0 _
  cases t with
  | true =>
    obtain ⟨d, hd, kd⟩ := (rnumP_ok (n := (1 : Int)) (by omega) (by omega)) hb hl
    refine wp_iteC rfl (fun _ => ?_) (fun c => by cases c)
    refine wp_callE (ρ' := [_, _, d]) kd rfl rfl rfl rfl ?_
    exact wr_ret rfl hd
  | false =>
    obtain ⟨d, hd, kd⟩ := (rnumP_ok (n := (0 : Int)) (by omega) (by omega)) hb hl
    refine wp_iteC rfl (fun c => by cases c) (fun _ => ?_)
    refine wp_callE (ρ' := [_, _, d]) kd rfl rfl rfl rfl ?_
    exact wr_ret rfl hd
theorem rmore_ok {h : Int} {b : D} {l : List Int} (hb : IsY b l) (hl : l.length ≤ 300000000) : Holds EE 56 [dI h, b] (dI (moreV h l)) := by
  have hsl := hb.sl hl
  have hlen := hb.len
  have loop : ∀ i, i ≤ l.length → Goes EE (Holds EE) u56Ts 1 [b, dU ((l.take i).foldl stepV (maskV (IntKind.u64.wrap h))), dI (i : Int)] (dI (moreV h l)) := by
    refine loop_up (P := fun i => i ≤ l.length → Goes EE (Holds EE) u56Ts 1 [b, dU ((l.take i).foldl stepV (maskV (IntKind.u64.wrap h))), dI (i : Int)] (dI (moreV h l))) l.length (fun i ih => ?_)
    intro hi
    refine Goes.step' ?_
    show wp _ _ _ u56T1 _
    refine wp_bindE (ρ' := [_, _, _, dI (b.es.length : Int)]) (sh_len hsl) rfl rfl ?_
    refine wp_bindE (ρ' := [_, _, _, _, _]) sk_lss rfl rfl ?_
    refine wp_iteC rfl (fun c => ?_) (fun c => ?_)
    · replace c : (i : Int) < (b.es.length : Int) := of_decide_eq_true c
      obtain ⟨n, hn⟩ : ∃ n, l[i]? = some n := ⟨_, List.getElem?_eq_getElem (by omega)⟩
      refine wp_bindE (ρ' := [_, _, _, _, _, dB true]) (sh_inr (hb.get hn)) rfl rfl ?_
      refine wp_bindE (ρ' := [_, _, _, _, _, _, dY n]) (sh_elem1 hsl (hb.get hn) rfl) rfl rfl ?_
      refine wp_bindE (ρ' := [_, _, _, _, _, _, _, dU (IntKind.u64.wrap n)]) (o_wide n) rfl rfl ?_
      refine wp_bindE (ρ' := [_, _, _, _, _, _, _, _, _]) (o_xor _ _) rfl rfl ?_
      refine wp_bindE (ρ' := [_, _, _, _, _, _, _, _, _, _]) (o_mul _ _) rfl rfl ?_
      refine wp_bindE (ρ' := [_, _, _, _, _, _, _, _, _, _, _]) (o_and _ _) rfl rfl ?_
      refine wp_bindE (ρ' := [_, _, _, _, _, _, _, _, _, _, _, dI ((i + 1 : Nat) : Int)]) (sh_add (cap_bd' (by omega))) rfl rfl ?_
      have := ih (by omega) (by omega)
      rw [fold_take hn] at this
      exact wp_jumpTo rfl this
    · replace c : ¬ ((i : Int) < (b.es.length : Int)) := of_decide_eq_false c
      refine wp_bindE (ρ' := [_, _, _, _, _, _]) (o_back _) rfl rfl ?_
      refine wp_retTo2 rfl ?_
      rw [List.take_of_length_le (by omega)]; rfl
  refine u56 rfl (Goes.step' ?_)
  show wp _ _ _ u56T0 _
  refine wp_bindE (ρ' := [_, _, dU (IntKind.u64.wrap h)]) (o_conv h) rfl rfl ?_
  refine wp_bindE (ρ' := [_, _, _, dU (maskV (IntKind.u64.wrap h))]) (o_and _ _) rfl rfl ?_
  exact wp_jumpTo rfl (loop 0 (Nat.zero_le _))
theorem rhash_ok {b : D} {l : List Int} (hb : IsY b l) (hl : l.length ≤ 300000000) : Holds EE 30 [b] (dI (hashV l)) := by
  refine u30 rfl (Goes.step' ?_)
  show wp _ _ _ u30T0 _
  refine wp_callE (ρ' := [_, dI (hashV l)]) (rmore_ok hb hl) rfl rfl rfl rfl ?_
  exact wp_retTo2 rfl rfl
end Go.Proofs.YtgkfhfcieamncaaGreatDoor
