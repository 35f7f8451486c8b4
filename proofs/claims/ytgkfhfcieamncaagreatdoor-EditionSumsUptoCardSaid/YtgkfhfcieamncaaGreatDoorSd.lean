/- Numbers, texts and lists as bytes: the program's functions. Conditions: none. -/
import Derived.Test.YtgkfhfcieamncaaGreatDoorSb
import Derived.Test.YtgkfhfcieamncaaGreatDoorMa
import Derived.Test.YtgkfhfcieamncaaGreatDoorUn
set_option linter.unusedVariables false
set_option linter.unusedSimpArgs false
namespace Go.Proofs.YtgkfhfcieamncaaGreatDoor
open Go Go.Am Go.Proofs Go.Am.Tt
theorem o_conv (m : Int) : TOp.eval EE (.conv 3 149) [dI m] = some (dU (IntKind.u64.wrap m)) := by kernel_rfl
theorem o_shl (m : Int) {x y : Operand} : TOp.eval EE (.bin .shl 149 x y) [dU m, dU 1] = some (dU (IntKind.u64.wrap (m * 2 ^ 1))) := by kernel_rfl
theorem o_shr (m : Int) {x y : Operand} : TOp.eval EE (.bin .shr 3 x y) [dI m, dU 63] = some (dI (m.fdiv (2 ^ 63))) := by kernel_rfl
theorem o_xor (m n : Int) {x y : Operand} : TOp.eval EE (.bin .xor 149 x y) [dU m, dU n] = some (dU (IntKind.u64.wrap ((BitVec.ofInt 64 m ^^^ BitVec.ofInt 64 n).toNat : Int))) := by kernel_rfl
theorem o_or (m : Int) {x y : Operand} : TOp.eval EE (.bin .or 5 x y) [dY m, dY 128] = some (dY (IntKind.u8.wrap ((BitVec.ofInt 8 m ||| BitVec.ofInt 8 128).toNat : Int))) := by kernel_rfl
theorem o_byte (m : Int) : TOp.eval EE (.conv 149 5) [dU m] = some (dY (IntKind.u8.wrap m)) := by kernel_rfl
theorem o_shr7 (m : Int) {x y : Operand} : TOp.eval EE (.bin .shr 149 x y) [dU m, dU 7] = some (dU (m.fdiv (2 ^ 7))) := by kernel_rfl
attribute [local irreducible] Go.Am.wp Go.Am.TOp.eval
/- Clone -/
theorem clone_ok {b : D} {l : List Int} (hb : IsY b l) (hl : l.length ≤ 300000000) : ∃ b', IsY b' l ∧ Holds EE (Nat.add bigN 90) [.mode m90_0, b] b' := by
  suffices h : ∃ d, (IsY d l) ∧ Goes EE (Holds EE) w90_0Ts 0 [b] d by
    obtain ⟨d, hd, hg⟩ := h; exact ⟨d, hd, w90_0 hg ⟨[d], rfl, rfl⟩⟩
  refine goes_R ?_
  show wp _ _ _ w90_0T0 _
  have hn : TOp.eval EE (.isNil false) [b] = some (dB (match b with | .nil => true | _ => false)) := by
    rcases hb.1 with rfl | ⟨es, rfl⟩ <;> rw [ev_isNil] <;> rfl
  refine wp_bindE (ρ' := [_, _]) hn rfl rfl ?_
  refine wp_iteC rfl (fun c => ?_) (fun c => ?_)
  · refine wr_ret rfl ?_
    rcases hb.1 with rfl | ⟨es, rfl⟩
    · exact hb
    · cases c
  · obtain ⟨y, ey, hy⟩ := app_Y (E := EE) IsY.empty hb (by simpa using hl)
    refine wp_bindE (ρ' := [_, _, .sl 5 1 []]) lit_Y0 rfl rfl ?_
    refine wp_bindE (ρ' := [_, _, _, y]) ey rfl rfl ?_
    have hy' : IsY y l := by simpa using hy
    exact wr_ret rfl hy'
/- varint -/
theorem varU_ok : ∀ (u : Nat), ∀ (b : D) (l : List Int), IsY b l → (l ++ encU u).length ≤ 300000000 → ∃ d, IsY d (l ++ encU u) ∧ Goes EE (Holds EE) w89_0Ts 1 [b, dU (u : Int)] d := by
  intro u
  induction u using Nat.strongRecOn with
  | _ u ih =>
    intro b l hb hl
    rw [encU] at hl ⊢
    refine goes_R ?_
    show wp _ _ _ w89_0T1 _
    refine wp_bindE (ρ' := [_, _, _]) sk_geq rfl rfl ?_
    refine wp_iteC rfl (fun c => ?_) (fun c => ?_)
    · replace c : (u : Int) ≥ 128 := of_decide_eq_true c
      have hu : ¬ u < 128 := by omega
      rw [if_neg hu] at hl ⊢
      have hor := o_or (IntKind.u8.wrap (u : Int)) (x := .tmp 17) (y := .const (.int .u8 128))
      rw [or_prog u] at hor
      have hdiv : ((u : Int)).fdiv (2 ^ 7) = ((u / 128 : Nat) : Int) := by
        have e : (2 : Int) ^ 7 = 128 := rfl
        rw [e, Int.fdiv_eq_ediv_of_nonneg _ (by decide)]; omega
      have hsh := o_shr7 (u : Int) (x := .tmp 21) (y := .const (.int .u64 7))
      rw [hdiv] at hsh
      simp only [List.length_append, List.length_cons] at hl
      obtain ⟨y, ey, hy⟩ := app_Y (E := EE) hb (IsY.one (x := ((u % 128 + 128 : Nat) : Int))) (by simp only [List.length_singleton]; omega)
      refine wp_bindE (ρ' := [_, _, _, dY (IntKind.u8.wrap (u : Int))]) (o_byte _) rfl rfl ?_
      refine wp_bindE (ρ' := [_, _, _, _, dY ((u % 128 + 128 : Nat) : Int)]) hor rfl rfl ?_
      refine wp_bindE (ρ' := [_, _, _, _, _, dY ((u % 128 + 128 : Nat) : Int)]) (sh_chk1 rfl) rfl rfl ?_
      refine wp_bindE (ρ' := [_, _, _, _, _, _, .sl 5 1 [dY ((u % 128 + 128 : Nat) : Int)]]) lit_Y rfl rfl ?_
      refine wp_bindE (ρ' := [_, _, _, _, _, _, _, y]) ey rfl rfl ?_
      refine wp_bindE (ρ' := [_, _, _, _, _, _, _, _, dU ((u / 128 : Nat) : Int)]) hsh rfl rfl ?_
      obtain ⟨d, hd, hg⟩ := ih (u / 128) (by omega) y _ hy (by simp only [List.length_append, List.length_singleton]; omega)
      refine wr_jump rfl ⟨d, ?_, hg⟩
      rw [List.append_assoc] at hd; exact hd
    · replace c : ¬ ((u : Int) ≥ 128) := of_decide_eq_false c
      have hu : u < 128 := by omega
      rw [if_pos hu] at hl ⊢
      have hw : IntKind.u8.wrap (u : Int) = (u : Int) := by rw [wrapY]; omega
      have hby := o_byte (u : Int)
      rw [hw] at hby
      simp only [List.length_append, List.length_singleton] at hl
      obtain ⟨y, ey, hy⟩ := app_Y (E := EE) hb (IsY.one (x := (u : Int))) (by simp only [List.length_singleton]; omega)
      refine wp_bindE (ρ' := [_, _, _, dY (u : Int)]) hby rfl rfl ?_
      refine wp_bindE (ρ' := [_, _, _, _, dY (u : Int)]) (sh_chk1 rfl) rfl rfl ?_
      refine wp_bindE (ρ' := [_, _, _, _, _, .sl 5 1 [dY (u : Int)]]) lit_Y rfl rfl ?_
      refine wp_bindE (ρ' := [_, _, _, _, _, _, y]) ey rfl rfl ?_
      exact wr_ret rfl hy
theorem varint_ok {n : Int} (h0 : -9223372036854775808 ≤ n) (h1 : n ≤ 9223372036854775807) : Wb EE 89 m89_0 (dI n) (encI n) := by
  intro b l hb hl
  suffices h : ∃ d, IsY d (l ++ encI n) ∧ Goes EE (Holds EE) w89_0Ts 0 [b, dI n] d by
    obtain ⟨d, hd, hg⟩ := h; exact ⟨d, hd, w89_0 hg ⟨[d], rfl, rfl⟩⟩
  refine goes_R ?_
  show wp _ _ _ w89_0T0 _
  have hx := o_xor (IntKind.u64.wrap (IntKind.u64.wrap n * 2 ^ 1)) (IntKind.u64.wrap (n.fdiv (2 ^ 63))) (x := .tmp 8) (y := .tmp 11)
  rw [zig_prog h0 h1] at hx
  refine wp_bindE (ρ' := [_, _, dU (IntKind.u64.wrap n)]) (o_conv n) rfl rfl ?_
  refine wp_bindE (ρ' := [_, _, _, dU (IntKind.u64.wrap (IntKind.u64.wrap n * 2 ^ 1))]) (o_shl _) rfl rfl ?_
  refine wp_bindE (ρ' := [_, _, _, _, dI (n.fdiv (2 ^ 63))]) (o_shr n) rfl rfl ?_
  refine wp_bindE (ρ' := [_, _, _, _, _, dU (IntKind.u64.wrap (n.fdiv (2 ^ 63)))]) (o_conv _) rfl rfl ?_
  refine wp_bindE (ρ' := [_, _, _, _, _, _, dU (zig n : Int)]) hx rfl rfl ?_
  exact wr_jump rfl (varU_ok (zig n) b l hb hl)
theorem putInt_ok {n : Int} (h0 : -9223372036854775808 ≤ n) (h1 : n ≤ 9223372036854775807) : Wf EE 49 (dI n) (encI n) := by
  intro b l hb hl
  suffices h : ∃ d, IsY d (l ++ encI n) ∧ Goes EE (Holds EE) u49Ts 0 [b, dI n] d by
    obtain ⟨d, hd, hg⟩ := h; exact ⟨d, hd, u49 rfl hg⟩
  have hl' := hl
  rw [List.length_append] at hl'
  obtain ⟨c, hc, kc⟩ := clone_ok hb (by omega)
  obtain ⟨d, hd, kd⟩ := varint_ok h0 h1 hc hl
  refine goes_R ?_
  show wp _ _ _ u49T0 _
  refine wp_callM (rs := [c]) (ρ' := [_, _, c]) kc rfl rfl rfl ?_
  refine wp_callM (rs := [d]) (ρ' := [_, _, _, d]) kd rfl rfl rfl ?_
  exact wr_ret rfl hd
/- number -/
theorem number_ok {n : Int} (h0 : -9223372036854775808 ≤ n) (h1 : n ≤ 9223372036854775807) : Wm EE 19 m19_0 (dI n) (encI n) := by
  intro b l hb hl
  suffices h : ∃ d, IsY d (l ++ encI n) ∧ Goes EE (Holds EE) w19_0Ts 0 [dI n, b] d by
    obtain ⟨d, hd, hg⟩ := h; exact ⟨d, hd, w19_0 hg ⟨[d], rfl, rfl⟩⟩
  have hl' := hl
  rw [List.length_append] at hl'
  obtain ⟨c, hc, kc⟩ := putInt_ok h0 h1 IsY.nil (by simp only [List.nil_append]; omega)
  rw [List.nil_append] at hc
  obtain ⟨y, ey, hy⟩ := app_Y (E := EE) hb hc hl'
  refine goes_R ?_
  show wp _ _ _ w19_0T0 _
  refine wp_callE (ρ' := [_, _, c]) kc rfl rfl rfl rfl ?_
  refine wp_bindE (ρ' := [_, _, _, y]) ey rfl rfl ?_
  exact wr_ret rfl hy
/- texts -/
theorem byte1_ok {c : Int} : Wb EE 92 m92_0 (dY c) [c] := by
  intro b l hb hl
  suffices h : ∃ d, IsY d (l ++ [c]) ∧ Goes EE (Holds EE) w92_0Ts 0 [b, dY c] d by
    obtain ⟨d, hd, hg⟩ := h; exact ⟨d, hd, w92_0 hg ⟨[d], rfl, rfl⟩⟩
  obtain ⟨y, ey, hy⟩ := app_Y (E := EE) hb (IsY.one (x := c)) (by simpa using hl)
  refine goes_R ?_
  show wp _ _ _ w92_0T0 _
  refine wp_bindE (ρ' := [_, _, dY c]) (sh_chk1 rfl) rfl rfl ?_
  refine wp_bindE (ρ' := [_, _, _, .sl 5 1 [dY c]]) lit_Y rfl rfl ?_
  refine wp_bindE (ρ' := [_, _, _, _, y]) ey rfl rfl ?_
  exact wr_ret rfl hy
theorem flat_one {l : List Int} : (l.map fun n => dY n).flatMap (fun d => [valD d]) = l := by
  induction l with
  | nil => rfl
  | cons x l ih => rw [List.map_cons, List.flatMap_cons, ih]; rfl
theorem putB_ok {s : D} {e : List Int} (hs : IsY s e) (he : e.length ≤ 1048576) : Wb EE 91 m91_0 s (encI (e.length : Int) ++ e) := by
  intro b l hb hl
  suffices h : ∃ d, IsY d (l ++ (encI (e.length : Int) ++ e)) ∧ Goes EE (Holds EE) w91_0Ts 0 [b, s] d by
    obtain ⟨d, hd, hg⟩ := h; exact ⟨d, hd, w91_0 hg ⟨[d], rfl, rfl⟩⟩
  have hsl := hs.sl (by omega)
  have hlen := hs.len
  have hl' := hl
  rw [List.length_append, List.length_append] at hl'
  obtain ⟨c, hc, kc⟩ := varint_ok (n := (e.length : Int)) (by omega) (by omega) hb (by rw [List.length_append]; omega)
  refine goes_R ?_
  show wp _ _ _ w91_0T0 _
  refine wp_bindE (ρ' := [_, _, dI (e.length : Int)]) (by rw [← hlen]; exact sh_len hsl) rfl rfl ?_
  refine wp_callM (rs := [c]) (ρ' := [_, _, _, c]) kc rfl rfl rfl ?_
  refine wp_bindE (ρ' := [_, _, _, _, dI (e.length : Int)]) (by rw [← hlen]; exact sh_len hsl) rfl rfl ?_
  refine wr_jump rfl ?_
  refine loop_wr (es := s.es) (enc := fun d => [valD d]) (ρ := fun i b => [b, s, dI (e.length : Int), dI (i : Int)]) (l0 := l ++ encI (e.length : Int)) ?_ (fun i x b l hx hi hb hl next => ?_) (fun b hb => ?_) c hc
  · rw [hs.2, flat_one, List.append_assoc]; exact hl
  · have hi' : i < e.length := by omega
    obtain ⟨n, hn⟩ : ∃ n, e[i]? = some n := ⟨_, List.getElem?_eq_getElem hi'⟩
    have hx2 := hs.get hn
    rw [hx] at hx2; cases hx2
    obtain ⟨d, hd, kd⟩ := byte1_ok (c := n) hb hl
    refine goes_R ?_
    show wp _ _ _ w91_0T1 _
    refine wp_bindE (ρ' := [_, _, _, _, dB true]) (by rw [show true = decide ((i : Int) < (e.length : Int)) from (decide_eq_true (by omega)).symm]; exact sk_lss) rfl rfl ?_
    refine wp_iteC rfl (fun _ => ?_) (fun c => by cases c)
    refine wp_bindE (ρ' := [_, _, _, _, _, dB true]) (sh_inr hx) rfl rfl ?_
    refine wp_bindE (ρ' := [_, _, _, _, _, _, dY n]) (sh_elem1 hsl hx rfl) rfl rfl ?_
    refine wp_callM (rs := [d]) (ρ' := [_, _, _, _, _, _, _, d]) kd rfl rfl rfl ?_
    refine wp_bindE (ρ' := [_, _, _, _, _, _, _, _, dI ((i + 1 : Nat) : Int)]) (sh_add (cap_bd' (by omega))) rfl rfl ?_
    exact wr_jump rfl (next d hd)
  · refine goes_R ?_
    show wp _ _ _ w91_0T1 _
    refine wp_bindE (ρ' := [_, _, _, _, dB false]) (by rw [show false = decide ((s.es.length : Int) < (e.length : Int)) from (decide_eq_false (by omega)).symm]; exact sk_lss) rfl rfl ?_
    refine wp_iteC rfl (fun c => by cases c) (fun _ => ?_)
    refine wr_ret rfl ?_
    rw [hs.2, flat_one, List.append_assoc] at hb; exact hb
theorem byt_Y {s : ByteArray} (hs : s.size ≤ 1048576) : ∃ d, TOp.eval EE (.byt 5) [.leaf (.string s)] = some d ∧ IsY d (encB s) := by
  refine ⟨.sl 5 1 (s.data.toList.map fun b => .leaf (.int .u8 b.toNat)), ?_, .inr ⟨_, rfl⟩, ?_⟩
  · rw [ev_bytes]
    have : s.data.toList.length = s.size := Array.length_toList
    exact tt_bif (Nat.ble_eq_true_of_le (by omega))
  · unfold encB
    rw [List.map_map]; rfl
theorem putText_ok {s : ByteArray} (hs : s.size ≤ 1048576) : Wf EE 57 (.leaf (.string s)) (encT s) := by
  intro b l hb hl
  suffices h : ∃ d, IsY d (l ++ encT s) ∧ Goes EE (Holds EE) u57Ts 0 [b, .leaf (.string s)] d by
    obtain ⟨d, hd, hg⟩ := h; exact ⟨d, hd, u57 rfl hg⟩
  have hl' := hl
  rw [List.length_append] at hl'
  obtain ⟨c, hc, kc⟩ := clone_ok hb (by omega)
  obtain ⟨q, eq, hq⟩ := byt_Y hs
  have hbl := encB_len s
  obtain ⟨d, hd, kd⟩ := putB_ok hq (by omega) hc (by rw [hbl]; exact hl)
  rw [hbl] at hd
  refine goes_R ?_
  show wp _ _ _ u57T0 _
  refine wp_callM (rs := [c]) (ρ' := [_, _, c]) kc rfl rfl rfl ?_
  refine wp_bindE (ρ' := [_, _, _, q]) eq rfl rfl ?_
  refine wp_callM (rs := [d]) (ρ' := [_, _, _, _, d]) kd rfl rfl rfl ?_
  exact wr_ret rfl hd
theorem text_ok {s : ByteArray} (hs : s.size ≤ 1048576) : Wm EE 31 m31_0 (.leaf (.string s)) (encT s) := by
  intro b l hb hl
  suffices h : ∃ d, IsY d (l ++ encT s) ∧ Goes EE (Holds EE) w31_0Ts 0 [.leaf (.string s), b] d by
    obtain ⟨d, hd, hg⟩ := h; exact ⟨d, hd, w31_0 hg ⟨[d], rfl, rfl⟩⟩
  have hl' := hl
  rw [List.length_append] at hl'
  obtain ⟨c, hc, kc⟩ := putText_ok hs IsY.nil (by rw [List.nil_append]; omega)
  rw [List.nil_append] at hc
  obtain ⟨y, ey, hy⟩ := app_Y (E := EE) hb hc hl'
  refine goes_R ?_
  show wp _ _ _ w31_0T0 _
  refine wp_callE (ρ' := [_, _, c]) kc rfl rfl rfl rfl ?_
  refine wp_bindE (ρ' := [_, _, _, y]) ey rfl rfl ?_
  exact wr_ret rfl hy
end Go.Proofs.YtgkfhfcieamncaaGreatDoor
namespace Go.Proofs.YtgkfhfcieamncaaGreatDoor
open Go Go.Am Go.Proofs Go.Am.Tt
attribute [local irreducible] Go.Am.wp Go.Am.TOp.eval
theorem W19 {x : D} (h : Wd (.int .i64) x) : Wm EE 19 m19_0 x (enc (.int .i64) x) := by
  obtain ⟨n, rfl, h0, h1⟩ := wd_int h
  exact number_ok h0 h1
theorem W31 {x : D} (h : Wd .str x) : Wm EE 31 m31_0 x (enc .str x) := by
  obtain ⟨s, rfl, hs⟩ := wd_str h
  exact text_ok hs
theorem V89 {x : D} (h : Wd (.int .i64) x) : Wb EE 89 m89_0 x (enc (.int .i64) x) := by
  obtain ⟨n, rfl, h0, h1⟩ := wd_int h
  exact varint_ok h0 h1
theorem V93 {x : D} (h : Wd (.sl 3 1 (.int .i64)) x) : Wb EE 93 m93_0 x (enc (.sl 3 1 (.int .i64)) x) := by
  intro b l hb hl
  suffices hh : ∃ d, IsY d (l ++ enc (.sl 3 1 (.int .i64)) x) ∧ Goes EE (Holds EE) w93_0Ts 0 [b, x] d by
    obtain ⟨d, hd, hg⟩ := hh; exact ⟨d, hd, w93_0 hg ⟨[d], rfl, rfl⟩⟩
  have ln := (wd_sl h).2.1
  obtain ⟨c, hc, kc⟩ := (varint_ok (n := (x.es.length : Int)) (by omega) (by omega)) hb (by simp only [enc, List.length_append] at hl ⊢; omega)
  refine goes_R ?_
  show wp _ _ _ w93_0T0 _
  refine wp_bindE (ρ' := [_, _, dI (x.es.length : Int)]) (sh_len (wd_sl h).1) rfl rfl ?_
  refine wp_callM (rs := [c]) (ρ' := [_, _, _, c]) kc rfl rfl rfl ?_
  refine wp_bindE (ρ' := [_, _, _, _, dI (x.es.length : Int)]) (sh_len (wd_sl h).1) rfl rfl ?_
  refine wr_jump rfl ?_
  refine loop_wr (es := x.es) (enc := enc (.int .i64)) (ρ := fun i b => [b, x, dI (x.es.length : Int), dI (i : Int)]) (l0 := l ++ encI (x.es.length : Int)) ?_ (fun i y b2 l2 hx hi hb2 hl2 next => ?_) (fun b2 hb2 => ?_) c hc
  · simp only [enc, List.length_append] at hl ⊢; omega
  · have w := (wd_sl h).2.2 y (List.mem_of_getElem? hx)
    obtain ⟨d, hd, kd⟩ := (V89 w) hb2 hl2
    refine goes_R ?_
    show wp _ _ _ w93_0T1 _
    refine wp_bindE (ρ' := [_, _, _, _, dB true]) (by rw [show true = decide ((i : Int) < (x.es.length : Int)) from (decide_eq_true (by omega)).symm]; exact sk_lss) rfl rfl ?_
    refine wp_iteC rfl (fun _ => ?_) (fun c => by cases c)
    refine wp_bindE (ρ' := [_, _, _, _, _, dB true]) (sh_inr hx) rfl rfl ?_
    refine wp_bindE (ρ' := [_, _, _, _, _, _, y]) (sh_elem1 (wd_sl h).1 hx (wd_one w (by intro _ e; cases e))) rfl rfl ?_
    refine wp_callM (rs := [d]) (ρ' := [_, _, _, _, _, _, _, d]) kd rfl rfl rfl ?_
    refine wp_bindE (ρ' := [_, _, _, _, _, _, _, _, dI ((i + 1 : Nat) : Int)]) (sh_add (cap_bd' (by omega))) rfl rfl ?_
    exact wr_jump rfl (next d hd)
  · refine goes_R ?_
    show wp _ _ _ w93_0T1 _
    refine wp_bindE (ρ' := [_, _, _, _, dB false]) (by rw [show false = decide ((x.es.length : Int) < (x.es.length : Int)) from (decide_eq_false (by omega)).symm]; exact sk_lss) rfl rfl ?_
    refine wp_iteC rfl (fun c => by cases c) (fun _ => ?_)
    refine wr_ret (ds := [b2]) rfl ?_
    show IsY b2 _
    simpa only [enc, List.append_assoc] using hb2
theorem W58 {x : D} (h : Wd (.sl 3 1 (.int .i64)) x) : Wf EE 58 x (enc (.sl 3 1 (.int .i64)) x) := by
  intro b l hb hl
  suffices hh : ∃ d, IsY d (l ++ enc (.sl 3 1 (.int .i64)) x) ∧ Goes EE (Holds EE) u58Ts 0 [b, x] d by
    obtain ⟨d, hd, hg⟩ := hh; exact ⟨d, hd, u58 rfl hg⟩
  have hl' := hl
  rw [List.length_append] at hl'
  obtain ⟨c, hc, kc⟩ := clone_ok hb (by omega)
  obtain ⟨d, hd, kd⟩ := (V93 h) hc hl
  refine goes_R ?_
  show wp _ _ _ u58T0 _
  refine wp_callM (rs := [c]) (ρ' := [_, _, c]) kc rfl rfl rfl ?_
  refine wp_callM (rs := [d]) (ρ' := [_, _, _, d]) kd rfl rfl rfl ?_
  exact wr_ret rfl hd
theorem W32 {x : D} (h : Wd (.sl 3 1 (.int .i64)) x) : Wm EE 32 m32_0 x (enc (.sl 3 1 (.int .i64)) x) := by
  intro b l hb hl
  suffices hh : ∃ d, IsY d (l ++ enc (.sl 3 1 (.int .i64)) x) ∧ Goes EE (Holds EE) w32_0Ts 0 [x, b] d by
    obtain ⟨d, hd, hg⟩ := hh; exact ⟨d, hd, w32_0 hg ⟨[d], rfl, rfl⟩⟩
  have hl' := hl
  rw [List.length_append] at hl'
  obtain ⟨c, hc, kc⟩ := (W58 h) IsY.nil (by rw [List.nil_append]; omega)
  rw [List.nil_append] at hc
  obtain ⟨y, ey, hy⟩ := app_Y (E := EE) hb hc hl'
  refine goes_R ?_
  show wp _ _ _ w32_0T0 _
  refine wp_callE (ρ' := [_, _, c]) kc rfl rfl rfl rfl ?_
  refine wp_bindE (ρ' := [_, _, _, y]) ey rfl rfl ?_
  exact wr_ret rfl hy
theorem W51 {x : D} (h : Wd .bool x) : Wm EE 51 m51_0 x (enc .bool x) := by
  intro b l hb hl
  suffices hh : ∃ d, IsY d (l ++ enc .bool x) ∧ Goes EE (Holds EE) w51_0Ts 0 [x, b] d by
    obtain ⟨d, hd, hg⟩ := hh; exact ⟨d, hd, w51_0 hg ⟨[d], rfl, rfl⟩⟩
  obtain ⟨t, rfl⟩ := wd_bool h
  refine goes_R ?_
  show wp _ _ _ w51_0T0 _
  cases t with
  | true =>
    obtain ⟨d, hd, kd⟩ := (number_ok (n := (1 : Int)) (by omega) (by omega)) hb hl
    refine wp_iteC rfl (fun _ => ?_) (fun c => by cases c)
    refine wp_callM (rs := [d]) (ρ' := [_, _, d]) kd rfl rfl rfl ?_
    exact wr_ret rfl hd
  | false =>
    obtain ⟨d, hd, kd⟩ := (number_ok (n := (0 : Int)) (by omega) (by omega)) hb hl
    refine wp_iteC rfl (fun c => by cases c) (fun _ => ?_)
    refine wp_callM (rs := [d]) (ρ' := [_, _, d]) kd rfl rfl rfl ?_
    exact wr_ret rfl hd
end Go.Proofs.YtgkfhfcieamncaaGreatDoor
