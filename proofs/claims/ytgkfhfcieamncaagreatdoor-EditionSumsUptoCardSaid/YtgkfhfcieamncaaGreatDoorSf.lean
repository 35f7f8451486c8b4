/- Checksums. Conditions: none. -/
import Derived.Test.YtgkfhfcieamncaaGreatDoorSe
import Derived.Test.YtgkfhfcieamncaaGreatDoorUv
import Derived.Test.YtgkfhfcieamncaaGreatDoorMa
set_option linter.unusedVariables false
set_option linter.unusedSimpArgs false
namespace Go.Proofs.YtgkfhfcieamncaaGreatDoor
open Go Go.Am Go.Proofs Go.Am.Tt
theorem o_and (m n : Int) {x y : Operand} : TOp.eval EE (.bin .and 149 x y) [dU m, dU n] = some (dU (IntKind.u64.wrap ((BitVec.ofInt 64 m &&& BitVec.ofInt 64 n).toNat : Int))) := by kernel_rfl
theorem o_mul (m n : Int) {x y : Operand} : TOp.eval EE (.bin .mul 149 x y) [dU m, dU n] = some (dU (IntKind.u64.wrap (m * n))) := by kernel_rfl
theorem o_wide (m : Int) : TOp.eval EE (.conv 5 149) [dY m] = some (dU (IntKind.u64.wrap m)) := by kernel_rfl
theorem o_back (m : Int) : TOp.eval EE (.conv 149 3) [dU m] = some (dI (IntKind.i64.wrap m)) := by kernel_rfl
attribute [local irreducible] Go.Am.wp Go.Am.TOp.eval
def maskV (x : Int) : Int := IntKind.u64.wrap ((BitVec.ofInt 64 x &&& BitVec.ofInt 64 4611686018427387903).toNat : Int)
def stepV (x c : Int) : Int := maskV (IntKind.u64.wrap (IntKind.u64.wrap ((BitVec.ofInt 64 x ^^^ BitVec.ofInt 64 (IntKind.u64.wrap c)).toNat : Int) * 1099511628211))
def moreV (h : Int) (l : List Int) : Int := IntKind.i64.wrap (l.foldl stepV (maskV (IntKind.u64.wrap h)))
def hashV (l : List Int) : Int := moreV 860922984064492325 l
theorem fold_take {l : List Int} {x : Int} {i : Nat} {n : Int} (h : l[i]? = some n) : (l.take (i + 1)).foldl stepV x = stepV ((l.take i).foldl stepV x) n := by
  rw [List.take_add_one, h, List.foldl_append]; rfl
theorem more_ok {h : Int} {b : D} {l : List Int} (hb : IsY b l) (hl : l.length ≤ 300000000) : Holds EE 59 [dI h, b] (dI (moreV h l)) := by
  have hsl := hb.sl hl
  have hlen := hb.len
  have loop : ∀ i, i ≤ l.length → Goes EE (Holds EE) u59Ts 1 [dU ((l.take i).foldl stepV (maskV (IntKind.u64.wrap h))), b, dI (b.es.length : Int), dI (i : Int)] (dI (moreV h l)) := by
    refine loop_up (P := fun i => i ≤ l.length → Goes EE (Holds EE) u59Ts 1 [dU ((l.take i).foldl stepV (maskV (IntKind.u64.wrap h))), b, dI (b.es.length : Int), dI (i : Int)] (dI (moreV h l))) l.length (fun i ih => ?_)
    intro hi
    refine Goes.step' ?_
    show wp _ _ _ u59T1 _
    refine wp_bindE (ρ' := [_, _, _, _, _]) sk_lss rfl rfl ?_
    refine wp_iteC rfl (fun c => ?_) (fun c => ?_)
    · replace c : (i : Int) < (b.es.length : Int) := of_decide_eq_true c
      obtain ⟨n, hn⟩ : ∃ n, l[i]? = some n := ⟨_, List.getElem?_eq_getElem (by omega)⟩
      refine wp_bindE (ρ' := [_, _, _, _, _, dB true]) (sh_inr (hb.get hn)) rfl rfl ?_
      refine wp_bindE (ρ' := [_, _, _, _, _, _, dY n]) (sh_elem1 hsl (hb.get hn) rfl) rfl rfl ?_
      refine wp_bindE (ρ' := [_, _, _, _, _, _, _, dU (IntKind.u64.wrap n)]) (o_wide n) rfl rfl ?_
      refine wp_bindE (ρ' := [_, _, _, _, _, _, _, _, _]) (o_xor _ _) rfl rfl ?_
      refine wp_bindE (ρ' := [_, _, _, _, _, _, _, _, _, _]) (o_mul _ _) rfl rfl ?_
      refine wp_bindE (ρ' := [_, _, _, _, _, _, _, _, _, _, _]) (o_and _ _) rfl rfl ?_
      refine wp_bindE (ρ' := [_, _, _, _, _, _, _, _, _, _, _, dI ((i + 1 : Nat) : Int)]) (sh_add (cap_bd' (by omega))) rfl rfl ?_
      have := ih (by omega) (by omega)
      rw [fold_take hn] at this
      exact wp_jumpTo rfl this
    · replace c : ¬ ((i : Int) < (b.es.length : Int)) := of_decide_eq_false c
      refine wp_bindE (ρ' := [_, _, _, _, _, _]) (o_back _) rfl rfl ?_
      refine wp_retTo2 rfl ?_
      rw [List.take_of_length_le (by omega)]; rfl
  refine u59 rfl (Goes.step' ?_)
  show wp _ _ _ u59T0 _
  refine wp_bindE (ρ' := [_, _, dU (IntKind.u64.wrap h)]) (o_conv h) rfl rfl ?_
  refine wp_bindE (ρ' := [_, _, _, dU (maskV (IntKind.u64.wrap h))]) (o_and _ _) rfl rfl ?_
  refine wp_bindE (ρ' := [_, _, _, _, dI (b.es.length : Int)]) (sh_len hsl) rfl rfl ?_
  exact wp_jumpTo rfl (loop 0 (Nat.zero_le _))
theorem hash_ok {b : D} {l : List Int} (hb : IsY b l) (hl : l.length ≤ 300000000) : Holds EE 39 [b] (dI (hashV l)) := by
  refine u39 rfl (Goes.step' ?_)
  show wp _ _ _ u39T0 _
  refine wp_callE (ρ' := [_, dI (hashV l)]) (more_ok hb hl) rfl rfl rfl rfl ?_
  exact wp_retTo2 rfl rfl
theorem sum_ok {b : D} {l : List Int} (hb : IsY b l) (hl : l.length ≤ 300000000) : Holds EE (Nat.add bigN 23) [.mode m23_0, b] (retD [dI (hashV l), b]) := by
  refine w23_0 (ds := [b]) (Goes.step' ?_) ⟨[_, _], rfl, rfl⟩
  show wp _ _ _ w23_0T0 _
  refine wp_callE (ρ' := [_, dI (hashV l)]) (hash_ok hb hl) rfl rfl rfl rfl ?_
  exact wp_retTo2 rfl rfl
end Go.Proofs.YtgkfhfcieamncaaGreatDoor
namespace Go.Proofs.YtgkfhfcieamncaaGreatDoor
open Go Go.Am Go.Proofs Go.Am.Tt
attribute [local irreducible] Go.Am.wp Go.Am.TOp.eval
theorem H9 {x : D} (h : Wd (.st [(.int .i64), .str, .str, (.sl 3 1 (.int .i64)), (.sl 127 2 (.st [(.int .i64), (.int .i64)]))]) x) : Holds EE 9 [x] (dI (hashV (enc (.st [(.int .i64), .str, .str, (.sl 3 1 (.int .i64)), (.sl 127 2 (.st [(.int .i64), (.int .i64)]))]) x))) := by
  have hl := wd_len h
  suffices hh : ∃ d, d = dI (hashV (enc (.st [(.int .i64), .str, .str, (.sl 3 1 (.int .i64)), (.sl 127 2 (.st [(.int .i64), (.int .i64)]))]) x)) ∧ Goes EE (Holds EE) u9Ts 0 [x] d by
    obtain ⟨d, rfl, hg⟩ := hh; exact u9 rfl hg
  obtain ⟨cs1, rfl, k1⟩ := wd_st h
  obtain ⟨y1_0, r1_0, rfl, g1_0, k1⟩ := wds_cons k1
  obtain ⟨y1_1, r1_1, rfl, g1_1, k1⟩ := wds_cons k1
  obtain ⟨y1_2, r1_2, rfl, g1_2, k1⟩ := wds_cons k1
  obtain ⟨y1_3, r1_3, rfl, g1_3, k1⟩ := wds_cons k1
  obtain ⟨y1_4, r1_4, rfl, g1_4, k1⟩ := wds_cons k1
  obtain rfl := wds_nil k1
  refine goes_R ?_
  show wp _ _ _ u9T0 _
  refine wp_bindE (ρ' := [_, .agg [y1_0, y1_1, y1_2, y1_3, y1_4]]) (sh_chkW rfl) rfl rfl ?_
  refine wp_bindE (ρ' := [_, _, y1_0]) (sh_fld1 (off := 0) rfl (wd_one g1_0 (by intro _ e; cases e))) rfl rfl ?_
  obtain ⟨b2, h2, z2⟩ := (W19 g1_0) IsY.nil (by simp only [enc, encs, List.length_append, List.length_nil, List.append_nil, List.nil_append] at hl ⊢; omega)
  refine wp_callM (rs := [b2]) (ρ' := [_, _, _, b2]) z2 rfl rfl rfl ?_
  refine wp_bindE (ρ' := [_, _, _, _, y1_1]) (sh_fld1 (off := 1) rfl (wd_one g1_1 (by intro _ e; cases e))) rfl rfl ?_
  obtain ⟨b3, h3, z3⟩ := (W31 g1_1) h2 (by simp only [enc, encs, List.length_append, List.length_nil, List.append_nil, List.nil_append] at hl ⊢; omega)
  refine wp_callM (rs := [b3]) (ρ' := [_, _, _, _, _, b3]) z3 rfl rfl rfl ?_
  refine wp_bindE (ρ' := [_, _, _, _, _, _, y1_2]) (sh_fld1 (off := 2) rfl (wd_one g1_2 (by intro _ e; cases e))) rfl rfl ?_
  obtain ⟨b4, h4, z4⟩ := (W31 g1_2) h3 (by simp only [enc, encs, List.length_append, List.length_nil, List.append_nil, List.nil_append] at hl ⊢; omega)
  refine wp_callM (rs := [b4]) (ρ' := [_, _, _, _, _, _, _, b4]) z4 rfl rfl rfl ?_
  refine wp_bindE (ρ' := [_, _, _, _, _, _, _, _, y1_3]) (sh_fld1 (off := 3) rfl (wd_one g1_3 (by intro _ e; cases e))) rfl rfl ?_
  obtain ⟨b5, h5, z5⟩ := (W32 g1_3) h4 (by simp only [enc, encs, List.length_append, List.length_nil, List.append_nil, List.nil_append] at hl ⊢; omega)
  refine wp_callM (rs := [b5]) (ρ' := [_, _, _, _, _, _, _, _, _, b5]) z5 rfl rfl rfl ?_
  refine wp_bindE (ρ' := [_, _, _, _, _, _, _, _, _, _, y1_4]) (sh_fld1 (off := 4) rfl (wd_one g1_4 (by intro _ e; cases e))) rfl rfl ?_
  obtain ⟨b6, h6, z6⟩ := (W35 g1_4) h5 (by simp only [enc, encs, List.length_append, List.length_nil, List.append_nil, List.nil_append] at hl ⊢; omega)
  refine wp_callM (rs := [b6]) (ρ' := [_, _, _, _, _, _, _, _, _, _, _, b6]) z6 rfl rfl rfl ?_
  have q7 : IsY b6 (enc (.st [(.int .i64), .str, .str, (.sl 3 1 (.int .i64)), (.sl 127 2 (.st [(.int .i64), (.int .i64)]))]) (.agg [y1_0, y1_1, y1_2, y1_3, y1_4])) := by simpa only [enc, encs, List.append_assoc, List.append_nil, List.nil_append] using h6
  refine wp_callM (rs := [dI (hashV (enc (.st [(.int .i64), .str, .str, (.sl 3 1 (.int .i64)), (.sl 127 2 (.st [(.int .i64), (.int .i64)]))]) (.agg [y1_0, y1_1, y1_2, y1_3, y1_4]))), b6]) (ρ' := [_, _, _, _, _, _, _, _, _, _, _, _, _, _]) (sum_ok q7 hl) rfl rfl rfl ?_
  exact wr_ret rfl rfl
theorem H7 {x : D} (h : Wd (.st [(.int .i64), .str, (.int .i64), (.int .i64), (.sl 3 1 (.int .i64)), (.sl 111 4 (.st [.str, (.int .i64), (.int .i64), (.int .i64)])), (.sl 115 7 (.st [(.int .i64), (.int .i64), (.int .i64), (.int .i64), (.int .i64), (.int .i64), .str]))]) x) : Holds EE 7 [x] (dI (hashV (enc (.st [(.int .i64), .str, (.int .i64), (.int .i64), (.sl 3 1 (.int .i64)), (.sl 111 4 (.st [.str, (.int .i64), (.int .i64), (.int .i64)])), (.sl 115 7 (.st [(.int .i64), (.int .i64), (.int .i64), (.int .i64), (.int .i64), (.int .i64), .str]))]) x))) := by
  have hl := wd_len h
  suffices hh : ∃ d, d = dI (hashV (enc (.st [(.int .i64), .str, (.int .i64), (.int .i64), (.sl 3 1 (.int .i64)), (.sl 111 4 (.st [.str, (.int .i64), (.int .i64), (.int .i64)])), (.sl 115 7 (.st [(.int .i64), (.int .i64), (.int .i64), (.int .i64), (.int .i64), (.int .i64), .str]))]) x)) ∧ Goes EE (Holds EE) u7Ts 0 [x] d by
    obtain ⟨d, rfl, hg⟩ := hh; exact u7 rfl hg
  obtain ⟨cs1, rfl, k1⟩ := wd_st h
  obtain ⟨y1_0, r1_0, rfl, g1_0, k1⟩ := wds_cons k1
  obtain ⟨y1_1, r1_1, rfl, g1_1, k1⟩ := wds_cons k1
  obtain ⟨y1_2, r1_2, rfl, g1_2, k1⟩ := wds_cons k1
  obtain ⟨y1_3, r1_3, rfl, g1_3, k1⟩ := wds_cons k1
  obtain ⟨y1_4, r1_4, rfl, g1_4, k1⟩ := wds_cons k1
  obtain ⟨y1_5, r1_5, rfl, g1_5, k1⟩ := wds_cons k1
  obtain ⟨y1_6, r1_6, rfl, g1_6, k1⟩ := wds_cons k1
  obtain rfl := wds_nil k1
  refine goes_R ?_
  show wp _ _ _ u7T0 _
  refine wp_bindE (ρ' := [_, .agg [y1_0, y1_1, y1_2, y1_3, y1_4, y1_5, y1_6]]) (sh_chkW rfl) rfl rfl ?_
  refine wp_bindE (ρ' := [_, _, y1_0]) (sh_fld1 (off := 0) rfl (wd_one g1_0 (by intro _ e; cases e))) rfl rfl ?_
  obtain ⟨b2, h2, z2⟩ := (W19 g1_0) IsY.nil (by simp only [enc, encs, List.length_append, List.length_nil, List.append_nil, List.nil_append] at hl ⊢; omega)
  refine wp_callM (rs := [b2]) (ρ' := [_, _, _, b2]) z2 rfl rfl rfl ?_
  refine wp_bindE (ρ' := [_, _, _, _, y1_1]) (sh_fld1 (off := 1) rfl (wd_one g1_1 (by intro _ e; cases e))) rfl rfl ?_
  obtain ⟨b3, h3, z3⟩ := (W31 g1_1) h2 (by simp only [enc, encs, List.length_append, List.length_nil, List.append_nil, List.nil_append] at hl ⊢; omega)
  refine wp_callM (rs := [b3]) (ρ' := [_, _, _, _, _, b3]) z3 rfl rfl rfl ?_
  refine wp_bindE (ρ' := [_, _, _, _, _, _, y1_2]) (sh_fld1 (off := 2) rfl (wd_one g1_2 (by intro _ e; cases e))) rfl rfl ?_
  obtain ⟨b4, h4, z4⟩ := (W19 g1_2) h3 (by simp only [enc, encs, List.length_append, List.length_nil, List.append_nil, List.nil_append] at hl ⊢; omega)
  refine wp_callM (rs := [b4]) (ρ' := [_, _, _, _, _, _, _, b4]) z4 rfl rfl rfl ?_
  refine wp_bindE (ρ' := [_, _, _, _, _, _, _, _, y1_3]) (sh_fld1 (off := 3) rfl (wd_one g1_3 (by intro _ e; cases e))) rfl rfl ?_
  obtain ⟨b5, h5, z5⟩ := (W19 g1_3) h4 (by simp only [enc, encs, List.length_append, List.length_nil, List.append_nil, List.nil_append] at hl ⊢; omega)
  refine wp_callM (rs := [b5]) (ρ' := [_, _, _, _, _, _, _, _, _, b5]) z5 rfl rfl rfl ?_
  refine wp_bindE (ρ' := [_, _, _, _, _, _, _, _, _, _, y1_4]) (sh_fld1 (off := 4) rfl (wd_one g1_4 (by intro _ e; cases e))) rfl rfl ?_
  obtain ⟨b6, h6, z6⟩ := (W32 g1_4) h5 (by simp only [enc, encs, List.length_append, List.length_nil, List.append_nil, List.nil_append] at hl ⊢; omega)
  refine wp_callM (rs := [b6]) (ρ' := [_, _, _, _, _, _, _, _, _, _, _, b6]) z6 rfl rfl rfl ?_
  refine wp_bindE (ρ' := [_, _, _, _, _, _, _, _, _, _, _, _, y1_5]) (sh_fld1 (off := 5) rfl (wd_one g1_5 (by intro _ e; cases e))) rfl rfl ?_
  refine wp_bindE (ρ' := [_, _, _, _, _, _, _, _, _, _, _, _, _, dI (y1_5.es.length : Int)]) (sh_len (wd_sl g1_5).1) rfl rfl ?_
  obtain ⟨b7, h7, z7⟩ := (number_ok (n := (y1_5.es.length : Int)) (by have := (wd_sl g1_5).2.1; omega) (by have := (wd_sl g1_5).2.1; omega)) h6 (by simp only [enc, encs, List.length_append, List.length_nil, List.append_nil, List.nil_append] at hl ⊢; omega)
  refine wp_callM (rs := [b7]) (ρ' := [_, _, _, _, _, _, _, _, _, _, _, _, _, _, b7]) z7 rfl rfl rfl ?_
  refine wp_bindE (ρ' := [_, _, _, _, _, _, _, _, _, _, _, _, _, _, _, y1_5]) (sh_fld1 (off := 5) rfl (wd_one g1_5 (by intro _ e; cases e))) rfl rfl ?_
  refine wp_bindE (ρ' := [_, _, _, _, _, _, _, _, _, _, _, _, _, _, _, _, dI (y1_5.es.length : Int)]) (sh_len (wd_sl g1_5).1) rfl rfl ?_
  have ln8 := (wd_sl g1_5).2.1
  refine wr_jump rfl ?_
  refine loop_wr (es := y1_5.es) (enc := enc (.st [.str, (.int .i64), (.int .i64), (.int .i64)])) (ρ := fun i8 b => [y1_5, dI (y1_5.es.length : Int), dI (i8 : Int), .agg [y1_0, y1_1, y1_2, y1_3, y1_4, y1_5, y1_6], b]) (l0 := (((((([] ++ enc (.int .i64) y1_0) ++ enc .str y1_1) ++ enc (.int .i64) y1_2) ++ enc (.int .i64) y1_3) ++ enc (.sl 3 1 (.int .i64)) y1_4) ++ encI (y1_5.es.length : Int))) ?_ (fun i8 x8 b8 l8 hx8 hi8 hb8 hl8 next8 => ?_) (fun b8 hb8 => ?_) b7 h7
  · simp only [enc, encs, List.length_append, List.length_nil, List.append_nil, List.nil_append] at hl ⊢; omega
  · have w8 := (wd_sl g1_5).2.2 x8 (List.mem_of_getElem? hx8)
    obtain ⟨cs9, rfl, k9⟩ := wd_st w8
    obtain ⟨y9_0, r9_0, rfl, g9_0, k9⟩ := wds_cons k9
    obtain ⟨y9_1, r9_1, rfl, g9_1, k9⟩ := wds_cons k9
    obtain ⟨y9_2, r9_2, rfl, g9_2, k9⟩ := wds_cons k9
    obtain ⟨y9_3, r9_3, rfl, g9_3, k9⟩ := wds_cons k9
    obtain rfl := wds_nil k9
    refine goes_R ?_
    show wp _ _ _ u7T1 _
    refine wp_bindE (ρ' := [_, _, _, _, _, dB true]) (by rw [show true = decide ((i8 : Int) < (y1_5.es.length : Int)) from (decide_eq_true (by omega)).symm]; exact sk_lss) rfl rfl ?_
    refine wp_iteC rfl (fun _ => ?_) (fun c => by cases c)
    refine wp_bindE (ρ' := [_, _, _, _, _, _, dB true]) (sh_inr hx8) rfl rfl ?_
    refine wp_bindE (ρ' := [_, _, _, _, _, _, _, .agg [y9_0, y9_1, y9_2, y9_3]]) (sh_elemW (wd_sl g1_5).1 hx8 rfl) rfl rfl ?_
    refine wp_bindE (ρ' := [_, _, _, _, _, _, _, _, .agg [y9_0, y9_1, y9_2, y9_3]]) (sh_chkW rfl) rfl rfl ?_
    refine wp_bindE (ρ' := [_, _, _, _, _, _, _, _, _, y9_0]) (sh_fld1 (off := 0) rfl (wd_one g9_0 (by intro _ e; cases e))) rfl rfl ?_
    obtain ⟨b10, h10, z10⟩ := (W31 g9_0) hb8 (by simp only [enc, encs, List.length_append, List.length_nil, List.append_nil, List.nil_append] at hl8 ⊢; omega)
    refine wp_callM (rs := [b10]) (ρ' := [_, _, _, _, _, _, _, _, _, _, b10]) z10 rfl rfl rfl ?_
    refine wp_bindE (ρ' := [_, _, _, _, _, _, _, _, _, _, _, y9_1]) (sh_fld1 (off := 1) rfl (wd_one g9_1 (by intro _ e; cases e))) rfl rfl ?_
    obtain ⟨b11, h11, z11⟩ := (W19 g9_1) h10 (by simp only [enc, encs, List.length_append, List.length_nil, List.append_nil, List.nil_append] at hl8 ⊢; omega)
    refine wp_callM (rs := [b11]) (ρ' := [_, _, _, _, _, _, _, _, _, _, _, _, b11]) z11 rfl rfl rfl ?_
    refine wp_bindE (ρ' := [_, _, _, _, _, _, _, _, _, _, _, _, _, y9_2]) (sh_fld1 (off := 2) rfl (wd_one g9_2 (by intro _ e; cases e))) rfl rfl ?_
    obtain ⟨b12, h12, z12⟩ := (W19 g9_2) h11 (by simp only [enc, encs, List.length_append, List.length_nil, List.append_nil, List.nil_append] at hl8 ⊢; omega)
    refine wp_callM (rs := [b12]) (ρ' := [_, _, _, _, _, _, _, _, _, _, _, _, _, _, b12]) z12 rfl rfl rfl ?_
    refine wp_bindE (ρ' := [_, _, _, _, _, _, _, _, _, _, _, _, _, _, _, y9_3]) (sh_fld1 (off := 3) rfl (wd_one g9_3 (by intro _ e; cases e))) rfl rfl ?_
    obtain ⟨b13, h13, z13⟩ := (W19 g9_3) h12 (by simp only [enc, encs, List.length_append, List.length_nil, List.append_nil, List.nil_append] at hl8 ⊢; omega)
    refine wp_callM (rs := [b13]) (ρ' := [_, _, _, _, _, _, _, _, _, _, _, _, _, _, _, _, b13]) z13 rfl rfl rfl ?_
    refine wp_bindE (ρ' := [_, _, _, _, _, _, _, _, _, _, _, _, _, _, _, _, _, dI ((i8 + 1 : Nat) : Int)]) (sh_add (cap_bd' (by have := ln8; omega))) rfl rfl ?_
    exact wr_jump rfl (next8 b13 (by simpa only [enc, encs, List.append_assoc, List.append_nil, List.nil_append] using h13))
  · refine goes_R ?_
    show wp _ _ _ u7T1 _
    refine wp_bindE (ρ' := [_, _, _, _, _, dB false]) (by rw [show false = decide ((y1_5.es.length : Int) < (y1_5.es.length : Int)) from (decide_eq_false (by omega)).symm]; exact sk_lss) rfl rfl ?_
    refine wp_iteC rfl (fun c => by cases c) (fun _ => ?_)
    refine wp_bindE (ρ' := [_, _, _, _, _, _, y1_6]) (sh_fld1 (off := 6) rfl (wd_one g1_6 (by intro _ e; cases e))) rfl rfl ?_
    refine wp_bindE (ρ' := [_, _, _, _, _, _, _, dI (y1_6.es.length : Int)]) (sh_len (wd_sl g1_6).1) rfl rfl ?_
    obtain ⟨b14, h14, z14⟩ := (number_ok (n := (y1_6.es.length : Int)) (by have := (wd_sl g1_6).2.1; omega) (by have := (wd_sl g1_6).2.1; omega)) hb8 (by simp only [enc, encs, List.length_append, List.length_nil, List.append_nil, List.nil_append] at hl ⊢; omega)
    refine wp_callM (rs := [b14]) (ρ' := [_, _, _, _, _, _, _, _, b14]) z14 rfl rfl rfl ?_
    refine wp_bindE (ρ' := [_, _, _, _, _, _, _, _, _, y1_6]) (sh_fld1 (off := 6) rfl (wd_one g1_6 (by intro _ e; cases e))) rfl rfl ?_
    refine wp_bindE (ρ' := [_, _, _, _, _, _, _, _, _, _, dI (y1_6.es.length : Int)]) (sh_len (wd_sl g1_6).1) rfl rfl ?_
    have ln15 := (wd_sl g1_6).2.1
    refine wr_jump rfl ?_
    refine loop_wr (es := y1_6.es) (enc := enc (.st [(.int .i64), (.int .i64), (.int .i64), (.int .i64), (.int .i64), (.int .i64), .str])) (ρ := fun i15 b => [y1_6, dI (y1_6.es.length : Int), dI (i15 : Int), b]) (l0 := (((((((([] ++ enc (.int .i64) y1_0) ++ enc .str y1_1) ++ enc (.int .i64) y1_2) ++ enc (.int .i64) y1_3) ++ enc (.sl 3 1 (.int .i64)) y1_4) ++ encI (y1_5.es.length : Int)) ++ y1_5.es.flatMap (enc (.st [.str, (.int .i64), (.int .i64), (.int .i64)]))) ++ encI (y1_6.es.length : Int))) ?_ (fun i15 x15 b15 l15 hx15 hi15 hb15 hl15 next15 => ?_) (fun b15 hb15 => ?_) b14 h14
    · simp only [enc, encs, List.length_append, List.length_nil, List.append_nil, List.nil_append] at hl ⊢; omega
    · have w15 := (wd_sl g1_6).2.2 x15 (List.mem_of_getElem? hx15)
      obtain ⟨cs16, rfl, k16⟩ := wd_st w15
      obtain ⟨y16_0, r16_0, rfl, g16_0, k16⟩ := wds_cons k16
      obtain ⟨y16_1, r16_1, rfl, g16_1, k16⟩ := wds_cons k16
      obtain ⟨y16_2, r16_2, rfl, g16_2, k16⟩ := wds_cons k16
      obtain ⟨y16_3, r16_3, rfl, g16_3, k16⟩ := wds_cons k16
      obtain ⟨y16_4, r16_4, rfl, g16_4, k16⟩ := wds_cons k16
      obtain ⟨y16_5, r16_5, rfl, g16_5, k16⟩ := wds_cons k16
      obtain ⟨y16_6, r16_6, rfl, g16_6, k16⟩ := wds_cons k16
      obtain rfl := wds_nil k16
      refine goes_R ?_
      show wp _ _ _ u7T2 _
      refine wp_bindE (ρ' := [_, _, _, _, dB true]) (by rw [show true = decide ((i15 : Int) < (y1_6.es.length : Int)) from (decide_eq_true (by omega)).symm]; exact sk_lss) rfl rfl ?_
      refine wp_iteC rfl (fun _ => ?_) (fun c => by cases c)
      refine wp_bindE (ρ' := [_, _, _, _, _, dB true]) (sh_inr hx15) rfl rfl ?_
      refine wp_bindE (ρ' := [_, _, _, _, _, _, .agg [y16_0, y16_1, y16_2, y16_3, y16_4, y16_5, y16_6]]) (sh_elemW (wd_sl g1_6).1 hx15 rfl) rfl rfl ?_
      refine wp_bindE (ρ' := [_, _, _, _, _, _, _, .agg [y16_0, y16_1, y16_2, y16_3, y16_4, y16_5, y16_6]]) (sh_chkW rfl) rfl rfl ?_
      refine wp_bindE (ρ' := [_, _, _, _, _, _, _, _, y16_0]) (sh_fld1 (off := 0) rfl (wd_one g16_0 (by intro _ e; cases e))) rfl rfl ?_
      obtain ⟨b17, h17, z17⟩ := (W19 g16_0) hb15 (by simp only [enc, encs, List.length_append, List.length_nil, List.append_nil, List.nil_append] at hl15 ⊢; omega)
      refine wp_callM (rs := [b17]) (ρ' := [_, _, _, _, _, _, _, _, _, b17]) z17 rfl rfl rfl ?_
      refine wp_bindE (ρ' := [_, _, _, _, _, _, _, _, _, _, y16_1]) (sh_fld1 (off := 1) rfl (wd_one g16_1 (by intro _ e; cases e))) rfl rfl ?_
      obtain ⟨b18, h18, z18⟩ := (W19 g16_1) h17 (by simp only [enc, encs, List.length_append, List.length_nil, List.append_nil, List.nil_append] at hl15 ⊢; omega)
      refine wp_callM (rs := [b18]) (ρ' := [_, _, _, _, _, _, _, _, _, _, _, b18]) z18 rfl rfl rfl ?_
      refine wp_bindE (ρ' := [_, _, _, _, _, _, _, _, _, _, _, _, y16_2]) (sh_fld1 (off := 2) rfl (wd_one g16_2 (by intro _ e; cases e))) rfl rfl ?_
      obtain ⟨b19, h19, z19⟩ := (W19 g16_2) h18 (by simp only [enc, encs, List.length_append, List.length_nil, List.append_nil, List.nil_append] at hl15 ⊢; omega)
      refine wp_callM (rs := [b19]) (ρ' := [_, _, _, _, _, _, _, _, _, _, _, _, _, b19]) z19 rfl rfl rfl ?_
      refine wp_bindE (ρ' := [_, _, _, _, _, _, _, _, _, _, _, _, _, _, y16_3]) (sh_fld1 (off := 3) rfl (wd_one g16_3 (by intro _ e; cases e))) rfl rfl ?_
      obtain ⟨b20, h20, z20⟩ := (W19 g16_3) h19 (by simp only [enc, encs, List.length_append, List.length_nil, List.append_nil, List.nil_append] at hl15 ⊢; omega)
      refine wp_callM (rs := [b20]) (ρ' := [_, _, _, _, _, _, _, _, _, _, _, _, _, _, _, b20]) z20 rfl rfl rfl ?_
      refine wp_bindE (ρ' := [_, _, _, _, _, _, _, _, _, _, _, _, _, _, _, _, y16_4]) (sh_fld1 (off := 4) rfl (wd_one g16_4 (by intro _ e; cases e))) rfl rfl ?_
      obtain ⟨b21, h21, z21⟩ := (W19 g16_4) h20 (by simp only [enc, encs, List.length_append, List.length_nil, List.append_nil, List.nil_append] at hl15 ⊢; omega)
      refine wp_callM (rs := [b21]) (ρ' := [_, _, _, _, _, _, _, _, _, _, _, _, _, _, _, _, _, b21]) z21 rfl rfl rfl ?_
      refine wp_bindE (ρ' := [_, _, _, _, _, _, _, _, _, _, _, _, _, _, _, _, _, _, y16_5]) (sh_fld1 (off := 5) rfl (wd_one g16_5 (by intro _ e; cases e))) rfl rfl ?_
      obtain ⟨b22, h22, z22⟩ := (W19 g16_5) h21 (by simp only [enc, encs, List.length_append, List.length_nil, List.append_nil, List.nil_append] at hl15 ⊢; omega)
      refine wp_callM (rs := [b22]) (ρ' := [_, _, _, _, _, _, _, _, _, _, _, _, _, _, _, _, _, _, _, b22]) z22 rfl rfl rfl ?_
      refine wp_bindE (ρ' := [_, _, _, _, _, _, _, _, _, _, _, _, _, _, _, _, _, _, _, _, y16_6]) (sh_fld1 (off := 6) rfl (wd_one g16_6 (by intro _ e; cases e))) rfl rfl ?_
      obtain ⟨b23, h23, z23⟩ := (W31 g16_6) h22 (by simp only [enc, encs, List.length_append, List.length_nil, List.append_nil, List.nil_append] at hl15 ⊢; omega)
      refine wp_callM (rs := [b23]) (ρ' := [_, _, _, _, _, _, _, _, _, _, _, _, _, _, _, _, _, _, _, _, _, b23]) z23 rfl rfl rfl ?_
      refine wp_bindE (ρ' := [_, _, _, _, _, _, _, _, _, _, _, _, _, _, _, _, _, _, _, _, _, _, dI ((i15 + 1 : Nat) : Int)]) (sh_add (cap_bd' (by have := ln15; omega))) rfl rfl ?_
      exact wr_jump rfl (next15 b23 (by simpa only [enc, encs, List.append_assoc, List.append_nil, List.nil_append] using h23))
    · refine goes_R ?_
      show wp _ _ _ u7T2 _
      refine wp_bindE (ρ' := [_, _, _, _, dB false]) (by rw [show false = decide ((y1_6.es.length : Int) < (y1_6.es.length : Int)) from (decide_eq_false (by omega)).symm]; exact sk_lss) rfl rfl ?_
      refine wp_iteC rfl (fun c => by cases c) (fun _ => ?_)
      have q24 : IsY b15 (enc (.st [(.int .i64), .str, (.int .i64), (.int .i64), (.sl 3 1 (.int .i64)), (.sl 111 4 (.st [.str, (.int .i64), (.int .i64), (.int .i64)])), (.sl 115 7 (.st [(.int .i64), (.int .i64), (.int .i64), (.int .i64), (.int .i64), (.int .i64), .str]))]) (.agg [y1_0, y1_1, y1_2, y1_3, y1_4, y1_5, y1_6])) := by simpa only [enc, encs, List.append_assoc, List.append_nil, List.nil_append] using hb15
      refine wp_callM (rs := [dI (hashV (enc (.st [(.int .i64), .str, (.int .i64), (.int .i64), (.sl 3 1 (.int .i64)), (.sl 111 4 (.st [.str, (.int .i64), (.int .i64), (.int .i64)])), (.sl 115 7 (.st [(.int .i64), (.int .i64), (.int .i64), (.int .i64), (.int .i64), (.int .i64), .str]))]) (.agg [y1_0, y1_1, y1_2, y1_3, y1_4, y1_5, y1_6]))), b15]) (ρ' := [_, _, _, _, _, _, _]) (sum_ok q24 hl) rfl rfl rfl ?_
      exact wr_ret rfl rfl
theorem H5 {x : D} (h : Wd (.st [(.sl 102 2 (.st [.str, (.int .i64)])), .str, (.sl 121 2 (.st [.str, (.sl 3 1 (.int .i64))])), (.sl 68 1 (.sl 9 1 .str)), (.sl 89 6 (.st [(.sl 3 1 (.int .i64)), (.sl 3 1 (.int .i64)), (.sl 200 2 (.st [(.int .i64), (.int .i64)])), (.sl 200 2 (.st [(.int .i64), (.int .i64)])), .bool, .bool])), (.int .i64), (.sl 123 3 (.st [(.int .i64), (.int .i64), (.int .i64)])), (.sl 3 1 (.int .i64)), (.sl 96 8 (.st [(.int .i64), (.sl 3 1 (.int .i64)), (.int .i64), (.sl 31 1 (.sl 3 1 (.int .i64))), (.int .i64), (.sl 125 2 (.st [.str, .str])), (.sl 148 2 (.st [(.int .i64), (.int .i64)])), (.sl 127 2 (.st [(.int .i64), (.int .i64)]))]))]) x) : Holds EE 5 [x] (dI (hashV (enc (.st [(.sl 102 2 (.st [.str, (.int .i64)])), .str, (.sl 121 2 (.st [.str, (.sl 3 1 (.int .i64))])), (.sl 68 1 (.sl 9 1 .str)), (.sl 89 6 (.st [(.sl 3 1 (.int .i64)), (.sl 3 1 (.int .i64)), (.sl 200 2 (.st [(.int .i64), (.int .i64)])), (.sl 200 2 (.st [(.int .i64), (.int .i64)])), .bool, .bool])), (.int .i64), (.sl 123 3 (.st [(.int .i64), (.int .i64), (.int .i64)])), (.sl 3 1 (.int .i64)), (.sl 96 8 (.st [(.int .i64), (.sl 3 1 (.int .i64)), (.int .i64), (.sl 31 1 (.sl 3 1 (.int .i64))), (.int .i64), (.sl 125 2 (.st [.str, .str])), (.sl 148 2 (.st [(.int .i64), (.int .i64)])), (.sl 127 2 (.st [(.int .i64), (.int .i64)]))]))]) x))) := by
  have hl := wd_len h
  suffices hh : ∃ d, d = dI (hashV (enc (.st [(.sl 102 2 (.st [.str, (.int .i64)])), .str, (.sl 121 2 (.st [.str, (.sl 3 1 (.int .i64))])), (.sl 68 1 (.sl 9 1 .str)), (.sl 89 6 (.st [(.sl 3 1 (.int .i64)), (.sl 3 1 (.int .i64)), (.sl 200 2 (.st [(.int .i64), (.int .i64)])), (.sl 200 2 (.st [(.int .i64), (.int .i64)])), .bool, .bool])), (.int .i64), (.sl 123 3 (.st [(.int .i64), (.int .i64), (.int .i64)])), (.sl 3 1 (.int .i64)), (.sl 96 8 (.st [(.int .i64), (.sl 3 1 (.int .i64)), (.int .i64), (.sl 31 1 (.sl 3 1 (.int .i64))), (.int .i64), (.sl 125 2 (.st [.str, .str])), (.sl 148 2 (.st [(.int .i64), (.int .i64)])), (.sl 127 2 (.st [(.int .i64), (.int .i64)]))]))]) x)) ∧ Goes EE (Holds EE) u5Ts 0 [x] d by
    obtain ⟨d, rfl, hg⟩ := hh; exact u5 rfl hg
  obtain ⟨cs1, rfl, k1⟩ := wd_st h
  obtain ⟨y1_0, r1_0, rfl, g1_0, k1⟩ := wds_cons k1
  obtain ⟨y1_1, r1_1, rfl, g1_1, k1⟩ := wds_cons k1
  obtain ⟨y1_2, r1_2, rfl, g1_2, k1⟩ := wds_cons k1
  obtain ⟨y1_3, r1_3, rfl, g1_3, k1⟩ := wds_cons k1
  obtain ⟨y1_4, r1_4, rfl, g1_4, k1⟩ := wds_cons k1
  obtain ⟨y1_5, r1_5, rfl, g1_5, k1⟩ := wds_cons k1
  obtain ⟨y1_6, r1_6, rfl, g1_6, k1⟩ := wds_cons k1
  obtain ⟨y1_7, r1_7, rfl, g1_7, k1⟩ := wds_cons k1
  obtain ⟨y1_8, r1_8, rfl, g1_8, k1⟩ := wds_cons k1
  obtain rfl := wds_nil k1
  refine goes_R ?_
  show wp _ _ _ u5T0 _
  refine wp_bindE (ρ' := [_, .agg [y1_0, y1_1, y1_2, y1_3, y1_4, y1_5, y1_6, y1_7, y1_8]]) (sh_chkW rfl) rfl rfl ?_
  have p2 : Wd (.st [(.sl 102 2 (.st [.str, (.int .i64)]))]) (.agg [y1_0]) := wd_part (off := 0) (size := 1) h
  refine wp_bindE (ρ' := [_, _, .agg [y1_0]]) (sh_fldA rfl) rfl rfl ?_
  obtain ⟨b3, h3, z3⟩ := (W17 p2) IsY.nil (by simp only [enc, encs, List.length_append, List.length_nil, List.append_nil, List.nil_append] at hl ⊢; omega)
  refine wp_callM (rs := [b3]) (ρ' := [_, _, _, b3]) z3 rfl rfl rfl ?_
  have p4 : Wd (.st [.str, (.sl 121 2 (.st [.str, (.sl 3 1 (.int .i64))])), (.sl 68 1 (.sl 9 1 .str))]) (.agg [y1_1, y1_2, y1_3]) := wd_part (off := 1) (size := 3) h
  refine wp_bindE (ρ' := [_, _, _, _, .agg [y1_1, y1_2, y1_3]]) (sh_fldA rfl) rfl rfl ?_
  obtain ⟨b5, h5, z5⟩ := (W18 p4) h3 (by simp only [enc, encs, List.length_append, List.length_nil, List.append_nil, List.nil_append] at hl ⊢; omega)
  refine wp_callM (rs := [b5]) (ρ' := [_, _, _, _, _, b5]) z5 rfl rfl rfl ?_
  refine wp_bindE (ρ' := [_, _, _, _, _, _, y1_4]) (sh_fld1 (off := 4) rfl (wd_one g1_4 (by intro _ e; cases e))) rfl rfl ?_
  refine wp_bindE (ρ' := [_, _, _, _, _, _, _, dI (y1_4.es.length : Int)]) (sh_len (wd_sl g1_4).1) rfl rfl ?_
  obtain ⟨b6, h6, z6⟩ := (number_ok (n := (y1_4.es.length : Int)) (by have := (wd_sl g1_4).2.1; omega) (by have := (wd_sl g1_4).2.1; omega)) h5 (by simp only [enc, encs, List.length_append, List.length_nil, List.append_nil, List.nil_append] at hl ⊢; omega)
  refine wp_callM (rs := [b6]) (ρ' := [_, _, _, _, _, _, _, _, b6]) z6 rfl rfl rfl ?_
  refine wp_bindE (ρ' := [_, _, _, _, _, _, _, _, _, y1_4]) (sh_fld1 (off := 4) rfl (wd_one g1_4 (by intro _ e; cases e))) rfl rfl ?_
  refine wp_bindE (ρ' := [_, _, _, _, _, _, _, _, _, _, dI (y1_4.es.length : Int)]) (sh_len (wd_sl g1_4).1) rfl rfl ?_
  have ln7 := (wd_sl g1_4).2.1
  refine wr_jump rfl ?_
  refine loop_wr (es := y1_4.es) (enc := enc (.st [(.sl 3 1 (.int .i64)), (.sl 3 1 (.int .i64)), (.sl 200 2 (.st [(.int .i64), (.int .i64)])), (.sl 200 2 (.st [(.int .i64), (.int .i64)])), .bool, .bool])) (ρ := fun i7 b => [y1_4, dI (y1_4.es.length : Int), dI (i7 : Int), .agg [y1_0, y1_1, y1_2, y1_3, y1_4, y1_5, y1_6, y1_7, y1_8], b]) (l0 := ((([] ++ enc (.st [(.sl 102 2 (.st [.str, (.int .i64)]))]) (.agg [y1_0])) ++ enc (.st [.str, (.sl 121 2 (.st [.str, (.sl 3 1 (.int .i64))])), (.sl 68 1 (.sl 9 1 .str))]) (.agg [y1_1, y1_2, y1_3])) ++ encI (y1_4.es.length : Int))) ?_ (fun i7 x7 b7 l7 hx7 hi7 hb7 hl7 next7 => ?_) (fun b7 hb7 => ?_) b6 h6
  · simp only [enc, encs, List.length_append, List.length_nil, List.append_nil, List.nil_append] at hl ⊢; omega
  · have w7 := (wd_sl g1_4).2.2 x7 (List.mem_of_getElem? hx7)
    obtain ⟨cs8, rfl, k8⟩ := wd_st w7
    obtain ⟨y8_0, r8_0, rfl, g8_0, k8⟩ := wds_cons k8
    obtain ⟨y8_1, r8_1, rfl, g8_1, k8⟩ := wds_cons k8
    obtain ⟨y8_2, r8_2, rfl, g8_2, k8⟩ := wds_cons k8
    obtain ⟨y8_3, r8_3, rfl, g8_3, k8⟩ := wds_cons k8
    obtain ⟨y8_4, r8_4, rfl, g8_4, k8⟩ := wds_cons k8
    obtain ⟨y8_5, r8_5, rfl, g8_5, k8⟩ := wds_cons k8
    obtain rfl := wds_nil k8
    refine goes_R ?_
    show wp _ _ _ u5T1 _
    refine wp_bindE (ρ' := [_, _, _, _, _, dB true]) (by rw [show true = decide ((i7 : Int) < (y1_4.es.length : Int)) from (decide_eq_true (by omega)).symm]; exact sk_lss) rfl rfl ?_
    refine wp_iteC rfl (fun _ => ?_) (fun c => by cases c)
    refine wp_bindE (ρ' := [_, _, _, _, _, _, dB true]) (sh_inr hx7) rfl rfl ?_
    refine wp_bindE (ρ' := [_, _, _, _, _, _, _, .agg [y8_0, y8_1, y8_2, y8_3, y8_4, y8_5]]) (sh_elemW (wd_sl g1_4).1 hx7 rfl) rfl rfl ?_
    refine wp_bindE (ρ' := [_, _, _, _, _, _, _, _, .agg [y8_0, y8_1, y8_2, y8_3, y8_4, y8_5]]) (sh_chkW rfl) rfl rfl ?_
    obtain ⟨b9, h9, z9⟩ := (W20 w7) hb7 (by simp only [enc, encs, List.length_append, List.length_nil, List.append_nil, List.nil_append] at hl7 ⊢; omega)
    refine wp_callM (rs := [b9]) (ρ' := [_, _, _, _, _, _, _, _, _, b9]) z9 rfl rfl rfl ?_
    refine wp_bindE (ρ' := [_, _, _, _, _, _, _, _, _, _, dI ((i7 + 1 : Nat) : Int)]) (sh_add (cap_bd' (by have := ln7; omega))) rfl rfl ?_
    exact wr_jump rfl (next7 b9 (by simpa only [enc, encs, List.append_assoc, List.append_nil, List.nil_append] using h9))
  · refine goes_R ?_
    show wp _ _ _ u5T1 _
    refine wp_bindE (ρ' := [_, _, _, _, _, dB false]) (by rw [show false = decide ((y1_4.es.length : Int) < (y1_4.es.length : Int)) from (decide_eq_false (by omega)).symm]; exact sk_lss) rfl rfl ?_
    refine wp_iteC rfl (fun c => by cases c) (fun _ => ?_)
    have p10 : Wd (.st [(.int .i64), (.sl 123 3 (.st [(.int .i64), (.int .i64), (.int .i64)])), (.sl 3 1 (.int .i64))]) (.agg [y1_5, y1_6, y1_7]) := wd_part (off := 5) (size := 3) h
    refine wp_bindE (ρ' := [_, _, _, _, _, _, .agg [y1_5, y1_6, y1_7]]) (sh_fldA rfl) rfl rfl ?_
    obtain ⟨b11, h11, z11⟩ := (W21 p10) hb7 (by simp only [enc, encs, List.length_append, List.length_nil, List.append_nil, List.nil_append] at hl ⊢; omega)
    refine wp_callM (rs := [b11]) (ρ' := [_, _, _, _, _, _, _, b11]) z11 rfl rfl rfl ?_
    refine wp_bindE (ρ' := [_, _, _, _, _, _, _, _, y1_8]) (sh_fld1 (off := 8) rfl (wd_one g1_8 (by intro _ e; cases e))) rfl rfl ?_
    refine wp_bindE (ρ' := [_, _, _, _, _, _, _, _, _, dI (y1_8.es.length : Int)]) (sh_len (wd_sl g1_8).1) rfl rfl ?_
    obtain ⟨b12, h12, z12⟩ := (number_ok (n := (y1_8.es.length : Int)) (by have := (wd_sl g1_8).2.1; omega) (by have := (wd_sl g1_8).2.1; omega)) h11 (by simp only [enc, encs, List.length_append, List.length_nil, List.append_nil, List.nil_append] at hl ⊢; omega)
    refine wp_callM (rs := [b12]) (ρ' := [_, _, _, _, _, _, _, _, _, _, b12]) z12 rfl rfl rfl ?_
    refine wp_bindE (ρ' := [_, _, _, _, _, _, _, _, _, _, _, y1_8]) (sh_fld1 (off := 8) rfl (wd_one g1_8 (by intro _ e; cases e))) rfl rfl ?_
    refine wp_bindE (ρ' := [_, _, _, _, _, _, _, _, _, _, _, _, dI (y1_8.es.length : Int)]) (sh_len (wd_sl g1_8).1) rfl rfl ?_
    have ln13 := (wd_sl g1_8).2.1
    refine wr_jump rfl ?_
    refine loop_wr (es := y1_8.es) (enc := enc (.st [(.int .i64), (.sl 3 1 (.int .i64)), (.int .i64), (.sl 31 1 (.sl 3 1 (.int .i64))), (.int .i64), (.sl 125 2 (.st [.str, .str])), (.sl 148 2 (.st [(.int .i64), (.int .i64)])), (.sl 127 2 (.st [(.int .i64), (.int .i64)]))])) (ρ := fun i13 b => [y1_8, dI (y1_8.es.length : Int), dI (i13 : Int), b]) (l0 := (((((([] ++ enc (.st [(.sl 102 2 (.st [.str, (.int .i64)]))]) (.agg [y1_0])) ++ enc (.st [.str, (.sl 121 2 (.st [.str, (.sl 3 1 (.int .i64))])), (.sl 68 1 (.sl 9 1 .str))]) (.agg [y1_1, y1_2, y1_3])) ++ encI (y1_4.es.length : Int)) ++ y1_4.es.flatMap (enc (.st [(.sl 3 1 (.int .i64)), (.sl 3 1 (.int .i64)), (.sl 200 2 (.st [(.int .i64), (.int .i64)])), (.sl 200 2 (.st [(.int .i64), (.int .i64)])), .bool, .bool]))) ++ enc (.st [(.int .i64), (.sl 123 3 (.st [(.int .i64), (.int .i64), (.int .i64)])), (.sl 3 1 (.int .i64))]) (.agg [y1_5, y1_6, y1_7])) ++ encI (y1_8.es.length : Int))) ?_ (fun i13 x13 b13 l13 hx13 hi13 hb13 hl13 next13 => ?_) (fun b13 hb13 => ?_) b12 h12
    · simp only [enc, encs, List.length_append, List.length_nil, List.append_nil, List.nil_append] at hl ⊢; omega
    · have w13 := (wd_sl g1_8).2.2 x13 (List.mem_of_getElem? hx13)
      obtain ⟨cs14, rfl, k14⟩ := wd_st w13
      obtain ⟨y14_0, r14_0, rfl, g14_0, k14⟩ := wds_cons k14
      obtain ⟨y14_1, r14_1, rfl, g14_1, k14⟩ := wds_cons k14
      obtain ⟨y14_2, r14_2, rfl, g14_2, k14⟩ := wds_cons k14
      obtain ⟨y14_3, r14_3, rfl, g14_3, k14⟩ := wds_cons k14
      obtain ⟨y14_4, r14_4, rfl, g14_4, k14⟩ := wds_cons k14
      obtain ⟨y14_5, r14_5, rfl, g14_5, k14⟩ := wds_cons k14
      obtain ⟨y14_6, r14_6, rfl, g14_6, k14⟩ := wds_cons k14
      obtain ⟨y14_7, r14_7, rfl, g14_7, k14⟩ := wds_cons k14
      obtain rfl := wds_nil k14
      refine goes_R ?_
      show wp _ _ _ u5T2 _
      refine wp_bindE (ρ' := [_, _, _, _, dB true]) (by rw [show true = decide ((i13 : Int) < (y1_8.es.length : Int)) from (decide_eq_true (by omega)).symm]; exact sk_lss) rfl rfl ?_
      refine wp_iteC rfl (fun _ => ?_) (fun c => by cases c)
      refine wp_bindE (ρ' := [_, _, _, _, _, dB true]) (sh_inr hx13) rfl rfl ?_
      refine wp_bindE (ρ' := [_, _, _, _, _, _, .agg [y14_0, y14_1, y14_2, y14_3, y14_4, y14_5, y14_6, y14_7]]) (sh_elemW (wd_sl g1_8).1 hx13 rfl) rfl rfl ?_
      refine wp_bindE (ρ' := [_, _, _, _, _, _, _, .agg [y14_0, y14_1, y14_2, y14_3, y14_4, y14_5, y14_6, y14_7]]) (sh_chkW rfl) rfl rfl ?_
      obtain ⟨b15, h15, z15⟩ := (W22 w13) hb13 (by simp only [enc, encs, List.length_append, List.length_nil, List.append_nil, List.nil_append] at hl13 ⊢; omega)
      refine wp_callM (rs := [b15]) (ρ' := [_, _, _, _, _, _, _, _, b15]) z15 rfl rfl rfl ?_
      refine wp_bindE (ρ' := [_, _, _, _, _, _, _, _, _, dI ((i13 + 1 : Nat) : Int)]) (sh_add (cap_bd' (by have := ln13; omega))) rfl rfl ?_
      exact wr_jump rfl (next13 b15 (by simpa only [enc, encs, List.append_assoc, List.append_nil, List.nil_append] using h15))
    · refine goes_R ?_
      show wp _ _ _ u5T2 _
      refine wp_bindE (ρ' := [_, _, _, _, dB false]) (by rw [show false = decide ((y1_8.es.length : Int) < (y1_8.es.length : Int)) from (decide_eq_false (by omega)).symm]; exact sk_lss) rfl rfl ?_
      refine wp_iteC rfl (fun c => by cases c) (fun _ => ?_)
      have q16 : IsY b13 (enc (.st [(.sl 102 2 (.st [.str, (.int .i64)])), .str, (.sl 121 2 (.st [.str, (.sl 3 1 (.int .i64))])), (.sl 68 1 (.sl 9 1 .str)), (.sl 89 6 (.st [(.sl 3 1 (.int .i64)), (.sl 3 1 (.int .i64)), (.sl 200 2 (.st [(.int .i64), (.int .i64)])), (.sl 200 2 (.st [(.int .i64), (.int .i64)])), .bool, .bool])), (.int .i64), (.sl 123 3 (.st [(.int .i64), (.int .i64), (.int .i64)])), (.sl 3 1 (.int .i64)), (.sl 96 8 (.st [(.int .i64), (.sl 3 1 (.int .i64)), (.int .i64), (.sl 31 1 (.sl 3 1 (.int .i64))), (.int .i64), (.sl 125 2 (.st [.str, .str])), (.sl 148 2 (.st [(.int .i64), (.int .i64)])), (.sl 127 2 (.st [(.int .i64), (.int .i64)]))]))]) (.agg [y1_0, y1_1, y1_2, y1_3, y1_4, y1_5, y1_6, y1_7, y1_8])) := by simpa only [enc, encs, List.append_assoc, List.append_nil, List.nil_append] using hb13
      refine wp_callM (rs := [dI (hashV (enc (.st [(.sl 102 2 (.st [.str, (.int .i64)])), .str, (.sl 121 2 (.st [.str, (.sl 3 1 (.int .i64))])), (.sl 68 1 (.sl 9 1 .str)), (.sl 89 6 (.st [(.sl 3 1 (.int .i64)), (.sl 3 1 (.int .i64)), (.sl 200 2 (.st [(.int .i64), (.int .i64)])), (.sl 200 2 (.st [(.int .i64), (.int .i64)])), .bool, .bool])), (.int .i64), (.sl 123 3 (.st [(.int .i64), (.int .i64), (.int .i64)])), (.sl 3 1 (.int .i64)), (.sl 96 8 (.st [(.int .i64), (.sl 3 1 (.int .i64)), (.int .i64), (.sl 31 1 (.sl 3 1 (.int .i64))), (.int .i64), (.sl 125 2 (.st [.str, .str])), (.sl 148 2 (.st [(.int .i64), (.int .i64)])), (.sl 127 2 (.st [(.int .i64), (.int .i64)]))]))]) (.agg [y1_0, y1_1, y1_2, y1_3, y1_4, y1_5, y1_6, y1_7, y1_8]))), b13]) (ρ' := [_, _, _, _, _, _, _]) (sum_ok q16 hl) rfl rfl rfl ?_
      exact wr_ret rfl rfl
end Go.Proofs.YtgkfhfcieamncaaGreatDoor
