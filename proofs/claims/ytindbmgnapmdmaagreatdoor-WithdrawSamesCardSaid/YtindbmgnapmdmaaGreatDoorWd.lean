/- Functions that hold two data against each other. Conditions: none. -/
import Derived.Test.YtindbmgnapmdmaaGreatDoorWb
import Derived.Test.YtindbmgnapmdmaaGreatDoorWc
import Derived.Test.YtindbmgnapmdmaaGreatDoorUn
namespace Go.Proofs.YtindbmgnapmdmaaGreatDoor
open Go Go.Am Go.Proofs
attribute [local irreducible] Go.Am.wp Go.Am.TOp.eval
theorem ty139 : eqTy EE.prog 4 139 = some [.int .i64, .int .i64] := by kernel_rfl
theorem st139 : isSt EE.prog 139 = true := by kernel_rfl
theorem gu139 : EE.prog.eqGuardType EE.prog.depth 139 = false := by kernel_rfl
theorem ty4 : eqTy EE.prog 1 4 = some [.bool] := by kernel_rfl
theorem st4 : isSt EE.prog 4 = false := by kernel_rfl
theorem ty90 : eqTy EE.prog 4 90 = some [.int .i64, .int .i64, .int .i64] := by kernel_rfl
theorem st90 : isSt EE.prog 90 = true := by kernel_rfl
theorem gu90 : EE.prog.eqGuardType EE.prog.depth 90 = false := by kernel_rfl
theorem ty86 : eqTy EE.prog 4 86 = some [.str, .int .i64] := by kernel_rfl
theorem st86 : isSt EE.prog 86 = true := by kernel_rfl
theorem gu86 : EE.prog.eqGuardType EE.prog.depth 86 = false := by kernel_rfl
theorem ty74 : eqTy EE.prog 4 74 = some [.int .i64, .int .i64] := by kernel_rfl
theorem st74 : isSt EE.prog 74 = true := by kernel_rfl
theorem gu74 : EE.prog.eqGuardType EE.prog.depth 74 = false := by kernel_rfl
theorem ty92 : eqTy EE.prog 4 92 = some [.str, .str] := by kernel_rfl
theorem st92 : isSt EE.prog 92 = true := by kernel_rfl
theorem gu92 : EE.prog.eqGuardType EE.prog.depth 92 = false := by kernel_rfl
theorem ty94 : eqTy EE.prog 4 94 = some [.int .i64, .int .i64] := by kernel_rfl
theorem st94 : isSt EE.prog 94 = true := by kernel_rfl
theorem gu94 : EE.prog.eqGuardType EE.prog.depth 94 = false := by kernel_rfl
theorem ty100 : eqTy EE.prog 4 100 = some [.str, .int .i64, .int .i64, .int .i64] := by kernel_rfl
theorem st100 : isSt EE.prog 100 = true := by kernel_rfl
theorem gu100 : EE.prog.eqGuardType EE.prog.depth 100 = false := by kernel_rfl
theorem ty104 : eqTy EE.prog 4 104 = some [.int .i64, .int .i64, .int .i64, .int .i64, .int .i64, .int .i64, .str] := by kernel_rfl
theorem st104 : isSt EE.prog 104 = true := by kernel_rfl
theorem gu104 : EE.prog.eqGuardType EE.prog.depth 104 = false := by kernel_rfl
theorem ty154 : eqTy EE.prog 4 154 = some [.int .i64, .int .i64, .int .i64] := by kernel_rfl
theorem st154 : isSt EE.prog 154 = true := by kernel_rfl
theorem gu154 : EE.prog.eqGuardType EE.prog.depth 154 = false := by kernel_rfl
theorem ty102 : eqTy EE.prog 4 102 = some [.int .i64, .int .i64] := by kernel_rfl
theorem st102 : isSt EE.prog 102 = true := by kernel_rfl
theorem gu102 : EE.prog.eqGuardType EE.prog.depth 102 = false := by kernel_rfl
theorem ty96 : eqTy EE.prog 4 96 = some [.int .i64, .str, .bool] := by kernel_rfl
theorem st96 : isSt EE.prog 96 = true := by kernel_rfl
theorem gu96 : EE.prog.eqGuardType EE.prog.depth 96 = false := by kernel_rfl
theorem ty98 : eqTy EE.prog 4 98 = some [.int .i64, .int .i64, .int .i64, .int .i64] := by kernel_rfl
theorem st98 : isSt EE.prog 98 = true := by kernel_rfl
theorem gu98 : EE.prog.eqGuardType EE.prog.depth 98 = false := by kernel_rfl
/- 45 slices.Equal[[]int,int] -/
theorem h45 {a b : D} (h_a : HasSh (.sl 3 1 (.int .i64)) a) (h_b : HasSh (.sl 3 1 (.int .i64)) b) : Holds EE 45 [a, b] (dB (deq a b)) := by
  refine u45 rfl (Goes.step' ?_)
  have i_a := isSl_of h_a
  have i_b := isSl_of h_b
  show wp _ _ _ u45T0 _
  refine wp_bindE (ρ' := [_, _, dI ((a.es.length : Nat) : Int)]) (sh_len i_a) rfl rfl ?_
  refine wp_bindE (ρ' := [_, _, _, dI ((b.es.length : Nat) : Int)]) (sh_len i_b) rfl rfl ?_
  refine wp_bindE (ρ' := [_, _, _, _, _]) sh_neq rfl rfl ?_
  refine wp_iteC rfl (fun c0 => ?_) (fun c0 => ?_)
  · have q0 := deq_len i_a i_b (len_ne c0)
    refine wp_retTo (d' := dB (false)) rfl (db_congr ?_)
    ((try simp only [deq_leaf, deq_agg, deqs_nil, deqs_cons, veq_int, veq_bool, veq_str] at q0 ⊢); grind)
  · have l_a_b := len_of c0
    refine wp_bindE (ρ' := [_, _, _, _, _, dI ((a.es.length : Nat) : Int)]) (sh_len i_a) rfl rfl ?_
    refine wp_jumpTo rfl ?_
    refine loop_eq2 (ρ := fun i1 => [a, b, dI ((a.es.length : Nat) : Int), dI ((i1 : Nat) : Int)]) i_a i_b l_a_b (fun q1 => ?_) ?_ (fun q1 => ?_)
    · ((try simp only [deq_leaf, deq_agg, deqs_nil, deqs_cons, veq_int, veq_bool, veq_str] at q1 ⊢); grind)
    · intro i1 x1 y1 e_x1 e_y1 hi1 hj1
      obtain ⟨x1, rfl⟩ := elem_of h_a e_x1
      obtain ⟨y1, rfl⟩ := elem_of h_b e_y1
      show wp _ _ _ u45T1 _
      refine wp_bindE (ρ' := [_, _, _, _, _]) sh_lss rfl rfl ?_
      refine wp_iteB rfl ?_
      rw [lt_true (show i1 < a.es.length by omega)]
      refine ite_t ?_
      refine wp_bindE (ρ' := [_, _, _, _, _, dB (true)]) (sh_inr e_x1) rfl rfl ?_
      refine wp_bindE (ρ' := [_, _, _, _, _, _, dI x1]) (sh_elem1 i_a e_x1 rfl) rfl rfl ?_
      refine wp_bindE (ρ' := [_, _, _, _, _, _, _, dB (true)]) (sh_inr e_y1) rfl rfl ?_
      refine wp_bindE (ρ' := [_, _, _, _, _, _, _, _, dI y1]) (sh_elem1 i_b e_y1 rfl) rfl rfl ?_
      refine wp_bindE (ρ' := [_, _, _, _, _, _, _, _, _, dB (x1 != y1)]) sh_neq rfl rfl ?_
      refine wp_iteC rfl (fun c2 => ?_) (fun c2 => ?_)
      · skip
        refine wp_retR rfl ?_
        clear hi1 hj1; ((try simp only [deq_leaf, veq_int] at c2 ⊢); grind)
      · skip
        refine wp_bindE (ρ' := [_, _, _, _, _, _, _, _, _, _, dI ((i1 + 1 : Nat) : Int)]) (sh_add hj1) rfl rfl ?_
        refine wp_jumpR rfl ?_
        clear hi1 hj1; ((try simp only [deq_leaf, veq_int] at c2 ⊢); grind)
    · show wp _ _ _ u45T1 _
      refine wp_bindE (ρ' := [_, _, _, _, _]) sh_lss rfl rfl ?_
      refine wp_iteB rfl ?_
      rw [lt_false]
      refine ite_f ?_
      refine wp_retTo (d' := dB (true)) rfl (db_congr ?_)
      ((try simp only [deq_leaf, deq_agg, deqs_nil, deqs_cons, veq_int, veq_bool, veq_str] at q1 ⊢); grind)
/- 44 langdoc/withdraw.sameLang$1 -/
theorem h44 {a b : D} (h_a : HasSh (.st [.str, .sl 3 1 (.int .i64)]) a) (h_b : HasSh (.st [.str, .sl 3 1 (.int .i64)]) b) : Holds EE 44 [a, b] (dB (deq a b)) := by
  refine u44 rfl (Goes.step' ?_)
  obtain ⟨_, rfl, _, _, rfl, ⟨a_0, rfl⟩, a_1, _, rfl, h_a_1, rfl⟩ := h_a
  have i_a_1 := isSl_of h_a_1
  obtain ⟨_, rfl, _, _, rfl, ⟨b_0, rfl⟩, b_1, _, rfl, h_b_1, rfl⟩ := h_b
  have i_b_1 := isSl_of h_b_1
  show wp _ _ _ u44T0 _
  refine wp_bindE (ρ' := [_, _, .agg [.leaf (.string a_0), a_1]]) (sh_chkW rfl) rfl rfl ?_
  refine wp_bindE (ρ' := [_, _, _, .agg [.leaf (.string b_0), b_1]]) (sh_chkW rfl) rfl rfl ?_
  refine wp_bindE (ρ' := [_, _, _, _, .leaf (.string a_0)]) (sh_fld1 (off := 0) rfl rfl) rfl rfl ?_
  refine wp_bindE (ρ' := [_, _, _, _, _, .leaf (.string b_0)]) (sh_fld1 (off := 0) rfl rfl) rfl rfl ?_
  refine wp_bindE (ρ' := [_, _, _, _, _, _, dB (a_0 == b_0)]) sh_strE rfl rfl ?_
  refine wp_iteC rfl (fun c0 => ?_) (fun c0 => ?_)
  · skip
    refine wp_bindE (ρ' := [_, _, _, _, _, _, _, a_1]) (sh_fld1 (off := 1) rfl i_a_1.one) rfl rfl ?_
    refine wp_bindE (ρ' := [_, _, _, _, _, _, _, _, b_1]) (sh_fld1 (off := 1) rfl i_b_1.one) rfl rfl ?_
    refine wp_callE (ρ' := [_, _, _, _, _, _, _, _, _, dB (deq (a_1) (b_1))]) (h45 h_a_1 h_b_1) rfl rfl rfl rfl ?_
    refine wp_retTo (d' := dB (deq (a_1) (b_1))) rfl (db_congr ?_)
    ((try simp only [deq_leaf, deq_agg, deqs_nil, deqs_cons, veq_str] at c0 ⊢); grind)
  · skip
    refine wp_retTo (d' := dB (false)) rfl (db_congr ?_)
    ((try simp only [deq_leaf, deq_agg, deqs_nil, deqs_cons, veq_str] at c0 ⊢); grind)
/- 47 slices.Equal[[]langdoc/api.Class,langdoc/api.Class] -/
theorem h47 {a b : D} (h_a : HasSh (.sl 139 2 (.st [.int .i64, .int .i64])) a) (h_b : HasSh (.sl 139 2 (.st [.int .i64, .int .i64])) b) : Holds EE 47 [a, b] (dB (deq a b)) := by
  refine u47 rfl (Goes.step' ?_)
  have i_a := isSl_of h_a
  have i_b := isSl_of h_b
  show wp _ _ _ u47T0 _
  refine wp_bindE (ρ' := [_, _, dI ((a.es.length : Nat) : Int)]) (sh_len i_a) rfl rfl ?_
  refine wp_bindE (ρ' := [_, _, _, dI ((b.es.length : Nat) : Int)]) (sh_len i_b) rfl rfl ?_
  refine wp_bindE (ρ' := [_, _, _, _, _]) sh_neq rfl rfl ?_
  refine wp_iteC rfl (fun c0 => ?_) (fun c0 => ?_)
  · have q0 := deq_len i_a i_b (len_ne c0)
    refine wp_retTo (d' := dB (false)) rfl (db_congr ?_)
    ((try simp only [deq_leaf, deq_agg, deqs_nil, deqs_cons, veq_int, veq_bool, veq_str] at q0 ⊢); grind)
  · have l_a_b := len_of c0
    refine wp_bindE (ρ' := [_, _, _, _, _, dI ((a.es.length : Nat) : Int)]) (sh_len i_a) rfl rfl ?_
    refine wp_jumpTo rfl ?_
    refine loop_eq2 (ρ := fun i1 => [a, b, dI ((a.es.length : Nat) : Int), dI ((i1 : Nat) : Int)]) i_a i_b l_a_b (fun q1 => ?_) ?_ (fun q1 => ?_)
    · ((try simp only [deq_leaf, deq_agg, deqs_nil, deqs_cons, veq_int, veq_bool, veq_str] at q1 ⊢); grind)
    · intro i1 x1 y1 e_x1 e_y1 hi1 hj1
      obtain ⟨_, rfl, _, _, rfl, ⟨x1_0, rfl⟩, _, _, rfl, ⟨x1_1, rfl⟩, rfl⟩ := elem_of h_a e_x1
      obtain ⟨_, rfl, _, _, rfl, ⟨y1_0, rfl⟩, _, _, rfl, ⟨y1_1, rfl⟩, rfl⟩ := elem_of h_b e_y1
      show wp _ _ _ u47T1 _
      refine wp_bindE (ρ' := [_, _, _, _, _]) sh_lss rfl rfl ?_
      refine wp_iteB rfl ?_
      rw [lt_true (show i1 < a.es.length by omega)]
      refine ite_t ?_
      refine wp_bindE (ρ' := [_, _, _, _, _, dB (true)]) (sh_inr e_x1) rfl rfl ?_
      refine wp_bindE (ρ' := [_, _, _, _, _, _, .agg [dI x1_0, dI x1_1]]) (sh_elemW i_a e_x1 rfl) rfl rfl ?_
      refine wp_bindE (ρ' := [_, _, _, _, _, _, _, dB (true)]) (sh_inr e_y1) rfl rfl ?_
      refine wp_bindE (ρ' := [_, _, _, _, _, _, _, _, .agg [dI y1_0, dI y1_1]]) (sh_elemW i_b e_y1 rfl) rfl rfl ?_
      refine wp_bindE (ρ' := [_, _, _, _, _, _, _, _, _, dB (!(deqs [dI x1_0, dI x1_1] [dI y1_0, dI y1_1]))]) (sh_cmpS .neq (.inl rfl) ty139 st139 le4 gu139 rfl (shs_cons sh_int (shs_cons sh_int shs_nil)) (shs_cons sh_int (shs_cons sh_int shs_nil))) rfl rfl ?_
      refine wp_iteC rfl (fun c2 => ?_) (fun c2 => ?_)
      · skip
        refine wp_retR rfl ?_
        clear hi1 hj1; ((try simp only [deq_leaf, deq_agg, deqs_nil, deqs_cons, veq_int] at c2 ⊢); grind)
      · skip
        refine wp_bindE (ρ' := [_, _, _, _, _, _, _, _, _, _, dI ((i1 + 1 : Nat) : Int)]) (sh_add hj1) rfl rfl ?_
        refine wp_jumpR rfl ?_
        clear hi1 hj1; ((try simp only [deq_leaf, deq_agg, deqs_nil, deqs_cons, veq_int] at c2 ⊢); grind)
    · show wp _ _ _ u47T1 _
      refine wp_bindE (ρ' := [_, _, _, _, _]) sh_lss rfl rfl ?_
      refine wp_iteB rfl ?_
      rw [lt_false]
      refine ite_f ?_
      refine wp_retTo (d' := dB (true)) rfl (db_congr ?_)
      ((try simp only [deq_leaf, deq_agg, deqs_nil, deqs_cons, veq_int, veq_bool, veq_str] at q1 ⊢); grind)
/- 46 langdoc/withdraw.sameLang$2 -/
theorem h46 {a b : D} (h_a : HasSh (.st [.sl 3 1 (.int .i64), .sl 3 1 (.int .i64), .sl 139 2 (.st [.int .i64, .int .i64]), .sl 139 2 (.st [.int .i64, .int .i64]), .bool, .bool]) a) (h_b : HasSh (.st [.sl 3 1 (.int .i64), .sl 3 1 (.int .i64), .sl 139 2 (.st [.int .i64, .int .i64]), .sl 139 2 (.st [.int .i64, .int .i64]), .bool, .bool]) b) : Holds EE 46 [a, b] (dB (deq a b)) := by
  refine u46 rfl (Goes.step' ?_)
  obtain ⟨_, rfl, a_0, _, rfl, h_a_0, a_1, _, rfl, h_a_1, a_2, _, rfl, h_a_2, a_3, _, rfl, h_a_3, _, _, rfl, ⟨a_4, rfl⟩, _, _, rfl, ⟨a_5, rfl⟩, rfl⟩ := h_a
  have i_a_0 := isSl_of h_a_0
  have i_a_1 := isSl_of h_a_1
  have i_a_2 := isSl_of h_a_2
  have i_a_3 := isSl_of h_a_3
  obtain ⟨_, rfl, b_0, _, rfl, h_b_0, b_1, _, rfl, h_b_1, b_2, _, rfl, h_b_2, b_3, _, rfl, h_b_3, _, _, rfl, ⟨b_4, rfl⟩, _, _, rfl, ⟨b_5, rfl⟩, rfl⟩ := h_b
  have i_b_0 := isSl_of h_b_0
  have i_b_1 := isSl_of h_b_1
  have i_b_2 := isSl_of h_b_2
  have i_b_3 := isSl_of h_b_3
  show wp _ _ _ u46T0 _
  refine wp_bindE (ρ' := [_, _, .agg [a_0, a_1, a_2, a_3, dB (a_4), dB (a_5)]]) (sh_chkW rfl) rfl rfl ?_
  refine wp_bindE (ρ' := [_, _, _, .agg [b_0, b_1, b_2, b_3, dB (b_4), dB (b_5)]]) (sh_chkW rfl) rfl rfl ?_
  refine wp_bindE (ρ' := [_, _, _, _, dB (a_4)]) (sh_fld1 (off := 4) rfl rfl) rfl rfl ?_
  refine wp_bindE (ρ' := [_, _, _, _, _, dB (b_4)]) (sh_fld1 (off := 4) rfl rfl) rfl rfl ?_
  refine wp_bindE (ρ' := [_, _, _, _, _, _, dB (decide (a_4 = b_4))]) (sh_cmpB .eql (.inr rfl) ty4 st4) rfl rfl ?_
  refine wp_iteC rfl (fun c0 => ?_) (fun c0 => ?_)
  · skip
    refine wp_bindE (ρ' := [_, _, _, _, _, _, _, dB (a_5)]) (sh_fld1 (off := 5) rfl rfl) rfl rfl ?_
    refine wp_bindE (ρ' := [_, _, _, _, _, _, _, _, dB (b_5)]) (sh_fld1 (off := 5) rfl rfl) rfl rfl ?_
    refine wp_bindE (ρ' := [_, _, _, _, _, _, _, _, _, dB (decide (a_5 = b_5))]) (sh_cmpB .eql (.inr rfl) ty4 st4) rfl rfl ?_
    refine wp_iteC rfl (fun c1 => ?_) (fun c1 => ?_)
    · skip
      refine wp_bindE (ρ' := [_, _, _, _, _, _, _, _, _, _, a_0]) (sh_fld1 (off := 0) rfl i_a_0.one) rfl rfl ?_
      refine wp_bindE (ρ' := [_, _, _, _, _, _, _, _, _, _, _, b_0]) (sh_fld1 (off := 0) rfl i_b_0.one) rfl rfl ?_
      refine wp_callE (ρ' := [_, _, _, _, _, _, _, _, _, _, _, _, dB (deq (a_0) (b_0))]) (h45 h_a_0 h_b_0) rfl rfl rfl rfl ?_
      refine wp_iteC rfl (fun c2 => ?_) (fun c2 => ?_)
      · skip
        refine wp_bindE (ρ' := [_, _, _, _, _, _, _, _, _, _, _, _, _, a_1]) (sh_fld1 (off := 1) rfl i_a_1.one) rfl rfl ?_
        refine wp_bindE (ρ' := [_, _, _, _, _, _, _, _, _, _, _, _, _, _, b_1]) (sh_fld1 (off := 1) rfl i_b_1.one) rfl rfl ?_
        refine wp_callE (ρ' := [_, _, _, _, _, _, _, _, _, _, _, _, _, _, _, dB (deq (a_1) (b_1))]) (h45 h_a_1 h_b_1) rfl rfl rfl rfl ?_
        refine wp_iteC rfl (fun c3 => ?_) (fun c3 => ?_)
        · skip
          refine wp_bindE (ρ' := [_, _, _, _, _, _, _, _, _, _, _, _, _, _, _, _, a_2]) (sh_fld1 (off := 2) rfl i_a_2.one) rfl rfl ?_
          refine wp_bindE (ρ' := [_, _, _, _, _, _, _, _, _, _, _, _, _, _, _, _, _, b_2]) (sh_fld1 (off := 2) rfl i_b_2.one) rfl rfl ?_
          refine wp_callE (ρ' := [_, _, _, _, _, _, _, _, _, _, _, _, _, _, _, _, _, _, dB (deq (a_2) (b_2))]) (h47 h_a_2 h_b_2) rfl rfl rfl rfl ?_
          refine wp_iteC rfl (fun c4 => ?_) (fun c4 => ?_)
          · skip
            refine wp_bindE (ρ' := [_, _, _, _, _, _, _, _, _, _, _, _, _, _, _, _, _, _, _, a_3]) (sh_fld1 (off := 3) rfl i_a_3.one) rfl rfl ?_
            refine wp_bindE (ρ' := [_, _, _, _, _, _, _, _, _, _, _, _, _, _, _, _, _, _, _, _, b_3]) (sh_fld1 (off := 3) rfl i_b_3.one) rfl rfl ?_
            refine wp_callE (ρ' := [_, _, _, _, _, _, _, _, _, _, _, _, _, _, _, _, _, _, _, _, _, dB (deq (a_3) (b_3))]) (h47 h_a_3 h_b_3) rfl rfl rfl rfl ?_
            refine wp_retTo (d' := dB (deq (a_3) (b_3))) rfl (db_congr ?_)
            ((try simp only [deq_leaf, deq_agg, deqs_nil, deqs_cons, veq_bool] at c4 c3 c2 c1 c0 ⊢); grind)
          · skip
            refine wp_retTo (d' := dB (false)) rfl (db_congr ?_)
            ((try simp only [deq_leaf, deq_agg, deqs_nil, deqs_cons, veq_bool] at c4 c3 c2 c1 c0 ⊢); grind)
        · skip
          refine wp_retTo (d' := dB (false)) rfl (db_congr ?_)
          ((try simp only [deq_leaf, deq_agg, deqs_nil, deqs_cons, veq_bool] at c3 c2 c1 c0 ⊢); grind)
      · skip
        refine wp_retTo (d' := dB (false)) rfl (db_congr ?_)
        ((try simp only [deq_leaf, deq_agg, deqs_nil, deqs_cons, veq_bool] at c2 c1 c0 ⊢); grind)
    · skip
      refine wp_retTo (d' := dB (false)) rfl (db_congr ?_)
      ((try simp only [deq_leaf, deq_agg, deqs_nil, deqs_cons, veq_bool] at c1 c0 ⊢); grind)
  · skip
    refine wp_retTo (d' := dB (false)) rfl (db_congr ?_)
    ((try simp only [deq_leaf, deq_agg, deqs_nil, deqs_cons, veq_bool] at c0 ⊢); grind)
/- 48 slices.EqualFunc[[]langdoc/api.Unit,[]langdoc/api.Unit,langdoc/api.Unit,langdoc/api.Unit] -/
theorem h48 {a b : D} {g : Nat} (h_a : HasSh (.sl 88 2 (.st [.str, .sl 3 1 (.int .i64)])) a) (h_b : HasSh (.sl 88 2 (.st [.str, .sl 3 1 (.int .i64)])) b) (hp : ∀ x y, HasSh (.st [.str, .sl 3 1 (.int .i64)]) x → HasSh (.st [.str, .sl 3 1 (.int .i64)]) y → Holds EE g [x, y] (dB (deq x y))) : Holds EE 48 [a, b, .clo (.func g) [] []] (dB (deq a b)) := by
  refine u48 rfl (Goes.step' ?_)
  have i_a := isSl_of h_a
  have i_b := isSl_of h_b
  show wp _ _ _ u48T0 _
  refine wp_bindE (ρ' := [_, _, _, dI ((a.es.length : Nat) : Int)]) (sh_len i_a) rfl rfl ?_
  refine wp_bindE (ρ' := [_, _, _, _, dI ((b.es.length : Nat) : Int)]) (sh_len i_b) rfl rfl ?_
  refine wp_bindE (ρ' := [_, _, _, _, _, _]) sh_neq rfl rfl ?_
  refine wp_iteC rfl (fun c0 => ?_) (fun c0 => ?_)
  · have q0 := deq_len i_a i_b (len_ne c0)
    refine wp_retTo (d' := dB (false)) rfl (db_congr ?_)
    ((try simp only [deq_leaf, deq_agg, deqs_nil, deqs_cons, veq_int, veq_bool, veq_str] at q0 ⊢); grind)
  · have l_a_b := len_of c0
    refine wp_bindE (ρ' := [_, _, _, _, _, _, dI ((a.es.length : Nat) : Int)]) (sh_len i_a) rfl rfl ?_
    refine wp_jumpTo rfl ?_
    refine loop_eq2 (ρ := fun i1 => [b, (.clo (.func g) [] []), a, dI ((a.es.length : Nat) : Int), dI ((i1 : Nat) : Int)]) i_a i_b l_a_b (fun q1 => ?_) ?_ (fun q1 => ?_)
    · ((try simp only [deq_leaf, deq_agg, deqs_nil, deqs_cons, veq_int, veq_bool, veq_str] at q1 ⊢); grind)
    · intro i1 x1 y1 e_x1 e_y1 hi1 hj1
      obtain ⟨_, rfl, _, _, rfl, ⟨x1_0, rfl⟩, x1_1, _, rfl, h_x1_1, rfl⟩ := elem_of h_a e_x1
      have i_x1_1 := isSl_of h_x1_1
      obtain ⟨_, rfl, _, _, rfl, ⟨y1_0, rfl⟩, y1_1, _, rfl, h_y1_1, rfl⟩ := elem_of h_b e_y1
      have i_y1_1 := isSl_of h_y1_1
      show wp _ _ _ u48T1 _
      refine wp_bindE (ρ' := [_, _, _, _, _, _]) sh_lss rfl rfl ?_
      refine wp_iteB rfl ?_
      rw [lt_true (show i1 < a.es.length by omega)]
      refine ite_t ?_
      refine wp_bindE (ρ' := [_, _, _, _, _, _, dB (true)]) (sh_inr e_x1) rfl rfl ?_
      refine wp_bindE (ρ' := [_, _, _, _, _, _, _, .agg [.leaf (.string x1_0), x1_1]]) (sh_elemW i_a e_x1 rfl) rfl rfl ?_
      refine wp_bindE (ρ' := [_, _, _, _, _, _, _, _, .agg [.leaf (.string x1_0), x1_1]]) (sh_chkW rfl) rfl rfl ?_
      refine wp_bindE (ρ' := [_, _, _, _, _, _, _, _, _, dB (true)]) (sh_inr e_y1) rfl rfl ?_
      refine wp_bindE (ρ' := [_, _, _, _, _, _, _, _, _, _, .agg [.leaf (.string y1_0), y1_1]]) (sh_elemW i_b e_y1 rfl) rfl rfl ?_
      refine wp_bindE (ρ' := [_, _, _, _, _, _, _, _, _, _, _, .agg [.leaf (.string y1_0), y1_1]]) (sh_chkW rfl) rfl rfl ?_
      refine wp_callE (ρ' := [_, _, _, _, _, _, _, _, _, _, _, _, dB (deq (.agg [.leaf (.string x1_0), x1_1]) (.agg [.leaf (.string y1_0), y1_1]))]) (hp _ _ (sh_st (shs_cons sh_str (shs_cons h_x1_1 shs_nil))) (sh_st (shs_cons sh_str (shs_cons h_y1_1 shs_nil)))) rfl rfl rfl rfl ?_
      refine wp_bindE (ρ' := [_, _, _, _, _, _, _, _, _, _, _, _, _, dB (!(deq (.agg [.leaf (.string x1_0), x1_1]) (.agg [.leaf (.string y1_0), y1_1])))]) sh_not rfl rfl ?_
      refine wp_iteC rfl (fun c2 => ?_) (fun c2 => ?_)
      · skip
        refine wp_retR rfl ?_
        clear hi1 hj1; ((try simp only [deq_leaf, deq_agg, deqs_nil, deqs_cons, veq_str] at c2 ⊢); grind)
      · skip
        refine wp_bindE (ρ' := [_, _, _, _, _, _, _, _, _, _, _, _, _, _, dI ((i1 + 1 : Nat) : Int)]) (sh_add hj1) rfl rfl ?_
        refine wp_jumpR rfl ?_
        clear hi1 hj1; ((try simp only [deq_leaf, deq_agg, deqs_nil, deqs_cons, veq_str] at c2 ⊢); grind)
    · show wp _ _ _ u48T1 _
      refine wp_bindE (ρ' := [_, _, _, _, _, _]) sh_lss rfl rfl ?_
      refine wp_iteB rfl ?_
      rw [lt_false]
      refine ite_f ?_
      refine wp_retTo (d' := dB (true)) rfl (db_congr ?_)
      ((try simp only [deq_leaf, deq_agg, deqs_nil, deqs_cons, veq_int, veq_bool, veq_str] at q1 ⊢); grind)
/- 49 slices.EqualFunc[[][]string,[][]string,[]string,[]string] -/
theorem h49 {a b : D} {g : Nat} (h_a : HasSh (.sl 143 1 (.sl 9 1 (.str))) a) (h_b : HasSh (.sl 143 1 (.sl 9 1 (.str))) b) (hp : ∀ x y, HasSh (.sl 9 1 (.str)) x → HasSh (.sl 9 1 (.str)) y → Holds EE g [x, y] (dB (deq x y))) : Holds EE 49 [a, b, .clo (.func g) [] []] (dB (deq a b)) := by
  refine u49 rfl (Goes.step' ?_)
  have i_a := isSl_of h_a
  have i_b := isSl_of h_b
  show wp _ _ _ u49T0 _
  refine wp_bindE (ρ' := [_, _, _, dI ((a.es.length : Nat) : Int)]) (sh_len i_a) rfl rfl ?_
  refine wp_bindE (ρ' := [_, _, _, _, dI ((b.es.length : Nat) : Int)]) (sh_len i_b) rfl rfl ?_
  refine wp_bindE (ρ' := [_, _, _, _, _, _]) sh_neq rfl rfl ?_
  refine wp_iteC rfl (fun c0 => ?_) (fun c0 => ?_)
  · have q0 := deq_len i_a i_b (len_ne c0)
    refine wp_retTo (d' := dB (false)) rfl (db_congr ?_)
    ((try simp only [deq_leaf, deq_agg, deqs_nil, deqs_cons, veq_int, veq_bool, veq_str] at q0 ⊢); grind)
  · have l_a_b := len_of c0
    refine wp_bindE (ρ' := [_, _, _, _, _, _, dI ((a.es.length : Nat) : Int)]) (sh_len i_a) rfl rfl ?_
    refine wp_jumpTo rfl ?_
    refine loop_eq2 (ρ := fun i1 => [b, (.clo (.func g) [] []), a, dI ((a.es.length : Nat) : Int), dI ((i1 : Nat) : Int)]) i_a i_b l_a_b (fun q1 => ?_) ?_ (fun q1 => ?_)
    · ((try simp only [deq_leaf, deq_agg, deqs_nil, deqs_cons, veq_int, veq_bool, veq_str] at q1 ⊢); grind)
    · intro i1 x1 y1 e_x1 e_y1 hi1 hj1
      have h_x1 := elem_of h_a e_x1
      have i_x1 := isSl_of h_x1
      have h_y1 := elem_of h_b e_y1
      have i_y1 := isSl_of h_y1
      show wp _ _ _ u49T1 _
      refine wp_bindE (ρ' := [_, _, _, _, _, _]) sh_lss rfl rfl ?_
      refine wp_iteB rfl ?_
      rw [lt_true (show i1 < a.es.length by omega)]
      refine ite_t ?_
      refine wp_bindE (ρ' := [_, _, _, _, _, _, dB (true)]) (sh_inr e_x1) rfl rfl ?_
      refine wp_bindE (ρ' := [_, _, _, _, _, _, _, x1]) (sh_elem1 i_a e_x1 i_x1.one) rfl rfl ?_
      refine wp_bindE (ρ' := [_, _, _, _, _, _, _, _, dB (true)]) (sh_inr e_y1) rfl rfl ?_
      refine wp_bindE (ρ' := [_, _, _, _, _, _, _, _, _, y1]) (sh_elem1 i_b e_y1 i_y1.one) rfl rfl ?_
      refine wp_callE (ρ' := [_, _, _, _, _, _, _, _, _, _, dB (deq (x1) (y1))]) (hp _ _ h_x1 h_y1) rfl rfl rfl rfl ?_
      refine wp_bindE (ρ' := [_, _, _, _, _, _, _, _, _, _, _, dB (!(deq (x1) (y1)))]) sh_not rfl rfl ?_
      refine wp_iteC rfl (fun c2 => ?_) (fun c2 => ?_)
      · skip
        refine wp_retR rfl ?_
        clear hi1 hj1; ((try simp only [deq_leaf, deq_agg, deqs_nil, deqs_cons, veq_int, veq_bool, veq_str] at c2 ⊢); grind)
      · skip
        refine wp_bindE (ρ' := [_, _, _, _, _, _, _, _, _, _, _, _, dI ((i1 + 1 : Nat) : Int)]) (sh_add hj1) rfl rfl ?_
        refine wp_jumpR rfl ?_
        clear hi1 hj1; ((try simp only [deq_leaf, deq_agg, deqs_nil, deqs_cons, veq_int, veq_bool, veq_str] at c2 ⊢); grind)
    · show wp _ _ _ u49T1 _
      refine wp_bindE (ρ' := [_, _, _, _, _, _]) sh_lss rfl rfl ?_
      refine wp_iteB rfl ?_
      rw [lt_false]
      refine ite_f ?_
      refine wp_retTo (d' := dB (true)) rfl (db_congr ?_)
      ((try simp only [deq_leaf, deq_agg, deqs_nil, deqs_cons, veq_int, veq_bool, veq_str] at q1 ⊢); grind)
/- 50 slices.Equal[[]string,string] -/
theorem h50 {a b : D} (h_a : HasSh (.sl 9 1 (.str)) a) (h_b : HasSh (.sl 9 1 (.str)) b) : Holds EE 50 [a, b] (dB (deq a b)) := by
  refine u50 rfl (Goes.step' ?_)
  have i_a := isSl_of h_a
  have i_b := isSl_of h_b
  show wp _ _ _ u50T0 _
  refine wp_bindE (ρ' := [_, _, dI ((a.es.length : Nat) : Int)]) (sh_len i_a) rfl rfl ?_
  refine wp_bindE (ρ' := [_, _, _, dI ((b.es.length : Nat) : Int)]) (sh_len i_b) rfl rfl ?_
  refine wp_bindE (ρ' := [_, _, _, _, _]) sh_neq rfl rfl ?_
  refine wp_iteC rfl (fun c0 => ?_) (fun c0 => ?_)
  · have q0 := deq_len i_a i_b (len_ne c0)
    refine wp_retTo (d' := dB (false)) rfl (db_congr ?_)
    ((try simp only [deq_leaf, deq_agg, deqs_nil, deqs_cons, veq_int, veq_bool, veq_str] at q0 ⊢); grind)
  · have l_a_b := len_of c0
    refine wp_bindE (ρ' := [_, _, _, _, _, dI ((a.es.length : Nat) : Int)]) (sh_len i_a) rfl rfl ?_
    refine wp_jumpTo rfl ?_
    refine loop_eq2 (ρ := fun i1 => [a, b, dI ((a.es.length : Nat) : Int), dI ((i1 : Nat) : Int)]) i_a i_b l_a_b (fun q1 => ?_) ?_ (fun q1 => ?_)
    · ((try simp only [deq_leaf, deq_agg, deqs_nil, deqs_cons, veq_int, veq_bool, veq_str] at q1 ⊢); grind)
    · intro i1 x1 y1 e_x1 e_y1 hi1 hj1
      obtain ⟨x1, rfl⟩ := elem_of h_a e_x1
      obtain ⟨y1, rfl⟩ := elem_of h_b e_y1
      show wp _ _ _ u50T1 _
      refine wp_bindE (ρ' := [_, _, _, _, _]) sh_lss rfl rfl ?_
      refine wp_iteB rfl ?_
      rw [lt_true (show i1 < a.es.length by omega)]
      refine ite_t ?_
      refine wp_bindE (ρ' := [_, _, _, _, _, dB (true)]) (sh_inr e_x1) rfl rfl ?_
      refine wp_bindE (ρ' := [_, _, _, _, _, _, .leaf (.string x1)]) (sh_elem1 i_a e_x1 rfl) rfl rfl ?_
      refine wp_bindE (ρ' := [_, _, _, _, _, _, _, dB (true)]) (sh_inr e_y1) rfl rfl ?_
      refine wp_bindE (ρ' := [_, _, _, _, _, _, _, _, .leaf (.string y1)]) (sh_elem1 i_b e_y1 rfl) rfl rfl ?_
      refine wp_bindE (ρ' := [_, _, _, _, _, _, _, _, _, dB (!(x1 == y1))]) sh_strN rfl rfl ?_
      refine wp_iteC rfl (fun c2 => ?_) (fun c2 => ?_)
      · skip
        refine wp_retR rfl ?_
        clear hi1 hj1; ((try simp only [deq_leaf, veq_str] at c2 ⊢); grind)
      · skip
        refine wp_bindE (ρ' := [_, _, _, _, _, _, _, _, _, _, dI ((i1 + 1 : Nat) : Int)]) (sh_add hj1) rfl rfl ?_
        refine wp_jumpR rfl ?_
        clear hi1 hj1; ((try simp only [deq_leaf, veq_str] at c2 ⊢); grind)
    · show wp _ _ _ u50T1 _
      refine wp_bindE (ρ' := [_, _, _, _, _]) sh_lss rfl rfl ?_
      refine wp_iteB rfl ?_
      rw [lt_false]
      refine ite_f ?_
      refine wp_retTo (d' := dB (true)) rfl (db_congr ?_)
      ((try simp only [deq_leaf, deq_agg, deqs_nil, deqs_cons, veq_int, veq_bool, veq_str] at q1 ⊢); grind)
/- 51 slices.Equal[[]langdoc/api.Step,langdoc/api.Step] -/
theorem h51 {a b : D} (h_a : HasSh (.sl 90 3 (.st [.int .i64, .int .i64, .int .i64])) a) (h_b : HasSh (.sl 90 3 (.st [.int .i64, .int .i64, .int .i64])) b) : Holds EE 51 [a, b] (dB (deq a b)) := by
  refine u51 rfl (Goes.step' ?_)
  have i_a := isSl_of h_a
  have i_b := isSl_of h_b
  show wp _ _ _ u51T0 _
  refine wp_bindE (ρ' := [_, _, dI ((a.es.length : Nat) : Int)]) (sh_len i_a) rfl rfl ?_
  refine wp_bindE (ρ' := [_, _, _, dI ((b.es.length : Nat) : Int)]) (sh_len i_b) rfl rfl ?_
  refine wp_bindE (ρ' := [_, _, _, _, _]) sh_neq rfl rfl ?_
  refine wp_iteC rfl (fun c0 => ?_) (fun c0 => ?_)
  · have q0 := deq_len i_a i_b (len_ne c0)
    refine wp_retTo (d' := dB (false)) rfl (db_congr ?_)
    ((try simp only [deq_leaf, deq_agg, deqs_nil, deqs_cons, veq_int, veq_bool, veq_str] at q0 ⊢); grind)
  · have l_a_b := len_of c0
    refine wp_bindE (ρ' := [_, _, _, _, _, dI ((a.es.length : Nat) : Int)]) (sh_len i_a) rfl rfl ?_
    refine wp_jumpTo rfl ?_
    refine loop_eq2 (ρ := fun i1 => [a, b, dI ((a.es.length : Nat) : Int), dI ((i1 : Nat) : Int)]) i_a i_b l_a_b (fun q1 => ?_) ?_ (fun q1 => ?_)
    · ((try simp only [deq_leaf, deq_agg, deqs_nil, deqs_cons, veq_int, veq_bool, veq_str] at q1 ⊢); grind)
    · intro i1 x1 y1 e_x1 e_y1 hi1 hj1
      obtain ⟨_, rfl, _, _, rfl, ⟨x1_0, rfl⟩, _, _, rfl, ⟨x1_1, rfl⟩, _, _, rfl, ⟨x1_2, rfl⟩, rfl⟩ := elem_of h_a e_x1
      obtain ⟨_, rfl, _, _, rfl, ⟨y1_0, rfl⟩, _, _, rfl, ⟨y1_1, rfl⟩, _, _, rfl, ⟨y1_2, rfl⟩, rfl⟩ := elem_of h_b e_y1
      show wp _ _ _ u51T1 _
      refine wp_bindE (ρ' := [_, _, _, _, _]) sh_lss rfl rfl ?_
      refine wp_iteB rfl ?_
      rw [lt_true (show i1 < a.es.length by omega)]
      refine ite_t ?_
      refine wp_bindE (ρ' := [_, _, _, _, _, dB (true)]) (sh_inr e_x1) rfl rfl ?_
      refine wp_bindE (ρ' := [_, _, _, _, _, _, .agg [dI x1_0, dI x1_1, dI x1_2]]) (sh_elemW i_a e_x1 rfl) rfl rfl ?_
      refine wp_bindE (ρ' := [_, _, _, _, _, _, _, dB (true)]) (sh_inr e_y1) rfl rfl ?_
      refine wp_bindE (ρ' := [_, _, _, _, _, _, _, _, .agg [dI y1_0, dI y1_1, dI y1_2]]) (sh_elemW i_b e_y1 rfl) rfl rfl ?_
      refine wp_bindE (ρ' := [_, _, _, _, _, _, _, _, _, dB (!(deqs [dI x1_0, dI x1_1, dI x1_2] [dI y1_0, dI y1_1, dI y1_2]))]) (sh_cmpS .neq (.inl rfl) ty90 st90 le4 gu90 rfl (shs_cons sh_int (shs_cons sh_int (shs_cons sh_int shs_nil))) (shs_cons sh_int (shs_cons sh_int (shs_cons sh_int shs_nil)))) rfl rfl ?_
      refine wp_iteC rfl (fun c2 => ?_) (fun c2 => ?_)
      · skip
        refine wp_retR rfl ?_
        clear hi1 hj1; ((try simp only [deq_leaf, deq_agg, deqs_nil, deqs_cons, veq_int] at c2 ⊢); grind)
      · skip
        refine wp_bindE (ρ' := [_, _, _, _, _, _, _, _, _, _, dI ((i1 + 1 : Nat) : Int)]) (sh_add hj1) rfl rfl ?_
        refine wp_jumpR rfl ?_
        clear hi1 hj1; ((try simp only [deq_leaf, deq_agg, deqs_nil, deqs_cons, veq_int] at c2 ⊢); grind)
    · show wp _ _ _ u51T1 _
      refine wp_bindE (ρ' := [_, _, _, _, _]) sh_lss rfl rfl ?_
      refine wp_iteB rfl ?_
      rw [lt_false]
      refine ite_f ?_
      refine wp_retTo (d' := dB (true)) rfl (db_congr ?_)
      ((try simp only [deq_leaf, deq_agg, deqs_nil, deqs_cons, veq_int, veq_bool, veq_str] at q1 ⊢); grind)
/- 52 slices.Equal[[]langdoc/api.Phoneme,langdoc/api.Phoneme] -/
theorem h52 {a b : D} (h_a : HasSh (.sl 86 2 (.st [.str, .int .i64])) a) (h_b : HasSh (.sl 86 2 (.st [.str, .int .i64])) b) : Holds EE 52 [a, b] (dB (deq a b)) := by
  refine u52 rfl (Goes.step' ?_)
  have i_a := isSl_of h_a
  have i_b := isSl_of h_b
  show wp _ _ _ u52T0 _
  refine wp_bindE (ρ' := [_, _, dI ((a.es.length : Nat) : Int)]) (sh_len i_a) rfl rfl ?_
  refine wp_bindE (ρ' := [_, _, _, dI ((b.es.length : Nat) : Int)]) (sh_len i_b) rfl rfl ?_
  refine wp_bindE (ρ' := [_, _, _, _, _]) sh_neq rfl rfl ?_
  refine wp_iteC rfl (fun c0 => ?_) (fun c0 => ?_)
  · have q0 := deq_len i_a i_b (len_ne c0)
    refine wp_retTo (d' := dB (false)) rfl (db_congr ?_)
    ((try simp only [deq_leaf, deq_agg, deqs_nil, deqs_cons, veq_int, veq_bool, veq_str] at q0 ⊢); grind)
  · have l_a_b := len_of c0
    refine wp_bindE (ρ' := [_, _, _, _, _, dI ((a.es.length : Nat) : Int)]) (sh_len i_a) rfl rfl ?_
    refine wp_jumpTo rfl ?_
    refine loop_eq2 (ρ := fun i1 => [a, b, dI ((a.es.length : Nat) : Int), dI ((i1 : Nat) : Int)]) i_a i_b l_a_b (fun q1 => ?_) ?_ (fun q1 => ?_)
    · ((try simp only [deq_leaf, deq_agg, deqs_nil, deqs_cons, veq_int, veq_bool, veq_str] at q1 ⊢); grind)
    · intro i1 x1 y1 e_x1 e_y1 hi1 hj1
      obtain ⟨_, rfl, _, _, rfl, ⟨x1_0, rfl⟩, _, _, rfl, ⟨x1_1, rfl⟩, rfl⟩ := elem_of h_a e_x1
      obtain ⟨_, rfl, _, _, rfl, ⟨y1_0, rfl⟩, _, _, rfl, ⟨y1_1, rfl⟩, rfl⟩ := elem_of h_b e_y1
      show wp _ _ _ u52T1 _
      refine wp_bindE (ρ' := [_, _, _, _, _]) sh_lss rfl rfl ?_
      refine wp_iteB rfl ?_
      rw [lt_true (show i1 < a.es.length by omega)]
      refine ite_t ?_
      refine wp_bindE (ρ' := [_, _, _, _, _, dB (true)]) (sh_inr e_x1) rfl rfl ?_
      refine wp_bindE (ρ' := [_, _, _, _, _, _, .agg [.leaf (.string x1_0), dI x1_1]]) (sh_elemW i_a e_x1 rfl) rfl rfl ?_
      refine wp_bindE (ρ' := [_, _, _, _, _, _, _, dB (true)]) (sh_inr e_y1) rfl rfl ?_
      refine wp_bindE (ρ' := [_, _, _, _, _, _, _, _, .agg [.leaf (.string y1_0), dI y1_1]]) (sh_elemW i_b e_y1 rfl) rfl rfl ?_
      refine wp_bindE (ρ' := [_, _, _, _, _, _, _, _, _, dB (!(deqs [.leaf (.string x1_0), dI x1_1] [.leaf (.string y1_0), dI y1_1]))]) (sh_cmpS .neq (.inl rfl) ty86 st86 le4 gu86 rfl (shs_cons sh_str (shs_cons sh_int shs_nil)) (shs_cons sh_str (shs_cons sh_int shs_nil))) rfl rfl ?_
      refine wp_iteC rfl (fun c2 => ?_) (fun c2 => ?_)
      · skip
        refine wp_retR rfl ?_
        clear hi1 hj1; ((try simp only [deq_leaf, deq_agg, deqs_nil, deqs_cons, veq_int, veq_str] at c2 ⊢); grind)
      · skip
        refine wp_bindE (ρ' := [_, _, _, _, _, _, _, _, _, _, dI ((i1 + 1 : Nat) : Int)]) (sh_add hj1) rfl rfl ?_
        refine wp_jumpR rfl ?_
        clear hi1 hj1; ((try simp only [deq_leaf, deq_agg, deqs_nil, deqs_cons, veq_int, veq_str] at c2 ⊢); grind)
    · show wp _ _ _ u52T1 _
      refine wp_bindE (ρ' := [_, _, _, _, _]) sh_lss rfl rfl ?_
      refine wp_iteB rfl ?_
      rw [lt_false]
      refine ite_f ?_
      refine wp_retTo (d' := dB (true)) rfl (db_congr ?_)
      ((try simp only [deq_leaf, deq_agg, deqs_nil, deqs_cons, veq_int, veq_bool, veq_str] at q1 ⊢); grind)
/- 53 slices.EqualFunc[[]langdoc/api.Rewrite,[]langdoc/api.Rewrite,langdoc/api.Rewrite,langdoc/api.Rewrite] -/
theorem h53 {a b : D} {g : Nat} (h_a : HasSh (.sl 136 6 (.st [.sl 3 1 (.int .i64), .sl 3 1 (.int .i64), .sl 139 2 (.st [.int .i64, .int .i64]), .sl 139 2 (.st [.int .i64, .int .i64]), .bool, .bool])) a) (h_b : HasSh (.sl 136 6 (.st [.sl 3 1 (.int .i64), .sl 3 1 (.int .i64), .sl 139 2 (.st [.int .i64, .int .i64]), .sl 139 2 (.st [.int .i64, .int .i64]), .bool, .bool])) b) (hp : ∀ x y, HasSh (.st [.sl 3 1 (.int .i64), .sl 3 1 (.int .i64), .sl 139 2 (.st [.int .i64, .int .i64]), .sl 139 2 (.st [.int .i64, .int .i64]), .bool, .bool]) x → HasSh (.st [.sl 3 1 (.int .i64), .sl 3 1 (.int .i64), .sl 139 2 (.st [.int .i64, .int .i64]), .sl 139 2 (.st [.int .i64, .int .i64]), .bool, .bool]) y → Holds EE g [x, y] (dB (deq x y))) : Holds EE 53 [a, b, .clo (.func g) [] []] (dB (deq a b)) := by
  refine u53 rfl (Goes.step' ?_)
  have i_a := isSl_of h_a
  have i_b := isSl_of h_b
  show wp _ _ _ u53T0 _
  refine wp_bindE (ρ' := [_, _, _, dI ((a.es.length : Nat) : Int)]) (sh_len i_a) rfl rfl ?_
  refine wp_bindE (ρ' := [_, _, _, _, dI ((b.es.length : Nat) : Int)]) (sh_len i_b) rfl rfl ?_
  refine wp_bindE (ρ' := [_, _, _, _, _, _]) sh_neq rfl rfl ?_
  refine wp_iteC rfl (fun c0 => ?_) (fun c0 => ?_)
  · have q0 := deq_len i_a i_b (len_ne c0)
    refine wp_retTo (d' := dB (false)) rfl (db_congr ?_)
    ((try simp only [deq_leaf, deq_agg, deqs_nil, deqs_cons, veq_int, veq_bool, veq_str] at q0 ⊢); grind)
  · have l_a_b := len_of c0
    refine wp_bindE (ρ' := [_, _, _, _, _, _, dI ((a.es.length : Nat) : Int)]) (sh_len i_a) rfl rfl ?_
    refine wp_jumpTo rfl ?_
    refine loop_eq2 (ρ := fun i1 => [b, (.clo (.func g) [] []), a, dI ((a.es.length : Nat) : Int), dI ((i1 : Nat) : Int)]) i_a i_b l_a_b (fun q1 => ?_) ?_ (fun q1 => ?_)
    · ((try simp only [deq_leaf, deq_agg, deqs_nil, deqs_cons, veq_int, veq_bool, veq_str] at q1 ⊢); grind)
    · intro i1 x1 y1 e_x1 e_y1 hi1 hj1
      obtain ⟨_, rfl, x1_0, _, rfl, h_x1_0, x1_1, _, rfl, h_x1_1, x1_2, _, rfl, h_x1_2, x1_3, _, rfl, h_x1_3, _, _, rfl, ⟨x1_4, rfl⟩, _, _, rfl, ⟨x1_5, rfl⟩, rfl⟩ := elem_of h_a e_x1
      have i_x1_0 := isSl_of h_x1_0
      have i_x1_1 := isSl_of h_x1_1
      have i_x1_2 := isSl_of h_x1_2
      have i_x1_3 := isSl_of h_x1_3
      obtain ⟨_, rfl, y1_0, _, rfl, h_y1_0, y1_1, _, rfl, h_y1_1, y1_2, _, rfl, h_y1_2, y1_3, _, rfl, h_y1_3, _, _, rfl, ⟨y1_4, rfl⟩, _, _, rfl, ⟨y1_5, rfl⟩, rfl⟩ := elem_of h_b e_y1
      have i_y1_0 := isSl_of h_y1_0
      have i_y1_1 := isSl_of h_y1_1
      have i_y1_2 := isSl_of h_y1_2
      have i_y1_3 := isSl_of h_y1_3
      show wp _ _ _ u53T1 _
      refine wp_bindE (ρ' := [_, _, _, _, _, _]) sh_lss rfl rfl ?_
      refine wp_iteB rfl ?_
      rw [lt_true (show i1 < a.es.length by omega)]
      refine ite_t ?_
      refine wp_bindE (ρ' := [_, _, _, _, _, _, dB (true)]) (sh_inr e_x1) rfl rfl ?_
      refine wp_bindE (ρ' := [_, _, _, _, _, _, _, .agg [x1_0, x1_1, x1_2, x1_3, dB (x1_4), dB (x1_5)]]) (sh_elemW i_a e_x1 rfl) rfl rfl ?_
      refine wp_bindE (ρ' := [_, _, _, _, _, _, _, _, .agg [x1_0, x1_1, x1_2, x1_3, dB (x1_4), dB (x1_5)]]) (sh_chkW rfl) rfl rfl ?_
      refine wp_bindE (ρ' := [_, _, _, _, _, _, _, _, _, dB (true)]) (sh_inr e_y1) rfl rfl ?_
      refine wp_bindE (ρ' := [_, _, _, _, _, _, _, _, _, _, .agg [y1_0, y1_1, y1_2, y1_3, dB (y1_4), dB (y1_5)]]) (sh_elemW i_b e_y1 rfl) rfl rfl ?_
      refine wp_bindE (ρ' := [_, _, _, _, _, _, _, _, _, _, _, .agg [y1_0, y1_1, y1_2, y1_3, dB (y1_4), dB (y1_5)]]) (sh_chkW rfl) rfl rfl ?_
      refine wp_callE (ρ' := [_, _, _, _, _, _, _, _, _, _, _, _, dB (deq (.agg [x1_0, x1_1, x1_2, x1_3, dB (x1_4), dB (x1_5)]) (.agg [y1_0, y1_1, y1_2, y1_3, dB (y1_4), dB (y1_5)]))]) (hp _ _ (sh_st (shs_cons h_x1_0 (shs_cons h_x1_1 (shs_cons h_x1_2 (shs_cons h_x1_3 (shs_cons sh_bool (shs_cons sh_bool shs_nil))))))) (sh_st (shs_cons h_y1_0 (shs_cons h_y1_1 (shs_cons h_y1_2 (shs_cons h_y1_3 (shs_cons sh_bool (shs_cons sh_bool shs_nil)))))))) rfl rfl rfl rfl ?_
      refine wp_bindE (ρ' := [_, _, _, _, _, _, _, _, _, _, _, _, _, dB (!(deq (.agg [x1_0, x1_1, x1_2, x1_3, dB (x1_4), dB (x1_5)]) (.agg [y1_0, y1_1, y1_2, y1_3, dB (y1_4), dB (y1_5)])))]) sh_not rfl rfl ?_
      refine wp_iteC rfl (fun c2 => ?_) (fun c2 => ?_)
      · skip
        refine wp_retR rfl ?_
        clear hi1 hj1; ((try simp only [deq_leaf, deq_agg, deqs_nil, deqs_cons, veq_bool] at c2 ⊢); grind)
      · skip
        refine wp_bindE (ρ' := [_, _, _, _, _, _, _, _, _, _, _, _, _, _, dI ((i1 + 1 : Nat) : Int)]) (sh_add hj1) rfl rfl ?_
        refine wp_jumpR rfl ?_
        clear hi1 hj1; ((try simp only [deq_leaf, deq_agg, deqs_nil, deqs_cons, veq_bool] at c2 ⊢); grind)
    · show wp _ _ _ u53T1 _
      refine wp_bindE (ρ' := [_, _, _, _, _, _]) sh_lss rfl rfl ?_
      refine wp_iteB rfl ?_
      rw [lt_false]
      refine ite_f ?_
      refine wp_retTo (d' := dB (true)) rfl (db_congr ?_)
      ((try simp only [deq_leaf, deq_agg, deqs_nil, deqs_cons, veq_int, veq_bool, veq_str] at q1 ⊢); grind)
/- 108 slices.EqualFunc[[]langdoc/api.Entry,[]langdoc/api.Entry,langdoc/api.Entry,langdoc/api.Entry] -/
theorem h108 {a b : D} {g : Nat} (h_a : HasSh (.sl 69 8 (.st [.int .i64, .sl 3 1 (.int .i64), .int .i64, .sl 31 1 (.sl 3 1 (.int .i64)), .int .i64, .sl 92 2 (.st [.str, .str]), .sl 94 2 (.st [.int .i64, .int .i64]), .sl 74 2 (.st [.int .i64, .int .i64])])) a) (h_b : HasSh (.sl 69 8 (.st [.int .i64, .sl 3 1 (.int .i64), .int .i64, .sl 31 1 (.sl 3 1 (.int .i64)), .int .i64, .sl 92 2 (.st [.str, .str]), .sl 94 2 (.st [.int .i64, .int .i64]), .sl 74 2 (.st [.int .i64, .int .i64])])) b) (hp : ∀ x y, HasSh (.st [.int .i64, .sl 3 1 (.int .i64), .int .i64, .sl 31 1 (.sl 3 1 (.int .i64)), .int .i64, .sl 92 2 (.st [.str, .str]), .sl 94 2 (.st [.int .i64, .int .i64]), .sl 74 2 (.st [.int .i64, .int .i64])]) x → HasSh (.st [.int .i64, .sl 3 1 (.int .i64), .int .i64, .sl 31 1 (.sl 3 1 (.int .i64)), .int .i64, .sl 92 2 (.st [.str, .str]), .sl 94 2 (.st [.int .i64, .int .i64]), .sl 74 2 (.st [.int .i64, .int .i64])]) y → Holds EE g [x, y] (dB (deq x y))) : Holds EE 108 [a, b, .clo (.func g) [] []] (dB (deq a b)) := by
  refine u108 rfl (Goes.step' ?_)
  have i_a := isSl_of h_a
  have i_b := isSl_of h_b
  show wp _ _ _ u108T0 _
  refine wp_bindE (ρ' := [_, _, _, dI ((a.es.length : Nat) : Int)]) (sh_len i_a) rfl rfl ?_
  refine wp_bindE (ρ' := [_, _, _, _, dI ((b.es.length : Nat) : Int)]) (sh_len i_b) rfl rfl ?_
  refine wp_bindE (ρ' := [_, _, _, _, _, _]) sh_neq rfl rfl ?_
  refine wp_iteC rfl (fun c0 => ?_) (fun c0 => ?_)
  · have q0 := deq_len i_a i_b (len_ne c0)
    refine wp_retTo (d' := dB (false)) rfl (db_congr ?_)
    ((try simp only [deq_leaf, deq_agg, deqs_nil, deqs_cons, veq_int, veq_bool, veq_str] at q0 ⊢); grind)
  · have l_a_b := len_of c0
    refine wp_bindE (ρ' := [_, _, _, _, _, _, dI ((a.es.length : Nat) : Int)]) (sh_len i_a) rfl rfl ?_
    refine wp_jumpTo rfl ?_
    refine loop_eq2 (ρ := fun i1 => [b, (.clo (.func g) [] []), a, dI ((a.es.length : Nat) : Int), dI ((i1 : Nat) : Int)]) i_a i_b l_a_b (fun q1 => ?_) ?_ (fun q1 => ?_)
    · ((try simp only [deq_leaf, deq_agg, deqs_nil, deqs_cons, veq_int, veq_bool, veq_str] at q1 ⊢); grind)
    · intro i1 x1 y1 e_x1 e_y1 hi1 hj1
      obtain ⟨_, rfl, _, _, rfl, ⟨x1_0, rfl⟩, x1_1, _, rfl, h_x1_1, _, _, rfl, ⟨x1_2, rfl⟩, x1_3, _, rfl, h_x1_3, _, _, rfl, ⟨x1_4, rfl⟩, x1_5, _, rfl, h_x1_5, x1_6, _, rfl, h_x1_6, x1_7, _, rfl, h_x1_7, rfl⟩ := elem_of h_a e_x1
      have i_x1_1 := isSl_of h_x1_1
      have i_x1_3 := isSl_of h_x1_3
      have i_x1_5 := isSl_of h_x1_5
      have i_x1_6 := isSl_of h_x1_6
      have i_x1_7 := isSl_of h_x1_7
      obtain ⟨_, rfl, _, _, rfl, ⟨y1_0, rfl⟩, y1_1, _, rfl, h_y1_1, _, _, rfl, ⟨y1_2, rfl⟩, y1_3, _, rfl, h_y1_3, _, _, rfl, ⟨y1_4, rfl⟩, y1_5, _, rfl, h_y1_5, y1_6, _, rfl, h_y1_6, y1_7, _, rfl, h_y1_7, rfl⟩ := elem_of h_b e_y1
      have i_y1_1 := isSl_of h_y1_1
      have i_y1_3 := isSl_of h_y1_3
      have i_y1_5 := isSl_of h_y1_5
      have i_y1_6 := isSl_of h_y1_6
      have i_y1_7 := isSl_of h_y1_7
      show wp _ _ _ u108T1 _
      refine wp_bindE (ρ' := [_, _, _, _, _, _]) sh_lss rfl rfl ?_
      refine wp_iteB rfl ?_
      rw [lt_true (show i1 < a.es.length by omega)]
      refine ite_t ?_
      refine wp_bindE (ρ' := [_, _, _, _, _, _, dB (true)]) (sh_inr e_x1) rfl rfl ?_
      refine wp_bindE (ρ' := [_, _, _, _, _, _, _, .agg [dI x1_0, x1_1, dI x1_2, x1_3, dI x1_4, x1_5, x1_6, x1_7]]) (sh_elemW i_a e_x1 rfl) rfl rfl ?_
      refine wp_bindE (ρ' := [_, _, _, _, _, _, _, _, .agg [dI x1_0, x1_1, dI x1_2, x1_3, dI x1_4, x1_5, x1_6, x1_7]]) (sh_chkW rfl) rfl rfl ?_
      refine wp_bindE (ρ' := [_, _, _, _, _, _, _, _, _, dB (true)]) (sh_inr e_y1) rfl rfl ?_
      refine wp_bindE (ρ' := [_, _, _, _, _, _, _, _, _, _, .agg [dI y1_0, y1_1, dI y1_2, y1_3, dI y1_4, y1_5, y1_6, y1_7]]) (sh_elemW i_b e_y1 rfl) rfl rfl ?_
      refine wp_bindE (ρ' := [_, _, _, _, _, _, _, _, _, _, _, .agg [dI y1_0, y1_1, dI y1_2, y1_3, dI y1_4, y1_5, y1_6, y1_7]]) (sh_chkW rfl) rfl rfl ?_
      refine wp_callE (ρ' := [_, _, _, _, _, _, _, _, _, _, _, _, dB (deq (.agg [dI x1_0, x1_1, dI x1_2, x1_3, dI x1_4, x1_5, x1_6, x1_7]) (.agg [dI y1_0, y1_1, dI y1_2, y1_3, dI y1_4, y1_5, y1_6, y1_7]))]) (hp _ _ (sh_st (shs_cons sh_int (shs_cons h_x1_1 (shs_cons sh_int (shs_cons h_x1_3 (shs_cons sh_int (shs_cons h_x1_5 (shs_cons h_x1_6 (shs_cons h_x1_7 shs_nil))))))))) (sh_st (shs_cons sh_int (shs_cons h_y1_1 (shs_cons sh_int (shs_cons h_y1_3 (shs_cons sh_int (shs_cons h_y1_5 (shs_cons h_y1_6 (shs_cons h_y1_7 shs_nil)))))))))) rfl rfl rfl rfl ?_
      refine wp_bindE (ρ' := [_, _, _, _, _, _, _, _, _, _, _, _, _, dB (!(deq (.agg [dI x1_0, x1_1, dI x1_2, x1_3, dI x1_4, x1_5, x1_6, x1_7]) (.agg [dI y1_0, y1_1, dI y1_2, y1_3, dI y1_4, y1_5, y1_6, y1_7])))]) sh_not rfl rfl ?_
      refine wp_iteC rfl (fun c2 => ?_) (fun c2 => ?_)
      · skip
        refine wp_retR rfl ?_
        clear hi1 hj1; ((try simp only [deq_leaf, deq_agg, deqs_nil, deqs_cons, veq_int] at c2 ⊢); grind)
      · skip
        refine wp_bindE (ρ' := [_, _, _, _, _, _, _, _, _, _, _, _, _, _, dI ((i1 + 1 : Nat) : Int)]) (sh_add hj1) rfl rfl ?_
        refine wp_jumpR rfl ?_
        clear hi1 hj1; ((try simp only [deq_leaf, deq_agg, deqs_nil, deqs_cons, veq_int] at c2 ⊢); grind)
    · show wp _ _ _ u108T1 _
      refine wp_bindE (ρ' := [_, _, _, _, _, _]) sh_lss rfl rfl ?_
      refine wp_iteB rfl ?_
      rw [lt_false]
      refine ite_f ?_
      refine wp_retTo (d' := dB (true)) rfl (db_congr ?_)
      ((try simp only [deq_leaf, deq_agg, deqs_nil, deqs_cons, veq_int, veq_bool, veq_str] at q1 ⊢); grind)
/- 60 slices.Equal[[]langdoc/api.Ref,langdoc/api.Ref] -/
theorem h60 {a b : D} (h_a : HasSh (.sl 74 2 (.st [.int .i64, .int .i64])) a) (h_b : HasSh (.sl 74 2 (.st [.int .i64, .int .i64])) b) : Holds EE 60 [a, b] (dB (deq a b)) := by
  refine u60 rfl (Goes.step' ?_)
  have i_a := isSl_of h_a
  have i_b := isSl_of h_b
  show wp _ _ _ u60T0 _
  refine wp_bindE (ρ' := [_, _, dI ((a.es.length : Nat) : Int)]) (sh_len i_a) rfl rfl ?_
  refine wp_bindE (ρ' := [_, _, _, dI ((b.es.length : Nat) : Int)]) (sh_len i_b) rfl rfl ?_
  refine wp_bindE (ρ' := [_, _, _, _, _]) sh_neq rfl rfl ?_
  refine wp_iteC rfl (fun c0 => ?_) (fun c0 => ?_)
  · have q0 := deq_len i_a i_b (len_ne c0)
    refine wp_retTo (d' := dB (false)) rfl (db_congr ?_)
    ((try simp only [deq_leaf, deq_agg, deqs_nil, deqs_cons, veq_int, veq_bool, veq_str] at q0 ⊢); grind)
  · have l_a_b := len_of c0
    refine wp_bindE (ρ' := [_, _, _, _, _, dI ((a.es.length : Nat) : Int)]) (sh_len i_a) rfl rfl ?_
    refine wp_jumpTo rfl ?_
    refine loop_eq2 (ρ := fun i1 => [a, b, dI ((a.es.length : Nat) : Int), dI ((i1 : Nat) : Int)]) i_a i_b l_a_b (fun q1 => ?_) ?_ (fun q1 => ?_)
    · ((try simp only [deq_leaf, deq_agg, deqs_nil, deqs_cons, veq_int, veq_bool, veq_str] at q1 ⊢); grind)
    · intro i1 x1 y1 e_x1 e_y1 hi1 hj1
      obtain ⟨_, rfl, _, _, rfl, ⟨x1_0, rfl⟩, _, _, rfl, ⟨x1_1, rfl⟩, rfl⟩ := elem_of h_a e_x1
      obtain ⟨_, rfl, _, _, rfl, ⟨y1_0, rfl⟩, _, _, rfl, ⟨y1_1, rfl⟩, rfl⟩ := elem_of h_b e_y1
      show wp _ _ _ u60T1 _
      refine wp_bindE (ρ' := [_, _, _, _, _]) sh_lss rfl rfl ?_
      refine wp_iteB rfl ?_
      rw [lt_true (show i1 < a.es.length by omega)]
      refine ite_t ?_
      refine wp_bindE (ρ' := [_, _, _, _, _, dB (true)]) (sh_inr e_x1) rfl rfl ?_
      refine wp_bindE (ρ' := [_, _, _, _, _, _, .agg [dI x1_0, dI x1_1]]) (sh_elemW i_a e_x1 rfl) rfl rfl ?_
      refine wp_bindE (ρ' := [_, _, _, _, _, _, _, dB (true)]) (sh_inr e_y1) rfl rfl ?_
      refine wp_bindE (ρ' := [_, _, _, _, _, _, _, _, .agg [dI y1_0, dI y1_1]]) (sh_elemW i_b e_y1 rfl) rfl rfl ?_
      refine wp_bindE (ρ' := [_, _, _, _, _, _, _, _, _, dB (!(deqs [dI x1_0, dI x1_1] [dI y1_0, dI y1_1]))]) (sh_cmpS .neq (.inl rfl) ty74 st74 le4 gu74 rfl (shs_cons sh_int (shs_cons sh_int shs_nil)) (shs_cons sh_int (shs_cons sh_int shs_nil))) rfl rfl ?_
      refine wp_iteC rfl (fun c2 => ?_) (fun c2 => ?_)
      · skip
        refine wp_retR rfl ?_
        clear hi1 hj1; ((try simp only [deq_leaf, deq_agg, deqs_nil, deqs_cons, veq_int] at c2 ⊢); grind)
      · skip
        refine wp_bindE (ρ' := [_, _, _, _, _, _, _, _, _, _, dI ((i1 + 1 : Nat) : Int)]) (sh_add hj1) rfl rfl ?_
        refine wp_jumpR rfl ?_
        clear hi1 hj1; ((try simp only [deq_leaf, deq_agg, deqs_nil, deqs_cons, veq_int] at c2 ⊢); grind)
    · show wp _ _ _ u60T1 _
      refine wp_bindE (ρ' := [_, _, _, _, _]) sh_lss rfl rfl ?_
      refine wp_iteB rfl ?_
      rw [lt_false]
      refine ite_f ?_
      refine wp_retTo (d' := dB (true)) rfl (db_congr ?_)
      ((try simp only [deq_leaf, deq_agg, deqs_nil, deqs_cons, veq_int, veq_bool, veq_str] at q1 ⊢); grind)
/- 153 slices.EqualFunc[[][]int,[][]int,[]int,[]int] -/
theorem h153 {a b : D} {g : Nat} (h_a : HasSh (.sl 31 1 (.sl 3 1 (.int .i64))) a) (h_b : HasSh (.sl 31 1 (.sl 3 1 (.int .i64))) b) (hp : ∀ x y, HasSh (.sl 3 1 (.int .i64)) x → HasSh (.sl 3 1 (.int .i64)) y → Holds EE g [x, y] (dB (deq x y))) : Holds EE 153 [a, b, .clo (.func g) [] []] (dB (deq a b)) := by
  refine u153 rfl (Goes.step' ?_)
  have i_a := isSl_of h_a
  have i_b := isSl_of h_b
  show wp _ _ _ u153T0 _
  refine wp_bindE (ρ' := [_, _, _, dI ((a.es.length : Nat) : Int)]) (sh_len i_a) rfl rfl ?_
  refine wp_bindE (ρ' := [_, _, _, _, dI ((b.es.length : Nat) : Int)]) (sh_len i_b) rfl rfl ?_
  refine wp_bindE (ρ' := [_, _, _, _, _, _]) sh_neq rfl rfl ?_
  refine wp_iteC rfl (fun c0 => ?_) (fun c0 => ?_)
  · have q0 := deq_len i_a i_b (len_ne c0)
    refine wp_retTo (d' := dB (false)) rfl (db_congr ?_)
    ((try simp only [deq_leaf, deq_agg, deqs_nil, deqs_cons, veq_int, veq_bool, veq_str] at q0 ⊢); grind)
  · have l_a_b := len_of c0
    refine wp_bindE (ρ' := [_, _, _, _, _, _, dI ((a.es.length : Nat) : Int)]) (sh_len i_a) rfl rfl ?_
    refine wp_jumpTo rfl ?_
    refine loop_eq2 (ρ := fun i1 => [b, (.clo (.func g) [] []), a, dI ((a.es.length : Nat) : Int), dI ((i1 : Nat) : Int)]) i_a i_b l_a_b (fun q1 => ?_) ?_ (fun q1 => ?_)
    · ((try simp only [deq_leaf, deq_agg, deqs_nil, deqs_cons, veq_int, veq_bool, veq_str] at q1 ⊢); grind)
    · intro i1 x1 y1 e_x1 e_y1 hi1 hj1
      have h_x1 := elem_of h_a e_x1
      have i_x1 := isSl_of h_x1
      have h_y1 := elem_of h_b e_y1
      have i_y1 := isSl_of h_y1
      show wp _ _ _ u153T1 _
      refine wp_bindE (ρ' := [_, _, _, _, _, _]) sh_lss rfl rfl ?_
      refine wp_iteB rfl ?_
      rw [lt_true (show i1 < a.es.length by omega)]
      refine ite_t ?_
      refine wp_bindE (ρ' := [_, _, _, _, _, _, dB (true)]) (sh_inr e_x1) rfl rfl ?_
      refine wp_bindE (ρ' := [_, _, _, _, _, _, _, x1]) (sh_elem1 i_a e_x1 i_x1.one) rfl rfl ?_
      refine wp_bindE (ρ' := [_, _, _, _, _, _, _, _, dB (true)]) (sh_inr e_y1) rfl rfl ?_
      refine wp_bindE (ρ' := [_, _, _, _, _, _, _, _, _, y1]) (sh_elem1 i_b e_y1 i_y1.one) rfl rfl ?_
      refine wp_callE (ρ' := [_, _, _, _, _, _, _, _, _, _, dB (deq (x1) (y1))]) (hp _ _ h_x1 h_y1) rfl rfl rfl rfl ?_
      refine wp_bindE (ρ' := [_, _, _, _, _, _, _, _, _, _, _, dB (!(deq (x1) (y1)))]) sh_not rfl rfl ?_
      refine wp_iteC rfl (fun c2 => ?_) (fun c2 => ?_)
      · skip
        refine wp_retR rfl ?_
        clear hi1 hj1; ((try simp only [deq_leaf, deq_agg, deqs_nil, deqs_cons, veq_int, veq_bool, veq_str] at c2 ⊢); grind)
      · skip
        refine wp_bindE (ρ' := [_, _, _, _, _, _, _, _, _, _, _, _, dI ((i1 + 1 : Nat) : Int)]) (sh_add hj1) rfl rfl ?_
        refine wp_jumpR rfl ?_
        clear hi1 hj1; ((try simp only [deq_leaf, deq_agg, deqs_nil, deqs_cons, veq_int, veq_bool, veq_str] at c2 ⊢); grind)
    · show wp _ _ _ u153T1 _
      refine wp_bindE (ρ' := [_, _, _, _, _, _]) sh_lss rfl rfl ?_
      refine wp_iteB rfl ?_
      rw [lt_false]
      refine ite_f ?_
      refine wp_retTo (d' := dB (true)) rfl (db_congr ?_)
      ((try simp only [deq_leaf, deq_agg, deqs_nil, deqs_cons, veq_int, veq_bool, veq_str] at q1 ⊢); grind)
/- 154 slices.Equal[[]langdoc/api.Sense,langdoc/api.Sense] -/
theorem h154 {a b : D} (h_a : HasSh (.sl 92 2 (.st [.str, .str])) a) (h_b : HasSh (.sl 92 2 (.st [.str, .str])) b) : Holds EE 154 [a, b] (dB (deq a b)) := by
  refine u154 rfl (Goes.step' ?_)
  have i_a := isSl_of h_a
  have i_b := isSl_of h_b
  show wp _ _ _ u154T0 _
  refine wp_bindE (ρ' := [_, _, dI ((a.es.length : Nat) : Int)]) (sh_len i_a) rfl rfl ?_
  refine wp_bindE (ρ' := [_, _, _, dI ((b.es.length : Nat) : Int)]) (sh_len i_b) rfl rfl ?_
  refine wp_bindE (ρ' := [_, _, _, _, _]) sh_neq rfl rfl ?_
  refine wp_iteC rfl (fun c0 => ?_) (fun c0 => ?_)
  · have q0 := deq_len i_a i_b (len_ne c0)
    refine wp_retTo (d' := dB (false)) rfl (db_congr ?_)
    ((try simp only [deq_leaf, deq_agg, deqs_nil, deqs_cons, veq_int, veq_bool, veq_str] at q0 ⊢); grind)
  · have l_a_b := len_of c0
    refine wp_bindE (ρ' := [_, _, _, _, _, dI ((a.es.length : Nat) : Int)]) (sh_len i_a) rfl rfl ?_
    refine wp_jumpTo rfl ?_
    refine loop_eq2 (ρ := fun i1 => [a, b, dI ((a.es.length : Nat) : Int), dI ((i1 : Nat) : Int)]) i_a i_b l_a_b (fun q1 => ?_) ?_ (fun q1 => ?_)
    · ((try simp only [deq_leaf, deq_agg, deqs_nil, deqs_cons, veq_int, veq_bool, veq_str] at q1 ⊢); grind)
    · intro i1 x1 y1 e_x1 e_y1 hi1 hj1
      obtain ⟨_, rfl, _, _, rfl, ⟨x1_0, rfl⟩, _, _, rfl, ⟨x1_1, rfl⟩, rfl⟩ := elem_of h_a e_x1
      obtain ⟨_, rfl, _, _, rfl, ⟨y1_0, rfl⟩, _, _, rfl, ⟨y1_1, rfl⟩, rfl⟩ := elem_of h_b e_y1
      show wp _ _ _ u154T1 _
      refine wp_bindE (ρ' := [_, _, _, _, _]) sh_lss rfl rfl ?_
      refine wp_iteB rfl ?_
      rw [lt_true (show i1 < a.es.length by omega)]
      refine ite_t ?_
      refine wp_bindE (ρ' := [_, _, _, _, _, dB (true)]) (sh_inr e_x1) rfl rfl ?_
      refine wp_bindE (ρ' := [_, _, _, _, _, _, .agg [.leaf (.string x1_0), .leaf (.string x1_1)]]) (sh_elemW i_a e_x1 rfl) rfl rfl ?_
      refine wp_bindE (ρ' := [_, _, _, _, _, _, _, dB (true)]) (sh_inr e_y1) rfl rfl ?_
      refine wp_bindE (ρ' := [_, _, _, _, _, _, _, _, .agg [.leaf (.string y1_0), .leaf (.string y1_1)]]) (sh_elemW i_b e_y1 rfl) rfl rfl ?_
      refine wp_bindE (ρ' := [_, _, _, _, _, _, _, _, _, dB (!(deqs [.leaf (.string x1_0), .leaf (.string x1_1)] [.leaf (.string y1_0), .leaf (.string y1_1)]))]) (sh_cmpS .neq (.inl rfl) ty92 st92 le4 gu92 rfl (shs_cons sh_str (shs_cons sh_str shs_nil)) (shs_cons sh_str (shs_cons sh_str shs_nil))) rfl rfl ?_
      refine wp_iteC rfl (fun c2 => ?_) (fun c2 => ?_)
      · skip
        refine wp_retR rfl ?_
        clear hi1 hj1; ((try simp only [deq_leaf, deq_agg, deqs_nil, deqs_cons, veq_str] at c2 ⊢); grind)
      · skip
        refine wp_bindE (ρ' := [_, _, _, _, _, _, _, _, _, _, dI ((i1 + 1 : Nat) : Int)]) (sh_add hj1) rfl rfl ?_
        refine wp_jumpR rfl ?_
        clear hi1 hj1; ((try simp only [deq_leaf, deq_agg, deqs_nil, deqs_cons, veq_str] at c2 ⊢); grind)
    · show wp _ _ _ u154T1 _
      refine wp_bindE (ρ' := [_, _, _, _, _]) sh_lss rfl rfl ?_
      refine wp_iteB rfl ?_
      rw [lt_false]
      refine ite_f ?_
      refine wp_retTo (d' := dB (true)) rfl (db_congr ?_)
      ((try simp only [deq_leaf, deq_agg, deqs_nil, deqs_cons, veq_int, veq_bool, veq_str] at q1 ⊢); grind)
/- 155 slices.Equal[[]langdoc/api.Link,langdoc/api.Link] -/
theorem h155 {a b : D} (h_a : HasSh (.sl 94 2 (.st [.int .i64, .int .i64])) a) (h_b : HasSh (.sl 94 2 (.st [.int .i64, .int .i64])) b) : Holds EE 155 [a, b] (dB (deq a b)) := by
  refine u155 rfl (Goes.step' ?_)
  have i_a := isSl_of h_a
  have i_b := isSl_of h_b
  show wp _ _ _ u155T0 _
  refine wp_bindE (ρ' := [_, _, dI ((a.es.length : Nat) : Int)]) (sh_len i_a) rfl rfl ?_
  refine wp_bindE (ρ' := [_, _, _, dI ((b.es.length : Nat) : Int)]) (sh_len i_b) rfl rfl ?_
  refine wp_bindE (ρ' := [_, _, _, _, _]) sh_neq rfl rfl ?_
  refine wp_iteC rfl (fun c0 => ?_) (fun c0 => ?_)
  · have q0 := deq_len i_a i_b (len_ne c0)
    refine wp_retTo (d' := dB (false)) rfl (db_congr ?_)
    ((try simp only [deq_leaf, deq_agg, deqs_nil, deqs_cons, veq_int, veq_bool, veq_str] at q0 ⊢); grind)
  · have l_a_b := len_of c0
    refine wp_bindE (ρ' := [_, _, _, _, _, dI ((a.es.length : Nat) : Int)]) (sh_len i_a) rfl rfl ?_
    refine wp_jumpTo rfl ?_
    refine loop_eq2 (ρ := fun i1 => [a, b, dI ((a.es.length : Nat) : Int), dI ((i1 : Nat) : Int)]) i_a i_b l_a_b (fun q1 => ?_) ?_ (fun q1 => ?_)
    · ((try simp only [deq_leaf, deq_agg, deqs_nil, deqs_cons, veq_int, veq_bool, veq_str] at q1 ⊢); grind)
    · intro i1 x1 y1 e_x1 e_y1 hi1 hj1
      obtain ⟨_, rfl, _, _, rfl, ⟨x1_0, rfl⟩, _, _, rfl, ⟨x1_1, rfl⟩, rfl⟩ := elem_of h_a e_x1
      obtain ⟨_, rfl, _, _, rfl, ⟨y1_0, rfl⟩, _, _, rfl, ⟨y1_1, rfl⟩, rfl⟩ := elem_of h_b e_y1
      show wp _ _ _ u155T1 _
      refine wp_bindE (ρ' := [_, _, _, _, _]) sh_lss rfl rfl ?_
      refine wp_iteB rfl ?_
      rw [lt_true (show i1 < a.es.length by omega)]
      refine ite_t ?_
      refine wp_bindE (ρ' := [_, _, _, _, _, dB (true)]) (sh_inr e_x1) rfl rfl ?_
      refine wp_bindE (ρ' := [_, _, _, _, _, _, .agg [dI x1_0, dI x1_1]]) (sh_elemW i_a e_x1 rfl) rfl rfl ?_
      refine wp_bindE (ρ' := [_, _, _, _, _, _, _, dB (true)]) (sh_inr e_y1) rfl rfl ?_
      refine wp_bindE (ρ' := [_, _, _, _, _, _, _, _, .agg [dI y1_0, dI y1_1]]) (sh_elemW i_b e_y1 rfl) rfl rfl ?_
      refine wp_bindE (ρ' := [_, _, _, _, _, _, _, _, _, dB (!(deqs [dI x1_0, dI x1_1] [dI y1_0, dI y1_1]))]) (sh_cmpS .neq (.inl rfl) ty94 st94 le4 gu94 rfl (shs_cons sh_int (shs_cons sh_int shs_nil)) (shs_cons sh_int (shs_cons sh_int shs_nil))) rfl rfl ?_
      refine wp_iteC rfl (fun c2 => ?_) (fun c2 => ?_)
      · skip
        refine wp_retR rfl ?_
        clear hi1 hj1; ((try simp only [deq_leaf, deq_agg, deqs_nil, deqs_cons, veq_int] at c2 ⊢); grind)
      · skip
        refine wp_bindE (ρ' := [_, _, _, _, _, _, _, _, _, _, dI ((i1 + 1 : Nat) : Int)]) (sh_add hj1) rfl rfl ?_
        refine wp_jumpR rfl ?_
        clear hi1 hj1; ((try simp only [deq_leaf, deq_agg, deqs_nil, deqs_cons, veq_int] at c2 ⊢); grind)
    · show wp _ _ _ u155T1 _
      refine wp_bindE (ρ' := [_, _, _, _, _]) sh_lss rfl rfl ?_
      refine wp_iteB rfl ?_
      rw [lt_false]
      refine ite_f ?_
      refine wp_retTo (d' := dB (true)) rfl (db_congr ?_)
      ((try simp only [deq_leaf, deq_agg, deqs_nil, deqs_cons, veq_int, veq_bool, veq_str] at q1 ⊢); grind)
/- 109 langdoc/entry.Same -/
theorem h109 {a b : D} (h_a : HasSh (.st [.int .i64, .sl 3 1 (.int .i64), .int .i64, .sl 31 1 (.sl 3 1 (.int .i64)), .int .i64, .sl 92 2 (.st [.str, .str]), .sl 94 2 (.st [.int .i64, .int .i64]), .sl 74 2 (.st [.int .i64, .int .i64])]) a) (h_b : HasSh (.st [.int .i64, .sl 3 1 (.int .i64), .int .i64, .sl 31 1 (.sl 3 1 (.int .i64)), .int .i64, .sl 92 2 (.st [.str, .str]), .sl 94 2 (.st [.int .i64, .int .i64]), .sl 74 2 (.st [.int .i64, .int .i64])]) b) : Holds EE 109 [a, b] (dB (deq a b)) := by
  refine u109 rfl (Goes.step' ?_)
  obtain ⟨_, rfl, _, _, rfl, ⟨a_0, rfl⟩, a_1, _, rfl, h_a_1, _, _, rfl, ⟨a_2, rfl⟩, a_3, _, rfl, h_a_3, _, _, rfl, ⟨a_4, rfl⟩, a_5, _, rfl, h_a_5, a_6, _, rfl, h_a_6, a_7, _, rfl, h_a_7, rfl⟩ := h_a
  have i_a_1 := isSl_of h_a_1
  have i_a_3 := isSl_of h_a_3
  have i_a_5 := isSl_of h_a_5
  have i_a_6 := isSl_of h_a_6
  have i_a_7 := isSl_of h_a_7
  obtain ⟨_, rfl, _, _, rfl, ⟨b_0, rfl⟩, b_1, _, rfl, h_b_1, _, _, rfl, ⟨b_2, rfl⟩, b_3, _, rfl, h_b_3, _, _, rfl, ⟨b_4, rfl⟩, b_5, _, rfl, h_b_5, b_6, _, rfl, h_b_6, b_7, _, rfl, h_b_7, rfl⟩ := h_b
  have i_b_1 := isSl_of h_b_1
  have i_b_3 := isSl_of h_b_3
  have i_b_5 := isSl_of h_b_5
  have i_b_6 := isSl_of h_b_6
  have i_b_7 := isSl_of h_b_7
  show wp _ _ _ u109T0 _
  refine wp_bindE (ρ' := [_, _, .agg [dI a_0, a_1, dI a_2, a_3, dI a_4, a_5, a_6, a_7]]) (sh_chkW rfl) rfl rfl ?_
  refine wp_bindE (ρ' := [_, _, _, .agg [dI b_0, b_1, dI b_2, b_3, dI b_4, b_5, b_6, b_7]]) (sh_chkW rfl) rfl rfl ?_
  refine wp_bindE (ρ' := [_, _, _, _, dI a_0]) (sh_fld1 (off := 0) rfl rfl) rfl rfl ?_
  refine wp_bindE (ρ' := [_, _, _, _, _, dI b_0]) (sh_fld1 (off := 0) rfl rfl) rfl rfl ?_
  refine wp_bindE (ρ' := [_, _, _, _, _, _, dB (a_0 != b_0)]) sh_neq rfl rfl ?_
  refine wp_iteC rfl (fun c0 => ?_) (fun c0 => ?_)
  · skip
    refine wp_retTo (d' := dB (false)) rfl (db_congr ?_)
    ((try simp only [deq_leaf, deq_agg, deqs_nil, deqs_cons, veq_int] at c0 ⊢); grind)
  · skip
    refine wp_bindE (ρ' := [_, _, _, _, _, _, _, dI a_2]) (sh_fld1 (off := 2) rfl rfl) rfl rfl ?_
    refine wp_bindE (ρ' := [_, _, _, _, _, _, _, _, dI b_2]) (sh_fld1 (off := 2) rfl rfl) rfl rfl ?_
    refine wp_bindE (ρ' := [_, _, _, _, _, _, _, _, _, dB (a_2 != b_2)]) sh_neq rfl rfl ?_
    refine wp_iteC rfl (fun c1 => ?_) (fun c1 => ?_)
    · skip
      refine wp_retTo (d' := dB (false)) rfl (db_congr ?_)
      ((try simp only [deq_leaf, deq_agg, deqs_nil, deqs_cons, veq_int] at c1 c0 ⊢); grind)
    · skip
      refine wp_bindE (ρ' := [_, _, _, _, _, _, _, _, _, _, dI a_4]) (sh_fld1 (off := 4) rfl rfl) rfl rfl ?_
      refine wp_bindE (ρ' := [_, _, _, _, _, _, _, _, _, _, _, dI b_4]) (sh_fld1 (off := 4) rfl rfl) rfl rfl ?_
      refine wp_bindE (ρ' := [_, _, _, _, _, _, _, _, _, _, _, _, dB (a_4 != b_4)]) sh_neq rfl rfl ?_
      refine wp_iteC rfl (fun c2 => ?_) (fun c2 => ?_)
      · skip
        refine wp_retTo (d' := dB (false)) rfl (db_congr ?_)
        ((try simp only [deq_leaf, deq_agg, deqs_nil, deqs_cons, veq_int] at c2 c1 c0 ⊢); grind)
      · skip
        refine wp_bindE (ρ' := [_, _, _, _, _, _, _, _, _, _, _, _, _, a_1]) (sh_fld1 (off := 1) rfl i_a_1.one) rfl rfl ?_
        refine wp_bindE (ρ' := [_, _, _, _, _, _, _, _, _, _, _, _, _, _, b_1]) (sh_fld1 (off := 1) rfl i_b_1.one) rfl rfl ?_
        refine wp_callE (ρ' := [_, _, _, _, _, _, _, _, _, _, _, _, _, _, _, dB (deq (a_1) (b_1))]) (h45 h_a_1 h_b_1) rfl rfl rfl rfl ?_
        refine wp_bindE (ρ' := [_, _, _, _, _, _, _, _, _, _, _, _, _, _, _, _, dB (!(deq (a_1) (b_1)))]) sh_not rfl rfl ?_
        refine wp_iteC rfl (fun c3 => ?_) (fun c3 => ?_)
        · skip
          refine wp_retTo (d' := dB (false)) rfl (db_congr ?_)
          ((try simp only [deq_leaf, deq_agg, deqs_nil, deqs_cons, veq_int] at c3 c2 c1 c0 ⊢); grind)
        · skip
          refine wp_bindE (ρ' := [_, _, _, _, _, _, _, _, _, _, _, _, _, _, _, _, _, a_3]) (sh_fld1 (off := 3) rfl i_a_3.one) rfl rfl ?_
          refine wp_bindE (ρ' := [_, _, _, _, _, _, _, _, _, _, _, _, _, _, _, _, _, _, b_3]) (sh_fld1 (off := 3) rfl i_b_3.one) rfl rfl ?_
          refine wp_callE (ρ' := [_, _, _, _, _, _, _, _, _, _, _, _, _, _, _, _, _, _, _, dB (deq (a_3) (b_3))]) (h153 h_a_3 h_b_3 (fun x y hx hy => h45 hx hy)) rfl rfl rfl rfl ?_
          refine wp_iteC rfl (fun c4 => ?_) (fun c4 => ?_)
          · skip
            refine wp_bindE (ρ' := [_, _, _, _, _, _, _, _, _, _, _, _, _, _, _, _, _, _, _, _, a_5]) (sh_fld1 (off := 5) rfl i_a_5.one) rfl rfl ?_
            refine wp_bindE (ρ' := [_, _, _, _, _, _, _, _, _, _, _, _, _, _, _, _, _, _, _, _, _, b_5]) (sh_fld1 (off := 5) rfl i_b_5.one) rfl rfl ?_
            refine wp_callE (ρ' := [_, _, _, _, _, _, _, _, _, _, _, _, _, _, _, _, _, _, _, _, _, _, dB (deq (a_5) (b_5))]) (h154 h_a_5 h_b_5) rfl rfl rfl rfl ?_
            refine wp_iteC rfl (fun c5 => ?_) (fun c5 => ?_)
            · skip
              refine wp_bindE (ρ' := [_, _, _, _, _, _, _, _, _, _, _, _, _, _, _, _, _, _, _, _, _, _, _, a_6]) (sh_fld1 (off := 6) rfl i_a_6.one) rfl rfl ?_
              refine wp_bindE (ρ' := [_, _, _, _, _, _, _, _, _, _, _, _, _, _, _, _, _, _, _, _, _, _, _, _, b_6]) (sh_fld1 (off := 6) rfl i_b_6.one) rfl rfl ?_
              refine wp_callE (ρ' := [_, _, _, _, _, _, _, _, _, _, _, _, _, _, _, _, _, _, _, _, _, _, _, _, _, dB (deq (a_6) (b_6))]) (h155 h_a_6 h_b_6) rfl rfl rfl rfl ?_
              refine wp_iteC rfl (fun c6 => ?_) (fun c6 => ?_)
              · skip
                refine wp_bindE (ρ' := [_, _, _, _, _, _, _, _, _, _, _, _, _, _, _, _, _, _, _, _, _, _, _, _, _, _, a_7]) (sh_fld1 (off := 7) rfl i_a_7.one) rfl rfl ?_
                refine wp_bindE (ρ' := [_, _, _, _, _, _, _, _, _, _, _, _, _, _, _, _, _, _, _, _, _, _, _, _, _, _, _, b_7]) (sh_fld1 (off := 7) rfl i_b_7.one) rfl rfl ?_
                refine wp_callE (ρ' := [_, _, _, _, _, _, _, _, _, _, _, _, _, _, _, _, _, _, _, _, _, _, _, _, _, _, _, _, dB (deq (a_7) (b_7))]) (h60 h_a_7 h_b_7) rfl rfl rfl rfl ?_
                refine wp_retTo (d' := dB (deq (a_7) (b_7))) rfl (db_congr ?_)
                ((try simp only [deq_leaf, deq_agg, deqs_nil, deqs_cons, veq_int] at c6 c5 c4 c3 c2 c1 c0 ⊢); grind)
              · skip
                refine wp_retTo (d' := dB (false)) rfl (db_congr ?_)
                ((try simp only [deq_leaf, deq_agg, deqs_nil, deqs_cons, veq_int] at c6 c5 c4 c3 c2 c1 c0 ⊢); grind)
            · skip
              refine wp_retTo (d' := dB (false)) rfl (db_congr ?_)
              ((try simp only [deq_leaf, deq_agg, deqs_nil, deqs_cons, veq_int] at c5 c4 c3 c2 c1 c0 ⊢); grind)
          · skip
            refine wp_retTo (d' := dB (false)) rfl (db_congr ?_)
            ((try simp only [deq_leaf, deq_agg, deqs_nil, deqs_cons, veq_int] at c4 c3 c2 c1 c0 ⊢); grind)
/- 54 langdoc/lexicon.Same -/
theorem h54 {a b : D} (h_a : HasSh (.sl 69 8 (.st [.int .i64, .sl 3 1 (.int .i64), .int .i64, .sl 31 1 (.sl 3 1 (.int .i64)), .int .i64, .sl 92 2 (.st [.str, .str]), .sl 94 2 (.st [.int .i64, .int .i64]), .sl 74 2 (.st [.int .i64, .int .i64])])) a) (h_b : HasSh (.sl 69 8 (.st [.int .i64, .sl 3 1 (.int .i64), .int .i64, .sl 31 1 (.sl 3 1 (.int .i64)), .int .i64, .sl 92 2 (.st [.str, .str]), .sl 94 2 (.st [.int .i64, .int .i64]), .sl 74 2 (.st [.int .i64, .int .i64])])) b) : Holds EE 54 [a, b] (dB (deq a b)) := by
  refine u54 rfl (Goes.step' ?_)
  have i_a := isSl_of h_a
  have i_b := isSl_of h_b
  show wp _ _ _ u54T0 _
  refine wp_callE (ρ' := [_, _, dB (deq (a) (b))]) (h108 h_a h_b (fun x y hx hy => h109 hx hy)) rfl rfl rfl rfl ?_
  refine wp_retTo (d' := dB (deq (a) (b))) rfl (db_congr ?_)
  (first | rfl | ((try simp only [deq_leaf, deq_agg, deqs_nil, deqs_cons, veq_int, veq_bool, veq_str]); first | rfl | grind))
/- 14 langdoc/withdraw.sameLang -/
theorem h14 {a b : D} (h_a : HasSh (.st [.sl 86 2 (.st [.str, .int .i64]), .str, .sl 88 2 (.st [.str, .sl 3 1 (.int .i64)]), .sl 143 1 (.sl 9 1 (.str)), .sl 136 6 (.st [.sl 3 1 (.int .i64), .sl 3 1 (.int .i64), .sl 139 2 (.st [.int .i64, .int .i64]), .sl 139 2 (.st [.int .i64, .int .i64]), .bool, .bool]), .int .i64, .sl 90 3 (.st [.int .i64, .int .i64, .int .i64]), .sl 3 1 (.int .i64), .sl 69 8 (.st [.int .i64, .sl 3 1 (.int .i64), .int .i64, .sl 31 1 (.sl 3 1 (.int .i64)), .int .i64, .sl 92 2 (.st [.str, .str]), .sl 94 2 (.st [.int .i64, .int .i64]), .sl 74 2 (.st [.int .i64, .int .i64])])]) a) (h_b : HasSh (.st [.sl 86 2 (.st [.str, .int .i64]), .str, .sl 88 2 (.st [.str, .sl 3 1 (.int .i64)]), .sl 143 1 (.sl 9 1 (.str)), .sl 136 6 (.st [.sl 3 1 (.int .i64), .sl 3 1 (.int .i64), .sl 139 2 (.st [.int .i64, .int .i64]), .sl 139 2 (.st [.int .i64, .int .i64]), .bool, .bool]), .int .i64, .sl 90 3 (.st [.int .i64, .int .i64, .int .i64]), .sl 3 1 (.int .i64), .sl 69 8 (.st [.int .i64, .sl 3 1 (.int .i64), .int .i64, .sl 31 1 (.sl 3 1 (.int .i64)), .int .i64, .sl 92 2 (.st [.str, .str]), .sl 94 2 (.st [.int .i64, .int .i64]), .sl 74 2 (.st [.int .i64, .int .i64])])]) b) : Holds EE 14 [a, b] (dB (deq a b)) := by
  refine u14 rfl (Goes.step' ?_)
  obtain ⟨_, rfl, a_0, _, rfl, h_a_0, _, _, rfl, ⟨a_1, rfl⟩, a_2, _, rfl, h_a_2, a_3, _, rfl, h_a_3, a_4, _, rfl, h_a_4, _, _, rfl, ⟨a_5, rfl⟩, a_6, _, rfl, h_a_6, a_7, _, rfl, h_a_7, a_8, _, rfl, h_a_8, rfl⟩ := h_a
  have i_a_0 := isSl_of h_a_0
  have i_a_2 := isSl_of h_a_2
  have i_a_3 := isSl_of h_a_3
  have i_a_4 := isSl_of h_a_4
  have i_a_6 := isSl_of h_a_6
  have i_a_7 := isSl_of h_a_7
  have i_a_8 := isSl_of h_a_8
  obtain ⟨_, rfl, b_0, _, rfl, h_b_0, _, _, rfl, ⟨b_1, rfl⟩, b_2, _, rfl, h_b_2, b_3, _, rfl, h_b_3, b_4, _, rfl, h_b_4, _, _, rfl, ⟨b_5, rfl⟩, b_6, _, rfl, h_b_6, b_7, _, rfl, h_b_7, b_8, _, rfl, h_b_8, rfl⟩ := h_b
  have i_b_0 := isSl_of h_b_0
  have i_b_2 := isSl_of h_b_2
  have i_b_3 := isSl_of h_b_3
  have i_b_4 := isSl_of h_b_4
  have i_b_6 := isSl_of h_b_6
  have i_b_7 := isSl_of h_b_7
  have i_b_8 := isSl_of h_b_8
  show wp _ _ _ u14T0 _
  refine wp_bindE (ρ' := [_, _, .agg [a_0, .leaf (.string a_1), a_2, a_3, a_4, dI a_5, a_6, a_7, a_8]]) (sh_chkW rfl) rfl rfl ?_
  refine wp_bindE (ρ' := [_, _, _, .agg [b_0, .leaf (.string b_1), b_2, b_3, b_4, dI b_5, b_6, b_7, b_8]]) (sh_chkW rfl) rfl rfl ?_
  refine wp_bindE (ρ' := [_, _, _, _, .leaf (.string a_1)]) (sh_fld1 (off := 1) rfl rfl) rfl rfl ?_
  refine wp_bindE (ρ' := [_, _, _, _, _, .leaf (.string b_1)]) (sh_fld1 (off := 1) rfl rfl) rfl rfl ?_
  refine wp_bindE (ρ' := [_, _, _, _, _, _, dB (!(a_1 == b_1))]) sh_strN rfl rfl ?_
  refine wp_iteC rfl (fun c0 => ?_) (fun c0 => ?_)
  · skip
    refine wp_retTo (d' := dB (false)) rfl (db_congr ?_)
    ((try simp only [deq_leaf, deq_agg, deqs_nil, deqs_cons, veq_int, veq_str] at c0 ⊢); grind)
  · skip
    refine wp_bindE (ρ' := [_, _, _, _, _, _, _, a_2]) (sh_fld1 (off := 2) rfl i_a_2.one) rfl rfl ?_
    refine wp_bindE (ρ' := [_, _, _, _, _, _, _, _, b_2]) (sh_fld1 (off := 2) rfl i_b_2.one) rfl rfl ?_
    refine wp_callE (ρ' := [_, _, _, _, _, _, _, _, _, dB (deq (a_2) (b_2))]) (h48 h_a_2 h_b_2 (fun x y hx hy => h44 hx hy)) rfl rfl rfl rfl ?_
    refine wp_bindE (ρ' := [_, _, _, _, _, _, _, _, _, _, dB (!(deq (a_2) (b_2)))]) sh_not rfl rfl ?_
    refine wp_iteC rfl (fun c1 => ?_) (fun c1 => ?_)
    · skip
      refine wp_retTo (d' := dB (false)) rfl (db_congr ?_)
      ((try simp only [deq_leaf, deq_agg, deqs_nil, deqs_cons, veq_int, veq_str] at c1 c0 ⊢); grind)
    · skip
      refine wp_bindE (ρ' := [_, _, _, _, _, _, _, _, _, _, _, a_3]) (sh_fld1 (off := 3) rfl i_a_3.one) rfl rfl ?_
      refine wp_bindE (ρ' := [_, _, _, _, _, _, _, _, _, _, _, _, b_3]) (sh_fld1 (off := 3) rfl i_b_3.one) rfl rfl ?_
      refine wp_callE (ρ' := [_, _, _, _, _, _, _, _, _, _, _, _, _, dB (deq (a_3) (b_3))]) (h49 h_a_3 h_b_3 (fun x y hx hy => h50 hx hy)) rfl rfl rfl rfl ?_
      refine wp_bindE (ρ' := [_, _, _, _, _, _, _, _, _, _, _, _, _, _, dB (!(deq (a_3) (b_3)))]) sh_not rfl rfl ?_
      refine wp_iteC rfl (fun c2 => ?_) (fun c2 => ?_)
      · skip
        refine wp_retTo (d' := dB (false)) rfl (db_congr ?_)
        ((try simp only [deq_leaf, deq_agg, deqs_nil, deqs_cons, veq_int, veq_str] at c2 c1 c0 ⊢); grind)
      · skip
        refine wp_bindE (ρ' := [_, _, _, _, _, _, _, _, _, _, _, _, _, _, _, dI a_5]) (sh_fld1 (off := 5) rfl rfl) rfl rfl ?_
        refine wp_bindE (ρ' := [_, _, _, _, _, _, _, _, _, _, _, _, _, _, _, _, dI b_5]) (sh_fld1 (off := 5) rfl rfl) rfl rfl ?_
        refine wp_bindE (ρ' := [_, _, _, _, _, _, _, _, _, _, _, _, _, _, _, _, _, dB (a_5 != b_5)]) sh_neq rfl rfl ?_
        refine wp_iteC rfl (fun c3 => ?_) (fun c3 => ?_)
        · skip
          refine wp_retTo (d' := dB (false)) rfl (db_congr ?_)
          ((try simp only [deq_leaf, deq_agg, deqs_nil, deqs_cons, veq_int, veq_str] at c3 c2 c1 c0 ⊢); grind)
        · skip
          refine wp_bindE (ρ' := [_, _, _, _, _, _, _, _, _, _, _, _, _, _, _, _, _, _, a_6]) (sh_fld1 (off := 6) rfl i_a_6.one) rfl rfl ?_
          refine wp_bindE (ρ' := [_, _, _, _, _, _, _, _, _, _, _, _, _, _, _, _, _, _, _, b_6]) (sh_fld1 (off := 6) rfl i_b_6.one) rfl rfl ?_
          refine wp_callE (ρ' := [_, _, _, _, _, _, _, _, _, _, _, _, _, _, _, _, _, _, _, _, dB (deq (a_6) (b_6))]) (h51 h_a_6 h_b_6) rfl rfl rfl rfl ?_
          refine wp_bindE (ρ' := [_, _, _, _, _, _, _, _, _, _, _, _, _, _, _, _, _, _, _, _, _, dB (!(deq (a_6) (b_6)))]) sh_not rfl rfl ?_
          refine wp_iteC rfl (fun c4 => ?_) (fun c4 => ?_)
          · skip
            refine wp_retTo (d' := dB (false)) rfl (db_congr ?_)
            ((try simp only [deq_leaf, deq_agg, deqs_nil, deqs_cons, veq_int, veq_str] at c4 c3 c2 c1 c0 ⊢); grind)
          · skip
            refine wp_bindE (ρ' := [_, _, _, _, _, _, _, _, _, _, _, _, _, _, _, _, _, _, _, _, _, _, a_7]) (sh_fld1 (off := 7) rfl i_a_7.one) rfl rfl ?_
            refine wp_bindE (ρ' := [_, _, _, _, _, _, _, _, _, _, _, _, _, _, _, _, _, _, _, _, _, _, _, b_7]) (sh_fld1 (off := 7) rfl i_b_7.one) rfl rfl ?_
            refine wp_callE (ρ' := [_, _, _, _, _, _, _, _, _, _, _, _, _, _, _, _, _, _, _, _, _, _, _, _, dB (deq (a_7) (b_7))]) (h45 h_a_7 h_b_7) rfl rfl rfl rfl ?_
            refine wp_bindE (ρ' := [_, _, _, _, _, _, _, _, _, _, _, _, _, _, _, _, _, _, _, _, _, _, _, _, _, dB (!(deq (a_7) (b_7)))]) sh_not rfl rfl ?_
            refine wp_iteC rfl (fun c5 => ?_) (fun c5 => ?_)
            · skip
              refine wp_retTo (d' := dB (false)) rfl (db_congr ?_)
              ((try simp only [deq_leaf, deq_agg, deqs_nil, deqs_cons, veq_int, veq_str] at c5 c4 c3 c2 c1 c0 ⊢); grind)
            · skip
              refine wp_bindE (ρ' := [_, _, _, _, _, _, _, _, _, _, _, _, _, _, _, _, _, _, _, _, _, _, _, _, _, _, a_0]) (sh_fld1 (off := 0) rfl i_a_0.one) rfl rfl ?_
              refine wp_bindE (ρ' := [_, _, _, _, _, _, _, _, _, _, _, _, _, _, _, _, _, _, _, _, _, _, _, _, _, _, _, b_0]) (sh_fld1 (off := 0) rfl i_b_0.one) rfl rfl ?_
              refine wp_callE (ρ' := [_, _, _, _, _, _, _, _, _, _, _, _, _, _, _, _, _, _, _, _, _, _, _, _, _, _, _, _, dB (deq (a_0) (b_0))]) (h52 h_a_0 h_b_0) rfl rfl rfl rfl ?_
              refine wp_iteC rfl (fun c6 => ?_) (fun c6 => ?_)
              · skip
                refine wp_bindE (ρ' := [_, _, _, _, _, _, _, _, _, _, _, _, _, _, _, _, _, _, _, _, _, _, _, _, _, _, _, _, _, a_4]) (sh_fld1 (off := 4) rfl i_a_4.one) rfl rfl ?_
                refine wp_bindE (ρ' := [_, _, _, _, _, _, _, _, _, _, _, _, _, _, _, _, _, _, _, _, _, _, _, _, _, _, _, _, _, _, b_4]) (sh_fld1 (off := 4) rfl i_b_4.one) rfl rfl ?_
                refine wp_callE (ρ' := [_, _, _, _, _, _, _, _, _, _, _, _, _, _, _, _, _, _, _, _, _, _, _, _, _, _, _, _, _, _, _, dB (deq (a_4) (b_4))]) (h53 h_a_4 h_b_4 (fun x y hx hy => h46 hx hy)) rfl rfl rfl rfl ?_
                refine wp_iteC rfl (fun c7 => ?_) (fun c7 => ?_)
                · skip
                  refine wp_bindE (ρ' := [_, _, _, _, _, _, _, _, _, _, _, _, _, _, _, _, _, _, _, _, _, _, _, _, _, _, _, _, _, _, _, _, a_8]) (sh_fld1 (off := 8) rfl i_a_8.one) rfl rfl ?_
                  refine wp_bindE (ρ' := [_, _, _, _, _, _, _, _, _, _, _, _, _, _, _, _, _, _, _, _, _, _, _, _, _, _, _, _, _, _, _, _, _, b_8]) (sh_fld1 (off := 8) rfl i_b_8.one) rfl rfl ?_
                  refine wp_callE (ρ' := [_, _, _, _, _, _, _, _, _, _, _, _, _, _, _, _, _, _, _, _, _, _, _, _, _, _, _, _, _, _, _, _, _, _, dB (deq (a_8) (b_8))]) (h54 h_a_8 h_b_8) rfl rfl rfl rfl ?_
                  refine wp_retTo (d' := dB (deq (a_8) (b_8))) rfl (db_congr ?_)
                  ((try simp only [deq_leaf, deq_agg, deqs_nil, deqs_cons, veq_int, veq_str] at c7 c6 c5 c4 c3 c2 c1 c0 ⊢); grind)
                · skip
                  refine wp_retTo (d' := dB (false)) rfl (db_congr ?_)
                  ((try simp only [deq_leaf, deq_agg, deqs_nil, deqs_cons, veq_int, veq_str] at c7 c6 c5 c4 c3 c2 c1 c0 ⊢); grind)
              · skip
                refine wp_retTo (d' := dB (false)) rfl (db_congr ?_)
                ((try simp only [deq_leaf, deq_agg, deqs_nil, deqs_cons, veq_int, veq_str] at c6 c5 c4 c3 c2 c1 c0 ⊢); grind)
/- 15 slices.EqualFunc[[]langdoc/api.Doc,[]langdoc/api.Doc,langdoc/api.Doc,langdoc/api.Doc] -/
theorem h15 {a b : D} {g : Nat} (h_a : HasSh (.sl 56 7 (.st [.int .i64, .str, .int .i64, .int .i64, .sl 3 1 (.int .i64), .sl 100 4 (.st [.str, .int .i64, .int .i64, .int .i64]), .sl 104 7 (.st [.int .i64, .int .i64, .int .i64, .int .i64, .int .i64, .int .i64, .str])])) a) (h_b : HasSh (.sl 56 7 (.st [.int .i64, .str, .int .i64, .int .i64, .sl 3 1 (.int .i64), .sl 100 4 (.st [.str, .int .i64, .int .i64, .int .i64]), .sl 104 7 (.st [.int .i64, .int .i64, .int .i64, .int .i64, .int .i64, .int .i64, .str])])) b) (hp : ∀ x y, HasSh (.st [.int .i64, .str, .int .i64, .int .i64, .sl 3 1 (.int .i64), .sl 100 4 (.st [.str, .int .i64, .int .i64, .int .i64]), .sl 104 7 (.st [.int .i64, .int .i64, .int .i64, .int .i64, .int .i64, .int .i64, .str])]) x → HasSh (.st [.int .i64, .str, .int .i64, .int .i64, .sl 3 1 (.int .i64), .sl 100 4 (.st [.str, .int .i64, .int .i64, .int .i64]), .sl 104 7 (.st [.int .i64, .int .i64, .int .i64, .int .i64, .int .i64, .int .i64, .str])]) y → Holds EE g [x, y] (dB (deq x y))) : Holds EE 15 [a, b, .clo (.func g) [] []] (dB (deq a b)) := by
  refine u15 rfl (Goes.step' ?_)
  have i_a := isSl_of h_a
  have i_b := isSl_of h_b
  show wp _ _ _ u15T0 _
  refine wp_bindE (ρ' := [_, _, _, dI ((a.es.length : Nat) : Int)]) (sh_len i_a) rfl rfl ?_
  refine wp_bindE (ρ' := [_, _, _, _, dI ((b.es.length : Nat) : Int)]) (sh_len i_b) rfl rfl ?_
  refine wp_bindE (ρ' := [_, _, _, _, _, _]) sh_neq rfl rfl ?_
  refine wp_iteC rfl (fun c0 => ?_) (fun c0 => ?_)
  · have q0 := deq_len i_a i_b (len_ne c0)
    refine wp_retTo (d' := dB (false)) rfl (db_congr ?_)
    ((try simp only [deq_leaf, deq_agg, deqs_nil, deqs_cons, veq_int, veq_bool, veq_str] at q0 ⊢); grind)
  · have l_a_b := len_of c0
    refine wp_bindE (ρ' := [_, _, _, _, _, _, dI ((a.es.length : Nat) : Int)]) (sh_len i_a) rfl rfl ?_
    refine wp_jumpTo rfl ?_
    refine loop_eq2 (ρ := fun i1 => [b, (.clo (.func g) [] []), a, dI ((a.es.length : Nat) : Int), dI ((i1 : Nat) : Int)]) i_a i_b l_a_b (fun q1 => ?_) ?_ (fun q1 => ?_)
    · ((try simp only [deq_leaf, deq_agg, deqs_nil, deqs_cons, veq_int, veq_bool, veq_str] at q1 ⊢); grind)
    · intro i1 x1 y1 e_x1 e_y1 hi1 hj1
      obtain ⟨_, rfl, _, _, rfl, ⟨x1_0, rfl⟩, _, _, rfl, ⟨x1_1, rfl⟩, _, _, rfl, ⟨x1_2, rfl⟩, _, _, rfl, ⟨x1_3, rfl⟩, x1_4, _, rfl, h_x1_4, x1_5, _, rfl, h_x1_5, x1_6, _, rfl, h_x1_6, rfl⟩ := elem_of h_a e_x1
      have i_x1_4 := isSl_of h_x1_4
      have i_x1_5 := isSl_of h_x1_5
      have i_x1_6 := isSl_of h_x1_6
      obtain ⟨_, rfl, _, _, rfl, ⟨y1_0, rfl⟩, _, _, rfl, ⟨y1_1, rfl⟩, _, _, rfl, ⟨y1_2, rfl⟩, _, _, rfl, ⟨y1_3, rfl⟩, y1_4, _, rfl, h_y1_4, y1_5, _, rfl, h_y1_5, y1_6, _, rfl, h_y1_6, rfl⟩ := elem_of h_b e_y1
      have i_y1_4 := isSl_of h_y1_4
      have i_y1_5 := isSl_of h_y1_5
      have i_y1_6 := isSl_of h_y1_6
      show wp _ _ _ u15T1 _
      refine wp_bindE (ρ' := [_, _, _, _, _, _]) sh_lss rfl rfl ?_
      refine wp_iteB rfl ?_
      rw [lt_true (show i1 < a.es.length by omega)]
      refine ite_t ?_
      refine wp_bindE (ρ' := [_, _, _, _, _, _, dB (true)]) (sh_inr e_x1) rfl rfl ?_
      refine wp_bindE (ρ' := [_, _, _, _, _, _, _, .agg [dI x1_0, .leaf (.string x1_1), dI x1_2, dI x1_3, x1_4, x1_5, x1_6]]) (sh_elemW i_a e_x1 rfl) rfl rfl ?_
      refine wp_bindE (ρ' := [_, _, _, _, _, _, _, _, .agg [dI x1_0, .leaf (.string x1_1), dI x1_2, dI x1_3, x1_4, x1_5, x1_6]]) (sh_chkW rfl) rfl rfl ?_
      refine wp_bindE (ρ' := [_, _, _, _, _, _, _, _, _, dB (true)]) (sh_inr e_y1) rfl rfl ?_
      refine wp_bindE (ρ' := [_, _, _, _, _, _, _, _, _, _, .agg [dI y1_0, .leaf (.string y1_1), dI y1_2, dI y1_3, y1_4, y1_5, y1_6]]) (sh_elemW i_b e_y1 rfl) rfl rfl ?_
      refine wp_bindE (ρ' := [_, _, _, _, _, _, _, _, _, _, _, .agg [dI y1_0, .leaf (.string y1_1), dI y1_2, dI y1_3, y1_4, y1_5, y1_6]]) (sh_chkW rfl) rfl rfl ?_
      refine wp_callE (ρ' := [_, _, _, _, _, _, _, _, _, _, _, _, dB (deq (.agg [dI x1_0, .leaf (.string x1_1), dI x1_2, dI x1_3, x1_4, x1_5, x1_6]) (.agg [dI y1_0, .leaf (.string y1_1), dI y1_2, dI y1_3, y1_4, y1_5, y1_6]))]) (hp _ _ (sh_st (shs_cons sh_int (shs_cons sh_str (shs_cons sh_int (shs_cons sh_int (shs_cons h_x1_4 (shs_cons h_x1_5 (shs_cons h_x1_6 shs_nil)))))))) (sh_st (shs_cons sh_int (shs_cons sh_str (shs_cons sh_int (shs_cons sh_int (shs_cons h_y1_4 (shs_cons h_y1_5 (shs_cons h_y1_6 shs_nil))))))))) rfl rfl rfl rfl ?_
      refine wp_bindE (ρ' := [_, _, _, _, _, _, _, _, _, _, _, _, _, dB (!(deq (.agg [dI x1_0, .leaf (.string x1_1), dI x1_2, dI x1_3, x1_4, x1_5, x1_6]) (.agg [dI y1_0, .leaf (.string y1_1), dI y1_2, dI y1_3, y1_4, y1_5, y1_6])))]) sh_not rfl rfl ?_
      refine wp_iteC rfl (fun c2 => ?_) (fun c2 => ?_)
      · skip
        refine wp_retR rfl ?_
        clear hi1 hj1; ((try simp only [deq_leaf, deq_agg, deqs_nil, deqs_cons, veq_int, veq_str] at c2 ⊢); grind)
      · skip
        refine wp_bindE (ρ' := [_, _, _, _, _, _, _, _, _, _, _, _, _, _, dI ((i1 + 1 : Nat) : Int)]) (sh_add hj1) rfl rfl ?_
        refine wp_jumpR rfl ?_
        clear hi1 hj1; ((try simp only [deq_leaf, deq_agg, deqs_nil, deqs_cons, veq_int, veq_str] at c2 ⊢); grind)
    · show wp _ _ _ u15T1 _
      refine wp_bindE (ρ' := [_, _, _, _, _, _]) sh_lss rfl rfl ?_
      refine wp_iteB rfl ?_
      rw [lt_false]
      refine ite_f ?_
      refine wp_retTo (d' := dB (true)) rfl (db_congr ?_)
      ((try simp only [deq_leaf, deq_agg, deqs_nil, deqs_cons, veq_int, veq_bool, veq_str] at q1 ⊢); grind)
/- 55 slices.Equal[[]langdoc/api.Tier,langdoc/api.Tier] -/
theorem h55 {a b : D} (h_a : HasSh (.sl 100 4 (.st [.str, .int .i64, .int .i64, .int .i64])) a) (h_b : HasSh (.sl 100 4 (.st [.str, .int .i64, .int .i64, .int .i64])) b) : Holds EE 55 [a, b] (dB (deq a b)) := by
  refine u55 rfl (Goes.step' ?_)
  have i_a := isSl_of h_a
  have i_b := isSl_of h_b
  show wp _ _ _ u55T0 _
  refine wp_bindE (ρ' := [_, _, dI ((a.es.length : Nat) : Int)]) (sh_len i_a) rfl rfl ?_
  refine wp_bindE (ρ' := [_, _, _, dI ((b.es.length : Nat) : Int)]) (sh_len i_b) rfl rfl ?_
  refine wp_bindE (ρ' := [_, _, _, _, _]) sh_neq rfl rfl ?_
  refine wp_iteC rfl (fun c0 => ?_) (fun c0 => ?_)
  · have q0 := deq_len i_a i_b (len_ne c0)
    refine wp_retTo (d' := dB (false)) rfl (db_congr ?_)
    ((try simp only [deq_leaf, deq_agg, deqs_nil, deqs_cons, veq_int, veq_bool, veq_str] at q0 ⊢); grind)
  · have l_a_b := len_of c0
    refine wp_bindE (ρ' := [_, _, _, _, _, dI ((a.es.length : Nat) : Int)]) (sh_len i_a) rfl rfl ?_
    refine wp_jumpTo rfl ?_
    refine loop_eq2 (ρ := fun i1 => [a, b, dI ((a.es.length : Nat) : Int), dI ((i1 : Nat) : Int)]) i_a i_b l_a_b (fun q1 => ?_) ?_ (fun q1 => ?_)
    · ((try simp only [deq_leaf, deq_agg, deqs_nil, deqs_cons, veq_int, veq_bool, veq_str] at q1 ⊢); grind)
    · intro i1 x1 y1 e_x1 e_y1 hi1 hj1
      obtain ⟨_, rfl, _, _, rfl, ⟨x1_0, rfl⟩, _, _, rfl, ⟨x1_1, rfl⟩, _, _, rfl, ⟨x1_2, rfl⟩, _, _, rfl, ⟨x1_3, rfl⟩, rfl⟩ := elem_of h_a e_x1
      obtain ⟨_, rfl, _, _, rfl, ⟨y1_0, rfl⟩, _, _, rfl, ⟨y1_1, rfl⟩, _, _, rfl, ⟨y1_2, rfl⟩, _, _, rfl, ⟨y1_3, rfl⟩, rfl⟩ := elem_of h_b e_y1
      show wp _ _ _ u55T1 _
      refine wp_bindE (ρ' := [_, _, _, _, _]) sh_lss rfl rfl ?_
      refine wp_iteB rfl ?_
      rw [lt_true (show i1 < a.es.length by omega)]
      refine ite_t ?_
      refine wp_bindE (ρ' := [_, _, _, _, _, dB (true)]) (sh_inr e_x1) rfl rfl ?_
      refine wp_bindE (ρ' := [_, _, _, _, _, _, .agg [.leaf (.string x1_0), dI x1_1, dI x1_2, dI x1_3]]) (sh_elemW i_a e_x1 rfl) rfl rfl ?_
      refine wp_bindE (ρ' := [_, _, _, _, _, _, _, dB (true)]) (sh_inr e_y1) rfl rfl ?_
      refine wp_bindE (ρ' := [_, _, _, _, _, _, _, _, .agg [.leaf (.string y1_0), dI y1_1, dI y1_2, dI y1_3]]) (sh_elemW i_b e_y1 rfl) rfl rfl ?_
      refine wp_bindE (ρ' := [_, _, _, _, _, _, _, _, _, dB (!(deqs [.leaf (.string x1_0), dI x1_1, dI x1_2, dI x1_3] [.leaf (.string y1_0), dI y1_1, dI y1_2, dI y1_3]))]) (sh_cmpS .neq (.inl rfl) ty100 st100 le4 gu100 rfl (shs_cons sh_str (shs_cons sh_int (shs_cons sh_int (shs_cons sh_int shs_nil)))) (shs_cons sh_str (shs_cons sh_int (shs_cons sh_int (shs_cons sh_int shs_nil))))) rfl rfl ?_
      refine wp_iteC rfl (fun c2 => ?_) (fun c2 => ?_)
      · skip
        refine wp_retR rfl ?_
        clear hi1 hj1; ((try simp only [deq_leaf, deq_agg, deqs_nil, deqs_cons, veq_int, veq_str] at c2 ⊢); grind)
      · skip
        refine wp_bindE (ρ' := [_, _, _, _, _, _, _, _, _, _, dI ((i1 + 1 : Nat) : Int)]) (sh_add hj1) rfl rfl ?_
        refine wp_jumpR rfl ?_
        clear hi1 hj1; ((try simp only [deq_leaf, deq_agg, deqs_nil, deqs_cons, veq_int, veq_str] at c2 ⊢); grind)
    · show wp _ _ _ u55T1 _
      refine wp_bindE (ρ' := [_, _, _, _, _]) sh_lss rfl rfl ?_
      refine wp_iteB rfl ?_
      rw [lt_false]
      refine ite_f ?_
      refine wp_retTo (d' := dB (true)) rfl (db_congr ?_)
      ((try simp only [deq_leaf, deq_agg, deqs_nil, deqs_cons, veq_int, veq_bool, veq_str] at q1 ⊢); grind)
/- 56 slices.Equal[[]langdoc/api.Note,langdoc/api.Note] -/
theorem h56 {a b : D} (h_a : HasSh (.sl 104 7 (.st [.int .i64, .int .i64, .int .i64, .int .i64, .int .i64, .int .i64, .str])) a) (h_b : HasSh (.sl 104 7 (.st [.int .i64, .int .i64, .int .i64, .int .i64, .int .i64, .int .i64, .str])) b) : Holds EE 56 [a, b] (dB (deq a b)) := by
  refine u56 rfl (Goes.step' ?_)
  have i_a := isSl_of h_a
  have i_b := isSl_of h_b
  show wp _ _ _ u56T0 _
  refine wp_bindE (ρ' := [_, _, dI ((a.es.length : Nat) : Int)]) (sh_len i_a) rfl rfl ?_
  refine wp_bindE (ρ' := [_, _, _, dI ((b.es.length : Nat) : Int)]) (sh_len i_b) rfl rfl ?_
  refine wp_bindE (ρ' := [_, _, _, _, _]) sh_neq rfl rfl ?_
  refine wp_iteC rfl (fun c0 => ?_) (fun c0 => ?_)
  · have q0 := deq_len i_a i_b (len_ne c0)
    refine wp_retTo (d' := dB (false)) rfl (db_congr ?_)
    ((try simp only [deq_leaf, deq_agg, deqs_nil, deqs_cons, veq_int, veq_bool, veq_str] at q0 ⊢); grind)
  · have l_a_b := len_of c0
    refine wp_bindE (ρ' := [_, _, _, _, _, dI ((a.es.length : Nat) : Int)]) (sh_len i_a) rfl rfl ?_
    refine wp_jumpTo rfl ?_
    refine loop_eq2 (ρ := fun i1 => [a, b, dI ((a.es.length : Nat) : Int), dI ((i1 : Nat) : Int)]) i_a i_b l_a_b (fun q1 => ?_) ?_ (fun q1 => ?_)
    · ((try simp only [deq_leaf, deq_agg, deqs_nil, deqs_cons, veq_int, veq_bool, veq_str] at q1 ⊢); grind)
    · intro i1 x1 y1 e_x1 e_y1 hi1 hj1
      obtain ⟨_, rfl, _, _, rfl, ⟨x1_0, rfl⟩, _, _, rfl, ⟨x1_1, rfl⟩, _, _, rfl, ⟨x1_2, rfl⟩, _, _, rfl, ⟨x1_3, rfl⟩, _, _, rfl, ⟨x1_4, rfl⟩, _, _, rfl, ⟨x1_5, rfl⟩, _, _, rfl, ⟨x1_6, rfl⟩, rfl⟩ := elem_of h_a e_x1
      obtain ⟨_, rfl, _, _, rfl, ⟨y1_0, rfl⟩, _, _, rfl, ⟨y1_1, rfl⟩, _, _, rfl, ⟨y1_2, rfl⟩, _, _, rfl, ⟨y1_3, rfl⟩, _, _, rfl, ⟨y1_4, rfl⟩, _, _, rfl, ⟨y1_5, rfl⟩, _, _, rfl, ⟨y1_6, rfl⟩, rfl⟩ := elem_of h_b e_y1
      show wp _ _ _ u56T1 _
      refine wp_bindE (ρ' := [_, _, _, _, _]) sh_lss rfl rfl ?_
      refine wp_iteB rfl ?_
      rw [lt_true (show i1 < a.es.length by omega)]
      refine ite_t ?_
      refine wp_bindE (ρ' := [_, _, _, _, _, dB (true)]) (sh_inr e_x1) rfl rfl ?_
      refine wp_bindE (ρ' := [_, _, _, _, _, _, .agg [dI x1_0, dI x1_1, dI x1_2, dI x1_3, dI x1_4, dI x1_5, .leaf (.string x1_6)]]) (sh_elemW i_a e_x1 rfl) rfl rfl ?_
      refine wp_bindE (ρ' := [_, _, _, _, _, _, _, dB (true)]) (sh_inr e_y1) rfl rfl ?_
      refine wp_bindE (ρ' := [_, _, _, _, _, _, _, _, .agg [dI y1_0, dI y1_1, dI y1_2, dI y1_3, dI y1_4, dI y1_5, .leaf (.string y1_6)]]) (sh_elemW i_b e_y1 rfl) rfl rfl ?_
      refine wp_bindE (ρ' := [_, _, _, _, _, _, _, _, _, dB (!(deqs [dI x1_0, dI x1_1, dI x1_2, dI x1_3, dI x1_4, dI x1_5, .leaf (.string x1_6)] [dI y1_0, dI y1_1, dI y1_2, dI y1_3, dI y1_4, dI y1_5, .leaf (.string y1_6)]))]) (sh_cmpS .neq (.inl rfl) ty104 st104 le4 gu104 rfl (shs_cons sh_int (shs_cons sh_int (shs_cons sh_int (shs_cons sh_int (shs_cons sh_int (shs_cons sh_int (shs_cons sh_str shs_nil))))))) (shs_cons sh_int (shs_cons sh_int (shs_cons sh_int (shs_cons sh_int (shs_cons sh_int (shs_cons sh_int (shs_cons sh_str shs_nil)))))))) rfl rfl ?_
      refine wp_iteC rfl (fun c2 => ?_) (fun c2 => ?_)
      · skip
        refine wp_retR rfl ?_
        clear hi1 hj1; ((try simp only [deq_leaf, deq_agg, deqs_nil, deqs_cons, veq_int, veq_str] at c2 ⊢); grind)
      · skip
        refine wp_bindE (ρ' := [_, _, _, _, _, _, _, _, _, _, dI ((i1 + 1 : Nat) : Int)]) (sh_add hj1) rfl rfl ?_
        refine wp_jumpR rfl ?_
        clear hi1 hj1; ((try simp only [deq_leaf, deq_agg, deqs_nil, deqs_cons, veq_int, veq_str] at c2 ⊢); grind)
    · show wp _ _ _ u56T1 _
      refine wp_bindE (ρ' := [_, _, _, _, _]) sh_lss rfl rfl ?_
      refine wp_iteB rfl ?_
      rw [lt_false]
      refine ite_f ?_
      refine wp_retTo (d' := dB (true)) rfl (db_congr ?_)
      ((try simp only [deq_leaf, deq_agg, deqs_nil, deqs_cons, veq_int, veq_bool, veq_str] at q1 ⊢); grind)
/- 16 langdoc/tiers.Same -/
theorem h16 {a b : D} (h_a : HasSh (.st [.int .i64, .str, .int .i64, .int .i64, .sl 3 1 (.int .i64), .sl 100 4 (.st [.str, .int .i64, .int .i64, .int .i64]), .sl 104 7 (.st [.int .i64, .int .i64, .int .i64, .int .i64, .int .i64, .int .i64, .str])]) a) (h_b : HasSh (.st [.int .i64, .str, .int .i64, .int .i64, .sl 3 1 (.int .i64), .sl 100 4 (.st [.str, .int .i64, .int .i64, .int .i64]), .sl 104 7 (.st [.int .i64, .int .i64, .int .i64, .int .i64, .int .i64, .int .i64, .str])]) b) : Holds EE 16 [a, b] (dB (deq a b)) := by
  refine u16 rfl (Goes.step' ?_)
  obtain ⟨_, rfl, _, _, rfl, ⟨a_0, rfl⟩, _, _, rfl, ⟨a_1, rfl⟩, _, _, rfl, ⟨a_2, rfl⟩, _, _, rfl, ⟨a_3, rfl⟩, a_4, _, rfl, h_a_4, a_5, _, rfl, h_a_5, a_6, _, rfl, h_a_6, rfl⟩ := h_a
  have i_a_4 := isSl_of h_a_4
  have i_a_5 := isSl_of h_a_5
  have i_a_6 := isSl_of h_a_6
  obtain ⟨_, rfl, _, _, rfl, ⟨b_0, rfl⟩, _, _, rfl, ⟨b_1, rfl⟩, _, _, rfl, ⟨b_2, rfl⟩, _, _, rfl, ⟨b_3, rfl⟩, b_4, _, rfl, h_b_4, b_5, _, rfl, h_b_5, b_6, _, rfl, h_b_6, rfl⟩ := h_b
  have i_b_4 := isSl_of h_b_4
  have i_b_5 := isSl_of h_b_5
  have i_b_6 := isSl_of h_b_6
  show wp _ _ _ u16T0 _
  refine wp_bindE (ρ' := [_, _, .agg [dI a_0, .leaf (.string a_1), dI a_2, dI a_3, a_4, a_5, a_6]]) (sh_chkW rfl) rfl rfl ?_
  refine wp_bindE (ρ' := [_, _, _, .agg [dI b_0, .leaf (.string b_1), dI b_2, dI b_3, b_4, b_5, b_6]]) (sh_chkW rfl) rfl rfl ?_
  refine wp_bindE (ρ' := [_, _, _, _, a_4]) (sh_fld1 (off := 4) rfl i_a_4.one) rfl rfl ?_
  refine wp_bindE (ρ' := [_, _, _, _, _, b_4]) (sh_fld1 (off := 4) rfl i_b_4.one) rfl rfl ?_
  refine wp_callE (ρ' := [_, _, _, _, _, _, dB (deq (a_4) (b_4))]) (h45 h_a_4 h_b_4) rfl rfl rfl rfl ?_
  refine wp_bindE (ρ' := [_, _, _, _, _, _, _, dB (!(deq (a_4) (b_4)))]) sh_not rfl rfl ?_
  refine wp_iteC rfl (fun c0 => ?_) (fun c0 => ?_)
  · skip
    refine wp_retTo (d' := dB (false)) rfl (db_congr ?_)
    ((try simp only [deq_leaf, deq_agg, deqs_nil, deqs_cons, veq_int, veq_str] at c0 ⊢); grind)
  · skip
    refine wp_bindE (ρ' := [_, _, _, _, _, _, _, _, a_5]) (sh_fld1 (off := 5) rfl i_a_5.one) rfl rfl ?_
    refine wp_bindE (ρ' := [_, _, _, _, _, _, _, _, _, b_5]) (sh_fld1 (off := 5) rfl i_b_5.one) rfl rfl ?_
    refine wp_callE (ρ' := [_, _, _, _, _, _, _, _, _, _, dB (deq (a_5) (b_5))]) (h55 h_a_5 h_b_5) rfl rfl rfl rfl ?_
    refine wp_bindE (ρ' := [_, _, _, _, _, _, _, _, _, _, _, dB (!(deq (a_5) (b_5)))]) sh_not rfl rfl ?_
    refine wp_iteC rfl (fun c1 => ?_) (fun c1 => ?_)
    · skip
      refine wp_retTo (d' := dB (false)) rfl (db_congr ?_)
      ((try simp only [deq_leaf, deq_agg, deqs_nil, deqs_cons, veq_int, veq_str] at c1 c0 ⊢); grind)
    · skip
      refine wp_bindE (ρ' := [_, _, _, _, _, _, _, _, _, _, _, _, a_6]) (sh_fld1 (off := 6) rfl i_a_6.one) rfl rfl ?_
      refine wp_bindE (ρ' := [_, _, _, _, _, _, _, _, _, _, _, _, _, b_6]) (sh_fld1 (off := 6) rfl i_b_6.one) rfl rfl ?_
      refine wp_callE (ρ' := [_, _, _, _, _, _, _, _, _, _, _, _, _, _, dB (deq (a_6) (b_6))]) (h56 h_a_6 h_b_6) rfl rfl rfl rfl ?_
      refine wp_bindE (ρ' := [_, _, _, _, _, _, _, _, _, _, _, _, _, _, _, dB (!(deq (a_6) (b_6)))]) sh_not rfl rfl ?_
      refine wp_iteC rfl (fun c2 => ?_) (fun c2 => ?_)
      · skip
        refine wp_retTo (d' := dB (false)) rfl (db_congr ?_)
        ((try simp only [deq_leaf, deq_agg, deqs_nil, deqs_cons, veq_int, veq_str] at c2 c1 c0 ⊢); grind)
      · skip
        refine wp_bindE (ρ' := [_, _, _, _, _, _, _, _, _, _, _, _, _, _, _, _, .agg [dI a_0, .leaf (.string a_1), dI a_2, dI a_3, a_4]]) (sh_fldA rfl) rfl rfl ?_
        refine wp_bindE (ρ' := [_, _, _, _, _, _, _, _, _, _, _, _, _, _, _, _, _, .agg [dI b_0, .leaf (.string b_1), dI b_2, dI b_3, b_4]]) (sh_fldA rfl) rfl rfl ?_
        refine wp_bindE (ρ' := [_, _, _, _, _, _, _, _, _, _, _, _, _, _, _, _, _, _, .agg [dI a_0, .leaf (.string a_1), dI a_2, dI a_3, a_4]]) (sh_chkW rfl) rfl rfl ?_
        refine wp_bindE (ρ' := [_, _, _, _, _, _, _, _, _, _, _, _, _, _, _, _, _, _, _, .agg [dI b_0, .leaf (.string b_1), dI b_2, dI b_3, b_4]]) (sh_chkW rfl) rfl rfl ?_
        refine wp_bindE (ρ' := [_, _, _, _, _, _, _, _, _, _, _, _, _, _, _, _, _, _, _, _, dI a_0]) (sh_fld1 (off := 0) rfl rfl) rfl rfl ?_
        refine wp_bindE (ρ' := [_, _, _, _, _, _, _, _, _, _, _, _, _, _, _, _, _, _, _, _, _, dI b_0]) (sh_fld1 (off := 0) rfl rfl) rfl rfl ?_
        refine wp_bindE (ρ' := [_, _, _, _, _, _, _, _, _, _, _, _, _, _, _, _, _, _, _, _, _, _, dB (a_0 == b_0)]) sh_eql rfl rfl ?_
        refine wp_iteC rfl (fun c3 => ?_) (fun c3 => ?_)
        · skip
          refine wp_bindE (ρ' := [_, _, _, _, _, _, _, _, _, _, _, _, _, _, _, _, _, _, _, _, _, _, _, .leaf (.string a_1)]) (sh_fld1 (off := 1) rfl rfl) rfl rfl ?_
          refine wp_bindE (ρ' := [_, _, _, _, _, _, _, _, _, _, _, _, _, _, _, _, _, _, _, _, _, _, _, _, .leaf (.string b_1)]) (sh_fld1 (off := 1) rfl rfl) rfl rfl ?_
          refine wp_bindE (ρ' := [_, _, _, _, _, _, _, _, _, _, _, _, _, _, _, _, _, _, _, _, _, _, _, _, _, dB (a_1 == b_1)]) sh_strE rfl rfl ?_
          refine wp_iteC rfl (fun c4 => ?_) (fun c4 => ?_)
          · skip
            refine wp_bindE (ρ' := [_, _, _, _, _, _, _, _, _, _, _, _, _, _, _, _, _, _, _, _, _, _, _, _, _, _, dI a_2]) (sh_fld1 (off := 2) rfl rfl) rfl rfl ?_
            refine wp_bindE (ρ' := [_, _, _, _, _, _, _, _, _, _, _, _, _, _, _, _, _, _, _, _, _, _, _, _, _, _, _, dI b_2]) (sh_fld1 (off := 2) rfl rfl) rfl rfl ?_
            refine wp_bindE (ρ' := [_, _, _, _, _, _, _, _, _, _, _, _, _, _, _, _, _, _, _, _, _, _, _, _, _, _, _, _, dB (a_2 == b_2)]) sh_eql rfl rfl ?_
            refine wp_iteC rfl (fun c5 => ?_) (fun c5 => ?_)
            · skip
              refine wp_bindE (ρ' := [_, _, _, _, _, _, _, _, _, _, _, _, _, _, _, _, _, _, _, _, _, _, _, _, _, _, _, _, _, dI a_3]) (sh_fld1 (off := 3) rfl rfl) rfl rfl ?_
              refine wp_bindE (ρ' := [_, _, _, _, _, _, _, _, _, _, _, _, _, _, _, _, _, _, _, _, _, _, _, _, _, _, _, _, _, _, dI b_3]) (sh_fld1 (off := 3) rfl rfl) rfl rfl ?_
              refine wp_bindE (ρ' := [_, _, _, _, _, _, _, _, _, _, _, _, _, _, _, _, _, _, _, _, _, _, _, _, _, _, _, _, _, _, _, dB (a_3 == b_3)]) sh_eql rfl rfl ?_
              refine wp_retTo (d' := dB (a_3 == b_3)) rfl (db_congr ?_)
              ((try simp only [deq_leaf, deq_agg, deqs_nil, deqs_cons, veq_int, veq_str] at c5 c4 c3 c2 c1 c0 ⊢); grind)
            · skip
              refine wp_retTo (d' := dB (false)) rfl (db_congr ?_)
              ((try simp only [deq_leaf, deq_agg, deqs_nil, deqs_cons, veq_int, veq_str] at c5 c4 c3 c2 c1 c0 ⊢); grind)
          · skip
            refine wp_retTo (d' := dB (false)) rfl (db_congr ?_)
            ((try simp only [deq_leaf, deq_agg, deqs_nil, deqs_cons, veq_int, veq_str] at c4 c3 c2 c1 c0 ⊢); grind)
        · skip
          refine wp_retTo (d' := dB (false)) rfl (db_congr ?_)
          ((try simp only [deq_leaf, deq_agg, deqs_nil, deqs_cons, veq_int, veq_str] at c3 c2 c1 c0 ⊢); grind)
/- 57 slices.EqualFunc[[]langdoc/api.Decision,[]langdoc/api.Decision,langdoc/api.Decision,langdoc/api.Decision] -/
theorem h57 {a b : D} {g : Nat} (h_a : HasSh (.sl 117 4 (.st [.int .i64, .int .i64, .bool, .sl 154 3 (.st [.int .i64, .int .i64, .int .i64])])) a) (h_b : HasSh (.sl 117 4 (.st [.int .i64, .int .i64, .bool, .sl 154 3 (.st [.int .i64, .int .i64, .int .i64])])) b) (hp : ∀ x y, HasSh (.st [.int .i64, .int .i64, .bool, .sl 154 3 (.st [.int .i64, .int .i64, .int .i64])]) x → HasSh (.st [.int .i64, .int .i64, .bool, .sl 154 3 (.st [.int .i64, .int .i64, .int .i64])]) y → Holds EE g [x, y] (dB (deq x y))) : Holds EE 57 [a, b, .clo (.func g) [] []] (dB (deq a b)) := by
  refine u57 rfl (Goes.step' ?_)
  have i_a := isSl_of h_a
  have i_b := isSl_of h_b
  show wp _ _ _ u57T0 _
  refine wp_bindE (ρ' := [_, _, _, dI ((a.es.length : Nat) : Int)]) (sh_len i_a) rfl rfl ?_
  refine wp_bindE (ρ' := [_, _, _, _, dI ((b.es.length : Nat) : Int)]) (sh_len i_b) rfl rfl ?_
  refine wp_bindE (ρ' := [_, _, _, _, _, _]) sh_neq rfl rfl ?_
  refine wp_iteC rfl (fun c0 => ?_) (fun c0 => ?_)
  · have q0 := deq_len i_a i_b (len_ne c0)
    refine wp_retTo (d' := dB (false)) rfl (db_congr ?_)
    ((try simp only [deq_leaf, deq_agg, deqs_nil, deqs_cons, veq_int, veq_bool, veq_str] at q0 ⊢); grind)
  · have l_a_b := len_of c0
    refine wp_bindE (ρ' := [_, _, _, _, _, _, dI ((a.es.length : Nat) : Int)]) (sh_len i_a) rfl rfl ?_
    refine wp_jumpTo rfl ?_
    refine loop_eq2 (ρ := fun i1 => [b, (.clo (.func g) [] []), a, dI ((a.es.length : Nat) : Int), dI ((i1 : Nat) : Int)]) i_a i_b l_a_b (fun q1 => ?_) ?_ (fun q1 => ?_)
    · ((try simp only [deq_leaf, deq_agg, deqs_nil, deqs_cons, veq_int, veq_bool, veq_str] at q1 ⊢); grind)
    · intro i1 x1 y1 e_x1 e_y1 hi1 hj1
      obtain ⟨_, rfl, _, _, rfl, ⟨x1_0, rfl⟩, _, _, rfl, ⟨x1_1, rfl⟩, _, _, rfl, ⟨x1_2, rfl⟩, x1_3, _, rfl, h_x1_3, rfl⟩ := elem_of h_a e_x1
      have i_x1_3 := isSl_of h_x1_3
      obtain ⟨_, rfl, _, _, rfl, ⟨y1_0, rfl⟩, _, _, rfl, ⟨y1_1, rfl⟩, _, _, rfl, ⟨y1_2, rfl⟩, y1_3, _, rfl, h_y1_3, rfl⟩ := elem_of h_b e_y1
      have i_y1_3 := isSl_of h_y1_3
      show wp _ _ _ u57T1 _
      refine wp_bindE (ρ' := [_, _, _, _, _, _]) sh_lss rfl rfl ?_
      refine wp_iteB rfl ?_
      rw [lt_true (show i1 < a.es.length by omega)]
      refine ite_t ?_
      refine wp_bindE (ρ' := [_, _, _, _, _, _, dB (true)]) (sh_inr e_x1) rfl rfl ?_
      refine wp_bindE (ρ' := [_, _, _, _, _, _, _, .agg [dI x1_0, dI x1_1, dB (x1_2), x1_3]]) (sh_elemW i_a e_x1 rfl) rfl rfl ?_
      refine wp_bindE (ρ' := [_, _, _, _, _, _, _, _, .agg [dI x1_0, dI x1_1, dB (x1_2), x1_3]]) (sh_chkW rfl) rfl rfl ?_
      refine wp_bindE (ρ' := [_, _, _, _, _, _, _, _, _, dB (true)]) (sh_inr e_y1) rfl rfl ?_
      refine wp_bindE (ρ' := [_, _, _, _, _, _, _, _, _, _, .agg [dI y1_0, dI y1_1, dB (y1_2), y1_3]]) (sh_elemW i_b e_y1 rfl) rfl rfl ?_
      refine wp_bindE (ρ' := [_, _, _, _, _, _, _, _, _, _, _, .agg [dI y1_0, dI y1_1, dB (y1_2), y1_3]]) (sh_chkW rfl) rfl rfl ?_
      refine wp_callE (ρ' := [_, _, _, _, _, _, _, _, _, _, _, _, dB (deq (.agg [dI x1_0, dI x1_1, dB (x1_2), x1_3]) (.agg [dI y1_0, dI y1_1, dB (y1_2), y1_3]))]) (hp _ _ (sh_st (shs_cons sh_int (shs_cons sh_int (shs_cons sh_bool (shs_cons h_x1_3 shs_nil))))) (sh_st (shs_cons sh_int (shs_cons sh_int (shs_cons sh_bool (shs_cons h_y1_3 shs_nil)))))) rfl rfl rfl rfl ?_
      refine wp_bindE (ρ' := [_, _, _, _, _, _, _, _, _, _, _, _, _, dB (!(deq (.agg [dI x1_0, dI x1_1, dB (x1_2), x1_3]) (.agg [dI y1_0, dI y1_1, dB (y1_2), y1_3])))]) sh_not rfl rfl ?_
      refine wp_iteC rfl (fun c2 => ?_) (fun c2 => ?_)
      · skip
        refine wp_retR rfl ?_
        clear hi1 hj1; ((try simp only [deq_leaf, deq_agg, deqs_nil, deqs_cons, veq_int, veq_bool] at c2 ⊢); grind)
      · skip
        refine wp_bindE (ρ' := [_, _, _, _, _, _, _, _, _, _, _, _, _, _, dI ((i1 + 1 : Nat) : Int)]) (sh_add hj1) rfl rfl ?_
        refine wp_jumpR rfl ?_
        clear hi1 hj1; ((try simp only [deq_leaf, deq_agg, deqs_nil, deqs_cons, veq_int, veq_bool] at c2 ⊢); grind)
    · show wp _ _ _ u57T1 _
      refine wp_bindE (ρ' := [_, _, _, _, _, _]) sh_lss rfl rfl ?_
      refine wp_iteB rfl ?_
      rw [lt_false]
      refine ite_f ?_
      refine wp_retTo (d' := dB (true)) rfl (db_congr ?_)
      ((try simp only [deq_leaf, deq_agg, deqs_nil, deqs_cons, veq_int, veq_bool, veq_str] at q1 ⊢); grind)
/- 59 slices.Equal[[]langdoc/api.Part,langdoc/api.Part] -/
theorem h59 {a b : D} (h_a : HasSh (.sl 154 3 (.st [.int .i64, .int .i64, .int .i64])) a) (h_b : HasSh (.sl 154 3 (.st [.int .i64, .int .i64, .int .i64])) b) : Holds EE 59 [a, b] (dB (deq a b)) := by
  refine u59 rfl (Goes.step' ?_)
  have i_a := isSl_of h_a
  have i_b := isSl_of h_b
  show wp _ _ _ u59T0 _
  refine wp_bindE (ρ' := [_, _, dI ((a.es.length : Nat) : Int)]) (sh_len i_a) rfl rfl ?_
  refine wp_bindE (ρ' := [_, _, _, dI ((b.es.length : Nat) : Int)]) (sh_len i_b) rfl rfl ?_
  refine wp_bindE (ρ' := [_, _, _, _, _]) sh_neq rfl rfl ?_
  refine wp_iteC rfl (fun c0 => ?_) (fun c0 => ?_)
  · have q0 := deq_len i_a i_b (len_ne c0)
    refine wp_retTo (d' := dB (false)) rfl (db_congr ?_)
    ((try simp only [deq_leaf, deq_agg, deqs_nil, deqs_cons, veq_int, veq_bool, veq_str] at q0 ⊢); grind)
  · have l_a_b := len_of c0
    refine wp_bindE (ρ' := [_, _, _, _, _, dI ((a.es.length : Nat) : Int)]) (sh_len i_a) rfl rfl ?_
    refine wp_jumpTo rfl ?_
    refine loop_eq2 (ρ := fun i1 => [a, b, dI ((a.es.length : Nat) : Int), dI ((i1 : Nat) : Int)]) i_a i_b l_a_b (fun q1 => ?_) ?_ (fun q1 => ?_)
    · ((try simp only [deq_leaf, deq_agg, deqs_nil, deqs_cons, veq_int, veq_bool, veq_str] at q1 ⊢); grind)
    · intro i1 x1 y1 e_x1 e_y1 hi1 hj1
      obtain ⟨_, rfl, _, _, rfl, ⟨x1_0, rfl⟩, _, _, rfl, ⟨x1_1, rfl⟩, _, _, rfl, ⟨x1_2, rfl⟩, rfl⟩ := elem_of h_a e_x1
      obtain ⟨_, rfl, _, _, rfl, ⟨y1_0, rfl⟩, _, _, rfl, ⟨y1_1, rfl⟩, _, _, rfl, ⟨y1_2, rfl⟩, rfl⟩ := elem_of h_b e_y1
      show wp _ _ _ u59T1 _
      refine wp_bindE (ρ' := [_, _, _, _, _]) sh_lss rfl rfl ?_
      refine wp_iteB rfl ?_
      rw [lt_true (show i1 < a.es.length by omega)]
      refine ite_t ?_
      refine wp_bindE (ρ' := [_, _, _, _, _, dB (true)]) (sh_inr e_x1) rfl rfl ?_
      refine wp_bindE (ρ' := [_, _, _, _, _, _, .agg [dI x1_0, dI x1_1, dI x1_2]]) (sh_elemW i_a e_x1 rfl) rfl rfl ?_
      refine wp_bindE (ρ' := [_, _, _, _, _, _, _, dB (true)]) (sh_inr e_y1) rfl rfl ?_
      refine wp_bindE (ρ' := [_, _, _, _, _, _, _, _, .agg [dI y1_0, dI y1_1, dI y1_2]]) (sh_elemW i_b e_y1 rfl) rfl rfl ?_
      refine wp_bindE (ρ' := [_, _, _, _, _, _, _, _, _, dB (!(deqs [dI x1_0, dI x1_1, dI x1_2] [dI y1_0, dI y1_1, dI y1_2]))]) (sh_cmpS .neq (.inl rfl) ty154 st154 le4 gu154 rfl (shs_cons sh_int (shs_cons sh_int (shs_cons sh_int shs_nil))) (shs_cons sh_int (shs_cons sh_int (shs_cons sh_int shs_nil)))) rfl rfl ?_
      refine wp_iteC rfl (fun c2 => ?_) (fun c2 => ?_)
      · skip
        refine wp_retR rfl ?_
        clear hi1 hj1; ((try simp only [deq_leaf, deq_agg, deqs_nil, deqs_cons, veq_int] at c2 ⊢); grind)
      · skip
        refine wp_bindE (ρ' := [_, _, _, _, _, _, _, _, _, _, dI ((i1 + 1 : Nat) : Int)]) (sh_add hj1) rfl rfl ?_
        refine wp_jumpR rfl ?_
        clear hi1 hj1; ((try simp only [deq_leaf, deq_agg, deqs_nil, deqs_cons, veq_int] at c2 ⊢); grind)
    · show wp _ _ _ u59T1 _
      refine wp_bindE (ρ' := [_, _, _, _, _]) sh_lss rfl rfl ?_
      refine wp_iteB rfl ?_
      rw [lt_false]
      refine ite_f ?_
      refine wp_retTo (d' := dB (true)) rfl (db_congr ?_)
      ((try simp only [deq_leaf, deq_agg, deqs_nil, deqs_cons, veq_int, veq_bool, veq_str] at q1 ⊢); grind)
/- 58 langdoc/decide.Same$1 -/
theorem h58 {a b : D} (h_a : HasSh (.st [.int .i64, .int .i64, .bool, .sl 154 3 (.st [.int .i64, .int .i64, .int .i64])]) a) (h_b : HasSh (.st [.int .i64, .int .i64, .bool, .sl 154 3 (.st [.int .i64, .int .i64, .int .i64])]) b) : Holds EE 58 [a, b] (dB (deq a b)) := by
  refine u58 rfl (Goes.step' ?_)
  obtain ⟨_, rfl, _, _, rfl, ⟨a_0, rfl⟩, _, _, rfl, ⟨a_1, rfl⟩, _, _, rfl, ⟨a_2, rfl⟩, a_3, _, rfl, h_a_3, rfl⟩ := h_a
  have i_a_3 := isSl_of h_a_3
  obtain ⟨_, rfl, _, _, rfl, ⟨b_0, rfl⟩, _, _, rfl, ⟨b_1, rfl⟩, _, _, rfl, ⟨b_2, rfl⟩, b_3, _, rfl, h_b_3, rfl⟩ := h_b
  have i_b_3 := isSl_of h_b_3
  show wp _ _ _ u58T0 _
  refine wp_bindE (ρ' := [_, _, .agg [dI a_0, dI a_1, dB (a_2), a_3]]) (sh_chkW rfl) rfl rfl ?_
  refine wp_bindE (ρ' := [_, _, _, .agg [dI b_0, dI b_1, dB (b_2), b_3]]) (sh_chkW rfl) rfl rfl ?_
  refine wp_bindE (ρ' := [_, _, _, _, .agg [dI a_0, dI a_1]]) (sh_fldA rfl) rfl rfl ?_
  refine wp_bindE (ρ' := [_, _, _, _, _, .agg [dI b_0, dI b_1]]) (sh_fldA rfl) rfl rfl ?_
  refine wp_bindE (ρ' := [_, _, _, _, _, _, dB (deqs [dI a_0, dI a_1] [dI b_0, dI b_1])]) (sh_cmpS .eql (.inr rfl) ty74 st74 le4 gu74 rfl (shs_cons sh_int (shs_cons sh_int shs_nil)) (shs_cons sh_int (shs_cons sh_int shs_nil))) rfl rfl ?_
  refine wp_iteC rfl (fun c0 => ?_) (fun c0 => ?_)
  · skip
    refine wp_bindE (ρ' := [_, _, _, _, _, _, _, dB (a_2)]) (sh_fld1 (off := 2) rfl rfl) rfl rfl ?_
    refine wp_bindE (ρ' := [_, _, _, _, _, _, _, _, dB (b_2)]) (sh_fld1 (off := 2) rfl rfl) rfl rfl ?_
    refine wp_bindE (ρ' := [_, _, _, _, _, _, _, _, _, dB (decide (a_2 = b_2))]) (sh_cmpB .eql (.inr rfl) ty4 st4) rfl rfl ?_
    refine wp_iteC rfl (fun c1 => ?_) (fun c1 => ?_)
    · skip
      refine wp_bindE (ρ' := [_, _, _, _, _, _, _, _, _, _, a_3]) (sh_fld1 (off := 3) rfl i_a_3.one) rfl rfl ?_
      refine wp_bindE (ρ' := [_, _, _, _, _, _, _, _, _, _, _, b_3]) (sh_fld1 (off := 3) rfl i_b_3.one) rfl rfl ?_
      refine wp_callE (ρ' := [_, _, _, _, _, _, _, _, _, _, _, _, dB (deq (a_3) (b_3))]) (h59 h_a_3 h_b_3) rfl rfl rfl rfl ?_
      refine wp_retTo (d' := dB (deq (a_3) (b_3))) rfl (db_congr ?_)
      ((try simp only [deq_leaf, deq_agg, deqs_nil, deqs_cons, veq_int, veq_bool] at c1 c0 ⊢); grind)
    · skip
      refine wp_retTo (d' := dB (false)) rfl (db_congr ?_)
      ((try simp only [deq_leaf, deq_agg, deqs_nil, deqs_cons, veq_int, veq_bool] at c1 c0 ⊢); grind)
  · skip
    refine wp_retTo (d' := dB (false)) rfl (db_congr ?_)
    ((try simp only [deq_leaf, deq_agg, deqs_nil, deqs_cons, veq_int, veq_bool] at c0 ⊢); grind)
/- 17 langdoc/decide.Same -/
theorem h17 {a b : D} (h_a : HasSh (.sl 117 4 (.st [.int .i64, .int .i64, .bool, .sl 154 3 (.st [.int .i64, .int .i64, .int .i64])])) a) (h_b : HasSh (.sl 117 4 (.st [.int .i64, .int .i64, .bool, .sl 154 3 (.st [.int .i64, .int .i64, .int .i64])])) b) : Holds EE 17 [a, b] (dB (deq a b)) := by
  refine u17 rfl (Goes.step' ?_)
  have i_a := isSl_of h_a
  have i_b := isSl_of h_b
  show wp _ _ _ u17T0 _
  refine wp_callE (ρ' := [_, _, dB (deq (a) (b))]) (h57 h_a h_b (fun x y hx hy => h58 hx hy)) rfl rfl rfl rfl ?_
  refine wp_retTo (d' := dB (deq (a) (b))) rfl (db_congr ?_)
  (first | rfl | ((try simp only [deq_leaf, deq_agg, deqs_nil, deqs_cons, veq_int, veq_bool, veq_str]); first | rfl | grind))
/- 18 slices.EqualFunc[[]langdoc/api.Point,[]langdoc/api.Point,langdoc/api.Point,langdoc/api.Point] -/
theorem h18 {a b : D} {g : Nat} (h_a : HasSh (.sl 71 5 (.st [.int .i64, .str, .str, .sl 3 1 (.int .i64), .sl 74 2 (.st [.int .i64, .int .i64])])) a) (h_b : HasSh (.sl 71 5 (.st [.int .i64, .str, .str, .sl 3 1 (.int .i64), .sl 74 2 (.st [.int .i64, .int .i64])])) b) (hp : ∀ x y, HasSh (.st [.int .i64, .str, .str, .sl 3 1 (.int .i64), .sl 74 2 (.st [.int .i64, .int .i64])]) x → HasSh (.st [.int .i64, .str, .str, .sl 3 1 (.int .i64), .sl 74 2 (.st [.int .i64, .int .i64])]) y → Holds EE g [x, y] (dB (deq x y))) : Holds EE 18 [a, b, .clo (.func g) [] []] (dB (deq a b)) := by
  refine u18 rfl (Goes.step' ?_)
  have i_a := isSl_of h_a
  have i_b := isSl_of h_b
  show wp _ _ _ u18T0 _
  refine wp_bindE (ρ' := [_, _, _, dI ((a.es.length : Nat) : Int)]) (sh_len i_a) rfl rfl ?_
  refine wp_bindE (ρ' := [_, _, _, _, dI ((b.es.length : Nat) : Int)]) (sh_len i_b) rfl rfl ?_
  refine wp_bindE (ρ' := [_, _, _, _, _, _]) sh_neq rfl rfl ?_
  refine wp_iteC rfl (fun c0 => ?_) (fun c0 => ?_)
  · have q0 := deq_len i_a i_b (len_ne c0)
    refine wp_retTo (d' := dB (false)) rfl (db_congr ?_)
    ((try simp only [deq_leaf, deq_agg, deqs_nil, deqs_cons, veq_int, veq_bool, veq_str] at q0 ⊢); grind)
  · have l_a_b := len_of c0
    refine wp_bindE (ρ' := [_, _, _, _, _, _, dI ((a.es.length : Nat) : Int)]) (sh_len i_a) rfl rfl ?_
    refine wp_jumpTo rfl ?_
    refine loop_eq2 (ρ := fun i1 => [b, (.clo (.func g) [] []), a, dI ((a.es.length : Nat) : Int), dI ((i1 : Nat) : Int)]) i_a i_b l_a_b (fun q1 => ?_) ?_ (fun q1 => ?_)
    · ((try simp only [deq_leaf, deq_agg, deqs_nil, deqs_cons, veq_int, veq_bool, veq_str] at q1 ⊢); grind)
    · intro i1 x1 y1 e_x1 e_y1 hi1 hj1
      obtain ⟨_, rfl, _, _, rfl, ⟨x1_0, rfl⟩, _, _, rfl, ⟨x1_1, rfl⟩, _, _, rfl, ⟨x1_2, rfl⟩, x1_3, _, rfl, h_x1_3, x1_4, _, rfl, h_x1_4, rfl⟩ := elem_of h_a e_x1
      have i_x1_3 := isSl_of h_x1_3
      have i_x1_4 := isSl_of h_x1_4
      obtain ⟨_, rfl, _, _, rfl, ⟨y1_0, rfl⟩, _, _, rfl, ⟨y1_1, rfl⟩, _, _, rfl, ⟨y1_2, rfl⟩, y1_3, _, rfl, h_y1_3, y1_4, _, rfl, h_y1_4, rfl⟩ := elem_of h_b e_y1
      have i_y1_3 := isSl_of h_y1_3
      have i_y1_4 := isSl_of h_y1_4
      show wp _ _ _ u18T1 _
      refine wp_bindE (ρ' := [_, _, _, _, _, _]) sh_lss rfl rfl ?_
      refine wp_iteB rfl ?_
      rw [lt_true (show i1 < a.es.length by omega)]
      refine ite_t ?_
      refine wp_bindE (ρ' := [_, _, _, _, _, _, dB (true)]) (sh_inr e_x1) rfl rfl ?_
      refine wp_bindE (ρ' := [_, _, _, _, _, _, _, .agg [dI x1_0, .leaf (.string x1_1), .leaf (.string x1_2), x1_3, x1_4]]) (sh_elemW i_a e_x1 rfl) rfl rfl ?_
      refine wp_bindE (ρ' := [_, _, _, _, _, _, _, _, .agg [dI x1_0, .leaf (.string x1_1), .leaf (.string x1_2), x1_3, x1_4]]) (sh_chkW rfl) rfl rfl ?_
      refine wp_bindE (ρ' := [_, _, _, _, _, _, _, _, _, dB (true)]) (sh_inr e_y1) rfl rfl ?_
      refine wp_bindE (ρ' := [_, _, _, _, _, _, _, _, _, _, .agg [dI y1_0, .leaf (.string y1_1), .leaf (.string y1_2), y1_3, y1_4]]) (sh_elemW i_b e_y1 rfl) rfl rfl ?_
      refine wp_bindE (ρ' := [_, _, _, _, _, _, _, _, _, _, _, .agg [dI y1_0, .leaf (.string y1_1), .leaf (.string y1_2), y1_3, y1_4]]) (sh_chkW rfl) rfl rfl ?_
      refine wp_callE (ρ' := [_, _, _, _, _, _, _, _, _, _, _, _, dB (deq (.agg [dI x1_0, .leaf (.string x1_1), .leaf (.string x1_2), x1_3, x1_4]) (.agg [dI y1_0, .leaf (.string y1_1), .leaf (.string y1_2), y1_3, y1_4]))]) (hp _ _ (sh_st (shs_cons sh_int (shs_cons sh_str (shs_cons sh_str (shs_cons h_x1_3 (shs_cons h_x1_4 shs_nil)))))) (sh_st (shs_cons sh_int (shs_cons sh_str (shs_cons sh_str (shs_cons h_y1_3 (shs_cons h_y1_4 shs_nil))))))) rfl rfl rfl rfl ?_
      refine wp_bindE (ρ' := [_, _, _, _, _, _, _, _, _, _, _, _, _, dB (!(deq (.agg [dI x1_0, .leaf (.string x1_1), .leaf (.string x1_2), x1_3, x1_4]) (.agg [dI y1_0, .leaf (.string y1_1), .leaf (.string y1_2), y1_3, y1_4])))]) sh_not rfl rfl ?_
      refine wp_iteC rfl (fun c2 => ?_) (fun c2 => ?_)
      · skip
        refine wp_retR rfl ?_
        clear hi1 hj1; ((try simp only [deq_leaf, deq_agg, deqs_nil, deqs_cons, veq_int, veq_str] at c2 ⊢); grind)
      · skip
        refine wp_bindE (ρ' := [_, _, _, _, _, _, _, _, _, _, _, _, _, _, dI ((i1 + 1 : Nat) : Int)]) (sh_add hj1) rfl rfl ?_
        refine wp_jumpR rfl ?_
        clear hi1 hj1; ((try simp only [deq_leaf, deq_agg, deqs_nil, deqs_cons, veq_int, veq_str] at c2 ⊢); grind)
    · show wp _ _ _ u18T1 _
      refine wp_bindE (ρ' := [_, _, _, _, _, _]) sh_lss rfl rfl ?_
      refine wp_iteB rfl ?_
      rw [lt_false]
      refine ite_f ?_
      refine wp_retTo (d' := dB (true)) rfl (db_congr ?_)
      ((try simp only [deq_leaf, deq_agg, deqs_nil, deqs_cons, veq_int, veq_bool, veq_str] at q1 ⊢); grind)
/- 19 langdoc/withdraw.samePoint -/
theorem h19 {a b : D} (h_a : HasSh (.st [.int .i64, .str, .str, .sl 3 1 (.int .i64), .sl 74 2 (.st [.int .i64, .int .i64])]) a) (h_b : HasSh (.st [.int .i64, .str, .str, .sl 3 1 (.int .i64), .sl 74 2 (.st [.int .i64, .int .i64])]) b) : Holds EE 19 [a, b] (dB (deq a b)) := by
  refine u19 rfl (Goes.step' ?_)
  obtain ⟨_, rfl, _, _, rfl, ⟨a_0, rfl⟩, _, _, rfl, ⟨a_1, rfl⟩, _, _, rfl, ⟨a_2, rfl⟩, a_3, _, rfl, h_a_3, a_4, _, rfl, h_a_4, rfl⟩ := h_a
  have i_a_3 := isSl_of h_a_3
  have i_a_4 := isSl_of h_a_4
  obtain ⟨_, rfl, _, _, rfl, ⟨b_0, rfl⟩, _, _, rfl, ⟨b_1, rfl⟩, _, _, rfl, ⟨b_2, rfl⟩, b_3, _, rfl, h_b_3, b_4, _, rfl, h_b_4, rfl⟩ := h_b
  have i_b_3 := isSl_of h_b_3
  have i_b_4 := isSl_of h_b_4
  show wp _ _ _ u19T0 _
  refine wp_bindE (ρ' := [_, _, .agg [dI a_0, .leaf (.string a_1), .leaf (.string a_2), a_3, a_4]]) (sh_chkW rfl) rfl rfl ?_
  refine wp_bindE (ρ' := [_, _, _, .agg [dI b_0, .leaf (.string b_1), .leaf (.string b_2), b_3, b_4]]) (sh_chkW rfl) rfl rfl ?_
  refine wp_bindE (ρ' := [_, _, _, _, dI a_0]) (sh_fld1 (off := 0) rfl rfl) rfl rfl ?_
  refine wp_bindE (ρ' := [_, _, _, _, _, dI b_0]) (sh_fld1 (off := 0) rfl rfl) rfl rfl ?_
  refine wp_bindE (ρ' := [_, _, _, _, _, _, dB (a_0 == b_0)]) sh_eql rfl rfl ?_
  refine wp_iteC rfl (fun c0 => ?_) (fun c0 => ?_)
  · skip
    refine wp_bindE (ρ' := [_, _, _, _, _, _, _, .leaf (.string a_1)]) (sh_fld1 (off := 1) rfl rfl) rfl rfl ?_
    refine wp_bindE (ρ' := [_, _, _, _, _, _, _, _, .leaf (.string b_1)]) (sh_fld1 (off := 1) rfl rfl) rfl rfl ?_
    refine wp_bindE (ρ' := [_, _, _, _, _, _, _, _, _, dB (a_1 == b_1)]) sh_strE rfl rfl ?_
    refine wp_iteC rfl (fun c1 => ?_) (fun c1 => ?_)
    · skip
      refine wp_bindE (ρ' := [_, _, _, _, _, _, _, _, _, _, .leaf (.string a_2)]) (sh_fld1 (off := 2) rfl rfl) rfl rfl ?_
      refine wp_bindE (ρ' := [_, _, _, _, _, _, _, _, _, _, _, .leaf (.string b_2)]) (sh_fld1 (off := 2) rfl rfl) rfl rfl ?_
      refine wp_bindE (ρ' := [_, _, _, _, _, _, _, _, _, _, _, _, dB (a_2 == b_2)]) sh_strE rfl rfl ?_
      refine wp_iteC rfl (fun c2 => ?_) (fun c2 => ?_)
      · skip
        refine wp_bindE (ρ' := [_, _, _, _, _, _, _, _, _, _, _, _, _, a_3]) (sh_fld1 (off := 3) rfl i_a_3.one) rfl rfl ?_
        refine wp_bindE (ρ' := [_, _, _, _, _, _, _, _, _, _, _, _, _, _, b_3]) (sh_fld1 (off := 3) rfl i_b_3.one) rfl rfl ?_
        refine wp_callE (ρ' := [_, _, _, _, _, _, _, _, _, _, _, _, _, _, _, dB (deq (a_3) (b_3))]) (h45 h_a_3 h_b_3) rfl rfl rfl rfl ?_
        refine wp_iteC rfl (fun c3 => ?_) (fun c3 => ?_)
        · skip
          refine wp_bindE (ρ' := [_, _, _, _, _, _, _, _, _, _, _, _, _, _, _, _, a_4]) (sh_fld1 (off := 4) rfl i_a_4.one) rfl rfl ?_
          refine wp_bindE (ρ' := [_, _, _, _, _, _, _, _, _, _, _, _, _, _, _, _, _, b_4]) (sh_fld1 (off := 4) rfl i_b_4.one) rfl rfl ?_
          refine wp_callE (ρ' := [_, _, _, _, _, _, _, _, _, _, _, _, _, _, _, _, _, _, dB (deq (a_4) (b_4))]) (h60 h_a_4 h_b_4) rfl rfl rfl rfl ?_
          refine wp_retTo (d' := dB (deq (a_4) (b_4))) rfl (db_congr ?_)
          ((try simp only [deq_leaf, deq_agg, deqs_nil, deqs_cons, veq_int, veq_str] at c3 c2 c1 c0 ⊢); grind)
        · skip
          refine wp_retTo (d' := dB (false)) rfl (db_congr ?_)
          ((try simp only [deq_leaf, deq_agg, deqs_nil, deqs_cons, veq_int, veq_str] at c3 c2 c1 c0 ⊢); grind)
      · skip
        refine wp_retTo (d' := dB (false)) rfl (db_congr ?_)
        ((try simp only [deq_leaf, deq_agg, deqs_nil, deqs_cons, veq_int, veq_str] at c2 c1 c0 ⊢); grind)
    · skip
      refine wp_retTo (d' := dB (false)) rfl (db_congr ?_)
      ((try simp only [deq_leaf, deq_agg, deqs_nil, deqs_cons, veq_int, veq_str] at c1 c0 ⊢); grind)
  · skip
    refine wp_retTo (d' := dB (false)) rfl (db_congr ?_)
    ((try simp only [deq_leaf, deq_agg, deqs_nil, deqs_cons, veq_int, veq_str] at c0 ⊢); grind)
/- 61 langdoc/withdraw.sameRights$1 -/
theorem h61 {a b : D} (h_a : HasSh (.st [.int .i64, .str, .sl 3 1 (.int .i64), .sl 3 1 (.int .i64)]) a) (h_b : HasSh (.st [.int .i64, .str, .sl 3 1 (.int .i64), .sl 3 1 (.int .i64)]) b) : Holds EE 61 [a, b] (dB (deq a b)) := by
  refine u61 rfl (Goes.step' ?_)
  obtain ⟨_, rfl, _, _, rfl, ⟨a_0, rfl⟩, _, _, rfl, ⟨a_1, rfl⟩, a_2, _, rfl, h_a_2, a_3, _, rfl, h_a_3, rfl⟩ := h_a
  have i_a_2 := isSl_of h_a_2
  have i_a_3 := isSl_of h_a_3
  obtain ⟨_, rfl, _, _, rfl, ⟨b_0, rfl⟩, _, _, rfl, ⟨b_1, rfl⟩, b_2, _, rfl, h_b_2, b_3, _, rfl, h_b_3, rfl⟩ := h_b
  have i_b_2 := isSl_of h_b_2
  have i_b_3 := isSl_of h_b_3
  show wp _ _ _ u61T0 _
  refine wp_bindE (ρ' := [_, _, .agg [dI a_0, .leaf (.string a_1), a_2, a_3]]) (sh_chkW rfl) rfl rfl ?_
  refine wp_bindE (ρ' := [_, _, _, .agg [dI b_0, .leaf (.string b_1), b_2, b_3]]) (sh_chkW rfl) rfl rfl ?_
  refine wp_bindE (ρ' := [_, _, _, _, dI a_0]) (sh_fld1 (off := 0) rfl rfl) rfl rfl ?_
  refine wp_bindE (ρ' := [_, _, _, _, _, dI b_0]) (sh_fld1 (off := 0) rfl rfl) rfl rfl ?_
  refine wp_bindE (ρ' := [_, _, _, _, _, _, dB (a_0 == b_0)]) sh_eql rfl rfl ?_
  refine wp_iteC rfl (fun c0 => ?_) (fun c0 => ?_)
  · skip
    refine wp_bindE (ρ' := [_, _, _, _, _, _, _, .leaf (.string a_1)]) (sh_fld1 (off := 1) rfl rfl) rfl rfl ?_
    refine wp_bindE (ρ' := [_, _, _, _, _, _, _, _, .leaf (.string b_1)]) (sh_fld1 (off := 1) rfl rfl) rfl rfl ?_
    refine wp_bindE (ρ' := [_, _, _, _, _, _, _, _, _, dB (a_1 == b_1)]) sh_strE rfl rfl ?_
    refine wp_iteC rfl (fun c1 => ?_) (fun c1 => ?_)
    · skip
      refine wp_bindE (ρ' := [_, _, _, _, _, _, _, _, _, _, a_2]) (sh_fld1 (off := 2) rfl i_a_2.one) rfl rfl ?_
      refine wp_bindE (ρ' := [_, _, _, _, _, _, _, _, _, _, _, b_2]) (sh_fld1 (off := 2) rfl i_b_2.one) rfl rfl ?_
      refine wp_callE (ρ' := [_, _, _, _, _, _, _, _, _, _, _, _, dB (deq (a_2) (b_2))]) (h45 h_a_2 h_b_2) rfl rfl rfl rfl ?_
      refine wp_iteC rfl (fun c2 => ?_) (fun c2 => ?_)
      · skip
        refine wp_bindE (ρ' := [_, _, _, _, _, _, _, _, _, _, _, _, _, a_3]) (sh_fld1 (off := 3) rfl i_a_3.one) rfl rfl ?_
        refine wp_bindE (ρ' := [_, _, _, _, _, _, _, _, _, _, _, _, _, _, b_3]) (sh_fld1 (off := 3) rfl i_b_3.one) rfl rfl ?_
        refine wp_callE (ρ' := [_, _, _, _, _, _, _, _, _, _, _, _, _, _, _, dB (deq (a_3) (b_3))]) (h45 h_a_3 h_b_3) rfl rfl rfl rfl ?_
        refine wp_retTo (d' := dB (deq (a_3) (b_3))) rfl (db_congr ?_)
        ((try simp only [deq_leaf, deq_agg, deqs_nil, deqs_cons, veq_int, veq_str] at c2 c1 c0 ⊢); grind)
      · skip
        refine wp_retTo (d' := dB (false)) rfl (db_congr ?_)
        ((try simp only [deq_leaf, deq_agg, deqs_nil, deqs_cons, veq_int, veq_str] at c2 c1 c0 ⊢); grind)
    · skip
      refine wp_retTo (d' := dB (false)) rfl (db_congr ?_)
      ((try simp only [deq_leaf, deq_agg, deqs_nil, deqs_cons, veq_int, veq_str] at c1 c0 ⊢); grind)
  · skip
    refine wp_retTo (d' := dB (false)) rfl (db_congr ?_)
    ((try simp only [deq_leaf, deq_agg, deqs_nil, deqs_cons, veq_int, veq_str] at c0 ⊢); grind)
/- 62 langdoc/withdraw.sameRights$2 -/
theorem h62 {a b : D} (h_a : HasSh (.st [.int .i64, .int .i64, .int .i64, .int .i64, .sl 3 1 (.int .i64), .int .i64]) a) (h_b : HasSh (.st [.int .i64, .int .i64, .int .i64, .int .i64, .sl 3 1 (.int .i64), .int .i64]) b) : Holds EE 62 [a, b] (dB (deq a b)) := by
  refine u62 rfl (Goes.step' ?_)
  obtain ⟨_, rfl, _, _, rfl, ⟨a_0, rfl⟩, _, _, rfl, ⟨a_1, rfl⟩, _, _, rfl, ⟨a_2, rfl⟩, _, _, rfl, ⟨a_3, rfl⟩, a_4, _, rfl, h_a_4, _, _, rfl, ⟨a_5, rfl⟩, rfl⟩ := h_a
  have i_a_4 := isSl_of h_a_4
  obtain ⟨_, rfl, _, _, rfl, ⟨b_0, rfl⟩, _, _, rfl, ⟨b_1, rfl⟩, _, _, rfl, ⟨b_2, rfl⟩, _, _, rfl, ⟨b_3, rfl⟩, b_4, _, rfl, h_b_4, _, _, rfl, ⟨b_5, rfl⟩, rfl⟩ := h_b
  have i_b_4 := isSl_of h_b_4
  show wp _ _ _ u62T0 _
  refine wp_bindE (ρ' := [_, _, .agg [dI a_0, dI a_1, dI a_2, dI a_3, a_4, dI a_5]]) (sh_chkW rfl) rfl rfl ?_
  refine wp_bindE (ρ' := [_, _, _, .agg [dI b_0, dI b_1, dI b_2, dI b_3, b_4, dI b_5]]) (sh_chkW rfl) rfl rfl ?_
  refine wp_bindE (ρ' := [_, _, _, _, dI a_0]) (sh_fld1 (off := 0) rfl rfl) rfl rfl ?_
  refine wp_bindE (ρ' := [_, _, _, _, _, dI b_0]) (sh_fld1 (off := 0) rfl rfl) rfl rfl ?_
  refine wp_bindE (ρ' := [_, _, _, _, _, _, dB (a_0 == b_0)]) sh_eql rfl rfl ?_
  refine wp_iteC rfl (fun c0 => ?_) (fun c0 => ?_)
  · skip
    refine wp_bindE (ρ' := [_, _, _, _, _, _, _, .agg [dI a_1, dI a_2]]) (sh_fldA rfl) rfl rfl ?_
    refine wp_bindE (ρ' := [_, _, _, _, _, _, _, _, .agg [dI b_1, dI b_2]]) (sh_fldA rfl) rfl rfl ?_
    refine wp_bindE (ρ' := [_, _, _, _, _, _, _, _, _, dB (deqs [dI a_1, dI a_2] [dI b_1, dI b_2])]) (sh_cmpS .eql (.inr rfl) ty102 st102 le4 gu102 rfl (shs_cons sh_int (shs_cons sh_int shs_nil)) (shs_cons sh_int (shs_cons sh_int shs_nil))) rfl rfl ?_
    refine wp_iteC rfl (fun c1 => ?_) (fun c1 => ?_)
    · skip
      refine wp_bindE (ρ' := [_, _, _, _, _, _, _, _, _, _, dI a_3]) (sh_fld1 (off := 3) rfl rfl) rfl rfl ?_
      refine wp_bindE (ρ' := [_, _, _, _, _, _, _, _, _, _, _, dI b_3]) (sh_fld1 (off := 3) rfl rfl) rfl rfl ?_
      refine wp_bindE (ρ' := [_, _, _, _, _, _, _, _, _, _, _, _, dB (a_3 == b_3)]) sh_eql rfl rfl ?_
      refine wp_iteC rfl (fun c2 => ?_) (fun c2 => ?_)
      · skip
        refine wp_bindE (ρ' := [_, _, _, _, _, _, _, _, _, _, _, _, _, dI a_5]) (sh_fld1 (off := 5) rfl rfl) rfl rfl ?_
        refine wp_bindE (ρ' := [_, _, _, _, _, _, _, _, _, _, _, _, _, _, dI b_5]) (sh_fld1 (off := 5) rfl rfl) rfl rfl ?_
        refine wp_bindE (ρ' := [_, _, _, _, _, _, _, _, _, _, _, _, _, _, _, dB (a_5 == b_5)]) sh_eql rfl rfl ?_
        refine wp_iteC rfl (fun c3 => ?_) (fun c3 => ?_)
        · skip
          refine wp_bindE (ρ' := [_, _, _, _, _, _, _, _, _, _, _, _, _, _, _, _, a_4]) (sh_fld1 (off := 4) rfl i_a_4.one) rfl rfl ?_
          refine wp_bindE (ρ' := [_, _, _, _, _, _, _, _, _, _, _, _, _, _, _, _, _, b_4]) (sh_fld1 (off := 4) rfl i_b_4.one) rfl rfl ?_
          refine wp_callE (ρ' := [_, _, _, _, _, _, _, _, _, _, _, _, _, _, _, _, _, _, dB (deq (a_4) (b_4))]) (h45 h_a_4 h_b_4) rfl rfl rfl rfl ?_
          refine wp_retTo (d' := dB (deq (a_4) (b_4))) rfl (db_congr ?_)
          ((try simp only [deq_leaf, deq_agg, deqs_nil, deqs_cons, veq_int] at c3 c2 c1 c0 ⊢); grind)
        · skip
          refine wp_retTo (d' := dB (false)) rfl (db_congr ?_)
          ((try simp only [deq_leaf, deq_agg, deqs_nil, deqs_cons, veq_int] at c3 c2 c1 c0 ⊢); grind)
      · skip
        refine wp_retTo (d' := dB (false)) rfl (db_congr ?_)
        ((try simp only [deq_leaf, deq_agg, deqs_nil, deqs_cons, veq_int] at c2 c1 c0 ⊢); grind)
    · skip
      refine wp_retTo (d' := dB (false)) rfl (db_congr ?_)
      ((try simp only [deq_leaf, deq_agg, deqs_nil, deqs_cons, veq_int] at c1 c0 ⊢); grind)
  · skip
    refine wp_retTo (d' := dB (false)) rfl (db_congr ?_)
    ((try simp only [deq_leaf, deq_agg, deqs_nil, deqs_cons, veq_int] at c0 ⊢); grind)
/- 63 slices.Equal[[]langdoc/api.Person,langdoc/api.Person] -/
theorem h63 {a b : D} (h_a : HasSh (.sl 96 3 (.st [.int .i64, .str, .bool])) a) (h_b : HasSh (.sl 96 3 (.st [.int .i64, .str, .bool])) b) : Holds EE 63 [a, b] (dB (deq a b)) := by
  refine u63 rfl (Goes.step' ?_)
  have i_a := isSl_of h_a
  have i_b := isSl_of h_b
  show wp _ _ _ u63T0 _
  refine wp_bindE (ρ' := [_, _, dI ((a.es.length : Nat) : Int)]) (sh_len i_a) rfl rfl ?_
  refine wp_bindE (ρ' := [_, _, _, dI ((b.es.length : Nat) : Int)]) (sh_len i_b) rfl rfl ?_
  refine wp_bindE (ρ' := [_, _, _, _, _]) sh_neq rfl rfl ?_
  refine wp_iteC rfl (fun c0 => ?_) (fun c0 => ?_)
  · have q0 := deq_len i_a i_b (len_ne c0)
    refine wp_retTo (d' := dB (false)) rfl (db_congr ?_)
    ((try simp only [deq_leaf, deq_agg, deqs_nil, deqs_cons, veq_int, veq_bool, veq_str] at q0 ⊢); grind)
  · have l_a_b := len_of c0
    refine wp_bindE (ρ' := [_, _, _, _, _, dI ((a.es.length : Nat) : Int)]) (sh_len i_a) rfl rfl ?_
    refine wp_jumpTo rfl ?_
    refine loop_eq2 (ρ := fun i1 => [a, b, dI ((a.es.length : Nat) : Int), dI ((i1 : Nat) : Int)]) i_a i_b l_a_b (fun q1 => ?_) ?_ (fun q1 => ?_)
    · ((try simp only [deq_leaf, deq_agg, deqs_nil, deqs_cons, veq_int, veq_bool, veq_str] at q1 ⊢); grind)
    · intro i1 x1 y1 e_x1 e_y1 hi1 hj1
      obtain ⟨_, rfl, _, _, rfl, ⟨x1_0, rfl⟩, _, _, rfl, ⟨x1_1, rfl⟩, _, _, rfl, ⟨x1_2, rfl⟩, rfl⟩ := elem_of h_a e_x1
      obtain ⟨_, rfl, _, _, rfl, ⟨y1_0, rfl⟩, _, _, rfl, ⟨y1_1, rfl⟩, _, _, rfl, ⟨y1_2, rfl⟩, rfl⟩ := elem_of h_b e_y1
      show wp _ _ _ u63T1 _
      refine wp_bindE (ρ' := [_, _, _, _, _]) sh_lss rfl rfl ?_
      refine wp_iteB rfl ?_
      rw [lt_true (show i1 < a.es.length by omega)]
      refine ite_t ?_
      refine wp_bindE (ρ' := [_, _, _, _, _, dB (true)]) (sh_inr e_x1) rfl rfl ?_
      refine wp_bindE (ρ' := [_, _, _, _, _, _, .agg [dI x1_0, .leaf (.string x1_1), dB (x1_2)]]) (sh_elemW i_a e_x1 rfl) rfl rfl ?_
      refine wp_bindE (ρ' := [_, _, _, _, _, _, _, dB (true)]) (sh_inr e_y1) rfl rfl ?_
      refine wp_bindE (ρ' := [_, _, _, _, _, _, _, _, .agg [dI y1_0, .leaf (.string y1_1), dB (y1_2)]]) (sh_elemW i_b e_y1 rfl) rfl rfl ?_
      refine wp_bindE (ρ' := [_, _, _, _, _, _, _, _, _, dB (!(deqs [dI x1_0, .leaf (.string x1_1), dB (x1_2)] [dI y1_0, .leaf (.string y1_1), dB (y1_2)]))]) (sh_cmpS .neq (.inl rfl) ty96 st96 le4 gu96 rfl (shs_cons sh_int (shs_cons sh_str (shs_cons sh_bool shs_nil))) (shs_cons sh_int (shs_cons sh_str (shs_cons sh_bool shs_nil)))) rfl rfl ?_
      refine wp_iteC rfl (fun c2 => ?_) (fun c2 => ?_)
      · skip
        refine wp_retR rfl ?_
        clear hi1 hj1; ((try simp only [deq_leaf, deq_agg, deqs_nil, deqs_cons, veq_int, veq_bool, veq_str] at c2 ⊢); grind)
      · skip
        refine wp_bindE (ρ' := [_, _, _, _, _, _, _, _, _, _, dI ((i1 + 1 : Nat) : Int)]) (sh_add hj1) rfl rfl ?_
        refine wp_jumpR rfl ?_
        clear hi1 hj1; ((try simp only [deq_leaf, deq_agg, deqs_nil, deqs_cons, veq_int, veq_bool, veq_str] at c2 ⊢); grind)
    · show wp _ _ _ u63T1 _
      refine wp_bindE (ρ' := [_, _, _, _, _]) sh_lss rfl rfl ?_
      refine wp_iteB rfl ?_
      rw [lt_false]
      refine ite_f ?_
      refine wp_retTo (d' := dB (true)) rfl (db_congr ?_)
      ((try simp only [deq_leaf, deq_agg, deqs_nil, deqs_cons, veq_int, veq_bool, veq_str] at q1 ⊢); grind)
/- 64 slices.EqualFunc[[]langdoc/api.Group,[]langdoc/api.Group,langdoc/api.Group,langdoc/api.Group] -/
theorem h64 {a b : D} {g : Nat} (h_a : HasSh (.sl 158 4 (.st [.int .i64, .str, .sl 3 1 (.int .i64), .sl 3 1 (.int .i64)])) a) (h_b : HasSh (.sl 158 4 (.st [.int .i64, .str, .sl 3 1 (.int .i64), .sl 3 1 (.int .i64)])) b) (hp : ∀ x y, HasSh (.st [.int .i64, .str, .sl 3 1 (.int .i64), .sl 3 1 (.int .i64)]) x → HasSh (.st [.int .i64, .str, .sl 3 1 (.int .i64), .sl 3 1 (.int .i64)]) y → Holds EE g [x, y] (dB (deq x y))) : Holds EE 64 [a, b, .clo (.func g) [] []] (dB (deq a b)) := by
  refine u64 rfl (Goes.step' ?_)
  have i_a := isSl_of h_a
  have i_b := isSl_of h_b
  show wp _ _ _ u64T0 _
  refine wp_bindE (ρ' := [_, _, _, dI ((a.es.length : Nat) : Int)]) (sh_len i_a) rfl rfl ?_
  refine wp_bindE (ρ' := [_, _, _, _, dI ((b.es.length : Nat) : Int)]) (sh_len i_b) rfl rfl ?_
  refine wp_bindE (ρ' := [_, _, _, _, _, _]) sh_neq rfl rfl ?_
  refine wp_iteC rfl (fun c0 => ?_) (fun c0 => ?_)
  · have q0 := deq_len i_a i_b (len_ne c0)
    refine wp_retTo (d' := dB (false)) rfl (db_congr ?_)
    ((try simp only [deq_leaf, deq_agg, deqs_nil, deqs_cons, veq_int, veq_bool, veq_str] at q0 ⊢); grind)
  · have l_a_b := len_of c0
    refine wp_bindE (ρ' := [_, _, _, _, _, _, dI ((a.es.length : Nat) : Int)]) (sh_len i_a) rfl rfl ?_
    refine wp_jumpTo rfl ?_
    refine loop_eq2 (ρ := fun i1 => [b, (.clo (.func g) [] []), a, dI ((a.es.length : Nat) : Int), dI ((i1 : Nat) : Int)]) i_a i_b l_a_b (fun q1 => ?_) ?_ (fun q1 => ?_)
    · ((try simp only [deq_leaf, deq_agg, deqs_nil, deqs_cons, veq_int, veq_bool, veq_str] at q1 ⊢); grind)
    · intro i1 x1 y1 e_x1 e_y1 hi1 hj1
      obtain ⟨_, rfl, _, _, rfl, ⟨x1_0, rfl⟩, _, _, rfl, ⟨x1_1, rfl⟩, x1_2, _, rfl, h_x1_2, x1_3, _, rfl, h_x1_3, rfl⟩ := elem_of h_a e_x1
      have i_x1_2 := isSl_of h_x1_2
      have i_x1_3 := isSl_of h_x1_3
      obtain ⟨_, rfl, _, _, rfl, ⟨y1_0, rfl⟩, _, _, rfl, ⟨y1_1, rfl⟩, y1_2, _, rfl, h_y1_2, y1_3, _, rfl, h_y1_3, rfl⟩ := elem_of h_b e_y1
      have i_y1_2 := isSl_of h_y1_2
      have i_y1_3 := isSl_of h_y1_3
      show wp _ _ _ u64T1 _
      refine wp_bindE (ρ' := [_, _, _, _, _, _]) sh_lss rfl rfl ?_
      refine wp_iteB rfl ?_
      rw [lt_true (show i1 < a.es.length by omega)]
      refine ite_t ?_
      refine wp_bindE (ρ' := [_, _, _, _, _, _, dB (true)]) (sh_inr e_x1) rfl rfl ?_
      refine wp_bindE (ρ' := [_, _, _, _, _, _, _, .agg [dI x1_0, .leaf (.string x1_1), x1_2, x1_3]]) (sh_elemW i_a e_x1 rfl) rfl rfl ?_
      refine wp_bindE (ρ' := [_, _, _, _, _, _, _, _, .agg [dI x1_0, .leaf (.string x1_1), x1_2, x1_3]]) (sh_chkW rfl) rfl rfl ?_
      refine wp_bindE (ρ' := [_, _, _, _, _, _, _, _, _, dB (true)]) (sh_inr e_y1) rfl rfl ?_
      refine wp_bindE (ρ' := [_, _, _, _, _, _, _, _, _, _, .agg [dI y1_0, .leaf (.string y1_1), y1_2, y1_3]]) (sh_elemW i_b e_y1 rfl) rfl rfl ?_
      refine wp_bindE (ρ' := [_, _, _, _, _, _, _, _, _, _, _, .agg [dI y1_0, .leaf (.string y1_1), y1_2, y1_3]]) (sh_chkW rfl) rfl rfl ?_
      refine wp_callE (ρ' := [_, _, _, _, _, _, _, _, _, _, _, _, dB (deq (.agg [dI x1_0, .leaf (.string x1_1), x1_2, x1_3]) (.agg [dI y1_0, .leaf (.string y1_1), y1_2, y1_3]))]) (hp _ _ (sh_st (shs_cons sh_int (shs_cons sh_str (shs_cons h_x1_2 (shs_cons h_x1_3 shs_nil))))) (sh_st (shs_cons sh_int (shs_cons sh_str (shs_cons h_y1_2 (shs_cons h_y1_3 shs_nil)))))) rfl rfl rfl rfl ?_
      refine wp_bindE (ρ' := [_, _, _, _, _, _, _, _, _, _, _, _, _, dB (!(deq (.agg [dI x1_0, .leaf (.string x1_1), x1_2, x1_3]) (.agg [dI y1_0, .leaf (.string y1_1), y1_2, y1_3])))]) sh_not rfl rfl ?_
      refine wp_iteC rfl (fun c2 => ?_) (fun c2 => ?_)
      · skip
        refine wp_retR rfl ?_
        clear hi1 hj1; ((try simp only [deq_leaf, deq_agg, deqs_nil, deqs_cons, veq_int, veq_str] at c2 ⊢); grind)
      · skip
        refine wp_bindE (ρ' := [_, _, _, _, _, _, _, _, _, _, _, _, _, _, dI ((i1 + 1 : Nat) : Int)]) (sh_add hj1) rfl rfl ?_
        refine wp_jumpR rfl ?_
        clear hi1 hj1; ((try simp only [deq_leaf, deq_agg, deqs_nil, deqs_cons, veq_int, veq_str] at c2 ⊢); grind)
    · show wp _ _ _ u64T1 _
      refine wp_bindE (ρ' := [_, _, _, _, _, _]) sh_lss rfl rfl ?_
      refine wp_iteB rfl ?_
      rw [lt_false]
      refine ite_f ?_
      refine wp_retTo (d' := dB (true)) rfl (db_congr ?_)
      ((try simp only [deq_leaf, deq_agg, deqs_nil, deqs_cons, veq_int, veq_bool, veq_str] at q1 ⊢); grind)
/- 65 slices.Equal[[]langdoc/api.Consent,langdoc/api.Consent] -/
theorem h65 {a b : D} (h_a : HasSh (.sl 98 4 (.st [.int .i64, .int .i64, .int .i64, .int .i64])) a) (h_b : HasSh (.sl 98 4 (.st [.int .i64, .int .i64, .int .i64, .int .i64])) b) : Holds EE 65 [a, b] (dB (deq a b)) := by
  refine u65 rfl (Goes.step' ?_)
  have i_a := isSl_of h_a
  have i_b := isSl_of h_b
  show wp _ _ _ u65T0 _
  refine wp_bindE (ρ' := [_, _, dI ((a.es.length : Nat) : Int)]) (sh_len i_a) rfl rfl ?_
  refine wp_bindE (ρ' := [_, _, _, dI ((b.es.length : Nat) : Int)]) (sh_len i_b) rfl rfl ?_
  refine wp_bindE (ρ' := [_, _, _, _, _]) sh_neq rfl rfl ?_
  refine wp_iteC rfl (fun c0 => ?_) (fun c0 => ?_)
  · have q0 := deq_len i_a i_b (len_ne c0)
    refine wp_retTo (d' := dB (false)) rfl (db_congr ?_)
    ((try simp only [deq_leaf, deq_agg, deqs_nil, deqs_cons, veq_int, veq_bool, veq_str] at q0 ⊢); grind)
  · have l_a_b := len_of c0
    refine wp_bindE (ρ' := [_, _, _, _, _, dI ((a.es.length : Nat) : Int)]) (sh_len i_a) rfl rfl ?_
    refine wp_jumpTo rfl ?_
    refine loop_eq2 (ρ := fun i1 => [a, b, dI ((a.es.length : Nat) : Int), dI ((i1 : Nat) : Int)]) i_a i_b l_a_b (fun q1 => ?_) ?_ (fun q1 => ?_)
    · ((try simp only [deq_leaf, deq_agg, deqs_nil, deqs_cons, veq_int, veq_bool, veq_str] at q1 ⊢); grind)
    · intro i1 x1 y1 e_x1 e_y1 hi1 hj1
      obtain ⟨_, rfl, _, _, rfl, ⟨x1_0, rfl⟩, _, _, rfl, ⟨x1_1, rfl⟩, _, _, rfl, ⟨x1_2, rfl⟩, _, _, rfl, ⟨x1_3, rfl⟩, rfl⟩ := elem_of h_a e_x1
      obtain ⟨_, rfl, _, _, rfl, ⟨y1_0, rfl⟩, _, _, rfl, ⟨y1_1, rfl⟩, _, _, rfl, ⟨y1_2, rfl⟩, _, _, rfl, ⟨y1_3, rfl⟩, rfl⟩ := elem_of h_b e_y1
      show wp _ _ _ u65T1 _
      refine wp_bindE (ρ' := [_, _, _, _, _]) sh_lss rfl rfl ?_
      refine wp_iteB rfl ?_
      rw [lt_true (show i1 < a.es.length by omega)]
      refine ite_t ?_
      refine wp_bindE (ρ' := [_, _, _, _, _, dB (true)]) (sh_inr e_x1) rfl rfl ?_
      refine wp_bindE (ρ' := [_, _, _, _, _, _, .agg [dI x1_0, dI x1_1, dI x1_2, dI x1_3]]) (sh_elemW i_a e_x1 rfl) rfl rfl ?_
      refine wp_bindE (ρ' := [_, _, _, _, _, _, _, dB (true)]) (sh_inr e_y1) rfl rfl ?_
      refine wp_bindE (ρ' := [_, _, _, _, _, _, _, _, .agg [dI y1_0, dI y1_1, dI y1_2, dI y1_3]]) (sh_elemW i_b e_y1 rfl) rfl rfl ?_
      refine wp_bindE (ρ' := [_, _, _, _, _, _, _, _, _, dB (!(deqs [dI x1_0, dI x1_1, dI x1_2, dI x1_3] [dI y1_0, dI y1_1, dI y1_2, dI y1_3]))]) (sh_cmpS .neq (.inl rfl) ty98 st98 le4 gu98 rfl (shs_cons sh_int (shs_cons sh_int (shs_cons sh_int (shs_cons sh_int shs_nil)))) (shs_cons sh_int (shs_cons sh_int (shs_cons sh_int (shs_cons sh_int shs_nil))))) rfl rfl ?_
      refine wp_iteC rfl (fun c2 => ?_) (fun c2 => ?_)
      · skip
        refine wp_retR rfl ?_
        clear hi1 hj1; ((try simp only [deq_leaf, deq_agg, deqs_nil, deqs_cons, veq_int] at c2 ⊢); grind)
      · skip
        refine wp_bindE (ρ' := [_, _, _, _, _, _, _, _, _, _, dI ((i1 + 1 : Nat) : Int)]) (sh_add hj1) rfl rfl ?_
        refine wp_jumpR rfl ?_
        clear hi1 hj1; ((try simp only [deq_leaf, deq_agg, deqs_nil, deqs_cons, veq_int] at c2 ⊢); grind)
    · show wp _ _ _ u65T1 _
      refine wp_bindE (ρ' := [_, _, _, _, _]) sh_lss rfl rfl ?_
      refine wp_iteB rfl ?_
      rw [lt_false]
      refine ite_f ?_
      refine wp_retTo (d' := dB (true)) rfl (db_congr ?_)
      ((try simp only [deq_leaf, deq_agg, deqs_nil, deqs_cons, veq_int, veq_bool, veq_str] at q1 ⊢); grind)
/- 66 slices.EqualFunc[[]langdoc/api.Rule,[]langdoc/api.Rule,langdoc/api.Rule,langdoc/api.Rule] -/
theorem h66 {a b : D} {g : Nat} (h_a : HasSh (.sl 163 6 (.st [.int .i64, .int .i64, .int .i64, .int .i64, .sl 3 1 (.int .i64), .int .i64])) a) (h_b : HasSh (.sl 163 6 (.st [.int .i64, .int .i64, .int .i64, .int .i64, .sl 3 1 (.int .i64), .int .i64])) b) (hp : ∀ x y, HasSh (.st [.int .i64, .int .i64, .int .i64, .int .i64, .sl 3 1 (.int .i64), .int .i64]) x → HasSh (.st [.int .i64, .int .i64, .int .i64, .int .i64, .sl 3 1 (.int .i64), .int .i64]) y → Holds EE g [x, y] (dB (deq x y))) : Holds EE 66 [a, b, .clo (.func g) [] []] (dB (deq a b)) := by
  refine u66 rfl (Goes.step' ?_)
  have i_a := isSl_of h_a
  have i_b := isSl_of h_b
  show wp _ _ _ u66T0 _
  refine wp_bindE (ρ' := [_, _, _, dI ((a.es.length : Nat) : Int)]) (sh_len i_a) rfl rfl ?_
  refine wp_bindE (ρ' := [_, _, _, _, dI ((b.es.length : Nat) : Int)]) (sh_len i_b) rfl rfl ?_
  refine wp_bindE (ρ' := [_, _, _, _, _, _]) sh_neq rfl rfl ?_
  refine wp_iteC rfl (fun c0 => ?_) (fun c0 => ?_)
  · have q0 := deq_len i_a i_b (len_ne c0)
    refine wp_retTo (d' := dB (false)) rfl (db_congr ?_)
    ((try simp only [deq_leaf, deq_agg, deqs_nil, deqs_cons, veq_int, veq_bool, veq_str] at q0 ⊢); grind)
  · have l_a_b := len_of c0
    refine wp_bindE (ρ' := [_, _, _, _, _, _, dI ((a.es.length : Nat) : Int)]) (sh_len i_a) rfl rfl ?_
    refine wp_jumpTo rfl ?_
    refine loop_eq2 (ρ := fun i1 => [b, (.clo (.func g) [] []), a, dI ((a.es.length : Nat) : Int), dI ((i1 : Nat) : Int)]) i_a i_b l_a_b (fun q1 => ?_) ?_ (fun q1 => ?_)
    · ((try simp only [deq_leaf, deq_agg, deqs_nil, deqs_cons, veq_int, veq_bool, veq_str] at q1 ⊢); grind)
    · intro i1 x1 y1 e_x1 e_y1 hi1 hj1
      obtain ⟨_, rfl, _, _, rfl, ⟨x1_0, rfl⟩, _, _, rfl, ⟨x1_1, rfl⟩, _, _, rfl, ⟨x1_2, rfl⟩, _, _, rfl, ⟨x1_3, rfl⟩, x1_4, _, rfl, h_x1_4, _, _, rfl, ⟨x1_5, rfl⟩, rfl⟩ := elem_of h_a e_x1
      have i_x1_4 := isSl_of h_x1_4
      obtain ⟨_, rfl, _, _, rfl, ⟨y1_0, rfl⟩, _, _, rfl, ⟨y1_1, rfl⟩, _, _, rfl, ⟨y1_2, rfl⟩, _, _, rfl, ⟨y1_3, rfl⟩, y1_4, _, rfl, h_y1_4, _, _, rfl, ⟨y1_5, rfl⟩, rfl⟩ := elem_of h_b e_y1
      have i_y1_4 := isSl_of h_y1_4
      show wp _ _ _ u66T1 _
      refine wp_bindE (ρ' := [_, _, _, _, _, _]) sh_lss rfl rfl ?_
      refine wp_iteB rfl ?_
      rw [lt_true (show i1 < a.es.length by omega)]
      refine ite_t ?_
      refine wp_bindE (ρ' := [_, _, _, _, _, _, dB (true)]) (sh_inr e_x1) rfl rfl ?_
      refine wp_bindE (ρ' := [_, _, _, _, _, _, _, .agg [dI x1_0, dI x1_1, dI x1_2, dI x1_3, x1_4, dI x1_5]]) (sh_elemW i_a e_x1 rfl) rfl rfl ?_
      refine wp_bindE (ρ' := [_, _, _, _, _, _, _, _, .agg [dI x1_0, dI x1_1, dI x1_2, dI x1_3, x1_4, dI x1_5]]) (sh_chkW rfl) rfl rfl ?_
      refine wp_bindE (ρ' := [_, _, _, _, _, _, _, _, _, dB (true)]) (sh_inr e_y1) rfl rfl ?_
      refine wp_bindE (ρ' := [_, _, _, _, _, _, _, _, _, _, .agg [dI y1_0, dI y1_1, dI y1_2, dI y1_3, y1_4, dI y1_5]]) (sh_elemW i_b e_y1 rfl) rfl rfl ?_
      refine wp_bindE (ρ' := [_, _, _, _, _, _, _, _, _, _, _, .agg [dI y1_0, dI y1_1, dI y1_2, dI y1_3, y1_4, dI y1_5]]) (sh_chkW rfl) rfl rfl ?_
      refine wp_callE (ρ' := [_, _, _, _, _, _, _, _, _, _, _, _, dB (deq (.agg [dI x1_0, dI x1_1, dI x1_2, dI x1_3, x1_4, dI x1_5]) (.agg [dI y1_0, dI y1_1, dI y1_2, dI y1_3, y1_4, dI y1_5]))]) (hp _ _ (sh_st (shs_cons sh_int (shs_cons sh_int (shs_cons sh_int (shs_cons sh_int (shs_cons h_x1_4 (shs_cons sh_int shs_nil))))))) (sh_st (shs_cons sh_int (shs_cons sh_int (shs_cons sh_int (shs_cons sh_int (shs_cons h_y1_4 (shs_cons sh_int shs_nil)))))))) rfl rfl rfl rfl ?_
      refine wp_bindE (ρ' := [_, _, _, _, _, _, _, _, _, _, _, _, _, dB (!(deq (.agg [dI x1_0, dI x1_1, dI x1_2, dI x1_3, x1_4, dI x1_5]) (.agg [dI y1_0, dI y1_1, dI y1_2, dI y1_3, y1_4, dI y1_5])))]) sh_not rfl rfl ?_
      refine wp_iteC rfl (fun c2 => ?_) (fun c2 => ?_)
      · skip
        refine wp_retR rfl ?_
        clear hi1 hj1; ((try simp only [deq_leaf, deq_agg, deqs_nil, deqs_cons, veq_int] at c2 ⊢); grind)
      · skip
        refine wp_bindE (ρ' := [_, _, _, _, _, _, _, _, _, _, _, _, _, _, dI ((i1 + 1 : Nat) : Int)]) (sh_add hj1) rfl rfl ?_
        refine wp_jumpR rfl ?_
        clear hi1 hj1; ((try simp only [deq_leaf, deq_agg, deqs_nil, deqs_cons, veq_int] at c2 ⊢); grind)
    · show wp _ _ _ u66T1 _
      refine wp_bindE (ρ' := [_, _, _, _, _, _]) sh_lss rfl rfl ?_
      refine wp_iteB rfl ?_
      rw [lt_false]
      refine ite_f ?_
      refine wp_retTo (d' := dB (true)) rfl (db_congr ?_)
      ((try simp only [deq_leaf, deq_agg, deqs_nil, deqs_cons, veq_int, veq_bool, veq_str] at q1 ⊢); grind)
/- 20 langdoc/withdraw.sameRights -/
theorem h20 {a b : D} (h_a : HasSh (.st [.sl 96 3 (.st [.int .i64, .str, .bool]), .sl 158 4 (.st [.int .i64, .str, .sl 3 1 (.int .i64), .sl 3 1 (.int .i64)]), .sl 98 4 (.st [.int .i64, .int .i64, .int .i64, .int .i64]), .sl 163 6 (.st [.int .i64, .int .i64, .int .i64, .int .i64, .sl 3 1 (.int .i64), .int .i64])]) a) (h_b : HasSh (.st [.sl 96 3 (.st [.int .i64, .str, .bool]), .sl 158 4 (.st [.int .i64, .str, .sl 3 1 (.int .i64), .sl 3 1 (.int .i64)]), .sl 98 4 (.st [.int .i64, .int .i64, .int .i64, .int .i64]), .sl 163 6 (.st [.int .i64, .int .i64, .int .i64, .int .i64, .sl 3 1 (.int .i64), .int .i64])]) b) : Holds EE 20 [a, b] (dB (deq a b)) := by
  refine u20 rfl (Goes.step' ?_)
  obtain ⟨_, rfl, a_0, _, rfl, h_a_0, a_1, _, rfl, h_a_1, a_2, _, rfl, h_a_2, a_3, _, rfl, h_a_3, rfl⟩ := h_a
  have i_a_0 := isSl_of h_a_0
  have i_a_1 := isSl_of h_a_1
  have i_a_2 := isSl_of h_a_2
  have i_a_3 := isSl_of h_a_3
  obtain ⟨_, rfl, b_0, _, rfl, h_b_0, b_1, _, rfl, h_b_1, b_2, _, rfl, h_b_2, b_3, _, rfl, h_b_3, rfl⟩ := h_b
  have i_b_0 := isSl_of h_b_0
  have i_b_1 := isSl_of h_b_1
  have i_b_2 := isSl_of h_b_2
  have i_b_3 := isSl_of h_b_3
  show wp _ _ _ u20T0 _
  refine wp_bindE (ρ' := [_, _, .agg [a_0, a_1, a_2, a_3]]) (sh_chkW rfl) rfl rfl ?_
  refine wp_bindE (ρ' := [_, _, _, .agg [b_0, b_1, b_2, b_3]]) (sh_chkW rfl) rfl rfl ?_
  refine wp_bindE (ρ' := [_, _, _, _, a_0]) (sh_fld1 (off := 0) rfl i_a_0.one) rfl rfl ?_
  refine wp_bindE (ρ' := [_, _, _, _, _, b_0]) (sh_fld1 (off := 0) rfl i_b_0.one) rfl rfl ?_
  refine wp_callE (ρ' := [_, _, _, _, _, _, dB (deq (a_0) (b_0))]) (h63 h_a_0 h_b_0) rfl rfl rfl rfl ?_
  refine wp_iteC rfl (fun c0 => ?_) (fun c0 => ?_)
  · skip
    refine wp_bindE (ρ' := [_, _, _, _, _, _, _, a_1]) (sh_fld1 (off := 1) rfl i_a_1.one) rfl rfl ?_
    refine wp_bindE (ρ' := [_, _, _, _, _, _, _, _, b_1]) (sh_fld1 (off := 1) rfl i_b_1.one) rfl rfl ?_
    refine wp_callE (ρ' := [_, _, _, _, _, _, _, _, _, dB (deq (a_1) (b_1))]) (h64 h_a_1 h_b_1 (fun x y hx hy => h61 hx hy)) rfl rfl rfl rfl ?_
    refine wp_iteC rfl (fun c1 => ?_) (fun c1 => ?_)
    · skip
      refine wp_bindE (ρ' := [_, _, _, _, _, _, _, _, _, _, a_2]) (sh_fld1 (off := 2) rfl i_a_2.one) rfl rfl ?_
      refine wp_bindE (ρ' := [_, _, _, _, _, _, _, _, _, _, _, b_2]) (sh_fld1 (off := 2) rfl i_b_2.one) rfl rfl ?_
      refine wp_callE (ρ' := [_, _, _, _, _, _, _, _, _, _, _, _, dB (deq (a_2) (b_2))]) (h65 h_a_2 h_b_2) rfl rfl rfl rfl ?_
      refine wp_iteC rfl (fun c2 => ?_) (fun c2 => ?_)
      · skip
        refine wp_bindE (ρ' := [_, _, _, _, _, _, _, _, _, _, _, _, _, a_3]) (sh_fld1 (off := 3) rfl i_a_3.one) rfl rfl ?_
        refine wp_bindE (ρ' := [_, _, _, _, _, _, _, _, _, _, _, _, _, _, b_3]) (sh_fld1 (off := 3) rfl i_b_3.one) rfl rfl ?_
        refine wp_callE (ρ' := [_, _, _, _, _, _, _, _, _, _, _, _, _, _, _, dB (deq (a_3) (b_3))]) (h66 h_a_3 h_b_3 (fun x y hx hy => h62 hx hy)) rfl rfl rfl rfl ?_
        refine wp_retTo (d' := dB (deq (a_3) (b_3))) rfl (db_congr ?_)
        ((try simp only [deq_agg, deqs_nil, deqs_cons] at c2 c1 c0 ⊢); grind)
      · skip
        refine wp_retTo (d' := dB (false)) rfl (db_congr ?_)
        ((try simp only [deq_agg, deqs_nil, deqs_cons] at c2 c1 c0 ⊢); grind)
    · skip
      refine wp_retTo (d' := dB (false)) rfl (db_congr ?_)
      ((try simp only [deq_agg, deqs_nil, deqs_cons] at c1 c0 ⊢); grind)
  · skip
    refine wp_retTo (d' := dB (false)) rfl (db_congr ?_)
    ((try simp only [deq_agg, deqs_nil, deqs_cons] at c0 ⊢); grind)
/- 6 langdoc/withdraw.Same -/
theorem h6 {a b : D} (h_a : HasSh (.st [.sl 86 2 (.st [.str, .int .i64]), .str, .sl 88 2 (.st [.str, .sl 3 1 (.int .i64)]), .sl 143 1 (.sl 9 1 (.str)), .sl 136 6 (.st [.sl 3 1 (.int .i64), .sl 3 1 (.int .i64), .sl 139 2 (.st [.int .i64, .int .i64]), .sl 139 2 (.st [.int .i64, .int .i64]), .bool, .bool]), .int .i64, .sl 90 3 (.st [.int .i64, .int .i64, .int .i64]), .sl 3 1 (.int .i64), .sl 69 8 (.st [.int .i64, .sl 3 1 (.int .i64), .int .i64, .sl 31 1 (.sl 3 1 (.int .i64)), .int .i64, .sl 92 2 (.st [.str, .str]), .sl 94 2 (.st [.int .i64, .int .i64]), .sl 74 2 (.st [.int .i64, .int .i64])]), .sl 56 7 (.st [.int .i64, .str, .int .i64, .int .i64, .sl 3 1 (.int .i64), .sl 100 4 (.st [.str, .int .i64, .int .i64, .int .i64]), .sl 104 7 (.st [.int .i64, .int .i64, .int .i64, .int .i64, .int .i64, .int .i64, .str])]), .sl 117 4 (.st [.int .i64, .int .i64, .bool, .sl 154 3 (.st [.int .i64, .int .i64, .int .i64])]), .sl 71 5 (.st [.int .i64, .str, .str, .sl 3 1 (.int .i64), .sl 74 2 (.st [.int .i64, .int .i64])]), .sl 96 3 (.st [.int .i64, .str, .bool]), .sl 158 4 (.st [.int .i64, .str, .sl 3 1 (.int .i64), .sl 3 1 (.int .i64)]), .sl 98 4 (.st [.int .i64, .int .i64, .int .i64, .int .i64]), .sl 163 6 (.st [.int .i64, .int .i64, .int .i64, .int .i64, .sl 3 1 (.int .i64), .int .i64])]) a) (h_b : HasSh (.st [.sl 86 2 (.st [.str, .int .i64]), .str, .sl 88 2 (.st [.str, .sl 3 1 (.int .i64)]), .sl 143 1 (.sl 9 1 (.str)), .sl 136 6 (.st [.sl 3 1 (.int .i64), .sl 3 1 (.int .i64), .sl 139 2 (.st [.int .i64, .int .i64]), .sl 139 2 (.st [.int .i64, .int .i64]), .bool, .bool]), .int .i64, .sl 90 3 (.st [.int .i64, .int .i64, .int .i64]), .sl 3 1 (.int .i64), .sl 69 8 (.st [.int .i64, .sl 3 1 (.int .i64), .int .i64, .sl 31 1 (.sl 3 1 (.int .i64)), .int .i64, .sl 92 2 (.st [.str, .str]), .sl 94 2 (.st [.int .i64, .int .i64]), .sl 74 2 (.st [.int .i64, .int .i64])]), .sl 56 7 (.st [.int .i64, .str, .int .i64, .int .i64, .sl 3 1 (.int .i64), .sl 100 4 (.st [.str, .int .i64, .int .i64, .int .i64]), .sl 104 7 (.st [.int .i64, .int .i64, .int .i64, .int .i64, .int .i64, .int .i64, .str])]), .sl 117 4 (.st [.int .i64, .int .i64, .bool, .sl 154 3 (.st [.int .i64, .int .i64, .int .i64])]), .sl 71 5 (.st [.int .i64, .str, .str, .sl 3 1 (.int .i64), .sl 74 2 (.st [.int .i64, .int .i64])]), .sl 96 3 (.st [.int .i64, .str, .bool]), .sl 158 4 (.st [.int .i64, .str, .sl 3 1 (.int .i64), .sl 3 1 (.int .i64)]), .sl 98 4 (.st [.int .i64, .int .i64, .int .i64, .int .i64]), .sl 163 6 (.st [.int .i64, .int .i64, .int .i64, .int .i64, .sl 3 1 (.int .i64), .int .i64])]) b) : Holds EE 6 [a, b] (dB (deq a b)) := by
  refine u6 rfl (Goes.step' ?_)
  obtain ⟨_, rfl, a_0, _, rfl, h_a_0, _, _, rfl, ⟨a_1, rfl⟩, a_2, _, rfl, h_a_2, a_3, _, rfl, h_a_3, a_4, _, rfl, h_a_4, _, _, rfl, ⟨a_5, rfl⟩, a_6, _, rfl, h_a_6, a_7, _, rfl, h_a_7, a_8, _, rfl, h_a_8, a_9, _, rfl, h_a_9, a_10, _, rfl, h_a_10, a_11, _, rfl, h_a_11, a_12, _, rfl, h_a_12, a_13, _, rfl, h_a_13, a_14, _, rfl, h_a_14, a_15, _, rfl, h_a_15, rfl⟩ := h_a
  have i_a_0 := isSl_of h_a_0
  have i_a_2 := isSl_of h_a_2
  have i_a_3 := isSl_of h_a_3
  have i_a_4 := isSl_of h_a_4
  have i_a_6 := isSl_of h_a_6
  have i_a_7 := isSl_of h_a_7
  have i_a_8 := isSl_of h_a_8
  have i_a_9 := isSl_of h_a_9
  have i_a_10 := isSl_of h_a_10
  have i_a_11 := isSl_of h_a_11
  have i_a_12 := isSl_of h_a_12
  have i_a_13 := isSl_of h_a_13
  have i_a_14 := isSl_of h_a_14
  have i_a_15 := isSl_of h_a_15
  obtain ⟨_, rfl, b_0, _, rfl, h_b_0, _, _, rfl, ⟨b_1, rfl⟩, b_2, _, rfl, h_b_2, b_3, _, rfl, h_b_3, b_4, _, rfl, h_b_4, _, _, rfl, ⟨b_5, rfl⟩, b_6, _, rfl, h_b_6, b_7, _, rfl, h_b_7, b_8, _, rfl, h_b_8, b_9, _, rfl, h_b_9, b_10, _, rfl, h_b_10, b_11, _, rfl, h_b_11, b_12, _, rfl, h_b_12, b_13, _, rfl, h_b_13, b_14, _, rfl, h_b_14, b_15, _, rfl, h_b_15, rfl⟩ := h_b
  have i_b_0 := isSl_of h_b_0
  have i_b_2 := isSl_of h_b_2
  have i_b_3 := isSl_of h_b_3
  have i_b_4 := isSl_of h_b_4
  have i_b_6 := isSl_of h_b_6
  have i_b_7 := isSl_of h_b_7
  have i_b_8 := isSl_of h_b_8
  have i_b_9 := isSl_of h_b_9
  have i_b_10 := isSl_of h_b_10
  have i_b_11 := isSl_of h_b_11
  have i_b_12 := isSl_of h_b_12
  have i_b_13 := isSl_of h_b_13
  have i_b_14 := isSl_of h_b_14
  have i_b_15 := isSl_of h_b_15
  show wp _ _ _ u6T0 _
  refine wp_bindE (ρ' := [_, _, .agg [a_0, .leaf (.string a_1), a_2, a_3, a_4, dI a_5, a_6, a_7, a_8, a_9, a_10, a_11, a_12, a_13, a_14, a_15]]) (sh_chkW rfl) rfl rfl ?_
  refine wp_bindE (ρ' := [_, _, _, .agg [b_0, .leaf (.string b_1), b_2, b_3, b_4, dI b_5, b_6, b_7, b_8, b_9, b_10, b_11, b_12, b_13, b_14, b_15]]) (sh_chkW rfl) rfl rfl ?_
  refine wp_bindE (ρ' := [_, _, _, _, .agg [a_0, .leaf (.string a_1), a_2, a_3, a_4, dI a_5, a_6, a_7, a_8]]) (sh_fldA rfl) rfl rfl ?_
  refine wp_bindE (ρ' := [_, _, _, _, _, .agg [b_0, .leaf (.string b_1), b_2, b_3, b_4, dI b_5, b_6, b_7, b_8]]) (sh_fldA rfl) rfl rfl ?_
  refine wp_callE (ρ' := [_, _, _, _, _, _, dB (deq (.agg [a_0, .leaf (.string a_1), a_2, a_3, a_4, dI a_5, a_6, a_7, a_8]) (.agg [b_0, .leaf (.string b_1), b_2, b_3, b_4, dI b_5, b_6, b_7, b_8]))]) (h14 (sh_st (shs_cons h_a_0 (shs_cons sh_str (shs_cons h_a_2 (shs_cons h_a_3 (shs_cons h_a_4 (shs_cons sh_int (shs_cons h_a_6 (shs_cons h_a_7 (shs_cons h_a_8 shs_nil)))))))))) (sh_st (shs_cons h_b_0 (shs_cons sh_str (shs_cons h_b_2 (shs_cons h_b_3 (shs_cons h_b_4 (shs_cons sh_int (shs_cons h_b_6 (shs_cons h_b_7 (shs_cons h_b_8 shs_nil))))))))))) rfl rfl rfl rfl ?_
  refine wp_iteC rfl (fun c0 => ?_) (fun c0 => ?_)
  · skip
    refine wp_bindE (ρ' := [_, _, _, _, _, _, _, a_9]) (sh_fld1 (off := 9) rfl i_a_9.one) rfl rfl ?_
    refine wp_bindE (ρ' := [_, _, _, _, _, _, _, _, b_9]) (sh_fld1 (off := 9) rfl i_b_9.one) rfl rfl ?_
    refine wp_callE (ρ' := [_, _, _, _, _, _, _, _, _, dB (deq (a_9) (b_9))]) (h15 h_a_9 h_b_9 (fun x y hx hy => h16 hx hy)) rfl rfl rfl rfl ?_
    refine wp_iteC rfl (fun c1 => ?_) (fun c1 => ?_)
    · skip
      refine wp_bindE (ρ' := [_, _, _, _, _, _, _, _, _, _, a_10]) (sh_fld1 (off := 10) rfl i_a_10.one) rfl rfl ?_
      refine wp_bindE (ρ' := [_, _, _, _, _, _, _, _, _, _, _, b_10]) (sh_fld1 (off := 10) rfl i_b_10.one) rfl rfl ?_
      refine wp_callE (ρ' := [_, _, _, _, _, _, _, _, _, _, _, _, dB (deq (a_10) (b_10))]) (h17 h_a_10 h_b_10) rfl rfl rfl rfl ?_
      refine wp_iteC rfl (fun c2 => ?_) (fun c2 => ?_)
      · skip
        refine wp_bindE (ρ' := [_, _, _, _, _, _, _, _, _, _, _, _, _, a_11]) (sh_fld1 (off := 11) rfl i_a_11.one) rfl rfl ?_
        refine wp_bindE (ρ' := [_, _, _, _, _, _, _, _, _, _, _, _, _, _, b_11]) (sh_fld1 (off := 11) rfl i_b_11.one) rfl rfl ?_
        refine wp_callE (ρ' := [_, _, _, _, _, _, _, _, _, _, _, _, _, _, _, dB (deq (a_11) (b_11))]) (h18 h_a_11 h_b_11 (fun x y hx hy => h19 hx hy)) rfl rfl rfl rfl ?_
        refine wp_iteC rfl (fun c3 => ?_) (fun c3 => ?_)
        · skip
          refine wp_bindE (ρ' := [_, _, _, _, _, _, _, _, _, _, _, _, _, _, _, _, .agg [a_12, a_13, a_14, a_15]]) (sh_fldA rfl) rfl rfl ?_
          refine wp_bindE (ρ' := [_, _, _, _, _, _, _, _, _, _, _, _, _, _, _, _, _, .agg [b_12, b_13, b_14, b_15]]) (sh_fldA rfl) rfl rfl ?_
          refine wp_callE (ρ' := [_, _, _, _, _, _, _, _, _, _, _, _, _, _, _, _, _, _, dB (deq (.agg [a_12, a_13, a_14, a_15]) (.agg [b_12, b_13, b_14, b_15]))]) (h20 (sh_st (shs_cons h_a_12 (shs_cons h_a_13 (shs_cons h_a_14 (shs_cons h_a_15 shs_nil))))) (sh_st (shs_cons h_b_12 (shs_cons h_b_13 (shs_cons h_b_14 (shs_cons h_b_15 shs_nil)))))) rfl rfl rfl rfl ?_
          refine wp_retTo (d' := dB (deq (.agg [a_12, a_13, a_14, a_15]) (.agg [b_12, b_13, b_14, b_15]))) rfl (db_congr ?_)
          ((try simp only [deq_leaf, deq_agg, deqs_nil, deqs_cons, veq_int, veq_str] at c3 c2 c1 c0 ⊢); grind)
        · skip
          refine wp_retTo (d' := dB (false)) rfl (db_congr ?_)
          ((try simp only [deq_leaf, deq_agg, deqs_nil, deqs_cons, veq_int, veq_str] at c3 c2 c1 c0 ⊢); grind)
      · skip
        refine wp_retTo (d' := dB (false)) rfl (db_congr ?_)
        ((try simp only [deq_leaf, deq_agg, deqs_nil, deqs_cons, veq_int, veq_str] at c2 c1 c0 ⊢); grind)
    · skip
      refine wp_retTo (d' := dB (false)) rfl (db_congr ?_)
      ((try simp only [deq_leaf, deq_agg, deqs_nil, deqs_cons, veq_int, veq_str] at c1 c0 ⊢); grind)
  · skip
    refine wp_retTo (d' := dB (false)) rfl (db_congr ?_)
    ((try simp only [deq_leaf, deq_agg, deqs_nil, deqs_cons, veq_int, veq_str] at c0 ⊢); grind)
/- 110 langdoc/langdocref01.Same -/
theorem h110 {a b : D} (h_a : HasSh (.sl 3 1 (.int .i64)) a) (h_b : HasSh (.sl 3 1 (.int .i64)) b) : Holds EE 110 [a, b] (dB (deq a b)) := by
  refine u110 rfl (Goes.step' ?_)
  have i_a := isSl_of h_a
  have i_b := isSl_of h_b
  show wp _ _ _ u110T0 _
  refine wp_bindE (ρ' := [_, _, dI ((a.es.length : Nat) : Int)]) (sh_len i_a) rfl rfl ?_
  refine wp_bindE (ρ' := [_, _, _, dI ((b.es.length : Nat) : Int)]) (sh_len i_b) rfl rfl ?_
  refine wp_bindE (ρ' := [_, _, _, _, _]) sh_neq rfl rfl ?_
  refine wp_iteC rfl (fun c0 => ?_) (fun c0 => ?_)
  · have q0 := deq_len i_a i_b (len_ne c0)
    refine wp_retTo (d' := dB (false)) rfl (db_congr ?_)
    ((try simp only [deq_leaf, deq_agg, deqs_nil, deqs_cons, veq_int, veq_bool, veq_str] at q0 ⊢); grind)
  · have l_a_b := len_of c0
    refine wp_bindE (ρ' := [_, _, _, _, _, dI ((a.es.length : Nat) : Int)]) (sh_len i_a) rfl rfl ?_
    refine wp_jumpTo rfl ?_
    refine loop_eq2 (ρ := fun i1 => [a, b, dI ((a.es.length : Nat) : Int), dI ((i1 : Nat) : Int)]) i_a i_b l_a_b (fun q1 => ?_) ?_ (fun q1 => ?_)
    · ((try simp only [deq_leaf, deq_agg, deqs_nil, deqs_cons, veq_int, veq_bool, veq_str] at q1 ⊢); grind)
    · intro i1 x1 y1 e_x1 e_y1 hi1 hj1
      obtain ⟨x1, rfl⟩ := elem_of h_a e_x1
      obtain ⟨y1, rfl⟩ := elem_of h_b e_y1
      show wp _ _ _ u110T1 _
      refine wp_bindE (ρ' := [_, _, _, _, _]) sh_lss rfl rfl ?_
      refine wp_iteB rfl ?_
      rw [lt_true (show i1 < a.es.length by omega)]
      refine ite_t ?_
      refine wp_bindE (ρ' := [_, _, _, _, _, dB (true)]) (sh_inr e_x1) rfl rfl ?_
      refine wp_bindE (ρ' := [_, _, _, _, _, _, dI x1]) (sh_elem1 i_a e_x1 rfl) rfl rfl ?_
      refine wp_bindE (ρ' := [_, _, _, _, _, _, _, dB (true)]) (sh_inr e_y1) rfl rfl ?_
      refine wp_bindE (ρ' := [_, _, _, _, _, _, _, _, dI y1]) (sh_elem1 i_b e_y1 rfl) rfl rfl ?_
      refine wp_bindE (ρ' := [_, _, _, _, _, _, _, _, _, dB (x1 != y1)]) sh_neq rfl rfl ?_
      refine wp_iteC rfl (fun c2 => ?_) (fun c2 => ?_)
      · skip
        refine wp_retR rfl ?_
        clear hi1 hj1; ((try simp only [deq_leaf, veq_int] at c2 ⊢); grind)
      · skip
        refine wp_bindE (ρ' := [_, _, _, _, _, _, _, _, _, _, dI ((i1 + 1 : Nat) : Int)]) (sh_add hj1) rfl rfl ?_
        refine wp_jumpR rfl ?_
        clear hi1 hj1; ((try simp only [deq_leaf, veq_int] at c2 ⊢); grind)
    · show wp _ _ _ u110T1 _
      refine wp_bindE (ρ' := [_, _, _, _, _]) sh_lss rfl rfl ?_
      refine wp_iteB rfl ?_
      rw [lt_false]
      refine ite_f ?_
      refine wp_retTo (d' := dB (true)) rfl (db_congr ?_)
      ((try simp only [deq_leaf, deq_agg, deqs_nil, deqs_cons, veq_int, veq_bool, veq_str] at q1 ⊢); grind)
/- 67 langdoc/langdocref24.Same -/
theorem h67 {a b : D} (h_a : HasSh (.st [.int .i64, .sl 3 1 (.int .i64), .int .i64, .sl 31 1 (.sl 3 1 (.int .i64)), .int .i64, .sl 92 2 (.st [.str, .str]), .sl 94 2 (.st [.int .i64, .int .i64]), .sl 74 2 (.st [.int .i64, .int .i64])]) a) (h_b : HasSh (.st [.int .i64, .sl 3 1 (.int .i64), .int .i64, .sl 31 1 (.sl 3 1 (.int .i64)), .int .i64, .sl 92 2 (.st [.str, .str]), .sl 94 2 (.st [.int .i64, .int .i64]), .sl 74 2 (.st [.int .i64, .int .i64])]) b) : Holds EE 67 [a, b] (dB (deq a b)) := by
  refine u67 rfl (Goes.step' ?_)
  obtain ⟨_, rfl, _, _, rfl, ⟨a_0, rfl⟩, a_1, _, rfl, h_a_1, _, _, rfl, ⟨a_2, rfl⟩, a_3, _, rfl, h_a_3, _, _, rfl, ⟨a_4, rfl⟩, a_5, _, rfl, h_a_5, a_6, _, rfl, h_a_6, a_7, _, rfl, h_a_7, rfl⟩ := h_a
  have i_a_1 := isSl_of h_a_1
  have i_a_3 := isSl_of h_a_3
  have i_a_5 := isSl_of h_a_5
  have i_a_6 := isSl_of h_a_6
  have i_a_7 := isSl_of h_a_7
  obtain ⟨_, rfl, _, _, rfl, ⟨b_0, rfl⟩, b_1, _, rfl, h_b_1, _, _, rfl, ⟨b_2, rfl⟩, b_3, _, rfl, h_b_3, _, _, rfl, ⟨b_4, rfl⟩, b_5, _, rfl, h_b_5, b_6, _, rfl, h_b_6, b_7, _, rfl, h_b_7, rfl⟩ := h_b
  have i_b_1 := isSl_of h_b_1
  have i_b_3 := isSl_of h_b_3
  have i_b_5 := isSl_of h_b_5
  have i_b_6 := isSl_of h_b_6
  have i_b_7 := isSl_of h_b_7
  show wp _ _ _ u67T0 _
  refine wp_bindE (ρ' := [_, _, .agg [dI a_0, a_1, dI a_2, a_3, dI a_4, a_5, a_6, a_7]]) (sh_chkW rfl) rfl rfl ?_
  refine wp_bindE (ρ' := [_, _, _, .agg [dI b_0, b_1, dI b_2, b_3, dI b_4, b_5, b_6, b_7]]) (sh_chkW rfl) rfl rfl ?_
  refine wp_bindE (ρ' := [_, _, _, _, dI a_0]) (sh_fld1 (off := 0) rfl rfl) rfl rfl ?_
  refine wp_bindE (ρ' := [_, _, _, _, _, dI b_0]) (sh_fld1 (off := 0) rfl rfl) rfl rfl ?_
  refine wp_bindE (ρ' := [_, _, _, _, _, _, dB (a_0 != b_0)]) sh_neq rfl rfl ?_
  refine wp_iteC rfl (fun c0 => ?_) (fun c0 => ?_)
  · skip
    refine wp_retTo (d' := dB (false)) rfl (db_congr ?_)
    ((try simp only [deq_leaf, deq_agg, deqs_nil, deqs_cons, veq_int] at c0 ⊢); grind)
  · skip
    refine wp_bindE (ρ' := [_, _, _, _, _, _, _, dI a_2]) (sh_fld1 (off := 2) rfl rfl) rfl rfl ?_
    refine wp_bindE (ρ' := [_, _, _, _, _, _, _, _, dI b_2]) (sh_fld1 (off := 2) rfl rfl) rfl rfl ?_
    refine wp_bindE (ρ' := [_, _, _, _, _, _, _, _, _, dB (a_2 != b_2)]) sh_neq rfl rfl ?_
    refine wp_iteC rfl (fun c1 => ?_) (fun c1 => ?_)
    · skip
      refine wp_retTo (d' := dB (false)) rfl (db_congr ?_)
      ((try simp only [deq_leaf, deq_agg, deqs_nil, deqs_cons, veq_int] at c1 c0 ⊢); grind)
    · skip
      refine wp_bindE (ρ' := [_, _, _, _, _, _, _, _, _, _, dI a_4]) (sh_fld1 (off := 4) rfl rfl) rfl rfl ?_
      refine wp_bindE (ρ' := [_, _, _, _, _, _, _, _, _, _, _, dI b_4]) (sh_fld1 (off := 4) rfl rfl) rfl rfl ?_
      refine wp_bindE (ρ' := [_, _, _, _, _, _, _, _, _, _, _, _, dB (a_4 != b_4)]) sh_neq rfl rfl ?_
      refine wp_iteC rfl (fun c2 => ?_) (fun c2 => ?_)
      · skip
        refine wp_retTo (d' := dB (false)) rfl (db_congr ?_)
        ((try simp only [deq_leaf, deq_agg, deqs_nil, deqs_cons, veq_int] at c2 c1 c0 ⊢); grind)
      · skip
        refine wp_bindE (ρ' := [_, _, _, _, _, _, _, _, _, _, _, _, _, a_1]) (sh_fld1 (off := 1) rfl i_a_1.one) rfl rfl ?_
        refine wp_bindE (ρ' := [_, _, _, _, _, _, _, _, _, _, _, _, _, _, b_1]) (sh_fld1 (off := 1) rfl i_b_1.one) rfl rfl ?_
        refine wp_callE (ρ' := [_, _, _, _, _, _, _, _, _, _, _, _, _, _, _, dB (deq (a_1) (b_1))]) (h110 h_a_1 h_b_1) rfl rfl rfl rfl ?_
        refine wp_bindE (ρ' := [_, _, _, _, _, _, _, _, _, _, _, _, _, _, _, _, dB (!(deq (a_1) (b_1)))]) sh_not rfl rfl ?_
        refine wp_iteC rfl (fun c3 => ?_) (fun c3 => ?_)
        · skip
          refine wp_retTo (d' := dB (false)) rfl (db_congr ?_)
          ((try simp only [deq_leaf, deq_agg, deqs_nil, deqs_cons, veq_int] at c3 c2 c1 c0 ⊢); grind)
        · skip
          refine wp_bindE (ρ' := [_, _, _, _, _, _, _, _, _, _, _, _, _, _, _, _, _, a_3]) (sh_fld1 (off := 3) rfl i_a_3.one) rfl rfl ?_
          refine wp_bindE (ρ' := [_, _, _, _, _, _, _, _, _, _, _, _, _, _, _, _, _, _, dI ((a_3.es.length : Nat) : Int)]) (sh_len i_a_3) rfl rfl ?_
          refine wp_bindE (ρ' := [_, _, _, _, _, _, _, _, _, _, _, _, _, _, _, _, _, _, _, b_3]) (sh_fld1 (off := 3) rfl i_b_3.one) rfl rfl ?_
          refine wp_bindE (ρ' := [_, _, _, _, _, _, _, _, _, _, _, _, _, _, _, _, _, _, _, _, dI ((b_3.es.length : Nat) : Int)]) (sh_len i_b_3) rfl rfl ?_
          refine wp_bindE (ρ' := [_, _, _, _, _, _, _, _, _, _, _, _, _, _, _, _, _, _, _, _, _, _]) sh_neq rfl rfl ?_
          refine wp_iteC rfl (fun c4 => ?_) (fun c4 => ?_)
          · have q4 := deq_len i_a_3 i_b_3 (len_ne c4)
            refine wp_retTo (d' := dB (false)) rfl (db_congr ?_)
            ((try simp only [deq_leaf, deq_agg, deqs_nil, deqs_cons, veq_int] at q4 c3 c2 c1 c0 ⊢); grind)
          · have l_a_3_b_3 := len_of c4
            refine wp_bindE (ρ' := [_, _, _, _, _, _, _, _, _, _, _, _, _, _, _, _, _, _, _, _, _, _, a_5]) (sh_fld1 (off := 5) rfl i_a_5.one) rfl rfl ?_
            refine wp_bindE (ρ' := [_, _, _, _, _, _, _, _, _, _, _, _, _, _, _, _, _, _, _, _, _, _, _, dI ((a_5.es.length : Nat) : Int)]) (sh_len i_a_5) rfl rfl ?_
            refine wp_bindE (ρ' := [_, _, _, _, _, _, _, _, _, _, _, _, _, _, _, _, _, _, _, _, _, _, _, _, b_5]) (sh_fld1 (off := 5) rfl i_b_5.one) rfl rfl ?_
            refine wp_bindE (ρ' := [_, _, _, _, _, _, _, _, _, _, _, _, _, _, _, _, _, _, _, _, _, _, _, _, _, dI ((b_5.es.length : Nat) : Int)]) (sh_len i_b_5) rfl rfl ?_
            refine wp_bindE (ρ' := [_, _, _, _, _, _, _, _, _, _, _, _, _, _, _, _, _, _, _, _, _, _, _, _, _, _, _]) sh_neq rfl rfl ?_
            refine wp_iteC rfl (fun c5 => ?_) (fun c5 => ?_)
            · have q5 := deq_len i_a_5 i_b_5 (len_ne c5)
              refine wp_retTo (d' := dB (false)) rfl (db_congr ?_)
              ((try simp only [deq_leaf, deq_agg, deqs_nil, deqs_cons, veq_int] at q5 c3 c2 c1 c0 ⊢); grind)
            · have l_a_5_b_5 := len_of c5
              refine wp_bindE (ρ' := [_, _, _, _, _, _, _, _, _, _, _, _, _, _, _, _, _, _, _, _, _, _, _, _, _, _, _, a_6]) (sh_fld1 (off := 6) rfl i_a_6.one) rfl rfl ?_
              refine wp_bindE (ρ' := [_, _, _, _, _, _, _, _, _, _, _, _, _, _, _, _, _, _, _, _, _, _, _, _, _, _, _, _, dI ((a_6.es.length : Nat) : Int)]) (sh_len i_a_6) rfl rfl ?_
              refine wp_bindE (ρ' := [_, _, _, _, _, _, _, _, _, _, _, _, _, _, _, _, _, _, _, _, _, _, _, _, _, _, _, _, _, b_6]) (sh_fld1 (off := 6) rfl i_b_6.one) rfl rfl ?_
              refine wp_bindE (ρ' := [_, _, _, _, _, _, _, _, _, _, _, _, _, _, _, _, _, _, _, _, _, _, _, _, _, _, _, _, _, _, dI ((b_6.es.length : Nat) : Int)]) (sh_len i_b_6) rfl rfl ?_
              refine wp_bindE (ρ' := [_, _, _, _, _, _, _, _, _, _, _, _, _, _, _, _, _, _, _, _, _, _, _, _, _, _, _, _, _, _, _, _]) sh_neq rfl rfl ?_
              refine wp_iteC rfl (fun c6 => ?_) (fun c6 => ?_)
              · have q6 := deq_len i_a_6 i_b_6 (len_ne c6)
                refine wp_retTo (d' := dB (false)) rfl (db_congr ?_)
                ((try simp only [deq_leaf, deq_agg, deqs_nil, deqs_cons, veq_int] at q6 c3 c2 c1 c0 ⊢); grind)
              · have l_a_6_b_6 := len_of c6
                refine wp_bindE (ρ' := [_, _, _, _, _, _, _, _, _, _, _, _, _, _, _, _, _, _, _, _, _, _, _, _, _, _, _, _, _, _, _, _, a_7]) (sh_fld1 (off := 7) rfl i_a_7.one) rfl rfl ?_
                refine wp_bindE (ρ' := [_, _, _, _, _, _, _, _, _, _, _, _, _, _, _, _, _, _, _, _, _, _, _, _, _, _, _, _, _, _, _, _, _, dI ((a_7.es.length : Nat) : Int)]) (sh_len i_a_7) rfl rfl ?_
                refine wp_bindE (ρ' := [_, _, _, _, _, _, _, _, _, _, _, _, _, _, _, _, _, _, _, _, _, _, _, _, _, _, _, _, _, _, _, _, _, _, b_7]) (sh_fld1 (off := 7) rfl i_b_7.one) rfl rfl ?_
                refine wp_bindE (ρ' := [_, _, _, _, _, _, _, _, _, _, _, _, _, _, _, _, _, _, _, _, _, _, _, _, _, _, _, _, _, _, _, _, _, _, _, dI ((b_7.es.length : Nat) : Int)]) (sh_len i_b_7) rfl rfl ?_
                refine wp_bindE (ρ' := [_, _, _, _, _, _, _, _, _, _, _, _, _, _, _, _, _, _, _, _, _, _, _, _, _, _, _, _, _, _, _, _, _, _, _, _, _]) sh_neq rfl rfl ?_
                refine wp_iteC rfl (fun c7 => ?_) (fun c7 => ?_)
                · have q7 := deq_len i_a_7 i_b_7 (len_ne c7)
                  refine wp_retTo (d' := dB (false)) rfl (db_congr ?_)
                  ((try simp only [deq_leaf, deq_agg, deqs_nil, deqs_cons, veq_int] at q7 c3 c2 c1 c0 ⊢); grind)
                · have l_a_7_b_7 := len_of c7
                  refine wp_jumpTo rfl ?_
                  refine loop_eq2 (ρ := fun i8 => [dI ((i8 : Nat) : Int), .agg [dI a_0, a_1, dI a_2, a_3, dI a_4, a_5, a_6, a_7], .agg [dI b_0, b_1, dI b_2, b_3, dI b_4, b_5, b_6, b_7]]) i_a_3 i_b_3 l_a_3_b_3 (fun q8 => ?_) ?_ (fun q8 => ?_)
                  · ((try simp only [deq_leaf, deq_agg, deqs_nil, deqs_cons, veq_int] at q8 c3 c2 c1 c0 ⊢); grind)
                  · intro i8 x8 y8 e_x8 e_y8 hi8 hj8
                    have h_x8 := elem_of h_a_3 e_x8
                    have i_x8 := isSl_of h_x8
                    have h_y8 := elem_of h_b_3 e_y8
                    have i_y8 := isSl_of h_y8
                    show wp _ _ _ u67T1 _
                    refine wp_bindE (ρ' := [_, _, _, a_3]) (sh_fld1 (off := 3) rfl i_a_3.one) rfl rfl ?_
                    refine wp_bindE (ρ' := [_, _, _, _, dI ((a_3.es.length : Nat) : Int)]) (sh_len i_a_3) rfl rfl ?_
                    refine wp_bindE (ρ' := [_, _, _, _, _, _]) sh_lss rfl rfl ?_
                    refine wp_iteB rfl ?_
                    rw [lt_true (show i8 < a_3.es.length by omega)]
                    refine ite_t ?_
                    refine wp_bindE (ρ' := [_, _, _, _, _, _, a_3]) (sh_fld1 (off := 3) rfl i_a_3.one) rfl rfl ?_
                    refine wp_bindE (ρ' := [_, _, _, _, _, _, _, dB (true)]) (sh_inr e_x8) rfl rfl ?_
                    refine wp_bindE (ρ' := [_, _, _, _, _, _, _, _, x8]) (sh_elem1 i_a_3 e_x8 i_x8.one) rfl rfl ?_
                    refine wp_bindE (ρ' := [_, _, _, _, _, _, _, _, _, b_3]) (sh_fld1 (off := 3) rfl i_b_3.one) rfl rfl ?_
                    refine wp_bindE (ρ' := [_, _, _, _, _, _, _, _, _, _, dB (true)]) (sh_inr e_y8) rfl rfl ?_
                    refine wp_bindE (ρ' := [_, _, _, _, _, _, _, _, _, _, _, y8]) (sh_elem1 i_b_3 e_y8 i_y8.one) rfl rfl ?_
                    refine wp_callE (ρ' := [_, _, _, _, _, _, _, _, _, _, _, _, dB (deq (x8) (y8))]) (h110 h_x8 h_y8) rfl rfl rfl rfl ?_
                    refine wp_bindE (ρ' := [_, _, _, _, _, _, _, _, _, _, _, _, _, dB (!(deq (x8) (y8)))]) sh_not rfl rfl ?_
                    refine wp_iteC rfl (fun c9 => ?_) (fun c9 => ?_)
                    · skip
                      refine wp_retR rfl ?_
                      clear hi8 hj8; ((try simp only [deq_leaf, deq_agg, deqs_nil, deqs_cons, veq_int, veq_bool, veq_str] at c9 c3 c2 c1 c0 ⊢); grind)
                    · skip
                      refine wp_bindE (ρ' := [_, _, _, _, _, _, _, _, _, _, _, _, _, _, dI ((i8 + 1 : Nat) : Int)]) (sh_add hj8) rfl rfl ?_
                      refine wp_jumpR rfl ?_
                      clear hi8 hj8; ((try simp only [deq_leaf, deq_agg, deqs_nil, deqs_cons, veq_int, veq_bool, veq_str] at c9 c3 c2 c1 c0 ⊢); grind)
                  · show wp _ _ _ u67T1 _
                    refine wp_bindE (ρ' := [_, _, _, a_3]) (sh_fld1 (off := 3) rfl i_a_3.one) rfl rfl ?_
                    refine wp_bindE (ρ' := [_, _, _, _, dI ((a_3.es.length : Nat) : Int)]) (sh_len i_a_3) rfl rfl ?_
                    refine wp_bindE (ρ' := [_, _, _, _, _, _]) sh_lss rfl rfl ?_
                    refine wp_iteB rfl ?_
                    rw [lt_false]
                    refine ite_f ?_
                    refine wp_jumpTo rfl ?_
                    refine loop_eq2 (ρ := fun i9 => [dI ((i9 : Nat) : Int), .agg [dI a_0, a_1, dI a_2, a_3, dI a_4, a_5, a_6, a_7], .agg [dI b_0, b_1, dI b_2, b_3, dI b_4, b_5, b_6, b_7]]) i_a_5 i_b_5 l_a_5_b_5 (fun q9 => ?_) ?_ (fun q9 => ?_)
                    · ((try simp only [deq_leaf, deq_agg, deqs_nil, deqs_cons, veq_int] at q9 q8 c3 c2 c1 c0 ⊢); grind)
                    · intro i9 x9 y9 e_x9 e_y9 hi9 hj9
                      obtain ⟨_, rfl, _, _, rfl, ⟨x9_0, rfl⟩, _, _, rfl, ⟨x9_1, rfl⟩, rfl⟩ := elem_of h_a_5 e_x9
                      obtain ⟨_, rfl, _, _, rfl, ⟨y9_0, rfl⟩, _, _, rfl, ⟨y9_1, rfl⟩, rfl⟩ := elem_of h_b_5 e_y9
                      show wp _ _ _ u67T2 _
                      refine wp_bindE (ρ' := [_, _, _, a_5]) (sh_fld1 (off := 5) rfl i_a_5.one) rfl rfl ?_
                      refine wp_bindE (ρ' := [_, _, _, _, dI ((a_5.es.length : Nat) : Int)]) (sh_len i_a_5) rfl rfl ?_
                      refine wp_bindE (ρ' := [_, _, _, _, _, _]) sh_lss rfl rfl ?_
                      refine wp_iteB rfl ?_
                      rw [lt_true (show i9 < a_5.es.length by omega)]
                      refine ite_t ?_
                      refine wp_bindE (ρ' := [_, _, _, _, _, _, a_5]) (sh_fld1 (off := 5) rfl i_a_5.one) rfl rfl ?_
                      refine wp_bindE (ρ' := [_, _, _, _, _, _, _, dB (true)]) (sh_inr e_x9) rfl rfl ?_
                      refine wp_bindE (ρ' := [_, _, _, _, _, _, _, _, .agg [.leaf (.string x9_0), .leaf (.string x9_1)]]) (sh_elemW i_a_5 e_x9 rfl) rfl rfl ?_
                      refine wp_bindE (ρ' := [_, _, _, _, _, _, _, _, _, b_5]) (sh_fld1 (off := 5) rfl i_b_5.one) rfl rfl ?_
                      refine wp_bindE (ρ' := [_, _, _, _, _, _, _, _, _, _, dB (true)]) (sh_inr e_y9) rfl rfl ?_
                      refine wp_bindE (ρ' := [_, _, _, _, _, _, _, _, _, _, _, .agg [.leaf (.string y9_0), .leaf (.string y9_1)]]) (sh_elemW i_b_5 e_y9 rfl) rfl rfl ?_
                      refine wp_bindE (ρ' := [_, _, _, _, _, _, _, _, _, _, _, _, dB (!(deqs [.leaf (.string x9_0), .leaf (.string x9_1)] [.leaf (.string y9_0), .leaf (.string y9_1)]))]) (sh_cmpS .neq (.inl rfl) ty92 st92 le4 gu92 rfl (shs_cons sh_str (shs_cons sh_str shs_nil)) (shs_cons sh_str (shs_cons sh_str shs_nil))) rfl rfl ?_
                      refine wp_iteC rfl (fun c10 => ?_) (fun c10 => ?_)
                      · skip
                        refine wp_retR rfl ?_
                        clear hi9 hj9; ((try simp only [deq_leaf, deq_agg, deqs_nil, deqs_cons, veq_str] at c10 q8 c3 c2 c1 c0 ⊢); grind)
                      · skip
                        refine wp_bindE (ρ' := [_, _, _, _, _, _, _, _, _, _, _, _, _, dI ((i9 + 1 : Nat) : Int)]) (sh_add hj9) rfl rfl ?_
                        refine wp_jumpR rfl ?_
                        clear hi9 hj9; ((try simp only [deq_leaf, deq_agg, deqs_nil, deqs_cons, veq_str] at c10 q8 c3 c2 c1 c0 ⊢); grind)
                    · show wp _ _ _ u67T2 _
                      refine wp_bindE (ρ' := [_, _, _, a_5]) (sh_fld1 (off := 5) rfl i_a_5.one) rfl rfl ?_
                      refine wp_bindE (ρ' := [_, _, _, _, dI ((a_5.es.length : Nat) : Int)]) (sh_len i_a_5) rfl rfl ?_
                      refine wp_bindE (ρ' := [_, _, _, _, _, _]) sh_lss rfl rfl ?_
                      refine wp_iteB rfl ?_
                      rw [lt_false]
                      refine ite_f ?_
                      refine wp_jumpTo rfl ?_
                      refine loop_eq2 (ρ := fun i10 => [dI ((i10 : Nat) : Int), .agg [dI a_0, a_1, dI a_2, a_3, dI a_4, a_5, a_6, a_7], .agg [dI b_0, b_1, dI b_2, b_3, dI b_4, b_5, b_6, b_7]]) i_a_6 i_b_6 l_a_6_b_6 (fun q10 => ?_) ?_ (fun q10 => ?_)
                      · ((try simp only [deq_leaf, deq_agg, deqs_nil, deqs_cons, veq_int] at q10 q9 q8 c3 c2 c1 c0 ⊢); grind)
                      · intro i10 x10 y10 e_x10 e_y10 hi10 hj10
                        obtain ⟨_, rfl, _, _, rfl, ⟨x10_0, rfl⟩, _, _, rfl, ⟨x10_1, rfl⟩, rfl⟩ := elem_of h_a_6 e_x10
                        obtain ⟨_, rfl, _, _, rfl, ⟨y10_0, rfl⟩, _, _, rfl, ⟨y10_1, rfl⟩, rfl⟩ := elem_of h_b_6 e_y10
                        show wp _ _ _ u67T3 _
                        refine wp_bindE (ρ' := [_, _, _, a_6]) (sh_fld1 (off := 6) rfl i_a_6.one) rfl rfl ?_
                        refine wp_bindE (ρ' := [_, _, _, _, dI ((a_6.es.length : Nat) : Int)]) (sh_len i_a_6) rfl rfl ?_
                        refine wp_bindE (ρ' := [_, _, _, _, _, _]) sh_lss rfl rfl ?_
                        refine wp_iteB rfl ?_
                        rw [lt_true (show i10 < a_6.es.length by omega)]
                        refine ite_t ?_
                        refine wp_bindE (ρ' := [_, _, _, _, _, _, a_6]) (sh_fld1 (off := 6) rfl i_a_6.one) rfl rfl ?_
                        refine wp_bindE (ρ' := [_, _, _, _, _, _, _, dB (true)]) (sh_inr e_x10) rfl rfl ?_
                        refine wp_bindE (ρ' := [_, _, _, _, _, _, _, _, .agg [dI x10_0, dI x10_1]]) (sh_elemW i_a_6 e_x10 rfl) rfl rfl ?_
                        refine wp_bindE (ρ' := [_, _, _, _, _, _, _, _, _, b_6]) (sh_fld1 (off := 6) rfl i_b_6.one) rfl rfl ?_
                        refine wp_bindE (ρ' := [_, _, _, _, _, _, _, _, _, _, dB (true)]) (sh_inr e_y10) rfl rfl ?_
                        refine wp_bindE (ρ' := [_, _, _, _, _, _, _, _, _, _, _, .agg [dI y10_0, dI y10_1]]) (sh_elemW i_b_6 e_y10 rfl) rfl rfl ?_
                        refine wp_bindE (ρ' := [_, _, _, _, _, _, _, _, _, _, _, _, dB (!(deqs [dI x10_0, dI x10_1] [dI y10_0, dI y10_1]))]) (sh_cmpS .neq (.inl rfl) ty94 st94 le4 gu94 rfl (shs_cons sh_int (shs_cons sh_int shs_nil)) (shs_cons sh_int (shs_cons sh_int shs_nil))) rfl rfl ?_
                        refine wp_iteC rfl (fun c11 => ?_) (fun c11 => ?_)
                        · skip
                          refine wp_retR rfl ?_
                          clear hi10 hj10; ((try simp only [deq_leaf, deq_agg, deqs_nil, deqs_cons, veq_int] at c11 q9 q8 c3 c2 c1 c0 ⊢); grind)
                        · skip
                          refine wp_bindE (ρ' := [_, _, _, _, _, _, _, _, _, _, _, _, _, dI ((i10 + 1 : Nat) : Int)]) (sh_add hj10) rfl rfl ?_
                          refine wp_jumpR rfl ?_
                          clear hi10 hj10; ((try simp only [deq_leaf, deq_agg, deqs_nil, deqs_cons, veq_int] at c11 q9 q8 c3 c2 c1 c0 ⊢); grind)
                      · show wp _ _ _ u67T3 _
                        refine wp_bindE (ρ' := [_, _, _, a_6]) (sh_fld1 (off := 6) rfl i_a_6.one) rfl rfl ?_
                        refine wp_bindE (ρ' := [_, _, _, _, dI ((a_6.es.length : Nat) : Int)]) (sh_len i_a_6) rfl rfl ?_
                        refine wp_bindE (ρ' := [_, _, _, _, _, _]) sh_lss rfl rfl ?_
                        refine wp_iteB rfl ?_
                        rw [lt_false]
                        refine ite_f ?_
                        refine wp_jumpTo rfl ?_
                        refine loop_eq2 (ρ := fun i11 => [dI ((i11 : Nat) : Int), .agg [dI a_0, a_1, dI a_2, a_3, dI a_4, a_5, a_6, a_7], .agg [dI b_0, b_1, dI b_2, b_3, dI b_4, b_5, b_6, b_7]]) i_a_7 i_b_7 l_a_7_b_7 (fun q11 => ?_) ?_ (fun q11 => ?_)
                        · ((try simp only [deq_leaf, deq_agg, deqs_nil, deqs_cons, veq_int] at q11 q10 q9 q8 c3 c2 c1 c0 ⊢); grind)
                        · intro i11 x11 y11 e_x11 e_y11 hi11 hj11
                          obtain ⟨_, rfl, _, _, rfl, ⟨x11_0, rfl⟩, _, _, rfl, ⟨x11_1, rfl⟩, rfl⟩ := elem_of h_a_7 e_x11
                          obtain ⟨_, rfl, _, _, rfl, ⟨y11_0, rfl⟩, _, _, rfl, ⟨y11_1, rfl⟩, rfl⟩ := elem_of h_b_7 e_y11
                          show wp _ _ _ u67T4 _
                          refine wp_bindE (ρ' := [_, _, _, a_7]) (sh_fld1 (off := 7) rfl i_a_7.one) rfl rfl ?_
                          refine wp_bindE (ρ' := [_, _, _, _, dI ((a_7.es.length : Nat) : Int)]) (sh_len i_a_7) rfl rfl ?_
                          refine wp_bindE (ρ' := [_, _, _, _, _, _]) sh_lss rfl rfl ?_
                          refine wp_iteB rfl ?_
                          rw [lt_true (show i11 < a_7.es.length by omega)]
                          refine ite_t ?_
                          refine wp_bindE (ρ' := [_, _, _, _, _, _, a_7]) (sh_fld1 (off := 7) rfl i_a_7.one) rfl rfl ?_
                          refine wp_bindE (ρ' := [_, _, _, _, _, _, _, dB (true)]) (sh_inr e_x11) rfl rfl ?_
                          refine wp_bindE (ρ' := [_, _, _, _, _, _, _, _, .agg [dI x11_0, dI x11_1]]) (sh_elemW i_a_7 e_x11 rfl) rfl rfl ?_
                          refine wp_bindE (ρ' := [_, _, _, _, _, _, _, _, _, b_7]) (sh_fld1 (off := 7) rfl i_b_7.one) rfl rfl ?_
                          refine wp_bindE (ρ' := [_, _, _, _, _, _, _, _, _, _, dB (true)]) (sh_inr e_y11) rfl rfl ?_
                          refine wp_bindE (ρ' := [_, _, _, _, _, _, _, _, _, _, _, .agg [dI y11_0, dI y11_1]]) (sh_elemW i_b_7 e_y11 rfl) rfl rfl ?_
                          refine wp_bindE (ρ' := [_, _, _, _, _, _, _, _, _, _, _, _, dB (!(deqs [dI x11_0, dI x11_1] [dI y11_0, dI y11_1]))]) (sh_cmpS .neq (.inl rfl) ty74 st74 le4 gu74 rfl (shs_cons sh_int (shs_cons sh_int shs_nil)) (shs_cons sh_int (shs_cons sh_int shs_nil))) rfl rfl ?_
                          refine wp_iteC rfl (fun c12 => ?_) (fun c12 => ?_)
                          · skip
                            refine wp_retR rfl ?_
                            clear hi11 hj11; ((try simp only [deq_leaf, deq_agg, deqs_nil, deqs_cons, veq_int] at c12 q10 q9 q8 c3 c2 c1 c0 ⊢); grind)
                          · skip
                            refine wp_bindE (ρ' := [_, _, _, _, _, _, _, _, _, _, _, _, _, dI ((i11 + 1 : Nat) : Int)]) (sh_add hj11) rfl rfl ?_
                            refine wp_jumpR rfl ?_
                            clear hi11 hj11; ((try simp only [deq_leaf, deq_agg, deqs_nil, deqs_cons, veq_int] at c12 q10 q9 q8 c3 c2 c1 c0 ⊢); grind)
                        · show wp _ _ _ u67T4 _
                          refine wp_bindE (ρ' := [_, _, _, a_7]) (sh_fld1 (off := 7) rfl i_a_7.one) rfl rfl ?_
                          refine wp_bindE (ρ' := [_, _, _, _, dI ((a_7.es.length : Nat) : Int)]) (sh_len i_a_7) rfl rfl ?_
                          refine wp_bindE (ρ' := [_, _, _, _, _, _]) sh_lss rfl rfl ?_
                          refine wp_iteB rfl ?_
                          rw [lt_false]
                          refine ite_f ?_
                          refine wp_retTo (d' := dB (true)) rfl (db_congr ?_)
                          ((try simp only [deq_leaf, deq_agg, deqs_nil, deqs_cons, veq_int] at q11 q10 q9 q8 c3 c2 c1 c0 ⊢); grind)
/- 111 langdoc/langdocref40.classes -/
theorem h111 {a b : D} (h_a : HasSh (.sl 139 2 (.st [.int .i64, .int .i64])) a) (h_b : HasSh (.sl 139 2 (.st [.int .i64, .int .i64])) b) : Holds EE 111 [a, b] (dB (deq a b)) := by
  refine u111 rfl (Goes.step' ?_)
  have i_a := isSl_of h_a
  have i_b := isSl_of h_b
  show wp _ _ _ u111T0 _
  refine wp_bindE (ρ' := [_, _, dI ((a.es.length : Nat) : Int)]) (sh_len i_a) rfl rfl ?_
  refine wp_bindE (ρ' := [_, _, _, dI ((b.es.length : Nat) : Int)]) (sh_len i_b) rfl rfl ?_
  refine wp_bindE (ρ' := [_, _, _, _, _]) sh_neq rfl rfl ?_
  refine wp_iteC rfl (fun c0 => ?_) (fun c0 => ?_)
  · have q0 := deq_len i_a i_b (len_ne c0)
    refine wp_retTo (d' := dB (false)) rfl (db_congr ?_)
    ((try simp only [deq_leaf, deq_agg, deqs_nil, deqs_cons, veq_int, veq_bool, veq_str] at q0 ⊢); grind)
  · have l_a_b := len_of c0
    refine wp_jumpTo rfl ?_
    refine loop_eq2 (ρ := fun i1 => [a, b, dI ((i1 : Nat) : Int)]) i_a i_b l_a_b (fun q1 => ?_) ?_ (fun q1 => ?_)
    · ((try simp only [deq_leaf, deq_agg, deqs_nil, deqs_cons, veq_int, veq_bool, veq_str] at q1 ⊢); grind)
    · intro i1 x1 y1 e_x1 e_y1 hi1 hj1
      obtain ⟨_, rfl, _, _, rfl, ⟨x1_0, rfl⟩, _, _, rfl, ⟨x1_1, rfl⟩, rfl⟩ := elem_of h_a e_x1
      obtain ⟨_, rfl, _, _, rfl, ⟨y1_0, rfl⟩, _, _, rfl, ⟨y1_1, rfl⟩, rfl⟩ := elem_of h_b e_y1
      show wp _ _ _ u111T1 _
      refine wp_bindE (ρ' := [_, _, _, dI ((a.es.length : Nat) : Int)]) (sh_len i_a) rfl rfl ?_
      refine wp_bindE (ρ' := [_, _, _, _, _]) sh_lss rfl rfl ?_
      refine wp_iteB rfl ?_
      rw [lt_true (show i1 < a.es.length by omega)]
      refine ite_t ?_
      refine wp_bindE (ρ' := [_, _, _, _, _, dB (true)]) (sh_inr e_x1) rfl rfl ?_
      refine wp_bindE (ρ' := [_, _, _, _, _, _, .agg [dI x1_0, dI x1_1]]) (sh_elemW i_a e_x1 rfl) rfl rfl ?_
      refine wp_bindE (ρ' := [_, _, _, _, _, _, _, dB (true)]) (sh_inr e_y1) rfl rfl ?_
      refine wp_bindE (ρ' := [_, _, _, _, _, _, _, _, .agg [dI y1_0, dI y1_1]]) (sh_elemW i_b e_y1 rfl) rfl rfl ?_
      refine wp_bindE (ρ' := [_, _, _, _, _, _, _, _, _, dB (!(deqs [dI x1_0, dI x1_1] [dI y1_0, dI y1_1]))]) (sh_cmpS .neq (.inl rfl) ty139 st139 le4 gu139 rfl (shs_cons sh_int (shs_cons sh_int shs_nil)) (shs_cons sh_int (shs_cons sh_int shs_nil))) rfl rfl ?_
      refine wp_iteC rfl (fun c2 => ?_) (fun c2 => ?_)
      · skip
        refine wp_retR rfl ?_
        clear hi1 hj1; ((try simp only [deq_leaf, deq_agg, deqs_nil, deqs_cons, veq_int] at c2 ⊢); grind)
      · skip
        refine wp_bindE (ρ' := [_, _, _, _, _, _, _, _, _, _, dI ((i1 + 1 : Nat) : Int)]) (sh_add hj1) rfl rfl ?_
        refine wp_jumpR rfl ?_
        clear hi1 hj1; ((try simp only [deq_leaf, deq_agg, deqs_nil, deqs_cons, veq_int] at c2 ⊢); grind)
    · show wp _ _ _ u111T1 _
      refine wp_bindE (ρ' := [_, _, _, dI ((a.es.length : Nat) : Int)]) (sh_len i_a) rfl rfl ?_
      refine wp_bindE (ρ' := [_, _, _, _, _]) sh_lss rfl rfl ?_
      refine wp_iteB rfl ?_
      rw [lt_false]
      refine ite_f ?_
      refine wp_retTo (d' := dB (true)) rfl (db_congr ?_)
      ((try simp only [deq_leaf, deq_agg, deqs_nil, deqs_cons, veq_int, veq_bool, veq_str] at q1 ⊢); grind)
/- 68 langdoc/langdocref40.units -/
theorem h68 {a b : D} (h_a : HasSh (.st [.str, .sl 88 2 (.st [.str, .sl 3 1 (.int .i64)]), .sl 143 1 (.sl 9 1 (.str))]) a) (h_b : HasSh (.st [.str, .sl 88 2 (.st [.str, .sl 3 1 (.int .i64)]), .sl 143 1 (.sl 9 1 (.str))]) b) : Holds EE 68 [a, b] (dB (deq a b)) := by
  refine u68 rfl (Goes.step' ?_)
  obtain ⟨_, rfl, _, _, rfl, ⟨a_0, rfl⟩, a_1, _, rfl, h_a_1, a_2, _, rfl, h_a_2, rfl⟩ := h_a
  have i_a_1 := isSl_of h_a_1
  have i_a_2 := isSl_of h_a_2
  obtain ⟨_, rfl, _, _, rfl, ⟨b_0, rfl⟩, b_1, _, rfl, h_b_1, b_2, _, rfl, h_b_2, rfl⟩ := h_b
  have i_b_1 := isSl_of h_b_1
  have i_b_2 := isSl_of h_b_2
  show wp _ _ _ u68T0 _
  refine wp_bindE (ρ' := [_, _, .agg [.leaf (.string a_0), a_1, a_2]]) (sh_chkW rfl) rfl rfl ?_
  refine wp_bindE (ρ' := [_, _, _, .agg [.leaf (.string b_0), b_1, b_2]]) (sh_chkW rfl) rfl rfl ?_
  refine wp_bindE (ρ' := [_, _, _, _, .leaf (.string a_0)]) (sh_fld1 (off := 0) rfl rfl) rfl rfl ?_
  refine wp_bindE (ρ' := [_, _, _, _, _, .leaf (.string b_0)]) (sh_fld1 (off := 0) rfl rfl) rfl rfl ?_
  refine wp_bindE (ρ' := [_, _, _, _, _, _, dB (!(a_0 == b_0))]) sh_strN rfl rfl ?_
  refine wp_iteC rfl (fun c0 => ?_) (fun c0 => ?_)
  · skip
    refine wp_retTo (d' := dB (false)) rfl (db_congr ?_)
    ((try simp only [deq_leaf, deq_agg, deqs_nil, deqs_cons, veq_str] at c0 ⊢); grind)
  · skip
    refine wp_bindE (ρ' := [_, _, _, _, _, _, _, a_1]) (sh_fld1 (off := 1) rfl i_a_1.one) rfl rfl ?_
    refine wp_bindE (ρ' := [_, _, _, _, _, _, _, _, dI ((a_1.es.length : Nat) : Int)]) (sh_len i_a_1) rfl rfl ?_
    refine wp_bindE (ρ' := [_, _, _, _, _, _, _, _, _, b_1]) (sh_fld1 (off := 1) rfl i_b_1.one) rfl rfl ?_
    refine wp_bindE (ρ' := [_, _, _, _, _, _, _, _, _, _, dI ((b_1.es.length : Nat) : Int)]) (sh_len i_b_1) rfl rfl ?_
    refine wp_bindE (ρ' := [_, _, _, _, _, _, _, _, _, _, _, _]) sh_neq rfl rfl ?_
    refine wp_iteC rfl (fun c1 => ?_) (fun c1 => ?_)
    · have q1 := deq_len i_a_1 i_b_1 (len_ne c1)
      refine wp_retTo (d' := dB (false)) rfl (db_congr ?_)
      ((try simp only [deq_leaf, deq_agg, deqs_nil, deqs_cons, veq_str] at q1 c0 ⊢); grind)
    · have l_a_1_b_1 := len_of c1
      refine wp_bindE (ρ' := [_, _, _, _, _, _, _, _, _, _, _, _, a_2]) (sh_fld1 (off := 2) rfl i_a_2.one) rfl rfl ?_
      refine wp_bindE (ρ' := [_, _, _, _, _, _, _, _, _, _, _, _, _, dI ((a_2.es.length : Nat) : Int)]) (sh_len i_a_2) rfl rfl ?_
      refine wp_bindE (ρ' := [_, _, _, _, _, _, _, _, _, _, _, _, _, _, b_2]) (sh_fld1 (off := 2) rfl i_b_2.one) rfl rfl ?_
      refine wp_bindE (ρ' := [_, _, _, _, _, _, _, _, _, _, _, _, _, _, _, dI ((b_2.es.length : Nat) : Int)]) (sh_len i_b_2) rfl rfl ?_
      refine wp_bindE (ρ' := [_, _, _, _, _, _, _, _, _, _, _, _, _, _, _, _, _]) sh_neq rfl rfl ?_
      refine wp_iteC rfl (fun c2 => ?_) (fun c2 => ?_)
      · have q2 := deq_len i_a_2 i_b_2 (len_ne c2)
        refine wp_retTo (d' := dB (false)) rfl (db_congr ?_)
        ((try simp only [deq_leaf, deq_agg, deqs_nil, deqs_cons, veq_str] at q2 c0 ⊢); grind)
      · have l_a_2_b_2 := len_of c2
        refine wp_jumpTo rfl ?_
        refine loop_eq2 (ρ := fun i3 => [dI ((i3 : Nat) : Int), .agg [.leaf (.string a_0), a_1, a_2], .agg [.leaf (.string b_0), b_1, b_2]]) i_a_1 i_b_1 l_a_1_b_1 (fun q3 => ?_) ?_ (fun q3 => ?_)
        · ((try simp only [deq_leaf, deq_agg, deqs_nil, deqs_cons, veq_str] at q3 c0 ⊢); grind)
        · intro i3 x3 y3 e_x3 e_y3 hi3 hj3
          obtain ⟨_, rfl, _, _, rfl, ⟨x3_0, rfl⟩, x3_1, _, rfl, h_x3_1, rfl⟩ := elem_of h_a_1 e_x3
          have i_x3_1 := isSl_of h_x3_1
          obtain ⟨_, rfl, _, _, rfl, ⟨y3_0, rfl⟩, y3_1, _, rfl, h_y3_1, rfl⟩ := elem_of h_b_1 e_y3
          have i_y3_1 := isSl_of h_y3_1
          show wp _ _ _ u68T1 _
          refine wp_bindE (ρ' := [_, _, _, a_1]) (sh_fld1 (off := 1) rfl i_a_1.one) rfl rfl ?_
          refine wp_bindE (ρ' := [_, _, _, _, dI ((a_1.es.length : Nat) : Int)]) (sh_len i_a_1) rfl rfl ?_
          refine wp_bindE (ρ' := [_, _, _, _, _, _]) sh_lss rfl rfl ?_
          refine wp_iteB rfl ?_
          rw [lt_true (show i3 < a_1.es.length by omega)]
          refine ite_t ?_
          refine wp_bindE (ρ' := [_, _, _, _, _, _, a_1]) (sh_fld1 (off := 1) rfl i_a_1.one) rfl rfl ?_
          refine wp_bindE (ρ' := [_, _, _, _, _, _, _, dB (true)]) (sh_inr e_x3) rfl rfl ?_
          refine wp_bindE (ρ' := [_, _, _, _, _, _, _, _, .leaf (.string x3_0)]) (sh_elemP (off := 0) i_a_1 e_x3 rfl rfl (by decide)) rfl rfl ?_
          refine wp_bindE (ρ' := [_, _, _, _, _, _, _, _, _, b_1]) (sh_fld1 (off := 1) rfl i_b_1.one) rfl rfl ?_
          refine wp_bindE (ρ' := [_, _, _, _, _, _, _, _, _, _, dB (true)]) (sh_inr e_y3) rfl rfl ?_
          refine wp_bindE (ρ' := [_, _, _, _, _, _, _, _, _, _, _, .leaf (.string y3_0)]) (sh_elemP (off := 0) i_b_1 e_y3 rfl rfl (by decide)) rfl rfl ?_
          refine wp_bindE (ρ' := [_, _, _, _, _, _, _, _, _, _, _, _, dB (!(x3_0 == y3_0))]) sh_strN rfl rfl ?_
          refine wp_iteC rfl (fun c4 => ?_) (fun c4 => ?_)
          · skip
            refine wp_retR rfl ?_
            clear hi3 hj3; ((try simp only [deq_leaf, deq_agg, deqs_nil, deqs_cons, veq_str] at c4 c0 ⊢); grind)
          · skip
            refine wp_bindE (ρ' := [_, _, _, _, _, _, _, _, _, _, _, _, _, a_1]) (sh_fld1 (off := 1) rfl i_a_1.one) rfl rfl ?_
            refine wp_bindE (ρ' := [_, _, _, _, _, _, _, _, _, _, _, _, _, _, dB (true)]) (sh_inr e_x3) rfl rfl ?_
            refine wp_bindE (ρ' := [_, _, _, _, _, _, _, _, _, _, _, _, _, _, _, x3_1]) (sh_elemP (off := 1) i_a_1 e_x3 rfl i_x3_1.one (by decide)) rfl rfl ?_
            refine wp_bindE (ρ' := [_, _, _, _, _, _, _, _, _, _, _, _, _, _, _, _, b_1]) (sh_fld1 (off := 1) rfl i_b_1.one) rfl rfl ?_
            refine wp_bindE (ρ' := [_, _, _, _, _, _, _, _, _, _, _, _, _, _, _, _, _, dB (true)]) (sh_inr e_y3) rfl rfl ?_
            refine wp_bindE (ρ' := [_, _, _, _, _, _, _, _, _, _, _, _, _, _, _, _, _, _, y3_1]) (sh_elemP (off := 1) i_b_1 e_y3 rfl i_y3_1.one (by decide)) rfl rfl ?_
            refine wp_callE (ρ' := [_, _, _, _, _, _, _, _, _, _, _, _, _, _, _, _, _, _, _, dB (deq (x3_1) (y3_1))]) (h110 h_x3_1 h_y3_1) rfl rfl rfl rfl ?_
            refine wp_bindE (ρ' := [_, _, _, _, _, _, _, _, _, _, _, _, _, _, _, _, _, _, _, _, dB (!(deq (x3_1) (y3_1)))]) sh_not rfl rfl ?_
            refine wp_iteC rfl (fun c5 => ?_) (fun c5 => ?_)
            · skip
              refine wp_retR rfl ?_
              clear hi3 hj3; ((try simp only [deq_leaf, deq_agg, deqs_nil, deqs_cons, veq_str] at c5 c4 c0 ⊢); grind)
            · skip
              refine wp_bindE (ρ' := [_, _, _, _, _, _, _, _, _, _, _, _, _, _, _, _, _, _, _, _, _, dI ((i3 + 1 : Nat) : Int)]) (sh_add hj3) rfl rfl ?_
              refine wp_jumpR rfl ?_
              clear hi3 hj3; ((try simp only [deq_leaf, deq_agg, deqs_nil, deqs_cons, veq_str] at c5 c4 c0 ⊢); grind)
        · show wp _ _ _ u68T1 _
          refine wp_bindE (ρ' := [_, _, _, a_1]) (sh_fld1 (off := 1) rfl i_a_1.one) rfl rfl ?_
          refine wp_bindE (ρ' := [_, _, _, _, dI ((a_1.es.length : Nat) : Int)]) (sh_len i_a_1) rfl rfl ?_
          refine wp_bindE (ρ' := [_, _, _, _, _, _]) sh_lss rfl rfl ?_
          refine wp_iteB rfl ?_
          rw [lt_false]
          refine ite_f ?_
          refine wp_jumpTo rfl ?_
          refine loop_eqC (ρ := fun i4 => [dI ((i4 : Nat) : Int), .agg [.leaf (.string a_0), a_1, a_2], .agg [.leaf (.string b_0), b_1, b_2]]) i_a_2 i_b_2 l_a_2_b_2 (fun q4 => ?_) ?_ (fun q4 => ?_)
          · ((try simp only [deq_leaf, deq_agg, deqs_nil, deqs_cons, veq_str] at q4 q3 c0 ⊢); grind)
          · intro i4 x4 y4 e_x4 e_y4 hi4 hj4 hs4 hf4
            have h_x4 := elem_of h_a_2 e_x4
            have i_x4 := isSl_of h_x4
            have h_y4 := elem_of h_b_2 e_y4
            have i_y4 := isSl_of h_y4
            show wp _ _ _ u68T2 _
            refine wp_bindE (ρ' := [_, _, _, a_2]) (sh_fld1 (off := 2) rfl i_a_2.one) rfl rfl ?_
            refine wp_bindE (ρ' := [_, _, _, _, dI ((a_2.es.length : Nat) : Int)]) (sh_len i_a_2) rfl rfl ?_
            refine wp_bindE (ρ' := [_, _, _, _, _, _]) sh_lss rfl rfl ?_
            refine wp_iteB rfl ?_
            rw [lt_true (show i4 < a_2.es.length by omega)]
            refine ite_t ?_
            refine wp_bindE (ρ' := [_, _, _, _, _, _, a_2]) (sh_fld1 (off := 2) rfl i_a_2.one) rfl rfl ?_
            refine wp_bindE (ρ' := [_, _, _, _, _, _, _, dB (true)]) (sh_inr e_x4) rfl rfl ?_
            refine wp_bindE (ρ' := [_, _, _, _, _, _, _, _, x4]) (sh_elem1 i_a_2 e_x4 i_x4.one) rfl rfl ?_
            refine wp_bindE (ρ' := [_, _, _, _, _, _, _, _, _, dI ((x4.es.length : Nat) : Int)]) (sh_len i_x4) rfl rfl ?_
            refine wp_bindE (ρ' := [_, _, _, _, _, _, _, _, _, _, b_2]) (sh_fld1 (off := 2) rfl i_b_2.one) rfl rfl ?_
            refine wp_bindE (ρ' := [_, _, _, _, _, _, _, _, _, _, _, dB (true)]) (sh_inr e_y4) rfl rfl ?_
            refine wp_bindE (ρ' := [_, _, _, _, _, _, _, _, _, _, _, _, y4]) (sh_elem1 i_b_2 e_y4 i_y4.one) rfl rfl ?_
            refine wp_bindE (ρ' := [_, _, _, _, _, _, _, _, _, _, _, _, _, dI ((y4.es.length : Nat) : Int)]) (sh_len i_y4) rfl rfl ?_
            refine wp_bindE (ρ' := [_, _, _, _, _, _, _, _, _, _, _, _, _, _, _]) sh_neq rfl rfl ?_
            refine wp_iteC rfl (fun c5 => ?_) (fun c5 => ?_)
            · have q5 := deq_len i_x4 i_y4 (len_ne c5)
              refine wp_retTo (d' := dB (false)) rfl (db_congr ?_)
              clear hi4 hj4 hs4; ((try simp only [deq_leaf, deq_agg, deqs_nil, deqs_cons, veq_str] at q5 hf4 q3 c0 ⊢); grind)
            · have l_x4_y4 := len_of c5
              refine wp_jumpTo rfl ?_
              refine loop_eq2 (ρ := fun i6 => [dI ((i4 : Nat) : Int), dI ((i6 : Nat) : Int), .agg [.leaf (.string a_0), a_1, a_2], .agg [.leaf (.string b_0), b_1, b_2]]) i_x4 i_y4 l_x4_y4 (fun q6 => ?_) ?_ (fun q6 => ?_)
              · clear hi4 hj4 hs4; ((try simp only [deq_leaf, deq_agg, deqs_nil, deqs_cons, veq_str] at q6 hf4 q3 c0 ⊢); grind)
              · intro i6 x6 y6 e_x6 e_y6 hi6 hj6
                obtain ⟨x6, rfl⟩ := elem_of h_x4 e_x6
                obtain ⟨y6, rfl⟩ := elem_of h_y4 e_y6
                show wp _ _ _ u68T3 _
                refine wp_bindE (ρ' := [_, _, _, _, a_2]) (sh_fld1 (off := 2) rfl i_a_2.one) rfl rfl ?_
                refine wp_bindE (ρ' := [_, _, _, _, _, dB (true)]) (sh_inr e_x4) rfl rfl ?_
                refine wp_bindE (ρ' := [_, _, _, _, _, _, x4]) (sh_elem1 i_a_2 e_x4 i_x4.one) rfl rfl ?_
                refine wp_bindE (ρ' := [_, _, _, _, _, _, _, dI ((x4.es.length : Nat) : Int)]) (sh_len i_x4) rfl rfl ?_
                refine wp_bindE (ρ' := [_, _, _, _, _, _, _, _, _]) sh_lss rfl rfl ?_
                refine wp_iteB rfl ?_
                rw [lt_true (show i6 < x4.es.length by omega)]
                refine ite_t ?_
                refine wp_bindE (ρ' := [_, _, _, _, _, _, _, _, _, a_2]) (sh_fld1 (off := 2) rfl i_a_2.one) rfl rfl ?_
                refine wp_bindE (ρ' := [_, _, _, _, _, _, _, _, _, _, dB (true)]) (sh_inr e_x4) rfl rfl ?_
                refine wp_bindE (ρ' := [_, _, _, _, _, _, _, _, _, _, _, x4]) (sh_elem1 i_a_2 e_x4 i_x4.one) rfl rfl ?_
                refine wp_bindE (ρ' := [_, _, _, _, _, _, _, _, _, _, _, _, dB (true)]) (sh_inr e_x6) rfl rfl ?_
                refine wp_bindE (ρ' := [_, _, _, _, _, _, _, _, _, _, _, _, _, .leaf (.string x6)]) (sh_elem1 i_x4 e_x6 rfl) rfl rfl ?_
                refine wp_bindE (ρ' := [_, _, _, _, _, _, _, _, _, _, _, _, _, _, b_2]) (sh_fld1 (off := 2) rfl i_b_2.one) rfl rfl ?_
                refine wp_bindE (ρ' := [_, _, _, _, _, _, _, _, _, _, _, _, _, _, _, dB (true)]) (sh_inr e_y4) rfl rfl ?_
                refine wp_bindE (ρ' := [_, _, _, _, _, _, _, _, _, _, _, _, _, _, _, _, y4]) (sh_elem1 i_b_2 e_y4 i_y4.one) rfl rfl ?_
                refine wp_bindE (ρ' := [_, _, _, _, _, _, _, _, _, _, _, _, _, _, _, _, _, dB (true)]) (sh_inr e_y6) rfl rfl ?_
                refine wp_bindE (ρ' := [_, _, _, _, _, _, _, _, _, _, _, _, _, _, _, _, _, _, .leaf (.string y6)]) (sh_elem1 i_y4 e_y6 rfl) rfl rfl ?_
                refine wp_bindE (ρ' := [_, _, _, _, _, _, _, _, _, _, _, _, _, _, _, _, _, _, _, dB (!(x6 == y6))]) sh_strN rfl rfl ?_
                refine wp_iteC rfl (fun c7 => ?_) (fun c7 => ?_)
                · skip
                  refine wp_retR rfl ?_
                  clear hi6 hj6 hi4 hj4 hs4; ((try simp only [deq_leaf, deq_agg, deqs_nil, deqs_cons, veq_str] at c7 hf4 q3 c0 ⊢); grind)
                · skip
                  refine wp_bindE (ρ' := [_, _, _, _, _, _, _, _, _, _, _, _, _, _, _, _, _, _, _, _, dI ((i6 + 1 : Nat) : Int)]) (sh_add hj6) rfl rfl ?_
                  refine wp_jumpR rfl ?_
                  clear hi6 hj6 hi4 hj4 hs4; ((try simp only [deq_leaf, deq_agg, deqs_nil, deqs_cons, veq_str] at c7 hf4 q3 c0 ⊢); grind)
              · show wp _ _ _ u68T3 _
                refine wp_bindE (ρ' := [_, _, _, _, a_2]) (sh_fld1 (off := 2) rfl i_a_2.one) rfl rfl ?_
                refine wp_bindE (ρ' := [_, _, _, _, _, dB (true)]) (sh_inr e_x4) rfl rfl ?_
                refine wp_bindE (ρ' := [_, _, _, _, _, _, x4]) (sh_elem1 i_a_2 e_x4 i_x4.one) rfl rfl ?_
                refine wp_bindE (ρ' := [_, _, _, _, _, _, _, dI ((x4.es.length : Nat) : Int)]) (sh_len i_x4) rfl rfl ?_
                refine wp_bindE (ρ' := [_, _, _, _, _, _, _, _, _]) sh_lss rfl rfl ?_
                refine wp_iteB rfl ?_
                rw [lt_false]
                refine ite_f ?_
                refine wp_bindE (ρ' := [_, _, _, _, _, _, _, _, _, dI ((i4 + 1 : Nat) : Int)]) (sh_add hj4) rfl rfl ?_
                refine wp_jumpTo rfl (hs4 ?_)
                clear hi4 hj4 hs4; ((try simp only [deq_leaf, deq_agg, deqs_nil, deqs_cons, veq_str] at q6 hf4 q3 c0 ⊢); grind)
          · show wp _ _ _ u68T2 _
            refine wp_bindE (ρ' := [_, _, _, a_2]) (sh_fld1 (off := 2) rfl i_a_2.one) rfl rfl ?_
            refine wp_bindE (ρ' := [_, _, _, _, dI ((a_2.es.length : Nat) : Int)]) (sh_len i_a_2) rfl rfl ?_
            refine wp_bindE (ρ' := [_, _, _, _, _, _]) sh_lss rfl rfl ?_
            refine wp_iteB rfl ?_
            rw [lt_false]
            refine ite_f ?_
            refine wp_retTo (d' := dB (true)) rfl (db_congr ?_)
            ((try simp only [deq_leaf, deq_agg, deqs_nil, deqs_cons, veq_str] at q4 q3 c0 ⊢); grind)
/- 69 langdoc/langdocref40.rules -/
theorem h69 {a b : D} (h_a : HasSh (.sl 136 6 (.st [.sl 3 1 (.int .i64), .sl 3 1 (.int .i64), .sl 139 2 (.st [.int .i64, .int .i64]), .sl 139 2 (.st [.int .i64, .int .i64]), .bool, .bool])) a) (h_b : HasSh (.sl 136 6 (.st [.sl 3 1 (.int .i64), .sl 3 1 (.int .i64), .sl 139 2 (.st [.int .i64, .int .i64]), .sl 139 2 (.st [.int .i64, .int .i64]), .bool, .bool])) b) : Holds EE 69 [a, b] (dB (deq a b)) := by
  refine u69 rfl (Goes.step' ?_)
  have i_a := isSl_of h_a
  have i_b := isSl_of h_b
  show wp _ _ _ u69T0 _
  refine wp_bindE (ρ' := [_, _, dI ((a.es.length : Nat) : Int)]) (sh_len i_a) rfl rfl ?_
  refine wp_bindE (ρ' := [_, _, _, dI ((b.es.length : Nat) : Int)]) (sh_len i_b) rfl rfl ?_
  refine wp_bindE (ρ' := [_, _, _, _, _]) sh_neq rfl rfl ?_
  refine wp_iteC rfl (fun c0 => ?_) (fun c0 => ?_)
  · have q0 := deq_len i_a i_b (len_ne c0)
    refine wp_retTo (d' := dB (false)) rfl (db_congr ?_)
    ((try simp only [deq_leaf, deq_agg, deqs_nil, deqs_cons, veq_int, veq_bool, veq_str] at q0 ⊢); grind)
  · have l_a_b := len_of c0
    refine wp_jumpTo rfl ?_
    refine loop_eq2 (ρ := fun i1 => [a, b, dI ((i1 : Nat) : Int)]) i_a i_b l_a_b (fun q1 => ?_) ?_ (fun q1 => ?_)
    · ((try simp only [deq_leaf, deq_agg, deqs_nil, deqs_cons, veq_int, veq_bool, veq_str] at q1 ⊢); grind)
    · intro i1 x1 y1 e_x1 e_y1 hi1 hj1
      obtain ⟨_, rfl, x1_0, _, rfl, h_x1_0, x1_1, _, rfl, h_x1_1, x1_2, _, rfl, h_x1_2, x1_3, _, rfl, h_x1_3, _, _, rfl, ⟨x1_4, rfl⟩, _, _, rfl, ⟨x1_5, rfl⟩, rfl⟩ := elem_of h_a e_x1
      have i_x1_0 := isSl_of h_x1_0
      have i_x1_1 := isSl_of h_x1_1
      have i_x1_2 := isSl_of h_x1_2
      have i_x1_3 := isSl_of h_x1_3
      obtain ⟨_, rfl, y1_0, _, rfl, h_y1_0, y1_1, _, rfl, h_y1_1, y1_2, _, rfl, h_y1_2, y1_3, _, rfl, h_y1_3, _, _, rfl, ⟨y1_4, rfl⟩, _, _, rfl, ⟨y1_5, rfl⟩, rfl⟩ := elem_of h_b e_y1
      have i_y1_0 := isSl_of h_y1_0
      have i_y1_1 := isSl_of h_y1_1
      have i_y1_2 := isSl_of h_y1_2
      have i_y1_3 := isSl_of h_y1_3
      show wp _ _ _ u69T1 _
      refine wp_bindE (ρ' := [_, _, _, dI ((a.es.length : Nat) : Int)]) (sh_len i_a) rfl rfl ?_
      refine wp_bindE (ρ' := [_, _, _, _, _]) sh_lss rfl rfl ?_
      refine wp_iteB rfl ?_
      rw [lt_true (show i1 < a.es.length by omega)]
      refine ite_t ?_
      refine wp_bindE (ρ' := [_, _, _, _, _, dB (true)]) (sh_inr e_x1) rfl rfl ?_
      refine wp_bindE (ρ' := [_, _, _, _, _, _, .agg [x1_0, x1_1, x1_2, x1_3, dB (x1_4), dB (x1_5)]]) (sh_elemW i_a e_x1 rfl) rfl rfl ?_
      refine wp_bindE (ρ' := [_, _, _, _, _, _, _, dB (true)]) (sh_inr e_y1) rfl rfl ?_
      refine wp_bindE (ρ' := [_, _, _, _, _, _, _, _, .agg [y1_0, y1_1, y1_2, y1_3, dB (y1_4), dB (y1_5)]]) (sh_elemW i_b e_y1 rfl) rfl rfl ?_
      refine wp_bindE (ρ' := [_, _, _, _, _, _, _, _, _, .agg [x1_0, x1_1, x1_2, x1_3, dB (x1_4), dB (x1_5)]]) (sh_chkW rfl) rfl rfl ?_
      refine wp_bindE (ρ' := [_, _, _, _, _, _, _, _, _, _, .agg [y1_0, y1_1, y1_2, y1_3, dB (y1_4), dB (y1_5)]]) (sh_chkW rfl) rfl rfl ?_
      refine wp_bindE (ρ' := [_, _, _, _, _, _, _, _, _, _, _, dB (true)]) (sh_inr e_x1) rfl rfl ?_
      refine wp_bindE (ρ' := [_, _, _, _, _, _, _, _, _, _, _, _, dB (true)]) (sh_inr e_y1) rfl rfl ?_
      refine wp_bindE (ρ' := [_, _, _, _, _, _, _, _, _, _, _, _, _, dB (x1_4)]) (sh_fld1 (off := 4) rfl rfl) rfl rfl ?_
      refine wp_bindE (ρ' := [_, _, _, _, _, _, _, _, _, _, _, _, _, _, dB (y1_4)]) (sh_fld1 (off := 4) rfl rfl) rfl rfl ?_
      refine wp_bindE (ρ' := [_, _, _, _, _, _, _, _, _, _, _, _, _, _, _, dB (!(decide (x1_4 = y1_4)))]) (sh_cmpB .neq (.inl rfl) ty4 st4) rfl rfl ?_
      refine wp_iteC rfl (fun c2 => ?_) (fun c2 => ?_)
      · skip
        refine wp_retR rfl ?_
        clear hi1 hj1; ((try simp only [deq_leaf, deq_agg, deqs_nil, deqs_cons, veq_bool] at c2 ⊢); grind)
      · skip
        refine wp_bindE (ρ' := [_, _, _, _, _, _, _, _, _, _, _, _, _, _, _, _, dB (x1_5)]) (sh_fld1 (off := 5) rfl rfl) rfl rfl ?_
        refine wp_bindE (ρ' := [_, _, _, _, _, _, _, _, _, _, _, _, _, _, _, _, _, dB (y1_5)]) (sh_fld1 (off := 5) rfl rfl) rfl rfl ?_
        refine wp_bindE (ρ' := [_, _, _, _, _, _, _, _, _, _, _, _, _, _, _, _, _, _, dB (!(decide (x1_5 = y1_5)))]) (sh_cmpB .neq (.inl rfl) ty4 st4) rfl rfl ?_
        refine wp_iteC rfl (fun c3 => ?_) (fun c3 => ?_)
        · skip
          refine wp_retR rfl ?_
          clear hi1 hj1; ((try simp only [deq_leaf, deq_agg, deqs_nil, deqs_cons, veq_bool] at c3 c2 ⊢); grind)
        · skip
          refine wp_bindE (ρ' := [_, _, _, _, _, _, _, _, _, _, _, _, _, _, _, _, _, _, _, x1_0]) (sh_fld1 (off := 0) rfl i_x1_0.one) rfl rfl ?_
          refine wp_bindE (ρ' := [_, _, _, _, _, _, _, _, _, _, _, _, _, _, _, _, _, _, _, _, y1_0]) (sh_fld1 (off := 0) rfl i_y1_0.one) rfl rfl ?_
          refine wp_callE (ρ' := [_, _, _, _, _, _, _, _, _, _, _, _, _, _, _, _, _, _, _, _, _, dB (deq (x1_0) (y1_0))]) (h110 h_x1_0 h_y1_0) rfl rfl rfl rfl ?_
          refine wp_bindE (ρ' := [_, _, _, _, _, _, _, _, _, _, _, _, _, _, _, _, _, _, _, _, _, _, dB (!(deq (x1_0) (y1_0)))]) sh_not rfl rfl ?_
          refine wp_iteC rfl (fun c4 => ?_) (fun c4 => ?_)
          · skip
            refine wp_retR rfl ?_
            clear hi1 hj1; ((try simp only [deq_leaf, deq_agg, deqs_nil, deqs_cons, veq_bool] at c4 c3 c2 ⊢); grind)
          · skip
            refine wp_bindE (ρ' := [_, _, _, _, _, _, _, _, _, _, _, _, _, _, _, _, _, _, _, _, _, _, _, x1_1]) (sh_fld1 (off := 1) rfl i_x1_1.one) rfl rfl ?_
            refine wp_bindE (ρ' := [_, _, _, _, _, _, _, _, _, _, _, _, _, _, _, _, _, _, _, _, _, _, _, _, y1_1]) (sh_fld1 (off := 1) rfl i_y1_1.one) rfl rfl ?_
            refine wp_callE (ρ' := [_, _, _, _, _, _, _, _, _, _, _, _, _, _, _, _, _, _, _, _, _, _, _, _, _, dB (deq (x1_1) (y1_1))]) (h110 h_x1_1 h_y1_1) rfl rfl rfl rfl ?_
            refine wp_bindE (ρ' := [_, _, _, _, _, _, _, _, _, _, _, _, _, _, _, _, _, _, _, _, _, _, _, _, _, _, dB (!(deq (x1_1) (y1_1)))]) sh_not rfl rfl ?_
            refine wp_iteC rfl (fun c5 => ?_) (fun c5 => ?_)
            · skip
              refine wp_retR rfl ?_
              clear hi1 hj1; ((try simp only [deq_leaf, deq_agg, deqs_nil, deqs_cons, veq_bool] at c5 c4 c3 c2 ⊢); grind)
            · skip
              refine wp_bindE (ρ' := [_, _, _, _, _, _, _, _, _, _, _, _, _, _, _, _, _, _, _, _, _, _, _, _, _, _, _, x1_2]) (sh_fld1 (off := 2) rfl i_x1_2.one) rfl rfl ?_
              refine wp_bindE (ρ' := [_, _, _, _, _, _, _, _, _, _, _, _, _, _, _, _, _, _, _, _, _, _, _, _, _, _, _, _, y1_2]) (sh_fld1 (off := 2) rfl i_y1_2.one) rfl rfl ?_
              refine wp_callE (ρ' := [_, _, _, _, _, _, _, _, _, _, _, _, _, _, _, _, _, _, _, _, _, _, _, _, _, _, _, _, _, dB (deq (x1_2) (y1_2))]) (h111 h_x1_2 h_y1_2) rfl rfl rfl rfl ?_
              refine wp_bindE (ρ' := [_, _, _, _, _, _, _, _, _, _, _, _, _, _, _, _, _, _, _, _, _, _, _, _, _, _, _, _, _, _, dB (!(deq (x1_2) (y1_2)))]) sh_not rfl rfl ?_
              refine wp_iteC rfl (fun c6 => ?_) (fun c6 => ?_)
              · skip
                refine wp_retR rfl ?_
                clear hi1 hj1; ((try simp only [deq_leaf, deq_agg, deqs_nil, deqs_cons, veq_bool] at c6 c5 c4 c3 c2 ⊢); grind)
              · skip
                refine wp_bindE (ρ' := [_, _, _, _, _, _, _, _, _, _, _, _, _, _, _, _, _, _, _, _, _, _, _, _, _, _, _, _, _, _, _, x1_3]) (sh_fld1 (off := 3) rfl i_x1_3.one) rfl rfl ?_
                refine wp_bindE (ρ' := [_, _, _, _, _, _, _, _, _, _, _, _, _, _, _, _, _, _, _, _, _, _, _, _, _, _, _, _, _, _, _, _, y1_3]) (sh_fld1 (off := 3) rfl i_y1_3.one) rfl rfl ?_
                refine wp_callE (ρ' := [_, _, _, _, _, _, _, _, _, _, _, _, _, _, _, _, _, _, _, _, _, _, _, _, _, _, _, _, _, _, _, _, _, dB (deq (x1_3) (y1_3))]) (h111 h_x1_3 h_y1_3) rfl rfl rfl rfl ?_
                refine wp_bindE (ρ' := [_, _, _, _, _, _, _, _, _, _, _, _, _, _, _, _, _, _, _, _, _, _, _, _, _, _, _, _, _, _, _, _, _, _, dB (!(deq (x1_3) (y1_3)))]) sh_not rfl rfl ?_
                refine wp_iteC rfl (fun c7 => ?_) (fun c7 => ?_)
                · skip
                  refine wp_retR rfl ?_
                  clear hi1 hj1; ((try simp only [deq_leaf, deq_agg, deqs_nil, deqs_cons, veq_bool] at c7 c6 c5 c4 c3 c2 ⊢); grind)
                · skip
                  refine wp_bindE (ρ' := [_, _, _, _, _, _, _, _, _, _, _, _, _, _, _, _, _, _, _, _, _, _, _, _, _, _, _, _, _, _, _, _, _, _, _, dI ((i1 + 1 : Nat) : Int)]) (sh_add hj1) rfl rfl ?_
                  refine wp_jumpR rfl ?_
                  clear hi1 hj1; ((try simp only [deq_leaf, deq_agg, deqs_nil, deqs_cons, veq_bool] at c7 c6 c5 c4 c3 c2 ⊢); grind)
    · show wp _ _ _ u69T1 _
      refine wp_bindE (ρ' := [_, _, _, dI ((a.es.length : Nat) : Int)]) (sh_len i_a) rfl rfl ?_
      refine wp_bindE (ρ' := [_, _, _, _, _]) sh_lss rfl rfl ?_
      refine wp_iteB rfl ?_
      rw [lt_false]
      refine ite_f ?_
      refine wp_retTo (d' := dB (true)) rfl (db_congr ?_)
      ((try simp only [deq_leaf, deq_agg, deqs_nil, deqs_cons, veq_int, veq_bool, veq_str] at q1 ⊢); grind)
/- 70 langdoc/langdocref40.nets -/
theorem h70 {a b : D} (h_a : HasSh (.st [.int .i64, .sl 90 3 (.st [.int .i64, .int .i64, .int .i64]), .sl 3 1 (.int .i64)]) a) (h_b : HasSh (.st [.int .i64, .sl 90 3 (.st [.int .i64, .int .i64, .int .i64]), .sl 3 1 (.int .i64)]) b) : Holds EE 70 [a, b] (dB (deq a b)) := by
  refine u70 rfl (Goes.step' ?_)
  obtain ⟨_, rfl, _, _, rfl, ⟨a_0, rfl⟩, a_1, _, rfl, h_a_1, a_2, _, rfl, h_a_2, rfl⟩ := h_a
  have i_a_1 := isSl_of h_a_1
  have i_a_2 := isSl_of h_a_2
  obtain ⟨_, rfl, _, _, rfl, ⟨b_0, rfl⟩, b_1, _, rfl, h_b_1, b_2, _, rfl, h_b_2, rfl⟩ := h_b
  have i_b_1 := isSl_of h_b_1
  have i_b_2 := isSl_of h_b_2
  show wp _ _ _ u70T0 _
  refine wp_bindE (ρ' := [_, _, .agg [dI a_0, a_1, a_2]]) (sh_chkW rfl) rfl rfl ?_
  refine wp_bindE (ρ' := [_, _, _, .agg [dI b_0, b_1, b_2]]) (sh_chkW rfl) rfl rfl ?_
  refine wp_bindE (ρ' := [_, _, _, _, dI a_0]) (sh_fld1 (off := 0) rfl rfl) rfl rfl ?_
  refine wp_bindE (ρ' := [_, _, _, _, _, dI b_0]) (sh_fld1 (off := 0) rfl rfl) rfl rfl ?_
  refine wp_bindE (ρ' := [_, _, _, _, _, _, dB (a_0 != b_0)]) sh_neq rfl rfl ?_
  refine wp_iteC rfl (fun c0 => ?_) (fun c0 => ?_)
  · skip
    refine wp_retTo (d' := dB (false)) rfl (db_congr ?_)
    ((try simp only [deq_leaf, deq_agg, deqs_nil, deqs_cons, veq_int] at c0 ⊢); grind)
  · skip
    refine wp_bindE (ρ' := [_, _, _, _, _, _, _, a_1]) (sh_fld1 (off := 1) rfl i_a_1.one) rfl rfl ?_
    refine wp_bindE (ρ' := [_, _, _, _, _, _, _, _, dI ((a_1.es.length : Nat) : Int)]) (sh_len i_a_1) rfl rfl ?_
    refine wp_bindE (ρ' := [_, _, _, _, _, _, _, _, _, b_1]) (sh_fld1 (off := 1) rfl i_b_1.one) rfl rfl ?_
    refine wp_bindE (ρ' := [_, _, _, _, _, _, _, _, _, _, dI ((b_1.es.length : Nat) : Int)]) (sh_len i_b_1) rfl rfl ?_
    refine wp_bindE (ρ' := [_, _, _, _, _, _, _, _, _, _, _, _]) sh_neq rfl rfl ?_
    refine wp_iteC rfl (fun c1 => ?_) (fun c1 => ?_)
    · have q1 := deq_len i_a_1 i_b_1 (len_ne c1)
      refine wp_retTo (d' := dB (false)) rfl (db_congr ?_)
      ((try simp only [deq_leaf, deq_agg, deqs_nil, deqs_cons, veq_int] at q1 c0 ⊢); grind)
    · have l_a_1_b_1 := len_of c1
      refine wp_bindE (ρ' := [_, _, _, _, _, _, _, _, _, _, _, _, a_2]) (sh_fld1 (off := 2) rfl i_a_2.one) rfl rfl ?_
      refine wp_bindE (ρ' := [_, _, _, _, _, _, _, _, _, _, _, _, _, b_2]) (sh_fld1 (off := 2) rfl i_b_2.one) rfl rfl ?_
      refine wp_callE (ρ' := [_, _, _, _, _, _, _, _, _, _, _, _, _, _, dB (deq (a_2) (b_2))]) (h110 h_a_2 h_b_2) rfl rfl rfl rfl ?_
      refine wp_bindE (ρ' := [_, _, _, _, _, _, _, _, _, _, _, _, _, _, _, dB (!(deq (a_2) (b_2)))]) sh_not rfl rfl ?_
      refine wp_iteC rfl (fun c2 => ?_) (fun c2 => ?_)
      · skip
        refine wp_retTo (d' := dB (false)) rfl (db_congr ?_)
        ((try simp only [deq_leaf, deq_agg, deqs_nil, deqs_cons, veq_int] at c2 c0 ⊢); grind)
      · skip
        refine wp_jumpTo rfl ?_
        refine loop_eq2 (ρ := fun i3 => [dI ((i3 : Nat) : Int), .agg [dI a_0, a_1, a_2], .agg [dI b_0, b_1, b_2]]) i_a_1 i_b_1 l_a_1_b_1 (fun q3 => ?_) ?_ (fun q3 => ?_)
        · ((try simp only [deq_leaf, deq_agg, deqs_nil, deqs_cons, veq_int] at q3 c2 c0 ⊢); grind)
        · intro i3 x3 y3 e_x3 e_y3 hi3 hj3
          obtain ⟨_, rfl, _, _, rfl, ⟨x3_0, rfl⟩, _, _, rfl, ⟨x3_1, rfl⟩, _, _, rfl, ⟨x3_2, rfl⟩, rfl⟩ := elem_of h_a_1 e_x3
          obtain ⟨_, rfl, _, _, rfl, ⟨y3_0, rfl⟩, _, _, rfl, ⟨y3_1, rfl⟩, _, _, rfl, ⟨y3_2, rfl⟩, rfl⟩ := elem_of h_b_1 e_y3
          show wp _ _ _ u70T1 _
          refine wp_bindE (ρ' := [_, _, _, a_1]) (sh_fld1 (off := 1) rfl i_a_1.one) rfl rfl ?_
          refine wp_bindE (ρ' := [_, _, _, _, dI ((a_1.es.length : Nat) : Int)]) (sh_len i_a_1) rfl rfl ?_
          refine wp_bindE (ρ' := [_, _, _, _, _, _]) sh_lss rfl rfl ?_
          refine wp_iteB rfl ?_
          rw [lt_true (show i3 < a_1.es.length by omega)]
          refine ite_t ?_
          refine wp_bindE (ρ' := [_, _, _, _, _, _, a_1]) (sh_fld1 (off := 1) rfl i_a_1.one) rfl rfl ?_
          refine wp_bindE (ρ' := [_, _, _, _, _, _, _, dB (true)]) (sh_inr e_x3) rfl rfl ?_
          refine wp_bindE (ρ' := [_, _, _, _, _, _, _, _, .agg [dI x3_0, dI x3_1, dI x3_2]]) (sh_elemW i_a_1 e_x3 rfl) rfl rfl ?_
          refine wp_bindE (ρ' := [_, _, _, _, _, _, _, _, _, b_1]) (sh_fld1 (off := 1) rfl i_b_1.one) rfl rfl ?_
          refine wp_bindE (ρ' := [_, _, _, _, _, _, _, _, _, _, dB (true)]) (sh_inr e_y3) rfl rfl ?_
          refine wp_bindE (ρ' := [_, _, _, _, _, _, _, _, _, _, _, .agg [dI y3_0, dI y3_1, dI y3_2]]) (sh_elemW i_b_1 e_y3 rfl) rfl rfl ?_
          refine wp_bindE (ρ' := [_, _, _, _, _, _, _, _, _, _, _, _, dB (!(deqs [dI x3_0, dI x3_1, dI x3_2] [dI y3_0, dI y3_1, dI y3_2]))]) (sh_cmpS .neq (.inl rfl) ty90 st90 le4 gu90 rfl (shs_cons sh_int (shs_cons sh_int (shs_cons sh_int shs_nil))) (shs_cons sh_int (shs_cons sh_int (shs_cons sh_int shs_nil)))) rfl rfl ?_
          refine wp_iteC rfl (fun c4 => ?_) (fun c4 => ?_)
          · skip
            refine wp_retR rfl ?_
            clear hi3 hj3; ((try simp only [deq_leaf, deq_agg, deqs_nil, deqs_cons, veq_int] at c4 c2 c0 ⊢); grind)
          · skip
            refine wp_bindE (ρ' := [_, _, _, _, _, _, _, _, _, _, _, _, _, dI ((i3 + 1 : Nat) : Int)]) (sh_add hj3) rfl rfl ?_
            refine wp_jumpR rfl ?_
            clear hi3 hj3; ((try simp only [deq_leaf, deq_agg, deqs_nil, deqs_cons, veq_int] at c4 c2 c0 ⊢); grind)
        · show wp _ _ _ u70T1 _
          refine wp_bindE (ρ' := [_, _, _, a_1]) (sh_fld1 (off := 1) rfl i_a_1.one) rfl rfl ?_
          refine wp_bindE (ρ' := [_, _, _, _, dI ((a_1.es.length : Nat) : Int)]) (sh_len i_a_1) rfl rfl ?_
          refine wp_bindE (ρ' := [_, _, _, _, _, _]) sh_lss rfl rfl ?_
          refine wp_iteB rfl ?_
          rw [lt_false]
          refine ite_f ?_
          refine wp_retTo (d' := dB (true)) rfl (db_congr ?_)
          ((try simp only [deq_leaf, deq_agg, deqs_nil, deqs_cons, veq_int] at q3 c2 c0 ⊢); grind)
/- 21 langdoc/langdocref40.Same -/
theorem h21 {a b : D} (h_a : HasSh (.st [.sl 86 2 (.st [.str, .int .i64]), .str, .sl 88 2 (.st [.str, .sl 3 1 (.int .i64)]), .sl 143 1 (.sl 9 1 (.str)), .sl 136 6 (.st [.sl 3 1 (.int .i64), .sl 3 1 (.int .i64), .sl 139 2 (.st [.int .i64, .int .i64]), .sl 139 2 (.st [.int .i64, .int .i64]), .bool, .bool]), .int .i64, .sl 90 3 (.st [.int .i64, .int .i64, .int .i64]), .sl 3 1 (.int .i64), .sl 69 8 (.st [.int .i64, .sl 3 1 (.int .i64), .int .i64, .sl 31 1 (.sl 3 1 (.int .i64)), .int .i64, .sl 92 2 (.st [.str, .str]), .sl 94 2 (.st [.int .i64, .int .i64]), .sl 74 2 (.st [.int .i64, .int .i64])])]) a) (h_b : HasSh (.st [.sl 86 2 (.st [.str, .int .i64]), .str, .sl 88 2 (.st [.str, .sl 3 1 (.int .i64)]), .sl 143 1 (.sl 9 1 (.str)), .sl 136 6 (.st [.sl 3 1 (.int .i64), .sl 3 1 (.int .i64), .sl 139 2 (.st [.int .i64, .int .i64]), .sl 139 2 (.st [.int .i64, .int .i64]), .bool, .bool]), .int .i64, .sl 90 3 (.st [.int .i64, .int .i64, .int .i64]), .sl 3 1 (.int .i64), .sl 69 8 (.st [.int .i64, .sl 3 1 (.int .i64), .int .i64, .sl 31 1 (.sl 3 1 (.int .i64)), .int .i64, .sl 92 2 (.st [.str, .str]), .sl 94 2 (.st [.int .i64, .int .i64]), .sl 74 2 (.st [.int .i64, .int .i64])])]) b) : Holds EE 21 [a, b] (dB (deq a b)) := by
  refine u21 rfl (Goes.step' ?_)
  obtain ⟨_, rfl, a_0, _, rfl, h_a_0, _, _, rfl, ⟨a_1, rfl⟩, a_2, _, rfl, h_a_2, a_3, _, rfl, h_a_3, a_4, _, rfl, h_a_4, _, _, rfl, ⟨a_5, rfl⟩, a_6, _, rfl, h_a_6, a_7, _, rfl, h_a_7, a_8, _, rfl, h_a_8, rfl⟩ := h_a
  have i_a_0 := isSl_of h_a_0
  have i_a_2 := isSl_of h_a_2
  have i_a_3 := isSl_of h_a_3
  have i_a_4 := isSl_of h_a_4
  have i_a_6 := isSl_of h_a_6
  have i_a_7 := isSl_of h_a_7
  have i_a_8 := isSl_of h_a_8
  obtain ⟨_, rfl, b_0, _, rfl, h_b_0, _, _, rfl, ⟨b_1, rfl⟩, b_2, _, rfl, h_b_2, b_3, _, rfl, h_b_3, b_4, _, rfl, h_b_4, _, _, rfl, ⟨b_5, rfl⟩, b_6, _, rfl, h_b_6, b_7, _, rfl, h_b_7, b_8, _, rfl, h_b_8, rfl⟩ := h_b
  have i_b_0 := isSl_of h_b_0
  have i_b_2 := isSl_of h_b_2
  have i_b_3 := isSl_of h_b_3
  have i_b_4 := isSl_of h_b_4
  have i_b_6 := isSl_of h_b_6
  have i_b_7 := isSl_of h_b_7
  have i_b_8 := isSl_of h_b_8
  show wp _ _ _ u21T0 _
  refine wp_bindE (ρ' := [_, _, .agg [a_0, .leaf (.string a_1), a_2, a_3, a_4, dI a_5, a_6, a_7, a_8]]) (sh_chkW rfl) rfl rfl ?_
  refine wp_bindE (ρ' := [_, _, _, .agg [b_0, .leaf (.string b_1), b_2, b_3, b_4, dI b_5, b_6, b_7, b_8]]) (sh_chkW rfl) rfl rfl ?_
  refine wp_bindE (ρ' := [_, _, _, _, a_0]) (sh_fld1 (off := 0) rfl i_a_0.one) rfl rfl ?_
  refine wp_bindE (ρ' := [_, _, _, _, _, dI ((a_0.es.length : Nat) : Int)]) (sh_len i_a_0) rfl rfl ?_
  refine wp_bindE (ρ' := [_, _, _, _, _, _, b_0]) (sh_fld1 (off := 0) rfl i_b_0.one) rfl rfl ?_
  refine wp_bindE (ρ' := [_, _, _, _, _, _, _, dI ((b_0.es.length : Nat) : Int)]) (sh_len i_b_0) rfl rfl ?_
  refine wp_bindE (ρ' := [_, _, _, _, _, _, _, _, _]) sh_neq rfl rfl ?_
  refine wp_iteC rfl (fun c0 => ?_) (fun c0 => ?_)
  · have q0 := deq_len i_a_0 i_b_0 (len_ne c0)
    refine wp_retTo (d' := dB (false)) rfl (db_congr ?_)
    ((try simp only [deq_leaf, deq_agg, deqs_nil, deqs_cons, veq_int, veq_str] at q0 ⊢); grind)
  · have l_a_0_b_0 := len_of c0
    refine wp_bindE (ρ' := [_, _, _, _, _, _, _, _, _, a_8]) (sh_fld1 (off := 8) rfl i_a_8.one) rfl rfl ?_
    refine wp_bindE (ρ' := [_, _, _, _, _, _, _, _, _, _, dI ((a_8.es.length : Nat) : Int)]) (sh_len i_a_8) rfl rfl ?_
    refine wp_bindE (ρ' := [_, _, _, _, _, _, _, _, _, _, _, b_8]) (sh_fld1 (off := 8) rfl i_b_8.one) rfl rfl ?_
    refine wp_bindE (ρ' := [_, _, _, _, _, _, _, _, _, _, _, _, dI ((b_8.es.length : Nat) : Int)]) (sh_len i_b_8) rfl rfl ?_
    refine wp_bindE (ρ' := [_, _, _, _, _, _, _, _, _, _, _, _, _, _]) sh_neq rfl rfl ?_
    refine wp_iteC rfl (fun c1 => ?_) (fun c1 => ?_)
    · have q1 := deq_len i_a_8 i_b_8 (len_ne c1)
      refine wp_retTo (d' := dB (false)) rfl (db_congr ?_)
      ((try simp only [deq_leaf, deq_agg, deqs_nil, deqs_cons, veq_int, veq_str] at q1 ⊢); grind)
    · have l_a_8_b_8 := len_of c1
      refine wp_jumpTo rfl ?_
      refine loop_eq2 (ρ := fun i2 => [dI ((i2 : Nat) : Int), .agg [a_0, .leaf (.string a_1), a_2, a_3, a_4, dI a_5, a_6, a_7, a_8], .agg [b_0, .leaf (.string b_1), b_2, b_3, b_4, dI b_5, b_6, b_7, b_8]]) i_a_0 i_b_0 l_a_0_b_0 (fun q2 => ?_) ?_ (fun q2 => ?_)
      · ((try simp only [deq_leaf, deq_agg, deqs_nil, deqs_cons, veq_int, veq_str] at q2 ⊢); grind)
      · intro i2 x2 y2 e_x2 e_y2 hi2 hj2
        obtain ⟨_, rfl, _, _, rfl, ⟨x2_0, rfl⟩, _, _, rfl, ⟨x2_1, rfl⟩, rfl⟩ := elem_of h_a_0 e_x2
        obtain ⟨_, rfl, _, _, rfl, ⟨y2_0, rfl⟩, _, _, rfl, ⟨y2_1, rfl⟩, rfl⟩ := elem_of h_b_0 e_y2
        show wp _ _ _ u21T1 _
        refine wp_bindE (ρ' := [_, _, _, a_0]) (sh_fld1 (off := 0) rfl i_a_0.one) rfl rfl ?_
        refine wp_bindE (ρ' := [_, _, _, _, dI ((a_0.es.length : Nat) : Int)]) (sh_len i_a_0) rfl rfl ?_
        refine wp_bindE (ρ' := [_, _, _, _, _, _]) sh_lss rfl rfl ?_
        refine wp_iteB rfl ?_
        rw [lt_true (show i2 < a_0.es.length by omega)]
        refine ite_t ?_
        refine wp_bindE (ρ' := [_, _, _, _, _, _, a_0]) (sh_fld1 (off := 0) rfl i_a_0.one) rfl rfl ?_
        refine wp_bindE (ρ' := [_, _, _, _, _, _, _, dB (true)]) (sh_inr e_x2) rfl rfl ?_
        refine wp_bindE (ρ' := [_, _, _, _, _, _, _, _, .agg [.leaf (.string x2_0), dI x2_1]]) (sh_elemW i_a_0 e_x2 rfl) rfl rfl ?_
        refine wp_bindE (ρ' := [_, _, _, _, _, _, _, _, _, b_0]) (sh_fld1 (off := 0) rfl i_b_0.one) rfl rfl ?_
        refine wp_bindE (ρ' := [_, _, _, _, _, _, _, _, _, _, dB (true)]) (sh_inr e_y2) rfl rfl ?_
        refine wp_bindE (ρ' := [_, _, _, _, _, _, _, _, _, _, _, .agg [.leaf (.string y2_0), dI y2_1]]) (sh_elemW i_b_0 e_y2 rfl) rfl rfl ?_
        refine wp_bindE (ρ' := [_, _, _, _, _, _, _, _, _, _, _, _, dB (!(deqs [.leaf (.string x2_0), dI x2_1] [.leaf (.string y2_0), dI y2_1]))]) (sh_cmpS .neq (.inl rfl) ty86 st86 le4 gu86 rfl (shs_cons sh_str (shs_cons sh_int shs_nil)) (shs_cons sh_str (shs_cons sh_int shs_nil))) rfl rfl ?_
        refine wp_iteC rfl (fun c3 => ?_) (fun c3 => ?_)
        · skip
          refine wp_retR rfl ?_
          clear hi2 hj2; ((try simp only [deq_leaf, deq_agg, deqs_nil, deqs_cons, veq_int, veq_str] at c3 ⊢); grind)
        · skip
          refine wp_bindE (ρ' := [_, _, _, _, _, _, _, _, _, _, _, _, _, dI ((i2 + 1 : Nat) : Int)]) (sh_add hj2) rfl rfl ?_
          refine wp_jumpR rfl ?_
          clear hi2 hj2; ((try simp only [deq_leaf, deq_agg, deqs_nil, deqs_cons, veq_int, veq_str] at c3 ⊢); grind)
      · show wp _ _ _ u21T1 _
        refine wp_bindE (ρ' := [_, _, _, a_0]) (sh_fld1 (off := 0) rfl i_a_0.one) rfl rfl ?_
        refine wp_bindE (ρ' := [_, _, _, _, dI ((a_0.es.length : Nat) : Int)]) (sh_len i_a_0) rfl rfl ?_
        refine wp_bindE (ρ' := [_, _, _, _, _, _]) sh_lss rfl rfl ?_
        refine wp_iteB rfl ?_
        rw [lt_false]
        refine ite_f ?_
        refine wp_jumpTo rfl ?_
        refine loop_eq2 (ρ := fun i3 => [dI ((i3 : Nat) : Int), .agg [a_0, .leaf (.string a_1), a_2, a_3, a_4, dI a_5, a_6, a_7, a_8], .agg [b_0, .leaf (.string b_1), b_2, b_3, b_4, dI b_5, b_6, b_7, b_8]]) i_a_8 i_b_8 l_a_8_b_8 (fun q3 => ?_) ?_ (fun q3 => ?_)
        · ((try simp only [deq_leaf, deq_agg, deqs_nil, deqs_cons, veq_int, veq_str] at q3 q2 ⊢); grind)
        · intro i3 x3 y3 e_x3 e_y3 hi3 hj3
          obtain ⟨_, rfl, _, _, rfl, ⟨x3_0, rfl⟩, x3_1, _, rfl, h_x3_1, _, _, rfl, ⟨x3_2, rfl⟩, x3_3, _, rfl, h_x3_3, _, _, rfl, ⟨x3_4, rfl⟩, x3_5, _, rfl, h_x3_5, x3_6, _, rfl, h_x3_6, x3_7, _, rfl, h_x3_7, rfl⟩ := elem_of h_a_8 e_x3
          have i_x3_1 := isSl_of h_x3_1
          have i_x3_3 := isSl_of h_x3_3
          have i_x3_5 := isSl_of h_x3_5
          have i_x3_6 := isSl_of h_x3_6
          have i_x3_7 := isSl_of h_x3_7
          obtain ⟨_, rfl, _, _, rfl, ⟨y3_0, rfl⟩, y3_1, _, rfl, h_y3_1, _, _, rfl, ⟨y3_2, rfl⟩, y3_3, _, rfl, h_y3_3, _, _, rfl, ⟨y3_4, rfl⟩, y3_5, _, rfl, h_y3_5, y3_6, _, rfl, h_y3_6, y3_7, _, rfl, h_y3_7, rfl⟩ := elem_of h_b_8 e_y3
          have i_y3_1 := isSl_of h_y3_1
          have i_y3_3 := isSl_of h_y3_3
          have i_y3_5 := isSl_of h_y3_5
          have i_y3_6 := isSl_of h_y3_6
          have i_y3_7 := isSl_of h_y3_7
          show wp _ _ _ u21T2 _
          refine wp_bindE (ρ' := [_, _, _, a_8]) (sh_fld1 (off := 8) rfl i_a_8.one) rfl rfl ?_
          refine wp_bindE (ρ' := [_, _, _, _, dI ((a_8.es.length : Nat) : Int)]) (sh_len i_a_8) rfl rfl ?_
          refine wp_bindE (ρ' := [_, _, _, _, _, _]) sh_lss rfl rfl ?_
          refine wp_iteB rfl ?_
          rw [lt_true (show i3 < a_8.es.length by omega)]
          refine ite_t ?_
          refine wp_bindE (ρ' := [_, _, _, _, _, _, a_8]) (sh_fld1 (off := 8) rfl i_a_8.one) rfl rfl ?_
          refine wp_bindE (ρ' := [_, _, _, _, _, _, _, dB (true)]) (sh_inr e_x3) rfl rfl ?_
          refine wp_bindE (ρ' := [_, _, _, _, _, _, _, _, .agg [dI x3_0, x3_1, dI x3_2, x3_3, dI x3_4, x3_5, x3_6, x3_7]]) (sh_elemW i_a_8 e_x3 rfl) rfl rfl ?_
          refine wp_bindE (ρ' := [_, _, _, _, _, _, _, _, _, b_8]) (sh_fld1 (off := 8) rfl i_b_8.one) rfl rfl ?_
          refine wp_bindE (ρ' := [_, _, _, _, _, _, _, _, _, _, dB (true)]) (sh_inr e_y3) rfl rfl ?_
          refine wp_bindE (ρ' := [_, _, _, _, _, _, _, _, _, _, _, .agg [dI y3_0, y3_1, dI y3_2, y3_3, dI y3_4, y3_5, y3_6, y3_7]]) (sh_elemW i_b_8 e_y3 rfl) rfl rfl ?_
          refine wp_callE (ρ' := [_, _, _, _, _, _, _, _, _, _, _, _, dB (deq (.agg [dI x3_0, x3_1, dI x3_2, x3_3, dI x3_4, x3_5, x3_6, x3_7]) (.agg [dI y3_0, y3_1, dI y3_2, y3_3, dI y3_4, y3_5, y3_6, y3_7]))]) (h67 (sh_st (shs_cons sh_int (shs_cons h_x3_1 (shs_cons sh_int (shs_cons h_x3_3 (shs_cons sh_int (shs_cons h_x3_5 (shs_cons h_x3_6 (shs_cons h_x3_7 shs_nil))))))))) (sh_st (shs_cons sh_int (shs_cons h_y3_1 (shs_cons sh_int (shs_cons h_y3_3 (shs_cons sh_int (shs_cons h_y3_5 (shs_cons h_y3_6 (shs_cons h_y3_7 shs_nil)))))))))) rfl rfl rfl rfl ?_
          refine wp_bindE (ρ' := [_, _, _, _, _, _, _, _, _, _, _, _, _, dB (!(deq (.agg [dI x3_0, x3_1, dI x3_2, x3_3, dI x3_4, x3_5, x3_6, x3_7]) (.agg [dI y3_0, y3_1, dI y3_2, y3_3, dI y3_4, y3_5, y3_6, y3_7])))]) sh_not rfl rfl ?_
          refine wp_iteC rfl (fun c4 => ?_) (fun c4 => ?_)
          · skip
            refine wp_retR rfl ?_
            clear hi3 hj3; ((try simp only [deq_leaf, deq_agg, deqs_nil, deqs_cons, veq_int] at c4 q2 ⊢); grind)
          · skip
            refine wp_bindE (ρ' := [_, _, _, _, _, _, _, _, _, _, _, _, _, _, dI ((i3 + 1 : Nat) : Int)]) (sh_add hj3) rfl rfl ?_
            refine wp_jumpR rfl ?_
            clear hi3 hj3; ((try simp only [deq_leaf, deq_agg, deqs_nil, deqs_cons, veq_int] at c4 q2 ⊢); grind)
        · show wp _ _ _ u21T2 _
          refine wp_bindE (ρ' := [_, _, _, a_8]) (sh_fld1 (off := 8) rfl i_a_8.one) rfl rfl ?_
          refine wp_bindE (ρ' := [_, _, _, _, dI ((a_8.es.length : Nat) : Int)]) (sh_len i_a_8) rfl rfl ?_
          refine wp_bindE (ρ' := [_, _, _, _, _, _]) sh_lss rfl rfl ?_
          refine wp_iteB rfl ?_
          rw [lt_false]
          refine ite_f ?_
          refine wp_bindE (ρ' := [_, _, _, _, _, _, .agg [.leaf (.string a_1), a_2, a_3]]) (sh_fldA rfl) rfl rfl ?_
          refine wp_bindE (ρ' := [_, _, _, _, _, _, _, .agg [.leaf (.string b_1), b_2, b_3]]) (sh_fldA rfl) rfl rfl ?_
          refine wp_callE (ρ' := [_, _, _, _, _, _, _, _, dB (deq (.agg [.leaf (.string a_1), a_2, a_3]) (.agg [.leaf (.string b_1), b_2, b_3]))]) (h68 (sh_st (shs_cons sh_str (shs_cons h_a_2 (shs_cons h_a_3 shs_nil)))) (sh_st (shs_cons sh_str (shs_cons h_b_2 (shs_cons h_b_3 shs_nil))))) rfl rfl rfl rfl ?_
          refine wp_iteC rfl (fun c4 => ?_) (fun c4 => ?_)
          · skip
            refine wp_bindE (ρ' := [_, _, _, _, _, _, _, _, _, a_4]) (sh_fld1 (off := 4) rfl i_a_4.one) rfl rfl ?_
            refine wp_bindE (ρ' := [_, _, _, _, _, _, _, _, _, _, b_4]) (sh_fld1 (off := 4) rfl i_b_4.one) rfl rfl ?_
            refine wp_callE (ρ' := [_, _, _, _, _, _, _, _, _, _, _, dB (deq (a_4) (b_4))]) (h69 h_a_4 h_b_4) rfl rfl rfl rfl ?_
            refine wp_iteC rfl (fun c5 => ?_) (fun c5 => ?_)
            · skip
              refine wp_bindE (ρ' := [_, _, _, _, _, _, _, _, _, _, _, _, .agg [dI a_5, a_6, a_7]]) (sh_fldA rfl) rfl rfl ?_
              refine wp_bindE (ρ' := [_, _, _, _, _, _, _, _, _, _, _, _, _, .agg [dI b_5, b_6, b_7]]) (sh_fldA rfl) rfl rfl ?_
              refine wp_callE (ρ' := [_, _, _, _, _, _, _, _, _, _, _, _, _, _, dB (deq (.agg [dI a_5, a_6, a_7]) (.agg [dI b_5, b_6, b_7]))]) (h70 (sh_st (shs_cons sh_int (shs_cons h_a_6 (shs_cons h_a_7 shs_nil)))) (sh_st (shs_cons sh_int (shs_cons h_b_6 (shs_cons h_b_7 shs_nil))))) rfl rfl rfl rfl ?_
              refine wp_retTo (d' := dB (deq (.agg [dI a_5, a_6, a_7]) (.agg [dI b_5, b_6, b_7]))) rfl (db_congr ?_)
              ((try simp only [deq_leaf, deq_agg, deqs_nil, deqs_cons, veq_int, veq_str] at c5 c4 q3 q2 ⊢); grind)
            · skip
              refine wp_retTo (d' := dB (false)) rfl (db_congr ?_)
              ((try simp only [deq_leaf, deq_agg, deqs_nil, deqs_cons, veq_int, veq_str] at c5 c4 q3 q2 ⊢); grind)
          · skip
            refine wp_retTo (d' := dB (false)) rfl (db_congr ?_)
            ((try simp only [deq_leaf, deq_agg, deqs_nil, deqs_cons, veq_int, veq_str] at c4 q3 q2 ⊢); grind)
/- 112 langdoc/langdocref12.Ints -/
theorem h112 {a b : D} (h_a : HasSh (.sl 3 1 (.int .i64)) a) (h_b : HasSh (.sl 3 1 (.int .i64)) b) : Holds EE 112 [a, b] (dB (deq a b)) := by
  refine u112 rfl (Goes.step' ?_)
  have i_a := isSl_of h_a
  have i_b := isSl_of h_b
  show wp _ _ _ u112T0 _
  refine wp_bindE (ρ' := [_, _, dI ((a.es.length : Nat) : Int)]) (sh_len i_a) rfl rfl ?_
  refine wp_bindE (ρ' := [_, _, _, dI ((b.es.length : Nat) : Int)]) (sh_len i_b) rfl rfl ?_
  refine wp_bindE (ρ' := [_, _, _, _, _]) sh_neq rfl rfl ?_
  refine wp_iteC rfl (fun c0 => ?_) (fun c0 => ?_)
  · have q0 := deq_len i_a i_b (len_ne c0)
    refine wp_retTo (d' := dB (false)) rfl (db_congr ?_)
    ((try simp only [deq_leaf, deq_agg, deqs_nil, deqs_cons, veq_int, veq_bool, veq_str] at q0 ⊢); grind)
  · have l_a_b := len_of c0
    refine wp_jumpTo rfl ?_
    refine loop_eq2 (ρ := fun i1 => [a, b, dI ((i1 : Nat) : Int)]) i_a i_b l_a_b (fun q1 => ?_) ?_ (fun q1 => ?_)
    · ((try simp only [deq_leaf, deq_agg, deqs_nil, deqs_cons, veq_int, veq_bool, veq_str] at q1 ⊢); grind)
    · intro i1 x1 y1 e_x1 e_y1 hi1 hj1
      obtain ⟨x1, rfl⟩ := elem_of h_a e_x1
      obtain ⟨y1, rfl⟩ := elem_of h_b e_y1
      show wp _ _ _ u112T1 _
      refine wp_bindE (ρ' := [_, _, _, dI ((a.es.length : Nat) : Int)]) (sh_len i_a) rfl rfl ?_
      refine wp_bindE (ρ' := [_, _, _, _, _]) sh_lss rfl rfl ?_
      refine wp_iteB rfl ?_
      rw [lt_true (show i1 < a.es.length by omega)]
      refine ite_t ?_
      refine wp_bindE (ρ' := [_, _, _, _, _, dB (true)]) (sh_inr e_x1) rfl rfl ?_
      refine wp_bindE (ρ' := [_, _, _, _, _, _, dI x1]) (sh_elem1 i_a e_x1 rfl) rfl rfl ?_
      refine wp_bindE (ρ' := [_, _, _, _, _, _, _, dB (true)]) (sh_inr e_y1) rfl rfl ?_
      refine wp_bindE (ρ' := [_, _, _, _, _, _, _, _, dI y1]) (sh_elem1 i_b e_y1 rfl) rfl rfl ?_
      refine wp_bindE (ρ' := [_, _, _, _, _, _, _, _, _, dB (x1 != y1)]) sh_neq rfl rfl ?_
      refine wp_iteC rfl (fun c2 => ?_) (fun c2 => ?_)
      · skip
        refine wp_retR rfl ?_
        clear hi1 hj1; ((try simp only [deq_leaf, veq_int] at c2 ⊢); grind)
      · skip
        refine wp_bindE (ρ' := [_, _, _, _, _, _, _, _, _, _, dI ((i1 + 1 : Nat) : Int)]) (sh_add hj1) rfl rfl ?_
        refine wp_jumpR rfl ?_
        clear hi1 hj1; ((try simp only [deq_leaf, veq_int] at c2 ⊢); grind)
    · show wp _ _ _ u112T1 _
      refine wp_bindE (ρ' := [_, _, _, dI ((a.es.length : Nat) : Int)]) (sh_len i_a) rfl rfl ?_
      refine wp_bindE (ρ' := [_, _, _, _, _]) sh_lss rfl rfl ?_
      refine wp_iteB rfl ?_
      rw [lt_false]
      refine ite_f ?_
      refine wp_retTo (d' := dB (true)) rfl (db_congr ?_)
      ((try simp only [deq_leaf, deq_agg, deqs_nil, deqs_cons, veq_int, veq_bool, veq_str] at q1 ⊢); grind)
/- 71 langdoc/langdocref12.Same -/
theorem h71 {a b : D} (h_a : HasSh (.st [.int .i64, .str, .int .i64, .int .i64, .sl 3 1 (.int .i64), .sl 100 4 (.st [.str, .int .i64, .int .i64, .int .i64]), .sl 104 7 (.st [.int .i64, .int .i64, .int .i64, .int .i64, .int .i64, .int .i64, .str])]) a) (h_b : HasSh (.st [.int .i64, .str, .int .i64, .int .i64, .sl 3 1 (.int .i64), .sl 100 4 (.st [.str, .int .i64, .int .i64, .int .i64]), .sl 104 7 (.st [.int .i64, .int .i64, .int .i64, .int .i64, .int .i64, .int .i64, .str])]) b) : Holds EE 71 [a, b] (dB (deq a b)) := by
  refine u71 rfl (Goes.step' ?_)
  obtain ⟨_, rfl, _, _, rfl, ⟨a_0, rfl⟩, _, _, rfl, ⟨a_1, rfl⟩, _, _, rfl, ⟨a_2, rfl⟩, _, _, rfl, ⟨a_3, rfl⟩, a_4, _, rfl, h_a_4, a_5, _, rfl, h_a_5, a_6, _, rfl, h_a_6, rfl⟩ := h_a
  have i_a_4 := isSl_of h_a_4
  have i_a_5 := isSl_of h_a_5
  have i_a_6 := isSl_of h_a_6
  obtain ⟨_, rfl, _, _, rfl, ⟨b_0, rfl⟩, _, _, rfl, ⟨b_1, rfl⟩, _, _, rfl, ⟨b_2, rfl⟩, _, _, rfl, ⟨b_3, rfl⟩, b_4, _, rfl, h_b_4, b_5, _, rfl, h_b_5, b_6, _, rfl, h_b_6, rfl⟩ := h_b
  have i_b_4 := isSl_of h_b_4
  have i_b_5 := isSl_of h_b_5
  have i_b_6 := isSl_of h_b_6
  show wp _ _ _ u71T0 _
  refine wp_bindE (ρ' := [_, _, .agg [dI a_0, .leaf (.string a_1), dI a_2, dI a_3, a_4, a_5, a_6]]) (sh_chkW rfl) rfl rfl ?_
  refine wp_bindE (ρ' := [_, _, _, .agg [dI b_0, .leaf (.string b_1), dI b_2, dI b_3, b_4, b_5, b_6]]) (sh_chkW rfl) rfl rfl ?_
  refine wp_bindE (ρ' := [_, _, _, _, .agg [dI a_0, .leaf (.string a_1), dI a_2, dI a_3, a_4]]) (sh_fldA rfl) rfl rfl ?_
  refine wp_bindE (ρ' := [_, _, _, _, _, .agg [dI b_0, .leaf (.string b_1), dI b_2, dI b_3, b_4]]) (sh_fldA rfl) rfl rfl ?_
  refine wp_bindE (ρ' := [_, _, _, _, _, _, .agg [dI a_0, .leaf (.string a_1), dI a_2, dI a_3, a_4]]) (sh_chkW rfl) rfl rfl ?_
  refine wp_bindE (ρ' := [_, _, _, _, _, _, _, .agg [dI b_0, .leaf (.string b_1), dI b_2, dI b_3, b_4]]) (sh_chkW rfl) rfl rfl ?_
  refine wp_bindE (ρ' := [_, _, _, _, _, _, _, _, dI a_0]) (sh_fld1 (off := 0) rfl rfl) rfl rfl ?_
  refine wp_bindE (ρ' := [_, _, _, _, _, _, _, _, _, dI b_0]) (sh_fld1 (off := 0) rfl rfl) rfl rfl ?_
  refine wp_bindE (ρ' := [_, _, _, _, _, _, _, _, _, _, dB (a_0 != b_0)]) sh_neq rfl rfl ?_
  refine wp_iteC rfl (fun c0 => ?_) (fun c0 => ?_)
  · skip
    refine wp_retTo (d' := dB (false)) rfl (db_congr ?_)
    ((try simp only [deq_leaf, deq_agg, deqs_nil, deqs_cons, veq_int, veq_str] at c0 ⊢); grind)
  · skip
    refine wp_bindE (ρ' := [_, _, _, _, _, _, _, _, _, _, _, .leaf (.string a_1)]) (sh_fld1 (off := 1) rfl rfl) rfl rfl ?_
    refine wp_bindE (ρ' := [_, _, _, _, _, _, _, _, _, _, _, _, .leaf (.string b_1)]) (sh_fld1 (off := 1) rfl rfl) rfl rfl ?_
    refine wp_bindE (ρ' := [_, _, _, _, _, _, _, _, _, _, _, _, _, dB (!(a_1 == b_1))]) sh_strN rfl rfl ?_
    refine wp_iteC rfl (fun c1 => ?_) (fun c1 => ?_)
    · skip
      refine wp_retTo (d' := dB (false)) rfl (db_congr ?_)
      ((try simp only [deq_leaf, deq_agg, deqs_nil, deqs_cons, veq_int, veq_str] at c1 c0 ⊢); grind)
    · skip
      refine wp_bindE (ρ' := [_, _, _, _, _, _, _, _, _, _, _, _, _, _, dI a_2]) (sh_fld1 (off := 2) rfl rfl) rfl rfl ?_
      refine wp_bindE (ρ' := [_, _, _, _, _, _, _, _, _, _, _, _, _, _, _, dI b_2]) (sh_fld1 (off := 2) rfl rfl) rfl rfl ?_
      refine wp_bindE (ρ' := [_, _, _, _, _, _, _, _, _, _, _, _, _, _, _, _, dB (a_2 != b_2)]) sh_neq rfl rfl ?_
      refine wp_iteC rfl (fun c2 => ?_) (fun c2 => ?_)
      · skip
        refine wp_retTo (d' := dB (false)) rfl (db_congr ?_)
        ((try simp only [deq_leaf, deq_agg, deqs_nil, deqs_cons, veq_int, veq_str] at c2 c1 c0 ⊢); grind)
      · skip
        refine wp_bindE (ρ' := [_, _, _, _, _, _, _, _, _, _, _, _, _, _, _, _, _, dI a_3]) (sh_fld1 (off := 3) rfl rfl) rfl rfl ?_
        refine wp_bindE (ρ' := [_, _, _, _, _, _, _, _, _, _, _, _, _, _, _, _, _, _, dI b_3]) (sh_fld1 (off := 3) rfl rfl) rfl rfl ?_
        refine wp_bindE (ρ' := [_, _, _, _, _, _, _, _, _, _, _, _, _, _, _, _, _, _, _, dB (a_3 != b_3)]) sh_neq rfl rfl ?_
        refine wp_iteC rfl (fun c3 => ?_) (fun c3 => ?_)
        · skip
          refine wp_retTo (d' := dB (false)) rfl (db_congr ?_)
          ((try simp only [deq_leaf, deq_agg, deqs_nil, deqs_cons, veq_int, veq_str] at c3 c2 c1 c0 ⊢); grind)
        · skip
          refine wp_bindE (ρ' := [_, _, _, _, _, _, _, _, _, _, _, _, _, _, _, _, _, _, _, _, a_4]) (sh_fld1 (off := 4) rfl i_a_4.one) rfl rfl ?_
          refine wp_bindE (ρ' := [_, _, _, _, _, _, _, _, _, _, _, _, _, _, _, _, _, _, _, _, _, b_4]) (sh_fld1 (off := 4) rfl i_b_4.one) rfl rfl ?_
          refine wp_callE (ρ' := [_, _, _, _, _, _, _, _, _, _, _, _, _, _, _, _, _, _, _, _, _, _, dB (deq (a_4) (b_4))]) (h112 h_a_4 h_b_4) rfl rfl rfl rfl ?_
          refine wp_bindE (ρ' := [_, _, _, _, _, _, _, _, _, _, _, _, _, _, _, _, _, _, _, _, _, _, _, dB (!(deq (a_4) (b_4)))]) sh_not rfl rfl ?_
          refine wp_iteC rfl (fun c4 => ?_) (fun c4 => ?_)
          · skip
            refine wp_retTo (d' := dB (false)) rfl (db_congr ?_)
            ((try simp only [deq_leaf, deq_agg, deqs_nil, deqs_cons, veq_int, veq_str] at c4 c3 c2 c1 c0 ⊢); grind)
          · skip
            refine wp_bindE (ρ' := [_, _, _, _, _, _, _, _, _, _, _, _, _, _, _, _, _, _, _, _, _, _, _, _, a_5]) (sh_fld1 (off := 5) rfl i_a_5.one) rfl rfl ?_
            refine wp_bindE (ρ' := [_, _, _, _, _, _, _, _, _, _, _, _, _, _, _, _, _, _, _, _, _, _, _, _, _, dI ((a_5.es.length : Nat) : Int)]) (sh_len i_a_5) rfl rfl ?_
            refine wp_bindE (ρ' := [_, _, _, _, _, _, _, _, _, _, _, _, _, _, _, _, _, _, _, _, _, _, _, _, _, _, b_5]) (sh_fld1 (off := 5) rfl i_b_5.one) rfl rfl ?_
            refine wp_bindE (ρ' := [_, _, _, _, _, _, _, _, _, _, _, _, _, _, _, _, _, _, _, _, _, _, _, _, _, _, _, dI ((b_5.es.length : Nat) : Int)]) (sh_len i_b_5) rfl rfl ?_
            refine wp_bindE (ρ' := [_, _, _, _, _, _, _, _, _, _, _, _, _, _, _, _, _, _, _, _, _, _, _, _, _, _, _, _, _]) sh_neq rfl rfl ?_
            refine wp_iteC rfl (fun c5 => ?_) (fun c5 => ?_)
            · have q5 := deq_len i_a_5 i_b_5 (len_ne c5)
              refine wp_retTo (d' := dB (false)) rfl (db_congr ?_)
              ((try simp only [deq_leaf, deq_agg, deqs_nil, deqs_cons, veq_int, veq_str] at q5 c4 c3 c2 c1 c0 ⊢); grind)
            · have l_a_5_b_5 := len_of c5
              refine wp_bindE (ρ' := [_, _, _, _, _, _, _, _, _, _, _, _, _, _, _, _, _, _, _, _, _, _, _, _, _, _, _, _, _, a_6]) (sh_fld1 (off := 6) rfl i_a_6.one) rfl rfl ?_
              refine wp_bindE (ρ' := [_, _, _, _, _, _, _, _, _, _, _, _, _, _, _, _, _, _, _, _, _, _, _, _, _, _, _, _, _, _, dI ((a_6.es.length : Nat) : Int)]) (sh_len i_a_6) rfl rfl ?_
              refine wp_bindE (ρ' := [_, _, _, _, _, _, _, _, _, _, _, _, _, _, _, _, _, _, _, _, _, _, _, _, _, _, _, _, _, _, _, b_6]) (sh_fld1 (off := 6) rfl i_b_6.one) rfl rfl ?_
              refine wp_bindE (ρ' := [_, _, _, _, _, _, _, _, _, _, _, _, _, _, _, _, _, _, _, _, _, _, _, _, _, _, _, _, _, _, _, _, dI ((b_6.es.length : Nat) : Int)]) (sh_len i_b_6) rfl rfl ?_
              refine wp_bindE (ρ' := [_, _, _, _, _, _, _, _, _, _, _, _, _, _, _, _, _, _, _, _, _, _, _, _, _, _, _, _, _, _, _, _, _, _]) sh_neq rfl rfl ?_
              refine wp_iteC rfl (fun c6 => ?_) (fun c6 => ?_)
              · have q6 := deq_len i_a_6 i_b_6 (len_ne c6)
                refine wp_retTo (d' := dB (false)) rfl (db_congr ?_)
                ((try simp only [deq_leaf, deq_agg, deqs_nil, deqs_cons, veq_int, veq_str] at q6 c4 c3 c2 c1 c0 ⊢); grind)
              · have l_a_6_b_6 := len_of c6
                refine wp_jumpTo rfl ?_
                refine loop_eq2 (ρ := fun i7 => [dI ((i7 : Nat) : Int), .agg [dI a_0, .leaf (.string a_1), dI a_2, dI a_3, a_4, a_5, a_6], .agg [dI b_0, .leaf (.string b_1), dI b_2, dI b_3, b_4, b_5, b_6]]) i_a_5 i_b_5 l_a_5_b_5 (fun q7 => ?_) ?_ (fun q7 => ?_)
                · ((try simp only [deq_leaf, deq_agg, deqs_nil, deqs_cons, veq_int, veq_str] at q7 c4 c3 c2 c1 c0 ⊢); grind)
                · intro i7 x7 y7 e_x7 e_y7 hi7 hj7
                  obtain ⟨_, rfl, _, _, rfl, ⟨x7_0, rfl⟩, _, _, rfl, ⟨x7_1, rfl⟩, _, _, rfl, ⟨x7_2, rfl⟩, _, _, rfl, ⟨x7_3, rfl⟩, rfl⟩ := elem_of h_a_5 e_x7
                  obtain ⟨_, rfl, _, _, rfl, ⟨y7_0, rfl⟩, _, _, rfl, ⟨y7_1, rfl⟩, _, _, rfl, ⟨y7_2, rfl⟩, _, _, rfl, ⟨y7_3, rfl⟩, rfl⟩ := elem_of h_b_5 e_y7
                  show wp _ _ _ u71T1 _
                  refine wp_bindE (ρ' := [_, _, _, a_5]) (sh_fld1 (off := 5) rfl i_a_5.one) rfl rfl ?_
                  refine wp_bindE (ρ' := [_, _, _, _, dI ((a_5.es.length : Nat) : Int)]) (sh_len i_a_5) rfl rfl ?_
                  refine wp_bindE (ρ' := [_, _, _, _, _, _]) sh_lss rfl rfl ?_
                  refine wp_iteB rfl ?_
                  rw [lt_true (show i7 < a_5.es.length by omega)]
                  refine ite_t ?_
                  refine wp_bindE (ρ' := [_, _, _, _, _, _, a_5]) (sh_fld1 (off := 5) rfl i_a_5.one) rfl rfl ?_
                  refine wp_bindE (ρ' := [_, _, _, _, _, _, _, dB (true)]) (sh_inr e_x7) rfl rfl ?_
                  refine wp_bindE (ρ' := [_, _, _, _, _, _, _, _, .agg [.leaf (.string x7_0), dI x7_1, dI x7_2, dI x7_3]]) (sh_elemW i_a_5 e_x7 rfl) rfl rfl ?_
                  refine wp_bindE (ρ' := [_, _, _, _, _, _, _, _, _, b_5]) (sh_fld1 (off := 5) rfl i_b_5.one) rfl rfl ?_
                  refine wp_bindE (ρ' := [_, _, _, _, _, _, _, _, _, _, dB (true)]) (sh_inr e_y7) rfl rfl ?_
                  refine wp_bindE (ρ' := [_, _, _, _, _, _, _, _, _, _, _, .agg [.leaf (.string y7_0), dI y7_1, dI y7_2, dI y7_3]]) (sh_elemW i_b_5 e_y7 rfl) rfl rfl ?_
                  refine wp_bindE (ρ' := [_, _, _, _, _, _, _, _, _, _, _, _, dB (!(deqs [.leaf (.string x7_0), dI x7_1, dI x7_2, dI x7_3] [.leaf (.string y7_0), dI y7_1, dI y7_2, dI y7_3]))]) (sh_cmpS .neq (.inl rfl) ty100 st100 le4 gu100 rfl (shs_cons sh_str (shs_cons sh_int (shs_cons sh_int (shs_cons sh_int shs_nil)))) (shs_cons sh_str (shs_cons sh_int (shs_cons sh_int (shs_cons sh_int shs_nil))))) rfl rfl ?_
                  refine wp_iteC rfl (fun c8 => ?_) (fun c8 => ?_)
                  · skip
                    refine wp_retR rfl ?_
                    clear hi7 hj7; ((try simp only [deq_leaf, deq_agg, deqs_nil, deqs_cons, veq_int, veq_str] at c8 c4 c3 c2 c1 c0 ⊢); grind)
                  · skip
                    refine wp_bindE (ρ' := [_, _, _, _, _, _, _, _, _, _, _, _, _, dI ((i7 + 1 : Nat) : Int)]) (sh_add hj7) rfl rfl ?_
                    refine wp_jumpR rfl ?_
                    clear hi7 hj7; ((try simp only [deq_leaf, deq_agg, deqs_nil, deqs_cons, veq_int, veq_str] at c8 c4 c3 c2 c1 c0 ⊢); grind)
                · show wp _ _ _ u71T1 _
                  refine wp_bindE (ρ' := [_, _, _, a_5]) (sh_fld1 (off := 5) rfl i_a_5.one) rfl rfl ?_
                  refine wp_bindE (ρ' := [_, _, _, _, dI ((a_5.es.length : Nat) : Int)]) (sh_len i_a_5) rfl rfl ?_
                  refine wp_bindE (ρ' := [_, _, _, _, _, _]) sh_lss rfl rfl ?_
                  refine wp_iteB rfl ?_
                  rw [lt_false]
                  refine ite_f ?_
                  refine wp_jumpTo rfl ?_
                  refine loop_eq2 (ρ := fun i8 => [dI ((i8 : Nat) : Int), .agg [dI a_0, .leaf (.string a_1), dI a_2, dI a_3, a_4, a_5, a_6], .agg [dI b_0, .leaf (.string b_1), dI b_2, dI b_3, b_4, b_5, b_6]]) i_a_6 i_b_6 l_a_6_b_6 (fun q8 => ?_) ?_ (fun q8 => ?_)
                  · ((try simp only [deq_leaf, deq_agg, deqs_nil, deqs_cons, veq_int, veq_str] at q8 q7 c4 c3 c2 c1 c0 ⊢); grind)
                  · intro i8 x8 y8 e_x8 e_y8 hi8 hj8
                    obtain ⟨_, rfl, _, _, rfl, ⟨x8_0, rfl⟩, _, _, rfl, ⟨x8_1, rfl⟩, _, _, rfl, ⟨x8_2, rfl⟩, _, _, rfl, ⟨x8_3, rfl⟩, _, _, rfl, ⟨x8_4, rfl⟩, _, _, rfl, ⟨x8_5, rfl⟩, _, _, rfl, ⟨x8_6, rfl⟩, rfl⟩ := elem_of h_a_6 e_x8
                    obtain ⟨_, rfl, _, _, rfl, ⟨y8_0, rfl⟩, _, _, rfl, ⟨y8_1, rfl⟩, _, _, rfl, ⟨y8_2, rfl⟩, _, _, rfl, ⟨y8_3, rfl⟩, _, _, rfl, ⟨y8_4, rfl⟩, _, _, rfl, ⟨y8_5, rfl⟩, _, _, rfl, ⟨y8_6, rfl⟩, rfl⟩ := elem_of h_b_6 e_y8
                    show wp _ _ _ u71T2 _
                    refine wp_bindE (ρ' := [_, _, _, a_6]) (sh_fld1 (off := 6) rfl i_a_6.one) rfl rfl ?_
                    refine wp_bindE (ρ' := [_, _, _, _, dI ((a_6.es.length : Nat) : Int)]) (sh_len i_a_6) rfl rfl ?_
                    refine wp_bindE (ρ' := [_, _, _, _, _, _]) sh_lss rfl rfl ?_
                    refine wp_iteB rfl ?_
                    rw [lt_true (show i8 < a_6.es.length by omega)]
                    refine ite_t ?_
                    refine wp_bindE (ρ' := [_, _, _, _, _, _, a_6]) (sh_fld1 (off := 6) rfl i_a_6.one) rfl rfl ?_
                    refine wp_bindE (ρ' := [_, _, _, _, _, _, _, dB (true)]) (sh_inr e_x8) rfl rfl ?_
                    refine wp_bindE (ρ' := [_, _, _, _, _, _, _, _, .agg [dI x8_0, dI x8_1, dI x8_2, dI x8_3, dI x8_4, dI x8_5, .leaf (.string x8_6)]]) (sh_elemW i_a_6 e_x8 rfl) rfl rfl ?_
                    refine wp_bindE (ρ' := [_, _, _, _, _, _, _, _, _, b_6]) (sh_fld1 (off := 6) rfl i_b_6.one) rfl rfl ?_
                    refine wp_bindE (ρ' := [_, _, _, _, _, _, _, _, _, _, dB (true)]) (sh_inr e_y8) rfl rfl ?_
                    refine wp_bindE (ρ' := [_, _, _, _, _, _, _, _, _, _, _, .agg [dI y8_0, dI y8_1, dI y8_2, dI y8_3, dI y8_4, dI y8_5, .leaf (.string y8_6)]]) (sh_elemW i_b_6 e_y8 rfl) rfl rfl ?_
                    refine wp_bindE (ρ' := [_, _, _, _, _, _, _, _, _, _, _, _, dB (!(deqs [dI x8_0, dI x8_1, dI x8_2, dI x8_3, dI x8_4, dI x8_5, .leaf (.string x8_6)] [dI y8_0, dI y8_1, dI y8_2, dI y8_3, dI y8_4, dI y8_5, .leaf (.string y8_6)]))]) (sh_cmpS .neq (.inl rfl) ty104 st104 le4 gu104 rfl (shs_cons sh_int (shs_cons sh_int (shs_cons sh_int (shs_cons sh_int (shs_cons sh_int (shs_cons sh_int (shs_cons sh_str shs_nil))))))) (shs_cons sh_int (shs_cons sh_int (shs_cons sh_int (shs_cons sh_int (shs_cons sh_int (shs_cons sh_int (shs_cons sh_str shs_nil)))))))) rfl rfl ?_
                    refine wp_iteC rfl (fun c9 => ?_) (fun c9 => ?_)
                    · skip
                      refine wp_retR rfl ?_
                      clear hi8 hj8; ((try simp only [deq_leaf, deq_agg, deqs_nil, deqs_cons, veq_int, veq_str] at c9 q7 c4 c3 c2 c1 c0 ⊢); grind)
                    · skip
                      refine wp_bindE (ρ' := [_, _, _, _, _, _, _, _, _, _, _, _, _, dI ((i8 + 1 : Nat) : Int)]) (sh_add hj8) rfl rfl ?_
                      refine wp_jumpR rfl ?_
                      clear hi8 hj8; ((try simp only [deq_leaf, deq_agg, deqs_nil, deqs_cons, veq_int, veq_str] at c9 q7 c4 c3 c2 c1 c0 ⊢); grind)
                  · show wp _ _ _ u71T2 _
                    refine wp_bindE (ρ' := [_, _, _, a_6]) (sh_fld1 (off := 6) rfl i_a_6.one) rfl rfl ?_
                    refine wp_bindE (ρ' := [_, _, _, _, dI ((a_6.es.length : Nat) : Int)]) (sh_len i_a_6) rfl rfl ?_
                    refine wp_bindE (ρ' := [_, _, _, _, _, _]) sh_lss rfl rfl ?_
                    refine wp_iteB rfl ?_
                    rw [lt_false]
                    refine ite_f ?_
                    refine wp_retTo (d' := dB (true)) rfl (db_congr ?_)
                    ((try simp only [deq_leaf, deq_agg, deqs_nil, deqs_cons, veq_int, veq_str] at q8 q7 c4 c3 c2 c1 c0 ⊢); grind)
/- 22 langdoc/langdocref48.SameDocs -/
theorem h22 {a b : D} (h_a : HasSh (.sl 56 7 (.st [.int .i64, .str, .int .i64, .int .i64, .sl 3 1 (.int .i64), .sl 100 4 (.st [.str, .int .i64, .int .i64, .int .i64]), .sl 104 7 (.st [.int .i64, .int .i64, .int .i64, .int .i64, .int .i64, .int .i64, .str])])) a) (h_b : HasSh (.sl 56 7 (.st [.int .i64, .str, .int .i64, .int .i64, .sl 3 1 (.int .i64), .sl 100 4 (.st [.str, .int .i64, .int .i64, .int .i64]), .sl 104 7 (.st [.int .i64, .int .i64, .int .i64, .int .i64, .int .i64, .int .i64, .str])])) b) : Holds EE 22 [a, b] (dB (deq a b)) := by
  refine u22 rfl (Goes.step' ?_)
  have i_a := isSl_of h_a
  have i_b := isSl_of h_b
  show wp _ _ _ u22T0 _
  refine wp_bindE (ρ' := [_, _, dI ((a.es.length : Nat) : Int)]) (sh_len i_a) rfl rfl ?_
  refine wp_bindE (ρ' := [_, _, _, dI ((b.es.length : Nat) : Int)]) (sh_len i_b) rfl rfl ?_
  refine wp_bindE (ρ' := [_, _, _, _, _]) sh_neq rfl rfl ?_
  refine wp_iteC rfl (fun c0 => ?_) (fun c0 => ?_)
  · have q0 := deq_len i_a i_b (len_ne c0)
    refine wp_retTo (d' := dB (false)) rfl (db_congr ?_)
    ((try simp only [deq_leaf, deq_agg, deqs_nil, deqs_cons, veq_int, veq_bool, veq_str] at q0 ⊢); grind)
  · have l_a_b := len_of c0
    refine wp_jumpTo rfl ?_
    refine loop_eq2 (ρ := fun i1 => [a, b, dI ((i1 : Nat) : Int)]) i_a i_b l_a_b (fun q1 => ?_) ?_ (fun q1 => ?_)
    · ((try simp only [deq_leaf, deq_agg, deqs_nil, deqs_cons, veq_int, veq_bool, veq_str] at q1 ⊢); grind)
    · intro i1 x1 y1 e_x1 e_y1 hi1 hj1
      obtain ⟨_, rfl, _, _, rfl, ⟨x1_0, rfl⟩, _, _, rfl, ⟨x1_1, rfl⟩, _, _, rfl, ⟨x1_2, rfl⟩, _, _, rfl, ⟨x1_3, rfl⟩, x1_4, _, rfl, h_x1_4, x1_5, _, rfl, h_x1_5, x1_6, _, rfl, h_x1_6, rfl⟩ := elem_of h_a e_x1
      have i_x1_4 := isSl_of h_x1_4
      have i_x1_5 := isSl_of h_x1_5
      have i_x1_6 := isSl_of h_x1_6
      obtain ⟨_, rfl, _, _, rfl, ⟨y1_0, rfl⟩, _, _, rfl, ⟨y1_1, rfl⟩, _, _, rfl, ⟨y1_2, rfl⟩, _, _, rfl, ⟨y1_3, rfl⟩, y1_4, _, rfl, h_y1_4, y1_5, _, rfl, h_y1_5, y1_6, _, rfl, h_y1_6, rfl⟩ := elem_of h_b e_y1
      have i_y1_4 := isSl_of h_y1_4
      have i_y1_5 := isSl_of h_y1_5
      have i_y1_6 := isSl_of h_y1_6
      show wp _ _ _ u22T1 _
      refine wp_bindE (ρ' := [_, _, _, dI ((a.es.length : Nat) : Int)]) (sh_len i_a) rfl rfl ?_
      refine wp_bindE (ρ' := [_, _, _, _, _]) sh_lss rfl rfl ?_
      refine wp_iteB rfl ?_
      rw [lt_true (show i1 < a.es.length by omega)]
      refine ite_t ?_
      refine wp_bindE (ρ' := [_, _, _, _, _, dB (true)]) (sh_inr e_x1) rfl rfl ?_
      refine wp_bindE (ρ' := [_, _, _, _, _, _, .agg [dI x1_0, .leaf (.string x1_1), dI x1_2, dI x1_3, x1_4, x1_5, x1_6]]) (sh_elemW i_a e_x1 rfl) rfl rfl ?_
      refine wp_bindE (ρ' := [_, _, _, _, _, _, _, dB (true)]) (sh_inr e_y1) rfl rfl ?_
      refine wp_bindE (ρ' := [_, _, _, _, _, _, _, _, .agg [dI y1_0, .leaf (.string y1_1), dI y1_2, dI y1_3, y1_4, y1_5, y1_6]]) (sh_elemW i_b e_y1 rfl) rfl rfl ?_
      refine wp_callE (ρ' := [_, _, _, _, _, _, _, _, _, dB (deq (.agg [dI x1_0, .leaf (.string x1_1), dI x1_2, dI x1_3, x1_4, x1_5, x1_6]) (.agg [dI y1_0, .leaf (.string y1_1), dI y1_2, dI y1_3, y1_4, y1_5, y1_6]))]) (h71 (sh_st (shs_cons sh_int (shs_cons sh_str (shs_cons sh_int (shs_cons sh_int (shs_cons h_x1_4 (shs_cons h_x1_5 (shs_cons h_x1_6 shs_nil)))))))) (sh_st (shs_cons sh_int (shs_cons sh_str (shs_cons sh_int (shs_cons sh_int (shs_cons h_y1_4 (shs_cons h_y1_5 (shs_cons h_y1_6 shs_nil))))))))) rfl rfl rfl rfl ?_
      refine wp_bindE (ρ' := [_, _, _, _, _, _, _, _, _, _, dB (!(deq (.agg [dI x1_0, .leaf (.string x1_1), dI x1_2, dI x1_3, x1_4, x1_5, x1_6]) (.agg [dI y1_0, .leaf (.string y1_1), dI y1_2, dI y1_3, y1_4, y1_5, y1_6])))]) sh_not rfl rfl ?_
      refine wp_iteC rfl (fun c2 => ?_) (fun c2 => ?_)
      · skip
        refine wp_retR rfl ?_
        clear hi1 hj1; ((try simp only [deq_leaf, deq_agg, deqs_nil, deqs_cons, veq_int, veq_str] at c2 ⊢); grind)
      · skip
        refine wp_bindE (ρ' := [_, _, _, _, _, _, _, _, _, _, _, dI ((i1 + 1 : Nat) : Int)]) (sh_add hj1) rfl rfl ?_
        refine wp_jumpR rfl ?_
        clear hi1 hj1; ((try simp only [deq_leaf, deq_agg, deqs_nil, deqs_cons, veq_int, veq_str] at c2 ⊢); grind)
    · show wp _ _ _ u22T1 _
      refine wp_bindE (ρ' := [_, _, _, dI ((a.es.length : Nat) : Int)]) (sh_len i_a) rfl rfl ?_
      refine wp_bindE (ρ' := [_, _, _, _, _]) sh_lss rfl rfl ?_
      refine wp_iteB rfl ?_
      rw [lt_false]
      refine ite_f ?_
      refine wp_retTo (d' := dB (true)) rfl (db_congr ?_)
      ((try simp only [deq_leaf, deq_agg, deqs_nil, deqs_cons, veq_int, veq_bool, veq_str] at q1 ⊢); grind)
/- 73 langdoc/langdocref48.sameInts -/
theorem h73 {a b : D} (h_a : HasSh (.sl 3 1 (.int .i64)) a) (h_b : HasSh (.sl 3 1 (.int .i64)) b) : Holds EE 73 [a, b] (dB (deq a b)) := by
  refine u73 rfl (Goes.step' ?_)
  have i_a := isSl_of h_a
  have i_b := isSl_of h_b
  show wp _ _ _ u73T0 _
  refine wp_bindE (ρ' := [_, _, dI ((a.es.length : Nat) : Int)]) (sh_len i_a) rfl rfl ?_
  refine wp_bindE (ρ' := [_, _, _, dI ((b.es.length : Nat) : Int)]) (sh_len i_b) rfl rfl ?_
  refine wp_bindE (ρ' := [_, _, _, _, _]) sh_neq rfl rfl ?_
  refine wp_iteC rfl (fun c0 => ?_) (fun c0 => ?_)
  · have q0 := deq_len i_a i_b (len_ne c0)
    refine wp_retTo (d' := dB (false)) rfl (db_congr ?_)
    ((try simp only [deq_leaf, deq_agg, deqs_nil, deqs_cons, veq_int, veq_bool, veq_str] at q0 ⊢); grind)
  · have l_a_b := len_of c0
    refine wp_jumpTo rfl ?_
    refine loop_eq2 (ρ := fun i1 => [a, b, dI ((i1 : Nat) : Int)]) i_a i_b l_a_b (fun q1 => ?_) ?_ (fun q1 => ?_)
    · ((try simp only [deq_leaf, deq_agg, deqs_nil, deqs_cons, veq_int, veq_bool, veq_str] at q1 ⊢); grind)
    · intro i1 x1 y1 e_x1 e_y1 hi1 hj1
      obtain ⟨x1, rfl⟩ := elem_of h_a e_x1
      obtain ⟨y1, rfl⟩ := elem_of h_b e_y1
      show wp _ _ _ u73T1 _
      refine wp_bindE (ρ' := [_, _, _, dI ((a.es.length : Nat) : Int)]) (sh_len i_a) rfl rfl ?_
      refine wp_bindE (ρ' := [_, _, _, _, _]) sh_lss rfl rfl ?_
      refine wp_iteB rfl ?_
      rw [lt_true (show i1 < a.es.length by omega)]
      refine ite_t ?_
      refine wp_bindE (ρ' := [_, _, _, _, _, dB (true)]) (sh_inr e_x1) rfl rfl ?_
      refine wp_bindE (ρ' := [_, _, _, _, _, _, dI x1]) (sh_elem1 i_a e_x1 rfl) rfl rfl ?_
      refine wp_bindE (ρ' := [_, _, _, _, _, _, _, dB (true)]) (sh_inr e_y1) rfl rfl ?_
      refine wp_bindE (ρ' := [_, _, _, _, _, _, _, _, dI y1]) (sh_elem1 i_b e_y1 rfl) rfl rfl ?_
      refine wp_bindE (ρ' := [_, _, _, _, _, _, _, _, _, dB (x1 != y1)]) sh_neq rfl rfl ?_
      refine wp_iteC rfl (fun c2 => ?_) (fun c2 => ?_)
      · skip
        refine wp_retR rfl ?_
        clear hi1 hj1; ((try simp only [deq_leaf, veq_int] at c2 ⊢); grind)
      · skip
        refine wp_bindE (ρ' := [_, _, _, _, _, _, _, _, _, _, dI ((i1 + 1 : Nat) : Int)]) (sh_add hj1) rfl rfl ?_
        refine wp_jumpR rfl ?_
        clear hi1 hj1; ((try simp only [deq_leaf, veq_int] at c2 ⊢); grind)
    · show wp _ _ _ u73T1 _
      refine wp_bindE (ρ' := [_, _, _, dI ((a.es.length : Nat) : Int)]) (sh_len i_a) rfl rfl ?_
      refine wp_bindE (ρ' := [_, _, _, _, _]) sh_lss rfl rfl ?_
      refine wp_iteB rfl ?_
      rw [lt_false]
      refine ite_f ?_
      refine wp_retTo (d' := dB (true)) rfl (db_congr ?_)
      ((try simp only [deq_leaf, deq_agg, deqs_nil, deqs_cons, veq_int, veq_bool, veq_str] at q1 ⊢); grind)
/- 74 langdoc/langdocref48.sameRefs -/
theorem h74 {a b : D} (h_a : HasSh (.sl 74 2 (.st [.int .i64, .int .i64])) a) (h_b : HasSh (.sl 74 2 (.st [.int .i64, .int .i64])) b) : Holds EE 74 [a, b] (dB (deq a b)) := by
  refine u74 rfl (Goes.step' ?_)
  have i_a := isSl_of h_a
  have i_b := isSl_of h_b
  show wp _ _ _ u74T0 _
  refine wp_bindE (ρ' := [_, _, dI ((a.es.length : Nat) : Int)]) (sh_len i_a) rfl rfl ?_
  refine wp_bindE (ρ' := [_, _, _, dI ((b.es.length : Nat) : Int)]) (sh_len i_b) rfl rfl ?_
  refine wp_bindE (ρ' := [_, _, _, _, _]) sh_neq rfl rfl ?_
  refine wp_iteC rfl (fun c0 => ?_) (fun c0 => ?_)
  · have q0 := deq_len i_a i_b (len_ne c0)
    refine wp_retTo (d' := dB (false)) rfl (db_congr ?_)
    ((try simp only [deq_leaf, deq_agg, deqs_nil, deqs_cons, veq_int, veq_bool, veq_str] at q0 ⊢); grind)
  · have l_a_b := len_of c0
    refine wp_jumpTo rfl ?_
    refine loop_eq2 (ρ := fun i1 => [a, b, dI ((i1 : Nat) : Int)]) i_a i_b l_a_b (fun q1 => ?_) ?_ (fun q1 => ?_)
    · ((try simp only [deq_leaf, deq_agg, deqs_nil, deqs_cons, veq_int, veq_bool, veq_str] at q1 ⊢); grind)
    · intro i1 x1 y1 e_x1 e_y1 hi1 hj1
      obtain ⟨_, rfl, _, _, rfl, ⟨x1_0, rfl⟩, _, _, rfl, ⟨x1_1, rfl⟩, rfl⟩ := elem_of h_a e_x1
      obtain ⟨_, rfl, _, _, rfl, ⟨y1_0, rfl⟩, _, _, rfl, ⟨y1_1, rfl⟩, rfl⟩ := elem_of h_b e_y1
      show wp _ _ _ u74T1 _
      refine wp_bindE (ρ' := [_, _, _, dI ((a.es.length : Nat) : Int)]) (sh_len i_a) rfl rfl ?_
      refine wp_bindE (ρ' := [_, _, _, _, _]) sh_lss rfl rfl ?_
      refine wp_iteB rfl ?_
      rw [lt_true (show i1 < a.es.length by omega)]
      refine ite_t ?_
      refine wp_bindE (ρ' := [_, _, _, _, _, dB (true)]) (sh_inr e_x1) rfl rfl ?_
      refine wp_bindE (ρ' := [_, _, _, _, _, _, .agg [dI x1_0, dI x1_1]]) (sh_elemW i_a e_x1 rfl) rfl rfl ?_
      refine wp_bindE (ρ' := [_, _, _, _, _, _, _, dB (true)]) (sh_inr e_y1) rfl rfl ?_
      refine wp_bindE (ρ' := [_, _, _, _, _, _, _, _, .agg [dI y1_0, dI y1_1]]) (sh_elemW i_b e_y1 rfl) rfl rfl ?_
      refine wp_bindE (ρ' := [_, _, _, _, _, _, _, _, _, dB (!(deqs [dI x1_0, dI x1_1] [dI y1_0, dI y1_1]))]) (sh_cmpS .neq (.inl rfl) ty74 st74 le4 gu74 rfl (shs_cons sh_int (shs_cons sh_int shs_nil)) (shs_cons sh_int (shs_cons sh_int shs_nil))) rfl rfl ?_
      refine wp_iteC rfl (fun c2 => ?_) (fun c2 => ?_)
      · skip
        refine wp_retR rfl ?_
        clear hi1 hj1; ((try simp only [deq_leaf, deq_agg, deqs_nil, deqs_cons, veq_int] at c2 ⊢); grind)
      · skip
        refine wp_bindE (ρ' := [_, _, _, _, _, _, _, _, _, _, dI ((i1 + 1 : Nat) : Int)]) (sh_add hj1) rfl rfl ?_
        refine wp_jumpR rfl ?_
        clear hi1 hj1; ((try simp only [deq_leaf, deq_agg, deqs_nil, deqs_cons, veq_int] at c2 ⊢); grind)
    · show wp _ _ _ u74T1 _
      refine wp_bindE (ρ' := [_, _, _, dI ((a.es.length : Nat) : Int)]) (sh_len i_a) rfl rfl ?_
      refine wp_bindE (ρ' := [_, _, _, _, _]) sh_lss rfl rfl ?_
      refine wp_iteB rfl ?_
      rw [lt_false]
      refine ite_f ?_
      refine wp_retTo (d' := dB (true)) rfl (db_congr ?_)
      ((try simp only [deq_leaf, deq_agg, deqs_nil, deqs_cons, veq_int, veq_bool, veq_str] at q1 ⊢); grind)
/- 24 langdoc/langdocref48.SamePoints -/
theorem h24 {a b : D} (h_a : HasSh (.sl 71 5 (.st [.int .i64, .str, .str, .sl 3 1 (.int .i64), .sl 74 2 (.st [.int .i64, .int .i64])])) a) (h_b : HasSh (.sl 71 5 (.st [.int .i64, .str, .str, .sl 3 1 (.int .i64), .sl 74 2 (.st [.int .i64, .int .i64])])) b) : Holds EE 24 [a, b] (dB (deq a b)) := by
  refine u24 rfl (Goes.step' ?_)
  have i_a := isSl_of h_a
  have i_b := isSl_of h_b
  show wp _ _ _ u24T0 _
  refine wp_bindE (ρ' := [_, _, dI ((a.es.length : Nat) : Int)]) (sh_len i_a) rfl rfl ?_
  refine wp_bindE (ρ' := [_, _, _, dI ((b.es.length : Nat) : Int)]) (sh_len i_b) rfl rfl ?_
  refine wp_bindE (ρ' := [_, _, _, _, _]) sh_neq rfl rfl ?_
  refine wp_iteC rfl (fun c0 => ?_) (fun c0 => ?_)
  · have q0 := deq_len i_a i_b (len_ne c0)
    refine wp_retTo (d' := dB (false)) rfl (db_congr ?_)
    ((try simp only [deq_leaf, deq_agg, deqs_nil, deqs_cons, veq_int, veq_bool, veq_str] at q0 ⊢); grind)
  · have l_a_b := len_of c0
    refine wp_jumpTo rfl ?_
    refine loop_eq2 (ρ := fun i1 => [a, b, dI ((i1 : Nat) : Int)]) i_a i_b l_a_b (fun q1 => ?_) ?_ (fun q1 => ?_)
    · ((try simp only [deq_leaf, deq_agg, deqs_nil, deqs_cons, veq_int, veq_bool, veq_str] at q1 ⊢); grind)
    · intro i1 x1 y1 e_x1 e_y1 hi1 hj1
      obtain ⟨_, rfl, _, _, rfl, ⟨x1_0, rfl⟩, _, _, rfl, ⟨x1_1, rfl⟩, _, _, rfl, ⟨x1_2, rfl⟩, x1_3, _, rfl, h_x1_3, x1_4, _, rfl, h_x1_4, rfl⟩ := elem_of h_a e_x1
      have i_x1_3 := isSl_of h_x1_3
      have i_x1_4 := isSl_of h_x1_4
      obtain ⟨_, rfl, _, _, rfl, ⟨y1_0, rfl⟩, _, _, rfl, ⟨y1_1, rfl⟩, _, _, rfl, ⟨y1_2, rfl⟩, y1_3, _, rfl, h_y1_3, y1_4, _, rfl, h_y1_4, rfl⟩ := elem_of h_b e_y1
      have i_y1_3 := isSl_of h_y1_3
      have i_y1_4 := isSl_of h_y1_4
      show wp _ _ _ u24T1 _
      refine wp_bindE (ρ' := [_, _, _, dI ((a.es.length : Nat) : Int)]) (sh_len i_a) rfl rfl ?_
      refine wp_bindE (ρ' := [_, _, _, _, _]) sh_lss rfl rfl ?_
      refine wp_iteB rfl ?_
      rw [lt_true (show i1 < a.es.length by omega)]
      refine ite_t ?_
      refine wp_bindE (ρ' := [_, _, _, _, _, dB (true)]) (sh_inr e_x1) rfl rfl ?_
      refine wp_bindE (ρ' := [_, _, _, _, _, _, .agg [dI x1_0, .leaf (.string x1_1), .leaf (.string x1_2), x1_3, x1_4]]) (sh_elemW i_a e_x1 rfl) rfl rfl ?_
      refine wp_bindE (ρ' := [_, _, _, _, _, _, _, dB (true)]) (sh_inr e_y1) rfl rfl ?_
      refine wp_bindE (ρ' := [_, _, _, _, _, _, _, _, .agg [dI y1_0, .leaf (.string y1_1), .leaf (.string y1_2), y1_3, y1_4]]) (sh_elemW i_b e_y1 rfl) rfl rfl ?_
      refine wp_bindE (ρ' := [_, _, _, _, _, _, _, _, _, .agg [dI x1_0, .leaf (.string x1_1), .leaf (.string x1_2), x1_3, x1_4]]) (sh_chkW rfl) rfl rfl ?_
      refine wp_bindE (ρ' := [_, _, _, _, _, _, _, _, _, _, .agg [dI y1_0, .leaf (.string y1_1), .leaf (.string y1_2), y1_3, y1_4]]) (sh_chkW rfl) rfl rfl ?_
      refine wp_bindE (ρ' := [_, _, _, _, _, _, _, _, _, _, _, dB (true)]) (sh_inr e_x1) rfl rfl ?_
      refine wp_bindE (ρ' := [_, _, _, _, _, _, _, _, _, _, _, _, dB (true)]) (sh_inr e_y1) rfl rfl ?_
      refine wp_bindE (ρ' := [_, _, _, _, _, _, _, _, _, _, _, _, _, dI x1_0]) (sh_fld1 (off := 0) rfl rfl) rfl rfl ?_
      refine wp_bindE (ρ' := [_, _, _, _, _, _, _, _, _, _, _, _, _, _, dI y1_0]) (sh_fld1 (off := 0) rfl rfl) rfl rfl ?_
      refine wp_bindE (ρ' := [_, _, _, _, _, _, _, _, _, _, _, _, _, _, _, dB (x1_0 != y1_0)]) sh_neq rfl rfl ?_
      refine wp_iteC rfl (fun c2 => ?_) (fun c2 => ?_)
      · skip
        refine wp_retR rfl ?_
        clear hi1 hj1; ((try simp only [deq_leaf, deq_agg, deqs_nil, deqs_cons, veq_int, veq_str] at c2 ⊢); grind)
      · skip
        refine wp_bindE (ρ' := [_, _, _, _, _, _, _, _, _, _, _, _, _, _, _, _, .leaf (.string x1_1)]) (sh_fld1 (off := 1) rfl rfl) rfl rfl ?_
        refine wp_bindE (ρ' := [_, _, _, _, _, _, _, _, _, _, _, _, _, _, _, _, _, .leaf (.string y1_1)]) (sh_fld1 (off := 1) rfl rfl) rfl rfl ?_
        refine wp_bindE (ρ' := [_, _, _, _, _, _, _, _, _, _, _, _, _, _, _, _, _, _, dB (!(x1_1 == y1_1))]) sh_strN rfl rfl ?_
        refine wp_iteC rfl (fun c3 => ?_) (fun c3 => ?_)
        · skip
          refine wp_retR rfl ?_
          clear hi1 hj1; ((try simp only [deq_leaf, deq_agg, deqs_nil, deqs_cons, veq_int, veq_str] at c3 c2 ⊢); grind)
        · skip
          refine wp_bindE (ρ' := [_, _, _, _, _, _, _, _, _, _, _, _, _, _, _, _, _, _, _, .leaf (.string x1_2)]) (sh_fld1 (off := 2) rfl rfl) rfl rfl ?_
          refine wp_bindE (ρ' := [_, _, _, _, _, _, _, _, _, _, _, _, _, _, _, _, _, _, _, _, .leaf (.string y1_2)]) (sh_fld1 (off := 2) rfl rfl) rfl rfl ?_
          refine wp_bindE (ρ' := [_, _, _, _, _, _, _, _, _, _, _, _, _, _, _, _, _, _, _, _, _, dB (!(x1_2 == y1_2))]) sh_strN rfl rfl ?_
          refine wp_iteC rfl (fun c4 => ?_) (fun c4 => ?_)
          · skip
            refine wp_retR rfl ?_
            clear hi1 hj1; ((try simp only [deq_leaf, deq_agg, deqs_nil, deqs_cons, veq_int, veq_str] at c4 c3 c2 ⊢); grind)
          · skip
            refine wp_bindE (ρ' := [_, _, _, _, _, _, _, _, _, _, _, _, _, _, _, _, _, _, _, _, _, _, x1_3]) (sh_fld1 (off := 3) rfl i_x1_3.one) rfl rfl ?_
            refine wp_bindE (ρ' := [_, _, _, _, _, _, _, _, _, _, _, _, _, _, _, _, _, _, _, _, _, _, _, y1_3]) (sh_fld1 (off := 3) rfl i_y1_3.one) rfl rfl ?_
            refine wp_callE (ρ' := [_, _, _, _, _, _, _, _, _, _, _, _, _, _, _, _, _, _, _, _, _, _, _, _, dB (deq (x1_3) (y1_3))]) (h73 h_x1_3 h_y1_3) rfl rfl rfl rfl ?_
            refine wp_bindE (ρ' := [_, _, _, _, _, _, _, _, _, _, _, _, _, _, _, _, _, _, _, _, _, _, _, _, _, dB (!(deq (x1_3) (y1_3)))]) sh_not rfl rfl ?_
            refine wp_iteC rfl (fun c5 => ?_) (fun c5 => ?_)
            · skip
              refine wp_retR rfl ?_
              clear hi1 hj1; ((try simp only [deq_leaf, deq_agg, deqs_nil, deqs_cons, veq_int, veq_str] at c5 c4 c3 c2 ⊢); grind)
            · skip
              refine wp_bindE (ρ' := [_, _, _, _, _, _, _, _, _, _, _, _, _, _, _, _, _, _, _, _, _, _, _, _, _, _, x1_4]) (sh_fld1 (off := 4) rfl i_x1_4.one) rfl rfl ?_
              refine wp_bindE (ρ' := [_, _, _, _, _, _, _, _, _, _, _, _, _, _, _, _, _, _, _, _, _, _, _, _, _, _, _, y1_4]) (sh_fld1 (off := 4) rfl i_y1_4.one) rfl rfl ?_
              refine wp_callE (ρ' := [_, _, _, _, _, _, _, _, _, _, _, _, _, _, _, _, _, _, _, _, _, _, _, _, _, _, _, _, dB (deq (x1_4) (y1_4))]) (h74 h_x1_4 h_y1_4) rfl rfl rfl rfl ?_
              refine wp_bindE (ρ' := [_, _, _, _, _, _, _, _, _, _, _, _, _, _, _, _, _, _, _, _, _, _, _, _, _, _, _, _, _, dB (!(deq (x1_4) (y1_4)))]) sh_not rfl rfl ?_
              refine wp_iteC rfl (fun c6 => ?_) (fun c6 => ?_)
              · skip
                refine wp_retR rfl ?_
                clear hi1 hj1; ((try simp only [deq_leaf, deq_agg, deqs_nil, deqs_cons, veq_int, veq_str] at c6 c5 c4 c3 c2 ⊢); grind)
              · skip
                refine wp_bindE (ρ' := [_, _, _, _, _, _, _, _, _, _, _, _, _, _, _, _, _, _, _, _, _, _, _, _, _, _, _, _, _, _, dI ((i1 + 1 : Nat) : Int)]) (sh_add hj1) rfl rfl ?_
                refine wp_jumpR rfl ?_
                clear hi1 hj1; ((try simp only [deq_leaf, deq_agg, deqs_nil, deqs_cons, veq_int, veq_str] at c6 c5 c4 c3 c2 ⊢); grind)
    · show wp _ _ _ u24T1 _
      refine wp_bindE (ρ' := [_, _, _, dI ((a.es.length : Nat) : Int)]) (sh_len i_a) rfl rfl ?_
      refine wp_bindE (ρ' := [_, _, _, _, _]) sh_lss rfl rfl ?_
      refine wp_iteB rfl ?_
      rw [lt_false]
      refine ite_f ?_
      refine wp_retTo (d' := dB (true)) rfl (db_congr ?_)
      ((try simp only [deq_leaf, deq_agg, deqs_nil, deqs_cons, veq_int, veq_bool, veq_str] at q1 ⊢); grind)
/- 75 langdoc/langdocref48.sameGroups -/
theorem h75 {a b : D} (h_a : HasSh (.sl 158 4 (.st [.int .i64, .str, .sl 3 1 (.int .i64), .sl 3 1 (.int .i64)])) a) (h_b : HasSh (.sl 158 4 (.st [.int .i64, .str, .sl 3 1 (.int .i64), .sl 3 1 (.int .i64)])) b) : Holds EE 75 [a, b] (dB (deq a b)) := by
  refine u75 rfl (Goes.step' ?_)
  have i_a := isSl_of h_a
  have i_b := isSl_of h_b
  show wp _ _ _ u75T0 _
  refine wp_bindE (ρ' := [_, _, dI ((a.es.length : Nat) : Int)]) (sh_len i_a) rfl rfl ?_
  refine wp_bindE (ρ' := [_, _, _, dI ((b.es.length : Nat) : Int)]) (sh_len i_b) rfl rfl ?_
  refine wp_bindE (ρ' := [_, _, _, _, _]) sh_neq rfl rfl ?_
  refine wp_iteC rfl (fun c0 => ?_) (fun c0 => ?_)
  · have q0 := deq_len i_a i_b (len_ne c0)
    refine wp_retTo (d' := dB (false)) rfl (db_congr ?_)
    ((try simp only [deq_leaf, deq_agg, deqs_nil, deqs_cons, veq_int, veq_bool, veq_str] at q0 ⊢); grind)
  · have l_a_b := len_of c0
    refine wp_jumpTo rfl ?_
    refine loop_eq2 (ρ := fun i1 => [a, b, dI ((i1 : Nat) : Int)]) i_a i_b l_a_b (fun q1 => ?_) ?_ (fun q1 => ?_)
    · ((try simp only [deq_leaf, deq_agg, deqs_nil, deqs_cons, veq_int, veq_bool, veq_str] at q1 ⊢); grind)
    · intro i1 x1 y1 e_x1 e_y1 hi1 hj1
      obtain ⟨_, rfl, _, _, rfl, ⟨x1_0, rfl⟩, _, _, rfl, ⟨x1_1, rfl⟩, x1_2, _, rfl, h_x1_2, x1_3, _, rfl, h_x1_3, rfl⟩ := elem_of h_a e_x1
      have i_x1_2 := isSl_of h_x1_2
      have i_x1_3 := isSl_of h_x1_3
      obtain ⟨_, rfl, _, _, rfl, ⟨y1_0, rfl⟩, _, _, rfl, ⟨y1_1, rfl⟩, y1_2, _, rfl, h_y1_2, y1_3, _, rfl, h_y1_3, rfl⟩ := elem_of h_b e_y1
      have i_y1_2 := isSl_of h_y1_2
      have i_y1_3 := isSl_of h_y1_3
      show wp _ _ _ u75T1 _
      refine wp_bindE (ρ' := [_, _, _, dI ((a.es.length : Nat) : Int)]) (sh_len i_a) rfl rfl ?_
      refine wp_bindE (ρ' := [_, _, _, _, _]) sh_lss rfl rfl ?_
      refine wp_iteB rfl ?_
      rw [lt_true (show i1 < a.es.length by omega)]
      refine ite_t ?_
      refine wp_bindE (ρ' := [_, _, _, _, _, dB (true)]) (sh_inr e_x1) rfl rfl ?_
      refine wp_bindE (ρ' := [_, _, _, _, _, _, .agg [dI x1_0, .leaf (.string x1_1), x1_2, x1_3]]) (sh_elemW i_a e_x1 rfl) rfl rfl ?_
      refine wp_bindE (ρ' := [_, _, _, _, _, _, _, dB (true)]) (sh_inr e_y1) rfl rfl ?_
      refine wp_bindE (ρ' := [_, _, _, _, _, _, _, _, .agg [dI y1_0, .leaf (.string y1_1), y1_2, y1_3]]) (sh_elemW i_b e_y1 rfl) rfl rfl ?_
      refine wp_bindE (ρ' := [_, _, _, _, _, _, _, _, _, .agg [dI x1_0, .leaf (.string x1_1), x1_2, x1_3]]) (sh_chkW rfl) rfl rfl ?_
      refine wp_bindE (ρ' := [_, _, _, _, _, _, _, _, _, _, .agg [dI y1_0, .leaf (.string y1_1), y1_2, y1_3]]) (sh_chkW rfl) rfl rfl ?_
      refine wp_bindE (ρ' := [_, _, _, _, _, _, _, _, _, _, _, dB (true)]) (sh_inr e_x1) rfl rfl ?_
      refine wp_bindE (ρ' := [_, _, _, _, _, _, _, _, _, _, _, _, dB (true)]) (sh_inr e_y1) rfl rfl ?_
      refine wp_bindE (ρ' := [_, _, _, _, _, _, _, _, _, _, _, _, _, dI x1_0]) (sh_fld1 (off := 0) rfl rfl) rfl rfl ?_
      refine wp_bindE (ρ' := [_, _, _, _, _, _, _, _, _, _, _, _, _, _, dI y1_0]) (sh_fld1 (off := 0) rfl rfl) rfl rfl ?_
      refine wp_bindE (ρ' := [_, _, _, _, _, _, _, _, _, _, _, _, _, _, _, dB (x1_0 != y1_0)]) sh_neq rfl rfl ?_
      refine wp_iteC rfl (fun c2 => ?_) (fun c2 => ?_)
      · skip
        refine wp_retR rfl ?_
        clear hi1 hj1; ((try simp only [deq_leaf, deq_agg, deqs_nil, deqs_cons, veq_int, veq_str] at c2 ⊢); grind)
      · skip
        refine wp_bindE (ρ' := [_, _, _, _, _, _, _, _, _, _, _, _, _, _, _, _, .leaf (.string x1_1)]) (sh_fld1 (off := 1) rfl rfl) rfl rfl ?_
        refine wp_bindE (ρ' := [_, _, _, _, _, _, _, _, _, _, _, _, _, _, _, _, _, .leaf (.string y1_1)]) (sh_fld1 (off := 1) rfl rfl) rfl rfl ?_
        refine wp_bindE (ρ' := [_, _, _, _, _, _, _, _, _, _, _, _, _, _, _, _, _, _, dB (!(x1_1 == y1_1))]) sh_strN rfl rfl ?_
        refine wp_iteC rfl (fun c3 => ?_) (fun c3 => ?_)
        · skip
          refine wp_retR rfl ?_
          clear hi1 hj1; ((try simp only [deq_leaf, deq_agg, deqs_nil, deqs_cons, veq_int, veq_str] at c3 c2 ⊢); grind)
        · skip
          refine wp_bindE (ρ' := [_, _, _, _, _, _, _, _, _, _, _, _, _, _, _, _, _, _, _, x1_2]) (sh_fld1 (off := 2) rfl i_x1_2.one) rfl rfl ?_
          refine wp_bindE (ρ' := [_, _, _, _, _, _, _, _, _, _, _, _, _, _, _, _, _, _, _, _, y1_2]) (sh_fld1 (off := 2) rfl i_y1_2.one) rfl rfl ?_
          refine wp_callE (ρ' := [_, _, _, _, _, _, _, _, _, _, _, _, _, _, _, _, _, _, _, _, _, dB (deq (x1_2) (y1_2))]) (h73 h_x1_2 h_y1_2) rfl rfl rfl rfl ?_
          refine wp_bindE (ρ' := [_, _, _, _, _, _, _, _, _, _, _, _, _, _, _, _, _, _, _, _, _, _, dB (!(deq (x1_2) (y1_2)))]) sh_not rfl rfl ?_
          refine wp_iteC rfl (fun c4 => ?_) (fun c4 => ?_)
          · skip
            refine wp_retR rfl ?_
            clear hi1 hj1; ((try simp only [deq_leaf, deq_agg, deqs_nil, deqs_cons, veq_int, veq_str] at c4 c3 c2 ⊢); grind)
          · skip
            refine wp_bindE (ρ' := [_, _, _, _, _, _, _, _, _, _, _, _, _, _, _, _, _, _, _, _, _, _, _, x1_3]) (sh_fld1 (off := 3) rfl i_x1_3.one) rfl rfl ?_
            refine wp_bindE (ρ' := [_, _, _, _, _, _, _, _, _, _, _, _, _, _, _, _, _, _, _, _, _, _, _, _, y1_3]) (sh_fld1 (off := 3) rfl i_y1_3.one) rfl rfl ?_
            refine wp_callE (ρ' := [_, _, _, _, _, _, _, _, _, _, _, _, _, _, _, _, _, _, _, _, _, _, _, _, _, dB (deq (x1_3) (y1_3))]) (h73 h_x1_3 h_y1_3) rfl rfl rfl rfl ?_
            refine wp_bindE (ρ' := [_, _, _, _, _, _, _, _, _, _, _, _, _, _, _, _, _, _, _, _, _, _, _, _, _, _, dB (!(deq (x1_3) (y1_3)))]) sh_not rfl rfl ?_
            refine wp_iteC rfl (fun c5 => ?_) (fun c5 => ?_)
            · skip
              refine wp_retR rfl ?_
              clear hi1 hj1; ((try simp only [deq_leaf, deq_agg, deqs_nil, deqs_cons, veq_int, veq_str] at c5 c4 c3 c2 ⊢); grind)
            · skip
              refine wp_bindE (ρ' := [_, _, _, _, _, _, _, _, _, _, _, _, _, _, _, _, _, _, _, _, _, _, _, _, _, _, _, dI ((i1 + 1 : Nat) : Int)]) (sh_add hj1) rfl rfl ?_
              refine wp_jumpR rfl ?_
              clear hi1 hj1; ((try simp only [deq_leaf, deq_agg, deqs_nil, deqs_cons, veq_int, veq_str] at c5 c4 c3 c2 ⊢); grind)
    · show wp _ _ _ u75T1 _
      refine wp_bindE (ρ' := [_, _, _, dI ((a.es.length : Nat) : Int)]) (sh_len i_a) rfl rfl ?_
      refine wp_bindE (ρ' := [_, _, _, _, _]) sh_lss rfl rfl ?_
      refine wp_iteB rfl ?_
      rw [lt_false]
      refine ite_f ?_
      refine wp_retTo (d' := dB (true)) rfl (db_congr ?_)
      ((try simp only [deq_leaf, deq_agg, deqs_nil, deqs_cons, veq_int, veq_bool, veq_str] at q1 ⊢); grind)
/- 76 langdoc/langdocref48.sameRules -/
theorem h76 {a b : D} (h_a : HasSh (.sl 163 6 (.st [.int .i64, .int .i64, .int .i64, .int .i64, .sl 3 1 (.int .i64), .int .i64])) a) (h_b : HasSh (.sl 163 6 (.st [.int .i64, .int .i64, .int .i64, .int .i64, .sl 3 1 (.int .i64), .int .i64])) b) : Holds EE 76 [a, b] (dB (deq a b)) := by
  refine u76 rfl (Goes.step' ?_)
  have i_a := isSl_of h_a
  have i_b := isSl_of h_b
  show wp _ _ _ u76T0 _
  refine wp_bindE (ρ' := [_, _, dI ((a.es.length : Nat) : Int)]) (sh_len i_a) rfl rfl ?_
  refine wp_bindE (ρ' := [_, _, _, dI ((b.es.length : Nat) : Int)]) (sh_len i_b) rfl rfl ?_
  refine wp_bindE (ρ' := [_, _, _, _, _]) sh_neq rfl rfl ?_
  refine wp_iteC rfl (fun c0 => ?_) (fun c0 => ?_)
  · have q0 := deq_len i_a i_b (len_ne c0)
    refine wp_retTo (d' := dB (false)) rfl (db_congr ?_)
    ((try simp only [deq_leaf, deq_agg, deqs_nil, deqs_cons, veq_int, veq_bool, veq_str] at q0 ⊢); grind)
  · have l_a_b := len_of c0
    refine wp_jumpTo rfl ?_
    refine loop_eq2 (ρ := fun i1 => [a, b, dI ((i1 : Nat) : Int)]) i_a i_b l_a_b (fun q1 => ?_) ?_ (fun q1 => ?_)
    · ((try simp only [deq_leaf, deq_agg, deqs_nil, deqs_cons, veq_int, veq_bool, veq_str] at q1 ⊢); grind)
    · intro i1 x1 y1 e_x1 e_y1 hi1 hj1
      obtain ⟨_, rfl, _, _, rfl, ⟨x1_0, rfl⟩, _, _, rfl, ⟨x1_1, rfl⟩, _, _, rfl, ⟨x1_2, rfl⟩, _, _, rfl, ⟨x1_3, rfl⟩, x1_4, _, rfl, h_x1_4, _, _, rfl, ⟨x1_5, rfl⟩, rfl⟩ := elem_of h_a e_x1
      have i_x1_4 := isSl_of h_x1_4
      obtain ⟨_, rfl, _, _, rfl, ⟨y1_0, rfl⟩, _, _, rfl, ⟨y1_1, rfl⟩, _, _, rfl, ⟨y1_2, rfl⟩, _, _, rfl, ⟨y1_3, rfl⟩, y1_4, _, rfl, h_y1_4, _, _, rfl, ⟨y1_5, rfl⟩, rfl⟩ := elem_of h_b e_y1
      have i_y1_4 := isSl_of h_y1_4
      show wp _ _ _ u76T1 _
      refine wp_bindE (ρ' := [_, _, _, dI ((a.es.length : Nat) : Int)]) (sh_len i_a) rfl rfl ?_
      refine wp_bindE (ρ' := [_, _, _, _, _]) sh_lss rfl rfl ?_
      refine wp_iteB rfl ?_
      rw [lt_true (show i1 < a.es.length by omega)]
      refine ite_t ?_
      refine wp_bindE (ρ' := [_, _, _, _, _, dB (true)]) (sh_inr e_x1) rfl rfl ?_
      refine wp_bindE (ρ' := [_, _, _, _, _, _, .agg [dI x1_0, dI x1_1, dI x1_2, dI x1_3, x1_4, dI x1_5]]) (sh_elemW i_a e_x1 rfl) rfl rfl ?_
      refine wp_bindE (ρ' := [_, _, _, _, _, _, _, dB (true)]) (sh_inr e_y1) rfl rfl ?_
      refine wp_bindE (ρ' := [_, _, _, _, _, _, _, _, .agg [dI y1_0, dI y1_1, dI y1_2, dI y1_3, y1_4, dI y1_5]]) (sh_elemW i_b e_y1 rfl) rfl rfl ?_
      refine wp_bindE (ρ' := [_, _, _, _, _, _, _, _, _, .agg [dI x1_0, dI x1_1, dI x1_2, dI x1_3, x1_4, dI x1_5]]) (sh_chkW rfl) rfl rfl ?_
      refine wp_bindE (ρ' := [_, _, _, _, _, _, _, _, _, _, .agg [dI y1_0, dI y1_1, dI y1_2, dI y1_3, y1_4, dI y1_5]]) (sh_chkW rfl) rfl rfl ?_
      refine wp_bindE (ρ' := [_, _, _, _, _, _, _, _, _, _, _, dB (true)]) (sh_inr e_x1) rfl rfl ?_
      refine wp_bindE (ρ' := [_, _, _, _, _, _, _, _, _, _, _, _, dB (true)]) (sh_inr e_y1) rfl rfl ?_
      refine wp_bindE (ρ' := [_, _, _, _, _, _, _, _, _, _, _, _, _, dI x1_0]) (sh_fld1 (off := 0) rfl rfl) rfl rfl ?_
      refine wp_bindE (ρ' := [_, _, _, _, _, _, _, _, _, _, _, _, _, _, dI y1_0]) (sh_fld1 (off := 0) rfl rfl) rfl rfl ?_
      refine wp_bindE (ρ' := [_, _, _, _, _, _, _, _, _, _, _, _, _, _, _, dB (x1_0 != y1_0)]) sh_neq rfl rfl ?_
      refine wp_iteC rfl (fun c2 => ?_) (fun c2 => ?_)
      · skip
        refine wp_retR rfl ?_
        clear hi1 hj1; ((try simp only [deq_leaf, deq_agg, deqs_nil, deqs_cons, veq_int] at c2 ⊢); grind)
      · skip
        refine wp_bindE (ρ' := [_, _, _, _, _, _, _, _, _, _, _, _, _, _, _, _, .agg [dI x1_1, dI x1_2]]) (sh_fldA rfl) rfl rfl ?_
        refine wp_bindE (ρ' := [_, _, _, _, _, _, _, _, _, _, _, _, _, _, _, _, _, .agg [dI y1_1, dI y1_2]]) (sh_fldA rfl) rfl rfl ?_
        refine wp_bindE (ρ' := [_, _, _, _, _, _, _, _, _, _, _, _, _, _, _, _, _, _, dB (!(deqs [dI x1_1, dI x1_2] [dI y1_1, dI y1_2]))]) (sh_cmpS .neq (.inl rfl) ty102 st102 le4 gu102 rfl (shs_cons sh_int (shs_cons sh_int shs_nil)) (shs_cons sh_int (shs_cons sh_int shs_nil))) rfl rfl ?_
        refine wp_iteC rfl (fun c3 => ?_) (fun c3 => ?_)
        · skip
          refine wp_retR rfl ?_
          clear hi1 hj1; ((try simp only [deq_leaf, deq_agg, deqs_nil, deqs_cons, veq_int] at c3 c2 ⊢); grind)
        · skip
          refine wp_bindE (ρ' := [_, _, _, _, _, _, _, _, _, _, _, _, _, _, _, _, _, _, _, dI x1_3]) (sh_fld1 (off := 3) rfl rfl) rfl rfl ?_
          refine wp_bindE (ρ' := [_, _, _, _, _, _, _, _, _, _, _, _, _, _, _, _, _, _, _, _, dI y1_3]) (sh_fld1 (off := 3) rfl rfl) rfl rfl ?_
          refine wp_bindE (ρ' := [_, _, _, _, _, _, _, _, _, _, _, _, _, _, _, _, _, _, _, _, _, dB (x1_3 != y1_3)]) sh_neq rfl rfl ?_
          refine wp_iteC rfl (fun c4 => ?_) (fun c4 => ?_)
          · skip
            refine wp_retR rfl ?_
            clear hi1 hj1; ((try simp only [deq_leaf, deq_agg, deqs_nil, deqs_cons, veq_int] at c4 c3 c2 ⊢); grind)
          · skip
            refine wp_bindE (ρ' := [_, _, _, _, _, _, _, _, _, _, _, _, _, _, _, _, _, _, _, _, _, _, dI x1_5]) (sh_fld1 (off := 5) rfl rfl) rfl rfl ?_
            refine wp_bindE (ρ' := [_, _, _, _, _, _, _, _, _, _, _, _, _, _, _, _, _, _, _, _, _, _, _, dI y1_5]) (sh_fld1 (off := 5) rfl rfl) rfl rfl ?_
            refine wp_bindE (ρ' := [_, _, _, _, _, _, _, _, _, _, _, _, _, _, _, _, _, _, _, _, _, _, _, _, dB (x1_5 != y1_5)]) sh_neq rfl rfl ?_
            refine wp_iteC rfl (fun c5 => ?_) (fun c5 => ?_)
            · skip
              refine wp_retR rfl ?_
              clear hi1 hj1; ((try simp only [deq_leaf, deq_agg, deqs_nil, deqs_cons, veq_int] at c5 c4 c3 c2 ⊢); grind)
            · skip
              refine wp_bindE (ρ' := [_, _, _, _, _, _, _, _, _, _, _, _, _, _, _, _, _, _, _, _, _, _, _, _, _, x1_4]) (sh_fld1 (off := 4) rfl i_x1_4.one) rfl rfl ?_
              refine wp_bindE (ρ' := [_, _, _, _, _, _, _, _, _, _, _, _, _, _, _, _, _, _, _, _, _, _, _, _, _, _, y1_4]) (sh_fld1 (off := 4) rfl i_y1_4.one) rfl rfl ?_
              refine wp_callE (ρ' := [_, _, _, _, _, _, _, _, _, _, _, _, _, _, _, _, _, _, _, _, _, _, _, _, _, _, _, dB (deq (x1_4) (y1_4))]) (h73 h_x1_4 h_y1_4) rfl rfl rfl rfl ?_
              refine wp_bindE (ρ' := [_, _, _, _, _, _, _, _, _, _, _, _, _, _, _, _, _, _, _, _, _, _, _, _, _, _, _, _, dB (!(deq (x1_4) (y1_4)))]) sh_not rfl rfl ?_
              refine wp_iteC rfl (fun c6 => ?_) (fun c6 => ?_)
              · skip
                refine wp_retR rfl ?_
                clear hi1 hj1; ((try simp only [deq_leaf, deq_agg, deqs_nil, deqs_cons, veq_int] at c6 c5 c4 c3 c2 ⊢); grind)
              · skip
                refine wp_bindE (ρ' := [_, _, _, _, _, _, _, _, _, _, _, _, _, _, _, _, _, _, _, _, _, _, _, _, _, _, _, _, _, dI ((i1 + 1 : Nat) : Int)]) (sh_add hj1) rfl rfl ?_
                refine wp_jumpR rfl ?_
                clear hi1 hj1; ((try simp only [deq_leaf, deq_agg, deqs_nil, deqs_cons, veq_int] at c6 c5 c4 c3 c2 ⊢); grind)
    · show wp _ _ _ u76T1 _
      refine wp_bindE (ρ' := [_, _, _, dI ((a.es.length : Nat) : Int)]) (sh_len i_a) rfl rfl ?_
      refine wp_bindE (ρ' := [_, _, _, _, _]) sh_lss rfl rfl ?_
      refine wp_iteB rfl ?_
      rw [lt_false]
      refine ite_f ?_
      refine wp_retTo (d' := dB (true)) rfl (db_congr ?_)
      ((try simp only [deq_leaf, deq_agg, deqs_nil, deqs_cons, veq_int, veq_bool, veq_str] at q1 ⊢); grind)
end Go.Proofs.YtindbmgnapmdmaaGreatDoor
