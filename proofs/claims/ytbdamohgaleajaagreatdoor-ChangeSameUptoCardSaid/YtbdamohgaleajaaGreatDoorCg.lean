/- Functions that hold two data against each other. Conditions: none. -/
import Derived.Test.YtbdamohgaleajaaGreatDoorCb
import Derived.Test.YtbdamohgaleajaaGreatDoorCc
import Derived.Test.YtbdamohgaleajaaGreatDoorUn
namespace Go.Proofs.YtbdamohgaleajaaGreatDoor
open Go Go.Am Go.Proofs
attribute [local irreducible] Go.Am.wp Go.Am.TOp.eval
theorem ty67 : eqTy EE.prog 4 67 = some [.str, .int .i64] := by kernel_rfl
theorem st67 : isSt EE.prog 67 = true := by kernel_rfl
theorem gu67 : EE.prog.eqGuardType EE.prog.depth 67 = false := by kernel_rfl
theorem ty51 : eqTy EE.prog 4 51 = some [.int .i64, .int .i64] := by kernel_rfl
theorem st51 : isSt EE.prog 51 = true := by kernel_rfl
theorem gu51 : EE.prog.eqGuardType EE.prog.depth 51 = false := by kernel_rfl
theorem ty4 : eqTy EE.prog 1 4 = some [.bool] := by kernel_rfl
theorem st4 : isSt EE.prog 4 = false := by kernel_rfl
theorem ty84 : eqTy EE.prog 4 84 = some [.int .i64, .int .i64, .int .i64] := by kernel_rfl
theorem st84 : isSt EE.prog 84 = true := by kernel_rfl
theorem gu84 : EE.prog.eqGuardType EE.prog.depth 84 = false := by kernel_rfl
theorem ty86 : eqTy EE.prog 4 86 = some [.str, .str] := by kernel_rfl
theorem st86 : isSt EE.prog 86 = true := by kernel_rfl
theorem gu86 : EE.prog.eqGuardType EE.prog.depth 86 = false := by kernel_rfl
theorem ty59 : eqTy EE.prog 4 59 = some [.int .i64, .int .i64] := by kernel_rfl
theorem st59 : isSt EE.prog 59 = true := by kernel_rfl
theorem gu59 : EE.prog.eqGuardType EE.prog.depth 59 = false := by kernel_rfl
theorem ty116 : eqTy EE.prog 4 116 = some [.int .i64, .int .i64] := by kernel_rfl
theorem st116 : isSt EE.prog 116 = true := by kernel_rfl
theorem gu116 : EE.prog.eqGuardType EE.prog.depth 116 = false := by kernel_rfl
theorem h18 {a b : D} (h_a : HasSh (.sl 67 2 (.st [.str, .int .i64])) a) (h_b : HasSh (.sl 67 2 (.st [.str, .int .i64])) b) : Holds EE 18 [a, b] (dB (deq a b)) := by
 refine u18 rfl (Goes.step' ?_)
 have i_a := isSl_of h_a
 have i_b := isSl_of h_b
 show wp _ _ _ u18T0 _
 refine bS (d := dI ((a.es.length : Nat) : Int)) (sh_len i_a) ?_
 refine bS (d := dI ((b.es.length : Nat) : Int)) (sh_len i_b) ?_
 refine bS sh_neq ?_
 refine wp_iteC rfl (fun c0 => ?_) (fun c0 => ?_)
 ·
  have q0 := deq_len i_a i_b (len_ne c0)
  refine wp_retTo (d' := dB (false)) rfl (db_congr ?_)
  ((try simp only [deq_leaf, deq_agg, deqs_nil, deqs_cons, veq_int, veq_bool, veq_str] at q0 ⊢); grind)
 ·
  have l_a_b := len_of c0
  refine bS (d := dI ((a.es.length : Nat) : Int)) (sh_len i_a) ?_
  refine wp_jumpTo rfl ?_
  refine loop_eq2 (ρ := fun i1 => [a, b, dI ((a.es.length : Nat) : Int), dI ((i1 : Nat) : Int)]) i_a i_b l_a_b (fun q1 => ?_) ?_ (fun q1 => ?_)
  ·
   ((try simp only [deq_leaf, deq_agg, deqs_nil, deqs_cons, veq_int, veq_bool, veq_str] at q1 ⊢); grind)
  ·
   intro i1 x1 y1 e_x1 e_y1 hi1 hj1
   obtain ⟨_, rfl, _, _, rfl, ⟨x1_0, rfl⟩, _, _, rfl, ⟨x1_1, rfl⟩, rfl⟩ := elem_of h_a e_x1
   obtain ⟨_, rfl, _, _, rfl, ⟨y1_0, rfl⟩, _, _, rfl, ⟨y1_1, rfl⟩, rfl⟩ := elem_of h_b e_y1
   show wp _ _ _ u18T1 _
   refine bS sh_lss ?_
   refine wp_iteB rfl ?_
   rw [lt_true (show i1 < a.es.length by omega)]
   refine ite_t ?_
   refine bS (d := dB (true)) (sh_inr e_x1) ?_
   refine bS (d := .agg [.leaf (.string x1_0), dI x1_1]) (sh_elemW i_a e_x1 rfl) ?_
   refine bS (d := dB (true)) (sh_inr e_y1) ?_
   refine bS (d := .agg [.leaf (.string y1_0), dI y1_1]) (sh_elemW i_b e_y1 rfl) ?_
   refine bS (d := dB (!(deqs [.leaf (.string x1_0), dI x1_1] [.leaf (.string y1_0), dI y1_1]))) (sh_cmpS .neq (.inl rfl) ty67 st67 le4 gu67 rfl (shs_cons sh_str (shs_cons sh_int shs_nil)) (shs_cons sh_str (shs_cons sh_int shs_nil))) ?_
   refine wp_iteC rfl (fun c2 => ?_) (fun c2 => ?_)
   ·
    skip
    refine wp_retR rfl ?_
    clear hi1 hj1; ((try simp only [deq_leaf, deq_agg, deqs_nil, deqs_cons, veq_int, veq_str] at c2 ⊢); grind)
   ·
    skip
    refine bS (d := dI ((i1 + 1 : Nat) : Int)) (sh_add hj1) ?_
    refine wp_jumpR rfl ?_
    clear hi1 hj1; ((try simp only [deq_leaf, deq_agg, deqs_nil, deqs_cons, veq_int, veq_str] at c2 ⊢); grind)
  ·
   show wp _ _ _ u18T1 _
   refine bS sh_lss ?_
   refine wp_iteB rfl ?_
   rw [lt_false]
   refine ite_f ?_
   refine wp_retTo (d' := dB (true)) rfl (db_congr ?_)
   ((try simp only [deq_leaf, deq_agg, deqs_nil, deqs_cons, veq_int, veq_bool, veq_str] at q1 ⊢); grind)
theorem h53 {a b : D} (h_a : HasSh zL a) (h_b : HasSh zL b) : Holds EE 53 [a, b] (dB (deq a b)) := by
 refine u53 rfl (Goes.step' ?_)
 have i_a := isSl_of h_a
 have i_b := isSl_of h_b
 show wp _ _ _ u53T0 _
 refine bS (d := dI ((a.es.length : Nat) : Int)) (sh_len i_a) ?_
 refine bS (d := dI ((b.es.length : Nat) : Int)) (sh_len i_b) ?_
 refine bS sh_neq ?_
 refine wp_iteC rfl (fun c0 => ?_) (fun c0 => ?_)
 ·
  have q0 := deq_len i_a i_b (len_ne c0)
  refine wp_retTo (d' := dB (false)) rfl (db_congr ?_)
  ((try simp only [deq_leaf, deq_agg, deqs_nil, deqs_cons, veq_int, veq_bool, veq_str] at q0 ⊢); grind)
 ·
  have l_a_b := len_of c0
  refine bS (d := dI ((a.es.length : Nat) : Int)) (sh_len i_a) ?_
  refine wp_jumpTo rfl ?_
  refine loop_eq2 (ρ := fun i1 => [a, b, dI ((a.es.length : Nat) : Int), dI ((i1 : Nat) : Int)]) i_a i_b l_a_b (fun q1 => ?_) ?_ (fun q1 => ?_)
  ·
   ((try simp only [deq_leaf, deq_agg, deqs_nil, deqs_cons, veq_int, veq_bool, veq_str] at q1 ⊢); grind)
  ·
   intro i1 x1 y1 e_x1 e_y1 hi1 hj1
   obtain ⟨x1, rfl⟩ := elem_of h_a e_x1
   obtain ⟨y1, rfl⟩ := elem_of h_b e_y1
   show wp _ _ _ u53T1 _
   refine bS sh_lss ?_
   refine wp_iteB rfl ?_
   rw [lt_true (show i1 < a.es.length by omega)]
   refine ite_t ?_
   refine bS (d := dB (true)) (sh_inr e_x1) ?_
   refine bS (d := dI x1) (sh_elem1 i_a e_x1 rfl) ?_
   refine bS (d := dB (true)) (sh_inr e_y1) ?_
   refine bS (d := dI y1) (sh_elem1 i_b e_y1 rfl) ?_
   refine bS (d := dB (x1 != y1)) sh_neq ?_
   refine wp_iteC rfl (fun c2 => ?_) (fun c2 => ?_)
   ·
    skip
    refine wp_retR rfl ?_
    clear hi1 hj1; ((try simp only [deq_leaf, veq_int] at c2 ⊢); grind)
   ·
    skip
    refine bS (d := dI ((i1 + 1 : Nat) : Int)) (sh_add hj1) ?_
    refine wp_jumpR rfl ?_
    clear hi1 hj1; ((try simp only [deq_leaf, veq_int] at c2 ⊢); grind)
  ·
   show wp _ _ _ u53T1 _
   refine bS sh_lss ?_
   refine wp_iteB rfl ?_
   rw [lt_false]
   refine ite_f ?_
   refine wp_retTo (d' := dB (true)) rfl (db_congr ?_)
   ((try simp only [deq_leaf, deq_agg, deqs_nil, deqs_cons, veq_int, veq_bool, veq_str] at q1 ⊢); grind)
theorem h52 {a b : D} (h_a : HasSh zU a) (h_b : HasSh zU b) : Holds EE 52 [a, b] (dB (deq a b)) := by
 refine u52 rfl (Goes.step' ?_)
 obtain ⟨_, rfl, _, _, rfl, ⟨a_0, rfl⟩, a_1, _, rfl, h_a_1, rfl⟩ := h_a
 have i_a_1 := isSl_of h_a_1
 obtain ⟨_, rfl, _, _, rfl, ⟨b_0, rfl⟩, b_1, _, rfl, h_b_1, rfl⟩ := h_b
 have i_b_1 := isSl_of h_b_1
 show wp _ _ _ u52T0 _
 refine bS (d := .agg [.leaf (.string a_0), a_1]) (sh_chkW rfl) ?_
 refine bS (d := .agg [.leaf (.string b_0), b_1]) (sh_chkW rfl) ?_
 refine bS (d := .leaf (.string a_0)) (sh_fld1 rfl rfl) ?_
 refine bS (d := .leaf (.string b_0)) (sh_fld1 rfl rfl) ?_
 refine bS (d := dB (a_0 == b_0)) sh_strE ?_
 refine wp_iteC rfl (fun c0 => ?_) (fun c0 => ?_)
 ·
  skip
  refine bS (d := a_1) (sh_fld1 rfl i_a_1.one) ?_
  refine bS (d := b_1) (sh_fld1 rfl i_b_1.one) ?_
  refine cS (d := dB (deq (a_1) (b_1))) (h53 h_a_1 h_b_1) ?_
  refine wp_retTo (d' := dB (deq (a_1) (b_1))) rfl (db_congr ?_)
  ((try simp only [deq_leaf, deq_agg, deqs_nil, deqs_cons, veq_str] at c0 ⊢); grind)
 ·
  skip
  refine wp_retTo (d' := dB (false)) rfl (db_congr ?_)
  ((try simp only [deq_leaf, deq_agg, deqs_nil, deqs_cons, veq_str] at c0 ⊢); grind)
theorem h55 {a b : D} (h_a : HasSh (.sl 9 1 (.str)) a) (h_b : HasSh (.sl 9 1 (.str)) b) : Holds EE 55 [a, b] (dB (deq a b)) := by
 refine u55 rfl (Goes.step' ?_)
 have i_a := isSl_of h_a
 have i_b := isSl_of h_b
 show wp _ _ _ u55T0 _
 refine bS (d := dI ((a.es.length : Nat) : Int)) (sh_len i_a) ?_
 refine bS (d := dI ((b.es.length : Nat) : Int)) (sh_len i_b) ?_
 refine bS sh_neq ?_
 refine wp_iteC rfl (fun c0 => ?_) (fun c0 => ?_)
 ·
  have q0 := deq_len i_a i_b (len_ne c0)
  refine wp_retTo (d' := dB (false)) rfl (db_congr ?_)
  ((try simp only [deq_leaf, deq_agg, deqs_nil, deqs_cons, veq_int, veq_bool, veq_str] at q0 ⊢); grind)
 ·
  have l_a_b := len_of c0
  refine bS (d := dI ((a.es.length : Nat) : Int)) (sh_len i_a) ?_
  refine wp_jumpTo rfl ?_
  refine loop_eq2 (ρ := fun i1 => [a, b, dI ((a.es.length : Nat) : Int), dI ((i1 : Nat) : Int)]) i_a i_b l_a_b (fun q1 => ?_) ?_ (fun q1 => ?_)
  ·
   ((try simp only [deq_leaf, deq_agg, deqs_nil, deqs_cons, veq_int, veq_bool, veq_str] at q1 ⊢); grind)
  ·
   intro i1 x1 y1 e_x1 e_y1 hi1 hj1
   obtain ⟨x1, rfl⟩ := elem_of h_a e_x1
   obtain ⟨y1, rfl⟩ := elem_of h_b e_y1
   show wp _ _ _ u55T1 _
   refine bS sh_lss ?_
   refine wp_iteB rfl ?_
   rw [lt_true (show i1 < a.es.length by omega)]
   refine ite_t ?_
   refine bS (d := dB (true)) (sh_inr e_x1) ?_
   refine bS (d := .leaf (.string x1)) (sh_elem1 i_a e_x1 rfl) ?_
   refine bS (d := dB (true)) (sh_inr e_y1) ?_
   refine bS (d := .leaf (.string y1)) (sh_elem1 i_b e_y1 rfl) ?_
   refine bS (d := dB (!(x1 == y1))) sh_strN ?_
   refine wp_iteC rfl (fun c2 => ?_) (fun c2 => ?_)
   ·
    skip
    refine wp_retR rfl ?_
    clear hi1 hj1; ((try simp only [deq_leaf, veq_str] at c2 ⊢); grind)
   ·
    skip
    refine bS (d := dI ((i1 + 1 : Nat) : Int)) (sh_add hj1) ?_
    refine wp_jumpR rfl ?_
    clear hi1 hj1; ((try simp only [deq_leaf, veq_str] at c2 ⊢); grind)
  ·
   show wp _ _ _ u55T1 _
   refine bS sh_lss ?_
   refine wp_iteB rfl ?_
   rw [lt_false]
   refine ite_f ?_
   refine wp_retTo (d' := dB (true)) rfl (db_congr ?_)
   ((try simp only [deq_leaf, deq_agg, deqs_nil, deqs_cons, veq_int, veq_bool, veq_str] at q1 ⊢); grind)
theorem h54 {a b : D} (h_a : HasSh (.sl 9 1 (.str)) a) (h_b : HasSh (.sl 9 1 (.str)) b) : Holds EE 54 [a, b] (dB (deq a b)) := by
 refine u54 rfl (Goes.step' ?_)
 have i_a := isSl_of h_a
 have i_b := isSl_of h_b
 show wp _ _ _ u54T0 _
 refine cS (d := dB (deq (a) (b))) (h55 h_a h_b) ?_
 refine wp_retTo (d' := dB (deq (a) (b))) rfl (db_congr ?_)
 (first | rfl | ((try simp only [deq_leaf, deq_agg, deqs_nil, deqs_cons, veq_int, veq_bool, veq_str]); first | rfl | grind))
theorem h56 {a b : D} {g : Nat} (h_a : HasSh (.sl 74 2 zU) a) (h_b : HasSh (.sl 74 2 zU) b) (hp : ∀ x y, HasSh zU x → HasSh zU y → Holds EE g [x, y] (dB (deq x y))) : Holds EE 56 [a, b, .clo (.func g) [] []] (dB (deq a b)) := by
 refine u56 rfl (Goes.step' ?_)
 have i_a := isSl_of h_a
 have i_b := isSl_of h_b
 show wp _ _ _ u56T0 _
 refine bS (d := dI ((a.es.length : Nat) : Int)) (sh_len i_a) ?_
 refine bS (d := dI ((b.es.length : Nat) : Int)) (sh_len i_b) ?_
 refine bS sh_neq ?_
 refine wp_iteC rfl (fun c0 => ?_) (fun c0 => ?_)
 ·
  have q0 := deq_len i_a i_b (len_ne c0)
  refine wp_retTo (d' := dB (false)) rfl (db_congr ?_)
  ((try simp only [deq_leaf, deq_agg, deqs_nil, deqs_cons, veq_int, veq_bool, veq_str] at q0 ⊢); grind)
 ·
  have l_a_b := len_of c0
  refine bS (d := dI ((a.es.length : Nat) : Int)) (sh_len i_a) ?_
  refine wp_jumpTo rfl ?_
  refine loop_eq2 (ρ := fun i1 => [b, (.clo (.func g) [] []), a, dI ((a.es.length : Nat) : Int), dI ((i1 : Nat) : Int)]) i_a i_b l_a_b (fun q1 => ?_) ?_ (fun q1 => ?_)
  ·
   ((try simp only [deq_leaf, deq_agg, deqs_nil, deqs_cons, veq_int, veq_bool, veq_str] at q1 ⊢); grind)
  ·
   intro i1 x1 y1 e_x1 e_y1 hi1 hj1
   obtain ⟨_, rfl, _, _, rfl, ⟨x1_0, rfl⟩, x1_1, _, rfl, h_x1_1, rfl⟩ := elem_of h_a e_x1
   have i_x1_1 := isSl_of h_x1_1
   obtain ⟨_, rfl, _, _, rfl, ⟨y1_0, rfl⟩, y1_1, _, rfl, h_y1_1, rfl⟩ := elem_of h_b e_y1
   have i_y1_1 := isSl_of h_y1_1
   show wp _ _ _ u56T1 _
   refine bS sh_lss ?_
   refine wp_iteB rfl ?_
   rw [lt_true (show i1 < a.es.length by omega)]
   refine ite_t ?_
   refine bS (d := dB (true)) (sh_inr e_x1) ?_
   refine bS (d := .agg [.leaf (.string x1_0), x1_1]) (sh_elemW i_a e_x1 rfl) ?_
   refine bS (d := .agg [.leaf (.string x1_0), x1_1]) (sh_chkW rfl) ?_
   refine bS (d := dB (true)) (sh_inr e_y1) ?_
   refine bS (d := .agg [.leaf (.string y1_0), y1_1]) (sh_elemW i_b e_y1 rfl) ?_
   refine bS (d := .agg [.leaf (.string y1_0), y1_1]) (sh_chkW rfl) ?_
   refine cS (d := dB (deq (.agg [.leaf (.string x1_0), x1_1]) (.agg [.leaf (.string y1_0), y1_1]))) (hp _ _ (sh_st (shs_cons sh_str (shs_cons h_x1_1 shs_nil))) (sh_st (shs_cons sh_str (shs_cons h_y1_1 shs_nil)))) ?_
   refine bS (d := dB (!(deq (.agg [.leaf (.string x1_0), x1_1]) (.agg [.leaf (.string y1_0), y1_1])))) sh_not ?_
   refine wp_iteC rfl (fun c2 => ?_) (fun c2 => ?_)
   ·
    skip
    refine wp_retR rfl ?_
    clear hi1 hj1; ((try simp only [deq_leaf, deq_agg, deqs_nil, deqs_cons, veq_str] at c2 ⊢); grind)
   ·
    skip
    refine bS (d := dI ((i1 + 1 : Nat) : Int)) (sh_add hj1) ?_
    refine wp_jumpR rfl ?_
    clear hi1 hj1; ((try simp only [deq_leaf, deq_agg, deqs_nil, deqs_cons, veq_str] at c2 ⊢); grind)
  ·
   show wp _ _ _ u56T1 _
   refine bS sh_lss ?_
   refine wp_iteB rfl ?_
   rw [lt_false]
   refine ite_f ?_
   refine wp_retTo (d' := dB (true)) rfl (db_congr ?_)
   ((try simp only [deq_leaf, deq_agg, deqs_nil, deqs_cons, veq_int, veq_bool, veq_str] at q1 ⊢); grind)
theorem h57 {a b : D} {g : Nat} (h_a : HasSh (.sl 63 1 (.sl 9 1 (.str))) a) (h_b : HasSh (.sl 63 1 (.sl 9 1 (.str))) b) (hp : ∀ x y, HasSh (.sl 9 1 (.str)) x → HasSh (.sl 9 1 (.str)) y → Holds EE g [x, y] (dB (deq x y))) : Holds EE 57 [a, b, .clo (.func g) [] []] (dB (deq a b)) := by
 refine u57 rfl (Goes.step' ?_)
 have i_a := isSl_of h_a
 have i_b := isSl_of h_b
 show wp _ _ _ u57T0 _
 refine bS (d := dI ((a.es.length : Nat) : Int)) (sh_len i_a) ?_
 refine bS (d := dI ((b.es.length : Nat) : Int)) (sh_len i_b) ?_
 refine bS sh_neq ?_
 refine wp_iteC rfl (fun c0 => ?_) (fun c0 => ?_)
 ·
  have q0 := deq_len i_a i_b (len_ne c0)
  refine wp_retTo (d' := dB (false)) rfl (db_congr ?_)
  ((try simp only [deq_leaf, deq_agg, deqs_nil, deqs_cons, veq_int, veq_bool, veq_str] at q0 ⊢); grind)
 ·
  have l_a_b := len_of c0
  refine bS (d := dI ((a.es.length : Nat) : Int)) (sh_len i_a) ?_
  refine wp_jumpTo rfl ?_
  refine loop_eq2 (ρ := fun i1 => [b, (.clo (.func g) [] []), a, dI ((a.es.length : Nat) : Int), dI ((i1 : Nat) : Int)]) i_a i_b l_a_b (fun q1 => ?_) ?_ (fun q1 => ?_)
  ·
   ((try simp only [deq_leaf, deq_agg, deqs_nil, deqs_cons, veq_int, veq_bool, veq_str] at q1 ⊢); grind)
  ·
   intro i1 x1 y1 e_x1 e_y1 hi1 hj1
   have h_x1 := elem_of h_a e_x1
   have i_x1 := isSl_of h_x1
   have h_y1 := elem_of h_b e_y1
   have i_y1 := isSl_of h_y1
   show wp _ _ _ u57T1 _
   refine bS sh_lss ?_
   refine wp_iteB rfl ?_
   rw [lt_true (show i1 < a.es.length by omega)]
   refine ite_t ?_
   refine bS (d := dB (true)) (sh_inr e_x1) ?_
   refine bS (d := x1) (sh_elem1 i_a e_x1 i_x1.one) ?_
   refine bS (d := dB (true)) (sh_inr e_y1) ?_
   refine bS (d := y1) (sh_elem1 i_b e_y1 i_y1.one) ?_
   refine cS (d := dB (deq (x1) (y1))) (hp _ _ h_x1 h_y1) ?_
   refine bS (d := dB (!(deq (x1) (y1)))) sh_not ?_
   refine wp_iteC rfl (fun c2 => ?_) (fun c2 => ?_)
   ·
    skip
    refine wp_retR rfl ?_
    clear hi1 hj1; ((try simp only [deq_leaf, deq_agg, deqs_nil, deqs_cons, veq_int, veq_bool, veq_str] at c2 ⊢); grind)
   ·
    skip
    refine bS (d := dI ((i1 + 1 : Nat) : Int)) (sh_add hj1) ?_
    refine wp_jumpR rfl ?_
    clear hi1 hj1; ((try simp only [deq_leaf, deq_agg, deqs_nil, deqs_cons, veq_int, veq_bool, veq_str] at c2 ⊢); grind)
  ·
   show wp _ _ _ u57T1 _
   refine bS sh_lss ?_
   refine wp_iteB rfl ?_
   rw [lt_false]
   refine ite_f ?_
   refine wp_retTo (d' := dB (true)) rfl (db_congr ?_)
   ((try simp only [deq_leaf, deq_agg, deqs_nil, deqs_cons, veq_int, veq_bool, veq_str] at q1 ⊢); grind)
theorem h19 {a b : D} (h_a : HasSh zO a) (h_b : HasSh zO b) : Holds EE 19 [a, b] (dB (deq a b)) := by
 refine u19 rfl (Goes.step' ?_)
 obtain ⟨_, rfl, _, _, rfl, ⟨a_0, rfl⟩, a_1, _, rfl, h_a_1, a_2, _, rfl, h_a_2, rfl⟩ := h_a
 have i_a_1 := isSl_of h_a_1
 have i_a_2 := isSl_of h_a_2
 obtain ⟨_, rfl, _, _, rfl, ⟨b_0, rfl⟩, b_1, _, rfl, h_b_1, b_2, _, rfl, h_b_2, rfl⟩ := h_b
 have i_b_1 := isSl_of h_b_1
 have i_b_2 := isSl_of h_b_2
 show wp _ _ _ u19T0 _
 refine bS (d := .agg [.leaf (.string a_0), a_1, a_2]) (sh_chkW rfl) ?_
 refine bS (d := .agg [.leaf (.string b_0), b_1, b_2]) (sh_chkW rfl) ?_
 refine bS (d := .leaf (.string a_0)) (sh_fld1 rfl rfl) ?_
 refine bS (d := .leaf (.string b_0)) (sh_fld1 rfl rfl) ?_
 refine bS (d := dB (a_0 == b_0)) sh_strE ?_
 refine wp_iteC rfl (fun c0 => ?_) (fun c0 => ?_)
 ·
  skip
  refine bS (d := a_1) (sh_fld1 rfl i_a_1.one) ?_
  refine bS (d := b_1) (sh_fld1 rfl i_b_1.one) ?_
  refine cS (d := dB (deq (a_1) (b_1))) (h56 h_a_1 h_b_1 (fun x y hx hy => h52 hx hy)) ?_
  refine wp_iteC rfl (fun c1 => ?_) (fun c1 => ?_)
  ·
   skip
   refine bS (d := a_2) (sh_fld1 rfl i_a_2.one) ?_
   refine bS (d := b_2) (sh_fld1 rfl i_b_2.one) ?_
   refine cS (d := dB (deq (a_2) (b_2))) (h57 h_a_2 h_b_2 (fun x y hx hy => h54 hx hy)) ?_
   refine wp_retTo (d' := dB (deq (a_2) (b_2))) rfl (db_congr ?_)
   ((try simp only [deq_leaf, deq_agg, deqs_nil, deqs_cons, veq_str] at c1 c0 ⊢); grind)
  ·
   skip
   refine wp_retTo (d' := dB (false)) rfl (db_congr ?_)
   ((try simp only [deq_leaf, deq_agg, deqs_nil, deqs_cons, veq_str] at c1 c0 ⊢); grind)
 ·
  skip
  refine wp_retTo (d' := dB (false)) rfl (db_congr ?_)
  ((try simp only [deq_leaf, deq_agg, deqs_nil, deqs_cons, veq_str] at c0 ⊢); grind)
theorem h20 {a b : D} {g : Nat} (h_a : HasSh (.sl 44 6 zR) a) (h_b : HasSh (.sl 44 6 zR) b) (hp : ∀ x y, HasSh zR x → HasSh zR y → Holds EE g [x, y] (dB (deq x y))) : Holds EE 20 [a, b, .clo (.func g) [] []] (dB (deq a b)) := by
 refine u20 rfl (Goes.step' ?_)
 have i_a := isSl_of h_a
 have i_b := isSl_of h_b
 show wp _ _ _ u20T0 _
 refine bS (d := dI ((a.es.length : Nat) : Int)) (sh_len i_a) ?_
 refine bS (d := dI ((b.es.length : Nat) : Int)) (sh_len i_b) ?_
 refine bS sh_neq ?_
 refine wp_iteC rfl (fun c0 => ?_) (fun c0 => ?_)
 ·
  have q0 := deq_len i_a i_b (len_ne c0)
  refine wp_retTo (d' := dB (false)) rfl (db_congr ?_)
  ((try simp only [deq_leaf, deq_agg, deqs_nil, deqs_cons, veq_int, veq_bool, veq_str] at q0 ⊢); grind)
 ·
  have l_a_b := len_of c0
  refine bS (d := dI ((a.es.length : Nat) : Int)) (sh_len i_a) ?_
  refine wp_jumpTo rfl ?_
  refine loop_eq2 (ρ := fun i1 => [b, (.clo (.func g) [] []), a, dI ((a.es.length : Nat) : Int), dI ((i1 : Nat) : Int)]) i_a i_b l_a_b (fun q1 => ?_) ?_ (fun q1 => ?_)
  ·
   ((try simp only [deq_leaf, deq_agg, deqs_nil, deqs_cons, veq_int, veq_bool, veq_str] at q1 ⊢); grind)
  ·
   intro i1 x1 y1 e_x1 e_y1 hi1 hj1
   obtain ⟨_, rfl, x1_0, _, rfl, h_x1_0, x1_1, _, rfl, h_x1_1, x1_2, _, rfl, h_x1_2, x1_3, _, rfl, h_x1_3, _, _, rfl, ⟨x1_4, rfl⟩, _, _, rfl, ⟨x1_5, rfl⟩, rfl⟩ := elem_of h_a e_x1
   have i_x1_0 := isSl_of h_x1_0
   have i_x1_1 := isSl_of h_x1_1
   have i_x1_2 := isSl_of h_x1_2
   have i_x1_3 := isSl_of h_x1_3
   obtain ⟨_, rfl, y1_0, _, rfl, h_y1_0, y1_1, _, rfl, h_y1_1, y1_2, _, rfl, h_y1_2, y1_3, _, rfl, h_y1_3, _, _, rfl, ⟨y1_4, rfl⟩, _, _, rfl, ⟨y1_5, rfl⟩, rfl⟩ := elem_of h_b e_y1
   have i_y1_0 := isSl_of h_y1_0
   have i_y1_1 := isSl_of h_y1_1
   have i_y1_2 := isSl_of h_y1_2
   have i_y1_3 := isSl_of h_y1_3
   show wp _ _ _ u20T1 _
   refine bS sh_lss ?_
   refine wp_iteB rfl ?_
   rw [lt_true (show i1 < a.es.length by omega)]
   refine ite_t ?_
   refine bS (d := dB (true)) (sh_inr e_x1) ?_
   refine bS (d := .agg [x1_0, x1_1, x1_2, x1_3, dB (x1_4), dB (x1_5)]) (sh_elemW i_a e_x1 rfl) ?_
   refine bS (d := .agg [x1_0, x1_1, x1_2, x1_3, dB (x1_4), dB (x1_5)]) (sh_chkW rfl) ?_
   refine bS (d := dB (true)) (sh_inr e_y1) ?_
   refine bS (d := .agg [y1_0, y1_1, y1_2, y1_3, dB (y1_4), dB (y1_5)]) (sh_elemW i_b e_y1 rfl) ?_
   refine bS (d := .agg [y1_0, y1_1, y1_2, y1_3, dB (y1_4), dB (y1_5)]) (sh_chkW rfl) ?_
   refine cS (d := dB (deq (.agg [x1_0, x1_1, x1_2, x1_3, dB (x1_4), dB (x1_5)]) (.agg [y1_0, y1_1, y1_2, y1_3, dB (y1_4), dB (y1_5)]))) (hp _ _ (sh_st (shs_cons h_x1_0 (shs_cons h_x1_1 (shs_cons h_x1_2 (shs_cons h_x1_3 (shs_cons sh_bool (shs_cons sh_bool shs_nil))))))) (sh_st (shs_cons h_y1_0 (shs_cons h_y1_1 (shs_cons h_y1_2 (shs_cons h_y1_3 (shs_cons sh_bool (shs_cons sh_bool shs_nil)))))))) ?_
   refine bS (d := dB (!(deq (.agg [x1_0, x1_1, x1_2, x1_3, dB (x1_4), dB (x1_5)]) (.agg [y1_0, y1_1, y1_2, y1_3, dB (y1_4), dB (y1_5)])))) sh_not ?_
   refine wp_iteC rfl (fun c2 => ?_) (fun c2 => ?_)
   ·
    skip
    refine wp_retR rfl ?_
    clear hi1 hj1; ((try simp only [deq_leaf, deq_agg, deqs_nil, deqs_cons, veq_bool] at c2 ⊢); grind)
   ·
    skip
    refine bS (d := dI ((i1 + 1 : Nat) : Int)) (sh_add hj1) ?_
    refine wp_jumpR rfl ?_
    clear hi1 hj1; ((try simp only [deq_leaf, deq_agg, deqs_nil, deqs_cons, veq_bool] at c2 ⊢); grind)
  ·
   show wp _ _ _ u20T1 _
   refine bS sh_lss ?_
   refine wp_iteB rfl ?_
   rw [lt_false]
   refine ite_f ?_
   refine wp_retTo (d' := dB (true)) rfl (db_congr ?_)
   ((try simp only [deq_leaf, deq_agg, deqs_nil, deqs_cons, veq_int, veq_bool, veq_str] at q1 ⊢); grind)
theorem h58 {a b : D} (h_a : HasSh (.sl 51 2 (.st [.int .i64, .int .i64])) a) (h_b : HasSh (.sl 51 2 (.st [.int .i64, .int .i64])) b) : Holds EE 58 [a, b] (dB (deq a b)) := by
 refine u58 rfl (Goes.step' ?_)
 have i_a := isSl_of h_a
 have i_b := isSl_of h_b
 show wp _ _ _ u58T0 _
 refine bS (d := dI ((a.es.length : Nat) : Int)) (sh_len i_a) ?_
 refine bS (d := dI ((b.es.length : Nat) : Int)) (sh_len i_b) ?_
 refine bS sh_neq ?_
 refine wp_iteC rfl (fun c0 => ?_) (fun c0 => ?_)
 ·
  have q0 := deq_len i_a i_b (len_ne c0)
  refine wp_retTo (d' := dB (false)) rfl (db_congr ?_)
  ((try simp only [deq_leaf, deq_agg, deqs_nil, deqs_cons, veq_int, veq_bool, veq_str] at q0 ⊢); grind)
 ·
  have l_a_b := len_of c0
  refine bS (d := dI ((a.es.length : Nat) : Int)) (sh_len i_a) ?_
  refine wp_jumpTo rfl ?_
  refine loop_eq2 (ρ := fun i1 => [a, b, dI ((a.es.length : Nat) : Int), dI ((i1 : Nat) : Int)]) i_a i_b l_a_b (fun q1 => ?_) ?_ (fun q1 => ?_)
  ·
   ((try simp only [deq_leaf, deq_agg, deqs_nil, deqs_cons, veq_int, veq_bool, veq_str] at q1 ⊢); grind)
  ·
   intro i1 x1 y1 e_x1 e_y1 hi1 hj1
   obtain ⟨_, rfl, _, _, rfl, ⟨x1_0, rfl⟩, _, _, rfl, ⟨x1_1, rfl⟩, rfl⟩ := elem_of h_a e_x1
   obtain ⟨_, rfl, _, _, rfl, ⟨y1_0, rfl⟩, _, _, rfl, ⟨y1_1, rfl⟩, rfl⟩ := elem_of h_b e_y1
   show wp _ _ _ u58T1 _
   refine bS sh_lss ?_
   refine wp_iteB rfl ?_
   rw [lt_true (show i1 < a.es.length by omega)]
   refine ite_t ?_
   refine bS (d := dB (true)) (sh_inr e_x1) ?_
   refine bS (d := .agg [dI x1_0, dI x1_1]) (sh_elemW i_a e_x1 rfl) ?_
   refine bS (d := dB (true)) (sh_inr e_y1) ?_
   refine bS (d := .agg [dI y1_0, dI y1_1]) (sh_elemW i_b e_y1 rfl) ?_
   refine bS (d := dB (!(deqs [dI x1_0, dI x1_1] [dI y1_0, dI y1_1]))) (sh_cmpS .neq (.inl rfl) ty51 st51 le4 gu51 rfl (shs_cons sh_int (shs_cons sh_int shs_nil)) (shs_cons sh_int (shs_cons sh_int shs_nil))) ?_
   refine wp_iteC rfl (fun c2 => ?_) (fun c2 => ?_)
   ·
    skip
    refine wp_retR rfl ?_
    clear hi1 hj1; ((try simp only [deq_leaf, deq_agg, deqs_nil, deqs_cons, veq_int] at c2 ⊢); grind)
   ·
    skip
    refine bS (d := dI ((i1 + 1 : Nat) : Int)) (sh_add hj1) ?_
    refine wp_jumpR rfl ?_
    clear hi1 hj1; ((try simp only [deq_leaf, deq_agg, deqs_nil, deqs_cons, veq_int] at c2 ⊢); grind)
  ·
   show wp _ _ _ u58T1 _
   refine bS sh_lss ?_
   refine wp_iteB rfl ?_
   rw [lt_false]
   refine ite_f ?_
   refine wp_retTo (d' := dB (true)) rfl (db_congr ?_)
   ((try simp only [deq_leaf, deq_agg, deqs_nil, deqs_cons, veq_int, veq_bool, veq_str] at q1 ⊢); grind)
theorem h21 {a b : D} (h_a : HasSh zR a) (h_b : HasSh zR b) : Holds EE 21 [a, b] (dB (deq a b)) := by
 refine u21 rfl (Goes.step' ?_)
 obtain ⟨_, rfl, a_0, _, rfl, h_a_0, a_1, _, rfl, h_a_1, a_2, _, rfl, h_a_2, a_3, _, rfl, h_a_3, _, _, rfl, ⟨a_4, rfl⟩, _, _, rfl, ⟨a_5, rfl⟩, rfl⟩ := h_a
 have i_a_0 := isSl_of h_a_0
 have i_a_1 := isSl_of h_a_1
 have i_a_2 := isSl_of h_a_2
 have i_a_3 := isSl_of h_a_3
 obtain ⟨_, rfl, b_0, _, rfl, h_b_0, b_1, _, rfl, h_b_1, b_2, _, rfl, h_b_2, b_3, _, rfl, h_b_3, _, _, rfl, ⟨b_4, rfl⟩, _, _, rfl, ⟨b_5, rfl⟩, rfl⟩ := h_b
 have i_b_0 := isSl_of h_b_0
 have i_b_1 := isSl_of h_b_1
 have i_b_2 := isSl_of h_b_2
 have i_b_3 := isSl_of h_b_3
 show wp _ _ _ u21T0 _
 refine bS (d := .agg [a_0, a_1, a_2, a_3, dB (a_4), dB (a_5)]) (sh_chkW rfl) ?_
 refine bS (d := .agg [b_0, b_1, b_2, b_3, dB (b_4), dB (b_5)]) (sh_chkW rfl) ?_
 refine bS (d := a_0) (sh_fld1 rfl i_a_0.one) ?_
 refine bS (d := b_0) (sh_fld1 rfl i_b_0.one) ?_
 refine cS (d := dB (deq (a_0) (b_0))) (h53 h_a_0 h_b_0) ?_
 refine wp_iteC rfl (fun c0 => ?_) (fun c0 => ?_)
 ·
  skip
  refine bS (d := a_1) (sh_fld1 rfl i_a_1.one) ?_
  refine bS (d := b_1) (sh_fld1 rfl i_b_1.one) ?_
  refine cS (d := dB (deq (a_1) (b_1))) (h53 h_a_1 h_b_1) ?_
  refine wp_iteC rfl (fun c1 => ?_) (fun c1 => ?_)
  ·
   skip
   refine bS (d := a_2) (sh_fld1 rfl i_a_2.one) ?_
   refine bS (d := b_2) (sh_fld1 rfl i_b_2.one) ?_
   refine cS (d := dB (deq (a_2) (b_2))) (h58 h_a_2 h_b_2) ?_
   refine wp_iteC rfl (fun c2 => ?_) (fun c2 => ?_)
   ·
    skip
    refine bS (d := a_3) (sh_fld1 rfl i_a_3.one) ?_
    refine bS (d := b_3) (sh_fld1 rfl i_b_3.one) ?_
    refine cS (d := dB (deq (a_3) (b_3))) (h58 h_a_3 h_b_3) ?_
    refine wp_iteC rfl (fun c3 => ?_) (fun c3 => ?_)
    ·
     skip
     refine bS (d := dB (a_4)) (sh_fld1 rfl rfl) ?_
     refine bS (d := dB (b_4)) (sh_fld1 rfl rfl) ?_
     refine bS (d := dB (decide (a_4 = b_4))) (sh_cmpB .eql (.inr rfl) ty4 st4) ?_
     refine wp_iteC rfl (fun c4 => ?_) (fun c4 => ?_)
     ·
      skip
      refine bS (d := dB (a_5)) (sh_fld1 rfl rfl) ?_
      refine bS (d := dB (b_5)) (sh_fld1 rfl rfl) ?_
      refine bS (d := dB (decide (a_5 = b_5))) (sh_cmpB .eql (.inr rfl) ty4 st4) ?_
      refine wp_retTo (d' := dB (decide (a_5 = b_5))) rfl (db_congr ?_)
      ((try simp only [deq_leaf, deq_agg, deqs_nil, deqs_cons, veq_bool] at c4 c3 c2 c1 c0 ⊢); grind)
     ·
      skip
      refine wp_retTo (d' := dB (false)) rfl (db_congr ?_)
      ((try simp only [deq_leaf, deq_agg, deqs_nil, deqs_cons, veq_bool] at c4 c3 c2 c1 c0 ⊢); grind)
    ·
     skip
     refine wp_retTo (d' := dB (false)) rfl (db_congr ?_)
     ((try simp only [deq_leaf, deq_agg, deqs_nil, deqs_cons, veq_bool] at c3 c2 c1 c0 ⊢); grind)
   ·
    skip
    refine wp_retTo (d' := dB (false)) rfl (db_congr ?_)
    ((try simp only [deq_leaf, deq_agg, deqs_nil, deqs_cons, veq_bool] at c2 c1 c0 ⊢); grind)
  ·
   skip
   refine wp_retTo (d' := dB (false)) rfl (db_congr ?_)
   ((try simp only [deq_leaf, deq_agg, deqs_nil, deqs_cons, veq_bool] at c1 c0 ⊢); grind)
 ·
  skip
  refine wp_retTo (d' := dB (false)) rfl (db_congr ?_)
  ((try simp only [deq_leaf, deq_agg, deqs_nil, deqs_cons, veq_bool] at c0 ⊢); grind)
theorem h59 {a b : D} (h_a : HasSh (.sl 84 3 (.st [.int .i64, .int .i64, .int .i64])) a) (h_b : HasSh (.sl 84 3 (.st [.int .i64, .int .i64, .int .i64])) b) : Holds EE 59 [a, b] (dB (deq a b)) := by
 refine u59 rfl (Goes.step' ?_)
 have i_a := isSl_of h_a
 have i_b := isSl_of h_b
 show wp _ _ _ u59T0 _
 refine bS (d := dI ((a.es.length : Nat) : Int)) (sh_len i_a) ?_
 refine bS (d := dI ((b.es.length : Nat) : Int)) (sh_len i_b) ?_
 refine bS sh_neq ?_
 refine wp_iteC rfl (fun c0 => ?_) (fun c0 => ?_)
 ·
  have q0 := deq_len i_a i_b (len_ne c0)
  refine wp_retTo (d' := dB (false)) rfl (db_congr ?_)
  ((try simp only [deq_leaf, deq_agg, deqs_nil, deqs_cons, veq_int, veq_bool, veq_str] at q0 ⊢); grind)
 ·
  have l_a_b := len_of c0
  refine bS (d := dI ((a.es.length : Nat) : Int)) (sh_len i_a) ?_
  refine wp_jumpTo rfl ?_
  refine loop_eq2 (ρ := fun i1 => [a, b, dI ((a.es.length : Nat) : Int), dI ((i1 : Nat) : Int)]) i_a i_b l_a_b (fun q1 => ?_) ?_ (fun q1 => ?_)
  ·
   ((try simp only [deq_leaf, deq_agg, deqs_nil, deqs_cons, veq_int, veq_bool, veq_str] at q1 ⊢); grind)
  ·
   intro i1 x1 y1 e_x1 e_y1 hi1 hj1
   obtain ⟨_, rfl, _, _, rfl, ⟨x1_0, rfl⟩, _, _, rfl, ⟨x1_1, rfl⟩, _, _, rfl, ⟨x1_2, rfl⟩, rfl⟩ := elem_of h_a e_x1
   obtain ⟨_, rfl, _, _, rfl, ⟨y1_0, rfl⟩, _, _, rfl, ⟨y1_1, rfl⟩, _, _, rfl, ⟨y1_2, rfl⟩, rfl⟩ := elem_of h_b e_y1
   show wp _ _ _ u59T1 _
   refine bS sh_lss ?_
   refine wp_iteB rfl ?_
   rw [lt_true (show i1 < a.es.length by omega)]
   refine ite_t ?_
   refine bS (d := dB (true)) (sh_inr e_x1) ?_
   refine bS (d := .agg [dI x1_0, dI x1_1, dI x1_2]) (sh_elemW i_a e_x1 rfl) ?_
   refine bS (d := dB (true)) (sh_inr e_y1) ?_
   refine bS (d := .agg [dI y1_0, dI y1_1, dI y1_2]) (sh_elemW i_b e_y1 rfl) ?_
   refine bS (d := dB (!(deqs [dI x1_0, dI x1_1, dI x1_2] [dI y1_0, dI y1_1, dI y1_2]))) (sh_cmpS .neq (.inl rfl) ty84 st84 le4 gu84 rfl (shs_cons sh_int (shs_cons sh_int (shs_cons sh_int shs_nil))) (shs_cons sh_int (shs_cons sh_int (shs_cons sh_int shs_nil)))) ?_
   refine wp_iteC rfl (fun c2 => ?_) (fun c2 => ?_)
   ·
    skip
    refine wp_retR rfl ?_
    clear hi1 hj1; ((try simp only [deq_leaf, deq_agg, deqs_nil, deqs_cons, veq_int] at c2 ⊢); grind)
   ·
    skip
    refine bS (d := dI ((i1 + 1 : Nat) : Int)) (sh_add hj1) ?_
    refine wp_jumpR rfl ?_
    clear hi1 hj1; ((try simp only [deq_leaf, deq_agg, deqs_nil, deqs_cons, veq_int] at c2 ⊢); grind)
  ·
   show wp _ _ _ u59T1 _
   refine bS sh_lss ?_
   refine wp_iteB rfl ?_
   rw [lt_false]
   refine ite_f ?_
   refine wp_retTo (d' := dB (true)) rfl (db_congr ?_)
   ((try simp only [deq_leaf, deq_agg, deqs_nil, deqs_cons, veq_int, veq_bool, veq_str] at q1 ⊢); grind)
theorem h22 {a b : D} (h_a : HasSh zN a) (h_b : HasSh zN b) : Holds EE 22 [a, b] (dB (deq a b)) := by
 refine u22 rfl (Goes.step' ?_)
 obtain ⟨_, rfl, _, _, rfl, ⟨a_0, rfl⟩, a_1, _, rfl, h_a_1, a_2, _, rfl, h_a_2, rfl⟩ := h_a
 have i_a_1 := isSl_of h_a_1
 have i_a_2 := isSl_of h_a_2
 obtain ⟨_, rfl, _, _, rfl, ⟨b_0, rfl⟩, b_1, _, rfl, h_b_1, b_2, _, rfl, h_b_2, rfl⟩ := h_b
 have i_b_1 := isSl_of h_b_1
 have i_b_2 := isSl_of h_b_2
 show wp _ _ _ u22T0 _
 refine bS (d := .agg [dI a_0, a_1, a_2]) (sh_chkW rfl) ?_
 refine bS (d := .agg [dI b_0, b_1, b_2]) (sh_chkW rfl) ?_
 refine bS (d := dI a_0) (sh_fld1 rfl rfl) ?_
 refine bS (d := dI b_0) (sh_fld1 rfl rfl) ?_
 refine bS (d := dB (a_0 == b_0)) sh_eql ?_
 refine wp_iteC rfl (fun c0 => ?_) (fun c0 => ?_)
 ·
  skip
  refine bS (d := a_1) (sh_fld1 rfl i_a_1.one) ?_
  refine bS (d := b_1) (sh_fld1 rfl i_b_1.one) ?_
  refine cS (d := dB (deq (a_1) (b_1))) (h59 h_a_1 h_b_1) ?_
  refine wp_iteC rfl (fun c1 => ?_) (fun c1 => ?_)
  ·
   skip
   refine bS (d := a_2) (sh_fld1 rfl i_a_2.one) ?_
   refine bS (d := b_2) (sh_fld1 rfl i_b_2.one) ?_
   refine cS (d := dB (deq (a_2) (b_2))) (h53 h_a_2 h_b_2) ?_
   refine wp_retTo (d' := dB (deq (a_2) (b_2))) rfl (db_congr ?_)
   ((try simp only [deq_leaf, deq_agg, deqs_nil, deqs_cons, veq_int] at c1 c0 ⊢); grind)
  ·
   skip
   refine wp_retTo (d' := dB (false)) rfl (db_congr ?_)
   ((try simp only [deq_leaf, deq_agg, deqs_nil, deqs_cons, veq_int] at c1 c0 ⊢); grind)
 ·
  skip
  refine wp_retTo (d' := dB (false)) rfl (db_congr ?_)
  ((try simp only [deq_leaf, deq_agg, deqs_nil, deqs_cons, veq_int] at c0 ⊢); grind)
theorem h60 {a b : D} {g : Nat} (h_a : HasSh zEs a) (h_b : HasSh zEs b) (hp : ∀ x y, HasSh zE x → HasSh zE y → Holds EE g [x, y] (dB (deq x y))) : Holds EE 60 [a, b, .clo (.func g) [] []] (dB (deq a b)) := by
 refine u60 rfl (Goes.step' ?_)
 have i_a := isSl_of h_a
 have i_b := isSl_of h_b
 show wp _ _ _ u60T0 _
 refine bS (d := dI ((a.es.length : Nat) : Int)) (sh_len i_a) ?_
 refine bS (d := dI ((b.es.length : Nat) : Int)) (sh_len i_b) ?_
 refine bS sh_neq ?_
 refine wp_iteC rfl (fun c0 => ?_) (fun c0 => ?_)
 ·
  have q0 := deq_len i_a i_b (len_ne c0)
  refine wp_retTo (d' := dB (false)) rfl (db_congr ?_)
  ((try simp only [deq_leaf, deq_agg, deqs_nil, deqs_cons, veq_int, veq_bool, veq_str] at q0 ⊢); grind)
 ·
  have l_a_b := len_of c0
  refine bS (d := dI ((a.es.length : Nat) : Int)) (sh_len i_a) ?_
  refine wp_jumpTo rfl ?_
  refine loop_eq2 (ρ := fun i1 => [b, (.clo (.func g) [] []), a, dI ((a.es.length : Nat) : Int), dI ((i1 : Nat) : Int)]) i_a i_b l_a_b (fun q1 => ?_) ?_ (fun q1 => ?_)
  ·
   ((try simp only [deq_leaf, deq_agg, deqs_nil, deqs_cons, veq_int, veq_bool, veq_str] at q1 ⊢); grind)
  ·
   intro i1 x1 y1 e_x1 e_y1 hi1 hj1
   obtain ⟨_, rfl, _, _, rfl, ⟨x1_0, rfl⟩, x1_1, _, rfl, h_x1_1, _, _, rfl, ⟨x1_2, rfl⟩, x1_3, _, rfl, h_x1_3, _, _, rfl, ⟨x1_4, rfl⟩, x1_5, _, rfl, h_x1_5, x1_6, _, rfl, h_x1_6, x1_7, _, rfl, h_x1_7, rfl⟩ := elem_of h_a e_x1
   have i_x1_1 := isSl_of h_x1_1
   have i_x1_3 := isSl_of h_x1_3
   have i_x1_5 := isSl_of h_x1_5
   have i_x1_6 := isSl_of h_x1_6
   have i_x1_7 := isSl_of h_x1_7
   obtain ⟨_, rfl, _, _, rfl, ⟨y1_0, rfl⟩, y1_1, _, rfl, h_y1_1, _, _, rfl, ⟨y1_2, rfl⟩, y1_3, _, rfl, h_y1_3, _, _, rfl, ⟨y1_4, rfl⟩, y1_5, _, rfl, h_y1_5, y1_6, _, rfl, h_y1_6, y1_7, _, rfl, h_y1_7, rfl⟩ := elem_of h_b e_y1
   have i_y1_1 := isSl_of h_y1_1
   have i_y1_3 := isSl_of h_y1_3
   have i_y1_5 := isSl_of h_y1_5
   have i_y1_6 := isSl_of h_y1_6
   have i_y1_7 := isSl_of h_y1_7
   show wp _ _ _ u60T1 _
   refine bS sh_lss ?_
   refine wp_iteB rfl ?_
   rw [lt_true (show i1 < a.es.length by omega)]
   refine ite_t ?_
   refine bS (d := dB (true)) (sh_inr e_x1) ?_
   refine bS (d := .agg [dI x1_0, x1_1, dI x1_2, x1_3, dI x1_4, x1_5, x1_6, x1_7]) (sh_elemW i_a e_x1 rfl) ?_
   refine bS (d := .agg [dI x1_0, x1_1, dI x1_2, x1_3, dI x1_4, x1_5, x1_6, x1_7]) (sh_chkW rfl) ?_
   refine bS (d := dB (true)) (sh_inr e_y1) ?_
   refine bS (d := .agg [dI y1_0, y1_1, dI y1_2, y1_3, dI y1_4, y1_5, y1_6, y1_7]) (sh_elemW i_b e_y1 rfl) ?_
   refine bS (d := .agg [dI y1_0, y1_1, dI y1_2, y1_3, dI y1_4, y1_5, y1_6, y1_7]) (sh_chkW rfl) ?_
   refine cS (d := dB (deq (.agg [dI x1_0, x1_1, dI x1_2, x1_3, dI x1_4, x1_5, x1_6, x1_7]) (.agg [dI y1_0, y1_1, dI y1_2, y1_3, dI y1_4, y1_5, y1_6, y1_7]))) (hp _ _ (sh_st (shs_cons sh_int (shs_cons h_x1_1 (shs_cons sh_int (shs_cons h_x1_3 (shs_cons sh_int (shs_cons h_x1_5 (shs_cons h_x1_6 (shs_cons h_x1_7 shs_nil))))))))) (sh_st (shs_cons sh_int (shs_cons h_y1_1 (shs_cons sh_int (shs_cons h_y1_3 (shs_cons sh_int (shs_cons h_y1_5 (shs_cons h_y1_6 (shs_cons h_y1_7 shs_nil)))))))))) ?_
   refine bS (d := dB (!(deq (.agg [dI x1_0, x1_1, dI x1_2, x1_3, dI x1_4, x1_5, x1_6, x1_7]) (.agg [dI y1_0, y1_1, dI y1_2, y1_3, dI y1_4, y1_5, y1_6, y1_7])))) sh_not ?_
   refine wp_iteC rfl (fun c2 => ?_) (fun c2 => ?_)
   ·
    skip
    refine wp_retR rfl ?_
    clear hi1 hj1; ((try simp only [deq_leaf, deq_agg, deqs_nil, deqs_cons, veq_int] at c2 ⊢); grind)
   ·
    skip
    refine bS (d := dI ((i1 + 1 : Nat) : Int)) (sh_add hj1) ?_
    refine wp_jumpR rfl ?_
    clear hi1 hj1; ((try simp only [deq_leaf, deq_agg, deqs_nil, deqs_cons, veq_int] at c2 ⊢); grind)
  ·
   show wp _ _ _ u60T1 _
   refine bS sh_lss ?_
   refine wp_iteB rfl ?_
   rw [lt_false]
   refine ite_f ?_
   refine wp_retTo (d' := dB (true)) rfl (db_congr ?_)
   ((try simp only [deq_leaf, deq_agg, deqs_nil, deqs_cons, veq_int, veq_bool, veq_str] at q1 ⊢); grind)
theorem h100 {a b : D} {g : Nat} (h_a : HasSh (.sl 31 1 zL) a) (h_b : HasSh (.sl 31 1 zL) b) (hp : ∀ x y, HasSh zL x → HasSh zL y → Holds EE g [x, y] (dB (deq x y))) : Holds EE 100 [a, b, .clo (.func g) [] []] (dB (deq a b)) := by
 refine u100 rfl (Goes.step' ?_)
 have i_a := isSl_of h_a
 have i_b := isSl_of h_b
 show wp _ _ _ u100T0 _
 refine bS (d := dI ((a.es.length : Nat) : Int)) (sh_len i_a) ?_
 refine bS (d := dI ((b.es.length : Nat) : Int)) (sh_len i_b) ?_
 refine bS sh_neq ?_
 refine wp_iteC rfl (fun c0 => ?_) (fun c0 => ?_)
 ·
  have q0 := deq_len i_a i_b (len_ne c0)
  refine wp_retTo (d' := dB (false)) rfl (db_congr ?_)
  ((try simp only [deq_leaf, deq_agg, deqs_nil, deqs_cons, veq_int, veq_bool, veq_str] at q0 ⊢); grind)
 ·
  have l_a_b := len_of c0
  refine bS (d := dI ((a.es.length : Nat) : Int)) (sh_len i_a) ?_
  refine wp_jumpTo rfl ?_
  refine loop_eq2 (ρ := fun i1 => [b, (.clo (.func g) [] []), a, dI ((a.es.length : Nat) : Int), dI ((i1 : Nat) : Int)]) i_a i_b l_a_b (fun q1 => ?_) ?_ (fun q1 => ?_)
  ·
   ((try simp only [deq_leaf, deq_agg, deqs_nil, deqs_cons, veq_int, veq_bool, veq_str] at q1 ⊢); grind)
  ·
   intro i1 x1 y1 e_x1 e_y1 hi1 hj1
   have h_x1 := elem_of h_a e_x1
   have i_x1 := isSl_of h_x1
   have h_y1 := elem_of h_b e_y1
   have i_y1 := isSl_of h_y1
   show wp _ _ _ u100T1 _
   refine bS sh_lss ?_
   refine wp_iteB rfl ?_
   rw [lt_true (show i1 < a.es.length by omega)]
   refine ite_t ?_
   refine bS (d := dB (true)) (sh_inr e_x1) ?_
   refine bS (d := x1) (sh_elem1 i_a e_x1 i_x1.one) ?_
   refine bS (d := dB (true)) (sh_inr e_y1) ?_
   refine bS (d := y1) (sh_elem1 i_b e_y1 i_y1.one) ?_
   refine cS (d := dB (deq (x1) (y1))) (hp _ _ h_x1 h_y1) ?_
   refine bS (d := dB (!(deq (x1) (y1)))) sh_not ?_
   refine wp_iteC rfl (fun c2 => ?_) (fun c2 => ?_)
   ·
    skip
    refine wp_retR rfl ?_
    clear hi1 hj1; ((try simp only [deq_leaf, deq_agg, deqs_nil, deqs_cons, veq_int, veq_bool, veq_str] at c2 ⊢); grind)
   ·
    skip
    refine bS (d := dI ((i1 + 1 : Nat) : Int)) (sh_add hj1) ?_
    refine wp_jumpR rfl ?_
    clear hi1 hj1; ((try simp only [deq_leaf, deq_agg, deqs_nil, deqs_cons, veq_int, veq_bool, veq_str] at c2 ⊢); grind)
  ·
   show wp _ _ _ u100T1 _
   refine bS sh_lss ?_
   refine wp_iteB rfl ?_
   rw [lt_false]
   refine ite_f ?_
   refine wp_retTo (d' := dB (true)) rfl (db_congr ?_)
   ((try simp only [deq_leaf, deq_agg, deqs_nil, deqs_cons, veq_int, veq_bool, veq_str] at q1 ⊢); grind)
theorem h101 {a b : D} (h_a : HasSh (.sl 86 2 (.st [.str, .str])) a) (h_b : HasSh (.sl 86 2 (.st [.str, .str])) b) : Holds EE 101 [a, b] (dB (deq a b)) := by
 refine u101 rfl (Goes.step' ?_)
 have i_a := isSl_of h_a
 have i_b := isSl_of h_b
 show wp _ _ _ u101T0 _
 refine bS (d := dI ((a.es.length : Nat) : Int)) (sh_len i_a) ?_
 refine bS (d := dI ((b.es.length : Nat) : Int)) (sh_len i_b) ?_
 refine bS sh_neq ?_
 refine wp_iteC rfl (fun c0 => ?_) (fun c0 => ?_)
 ·
  have q0 := deq_len i_a i_b (len_ne c0)
  refine wp_retTo (d' := dB (false)) rfl (db_congr ?_)
  ((try simp only [deq_leaf, deq_agg, deqs_nil, deqs_cons, veq_int, veq_bool, veq_str] at q0 ⊢); grind)
 ·
  have l_a_b := len_of c0
  refine bS (d := dI ((a.es.length : Nat) : Int)) (sh_len i_a) ?_
  refine wp_jumpTo rfl ?_
  refine loop_eq2 (ρ := fun i1 => [a, b, dI ((a.es.length : Nat) : Int), dI ((i1 : Nat) : Int)]) i_a i_b l_a_b (fun q1 => ?_) ?_ (fun q1 => ?_)
  ·
   ((try simp only [deq_leaf, deq_agg, deqs_nil, deqs_cons, veq_int, veq_bool, veq_str] at q1 ⊢); grind)
  ·
   intro i1 x1 y1 e_x1 e_y1 hi1 hj1
   obtain ⟨_, rfl, _, _, rfl, ⟨x1_0, rfl⟩, _, _, rfl, ⟨x1_1, rfl⟩, rfl⟩ := elem_of h_a e_x1
   obtain ⟨_, rfl, _, _, rfl, ⟨y1_0, rfl⟩, _, _, rfl, ⟨y1_1, rfl⟩, rfl⟩ := elem_of h_b e_y1
   show wp _ _ _ u101T1 _
   refine bS sh_lss ?_
   refine wp_iteB rfl ?_
   rw [lt_true (show i1 < a.es.length by omega)]
   refine ite_t ?_
   refine bS (d := dB (true)) (sh_inr e_x1) ?_
   refine bS (d := .agg [.leaf (.string x1_0), .leaf (.string x1_1)]) (sh_elemW i_a e_x1 rfl) ?_
   refine bS (d := dB (true)) (sh_inr e_y1) ?_
   refine bS (d := .agg [.leaf (.string y1_0), .leaf (.string y1_1)]) (sh_elemW i_b e_y1 rfl) ?_
   refine bS (d := dB (!(deqs [.leaf (.string x1_0), .leaf (.string x1_1)] [.leaf (.string y1_0), .leaf (.string y1_1)]))) (sh_cmpS .neq (.inl rfl) ty86 st86 le4 gu86 rfl (shs_cons sh_str (shs_cons sh_str shs_nil)) (shs_cons sh_str (shs_cons sh_str shs_nil))) ?_
   refine wp_iteC rfl (fun c2 => ?_) (fun c2 => ?_)
   ·
    skip
    refine wp_retR rfl ?_
    clear hi1 hj1; ((try simp only [deq_leaf, deq_agg, deqs_nil, deqs_cons, veq_str] at c2 ⊢); grind)
   ·
    skip
    refine bS (d := dI ((i1 + 1 : Nat) : Int)) (sh_add hj1) ?_
    refine wp_jumpR rfl ?_
    clear hi1 hj1; ((try simp only [deq_leaf, deq_agg, deqs_nil, deqs_cons, veq_str] at c2 ⊢); grind)
  ·
   show wp _ _ _ u101T1 _
   refine bS sh_lss ?_
   refine wp_iteB rfl ?_
   rw [lt_false]
   refine ite_f ?_
   refine wp_retTo (d' := dB (true)) rfl (db_congr ?_)
   ((try simp only [deq_leaf, deq_agg, deqs_nil, deqs_cons, veq_int, veq_bool, veq_str] at q1 ⊢); grind)
theorem h102 {a b : D} (h_a : HasSh (.sl 59 2 (.st [.int .i64, .int .i64])) a) (h_b : HasSh (.sl 59 2 (.st [.int .i64, .int .i64])) b) : Holds EE 102 [a, b] (dB (deq a b)) := by
 refine u102 rfl (Goes.step' ?_)
 have i_a := isSl_of h_a
 have i_b := isSl_of h_b
 show wp _ _ _ u102T0 _
 refine bS (d := dI ((a.es.length : Nat) : Int)) (sh_len i_a) ?_
 refine bS (d := dI ((b.es.length : Nat) : Int)) (sh_len i_b) ?_
 refine bS sh_neq ?_
 refine wp_iteC rfl (fun c0 => ?_) (fun c0 => ?_)
 ·
  have q0 := deq_len i_a i_b (len_ne c0)
  refine wp_retTo (d' := dB (false)) rfl (db_congr ?_)
  ((try simp only [deq_leaf, deq_agg, deqs_nil, deqs_cons, veq_int, veq_bool, veq_str] at q0 ⊢); grind)
 ·
  have l_a_b := len_of c0
  refine bS (d := dI ((a.es.length : Nat) : Int)) (sh_len i_a) ?_
  refine wp_jumpTo rfl ?_
  refine loop_eq2 (ρ := fun i1 => [a, b, dI ((a.es.length : Nat) : Int), dI ((i1 : Nat) : Int)]) i_a i_b l_a_b (fun q1 => ?_) ?_ (fun q1 => ?_)
  ·
   ((try simp only [deq_leaf, deq_agg, deqs_nil, deqs_cons, veq_int, veq_bool, veq_str] at q1 ⊢); grind)
  ·
   intro i1 x1 y1 e_x1 e_y1 hi1 hj1
   obtain ⟨_, rfl, _, _, rfl, ⟨x1_0, rfl⟩, _, _, rfl, ⟨x1_1, rfl⟩, rfl⟩ := elem_of h_a e_x1
   obtain ⟨_, rfl, _, _, rfl, ⟨y1_0, rfl⟩, _, _, rfl, ⟨y1_1, rfl⟩, rfl⟩ := elem_of h_b e_y1
   show wp _ _ _ u102T1 _
   refine bS sh_lss ?_
   refine wp_iteB rfl ?_
   rw [lt_true (show i1 < a.es.length by omega)]
   refine ite_t ?_
   refine bS (d := dB (true)) (sh_inr e_x1) ?_
   refine bS (d := .agg [dI x1_0, dI x1_1]) (sh_elemW i_a e_x1 rfl) ?_
   refine bS (d := dB (true)) (sh_inr e_y1) ?_
   refine bS (d := .agg [dI y1_0, dI y1_1]) (sh_elemW i_b e_y1 rfl) ?_
   refine bS (d := dB (!(deqs [dI x1_0, dI x1_1] [dI y1_0, dI y1_1]))) (sh_cmpS .neq (.inl rfl) ty59 st59 le4 gu59 rfl (shs_cons sh_int (shs_cons sh_int shs_nil)) (shs_cons sh_int (shs_cons sh_int shs_nil))) ?_
   refine wp_iteC rfl (fun c2 => ?_) (fun c2 => ?_)
   ·
    skip
    refine wp_retR rfl ?_
    clear hi1 hj1; ((try simp only [deq_leaf, deq_agg, deqs_nil, deqs_cons, veq_int] at c2 ⊢); grind)
   ·
    skip
    refine bS (d := dI ((i1 + 1 : Nat) : Int)) (sh_add hj1) ?_
    refine wp_jumpR rfl ?_
    clear hi1 hj1; ((try simp only [deq_leaf, deq_agg, deqs_nil, deqs_cons, veq_int] at c2 ⊢); grind)
  ·
   show wp _ _ _ u102T1 _
   refine bS sh_lss ?_
   refine wp_iteB rfl ?_
   rw [lt_false]
   refine ite_f ?_
   refine wp_retTo (d' := dB (true)) rfl (db_congr ?_)
   ((try simp only [deq_leaf, deq_agg, deqs_nil, deqs_cons, veq_int, veq_bool, veq_str] at q1 ⊢); grind)
theorem h103 {a b : D} (h_a : HasSh (.sl 116 2 (.st [.int .i64, .int .i64])) a) (h_b : HasSh (.sl 116 2 (.st [.int .i64, .int .i64])) b) : Holds EE 103 [a, b] (dB (deq a b)) := by
 refine u103 rfl (Goes.step' ?_)
 have i_a := isSl_of h_a
 have i_b := isSl_of h_b
 show wp _ _ _ u103T0 _
 refine bS (d := dI ((a.es.length : Nat) : Int)) (sh_len i_a) ?_
 refine bS (d := dI ((b.es.length : Nat) : Int)) (sh_len i_b) ?_
 refine bS sh_neq ?_
 refine wp_iteC rfl (fun c0 => ?_) (fun c0 => ?_)
 ·
  have q0 := deq_len i_a i_b (len_ne c0)
  refine wp_retTo (d' := dB (false)) rfl (db_congr ?_)
  ((try simp only [deq_leaf, deq_agg, deqs_nil, deqs_cons, veq_int, veq_bool, veq_str] at q0 ⊢); grind)
 ·
  have l_a_b := len_of c0
  refine bS (d := dI ((a.es.length : Nat) : Int)) (sh_len i_a) ?_
  refine wp_jumpTo rfl ?_
  refine loop_eq2 (ρ := fun i1 => [a, b, dI ((a.es.length : Nat) : Int), dI ((i1 : Nat) : Int)]) i_a i_b l_a_b (fun q1 => ?_) ?_ (fun q1 => ?_)
  ·
   ((try simp only [deq_leaf, deq_agg, deqs_nil, deqs_cons, veq_int, veq_bool, veq_str] at q1 ⊢); grind)
  ·
   intro i1 x1 y1 e_x1 e_y1 hi1 hj1
   obtain ⟨_, rfl, _, _, rfl, ⟨x1_0, rfl⟩, _, _, rfl, ⟨x1_1, rfl⟩, rfl⟩ := elem_of h_a e_x1
   obtain ⟨_, rfl, _, _, rfl, ⟨y1_0, rfl⟩, _, _, rfl, ⟨y1_1, rfl⟩, rfl⟩ := elem_of h_b e_y1
   show wp _ _ _ u103T1 _
   refine bS sh_lss ?_
   refine wp_iteB rfl ?_
   rw [lt_true (show i1 < a.es.length by omega)]
   refine ite_t ?_
   refine bS (d := dB (true)) (sh_inr e_x1) ?_
   refine bS (d := .agg [dI x1_0, dI x1_1]) (sh_elemW i_a e_x1 rfl) ?_
   refine bS (d := dB (true)) (sh_inr e_y1) ?_
   refine bS (d := .agg [dI y1_0, dI y1_1]) (sh_elemW i_b e_y1 rfl) ?_
   refine bS (d := dB (!(deqs [dI x1_0, dI x1_1] [dI y1_0, dI y1_1]))) (sh_cmpS .neq (.inl rfl) ty116 st116 le4 gu116 rfl (shs_cons sh_int (shs_cons sh_int shs_nil)) (shs_cons sh_int (shs_cons sh_int shs_nil))) ?_
   refine wp_iteC rfl (fun c2 => ?_) (fun c2 => ?_)
   ·
    skip
    refine wp_retR rfl ?_
    clear hi1 hj1; ((try simp only [deq_leaf, deq_agg, deqs_nil, deqs_cons, veq_int] at c2 ⊢); grind)
   ·
    skip
    refine bS (d := dI ((i1 + 1 : Nat) : Int)) (sh_add hj1) ?_
    refine wp_jumpR rfl ?_
    clear hi1 hj1; ((try simp only [deq_leaf, deq_agg, deqs_nil, deqs_cons, veq_int] at c2 ⊢); grind)
  ·
   show wp _ _ _ u103T1 _
   refine bS sh_lss ?_
   refine wp_iteB rfl ?_
   rw [lt_false]
   refine ite_f ?_
   refine wp_retTo (d' := dB (true)) rfl (db_congr ?_)
   ((try simp only [deq_leaf, deq_agg, deqs_nil, deqs_cons, veq_int, veq_bool, veq_str] at q1 ⊢); grind)
theorem h61 {a b : D} (h_a : HasSh zE a) (h_b : HasSh zE b) : Holds EE 61 [a, b] (dB (deq a b)) := by
 refine u61 rfl (Goes.step' ?_)
 obtain ⟨_, rfl, _, _, rfl, ⟨a_0, rfl⟩, a_1, _, rfl, h_a_1, _, _, rfl, ⟨a_2, rfl⟩, a_3, _, rfl, h_a_3, _, _, rfl, ⟨a_4, rfl⟩, a_5, _, rfl, h_a_5, a_6, _, rfl, h_a_6, a_7, _, rfl, h_a_7, rfl⟩ := h_a
 have i_a_1 := isSl_of h_a_1
 have i_a_3 := isSl_of h_a_3
 have i_a_5 := isSl_of h_a_5
 have i_a_6 := isSl_of h_a_6
 have i_a_7 := isSl_of h_a_7
 obtain ⟨_, rfl, _, _, rfl, ⟨b_0, rfl⟩, b_1, _, rfl, h_b_1, _, _, rfl, ⟨b_2, rfl⟩, b_3, _, rfl, h_b_3, _, _, rfl, ⟨b_4, rfl⟩, b_5, _, rfl, h_b_5, b_6, _, rfl, h_b_6, b_7, _, rfl, h_b_7, rfl⟩ := h_b
 have i_b_1 := isSl_of h_b_1
 have i_b_3 := isSl_of h_b_3
 have i_b_5 := isSl_of h_b_5
 have i_b_6 := isSl_of h_b_6
 have i_b_7 := isSl_of h_b_7
 show wp _ _ _ u61T0 _
 refine bS (d := .agg [dI a_0, a_1, dI a_2, a_3, dI a_4, a_5, a_6, a_7]) (sh_chkW rfl) ?_
 refine bS (d := .agg [dI b_0, b_1, dI b_2, b_3, dI b_4, b_5, b_6, b_7]) (sh_chkW rfl) ?_
 refine bS (d := dI a_0) (sh_fld1 rfl rfl) ?_
 refine bS (d := dI b_0) (sh_fld1 rfl rfl) ?_
 refine bS (d := dB (a_0 != b_0)) sh_neq ?_
 refine wp_iteC rfl (fun c0 => ?_) (fun c0 => ?_)
 ·
  skip
  refine wp_retTo (d' := dB (false)) rfl (db_congr ?_)
  ((try simp only [deq_leaf, deq_agg, deqs_nil, deqs_cons, veq_int] at c0 ⊢); grind)
 ·
  skip
  refine bS (d := dI a_2) (sh_fld1 rfl rfl) ?_
  refine bS (d := dI b_2) (sh_fld1 rfl rfl) ?_
  refine bS (d := dB (a_2 != b_2)) sh_neq ?_
  refine wp_iteC rfl (fun c1 => ?_) (fun c1 => ?_)
  ·
   skip
   refine wp_retTo (d' := dB (false)) rfl (db_congr ?_)
   ((try simp only [deq_leaf, deq_agg, deqs_nil, deqs_cons, veq_int] at c1 c0 ⊢); grind)
  ·
   skip
   refine bS (d := dI a_4) (sh_fld1 rfl rfl) ?_
   refine bS (d := dI b_4) (sh_fld1 rfl rfl) ?_
   refine bS (d := dB (a_4 != b_4)) sh_neq ?_
   refine wp_iteC rfl (fun c2 => ?_) (fun c2 => ?_)
   ·
    skip
    refine wp_retTo (d' := dB (false)) rfl (db_congr ?_)
    ((try simp only [deq_leaf, deq_agg, deqs_nil, deqs_cons, veq_int] at c2 c1 c0 ⊢); grind)
   ·
    skip
    refine bS (d := a_1) (sh_fld1 rfl i_a_1.one) ?_
    refine bS (d := b_1) (sh_fld1 rfl i_b_1.one) ?_
    refine cS (d := dB (deq (a_1) (b_1))) (h53 h_a_1 h_b_1) ?_
    refine bS (d := dB (!(deq (a_1) (b_1)))) sh_not ?_
    refine wp_iteC rfl (fun c3 => ?_) (fun c3 => ?_)
    ·
     skip
     refine wp_retTo (d' := dB (false)) rfl (db_congr ?_)
     ((try simp only [deq_leaf, deq_agg, deqs_nil, deqs_cons, veq_int] at c3 c2 c1 c0 ⊢); grind)
    ·
     skip
     refine bS (d := a_3) (sh_fld1 rfl i_a_3.one) ?_
     refine bS (d := b_3) (sh_fld1 rfl i_b_3.one) ?_
     refine cS (d := dB (deq (a_3) (b_3))) (h100 h_a_3 h_b_3 (fun x y hx hy => h53 hx hy)) ?_
     refine wp_iteC rfl (fun c4 => ?_) (fun c4 => ?_)
     ·
      skip
      refine bS (d := a_5) (sh_fld1 rfl i_a_5.one) ?_
      refine bS (d := b_5) (sh_fld1 rfl i_b_5.one) ?_
      refine cS (d := dB (deq (a_5) (b_5))) (h101 h_a_5 h_b_5) ?_
      refine wp_iteC rfl (fun c5 => ?_) (fun c5 => ?_)
      ·
       skip
       refine bS (d := a_6) (sh_fld1 rfl i_a_6.one) ?_
       refine bS (d := b_6) (sh_fld1 rfl i_b_6.one) ?_
       refine cS (d := dB (deq (a_6) (b_6))) (h102 h_a_6 h_b_6) ?_
       refine wp_iteC rfl (fun c6 => ?_) (fun c6 => ?_)
       ·
        skip
        refine bS (d := a_7) (sh_fld1 rfl i_a_7.one) ?_
        refine bS (d := b_7) (sh_fld1 rfl i_b_7.one) ?_
        refine cS (d := dB (deq (a_7) (b_7))) (h103 h_a_7 h_b_7) ?_
        refine wp_retTo (d' := dB (deq (a_7) (b_7))) rfl (db_congr ?_)
        ((try simp only [deq_leaf, deq_agg, deqs_nil, deqs_cons, veq_int] at c6 c5 c4 c3 c2 c1 c0 ⊢); grind)
       ·
        skip
        refine wp_retTo (d' := dB (false)) rfl (db_congr ?_)
        ((try simp only [deq_leaf, deq_agg, deqs_nil, deqs_cons, veq_int] at c6 c5 c4 c3 c2 c1 c0 ⊢); grind)
      ·
       skip
       refine wp_retTo (d' := dB (false)) rfl (db_congr ?_)
       ((try simp only [deq_leaf, deq_agg, deqs_nil, deqs_cons, veq_int] at c5 c4 c3 c2 c1 c0 ⊢); grind)
     ·
      skip
      refine wp_retTo (d' := dB (false)) rfl (db_congr ?_)
      ((try simp only [deq_leaf, deq_agg, deqs_nil, deqs_cons, veq_int] at c4 c3 c2 c1 c0 ⊢); grind)
theorem h23 {a b : D} (h_a : HasSh zEs a) (h_b : HasSh zEs b) : Holds EE 23 [a, b] (dB (deq a b)) := by
 refine u23 rfl (Goes.step' ?_)
 have i_a := isSl_of h_a
 have i_b := isSl_of h_b
 show wp _ _ _ u23T0 _
 refine cS (d := dB (deq (a) (b))) (h60 h_a h_b (fun x y hx hy => h61 hx hy)) ?_
 refine wp_retTo (d' := dB (deq (a) (b))) rfl (db_congr ?_)
 (first | rfl | ((try simp only [deq_leaf, deq_agg, deqs_nil, deqs_cons, veq_int, veq_bool, veq_str]); first | rfl | grind))
theorem h6 {a b : D} (h_a : HasSh zG a) (h_b : HasSh zG b) : Holds EE 6 [a, b] (dB (deq a b)) := by
 refine u6 rfl (Goes.step' ?_)
 obtain ⟨_, rfl, a_0, _, rfl, h_a_0, _, _, rfl, ⟨a_1, rfl⟩, a_2, _, rfl, h_a_2, a_3, _, rfl, h_a_3, a_4, _, rfl, h_a_4, _, _, rfl, ⟨a_5, rfl⟩, a_6, _, rfl, h_a_6, a_7, _, rfl, h_a_7, a_8, _, rfl, h_a_8, rfl⟩ := h_a
 have i_a_0 := isSl_of h_a_0
 have i_a_2 := isSl_of h_a_2
 have i_a_3 := isSl_of h_a_3
 have i_a_4 := isSl_of h_a_4
 have i_a_6 := isSl_of h_a_6
 have i_a_7 := isSl_of h_a_7
 have i_a_8 := isSl_of h_a_8
 obtain ⟨_, rfl, b_0, _, rfl, h_b_0, _, _, rfl, ⟨b_1, rfl⟩, b_2, _, rfl, h_b_2, b_3, _, rfl, h_b_3, b_4, _, rfl, h_b_4, _, _, rfl, ⟨b_5, rfl⟩, b_6, _, rfl, h_b_6, b_7, _, rfl, h_b_7, b_8, _, rfl, h_b_8, rfl⟩ := h_b
 have i_b_0 := isSl_of h_b_0
 have i_b_2 := isSl_of h_b_2
 have i_b_3 := isSl_of h_b_3
 have i_b_4 := isSl_of h_b_4
 have i_b_6 := isSl_of h_b_6
 have i_b_7 := isSl_of h_b_7
 have i_b_8 := isSl_of h_b_8
 show wp _ _ _ u6T0 _
 refine bS (d := .agg [a_0, .leaf (.string a_1), a_2, a_3, a_4, dI a_5, a_6, a_7, a_8]) (sh_chkW rfl) ?_
 refine bS (d := .agg [b_0, .leaf (.string b_1), b_2, b_3, b_4, dI b_5, b_6, b_7, b_8]) (sh_chkW rfl) ?_
 refine bS (d := a_0) (sh_fld1 rfl i_a_0.one) ?_
 refine bS (d := b_0) (sh_fld1 rfl i_b_0.one) ?_
 refine cS (d := dB (deq (a_0) (b_0))) (h18 h_a_0 h_b_0) ?_
 refine wp_iteC rfl (fun c0 => ?_) (fun c0 => ?_)
 ·
  skip
  refine bS (d := .agg [.leaf (.string a_1), a_2, a_3]) (sh_fldA rfl) ?_
  refine bS (d := .agg [.leaf (.string b_1), b_2, b_3]) (sh_fldA rfl) ?_
  refine cS (d := dB (deq (.agg [.leaf (.string a_1), a_2, a_3]) (.agg [.leaf (.string b_1), b_2, b_3]))) (h19 (sh_st (shs_cons sh_str (shs_cons h_a_2 (shs_cons h_a_3 shs_nil)))) (sh_st (shs_cons sh_str (shs_cons h_b_2 (shs_cons h_b_3 shs_nil))))) ?_
  refine wp_iteC rfl (fun c1 => ?_) (fun c1 => ?_)
  ·
   skip
   refine bS (d := a_4) (sh_fld1 rfl i_a_4.one) ?_
   refine bS (d := b_4) (sh_fld1 rfl i_b_4.one) ?_
   refine cS (d := dB (deq (a_4) (b_4))) (h20 h_a_4 h_b_4 (fun x y hx hy => h21 hx hy)) ?_
   refine wp_iteC rfl (fun c2 => ?_) (fun c2 => ?_)
   ·
    skip
    refine bS (d := .agg [dI a_5, a_6, a_7]) (sh_fldA rfl) ?_
    refine bS (d := .agg [dI b_5, b_6, b_7]) (sh_fldA rfl) ?_
    refine cS (d := dB (deq (.agg [dI a_5, a_6, a_7]) (.agg [dI b_5, b_6, b_7]))) (h22 (sh_st (shs_cons sh_int (shs_cons h_a_6 (shs_cons h_a_7 shs_nil)))) (sh_st (shs_cons sh_int (shs_cons h_b_6 (shs_cons h_b_7 shs_nil))))) ?_
    refine wp_iteC rfl (fun c3 => ?_) (fun c3 => ?_)
    ·
     skip
     refine bS (d := a_8) (sh_fld1 rfl i_a_8.one) ?_
     refine bS (d := b_8) (sh_fld1 rfl i_b_8.one) ?_
     refine cS (d := dB (deq (a_8) (b_8))) (h23 h_a_8 h_b_8) ?_
     refine wp_retTo (d' := dB (deq (a_8) (b_8))) rfl (db_congr ?_)
     ((try simp only [deq_leaf, deq_agg, deqs_nil, deqs_cons, veq_int, veq_str] at c3 c2 c1 c0 ⊢); grind)
    ·
     skip
     refine wp_retTo (d' := dB (false)) rfl (db_congr ?_)
     ((try simp only [deq_leaf, deq_agg, deqs_nil, deqs_cons, veq_int, veq_str] at c3 c2 c1 c0 ⊢); grind)
   ·
    skip
    refine wp_retTo (d' := dB (false)) rfl (db_congr ?_)
    ((try simp only [deq_leaf, deq_agg, deqs_nil, deqs_cons, veq_int, veq_str] at c2 c1 c0 ⊢); grind)
  ·
   skip
   refine wp_retTo (d' := dB (false)) rfl (db_congr ?_)
   ((try simp only [deq_leaf, deq_agg, deqs_nil, deqs_cons, veq_int, veq_str] at c1 c0 ⊢); grind)
 ·
  skip
  refine wp_retTo (d' := dB (false)) rfl (db_congr ?_)
  ((try simp only [deq_leaf, deq_agg, deqs_nil, deqs_cons, veq_int, veq_str] at c0 ⊢); grind)
theorem h62 {a b : D} (h_a : HasSh zL a) (h_b : HasSh zL b) : Holds EE 62 [a, b] (dB (deq a b)) := by
 refine u62 rfl (Goes.step' ?_)
 have i_a := isSl_of h_a
 have i_b := isSl_of h_b
 show wp _ _ _ u62T0 _
 refine bS (d := dI ((a.es.length : Nat) : Int)) (sh_len i_a) ?_
 refine bS (d := dI ((b.es.length : Nat) : Int)) (sh_len i_b) ?_
 refine bS sh_neq ?_
 refine wp_iteC rfl (fun c0 => ?_) (fun c0 => ?_)
 ·
  have q0 := deq_len i_a i_b (len_ne c0)
  refine wp_retTo (d' := dB (false)) rfl (db_congr ?_)
  ((try simp only [deq_leaf, deq_agg, deqs_nil, deqs_cons, veq_int, veq_bool, veq_str] at q0 ⊢); grind)
 ·
  have l_a_b := len_of c0
  refine bS (d := dI ((a.es.length : Nat) : Int)) (sh_len i_a) ?_
  refine wp_jumpTo rfl ?_
  refine loop_eq2 (ρ := fun i1 => [a, b, dI ((a.es.length : Nat) : Int), dI ((i1 : Nat) : Int)]) i_a i_b l_a_b (fun q1 => ?_) ?_ (fun q1 => ?_)
  ·
   ((try simp only [deq_leaf, deq_agg, deqs_nil, deqs_cons, veq_int, veq_bool, veq_str] at q1 ⊢); grind)
  ·
   intro i1 x1 y1 e_x1 e_y1 hi1 hj1
   obtain ⟨x1, rfl⟩ := elem_of h_a e_x1
   obtain ⟨y1, rfl⟩ := elem_of h_b e_y1
   show wp _ _ _ u62T1 _
   refine bS sh_lss ?_
   refine wp_iteB rfl ?_
   rw [lt_true (show i1 < a.es.length by omega)]
   refine ite_t ?_
   refine bS (d := dB (true)) (sh_inr e_x1) ?_
   refine bS (d := dI x1) (sh_elem1 i_a e_x1 rfl) ?_
   refine bS (d := dB (true)) (sh_inr e_y1) ?_
   refine bS (d := dI y1) (sh_elem1 i_b e_y1 rfl) ?_
   refine bS (d := dB (x1 != y1)) sh_neq ?_
   refine wp_iteC rfl (fun c2 => ?_) (fun c2 => ?_)
   ·
    skip
    refine wp_retR rfl ?_
    clear hi1 hj1; ((try simp only [deq_leaf, veq_int] at c2 ⊢); grind)
   ·
    skip
    refine bS (d := dI ((i1 + 1 : Nat) : Int)) (sh_add hj1) ?_
    refine wp_jumpR rfl ?_
    clear hi1 hj1; ((try simp only [deq_leaf, veq_int] at c2 ⊢); grind)
  ·
   show wp _ _ _ u62T1 _
   refine bS sh_lss ?_
   refine wp_iteB rfl ?_
   rw [lt_false]
   refine ite_f ?_
   refine wp_retTo (d' := dB (true)) rfl (db_congr ?_)
   ((try simp only [deq_leaf, deq_agg, deqs_nil, deqs_cons, veq_int, veq_bool, veq_str] at q1 ⊢); grind)
theorem h25 {a b : D} (h_a : HasSh zE a) (h_b : HasSh zE b) : Holds EE 25 [a, b] (dB (deq a b)) := by
 refine u25 rfl (Goes.step' ?_)
 obtain ⟨_, rfl, _, _, rfl, ⟨a_0, rfl⟩, a_1, _, rfl, h_a_1, _, _, rfl, ⟨a_2, rfl⟩, a_3, _, rfl, h_a_3, _, _, rfl, ⟨a_4, rfl⟩, a_5, _, rfl, h_a_5, a_6, _, rfl, h_a_6, a_7, _, rfl, h_a_7, rfl⟩ := h_a
 have i_a_1 := isSl_of h_a_1
 have i_a_3 := isSl_of h_a_3
 have i_a_5 := isSl_of h_a_5
 have i_a_6 := isSl_of h_a_6
 have i_a_7 := isSl_of h_a_7
 obtain ⟨_, rfl, _, _, rfl, ⟨b_0, rfl⟩, b_1, _, rfl, h_b_1, _, _, rfl, ⟨b_2, rfl⟩, b_3, _, rfl, h_b_3, _, _, rfl, ⟨b_4, rfl⟩, b_5, _, rfl, h_b_5, b_6, _, rfl, h_b_6, b_7, _, rfl, h_b_7, rfl⟩ := h_b
 have i_b_1 := isSl_of h_b_1
 have i_b_3 := isSl_of h_b_3
 have i_b_5 := isSl_of h_b_5
 have i_b_6 := isSl_of h_b_6
 have i_b_7 := isSl_of h_b_7
 show wp _ _ _ u25T0 _
 refine bS (d := .agg [dI a_0, a_1, dI a_2, a_3, dI a_4, a_5, a_6, a_7]) (sh_chkW rfl) ?_
 refine bS (d := .agg [dI b_0, b_1, dI b_2, b_3, dI b_4, b_5, b_6, b_7]) (sh_chkW rfl) ?_
 refine bS (d := dI a_0) (sh_fld1 rfl rfl) ?_
 refine bS (d := dI b_0) (sh_fld1 rfl rfl) ?_
 refine bS (d := dB (a_0 != b_0)) sh_neq ?_
 refine wp_iteC rfl (fun c0 => ?_) (fun c0 => ?_)
 ·
  skip
  refine wp_retTo (d' := dB (false)) rfl (db_congr ?_)
  ((try simp only [deq_leaf, deq_agg, deqs_nil, deqs_cons, veq_int] at c0 ⊢); grind)
 ·
  skip
  refine bS (d := dI a_2) (sh_fld1 rfl rfl) ?_
  refine bS (d := dI b_2) (sh_fld1 rfl rfl) ?_
  refine bS (d := dB (a_2 != b_2)) sh_neq ?_
  refine wp_iteC rfl (fun c1 => ?_) (fun c1 => ?_)
  ·
   skip
   refine wp_retTo (d' := dB (false)) rfl (db_congr ?_)
   ((try simp only [deq_leaf, deq_agg, deqs_nil, deqs_cons, veq_int] at c1 c0 ⊢); grind)
  ·
   skip
   refine bS (d := dI a_4) (sh_fld1 rfl rfl) ?_
   refine bS (d := dI b_4) (sh_fld1 rfl rfl) ?_
   refine bS (d := dB (a_4 != b_4)) sh_neq ?_
   refine wp_iteC rfl (fun c2 => ?_) (fun c2 => ?_)
   ·
    skip
    refine wp_retTo (d' := dB (false)) rfl (db_congr ?_)
    ((try simp only [deq_leaf, deq_agg, deqs_nil, deqs_cons, veq_int] at c2 c1 c0 ⊢); grind)
   ·
    skip
    refine bS (d := a_1) (sh_fld1 rfl i_a_1.one) ?_
    refine bS (d := b_1) (sh_fld1 rfl i_b_1.one) ?_
    refine cS (d := dB (deq (a_1) (b_1))) (h62 h_a_1 h_b_1) ?_
    refine bS (d := dB (!(deq (a_1) (b_1)))) sh_not ?_
    refine wp_iteC rfl (fun c3 => ?_) (fun c3 => ?_)
    ·
     skip
     refine wp_retTo (d' := dB (false)) rfl (db_congr ?_)
     ((try simp only [deq_leaf, deq_agg, deqs_nil, deqs_cons, veq_int] at c3 c2 c1 c0 ⊢); grind)
    ·
     skip
     refine bS (d := a_3) (sh_fld1 rfl i_a_3.one) ?_
     refine bS (d := dI ((a_3.es.length : Nat) : Int)) (sh_len i_a_3) ?_
     refine bS (d := b_3) (sh_fld1 rfl i_b_3.one) ?_
     refine bS (d := dI ((b_3.es.length : Nat) : Int)) (sh_len i_b_3) ?_
     refine bS sh_neq ?_
     refine wp_iteC rfl (fun c4 => ?_) (fun c4 => ?_)
     ·
      have q4 := deq_len i_a_3 i_b_3 (len_ne c4)
      refine wp_retTo (d' := dB (false)) rfl (db_congr ?_)
      ((try simp only [deq_leaf, deq_agg, deqs_nil, deqs_cons, veq_int] at q4 c3 c2 c1 c0 ⊢); grind)
     ·
      have l_a_3_b_3 := len_of c4
      refine bS (d := a_5) (sh_fld1 rfl i_a_5.one) ?_
      refine bS (d := dI ((a_5.es.length : Nat) : Int)) (sh_len i_a_5) ?_
      refine bS (d := b_5) (sh_fld1 rfl i_b_5.one) ?_
      refine bS (d := dI ((b_5.es.length : Nat) : Int)) (sh_len i_b_5) ?_
      refine bS sh_neq ?_
      refine wp_iteC rfl (fun c5 => ?_) (fun c5 => ?_)
      ·
       have q5 := deq_len i_a_5 i_b_5 (len_ne c5)
       refine wp_retTo (d' := dB (false)) rfl (db_congr ?_)
       ((try simp only [deq_leaf, deq_agg, deqs_nil, deqs_cons, veq_int] at q5 c3 c2 c1 c0 ⊢); grind)
      ·
       have l_a_5_b_5 := len_of c5
       refine bS (d := a_6) (sh_fld1 rfl i_a_6.one) ?_
       refine bS (d := dI ((a_6.es.length : Nat) : Int)) (sh_len i_a_6) ?_
       refine bS (d := b_6) (sh_fld1 rfl i_b_6.one) ?_
       refine bS (d := dI ((b_6.es.length : Nat) : Int)) (sh_len i_b_6) ?_
       refine bS sh_neq ?_
       refine wp_iteC rfl (fun c6 => ?_) (fun c6 => ?_)
       ·
        have q6 := deq_len i_a_6 i_b_6 (len_ne c6)
        refine wp_retTo (d' := dB (false)) rfl (db_congr ?_)
        ((try simp only [deq_leaf, deq_agg, deqs_nil, deqs_cons, veq_int] at q6 c3 c2 c1 c0 ⊢); grind)
       ·
        have l_a_6_b_6 := len_of c6
        refine bS (d := a_7) (sh_fld1 rfl i_a_7.one) ?_
        refine bS (d := dI ((a_7.es.length : Nat) : Int)) (sh_len i_a_7) ?_
        refine bS (d := b_7) (sh_fld1 rfl i_b_7.one) ?_
        refine bS (d := dI ((b_7.es.length : Nat) : Int)) (sh_len i_b_7) ?_
        refine bS sh_neq ?_
        refine wp_iteC rfl (fun c7 => ?_) (fun c7 => ?_)
        ·
         have q7 := deq_len i_a_7 i_b_7 (len_ne c7)
         refine wp_retTo (d' := dB (false)) rfl (db_congr ?_)
         ((try simp only [deq_leaf, deq_agg, deqs_nil, deqs_cons, veq_int] at q7 c3 c2 c1 c0 ⊢); grind)
        ·
         have l_a_7_b_7 := len_of c7
         refine wp_jumpTo rfl ?_
         refine loop_eq2 (ρ := fun i8 => [dI ((i8 : Nat) : Int), .agg [dI a_0, a_1, dI a_2, a_3, dI a_4, a_5, a_6, a_7], .agg [dI b_0, b_1, dI b_2, b_3, dI b_4, b_5, b_6, b_7]]) i_a_3 i_b_3 l_a_3_b_3 (fun q8 => ?_) ?_ (fun q8 => ?_)
         ·
          ((try simp only [deq_leaf, deq_agg, deqs_nil, deqs_cons, veq_int] at q8 c3 c2 c1 c0 ⊢); grind)
         ·
          intro i8 x8 y8 e_x8 e_y8 hi8 hj8
          have h_x8 := elem_of h_a_3 e_x8
          have i_x8 := isSl_of h_x8
          have h_y8 := elem_of h_b_3 e_y8
          have i_y8 := isSl_of h_y8
          show wp _ _ _ u25T1 _
          refine bS (d := a_3) (sh_fld1 rfl i_a_3.one) ?_
          refine bS (d := dI ((a_3.es.length : Nat) : Int)) (sh_len i_a_3) ?_
          refine bS sh_lss ?_
          refine wp_iteB rfl ?_
          rw [lt_true (show i8 < a_3.es.length by omega)]
          refine ite_t ?_
          refine bS (d := a_3) (sh_fld1 rfl i_a_3.one) ?_
          refine bS (d := dB (true)) (sh_inr e_x8) ?_
          refine bS (d := x8) (sh_elem1 i_a_3 e_x8 i_x8.one) ?_
          refine bS (d := b_3) (sh_fld1 rfl i_b_3.one) ?_
          refine bS (d := dB (true)) (sh_inr e_y8) ?_
          refine bS (d := y8) (sh_elem1 i_b_3 e_y8 i_y8.one) ?_
          refine cS (d := dB (deq (x8) (y8))) (h62 h_x8 h_y8) ?_
          refine bS (d := dB (!(deq (x8) (y8)))) sh_not ?_
          refine wp_iteC rfl (fun c9 => ?_) (fun c9 => ?_)
          ·
           skip
           refine wp_retR rfl ?_
           clear hi8 hj8; ((try simp only [deq_leaf, deq_agg, deqs_nil, deqs_cons, veq_int, veq_bool, veq_str] at c9 c3 c2 c1 c0 ⊢); grind)
          ·
           skip
           refine bS (d := dI ((i8 + 1 : Nat) : Int)) (sh_add hj8) ?_
           refine wp_jumpR rfl ?_
           clear hi8 hj8; ((try simp only [deq_leaf, deq_agg, deqs_nil, deqs_cons, veq_int, veq_bool, veq_str] at c9 c3 c2 c1 c0 ⊢); grind)
         ·
          show wp _ _ _ u25T1 _
          refine bS (d := a_3) (sh_fld1 rfl i_a_3.one) ?_
          refine bS (d := dI ((a_3.es.length : Nat) : Int)) (sh_len i_a_3) ?_
          refine bS sh_lss ?_
          refine wp_iteB rfl ?_
          rw [lt_false]
          refine ite_f ?_
          refine wp_jumpTo rfl ?_
          refine loop_eq2 (ρ := fun i9 => [dI ((i9 : Nat) : Int), .agg [dI a_0, a_1, dI a_2, a_3, dI a_4, a_5, a_6, a_7], .agg [dI b_0, b_1, dI b_2, b_3, dI b_4, b_5, b_6, b_7]]) i_a_5 i_b_5 l_a_5_b_5 (fun q9 => ?_) ?_ (fun q9 => ?_)
          ·
           ((try simp only [deq_leaf, deq_agg, deqs_nil, deqs_cons, veq_int] at q9 q8 c3 c2 c1 c0 ⊢); grind)
          ·
           intro i9 x9 y9 e_x9 e_y9 hi9 hj9
           obtain ⟨_, rfl, _, _, rfl, ⟨x9_0, rfl⟩, _, _, rfl, ⟨x9_1, rfl⟩, rfl⟩ := elem_of h_a_5 e_x9
           obtain ⟨_, rfl, _, _, rfl, ⟨y9_0, rfl⟩, _, _, rfl, ⟨y9_1, rfl⟩, rfl⟩ := elem_of h_b_5 e_y9
           show wp _ _ _ u25T2 _
           refine bS (d := a_5) (sh_fld1 rfl i_a_5.one) ?_
           refine bS (d := dI ((a_5.es.length : Nat) : Int)) (sh_len i_a_5) ?_
           refine bS sh_lss ?_
           refine wp_iteB rfl ?_
           rw [lt_true (show i9 < a_5.es.length by omega)]
           refine ite_t ?_
           refine bS (d := a_5) (sh_fld1 rfl i_a_5.one) ?_
           refine bS (d := dB (true)) (sh_inr e_x9) ?_
           refine bS (d := .agg [.leaf (.string x9_0), .leaf (.string x9_1)]) (sh_elemW i_a_5 e_x9 rfl) ?_
           refine bS (d := b_5) (sh_fld1 rfl i_b_5.one) ?_
           refine bS (d := dB (true)) (sh_inr e_y9) ?_
           refine bS (d := .agg [.leaf (.string y9_0), .leaf (.string y9_1)]) (sh_elemW i_b_5 e_y9 rfl) ?_
           refine bS (d := dB (!(deqs [.leaf (.string x9_0), .leaf (.string x9_1)] [.leaf (.string y9_0), .leaf (.string y9_1)]))) (sh_cmpS .neq (.inl rfl) ty86 st86 le4 gu86 rfl (shs_cons sh_str (shs_cons sh_str shs_nil)) (shs_cons sh_str (shs_cons sh_str shs_nil))) ?_
           refine wp_iteC rfl (fun c10 => ?_) (fun c10 => ?_)
           ·
            skip
            refine wp_retR rfl ?_
            clear hi9 hj9; ((try simp only [deq_leaf, deq_agg, deqs_nil, deqs_cons, veq_str] at c10 q8 c3 c2 c1 c0 ⊢); grind)
           ·
            skip
            refine bS (d := dI ((i9 + 1 : Nat) : Int)) (sh_add hj9) ?_
            refine wp_jumpR rfl ?_
            clear hi9 hj9; ((try simp only [deq_leaf, deq_agg, deqs_nil, deqs_cons, veq_str] at c10 q8 c3 c2 c1 c0 ⊢); grind)
          ·
           show wp _ _ _ u25T2 _
           refine bS (d := a_5) (sh_fld1 rfl i_a_5.one) ?_
           refine bS (d := dI ((a_5.es.length : Nat) : Int)) (sh_len i_a_5) ?_
           refine bS sh_lss ?_
           refine wp_iteB rfl ?_
           rw [lt_false]
           refine ite_f ?_
           refine wp_jumpTo rfl ?_
           refine loop_eq2 (ρ := fun i10 => [dI ((i10 : Nat) : Int), .agg [dI a_0, a_1, dI a_2, a_3, dI a_4, a_5, a_6, a_7], .agg [dI b_0, b_1, dI b_2, b_3, dI b_4, b_5, b_6, b_7]]) i_a_6 i_b_6 l_a_6_b_6 (fun q10 => ?_) ?_ (fun q10 => ?_)
           ·
            ((try simp only [deq_leaf, deq_agg, deqs_nil, deqs_cons, veq_int] at q10 q9 q8 c3 c2 c1 c0 ⊢); grind)
           ·
            intro i10 x10 y10 e_x10 e_y10 hi10 hj10
            obtain ⟨_, rfl, _, _, rfl, ⟨x10_0, rfl⟩, _, _, rfl, ⟨x10_1, rfl⟩, rfl⟩ := elem_of h_a_6 e_x10
            obtain ⟨_, rfl, _, _, rfl, ⟨y10_0, rfl⟩, _, _, rfl, ⟨y10_1, rfl⟩, rfl⟩ := elem_of h_b_6 e_y10
            show wp _ _ _ u25T3 _
            refine bS (d := a_6) (sh_fld1 rfl i_a_6.one) ?_
            refine bS (d := dI ((a_6.es.length : Nat) : Int)) (sh_len i_a_6) ?_
            refine bS sh_lss ?_
            refine wp_iteB rfl ?_
            rw [lt_true (show i10 < a_6.es.length by omega)]
            refine ite_t ?_
            refine bS (d := a_6) (sh_fld1 rfl i_a_6.one) ?_
            refine bS (d := dB (true)) (sh_inr e_x10) ?_
            refine bS (d := .agg [dI x10_0, dI x10_1]) (sh_elemW i_a_6 e_x10 rfl) ?_
            refine bS (d := b_6) (sh_fld1 rfl i_b_6.one) ?_
            refine bS (d := dB (true)) (sh_inr e_y10) ?_
            refine bS (d := .agg [dI y10_0, dI y10_1]) (sh_elemW i_b_6 e_y10 rfl) ?_
            refine bS (d := dB (!(deqs [dI x10_0, dI x10_1] [dI y10_0, dI y10_1]))) (sh_cmpS .neq (.inl rfl) ty59 st59 le4 gu59 rfl (shs_cons sh_int (shs_cons sh_int shs_nil)) (shs_cons sh_int (shs_cons sh_int shs_nil))) ?_
            refine wp_iteC rfl (fun c11 => ?_) (fun c11 => ?_)
            ·
             skip
             refine wp_retR rfl ?_
             clear hi10 hj10; ((try simp only [deq_leaf, deq_agg, deqs_nil, deqs_cons, veq_int] at c11 q9 q8 c3 c2 c1 c0 ⊢); grind)
            ·
             skip
             refine bS (d := dI ((i10 + 1 : Nat) : Int)) (sh_add hj10) ?_
             refine wp_jumpR rfl ?_
             clear hi10 hj10; ((try simp only [deq_leaf, deq_agg, deqs_nil, deqs_cons, veq_int] at c11 q9 q8 c3 c2 c1 c0 ⊢); grind)
           ·
            show wp _ _ _ u25T3 _
            refine bS (d := a_6) (sh_fld1 rfl i_a_6.one) ?_
            refine bS (d := dI ((a_6.es.length : Nat) : Int)) (sh_len i_a_6) ?_
            refine bS sh_lss ?_
            refine wp_iteB rfl ?_
            rw [lt_false]
            refine ite_f ?_
            refine wp_jumpTo rfl ?_
            refine loop_eq2 (ρ := fun i11 => [dI ((i11 : Nat) : Int), .agg [dI a_0, a_1, dI a_2, a_3, dI a_4, a_5, a_6, a_7], .agg [dI b_0, b_1, dI b_2, b_3, dI b_4, b_5, b_6, b_7]]) i_a_7 i_b_7 l_a_7_b_7 (fun q11 => ?_) ?_ (fun q11 => ?_)
            ·
             ((try simp only [deq_leaf, deq_agg, deqs_nil, deqs_cons, veq_int] at q11 q10 q9 q8 c3 c2 c1 c0 ⊢); grind)
            ·
             intro i11 x11 y11 e_x11 e_y11 hi11 hj11
             obtain ⟨_, rfl, _, _, rfl, ⟨x11_0, rfl⟩, _, _, rfl, ⟨x11_1, rfl⟩, rfl⟩ := elem_of h_a_7 e_x11
             obtain ⟨_, rfl, _, _, rfl, ⟨y11_0, rfl⟩, _, _, rfl, ⟨y11_1, rfl⟩, rfl⟩ := elem_of h_b_7 e_y11
             show wp _ _ _ u25T4 _
             refine bS (d := a_7) (sh_fld1 rfl i_a_7.one) ?_
             refine bS (d := dI ((a_7.es.length : Nat) : Int)) (sh_len i_a_7) ?_
             refine bS sh_lss ?_
             refine wp_iteB rfl ?_
             rw [lt_true (show i11 < a_7.es.length by omega)]
             refine ite_t ?_
             refine bS (d := a_7) (sh_fld1 rfl i_a_7.one) ?_
             refine bS (d := dB (true)) (sh_inr e_x11) ?_
             refine bS (d := .agg [dI x11_0, dI x11_1]) (sh_elemW i_a_7 e_x11 rfl) ?_
             refine bS (d := b_7) (sh_fld1 rfl i_b_7.one) ?_
             refine bS (d := dB (true)) (sh_inr e_y11) ?_
             refine bS (d := .agg [dI y11_0, dI y11_1]) (sh_elemW i_b_7 e_y11 rfl) ?_
             refine bS (d := dB (!(deqs [dI x11_0, dI x11_1] [dI y11_0, dI y11_1]))) (sh_cmpS .neq (.inl rfl) ty116 st116 le4 gu116 rfl (shs_cons sh_int (shs_cons sh_int shs_nil)) (shs_cons sh_int (shs_cons sh_int shs_nil))) ?_
             refine wp_iteC rfl (fun c12 => ?_) (fun c12 => ?_)
             ·
              skip
              refine wp_retR rfl ?_
              clear hi11 hj11; ((try simp only [deq_leaf, deq_agg, deqs_nil, deqs_cons, veq_int] at c12 q10 q9 q8 c3 c2 c1 c0 ⊢); grind)
             ·
              skip
              refine bS (d := dI ((i11 + 1 : Nat) : Int)) (sh_add hj11) ?_
              refine wp_jumpR rfl ?_
              clear hi11 hj11; ((try simp only [deq_leaf, deq_agg, deqs_nil, deqs_cons, veq_int] at c12 q10 q9 q8 c3 c2 c1 c0 ⊢); grind)
            ·
             show wp _ _ _ u25T4 _
             refine bS (d := a_7) (sh_fld1 rfl i_a_7.one) ?_
             refine bS (d := dI ((a_7.es.length : Nat) : Int)) (sh_len i_a_7) ?_
             refine bS sh_lss ?_
             refine wp_iteB rfl ?_
             rw [lt_false]
             refine ite_f ?_
             refine wp_retTo (d' := dB (true)) rfl (db_congr ?_)
             ((try simp only [deq_leaf, deq_agg, deqs_nil, deqs_cons, veq_int] at q11 q10 q9 q8 c3 c2 c1 c0 ⊢); grind)
theorem h26 {a b : D} (h_a : HasSh zO a) (h_b : HasSh zO b) : Holds EE 26 [a, b] (dB (deq a b)) := by
 refine u26 rfl (Goes.step' ?_)
 obtain ⟨_, rfl, _, _, rfl, ⟨a_0, rfl⟩, a_1, _, rfl, h_a_1, a_2, _, rfl, h_a_2, rfl⟩ := h_a
 have i_a_1 := isSl_of h_a_1
 have i_a_2 := isSl_of h_a_2
 obtain ⟨_, rfl, _, _, rfl, ⟨b_0, rfl⟩, b_1, _, rfl, h_b_1, b_2, _, rfl, h_b_2, rfl⟩ := h_b
 have i_b_1 := isSl_of h_b_1
 have i_b_2 := isSl_of h_b_2
 show wp _ _ _ u26T0 _
 refine bS (d := .agg [.leaf (.string a_0), a_1, a_2]) (sh_chkW rfl) ?_
 refine bS (d := .agg [.leaf (.string b_0), b_1, b_2]) (sh_chkW rfl) ?_
 refine bS (d := .leaf (.string a_0)) (sh_fld1 rfl rfl) ?_
 refine bS (d := .leaf (.string b_0)) (sh_fld1 rfl rfl) ?_
 refine bS (d := dB (!(a_0 == b_0))) sh_strN ?_
 refine wp_iteC rfl (fun c0 => ?_) (fun c0 => ?_)
 ·
  skip
  refine wp_retTo (d' := dB (false)) rfl (db_congr ?_)
  ((try simp only [deq_leaf, deq_agg, deqs_nil, deqs_cons, veq_str] at c0 ⊢); grind)
 ·
  skip
  refine bS (d := a_1) (sh_fld1 rfl i_a_1.one) ?_
  refine bS (d := dI ((a_1.es.length : Nat) : Int)) (sh_len i_a_1) ?_
  refine bS (d := b_1) (sh_fld1 rfl i_b_1.one) ?_
  refine bS (d := dI ((b_1.es.length : Nat) : Int)) (sh_len i_b_1) ?_
  refine bS sh_neq ?_
  refine wp_iteC rfl (fun c1 => ?_) (fun c1 => ?_)
  ·
   have q1 := deq_len i_a_1 i_b_1 (len_ne c1)
   refine wp_retTo (d' := dB (false)) rfl (db_congr ?_)
   ((try simp only [deq_leaf, deq_agg, deqs_nil, deqs_cons, veq_str] at q1 c0 ⊢); grind)
  ·
   have l_a_1_b_1 := len_of c1
   refine bS (d := a_2) (sh_fld1 rfl i_a_2.one) ?_
   refine bS (d := dI ((a_2.es.length : Nat) : Int)) (sh_len i_a_2) ?_
   refine bS (d := b_2) (sh_fld1 rfl i_b_2.one) ?_
   refine bS (d := dI ((b_2.es.length : Nat) : Int)) (sh_len i_b_2) ?_
   refine bS sh_neq ?_
   refine wp_iteC rfl (fun c2 => ?_) (fun c2 => ?_)
   ·
    have q2 := deq_len i_a_2 i_b_2 (len_ne c2)
    refine wp_retTo (d' := dB (false)) rfl (db_congr ?_)
    ((try simp only [deq_leaf, deq_agg, deqs_nil, deqs_cons, veq_str] at q2 c0 ⊢); grind)
   ·
    have l_a_2_b_2 := len_of c2
    refine wp_jumpTo rfl ?_
    refine loop_eq2 (ρ := fun i3 => [dI ((i3 : Nat) : Int), .agg [.leaf (.string a_0), a_1, a_2], .agg [.leaf (.string b_0), b_1, b_2]]) i_a_1 i_b_1 l_a_1_b_1 (fun q3 => ?_) ?_ (fun q3 => ?_)
    ·
     ((try simp only [deq_leaf, deq_agg, deqs_nil, deqs_cons, veq_str] at q3 c0 ⊢); grind)
    ·
     intro i3 x3 y3 e_x3 e_y3 hi3 hj3
     obtain ⟨_, rfl, _, _, rfl, ⟨x3_0, rfl⟩, x3_1, _, rfl, h_x3_1, rfl⟩ := elem_of h_a_1 e_x3
     have i_x3_1 := isSl_of h_x3_1
     obtain ⟨_, rfl, _, _, rfl, ⟨y3_0, rfl⟩, y3_1, _, rfl, h_y3_1, rfl⟩ := elem_of h_b_1 e_y3
     have i_y3_1 := isSl_of h_y3_1
     show wp _ _ _ u26T1 _
     refine bS (d := a_1) (sh_fld1 rfl i_a_1.one) ?_
     refine bS (d := dI ((a_1.es.length : Nat) : Int)) (sh_len i_a_1) ?_
     refine bS sh_lss ?_
     refine wp_iteB rfl ?_
     rw [lt_true (show i3 < a_1.es.length by omega)]
     refine ite_t ?_
     refine bS (d := a_1) (sh_fld1 rfl i_a_1.one) ?_
     refine bS (d := dB (true)) (sh_inr e_x3) ?_
     refine bS (d := .leaf (.string x3_0)) (sh_elemP (off := 0) i_a_1 e_x3 rfl rfl (by decide)) ?_
     refine bS (d := b_1) (sh_fld1 rfl i_b_1.one) ?_
     refine bS (d := dB (true)) (sh_inr e_y3) ?_
     refine bS (d := .leaf (.string y3_0)) (sh_elemP (off := 0) i_b_1 e_y3 rfl rfl (by decide)) ?_
     refine bS (d := dB (!(x3_0 == y3_0))) sh_strN ?_
     refine wp_iteC rfl (fun c4 => ?_) (fun c4 => ?_)
     ·
      skip
      refine wp_retR rfl ?_
      clear hi3 hj3; ((try simp only [deq_leaf, deq_agg, deqs_nil, deqs_cons, veq_str] at c4 c0 ⊢); grind)
     ·
      skip
      refine bS (d := a_1) (sh_fld1 rfl i_a_1.one) ?_
      refine bS (d := dB (true)) (sh_inr e_x3) ?_
      refine bS (d := x3_1) (sh_elemP (off := 1) i_a_1 e_x3 rfl i_x3_1.one (by decide)) ?_
      refine bS (d := b_1) (sh_fld1 rfl i_b_1.one) ?_
      refine bS (d := dB (true)) (sh_inr e_y3) ?_
      refine bS (d := y3_1) (sh_elemP (off := 1) i_b_1 e_y3 rfl i_y3_1.one (by decide)) ?_
      refine cS (d := dB (deq (x3_1) (y3_1))) (h62 h_x3_1 h_y3_1) ?_
      refine bS (d := dB (!(deq (x3_1) (y3_1)))) sh_not ?_
      refine wp_iteC rfl (fun c5 => ?_) (fun c5 => ?_)
      ·
       skip
       refine wp_retR rfl ?_
       clear hi3 hj3; ((try simp only [deq_leaf, deq_agg, deqs_nil, deqs_cons, veq_str] at c5 c4 c0 ⊢); grind)
      ·
       skip
       refine bS (d := dI ((i3 + 1 : Nat) : Int)) (sh_add hj3) ?_
       refine wp_jumpR rfl ?_
       clear hi3 hj3; ((try simp only [deq_leaf, deq_agg, deqs_nil, deqs_cons, veq_str] at c5 c4 c0 ⊢); grind)
    ·
     show wp _ _ _ u26T1 _
     refine bS (d := a_1) (sh_fld1 rfl i_a_1.one) ?_
     refine bS (d := dI ((a_1.es.length : Nat) : Int)) (sh_len i_a_1) ?_
     refine bS sh_lss ?_
     refine wp_iteB rfl ?_
     rw [lt_false]
     refine ite_f ?_
     refine wp_jumpTo rfl ?_
     refine loop_eqC (ρ := fun i4 => [dI ((i4 : Nat) : Int), .agg [.leaf (.string a_0), a_1, a_2], .agg [.leaf (.string b_0), b_1, b_2]]) i_a_2 i_b_2 l_a_2_b_2 (fun q4 => ?_) ?_ (fun q4 => ?_)
     ·
      ((try simp only [deq_leaf, deq_agg, deqs_nil, deqs_cons, veq_str] at q4 q3 c0 ⊢); grind)
     ·
      intro i4 x4 y4 e_x4 e_y4 hi4 hj4 hs4 hf4
      have h_x4 := elem_of h_a_2 e_x4
      have i_x4 := isSl_of h_x4
      have h_y4 := elem_of h_b_2 e_y4
      have i_y4 := isSl_of h_y4
      show wp _ _ _ u26T2 _
      refine bS (d := a_2) (sh_fld1 rfl i_a_2.one) ?_
      refine bS (d := dI ((a_2.es.length : Nat) : Int)) (sh_len i_a_2) ?_
      refine bS sh_lss ?_
      refine wp_iteB rfl ?_
      rw [lt_true (show i4 < a_2.es.length by omega)]
      refine ite_t ?_
      refine bS (d := a_2) (sh_fld1 rfl i_a_2.one) ?_
      refine bS (d := dB (true)) (sh_inr e_x4) ?_
      refine bS (d := x4) (sh_elem1 i_a_2 e_x4 i_x4.one) ?_
      refine bS (d := dI ((x4.es.length : Nat) : Int)) (sh_len i_x4) ?_
      refine bS (d := b_2) (sh_fld1 rfl i_b_2.one) ?_
      refine bS (d := dB (true)) (sh_inr e_y4) ?_
      refine bS (d := y4) (sh_elem1 i_b_2 e_y4 i_y4.one) ?_
      refine bS (d := dI ((y4.es.length : Nat) : Int)) (sh_len i_y4) ?_
      refine bS sh_neq ?_
      refine wp_iteC rfl (fun c5 => ?_) (fun c5 => ?_)
      ·
       have q5 := deq_len i_x4 i_y4 (len_ne c5)
       refine wp_retTo (d' := dB (false)) rfl (db_congr ?_)
       clear hi4 hj4 hs4; ((try simp only [deq_leaf, deq_agg, deqs_nil, deqs_cons, veq_str] at q5 hf4 q3 c0 ⊢); grind)
      ·
       have l_x4_y4 := len_of c5
       refine wp_jumpTo rfl ?_
       refine loop_eq2 (ρ := fun i6 => [dI ((i4 : Nat) : Int), dI ((i6 : Nat) : Int), .agg [.leaf (.string a_0), a_1, a_2], .agg [.leaf (.string b_0), b_1, b_2]]) i_x4 i_y4 l_x4_y4 (fun q6 => ?_) ?_ (fun q6 => ?_)
       ·
        clear hi4 hj4 hs4; ((try simp only [deq_leaf, deq_agg, deqs_nil, deqs_cons, veq_str] at q6 hf4 q3 c0 ⊢); grind)
       ·
        intro i6 x6 y6 e_x6 e_y6 hi6 hj6
        obtain ⟨x6, rfl⟩ := elem_of h_x4 e_x6
        obtain ⟨y6, rfl⟩ := elem_of h_y4 e_y6
        show wp _ _ _ u26T3 _
        refine bS (d := a_2) (sh_fld1 rfl i_a_2.one) ?_
        refine bS (d := dB (true)) (sh_inr e_x4) ?_
        refine bS (d := x4) (sh_elem1 i_a_2 e_x4 i_x4.one) ?_
        refine bS (d := dI ((x4.es.length : Nat) : Int)) (sh_len i_x4) ?_
        refine bS sh_lss ?_
        refine wp_iteB rfl ?_
        rw [lt_true (show i6 < x4.es.length by omega)]
        refine ite_t ?_
        refine bS (d := a_2) (sh_fld1 rfl i_a_2.one) ?_
        refine bS (d := dB (true)) (sh_inr e_x4) ?_
        refine bS (d := x4) (sh_elem1 i_a_2 e_x4 i_x4.one) ?_
        refine bS (d := dB (true)) (sh_inr e_x6) ?_
        refine bS (d := .leaf (.string x6)) (sh_elem1 i_x4 e_x6 rfl) ?_
        refine bS (d := b_2) (sh_fld1 rfl i_b_2.one) ?_
        refine bS (d := dB (true)) (sh_inr e_y4) ?_
        refine bS (d := y4) (sh_elem1 i_b_2 e_y4 i_y4.one) ?_
        refine bS (d := dB (true)) (sh_inr e_y6) ?_
        refine bS (d := .leaf (.string y6)) (sh_elem1 i_y4 e_y6 rfl) ?_
        refine bS (d := dB (!(x6 == y6))) sh_strN ?_
        refine wp_iteC rfl (fun c7 => ?_) (fun c7 => ?_)
        ·
         skip
         refine wp_retR rfl ?_
         clear hi6 hj6 hi4 hj4 hs4; ((try simp only [deq_leaf, deq_agg, deqs_nil, deqs_cons, veq_str] at c7 hf4 q3 c0 ⊢); grind)
        ·
         skip
         refine bS (d := dI ((i6 + 1 : Nat) : Int)) (sh_add hj6) ?_
         refine wp_jumpR rfl ?_
         clear hi6 hj6 hi4 hj4 hs4; ((try simp only [deq_leaf, deq_agg, deqs_nil, deqs_cons, veq_str] at c7 hf4 q3 c0 ⊢); grind)
       ·
        show wp _ _ _ u26T3 _
        refine bS (d := a_2) (sh_fld1 rfl i_a_2.one) ?_
        refine bS (d := dB (true)) (sh_inr e_x4) ?_
        refine bS (d := x4) (sh_elem1 i_a_2 e_x4 i_x4.one) ?_
        refine bS (d := dI ((x4.es.length : Nat) : Int)) (sh_len i_x4) ?_
        refine bS sh_lss ?_
        refine wp_iteB rfl ?_
        rw [lt_false]
        refine ite_f ?_
        refine bS (d := dI ((i4 + 1 : Nat) : Int)) (sh_add hj4) ?_
        refine wp_jumpTo rfl (hs4 ?_)
        clear hi4 hj4 hs4; ((try simp only [deq_leaf, deq_agg, deqs_nil, deqs_cons, veq_str] at q6 hf4 q3 c0 ⊢); grind)
     ·
      show wp _ _ _ u26T2 _
      refine bS (d := a_2) (sh_fld1 rfl i_a_2.one) ?_
      refine bS (d := dI ((a_2.es.length : Nat) : Int)) (sh_len i_a_2) ?_
      refine bS sh_lss ?_
      refine wp_iteB rfl ?_
      rw [lt_false]
      refine ite_f ?_
      refine wp_retTo (d' := dB (true)) rfl (db_congr ?_)
      ((try simp only [deq_leaf, deq_agg, deqs_nil, deqs_cons, veq_str] at q4 q3 c0 ⊢); grind)
theorem h63 {a b : D} (h_a : HasSh (.sl 51 2 (.st [.int .i64, .int .i64])) a) (h_b : HasSh (.sl 51 2 (.st [.int .i64, .int .i64])) b) : Holds EE 63 [a, b] (dB (deq a b)) := by
 refine u63 rfl (Goes.step' ?_)
 have i_a := isSl_of h_a
 have i_b := isSl_of h_b
 show wp _ _ _ u63T0 _
 refine bS (d := dI ((a.es.length : Nat) : Int)) (sh_len i_a) ?_
 refine bS (d := dI ((b.es.length : Nat) : Int)) (sh_len i_b) ?_
 refine bS sh_neq ?_
 refine wp_iteC rfl (fun c0 => ?_) (fun c0 => ?_)
 ·
  have q0 := deq_len i_a i_b (len_ne c0)
  refine wp_retTo (d' := dB (false)) rfl (db_congr ?_)
  ((try simp only [deq_leaf, deq_agg, deqs_nil, deqs_cons, veq_int, veq_bool, veq_str] at q0 ⊢); grind)
 ·
  have l_a_b := len_of c0
  refine wp_jumpTo rfl ?_
  refine loop_eq2 (ρ := fun i1 => [a, b, dI ((i1 : Nat) : Int)]) i_a i_b l_a_b (fun q1 => ?_) ?_ (fun q1 => ?_)
  ·
   ((try simp only [deq_leaf, deq_agg, deqs_nil, deqs_cons, veq_int, veq_bool, veq_str] at q1 ⊢); grind)
  ·
   intro i1 x1 y1 e_x1 e_y1 hi1 hj1
   obtain ⟨_, rfl, _, _, rfl, ⟨x1_0, rfl⟩, _, _, rfl, ⟨x1_1, rfl⟩, rfl⟩ := elem_of h_a e_x1
   obtain ⟨_, rfl, _, _, rfl, ⟨y1_0, rfl⟩, _, _, rfl, ⟨y1_1, rfl⟩, rfl⟩ := elem_of h_b e_y1
   show wp _ _ _ u63T1 _
   refine bS (d := dI ((a.es.length : Nat) : Int)) (sh_len i_a) ?_
   refine bS sh_lss ?_
   refine wp_iteB rfl ?_
   rw [lt_true (show i1 < a.es.length by omega)]
   refine ite_t ?_
   refine bS (d := dB (true)) (sh_inr e_x1) ?_
   refine bS (d := .agg [dI x1_0, dI x1_1]) (sh_elemW i_a e_x1 rfl) ?_
   refine bS (d := dB (true)) (sh_inr e_y1) ?_
   refine bS (d := .agg [dI y1_0, dI y1_1]) (sh_elemW i_b e_y1 rfl) ?_
   refine bS (d := dB (!(deqs [dI x1_0, dI x1_1] [dI y1_0, dI y1_1]))) (sh_cmpS .neq (.inl rfl) ty51 st51 le4 gu51 rfl (shs_cons sh_int (shs_cons sh_int shs_nil)) (shs_cons sh_int (shs_cons sh_int shs_nil))) ?_
   refine wp_iteC rfl (fun c2 => ?_) (fun c2 => ?_)
   ·
    skip
    refine wp_retR rfl ?_
    clear hi1 hj1; ((try simp only [deq_leaf, deq_agg, deqs_nil, deqs_cons, veq_int] at c2 ⊢); grind)
   ·
    skip
    refine bS (d := dI ((i1 + 1 : Nat) : Int)) (sh_add hj1) ?_
    refine wp_jumpR rfl ?_
    clear hi1 hj1; ((try simp only [deq_leaf, deq_agg, deqs_nil, deqs_cons, veq_int] at c2 ⊢); grind)
  ·
   show wp _ _ _ u63T1 _
   refine bS (d := dI ((a.es.length : Nat) : Int)) (sh_len i_a) ?_
   refine bS sh_lss ?_
   refine wp_iteB rfl ?_
   rw [lt_false]
   refine ite_f ?_
   refine wp_retTo (d' := dB (true)) rfl (db_congr ?_)
   ((try simp only [deq_leaf, deq_agg, deqs_nil, deqs_cons, veq_int, veq_bool, veq_str] at q1 ⊢); grind)
theorem h27 {a b : D} (h_a : HasSh (.sl 44 6 zR) a) (h_b : HasSh (.sl 44 6 zR) b) : Holds EE 27 [a, b] (dB (deq a b)) := by
 refine u27 rfl (Goes.step' ?_)
 have i_a := isSl_of h_a
 have i_b := isSl_of h_b
 show wp _ _ _ u27T0 _
 refine bS (d := dI ((a.es.length : Nat) : Int)) (sh_len i_a) ?_
 refine bS (d := dI ((b.es.length : Nat) : Int)) (sh_len i_b) ?_
 refine bS sh_neq ?_
 refine wp_iteC rfl (fun c0 => ?_) (fun c0 => ?_)
 ·
  have q0 := deq_len i_a i_b (len_ne c0)
  refine wp_retTo (d' := dB (false)) rfl (db_congr ?_)
  ((try simp only [deq_leaf, deq_agg, deqs_nil, deqs_cons, veq_int, veq_bool, veq_str] at q0 ⊢); grind)
 ·
  have l_a_b := len_of c0
  refine wp_jumpTo rfl ?_
  refine loop_eq2 (ρ := fun i1 => [a, b, dI ((i1 : Nat) : Int)]) i_a i_b l_a_b (fun q1 => ?_) ?_ (fun q1 => ?_)
  ·
   ((try simp only [deq_leaf, deq_agg, deqs_nil, deqs_cons, veq_int, veq_bool, veq_str] at q1 ⊢); grind)
  ·
   intro i1 x1 y1 e_x1 e_y1 hi1 hj1
   obtain ⟨_, rfl, x1_0, _, rfl, h_x1_0, x1_1, _, rfl, h_x1_1, x1_2, _, rfl, h_x1_2, x1_3, _, rfl, h_x1_3, _, _, rfl, ⟨x1_4, rfl⟩, _, _, rfl, ⟨x1_5, rfl⟩, rfl⟩ := elem_of h_a e_x1
   have i_x1_0 := isSl_of h_x1_0
   have i_x1_1 := isSl_of h_x1_1
   have i_x1_2 := isSl_of h_x1_2
   have i_x1_3 := isSl_of h_x1_3
   obtain ⟨_, rfl, y1_0, _, rfl, h_y1_0, y1_1, _, rfl, h_y1_1, y1_2, _, rfl, h_y1_2, y1_3, _, rfl, h_y1_3, _, _, rfl, ⟨y1_4, rfl⟩, _, _, rfl, ⟨y1_5, rfl⟩, rfl⟩ := elem_of h_b e_y1
   have i_y1_0 := isSl_of h_y1_0
   have i_y1_1 := isSl_of h_y1_1
   have i_y1_2 := isSl_of h_y1_2
   have i_y1_3 := isSl_of h_y1_3
   show wp _ _ _ u27T1 _
   refine bS (d := dI ((a.es.length : Nat) : Int)) (sh_len i_a) ?_
   refine bS sh_lss ?_
   refine wp_iteB rfl ?_
   rw [lt_true (show i1 < a.es.length by omega)]
   refine ite_t ?_
   refine bS (d := dB (true)) (sh_inr e_x1) ?_
   refine bS (d := .agg [x1_0, x1_1, x1_2, x1_3, dB (x1_4), dB (x1_5)]) (sh_elemW i_a e_x1 rfl) ?_
   refine bS (d := dB (true)) (sh_inr e_y1) ?_
   refine bS (d := .agg [y1_0, y1_1, y1_2, y1_3, dB (y1_4), dB (y1_5)]) (sh_elemW i_b e_y1 rfl) ?_
   refine bS (d := .agg [x1_0, x1_1, x1_2, x1_3, dB (x1_4), dB (x1_5)]) (sh_chkW rfl) ?_
   refine bS (d := .agg [y1_0, y1_1, y1_2, y1_3, dB (y1_4), dB (y1_5)]) (sh_chkW rfl) ?_
   refine bS (d := dB (true)) (sh_inr e_x1) ?_
   refine bS (d := dB (true)) (sh_inr e_y1) ?_
   refine bS (d := dB (x1_4)) (sh_fld1 rfl rfl) ?_
   refine bS (d := dB (y1_4)) (sh_fld1 rfl rfl) ?_
   refine bS (d := dB (!(decide (x1_4 = y1_4)))) (sh_cmpB .neq (.inl rfl) ty4 st4) ?_
   refine wp_iteC rfl (fun c2 => ?_) (fun c2 => ?_)
   ·
    skip
    refine wp_retR rfl ?_
    clear hi1 hj1; ((try simp only [deq_leaf, deq_agg, deqs_nil, deqs_cons, veq_bool] at c2 ⊢); grind)
   ·
    skip
    refine bS (d := dB (x1_5)) (sh_fld1 rfl rfl) ?_
    refine bS (d := dB (y1_5)) (sh_fld1 rfl rfl) ?_
    refine bS (d := dB (!(decide (x1_5 = y1_5)))) (sh_cmpB .neq (.inl rfl) ty4 st4) ?_
    refine wp_iteC rfl (fun c3 => ?_) (fun c3 => ?_)
    ·
     skip
     refine wp_retR rfl ?_
     clear hi1 hj1; ((try simp only [deq_leaf, deq_agg, deqs_nil, deqs_cons, veq_bool] at c3 c2 ⊢); grind)
    ·
     skip
     refine bS (d := x1_0) (sh_fld1 rfl i_x1_0.one) ?_
     refine bS (d := y1_0) (sh_fld1 rfl i_y1_0.one) ?_
     refine cS (d := dB (deq (x1_0) (y1_0))) (h62 h_x1_0 h_y1_0) ?_
     refine bS (d := dB (!(deq (x1_0) (y1_0)))) sh_not ?_
     refine wp_iteC rfl (fun c4 => ?_) (fun c4 => ?_)
     ·
      skip
      refine wp_retR rfl ?_
      clear hi1 hj1; ((try simp only [deq_leaf, deq_agg, deqs_nil, deqs_cons, veq_bool] at c4 c3 c2 ⊢); grind)
     ·
      skip
      refine bS (d := x1_1) (sh_fld1 rfl i_x1_1.one) ?_
      refine bS (d := y1_1) (sh_fld1 rfl i_y1_1.one) ?_
      refine cS (d := dB (deq (x1_1) (y1_1))) (h62 h_x1_1 h_y1_1) ?_
      refine bS (d := dB (!(deq (x1_1) (y1_1)))) sh_not ?_
      refine wp_iteC rfl (fun c5 => ?_) (fun c5 => ?_)
      ·
       skip
       refine wp_retR rfl ?_
       clear hi1 hj1; ((try simp only [deq_leaf, deq_agg, deqs_nil, deqs_cons, veq_bool] at c5 c4 c3 c2 ⊢); grind)
      ·
       skip
       refine bS (d := x1_2) (sh_fld1 rfl i_x1_2.one) ?_
       refine bS (d := y1_2) (sh_fld1 rfl i_y1_2.one) ?_
       refine cS (d := dB (deq (x1_2) (y1_2))) (h63 h_x1_2 h_y1_2) ?_
       refine bS (d := dB (!(deq (x1_2) (y1_2)))) sh_not ?_
       refine wp_iteC rfl (fun c6 => ?_) (fun c6 => ?_)
       ·
        skip
        refine wp_retR rfl ?_
        clear hi1 hj1; ((try simp only [deq_leaf, deq_agg, deqs_nil, deqs_cons, veq_bool] at c6 c5 c4 c3 c2 ⊢); grind)
       ·
        skip
        refine bS (d := x1_3) (sh_fld1 rfl i_x1_3.one) ?_
        refine bS (d := y1_3) (sh_fld1 rfl i_y1_3.one) ?_
        refine cS (d := dB (deq (x1_3) (y1_3))) (h63 h_x1_3 h_y1_3) ?_
        refine bS (d := dB (!(deq (x1_3) (y1_3)))) sh_not ?_
        refine wp_iteC rfl (fun c7 => ?_) (fun c7 => ?_)
        ·
         skip
         refine wp_retR rfl ?_
         clear hi1 hj1; ((try simp only [deq_leaf, deq_agg, deqs_nil, deqs_cons, veq_bool] at c7 c6 c5 c4 c3 c2 ⊢); grind)
        ·
         skip
         refine bS (d := dI ((i1 + 1 : Nat) : Int)) (sh_add hj1) ?_
         refine wp_jumpR rfl ?_
         clear hi1 hj1; ((try simp only [deq_leaf, deq_agg, deqs_nil, deqs_cons, veq_bool] at c7 c6 c5 c4 c3 c2 ⊢); grind)
  ·
   show wp _ _ _ u27T1 _
   refine bS (d := dI ((a.es.length : Nat) : Int)) (sh_len i_a) ?_
   refine bS sh_lss ?_
   refine wp_iteB rfl ?_
   rw [lt_false]
   refine ite_f ?_
   refine wp_retTo (d' := dB (true)) rfl (db_congr ?_)
   ((try simp only [deq_leaf, deq_agg, deqs_nil, deqs_cons, veq_int, veq_bool, veq_str] at q1 ⊢); grind)
theorem h28 {a b : D} (h_a : HasSh zN a) (h_b : HasSh zN b) : Holds EE 28 [a, b] (dB (deq a b)) := by
 refine u28 rfl (Goes.step' ?_)
 obtain ⟨_, rfl, _, _, rfl, ⟨a_0, rfl⟩, a_1, _, rfl, h_a_1, a_2, _, rfl, h_a_2, rfl⟩ := h_a
 have i_a_1 := isSl_of h_a_1
 have i_a_2 := isSl_of h_a_2
 obtain ⟨_, rfl, _, _, rfl, ⟨b_0, rfl⟩, b_1, _, rfl, h_b_1, b_2, _, rfl, h_b_2, rfl⟩ := h_b
 have i_b_1 := isSl_of h_b_1
 have i_b_2 := isSl_of h_b_2
 show wp _ _ _ u28T0 _
 refine bS (d := .agg [dI a_0, a_1, a_2]) (sh_chkW rfl) ?_
 refine bS (d := .agg [dI b_0, b_1, b_2]) (sh_chkW rfl) ?_
 refine bS (d := dI a_0) (sh_fld1 rfl rfl) ?_
 refine bS (d := dI b_0) (sh_fld1 rfl rfl) ?_
 refine bS (d := dB (a_0 != b_0)) sh_neq ?_
 refine wp_iteC rfl (fun c0 => ?_) (fun c0 => ?_)
 ·
  skip
  refine wp_retTo (d' := dB (false)) rfl (db_congr ?_)
  ((try simp only [deq_leaf, deq_agg, deqs_nil, deqs_cons, veq_int] at c0 ⊢); grind)
 ·
  skip
  refine bS (d := a_1) (sh_fld1 rfl i_a_1.one) ?_
  refine bS (d := dI ((a_1.es.length : Nat) : Int)) (sh_len i_a_1) ?_
  refine bS (d := b_1) (sh_fld1 rfl i_b_1.one) ?_
  refine bS (d := dI ((b_1.es.length : Nat) : Int)) (sh_len i_b_1) ?_
  refine bS sh_neq ?_
  refine wp_iteC rfl (fun c1 => ?_) (fun c1 => ?_)
  ·
   have q1 := deq_len i_a_1 i_b_1 (len_ne c1)
   refine wp_retTo (d' := dB (false)) rfl (db_congr ?_)
   ((try simp only [deq_leaf, deq_agg, deqs_nil, deqs_cons, veq_int] at q1 c0 ⊢); grind)
  ·
   have l_a_1_b_1 := len_of c1
   refine bS (d := a_2) (sh_fld1 rfl i_a_2.one) ?_
   refine bS (d := b_2) (sh_fld1 rfl i_b_2.one) ?_
   refine cS (d := dB (deq (a_2) (b_2))) (h62 h_a_2 h_b_2) ?_
   refine bS (d := dB (!(deq (a_2) (b_2)))) sh_not ?_
   refine wp_iteC rfl (fun c2 => ?_) (fun c2 => ?_)
   ·
    skip
    refine wp_retTo (d' := dB (false)) rfl (db_congr ?_)
    ((try simp only [deq_leaf, deq_agg, deqs_nil, deqs_cons, veq_int] at c2 c0 ⊢); grind)
   ·
    skip
    refine wp_jumpTo rfl ?_
    refine loop_eq2 (ρ := fun i3 => [dI ((i3 : Nat) : Int), .agg [dI a_0, a_1, a_2], .agg [dI b_0, b_1, b_2]]) i_a_1 i_b_1 l_a_1_b_1 (fun q3 => ?_) ?_ (fun q3 => ?_)
    ·
     ((try simp only [deq_leaf, deq_agg, deqs_nil, deqs_cons, veq_int] at q3 c2 c0 ⊢); grind)
    ·
     intro i3 x3 y3 e_x3 e_y3 hi3 hj3
     obtain ⟨_, rfl, _, _, rfl, ⟨x3_0, rfl⟩, _, _, rfl, ⟨x3_1, rfl⟩, _, _, rfl, ⟨x3_2, rfl⟩, rfl⟩ := elem_of h_a_1 e_x3
     obtain ⟨_, rfl, _, _, rfl, ⟨y3_0, rfl⟩, _, _, rfl, ⟨y3_1, rfl⟩, _, _, rfl, ⟨y3_2, rfl⟩, rfl⟩ := elem_of h_b_1 e_y3
     show wp _ _ _ u28T1 _
     refine bS (d := a_1) (sh_fld1 rfl i_a_1.one) ?_
     refine bS (d := dI ((a_1.es.length : Nat) : Int)) (sh_len i_a_1) ?_
     refine bS sh_lss ?_
     refine wp_iteB rfl ?_
     rw [lt_true (show i3 < a_1.es.length by omega)]
     refine ite_t ?_
     refine bS (d := a_1) (sh_fld1 rfl i_a_1.one) ?_
     refine bS (d := dB (true)) (sh_inr e_x3) ?_
     refine bS (d := .agg [dI x3_0, dI x3_1, dI x3_2]) (sh_elemW i_a_1 e_x3 rfl) ?_
     refine bS (d := b_1) (sh_fld1 rfl i_b_1.one) ?_
     refine bS (d := dB (true)) (sh_inr e_y3) ?_
     refine bS (d := .agg [dI y3_0, dI y3_1, dI y3_2]) (sh_elemW i_b_1 e_y3 rfl) ?_
     refine bS (d := dB (!(deqs [dI x3_0, dI x3_1, dI x3_2] [dI y3_0, dI y3_1, dI y3_2]))) (sh_cmpS .neq (.inl rfl) ty84 st84 le4 gu84 rfl (shs_cons sh_int (shs_cons sh_int (shs_cons sh_int shs_nil))) (shs_cons sh_int (shs_cons sh_int (shs_cons sh_int shs_nil)))) ?_
     refine wp_iteC rfl (fun c4 => ?_) (fun c4 => ?_)
     ·
      skip
      refine wp_retR rfl ?_
      clear hi3 hj3; ((try simp only [deq_leaf, deq_agg, deqs_nil, deqs_cons, veq_int] at c4 c2 c0 ⊢); grind)
     ·
      skip
      refine bS (d := dI ((i3 + 1 : Nat) : Int)) (sh_add hj3) ?_
      refine wp_jumpR rfl ?_
      clear hi3 hj3; ((try simp only [deq_leaf, deq_agg, deqs_nil, deqs_cons, veq_int] at c4 c2 c0 ⊢); grind)
    ·
     show wp _ _ _ u28T1 _
     refine bS (d := a_1) (sh_fld1 rfl i_a_1.one) ?_
     refine bS (d := dI ((a_1.es.length : Nat) : Int)) (sh_len i_a_1) ?_
     refine bS sh_lss ?_
     refine wp_iteB rfl ?_
     rw [lt_false]
     refine ite_f ?_
     refine wp_retTo (d' := dB (true)) rfl (db_congr ?_)
     ((try simp only [deq_leaf, deq_agg, deqs_nil, deqs_cons, veq_int] at q3 c2 c0 ⊢); grind)
theorem h8 {a b : D} (h_a : HasSh zG a) (h_b : HasSh zG b) : Holds EE 8 [a, b] (dB (deq a b)) := by
 refine u8 rfl (Goes.step' ?_)
 obtain ⟨_, rfl, a_0, _, rfl, h_a_0, _, _, rfl, ⟨a_1, rfl⟩, a_2, _, rfl, h_a_2, a_3, _, rfl, h_a_3, a_4, _, rfl, h_a_4, _, _, rfl, ⟨a_5, rfl⟩, a_6, _, rfl, h_a_6, a_7, _, rfl, h_a_7, a_8, _, rfl, h_a_8, rfl⟩ := h_a
 have i_a_0 := isSl_of h_a_0
 have i_a_2 := isSl_of h_a_2
 have i_a_3 := isSl_of h_a_3
 have i_a_4 := isSl_of h_a_4
 have i_a_6 := isSl_of h_a_6
 have i_a_7 := isSl_of h_a_7
 have i_a_8 := isSl_of h_a_8
 obtain ⟨_, rfl, b_0, _, rfl, h_b_0, _, _, rfl, ⟨b_1, rfl⟩, b_2, _, rfl, h_b_2, b_3, _, rfl, h_b_3, b_4, _, rfl, h_b_4, _, _, rfl, ⟨b_5, rfl⟩, b_6, _, rfl, h_b_6, b_7, _, rfl, h_b_7, b_8, _, rfl, h_b_8, rfl⟩ := h_b
 have i_b_0 := isSl_of h_b_0
 have i_b_2 := isSl_of h_b_2
 have i_b_3 := isSl_of h_b_3
 have i_b_4 := isSl_of h_b_4
 have i_b_6 := isSl_of h_b_6
 have i_b_7 := isSl_of h_b_7
 have i_b_8 := isSl_of h_b_8
 show wp _ _ _ u8T0 _
 refine bS (d := .agg [a_0, .leaf (.string a_1), a_2, a_3, a_4, dI a_5, a_6, a_7, a_8]) (sh_chkW rfl) ?_
 refine bS (d := .agg [b_0, .leaf (.string b_1), b_2, b_3, b_4, dI b_5, b_6, b_7, b_8]) (sh_chkW rfl) ?_
 refine bS (d := a_0) (sh_fld1 rfl i_a_0.one) ?_
 refine bS (d := dI ((a_0.es.length : Nat) : Int)) (sh_len i_a_0) ?_
 refine bS (d := b_0) (sh_fld1 rfl i_b_0.one) ?_
 refine bS (d := dI ((b_0.es.length : Nat) : Int)) (sh_len i_b_0) ?_
 refine bS sh_neq ?_
 refine wp_iteC rfl (fun c0 => ?_) (fun c0 => ?_)
 ·
  have q0 := deq_len i_a_0 i_b_0 (len_ne c0)
  refine wp_retTo (d' := dB (false)) rfl (db_congr ?_)
  ((try simp only [deq_leaf, deq_agg, deqs_nil, deqs_cons, veq_int, veq_str] at q0 ⊢); grind)
 ·
  have l_a_0_b_0 := len_of c0
  refine bS (d := a_8) (sh_fld1 rfl i_a_8.one) ?_
  refine bS (d := dI ((a_8.es.length : Nat) : Int)) (sh_len i_a_8) ?_
  refine bS (d := b_8) (sh_fld1 rfl i_b_8.one) ?_
  refine bS (d := dI ((b_8.es.length : Nat) : Int)) (sh_len i_b_8) ?_
  refine bS sh_neq ?_
  refine wp_iteC rfl (fun c1 => ?_) (fun c1 => ?_)
  ·
   have q1 := deq_len i_a_8 i_b_8 (len_ne c1)
   refine wp_retTo (d' := dB (false)) rfl (db_congr ?_)
   ((try simp only [deq_leaf, deq_agg, deqs_nil, deqs_cons, veq_int, veq_str] at q1 ⊢); grind)
  ·
   have l_a_8_b_8 := len_of c1
   refine wp_jumpTo rfl ?_
   refine loop_eq2 (ρ := fun i2 => [dI ((i2 : Nat) : Int), .agg [a_0, .leaf (.string a_1), a_2, a_3, a_4, dI a_5, a_6, a_7, a_8], .agg [b_0, .leaf (.string b_1), b_2, b_3, b_4, dI b_5, b_6, b_7, b_8]]) i_a_0 i_b_0 l_a_0_b_0 (fun q2 => ?_) ?_ (fun q2 => ?_)
   ·
    ((try simp only [deq_leaf, deq_agg, deqs_nil, deqs_cons, veq_int, veq_str] at q2 ⊢); grind)
   ·
    intro i2 x2 y2 e_x2 e_y2 hi2 hj2
    obtain ⟨_, rfl, _, _, rfl, ⟨x2_0, rfl⟩, _, _, rfl, ⟨x2_1, rfl⟩, rfl⟩ := elem_of h_a_0 e_x2
    obtain ⟨_, rfl, _, _, rfl, ⟨y2_0, rfl⟩, _, _, rfl, ⟨y2_1, rfl⟩, rfl⟩ := elem_of h_b_0 e_y2
    show wp _ _ _ u8T1 _
    refine bS (d := a_0) (sh_fld1 rfl i_a_0.one) ?_
    refine bS (d := dI ((a_0.es.length : Nat) : Int)) (sh_len i_a_0) ?_
    refine bS sh_lss ?_
    refine wp_iteB rfl ?_
    rw [lt_true (show i2 < a_0.es.length by omega)]
    refine ite_t ?_
    refine bS (d := a_0) (sh_fld1 rfl i_a_0.one) ?_
    refine bS (d := dB (true)) (sh_inr e_x2) ?_
    refine bS (d := .agg [.leaf (.string x2_0), dI x2_1]) (sh_elemW i_a_0 e_x2 rfl) ?_
    refine bS (d := b_0) (sh_fld1 rfl i_b_0.one) ?_
    refine bS (d := dB (true)) (sh_inr e_y2) ?_
    refine bS (d := .agg [.leaf (.string y2_0), dI y2_1]) (sh_elemW i_b_0 e_y2 rfl) ?_
    refine bS (d := dB (!(deqs [.leaf (.string x2_0), dI x2_1] [.leaf (.string y2_0), dI y2_1]))) (sh_cmpS .neq (.inl rfl) ty67 st67 le4 gu67 rfl (shs_cons sh_str (shs_cons sh_int shs_nil)) (shs_cons sh_str (shs_cons sh_int shs_nil))) ?_
    refine wp_iteC rfl (fun c3 => ?_) (fun c3 => ?_)
    ·
     skip
     refine wp_retR rfl ?_
     clear hi2 hj2; ((try simp only [deq_leaf, deq_agg, deqs_nil, deqs_cons, veq_int, veq_str] at c3 ⊢); grind)
    ·
     skip
     refine bS (d := dI ((i2 + 1 : Nat) : Int)) (sh_add hj2) ?_
     refine wp_jumpR rfl ?_
     clear hi2 hj2; ((try simp only [deq_leaf, deq_agg, deqs_nil, deqs_cons, veq_int, veq_str] at c3 ⊢); grind)
   ·
    show wp _ _ _ u8T1 _
    refine bS (d := a_0) (sh_fld1 rfl i_a_0.one) ?_
    refine bS (d := dI ((a_0.es.length : Nat) : Int)) (sh_len i_a_0) ?_
    refine bS sh_lss ?_
    refine wp_iteB rfl ?_
    rw [lt_false]
    refine ite_f ?_
    refine wp_jumpTo rfl ?_
    refine loop_eq2 (ρ := fun i3 => [dI ((i3 : Nat) : Int), .agg [a_0, .leaf (.string a_1), a_2, a_3, a_4, dI a_5, a_6, a_7, a_8], .agg [b_0, .leaf (.string b_1), b_2, b_3, b_4, dI b_5, b_6, b_7, b_8]]) i_a_8 i_b_8 l_a_8_b_8 (fun q3 => ?_) ?_ (fun q3 => ?_)
    ·
     ((try simp only [deq_leaf, deq_agg, deqs_nil, deqs_cons, veq_int, veq_str] at q3 q2 ⊢); grind)
    ·
     intro i3 x3 y3 e_x3 e_y3 hi3 hj3
     obtain ⟨_, rfl, _, _, rfl, ⟨x3_0, rfl⟩, x3_1, _, rfl, h_x3_1, _, _, rfl, ⟨x3_2, rfl⟩, x3_3, _, rfl, h_x3_3, _, _, rfl, ⟨x3_4, rfl⟩, x3_5, _, rfl, h_x3_5, x3_6, _, rfl, h_x3_6, x3_7, _, rfl, h_x3_7, rfl⟩ := elem_of h_a_8 e_x3
     have i_x3_1 := isSl_of h_x3_1
     have i_x3_3 := isSl_of h_x3_3
     have i_x3_5 := isSl_of h_x3_5
     have i_x3_6 := isSl_of h_x3_6
     have i_x3_7 := isSl_of h_x3_7
     obtain ⟨_, rfl, _, _, rfl, ⟨y3_0, rfl⟩, y3_1, _, rfl, h_y3_1, _, _, rfl, ⟨y3_2, rfl⟩, y3_3, _, rfl, h_y3_3, _, _, rfl, ⟨y3_4, rfl⟩, y3_5, _, rfl, h_y3_5, y3_6, _, rfl, h_y3_6, y3_7, _, rfl, h_y3_7, rfl⟩ := elem_of h_b_8 e_y3
     have i_y3_1 := isSl_of h_y3_1
     have i_y3_3 := isSl_of h_y3_3
     have i_y3_5 := isSl_of h_y3_5
     have i_y3_6 := isSl_of h_y3_6
     have i_y3_7 := isSl_of h_y3_7
     show wp _ _ _ u8T2 _
     refine bS (d := a_8) (sh_fld1 rfl i_a_8.one) ?_
     refine bS (d := dI ((a_8.es.length : Nat) : Int)) (sh_len i_a_8) ?_
     refine bS sh_lss ?_
     refine wp_iteB rfl ?_
     rw [lt_true (show i3 < a_8.es.length by omega)]
     refine ite_t ?_
     refine bS (d := a_8) (sh_fld1 rfl i_a_8.one) ?_
     refine bS (d := dB (true)) (sh_inr e_x3) ?_
     refine bS (d := .agg [dI x3_0, x3_1, dI x3_2, x3_3, dI x3_4, x3_5, x3_6, x3_7]) (sh_elemW i_a_8 e_x3 rfl) ?_
     refine bS (d := b_8) (sh_fld1 rfl i_b_8.one) ?_
     refine bS (d := dB (true)) (sh_inr e_y3) ?_
     refine bS (d := .agg [dI y3_0, y3_1, dI y3_2, y3_3, dI y3_4, y3_5, y3_6, y3_7]) (sh_elemW i_b_8 e_y3 rfl) ?_
     refine cS (d := dB (deq (.agg [dI x3_0, x3_1, dI x3_2, x3_3, dI x3_4, x3_5, x3_6, x3_7]) (.agg [dI y3_0, y3_1, dI y3_2, y3_3, dI y3_4, y3_5, y3_6, y3_7]))) (h25 (sh_st (shs_cons sh_int (shs_cons h_x3_1 (shs_cons sh_int (shs_cons h_x3_3 (shs_cons sh_int (shs_cons h_x3_5 (shs_cons h_x3_6 (shs_cons h_x3_7 shs_nil))))))))) (sh_st (shs_cons sh_int (shs_cons h_y3_1 (shs_cons sh_int (shs_cons h_y3_3 (shs_cons sh_int (shs_cons h_y3_5 (shs_cons h_y3_6 (shs_cons h_y3_7 shs_nil)))))))))) ?_
     refine bS (d := dB (!(deq (.agg [dI x3_0, x3_1, dI x3_2, x3_3, dI x3_4, x3_5, x3_6, x3_7]) (.agg [dI y3_0, y3_1, dI y3_2, y3_3, dI y3_4, y3_5, y3_6, y3_7])))) sh_not ?_
     refine wp_iteC rfl (fun c4 => ?_) (fun c4 => ?_)
     ·
      skip
      refine wp_retR rfl ?_
      clear hi3 hj3; ((try simp only [deq_leaf, deq_agg, deqs_nil, deqs_cons, veq_int] at c4 q2 ⊢); grind)
     ·
      skip
      refine bS (d := dI ((i3 + 1 : Nat) : Int)) (sh_add hj3) ?_
      refine wp_jumpR rfl ?_
      clear hi3 hj3; ((try simp only [deq_leaf, deq_agg, deqs_nil, deqs_cons, veq_int] at c4 q2 ⊢); grind)
    ·
     show wp _ _ _ u8T2 _
     refine bS (d := a_8) (sh_fld1 rfl i_a_8.one) ?_
     refine bS (d := dI ((a_8.es.length : Nat) : Int)) (sh_len i_a_8) ?_
     refine bS sh_lss ?_
     refine wp_iteB rfl ?_
     rw [lt_false]
     refine ite_f ?_
     refine bS (d := .agg [.leaf (.string a_1), a_2, a_3]) (sh_fldA rfl) ?_
     refine bS (d := .agg [.leaf (.string b_1), b_2, b_3]) (sh_fldA rfl) ?_
     refine cS (d := dB (deq (.agg [.leaf (.string a_1), a_2, a_3]) (.agg [.leaf (.string b_1), b_2, b_3]))) (h26 (sh_st (shs_cons sh_str (shs_cons h_a_2 (shs_cons h_a_3 shs_nil)))) (sh_st (shs_cons sh_str (shs_cons h_b_2 (shs_cons h_b_3 shs_nil))))) ?_
     refine wp_iteC rfl (fun c4 => ?_) (fun c4 => ?_)
     ·
      skip
      refine bS (d := a_4) (sh_fld1 rfl i_a_4.one) ?_
      refine bS (d := b_4) (sh_fld1 rfl i_b_4.one) ?_
      refine cS (d := dB (deq (a_4) (b_4))) (h27 h_a_4 h_b_4) ?_
      refine wp_iteC rfl (fun c5 => ?_) (fun c5 => ?_)
      ·
       skip
       refine bS (d := .agg [dI a_5, a_6, a_7]) (sh_fldA rfl) ?_
       refine bS (d := .agg [dI b_5, b_6, b_7]) (sh_fldA rfl) ?_
       refine cS (d := dB (deq (.agg [dI a_5, a_6, a_7]) (.agg [dI b_5, b_6, b_7]))) (h28 (sh_st (shs_cons sh_int (shs_cons h_a_6 (shs_cons h_a_7 shs_nil)))) (sh_st (shs_cons sh_int (shs_cons h_b_6 (shs_cons h_b_7 shs_nil))))) ?_
       refine wp_retTo (d' := dB (deq (.agg [dI a_5, a_6, a_7]) (.agg [dI b_5, b_6, b_7]))) rfl (db_congr ?_)
       ((try simp only [deq_leaf, deq_agg, deqs_nil, deqs_cons, veq_int, veq_str] at c5 c4 q3 q2 ⊢); grind)
      ·
       skip
       refine wp_retTo (d' := dB (false)) rfl (db_congr ?_)
       ((try simp only [deq_leaf, deq_agg, deqs_nil, deqs_cons, veq_int, veq_str] at c5 c4 q3 q2 ⊢); grind)
     ·
      skip
      refine wp_retTo (d' := dB (false)) rfl (db_congr ?_)
      ((try simp only [deq_leaf, deq_agg, deqs_nil, deqs_cons, veq_int, veq_str] at c4 q3 q2 ⊢); grind)
end Go.Proofs.YtbdamohgaleajaaGreatDoor
