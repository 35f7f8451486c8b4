/- An order of lists of parts, and what is the same by it. Conditions: none. -/
import Derived.Test.YtbmjdlgfnoaocaaGreatNd
set_option linter.unusedVariables false
set_option linter.unusedSimpArgs false
namespace Go.Proofs.YtbmjdlgfnoaocaaGreat
open Go Go.Am Go.Proofs
attribute [local irreducible] Go.Am.wp Go.Am.TOp.eval
def bef (a0 a1 a2 b0 b1 b2 : Int) : Bool := if a0 = b0 then (if a1 = b1 then decide (a2 < b2) else decide (a1 < b1)) else decide (a0 < b0)
theorem h69 {a0 a1 a2 b0 b1 b2 : Int} : Holds EE 69 [.agg [dI a0, dI a1, dI a2], .agg [dI b0, dI b1, dI b2]] (dB (bef a0 a1 a2 b0 b1 b2)) := by
  refine u69 rfl (Goes.step' ?_)
  show wp _ _ _ u69T0 _
  refine wp_bind (sh_chkW rfl) rfl ?_
  refine wp_bind (sh_chkW rfl) rfl ?_
  refine wp_bind (sh_fld1 (off := 0) rfl rfl) rfl ?_
  refine wp_bind (sh_fld1 (off := 0) rfl rfl) rfl ?_
  refine wp_bind sh_neq rfl ?_
  refine wp_iteC rfl (fun c0 => ?_) (fun c0 => ?_)
  · refine wp_bind (sh_fld1 (off := 0) rfl rfl) rfl ?_
    refine wp_bind (sh_fld1 (off := 0) rfl rfl) rfl ?_
    refine wp_bind sh_lss rfl ?_
    refine wp_retTo (d' := dB (decide (a0 < b0))) rfl (db_congr ?_)
    unfold bef
    rw [if_neg (by simpa using c0)]
  · have e0 : a0 = b0 := by simpa using c0
    refine wp_bind (sh_fld1 (off := 1) rfl rfl) rfl ?_
    refine wp_bind (sh_fld1 (off := 1) rfl rfl) rfl ?_
    refine wp_bind sh_neq rfl ?_
    refine wp_iteC rfl (fun c1 => ?_) (fun c1 => ?_)
    · refine wp_bind (sh_fld1 (off := 1) rfl rfl) rfl ?_
      refine wp_bind (sh_fld1 (off := 1) rfl rfl) rfl ?_
      refine wp_bind sh_lss rfl ?_
      refine wp_retTo (d' := dB (decide (a1 < b1))) rfl (db_congr ?_)
      unfold bef
      rw [if_pos e0, if_neg (by simpa using c1)]
    · have e1 : a1 = b1 := by simpa using c1
      refine wp_bind (sh_fld1 (off := 2) rfl rfl) rfl ?_
      refine wp_bind (sh_fld1 (off := 2) rfl rfl) rfl ?_
      refine wp_bind sh_lss rfl ?_
      refine wp_retTo (d' := dB (decide (a2 < b2))) rfl (db_congr ?_)
      unfold bef
      rw [if_pos e0, if_pos e1]
def befD (x y : D) : Bool := match x, y with
  | .agg [.leaf (.int _ a0), .leaf (.int _ a1), .leaf (.int _ a2)], .agg [.leaf (.int _ b0), .leaf (.int _ b1), .leaf (.int _ b2)] => bef a0 a1 a2 b0 b1 b2
  | _, _ => false
def ltL : List D → List D → Bool
  | [], [] => false
  | [], _ :: _ => true
  | _ :: _, [] => false
  | x :: us, y :: vs => if deq x y then ltL us vs else befD x y
abbrev ShP : Sh := .st [.int .i64, .int .i64, .int .i64]
theorem part_of {x : D} (h : HasSh ShP x) : ∃ a0 a1 a2, x = .agg [dI a0, dI a1, dI a2] := by
  obtain ⟨_, rfl, _, _, rfl, ⟨a0, rfl⟩, _, _, rfl, ⟨a1, rfl⟩, _, _, rfl, ⟨a2, rfl⟩, rfl⟩ := h
  exact ⟨a0, a1, a2, rfl⟩
theorem deq_part {a0 a1 a2 b0 b1 b2 : Int} : deq (.agg [dI a0, dI a1, dI a2]) (.agg [dI b0, dI b1, dI b2]) = (decide (a0 = b0) && (decide (a1 = b1) && (decide (a2 = b2) && true))) := by
  simp only [deq_agg, deqs_cons, deqs_nil, deq_leaf, veq_int]
theorem lt_same : ∀ {us vs : List D}, (∀ x ∈ us, HasSh ShP x) → (∀ x ∈ vs, HasSh ShP x) → (!(ltL us vs) && !(ltL vs us)) = deqs us vs
  | [], [], _, _ => by simp [ltL, deqs]
  | [], _ :: _, _, _ => by simp [ltL, deqs]
  | _ :: _, [], _, _ => by simp [ltL, deqs]
  | x :: us, y :: vs, ha, hb => by
    have ih := lt_same (us := us) (vs := vs) (fun x h => ha x (List.mem_cons_of_mem _ h)) (fun x h => hb x (List.mem_cons_of_mem _ h))
    obtain ⟨a0, a1, a2, rfl⟩ := part_of (ha x List.mem_cons_self)
    obtain ⟨b0, b1, b2, rfl⟩ := part_of (hb y List.mem_cons_self)
    rw [deqs_cons]
    simp only [ltL, befD]
    rw [deq_part, deq_part]
    by_cases h0 : a0 = b0
    · by_cases h1 : a1 = b1
      · by_cases h2 : a2 = b2
        · subst h0; subst h1; subst h2
          simp only [decide_true, Bool.and_self, if_true, Bool.true_and]
          exact ih
        · have h3 : ¬ b2 = a2 := fun e => h2 e.symm
          subst h0; subst h1
          simp only [bef, h2, h3, decide_true, decide_false, Bool.and_true, Bool.and_false, Bool.false_and, Bool.true_and, if_true, if_false, Bool.false_eq_true]
          by_cases h : a2 < b2
          · simp [h]
          · have : b2 < a2 := by omega
            simp [this]
      · have h3 : ¬ b1 = a1 := fun e => h1 e.symm
        subst h0
        simp only [bef, h1, h3, decide_true, decide_false, Bool.and_true, Bool.and_false, Bool.false_and, Bool.true_and, if_true, if_false, Bool.false_eq_true]
        by_cases h : a1 < b1
        · simp [h]
        · have : b1 < a1 := by omega
          simp [this]
    · have h3 : ¬ b0 = a0 := fun e => h0 e.symm
      simp only [bef, h0, h3, decide_false, Bool.false_and, if_false, Bool.false_eq_true]
      by_cases h : a0 < b0
      · simp [h]
      · have : b0 < a0 := by omega
        simp [this]
theorem h57 {a b : D} (h_a : HasSh (.sl 98 3 ShP) a) (h_b : HasSh (.sl 98 3 ShP) b) : Holds EE 57 [.agg [a], .agg [b]] (dB (ltL a.es b.es)) := by
  refine u57 rfl (Goes.step' ?_)
  have i_a := isSl_of h_a
  have i_b := isSl_of h_b
  have go : ∀ m i, i + m = a.es.length → i ≤ b.es.length → Goes EE (Holds EE) u57Ts 1 [dI ((i : Nat) : Int), .agg [a], .agg [b]] (dB (ltL (a.es.drop i) (b.es.drop i))) := by
    intro m
    induction m with
    | zero =>
      intro i hi hb
      have hi : i = a.es.length := hi
      refine Goes.step' ?_
      show wp _ _ _ u57T1 _
      refine wp_bind (sh_fld1 (off := 0) rfl i_a.one) rfl ?_
      refine wp_bind (sh_len i_a) rfl ?_
      refine wp_bind sh_lss rfl ?_
      refine wp_iteB rfl ?_
      rw [hi, lt_false]
      refine ite_f ?_
      refine wp_bind (sh_fld1 (off := 0) rfl i_a.one) rfl ?_
      refine wp_bind (sh_len i_a) rfl ?_
      refine wp_bind (sh_fld1 (off := 0) rfl i_b.one) rfl ?_
      refine wp_bind (sh_len i_b) rfl ?_
      refine wp_bind sh_lss rfl ?_
      refine wp_retTo (d' := dB (decide ((a.es.length : Int) < (b.es.length : Int)))) rfl (db_congr ?_)
      rw [List.drop_length]
      rw [hi] at hb
      cases hd : b.es.drop a.es.length with
      | nil =>
        have : b.es.length ≤ a.es.length := by simpa using hd
        simp only [ltL]
        exact decide_eq_false (by omega)
      | cons y ys =>
        have : (b.es.drop a.es.length).length ≠ 0 := by rw [hd]; simp
        simp only [ltL]
        rw [List.length_drop] at this
        exact decide_eq_true (by omega)
    | succ m ih =>
      intro i hi hb
      have hla : i < a.es.length := by omega
      have hj : i + 1 < capX := by have := sh_lt i_a; omega
      have ea : a.es[i]? = some a.es[i] := List.getElem?_eq_getElem hla
      refine Goes.step' ?_
      show wp _ _ _ u57T1 _
      refine wp_bind (sh_fld1 (off := 0) rfl i_a.one) rfl ?_
      refine wp_bind (sh_len i_a) rfl ?_
      refine wp_bind sh_lss rfl ?_
      refine wp_iteB rfl ?_
      rw [lt_true hla]
      refine ite_t ?_
      refine wp_bind (sh_fld1 (off := 0) rfl i_b.one) rfl ?_
      refine wp_bind (sh_len i_b) rfl ?_
      refine wp_bind sh_lss rfl ?_
      refine wp_iteC rfl (fun c0 => ?_) (fun c0 => ?_)
      · have hlb : i < b.es.length := by have := of_decide_eq_true c0; omega
        have eb : b.es[i]? = some b.es[i] := List.getElem?_eq_getElem hlb
        have da : a.es.drop i = a.es[i] :: a.es.drop (i + 1) := List.drop_eq_getElem_cons hla
        have db : b.es.drop i = b.es[i] :: b.es.drop (i + 1) := List.drop_eq_getElem_cons hlb
        obtain ⟨a0, a1, a2, xe⟩ := part_of (elem_of h_a ea)
        obtain ⟨b0, b1, b2, ye⟩ := part_of (elem_of h_b eb)
        have nx := ih (i + 1) (by omega) hlb
        rw [da, db, xe, ye]
        rw [xe] at ea
        rw [ye] at eb
        refine wp_bind (sh_fld1 (off := 0) rfl i_a.one) rfl ?_
        refine wp_bind (sh_inr ea) rfl ?_
        refine wp_bind (sh_elemW i_a ea rfl) rfl ?_
        refine wp_bind (sh_fld1 (off := 0) rfl i_b.one) rfl ?_
        refine wp_bind (sh_inr eb) rfl ?_
        refine wp_bindE (ρ' := [_, _, _, _, _, _, _, _, _, _, _, _, _, _, .agg [dI b0, dI b1, dI b2]]) (sh_elemW i_b eb rfl) rfl rfl ?_
        refine wp_bind (sh_cmpS .neq (.inl rfl) ty98 st98 le4 gu98 rfl (shs_cons sh_int (shs_cons sh_int (shs_cons sh_int shs_nil))) (shs_cons sh_int (shs_cons sh_int (shs_cons sh_int shs_nil)))) rfl ?_
        refine wp_iteC rfl (fun c1 => ?_) (fun c1 => ?_)
        · have hne : deq (.agg [dI a0, dI a1, dI a2]) (.agg [dI b0, dI b1, dI b2]) = false := by rw [deq_agg]; simpa using c1
          refine wp_bind (sh_fld1 (off := 0) rfl i_a.one) rfl ?_
          refine wp_bind (sh_inr ea) rfl ?_
          refine wp_bind (sh_elemW i_a ea rfl) rfl ?_
          refine wp_bind (sh_fld1 (off := 0) rfl i_b.one) rfl ?_
          refine wp_bind (sh_inr eb) rfl ?_
          refine wp_bind (sh_elemW i_b eb rfl) rfl ?_
          refine wp_call h69 rfl rfl rfl ?_
          refine wp_retTo (d' := dB (bef a0 a1 a2 b0 b1 b2)) rfl (db_congr ?_)
          simp only [ltL, hne, Bool.false_eq_true, if_false, befD]
        · have heq : deq (.agg [dI a0, dI a1, dI a2]) (.agg [dI b0, dI b1, dI b2]) = true := by rw [deq_agg]; simpa using c1
          refine wp_bind (sh_add hj) rfl ?_
          refine wp_jumpTo (ds := [dI ((i + 1 : Nat) : Int), .agg [a], .agg [b]]) rfl ?_
          simp only [ltL, heq, if_true]
          exact nx
      · have hlb : b.es.length = i := by have := of_decide_eq_false c0; omega
        refine wp_bind (sh_fld1 (off := 0) rfl i_a.one) rfl ?_
        refine wp_bind (sh_len i_a) rfl ?_
        refine wp_bind (sh_fld1 (off := 0) rfl i_b.one) rfl ?_
        refine wp_bind (sh_len i_b) rfl ?_
        refine wp_bind sh_lss rfl ?_
        refine wp_retTo (d' := dB (decide ((a.es.length : Int) < (b.es.length : Int)))) rfl (db_congr ?_)
        have da : a.es.drop i = a.es[i] :: a.es.drop (i + 1) := List.drop_eq_getElem_cons hla
        have db : b.es.drop i = [] := by rw [List.drop_eq_nil_iff]; omega
        rw [da, db]
        simp only [ltL]
        exact decide_eq_false (by omega)
  show wp _ _ _ u57T0 _
  refine wp_bind (sh_chkW rfl) rfl ?_
  refine wp_bind (sh_chkW rfl) rfl ?_
  refine wp_jumpTo (ds := [dI ((0 : Nat) : Int), .agg [a], .agg [b]]) rfl ?_
  exact go _ 0 (Nat.zero_add _) (Nat.zero_le _)
theorem sl_all {el sz : Nat} {e : Sh} {d : D} (h : HasSh (.sl el sz e) d) : ∀ x ∈ d.es, HasSh e x := by
  intro x hx
  obtain ⟨i, hi⟩ := List.getElem?_of_mem hx
  exact elem_of h hi
theorem h38 {a b : D} (h_a : HasSh (.st [.sl 98 3 (.st [.int .i64, .int .i64, .int .i64])]) a) (h_b : HasSh (.st [.sl 98 3 (.st [.int .i64, .int .i64, .int .i64])]) b) : Holds EE 38 [a, b] (dB (deq a b)) := by
  refine u38 rfl (Goes.step' ?_)
  obtain ⟨_, rfl, a_0, _, rfl, h_a_0, rfl⟩ := h_a
  obtain ⟨_, rfl, b_0, _, rfl, h_b_0, rfl⟩ := h_b
  have hs := lt_same (sl_all h_a_0) (sl_all h_b_0)
  have hd : deq (.agg [a_0]) (.agg [b_0]) = deqs a_0.es b_0.es := by
    rw [deq_agg, deqs_cons, deqs_nil, Bool.and_true, deq_es (isSl_of h_a_0) (isSl_of h_b_0)]
  rw [hd]
  show wp _ _ _ u38T0 _
  refine wp_bind (sh_chkW rfl) rfl ?_
  refine wp_bind (sh_chkW rfl) rfl ?_
  refine wp_call (h57 h_a_0 h_b_0) rfl rfl rfl ?_
  refine wp_bind sh_not rfl ?_
  refine wp_iteC rfl (fun c0 => ?_) (fun c0 => ?_)
  · refine wp_call (h57 h_b_0 h_a_0) rfl rfl rfl ?_
    refine wp_bind sh_not rfl ?_
    refine wp_retTo (d' := dB (!(ltL b_0.es a_0.es))) rfl (db_congr ?_)
    rw [c0, Bool.true_and] at hs
    exact hs
  · refine wp_retTo (d' := dB false) rfl (db_congr ?_)
    rw [c0, Bool.false_and] at hs
    exact hs
end Go.Proofs.YtbmjdlgfnoaocaaGreat
namespace Go.Proofs.YtbmjdlgfnoaocaaGreat
open Go Go.Am Go.Proofs
attribute [local irreducible] Go.Am.wp Go.Am.TOp.eval
theorem h26 {a b : D} (h_a : HasSh (.st [.int .i64, .int .i64, .int .i64, .sl 98 3 (.st [.int .i64, .int .i64, .int .i64])]) a) (h_b : HasSh (.st [.int .i64, .int .i64, .int .i64, .sl 98 3 (.st [.int .i64, .int .i64, .int .i64])]) b) : Holds EE 26 [a, b] (dB (deq a b)) := by
  refine u26 rfl (Goes.step' ?_)
  obtain ⟨_, rfl, _, _, rfl, ⟨a_0, rfl⟩, _, _, rfl, ⟨a_1, rfl⟩, _, _, rfl, ⟨a_2, rfl⟩, a_3, _, rfl, h_a_3, rfl⟩ := h_a
  have i_a_3 := isSl_of h_a_3
  obtain ⟨_, rfl, _, _, rfl, ⟨b_0, rfl⟩, _, _, rfl, ⟨b_1, rfl⟩, _, _, rfl, ⟨b_2, rfl⟩, b_3, _, rfl, h_b_3, rfl⟩ := h_b
  have i_b_3 := isSl_of h_b_3
  show wp _ _ _ u26T0 _
  refine wp_bind (sh_chkW rfl) rfl ?_
  refine wp_bind (sh_chkW rfl) rfl ?_
  refine wp_bind (sh_fldA rfl) rfl ?_
  refine wp_bind (sh_fldA rfl) rfl ?_
  refine wp_bind (sh_cmpS .eql (.inr rfl) ty50 st50 le4 gu50 rfl (shs_cons sh_int (shs_cons sh_int shs_nil)) (shs_cons sh_int (shs_cons sh_int shs_nil))) rfl ?_
  refine wp_iteC rfl (fun c0 => ?_) (fun c0 => ?_)
  · skip
    refine wp_bind (sh_fld1 (off := 2) rfl rfl) rfl ?_
    refine wp_bind (sh_fld1 (off := 2) rfl rfl) rfl ?_
    refine wp_bind sh_eql rfl ?_
    refine wp_iteC rfl (fun c1 => ?_) (fun c1 => ?_)
    · skip
      refine wp_bind (sh_fldA rfl) rfl ?_
      refine wp_bind (sh_fldA rfl) rfl ?_
      refine wp_call (h38 (sh_st (shs_cons h_a_3 shs_nil)) (sh_st (shs_cons h_b_3 shs_nil))) rfl rfl rfl ?_
      refine wp_retTo (d' := dB (deq (.agg [a_3]) (.agg [b_3]))) rfl (db_congr ?_)
      ((try simp only [deq_leaf, deq_agg, deqs_nil, deqs_cons, veq_int, veq_bool, veq_str] at c1 c0 ⊢); grind)
    · skip
      refine wp_retTo (d' := dB (false)) rfl (db_congr ?_)
      ((try simp only [deq_leaf, deq_agg, deqs_nil, deqs_cons, veq_int, veq_bool, veq_str] at c1 c0 ⊢); grind)
  · skip
    refine wp_retTo (d' := dB (false)) rfl (db_congr ?_)
    ((try simp only [deq_leaf, deq_agg, deqs_nil, deqs_cons, veq_int, veq_bool, veq_str] at c0 ⊢); grind)
theorem h5 {a b : D} (h_a : HasSh (.sl 50 2 (.st [.int .i64, .int .i64])) a) (h_b : HasSh (.sl 50 2 (.st [.int .i64, .int .i64])) b) : Holds EE 5 [a, b] (dB (deq a b)) := by
  refine u5 rfl (Goes.step' ?_)
  have i_a := isSl_of h_a
  have i_b := isSl_of h_b
  show wp _ _ _ u5T0 _
  refine wp_bindE (ρ' := [_, _, dI ((a.es.length : Nat) : Int)]) (sh_len i_a) rfl rfl ?_
  refine wp_bindE (ρ' := [_, _, _, dI ((b.es.length : Nat) : Int)]) (sh_len i_b) rfl rfl ?_
  refine wp_bindE (ρ' := [_, _, _, _, _]) sh_neq rfl rfl ?_
  refine wp_iteC rfl (fun c0 => ?_) (fun c0 => ?_)
  · have q0 := deq_len i_a i_b (len_ne c0)
    refine wp_retTo (d' := dB (false)) rfl (db_congr ?_)
    ((try simp only [deq_leaf, deq_agg, deqs_nil, deqs_cons, veq_int, veq_bool, veq_str] at q0 ⊢); grind)
  · have l_a_b := len_of c0
    refine wp_jumpTo rfl ?_
    refine loop_eq2 (ρ := fun i1 => [a, b, dI ((i1 : Nat) : Int)]) i_a i_b l_a_b (fun q1 => ?_) ?_ (fun q1 => ?_)
    · ((try simp only [deq_leaf, deq_agg, deqs_nil, deqs_cons, veq_int, veq_bool, veq_str] at q1 ⊢); grind)
    · intro i1 x1 y1 e_x1 e_y1 hi1 hj1
      obtain ⟨_, rfl, _, _, rfl, ⟨x1_0, rfl⟩, _, _, rfl, ⟨x1_1, rfl⟩, rfl⟩ := elem_of h_a e_x1
      obtain ⟨_, rfl, _, _, rfl, ⟨y1_0, rfl⟩, _, _, rfl, ⟨y1_1, rfl⟩, rfl⟩ := elem_of h_b e_y1
      show wp _ _ _ u5T1 _
      refine wp_bindE (ρ' := [_, _, _, dI ((a.es.length : Nat) : Int)]) (sh_len i_a) rfl rfl ?_
      refine wp_bindE (ρ' := [_, _, _, _, _]) sh_lss rfl rfl ?_
      refine wp_iteB rfl ?_
      rw [lt_true (show i1 < a.es.length by omega)]
      refine ite_t ?_
      refine wp_bindE (ρ' := [_, _, _, _, _, dB (true)]) (sh_inr e_x1) rfl rfl ?_
      refine wp_bindE (ρ' := [_, _, _, _, _, _, .agg [dI x1_0, dI x1_1]]) (sh_elemW i_a e_x1 rfl) rfl rfl ?_
      refine wp_bindE (ρ' := [_, _, _, _, _, _, _, dB (true)]) (sh_inr e_y1) rfl rfl ?_
      refine wp_bindE (ρ' := [_, _, _, _, _, _, _, _, .agg [dI y1_0, dI y1_1]]) (sh_elemW i_b e_y1 rfl) rfl rfl ?_
      refine wp_bindE (ρ' := [_, _, _, _, _, _, _, _, _, dB (!(deqs [dI x1_0, dI x1_1] [dI y1_0, dI y1_1]))]) (sh_cmpS .neq (.inl rfl) ty50 st50 le4 gu50 rfl (shs_cons sh_int (shs_cons sh_int shs_nil)) (shs_cons sh_int (shs_cons sh_int shs_nil))) rfl rfl ?_
      refine wp_iteC rfl (fun c2 => ?_) (fun c2 => ?_)
      · skip
        refine wp_retR rfl ?_
        clear hi1 hj1; ((try simp only [deq_leaf, deq_agg, deqs_nil, deqs_cons, veq_int, veq_bool, veq_str] at c2 ⊢); grind)
      · skip
        refine wp_bindE (ρ' := [_, _, _, _, _, _, _, _, _, _, dI ((i1 + 1 : Nat) : Int)]) (sh_add hj1) rfl rfl ?_
        refine wp_jumpR rfl ?_
        clear hi1 hj1; ((try simp only [deq_leaf, deq_agg, deqs_nil, deqs_cons, veq_int, veq_bool, veq_str] at c2 ⊢); grind)
    · show wp _ _ _ u5T1 _
      refine wp_bindE (ρ' := [_, _, _, dI ((a.es.length : Nat) : Int)]) (sh_len i_a) rfl rfl ?_
      refine wp_bindE (ρ' := [_, _, _, _, _]) sh_lss rfl rfl ?_
      refine wp_iteB rfl ?_
      rw [lt_false]
      refine ite_f ?_
      refine wp_retTo (d' := dB (true)) rfl (db_congr ?_)
      ((try simp only [deq_leaf, deq_agg, deqs_nil, deqs_cons, veq_int, veq_bool, veq_str] at q1 ⊢); grind)
theorem h11 {a b : D} (h_a : HasSh (.sl 60 4 (.st [.int .i64, .int .i64, .int .i64, .sl 98 3 (.st [.int .i64, .int .i64, .int .i64])])) a) (h_b : HasSh (.sl 60 4 (.st [.int .i64, .int .i64, .int .i64, .sl 98 3 (.st [.int .i64, .int .i64, .int .i64])])) b) : Holds EE 11 [a, b] (dB (deq a b)) := by
  refine u11 rfl (Goes.step' ?_)
  have i_a := isSl_of h_a
  have i_b := isSl_of h_b
  show wp _ _ _ u11T0 _
  refine wp_bindE (ρ' := [_, _, dI ((a.es.length : Nat) : Int)]) (sh_len i_a) rfl rfl ?_
  refine wp_bindE (ρ' := [_, _, _, dI ((b.es.length : Nat) : Int)]) (sh_len i_b) rfl rfl ?_
  refine wp_bindE (ρ' := [_, _, _, _, _]) sh_neq rfl rfl ?_
  refine wp_iteC rfl (fun c0 => ?_) (fun c0 => ?_)
  · have q0 := deq_len i_a i_b (len_ne c0)
    refine wp_retTo (d' := dB (false)) rfl (db_congr ?_)
    ((try simp only [deq_leaf, deq_agg, deqs_nil, deqs_cons, veq_int, veq_bool, veq_str] at q0 ⊢); grind)
  · have l_a_b := len_of c0
    refine wp_jumpTo rfl ?_
    refine loop_eq2 (ρ := fun i1 => [a, b, dI ((i1 : Nat) : Int)]) i_a i_b l_a_b (fun q1 => ?_) ?_ (fun q1 => ?_)
    · ((try simp only [deq_leaf, deq_agg, deqs_nil, deqs_cons, veq_int, veq_bool, veq_str] at q1 ⊢); grind)
    · intro i1 x1 y1 e_x1 e_y1 hi1 hj1
      obtain ⟨_, rfl, _, _, rfl, ⟨x1_0, rfl⟩, _, _, rfl, ⟨x1_1, rfl⟩, _, _, rfl, ⟨x1_2, rfl⟩, x1_3, _, rfl, h_x1_3, rfl⟩ := elem_of h_a e_x1
      have i_x1_3 := isSl_of h_x1_3
      obtain ⟨_, rfl, _, _, rfl, ⟨y1_0, rfl⟩, _, _, rfl, ⟨y1_1, rfl⟩, _, _, rfl, ⟨y1_2, rfl⟩, y1_3, _, rfl, h_y1_3, rfl⟩ := elem_of h_b e_y1
      have i_y1_3 := isSl_of h_y1_3
      show wp _ _ _ u11T1 _
      refine wp_bindE (ρ' := [_, _, _, dI ((a.es.length : Nat) : Int)]) (sh_len i_a) rfl rfl ?_
      refine wp_bindE (ρ' := [_, _, _, _, _]) sh_lss rfl rfl ?_
      refine wp_iteB rfl ?_
      rw [lt_true (show i1 < a.es.length by omega)]
      refine ite_t ?_
      refine wp_bindE (ρ' := [_, _, _, _, _, dB (true)]) (sh_inr e_x1) rfl rfl ?_
      refine wp_bindE (ρ' := [_, _, _, _, _, _, .agg [dI x1_0, dI x1_1, dI x1_2, x1_3]]) (sh_elemW i_a e_x1 rfl) rfl rfl ?_
      refine wp_bindE (ρ' := [_, _, _, _, _, _, _, dB (true)]) (sh_inr e_y1) rfl rfl ?_
      refine wp_bindE (ρ' := [_, _, _, _, _, _, _, _, .agg [dI y1_0, dI y1_1, dI y1_2, y1_3]]) (sh_elemW i_b e_y1 rfl) rfl rfl ?_
      refine wp_callE (ρ' := [_, _, _, _, _, _, _, _, _, dB (deq (.agg [dI x1_0, dI x1_1, dI x1_2, x1_3]) (.agg [dI y1_0, dI y1_1, dI y1_2, y1_3]))]) (h26 (sh_st (shs_cons sh_int (shs_cons sh_int (shs_cons sh_int (shs_cons h_x1_3 shs_nil))))) (sh_st (shs_cons sh_int (shs_cons sh_int (shs_cons sh_int (shs_cons h_y1_3 shs_nil)))))) rfl rfl rfl rfl ?_
      refine wp_bindE (ρ' := [_, _, _, _, _, _, _, _, _, _, dB (!(deq (.agg [dI x1_0, dI x1_1, dI x1_2, x1_3]) (.agg [dI y1_0, dI y1_1, dI y1_2, y1_3])))]) sh_not rfl rfl ?_
      refine wp_iteC rfl (fun c2 => ?_) (fun c2 => ?_)
      · skip
        refine wp_retR rfl ?_
        clear hi1 hj1; ((try simp only [deq_leaf, deq_agg, deqs_nil, deqs_cons, veq_int, veq_bool, veq_str] at c2 ⊢); grind)
      · skip
        refine wp_bindE (ρ' := [_, _, _, _, _, _, _, _, _, _, _, dI ((i1 + 1 : Nat) : Int)]) (sh_add hj1) rfl rfl ?_
        refine wp_jumpR rfl ?_
        clear hi1 hj1; ((try simp only [deq_leaf, deq_agg, deqs_nil, deqs_cons, veq_int, veq_bool, veq_str] at c2 ⊢); grind)
    · show wp _ _ _ u11T1 _
      refine wp_bindE (ρ' := [_, _, _, dI ((a.es.length : Nat) : Int)]) (sh_len i_a) rfl rfl ?_
      refine wp_bindE (ρ' := [_, _, _, _, _]) sh_lss rfl rfl ?_
      refine wp_iteB rfl ?_
      rw [lt_false]
      refine ite_f ?_
      refine wp_retTo (d' := dB (true)) rfl (db_congr ?_)
      ((try simp only [deq_leaf, deq_agg, deqs_nil, deqs_cons, veq_int, veq_bool, veq_str] at q1 ⊢); grind)
end Go.Proofs.YtbmjdlgfnoaocaaGreat
