/- An order of lists of parts, and what is the same by it. Conditions: none. -/
import Derived.Test.YtindbmgnapmdmaaGreatDoorWd
import Derived.Test.YtindbmgnapmdmaaGreatDoorUn
namespace Go.Proofs.YtindbmgnapmdmaaGreatDoor
open Go Go.Am Go.Proofs
attribute [local irreducible] Go.Am.wp Go.Am.TOp.eval
def bef (a0 a1 a2 b0 b1 b2 : Int) : Bool := if a0 = b0 then (if a1 = b1 then decide (a2 < b2) else decide (a1 < b1)) else decide (a0 < b0)
theorem h156 {a0 a1 a2 b0 b1 b2 : Int} : Holds EE 156 [.agg [dI a0, dI a1, dI a2], .agg [dI b0, dI b1, dI b2]] (dB (bef a0 a1 a2 b0 b1 b2)) := by
  refine u156 rfl (Goes.step' ?_)
  show wp _ _ _ u156T0 _
  refine wp_bind (sh_chkW rfl) rfl ?_
  refine wp_bind (sh_chkW rfl) rfl ?_
  refine wp_bind (sh_fld1 (off := 0) rfl rfl) rfl ?_
  refine wp_bind (sh_fld1 (off := 0) rfl rfl) rfl ?_
  refine wp_bind sh_neq rfl ?_
  refine wp_iteC rfl (fun c0 => ?_) (fun c0 => ?_)
  · refine wp_bind (sh_fld1 (off := 0) rfl rfl) rfl ?_
    refine wp_bind (sh_fld1 (off := 0) rfl rfl) rfl ?_
    refine wp_bind sh_lss rfl ?_
    refine wp_retTo (d' := dB (decide (a0 < b0))) rfl (db_congr ?_)
    unfold bef
    rw [if_neg (by simpa using c0)]
  · have e0 : a0 = b0 := by simpa using c0
    refine wp_bind (sh_fld1 (off := 1) rfl rfl) rfl ?_
    refine wp_bind (sh_fld1 (off := 1) rfl rfl) rfl ?_
    refine wp_bind sh_neq rfl ?_
    refine wp_iteC rfl (fun c1 => ?_) (fun c1 => ?_)
    · refine wp_bind (sh_fld1 (off := 1) rfl rfl) rfl ?_
      refine wp_bind (sh_fld1 (off := 1) rfl rfl) rfl ?_
      refine wp_bind sh_lss rfl ?_
      refine wp_retTo (d' := dB (decide (a1 < b1))) rfl (db_congr ?_)
      unfold bef
      rw [if_pos e0, if_neg (by simpa using c1)]
    · have e1 : a1 = b1 := by simpa using c1
      refine wp_bind (sh_fld1 (off := 2) rfl rfl) rfl ?_
      refine wp_bind (sh_fld1 (off := 2) rfl rfl) rfl ?_
      refine wp_bind sh_lss rfl ?_
      refine wp_retTo (d' := dB (decide (a2 < b2))) rfl (db_congr ?_)
      unfold bef
      rw [if_pos e0, if_pos e1]
def befD (x y : D) : Bool := match x, y with
  | .agg [.leaf (.int _ a0), .leaf (.int _ a1), .leaf (.int _ a2)], .agg [.leaf (.int _ b0), .leaf (.int _ b1), .leaf (.int _ b2)] => bef a0 a1 a2 b0 b1 b2
  | _, _ => false
def ltL : List D → List D → Bool
  | [], [] => false
  | [], _ :: _ => true
  | _ :: _, [] => false
  | x :: us, y :: vs => if deq x y then ltL us vs else befD x y
abbrev ShP : Sh := .st [.int .i64, .int .i64, .int .i64]
theorem part_of {x : D} (h : HasSh ShP x) : ∃ a0 a1 a2, x = .agg [dI a0, dI a1, dI a2] := by
  obtain ⟨_, rfl, _, _, rfl, ⟨a0, rfl⟩, _, _, rfl, ⟨a1, rfl⟩, _, _, rfl, ⟨a2, rfl⟩, rfl⟩ := h
  exact ⟨a0, a1, a2, rfl⟩
theorem deq_part {a0 a1 a2 b0 b1 b2 : Int} : deq (.agg [dI a0, dI a1, dI a2]) (.agg [dI b0, dI b1, dI b2]) = (decide (a0 = b0) && (decide (a1 = b1) && (decide (a2 = b2) && true))) := by
  simp only [deq_agg, deqs_cons, deqs_nil, deq_leaf, veq_int]
theorem lt_same : ∀ {us vs : List D}, (∀ x ∈ us, HasSh ShP x) → (∀ x ∈ vs, HasSh ShP x) → (!(ltL us vs) && !(ltL vs us)) = deqs us vs
  | [], [], _, _ => by simp [ltL, deqs]
  | [], _ :: _, _, _ => by simp [ltL, deqs]
  | _ :: _, [], _, _ => by simp [ltL, deqs]
  | x :: us, y :: vs, ha, hb => by
    have ih := lt_same (us := us) (vs := vs) (fun x h => ha x (List.mem_cons_of_mem _ h)) (fun x h => hb x (List.mem_cons_of_mem _ h))
    obtain ⟨a0, a1, a2, rfl⟩ := part_of (ha x List.mem_cons_self)
    obtain ⟨b0, b1, b2, rfl⟩ := part_of (hb y List.mem_cons_self)
    rw [deqs_cons]
    simp only [ltL, befD]
    rw [deq_part, deq_part]
    by_cases h0 : a0 = b0
    · by_cases h1 : a1 = b1
      · by_cases h2 : a2 = b2
        · subst h0; subst h1; subst h2
          simp only [decide_true, Bool.and_self, if_true, Bool.true_and]
          exact ih
        · have h3 : ¬ b2 = a2 := fun e => h2 e.symm
          subst h0; subst h1
          simp only [bef, h2, h3, decide_true, decide_false, Bool.and_true, Bool.and_false, Bool.false_and, if_true, if_false, Bool.false_eq_true]
          by_cases h : a2 < b2
          · simp [h]
          · have : b2 < a2 := by omega
            simp [this]
      · have h3 : ¬ b1 = a1 := fun e => h1 e.symm
        subst h0
        simp only [bef, h1, h3, decide_true, decide_false, Bool.and_true, Bool.and_false, Bool.false_and, if_true, if_false, Bool.false_eq_true]
        by_cases h : a1 < b1
        · simp [h]
        · have : b1 < a1 := by omega
          simp [this]
    · have h3 : ¬ b0 = a0 := fun e => h0 e.symm
      simp only [bef, h0, h3, decide_false, Bool.false_and, if_false, Bool.false_eq_true]
      by_cases h : a0 < b0
      · simp [h]
      · have : b0 < a0 := by omega
        simp [this]
abbrev ShA : Sh := .st [.sl 154 3 ShP]
theorem h113 {a b : D} (h_a : HasSh (.sl 154 3 ShP) a) (h_b : HasSh (.sl 154 3 ShP) b) : Holds EE 113 [.agg [a], .agg [b]] (dB (ltL a.es b.es)) := by
  refine u113 rfl (Goes.step' ?_)
  have i_a := isSl_of h_a
  have i_b := isSl_of h_b
  have go : ∀ m i, i + m = a.es.length → i ≤ b.es.length → Goes EE (Holds EE) u113Ts 1 [dI ((i : Nat) : Int), .agg [a], .agg [b]] (dB (ltL (a.es.drop i) (b.es.drop i))) := by
    intro m
    induction m with
    | zero =>
      intro i hi hb
      have hi : i = a.es.length := hi
      refine Goes.step' ?_
      show wp _ _ _ u113T1 _
      refine wp_bind (sh_fld1 (off := 0) rfl i_a.one) rfl ?_
      refine wp_bind (sh_len i_a) rfl ?_
      refine wp_bind sh_lss rfl ?_
      refine wp_iteB rfl ?_
      rw [hi, lt_false]
      refine ite_f ?_
      refine wp_bind (sh_fld1 (off := 0) rfl i_a.one) rfl ?_
      refine wp_bind (sh_len i_a) rfl ?_
      refine wp_bind (sh_fld1 (off := 0) rfl i_b.one) rfl ?_
      refine wp_bind (sh_len i_b) rfl ?_
      refine wp_bind sh_lss rfl ?_
      refine wp_retTo (d' := dB (decide ((a.es.length : Int) < (b.es.length : Int)))) rfl (db_congr ?_)
      rw [List.drop_length]
      rw [hi] at hb
      cases hd : b.es.drop a.es.length with
      | nil =>
        have : b.es.length ≤ a.es.length := by simpa using hd
        simp only [ltL]
        exact decide_eq_false (by omega)
      | cons y ys =>
        have : (b.es.drop a.es.length).length ≠ 0 := by rw [hd]; simp
        simp only [ltL]
        rw [List.length_drop] at this
        exact decide_eq_true (by omega)
    | succ m ih =>
      intro i hi hb
      have hla : i < a.es.length := by omega
      have hj : i + 1 < capX := by have := sh_lt i_a; omega
      have ea : a.es[i]? = some a.es[i] := List.getElem?_eq_getElem hla
      refine Goes.step' ?_
      show wp _ _ _ u113T1 _
      refine wp_bind (sh_fld1 (off := 0) rfl i_a.one) rfl ?_
      refine wp_bind (sh_len i_a) rfl ?_
      refine wp_bind sh_lss rfl ?_
      refine wp_iteB rfl ?_
      rw [lt_true hla]
      refine ite_t ?_
      refine wp_bind (sh_fld1 (off := 0) rfl i_b.one) rfl ?_
      refine wp_bind (sh_len i_b) rfl ?_
      refine wp_bind sh_lss rfl ?_
      refine wp_iteC rfl (fun c0 => ?_) (fun c0 => ?_)
      · have hlb : i < b.es.length := by have := of_decide_eq_true c0; omega
        have eb : b.es[i]? = some b.es[i] := List.getElem?_eq_getElem hlb
        have da : a.es.drop i = a.es[i] :: a.es.drop (i + 1) := List.drop_eq_getElem_cons hla
        have db : b.es.drop i = b.es[i] :: b.es.drop (i + 1) := List.drop_eq_getElem_cons hlb
        obtain ⟨a0, a1, a2, xe⟩ := part_of (elem_of h_a ea)
        obtain ⟨b0, b1, b2, ye⟩ := part_of (elem_of h_b eb)
        have nx := ih (i + 1) (by omega) hlb
        rw [da, db, xe, ye]
        rw [xe] at ea
        rw [ye] at eb
        refine wp_bind (sh_fld1 (off := 0) rfl i_a.one) rfl ?_
        refine wp_bind (sh_inr ea) rfl ?_
        refine wp_bind (sh_elemW i_a ea rfl) rfl ?_
        refine wp_bind (sh_fld1 (off := 0) rfl i_b.one) rfl ?_
        refine wp_bind (sh_inr eb) rfl ?_
        refine wp_bindE (ρ' := [_, _, _, _, _, _, _, _, _, _, _, _, _, _, .agg [dI b0, dI b1, dI b2]]) (sh_elemW i_b eb rfl) rfl rfl ?_
        refine wp_bind (sh_cmpS .neq (.inl rfl) ty154 st154 le4 gu154 rfl (shs_cons sh_int (shs_cons sh_int (shs_cons sh_int shs_nil))) (shs_cons sh_int (shs_cons sh_int (shs_cons sh_int shs_nil)))) rfl ?_
        refine wp_iteC rfl (fun c1 => ?_) (fun c1 => ?_)
        · have hne : deq (.agg [dI a0, dI a1, dI a2]) (.agg [dI b0, dI b1, dI b2]) = false := by rw [deq_agg]; simpa using c1
          refine wp_bind (sh_fld1 (off := 0) rfl i_a.one) rfl ?_
          refine wp_bind (sh_inr ea) rfl ?_
          refine wp_bind (sh_elemW i_a ea rfl) rfl ?_
          refine wp_bind (sh_fld1 (off := 0) rfl i_b.one) rfl ?_
          refine wp_bind (sh_inr eb) rfl ?_
          refine wp_bind (sh_elemW i_b eb rfl) rfl ?_
          refine wp_call h156 rfl rfl rfl ?_
          refine wp_retTo (d' := dB (bef a0 a1 a2 b0 b1 b2)) rfl (db_congr ?_)
          simp only [ltL, hne, Bool.false_eq_true, if_false, befD]
        · have heq : deq (.agg [dI a0, dI a1, dI a2]) (.agg [dI b0, dI b1, dI b2]) = true := by rw [deq_agg]; simpa using c1
          refine wp_bind (sh_add hj) rfl ?_
          refine wp_jumpTo (ds := [dI ((i + 1 : Nat) : Int), .agg [a], .agg [b]]) rfl ?_
          simp only [ltL, heq, if_true]
          exact nx
      · have hlb : b.es.length = i := by have := of_decide_eq_false c0; omega
        refine wp_bind (sh_fld1 (off := 0) rfl i_a.one) rfl ?_
        refine wp_bind (sh_len i_a) rfl ?_
        refine wp_bind (sh_fld1 (off := 0) rfl i_b.one) rfl ?_
        refine wp_bind (sh_len i_b) rfl ?_
        refine wp_bind sh_lss rfl ?_
        refine wp_retTo (d' := dB (decide ((a.es.length : Int) < (b.es.length : Int)))) rfl (db_congr ?_)
        have da : a.es.drop i = a.es[i] :: a.es.drop (i + 1) := List.drop_eq_getElem_cons hla
        have db : b.es.drop i = [] := by rw [List.drop_eq_nil_iff]; omega
        rw [da, db]
        simp only [ltL]
        exact decide_eq_false (by omega)
  show wp _ _ _ u113T0 _
  refine wp_bind (sh_chkW rfl) rfl ?_
  refine wp_bind (sh_chkW rfl) rfl ?_
  refine wp_jumpTo (ds := [dI ((0 : Nat) : Int), .agg [a], .agg [b]]) rfl ?_
  exact go _ 0 (Nat.zero_add _) (Nat.zero_le _)
theorem sl_all {el sz : Nat} {e : Sh} {d : D} (h : HasSh (.sl el sz e) d) : ∀ x ∈ d.es, HasSh e x := by
  intro x hx
  obtain ⟨i, hi⟩ := List.getElem?_of_mem hx
  exact elem_of h hi
/- 72 langdoc/langdocref29.Same -/
theorem h72 {a b : D} (h_a : HasSh (.st [.sl 154 3 (.st [.int .i64, .int .i64, .int .i64])]) a) (h_b : HasSh (.st [.sl 154 3 (.st [.int .i64, .int .i64, .int .i64])]) b) : Holds EE 72 [a, b] (dB (deq a b)) := by
  refine u72 rfl (Goes.step' ?_)
  obtain ⟨_, rfl, a_0, _, rfl, h_a_0, rfl⟩ := h_a
  obtain ⟨_, rfl, b_0, _, rfl, h_b_0, rfl⟩ := h_b
  have hs := lt_same (sl_all h_a_0) (sl_all h_b_0)
  have hd : deq (.agg [a_0]) (.agg [b_0]) = deqs a_0.es b_0.es := by
    rw [deq_agg, deqs_cons, deqs_nil, Bool.and_true, deq_es (isSl_of h_a_0) (isSl_of h_b_0)]
  rw [hd]
  show wp _ _ _ u72T0 _
  refine wp_bind (sh_chkW rfl) rfl ?_
  refine wp_bind (sh_chkW rfl) rfl ?_
  refine wp_call (h113 h_a_0 h_b_0) rfl rfl rfl ?_
  refine wp_bind sh_not rfl ?_
  refine wp_iteC rfl (fun c0 => ?_) (fun c0 => ?_)
  · refine wp_call (h113 h_b_0 h_a_0) rfl rfl rfl ?_
    refine wp_bind sh_not rfl ?_
    refine wp_retTo (d' := dB (!(ltL b_0.es a_0.es))) rfl (db_congr ?_)
    rw [c0, Bool.true_and] at hs
    exact hs
  · refine wp_retTo (d' := dB false) rfl (db_congr ?_)
    rw [c0, Bool.false_and] at hs
    exact hs
end Go.Proofs.YtindbmgnapmdmaaGreatDoor
namespace Go.Proofs.YtindbmgnapmdmaaGreatDoor
open Go Go.Am Go.Proofs
attribute [local irreducible] Go.Am.wp Go.Am.TOp.eval
/- 23 langdoc/langdocref31.Same -/
theorem h23 {a b : D} (h_a : HasSh (.sl 117 4 (.st [.int .i64, .int .i64, .bool, .sl 154 3 (.st [.int .i64, .int .i64, .int .i64])])) a) (h_b : HasSh (.sl 117 4 (.st [.int .i64, .int .i64, .bool, .sl 154 3 (.st [.int .i64, .int .i64, .int .i64])])) b) : Holds EE 23 [a, b] (dB (deq a b)) := by
  refine u23 rfl (Goes.step' ?_)
  have i_a := isSl_of h_a
  have i_b := isSl_of h_b
  show wp _ _ _ u23T0 _
  refine wp_bindE (ρ' := [_, _, dI ((a.es.length : Nat) : Int)]) (sh_len i_a) rfl rfl ?_
  refine wp_bindE (ρ' := [_, _, _, dI ((b.es.length : Nat) : Int)]) (sh_len i_b) rfl rfl ?_
  refine wp_bindE (ρ' := [_, _, _, _, _]) sh_neq rfl rfl ?_
  refine wp_iteC rfl (fun c0 => ?_) (fun c0 => ?_)
  · have q0 := deq_len i_a i_b (len_ne c0)
    refine wp_retTo (d' := dB (false)) rfl (db_congr ?_)
    ((try simp only [deq_leaf, deq_agg, deqs_nil, deqs_cons, veq_int, veq_bool, veq_str] at q0 ⊢); grind)
  · have l_a_b := len_of c0
    refine wp_bindE (ρ' := [_, _, _, _, _, dI ((a.es.length : Nat) : Int)]) (sh_len i_a) rfl rfl ?_
    refine wp_jumpTo rfl ?_
    refine loop_eq2 (ρ := fun i1 => [a, b, dI ((a.es.length : Nat) : Int), dI ((i1 : Nat) : Int)]) i_a i_b l_a_b (fun q1 => ?_) ?_ (fun q1 => ?_)
    · ((try simp only [deq_leaf, deq_agg, deqs_nil, deqs_cons, veq_int, veq_bool, veq_str] at q1 ⊢); grind)
    · intro i1 x1 y1 e_x1 e_y1 hi1 hj1
      obtain ⟨_, rfl, _, _, rfl, ⟨x1_0, rfl⟩, _, _, rfl, ⟨x1_1, rfl⟩, _, _, rfl, ⟨x1_2, rfl⟩, x1_3, _, rfl, h_x1_3, rfl⟩ := elem_of h_a e_x1
      have i_x1_3 := isSl_of h_x1_3
      obtain ⟨_, rfl, _, _, rfl, ⟨y1_0, rfl⟩, _, _, rfl, ⟨y1_1, rfl⟩, _, _, rfl, ⟨y1_2, rfl⟩, y1_3, _, rfl, h_y1_3, rfl⟩ := elem_of h_b e_y1
      have i_y1_3 := isSl_of h_y1_3
      show wp _ _ _ u23T1 _
      refine wp_bindE (ρ' := [_, _, _, _, _]) sh_lss rfl rfl ?_
      refine wp_iteB rfl ?_
      rw [lt_true (show i1 < a.es.length by omega)]
      refine ite_t ?_
      refine wp_bindE (ρ' := [_, _, _, _, _, dB (true)]) (sh_inr e_x1) rfl rfl ?_
      refine wp_bindE (ρ' := [_, _, _, _, _, _, .agg [dI x1_0, dI x1_1]]) (sh_elemA (size := 2) (off := 0) i_a e_x1 rfl (by decide) (by decide)) rfl rfl ?_
      refine wp_bindE (ρ' := [_, _, _, _, _, _, _, dB (true)]) (sh_inr e_y1) rfl rfl ?_
      refine wp_bindE (ρ' := [_, _, _, _, _, _, _, _, .agg [dI y1_0, dI y1_1]]) (sh_elemA (size := 2) (off := 0) i_b e_y1 rfl (by decide) (by decide)) rfl rfl ?_
      refine wp_bindE (ρ' := [_, _, _, _, _, _, _, _, _, dB (!(deqs [dI x1_0, dI x1_1] [dI y1_0, dI y1_1]))]) (sh_cmpS .neq (.inl rfl) ty74 st74 le4 gu74 rfl (shs_cons sh_int (shs_cons sh_int shs_nil)) (shs_cons sh_int (shs_cons sh_int shs_nil))) rfl rfl ?_
      refine wp_iteC rfl (fun c2 => ?_) (fun c2 => ?_)
      · skip
        refine wp_retR rfl ?_
        clear hi1 hj1; ((try simp only [deq_leaf, deq_agg, deqs_nil, deqs_cons, veq_int, veq_bool] at c2 ⊢); grind)
      · skip
        refine wp_bindE (ρ' := [_, _, _, _, _, _, _, _, _, _, dB (true)]) (sh_inr e_x1) rfl rfl ?_
        refine wp_bindE (ρ' := [_, _, _, _, _, _, _, _, _, _, _, dB (x1_2)]) (sh_elemP (off := 2) i_a e_x1 rfl rfl (by decide)) rfl rfl ?_
        refine wp_bindE (ρ' := [_, _, _, _, _, _, _, _, _, _, _, _, dB (true)]) (sh_inr e_y1) rfl rfl ?_
        refine wp_bindE (ρ' := [_, _, _, _, _, _, _, _, _, _, _, _, _, dB (y1_2)]) (sh_elemP (off := 2) i_b e_y1 rfl rfl (by decide)) rfl rfl ?_
        refine wp_bindE (ρ' := [_, _, _, _, _, _, _, _, _, _, _, _, _, _, dB (!(decide (x1_2 = y1_2)))]) (sh_cmpB .neq (.inl rfl) ty4 st4) rfl rfl ?_
        refine wp_iteC rfl (fun c3 => ?_) (fun c3 => ?_)
        · skip
          refine wp_retR rfl ?_
          clear hi1 hj1; ((try simp only [deq_leaf, deq_agg, deqs_nil, deqs_cons, veq_int, veq_bool] at c3 c2 ⊢); grind)
        · skip
          refine wp_bindE (ρ' := [_, _, _, _, _, _, _, _, _, _, _, _, _, _, _, dB (true)]) (sh_inr e_x1) rfl rfl ?_
          refine wp_bindE (ρ' := [_, _, _, _, _, _, _, _, _, _, _, _, _, _, _, _, .agg [x1_3]]) (sh_elemA (size := 1) (off := 3) i_a e_x1 rfl (by decide) (by decide)) rfl rfl ?_
          refine wp_bindE (ρ' := [_, _, _, _, _, _, _, _, _, _, _, _, _, _, _, _, _, dB (true)]) (sh_inr e_y1) rfl rfl ?_
          refine wp_bindE (ρ' := [_, _, _, _, _, _, _, _, _, _, _, _, _, _, _, _, _, _, .agg [y1_3]]) (sh_elemA (size := 1) (off := 3) i_b e_y1 rfl (by decide) (by decide)) rfl rfl ?_
          refine wp_callE (ρ' := [_, _, _, _, _, _, _, _, _, _, _, _, _, _, _, _, _, _, _, dB (deq (.agg [x1_3]) (.agg [y1_3]))]) (h72 (sh_st (shs_cons h_x1_3 shs_nil)) (sh_st (shs_cons h_y1_3 shs_nil))) rfl rfl rfl rfl ?_
          refine wp_bindE (ρ' := [_, _, _, _, _, _, _, _, _, _, _, _, _, _, _, _, _, _, _, _, dB (!(deq (.agg [x1_3]) (.agg [y1_3])))]) sh_not rfl rfl ?_
          refine wp_iteC rfl (fun c4 => ?_) (fun c4 => ?_)
          · skip
            refine wp_retR rfl ?_
            clear hi1 hj1; ((try simp only [deq_leaf, deq_agg, deqs_nil, deqs_cons, veq_int, veq_bool] at c4 c3 c2 ⊢); grind)
          · skip
            refine wp_bindE (ρ' := [_, _, _, _, _, _, _, _, _, _, _, _, _, _, _, _, _, _, _, _, _, dI ((i1 + 1 : Nat) : Int)]) (sh_add hj1) rfl rfl ?_
            refine wp_jumpR rfl ?_
            clear hi1 hj1; ((try simp only [deq_leaf, deq_agg, deqs_nil, deqs_cons, veq_int, veq_bool] at c4 c3 c2 ⊢); grind)
    · show wp _ _ _ u23T1 _
      refine wp_bindE (ρ' := [_, _, _, _, _]) sh_lss rfl rfl ?_
      refine wp_iteB rfl ?_
      rw [lt_false]
      refine ite_f ?_
      refine wp_retTo (d' := dB (true)) rfl (db_congr ?_)
      ((try simp only [deq_leaf, deq_agg, deqs_nil, deqs_cons, veq_int, veq_bool, veq_str] at q1 ⊢); grind)
/- 25 langdoc/langdocref48.SameRights -/
theorem h25 {a b : D} (h_a : HasSh (.st [.sl 96 3 (.st [.int .i64, .str, .bool]), .sl 158 4 (.st [.int .i64, .str, .sl 3 1 (.int .i64), .sl 3 1 (.int .i64)]), .sl 98 4 (.st [.int .i64, .int .i64, .int .i64, .int .i64]), .sl 163 6 (.st [.int .i64, .int .i64, .int .i64, .int .i64, .sl 3 1 (.int .i64), .int .i64])]) a) (h_b : HasSh (.st [.sl 96 3 (.st [.int .i64, .str, .bool]), .sl 158 4 (.st [.int .i64, .str, .sl 3 1 (.int .i64), .sl 3 1 (.int .i64)]), .sl 98 4 (.st [.int .i64, .int .i64, .int .i64, .int .i64]), .sl 163 6 (.st [.int .i64, .int .i64, .int .i64, .int .i64, .sl 3 1 (.int .i64), .int .i64])]) b) : Holds EE 25 [a, b] (dB (deq a b)) := by
  refine u25 rfl (Goes.step' ?_)
  obtain ⟨_, rfl, a_0, _, rfl, h_a_0, a_1, _, rfl, h_a_1, a_2, _, rfl, h_a_2, a_3, _, rfl, h_a_3, rfl⟩ := h_a
  have i_a_0 := isSl_of h_a_0
  have i_a_1 := isSl_of h_a_1
  have i_a_2 := isSl_of h_a_2
  have i_a_3 := isSl_of h_a_3
  obtain ⟨_, rfl, b_0, _, rfl, h_b_0, b_1, _, rfl, h_b_1, b_2, _, rfl, h_b_2, b_3, _, rfl, h_b_3, rfl⟩ := h_b
  have i_b_0 := isSl_of h_b_0
  have i_b_1 := isSl_of h_b_1
  have i_b_2 := isSl_of h_b_2
  have i_b_3 := isSl_of h_b_3
  show wp _ _ _ u25T0 _
  refine wp_bindE (ρ' := [_, _, .agg [a_0, a_1, a_2, a_3]]) (sh_chkW rfl) rfl rfl ?_
  refine wp_bindE (ρ' := [_, _, _, .agg [b_0, b_1, b_2, b_3]]) (sh_chkW rfl) rfl rfl ?_
  refine wp_bindE (ρ' := [_, _, _, _, a_0]) (sh_fld1 (off := 0) rfl i_a_0.one) rfl rfl ?_
  refine wp_bindE (ρ' := [_, _, _, _, _, dI ((a_0.es.length : Nat) : Int)]) (sh_len i_a_0) rfl rfl ?_
  refine wp_bindE (ρ' := [_, _, _, _, _, _, b_0]) (sh_fld1 (off := 0) rfl i_b_0.one) rfl rfl ?_
  refine wp_bindE (ρ' := [_, _, _, _, _, _, _, dI ((b_0.es.length : Nat) : Int)]) (sh_len i_b_0) rfl rfl ?_
  refine wp_bindE (ρ' := [_, _, _, _, _, _, _, _, _]) sh_neq rfl rfl ?_
  refine wp_iteC rfl (fun c0 => ?_) (fun c0 => ?_)
  · have q0 := deq_len i_a_0 i_b_0 (len_ne c0)
    refine wp_retTo (d' := dB (false)) rfl (db_congr ?_)
    ((try simp only [deq_agg, deqs_nil, deqs_cons] at q0 ⊢); grind)
  · have l_a_0_b_0 := len_of c0
    refine wp_bindE (ρ' := [_, _, _, _, _, _, _, _, _, a_2]) (sh_fld1 (off := 2) rfl i_a_2.one) rfl rfl ?_
    refine wp_bindE (ρ' := [_, _, _, _, _, _, _, _, _, _, dI ((a_2.es.length : Nat) : Int)]) (sh_len i_a_2) rfl rfl ?_
    refine wp_bindE (ρ' := [_, _, _, _, _, _, _, _, _, _, _, b_2]) (sh_fld1 (off := 2) rfl i_b_2.one) rfl rfl ?_
    refine wp_bindE (ρ' := [_, _, _, _, _, _, _, _, _, _, _, _, dI ((b_2.es.length : Nat) : Int)]) (sh_len i_b_2) rfl rfl ?_
    refine wp_bindE (ρ' := [_, _, _, _, _, _, _, _, _, _, _, _, _, _]) sh_neq rfl rfl ?_
    refine wp_iteC rfl (fun c1 => ?_) (fun c1 => ?_)
    · have q1 := deq_len i_a_2 i_b_2 (len_ne c1)
      refine wp_retTo (d' := dB (false)) rfl (db_congr ?_)
      ((try simp only [deq_agg, deqs_nil, deqs_cons] at q1 ⊢); grind)
    · have l_a_2_b_2 := len_of c1
      refine wp_jumpTo rfl ?_
      refine loop_eq2 (ρ := fun i2 => [dI ((i2 : Nat) : Int), .agg [a_0, a_1, a_2, a_3], .agg [b_0, b_1, b_2, b_3]]) i_a_0 i_b_0 l_a_0_b_0 (fun q2 => ?_) ?_ (fun q2 => ?_)
      · ((try simp only [deq_agg, deqs_nil, deqs_cons] at q2 ⊢); grind)
      · intro i2 x2 y2 e_x2 e_y2 hi2 hj2
        obtain ⟨_, rfl, _, _, rfl, ⟨x2_0, rfl⟩, _, _, rfl, ⟨x2_1, rfl⟩, _, _, rfl, ⟨x2_2, rfl⟩, rfl⟩ := elem_of h_a_0 e_x2
        obtain ⟨_, rfl, _, _, rfl, ⟨y2_0, rfl⟩, _, _, rfl, ⟨y2_1, rfl⟩, _, _, rfl, ⟨y2_2, rfl⟩, rfl⟩ := elem_of h_b_0 e_y2
        show wp _ _ _ u25T1 _
        refine wp_bindE (ρ' := [_, _, _, a_0]) (sh_fld1 (off := 0) rfl i_a_0.one) rfl rfl ?_
        refine wp_bindE (ρ' := [_, _, _, _, dI ((a_0.es.length : Nat) : Int)]) (sh_len i_a_0) rfl rfl ?_
        refine wp_bindE (ρ' := [_, _, _, _, _, _]) sh_lss rfl rfl ?_
        refine wp_iteB rfl ?_
        rw [lt_true (show i2 < a_0.es.length by omega)]
        refine ite_t ?_
        refine wp_bindE (ρ' := [_, _, _, _, _, _, a_0]) (sh_fld1 (off := 0) rfl i_a_0.one) rfl rfl ?_
        refine wp_bindE (ρ' := [_, _, _, _, _, _, _, dB (true)]) (sh_inr e_x2) rfl rfl ?_
        refine wp_bindE (ρ' := [_, _, _, _, _, _, _, _, .agg [dI x2_0, .leaf (.string x2_1), dB (x2_2)]]) (sh_elemW i_a_0 e_x2 rfl) rfl rfl ?_
        refine wp_bindE (ρ' := [_, _, _, _, _, _, _, _, _, b_0]) (sh_fld1 (off := 0) rfl i_b_0.one) rfl rfl ?_
        refine wp_bindE (ρ' := [_, _, _, _, _, _, _, _, _, _, dB (true)]) (sh_inr e_y2) rfl rfl ?_
        refine wp_bindE (ρ' := [_, _, _, _, _, _, _, _, _, _, _, .agg [dI y2_0, .leaf (.string y2_1), dB (y2_2)]]) (sh_elemW i_b_0 e_y2 rfl) rfl rfl ?_
        refine wp_bindE (ρ' := [_, _, _, _, _, _, _, _, _, _, _, _, dB (!(deqs [dI x2_0, .leaf (.string x2_1), dB (x2_2)] [dI y2_0, .leaf (.string y2_1), dB (y2_2)]))]) (sh_cmpS .neq (.inl rfl) ty96 st96 le4 gu96 rfl (shs_cons sh_int (shs_cons sh_str (shs_cons sh_bool shs_nil))) (shs_cons sh_int (shs_cons sh_str (shs_cons sh_bool shs_nil)))) rfl rfl ?_
        refine wp_iteC rfl (fun c3 => ?_) (fun c3 => ?_)
        · skip
          refine wp_retR rfl ?_
          clear hi2 hj2; ((try simp only [deq_leaf, deq_agg, deqs_nil, deqs_cons, veq_int, veq_bool, veq_str] at c3 ⊢); grind)
        · skip
          refine wp_bindE (ρ' := [_, _, _, _, _, _, _, _, _, _, _, _, _, dI ((i2 + 1 : Nat) : Int)]) (sh_add hj2) rfl rfl ?_
          refine wp_jumpR rfl ?_
          clear hi2 hj2; ((try simp only [deq_leaf, deq_agg, deqs_nil, deqs_cons, veq_int, veq_bool, veq_str] at c3 ⊢); grind)
      · show wp _ _ _ u25T1 _
        refine wp_bindE (ρ' := [_, _, _, a_0]) (sh_fld1 (off := 0) rfl i_a_0.one) rfl rfl ?_
        refine wp_bindE (ρ' := [_, _, _, _, dI ((a_0.es.length : Nat) : Int)]) (sh_len i_a_0) rfl rfl ?_
        refine wp_bindE (ρ' := [_, _, _, _, _, _]) sh_lss rfl rfl ?_
        refine wp_iteB rfl ?_
        rw [lt_false]
        refine ite_f ?_
        refine wp_jumpTo rfl ?_
        refine loop_eq2 (ρ := fun i3 => [dI ((i3 : Nat) : Int), .agg [a_0, a_1, a_2, a_3], .agg [b_0, b_1, b_2, b_3]]) i_a_2 i_b_2 l_a_2_b_2 (fun q3 => ?_) ?_ (fun q3 => ?_)
        · ((try simp only [deq_agg, deqs_nil, deqs_cons] at q3 q2 ⊢); grind)
        · intro i3 x3 y3 e_x3 e_y3 hi3 hj3
          obtain ⟨_, rfl, _, _, rfl, ⟨x3_0, rfl⟩, _, _, rfl, ⟨x3_1, rfl⟩, _, _, rfl, ⟨x3_2, rfl⟩, _, _, rfl, ⟨x3_3, rfl⟩, rfl⟩ := elem_of h_a_2 e_x3
          obtain ⟨_, rfl, _, _, rfl, ⟨y3_0, rfl⟩, _, _, rfl, ⟨y3_1, rfl⟩, _, _, rfl, ⟨y3_2, rfl⟩, _, _, rfl, ⟨y3_3, rfl⟩, rfl⟩ := elem_of h_b_2 e_y3
          show wp _ _ _ u25T2 _
          refine wp_bindE (ρ' := [_, _, _, a_2]) (sh_fld1 (off := 2) rfl i_a_2.one) rfl rfl ?_
          refine wp_bindE (ρ' := [_, _, _, _, dI ((a_2.es.length : Nat) : Int)]) (sh_len i_a_2) rfl rfl ?_
          refine wp_bindE (ρ' := [_, _, _, _, _, _]) sh_lss rfl rfl ?_
          refine wp_iteB rfl ?_
          rw [lt_true (show i3 < a_2.es.length by omega)]
          refine ite_t ?_
          refine wp_bindE (ρ' := [_, _, _, _, _, _, a_2]) (sh_fld1 (off := 2) rfl i_a_2.one) rfl rfl ?_
          refine wp_bindE (ρ' := [_, _, _, _, _, _, _, dB (true)]) (sh_inr e_x3) rfl rfl ?_
          refine wp_bindE (ρ' := [_, _, _, _, _, _, _, _, .agg [dI x3_0, dI x3_1, dI x3_2, dI x3_3]]) (sh_elemW i_a_2 e_x3 rfl) rfl rfl ?_
          refine wp_bindE (ρ' := [_, _, _, _, _, _, _, _, _, b_2]) (sh_fld1 (off := 2) rfl i_b_2.one) rfl rfl ?_
          refine wp_bindE (ρ' := [_, _, _, _, _, _, _, _, _, _, dB (true)]) (sh_inr e_y3) rfl rfl ?_
          refine wp_bindE (ρ' := [_, _, _, _, _, _, _, _, _, _, _, .agg [dI y3_0, dI y3_1, dI y3_2, dI y3_3]]) (sh_elemW i_b_2 e_y3 rfl) rfl rfl ?_
          refine wp_bindE (ρ' := [_, _, _, _, _, _, _, _, _, _, _, _, dB (!(deqs [dI x3_0, dI x3_1, dI x3_2, dI x3_3] [dI y3_0, dI y3_1, dI y3_2, dI y3_3]))]) (sh_cmpS .neq (.inl rfl) ty98 st98 le4 gu98 rfl (shs_cons sh_int (shs_cons sh_int (shs_cons sh_int (shs_cons sh_int shs_nil)))) (shs_cons sh_int (shs_cons sh_int (shs_cons sh_int (shs_cons sh_int shs_nil))))) rfl rfl ?_
          refine wp_iteC rfl (fun c4 => ?_) (fun c4 => ?_)
          · skip
            refine wp_retR rfl ?_
            clear hi3 hj3; ((try simp only [deq_leaf, deq_agg, deqs_nil, deqs_cons, veq_int] at c4 q2 ⊢); grind)
          · skip
            refine wp_bindE (ρ' := [_, _, _, _, _, _, _, _, _, _, _, _, _, dI ((i3 + 1 : Nat) : Int)]) (sh_add hj3) rfl rfl ?_
            refine wp_jumpR rfl ?_
            clear hi3 hj3; ((try simp only [deq_leaf, deq_agg, deqs_nil, deqs_cons, veq_int] at c4 q2 ⊢); grind)
        · show wp _ _ _ u25T2 _
          refine wp_bindE (ρ' := [_, _, _, a_2]) (sh_fld1 (off := 2) rfl i_a_2.one) rfl rfl ?_
          refine wp_bindE (ρ' := [_, _, _, _, dI ((a_2.es.length : Nat) : Int)]) (sh_len i_a_2) rfl rfl ?_
          refine wp_bindE (ρ' := [_, _, _, _, _, _]) sh_lss rfl rfl ?_
          refine wp_iteB rfl ?_
          rw [lt_false]
          refine ite_f ?_
          refine wp_bindE (ρ' := [_, _, _, _, _, _, a_1]) (sh_fld1 (off := 1) rfl i_a_1.one) rfl rfl ?_
          refine wp_bindE (ρ' := [_, _, _, _, _, _, _, b_1]) (sh_fld1 (off := 1) rfl i_b_1.one) rfl rfl ?_
          refine wp_callE (ρ' := [_, _, _, _, _, _, _, _, dB (deq (a_1) (b_1))]) (h75 h_a_1 h_b_1) rfl rfl rfl rfl ?_
          refine wp_iteC rfl (fun c4 => ?_) (fun c4 => ?_)
          · skip
            refine wp_bindE (ρ' := [_, _, _, _, _, _, _, _, _, a_3]) (sh_fld1 (off := 3) rfl i_a_3.one) rfl rfl ?_
            refine wp_bindE (ρ' := [_, _, _, _, _, _, _, _, _, _, b_3]) (sh_fld1 (off := 3) rfl i_b_3.one) rfl rfl ?_
            refine wp_callE (ρ' := [_, _, _, _, _, _, _, _, _, _, _, dB (deq (a_3) (b_3))]) (h76 h_a_3 h_b_3) rfl rfl rfl rfl ?_
            refine wp_retTo (d' := dB (deq (a_3) (b_3))) rfl (db_congr ?_)
            ((try simp only [deq_agg, deqs_nil, deqs_cons] at c4 q3 q2 ⊢); grind)
          · skip
            refine wp_retTo (d' := dB (false)) rfl (db_congr ?_)
            ((try simp only [deq_agg, deqs_nil, deqs_cons] at c4 q3 q2 ⊢); grind)
/- 7 langdoc/langdocref48.Same -/
theorem h7 {a b : D} (h_a : HasSh (.st [.sl 86 2 (.st [.str, .int .i64]), .str, .sl 88 2 (.st [.str, .sl 3 1 (.int .i64)]), .sl 143 1 (.sl 9 1 (.str)), .sl 136 6 (.st [.sl 3 1 (.int .i64), .sl 3 1 (.int .i64), .sl 139 2 (.st [.int .i64, .int .i64]), .sl 139 2 (.st [.int .i64, .int .i64]), .bool, .bool]), .int .i64, .sl 90 3 (.st [.int .i64, .int .i64, .int .i64]), .sl 3 1 (.int .i64), .sl 69 8 (.st [.int .i64, .sl 3 1 (.int .i64), .int .i64, .sl 31 1 (.sl 3 1 (.int .i64)), .int .i64, .sl 92 2 (.st [.str, .str]), .sl 94 2 (.st [.int .i64, .int .i64]), .sl 74 2 (.st [.int .i64, .int .i64])]), .sl 56 7 (.st [.int .i64, .str, .int .i64, .int .i64, .sl 3 1 (.int .i64), .sl 100 4 (.st [.str, .int .i64, .int .i64, .int .i64]), .sl 104 7 (.st [.int .i64, .int .i64, .int .i64, .int .i64, .int .i64, .int .i64, .str])]), .sl 117 4 (.st [.int .i64, .int .i64, .bool, .sl 154 3 (.st [.int .i64, .int .i64, .int .i64])]), .sl 71 5 (.st [.int .i64, .str, .str, .sl 3 1 (.int .i64), .sl 74 2 (.st [.int .i64, .int .i64])]), .sl 96 3 (.st [.int .i64, .str, .bool]), .sl 158 4 (.st [.int .i64, .str, .sl 3 1 (.int .i64), .sl 3 1 (.int .i64)]), .sl 98 4 (.st [.int .i64, .int .i64, .int .i64, .int .i64]), .sl 163 6 (.st [.int .i64, .int .i64, .int .i64, .int .i64, .sl 3 1 (.int .i64), .int .i64])]) a) (h_b : HasSh (.st [.sl 86 2 (.st [.str, .int .i64]), .str, .sl 88 2 (.st [.str, .sl 3 1 (.int .i64)]), .sl 143 1 (.sl 9 1 (.str)), .sl 136 6 (.st [.sl 3 1 (.int .i64), .sl 3 1 (.int .i64), .sl 139 2 (.st [.int .i64, .int .i64]), .sl 139 2 (.st [.int .i64, .int .i64]), .bool, .bool]), .int .i64, .sl 90 3 (.st [.int .i64, .int .i64, .int .i64]), .sl 3 1 (.int .i64), .sl 69 8 (.st [.int .i64, .sl 3 1 (.int .i64), .int .i64, .sl 31 1 (.sl 3 1 (.int .i64)), .int .i64, .sl 92 2 (.st [.str, .str]), .sl 94 2 (.st [.int .i64, .int .i64]), .sl 74 2 (.st [.int .i64, .int .i64])]), .sl 56 7 (.st [.int .i64, .str, .int .i64, .int .i64, .sl 3 1 (.int .i64), .sl 100 4 (.st [.str, .int .i64, .int .i64, .int .i64]), .sl 104 7 (.st [.int .i64, .int .i64, .int .i64, .int .i64, .int .i64, .int .i64, .str])]), .sl 117 4 (.st [.int .i64, .int .i64, .bool, .sl 154 3 (.st [.int .i64, .int .i64, .int .i64])]), .sl 71 5 (.st [.int .i64, .str, .str, .sl 3 1 (.int .i64), .sl 74 2 (.st [.int .i64, .int .i64])]), .sl 96 3 (.st [.int .i64, .str, .bool]), .sl 158 4 (.st [.int .i64, .str, .sl 3 1 (.int .i64), .sl 3 1 (.int .i64)]), .sl 98 4 (.st [.int .i64, .int .i64, .int .i64, .int .i64]), .sl 163 6 (.st [.int .i64, .int .i64, .int .i64, .int .i64, .sl 3 1 (.int .i64), .int .i64])]) b) : Holds EE 7 [a, b] (dB (deq a b)) := by
  refine u7 rfl (Goes.step' ?_)
  obtain ⟨_, rfl, a_0, _, rfl, h_a_0, _, _, rfl, ⟨a_1, rfl⟩, a_2, _, rfl, h_a_2, a_3, _, rfl, h_a_3, a_4, _, rfl, h_a_4, _, _, rfl, ⟨a_5, rfl⟩, a_6, _, rfl, h_a_6, a_7, _, rfl, h_a_7, a_8, _, rfl, h_a_8, a_9, _, rfl, h_a_9, a_10, _, rfl, h_a_10, a_11, _, rfl, h_a_11, a_12, _, rfl, h_a_12, a_13, _, rfl, h_a_13, a_14, _, rfl, h_a_14, a_15, _, rfl, h_a_15, rfl⟩ := h_a
  have i_a_0 := isSl_of h_a_0
  have i_a_2 := isSl_of h_a_2
  have i_a_3 := isSl_of h_a_3
  have i_a_4 := isSl_of h_a_4
  have i_a_6 := isSl_of h_a_6
  have i_a_7 := isSl_of h_a_7
  have i_a_8 := isSl_of h_a_8
  have i_a_9 := isSl_of h_a_9
  have i_a_10 := isSl_of h_a_10
  have i_a_11 := isSl_of h_a_11
  have i_a_12 := isSl_of h_a_12
  have i_a_13 := isSl_of h_a_13
  have i_a_14 := isSl_of h_a_14
  have i_a_15 := isSl_of h_a_15
  obtain ⟨_, rfl, b_0, _, rfl, h_b_0, _, _, rfl, ⟨b_1, rfl⟩, b_2, _, rfl, h_b_2, b_3, _, rfl, h_b_3, b_4, _, rfl, h_b_4, _, _, rfl, ⟨b_5, rfl⟩, b_6, _, rfl, h_b_6, b_7, _, rfl, h_b_7, b_8, _, rfl, h_b_8, b_9, _, rfl, h_b_9, b_10, _, rfl, h_b_10, b_11, _, rfl, h_b_11, b_12, _, rfl, h_b_12, b_13, _, rfl, h_b_13, b_14, _, rfl, h_b_14, b_15, _, rfl, h_b_15, rfl⟩ := h_b
  have i_b_0 := isSl_of h_b_0
  have i_b_2 := isSl_of h_b_2
  have i_b_3 := isSl_of h_b_3
  have i_b_4 := isSl_of h_b_4
  have i_b_6 := isSl_of h_b_6
  have i_b_7 := isSl_of h_b_7
  have i_b_8 := isSl_of h_b_8
  have i_b_9 := isSl_of h_b_9
  have i_b_10 := isSl_of h_b_10
  have i_b_11 := isSl_of h_b_11
  have i_b_12 := isSl_of h_b_12
  have i_b_13 := isSl_of h_b_13
  have i_b_14 := isSl_of h_b_14
  have i_b_15 := isSl_of h_b_15
  show wp _ _ _ u7T0 _
  refine wp_bindE (ρ' := [_, _, .agg [a_0, .leaf (.string a_1), a_2, a_3, a_4, dI a_5, a_6, a_7, a_8, a_9, a_10, a_11, a_12, a_13, a_14, a_15]]) (sh_chkW rfl) rfl rfl ?_
  refine wp_bindE (ρ' := [_, _, _, .agg [b_0, .leaf (.string b_1), b_2, b_3, b_4, dI b_5, b_6, b_7, b_8, b_9, b_10, b_11, b_12, b_13, b_14, b_15]]) (sh_chkW rfl) rfl rfl ?_
  refine wp_bindE (ρ' := [_, _, _, _, .agg [a_0, .leaf (.string a_1), a_2, a_3, a_4, dI a_5, a_6, a_7, a_8]]) (sh_fldA rfl) rfl rfl ?_
  refine wp_bindE (ρ' := [_, _, _, _, _, .agg [b_0, .leaf (.string b_1), b_2, b_3, b_4, dI b_5, b_6, b_7, b_8]]) (sh_fldA rfl) rfl rfl ?_
  refine wp_callE (ρ' := [_, _, _, _, _, _, dB (deq (.agg [a_0, .leaf (.string a_1), a_2, a_3, a_4, dI a_5, a_6, a_7, a_8]) (.agg [b_0, .leaf (.string b_1), b_2, b_3, b_4, dI b_5, b_6, b_7, b_8]))]) (h21 (sh_st (shs_cons h_a_0 (shs_cons sh_str (shs_cons h_a_2 (shs_cons h_a_3 (shs_cons h_a_4 (shs_cons sh_int (shs_cons h_a_6 (shs_cons h_a_7 (shs_cons h_a_8 shs_nil)))))))))) (sh_st (shs_cons h_b_0 (shs_cons sh_str (shs_cons h_b_2 (shs_cons h_b_3 (shs_cons h_b_4 (shs_cons sh_int (shs_cons h_b_6 (shs_cons h_b_7 (shs_cons h_b_8 shs_nil))))))))))) rfl rfl rfl rfl ?_
  refine wp_iteC rfl (fun c0 => ?_) (fun c0 => ?_)
  · skip
    refine wp_bindE (ρ' := [_, _, _, _, _, _, _, a_9]) (sh_fld1 (off := 9) rfl i_a_9.one) rfl rfl ?_
    refine wp_bindE (ρ' := [_, _, _, _, _, _, _, _, b_9]) (sh_fld1 (off := 9) rfl i_b_9.one) rfl rfl ?_
    refine wp_callE (ρ' := [_, _, _, _, _, _, _, _, _, dB (deq (a_9) (b_9))]) (h22 h_a_9 h_b_9) rfl rfl rfl rfl ?_
    refine wp_iteC rfl (fun c1 => ?_) (fun c1 => ?_)
    · skip
      refine wp_bindE (ρ' := [_, _, _, _, _, _, _, _, _, _, a_10]) (sh_fld1 (off := 10) rfl i_a_10.one) rfl rfl ?_
      refine wp_bindE (ρ' := [_, _, _, _, _, _, _, _, _, _, _, b_10]) (sh_fld1 (off := 10) rfl i_b_10.one) rfl rfl ?_
      refine wp_callE (ρ' := [_, _, _, _, _, _, _, _, _, _, _, _, dB (deq (a_10) (b_10))]) (h23 h_a_10 h_b_10) rfl rfl rfl rfl ?_
      refine wp_iteC rfl (fun c2 => ?_) (fun c2 => ?_)
      · skip
        refine wp_bindE (ρ' := [_, _, _, _, _, _, _, _, _, _, _, _, _, a_11]) (sh_fld1 (off := 11) rfl i_a_11.one) rfl rfl ?_
        refine wp_bindE (ρ' := [_, _, _, _, _, _, _, _, _, _, _, _, _, _, b_11]) (sh_fld1 (off := 11) rfl i_b_11.one) rfl rfl ?_
        refine wp_callE (ρ' := [_, _, _, _, _, _, _, _, _, _, _, _, _, _, _, dB (deq (a_11) (b_11))]) (h24 h_a_11 h_b_11) rfl rfl rfl rfl ?_
        refine wp_iteC rfl (fun c3 => ?_) (fun c3 => ?_)
        · skip
          refine wp_bindE (ρ' := [_, _, _, _, _, _, _, _, _, _, _, _, _, _, _, _, .agg [a_12, a_13, a_14, a_15]]) (sh_fldA rfl) rfl rfl ?_
          refine wp_bindE (ρ' := [_, _, _, _, _, _, _, _, _, _, _, _, _, _, _, _, _, .agg [b_12, b_13, b_14, b_15]]) (sh_fldA rfl) rfl rfl ?_
          refine wp_callE (ρ' := [_, _, _, _, _, _, _, _, _, _, _, _, _, _, _, _, _, _, dB (deq (.agg [a_12, a_13, a_14, a_15]) (.agg [b_12, b_13, b_14, b_15]))]) (h25 (sh_st (shs_cons h_a_12 (shs_cons h_a_13 (shs_cons h_a_14 (shs_cons h_a_15 shs_nil))))) (sh_st (shs_cons h_b_12 (shs_cons h_b_13 (shs_cons h_b_14 (shs_cons h_b_15 shs_nil)))))) rfl rfl rfl rfl ?_
          refine wp_retTo (d' := dB (deq (.agg [a_12, a_13, a_14, a_15]) (.agg [b_12, b_13, b_14, b_15]))) rfl (db_congr ?_)
          ((try simp only [deq_leaf, deq_agg, deqs_nil, deqs_cons, veq_int, veq_str] at c3 c2 c1 c0 ⊢); grind)
        · skip
          refine wp_retTo (d' := dB (false)) rfl (db_congr ?_)
          ((try simp only [deq_leaf, deq_agg, deqs_nil, deqs_cons, veq_int, veq_str] at c3 c2 c1 c0 ⊢); grind)
      · skip
        refine wp_retTo (d' := dB (false)) rfl (db_congr ?_)
        ((try simp only [deq_leaf, deq_agg, deqs_nil, deqs_cons, veq_int, veq_str] at c2 c1 c0 ⊢); grind)
    · skip
      refine wp_retTo (d' := dB (false)) rfl (db_congr ?_)
      ((try simp only [deq_leaf, deq_agg, deqs_nil, deqs_cons, veq_int, veq_str] at c1 c0 ⊢); grind)
  · skip
    refine wp_retTo (d' := dB (false)) rfl (db_congr ?_)
    ((try simp only [deq_leaf, deq_agg, deqs_nil, deqs_cons, veq_int, veq_str] at c0 ⊢); grind)
end Go.Proofs.YtindbmgnapmdmaaGreatDoor
namespace Go.Proofs.YtindbmgnapmdmaaGreatDoor
open Go Go.Am Go.Proofs
abbrev ShPr : Sh := .st [.sl 86 2 (.st [.str, .int .i64]), .str, .sl 88 2 (.st [.str, .sl 3 1 (.int .i64)]), .sl 143 1 (.sl 9 1 (.str)), .sl 136 6 (.st [.sl 3 1 (.int .i64), .sl 3 1 (.int .i64), .sl 139 2 (.st [.int .i64, .int .i64]), .sl 139 2 (.st [.int .i64, .int .i64]), .bool, .bool]), .int .i64, .sl 90 3 (.st [.int .i64, .int .i64, .int .i64]), .sl 3 1 (.int .i64), .sl 69 8 (.st [.int .i64, .sl 3 1 (.int .i64), .int .i64, .sl 31 1 (.sl 3 1 (.int .i64)), .int .i64, .sl 92 2 (.st [.str, .str]), .sl 94 2 (.st [.int .i64, .int .i64]), .sl 74 2 (.st [.int .i64, .int .i64])]), .sl 56 7 (.st [.int .i64, .str, .int .i64, .int .i64, .sl 3 1 (.int .i64), .sl 100 4 (.st [.str, .int .i64, .int .i64, .int .i64]), .sl 104 7 (.st [.int .i64, .int .i64, .int .i64, .int .i64, .int .i64, .int .i64, .str])]), .sl 117 4 (.st [.int .i64, .int .i64, .bool, .sl 154 3 (.st [.int .i64, .int .i64, .int .i64])]), .sl 71 5 (.st [.int .i64, .str, .str, .sl 3 1 (.int .i64), .sl 74 2 (.st [.int .i64, .int .i64])]), .sl 96 3 (.st [.int .i64, .str, .bool]), .sl 158 4 (.st [.int .i64, .str, .sl 3 1 (.int .i64), .sl 3 1 (.int .i64)]), .sl 98 4 (.st [.int .i64, .int .i64, .int .i64, .int .i64]), .sl 163 6 (.st [.int .i64, .int .i64, .int .i64, .int .i64, .sl 3 1 (.int .i64), .int .i64])]
/-- what a way must come to, whatever it is -/
def ToAny (Ts : Nat → Tree) (r : Res1) : Prop := match r with
  | .ret d' => ∃ b, d' = dB b
  | .jump k ds => ∃ b, Goes EE (Holds EE) Ts k ds (dB b)
theorem goes_any {Ts : Nat → Tree} {k : Nat} {ρ : List D} (h : wp EE (Holds EE) (ToAny Ts) (Ts k) ρ) : ∃ b, Goes EE (Holds EE) Ts k ρ (dB b) := by
  obtain ⟨r, h1, h2⟩ := wp_one _ _ h
  cases r with
  | ret d' => obtain ⟨b, rfl⟩ := h1; exact ⟨b, Goes.step (h2 _ rfl)⟩
  | jump k' ds => obtain ⟨b, hb⟩ := h1; exact ⟨b, Goes.step (h2 _ hb)⟩
theorem wp_retAny {Ts : Nat → Tree} {xs : List SV} {ρ : List D} {b : Bool} (hx : SV.ds (getD ρ) xs = [dB b]) : wp EE (Holds EE) (ToAny Ts) (.ret xs) ρ := by
  simp only [wp, hx, ToAny, retD]; exact ⟨b, rfl⟩
theorem wp_jumpAny {Ts : Nat → Tree} {k : Nat} {xs : List SV} {ρ ds : List D} (hx : SV.ds (getD ρ) xs = ds) (h : ∃ b, Goes EE (Holds EE) Ts k ds (dB b)) : wp EE (Holds EE) (ToAny Ts) (.jump k xs) ρ := by
  simp only [wp, hx, ToAny]; exact h
attribute [local irreducible] Go.Am.wp Go.Am.TOp.eval
mutual
theorem deq_self : ∀ (s : Sh) (d : D), HasSh s d → deq d d = true
  | .int k, d, h => by simp only [HasSh] at h; obtain ⟨n, rfl⟩ := h; simp [deq, veq]
  | .bool, d, h => by simp only [HasSh] at h; obtain ⟨n, rfl⟩ := h; simp [deq, veq]
  | .str, d, h => by simp only [HasSh] at h; obtain ⟨n, rfl⟩ := h; simp only [deq_leaf, veq_str]; exact bytes_self n
  | .st fs, d, h => by simp only [HasSh] at h; obtain ⟨cs, rfl, h⟩ := h; rw [deq_agg]; exact deqs_self fs cs h
  | .sl el sz e, d, h => by
    simp only [HasSh] at h
    rcases h with rfl | ⟨es, rfl, hlt, h⟩
    · simp [deq]
    · simp only [deq]
      clear hlt
      induction es with
      | nil => exact deqs_nil
      | cons x xs ih =>
        rw [deqs_cons, deq_self e x (h x List.mem_cons_self), Bool.true_and]
        exact ih (fun y hy => h y (List.mem_cons_of_mem _ hy))
theorem deqs_self : ∀ (fs : List Sh) (cs : List D), HasShs fs cs → deqs cs cs = true
  | [], cs, h => by simp only [HasShs] at h; rw [h]; exact deqs_nil
  | s :: ss, cs, h => by
    simp only [HasShs] at h
    obtain ⟨d, ds, rfl, h1, h2⟩ := h
    rw [deqs_cons, deq_self s d h1, deqs_self ss ds h2]; rfl
end
theorem hasShs_len : ∀ {fs : List Sh} {cs : List D}, HasShs fs cs → cs.length = fs.length
  | [], cs, h => by simp only [HasShs] at h; rw [h]; rfl
  | s :: ss, cs, h => by
    simp only [HasShs] at h
    obtain ⟨d, ds, rfl, _, h2⟩ := h
    simp [hasShs_len h2]
set_option maxHeartbeats 2000000 in
/- 4 short -/
theorem h4 {p : D} (h_p : HasSh ShPr p) : ∃ b, Holds EE 4 [p] (dB b) := by
  suffices h : ∃ b, Goes EE (Holds EE) u4Ts 0 [p] (dB b) by
    obtain ⟨b, hb⟩ := h; exact ⟨b, u4 rfl hb⟩
  obtain ⟨_, rfl, p_0, _, rfl, h_p_0, _, _, rfl, ⟨p_1, rfl⟩, p_2, _, rfl, h_p_2, p_3, _, rfl, h_p_3, p_4, _, rfl, h_p_4, _, _, rfl, ⟨p_5, rfl⟩, p_6, _, rfl, h_p_6, p_7, _, rfl, h_p_7, p_8, _, rfl, h_p_8, p_9, _, rfl, h_p_9, p_10, _, rfl, h_p_10, p_11, _, rfl, h_p_11, p_12, _, rfl, h_p_12, p_13, _, rfl, h_p_13, p_14, _, rfl, h_p_14, p_15, _, rfl, h_p_15, rfl⟩ := h_p
  have i_p_0 := isSl_of h_p_0
  have i_p_2 := isSl_of h_p_2
  have i_p_3 := isSl_of h_p_3
  have i_p_4 := isSl_of h_p_4
  have i_p_6 := isSl_of h_p_6
  have i_p_7 := isSl_of h_p_7
  have i_p_8 := isSl_of h_p_8
  have i_p_9 := isSl_of h_p_9
  have i_p_10 := isSl_of h_p_10
  have i_p_11 := isSl_of h_p_11
  have i_p_12 := isSl_of h_p_12
  have i_p_13 := isSl_of h_p_13
  have i_p_14 := isSl_of h_p_14
  have i_p_15 := isSl_of h_p_15
  have go : ∀ m i, i + m = p_9.es.length → ∃ b, Goes EE (Holds EE) u4Ts 1 [dI ((i : Nat) : Int), .agg [p_0, .leaf (.string p_1), p_2, p_3, p_4, dI p_5, p_6, p_7, p_8, p_9, p_10, p_11, p_12, p_13, p_14, p_15]] (dB b) := by
    intro m
    induction m with
    | zero =>
      intro i hi
      have hi : i = p_9.es.length := hi
      refine goes_any ?_
      show wp _ _ _ u4T1 _
      refine wp_bind (sh_fld1 (off := 9) rfl i_p_9.one) rfl ?_
      refine wp_bind (sh_len i_p_9) rfl ?_
      refine wp_bind sh_lss rfl ?_
      refine wp_iteB rfl ?_
      rw [hi, lt_false]
      refine ite_f ?_
      exact wp_retAny rfl
    | succ m ih =>
      intro i hi
      have hl : i < p_9.es.length := by omega
      have hj : i + 1 < capX := by have := sh_lt i_p_9; omega
      have e : p_9.es[i]? = some p_9.es[i] := List.getElem?_eq_getElem hl
      have hx := elem_of h_p_9 e
      generalize hxe : p_9.es[i] = x at e hx
      obtain ⟨_, rfl, _, _, rfl, _, x1, _, rfl, _, x2, _, rfl, _, x3, _, rfl, _, x4, _, rfl, _, x5, _, rfl, _, x6, _, rfl, h6, rfl⟩ := hx
      have i6 := isSl_of h6
      refine goes_any ?_
      show wp _ _ _ u4T1 _
      refine wp_bind (sh_fld1 (off := 9) rfl i_p_9.one) rfl ?_
      refine wp_bind (sh_len i_p_9) rfl ?_
      refine wp_bind sh_lss rfl ?_
      refine wp_iteB rfl ?_
      rw [lt_true hl]
      refine ite_t ?_
      refine wp_bind (sh_fld1 (off := 9) rfl i_p_9.one) rfl ?_
      refine wp_bind (sh_inr e) rfl ?_
      refine wp_bind (sh_elemP (off := 6) i_p_9 e rfl i6.one (by decide)) rfl ?_
      refine wp_bind (sh_len i6) rfl ?_
      refine wp_bind sh_gtr rfl ?_
      refine wp_iteC rfl (fun c0 => ?_) (fun c0 => ?_)
      · exact wp_retAny rfl
      · refine wp_bind (sh_add hj) rfl ?_
        exact wp_jumpAny rfl (ih (i + 1) (by omega))
  refine goes_any ?_
  show wp _ _ _ u4T0 _
  refine wp_bind (sh_chkW rfl) rfl ?_
  refine wp_bind (sh_fld1 (off := 8) rfl i_p_8.one) rfl ?_
  refine wp_bind (sh_len i_p_8) rfl ?_
  refine wp_bind sh_gtr rfl ?_
  refine wp_iteC rfl (fun c0 => wp_retAny rfl) (fun c0 => ?_)
  refine wp_bind (sh_fld1 (off := 9) rfl i_p_9.one) rfl ?_
  refine wp_bind (sh_len i_p_9) rfl ?_
  refine wp_bind sh_gtr rfl ?_
  refine wp_iteC rfl (fun c1 => wp_retAny rfl) (fun c1 => ?_)
  refine wp_bind (sh_fld1 (off := 10) rfl i_p_10.one) rfl ?_
  refine wp_bind (sh_len i_p_10) rfl ?_
  refine wp_bind sh_gtr rfl ?_
  refine wp_iteC rfl (fun c2 => wp_retAny rfl) (fun c2 => ?_)
  refine wp_bind (sh_fld1 (off := 11) rfl i_p_11.one) rfl ?_
  refine wp_bind (sh_len i_p_11) rfl ?_
  refine wp_bind sh_gtr rfl ?_
  refine wp_iteC rfl (fun c3 => wp_retAny rfl) (fun c3 => ?_)
  refine wp_bind (sh_fld1 (off := 15) rfl i_p_15.one) rfl ?_
  refine wp_bind (sh_len i_p_15) rfl ?_
  refine wp_bind sh_gtr rfl ?_
  refine wp_iteC rfl (fun c4 => wp_retAny rfl) (fun c4 => ?_)
  exact wp_jumpAny (ds := [dI ((0 : Nat) : Int), _]) rfl (go _ 0 (Nat.zero_add _))
/- 3 the law -/
theorem h3 {p q : D} (h_p : HasSh ShPr p) (h_q : HasSh ShPr q) (hw : Holds EE 5 [] (dB true)) : Holds EE 3 [p, q] (dB true) := by
  refine u3 rfl (Goes.step' ?_)
  obtain ⟨b1, k1⟩ := h4 h_p
  obtain ⟨b2, k2⟩ := h4 h_q
  have pp := deq_self _ _ h_p
  have k6 := h6 h_p h_q
  have k7 := h7 h_p h_q
  have k8 := h6 h_p h_p
  rw [pp] at k8
  have lp : ∃ cs, p = .agg cs ∧ cs.length = 16 := by
    obtain ⟨cs, rfl, h⟩ := h_p
    refine ⟨cs, rfl, ?_⟩
    exact hasShs_len h
  have lq : ∃ cs, q = .agg cs ∧ cs.length = 16 := by
    obtain ⟨cs, rfl, h⟩ := h_q
    refine ⟨cs, rfl, ?_⟩
    exact hasShs_len h
  obtain ⟨ps, hp, lp⟩ := lp
  obtain ⟨qs, hq, lq⟩ := lq
  generalize deq p q = e at k6 k7
  clear h_p h_q pp
  subst hp; subst hq
  show wp _ _ _ u3T0 _
  refine wp_bind (sh_chkW lp) rfl ?_
  refine wp_bind (sh_chkW lq) rfl ?_
  refine wp_call k1 rfl rfl rfl ?_
  refine wp_bind sh_not rfl ?_
  refine wp_iteC rfl (fun c0 => ?_) (fun c0 => ?_)
  · refine wp_call hw rfl rfl rfl ?_
    exact wp_retTo (d' := dB true) rfl rfl
  · refine wp_call k2 rfl rfl rfl ?_
    refine wp_bind sh_not rfl ?_
    refine wp_iteC rfl (fun c1 => ?_) (fun c1 => ?_)
    · refine wp_call hw rfl rfl rfl ?_
      exact wp_retTo (d' := dB true) rfl rfl
    · refine wp_call k6 rfl rfl rfl ?_
      refine wp_call k7 rfl rfl rfl ?_
      refine wp_bind (sh_cmpB .eql (.inr rfl) ty4 st4) rfl ?_
      refine wp_iteB (t := true) ?_ ?_
      · show dB (decide (e = e)) = dB true
        rw [decide_eq_true rfl]
      refine ite_t ?_
      refine wp_call k8 rfl rfl rfl ?_
      refine wp_iteB (t := true) rfl ?_
      refine ite_t ?_
      refine wp_call hw rfl rfl rfl ?_
      exact wp_retTo (d' := dB true) rfl rfl
end Go.Proofs.YtindbmgnapmdmaaGreatDoor
