/- The entry with an Id, by both. Conditions: none. -/
import Derived.Test.YtonebjbldlokmaaGreatPe
import Derived.Test.YtonebjbldlokmaaGreatPf
import Derived.Test.YtonebjbldlokmaaGreatUv
namespace Go.Proofs.YtonebjbldlokmaaGreat
open Go Go.Am Go.Proofs
attribute [local irreducible] Go.Am.wp Go.Am.TOp.eval
def pId (id : Int) : D → Bool
  | .agg (.leaf (.int .i64 n) :: _) => decide (n = id)
  | _ => false
def fst (l : D) (id : Int) : Nat := l.es.findIdx (pId id)
theorem fst_le (l : D) (id : Int) : fst l id ≤ l.es.length := List.findIdx_le_length
theorem fst_hit {l : D} {id : Int} {i : Nat} {e : D} (h : i ≤ fst l id) (he : l.es[i]? = some e) (hp : pId id e = true) : fst l id = i := by
  rcases Nat.lt_or_eq_of_le h with h | h
  · have hn := List.not_of_lt_findIdx h
    have := (List.getElem?_eq_some_iff.1 he).2
    rw [this, hp] at hn
    cases hn
  · exact h.symm
theorem fst_miss {l : D} {id : Int} {i : Nat} {e : D} (h : i ≤ fst l id) (he : l.es[i]? = some e) (hp : pId id e = false) : i + 1 ≤ fst l id := by
  rcases Nat.lt_or_eq_of_le h with h | h
  · exact h
  · have hl := (List.getElem?_eq_some_iff.1 he).1
    have h2 : l.es.findIdx (pId id) < l.es.length := by show fst l id < _; omega
    have := List.findIdx_getElem (w := h2)
    have e2 : l.es[l.es.findIdx (pId id)] = e := by
      have : l.es[l.es.findIdx (pId id)]? = some e := by rw [← he, h]; rfl
      exact (List.getElem?_eq_some_iff.1 this).2
    rw [e2, hp] at this
    cases this
abbrev zeroE : D := .agg [dI ((0 : Nat) : Int), .nil, dI ((0 : Nat) : Int), .nil, dI ((0 : Nat) : Int), .nil, .nil, .nil]
def getR (l : D) (id : Int) : D := match l.es[fst l id]? with
  | some e => .tup [e, dB true]
  | none => .tup [zeroE, dB false]
theorem getR_hit {l : D} {id : Int} {i : Nat} {e : D} (h : fst l id = i) (he : l.es[i]? = some e) : getR l id = .tup [e, dB true] := by
  unfold getR; rw [h, he]
theorem getR_none {l : D} {id : Int} (h : l.es.length ≤ fst l id) : getR l id = .tup [zeroE, dB false] := by
  unfold getR; rw [List.getElem?_eq_none h]
def fstI (l : D) (id : Int) : Int := if fst l id < l.es.length then (fst l id : Int) else -1
abbrev ShE : Sh := .st [.int .i64, .sl 3 1 (.int .i64), .int .i64, .sl 31 1 (.sl 3 1 (.int .i64)), .int .i64, .sl 87 2 (.st [.str, .str]), .sl 116 2 (.st [.int .i64, .int .i64]), .sl 166 2 (.st [.int .i64, .int .i64])]
theorem g22 {a : D} {b : Int} (h_a : HasB 300000000 (.sl 66 8 ShE) a) : Holds EE 22 [a, dI b] (getR a b) := by
  suffices h : ∃ d, d = getR a b ∧ Goes EE (Holds EE) u22Ts 0 [a, dI b] d by
    obtain ⟨d, rfl, hg⟩ := h; exact u22 rfl hg
  have i_a := isSl_ofB h_a
  have b_a := len_leB h_a
  refine goes_R (R := (fun d => d = getR a b)) ?_
  show wp _ _ _ u22T0 _
  refine wp_bindE (ρ' := [_, _, dI ((a.es.length : Nat) : Int)]) (sh_len i_a) rfl rfl ?_
  refine wr_jump rfl (loop_up (P := fun i0 => i0 ≤ fst a b → ∃ d, (fun d => d = getR a b) d ∧ Goes EE (Holds EE) u22Ts 1 [a, dI (b), dI ((a.es.length : Nat) : Int), dI ((i0 : Nat) : Int)] d) (a.es.length) (fun i0 ih0 => ?_) 0 (by omega))
  intro hn0
  refine goes_R (R := (fun d => d = getR a b)) ?_
  show wp _ _ _ u22T1 _
  refine wp_bindE (ρ' := [_, _, _, _, _]) sk_lss rfl rfl ?_
  refine wp_iteC rfl (fun c1 => ?_) (fun c1 => ?_)
  · replace c1 : ((i0 : Nat) : Int) < ((a.es.length : Nat) : Int) := of_decide_eq_true c1
    obtain ⟨x2, e_x2⟩ := get_at (d := a) (s := ((i0 : Nat) : Int)) (by omega) (by omega)
    obtain ⟨_, rfl, _, _, rfl, ⟨x2_0, rfl⟩, x2_1, _, rfl, h_x2_1, _, _, rfl, ⟨x2_2, rfl⟩, x2_3, _, rfl, h_x2_3, _, _, rfl, ⟨x2_4, rfl⟩, x2_5, _, rfl, h_x2_5, x2_6, _, rfl, h_x2_6, x2_7, _, rfl, h_x2_7, rfl⟩ := (elem_ofB h_a e_x2)
    have i_x2_1 := isSl_ofB h_x2_1
    have b_x2_1 := len_leB h_x2_1
    have i_x2_3 := isSl_ofB h_x2_3
    have b_x2_3 := len_leB h_x2_3
    have i_x2_5 := isSl_ofB h_x2_5
    have b_x2_5 := len_leB h_x2_5
    have i_x2_6 := isSl_ofB h_x2_6
    have b_x2_6 := len_leB h_x2_6
    have i_x2_7 := isSl_ofB h_x2_7
    have b_x2_7 := len_leB h_x2_7
    refine wp_bindE (ρ' := [_, _, _, _, _, dB (true)]) (si_inr (by omega) e_x2) rfl rfl ?_
    refine wp_bindE (ρ' := [_, _, _, _, _, _, dI (x2_0)]) (si_elemP (off := 0) i_a (by omega) e_x2 rfl rfl (by decide)) rfl rfl ?_
    refine wp_bindE (ρ' := [_, _, _, _, _, _, _, _]) sk_eql rfl rfl ?_
    refine wp_iteC rfl (fun c3 => ?_) (fun c3 => ?_)
    · replace c3 : (x2_0) = (b) := of_decide_eq_true c3
      refine wp_bindE (ρ' := [_, _, _, _, _, _, _, _, dB (true)]) (si_inr (by omega) e_x2) rfl rfl ?_
      refine wp_bindE (ρ' := [_, _, _, _, _, _, _, _, _, .agg [dI (x2_0), x2_1, dI (x2_2), x2_3, dI (x2_4), x2_5, x2_6, x2_7]]) (si_elemW i_a (by omega) e_x2 rfl) rfl rfl ?_
      refine wp_bindE (ρ' := [_, _, _, _, _, _, _, _, _, _, .agg [dI (x2_0), x2_1, dI (x2_2), x2_3, dI (x2_4), x2_5, x2_6, x2_7]]) (sh_chkW rfl) rfl rfl ?_
      have e' : a.es[i0]? = some _ := e_x2
      exact wr_ret rfl (getR_hit (fst_hit hn0 e' (decide_eq_true c3)) e').symm
    · replace c3 : ¬ ((x2_0) = (b)) := of_decide_eq_false c3
      refine wp_bindE (ρ' := [_, _, _, _, _, _, _, _, dI ((i0 + 1 : Nat) : Int)]) (sh_add (cap_bd' (by omega))) rfl rfl ?_
      have e' : a.es[i0]? = some _ := e_x2
      exact wr_jump rfl (ih0 (by omega) (fst_miss hn0 e' (decide_eq_false c3)))
  · replace c1 : ¬ (((i0 : Nat) : Int) < ((a.es.length : Nat) : Int)) := of_decide_eq_false c1
    exact wr_ret rfl (getR_none (by have := fst_le a b; omega)).symm
theorem g62 {x0 b : Int} {x1 x2 x3 x4 x5 x6 x7 : D} : Holds EE 62 [.agg [dI x0, x1, x2, x3, x4, x5, x6, x7], .ptr [dI b] 0] (dB (decide (x0 = b))) := by
  refine u62 rfl (Goes.step' ?_)
  show wp _ _ _ u62T0 _
  refine wp_bindE (ρ' := [_, _, .agg [dI x0, x1, x2, x3, x4, x5, x6, x7]]) (sh_chkW rfl) rfl rfl ?_
  refine wp_bindE (ρ' := [_, _, _, dI x0]) (sh_fld1 (off := 0) rfl rfl) rfl rfl ?_
  refine wp_bindE (ρ' := [_, _, _, _, .ptr [dI b] 0]) ev_pchk rfl rfl ?_
  refine wp_bindE (ρ' := [_, _, _, _, _, dI b]) (ev_loadp (ag := false) (size := 1) (cs := [dI b]) (off := 0)) rfl rfl ?_
  refine wp_bindE (ρ' := [_, _, _, _, _, _, dB (decide (x0 = b))]) sk_eql rfl rfl ?_
  exact wp_retTo (d' := dB (decide (x0 = b))) rfl rfl
theorem g61 {a : D} {b : Int} (h_a : HasB 300000000 (.sl 66 8 ShE) a) : Holds EE 61 [a, .clo (.func 62) [] [.ptr [dI b] 0]] (dI (fstI a b)) := by
  suffices h : ∃ d, d = dI (fstI a b) ∧ Goes EE (Holds EE) u61Ts 0 [a, .clo (.func 62) [] [.ptr [dI b] 0]] d by
    obtain ⟨d, rfl, hg⟩ := h; exact u61 rfl hg
  have i_a := isSl_ofB h_a
  have b_a := len_leB h_a
  refine goes_R (R := (fun d => d = dI (fstI a b))) ?_
  show wp _ _ _ u61T0 _
  refine wp_bindE (ρ' := [_, _, dI ((a.es.length : Nat) : Int)]) (sh_len i_a) rfl rfl ?_
  refine wr_jump rfl (loop_up (P := fun i0 => i0 ≤ fst a b → ∃ d, (fun d => d = dI (fstI a b)) d ∧ Goes EE (Holds EE) u61Ts 1 [a, .clo (.func 62) [] [.ptr [dI b] 0], dI ((a.es.length : Nat) : Int), dI ((i0 : Nat) : Int)] d) (a.es.length) (fun i0 ih0 => ?_) 0 (by omega))
  intro hn0
  refine goes_R (R := (fun d => d = dI (fstI a b))) ?_
  show wp _ _ _ u61T1 _
  refine wp_bindE (ρ' := [_, _, _, _, _]) sk_lss rfl rfl ?_
  refine wp_iteC rfl (fun c1 => ?_) (fun c1 => ?_)
  · replace c1 : ((i0 : Nat) : Int) < ((a.es.length : Nat) : Int) := of_decide_eq_true c1
    obtain ⟨x2, e_x2⟩ := get_at (d := a) (s := ((i0 : Nat) : Int)) (by omega) (by omega)
    obtain ⟨_, rfl, _, _, rfl, ⟨x2_0, rfl⟩, x2_1, _, rfl, h_x2_1, _, _, rfl, ⟨x2_2, rfl⟩, x2_3, _, rfl, h_x2_3, _, _, rfl, ⟨x2_4, rfl⟩, x2_5, _, rfl, h_x2_5, x2_6, _, rfl, h_x2_6, x2_7, _, rfl, h_x2_7, rfl⟩ := (elem_ofB h_a e_x2)
    have i_x2_1 := isSl_ofB h_x2_1
    have b_x2_1 := len_leB h_x2_1
    have i_x2_3 := isSl_ofB h_x2_3
    have b_x2_3 := len_leB h_x2_3
    have i_x2_5 := isSl_ofB h_x2_5
    have b_x2_5 := len_leB h_x2_5
    have i_x2_6 := isSl_ofB h_x2_6
    have b_x2_6 := len_leB h_x2_6
    have i_x2_7 := isSl_ofB h_x2_7
    have b_x2_7 := len_leB h_x2_7
    refine wp_bindE (ρ' := [_, _, _, _, _, dB (true)]) (si_inr (by omega) e_x2) rfl rfl ?_
    refine wp_bindE (ρ' := [_, _, _, _, _, _, .agg [dI (x2_0), x2_1, dI (x2_2), x2_3, dI (x2_4), x2_5, x2_6, x2_7]]) (si_elemW i_a (by omega) e_x2 rfl) rfl rfl ?_
    refine wp_callE (ρ' := [_, _, _, _, _, _, _, dB (decide (x2_0 = b))]) (g62 (x0 := x2_0) (b := b)) rfl rfl rfl rfl ?_
    have e' : a.es[i0]? = some _ := e_x2
    refine wp_iteC rfl (fun c3 => ?_) (fun c3 => ?_)
    · exact wr_ret rfl (by
        show dI ((i0 : Nat) : Int) = dI (fstI a b)
        have hh := fst_hit hn0 e' c3
        unfold fstI
        rw [hh, if_pos (by omega)])
    · refine wp_bindE (ρ' := [_, _, _, _, _, _, _, _, dI ((i0 + 1 : Nat) : Int)]) (sh_add (cap_bd' (by omega))) rfl rfl ?_
      exact wr_jump rfl (ih0 (by omega) (fst_miss hn0 e' c3))
  · replace c1 : ¬ (((i0 : Nat) : Int) < ((a.es.length : Nat) : Int)) := of_decide_eq_false c1
    exact wr_ret rfl (by
      show dI (-1) = dI (fstI a b)
      have := fst_le a b
      unfold fstI
      rw [if_neg (by omega)])
theorem g34 {a : D} {b : Int} (h_a : HasB 300000000 (.sl 66 8 ShE) a) : Holds EE 34 [a, dI b] (getR a b) := by
  refine u34 rfl (Goes.step' ?_)
  have i_a := isSl_ofB h_a
  have b_a := len_leB h_a
  show wp _ _ _ u34T0 _
  refine wp_bindE (ρ' := [_, _, dI b]) (sh_chk1 rfl) rfl rfl ?_
  refine wp_bindE (ρ' := [_, _, _, .ptr [dI b] 0]) ev_box rfl rfl ?_
  refine wp_callE (ρ' := [_, _, _, _, dI (fstI a b)]) (g61 h_a) rfl rfl rfl rfl ?_
  refine wp_bindE (ρ' := [_, _, _, _, _, _]) sk_lss rfl rfl ?_
  have hle := fst_le a b
  refine wp_iteC rfl (fun c0 => ?_) (fun c0 => ?_)
  · replace c0 : fstI a b < ((0 : Nat) : Int) := of_decide_eq_true c0
    refine wp_retTo2 rfl ?_
    refine (getR_none ?_).symm
    unfold fstI at c0
    split at c0 <;> omega
  · replace c0 : ¬ (fstI a b < ((0 : Nat) : Int)) := of_decide_eq_false c0
    have hf : fst a b < a.es.length ∧ fstI a b = (fst a b : Int) := by
      unfold fstI at c0 ⊢
      split at c0
      · rename_i h; exact ⟨h, if_pos h⟩
      · omega
    rw [hf.2]
    obtain ⟨x2, e_x2⟩ := get_at (d := a) (s := (fst a b : Int)) (by omega) (by omega)
    have e' : a.es[fst a b]? = some x2 := e_x2
    obtain ⟨_, rfl, _, _, rfl, ⟨x2_0, rfl⟩, x2_1, _, rfl, h_x2_1, _, _, rfl, ⟨x2_2, rfl⟩, x2_3, _, rfl, h_x2_3, _, _, rfl, ⟨x2_4, rfl⟩, x2_5, _, rfl, h_x2_5, x2_6, _, rfl, h_x2_6, x2_7, _, rfl, h_x2_7, rfl⟩ := (elem_ofB h_a e_x2)
    refine wp_bindE (ρ' := [_, _, _, _, _, _, dB true]) (si_inr (by omega) e_x2) rfl rfl ?_
    refine wp_bindE (ρ' := [_, _, _, _, _, _, _, _]) (si_elemW i_a (by omega) e_x2 rfl) rfl rfl ?_
    refine wp_bindE (ρ' := [_, _, _, _, _, _, _, _, _]) (sh_chkW rfl) rfl rfl ?_
    refine wp_retTo2 rfl ?_
    exact (getR_hit rfl e').symm
end Go.Proofs.YtonebjbldlokmaaGreat
namespace Go.Proofs.YtonebjbldlokmaaGreat
open Go Go.Am Go.Proofs
attribute [local irreducible] Go.Am.wp Go.Am.TOp.eval
abbrev ShI : Sh := .sl 3 1 (.int .i64)
/-- what is found of an Id -/
theorem getR_cases {l : D} {id : Int} (h : HasB 1048576 (.sl 66 8 ShE) l) :
    (∃ (x0 x2 x4 : Int) (x1 x3 x5 x6 x7 : D), HasB 1048576 ShI x1 ∧ HasB 1048576 (.sl 31 1 ShI) x3 ∧ HasB 1048576 (.sl 87 2 (.st [.str, .str])) x5 ∧ HasB 1048576 (.sl 116 2 (.st [.int .i64, .int .i64])) x6 ∧ HasB 1048576 (.sl 166 2 (.st [.int .i64, .int .i64])) x7 ∧
      l.es[fst l id]? = some (.agg [dI x0, x1, dI x2, x3, dI x4, x5, x6, x7]) ∧ getR l id = .tup [.agg [dI x0, x1, dI x2, x3, dI x4, x5, x6, x7], dB true]) ∨
    (l.es[fst l id]? = none ∧ getR l id = .tup [zeroE, dB false]) := by
  cases he : l.es[fst l id]? with
  | none => exact .inr ⟨rfl, by unfold getR; rw [he]⟩
  | some x =>
    left
    obtain ⟨_, rfl, _, _, rfl, ⟨x0, rfl⟩, x1, _, rfl, h1, _, _, rfl, ⟨x2, rfl⟩, x3, _, rfl, h3, _, _, rfl, ⟨x4, rfl⟩, x5, _, rfl, h5, x6, _, rfl, h6, x7, _, rfl, h7, rfl⟩ := elem_ofB h he
    exact ⟨x0, x2, x4, x1, x3, x5, x6, x7, h1, h3, h5, h6, h7, rfl, getR_hit rfl he⟩
/-- the class and the form that a part names -/
def selP (l : D) (p0 p1 : Int) : Option (D × D) := match l.es[fst l p0]? with
  | some (.agg (_ :: x1 :: x2 :: x3 :: _)) => if 0 ≤ p1 ∧ p1 < ((x1 :: x3.es).length : Int) then some (x2, ((x1 :: x3.es)[p1.toNat]?).getD .nil) else none
  | _ => none
theorem forms_all {x1 x3 : D} (h1 : HasB 1048576 ShI x1) (h3 : HasB 1048576 (.sl 31 1 ShI) x3) : ∀ y ∈ x1 :: x3.es, HasB 1048576 ShI y := by
  intro y hy
  rcases List.mem_cons.1 hy with rfl | hy
  · exact h1
  · obtain ⟨i, hi⟩ := List.mem_iff_getElem?.1 hy
    exact elem_ofB h3 hi
theorem selP_hb {l : D} {p0 p1 : Int} {c w : D} (h : HasB 1048576 (.sl 66 8 ShE) l) (hs : selP l p0 p1 = some (c, w)) : (∃ n, c = dI n) ∧ HasB 1048576 ShI w := by
  unfold selP at hs
  rcases getR_cases (id := p0) h with ⟨x0, x2, x4, x1, x3, x5, x6, x7, h1, h3, h5, h6, h7, he, _⟩ | ⟨he, _⟩
  · rw [he] at hs
    simp only at hs
    split at hs
    · rename_i hc
      simp only [Option.some.injEq, Prod.mk.injEq] at hs
      obtain ⟨rfl, rfl⟩ := hs
      refine ⟨⟨_, rfl⟩, ?_⟩
      have hl : p1.toNat < (x1 :: x3.es).length := by omega
      rw [List.getElem?_eq_getElem hl]
      exact forms_all h1 h3 _ (List.getElem_mem hl)
    · cases hs
  · rw [he] at hs; cases hs
theorem forms_val {x1 x3 : D} (h1 : HasB 1048576 ShI x1) (h3 : HasB 1048576 (.sl 31 1 ShI) x3) : HasB 300000000 (.sl 31 1 ShI) (.sl 31 1 (x1 :: x3.es)) :=
  hb_sl (by have := len_leB h3; simp; omega) fun y hy => hasB_mono (by decide) (forms_all h1 h3 y hy)
theorem g24 {x0 x2 x4 : Int} {x1 x3 x5 x6 x7 : D} (h1 : HasB 1048576 ShI x1) (h3 : HasB 1048576 (.sl 31 1 ShI) x3) : Holds EE 24 [.agg [dI x0, x1, dI x2, x3, dI x4, x5, x6, x7]] (.sl 31 1 (x1 :: x3.es)) := by
  refine u24 rfl (Goes.step' ?_)
  have i_x1 := isSl_ofB h1
  have i_x3 := isSl_ofB h3
  have b_x3 := len_leB h3
  show wp _ _ _ u24T0 _
  refine wp_bindE (ρ' := [_, .agg [dI x0, x1, dI x2, x3, dI x4, x5, x6, x7]]) (sh_chkW rfl) rfl rfl ?_
  refine wp_bindE (ρ' := [_, _, x1]) (sh_fld1 (off := 1) rfl i_x1.one) rfl rfl ?_
  refine wp_bindE (ρ' := [_, _, _, x1]) (sh_chk1 i_x1.one) rfl rfl ?_
  refine wp_bindE (ρ' := [_, _, _, _, .sl 31 1 [x1]]) (lit_one i_x1.one) rfl rfl ?_
  refine wp_bindE (ρ' := [_, _, _, _, _, x3]) (sh_fld1 (off := 3) rfl i_x3.one) rfl rfl ?_
  refine wp_bindE (ρ' := [_, _, _, _, _, _, .sl 31 1 (x1 :: x3.es)]) (app_mk (el := 31) (sz := 1) (bytes := 24) (l := [x1]) h3 (by decide) (by simp; omega)) rfl rfl ?_
  exact wp_retTo rfl rfl
theorem g40 {x0 x2 x4 : Int} {x1 x3 x5 x6 x7 : D} (h1 : HasB 1048576 ShI x1) (h3 : HasB 1048576 (.sl 31 1 ShI) x3) : Holds EE 40 [.agg [dI x0, x1, dI x2, x3, dI x4, x5, x6, x7]] (.sl 31 1 (x1 :: x3.es)) := by
  refine u40 rfl (Goes.step' ?_)
  have i_x1 := isSl_ofB h1
  have i_x3 := isSl_ofB h3
  have b_x3 := len_leB h3
  show wp _ _ _ u40T0 _
  refine wp_bindE (ρ' := [_, .agg [dI x0, x1, dI x2, x3, dI x4, x5, x6, x7]]) (sh_chkW rfl) rfl rfl ?_
  refine wp_bindE (ρ' := [_, _, x1]) (sh_fld1 (off := 1) rfl i_x1.one) rfl rfl ?_
  refine wp_bindE (ρ' := [_, _, _, x1]) (sh_chk1 i_x1.one) rfl rfl ?_
  refine wp_bindE (ρ' := [_, _, _, _, .sl 31 1 [x1]]) (lit_one i_x1.one) rfl rfl ?_
  refine wp_bindE (ρ' := [_, _, _, _, _, x3]) (sh_fld1 (off := 3) rfl i_x3.one) rfl rfl ?_
  refine wp_bindE (ρ' := [_, _, _, _, _, _, .sl 31 1 (x1 :: x3.es)]) (app_mk (el := 31) (sz := 1) (bytes := 24) (l := [x1]) h3 (by decide) (by simp; omega)) rfl rfl ?_
  exact wp_retTo rfl rfl
/-- the reference's test of a form -/
theorem g23 {x0 x2 x4 : Int} {x1 x3 x5 x6 x7 : D} {q : Int} (h1 : HasB 1048576 ShI x1) (h3 : HasB 1048576 (.sl 31 1 ShI) x3) : Holds EE 23 [.agg [dI x0, x1, dI x2, x3, dI x4, x5, x6, x7], dI q] (dB (decide (0 ≤ q ∧ q < ((x1 :: x3.es).length : Int)))) := by
  refine u23 rfl (Goes.step' ?_)
  have i_f := isSl_ofB (forms_val h1 h3)
  show wp _ _ _ u23T0 _
  refine wp_bindE (ρ' := [_, _, .agg [dI x0, x1, dI x2, x3, dI x4, x5, x6, x7]]) (sh_chkW rfl) rfl rfl ?_
  refine wp_bindE (ρ' := [_, _, _, _]) sk_geq rfl rfl ?_
  refine wp_iteC rfl (fun c0 => ?_) (fun c0 => ?_)
  · replace c0 : q ≥ ((0 : Nat) : Int) := of_decide_eq_true c0
    refine wp_callE (ρ' := [_, _, _, _, .sl 31 1 (x1 :: x3.es)]) (g24 h1 h3) rfl rfl rfl rfl ?_
    refine wp_bindE (ρ' := [_, _, _, _, _, dI ((((x1 :: x3.es).length : Nat)) : Int)]) (sh_len i_f) rfl rfl ?_
    refine wp_bindE (ρ' := [_, _, _, _, _, _, dB (decide (q < ((x1 :: x3.es).length : Int)))]) sk_lss rfl rfl ?_
    refine wp_retTo (d' := dB (decide (q < ((x1 :: x3.es).length : Int)))) rfl (db_congr ?_)
    rw [decide_eq_decide]
    constructor
    · intro h; exact ⟨by omega, h⟩
    · intro h; exact h.2
  · replace c0 : ¬ (q ≥ ((0 : Nat) : Int)) := of_decide_eq_false c0
    refine wp_retTo (d' := dB false) rfl (db_congr ?_)
    symm
    rw [decide_eq_false_iff_not]
    intro h
    omega
/-- the program's form of a part -/
theorem g21 {g : List D} {l : D} {p0 p1 p2 : Int} (hg : g.length = 9) (hl : g[8]? = some l) (h : HasB 1048576 (.sl 66 8 ShE) l) :
    ∃ (y0 y2 y4 : Int) (y1 y3 y5 y6 y7 w : D) (b : Bool), Holds EE 21 [.agg g, .agg [dI p0, dI p1, dI p2]] (.tup [.agg [dI y0, y1, dI y2, y3, dI y4, y5, y6, y7], w, dB b]) ∧ selP l p0 p1 = (if b then some (dI y2, w) else none) ∧ HasB 1048576 ShI w ∧ w.one = true := by
  have hB := hasB_mono (B' := 300000000) (by decide) h
  have i_l := isSl_ofB hB
  rcases getR_cases (id := p0) h with ⟨x0, x2, x4, x1, x3, x5, x6, x7, h1, h3, h5, h6, h7, he, hr⟩ | ⟨he, hr⟩
  · have hsel : selP l p0 p1 = (if 0 ≤ p1 ∧ p1 < ((x1 :: x3.es).length : Int) then some (dI x2, ((x1 :: x3.es)[p1.toNat]?).getD .nil) else none) := by
      unfold selP; rw [he]
    have i_f := isSl_ofB (forms_val h1 h3)
    by_cases hc : 0 ≤ p1 ∧ p1 < ((x1 :: x3.es).length : Int)
    · have hlt : p1.toNat < (x1 :: x3.es).length := by omega
      have hw := forms_all h1 h3 _ (List.getElem_mem hlt)
      have hwe : (x1 :: x3.es)[p1.toNat]? = some ((x1 :: x3.es)[p1.toNat]) := List.getElem?_eq_getElem hlt
      generalize (x1 :: x3.es)[p1.toNat] = w at hw hwe
      have i_w := isSl_ofB hw
      refine ⟨x0, x2, x4, x1, x3, x5, x6, x7, w, true, ?_, by rw [hsel, if_pos hc, hwe]; rfl, hw, i_w.one⟩
      refine u21 rfl (Goes.step' ?_)
      show wp _ _ _ u21T0 _
      refine wp_bindE (ρ' := [_, _, .agg g]) (sh_chkW hg) rfl rfl ?_
      refine wp_bindE (ρ' := [_, _, _, .agg [dI p0, dI p1, dI p2]]) (sh_chkW rfl) rfl rfl ?_
      refine wp_bindE (ρ' := [_, _, _, _, l]) (sh_fld1 (off := 8) hl i_l.one) rfl rfl ?_
      refine wp_bindE (ρ' := [_, _, _, _, _, dI p0]) (sh_fld1 (off := 0) rfl rfl) rfl rfl ?_
      refine wp_callE (ρ' := [_, _, _, _, _, _, .tup [.agg [dI x0, x1, dI x2, x3, dI x4, x5, x6, x7], dB true]]) (by rw [← hr]; exact g34 hB) rfl rfl rfl rfl ?_
      refine wp_bindE (ρ' := [_, _, _, _, _, _, _, .agg [dI x0, x1, dI x2, x3, dI x4, x5, x6, x7]]) (te_ext rfl) rfl rfl ?_
      refine wp_bindE (ρ' := [_, _, _, _, _, _, _, _, dB true]) (te_ext rfl) rfl rfl ?_
      refine wp_bindE (ρ' := [_, _, _, _, _, _, _, _, _, .agg [dI x0, x1, dI x2, x3, dI x4, x5, x6, x7]]) (sh_chkW rfl) rfl rfl ?_
      refine wp_callE (ρ' := [_, _, _, _, _, _, _, _, _, _, .sl 31 1 (x1 :: x3.es)]) (g40 h1 h3) rfl rfl rfl rfl ?_
      refine wp_bindE (ρ' := [_, _, _, _, _, _, _, _, _, _, _, dB (!true)]) sh_not rfl rfl ?_
      refine wp_iteB rfl ?_
      refine ite_f ?_
      refine wp_bindE (ρ' := [_, _, _, _, _, _, _, _, _, _, _, _, dI p1]) (sh_fld1 (off := 1) rfl rfl) rfl rfl ?_
      refine wp_bindE (ρ' := [_, _, _, _, _, _, _, _, _, _, _, _, _, _]) sk_lss rfl rfl ?_
      refine wp_iteC rfl (fun c0 => ?_) (fun c0 => ?_)
      · replace c0 : p1 < ((0 : Nat) : Int) := of_decide_eq_true c0
        omega
      refine wp_bindE (ρ' := [_, _, _, _, _, _, _, _, _, _, _, _, _, _, dI p1]) (sh_fld1 (off := 1) rfl rfl) rfl rfl ?_
      refine wp_bindE (ρ' := [_, _, _, _, _, _, _, _, _, _, _, _, _, _, _, dI (((x1 :: x3.es).length : Nat) : Int)]) (sh_len i_f) rfl rfl ?_
      refine wp_bindE (ρ' := [_, _, _, _, _, _, _, _, _, _, _, _, _, _, _, _, _]) sk_geq rfl rfl ?_
      refine wp_iteC rfl (fun c1 => ?_) (fun c1 => ?_)
      · replace c1 : p1 ≥ ((x1 :: x3.es).length : Int) := of_decide_eq_true c1
        omega
      refine wp_bindE (ρ' := [_, _, _, _, _, _, _, _, _, _, _, _, _, _, _, _, _, dI p1]) (sh_fld1 (off := 1) rfl rfl) rfl rfl ?_
      refine wp_bindE (ρ' := [_, _, _, _, _, _, _, _, _, _, _, _, _, _, _, _, _, _, dB true]) (si_inr (d := .sl 31 1 (x1 :: x3.es)) hc.1 hwe) rfl rfl ?_
      refine wp_bindE (ρ' := [_, _, _, _, _, _, _, _, _, _, _, _, _, _, _, _, _, _, _, w]) (si_elem1 i_f hc.1 hwe i_w.one) rfl rfl ?_
      refine wp_bindE (ρ' := [_, _, _, _, _, _, _, _, _, _, _, _, _, _, _, _, _, _, _, _, .agg [dI x0, x1, dI x2, x3, dI x4, x5, x6, x7]]) (sh_chkW rfl) rfl rfl ?_
      refine wp_bindE (ρ' := [_, _, _, _, _, _, _, _, _, _, _, _, _, _, _, _, _, _, _, _, _, dB true]) (si_inr (d := .sl 31 1 (x1 :: x3.es)) hc.1 hwe) rfl rfl ?_
      exact wp_retTo2 rfl rfl
    · refine ⟨x0, x2, x4, x1, x3, x5, x6, x7, .nil, false, ?_, by rw [hsel, if_neg hc]; rfl, hb_nil, rfl⟩
      refine u21 rfl (Goes.step' ?_)
      show wp _ _ _ u21T0 _
      refine wp_bindE (ρ' := [_, _, .agg g]) (sh_chkW hg) rfl rfl ?_
      refine wp_bindE (ρ' := [_, _, _, .agg [dI p0, dI p1, dI p2]]) (sh_chkW rfl) rfl rfl ?_
      refine wp_bindE (ρ' := [_, _, _, _, l]) (sh_fld1 (off := 8) hl i_l.one) rfl rfl ?_
      refine wp_bindE (ρ' := [_, _, _, _, _, dI p0]) (sh_fld1 (off := 0) rfl rfl) rfl rfl ?_
      refine wp_callE (ρ' := [_, _, _, _, _, _, .tup [.agg [dI x0, x1, dI x2, x3, dI x4, x5, x6, x7], dB true]]) (by rw [← hr]; exact g34 hB) rfl rfl rfl rfl ?_
      refine wp_bindE (ρ' := [_, _, _, _, _, _, _, .agg [dI x0, x1, dI x2, x3, dI x4, x5, x6, x7]]) (te_ext rfl) rfl rfl ?_
      refine wp_bindE (ρ' := [_, _, _, _, _, _, _, _, dB true]) (te_ext rfl) rfl rfl ?_
      refine wp_bindE (ρ' := [_, _, _, _, _, _, _, _, _, .agg [dI x0, x1, dI x2, x3, dI x4, x5, x6, x7]]) (sh_chkW rfl) rfl rfl ?_
      refine wp_callE (ρ' := [_, _, _, _, _, _, _, _, _, _, .sl 31 1 (x1 :: x3.es)]) (g40 h1 h3) rfl rfl rfl rfl ?_
      refine wp_bindE (ρ' := [_, _, _, _, _, _, _, _, _, _, _, dB (!true)]) sh_not rfl rfl ?_
      refine wp_iteB rfl ?_
      refine ite_f ?_
      refine wp_bindE (ρ' := [_, _, _, _, _, _, _, _, _, _, _, _, dI p1]) (sh_fld1 (off := 1) rfl rfl) rfl rfl ?_
      refine wp_bindE (ρ' := [_, _, _, _, _, _, _, _, _, _, _, _, _, _]) sk_lss rfl rfl ?_
      refine wp_iteC rfl (fun c0 => ?_) (fun c0 => ?_)
      · refine wp_bindE (ρ' := [_, _, _, _, _, _, _, _, _, _, _, _, _, _, .agg [dI x0, x1, dI x2, x3, dI x4, x5, x6, x7]]) (sh_chkW rfl) rfl rfl ?_
        exact wp_retTo2 rfl rfl
      replace c0 : ¬ (p1 < ((0 : Nat) : Int)) := of_decide_eq_false c0
      refine wp_bindE (ρ' := [_, _, _, _, _, _, _, _, _, _, _, _, _, _, dI p1]) (sh_fld1 (off := 1) rfl rfl) rfl rfl ?_
      refine wp_bindE (ρ' := [_, _, _, _, _, _, _, _, _, _, _, _, _, _, _, dI (((x1 :: x3.es).length : Nat) : Int)]) (sh_len i_f) rfl rfl ?_
      refine wp_bindE (ρ' := [_, _, _, _, _, _, _, _, _, _, _, _, _, _, _, _, _]) sk_geq rfl rfl ?_
      refine wp_iteC rfl (fun c1 => ?_) (fun c1 => ?_)
      · refine wp_bindE (ρ' := [_, _, _, _, _, _, _, _, _, _, _, _, _, _, _, _, _, .agg [dI x0, x1, dI x2, x3, dI x4, x5, x6, x7]]) (sh_chkW rfl) rfl rfl ?_
        exact wp_retTo2 rfl rfl
      · replace c1 : ¬ (p1 ≥ ((x1 :: x3.es).length : Int)) := of_decide_eq_false c1
        exact absurd ⟨by omega, by omega⟩ hc
  · refine ⟨0, 0, 0, .nil, .nil, .nil, .nil, .nil, .nil, false, ?_, by unfold selP; rw [he]; rfl, hb_nil, rfl⟩
    refine u21 rfl (Goes.step' ?_)
    show wp _ _ _ u21T0 _
    refine wp_bindE (ρ' := [_, _, .agg g]) (sh_chkW hg) rfl rfl ?_
    refine wp_bindE (ρ' := [_, _, _, .agg [dI p0, dI p1, dI p2]]) (sh_chkW rfl) rfl rfl ?_
    refine wp_bindE (ρ' := [_, _, _, _, l]) (sh_fld1 (off := 8) hl i_l.one) rfl rfl ?_
    refine wp_bindE (ρ' := [_, _, _, _, _, dI p0]) (sh_fld1 (off := 0) rfl rfl) rfl rfl ?_
    refine wp_callE (ρ' := [_, _, _, _, _, _, .tup [zeroE, dB false]]) (by rw [← hr]; exact g34 hB) rfl rfl rfl rfl ?_
    refine wp_bindE (ρ' := [_, _, _, _, _, _, _, zeroE]) (te_ext rfl) rfl rfl ?_
    refine wp_bindE (ρ' := [_, _, _, _, _, _, _, _, dB false]) (te_ext rfl) rfl rfl ?_
    refine wp_bindE (ρ' := [_, _, _, _, _, _, _, _, _, zeroE]) (sh_chkW rfl) rfl rfl ?_
    refine wp_callE (ρ' := [_, _, _, _, _, _, _, _, _, _, .sl 31 1 [.nil]]) (g40 (x1 := .nil) (x3 := .nil) hb_nil hb_nil) rfl rfl rfl rfl ?_
    refine wp_bindE (ρ' := [_, _, _, _, _, _, _, _, _, _, _, dB (!false)]) sh_not rfl rfl ?_
    refine wp_iteB rfl ?_
    refine ite_t ?_
    refine wp_bindE (ρ' := [_, _, _, _, _, _, _, _, _, _, _, _, zeroE]) (sh_chkW rfl) rfl rfl ?_
    exact wp_retTo2 rfl rfl
end Go.Proofs.YtonebjbldlokmaaGreat
