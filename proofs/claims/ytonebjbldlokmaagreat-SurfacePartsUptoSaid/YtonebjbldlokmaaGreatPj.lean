/- The law of SurfaceParts over data of bounded length. Conditions: none. -/
import Derived.Test.YtonebjbldlokmaaGreatPi
namespace Go.Proofs.YtonebjbldlokmaaGreat
open Go Go.Am Go.Proofs
attribute [local irreducible] Go.Am.wp Go.Am.TOp.eval
abbrev ShL : Sh := .st [.sl 79 2 (.st [.str, .int .i64]), .str, .sl 81 2 (.st [.str, .sl 3 1 (.int .i64)]), .sl 109 1 (.sl 9 1 (.str)), .sl 49 6 (.st [.sl 3 1 (.int .i64), .sl 3 1 (.int .i64), .sl 83 2 (.st [.int .i64, .int .i64]), .sl 83 2 (.st [.int .i64, .int .i64]), .bool, .bool]), .int .i64, .sl 85 3 (.st [.int .i64, .int .i64, .int .i64]), .sl 3 1 (.int .i64), .sl 66 8 (.st [.int .i64, .sl 3 1 (.int .i64), .int .i64, .sl 31 1 (.sl 3 1 (.int .i64)), .int .i64, .sl 87 2 (.st [.str, .str]), .sl 116 2 (.st [.int .i64, .int .i64]), .sl 166 2 (.st [.int .i64, .int .i64])])]
theorem deqs_ints : ∀ l : List D, (∀ x ∈ l, ∃ n, x = dI n) → deqs l l = true
  | [], _ => deqs_nil
  | x :: l, h => by
    obtain ⟨n, rfl⟩ := h x List.mem_cons_self
    rw [deqs_cons, deqs_ints l fun y hy => h y (List.mem_cons_of_mem _ hy)]
    simp [deq, veq]
theorem deq_mk {l : List D} (h : ∀ x ∈ l, ∃ n, x = dI n) : deq (mkOut 3 1 l) (mkOut 3 1 l) = true := by
  unfold mkOut
  split
  · rfl
  · simp only [deq]; exact deqs_ints l h
theorem sh_mk {l : List D} (hl : l.length ≤ 300000000) (h : ∀ x ∈ l, ∃ n, x = dI n) : HasSh (.sl 3 1 (.int .i64)) (mkOut 3 1 l) :=
  hasB_sh (mkOut_hb hl h)
theorem fc_int {l x : D} (h : HasB 1048576 (.sl 66 8 ShE) l) : ∀ y ∈ FC l x, ∃ n, y = dI n := by
  unfold FC
  split
  · split
    · rename_i hs
      intro y hy
      rw [List.mem_singleton.1 hy]
      exact (selP_hb h hs).1
    · intro y hy; cases hy
  · intro y hy; cases hy
theorem fb_int {l x : D} (h : HasB 1048576 (.sl 66 8 ShE) l) : ∀ y ∈ FB l x, ∃ n, y = dI n := by
  unfold FB
  split
  · split
    · rename_i hs
      intro y hy
      have := (selP_hb h hs).2
      simp only [HasB] at this
      rcases this with rfl | ⟨es, rfl, _, ha⟩
      · cases hy
      · exact ha y hy
    · intro y hy; cases hy
  · intro y hy; cases hy
theorem fc_len {l x : D} : (FC l x).length ≤ 1 := by
  unfold FC
  split
  · split <;> simp
  · simp
theorem fb_len {l x : D} (h : HasB 1048576 (.sl 66 8 ShE) l) : (FB l x).length ≤ 1048576 := by
  unfold FB
  split
  · split
    · rename_i hs
      exact len_leB (selP_hb h hs).2
    · simp
  · simp
theorem all_flat {F : D → List D} {l : List D} (h : ∀ x, ∀ y ∈ F x, ∃ n, y = dI n) : ∀ y ∈ l.flatMap F, ∃ n, y = dI n := by
  intro y hy
  obtain ⟨x, _, hx⟩ := List.mem_flatMap.1 hy
  exact h x y hx
/-- 5 few -/
theorem g5 {ps : D} (hp : HasB 300000000 ShP ps) : Holds EE 5 [.agg [ps]] (dB (decide (ps.es.length ≤ 20))) := by
  refine u5 rfl (Goes.step' ?_)
  have i_p := isSl_ofB hp
  show wp _ _ _ u5T0 _
  refine wp_bindE (ρ' := [_, .agg [ps]]) (sh_chkW rfl) rfl rfl ?_
  refine wp_bindE (ρ' := [_, _, ps]) (sh_fld1 (off := 0) rfl i_p.one) rfl rfl ?_
  refine wp_bindE (ρ' := [_, _, _, dI ((ps.es.length : Nat) : Int)]) (sh_len i_p) rfl rfl ?_
  refine wp_bindE (ρ' := [_, _, _, _, _]) sk_leq rfl rfl ?_
  refine wp_retTo (d' := dB (decide ((ps.es.length : Int) ≤ ((20 : Nat) : Int)))) rfl ?_
  by_cases h : ps.es.length ≤ 20
  · rw [decide_eq_true h, decide_eq_true (by omega)]
  · rw [decide_eq_false h, decide_eq_false (by omega)]
theorem h3 {g a : D} (h_g : HasB 1048576 ShL g) (h_a : HasB 1048576 (.st [ShP]) a) (hw : Holds EE 6 [] (dB true)) : Holds EE 3 [g, a] (dB true) := by
  have hB := hasB_mono (B' := 300000000) (by decide) h_g
  have hA := hasB_mono (B' := 300000000) (by decide) h_a
  have hg0 := h_g
  obtain ⟨ps, rfl, hp⟩ : ∃ ps, a = .agg [ps] ∧ HasB 300000000 ShP ps := by
    obtain ⟨_, rfl, ps, _, rfl, hp, rfl⟩ := hA
    exact ⟨ps, rfl, hp⟩
  obtain ⟨cs, l, c3, rfl, hlen, hl, hc3, hE, h3⟩ : ∃ cs l c3, g = .agg cs ∧ cs.length = 9 ∧ cs[8]? = some l ∧ cs[3]? = some c3 ∧ HasB 1048576 (.sl 66 8 ShE) l ∧ HasB 1048576 (.sl 109 1 (.sl 9 1 .str)) c3 := by
    obtain ⟨_, rfl, x0, _, rfl, h_0, x1, _, rfl, h_1, x2, _, rfl, h_2, x3, _, rfl, h_3, x4, _, rfl, h_4, x5, _, rfl, h_5, x6, _, rfl, h_6, x7, _, rfl, h_7, x8, _, rfl, h_8, rfl⟩ := hg0
    exact ⟨_, x8, x3, rfl, rfl, rfl, rfl, h_8, h_3⟩
  obtain ⟨_, ⟨b, rfl⟩, k4⟩ := t4 hB
    (fun cs' e x hx => by cases e; rw [hl] at hx; cases hx; exact Nat.lt_of_le_of_lt (len_leB hE) (by decide))
    (fun cs' e x hx y hy => by
      cases e; rw [hc3] at hx; cases hx
      obtain ⟨i, hi⟩ := List.getElem?_of_mem hy
      exact len_leB (elem_ofB h3 hi))
  have k5 := g5 hp
  refine u3 rfl (Goes.step' ?_)
  show wp _ _ _ u3T0 _
  refine wp_bindE (ρ' := [_, _, .agg cs]) (sh_chkW hlen) rfl rfl ?_
  refine wp_bindE (ρ' := [_, _, _, .agg [ps]]) (sh_chkW rfl) rfl rfl ?_
  refine wp_callE (ρ' := [_, _, _, _, dB b]) k4 rfl rfl rfl rfl ?_
  refine wp_bindE (ρ' := [_, _, _, _, _, dB (!b)]) sh_not rfl rfl ?_
  refine wp_iteC rfl (fun c0 => ?_) (fun c0 => ?_)
  · refine wp_callE (ρ' := [_, _, _, _, _, _, dB true]) hw rfl rfl rfl rfl ?_
    exact wp_retTo (d' := dB true) rfl rfl
  · refine wp_callE (ρ' := [_, _, _, _, _, _, _]) k5 rfl rfl rfl rfl ?_
    refine wp_bindE (ρ' := [_, _, _, _, _, _, _, _]) sh_not rfl rfl ?_
    refine wp_iteC rfl (fun c1 => ?_) (fun c1 => ?_)
    · refine wp_callE (ρ' := [_, _, _, _, _, _, _, _, dB true]) hw rfl rfl rfl rfl ?_
      exact wp_retTo (d' := dB true) rfl rfl
    · have hn : ps.es.length ≤ 20 := by
        cases hd : decide (ps.es.length ≤ 20) with
        | true => exact of_decide_eq_true hd
        | false => rw [hd] at c1; cases c1
      have hci : ∀ y ∈ ps.es.flatMap (FC l), ∃ n, y = dI n := all_flat fun x => fc_int hE
      have hbi : ∀ y ∈ ps.es.flatMap (FB l), ∃ n, y = dI n := all_flat fun x => fb_int hE
      have hcl : (ps.es.flatMap (FC l)).length ≤ ps.es.length * 1 := flat_len_le fun y _ => fc_len
      have hbl : (ps.es.flatMap (FB l)).length ≤ ps.es.length * 1048576 := flat_len_le fun y _ => fb_len hE
      have k7c := h7 (sh_mk (by omega) hci) (sh_mk (by omega) hci)
      have k7b := h7 (sh_mk (by omega) hbi) (sh_mk (by omega) hbi)
      rw [deq_mk hci] at k7c
      rw [deq_mk hbi] at k7b
      refine wp_callE (ρ' := [_, _, _, _, _, _, _, _, _]) (g8 hlen hl hE hp hn) rfl rfl rfl rfl ?_
      refine wp_callE (ρ' := [_, _, _, _, _, _, _, _, _, _]) (g9 hlen hl hE hp hn) rfl rfl rfl rfl ?_
      refine wp_callE (ρ' := [_, _, _, _, _, _, _, _, _, _, dB true]) k7c rfl rfl rfl rfl ?_
      refine wp_iteB (t := true) rfl ?_
      refine ite_t ?_
      refine wp_callE (ρ' := [_, _, _, _, _, _, _, _, _, _, _, _]) (g10 hlen hl hE hp hn) rfl rfl rfl rfl ?_
      refine wp_callE (ρ' := [_, _, _, _, _, _, _, _, _, _, _, _, _]) (g11 hlen hl hE hp hn) rfl rfl rfl rfl ?_
      refine wp_callE (ρ' := [_, _, _, _, _, _, _, _, _, _, _, _, _, dB true]) k7b rfl rfl rfl rfl ?_
      refine wp_iteB (t := true) rfl ?_
      refine ite_t ?_
      refine wp_callE (ρ' := [_, _, _, _, _, _, _, _, _, _, _, _, _, _, dB true]) hw rfl rfl rfl rfl ?_
      exact wp_retTo (d' := dB true) rfl rfl
end Go.Proofs.YtonebjbldlokmaaGreat
