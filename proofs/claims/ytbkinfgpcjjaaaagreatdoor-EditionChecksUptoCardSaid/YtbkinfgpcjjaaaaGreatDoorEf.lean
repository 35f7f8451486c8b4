/- Spans: what the reference leaves of one span when others are taken out. Conditions: none. -/
import Derived.Test.YtbkinfgpcjjaaaaGreatDoorEd
import Derived.Test.YtbkinfgpcjjaaaaGreatDoorUv
set_option linter.all false
namespace Go.Proofs.YtbkinfgpcjjaaaaGreatDoor
open Go Go.Am Go.Proofs
attribute [local irreducible] Go.Am.wp Go.Am.TOp.eval
theorem t124R (x y : Int) : Holds EE 124 [.agg [dI x, dI y]] (dB (rt x y)) := by
  suffices h : ∃ d, (fun d => d = dB (rt x y)) d ∧ Goes EE (Holds EE) u124Ts 0 [.agg [dI x, dI y]] d by
    obtain ⟨d, hd, hg⟩ := h; cases hd; exact u124 rfl hg
  refine goes_R ?_
  show wp _ _ _ u124T0 _
  refine wp_bindE (ρ' := [_, .agg [dI x, dI y]]) (sh_chkW rfl) rfl rfl ?_
  refine wp_bindE (ρ' := [_, _, dI x]) (sh_fld1 (off := 0) rfl rfl) rfl rfl ?_
  refine wp_bindE (ρ' := [_, _, _, dB (decide (x ≥ 0))]) sk_geq rfl rfl ?_
  refine wp_iteC rfl (fun c => ?_) (fun c => ?_)
  · refine wp_bindE (ρ' := [_, _, _, _, dI x]) (sh_fld1 (off := 0) rfl rfl) rfl rfl ?_
    refine wp_bindE (ρ' := [_, _, _, _, _, dI y]) (sh_fld1 (off := 1) rfl rfl) rfl rfl ?_
    refine wp_bindE (ρ' := [_, _, _, _, _, _, dB (decide (x < y))]) sk_lss rfl rfl ?_
    refine wp_iteC rfl (fun c' => ?_) (fun c' => ?_)
    · refine wp_bindE (ρ' := [_, _, _, _, _, _, _, dI y]) (sh_fld1 (off := 1) rfl rfl) rfl rfl ?_
      refine wp_bindE (ρ' := [_, _, _, _, _, _, _, _, dB (decide (y ≤ 86400000))]) sk_leq rfl rfl ?_
      exact wr_ret rfl (by show dB (decide (y ≤ 86400000)) = dB (rt x y); unfold rt; rw [c, c']; rfl)
    · exact wr_ret rfl (by show dB false = dB (rt x y); unfold rt; rw [c, c']; rfl)
  · exact wr_ret rfl (by show dB false = dB (rt x y); unfold rt; rw [c]; rfl)
theorem wo_of {s p : Int × Int} {a b : Bool} (ha : rt p.1 (mn p.2 s.1) = a) (hb : rt (mx p.1 s.2) p.2 = b) :
    wo s p = (bif a then [(p.1, mn p.2 s.1)] else []) ++ (bif b then [(mx p.1 s.2, p.2)] else []) := by
  unfold wo; rw [ha, hb]; cases a <;> cases b <;> rfl
theorem t238 {l : List (Int × Int)} {s0 s1 : Int} (hs : Srt l) (h12 : s0 < s1) (hz : l.length ≤ 300000001) : Holds EE 238 [sp 114 l, .agg [dI s0, dI s1]] (sp 114 (l.flatMap (wo (s0, s1)))) := by
  suffices h : ∃ d, (fun d => d = sp 114 (l.flatMap (wo (s0, s1)))) d ∧ Goes EE (Holds EE) u238Ts 0 [sp 114 l, .agg [dI s0, dI s1]] d by
    obtain ⟨d, hd, hg⟩ := h; cases hd; exact u238 rfl hg
  have i_a : IsSl 114 2 (sp 114 l) := sp_sl (by omega)
  refine goes_R ?_
  show wp _ _ _ u238T0 _
  refine wp_bindE (ρ' := [_, _, .agg [dI s0, dI s1]]) (sh_chkW rfl) rfl rfl ?_
  refine wp_bindE (ρ' := [_, _, _, sp 114 []]) lit_no rfl rfl ?_
  refine wr_jump rfl (loop_up (P := fun i => i ≤ l.length → ∃ d, (fun d => d = sp 114 (l.flatMap (wo (s0, s1)))) d ∧ Goes EE (Holds EE) u238Ts 1 [sp 114 l, sp 114 ((l.take i).flatMap (wo (s0, s1))), dI ((i : Nat) : Int), .agg [dI s0, dI s1]] d) l.length (fun i ih => ?_) 0 (by omega))
  intro hn
  refine goes_R ?_
  show wp _ _ _ u238T1 _
  refine wp_bindE (ρ' := [_, _, _, _, dI ((l.length : Nat) : Int)]) sp_len rfl rfl ?_
  refine wp_bindE (ρ' := [_, _, _, _, _, _]) sk_lss rfl rfl ?_
  refine wp_iteC rfl (fun c2 => ?_) (fun c2 => ?_)
  · replace c2 : ((i : Nat) : Int) < ((l.length : Nat) : Int) := of_decide_eq_true c2
    have hi : i < l.length := by omega
    obtain ⟨⟨x0, x1⟩, hp⟩ : ∃ p, l[i]? = some p := ⟨_, List.getElem?_eq_getElem hi⟩
    have e_x : (sp 114 l).es[((i : Nat) : Int).toNat]? = some (.agg [dI x0, dI x1]) := sp_at hp
    have hstep : (l.take (i + 1)).flatMap (wo (s0, s1)) = (l.take i).flatMap (wo (s0, s1)) ++ wo (s0, s1) (x0, x1) := by
      rw [List.take_add_one, hp, List.flatMap_append]; simp
    have hlen : ((l.take (i + 1)).flatMap (wo (s0, s1))).length ≤ 300000002 := by
      have h1 := wo_len (s := (s0, s1)) h12 (l := l.take (i + 1)) ⟨hs.1.sublist (List.take_sublist _ _), fun q hq => hs.2 q (List.mem_of_mem_take hq)⟩
      have h2 := List.length_take_le (i + 1) l
      have h3 := List.length_take_le' (i + 1) l
      omega
    have nx := ih hi (by omega)
    rw [hstep] at nx
    rw [hstep, List.length_append] at hlen
    generalize (l.take i).flatMap (wo (s0, s1)) = L at hlen nx ⊢
    refine wp_bindE (ρ' := [_, _, _, _, _, _, dB true]) (si_inr (by omega) e_x) rfl rfl ?_
    refine wp_bindE (ρ' := [_, _, _, _, _, _, _, dI x0]) (si_elemP (off := 0) i_a (by omega) e_x rfl rfl (by decide)) rfl rfl ?_
    refine wp_bindE (ρ' := [_, _, _, _, _, _, _, _, dB true]) (si_inr (by omega) e_x) rfl rfl ?_
    refine wp_bindE (ρ' := [_, _, _, _, _, _, _, _, _, dI x1]) (si_elemP (off := 1) i_a (by omega) e_x rfl rfl (by decide)) rfl rfl ?_
    refine wp_bindE (ρ' := [_, _, _, _, _, _, _, _, _, _, dI s0]) (sh_fld1 (off := 0) rfl rfl) rfl rfl ?_
    refine wp_bindE (ρ' := [_, _, _, _, _, _, _, _, _, _, _, dI (mn x1 s0)]) mm_mn rfl rfl ?_
    refine wp_bindE (ρ' := [_, _, _, _, _, _, _, _, _, _, _, _, dB true]) (si_inr (by omega) e_x) rfl rfl ?_
    refine wp_bindE (ρ' := [_, _, _, _, _, _, _, _, _, _, _, _, _, dI x0]) (si_elemP (off := 0) i_a (by omega) e_x rfl rfl (by decide)) rfl rfl ?_
    refine wp_bindE (ρ' := [_, _, _, _, _, _, _, _, _, _, _, _, _, _, dI s1]) (sh_fld1 (off := 1) rfl rfl) rfl rfl ?_
    refine wp_bindE (ρ' := [_, _, _, _, _, _, _, _, _, _, _, _, _, _, _, dI (mx x0 s1)]) mm_mx rfl rfl ?_
    refine wp_bindE (ρ' := [_, _, _, _, _, _, _, _, _, _, _, _, _, _, _, _, dB true]) (si_inr (by omega) e_x) rfl rfl ?_
    refine wp_bindE (ρ' := [_, _, _, _, _, _, _, _, _, _, _, _, _, _, _, _, _, dI x1]) (si_elemP (off := 1) i_a (by omega) e_x rfl rfl (by decide)) rfl rfl ?_
    refine wp_callE (ρ' := [_, _, _, _, _, _, _, _, _, _, _, _, _, _, _, _, _, _, dB (rt x0 (mn x1 s0))]) (t124R x0 (mn x1 s0)) rfl rfl rfl rfl ?_
    refine wp_iteC rfl (fun c7 => ?_) (fun c7 => ?_)
    · refine wp_bindE (ρ' := [_, _, _, _, _, _, _, _, _, _, _, _, _, _, _, _, _, _, _, .agg [dI x0, dI (mn x1 s0)]]) (sh_chkW rfl) rfl rfl ?_
      refine wp_bindE (ρ' := [_, _, _, _, _, _, _, _, _, _, _, _, _, _, _, _, _, _, _, _, .sl 114 2 [pd (x0, mn x1 s0)]]) lit_pd rfl rfl ?_
      refine wp_bindE (ρ' := [_, _, _, _, _, _, _, _, _, _, _, _, _, _, _, _, _, _, _, _, _, sp 114 (L ++ [(x0, mn x1 s0)])]) (sp_app (by omega)) rfl rfl ?_
      refine wp_callE (ρ' := [_, _, _, _, _, _, _, _, _, _, _, _, _, _, _, _, _, _, _, _, _, _, dB (rt (mx x0 s1) x1)]) (t124R (mx x0 s1) x1) rfl rfl rfl rfl ?_
      refine wp_iteC rfl (fun c11 => ?_) (fun c11 => ?_)
      · have hw := wo_of (s := (s0, s1)) (p := (x0, x1)) c7 c11
        rw [hw] at nx
        refine wp_bindE (ρ' := [_, _, _, _, _, _, _, _, _, _, _, _, _, _, _, _, _, _, _, _, _, _, _, .agg [dI (mx x0 s1), dI x1]]) (sh_chkW rfl) rfl rfl ?_
        refine wp_bindE (ρ' := [_, _, _, _, _, _, _, _, _, _, _, _, _, _, _, _, _, _, _, _, _, _, _, _, .sl 114 2 [pd (mx x0 s1, x1)]]) lit_pd rfl rfl ?_
        refine wp_bindE (ρ' := [_, _, _, _, _, _, _, _, _, _, _, _, _, _, _, _, _, _, _, _, _, _, _, _, _, sp 114 ((L ++ [(x0, mn x1 s0)]) ++ [(mx x0 s1, x1)])]) (sp_app (by rw [List.length_append]; show L.length + 1 ≤ _; omega)) rfl rfl ?_
        refine wp_bindE (ρ' := [_, _, _, _, _, _, _, _, _, _, _, _, _, _, _, _, _, _, _, _, _, _, _, _, _, _, dI ((i + 1 : Nat) : Int)]) (sh_add (cap_bd' (by omega))) rfl rfl ?_
        rw [List.append_assoc]
        exact wr_jump rfl nx
      · have hw := wo_of (s := (s0, s1)) (p := (x0, x1)) c7 c11
        rw [hw] at nx
        refine wp_bindE (ρ' := [_, _, _, _, _, _, _, _, _, _, _, _, _, _, _, _, _, _, _, _, _, _, _, dI ((i + 1 : Nat) : Int)]) (sh_add (cap_bd' (by omega))) rfl rfl ?_
        exact wr_jump rfl nx
    · refine wp_callE (ρ' := [_, _, _, _, _, _, _, _, _, _, _, _, _, _, _, _, _, _, _, dB (rt (mx x0 s1) x1)]) (t124R (mx x0 s1) x1) rfl rfl rfl rfl ?_
      refine wp_iteC rfl (fun c11 => ?_) (fun c11 => ?_)
      · have hw := wo_of (s := (s0, s1)) (p := (x0, x1)) c7 c11
        rw [hw] at nx
        refine wp_bindE (ρ' := [_, _, _, _, _, _, _, _, _, _, _, _, _, _, _, _, _, _, _, _, .agg [dI (mx x0 s1), dI x1]]) (sh_chkW rfl) rfl rfl ?_
        refine wp_bindE (ρ' := [_, _, _, _, _, _, _, _, _, _, _, _, _, _, _, _, _, _, _, _, _, .sl 114 2 [pd (mx x0 s1, x1)]]) lit_pd rfl rfl ?_
        refine wp_bindE (ρ' := [_, _, _, _, _, _, _, _, _, _, _, _, _, _, _, _, _, _, _, _, _, _, sp 114 (L ++ [(mx x0 s1, x1)])]) (sp_app (by omega)) rfl rfl ?_
        refine wp_bindE (ρ' := [_, _, _, _, _, _, _, _, _, _, _, _, _, _, _, _, _, _, _, _, _, _, _, dI ((i + 1 : Nat) : Int)]) (sh_add (cap_bd' (by omega))) rfl rfl ?_
        exact wr_jump rfl nx
      · have hw := wo_of (s := (s0, s1)) (p := (x0, x1)) c7 c11
        rw [hw] at nx
        refine wp_bindE (ρ' := [_, _, _, _, _, _, _, _, _, _, _, _, _, _, _, _, _, _, _, _, dI ((i + 1 : Nat) : Int)]) (sh_add (cap_bd' (by omega))) rfl rfl ?_
        simp only [cond_false, List.append_nil] at nx
        exact wr_jump rfl nx
  · replace c2 : ¬ (((i : Nat) : Int) < ((l.length : Nat) : Int)) := of_decide_eq_false c2
    have hi : i = l.length := by omega
    subst hi
    exact wr_ret rfl (by show sp 114 ((l.take l.length).flatMap (wo (s0, s1))) = _; rw [List.take_length])
theorem t281 (x y : Int) : Holds EE 281 [sp 114 [], .agg [dI x, dI y]] (sp 114 [(x, y)]) := by
  suffices h : ∃ d, (fun d => d = sp 114 [(x, y)]) d ∧ Goes EE (Holds EE) u281Ts 0 [sp 114 [], .agg [dI x, dI y]] d by
    obtain ⟨d, hd, hg⟩ := h; cases hd; exact u281 rfl hg
  refine goes_R ?_
  show wp _ _ _ u281T0 _
  refine wp_bindE (ρ' := [_, _, .agg [dI x, dI y]]) (sh_chkW rfl) rfl rfl ?_
  refine wp_bindE (ρ' := [_, _, _, sp 114 []]) lit_no rfl rfl ?_
  refine wp_bindE (ρ' := [_, _, _, _, sp 114 []]) lit_no rfl rfl ?_
  refine wr_jump rfl (goes_R ?_)
  show wp _ _ _ u281T1 _
  refine wp_bindE (ρ' := [_, _, _, _, _, dI ((([] : List (Int × Int)).length : Nat) : Int)]) sp_len rfl rfl ?_
  refine wp_bindE (ρ' := [_, _, _, _, _, _, dB false]) sk_lss rfl rfl ?_
  refine wp_iteC rfl (fun c => by cases c) (fun _ => ?_)
  refine wp_bindE (ρ' := [_, _, _, _, _, _, _, .agg [dI x, dI y]]) (sh_chkW rfl) rfl rfl ?_
  refine wp_bindE (ρ' := [_, _, _, _, _, _, _, _, .sl 114 2 [pd (x, y)]]) lit_pd rfl rfl ?_
  refine wp_bindE (ρ' := [_, _, _, _, _, _, _, _, _, sp 114 [(x, y)]]) (sp_app (l := []) (by decide)) rfl rfl ?_
  refine wp_bindE (ρ' := [_, _, _, _, _, _, _, _, _, _, sp 114 [(x, y)]]) app_no rfl rfl ?_
  exact wr_ret rfl rfl
theorem t237 (x y : Int) : Holds EE 237 [sp 114 [(x, y)]] (sp 114 (bif rt x y then [(x, y)] else [])) := by
  suffices h : ∃ d, (fun d => d = sp 114 (bif rt x y then [(x, y)] else [])) d ∧ Goes EE (Holds EE) u237Ts 0 [sp 114 [(x, y)]] d by
    obtain ⟨d, hd, hg⟩ := h; cases hd; exact u237 rfl hg
  have i_a : IsSl 114 2 (sp 114 [(x, y)]) := sp_sl (by simp)
  have e_x : (sp 114 [(x, y)]).es[((0 : Nat) : Int).toNat]? = some (.agg [dI x, dI y]) := rfl
  have last : ∀ l, (fun d => d = sp 114 (bif rt x y then [(x, y)] else [])) (sp 114 l) → ∃ d, (fun d => d = sp 114 (bif rt x y then [(x, y)] else [])) d ∧ Goes EE (Holds EE) u237Ts 1 [sp 114 [(x, y)], sp 114 l, dI ((1 : Nat) : Int)] d := by
    intro l hl
    refine goes_R ?_
    show wp _ _ _ u237T1 _
    refine wp_bindE (ρ' := [_, _, _, dI (([(x, y)].length : Nat) : Int)]) sp_len rfl rfl ?_
    refine wp_bindE (ρ' := [_, _, _, _, dB false]) sk_lss rfl rfl ?_
    refine wp_iteC rfl (fun c => by cases c) (fun _ => ?_)
    exact wr_ret rfl hl
  refine goes_R ?_
  show wp _ _ _ u237T0 _
  refine wp_bindE (ρ' := [_, sp 114 []]) lit_no rfl rfl ?_
  refine wr_jump rfl (goes_R ?_)
  show wp _ _ _ u237T1 _
  refine wp_bindE (ρ' := [_, _, _, dI (([(x, y)].length : Nat) : Int)]) sp_len rfl rfl ?_
  refine wp_bindE (ρ' := [_, _, _, _, dB true]) sk_lss rfl rfl ?_
  refine wp_iteC rfl (fun _ => ?_) (fun c => by cases c)
  refine wp_bindE (ρ' := [_, _, _, _, _, dB true]) (si_inr (by omega) e_x) rfl rfl ?_
  refine wp_bindE (ρ' := [_, _, _, _, _, _, .agg [dI x, dI y]]) (si_elemW i_a (by omega) e_x rfl) rfl rfl ?_
  refine wp_callE (ρ' := [_, _, _, _, _, _, _, dB (rt x y)]) (t124R x y) rfl rfl rfl rfl ?_
  refine wp_iteC rfl (fun c => ?_) (fun c => ?_)
  · refine wp_bindE (ρ' := [_, _, _, _, _, _, _, _, dB true]) (si_inr (by omega) e_x) rfl rfl ?_
    refine wp_bindE (ρ' := [_, _, _, _, _, _, _, _, _, .agg [dI x, dI y]]) (si_elemW i_a (by omega) e_x rfl) rfl rfl ?_
    refine wp_callE (ρ' := [_, _, _, _, _, _, _, _, _, _, sp 114 [(x, y)]]) (t281 x y) rfl rfl rfl rfl ?_
    refine wp_bindE (ρ' := [_, _, _, _, _, _, _, _, _, _, _, dI ((0 + 1 : Nat) : Int)]) (sh_add (cap_bd' (n := 0 + 1) (by decide))) rfl rfl ?_
    exact wr_jump rfl (last _ (by show _ = sp 114 _; rw [c]; rfl))
  · refine wp_bindE (ρ' := [_, _, _, _, _, _, _, _, dI ((0 + 1 : Nat) : Int)]) (sh_add (cap_bd' (n := 0 + 1) (by decide))) rfl rfl ?_
    exact wr_jump rfl (last _ (by show _ = sp 114 _; rw [c]; rfl))
theorem t175 {b : D} (x y : Int) (h_b : HasB 300000000 (.sl 114 2 (.st [.int .i64, .int .i64])) b) : ∃ d, (∃ l : List (Int × Int), d = sp 114 l ∧ l.length ≤ 300000001) ∧ Holds EE 175 [sp 114 [(x, y)], b] d := by
  suffices h : ∃ d, (fun d => ∃ l : List (Int × Int), d = sp 114 l ∧ l.length ≤ 300000001) d ∧ Goes EE (Holds EE) u175Ts 0 [sp 114 [(x, y)], b] d by
    obtain ⟨d, hd, hg⟩ := h; exact ⟨d, hd, u175 rfl hg⟩
  have i_b := isSl_ofB h_b
  have b_b := len_leB h_b
  refine goes_R ?_
  show wp _ _ _ u175T0 _
  refine wp_callE (ρ' := [_, _, _]) (t237 x y) rfl rfl rfl rfl ?_
  have h0 : Srt (bif rt x y then [(x, y)] else []) ∧ (bif rt x y then [(x, y)] else []).length ≤ 1 := by
    cases hr : rt x y
    · exact ⟨srt_nil, Nat.zero_le _⟩
    · exact ⟨srt_one (rt_lt hr), Nat.le_refl _⟩
  refine wr_jump rfl (loop_up (P := fun i => i ≤ b.es.length → ∀ l, Srt l → l.length ≤ i + 1 → ∃ d, (fun d => ∃ l : List (Int × Int), d = sp 114 l ∧ l.length ≤ 300000001) d ∧ Goes EE (Holds EE) u175Ts 1 [b, sp 114 l, dI ((i : Nat) : Int)] d) b.es.length (fun i ih => ?_) 0 (by omega) _ h0.1 h0.2)
  intro hn l hl hz
  refine goes_R ?_
  show wp _ _ _ u175T1 _
  refine wp_bindE (ρ' := [_, _, _, dI ((b.es.length : Nat) : Int)]) (sh_len i_b) rfl rfl ?_
  refine wp_bindE (ρ' := [_, _, _, _, _]) sk_lss rfl rfl ?_
  refine wp_iteC rfl (fun c2 => ?_) (fun c2 => ?_)
  · replace c2 : ((i : Nat) : Int) < ((b.es.length : Nat) : Int) := of_decide_eq_true c2
    obtain ⟨x3, e_x3⟩ := get_at (d := b) (s := ((i : Nat) : Int)) (by omega) (by omega)
    obtain ⟨_, rfl, _, _, rfl, ⟨x3_0, rfl⟩, _, _, rfl, ⟨x3_1, rfl⟩, rfl⟩ := (elem_ofB h_b e_x3)
    refine wp_bindE (ρ' := [_, _, _, _, _, dB true]) (si_inr (by omega) e_x3) rfl rfl ?_
    refine wp_bindE (ρ' := [_, _, _, _, _, _, .agg [dI x3_0, dI x3_1]]) (si_elemW i_b (by omega) e_x3 rfl) rfl rfl ?_
    refine wp_callE (ρ' := [_, _, _, _, _, _, _, dB (rt x3_0 x3_1)]) (t124R x3_0 x3_1) rfl rfl rfl rfl ?_
    refine wp_iteC rfl (fun c5 => ?_) (fun c5 => ?_)
    · have h12 := rt_lt c5
      refine wp_bindE (ρ' := [_, _, _, _, _, _, _, _, dB true]) (si_inr (by omega) e_x3) rfl rfl ?_
      refine wp_bindE (ρ' := [_, _, _, _, _, _, _, _, _, .agg [dI x3_0, dI x3_1]]) (si_elemW i_b (by omega) e_x3 rfl) rfl rfl ?_
      refine wp_callE (ρ' := [_, _, _, _, _, _, _, _, _, _, _]) (t238 hl h12 (by omega)) rfl rfl rfl rfl ?_
      refine wp_bindE (ρ' := [_, _, _, _, _, _, _, _, _, _, _, dI ((i + 1 : Nat) : Int)]) (sh_add (cap_bd' (by omega))) rfl rfl ?_
      have := wo_len (s := (x3_0, x3_1)) h12 hl
      exact wr_jump rfl (ih (by omega) (by omega) _ (wo_srt h12 hl) (by omega))
    · refine wp_bindE (ρ' := [_, _, _, _, _, _, _, _, dI ((i + 1 : Nat) : Int)]) (sh_add (cap_bd' (by omega))) rfl rfl ?_
      exact wr_jump rfl (ih (by omega) (by omega) l hl (by omega))
  · exact wr_ret rfl ⟨l, rfl, by omega⟩
theorem t111 {a b : D} (h_a : HasB 300000000 (.sl 114 2 (.st [.int .i64, .int .i64])) a) (h_b : HasB 300000000 (.st [.int .i64, .int .i64]) b) : ∃ d, (HasB 300000000 (.bool)) d ∧ Holds EE 111 [a, b] d := by
  suffices h : ∃ d, (HasB 300000000 (.bool)) d ∧ Goes EE (Holds EE) u111Ts 0 [a, b] d by
    obtain ⟨d, hd, hg⟩ := h; exact ⟨d, hd, u111 rfl hg⟩
  obtain ⟨_, rfl, _, _, rfl, ⟨b_0, rfl⟩, _, _, rfl, ⟨b_1, rfl⟩, rfl⟩ := h_b
  refine goes_R (R := (HasB 300000000 (.bool))) ?_
  show wp _ _ _ u111T0 _
  refine wp_bindE (ρ' := [_, _, .agg [dI (b_0), dI (b_1)]]) (sh_chkW rfl) rfl rfl ?_
  refine wp_callE (ρ' := [_, _, _, dB (rt b_0 b_1)]) (t124R b_0 b_1) rfl rfl rfl rfl ?_
  refine wp_iteC rfl (fun _ => ?_) (fun _ => ?_)
  · refine wp_bindE (ρ' := [_, _, _, _, .agg [dI (b_0), dI (b_1)]]) (sh_chkW rfl) rfl rfl ?_
    refine wp_bindE (ρ' := [_, _, _, _, _, sp 114 [(b_0, b_1)]]) lit_pd rfl rfl ?_
    obtain ⟨_, ⟨l, rfl, hl⟩, k⟩ := t175 b_0 b_1 h_a
    refine wp_callE (ρ' := [_, _, _, _, _, _, sp 114 l]) k rfl rfl rfl rfl ?_
    refine wp_bindE (ρ' := [_, _, _, _, _, _, _, dI ((l.length : Nat) : Int)]) sp_len rfl rfl ?_
    refine wp_bindE (ρ' := [_, _, _, _, _, _, _, _, _]) sk_eql rfl rfl ?_
    exact wr_ret rfl hb_bool
  · exact wr_ret rfl hb_bool
end Go.Proofs.YtbkinfgpcjjaaaaGreatDoor
