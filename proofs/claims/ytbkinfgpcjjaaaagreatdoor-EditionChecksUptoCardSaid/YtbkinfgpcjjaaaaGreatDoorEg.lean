/- Sorted lists of numbers, and what is below a group. Conditions: none. -/
import Derived.Test.YtbkinfgpcjjaaaaGreatDoorEe
set_option linter.all false
namespace Go.Proofs.YtbkinfgpcjjaaaaGreatDoor
open Go Go.Am Go.Proofs Go.Am.Tt
def IsI (d : D) (l : List Int) : Prop := Ls 3 1 d ∧ d.es = l.map (fun n => dI n)
theorem IsI.len {d : D} {l : List Int} (h : IsI d l) : d.es.length = l.length := by rw [h.2, List.length_map]
theorem IsI.sl {d : D} {l : List Int} (h : IsI d l) (hb : l.length ≤ 300000000) : IsSl 3 1 d := by
  rcases h.1 with rfl | ⟨es, rfl⟩
  · exact .inl rfl
  · exact .inr ⟨es, rfl, cap_bd (by have := h.len; have e : (D.sl 3 1 es).es.length = es.length := rfl; omega)⟩
theorem IsI.get {d : D} {l : List Int} (h : IsI d l) {i : Nat} {n : Int} (hi : l[i]? = some n) : d.es[i]? = some (dI n) := by
  rw [h.2, List.getElem?_map, hi]; rfl
theorem IsI.of {b : Nat} {d : D} (h : HasN (.sl 3 1 b (.int .i64)) d) : ∃ l : List Int, IsI d l ∧ l.length ≤ b := by
  have hs := sl_iff.1 h
  obtain ⟨h1, h2, h3⟩ := hs
  have : ∀ es : List D, (∀ x ∈ es, HasN (.int .i64) x) → ∃ l : List Int, es = l.map (fun n => dI n) := by
    intro es
    induction es with
    | nil => intro _; exact ⟨[], rfl⟩
    | cons x es ih =>
      intro h
      obtain ⟨l, rfl⟩ := ih fun y hy => h y (List.mem_cons_of_mem _ hy)
      have hx := h x List.mem_cons_self
      simp only [HasN] at hx
      obtain ⟨n, rfl⟩ := hx
      exact ⟨n :: l, rfl⟩
  obtain ⟨l, hl⟩ := this _ h3
  exact ⟨l, ⟨h1, hl⟩, by rw [hl, List.length_map] at h2; exact h2⟩
theorem IsI.has {d : D} {l : List Int} (h : IsI d l) {b : Nat} (hb : l.length ≤ b) : HasN (.sl 3 1 b (.int .i64)) d :=
  sl_iff.2 ⟨h.1, by rw [h.len]; exact hb, fun x hx => by
    rw [h.2] at hx
    obtain ⟨n, _, rfl⟩ := List.mem_map.1 hx
    simp only [HasN]; exact ⟨n, rfl⟩⟩
theorem slo_gen {E : Env} {el sz : Nat} {l : D} {j : Int} (hl : Ls el sz l) (h0 : 0 ≤ j) (h1 : j ≤ (l.es.length : Int)) :
    ∃ y, TOp.eval E (.slc el sz true false) [l, dI j] = some y ∧ Ls el sz y ∧ y.es = l.es.drop j.toNat := by
  rcases hl with rfl | ⟨es, rfl⟩
  · have hj : j = 0 := by have : (D.nil).es.length = 0 := rfl; omega
    subst hj
    exact ⟨.nil, rfl, .inl rfl, rfl⟩
  · refine ⟨.sl el sz (es.drop j.toNat), ?_, .inr ⟨_, rfl⟩, rfl⟩
    rw [ev_slc]
    have hb0 : boundD true 0 [dI j] = some (j.toNat, []) := by simp only [boundD, cond_true, nat_int h0, Option.map_some]
    have hb' : boundD false es.length ([] : List D) = some (es.length, []) := rfl
    simp only [hb0, hb']
    have hle : j.toNat ≤ es.length := by have : (D.sl el sz es).es.length = es.length := rfl; omega
    refine (tt_bif ?_).trans ?_
    · rw [Nat.beq_refl, Nat.beq_refl, Nat.ble_eq_true_of_le hle, Nat.ble_eq_true_of_le (Nat.le_refl _)]; rfl
    · rw [List.take_of_length_le (by rw [List.length_drop]; omega)]
theorem lit1 {E : Env} {x : Int} : TOp.eval E (.lit 3 1) [dI x] = some (.sl 3 1 [dI x]) := ev_lit.trans rfl
theorem IsI.one {x : Int} : IsI (.sl 3 1 [dI x]) [x] := ⟨.inr ⟨_, rfl⟩, rfl⟩
theorem app_I {E : Env} {a b : D} {l m : List Int} (ha : IsI a l) (hb : IsI b m) (hl : l.length + m.length ≤ 300000000) : ∃ y, TOp.eval E (.app 3 1 8) [a, b] = some y ∧ IsI y (l ++ m) := by
  obtain ⟨y, h1, h2, h3⟩ := app_gen (E := E) (bytes := 8) ha.1 hb.1 (by decide) (by rw [ha.len, hb.len]; exact hl)
  exact ⟨y, h1, h2, by rw [h3, ha.2, hb.2, List.map_append]⟩
theorem slo_I {E : Env} {a : D} {l : List Int} {j : Nat} (ha : IsI a l) (hj : j ≤ l.length) : ∃ y, TOp.eval E (.slc 3 1 true false) [a, dI ((j : Nat) : Int)] = some y ∧ IsI y (l.drop j) := by
  obtain ⟨y, h1, h2, h3⟩ := slo_gen (E := E) (j := ((j : Nat) : Int)) ha.1 (by omega) (by rw [ha.len]; omega)
  exact ⟨y, h1, h2, by rw [h3, ha.2, Int.toNat_natCast, List.map_drop]⟩
theorem ins_sorted {l : List Int} (hs : l.Pairwise (· < ·)) {i j : Nat} {x : Int} (h1 : ∀ y ∈ l.take i, y < x) (h2 : ∀ y ∈ l.drop j, x < y) : (l.take i ++ [x] ++ l.drop j).Pairwise (· < ·) := by
  rw [List.pairwise_append, List.pairwise_append]
  refine ⟨⟨hs.sublist (List.take_sublist _ _), List.pairwise_singleton _ _, fun a ha b hb => ?_⟩, hs.sublist (List.drop_sublist _ _), fun a ha b hb => ?_⟩
  · rw [List.mem_singleton] at hb; subst hb; exact h1 a ha
  · rcases List.mem_append.1 ha with ha | ha
    · exact Int.lt_trans (h1 a ha) (h2 b hb)
    · rw [List.mem_singleton] at ha; subst ha; exact h2 b hb
theorem after_lt {l : List Int} (hs : l.Pairwise (· < ·)) {i : Nat} {n : Int} (hi : l[i]? = some n) : ∀ y ∈ l.drop (i + 1), n < y := by
  obtain ⟨hlt, e⟩ := List.getElem?_eq_some_iff.1 hi
  have h := hs.sublist (List.drop_sublist i l)
  rw [List.drop_eq_getElem_cons hlt, e, List.pairwise_cons] at h
  exact h.1
theorem drop_of {l : List Int} {i : Nat} {n : Int} (hi : l[i]? = some n) : l.drop i = n :: l.drop (i + 1) := by
  obtain ⟨hlt, e⟩ := List.getElem?_eq_some_iff.1 hi
  rw [List.drop_eq_getElem_cons hlt, e]
theorem take_of {l : List Int} {i : Nat} {n : Int} (hi : l[i]? = some n) : l.take (i + 1) = l.take i ++ [n] := by
  rw [List.take_add_one, hi]; rfl
theorem sub_len : ∀ {l U : List Int}, l.Pairwise (· < ·) → (∀ y ∈ l, y ∈ U) → l.length ≤ U.length
  | [], U, _, _ => Nat.zero_le _
  | x :: l, U, hs, h => by
    rw [List.pairwise_cons] at hs
    have hx := h x List.mem_cons_self
    have := sub_len (U := U.erase x) hs.2 fun y hy => by
      have hne : y ≠ x := fun e => by have := hs.1 y hy; omega
      exact (List.mem_erase_of_ne hne).2 (h y (List.mem_cons_of_mem _ hy))
    rw [List.length_erase_of_mem hx] at this
    have hp : 0 < U.length := List.length_pos_of_mem hx
    simp only [List.length_cons]; omega
attribute [local irreducible] Go.Am.wp Go.Am.TOp.eval
def PutR (l : List Int) (x : Int) (d : D) : Prop := ∃ l', IsI d l' ∧ l'.Pairwise (· < ·) ∧ (∀ y ∈ l', y ∈ l ∨ y = x) ∧ l'.length ≤ l.length + 1
theorem putR_of {l : List Int} {x : Int} {d : D} {i j : Nat} (hs : l.Pairwise (· < ·)) (hij : i ≤ j) (hj : j ≤ l.length) (hd : IsI d (l.take i ++ [x] ++ l.drop j)) (h1 : ∀ y ∈ l.take i, y < x) (h2 : ∀ y ∈ l.drop j, x < y) : PutR l x d :=
  ⟨_, hd, ins_sorted hs h1 h2, fun y hy => by
    rcases List.mem_append.1 hy with hy | hy
    · rcases List.mem_append.1 hy with hy | hy
      · exact .inl (List.mem_of_mem_take hy)
      · exact .inr (List.mem_singleton.1 hy)
    · exact .inl (List.mem_of_mem_drop hy), by simp only [List.length_append, List.length_take, List.length_drop, List.length_singleton]; omega⟩
theorem put_ok {a : D} {l : List Int} {x : Int} (ha : IsI a l) (hs : l.Pairwise (· < ·)) (hl : l.length < 300000000) : ∃ d, PutR l x d ∧ Holds EE 233 [a, dI x] d := by
  suffices h : ∃ d, PutR l x d ∧ Goes EE (Holds EE) u233Ts 0 [a, dI x] d by
    obtain ⟨d, hd, hg⟩ := h; exact ⟨d, hd, u233 rfl hg⟩
  have hsl := ha.sl (by omega)
  have hlen := ha.len
  refine goes_R ?_
  show wp _ _ _ u233T0 _
  refine wr_jump rfl (loop_up (P := fun i => i ≤ l.length → ∀ out : D, IsI out (l.take i) → (∀ y ∈ l.take i, y < x) → ∃ d, PutR l x d ∧ Goes EE (Holds EE) u233Ts 1 [a, dI x, out, dI ((i : Nat) : Int)] d) l.length (fun i ih => ?_) 0 (by omega) .nil ⟨.inl rfl, rfl⟩ (fun y hy => by simp at hy))
  intro hi out ho hlt
  have htl : (l.take i).length = i := by rw [List.length_take]; omega
  obtain ⟨w, ew, hw⟩ := app_I (E := EE) ho (IsI.one (x := x)) (by rw [htl]; simp only [List.length_singleton]; omega)
  have hwl : (l.take i ++ [x]).length = i + 1 := by rw [List.length_append, htl]; rfl
  refine goes_R ?_
  show wp _ _ _ u233T1 _
  refine wp_bindE (ρ' := [_, _, _, _, dI ((a.es.length : Nat) : Int)]) (sh_len hsl) rfl rfl ?_
  refine wp_bindE (ρ' := [_, _, _, _, _, _]) sk_lss rfl rfl ?_
  refine wp_iteC rfl (fun c => ?_) (fun c => ?_)
  · replace c : ((i : Nat) : Int) < ((a.es.length : Nat) : Int) := of_decide_eq_true c
    obtain ⟨n, hn⟩ : ∃ n, l[i]? = some n := ⟨_, List.getElem?_eq_getElem (by omega)⟩
    have hx := ha.get hn
    refine wp_bindE (ρ' := [_, _, _, _, _, _, dB true]) (sh_inr hx) rfl rfl ?_
    refine wp_bindE (ρ' := [_, _, _, _, _, _, _, dI n]) (sh_elem1 hsl hx rfl) rfl rfl ?_
    refine wp_bindE (ρ' := [_, _, _, _, _, _, _, _, _]) sk_lss rfl rfl ?_
    refine wp_iteC rfl (fun c2 => ?_) (fun c2 => ?_)
    · replace c2 : n < x := of_decide_eq_true c2
      obtain ⟨v, ev, hv⟩ := app_I (E := EE) ho (IsI.one (x := n)) (by rw [htl]; simp only [List.length_singleton]; omega)
      refine wp_bindE (ρ' := [_, _, _, _, _, _, _, _, _, dB true]) (sh_inr hx) rfl rfl ?_
      refine wp_bindE (ρ' := [_, _, _, _, _, _, _, _, _, _, dI n]) (sh_elem1 hsl hx rfl) rfl rfl ?_
      refine wp_bindE (ρ' := [_, _, _, _, _, _, _, _, _, _, _, dI n]) (sh_chk1 rfl) rfl rfl ?_
      refine wp_bindE (ρ' := [_, _, _, _, _, _, _, _, _, _, _, _, .sl 3 1 [dI n]]) lit1 rfl rfl ?_
      refine wp_bindE (ρ' := [_, _, _, _, _, _, _, _, _, _, _, _, _, v]) ev rfl rfl ?_
      refine wp_bindE (ρ' := [_, _, _, _, _, _, _, _, _, _, _, _, _, _, dI ((i + 1 : Nat) : Int)]) (sh_add (cap_bd' (by omega))) rfl rfl ?_
      refine wr_jump rfl (ih (by omega) (by omega) v (by rw [take_of hn]; exact hv) (fun y hy => ?_))
      rw [take_of hn] at hy
      rcases List.mem_append.1 hy with hy | hy
      · exact hlt y hy
      · rw [List.mem_singleton] at hy; subst hy; exact c2
    · replace c2 : ¬ n < x := of_decide_eq_false c2
      refine wp_bindE (ρ' := [_, _, _, _, _, _, _, _, _, dI x]) (sh_chk1 rfl) rfl rfl ?_
      refine wp_bindE (ρ' := [_, _, _, _, _, _, _, _, _, _, .sl 3 1 [dI x]]) lit1 rfl rfl ?_
      refine wp_bindE (ρ' := [_, _, _, _, _, _, _, _, _, _, _, w]) ew rfl rfl ?_
      refine wp_bindE (ρ' := [_, _, _, _, _, _, _, _, _, _, _, _, dI ((a.es.length : Nat) : Int)]) (sh_len hsl) rfl rfl ?_
      refine wp_bindE (ρ' := [_, _, _, _, _, _, _, _, _, _, _, _, _, _]) sk_lss rfl rfl ?_
      refine wp_iteC rfl (fun c3 => ?_) (fun c3 => ?_)
      · refine wp_bindE (ρ' := [_, _, _, _, _, _, _, _, _, _, _, _, _, _, dB true]) (sh_inr hx) rfl rfl ?_
        refine wp_bindE (ρ' := [_, _, _, _, _, _, _, _, _, _, _, _, _, _, _, dI n]) (sh_elem1 hsl hx rfl) rfl rfl ?_
        refine wp_bindE (ρ' := [_, _, _, _, _, _, _, _, _, _, _, _, _, _, _, _, _]) sk_eql rfl rfl ?_
        refine wp_iteC rfl (fun c4 => ?_) (fun c4 => ?_)
        · replace c4 : n = x := of_decide_eq_true c4
          obtain ⟨z, ez, hz⟩ := slo_I (E := EE) (j := i + 1) ha (by omega)
          obtain ⟨q, eq, hq⟩ := app_I (E := EE) hw hz (by rw [hwl, List.length_drop]; omega)
          refine wp_bindE (ρ' := [_, _, _, _, _, _, _, _, _, _, _, _, _, _, _, _, _, dI ((i + 1 : Nat) : Int)]) (sh_add (cap_bd' (by omega))) rfl rfl ?_
          refine wp_bindE (ρ' := [_, _, _, _, _, _, _, _, _, _, _, _, _, _, _, _, _, _, z]) ez rfl rfl ?_
          refine wp_bindE (ρ' := [_, _, _, _, _, _, _, _, _, _, _, _, _, _, _, _, _, _, _, q]) eq rfl rfl ?_
          exact wr_ret rfl (putR_of hs (Nat.le_succ i) (by omega) hq hlt (by subst c4; exact after_lt hs hn))
        · replace c4 : ¬ n = x := of_decide_eq_false c4
          obtain ⟨z, ez, hz⟩ := slo_I (E := EE) (j := i) ha (by omega)
          obtain ⟨q, eq, hq⟩ := app_I (E := EE) hw hz (by rw [hwl, List.length_drop]; omega)
          refine wp_bindE (ρ' := [_, _, _, _, _, _, _, _, _, _, _, _, _, _, _, _, _, z]) ez rfl rfl ?_
          refine wp_bindE (ρ' := [_, _, _, _, _, _, _, _, _, _, _, _, _, _, _, _, _, _, q]) eq rfl rfl ?_
          refine wr_ret rfl (putR_of hs (Nat.le_refl i) (by omega) hq hlt (fun y hy => ?_))
          rw [drop_of hn] at hy
          rcases List.mem_cons.1 hy with rfl | hy
          · omega
          · have := after_lt hs hn y hy; omega
      · exact absurd c (of_decide_eq_false c3)
  · replace c : ¬ (((i : Nat) : Int) < ((a.es.length : Nat) : Int)) := of_decide_eq_false c
    obtain ⟨z, ez, hz⟩ := slo_I (E := EE) (j := i) ha (by omega)
    obtain ⟨q, eq, hq⟩ := app_I (E := EE) hw hz (by rw [hwl, List.length_drop]; omega)
    refine wp_bindE (ρ' := [_, _, _, _, _, _, dI x]) (sh_chk1 rfl) rfl rfl ?_
    refine wp_bindE (ρ' := [_, _, _, _, _, _, _, .sl 3 1 [dI x]]) lit1 rfl rfl ?_
    refine wp_bindE (ρ' := [_, _, _, _, _, _, _, _, w]) ew rfl rfl ?_
    refine wp_bindE (ρ' := [_, _, _, _, _, _, _, _, _, dI ((a.es.length : Nat) : Int)]) (sh_len hsl) rfl rfl ?_
    refine wp_bindE (ρ' := [_, _, _, _, _, _, _, _, _, _, _]) sk_lss rfl rfl ?_
    refine wp_iteC rfl (fun c3 => ?_) (fun c3 => ?_)
    · exact absurd (of_decide_eq_true c3) c
    · refine wp_bindE (ρ' := [_, _, _, _, _, _, _, _, _, _, _, z]) ez rfl rfl ?_
      refine wp_bindE (ρ' := [_, _, _, _, _, _, _, _, _, _, _, _, q]) eq rfl rfl ?_
      refine wr_ret rfl (putR_of hs (Nat.le_refl i) (by omega) hq hlt (fun y hy => ?_))
      rw [List.drop_of_length_le (by omega)] at hy; cases hy
def Inc (U : List Int) (d : D) : Prop := ∃ l, IsI d l ∧ l.Pairwise (· < ·) ∧ ∀ y ∈ l, y ∈ U
theorem Inc.put {U : List Int} {a : D} {x : Int} (h : Inc U a) (hx : x ∈ U) (hU : U.length < 300000000) : ∃ d, Inc U d ∧ Holds EE 233 [a, dI x] d := by
  obtain ⟨l, h1, h2, h3⟩ := h
  have hl := sub_len h2 h3
  obtain ⟨d, ⟨l', g1, g2, g3, _⟩, k⟩ := put_ok (x := x) h1 h2 (by omega)
  refine ⟨d, ⟨l', g1, g2, fun y hy => ?_⟩, k⟩
  rcases g3 y hy with h | rfl
  · exact h3 y h
  · exact hx
theorem sorted_ok {U : List Int} {a : D} {l : List Int} (ha : IsI a l) (hl : l.length ≤ 300000000) (hlU : ∀ y ∈ l, y ∈ U) (hU : U.length < 300000000) : ∃ d, Inc U d ∧ Holds EE 168 [a] d := by
  suffices h : ∃ d, Inc U d ∧ Goes EE (Holds EE) u168Ts 0 [a] d by
    obtain ⟨d, hd, hg⟩ := h; exact ⟨d, hd, u168 rfl hg⟩
  have hsl := ha.sl hl
  have hlen := ha.len
  refine goes_R ?_
  show wp _ _ _ u168T0 _
  refine wp_bindE (ρ' := [_, dI ((a.es.length : Nat) : Int)]) (sh_len hsl) rfl rfl ?_
  refine wr_jump rfl (loop_up (P := fun i => ∀ out : D, Inc U out → ∃ d, Inc U d ∧ Goes EE (Holds EE) u168Ts 1 [a, out, dI ((a.es.length : Nat) : Int), dI ((i : Nat) : Int)] d) l.length (fun i ih => ?_) 0 .nil ⟨[], ⟨.inl rfl, rfl⟩, .nil, fun y hy => by cases hy⟩)
  intro out ho
  refine goes_R ?_
  show wp _ _ _ u168T1 _
  refine wp_bindE (ρ' := [_, _, _, _, _]) sk_lss rfl rfl ?_
  refine wp_iteC rfl (fun c => ?_) (fun c => ?_)
  · replace c : ((i : Nat) : Int) < ((a.es.length : Nat) : Int) := of_decide_eq_true c
    obtain ⟨n, hn⟩ : ∃ n, l[i]? = some n := ⟨_, List.getElem?_eq_getElem (by omega)⟩
    have hx := ha.get hn
    obtain ⟨r, hr, k⟩ := ho.put (hlU n (List.mem_of_getElem? hn)) hU
    refine wp_bindE (ρ' := [_, _, _, _, _, dB true]) (sh_inr hx) rfl rfl ?_
    refine wp_bindE (ρ' := [_, _, _, _, _, _, dI n]) (sh_elem1 hsl hx rfl) rfl rfl ?_
    refine wp_callE (ρ' := [_, _, _, _, _, _, _, r]) k rfl rfl rfl rfl ?_
    refine wp_bindE (ρ' := [_, _, _, _, _, _, _, _, dI ((i + 1 : Nat) : Int)]) (sh_add (cap_bd' (by omega))) rfl rfl ?_
    exact wr_jump rfl (ih (by omega) r hr)
  · exact wr_ret rfl ho
theorem union_ok {U : List Int} {a b : D} {l : List Int} (ha : Inc U a) (hb : IsI b l) (hl : l.length ≤ 300000000) (hlU : ∀ y ∈ l, y ∈ U) (hU : U.length < 300000000) : ∃ d, Inc U d ∧ Holds EE 180 [a, b] d := by
  suffices h : ∃ d, Inc U d ∧ Goes EE (Holds EE) u180Ts 0 [a, b] d by
    obtain ⟨d, hd, hg⟩ := h; exact ⟨d, hd, u180 rfl hg⟩
  obtain ⟨la, a1, a2, a3⟩ := ha
  have hla := sub_len a2 a3
  obtain ⟨s, hs, ks⟩ := sorted_ok a1 (by omega) a3 hU
  have hsl := hb.sl hl
  have hlen := hb.len
  refine goes_R ?_
  show wp _ _ _ u180T0 _
  refine wp_callE (ρ' := [_, _, s]) ks rfl rfl rfl rfl ?_
  refine wp_bindE (ρ' := [_, _, _, dI ((b.es.length : Nat) : Int)]) (sh_len hsl) rfl rfl ?_
  refine wr_jump rfl (loop_up (P := fun i => ∀ out : D, Inc U out → ∃ d, Inc U d ∧ Goes EE (Holds EE) u180Ts 1 [b, out, dI ((b.es.length : Nat) : Int), dI ((i : Nat) : Int)] d) l.length (fun i ih => ?_) 0 s hs)
  intro out ho
  refine goes_R ?_
  show wp _ _ _ u180T1 _
  refine wp_bindE (ρ' := [_, _, _, _, _]) sk_lss rfl rfl ?_
  refine wp_iteC rfl (fun c => ?_) (fun c => ?_)
  · replace c : ((i : Nat) : Int) < ((b.es.length : Nat) : Int) := of_decide_eq_true c
    obtain ⟨n, hn⟩ : ∃ n, l[i]? = some n := ⟨_, List.getElem?_eq_getElem (by omega)⟩
    have hx := hb.get hn
    obtain ⟨r, hr, k⟩ := ho.put (hlU n (List.mem_of_getElem? hn)) hU
    refine wp_bindE (ρ' := [_, _, _, _, _, dB true]) (sh_inr hx) rfl rfl ?_
    refine wp_bindE (ρ' := [_, _, _, _, _, _, dI n]) (sh_elem1 hsl hx rfl) rfl rfl ?_
    refine wp_callE (ρ' := [_, _, _, _, _, _, _, r]) k rfl rfl rfl rfl ?_
    refine wp_bindE (ρ' := [_, _, _, _, _, _, _, _, dI ((i + 1 : Nat) : Int)]) (sh_add (cap_bd' (by omega))) rfl rfl ?_
    exact wr_jump rfl (ih (by omega) r hr)
  · exact wr_ret rfl ho
abbrev ShG : Sn := (.st [(.int .i64), (.str BG), (.sl 3 1 1048576 (.int .i64)), (.sl 3 1 1048576 (.int .i64))])
def subsI (g : D) : List Int := match g with
  | .agg cs => (getD cs 3).es.map valD
  | _ => []
def allSubs (d : D) : List Int := d.es.flatMap subsI
theorem subs_of {g : D} (h : HasN ShG g) : ∃ i s p q l, g = .agg [dI i, s, p, q] ∧ s.one = true ∧ IsI q l ∧ l.length ≤ 1048576 ∧ subsI g = l := by
  simp only [HasN, HasNs] at h
  obtain ⟨_, rfl, _, _, rfl, ⟨i, rfl⟩, s, _, rfl, ⟨s', rfl, _⟩, p, _, rfl, _, q, _, rfl, hq, rfl⟩ := h
  obtain ⟨l, hl, hb⟩ := IsI.of (by simpa only [HasN] using hq)
  refine ⟨i, _, p, q, l, rfl, rfl, hl, hb, ?_⟩
  show q.es.map valD = l
  rw [hl.2, List.map_map]
  have : (valD ∘ fun n => dI n) = id := by funext n; rfl
  rw [this, List.map_id]
theorem subs_len : ∀ {es : List D}, (∀ g ∈ es, HasN ShG g) → (es.flatMap subsI).length ≤ es.length * 1048576
  | [], _ => by simp
  | g :: es, h => by
    have h1 := subs_len (es := es) fun x hx => h x (List.mem_cons_of_mem _ hx)
    obtain ⟨_, _, _, _, l, _, _, _, hb, e⟩ := subs_of (h g List.mem_cons_self)
    rw [List.flatMap_cons, List.length_append, e, List.length_cons]
    omega
theorem find_ok {a : D} {x : Int} (ha : HasN (.sl 223 4 300000000 ShG) a) : ∃ n : Int, -1 ≤ n ∧ n < (a.es.length : Int) ∧ Holds EE 120 [a, dI x] (dI n) := by
  obtain ⟨rs, h1, hp, h2⟩ := (sp_of tabA (f := 120) (S := e120.S) (by kernel_rfl)) [a, dI x] (by
    show HasNs [.sl 223 4 300000000 ShG, .int .i64] _
    simp only [HasNs]
    exact ⟨_, _, rfl, ha, _, _, rfl, ⟨x, rfl⟩, rfl⟩) (fun q hq => by cases hq)
  have h1 : HasNs [.int .i64] rs := h1
  simp only [HasNs, HasN] at h1
  obtain ⟨d, _, rfl, ⟨n, rfl⟩, rfl⟩ := h1
  have e1 : valD a = (a.es.length : Int) := by
    simp only [HasN] at ha
    rcases ha with rfl | ⟨es, rfl, _⟩ <;> rfl
  have q1 : (0 : Int) ≤ n + 1 := hp _ List.mem_cons_self
  have q2 : n ≤ valD a + -1 := hp _ (List.mem_cons_of_mem _ List.mem_cons_self)
  exact ⟨n, by omega, by omega, h2⟩
theorem below_ok {a : D} {x : Int} (ha : HasN (.sl 223 4 300000000 ShG) a) (hl : a.es.length ≤ 256) : ∃ d, Inc (allSubs a) d ∧ Holds EE 122 [a, dI x] d := by
  suffices h : ∃ d, Inc (allSubs a) d ∧ Goes EE (Holds EE) u122Ts 0 [a, dI x] d by
    obtain ⟨d, hd, hg⟩ := h; exact ⟨d, hd, u122 rfl hg⟩
  have hall : ∀ g ∈ a.es, HasN ShG g := (sl_iff.1 ha).2.2
  have hU : (allSubs a).length < 300000000 := by
    have := subs_len hall
    unfold allSubs
    have h2 : a.es.length * 1048576 ≤ 256 * 1048576 := Nat.mul_le_mul_right _ hl
    omega
  have hsl : IsSl 223 4 a := isSl_N ha (by decide)
  have hmem : ∀ {g : D} {i : Nat}, a.es[i]? = some g → ∀ y ∈ subsI g, y ∈ allSubs a := fun hg y hy => List.mem_flatMap.2 ⟨_, List.mem_of_getElem? hg, hy⟩
  have rounds : ∀ i : Nat, ∀ out : D, Inc (allSubs a) out → ∃ d, Inc (allSubs a) d ∧ Goes EE (Holds EE) u122Ts 1 [a, out, dI ((a.es.length : Nat) : Int), dI ((i : Nat) : Int)] d := by
    refine loop_up (P := fun i => ∀ out : D, Inc (allSubs a) out → ∃ d, Inc (allSubs a) d ∧ Goes EE (Holds EE) u122Ts 1 [a, out, dI ((a.es.length : Nat) : Int), dI ((i : Nat) : Int)] d) a.es.length (fun i ih => ?_)
    intro out ho
    obtain ⟨lo, o1, o2, o3⟩ := ho
    have hlo := sub_len o2 o3
    have hosl := o1.sl (by omega)
    have holen := o1.len
    refine goes_R ?_
    show wp _ _ _ u122T1 _
    refine wp_bindE (ρ' := [_, _, _, _, _]) sk_lss rfl rfl ?_
    refine wp_iteC rfl (fun c => ?_) (fun c => ?_)
    · replace c : ((i : Nat) : Int) < ((a.es.length : Nat) : Int) := of_decide_eq_true c
      refine wp_bindE (ρ' := [_, _, _, _, _, dI ((out.es.length : Nat) : Int)]) (sh_len hosl) rfl rfl ?_
      refine wr_jump rfl (loop_up (P := fun k => ∀ more : D, Inc (allSubs a) more → ∃ d, Inc (allSubs a) d ∧ Goes EE (Holds EE) u122Ts 2 [a, out, more, dI ((a.es.length : Nat) : Int), dI ((i : Nat) : Int), dI ((out.es.length : Nat) : Int), dI ((k : Nat) : Int)] d) lo.length (fun k ih2 => ?_) 0 out ⟨lo, o1, o2, o3⟩)
      intro more hm
      refine goes_R ?_
      show wp _ _ _ u122T2 _
      refine wp_bindE (ρ' := [_, _, _, _, _, _, _, _]) sk_lss rfl rfl ?_
      refine wp_iteC rfl (fun c2 => ?_) (fun c2 => ?_)
      · replace c2 : ((k : Nat) : Int) < ((out.es.length : Nat) : Int) := of_decide_eq_true c2
        obtain ⟨n, hn⟩ : ∃ n, lo[k]? = some n := ⟨_, List.getElem?_eq_getElem (by omega)⟩
        have hx := o1.get hn
        obtain ⟨j, j1, j2, kf⟩ := find_ok (x := n) ha
        refine wp_bindE (ρ' := [_, _, _, _, _, _, _, _, dB true]) (sh_inr hx) rfl rfl ?_
        refine wp_bindE (ρ' := [_, _, _, _, _, _, _, _, _, dI n]) (sh_elem1 hosl hx rfl) rfl rfl ?_
        refine wp_callE (ρ' := [_, _, _, _, _, _, _, _, _, _, dI j]) kf rfl rfl rfl rfl ?_
        refine wp_bindE (ρ' := [_, _, _, _, _, _, _, _, _, _, _, _]) sk_geq rfl rfl ?_
        refine wp_iteC rfl (fun c3 => ?_) (fun c3 => ?_)
        · replace c3 : j ≥ 0 := of_decide_eq_true c3
          obtain ⟨g, hg⟩ : ∃ g, a.es[j.toNat]? = some g := ⟨_, List.getElem?_eq_getElem (by omega)⟩
          obtain ⟨gi, gs, gp, gq, l, rfl, _, q1, q2, q3⟩ := subs_of (hall g (List.mem_of_getElem? hg))
          obtain ⟨r, hr, kr⟩ := union_ok hm q1 (by omega) (fun y hy => hmem hg y (by rw [q3]; exact hy)) hU
          refine wp_bindE (ρ' := [_, _, _, _, _, _, _, _, _, _, _, _, dB true]) (si_inr (by omega) hg) rfl rfl ?_
          refine wp_bindE (ρ' := [_, _, _, _, _, _, _, _, _, _, _, _, _, gq]) (si_elemP (off := 3) hsl (by omega) hg rfl (q1.sl (by omega)).one (by decide)) rfl rfl ?_
          refine wp_callE (ρ' := [_, _, _, _, _, _, _, _, _, _, _, _, _, _, r]) kr rfl rfl rfl rfl ?_
          refine wp_bindE (ρ' := [_, _, _, _, _, _, _, _, _, _, _, _, _, _, _, dI ((k + 1 : Nat) : Int)]) (sh_add (cap_bd' (by omega))) rfl rfl ?_
          exact wr_jump rfl (ih2 (by omega) r hr)
        · refine wp_bindE (ρ' := [_, _, _, _, _, _, _, _, _, _, _, _, dI ((k + 1 : Nat) : Int)]) (sh_add (cap_bd' (by omega))) rfl rfl ?_
          exact wr_jump rfl (ih2 (by omega) more hm)
      · refine wp_bindE (ρ' := [_, _, _, _, _, _, _, _, dI ((i + 1 : Nat) : Int)]) (sh_add (cap_bd' (by omega))) rfl rfl ?_
        exact wr_jump rfl (ih (by omega) more hm)
    · exact wr_ret rfl ⟨lo, o1, o2, o3⟩
  refine goes_R ?_
  show wp _ _ _ u122T0 _
  obtain ⟨j, j1, j2, kf⟩ := find_ok (x := x) ha
  refine wp_callE (ρ' := [_, _, dI j]) kf rfl rfl rfl rfl ?_
  refine wp_bindE (ρ' := [_, _, _, _]) sk_geq rfl rfl ?_
  refine wp_iteC rfl (fun c3 => ?_) (fun c3 => ?_)
  · replace c3 : j ≥ 0 := of_decide_eq_true c3
    obtain ⟨g, hg⟩ : ∃ g, a.es[j.toNat]? = some g := ⟨_, List.getElem?_eq_getElem (by omega)⟩
    obtain ⟨gi, gs, gp, gq, l, rfl, _, q1, q2, q3⟩ := subs_of (hall g (List.mem_of_getElem? hg))
    obtain ⟨r, hr, kr⟩ := sorted_ok q1 (by omega) (fun y hy => hmem hg y (by rw [q3]; exact hy)) hU
    refine wp_bindE (ρ' := [_, _, _, _, dB true]) (si_inr (by omega) hg) rfl rfl ?_
    refine wp_bindE (ρ' := [_, _, _, _, _, gq]) (si_elemP (off := 3) hsl (by omega) hg rfl (q1.sl (by omega)).one (by decide)) rfl rfl ?_
    refine wp_callE (ρ' := [_, _, _, _, _, _, r]) kr rfl rfl rfl rfl ?_
    refine wp_bindE (ρ' := [_, _, _, _, _, _, _, dI ((a.es.length : Nat) : Int)]) (sh_len hsl) rfl rfl ?_
    exact wr_jump rfl (rounds 0 r hr)
  · refine wp_bindE (ρ' := [_, _, _, _, dI ((a.es.length : Nat) : Int)]) (sh_len hsl) rfl rfl ?_
    exact wr_jump rfl (rounds 0 .nil ⟨[], ⟨.inl rfl, rfl⟩, .nil, fun y hy => by cases hy⟩)
end Go.Proofs.YtbkinfgpcjjaaaaGreatDoor
