/- Changed, by the program and by the reference. Conditions: none. -/
import Derived.Test.YtbmjdlgfnoaocaaGreatNg
set_option linter.unusedVariables false
set_option linter.unusedSimpArgs false
namespace Go.Proofs.YtbmjdlgfnoaocaaGreat
open Go Go.Am Go.Proofs
theorem lit22 {a b : D} (ha : a.one = true) (hb : b.one = true) : TOp.eval EE (.lit 22 1) [a, b] = some (.sl 22 1 [a, b]) := by
  have e1 : a.cells.length = 1 := by rw [cells_of_one ha]; rfl
  have e2 : b.cells.length = 1 := by rw [cells_of_one hb]; rfl
  rw [ev_lit]
  simp only [List.all_cons, List.all_nil, e1, e2, List.length_cons, List.length_nil]
  rfl
def rC (l : List Pr) : D := if l = [] then .nil else .sl 50 2 ((cpt l).map toP)
theorem map_pp : ∀ l : List Pr, (l.map toP).map prs = l
  | [] => rfl
  | p :: r => by rw [List.map_cons, List.map_cons, map_pp r]; rfl
theorem all_pp (l : List Pr) : (l.map toP).all P50 = true := by
  rw [List.all_eq_true]
  intro x hx
  obtain ⟨p, _, rfl⟩ := List.mem_map.1 hx
  rfl
theorem lst_mk {F : List Pr → List Pr} {l : List Pr} (h0 : l ≠ []) (hl : l.length ≤ 1000000) : lstF 50 2 P50 (pF F) [mkOut 50 2 (l.map toP)] = some (.sl 50 2 ((F l).map toP)) := by
  have hm : l.map toP ≠ [] := fun e => h0 (List.map_eq_nil_iff.1 e)
  have hb : Nat.ble (l.map toP).length 1000000000 = true := Nat.ble_eq_true_of_le (by rw [List.length_map]; omega)
  unfold mkOut
  rw [if_neg hm]
  have hF : pF F (l.map toP) = (F l).map toP := by unfold pF; rw [map_pp]
  simp only [lstF, Nat.beq_refl, all_pp, hb, Bool.and_self, cond_true, hF]
theorem s50_ev {l : List Pr} (hl : l.length ≤ 1000000) : TOp.eval EE (.lib S50) [mkOut 50 2 (l.map toP)] = some (mkOut 50 2 ((srt l).map toP)) := by
  rw [ev_lib]
  by_cases h0 : l = []
  · have e : srt l = [] := List.length_eq_zero_iff.1 (by rw [srt_len, h0]; rfl)
    rw [e, h0]; rfl
  · have e : srt l ≠ [] := fun e => h0 (List.length_eq_zero_iff.1 (by rw [← srt_len, e]; rfl))
    have hm : (srt l).map toP ≠ [] := fun e' => e (List.map_eq_nil_iff.1 e')
    unfold S50
    rw [lst_mk h0 hl]
    unfold mkOut
    rw [if_neg hm]
theorem c50_ev {l : List Pr} (hl : l.length ≤ 1000000) : TOp.eval EE (.lib C50) [mkOut 50 2 (l.map toP)] = some (rC l) := by
  rw [ev_lib]
  unfold rC
  by_cases h0 : l = []
  · rw [if_pos h0, h0]; rfl
  · rw [if_neg h0]
    exact lst_mk h0 hl
theorem sh_sl {el sz : Nat} {e : Sh} {d : D} (h : IsSl el sz d) (ha : ∀ x ∈ d.es, HasSh e x) : HasSh (.sl el sz e) d := by
  rcases h with rfl | ⟨es, rfl, hl⟩
  · exact .inl rfl
  · exact .inr ⟨_, rfl, hl, ha⟩
theorem sh_all {el sz : Nat} {e : Sh} {d : D} (h : HasSh (.sl el sz e) d) : ∀ x ∈ d.es, HasSh e x := by
  intro x hx
  obtain ⟨i, hi⟩ := List.getElem?_of_mem hx
  exact elem_of h hi
attribute [local irreducible] Go.Am.wp Go.Am.TOp.eval
theorem h17 {a b : D} (ha : HasSh ShL a) (hb : HasSh ShL b) (la : a.es.length ≤ 30) (lb : b.es.length ≤ 30) : ∃ c, Holds EE 17 [.sl 22 1 [a, b]] c ∧ c.es = a.es ++ b.es ∧ HasSh ShL c := by
  have i_a := isSl_of ha
  have i_b := isSl_of hb
  obtain ⟨u, hu⟩ : ∃ u, u = D.sl 22 1 [a, b] := ⟨_, rfl⟩
  have i_u : IsSl 22 1 u := by rw [hu]; exact .inr ⟨_, rfl, by show 2 < capX; unfold capX; omega⟩
  have hlen : u.es.length = 2 := by rw [hu]; rfl
  have e0 : u.es[0]? = some a := by rw [hu]; rfl
  have e1 : u.es[0 + 1]? = some b := by rw [hu]; rfl
  have hg := gro_ev (n := 0 + a.es.length + b.es.length) (by omega)
  obtain ⟨g, hgv⟩ : ∃ g, g = (if 0 + a.es.length + b.es.length = 0 then D.nil else .sl 60 4 []) := ⟨_, rfl⟩
  rw [← hgv] at hg
  have i_g : IsSl 60 4 g := by
    rw [hgv]; split
    · exact .inl rfl
    · exact .inr ⟨[], rfl, by show (0 : Nat) < capX; unfold capX; decide⟩
  have ges : g.es = [] := by rw [hgv]; split <;> rfl
  obtain ⟨d1, ev1, s1, i_d1⟩ := ap60 i_g i_a (by rw [ges]; show 0 + _ ≤ _; omega)
  obtain ⟨d2, ev2, s2, i_d2⟩ := ap60 i_d1 i_b (by rw [s1, ges]; show ([] ++ a.es).length + _ ≤ _; rw [List.nil_append]; omega)
  have hes : d2.es = a.es ++ b.es := by rw [s2, s1, ges]; rfl
  refine ⟨d2, ?_, hes, sh_sl i_d2 fun x hx => ?_⟩
  · rw [← hu]
    refine u17 rfl (Goes.step' ?_)
    show wp _ _ _ u17T0 _
    refine wp_bindE (ρ' := [_, dI ((u.es.length : Nat) : Int)]) (sh_len i_u) rfl rfl ?_
    refine wp_jumpTo rfl (Goes.step' ?_)
    show wp _ _ _ u17T1 _
    refine wp_bindE (ρ' := [_, _, _, _, dB (decide (((0 : Nat) : Int) < ((u.es.length : Nat) : Int)))]) sk_lss rfl rfl ?_
    refine wp_iteC rfl (fun c => ?_) (fun c => ?_)
    · skip
      refine wp_bindE (ρ' := [_, _, _, _, _, dB (true)]) (si_inr (s := ((0 : Nat) : Int)) (by omega) e0) rfl rfl ?_
      refine wp_bindE (ρ' := [_, _, _, _, _, _, a]) (si_elem1 (s := ((0 : Nat) : Int)) i_u (by omega) e0 i_a.one) rfl rfl ?_
      refine wp_bindE (ρ' := [_, _, _, _, _, _, _, dI ((a.es.length : Nat) : Int)]) (sh_len i_a) rfl rfl ?_
      refine wp_bindE (ρ' := [_, _, _, _, _, _, _, _, dI ((0 + a.es.length : Nat) : Int)]) (add_nn (m := 0) (n := a.es.length) (by unfold capX; omega)) rfl rfl ?_
      refine wp_bindE (ρ' := [_, _, _, _, _, _, _, _, _, dB (decide (((0 + a.es.length : Nat) : Int) < 0))]) sk_lss rfl rfl ?_
      refine wp_iteC rfl (fun d => ?_) (fun d => ?_)
      · have := of_decide_eq_true d; omega
      · skip
        refine wp_bindE (ρ' := [_, _, _, _, _, _, _, _, _, _, dI ((0 + 1 : Nat) : Int)]) (sh_add (n := 0) (by unfold capX; omega)) rfl rfl ?_
        refine wp_jumpTo rfl (Goes.step' ?_)
        show wp _ _ _ u17T1 _
        refine wp_bindE (ρ' := [_, _, _, _, dB (decide (((0 + 1 : Nat) : Int) < ((u.es.length : Nat) : Int)))]) sk_lss rfl rfl ?_
        refine wp_iteC rfl (fun f => ?_) (fun f => ?_)
        · skip
          refine wp_bindE (ρ' := [_, _, _, _, _, dB (true)]) (si_inr (s := ((0 + 1 : Nat) : Int)) (by omega) e1) rfl rfl ?_
          refine wp_bindE (ρ' := [_, _, _, _, _, _, b]) (si_elem1 (s := ((0 + 1 : Nat) : Int)) i_u (by omega) e1 i_b.one) rfl rfl ?_
          refine wp_bindE (ρ' := [_, _, _, _, _, _, _, dI ((b.es.length : Nat) : Int)]) (sh_len i_b) rfl rfl ?_
          refine wp_bindE (ρ' := [_, _, _, _, _, _, _, _, dI ((0 + a.es.length + b.es.length : Nat) : Int)]) (add_nn (m := 0 + a.es.length) (n := b.es.length) (by unfold capX; omega)) rfl rfl ?_
          refine wp_bindE (ρ' := [_, _, _, _, _, _, _, _, _, dB (decide (((0 + a.es.length + b.es.length : Nat) : Int) < 0))]) sk_lss rfl rfl ?_
          refine wp_iteC rfl (fun k => ?_) (fun k => ?_)
          · have := of_decide_eq_true k; omega
          · skip
            refine wp_bindE (ρ' := [_, _, _, _, _, _, _, _, _, _, dI ((0 + 1 + 1 : Nat) : Int)]) (sh_add (n := 0 + 1) (by unfold capX; omega)) rfl rfl ?_
            refine wp_jumpTo rfl (Goes.step' ?_)
            show wp _ _ _ u17T1 _
            refine wp_bindE (ρ' := [_, _, _, _, dB (decide (((0 + 1 + 1 : Nat) : Int) < ((u.es.length : Nat) : Int)))]) sk_lss rfl rfl ?_
            refine wp_iteC rfl (fun m => ?_) (fun m => ?_)
            · have := of_lt m; omega
            · skip
              refine wp_bindE (ρ' := [_, _, _, _, _, g]) hg rfl rfl ?_
              refine wp_bindE (ρ' := [_, _, _, _, _, _, dI ((u.es.length : Nat) : Int)]) (sh_len i_u) rfl rfl ?_
              refine wp_jumpTo rfl (Goes.step' ?_)
              show wp _ _ _ u17T2 _
              refine wp_bindE (ρ' := [_, _, _, _, dB (decide (((0 : Nat) : Int) < ((u.es.length : Nat) : Int)))]) sk_lss rfl rfl ?_
              refine wp_iteC rfl (fun n => ?_) (fun n => ?_)
              · skip
                refine wp_bindE (ρ' := [_, _, _, _, _, dB (true)]) (si_inr (s := ((0 : Nat) : Int)) (by omega) e0) rfl rfl ?_
                refine wp_bindE (ρ' := [_, _, _, _, _, _, a]) (si_elem1 (s := ((0 : Nat) : Int)) i_u (by omega) e0 i_a.one) rfl rfl ?_
                refine wp_bindE (ρ' := [_, _, _, _, _, _, _, d1]) ev1 rfl rfl ?_
                refine wp_bindE (ρ' := [_, _, _, _, _, _, _, _, dI ((0 + 1 : Nat) : Int)]) (sh_add (n := 0) (by unfold capX; omega)) rfl rfl ?_
                refine wp_jumpTo rfl (Goes.step' ?_)
                show wp _ _ _ u17T2 _
                refine wp_bindE (ρ' := [_, _, _, _, dB (decide (((0 + 1 : Nat) : Int) < ((u.es.length : Nat) : Int)))]) sk_lss rfl rfl ?_
                refine wp_iteC rfl (fun o => ?_) (fun o => ?_)
                · skip
                  refine wp_bindE (ρ' := [_, _, _, _, _, dB (true)]) (si_inr (s := ((0 + 1 : Nat) : Int)) (by omega) e1) rfl rfl ?_
                  refine wp_bindE (ρ' := [_, _, _, _, _, _, b]) (si_elem1 (s := ((0 + 1 : Nat) : Int)) i_u (by omega) e1 i_b.one) rfl rfl ?_
                  refine wp_bindE (ρ' := [_, _, _, _, _, _, _, d2]) ev2 rfl rfl ?_
                  refine wp_bindE (ρ' := [_, _, _, _, _, _, _, _, dI ((0 + 1 + 1 : Nat) : Int)]) (sh_add (n := 0 + 1) (by unfold capX; omega)) rfl rfl ?_
                  refine wp_jumpTo rfl (Goes.step' ?_)
                  show wp _ _ _ u17T2 _
                  refine wp_bindE (ρ' := [_, _, _, _, dB (decide (((0 + 1 + 1 : Nat) : Int) < ((u.es.length : Nat) : Int)))]) sk_lss rfl rfl ?_
                  refine wp_iteC rfl (fun q => ?_) (fun q => ?_)
                  · have := of_lt q; omega
                  · exact wp_retTo rfl rfl
                · have := of_nlt o; omega
              · have := of_nlt n; omega
        · have := of_nlt f; omega
    · have := of_nlt c; omega
  · rw [hes] at hx
    rcases List.mem_append.1 hx with hx | hx
    · exact sh_all ha x hx
    · exact sh_all hb x hx
def fnB (l : D) (p : Pr) : Bool := decide (ixF l.es p < l.es.length)
def elD (l : D) (p : Pr) : D := match l.es[ixF l.es p]? with
  | some x => x
  | none => zSt
theorem fnd_form {l : D} {p : Pr} (h : HasSh ShL l) : ∃ r n k ps, fndV l p = .tup [.agg [dI r, dI n, dI k, ps], dB (fnB l p)] ∧ elD l p = .agg [dI r, dI n, dI k, ps] ∧ HasSh ShPt ps := by
  by_cases hlt : ixF l.es p < l.es.length
  · obtain ⟨x, e_x⟩ := lt_at hlt
    have e1 : elD l p = x := by unfold elD; rw [e_x]
    have e2 : fnB l p = true := decide_eq_true hlt
    rw [fnd_hit e_x, e1, e2]
    obtain ⟨_, rfl, _, _, rfl, ⟨r, rfl⟩, _, _, rfl, ⟨n, rfl⟩, _, _, rfl, ⟨k, rfl⟩, ps, _, rfl, hps, rfl⟩ := elem_of h e_x
    exact ⟨r, n, k, ps, rfl, rfl, hps⟩
  · have e1 : elD l p = zSt := by unfold elD; rw [List.getElem?_eq_none (by omega)]
    have e2 : fnB l p = false := decide_eq_false hlt
    rw [fnd_no (by omega), e1, e2]
    exact ⟨0, 0, 0, .nil, rfl, rfl, .inl rfl⟩
def chg1 (a b : D) (p : Pr) : Bool := !fnB b p || !deq (elD a p) (elD b p)
def chgB (a b : D) (p : Pr) : Bool := !fnB a p || chg1 a b p
theorem h6 {a b : D} (ha : HasSh ShL a) (hb : HasSh ShL b) (la : a.es.length ≤ 30) (lb : b.es.length ≤ 30) : Holds EE 6 [a, b] (rC (srt (((a.es ++ b.es).map refD).filter (chgB a b)))) := by
  have i_a := isSl_of ha
  have i_b := isSl_of hb
  obtain ⟨c, k17, hces, hc⟩ := h17 ha hb la lb
  have i_c := isSl_of hc
  have lc : c.es.length ≤ 60 := by rw [hces, List.length_append]; omega
  rw [← hces]
  refine u6 rfl (Goes.step' ?_)
  show wp _ _ _ u6T0 _
  refine wp_bindE (ρ' := [_, _, a]) (sh_chk1 i_a.one) rfl rfl ?_
  refine wp_bindE (ρ' := [_, _, _, b]) (sh_chk1 i_b.one) rfl rfl ?_
  refine wp_bindE (ρ' := [_, _, _, _, .sl 22 1 [a, b]]) (lit22 i_a.one i_b.one) rfl rfl ?_
  refine wp_callE (ρ' := [_, _, _, _, _, c]) k17 rfl rfl rfl rfl ?_
  refine wp_bindE (ρ' := [_, _, _, _, _, _, dI ((c.es.length : Nat) : Int)]) (sh_len i_c) rfl rfl ?_
  refine wp_jumpTo rfl (loop_up (P := fun i : Nat => i ≤ c.es.length → ∀ os : List Pr, os.length ≤ i → Goes EE (Holds EE) u6Ts 1 [a, b, mkOut 50 2 (os.map toP), c, dI ((c.es.length : Nat) : Int), dI ((i : Nat) : Int)] (rC (srt (os ++ ((c.es.drop i).map refD).filter (chgB a b))))) c.es.length (fun i ih => ?_) 0 (Nat.zero_le _) [] (Nat.zero_le _))
  intro hi os hos
  refine Goes.step' ?_
  show wp _ _ _ u6T1 _
  refine wp_bindE (ρ' := [_, _, _, _, _, _, dB (decide (((i : Nat) : Int) < ((c.es.length : Nat) : Int)))]) sk_lss rfl rfl ?_
  refine wp_iteC rfl (fun q => ?_) (fun q => ?_)
  · have hil := of_lt q
    obtain ⟨x, e_x⟩ := lt_at hil
    have hdr : c.es.drop i = x :: c.es.drop (i + 1) := by rw [List.drop_eq_getElem_cons hil]; congr 1; exact (List.getElem?_eq_some_iff.1 e_x).2
    rw [hdr]
    obtain ⟨_, rfl, _, _, rfl, ⟨r, rfl⟩, _, _, rfl, ⟨n, rfl⟩, _, _, rfl, ⟨k, rfl⟩, ps, _, rfl, hps, rfl⟩ := elem_of hc e_x
    have i_ps := isSl_of hps
    obtain ⟨ra, na, ka, pa, fa, ea, hpa⟩ := fnd_form (p := (r, n)) ha
    obtain ⟨rb, nb, kb, pb, fb, eb, hpb⟩ := fnd_form (p := (r, n)) hb
    have i_pa := isSl_of hpa
    have i_pb := isSl_of hpb
    have kfa := h18 (p := (r, n)) ha
    have kfb := h18 (p := (r, n)) hb
    rw [fa] at kfa
    rw [fb] at kfb
    have hd : deq (elD a (r, n)) (elD b (r, n)) = deq (.agg [dI ra, dI na, dI ka, pa]) (.agg [dI rb, dI nb, dI kb, pb]) := by rw [ea, eb]
    have hin : chgB a b (r, n) = true → os ++ ((D.agg [dI r, dI n, dI k, ps] :: c.es.drop (i + 1)).map refD).filter (chgB a b) = (os ++ [(r, n)]) ++ ((c.es.drop (i + 1)).map refD).filter (chgB a b) := fun h => by
      have e : (D.agg [dI r, dI n, dI k, ps] :: c.es.drop (i + 1)).map refD = (r, n) :: (c.es.drop (i + 1)).map refD := rfl
      rw [e, List.filter_cons, if_pos h, List.append_assoc]; rfl
    have hout : chgB a b (r, n) = false → os ++ ((D.agg [dI r, dI n, dI k, ps] :: c.es.drop (i + 1)).map refD).filter (chgB a b) = os ++ ((c.es.drop (i + 1)).map refD).filter (chgB a b) := fun h => by
      have e : (D.agg [dI r, dI n, dI k, ps] :: c.es.drop (i + 1)).map refD = (r, n) :: (c.es.drop (i + 1)).map refD := rfl
      rw [e, List.filter_cons, if_neg (by rw [h]; simp)]
    have ihp := ih hil hil (os ++ [(r, n)]) (by rw [List.length_append]; show _ + 1 ≤ _; omega)
    have ihn := ih hil hil os (by omega)
    refine wp_bindE (ρ' := [_, _, _, _, _, _, _, dB (true)]) (si_inr (s := ((i : Nat) : Int)) (by omega) e_x) rfl rfl ?_
    refine wp_bindE (ρ' := [_, _, _, _, _, _, _, _, .agg [dI (r), dI (n), dI (k), ps]]) (si_elemW (s := ((i : Nat) : Int)) i_c (by omega) e_x rfl) rfl rfl ?_
    refine wp_bindE (ρ' := [_, _, _, _, _, _, _, _, _, .agg [dI (r), dI (n), dI (k), ps]]) (sh_chkW rfl) rfl rfl ?_
    refine wp_bindE (ρ' := [_, _, _, _, _, _, _, _, _, _, .agg [dI (r), dI (n)]]) (sh_fldA (off := 0) (size := 2) rfl) rfl rfl ?_
    refine wp_callE (ρ' := [_, _, _, _, _, _, _, _, _, _, _, .tup [.agg [dI (ra), dI (na), dI (ka), pa], dB (fnB a (r, n))]]) kfa rfl rfl rfl rfl ?_
    refine wp_bindE (ρ' := [_, _, _, _, _, _, _, _, _, _, _, _, .agg [dI (ra), dI (na), dI (ka), pa]]) (te_ext rfl) rfl rfl ?_
    refine wp_bindE (ρ' := [_, _, _, _, _, _, _, _, _, _, _, _, _, dB (fnB a (r, n))]) (te_ext rfl) rfl rfl ?_
    refine wp_bindE (ρ' := [_, _, _, _, _, _, _, _, _, _, _, _, _, _, .agg [dI (ra), dI (na), dI (ka), pa]]) (sh_chkW rfl) rfl rfl ?_
    refine wp_bindE (ρ' := [_, _, _, _, _, _, _, _, _, _, _, _, _, _, _, .agg [dI (r), dI (n)]]) (sh_fldA (off := 0) (size := 2) rfl) rfl rfl ?_
    refine wp_callE (ρ' := [_, _, _, _, _, _, _, _, _, _, _, _, _, _, _, _, .tup [.agg [dI (rb), dI (nb), dI (kb), pb], dB (fnB b (r, n))]]) kfb rfl rfl rfl rfl ?_
    refine wp_bindE (ρ' := [_, _, _, _, _, _, _, _, _, _, _, _, _, _, _, _, _, .agg [dI (rb), dI (nb), dI (kb), pb]]) (te_ext rfl) rfl rfl ?_
    refine wp_bindE (ρ' := [_, _, _, _, _, _, _, _, _, _, _, _, _, _, _, _, _, _, dB (fnB b (r, n))]) (te_ext rfl) rfl rfl ?_
    refine wp_bindE (ρ' := [_, _, _, _, _, _, _, _, _, _, _, _, _, _, _, _, _, _, _, .agg [dI (rb), dI (nb), dI (kb), pb]]) (sh_chkW rfl) rfl rfl ?_
    refine wp_bindE (ρ' := [_, _, _, _, _, _, _, _, _, _, _, _, _, _, _, _, _, _, _, _, dB (!(fnB a (r, n)))]) sh_not rfl rfl ?_
    refine wp_iteC rfl (fun f1 => ?_) (fun f1 => ?_)
    · rw [hin (by unfold chgB; rw [f1]; rfl)]
      refine wp_bindE (ρ' := [_, _, _, _, _, _, _, _, _, _, _, _, _, _, _, _, _, _, _, _, _, .agg [dI (r), dI (n)]]) (sh_fldA (off := 0) (size := 2) rfl) rfl rfl ?_
      refine wp_bindE (ρ' := [_, _, _, _, _, _, _, _, _, _, _, _, _, _, _, _, _, _, _, _, _, _, .agg [dI (r), dI (n)]]) (sh_chkW rfl) rfl rfl ?_
      refine wp_bindE (ρ' := [_, _, _, _, _, _, _, _, _, _, _, _, _, _, _, _, _, _, _, _, _, _, _, .sl 50 2 [toP (r, n)]]) lit50 rfl rfl ?_
      refine wp_bindE (ρ' := [_, _, _, _, _, _, _, _, _, _, _, _, _, _, _, _, _, _, _, _, _, _, _, _, mkOut 50 2 ((os ++ [(r, n)]).map toP)]) (apP (by omega)) rfl rfl ?_
      refine wp_bindE (ρ' := [_, _, _, _, _, _, _, _, _, _, _, _, _, _, _, _, _, _, _, _, _, _, _, _, _, dI ((i + 1 : Nat) : Int)]) (sh_add (cap_bd' (by omega))) rfl rfl ?_
      exact wp_jumpTo rfl ihp
    · skip
      refine wp_bindE (ρ' := [_, _, _, _, _, _, _, _, _, _, _, _, _, _, _, _, _, _, _, _, _, dB (!(fnB b (r, n)))]) sh_not rfl rfl ?_
      refine wp_iteC rfl (fun f2 => ?_) (fun f2 => ?_)
      · rw [hin (by unfold chgB chg1; rw [f2]; simp)]
        refine wp_bindE (ρ' := [_, _, _, _, _, _, _, _, _, _, _, _, _, _, _, _, _, _, _, _, _, _, .agg [dI (r), dI (n)]]) (sh_fldA (off := 0) (size := 2) rfl) rfl rfl ?_
        refine wp_bindE (ρ' := [_, _, _, _, _, _, _, _, _, _, _, _, _, _, _, _, _, _, _, _, _, _, _, .agg [dI (r), dI (n)]]) (sh_chkW rfl) rfl rfl ?_
        refine wp_bindE (ρ' := [_, _, _, _, _, _, _, _, _, _, _, _, _, _, _, _, _, _, _, _, _, _, _, _, .sl 50 2 [toP (r, n)]]) lit50 rfl rfl ?_
        refine wp_bindE (ρ' := [_, _, _, _, _, _, _, _, _, _, _, _, _, _, _, _, _, _, _, _, _, _, _, _, _, mkOut 50 2 ((os ++ [(r, n)]).map toP)]) (apP (by omega)) rfl rfl ?_
        refine wp_bindE (ρ' := [_, _, _, _, _, _, _, _, _, _, _, _, _, _, _, _, _, _, _, _, _, _, _, _, _, _, dI ((i + 1 : Nat) : Int)]) (sh_add (cap_bd' (by omega))) rfl rfl ?_
        exact wp_jumpTo rfl ihp
      · skip
        refine wp_callE (ρ' := [_, _, _, _, _, _, _, _, _, _, _, _, _, _, _, _, _, _, _, _, _, _, dB (deq (.agg [dI ra, dI na, dI ka, pa]) (.agg [dI rb, dI nb, dI kb, pb]))]) (h19 (sh_st (shs_cons sh_int (shs_cons sh_int (shs_cons sh_int (shs_cons hpa shs_nil))))) (sh_st (shs_cons sh_int (shs_cons sh_int (shs_cons sh_int (shs_cons hpb shs_nil)))))) rfl rfl rfl rfl ?_
        refine wp_bindE (ρ' := [_, _, _, _, _, _, _, _, _, _, _, _, _, _, _, _, _, _, _, _, _, _, _, dB (!(deq (.agg [dI ra, dI na, dI ka, pa]) (.agg [dI rb, dI nb, dI kb, pb])))]) sh_not rfl rfl ?_
        refine wp_iteC rfl (fun f3 => ?_) (fun f3 => ?_)
        · rw [hin (by unfold chgB chg1; rw [hd, f3]; simp)]
          refine wp_bindE (ρ' := [_, _, _, _, _, _, _, _, _, _, _, _, _, _, _, _, _, _, _, _, _, _, _, _, .agg [dI (r), dI (n)]]) (sh_fldA (off := 0) (size := 2) rfl) rfl rfl ?_
          refine wp_bindE (ρ' := [_, _, _, _, _, _, _, _, _, _, _, _, _, _, _, _, _, _, _, _, _, _, _, _, _, .agg [dI (r), dI (n)]]) (sh_chkW rfl) rfl rfl ?_
          refine wp_bindE (ρ' := [_, _, _, _, _, _, _, _, _, _, _, _, _, _, _, _, _, _, _, _, _, _, _, _, _, _, .sl 50 2 [toP (r, n)]]) lit50 rfl rfl ?_
          refine wp_bindE (ρ' := [_, _, _, _, _, _, _, _, _, _, _, _, _, _, _, _, _, _, _, _, _, _, _, _, _, _, _, mkOut 50 2 ((os ++ [(r, n)]).map toP)]) (apP (by omega)) rfl rfl ?_
          refine wp_bindE (ρ' := [_, _, _, _, _, _, _, _, _, _, _, _, _, _, _, _, _, _, _, _, _, _, _, _, _, _, _, _, dI ((i + 1 : Nat) : Int)]) (sh_add (cap_bd' (by omega))) rfl rfl ?_
          exact wp_jumpTo rfl ihp
        · rw [hout (by unfold chgB chg1; rw [hd, f1, f2, f3]; rfl)]
          refine wp_bindE (ρ' := [_, _, _, _, _, _, _, _, _, _, _, _, _, _, _, _, _, _, _, _, _, _, _, _, dI ((i + 1 : Nat) : Int)]) (sh_add (cap_bd' (by omega))) rfl rfl ?_
          exact wp_jumpTo rfl ihn
  · have := of_nlt q
    have hdr : c.es.drop i = [] := List.drop_of_length_le (by omega)
    have hr : os ++ (([] : List D).map refD).filter (chgB a b) = os := List.append_nil os
    rw [hdr, hr]
    refine wp_bindE (ρ' := [_, _, _, _, _, _, _, mkOut 50 2 ((srt os).map toP)]) (s50_ev (by omega)) rfl rfl ?_
    refine wp_bindE (ρ' := [_, _, _, _, _, _, _, _, rC (srt os)]) (c50_ev (by rw [srt_len]; omega)) rfl rfl ?_
    exact wp_retTo rfl rfl
def R1 (a b : D) (os : List Pr) (es : List D) : List Pr := es.foldl (fun o x => if chg1 a b (refD x) then putR (refD x) false o else o) os
def R2 (a : D) (os : List Pr) (es : List D) : List Pr := es.foldl (fun o x => if fnB a (refD x) then o else putR (refD x) false o) os
theorem putR_len (p : Pr) : ∀ (l : List Pr) (d : Bool), (putR p d l).length ≤ l.length + (if d then 0 else 1)
  | [], d => by cases d <;> simp [putR]
  | x :: r, d => by
    have h1 := putR_len p r true
    have h2 := putR_len p r false
    simp only [if_true, Bool.false_eq_true, if_false] at h1 h2
    by_cases hx : ltP x p
    · have hd : putR p d (x :: r) = (if x = p then [] else [x]) ++ putR p d r := by
        rw [putR, if_neg (fun h => h.2 hx), decide_eq_true hx]; simp
      rw [hd, List.length_append]
      have h3 : (if x = p then ([] : List Pr) else [x]).length ≤ 1 := by split <;> simp
      cases d with
      | true => simp only [if_true, List.length_cons]; omega
      | false => simp only [Bool.false_eq_true, if_false, List.length_cons]; omega
    · have h3 : (if x = p then ([] : List Pr) else [x]).length ≤ 1 := by split <;> simp
      cases d with
      | true =>
        have hd : putR p true (x :: r) = (if x = p then [] else [x]) ++ putR p true r := by rw [putR, if_neg (fun h => by cases h.1)]; simp
        rw [hd, List.length_append]
        simp only [if_true, List.length_cons]; omega
      | false =>
        have hd : putR p false (x :: r) = [p] ++ ((if x = p then [] else [x]) ++ putR p true r) := by rw [putR, if_pos ⟨rfl, hx⟩, decide_eq_false hx]; rfl
        rw [hd, List.length_append, List.length_append]
        simp only [Bool.false_eq_true, if_false, List.length_cons, List.length_nil]; omega
theorem h7 {a b : D} (ha : HasSh ShL a) (hb : HasSh ShL b) (la : a.es.length ≤ 30) (lb : b.es.length ≤ 30) : Holds EE 7 [a, b] (mkOut 50 2 ((R2 a (R1 a b [] a.es) b.es).map toP)) := by
  have i_a := isSl_of ha
  have i_b := isSl_of hb
  have second : ∀ os : List Pr, os.length ≤ 30 → Goes EE (Holds EE) u7Ts 2 [a, b, mkOut 50 2 (os.map toP), dI ((0 : Nat) : Int)] (mkOut 50 2 ((R2 a os b.es).map toP)) := by
    intro os0 hos0
    refine loop_up (P := fun i : Nat => i ≤ b.es.length → ∀ os : List Pr, os.length ≤ 30 + i → Goes EE (Holds EE) u7Ts 2 [a, b, mkOut 50 2 (os.map toP), dI ((i : Nat) : Int)] (mkOut 50 2 ((R2 a os (b.es.drop i)).map toP))) b.es.length (fun i ih => ?_) 0 (Nat.zero_le _) os0 (by omega)
    intro hi os hos
    refine Goes.step' ?_
    show wp _ _ _ u7T2 _
    refine wp_bindE (ρ' := [_, _, _, _, dI ((b.es.length : Nat) : Int)]) (sh_len i_b) rfl rfl ?_
    refine wp_bindE (ρ' := [_, _, _, _, _, dB (decide (((i : Nat) : Int) < ((b.es.length : Nat) : Int)))]) sk_lss rfl rfl ?_
    refine wp_iteC rfl (fun q => ?_) (fun q => ?_)
    · have hil := of_lt q
      obtain ⟨x, e_x⟩ := lt_at hil
      have hdr : b.es.drop i = x :: b.es.drop (i + 1) := by rw [List.drop_eq_getElem_cons hil]; congr 1; exact (List.getElem?_eq_some_iff.1 e_x).2
      rw [hdr]
      obtain ⟨_, rfl, _, _, rfl, ⟨r, rfl⟩, _, _, rfl, ⟨n, rfl⟩, _, _, rfl, ⟨k, rfl⟩, ps, _, rfl, hps, rfl⟩ := elem_of hb e_x
      have i_ps := isSl_of hps
      obtain ⟨ra, na, ka, pa, fa, ea, hpa⟩ := fnd_form (p := (r, n)) ha
      have i_pa := isSl_of hpa
      have kfa := h25 (p := (r, n)) ha
      rw [fa] at kfa
      have hR : R2 a os (D.agg [dI r, dI n, dI k, ps] :: b.es.drop (i + 1)) = R2 a (if fnB a (r, n) then os else putR (r, n) false os) (b.es.drop (i + 1)) := rfl
      rw [hR]
      have hpl := putR_len (r, n) os false
      simp only [Bool.false_eq_true, if_false] at hpl
      refine wp_bindE (ρ' := [_, _, _, _, _, _, dB (true)]) (si_inr (s := ((i : Nat) : Int)) (by omega) e_x) rfl rfl ?_
      refine wp_bindE (ρ' := [_, _, _, _, _, _, _, .agg [dI (r), dI (n)]]) (si_elemA (s := ((i : Nat) : Int)) i_b (by omega) e_x rfl (by decide) (by decide)) rfl rfl ?_
      refine wp_callE (ρ' := [_, _, _, _, _, _, _, _, .tup [.agg [dI (ra), dI (na), dI (ka), pa], dB (fnB a (r, n))]]) kfa rfl rfl rfl rfl ?_
      refine wp_bindE (ρ' := [_, _, _, _, _, _, _, _, _, .agg [dI (ra), dI (na), dI (ka), pa]]) (te_ext rfl) rfl rfl ?_
      refine wp_bindE (ρ' := [_, _, _, _, _, _, _, _, _, _, dB (fnB a (r, n))]) (te_ext rfl) rfl rfl ?_
      refine wp_bindE (ρ' := [_, _, _, _, _, _, _, _, _, _, _, .agg [dI (ra), dI (na), dI (ka), pa]]) (sh_chkW rfl) rfl rfl ?_
      refine wp_bindE (ρ' := [_, _, _, _, _, _, _, _, _, _, _, _, dB (!(fnB a (r, n)))]) sh_not rfl rfl ?_
      refine wp_iteC rfl (fun f => ?_) (fun f => ?_)
      · have hf : fnB a (r, n) = false := by simpa using f
        have hif : (if fnB a (r, n) then os else putR (r, n) false os) = putR (r, n) false os := by rw [hf]; rfl
        rw [hif]
        refine wp_bindE (ρ' := [_, _, _, _, _, _, _, _, _, _, _, _, _, dB (true)]) (si_inr (s := ((i : Nat) : Int)) (by omega) e_x) rfl rfl ?_
        refine wp_bindE (ρ' := [_, _, _, _, _, _, _, _, _, _, _, _, _, _, .agg [dI (r), dI (n)]]) (si_elemA (s := ((i : Nat) : Int)) i_b (by omega) e_x rfl (by decide) (by decide)) rfl rfl ?_
        refine wp_callE (ρ' := [_, _, _, _, _, _, _, _, _, _, _, _, _, _, _, mkOut 50 2 ((putR (r, n) false os).map toP)]) (h27 (p := (r, n)) mkOut_es (mk_sl (by rw [List.length_map]; omega)) (by omega)) rfl rfl rfl rfl ?_
        refine wp_bindE (ρ' := [_, _, _, _, _, _, _, _, _, _, _, _, _, _, _, _, dI ((i + 1 : Nat) : Int)]) (sh_add (cap_bd' (by omega))) rfl rfl ?_
        exact wp_jumpTo rfl (ih hil hil _ (by omega))
      · have hf : fnB a (r, n) = true := by simpa using f
        have hif : (if fnB a (r, n) then os else putR (r, n) false os) = os := by rw [hf]; rfl
        rw [hif]
        refine wp_bindE (ρ' := [_, _, _, _, _, _, _, _, _, _, _, _, _, dI ((i + 1 : Nat) : Int)]) (sh_add (cap_bd' (by omega))) rfl rfl ?_
        exact wp_jumpTo rfl (ih hil hil _ (by omega))
    · have := of_nlt q
      have hdr : b.es.drop i = [] := List.drop_of_length_le (by omega)
      rw [hdr]
      exact wp_retTo rfl rfl
  refine u7 rfl (Goes.step' ?_)
  show wp _ _ _ u7T0 _
  refine wp_jumpTo rfl (loop_up (P := fun i : Nat => i ≤ a.es.length → ∀ os : List Pr, os.length ≤ i → Goes EE (Holds EE) u7Ts 1 [a, b, mkOut 50 2 (os.map toP), dI ((i : Nat) : Int)] (mkOut 50 2 ((R2 a (R1 a b os (a.es.drop i)) b.es).map toP))) a.es.length (fun i ih => ?_) 0 (Nat.zero_le _) [] (Nat.zero_le _))
  intro hi os hos
  refine Goes.step' ?_
  show wp _ _ _ u7T1 _
  refine wp_bindE (ρ' := [_, _, _, _, dI ((a.es.length : Nat) : Int)]) (sh_len i_a) rfl rfl ?_
  refine wp_bindE (ρ' := [_, _, _, _, _, dB (decide (((i : Nat) : Int) < ((a.es.length : Nat) : Int)))]) sk_lss rfl rfl ?_
  refine wp_iteC rfl (fun q => ?_) (fun q => ?_)
  · have hil := of_lt q
    obtain ⟨x, e_x⟩ := lt_at hil
    have hdr : a.es.drop i = x :: a.es.drop (i + 1) := by rw [List.drop_eq_getElem_cons hil]; congr 1; exact (List.getElem?_eq_some_iff.1 e_x).2
    rw [hdr]
    obtain ⟨_, rfl, _, _, rfl, ⟨r, rfl⟩, _, _, rfl, ⟨n, rfl⟩, _, _, rfl, ⟨k, rfl⟩, ps, _, rfl, hps, rfl⟩ := elem_of ha e_x
    have i_ps := isSl_of hps
    obtain ⟨ra, na, ka, pa, fa, ea, hpa⟩ := fnd_form (p := (r, n)) ha
    obtain ⟨rb, nb, kb, pb, fb, eb, hpb⟩ := fnd_form (p := (r, n)) hb
    have i_pa := isSl_of hpa
    have i_pb := isSl_of hpb
    have kfa := h25 (p := (r, n)) ha
    have kfb := h25 (p := (r, n)) hb
    rw [fa] at kfa
    rw [fb] at kfb
    have hd : deq (elD a (r, n)) (elD b (r, n)) = deq (.agg [dI ra, dI na, dI ka, pa]) (.agg [dI rb, dI nb, dI kb, pb]) := by rw [ea, eb]
    have hR : R1 a b os (D.agg [dI r, dI n, dI k, ps] :: a.es.drop (i + 1)) = R1 a b (if chg1 a b (r, n) then putR (r, n) false os else os) (a.es.drop (i + 1)) := rfl
    rw [hR]
    have hpl := putR_len (r, n) os false
    simp only [Bool.false_eq_true, if_false] at hpl
    have ihp := ih hil hil (putR (r, n) false os) (by omega)
    have ihn := ih hil hil os (by omega)
    have k27 := h27 (l := mkOut 50 2 (os.map toP)) (p := (r, n)) mkOut_es (mk_sl (by rw [List.length_map]; omega)) (by omega)
    refine wp_bindE (ρ' := [_, _, _, _, _, _, dB (true)]) (si_inr (s := ((i : Nat) : Int)) (by omega) e_x) rfl rfl ?_
    refine wp_bindE (ρ' := [_, _, _, _, _, _, _, .agg [dI (r), dI (n)]]) (si_elemA (s := ((i : Nat) : Int)) i_a (by omega) e_x rfl (by decide) (by decide)) rfl rfl ?_
    refine wp_callE (ρ' := [_, _, _, _, _, _, _, _, .tup [.agg [dI (ra), dI (na), dI (ka), pa], dB (fnB a (r, n))]]) kfa rfl rfl rfl rfl ?_
    refine wp_bindE (ρ' := [_, _, _, _, _, _, _, _, _, .agg [dI (ra), dI (na), dI (ka), pa]]) (te_ext rfl) rfl rfl ?_
    refine wp_bindE (ρ' := [_, _, _, _, _, _, _, _, _, _, dB (fnB a (r, n))]) (te_ext rfl) rfl rfl ?_
    refine wp_bindE (ρ' := [_, _, _, _, _, _, _, _, _, _, _, .agg [dI (ra), dI (na), dI (ka), pa]]) (sh_chkW rfl) rfl rfl ?_
    refine wp_bindE (ρ' := [_, _, _, _, _, _, _, _, _, _, _, _, dB (true)]) (si_inr (s := ((i : Nat) : Int)) (by omega) e_x) rfl rfl ?_
    refine wp_bindE (ρ' := [_, _, _, _, _, _, _, _, _, _, _, _, _, .agg [dI (r), dI (n)]]) (si_elemA (s := ((i : Nat) : Int)) i_a (by omega) e_x rfl (by decide) (by decide)) rfl rfl ?_
    refine wp_callE (ρ' := [_, _, _, _, _, _, _, _, _, _, _, _, _, _, .tup [.agg [dI (rb), dI (nb), dI (kb), pb], dB (fnB b (r, n))]]) kfb rfl rfl rfl rfl ?_
    refine wp_bindE (ρ' := [_, _, _, _, _, _, _, _, _, _, _, _, _, _, _, .agg [dI (rb), dI (nb), dI (kb), pb]]) (te_ext rfl) rfl rfl ?_
    refine wp_bindE (ρ' := [_, _, _, _, _, _, _, _, _, _, _, _, _, _, _, _, dB (fnB b (r, n))]) (te_ext rfl) rfl rfl ?_
    refine wp_bindE (ρ' := [_, _, _, _, _, _, _, _, _, _, _, _, _, _, _, _, _, .agg [dI (rb), dI (nb), dI (kb), pb]]) (sh_chkW rfl) rfl rfl ?_
    refine wp_bindE (ρ' := [_, _, _, _, _, _, _, _, _, _, _, _, _, _, _, _, _, _, dB (!(fnB b (r, n)))]) sh_not rfl rfl ?_
    refine wp_iteC rfl (fun f1 => ?_) (fun f1 => ?_)
    · have hif : (if chg1 a b (r, n) then putR (r, n) false os else os) = putR (r, n) false os := if_pos (by unfold chg1; rw [f1]; rfl)
      rw [hif]
      refine wp_bindE (ρ' := [_, _, _, _, _, _, _, _, _, _, _, _, _, _, _, _, _, _, _, dB (true)]) (si_inr (s := ((i : Nat) : Int)) (by omega) e_x) rfl rfl ?_
      refine wp_bindE (ρ' := [_, _, _, _, _, _, _, _, _, _, _, _, _, _, _, _, _, _, _, _, .agg [dI (r), dI (n)]]) (si_elemA (s := ((i : Nat) : Int)) i_a (by omega) e_x rfl (by decide) (by decide)) rfl rfl ?_
      refine wp_callE (ρ' := [_, _, _, _, _, _, _, _, _, _, _, _, _, _, _, _, _, _, _, _, _, mkOut 50 2 ((putR (r, n) false os).map toP)]) k27 rfl rfl rfl rfl ?_
      refine wp_bindE (ρ' := [_, _, _, _, _, _, _, _, _, _, _, _, _, _, _, _, _, _, _, _, _, _, dI ((i + 1 : Nat) : Int)]) (sh_add (cap_bd' (by omega))) rfl rfl ?_
      exact wp_jumpTo rfl ihp
    · skip
      refine wp_callE (ρ' := [_, _, _, _, _, _, _, _, _, _, _, _, _, _, _, _, _, _, _, dB (deq (.agg [dI ra, dI na, dI ka, pa]) (.agg [dI rb, dI nb, dI kb, pb]))]) (h26 (sh_st (shs_cons sh_int (shs_cons sh_int (shs_cons sh_int (shs_cons hpa shs_nil))))) (sh_st (shs_cons sh_int (shs_cons sh_int (shs_cons sh_int (shs_cons hpb shs_nil)))))) rfl rfl rfl rfl ?_
      refine wp_bindE (ρ' := [_, _, _, _, _, _, _, _, _, _, _, _, _, _, _, _, _, _, _, _, dB (!(deq (.agg [dI ra, dI na, dI ka, pa]) (.agg [dI rb, dI nb, dI kb, pb])))]) sh_not rfl rfl ?_
      refine wp_iteC rfl (fun f2 => ?_) (fun f2 => ?_)
      · have hif : (if chg1 a b (r, n) then putR (r, n) false os else os) = putR (r, n) false os := if_pos (by unfold chg1; rw [hd, f2]; simp)
        rw [hif]
        refine wp_bindE (ρ' := [_, _, _, _, _, _, _, _, _, _, _, _, _, _, _, _, _, _, _, _, _, dB (true)]) (si_inr (s := ((i : Nat) : Int)) (by omega) e_x) rfl rfl ?_
        refine wp_bindE (ρ' := [_, _, _, _, _, _, _, _, _, _, _, _, _, _, _, _, _, _, _, _, _, _, .agg [dI (r), dI (n)]]) (si_elemA (s := ((i : Nat) : Int)) i_a (by omega) e_x rfl (by decide) (by decide)) rfl rfl ?_
        refine wp_callE (ρ' := [_, _, _, _, _, _, _, _, _, _, _, _, _, _, _, _, _, _, _, _, _, _, _, mkOut 50 2 ((putR (r, n) false os).map toP)]) k27 rfl rfl rfl rfl ?_
        refine wp_bindE (ρ' := [_, _, _, _, _, _, _, _, _, _, _, _, _, _, _, _, _, _, _, _, _, _, _, _, dI ((i + 1 : Nat) : Int)]) (sh_add (cap_bd' (by omega))) rfl rfl ?_
        exact wp_jumpTo rfl ihp
      · have hif : (if chg1 a b (r, n) then putR (r, n) false os else os) = os := if_neg (by unfold chg1; rw [hd, f1, f2]; simp)
        rw [hif]
        refine wp_bindE (ρ' := [_, _, _, _, _, _, _, _, _, _, _, _, _, _, _, _, _, _, _, _, _, dI ((i + 1 : Nat) : Int)]) (sh_add (cap_bd' (by omega))) rfl rfl ?_
        exact wp_jumpTo rfl ihn
  · have := of_nlt q
    have hdr : a.es.drop i = [] := List.drop_of_length_le (by omega)
    rw [hdr]
    exact wp_jumpTo rfl (second os (by omega))
end Go.Proofs.YtbmjdlgfnoaocaaGreat
namespace Go.Proofs.YtbmjdlgfnoaocaaGreat
open Go Go.Am Go.Proofs
theorem lt_le {p q r : Pr} (h : ¬ ltP q p) (k : ltP q r) : ltP p r := by
  rcases ltP_tri p q with e | e | e
  · exact ltP_trans e k
  · rw [e]; exact k
  · exact absurd e h
theorem le_ne {p q : Pr} (h : ¬ ltP q p) (k : p ≠ q) : ltP p q := by
  rcases ltP_tri p q with e | e | e
  · exact e
  · exact absurd e k
  · exact absurd e h
theorem ss_ext : ∀ {l m : List Pr}, l.Pairwise ltP → m.Pairwise ltP → (∀ p, p ∈ l ↔ p ∈ m) → l = m
  | [], [], _, _, _ => rfl
  | [], y :: m, _, _, h => by have := (h y).2 List.mem_cons_self; cases this
  | x :: l, [], _, _, h => by have := (h x).1 List.mem_cons_self; cases this
  | x :: l, y :: m, hl, hm, h => by
    have hl' := List.pairwise_cons.1 hl
    have hm' := List.pairwise_cons.1 hm
    have e : x = y := by
      rcases List.mem_cons.1 ((h x).1 List.mem_cons_self) with e | e
      · exact e
      · rcases List.mem_cons.1 ((h y).2 List.mem_cons_self) with f | f
        · exact f.symm
        · exact absurd (ltP_trans (hl'.1 y f) (hm'.1 x e)) (ltP_irr x)
    subst e
    congr 1
    refine ss_ext hl'.2 hm'.2 fun p => ⟨fun hp => ?_, fun hp => ?_⟩
    · rcases List.mem_cons.1 ((h p).1 (List.mem_cons_of_mem _ hp)) with e | e
      · exact absurd (e ▸ hl'.1 p hp : ltP x x) (ltP_irr x)
      · exact e
    · rcases List.mem_cons.1 ((h p).2 (List.mem_cons_of_mem _ hp)) with e | e
      · exact absurd (e ▸ hm'.1 p hp : ltP x x) (ltP_irr x)
      · exact e
theorem cpN_ss {l : List Pr} (hl : l.Pairwise fun x y => ¬ ltP y x) : ∀ k, k ≤ l.length → (cpN l k).Pairwise ltP ∧ ∀ p, p ∈ cpN l k ↔ p ∈ l.take k
  | 0, _ => ⟨List.Pairwise.nil, fun p => by rw [List.take_zero]; exact Iff.rfl⟩
  | k + 1, h => by
    obtain ⟨h1, h2⟩ := cpN_ss hl k (by omega)
    have hk : k < l.length := by omega
    have ek : l[k]? = some l[k] := List.getElem?_eq_getElem hk
    have ht : ∀ p, p ∈ l.take (k + 1) ↔ p ∈ l.take k ∨ p = l[k] := fun p => by
      rw [List.take_add_one, ek, List.mem_append]
      exact or_congr Iff.rfl (by simp)
    by_cases hc : l[k]? = l[k - 1]? ∧ k ≠ 0
    · rw [cpN_eq hc.1 hc.2]
      refine ⟨h1, fun p => ?_⟩
      rw [h2, ht]
      refine ⟨.inl, fun hp => hp.elim id fun e => ?_⟩
      have e2 : l[k - 1]? = some p := by rw [← hc.1, ek, e]
      exact List.mem_of_getElem? (i := k - 1) (by rw [List.getElem?_take, if_pos (by omega)]; exact e2)
    · have hcp : cpN l (k + 1) = cpN l k ++ [l[k]] := by
        by_cases h0 : k = 0
        · subst h0; rw [show cpN l (0 + 1) = (if (0 : Nat) ≠ 0 ∧ l[0]? = l[0 - 1]? then cpN l 0 else cpN l 0 ++ (l[0]?).toList) from rfl, if_neg (fun q => q.1 rfl), ek]; rfl
        · exact cpN_ne ek (fun e => hc ⟨e, h0⟩)
      rw [hcp]
      refine ⟨List.pairwise_append.2 ⟨h1, List.pairwise_singleton _ _, fun p hp y hy => ?_⟩, fun p => ?_⟩
      · rw [List.mem_singleton.1 hy]
        obtain ⟨j, hj⟩ := List.getElem?_of_mem ((h2 p).1 hp)
        rw [List.getElem?_take] at hj
        split at hj
        · rename_i hjk
          have hj' : j < l.length := by omega
          have ej : l[j] = p := (List.getElem?_eq_some_iff.1 hj).2
          have hle : ¬ ltP (l[k]) p := by rw [← ej]; exact List.pairwise_iff_getElem.1 hl j k hj' hk hjk
          refine le_ne hle fun e => ?_
          refine hc ⟨?_, by omega⟩
          have hk1 : k - 1 < l.length := by omega
          rw [ek, List.getElem?_eq_getElem hk1]
          congr 1
          by_cases hjj : j = k - 1
          · subst hjj; rw [ej, e]
          · have a1 : ¬ ltP (l[k - 1]) p := by rw [← ej]; exact List.pairwise_iff_getElem.1 hl j (k - 1) hj' hk1 (by omega)
            have a2 : ¬ ltP (l[k]) (l[k - 1]) := List.pairwise_iff_getElem.1 hl (k - 1) k hk1 hk (by omega)
            rw [← e] at a2 ⊢
            rcases ltP_tri p (l[k - 1]) with t | t | t
            · exact absurd t a2
            · exact t
            · exact absurd t a1
        · cases hj
      · rw [List.mem_append, h2, ht]
        exact or_congr Iff.rfl List.mem_singleton
theorem srt_ss (l : List Pr) : (srt l).Pairwise fun x y => ¬ ltP y x := by
  have h := List.pairwise_mergeSort (le := fun x y => !(ltOf cfP y x)) (fun a b c h1 h2 => by
    simp only [lt_cf, Bool.not_eq_true', decide_eq_false_iff_not] at *
    intro h; rcases ltP_tri a b with e | e | e
    · exact h2 (ltP_trans h e)
    · exact h2 (e ▸ h)
    · exact h1 e) (fun a b => by
    simp only [lt_cf, Bool.or_eq_true, Bool.not_eq_true', decide_eq_false_iff_not]
    by_cases h : ltP b a
    · exact .inr fun k => ltP_irr a (ltP_trans k h)
    · exact .inl h) l
  refine List.Pairwise.imp (fun {x y} h => ?_) h
  simp only [lt_cf, Bool.not_eq_true', decide_eq_false_iff_not] at h
  exact h
theorem srt_mem {l : List Pr} {p : Pr} : p ∈ srt l ↔ p ∈ l := List.mem_mergeSort
theorem cs_ss (l : List Pr) : (cpt (srt l)).Pairwise ltP := (cpN_ss (srt_ss l) _ (Nat.le_refl _)).1
theorem cs_mem {l : List Pr} {p : Pr} : p ∈ cpt (srt l) ↔ p ∈ l := by
  unfold cpt
  rw [(cpN_ss (srt_ss l) _ (Nat.le_refl _)).2, List.take_length, srt_mem]
theorem put_mem {p q : Pr} : ∀ {l : List Pr} {d : Bool}, q ∈ putR p d l ↔ (d = false ∧ q = p) ∨ (q ∈ l ∧ q ≠ p)
  | [], d => by cases d <;> simp [putR]
  | x :: r, d => by
    have ih1 := fun d => put_mem (p := p) (q := q) (l := r) (d := d)
    rw [putR, List.mem_append, List.mem_append, ih1, List.mem_cons]
    by_cases hx : ltP x p
    · have hn : x ≠ p := fun e => ltP_irr p (e ▸ hx)
      rw [if_neg (fun h => h.2 hx), if_neg hn, decide_eq_true hx, List.mem_singleton]
      simp only [Bool.not_true, Bool.or_false, List.not_mem_nil, false_or]
      constructor
      · rintro (rfl | h | h)
        · exact .inr ⟨.inl rfl, hn⟩
        · exact .inl h
        · exact .inr ⟨.inr h.1, h.2⟩
      · rintro (h | ⟨rfl | h, k⟩)
        · exact .inr (.inl h)
        · exact .inl rfl
        · exact .inr (.inr ⟨h, k⟩)
    · rw [decide_eq_false hx]
      simp only [Bool.not_false, Bool.or_true, Bool.true_eq_false, false_and, false_or]
      by_cases hd : d = false
      · rw [if_pos ⟨hd, hx⟩, List.mem_singleton]
        by_cases hn : x = p
        · rw [if_pos hn]
          constructor
          · rintro (h | h | h)
            · exact .inl ⟨hd, h⟩
            · cases h
            · exact .inr ⟨.inr h.1, h.2⟩
          · rintro (h | ⟨h | h, k⟩)
            · exact .inl h.2
            · exact .inl (h.trans hn)
            · exact .inr (.inr ⟨h, k⟩)
        · rw [if_neg hn, List.mem_singleton]
          constructor
          · rintro (h | h | h)
            · exact .inl ⟨hd, h⟩
            · exact .inr ⟨.inl h, h ▸ hn⟩
            · exact .inr ⟨.inr h.1, h.2⟩
          · rintro (h | ⟨h | h, k⟩)
            · exact .inl h.2
            · exact .inr (.inl h)
            · exact .inr (.inr ⟨h, k⟩)
      · rw [if_neg (fun h => hd h.1)]
        by_cases hn : x = p
        · rw [if_pos hn]
          constructor
          · rintro (h | h | h)
            · cases h
            · cases h
            · exact .inr ⟨.inr h.1, h.2⟩
          · rintro (h | ⟨h | h, k⟩)
            · exact absurd h.1 hd
            · exact absurd (h.trans hn) k
            · exact .inr (.inr ⟨h, k⟩)
        · rw [if_neg hn, List.mem_singleton]
          constructor
          · rintro (h | h | h)
            · cases h
            · exact .inr ⟨.inl h, h ▸ hn⟩
            · exact .inr ⟨.inr h.1, h.2⟩
          · rintro (h | ⟨h | h, k⟩)
            · exact absurd h.1 hd
            · exact .inr (.inl h)
            · exact .inr (.inr ⟨h, k⟩)
theorem put_true {p : Pr} : ∀ {l : List Pr}, l.Pairwise ltP → (putR p true l).Pairwise ltP
  | [], _ => List.Pairwise.nil
  | x :: r, h => by
    have h' := List.pairwise_cons.1 h
    have ih := put_true (p := p) h'.2
    have hd : putR p true (x :: r) = (if x = p then [] else [x]) ++ putR p true r := by rw [putR, if_neg (fun h => by cases h.1)]; simp
    rw [hd]
    split
    · exact ih
    · refine List.pairwise_cons.2 ⟨fun y hy => ?_, ih⟩
      rcases put_mem.1 hy with h | h
      · cases h.1
      · exact h'.1 y h.1
theorem put_ss {p : Pr} : ∀ {l : List Pr}, l.Pairwise ltP → (putR p false l).Pairwise ltP
  | [], _ => List.pairwise_singleton _ _
  | x :: r, h => by
    have h' := List.pairwise_cons.1 h
    by_cases hx : ltP x p
    · have hn : x ≠ p := fun e => ltP_irr p (e ▸ hx)
      have hd : putR p false (x :: r) = x :: putR p false r := by
        rw [putR, if_neg (fun h => h.2 hx), if_neg hn, decide_eq_true hx]; rfl
      rw [hd]
      refine List.pairwise_cons.2 ⟨fun y hy => ?_, put_ss h'.2⟩
      rcases put_mem.1 hy with h | h
      · rw [h.2]; exact hx
      · exact h'.1 y h.1
    · have e1 : putR p false (x :: r) = [p] ++ ((if x = p then [] else [x]) ++ putR p true r) := by rw [putR, if_pos ⟨rfl, hx⟩, decide_eq_false hx]; rfl
      have e2 : putR p true (x :: r) = (if x = p then [] else [x]) ++ putR p true r := by rw [putR, if_neg (fun h => by cases h.1)]; simp
      have hd : putR p false (x :: r) = p :: putR p true (x :: r) := by rw [e1, e2]; rfl
      rw [hd]
      refine List.pairwise_cons.2 ⟨fun y hy => ?_, put_true h⟩
      rcases put_mem.1 hy with k | k
      · cases k.1
      · rcases List.mem_cons.1 k.1 with e | e
        · exact e ▸ le_ne hx (e ▸ k.2).symm
        · exact lt_le hx (h'.1 y e)
theorem R1_ss {a b : D} : ∀ (es : List D) {os : List Pr}, os.Pairwise ltP → (R1 a b os es).Pairwise ltP ∧ ∀ q, q ∈ R1 a b os es ↔ q ∈ os ∨ (chg1 a b q = true ∧ ∃ x ∈ es, refD x = q)
  | [], os, h => ⟨h, fun q => by simp [R1]⟩
  | x :: r, os, h => by
    have e : R1 a b os (x :: r) = R1 a b (if chg1 a b (refD x) then putR (refD x) false os else os) r := rfl
    rw [e]
    by_cases hc : chg1 a b (refD x) = true
    · rw [if_pos hc]
      obtain ⟨h1, h2⟩ := R1_ss (a := a) (b := b) r (put_ss (p := refD x) h)
      refine ⟨h1, fun q => ?_⟩
      rw [h2, put_mem]
      constructor
      · rintro ((⟨_, rfl⟩ | h) | ⟨h, y, hy, k⟩)
        · exact .inr ⟨hc, x, List.mem_cons_self, rfl⟩
        · exact .inl h.1
        · exact .inr ⟨h, y, List.mem_cons_of_mem _ hy, k⟩
      · rintro (h | ⟨h, y, hy, k⟩)
        · by_cases e : q = refD x
          · exact .inl (.inl ⟨rfl, e⟩)
          · exact .inl (.inr ⟨h, e⟩)
        · rcases List.mem_cons.1 hy with rfl | hy
          · exact .inl (.inl ⟨rfl, k.symm⟩)
          · exact .inr ⟨h, y, hy, k⟩
    · rw [if_neg hc]
      obtain ⟨h1, h2⟩ := R1_ss (a := a) (b := b) r h
      refine ⟨h1, fun q => ?_⟩
      rw [h2]
      constructor
      · rintro (h | ⟨h, y, hy, k⟩)
        · exact .inl h
        · exact .inr ⟨h, y, List.mem_cons_of_mem _ hy, k⟩
      · rintro (h | ⟨h, y, hy, k⟩)
        · exact .inl h
        · rcases List.mem_cons.1 hy with rfl | hy
          · exact absurd (k ▸ h) hc
          · exact .inr ⟨h, y, hy, k⟩
theorem R2_ss {a : D} : ∀ (es : List D) {os : List Pr}, os.Pairwise ltP → (R2 a os es).Pairwise ltP ∧ ∀ q, q ∈ R2 a os es ↔ q ∈ os ∨ (fnB a q = false ∧ ∃ x ∈ es, refD x = q)
  | [], os, h => ⟨h, fun q => by simp [R2]⟩
  | x :: r, os, h => by
    have e : R2 a os (x :: r) = R2 a (if fnB a (refD x) then os else putR (refD x) false os) r := rfl
    rw [e]
    by_cases hc : fnB a (refD x) = true
    · rw [if_pos hc]
      obtain ⟨h1, h2⟩ := R2_ss (a := a) r h
      refine ⟨h1, fun q => ?_⟩
      rw [h2]
      constructor
      · rintro (h | ⟨h, y, hy, k⟩)
        · exact .inl h
        · exact .inr ⟨h, y, List.mem_cons_of_mem _ hy, k⟩
      · rintro (h | ⟨h, y, hy, k⟩)
        · exact .inl h
        · rcases List.mem_cons.1 hy with rfl | hy
          · rw [k, h] at hc; cases hc
          · exact .inr ⟨h, y, hy, k⟩
    · rw [if_neg hc]
      have hc' : fnB a (refD x) = false := by simpa using hc
      obtain ⟨h1, h2⟩ := R2_ss (a := a) r (put_ss (p := refD x) h)
      refine ⟨h1, fun q => ?_⟩
      rw [h2, put_mem]
      constructor
      · rintro ((⟨_, rfl⟩ | h) | ⟨h, y, hy, k⟩)
        · exact .inr ⟨hc', x, List.mem_cons_self, rfl⟩
        · exact .inl h.1
        · exact .inr ⟨h, y, List.mem_cons_of_mem _ hy, k⟩
      · rintro (h | ⟨h, y, hy, k⟩)
        · by_cases e : q = refD x
          · exact .inl (.inl ⟨rfl, e⟩)
          · exact .inl (.inr ⟨h, e⟩)
        · rcases List.mem_cons.1 hy with rfl | hy
          · exact .inl (.inl ⟨rfl, k.symm⟩)
          · exact .inr ⟨h, y, hy, k⟩
theorem fnB_iff {a : D} {q : Pr} : fnB a q = true ↔ ∃ x ∈ a.es, refD x = q := by
  unfold fnB ixF
  rw [decide_eq_true_iff, List.findIdx_lt_length]
  exact ⟨fun ⟨x, hx, h⟩ => ⟨x, hx, of_decide_eq_true h⟩, fun ⟨x, hx, h⟩ => ⟨x, hx, decide_eq_true h⟩⟩
theorem ways (a b : D) : cpt (srt (((a.es ++ b.es).map refD).filter (chgB a b))) = R2 a (R1 a b [] a.es) b.es := by
  obtain ⟨r1, m1⟩ := R1_ss (a := a) (b := b) a.es (os := []) List.Pairwise.nil
  obtain ⟨r2, m2⟩ := R2_ss (a := a) b.es r1
  refine ss_ext (cs_ss _) r2 fun q => ?_
  rw [cs_mem, m2, m1, List.mem_filter, List.mem_map]
  unfold chgB
  rw [← fnB_iff]
  constructor
  · rintro ⟨⟨x, hx, rfl⟩, h⟩
    by_cases ha : fnB a (refD x) = true
    · rw [ha] at h
      exact .inl (.inr ⟨by simpa using h, ha⟩)
    · refine .inr ⟨by simpa using ha, ?_⟩
      rcases List.mem_append.1 hx with hx | hx
      · exact absurd (fnB_iff.2 ⟨x, hx, rfl⟩) ha
      · exact ⟨x, hx, rfl⟩
  · rintro ((h | ⟨h, k⟩) | ⟨h, x, hx, k⟩)
    · cases h
    · obtain ⟨x, hx, e⟩ := fnB_iff.1 k
      exact ⟨⟨x, List.mem_append_left _ hx, e⟩, by rw [h, Bool.or_true]⟩
    · exact ⟨⟨x, List.mem_append_right _ hx, k⟩, by rw [h]; rfl⟩
theorem rC_mk (a b : D) : rC (srt (((a.es ++ b.es).map refD).filter (chgB a b))) = mkOut 50 2 ((R2 a (R1 a b [] a.es) b.es).map toP) := by
  rw [← ways]
  unfold rC mkOut
  by_cases h : srt (((a.es ++ b.es).map refD).filter (chgB a b)) = []
  · rw [if_pos h, h]; rfl
  · rw [if_neg h, if_neg]
    intro e
    have e := List.map_eq_nil_iff.1 e
    obtain ⟨p, hp⟩ := List.exists_mem_of_ne_nil _ h
    have := cs_mem.2 (srt_mem.1 hp)
    rw [e] at this
    cases this
mutual
theorem deq_self : ∀ (s : Sh) (d : D), HasSh s d → deq d d = true
  | .int k, d, h => by simp only [HasSh] at h; obtain ⟨n, rfl⟩ := h; simp [deq, veq]
  | .bool, d, h => by simp only [HasSh] at h; obtain ⟨n, rfl⟩ := h; simp [deq, veq]
  | .str, d, h => by simp only [HasSh] at h; obtain ⟨n, rfl⟩ := h; simp only [deq_leaf, veq_str]; exact bytes_self n
  | .st fs, d, h => by simp only [HasSh] at h; obtain ⟨cs, rfl, h⟩ := h; rw [deq_agg]; exact deqs_self fs cs h
  | .sl el sz e, d, h => by
    simp only [HasSh] at h
    rcases h with rfl | ⟨es, rfl, hlt, h⟩
    · simp [deq]
    · simp only [deq]
      clear hlt
      induction es with
      | nil => exact deqs_nil
      | cons x xs ih =>
        rw [deqs_cons, deq_self e x (h x List.mem_cons_self), Bool.true_and]
        exact ih (fun y hy => h y (List.mem_cons_of_mem _ hy))
theorem deqs_self : ∀ (fs : List Sh) (cs : List D), HasShs fs cs → deqs cs cs = true
  | [], cs, h => by simp only [HasShs] at h; rw [h]; exact deqs_nil
  | s :: ss, cs, h => by
    simp only [HasShs] at h
    obtain ⟨d, ds, rfl, h1, h2⟩ := h
    rw [deqs_cons, deq_self s d h1, deqs_self ss ds h2]; rfl
end
end Go.Proofs.YtbmjdlgfnoaocaaGreat
