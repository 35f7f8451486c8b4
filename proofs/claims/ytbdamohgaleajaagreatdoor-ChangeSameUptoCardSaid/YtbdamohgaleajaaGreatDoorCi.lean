/- The law of ChangeSame over data of bounded length. Conditions: none. -/
import Derived.Test.YtbdamohgaleajaaGreatDoorCf
import Derived.Test.YtbdamohgaleajaaGreatDoorCg
import Derived.Test.YtbdamohgaleajaaGreatDoorCh
namespace Go.Proofs.YtbdamohgaleajaaGreatDoor
open Go Go.Am Go.Proofs
attribute [local irreducible] Go.Am.wp Go.Am.TOp.eval
variable {B : Nat}
theorem hb_cpl {el sz el' sz' : Nat} {e : Sh} {d : D} (h : HasB B (.sl el sz e) d) : HasB B (.sl el' sz' e) (cpl el' sz' d) :=
  hb_sl (len_leB h) fun x hx => by
    obtain ⟨i, hi⟩ := List.mem_iff_getElem?.1 hx
    exact elem_ofB h hi
theorem hb_map {el sz el' sz' : Nat} {e e' : Sh} {d : D} {f : D → D} (h : HasB B (.sl el sz e) d) (hf : ∀ x, HasB B e x → HasB B e' (f x)) : HasB B (.sl el' sz' e') (.sl el' sz' (d.es.map f)) :=
  hb_sl (by rw [List.length_map]; exact len_leB h) fun x hx => by
    obtain ⟨y, hy, rfl⟩ := List.mem_map.1 hx
    obtain ⟨i, hi⟩ := List.mem_iff_getElem?.1 hy
    exact hf y (elem_ofB h hi)
theorem ev_map {el sz el' sz' : Nat} {e : Sh} {d : D} {f : D → D} (h : HasB 1048576 (.sl el sz e) d) (hf : ∀ x, HasB 1048576 e x → Eqv x (f x)) : Eqv d (.sl el' sz' (d.es.map f)) :=
  eqv_map (isSl_ofB h) fun x hx => by
    obtain ⟨i, hi⟩ := List.mem_iff_getElem?.1 hx
    exact hf x (elem_ofB h hi)
theorem ev_cpl {el sz el' sz' : Nat} {e : Sh} {d : D} (h : HasB 1048576 (.sl el sz e) d) : Eqv d (cpl el' sz' d) := eqv_cpl (isSl_ofB h)
theorem cpE_ok {x : D} (h : HasB 1048576 ShE x) : HasB 1048576 ShE (cpE x) ∧ Eqv x (cpE x) := by
  obtain ⟨_, rfl, _, _, rfl, ⟨y0, rfl⟩, y1, _, rfl, k1, _, _, rfl, ⟨y2, rfl⟩, y3, _, rfl, k3, _, _, rfl, ⟨y4, rfl⟩, y5, _, rfl, k5, y6, _, rfl, k6, y7, _, rfl, k7, rfl⟩ := h
  exact ⟨hb_st (hbs_cons hb_int (hbs_cons (hb_cpl k1) (hbs_cons hb_int (hbs_cons (hb_map k3 fun x hx => hb_cpl hx) (hbs_cons hb_int (hbs_cons (hb_cpl k5) (hbs_cons (hb_cpl k6) (hbs_cons (hb_cpl k7) hbs_nil)))))))),
    .agg ⟨.refl _, ev_cpl k1, .refl _, ev_map k3 fun x hx => ev_cpl hx, .refl _, ev_cpl k5, ev_cpl k6, ev_cpl k7, trivial⟩⟩
theorem cpU_ok {x : D} (h : HasB 1048576 ShU x) : HasB 1048576 ShU (cpU x) ∧ Eqv x (cpU x) := by
  obtain ⟨_, rfl, _, _, rfl, ⟨y0, rfl, hy⟩, y1, _, rfl, k1, rfl⟩ := h
  exact ⟨hb_st (hbs_cons (hb_str hy) (hbs_cons (hb_cpl k1) hbs_nil)), .agg ⟨.refl _, ev_cpl k1, trivial⟩⟩
theorem cpR_ok {x : D} (h : HasB 1048576 ShR x) : HasB 1048576 ShR (cpR x) ∧ Eqv x (cpR x) := by
  obtain ⟨_, rfl, y0, _, rfl, k0, y1, _, rfl, k1, y2, _, rfl, k2, y3, _, rfl, k3, _, _, rfl, ⟨y4, rfl⟩, _, _, rfl, ⟨y5, rfl⟩, rfl⟩ := h
  exact ⟨hb_st (hbs_cons (hb_cpl k0) (hbs_cons (hb_cpl k1) (hbs_cons (hb_cpl k2) (hbs_cons (hb_cpl k3) (hbs_cons hb_bool (hbs_cons hb_bool hbs_nil)))))), .agg ⟨ev_cpl k0, ev_cpl k1, ev_cpl k2, ev_cpl k3, .refl _, .refl _, trivial⟩⟩
theorem copy_ok {g : D} (h : HasB 1048576 ShL g) : Holds EE 7 [g] (cpL g) ∧ HasSh ShL (cpL g) ∧ Eqv g (cpL g) := by
  obtain ⟨_, rfl, x0, _, rfl, k0, _, _, rfl, ⟨s1, rfl, hs1⟩, x2, _, rfl, k2, x3, _, rfl, k3, x4, _, rfl, k4, _, _, rfl, ⟨x5, rfl⟩, x6, _, rfl, k6, x7, _, rfl, k7, x8, _, rfl, k8, rfl⟩ := h
  refine ⟨g7 k0 k2 k3 k4 k6 k7 k8, hasB_sh (B := 1048576) ?_, ?_⟩
  · exact hb_st (hbs_cons (hb_cpl k0) (hbs_cons (hb_str hs1) (hbs_cons (hb_map k2 fun x hx => (cpU_ok hx).1) (hbs_cons (hb_map k3 fun x hx => hb_cpl hx) (hbs_cons (hb_map k4 fun x hx => (cpR_ok hx).1) (hbs_cons hb_int (hbs_cons (hb_cpl k6) (hbs_cons (hb_cpl k7) (hbs_cons (hb_map k8 fun x hx => (cpE_ok hx).1) hbs_nil)))))))))
  · exact .agg ⟨ev_cpl k0, .refl _, ev_map k2 fun x hx => (cpU_ok hx).2, ev_map k3 fun x hx => ev_cpl hx, ev_map k4 fun x hx => (cpR_ok hx).2, .refl _, ev_cpl k6, ev_cpl k7, ev_map k8 fun x hx => (cpE_ok hx).2, trivial⟩
theorem light_ok {g : D} (h : HasB 1048576 ShL g) : ∃ b, Holds EE 4 [g] (dB b) := by
  have hB := hasB_mono (B' := 300000000) (by decide) h
  obtain ⟨cs, l, c3, rfl, hl, hc3, hE, h3⟩ : ∃ cs l c3, g = .agg cs ∧ cs[8]? = some l ∧ cs[3]? = some c3 ∧ HasB 1048576 (.sl 57 8 ShE) l ∧ HasB 1048576 (.sl 63 1 (.sl 9 1 .str)) c3 := by
    obtain ⟨_, rfl, x0, _, rfl, h_0, x1, _, rfl, h_1, x2, _, rfl, h_2, x3, _, rfl, h_3, x4, _, rfl, h_4, x5, _, rfl, h_5, x6, _, rfl, h_6, x7, _, rfl, h_7, x8, _, rfl, h_8, rfl⟩ := h
    exact ⟨_, x8, x3, rfl, rfl, rfl, h_8, h_3⟩
  obtain ⟨_, ⟨b, rfl⟩, k4⟩ := t4 hB
    (fun cs' e x hx => by cases e; rw [hl] at hx; cases hx; exact Nat.lt_of_le_of_lt (len_leB hE) (by decide))
    (fun cs' e x hx y hy => by
      cases e; rw [hc3] at hx; cases hx
      obtain ⟨i, hi⟩ := List.getElem?_of_mem hy
      exact len_leB (elem_ofB h3 hi))
  exact ⟨b, k4⟩
theorem agg_of {g : D} (h : HasB 1048576 ShL g) : ∃ cs, g = .agg cs ∧ cs.length = 9 := by
  obtain ⟨_, rfl, x0, _, rfl, h_0, x1, _, rfl, h_1, x2, _, rfl, h_2, x3, _, rfl, h_3, x4, _, rfl, h_4, x5, _, rfl, h_5, x6, _, rfl, h_6, x7, _, rfl, h_7, x8, _, rfl, h_8, rfl⟩ := h
  exact ⟨_, rfl, rfl⟩
theorem h3 {g h : D} (h_g : HasB 1048576 ShL g) (h_h : HasB 1048576 ShL h) (hw : Holds EE 5 [] (dB true)) : Holds EE 3 [g, h] (dB true) := by
  obtain ⟨b1, l1⟩ := light_ok h_g
  obtain ⟨b2, l2⟩ := light_ok h_h
  obtain ⟨c1, s1, e1⟩ := copy_ok h_g
  obtain ⟨c2, s2, e2⟩ := copy_ok h_h
  have sg := hasB_sh h_g
  have sh := hasB_sh h_h
  have k6 := h6 s1 s2
  rw [e1.both e2] at k6
  have k8 := h8 sg sh
  have k6' := h6 sg s1
  rw [(e1 g).2, deq_self sg] at k6'
  obtain ⟨cg, hcg, lg⟩ := agg_of h_g
  obtain ⟨ch, hch, lh⟩ := agg_of h_h
  generalize cpL g = g' at *
  generalize cpL h = h' at *
  generalize deq g h = q at k6 k8
  have wg : TOp.eval EE (.chk true 9) [g] = some g := by rw [hcg]; exact sh_chkW lg
  have wh : TOp.eval EE (.chk true 9) [h] = some h := by rw [hch]; exact sh_chkW lh
  clear hcg hch
  refine u3 rfl (Goes.step' ?_)
  show wp _ _ _ u3T0 _
  refine bS (d := g) wg ?_
  refine bS (d := h) wh ?_
  refine cS (d := dB b1) l1 ?_
  refine bS (d := dB (!b1)) sh_not ?_
  refine wp_iteC rfl (fun _ => ?_) (fun _ => ?_)
  · refine cS (d := dB true) hw ?_
    exact wp_retTo (d' := dB true) rfl rfl
  · refine cS (d := dB b2) l2 ?_
    refine bS (d := dB (!b2)) sh_not ?_
    refine wp_iteC rfl (fun _ => ?_) (fun _ => ?_)
    · refine cS (d := dB true) hw ?_
      exact wp_retTo (d' := dB true) rfl rfl
    · refine cS (d := g') c1 ?_
      refine cS (d := h') c2 ?_
      refine cS (d := dB q) k6 ?_
      refine cS (d := dB q) k8 ?_
      refine bS (d := dB (decide (q = q))) (sh_cmpB .eql (.inr rfl) ty4 st4) ?_
      rw [decide_eq_true rfl]
      refine wp_iteB (t := true) rfl (ite_t ?_)
      refine cS (d := g') c1 ?_
      refine cS (d := dB true) k6' ?_
      refine wp_iteB (t := true) rfl (ite_t ?_)
      refine cS (d := dB true) hw ?_
      exact wp_retTo (d' := dB true) rfl rfl
end Go.Proofs.YtbdamohgaleajaaGreatDoor
