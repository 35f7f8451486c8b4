/- Classes and Base, by both; the law. Conditions: none. -/
import Derived.Test.YtonebjbldlokmaaGreatPg
import Derived.Test.YtonebjbldlokmaaGreatPh
namespace Go.Proofs.YtonebjbldlokmaaGreat
open Go Go.Am Go.Proofs
attribute [local irreducible] Go.Am.wp Go.Am.TOp.eval
abbrev ShP : Sh := .sl 54 3 (.st [.int .i64, .int .i64, .int .i64])
def FC (l : D) : D → List D
  | .agg [.leaf (.int .i64 p0), .leaf (.int .i64 p1), _] => match selP l p0 p1 with
    | some (c, _) => [c]
    | none => []
  | _ => []
def FB (l : D) : D → List D
  | .agg [.leaf (.int .i64 p0), .leaf (.int .i64 p1), _] => match selP l p0 p1 with
    | some (_, w) => w.es
    | none => []
  | _ => []
theorem g8 {g : List D} {l ps : D} (hg : g.length = 9) (hl : g[8]? = some l) (h : HasB 1048576 (.sl 66 8 ShE) l) (hp : HasB 300000000 ShP ps) (hn : ps.es.length ≤ 20) :
    Holds EE 8 [.agg g, .agg [ps]] (mkOut 3 1 (ps.es.flatMap (FC l))) := by
  suffices hh : ∃ d, d = mkOut 3 1 (ps.es.flatMap (FC l)) ∧ Goes EE (Holds EE) u8Ts 0 [.agg g, .agg [ps]] d by
    obtain ⟨d, rfl, hg'⟩ := hh; exact u8 rfl hg'
  have i_p := isSl_ofB hp
  have hFC : ∀ x ∈ ps.es, (FC l x).length ≤ 1 := by
    intro x _
    unfold FC
    split
    · split <;> simp
    · simp
  refine goes_R (R := (fun d => d = mkOut 3 1 (ps.es.flatMap (FC l)))) ?_
  show wp _ _ _ u8T0 _
  refine wp_bindE (ρ' := [_, _, .agg g]) (sh_chkW hg) rfl rfl ?_
  refine wp_bindE (ρ' := [_, _, _, .agg [ps]]) (sh_chkW rfl) rfl rfl ?_
  refine wp_bindE (ρ' := [_, _, _, _, ps]) (sh_fld1 (off := 0) rfl i_p.one) rfl rfl ?_
  refine wp_bindE (ρ' := [_, _, _, _, _, dI ((ps.es.length : Nat) : Int)]) (sh_len i_p) rfl rfl ?_
  refine wr_jump rfl (loop_up (P := fun i => i ≤ ps.es.length → ∃ d, d = mkOut 3 1 (ps.es.flatMap (FC l)) ∧ Goes EE (Holds EE) u8Ts 1 [mkOut 3 1 ((ps.es.take i).flatMap (FC l)), ps, dI ((ps.es.length : Nat) : Int), dI ((i : Nat) : Int), .agg g] d) (ps.es.length) (fun i ih => ?_) 0 (by omega))
  intro hi
  refine goes_R (R := (fun d => d = mkOut 3 1 (ps.es.flatMap (FC l)))) ?_
  show wp _ _ _ u8T1 _
  refine wp_bindE (ρ' := [_, _, _, _, _, _]) sk_lss rfl rfl ?_
  refine wp_iteC rfl (fun c1 => ?_) (fun c1 => ?_)
  · replace c1 : ((i : Nat) : Int) < ((ps.es.length : Nat) : Int) := of_decide_eq_true c1
    obtain ⟨x, e_x⟩ := get_at (d := ps) (s := ((i : Nat) : Int)) (by omega) (by omega)
    obtain ⟨_, rfl, _, _, rfl, ⟨p0, rfl⟩, _, _, rfl, ⟨p1, rfl⟩, _, _, rfl, ⟨p2, rfl⟩, rfl⟩ := elem_ofB hp e_x
    have e' : ps.es[i]? = some (.agg [dI p0, dI p1, dI p2]) := e_x
    have htk := take_flat (F := FC l) e'
    have hlen : ((ps.es.take i).flatMap (FC l)).length ≤ (ps.es.take i).length * 1 := flat_len_le fun y hy => hFC y (List.mem_of_mem_take hy)
    rw [List.length_take] at hlen
    obtain ⟨y0, y2, y4, y1, y3, y5, y6, y7, w, b, k21, hs, hw, ho⟩ := g21 (p0 := p0) (p1 := p1) (p2 := p2) hg hl h
    have hF : FC l (.agg [dI p0, dI p1, dI p2]) = if b then [dI y2] else [] := by
      show (match selP l p0 p1 with | some (c, _) => [c] | none => []) = _
      rw [hs]
      cases b <;> rfl
    refine wp_bindE (ρ' := [_, _, _, _, _, _, dB true]) (si_inr (by omega) e_x) rfl rfl ?_
    refine wp_bindE (ρ' := [_, _, _, _, _, _, _, .agg [dI p0, dI p1, dI p2]]) (si_elemW i_p (by omega) e_x rfl) rfl rfl ?_
    refine wp_bindE (ρ' := [_, _, _, _, _, _, _, _, .agg [dI p0, dI p1, dI p2]]) (sh_chkW rfl) rfl rfl ?_
    refine wp_callE (ρ' := [_, _, _, _, _, _, _, _, _, .tup [.agg [dI y0, y1, dI y2, y3, dI y4, y5, y6, y7], w, dB b]]) k21 rfl rfl rfl rfl ?_
    refine wp_bindE (ρ' := [_, _, _, _, _, _, _, _, _, _, .agg [dI y0, y1, dI y2, y3, dI y4, y5, y6, y7]]) (te_ext rfl) rfl rfl ?_
    refine wp_bindE (ρ' := [_, _, _, _, _, _, _, _, _, _, _, w]) (te_ext rfl) rfl rfl ?_
    refine wp_bindE (ρ' := [_, _, _, _, _, _, _, _, _, _, _, _, dB b]) (te_ext rfl) rfl rfl ?_
    refine wp_bindE (ρ' := [_, _, _, _, _, _, _, _, _, _, _, _, _, .agg [dI y0, y1, dI y2, y3, dI y4, y5, y6, y7]]) (sh_chkW rfl) rfl rfl ?_
    refine wp_iteC rfl (fun c2 => ?_) (fun c2 => ?_)
    · subst c2
      rw [hF] at htk
      refine wp_bindE (ρ' := [_, _, _, _, _, _, _, _, _, _, _, _, _, _, dI y2]) (sh_fld1 (off := 2) rfl rfl) rfl rfl ?_
      refine wp_bindE (ρ' := [_, _, _, _, _, _, _, _, _, _, _, _, _, _, _, dI y2]) (sh_chk1 rfl) rfl rfl ?_
      refine wp_bindE (ρ' := [_, _, _, _, _, _, _, _, _, _, _, _, _, _, _, _, .sl 3 1 [dI y2]]) (lit_one rfl) rfl rfl ?_
      refine wp_bindE (ρ' := [_, _, _, _, _, _, _, _, _, _, _, _, _, _, _, _, _, mkOut 3 1 ((ps.es.take (i + 1)).flatMap (FC l))]) (by rw [htk]; exact app_mk (B := 300000000) (e := .int .i64) (b := .sl 3 1 [dI y2]) (hb_sl (by simp) (all_c hb_int all_n)) (by decide) (by show _ + 1 ≤ _; omega)) rfl rfl ?_
      refine wp_bindE (ρ' := [_, _, _, _, _, _, _, _, _, _, _, _, _, _, _, _, _, _, dI ((i + 1 : Nat) : Int)]) (sh_add (cap_bd' (by omega))) rfl rfl ?_
      exact wr_jump rfl (ih (by omega) (by omega))
    · subst c2
      rw [hF] at htk
      refine wp_bindE (ρ' := [_, _, _, _, _, _, _, _, _, _, _, _, _, _, dI ((i + 1 : Nat) : Int)]) (sh_add (cap_bd' (by omega))) rfl rfl ?_
      have hih := ih (by omega) (by omega)
      rw [htk] at hih
      simp only [Bool.false_eq_true, if_false, List.append_nil] at hih
      exact wr_jump rfl hih
  · replace c1 : ¬ (((i : Nat) : Int) < ((ps.es.length : Nat) : Int)) := of_decide_eq_false c1
    have : i = ps.es.length := by omega
    subst this
    exact wr_ret (ds := [mkOut 3 1 ((ps.es.take ps.es.length).flatMap (FC l))]) rfl (by show mkOut 3 1 _ = _; rw [List.take_length])
end Go.Proofs.YtonebjbldlokmaaGreat
namespace Go.Proofs.YtonebjbldlokmaaGreat
open Go Go.Am Go.Proofs
attribute [local irreducible] Go.Am.wp Go.Am.TOp.eval
theorem g10 {g : List D} {l ps : D} (hg : g.length = 9) (hl : g[8]? = some l) (h : HasB 1048576 (.sl 66 8 ShE) l) (hp : HasB 300000000 ShP ps) (hn : ps.es.length ≤ 20) :
    Holds EE 10 [.agg g, .agg [ps]] (mkOut 3 1 (ps.es.flatMap (FB l))) := by
  suffices hh : ∃ d, d = mkOut 3 1 (ps.es.flatMap (FB l)) ∧ Goes EE (Holds EE) u10Ts 0 [.agg g, .agg [ps]] d by
    obtain ⟨d, rfl, hg'⟩ := hh; exact u10 rfl hg'
  have i_p := isSl_ofB hp
  have hFC : ∀ x ∈ ps.es, (FB l x).length ≤ 1048576 := by
    intro x _
    unfold FB
    split
    · split
      · rename_i c w hs
        exact len_leB (selP_hb h hs).2
      · simp
    · simp
  refine goes_R (R := (fun d => d = mkOut 3 1 (ps.es.flatMap (FB l)))) ?_
  show wp _ _ _ u10T0 _
  refine wp_bindE (ρ' := [_, _, .agg g]) (sh_chkW hg) rfl rfl ?_
  refine wp_bindE (ρ' := [_, _, _, .agg [ps]]) (sh_chkW rfl) rfl rfl ?_
  refine wp_bindE (ρ' := [_, _, _, _, ps]) (sh_fld1 (off := 0) rfl i_p.one) rfl rfl ?_
  refine wp_bindE (ρ' := [_, _, _, _, _, dI ((ps.es.length : Nat) : Int)]) (sh_len i_p) rfl rfl ?_
  refine wr_jump rfl (loop_up (P := fun i => i ≤ ps.es.length → ∃ d, d = mkOut 3 1 (ps.es.flatMap (FB l)) ∧ Goes EE (Holds EE) u10Ts 1 [mkOut 3 1 ((ps.es.take i).flatMap (FB l)), ps, dI ((ps.es.length : Nat) : Int), dI ((i : Nat) : Int), .agg g] d) (ps.es.length) (fun i ih => ?_) 0 (by omega))
  intro hi
  refine goes_R (R := (fun d => d = mkOut 3 1 (ps.es.flatMap (FB l)))) ?_
  show wp _ _ _ u10T1 _
  refine wp_bindE (ρ' := [_, _, _, _, _, _]) sk_lss rfl rfl ?_
  refine wp_iteC rfl (fun c1 => ?_) (fun c1 => ?_)
  · replace c1 : ((i : Nat) : Int) < ((ps.es.length : Nat) : Int) := of_decide_eq_true c1
    obtain ⟨x, e_x⟩ := get_at (d := ps) (s := ((i : Nat) : Int)) (by omega) (by omega)
    obtain ⟨_, rfl, _, _, rfl, ⟨p0, rfl⟩, _, _, rfl, ⟨p1, rfl⟩, _, _, rfl, ⟨p2, rfl⟩, rfl⟩ := elem_ofB hp e_x
    have e' : ps.es[i]? = some (.agg [dI p0, dI p1, dI p2]) := e_x
    have htk := take_flat (F := FB l) e'
    have hlen : ((ps.es.take i).flatMap (FB l)).length ≤ (ps.es.take i).length * 1048576 := flat_len_le fun y hy => hFC y (List.mem_of_mem_take hy)
    rw [List.length_take, Nat.min_eq_left (by omega)] at hlen
    obtain ⟨y0, y2, y4, y1, y3, y5, y6, y7, w, b, k21, hs, hw, ho⟩ := g21 (p0 := p0) (p1 := p1) (p2 := p2) hg hl h
    have hF : FB l (.agg [dI p0, dI p1, dI p2]) = if b then w.es else [] := by
      show (match selP l p0 p1 with | some (_, w) => w.es | none => []) = _
      rw [hs]
      cases b <;> rfl
    refine wp_bindE (ρ' := [_, _, _, _, _, _, dB true]) (si_inr (by omega) e_x) rfl rfl ?_
    refine wp_bindE (ρ' := [_, _, _, _, _, _, _, .agg [dI p0, dI p1, dI p2]]) (si_elemW i_p (by omega) e_x rfl) rfl rfl ?_
    refine wp_bindE (ρ' := [_, _, _, _, _, _, _, _, .agg [dI p0, dI p1, dI p2]]) (sh_chkW rfl) rfl rfl ?_
    refine wp_callE (ρ' := [_, _, _, _, _, _, _, _, _, .tup [.agg [dI y0, y1, dI y2, y3, dI y4, y5, y6, y7], w, dB b]]) k21 rfl rfl rfl rfl ?_
    refine wp_bindE (ρ' := [_, _, _, _, _, _, _, _, _, _, .agg [dI y0, y1, dI y2, y3, dI y4, y5, y6, y7]]) (te_ext rfl) rfl rfl ?_
    refine wp_bindE (ρ' := [_, _, _, _, _, _, _, _, _, _, _, w]) (te_ext rfl) rfl rfl ?_
    refine wp_bindE (ρ' := [_, _, _, _, _, _, _, _, _, _, _, _, dB b]) (te_ext rfl) rfl rfl ?_
    refine wp_bindE (ρ' := [_, _, _, _, _, _, _, _, _, _, _, _, _, .agg [dI y0, y1, dI y2, y3, dI y4, y5, y6, y7]]) (sh_chkW rfl) rfl rfl ?_
    refine wp_iteC rfl (fun c2 => ?_) (fun c2 => ?_)
    · subst c2
      rw [hF] at htk
      have hwl := len_leB hw
      refine wp_bindE (ρ' := [_, _, _, _, _, _, _, _, _, _, _, _, _, _, mkOut 3 1 ((ps.es.take (i + 1)).flatMap (FB l))]) (by rw [htk]; exact app_mk hw (by decide) (by show _ + w.es.length ≤ _; omega)) rfl rfl ?_
      refine wp_bindE (ρ' := [_, _, _, _, _, _, _, _, _, _, _, _, _, _, _, dI ((i + 1 : Nat) : Int)]) (sh_add (cap_bd' (by omega))) rfl rfl ?_
      exact wr_jump rfl (ih (by omega) (by omega))
    · subst c2
      rw [hF] at htk
      refine wp_bindE (ρ' := [_, _, _, _, _, _, _, _, _, _, _, _, _, _, dI ((i + 1 : Nat) : Int)]) (sh_add (cap_bd' (by omega))) rfl rfl ?_
      have hih := ih (by omega) (by omega)
      rw [htk] at hih
      simp only [Bool.false_eq_true, if_false, List.append_nil] at hih
      exact wr_jump rfl hih
  · replace c1 : ¬ (((i : Nat) : Int) < ((ps.es.length : Nat) : Int)) := of_decide_eq_false c1
    have : i = ps.es.length := by omega
    subst this
    exact wr_ret (ds := [mkOut 3 1 ((ps.es.take ps.es.length).flatMap (FB l))]) rfl (by show mkOut 3 1 _ = _; rw [List.take_length])
theorem g9 {g : List D} {l ps : D} (hg : g.length = 9) (hl : g[8]? = some l) (h : HasB 1048576 (.sl 66 8 ShE) l) (hp : HasB 300000000 ShP ps) (hn : ps.es.length ≤ 20) :
    Holds EE 9 [.agg g, .agg [ps]] (mkOut 3 1 (ps.es.flatMap (FC l))) := by
  suffices hh : ∃ d, d = mkOut 3 1 (ps.es.flatMap (FC l)) ∧ Goes EE (Holds EE) u9Ts 0 [.agg g, .agg [ps]] d by
    obtain ⟨d, rfl, hg'⟩ := hh; exact u9 rfl hg'
  have i_p := isSl_ofB hp
  have hB := hasB_mono (B' := 300000000) (by decide) h
  have i_l := isSl_ofB hB
  have hFC : ∀ x ∈ ps.es, (FC l x).length ≤ 1 := by
    intro x _
    unfold FC
    split
    · split <;> simp
    · simp
  refine goes_R (R := (fun d => d = mkOut 3 1 (ps.es.flatMap (FC l)))) ?_
  show wp _ _ _ u9T0 _
  refine wp_bindE (ρ' := [_, _, .agg g]) (sh_chkW hg) rfl rfl ?_
  refine wp_bindE (ρ' := [_, _, _, .agg [ps]]) (sh_chkW rfl) rfl rfl ?_
  refine wr_jump rfl (loop_up (P := fun i => i ≤ ps.es.length → ∃ d, d = mkOut 3 1 (ps.es.flatMap (FC l)) ∧ Goes EE (Holds EE) u9Ts 1 [mkOut 3 1 ((ps.es.take i).flatMap (FC l)), dI ((i : Nat) : Int), .agg g, .agg [ps]] d) (ps.es.length) (fun i ih => ?_) 0 (by omega))
  intro hi
  refine goes_R (R := (fun d => d = mkOut 3 1 (ps.es.flatMap (FC l)))) ?_
  show wp _ _ _ u9T1 _
  refine wp_bindE (ρ' := [_, _, _, _, ps]) (sh_fld1 (off := 0) rfl i_p.one) rfl rfl ?_
  refine wp_bindE (ρ' := [_, _, _, _, _, dI ((ps.es.length : Nat) : Int)]) (sh_len i_p) rfl rfl ?_
  refine wp_bindE (ρ' := [_, _, _, _, _, _, _]) sk_lss rfl rfl ?_
  refine wp_iteC rfl (fun c1 => ?_) (fun c1 => ?_)
  · replace c1 : ((i : Nat) : Int) < ((ps.es.length : Nat) : Int) := of_decide_eq_true c1
    obtain ⟨x, e_x⟩ := get_at (d := ps) (s := ((i : Nat) : Int)) (by omega) (by omega)
    obtain ⟨_, rfl, _, _, rfl, ⟨p0, rfl⟩, _, _, rfl, ⟨p1, rfl⟩, _, _, rfl, ⟨p2, rfl⟩, rfl⟩ := elem_ofB hp e_x
    have e' : ps.es[i]? = some (.agg [dI p0, dI p1, dI p2]) := e_x
    have htk := take_flat (F := FC l) e'
    have hlen : ((ps.es.take i).flatMap (FC l)).length ≤ (ps.es.take i).length * 1 := flat_len_le fun y hy => hFC y (List.mem_of_mem_take hy)
    rw [List.length_take, Nat.min_eq_left (by omega)] at hlen
    have hFd : FC l (.agg [dI p0, dI p1, dI p2]) = (match selP l p0 p1 with | some (c, w) => [c] | none => []) := rfl
    refine wp_bindE (ρ' := [_, _, _, _, _, _, _, l]) (sh_fld1 (off := 8) hl i_l.one) rfl rfl ?_
    refine wp_bindE (ρ' := [_, _, _, _, _, _, _, _, ps]) (sh_fld1 (off := 0) rfl i_p.one) rfl rfl ?_
    refine wp_bindE (ρ' := [_, _, _, _, _, _, _, _, _, dB true]) (si_inr (by omega) e_x) rfl rfl ?_
    refine wp_bindE (ρ' := [_, _, _, _, _, _, _, _, _, _, dI p0]) (si_elemP (off := 0) i_p (by omega) e_x rfl rfl (by decide)) rfl rfl ?_
    rcases getR_cases (id := p0) h with ⟨x0, x2, x4, x1, x3, x5, x6, x7, h1, h3, h5, h6, h7, he, hr⟩ | ⟨he, hr⟩
    · have hsel : selP l p0 p1 = (if 0 ≤ p1 ∧ p1 < ((x1 :: x3.es).length : Int) then some (dI x2, ((x1 :: x3.es)[p1.toNat]?).getD .nil) else none) := by
        unfold selP; rw [he]
      have i_f := isSl_ofB (forms_val h1 h3)
      refine wp_callE (ρ' := [_, _, _, _, _, _, _, _, _, _, _, .tup [.agg [dI x0, x1, dI x2, x3, dI x4, x5, x6, x7], dB true]]) (by rw [← hr]; exact g22 hB) rfl rfl rfl rfl ?_
      refine wp_bindE (ρ' := [_, _, _, _, _, _, _, _, _, _, _, _, .agg [dI x0, x1, dI x2, x3, dI x4, x5, x6, x7]]) (te_ext rfl) rfl rfl ?_
      refine wp_bindE (ρ' := [_, _, _, _, _, _, _, _, _, _, _, _, _, dB true]) (te_ext rfl) rfl rfl ?_
      refine wp_bindE (ρ' := [_, _, _, _, _, _, _, _, _, _, _, _, _, _, .agg [dI x0, x1, dI x2, x3, dI x4, x5, x6, x7]]) (sh_chkW rfl) rfl rfl ?_
      refine wp_iteB (t := true) rfl ?_
      refine ite_t ?_
      refine wp_bindE (ρ' := [_, _, _, _, _, _, _, _, _, _, _, _, _, _, _, ps]) (sh_fld1 (off := 0) rfl i_p.one) rfl rfl ?_
      refine wp_bindE (ρ' := [_, _, _, _, _, _, _, _, _, _, _, _, _, _, _, _, dB true]) (si_inr (by omega) e_x) rfl rfl ?_
      refine wp_bindE (ρ' := [_, _, _, _, _, _, _, _, _, _, _, _, _, _, _, _, _, dI p1]) (si_elemP (off := 1) i_p (by omega) e_x rfl rfl (by decide)) rfl rfl ?_
      refine wp_callE (ρ' := [_, _, _, _, _, _, _, _, _, _, _, _, _, _, _, _, _, _, dB (decide (0 ≤ p1 ∧ p1 < ((x1 :: x3.es).length : Int)))]) (g23 h1 h3) rfl rfl rfl rfl ?_
      refine wp_iteC rfl (fun c2 => ?_) (fun c2 => ?_)
      · replace c2 : 0 ≤ p1 ∧ p1 < ((x1 :: x3.es).length : Int) := of_decide_eq_true c2
        rw [hFd, hsel, if_pos c2] at htk
        have hlt : p1.toNat < (x1 :: x3.es).length := by omega
        have hw := forms_all h1 h3 _ (List.getElem_mem hlt)
        have hwe : (x1 :: x3.es)[p1.toNat]? = some ((x1 :: x3.es)[p1.toNat]) := List.getElem?_eq_getElem hlt
        generalize (x1 :: x3.es)[p1.toNat] = w at hw hwe
        rw [hwe] at htk
        have i_w := isSl_ofB hw
        have hwl := len_leB hw
        refine wp_bindE (ρ' := [_, _, _, _, _, _, _, _, _, _, _, _, _, _, _, _, _, _, _, dI x2]) (sh_fld1 (off := 2) rfl rfl) rfl rfl ?_
        refine wp_bindE (ρ' := [_, _, _, _, _, _, _, _, _, _, _, _, _, _, _, _, _, _, _, _, dI x2]) (sh_chk1 rfl) rfl rfl ?_
        refine wp_bindE (ρ' := [_, _, _, _, _, _, _, _, _, _, _, _, _, _, _, _, _, _, _, _, _, .sl 3 1 [dI x2]]) (lit_one rfl) rfl rfl ?_
        refine wp_bindE (ρ' := [_, _, _, _, _, _, _, _, _, _, _, _, _, _, _, _, _, _, _, _, _, _, mkOut 3 1 ((ps.es.take (i + 1)).flatMap (FC l))]) (by rw [htk]; exact app_mk (B := 300000000) (e := .int .i64) (b := .sl 3 1 [dI x2]) (hb_sl (by simp) (all_c hb_int all_n)) (by decide) (by show _ + 1 ≤ _; omega)) rfl rfl ?_
        refine wp_bindE (ρ' := [_, _, _, _, _, _, _, _, _, _, _, _, _, _, _, _, _, _, _, _, _, _, _, dI ((i + 1 : Nat) : Int)]) (sh_add (cap_bd' (by omega))) rfl rfl ?_
        exact wr_jump rfl (ih (by omega) (by omega))
      · replace c2 : ¬ (0 ≤ p1 ∧ p1 < ((x1 :: x3.es).length : Int)) := of_decide_eq_false c2
        rw [hFd, hsel, if_neg c2] at htk
        refine wp_bindE (ρ' := [_, _, _, _, _, _, _, _, _, _, _, _, _, _, _, _, _, _, _, dI ((i + 1 : Nat) : Int)]) (sh_add (cap_bd' (by omega))) rfl rfl ?_
        have hih := ih (by omega) (by omega)
        rw [htk] at hih
        simp only [List.append_nil] at hih
        exact wr_jump rfl hih
    · have hsel : selP l p0 p1 = none := by unfold selP; rw [he]
      rw [hFd, hsel] at htk
      refine wp_callE (ρ' := [_, _, _, _, _, _, _, _, _, _, _, .tup [zeroE, dB false]]) (by rw [← hr]; exact g22 hB) rfl rfl rfl rfl ?_
      refine wp_bindE (ρ' := [_, _, _, _, _, _, _, _, _, _, _, _, zeroE]) (te_ext rfl) rfl rfl ?_
      refine wp_bindE (ρ' := [_, _, _, _, _, _, _, _, _, _, _, _, _, dB false]) (te_ext rfl) rfl rfl ?_
      refine wp_bindE (ρ' := [_, _, _, _, _, _, _, _, _, _, _, _, _, _, zeroE]) (sh_chkW rfl) rfl rfl ?_
      refine wp_iteB (t := false) rfl ?_
      refine ite_f ?_
      refine wp_bindE (ρ' := [_, _, _, _, _, _, _, _, _, _, _, _, _, _, _, dI ((i + 1 : Nat) : Int)]) (sh_add (cap_bd' (by omega))) rfl rfl ?_
      have hih := ih (by omega) (by omega)
      rw [htk] at hih
      simp only [List.append_nil] at hih
      exact wr_jump rfl hih
  · replace c1 : ¬ (((i : Nat) : Int) < ((ps.es.length : Nat) : Int)) := of_decide_eq_false c1
    have : i = ps.es.length := by omega
    subst this
    exact wr_ret (ds := [mkOut 3 1 ((ps.es.take ps.es.length).flatMap (FC l))]) rfl (by show mkOut 3 1 _ = _; rw [List.take_length])
theorem g11 {g : List D} {l ps : D} (hg : g.length = 9) (hl : g[8]? = some l) (h : HasB 1048576 (.sl 66 8 ShE) l) (hp : HasB 300000000 ShP ps) (hn : ps.es.length ≤ 20) :
    Holds EE 11 [.agg g, .agg [ps]] (mkOut 3 1 (ps.es.flatMap (FB l))) := by
  suffices hh : ∃ d, d = mkOut 3 1 (ps.es.flatMap (FB l)) ∧ Goes EE (Holds EE) u11Ts 0 [.agg g, .agg [ps]] d by
    obtain ⟨d, rfl, hg'⟩ := hh; exact u11 rfl hg'
  have i_p := isSl_ofB hp
  have hB := hasB_mono (B' := 300000000) (by decide) h
  have i_l := isSl_ofB hB
  have hFC : ∀ x ∈ ps.es, (FB l x).length ≤ 1048576 := by
    intro x _
    unfold FB
    split
    · split
      · rename_i c w hs
        exact len_leB (selP_hb h hs).2
      · simp
    · simp
  refine goes_R (R := (fun d => d = mkOut 3 1 (ps.es.flatMap (FB l)))) ?_
  show wp _ _ _ u11T0 _
  refine wp_bindE (ρ' := [_, _, .agg g]) (sh_chkW hg) rfl rfl ?_
  refine wp_bindE (ρ' := [_, _, _, .agg [ps]]) (sh_chkW rfl) rfl rfl ?_
  refine wr_jump rfl (loop_up (P := fun i => i ≤ ps.es.length → ∃ d, d = mkOut 3 1 (ps.es.flatMap (FB l)) ∧ Goes EE (Holds EE) u11Ts 1 [mkOut 3 1 ((ps.es.take i).flatMap (FB l)), dI ((i : Nat) : Int), .agg g, .agg [ps]] d) (ps.es.length) (fun i ih => ?_) 0 (by omega))
  intro hi
  refine goes_R (R := (fun d => d = mkOut 3 1 (ps.es.flatMap (FB l)))) ?_
  show wp _ _ _ u11T1 _
  refine wp_bindE (ρ' := [_, _, _, _, ps]) (sh_fld1 (off := 0) rfl i_p.one) rfl rfl ?_
  refine wp_bindE (ρ' := [_, _, _, _, _, dI ((ps.es.length : Nat) : Int)]) (sh_len i_p) rfl rfl ?_
  refine wp_bindE (ρ' := [_, _, _, _, _, _, _]) sk_lss rfl rfl ?_
  refine wp_iteC rfl (fun c1 => ?_) (fun c1 => ?_)
  · replace c1 : ((i : Nat) : Int) < ((ps.es.length : Nat) : Int) := of_decide_eq_true c1
    obtain ⟨x, e_x⟩ := get_at (d := ps) (s := ((i : Nat) : Int)) (by omega) (by omega)
    obtain ⟨_, rfl, _, _, rfl, ⟨p0, rfl⟩, _, _, rfl, ⟨p1, rfl⟩, _, _, rfl, ⟨p2, rfl⟩, rfl⟩ := elem_ofB hp e_x
    have e' : ps.es[i]? = some (.agg [dI p0, dI p1, dI p2]) := e_x
    have htk := take_flat (F := FB l) e'
    have hlen : ((ps.es.take i).flatMap (FB l)).length ≤ (ps.es.take i).length * 1048576 := flat_len_le fun y hy => hFC y (List.mem_of_mem_take hy)
    rw [List.length_take, Nat.min_eq_left (by omega)] at hlen
    have hFd : FB l (.agg [dI p0, dI p1, dI p2]) = (match selP l p0 p1 with | some (c, w) => w.es | none => []) := rfl
    refine wp_bindE (ρ' := [_, _, _, _, _, _, _, l]) (sh_fld1 (off := 8) hl i_l.one) rfl rfl ?_
    refine wp_bindE (ρ' := [_, _, _, _, _, _, _, _, ps]) (sh_fld1 (off := 0) rfl i_p.one) rfl rfl ?_
    refine wp_bindE (ρ' := [_, _, _, _, _, _, _, _, _, dB true]) (si_inr (by omega) e_x) rfl rfl ?_
    refine wp_bindE (ρ' := [_, _, _, _, _, _, _, _, _, _, dI p0]) (si_elemP (off := 0) i_p (by omega) e_x rfl rfl (by decide)) rfl rfl ?_
    rcases getR_cases (id := p0) h with ⟨x0, x2, x4, x1, x3, x5, x6, x7, h1, h3, h5, h6, h7, he, hr⟩ | ⟨he, hr⟩
    · have hsel : selP l p0 p1 = (if 0 ≤ p1 ∧ p1 < ((x1 :: x3.es).length : Int) then some (dI x2, ((x1 :: x3.es)[p1.toNat]?).getD .nil) else none) := by
        unfold selP; rw [he]
      have i_f := isSl_ofB (forms_val h1 h3)
      refine wp_callE (ρ' := [_, _, _, _, _, _, _, _, _, _, _, .tup [.agg [dI x0, x1, dI x2, x3, dI x4, x5, x6, x7], dB true]]) (by rw [← hr]; exact g22 hB) rfl rfl rfl rfl ?_
      refine wp_bindE (ρ' := [_, _, _, _, _, _, _, _, _, _, _, _, .agg [dI x0, x1, dI x2, x3, dI x4, x5, x6, x7]]) (te_ext rfl) rfl rfl ?_
      refine wp_bindE (ρ' := [_, _, _, _, _, _, _, _, _, _, _, _, _, dB true]) (te_ext rfl) rfl rfl ?_
      refine wp_bindE (ρ' := [_, _, _, _, _, _, _, _, _, _, _, _, _, _, .agg [dI x0, x1, dI x2, x3, dI x4, x5, x6, x7]]) (sh_chkW rfl) rfl rfl ?_
      refine wp_iteB (t := true) rfl ?_
      refine ite_t ?_
      refine wp_bindE (ρ' := [_, _, _, _, _, _, _, _, _, _, _, _, _, _, _, ps]) (sh_fld1 (off := 0) rfl i_p.one) rfl rfl ?_
      refine wp_bindE (ρ' := [_, _, _, _, _, _, _, _, _, _, _, _, _, _, _, _, dB true]) (si_inr (by omega) e_x) rfl rfl ?_
      refine wp_bindE (ρ' := [_, _, _, _, _, _, _, _, _, _, _, _, _, _, _, _, _, dI p1]) (si_elemP (off := 1) i_p (by omega) e_x rfl rfl (by decide)) rfl rfl ?_
      refine wp_callE (ρ' := [_, _, _, _, _, _, _, _, _, _, _, _, _, _, _, _, _, _, dB (decide (0 ≤ p1 ∧ p1 < ((x1 :: x3.es).length : Int)))]) (g23 h1 h3) rfl rfl rfl rfl ?_
      refine wp_iteC rfl (fun c2 => ?_) (fun c2 => ?_)
      · replace c2 : 0 ≤ p1 ∧ p1 < ((x1 :: x3.es).length : Int) := of_decide_eq_true c2
        rw [hFd, hsel, if_pos c2] at htk
        have hlt : p1.toNat < (x1 :: x3.es).length := by omega
        have hw := forms_all h1 h3 _ (List.getElem_mem hlt)
        have hwe : (x1 :: x3.es)[p1.toNat]? = some ((x1 :: x3.es)[p1.toNat]) := List.getElem?_eq_getElem hlt
        generalize (x1 :: x3.es)[p1.toNat] = w at hw hwe
        rw [hwe] at htk
        have i_w := isSl_ofB hw
        have hwl := len_leB hw
        refine wp_callE (ρ' := [_, _, _, _, _, _, _, _, _, _, _, _, _, _, _, _, _, _, _, .sl 31 1 (x1 :: x3.es)]) (g24 h1 h3) rfl rfl rfl rfl ?_
        refine wp_bindE (ρ' := [_, _, _, _, _, _, _, _, _, _, _, _, _, _, _, _, _, _, _, _, ps]) (sh_fld1 (off := 0) rfl i_p.one) rfl rfl ?_
        refine wp_bindE (ρ' := [_, _, _, _, _, _, _, _, _, _, _, _, _, _, _, _, _, _, _, _, _, dB true]) (si_inr (by omega) e_x) rfl rfl ?_
        refine wp_bindE (ρ' := [_, _, _, _, _, _, _, _, _, _, _, _, _, _, _, _, _, _, _, _, _, _, dI p1]) (si_elemP (off := 1) i_p (by omega) e_x rfl rfl (by decide)) rfl rfl ?_
        refine wp_bindE (ρ' := [_, _, _, _, _, _, _, _, _, _, _, _, _, _, _, _, _, _, _, _, _, _, _, dB true]) (si_inr (d := .sl 31 1 (x1 :: x3.es)) c2.1 hwe) rfl rfl ?_
        refine wp_bindE (ρ' := [_, _, _, _, _, _, _, _, _, _, _, _, _, _, _, _, _, _, _, _, _, _, _, _, w]) (si_elem1 i_f c2.1 hwe i_w.one) rfl rfl ?_
        refine wp_bindE (ρ' := [_, _, _, _, _, _, _, _, _, _, _, _, _, _, _, _, _, _, _, _, _, _, _, _, _, mkOut 3 1 ((ps.es.take (i + 1)).flatMap (FB l))]) (by rw [htk]; exact app_mk hw (by decide) (by show _ + w.es.length ≤ _; omega)) rfl rfl ?_
        refine wp_bindE (ρ' := [_, _, _, _, _, _, _, _, _, _, _, _, _, _, _, _, _, _, _, _, _, _, _, _, _, _, dI ((i + 1 : Nat) : Int)]) (sh_add (cap_bd' (by omega))) rfl rfl ?_
        exact wr_jump rfl (ih (by omega) (by omega))
      · replace c2 : ¬ (0 ≤ p1 ∧ p1 < ((x1 :: x3.es).length : Int)) := of_decide_eq_false c2
        rw [hFd, hsel, if_neg c2] at htk
        refine wp_bindE (ρ' := [_, _, _, _, _, _, _, _, _, _, _, _, _, _, _, _, _, _, _, dI ((i + 1 : Nat) : Int)]) (sh_add (cap_bd' (by omega))) rfl rfl ?_
        have hih := ih (by omega) (by omega)
        rw [htk] at hih
        simp only [List.append_nil] at hih
        exact wr_jump rfl hih
    · have hsel : selP l p0 p1 = none := by unfold selP; rw [he]
      rw [hFd, hsel] at htk
      refine wp_callE (ρ' := [_, _, _, _, _, _, _, _, _, _, _, .tup [zeroE, dB false]]) (by rw [← hr]; exact g22 hB) rfl rfl rfl rfl ?_
      refine wp_bindE (ρ' := [_, _, _, _, _, _, _, _, _, _, _, _, zeroE]) (te_ext rfl) rfl rfl ?_
      refine wp_bindE (ρ' := [_, _, _, _, _, _, _, _, _, _, _, _, _, dB false]) (te_ext rfl) rfl rfl ?_
      refine wp_bindE (ρ' := [_, _, _, _, _, _, _, _, _, _, _, _, _, _, zeroE]) (sh_chkW rfl) rfl rfl ?_
      refine wp_iteB (t := false) rfl ?_
      refine ite_f ?_
      refine wp_bindE (ρ' := [_, _, _, _, _, _, _, _, _, _, _, _, _, _, _, dI ((i + 1 : Nat) : Int)]) (sh_add (cap_bd' (by omega))) rfl rfl ?_
      have hih := ih (by omega) (by omega)
      rw [htk] at hih
      simp only [List.append_nil] at hih
      exact wr_jump rfl hih
  · replace c1 : ¬ (((i : Nat) : Int) < ((ps.es.length : Nat) : Int)) := of_decide_eq_false c1
    have : i = ps.es.length := by omega
    subst this
    exact wr_ret (ds := [mkOut 3 1 ((ps.es.take ps.es.length).flatMap (FB l))]) rfl (by show mkOut 3 1 _ = _; rw [List.take_length])
end Go.Proofs.YtonebjbldlokmaaGreat
