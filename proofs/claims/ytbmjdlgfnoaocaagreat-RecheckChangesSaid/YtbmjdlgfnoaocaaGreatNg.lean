/- Counting, putting, joining: the functions of states. Conditions: none. -/
import Derived.Test.YtbmjdlgfnoaocaaGreatNe
import Derived.Test.YtbmjdlgfnoaocaaGreatNf
set_option linter.unusedVariables false
set_option linter.unusedSimpArgs false
namespace Go.Proofs.YtbmjdlgfnoaocaaGreat
open Go Go.Am Go.Proofs
theorem gro_ev {n : Nat} (h : n * 53 ≤ 100000000) : TOp.eval EE (.lib G22) [dI (n : Int)] = some (if n = 0 then .nil else .sl 60 4 []) := by
  have hb : Nat.ble (Nat.mul n (Nat.succ (Nat.add 48 4))) 100000000 = true := Nat.ble_eq_true_of_le h
  have e : TOp.eval EE (.lib G22) [dI (n : Int)] = (bif Nat.ble (Nat.mul n (Nat.succ (Nat.add 48 4))) 100000000 then some (bif Nat.beq n 0 then .nil else .sl 60 4 []) else none) := rfl
  rw [e, hb]
  simp only [cond_true, bif_beq]
theorem add_nn {t : TypeId} {x y : Operand} {m n : Nat} (h : m + n < capX) : TOp.eval EE (.bin .add t x y) [dI (m : Int), dI (n : Int)] = some (dI ((m + n : Nat) : Int)) := by
  have e : TOp.eval EE (.bin .add t x y) [dI (m : Int), dI (n : Int)] = some (dI (IntKind.i64.wrap ((m : Int) + (n : Int)))) := rfl
  rw [e, show ((m : Int) + (n : Int)) = ((m + n : Nat) : Int) by omega, wrap63 h]
theorem ap60 {a b : D} (ha : IsSl 60 4 a) (hb : IsSl 60 4 b) (hl : a.es.length + b.es.length ≤ 1000) : ∃ d, TOp.eval EE (.app 60 4 48) [a, b] = some d ∧ d.es = a.es ++ b.es ∧ IsSl 60 4 d := by
  have hss : strSize a = some a.es.length := by rcases ha with rfl | ⟨es, rfl, _⟩ <;> rfl
  have hk : ∀ n : Nat, n ≤ 1000 → Nat.ble (Nat.mul (Nat.add (Nat.mul 4 n) 4000) (Nat.succ 48)) 100000000000 = true := fun n hn => app_ble (by omega) (by decide)
  have tt : ∀ (b : Bool) (x y : Option D), b = true → (bif b then x else y) = x := fun b x y hb => by rw [hb]; rfl
  rw [ev_app, hss]
  rcases hb with rfl | ⟨es, rfl, _⟩
  · have h1 := hk a.es.length (by omega)
    refine ⟨a, ?_, by rw [show (D.nil).es = [] from rfl, List.append_nil], ha⟩
    exact tt _ _ _ h1
  · have hl' : a.es.length + es.length ≤ 1000 := hl
    have h1 := hk (Nat.add a.es.length es.length) hl'
    have h2 : Nat.beq 4 4 = true := rfl
    have h3 : (match (generalizing := false) a with | .sl el' sz' _ => Nat.beq el' 60 && Nat.beq sz' 4 | .nil => true | _ => false) = true := by
      rcases ha with rfl | ⟨es', rfl, _⟩
      · rfl
      · show (Nat.beq 60 60 && Nat.beq 4 4) = true
        rw [Nat.beq_refl, Nat.beq_refl]; rfl
    refine ⟨if es.length = 0 then a else .sl 60 4 (a.es ++ es), (tt _ _ _ (by rw [h1, h2]; exact h3)).trans ?_, ?_, ?_⟩
    · rw [bif_beq]; split <;> rfl
    · split
      · rename_i h0
        rw [show (D.sl 60 4 es).es = es from rfl, List.length_eq_zero_iff.1 h0, List.append_nil]
      · rfl
    · split
      · exact ha
      · exact .inr ⟨_, rfl, by rw [List.length_append]; unfold capX; omega⟩
theorem apP {l : List Pr} {p : Pr} (h : l.length + 1 ≤ 1000000) : TOp.eval EE (.app 50 2 16) [mkOut 50 2 (l.map toP), .sl 50 2 [toP p]] = some (mkOut 50 2 ((l ++ [p]).map toP)) := by
  rw [List.map_append]
  exact app_mk (B := 300000000) (e := .st [.int .i64, .int .i64]) (hb_sl (show 1 ≤ 300000000 by decide) fun x hx => by rw [List.mem_singleton.1 hx]; exact ⟨_, rfl, _, _, rfl, ⟨_, rfl⟩, _, _, rfl, ⟨_, rfl⟩, rfl⟩) (by decide) (by rw [List.length_map]; show _ + 1 ≤ _; omega)
theorem mk_sl {l : List D} (h : l.length ≤ 1000000) : IsSl 50 2 (mkOut 50 2 l) := by
  unfold mkOut; split
  · exact .inl rfl
  · exact .inr ⟨_, rfl, by unfold capX; omega⟩
theorem mk_sh {l : List Pr} (h : l.length ≤ 1000000) : HasSh (.sl 50 2 (.st [.int .i64, .int .i64])) (mkOut 50 2 (l.map toP)) := by
  unfold mkOut; split
  · exact .inl rfl
  · exact .inr ⟨_, rfl, by rw [List.length_map]; unfold capX; omega, fun x hx => by
      obtain ⟨p, _, rfl⟩ := List.mem_map.1 hx
      exact ⟨_, rfl, _, _, rfl, ⟨_, rfl⟩, _, _, rfl, ⟨_, rfl⟩, rfl⟩⟩
attribute [local irreducible] Go.Am.wp Go.Am.TOp.eval
theorem nd_t {p : Prop} [Decidable p] (h : (!decide p) = true) : ¬ p := fun e => by rw [decide_eq_true e] at h; cases h
theorem nd_f {p : Prop} [Decidable p] (h : (!decide p) = false) : p := Decidable.byContradiction fun e => by rw [decide_eq_false e] at h; cases h
theorem h39 {p q : Pr} : Holds EE 39 [toP p, toP q] (dB (decide (ltP p q))) := by
  obtain ⟨p1, p2⟩ := p
  obtain ⟨q1, q2⟩ := q
  show Holds EE 39 [.agg [dI p1, dI p2], .agg [dI q1, dI q2]] _
  refine u39 rfl (Goes.step' ?_)
  show wp _ _ _ u39T0 _
  refine wp_bindE (ρ' := [_, _, .agg [dI (p1), dI (p2)]]) (sh_chkW rfl) rfl rfl ?_
  refine wp_bindE (ρ' := [_, _, _, .agg [dI (q1), dI (q2)]]) (sh_chkW rfl) rfl rfl ?_
  refine wp_bindE (ρ' := [_, _, _, _, dI (p1)]) (sh_fld1 (off := 0) rfl rfl) rfl rfl ?_
  refine wp_bindE (ρ' := [_, _, _, _, _, dI (q1)]) (sh_fld1 (off := 0) rfl rfl) rfl rfl ?_
  refine wp_bindE (ρ' := [_, _, _, _, _, _, dB (decide (p1 < q1))]) sk_lss rfl rfl ?_
  refine wp_iteC rfl (fun c => ?_) (fun c => ?_)
  · exact wp_retTo rfl (congrArg (fun t => dB t) (decide_eq_true (.inl (of_decide_eq_true c) : ltP (p1, p2) (q1, q2))).symm)
  have c1 := of_decide_eq_false c
  refine wp_bindE (ρ' := [_, _, _, _, _, _, _, dI (p1)]) (sh_fld1 (off := 0) rfl rfl) rfl rfl ?_
  refine wp_bindE (ρ' := [_, _, _, _, _, _, _, _, dI (q1)]) (sh_fld1 (off := 0) rfl rfl) rfl rfl ?_
  refine wp_bindE (ρ' := [_, _, _, _, _, _, _, _, _, dB (decide (p1 = q1))]) sk_eql rfl rfl ?_
  refine wp_iteC rfl (fun d => ?_) (fun d => ?_)
  · have d1 := of_decide_eq_true d
    refine wp_bindE (ρ' := [_, _, _, _, _, _, _, _, _, _, dI (p2)]) (sh_fld1 (off := 1) rfl rfl) rfl rfl ?_
    refine wp_bindE (ρ' := [_, _, _, _, _, _, _, _, _, _, _, dI (q2)]) (sh_fld1 (off := 1) rfl rfl) rfl rfl ?_
    refine wp_bindE (ρ' := [_, _, _, _, _, _, _, _, _, _, _, _, dB (decide (p2 < q2))]) sk_lss rfl rfl ?_
    exact wp_retTo rfl (congrArg (fun t => dB t) (decide_eq_decide.2 ⟨fun h => .inr ⟨d1, h⟩, fun h => h.elim (fun h => absurd h c1) (fun h => h.2)⟩))
  · have d1 := of_decide_eq_false d
    exact wp_retTo rfl (congrArg (fun t => dB t) (decide_eq_false (fun h => h.elim c1 (fun h => d1 h.1))).symm)
def putR (p : Pr) : Bool → List Pr → List Pr
  | d, [] => if d then [] else [p]
  | d, x :: r => (if d = false ∧ ¬ ltP x p then [p] else []) ++ ((if x = p then [] else [x]) ++ putR p (d || !decide (ltP x p)) r)
theorem h27 {l : D} {ls : List Pr} {p : Pr} (hl : l.es = ls.map toP) (hs : IsSl 50 2 l) (hn : ls.length ≤ 1000) : Holds EE 27 [l, toP p] (mkOut 50 2 ((putR p false ls).map toP)) := by
  have i_l := hs
  have hlen : l.es.length = ls.length := by rw [hl, List.length_map]
  obtain ⟨p1, p2⟩ := p
  show Holds EE 27 [l, .agg [dI p1, dI p2]] _
  refine u27 rfl (Goes.step' ?_)
  show wp _ _ _ u27T0 _
  refine wp_bindE (ρ' := [_, _, .agg [dI (p1), dI (p2)]]) (sh_chkW rfl) rfl rfl ?_
  refine wp_jumpTo rfl (loop_up (P := fun i : Nat => i ≤ ls.length → ∀ (os : List Pr) (d : Bool), os.length ≤ 2 * i → Goes EE (Holds EE) u27Ts 1 [l, mkOut 50 2 (os.map toP), dB d, dI ((i : Nat) : Int), .agg [dI p1, dI p2]] (mkOut 50 2 ((os ++ putR (p1, p2) d (ls.drop i)).map toP))) ls.length (fun i ih => ?_) 0 (Nat.zero_le _) [] false (Nat.zero_le _))
  intro hi os d hos
  refine Goes.step' ?_
  show wp _ _ _ u27T1 _
  refine wp_bindE (ρ' := [_, _, _, _, _, dI ((l.es.length : Nat) : Int)]) (sh_len i_l) rfl rfl ?_
  refine wp_bindE (ρ' := [_, _, _, _, _, _, dB (decide (((i : Nat) : Int) < ((l.es.length : Nat) : Int)))]) sk_lss rfl rfl ?_
  refine wp_iteC rfl (fun c => ?_) (fun c => ?_)
  · have hil' := of_lt c
    have hil : i < ls.length := by omega
    obtain ⟨⟨x1, x2⟩, e_x0⟩ : ∃ x, ls[i]? = some x := ⟨_, List.getElem?_eq_getElem hil⟩
    have e_x : l.es[i]? = some (.agg [dI x1, dI x2]) := by rw [hl, List.getElem?_map, e_x0]; rfl
    have hdr : ls.drop i = (x1, x2) :: ls.drop (i + 1) := by rw [List.drop_eq_getElem_cons hil]; congr 1; exact (List.getElem?_eq_some_iff.1 e_x0).2
    rw [hdr]
    refine wp_bindE (ρ' := [_, _, _, _, _, _, _, dB (!(d))]) sh_not rfl rfl ?_
    refine wp_iteC rfl (fun f => ?_) (fun f => ?_)
    · have hd : d = false := by simpa using f
      subst hd
      refine wp_bindE (ρ' := [_, _, _, _, _, _, _, _, dB (true)]) (si_inr (s := ((i : Nat) : Int)) (by omega) e_x) rfl rfl ?_
      refine wp_bindE (ρ' := [_, _, _, _, _, _, _, _, _, .agg [dI (x1), dI (x2)]]) (si_elemW (s := ((i : Nat) : Int)) i_l (by omega) e_x rfl) rfl rfl ?_
      refine wp_callE (ρ' := [_, _, _, _, _, _, _, _, _, _, dB (decide (ltP (x1, x2) (p1, p2)))]) (h39 (p := (x1, x2)) (q := (p1, p2))) rfl rfl rfl rfl ?_
      refine wp_bindE (ρ' := [_, _, _, _, _, _, _, _, _, _, _, dB (!(decide (ltP (x1, x2) (p1, p2))))]) sh_not rfl rfl ?_
      refine wp_iteC rfl (fun g => ?_) (fun g => ?_)
      · have hg : ¬ ltP (x1, x2) (p1, p2) := nd_t g
        refine wp_bindE (ρ' := [_, _, _, _, _, _, _, _, _, _, _, _, .agg [dI (p1), dI (p2)]]) (sh_chkW rfl) rfl rfl ?_
        refine wp_bindE (ρ' := [_, _, _, _, _, _, _, _, _, _, _, _, _, .sl 50 2 [toP (p1, p2)]]) lit50 rfl rfl ?_
        refine wp_bindE (ρ' := [_, _, _, _, _, _, _, _, _, _, _, _, _, _, mkOut 50 2 ((os ++ [(p1, p2)]).map toP)]) (apP (by omega)) rfl rfl ?_
        refine wp_bindE (ρ' := [_, _, _, _, _, _, _, _, _, _, _, _, _, _, _, dB (true)]) (si_inr (s := ((i : Nat) : Int)) (by omega) e_x) rfl rfl ?_
        refine wp_bindE (ρ' := [_, _, _, _, _, _, _, _, _, _, _, _, _, _, _, _, .agg [dI (x1), dI (x2)]]) (si_elemW (s := ((i : Nat) : Int)) i_l (by omega) e_x rfl) rfl rfl ?_
        refine wp_bindE (ρ' := [_, _, _, _, _, _, _, _, _, _, _, _, _, _, _, _, _, dB (!(decide (((x1, x2) : Pr) = (p1, p2))))]) neS rfl rfl ?_
        refine wp_iteC rfl (fun k => ?_) (fun k => ?_)
        · have hk : ¬ ((x1, x2) : Pr) = (p1, p2) := nd_t k
          have hr : os ++ putR (p1, p2) false ((x1, x2) :: ls.drop (i + 1)) = ((os ++ [(p1, p2)]) ++ [(x1, x2)]) ++ putR (p1, p2) true (ls.drop (i + 1)) := by
            rw [putR, if_pos ⟨rfl, hg⟩, if_neg hk, decide_eq_false hg]; simp
          rw [hr]
          refine wp_bindE (ρ' := [_, _, _, _, _, _, _, _, _, _, _, _, _, _, _, _, _, _, dB (true)]) (si_inr (s := ((i : Nat) : Int)) (by omega) e_x) rfl rfl ?_
          refine wp_bindE (ρ' := [_, _, _, _, _, _, _, _, _, _, _, _, _, _, _, _, _, _, _, .agg [dI (x1), dI (x2)]]) (si_elemW (s := ((i : Nat) : Int)) i_l (by omega) e_x rfl) rfl rfl ?_
          refine wp_bindE (ρ' := [_, _, _, _, _, _, _, _, _, _, _, _, _, _, _, _, _, _, _, _, .agg [dI (x1), dI (x2)]]) (sh_chkW rfl) rfl rfl ?_
          refine wp_bindE (ρ' := [_, _, _, _, _, _, _, _, _, _, _, _, _, _, _, _, _, _, _, _, _, .sl 50 2 [toP (x1, x2)]]) lit50 rfl rfl ?_
          refine wp_bindE (ρ' := [_, _, _, _, _, _, _, _, _, _, _, _, _, _, _, _, _, _, _, _, _, _, mkOut 50 2 (((os ++ [(p1, p2)]) ++ [(x1, x2)]).map toP)]) (apP (by rw [List.length_append]; show _ + 1 + 1 ≤ _; omega)) rfl rfl ?_
          refine wp_bindE (ρ' := [_, _, _, _, _, _, _, _, _, _, _, _, _, _, _, _, _, _, _, _, _, _, _, dI ((i + 1 : Nat) : Int)]) (sh_add (cap_bd' (by omega))) rfl rfl ?_
          exact wp_jumpTo rfl (ih hil (by omega) _ true (by simp only [List.length_append, List.length_cons, List.length_nil]; omega))
        · have hk : ((x1, x2) : Pr) = (p1, p2) := nd_f k
          have hr : os ++ putR (p1, p2) false ((x1, x2) :: ls.drop (i + 1)) = (os ++ [(p1, p2)]) ++ putR (p1, p2) true (ls.drop (i + 1)) := by
            rw [putR, if_pos ⟨rfl, hg⟩, if_pos hk, decide_eq_false hg]; simp
          rw [hr]
          refine wp_bindE (ρ' := [_, _, _, _, _, _, _, _, _, _, _, _, _, _, _, _, _, _, dI ((i + 1 : Nat) : Int)]) (sh_add (cap_bd' (by omega))) rfl rfl ?_
          exact wp_jumpTo rfl (ih hil (by omega) _ true (by simp only [List.length_append, List.length_cons, List.length_nil]; omega))
      · have hg : ltP (x1, x2) (p1, p2) := nd_f g
        refine wp_bindE (ρ' := [_, _, _, _, _, _, _, _, _, _, _, _, dB (true)]) (si_inr (s := ((i : Nat) : Int)) (by omega) e_x) rfl rfl ?_
        refine wp_bindE (ρ' := [_, _, _, _, _, _, _, _, _, _, _, _, _, .agg [dI (x1), dI (x2)]]) (si_elemW (s := ((i : Nat) : Int)) i_l (by omega) e_x rfl) rfl rfl ?_
        refine wp_bindE (ρ' := [_, _, _, _, _, _, _, _, _, _, _, _, _, _, dB (!(decide (((x1, x2) : Pr) = (p1, p2))))]) neS rfl rfl ?_
        refine wp_iteC rfl (fun k => ?_) (fun k => ?_)
        · have hk : ¬ ((x1, x2) : Pr) = (p1, p2) := nd_t k
          have hr : os ++ putR (p1, p2) false ((x1, x2) :: ls.drop (i + 1)) = (os ++ [(x1, x2)]) ++ putR (p1, p2) false (ls.drop (i + 1)) := by
            rw [putR, if_neg (fun h => h.2 hg), if_neg hk, decide_eq_true hg]; simp
          rw [hr]
          refine wp_bindE (ρ' := [_, _, _, _, _, _, _, _, _, _, _, _, _, _, _, dB (true)]) (si_inr (s := ((i : Nat) : Int)) (by omega) e_x) rfl rfl ?_
          refine wp_bindE (ρ' := [_, _, _, _, _, _, _, _, _, _, _, _, _, _, _, _, .agg [dI (x1), dI (x2)]]) (si_elemW (s := ((i : Nat) : Int)) i_l (by omega) e_x rfl) rfl rfl ?_
          refine wp_bindE (ρ' := [_, _, _, _, _, _, _, _, _, _, _, _, _, _, _, _, _, .agg [dI (x1), dI (x2)]]) (sh_chkW rfl) rfl rfl ?_
          refine wp_bindE (ρ' := [_, _, _, _, _, _, _, _, _, _, _, _, _, _, _, _, _, _, .sl 50 2 [toP (x1, x2)]]) lit50 rfl rfl ?_
          refine wp_bindE (ρ' := [_, _, _, _, _, _, _, _, _, _, _, _, _, _, _, _, _, _, _, mkOut 50 2 ((os ++ [(x1, x2)]).map toP)]) (apP (by omega)) rfl rfl ?_
          refine wp_bindE (ρ' := [_, _, _, _, _, _, _, _, _, _, _, _, _, _, _, _, _, _, _, _, dI ((i + 1 : Nat) : Int)]) (sh_add (cap_bd' (by omega))) rfl rfl ?_
          exact wp_jumpTo rfl (ih hil (by omega) _ false (by simp only [List.length_append, List.length_cons, List.length_nil]; omega))
        · have hk : ((x1, x2) : Pr) = (p1, p2) := nd_f k
          exact absurd (hk ▸ hg) (ltP_irr _)
    · have hd : d = true := by simpa using f
      subst hd
      refine wp_bindE (ρ' := [_, _, _, _, _, _, _, _, dB (true)]) (si_inr (s := ((i : Nat) : Int)) (by omega) e_x) rfl rfl ?_
      refine wp_bindE (ρ' := [_, _, _, _, _, _, _, _, _, .agg [dI (x1), dI (x2)]]) (si_elemW (s := ((i : Nat) : Int)) i_l (by omega) e_x rfl) rfl rfl ?_
      refine wp_bindE (ρ' := [_, _, _, _, _, _, _, _, _, _, dB (!(decide (((x1, x2) : Pr) = (p1, p2))))]) neS rfl rfl ?_
      refine wp_iteC rfl (fun k => ?_) (fun k => ?_)
      · have hk : ¬ ((x1, x2) : Pr) = (p1, p2) := nd_t k
        have hr : os ++ putR (p1, p2) true ((x1, x2) :: ls.drop (i + 1)) = (os ++ [(x1, x2)]) ++ putR (p1, p2) true (ls.drop (i + 1)) := by
          rw [putR, if_neg (fun h => by cases h.1), if_neg hk]; simp
        rw [hr]
        refine wp_bindE (ρ' := [_, _, _, _, _, _, _, _, _, _, _, dB (true)]) (si_inr (s := ((i : Nat) : Int)) (by omega) e_x) rfl rfl ?_
        refine wp_bindE (ρ' := [_, _, _, _, _, _, _, _, _, _, _, _, .agg [dI (x1), dI (x2)]]) (si_elemW (s := ((i : Nat) : Int)) i_l (by omega) e_x rfl) rfl rfl ?_
        refine wp_bindE (ρ' := [_, _, _, _, _, _, _, _, _, _, _, _, _, .agg [dI (x1), dI (x2)]]) (sh_chkW rfl) rfl rfl ?_
        refine wp_bindE (ρ' := [_, _, _, _, _, _, _, _, _, _, _, _, _, _, .sl 50 2 [toP (x1, x2)]]) lit50 rfl rfl ?_
        refine wp_bindE (ρ' := [_, _, _, _, _, _, _, _, _, _, _, _, _, _, _, mkOut 50 2 ((os ++ [(x1, x2)]).map toP)]) (apP (by omega)) rfl rfl ?_
        refine wp_bindE (ρ' := [_, _, _, _, _, _, _, _, _, _, _, _, _, _, _, _, dI ((i + 1 : Nat) : Int)]) (sh_add (cap_bd' (by omega))) rfl rfl ?_
        exact wp_jumpTo rfl (ih hil (by omega) _ true (by simp only [List.length_append, List.length_cons, List.length_nil]; omega))
      · have hk : ((x1, x2) : Pr) = (p1, p2) := nd_f k
        have hr : os ++ putR (p1, p2) true ((x1, x2) :: ls.drop (i + 1)) = os ++ putR (p1, p2) true (ls.drop (i + 1)) := by
          rw [putR, if_neg (fun h => by cases h.1), if_pos hk]; simp
        rw [hr]
        refine wp_bindE (ρ' := [_, _, _, _, _, _, _, _, _, _, _, dI ((i + 1 : Nat) : Int)]) (sh_add (cap_bd' (by omega))) rfl rfl ?_
        exact wp_jumpTo rfl (ih hil (by omega) _ true (by omega))
  · have hle := of_nlt c
    have hdr : ls.drop i = [] := List.drop_of_length_le (by omega)
    rw [hdr]
    refine wp_bindE (ρ' := [_, _, _, _, _, _, _, dB (!(d))]) sh_not rfl rfl ?_
    refine wp_iteC rfl (fun f => ?_) (fun f => ?_)
    · have hd : d = false := by simpa using f
      subst hd
      refine wp_bindE (ρ' := [_, _, _, _, _, _, _, _, .agg [dI (p1), dI (p2)]]) (sh_chkW rfl) rfl rfl ?_
      refine wp_bindE (ρ' := [_, _, _, _, _, _, _, _, _, .sl 50 2 [toP (p1, p2)]]) lit50 rfl rfl ?_
      refine wp_bindE (ρ' := [_, _, _, _, _, _, _, _, _, _, mkOut 50 2 ((os ++ [(p1, p2)]).map toP)]) (apP (by omega)) rfl rfl ?_
      exact wp_retTo rfl rfl
    · have hd : d = true := by simpa using f
      subst hd
      have hr : os ++ putR (p1, p2) true [] = os := by simp [putR]
      rw [hr]
      exact wp_retTo rfl rfl
def kindD : D → Int
  | .agg [_, _, .leaf (.int .i64 k), _] => k
  | _ => 0
def cn (l : D) (k : Int) (i : Nat) : Nat := (l.es.take i).countP fun x => decide (kindD x = k)
theorem cn_le (l : D) (k : Int) (i : Nat) : cn l k i ≤ i := Nat.le_trans (List.countP_le_length) (by rw [List.length_take]; omega)
theorem cn_s {l x : D} {k : Int} {i : Nat} (h : l.es[i]? = some x) : cn l k (i + 1) = cn l k i + (if kindD x = k then 1 else 0) := by
  unfold cn
  rw [List.take_add_one, h, List.countP_append]
  simp [List.countP_cons]
theorem h8 {l : D} {k : Int} (h : HasSh ShL l) (hn : l.es.length ≤ 30) : Holds EE 8 [l, dI k] (dI ((cn l k l.es.length : Nat) : Int)) := by
  have i_l := isSl_of h
  refine u8 rfl (Goes.step' ?_)
  show wp _ _ _ u8T0 _
  refine wp_bindE (ρ' := [_, _, dI ((l.es.length : Nat) : Int)]) (sh_len i_l) rfl rfl ?_
  refine wp_jumpTo rfl (loop_up (P := fun i : Nat => i ≤ l.es.length → Goes EE (Holds EE) u8Ts 1 [dI k, dI ((cn l k i : Nat) : Int), l, dI ((l.es.length : Nat) : Int), dI ((i : Nat) : Int)] (dI ((cn l k l.es.length : Nat) : Int))) l.es.length (fun i ih => ?_) 0 (Nat.zero_le _))
  intro hi
  have hc := cn_le l k i
  refine Goes.step' ?_
  show wp _ _ _ u8T1 _
  refine wp_bindE (ρ' := [_, _, _, _, _, dB (decide (((i : Nat) : Int) < ((l.es.length : Nat) : Int)))]) sk_lss rfl rfl ?_
  refine wp_iteC rfl (fun c => ?_) (fun c => ?_)
  · have hil := of_lt c
    obtain ⟨x, e_x⟩ := lt_at hil
    obtain ⟨_, rfl, _, _, rfl, ⟨r, rfl⟩, _, _, rfl, ⟨n, rfl⟩, _, _, rfl, ⟨q, rfl⟩, ps, _, rfl, hps, rfl⟩ := elem_of h e_x
    have i_ps := isSl_of hps
    have hcs : cn l k (i + 1) = cn l k i + (if q = k then 1 else 0) := cn_s e_x
    have ih := ih hil hil
    rw [hcs] at ih
    refine wp_bindE (ρ' := [_, _, _, _, _, _, dB (true)]) (si_inr (s := ((i : Nat) : Int)) (by omega) e_x) rfl rfl ?_
    refine wp_bindE (ρ' := [_, _, _, _, _, _, _, .agg [dI (r), dI (n), dI (q), ps]]) (si_elemW (s := ((i : Nat) : Int)) i_l (by omega) e_x rfl) rfl rfl ?_
    refine wp_bindE (ρ' := [_, _, _, _, _, _, _, _, .agg [dI (r), dI (n), dI (q), ps]]) (sh_chkW rfl) rfl rfl ?_
    refine wp_bindE (ρ' := [_, _, _, _, _, _, _, _, _, dI (q)]) (sh_fld1 (off := 2) rfl rfl) rfl rfl ?_
    refine wp_bindE (ρ' := [_, _, _, _, _, _, _, _, _, _, dB (decide (q = k))]) sk_eql rfl rfl ?_
    refine wp_iteC rfl (fun d => ?_) (fun d => ?_)
    · rw [if_pos (of_decide_eq_true d)] at ih
      refine wp_bindE (ρ' := [_, _, _, _, _, _, _, _, _, _, _, dI ((cn l k i + 1 : Nat) : Int)]) (sh_add (cap_bd' (by omega))) rfl rfl ?_
      refine wp_bindE (ρ' := [_, _, _, _, _, _, _, _, _, _, _, _, dI ((i + 1 : Nat) : Int)]) (sh_add (cap_bd' (by omega))) rfl rfl ?_
      exact wp_jumpTo rfl ih
    · rw [if_neg (of_decide_eq_false d)] at ih
      refine wp_bindE (ρ' := [_, _, _, _, _, _, _, _, _, _, _, dI ((i + 1 : Nat) : Int)]) (sh_add (cap_bd' (by omega))) rfl rfl ?_
      exact wp_jumpTo rfl ih
  · have := of_nlt c
    have e : i = l.es.length := by omega
    subst e
    exact wp_retTo rfl rfl
theorem h9 {l : D} {k : Int} (h : HasSh ShL l) (hn : l.es.length ≤ 30) : Holds EE 9 [l, dI k] (dI ((cn l k l.es.length : Nat) : Int)) := by
  have i_l := isSl_of h
  refine u9 rfl (Goes.step' ?_)
  show wp _ _ _ u9T0 _
  refine wp_jumpTo rfl (loop_up (P := fun i : Nat => i ≤ l.es.length → Goes EE (Holds EE) u9Ts 1 [l, dI k, dI ((cn l k i : Nat) : Int), dI ((i : Nat) : Int)] (dI ((cn l k l.es.length : Nat) : Int))) l.es.length (fun i ih => ?_) 0 (Nat.zero_le _))
  intro hi
  have hc := cn_le l k i
  refine Goes.step' ?_
  show wp _ _ _ u9T1 _
  refine wp_bindE (ρ' := [_, _, _, _, dI ((l.es.length : Nat) : Int)]) (sh_len i_l) rfl rfl ?_
  refine wp_bindE (ρ' := [_, _, _, _, _, dB (decide (((i : Nat) : Int) < ((l.es.length : Nat) : Int)))]) sk_lss rfl rfl ?_
  refine wp_iteC rfl (fun c => ?_) (fun c => ?_)
  · have hil := of_lt c
    obtain ⟨x, e_x⟩ := lt_at hil
    obtain ⟨_, rfl, _, _, rfl, ⟨r, rfl⟩, _, _, rfl, ⟨n, rfl⟩, _, _, rfl, ⟨q, rfl⟩, ps, _, rfl, hps, rfl⟩ := elem_of h e_x
    have i_ps := isSl_of hps
    have hcs : cn l k (i + 1) = cn l k i + (if q = k then 1 else 0) := cn_s e_x
    have ih := ih hil hil
    rw [hcs] at ih
    refine wp_bindE (ρ' := [_, _, _, _, _, _, dB (true)]) (si_inr (s := ((i : Nat) : Int)) (by omega) e_x) rfl rfl ?_
    refine wp_bindE (ρ' := [_, _, _, _, _, _, _, dI (q)]) (si_elemP (s := ((i : Nat) : Int)) (off := 2) i_l (by omega) e_x rfl rfl (by decide)) rfl rfl ?_
    refine wp_bindE (ρ' := [_, _, _, _, _, _, _, _, dB (decide (q = k))]) sk_eql rfl rfl ?_
    refine wp_iteC rfl (fun d => ?_) (fun d => ?_)
    · rw [if_pos (of_decide_eq_true d)] at ih
      refine wp_bindE (ρ' := [_, _, _, _, _, _, _, _, _, dI ((cn l k i + 1 : Nat) : Int)]) (sh_add (cap_bd' (by omega))) rfl rfl ?_
      refine wp_bindE (ρ' := [_, _, _, _, _, _, _, _, _, _, dI ((i + 1 : Nat) : Int)]) (sh_add (cap_bd' (by omega))) rfl rfl ?_
      exact wp_jumpTo rfl ih
    · rw [if_neg (of_decide_eq_false d)] at ih
      refine wp_bindE (ρ' := [_, _, _, _, _, _, _, _, _, dI ((i + 1 : Nat) : Int)]) (sh_add (cap_bd' (by omega))) rfl rfl ?_
      exact wp_jumpTo rfl ih
  · have := of_nlt c
    have e : i = l.es.length := by omega
    subst e
    exact wp_retTo rfl rfl
end Go.Proofs.YtbmjdlgfnoaocaaGreat
