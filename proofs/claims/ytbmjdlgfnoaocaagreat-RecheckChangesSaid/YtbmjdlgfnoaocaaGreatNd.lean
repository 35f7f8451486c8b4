/- Functions of references and states, by the trees of ch. 41's seat. Conditions: none. -/
import Derived.Test.YtbmjdlgfnoaocaaGreatNc
import Derived.Test.YtbmjdlgfnoaocaaGreatUv
import Derived.Test.YtbmjdlgfnoaocaaGreatUn
set_option linter.unusedVariables false
set_option linter.unusedSimpArgs false
namespace Go.Proofs.YtbmjdlgfnoaocaaGreat
open Go Go.Am Go.Proofs
theorem lit2 {x y : Int} : TOp.eval EE (.lit 3 1) [dI x, dI y] = some (.sl 3 1 [dI x, dI y]) := rfl
theorem ldp2 {x y : D} : TOp.eval EE (.loadp true 2) [.ptr [x, y] 0] = some (.agg [x, y]) := rfl
theorem bxw {cs : List D} : TOp.eval EE .boxw [.agg cs] = some (.ptr cs 0) := rfl
theorem lit50 {p : Pr} : TOp.eval EE (.lit 50 2) [toP p] = some (.sl 50 2 [toP p]) := rfl
theorem eqS {x y : Operand} {a b c d : Int} : TOp.eval EE (.bin .eql 50 x y) [.agg [dI a, dI b], .agg [dI c, dI d]] = some (dB (decide (((a, b) : Pr) = (c, d)))) := by
  rw [sh_cmpS .eql (.inr rfl) ty50 st50 (by decide : 4 ≤ 10000) gu50 rfl (x := x) (y := y) (shs_cons sh_int (shs_cons sh_int shs_nil)) (shs_cons sh_int (shs_cons sh_int shs_nil))]
  exact congrArg (fun t => some (dB t)) (dq (p := (a, b)) (q := (c, d)))
theorem neS {x y : Operand} {a b c d : Int} : TOp.eval EE (.bin .neq 50 x y) [.agg [dI a, dI b], .agg [dI c, dI d]] = some (dB (!(decide (((a, b) : Pr) = (c, d))))) := by
  rw [sh_cmpS .neq (.inl rfl) ty50 st50 (by decide : 4 ≤ 10000) gu50 rfl (x := x) (y := y) (shs_cons sh_int (shs_cons sh_int shs_nil)) (shs_cons sh_int (shs_cons sh_int shs_nil))]
  exact congrArg (fun t => some (dB (!t))) (dq (p := (a, b)) (q := (c, d)))
theorem eqB {x y : Operand} (a b : Bool) : TOp.eval EE (.bin .eql 4 x y) [dB a, dB b] = some (dB (a == b)) := by cases a <;> cases b <;> kernel_rfl
attribute [local irreducible] Go.Am.wp Go.Am.TOp.eval
theorem lt_at {l : D} {i : Nat} (h : i < l.es.length) : ∃ x, l.es[i]? = some x := ⟨_, List.getElem?_eq_getElem h⟩
theorem of_lt {a b : Nat} (h : decide (((a : Nat) : Int) < ((b : Nat) : Int)) = true) : a < b := by have := of_decide_eq_true h; omega
theorem of_nlt {a b : Nat} (h : decide (((a : Nat) : Int) < ((b : Nat) : Int)) = false) : b ≤ a := by have := of_decide_eq_false h; omega
def cmpI (a b : Int) : Int := if a < b then -1 else if b < a then 1 else 0
def orI (a b : Int) : Int := if a ≠ 0 then a else b
def cfP (p q : Pr) : Int := orI (cmpI p.1 q.1) (cmpI p.2 q.2)
theorem h37 {a : Int} : Holds EE 37 [dI a] (dB false) := by
  refine u37 rfl (Goes.step' ?_)
  show wp _ _ _ u37T0 _
  refine wp_bindE (ρ' := [_, dB (decide (¬ a = a))]) sk_neq rfl rfl ?_
  exact wp_retTo rfl (congrArg (fun t => dB t) (decide_eq_false (fun h => h rfl)))
theorem h23 {a b : Int} : Holds EE 23 [dI a, dI b] (dI (cmpI a b)) := by
  refine u23 rfl (Goes.step' ?_)
  show wp _ _ _ u23T0 _
  refine wp_callE (ρ' := [_, _, dB (false)]) h37 rfl rfl rfl rfl ?_
  refine wp_callE (ρ' := [_, _, _, dB (false)]) h37 rfl rfl rfl rfl ?_
  refine wp_iteB (t := false) rfl ?_
  refine ite_f ?_
  refine wp_iteB (t := false) rfl ?_
  refine ite_f ?_
  refine wp_bindE (ρ' := [_, _, _, _, dB (decide (a < b))]) sk_lss rfl rfl ?_
  refine wp_iteC rfl (fun c => ?_) (fun c => ?_)
  · exact wp_retTo rfl (congrArg (fun n => dI n) (by unfold cmpI; rw [if_pos (of_decide_eq_true c)]))
  have c1 := of_decide_eq_false c
  refine wp_bindE (ρ' := [_, _, _, _, _, dB (decide (a > b))]) sk_gtr rfl rfl ?_
  refine wp_iteC rfl (fun d => ?_) (fun d => ?_)
  · exact wp_retTo rfl (congrArg (fun n => dI n) (by unfold cmpI; rw [if_neg c1, if_pos (of_decide_eq_true d)]))
  · exact wp_retTo rfl (congrArg (fun n => dI n) (by unfold cmpI; rw [if_neg c1, if_neg (of_decide_eq_false d)]))
theorem h22 {a b : Int} : Holds EE 22 [.sl 3 1 [dI a, dI b]] (dI (orI a b)) := by
  have hs : IsSl 3 1 (.sl 3 1 [dI a, dI b]) := .inr ⟨_, rfl, by show 2 < capX; unfold capX; omega⟩
  obtain ⟨l, hl⟩ : ∃ l, l = D.sl 3 1 [dI a, dI b] := ⟨_, rfl⟩
  rw [← hl] at hs ⊢
  have i_l := hs
  have hlen : l.es.length = 2 := by rw [hl]; rfl
  have e0 : l.es[0]? = some (dI a) := by rw [hl]; rfl
  have e1 : l.es[0 + 1]? = some (dI b) := by rw [hl]; rfl
  refine u22 rfl (Goes.step' ?_)
  show wp _ _ _ u22T0 _
  refine wp_bindE (ρ' := [_, dI ((l.es.length : Nat) : Int)]) (sh_len i_l) rfl rfl ?_
  refine wp_jumpTo rfl (Goes.step' ?_)
  show wp _ _ _ u22T1 _
  refine wp_bindE (ρ' := [_, _, _, dB (decide (((0 : Nat) : Int) < ((l.es.length : Nat) : Int)))]) sk_lss rfl rfl ?_
  refine wp_iteC rfl (fun c => ?_) (fun c => ?_)
  · skip
    refine wp_bindE (ρ' := [_, _, _, _, dB (true)]) (si_inr (s := ((0 : Nat) : Int)) (by omega) e0) rfl rfl ?_
    refine wp_bindE (ρ' := [_, _, _, _, _, dI (a)]) (si_elem1 (s := ((0 : Nat) : Int)) i_l (by omega) e0 rfl) rfl rfl ?_
    refine wp_bindE (ρ' := [_, _, _, _, _, _, dB (decide (¬ a = 0))]) sk_neq rfl rfl ?_
    refine wp_iteC rfl (fun d => ?_) (fun d => ?_)
    · exact wp_retTo rfl (congrArg (fun n => dI n) (by unfold orI; rw [if_pos (of_decide_eq_true d)]))
    have d1 := of_decide_eq_false d
    refine wp_bindE (ρ' := [_, _, _, _, _, _, _, dI ((0 + 1 : Nat) : Int)]) (sh_add (n := 0) (by unfold capX; omega)) rfl rfl ?_
    refine wp_jumpTo rfl (Goes.step' ?_)
    show wp _ _ _ u22T1 _
    refine wp_bindE (ρ' := [_, _, _, dB (decide (((0 + 1 : Nat) : Int) < ((l.es.length : Nat) : Int)))]) sk_lss rfl rfl ?_
    refine wp_iteC rfl (fun f => ?_) (fun f => ?_)
    · skip
      refine wp_bindE (ρ' := [_, _, _, _, dB (true)]) (si_inr (s := ((0 + 1 : Nat) : Int)) (by omega) e1) rfl rfl ?_
      refine wp_bindE (ρ' := [_, _, _, _, _, dI (b)]) (si_elem1 (s := ((0 + 1 : Nat) : Int)) i_l (by omega) e1 rfl) rfl rfl ?_
      refine wp_bindE (ρ' := [_, _, _, _, _, _, dB (decide (¬ b = 0))]) sk_neq rfl rfl ?_
      refine wp_iteC rfl (fun g => ?_) (fun g => ?_)
      · exact wp_retTo rfl (congrArg (fun n => dI n) (by unfold orI; rw [if_neg d1]))
      have g1 : b = 0 := Decidable.not_not.1 (of_decide_eq_false g)
      refine wp_bindE (ρ' := [_, _, _, _, _, _, _, dI ((0 + 1 + 1 : Nat) : Int)]) (sh_add (n := 0 + 1) (by unfold capX; omega)) rfl rfl ?_
      refine wp_jumpTo rfl (Goes.step' ?_)
      show wp _ _ _ u22T1 _
      refine wp_bindE (ρ' := [_, _, _, dB (decide (((0 + 1 + 1 : Nat) : Int) < ((l.es.length : Nat) : Int)))]) sk_lss rfl rfl ?_
      refine wp_iteC rfl (fun k => ?_) (fun k => ?_)
      · have := of_lt k; omega
      · exact wp_retTo rfl (congrArg (fun n => dI n) (by unfold orI; rw [if_neg d1, g1]))
    · have := of_nlt f; omega
  · have := of_nlt c; omega
theorem h21 {p q : Pr} : Holds EE 21 [toP p, toP q] (dI (cfP p q)) := by
  obtain ⟨p1, p2⟩ := p
  obtain ⟨q1, q2⟩ := q
  show Holds EE 21 [.agg [dI p1, dI p2], .agg [dI q1, dI q2]] (dI (orI (cmpI p1 q1) (cmpI p2 q2)))
  refine u21 rfl (Goes.step' ?_)
  show wp _ _ _ u21T0 _
  refine wp_bindE (ρ' := [_, _, .agg [dI (p1), dI (p2)]]) (sh_chkW rfl) rfl rfl ?_
  refine wp_bindE (ρ' := [_, _, _, .agg [dI (q1), dI (q2)]]) (sh_chkW rfl) rfl rfl ?_
  refine wp_bindE (ρ' := [_, _, _, _, dI (p1)]) (sh_fld1 (off := 0) rfl rfl) rfl rfl ?_
  refine wp_bindE (ρ' := [_, _, _, _, _, dI (q1)]) (sh_fld1 (off := 0) rfl rfl) rfl rfl ?_
  refine wp_callE (ρ' := [_, _, _, _, _, _, dI (cmpI p1 q1)]) h23 rfl rfl rfl rfl ?_
  refine wp_bindE (ρ' := [_, _, _, _, _, _, _, dI (p2)]) (sh_fld1 (off := 1) rfl rfl) rfl rfl ?_
  refine wp_bindE (ρ' := [_, _, _, _, _, _, _, _, dI (q2)]) (sh_fld1 (off := 1) rfl rfl) rfl rfl ?_
  refine wp_callE (ρ' := [_, _, _, _, _, _, _, _, _, dI (cmpI p2 q2)]) h23 rfl rfl rfl rfl ?_
  refine wp_bindE (ρ' := [_, _, _, _, _, _, _, _, _, _, dI (cmpI p1 q1)]) (sh_chk1 rfl) rfl rfl ?_
  refine wp_bindE (ρ' := [_, _, _, _, _, _, _, _, _, _, _, dI (cmpI p2 q2)]) (sh_chk1 rfl) rfl rfl ?_
  refine wp_bindE (ρ' := [_, _, _, _, _, _, _, _, _, _, _, _, .sl 3 1 [dI (cmpI p1 q1), dI (cmpI p2 q2)]]) lit2 rfl rfl ?_
  refine wp_callE (ρ' := [_, _, _, _, _, _, _, _, _, _, _, _, _, dI (orI (cmpI p1 q1) (cmpI p2 q2))]) h22 rfl rfl rfl rfl ?_
  exact wp_retTo rfl rfl
abbrev ShPt : Sh := .sl 98 3 (.st [.int .i64, .int .i64, .int .i64])
abbrev ShSt : Sh := .st [.int .i64, .int .i64, .int .i64, ShPt]
abbrev ShL : Sh := .sl 60 4 ShSt
def refD : D → Pr
  | .agg (.leaf (.int .i64 a) :: .leaf (.int .i64 b) :: _) => (a, b)
  | _ => (0, 0)
def ixF (l : List D) (p : Pr) : Nat := l.findIdx fun x => decide (refD x = p)
def ixI (l : D) (p : Pr) : Int := if ixF l.es p < l.es.length then (ixF l.es p : Int) else -1
def zSt : D := .agg [dI 0, dI 0, dI 0, .nil]
def fndV (l : D) (p : Pr) : D := match l.es[ixF l.es p]? with
  | some x => .tup [x, dB true]
  | none => .tup [zSt, dB false]
theorem fi_hit {P : D → Bool} : ∀ {l : List D} {i : Nat} {y : D}, i ≤ l.findIdx P → l[i]? = some y → P y = true → l.findIdx P = i
  | [], _, _, _, h, _ => by simp at h
  | x :: r, i, y, hi, hy, hp => by
    rw [List.findIdx_cons] at hi ⊢
    cases hx : P x with
    | true => rw [hx] at hi; simp only [cond_true] at hi ⊢; omega
    | false =>
      rw [hx] at hi
      simp only [cond_false] at hi ⊢
      cases i with
      | zero => rw [List.getElem?_cons_zero] at hy; cases hy; rw [hx] at hp; cases hp
      | succ i => rw [List.getElem?_cons_succ] at hy; rw [fi_hit (by omega) hy hp]
theorem fi_miss {P : D → Bool} : ∀ {l : List D} {i : Nat} {y : D}, i ≤ l.findIdx P → l[i]? = some y → P y = false → i + 1 ≤ l.findIdx P
  | [], _, _, _, h, _ => by simp at h
  | x :: r, i, y, hi, hy, hp => by
    rw [List.findIdx_cons] at hi ⊢
    cases hx : P x with
    | true =>
      rw [hx] at hi
      simp only [cond_true, Nat.le_zero] at hi
      subst hi
      rw [List.getElem?_cons_zero] at hy; cases hy; rw [hx] at hp; cases hp
    | false =>
      rw [hx] at hi
      simp only [cond_false] at hi ⊢
      cases i with
      | zero => omega
      | succ i => rw [List.getElem?_cons_succ] at hy; have := fi_miss (by omega) hy hp; omega
theorem h33 {r n k : Int} {ps : D} {p : Pr} : Holds EE 33 [.agg [dI r, dI n, dI k, ps], .ptr [dI p.1, dI p.2] 0] (dB (decide (((r, n) : Pr) = p))) := by
  obtain ⟨p1, p2⟩ := p
  refine u33 rfl (Goes.step' ?_)
  show wp _ _ _ u33T0 _
  refine wp_bindE (ρ' := [_, _, .agg [dI (r), dI (n), dI (k), ps]]) (sh_chkW rfl) rfl rfl ?_
  refine wp_bindE (ρ' := [_, _, _, .agg [dI (r), dI (n)]]) (sh_fldA (off := 0) (size := 2) rfl) rfl rfl ?_
  refine wp_bindE (ρ' := [_, _, _, _, .ptr [dI (p1), dI (p2)] 0]) ev_pchk rfl rfl ?_
  refine wp_bindE (ρ' := [_, _, _, _, _, .agg [dI (p1), dI (p2)]]) ldp2 rfl rfl ?_
  refine wp_bindE (ρ' := [_, _, _, _, _, _, dB (decide (((r, n) : Pr) = (p1, p2)))]) eqS rfl rfl ?_
  exact wp_retTo rfl rfl
theorem h32 {l : D} {p : Pr} (h : HasSh ShL l) : Holds EE 32 [l, .clo (.func 33) [] [.ptr [dI p.1, dI p.2] 0]] (dI (ixI l p)) := by
  have i_l := isSl_of h
  have b_l := sh_lt i_l
  have hle : ixF l.es p ≤ l.es.length := List.findIdx_le_length
  refine u32 rfl (Goes.step' ?_)
  show wp _ _ _ u32T0 _
  refine wp_bindE (ρ' := [_, _, dI ((l.es.length : Nat) : Int)]) (sh_len i_l) rfl rfl ?_
  refine wp_jumpTo rfl (loop_up (P := fun i : Nat => i ≤ ixF l.es p → Goes EE (Holds EE) u32Ts 1 [l, .clo (.func 33) [] [.ptr [dI p.1, dI p.2] 0], dI ((l.es.length : Nat) : Int), dI ((i : Nat) : Int)] (dI (ixI l p))) l.es.length (fun i ih => ?_) 0 (Nat.zero_le _))
  intro hi
  refine Goes.step' ?_
  show wp _ _ _ u32T1 _
  refine wp_bindE (ρ' := [_, _, _, _, dB (decide (((i : Nat) : Int) < ((l.es.length : Nat) : Int)))]) sk_lss rfl rfl ?_
  refine wp_iteC rfl (fun c => ?_) (fun c => ?_)
  · have hil := of_lt c
    obtain ⟨x, e_x⟩ := lt_at hil
    obtain ⟨_, rfl, _, _, rfl, ⟨r, rfl⟩, _, _, rfl, ⟨n, rfl⟩, _, _, rfl, ⟨k, rfl⟩, ps, _, rfl, hps, rfl⟩ := elem_of h e_x
    refine wp_bindE (ρ' := [_, _, _, _, _, dB (true)]) (si_inr (s := ((i : Nat) : Int)) (by omega) e_x) rfl rfl ?_
    refine wp_bindE (ρ' := [_, _, _, _, _, _, .agg [dI (r), dI (n), dI (k), ps]]) (si_elemW (s := ((i : Nat) : Int)) i_l (by omega) e_x rfl) rfl rfl ?_
    refine wp_callE (ρ' := [_, _, _, _, _, _, _, dB (decide (((r, n) : Pr) = p))]) h33 rfl rfl rfl rfl ?_
    refine wp_iteC rfl (fun d => ?_) (fun d => ?_)
    · have hix := fi_hit hi e_x (P := fun x => decide (refD x = p)) d
      refine wp_retTo rfl (congrArg (fun n => dI n) ?_)
      unfold ixI
      rw [if_pos (by show l.es.findIdx _ < _; rw [hix]; exact hil)]
      exact congrArg (fun n : Nat => (n : Int)) hix.symm
    · skip
      refine wp_bindE (ρ' := [_, _, _, _, _, _, _, _, dI ((i + 1 : Nat) : Int)]) (sh_add (by omega)) rfl rfl ?_
      exact wp_jumpTo rfl (ih hil (fi_miss hi e_x (P := fun x => decide (refD x = p)) d))
  · have := of_nlt c
    refine wp_retTo rfl (congrArg (fun n => dI n) ?_)
    unfold ixI
    rw [if_neg (by omega)]
theorem fnd_hit {l x : D} {p : Pr} (h : l.es[ixF l.es p]? = some x) : fndV l p = .tup [x, dB true] := by unfold fndV; rw [h]
theorem fnd_no {l : D} {p : Pr} (h : l.es.length ≤ ixF l.es p) : fndV l p = .tup [zSt, dB false] := by unfold fndV; rw [List.getElem?_eq_none h]
theorem h18 {l : D} {p : Pr} (h : HasSh ShL l) : Holds EE 18 [l, toP p] (fndV l p) := by
  have i_l := isSl_of h
  have k32 := h32 (p := p) h
  obtain ⟨p1, p2⟩ := p
  show Holds EE 18 [l, .agg [dI p1, dI p2]] _
  by_cases hlt : ixF l.es (p1, p2) < l.es.length
  · obtain ⟨x, e_x⟩ := lt_at hlt
    have hv : ixI l (p1, p2) = ((ixF l.es (p1, p2) : Nat) : Int) := if_pos hlt
    rw [hv] at k32
    rw [fnd_hit e_x]
    obtain ⟨_, rfl, _, _, rfl, ⟨r, rfl⟩, _, _, rfl, ⟨n, rfl⟩, _, _, rfl, ⟨k, rfl⟩, ps, _, rfl, hps, rfl⟩ := elem_of h e_x
    have i_ps := isSl_of hps
    refine u18 rfl (Goes.step' ?_)
    show wp _ _ _ u18T0 _
    refine wp_bindE (ρ' := [_, _, .agg [dI (p1), dI (p2)]]) (sh_chkW rfl) rfl rfl ?_
    refine wp_bindE (ρ' := [_, _, _, .ptr [dI (p1), dI (p2)] 0]) bxw rfl rfl ?_
    refine wp_callE (ρ' := [_, _, _, _, dI ((ixF l.es (p1, p2) : Nat) : Int)]) k32 rfl rfl rfl rfl ?_
    refine wp_bindE (ρ' := [_, _, _, _, _, dB (decide (((ixF l.es (p1, p2) : Nat) : Int) < 0))]) sk_lss rfl rfl ?_
    refine wp_iteC rfl (fun c => ?_) (fun c => ?_)
    · have := of_decide_eq_true c; omega
    · skip
      refine wp_bindE (ρ' := [_, _, _, _, _, _, dB (true)]) (si_inr (s := ((ixF l.es (p1, p2) : Nat) : Int)) (by omega) e_x) rfl rfl ?_
      refine wp_bindE (ρ' := [_, _, _, _, _, _, _, .agg [dI (r), dI (n), dI (k), ps]]) (si_elemW (s := ((ixF l.es (p1, p2) : Nat) : Int)) i_l (by omega) e_x rfl) rfl rfl ?_
      refine wp_bindE (ρ' := [_, _, _, _, _, _, _, _, .agg [dI (r), dI (n), dI (k), ps]]) (sh_chkW rfl) rfl rfl ?_
      exact wp_retTo2 rfl rfl
  · have hv : ixI l (p1, p2) = -1 := if_neg hlt
    rw [hv] at k32
    rw [fnd_no (by omega)]
    refine u18 rfl (Goes.step' ?_)
    show wp _ _ _ u18T0 _
    refine wp_bindE (ρ' := [_, _, .agg [dI (p1), dI (p2)]]) (sh_chkW rfl) rfl rfl ?_
    refine wp_bindE (ρ' := [_, _, _, .ptr [dI (p1), dI (p2)] 0]) bxw rfl rfl ?_
    refine wp_callE (ρ' := [_, _, _, _, dI (-1)]) k32 rfl rfl rfl rfl ?_
    refine wp_bindE (ρ' := [_, _, _, _, _, dB (decide (-1 < 0))]) sk_lss rfl rfl ?_
    refine wp_iteC rfl (fun c => ?_) (fun c => ?_)
    · exact wp_retTo2 rfl rfl
    · have := of_decide_eq_false c; omega
theorem h25 {l : D} {p : Pr} (h : HasSh ShL l) : Holds EE 25 [l, toP p] (fndV l p) := by
  have i_l := isSl_of h
  have b_l := sh_lt i_l
  obtain ⟨p1, p2⟩ := p
  have hle : ixF l.es (p1, p2) ≤ l.es.length := List.findIdx_le_length
  show Holds EE 25 [l, .agg [dI p1, dI p2]] _
  refine u25 rfl (Goes.step' ?_)
  show wp _ _ _ u25T0 _
  refine wp_bindE (ρ' := [_, _, .agg [dI (p1), dI (p2)]]) (sh_chkW rfl) rfl rfl ?_
  refine wp_jumpTo rfl (loop_up (P := fun i : Nat => i ≤ ixF l.es (p1, p2) → Goes EE (Holds EE) u25Ts 1 [l, dI ((i : Nat) : Int), .agg [dI p1, dI p2]] (fndV l (p1, p2))) l.es.length (fun i ih => ?_) 0 (Nat.zero_le _))
  intro hi
  refine Goes.step' ?_
  show wp _ _ _ u25T1 _
  refine wp_bindE (ρ' := [_, _, _, dI ((l.es.length : Nat) : Int)]) (sh_len i_l) rfl rfl ?_
  refine wp_bindE (ρ' := [_, _, _, _, dB (decide (((i : Nat) : Int) < ((l.es.length : Nat) : Int)))]) sk_lss rfl rfl ?_
  refine wp_iteC rfl (fun c => ?_) (fun c => ?_)
  · have hil := of_lt c
    obtain ⟨x, e_x⟩ := lt_at hil
    have hx0 := e_x
    obtain ⟨_, rfl, _, _, rfl, ⟨r, rfl⟩, _, _, rfl, ⟨n, rfl⟩, _, _, rfl, ⟨k, rfl⟩, ps, _, rfl, hps, rfl⟩ := elem_of h e_x
    have i_ps := isSl_of hps
    refine wp_bindE (ρ' := [_, _, _, _, _, dB (true)]) (si_inr (s := ((i : Nat) : Int)) (by omega) e_x) rfl rfl ?_
    refine wp_bindE (ρ' := [_, _, _, _, _, _, .agg [dI (r), dI (n)]]) (si_elemA (s := ((i : Nat) : Int)) i_l (by omega) e_x rfl (by decide) (by decide)) rfl rfl ?_
    refine wp_bindE (ρ' := [_, _, _, _, _, _, _, dB (decide (((r, n) : Pr) = (p1, p2)))]) eqS rfl rfl ?_
    refine wp_iteC rfl (fun d => ?_) (fun d => ?_)
    · have hix := fi_hit hi e_x (P := fun x => decide (refD x = (p1, p2))) d
      have hix' : ixF l.es (p1, p2) = i := hix
      refine wp_bindE (ρ' := [_, _, _, _, _, _, _, _, dB (true)]) (si_inr (s := ((i : Nat) : Int)) (by omega) e_x) rfl rfl ?_
      refine wp_bindE (ρ' := [_, _, _, _, _, _, _, _, _, .agg [dI (r), dI (n), dI (k), ps]]) (si_elemW (s := ((i : Nat) : Int)) i_l (by omega) e_x rfl) rfl rfl ?_
      refine wp_bindE (ρ' := [_, _, _, _, _, _, _, _, _, _, .agg [dI (r), dI (n), dI (k), ps]]) (sh_chkW rfl) rfl rfl ?_
      exact wp_retTo2 rfl (by rw [fnd_hit (by rw [hix']; exact hx0)]; rfl)
    · skip
      refine wp_bindE (ρ' := [_, _, _, _, _, _, _, _, dI ((i + 1 : Nat) : Int)]) (sh_add (by omega)) rfl rfl ?_
      exact wp_jumpTo rfl (ih hil (fi_miss hi e_x (P := fun x => decide (refD x = (p1, p2))) d))
  · have := of_nlt c
    exact wp_retTo2 rfl (by rw [fnd_no (by omega)]; rfl)
end Go.Proofs.YtbmjdlgfnoaocaaGreat
namespace Go.Proofs.YtbmjdlgfnoaocaaGreat
open Go Go.Am Go.Proofs
attribute [local irreducible] Go.Am.wp Go.Am.TOp.eval
theorem ty98 : eqTy EE.prog 4 98 = some [.int .i64, .int .i64, .int .i64] := by kernel_rfl
theorem st98 : isSt EE.prog 98 = true := by kernel_rfl
theorem gu98 : EE.prog.eqGuardType EE.prog.depth 98 = false := by kernel_rfl
theorem h46 {a b : D} (h_a : HasSh (.sl 98 3 (.st [.int .i64, .int .i64, .int .i64])) a) (h_b : HasSh (.sl 98 3 (.st [.int .i64, .int .i64, .int .i64])) b) : Holds EE 46 [a, b] (dB (deq a b)) := by
  refine u46 rfl (Goes.step' ?_)
  have i_a := isSl_of h_a
  have i_b := isSl_of h_b
  show wp _ _ _ u46T0 _
  refine wp_bind (sh_len i_a) rfl ?_
  refine wp_bind (sh_len i_b) rfl ?_
  refine wp_bind sh_neq rfl ?_
  refine wp_iteC rfl (fun c0 => ?_) (fun c0 => ?_)
  · have q0 := deq_len i_a i_b (len_ne c0)
    refine wp_retTo (d' := dB (false)) rfl (db_congr ?_)
    ((try simp only [deq_leaf, deq_agg, deqs_nil, deqs_cons, veq_int, veq_bool, veq_str] at q0 ⊢); grind)
  · have l_a_b := len_of c0
    refine wp_bind (sh_len i_a) rfl ?_
    refine wp_jumpTo rfl ?_
    refine loop_eq2 (ρ := fun i => [a, b, dI ((a.es.length : Nat) : Int), dI ((i : Nat) : Int)]) i_a i_b l_a_b (fun q1 => ?_) ?_ (fun q1 => ?_)
    · ((try simp only [deq_leaf, deq_agg, deqs_nil, deqs_cons, veq_int, veq_bool, veq_str] at q1 ⊢); grind)
    · intro i x1 y1 e_a e_b hi hi2
      obtain ⟨_, rfl, _, _, rfl, ⟨x1_0, rfl⟩, _, _, rfl, ⟨x1_1, rfl⟩, _, _, rfl, ⟨x1_2, rfl⟩, rfl⟩ := elem_of h_a e_a
      obtain ⟨_, rfl, _, _, rfl, ⟨y1_0, rfl⟩, _, _, rfl, ⟨y1_1, rfl⟩, _, _, rfl, ⟨y1_2, rfl⟩, rfl⟩ := elem_of h_b e_b
      show wp _ _ _ u46T1 _
      refine wp_bind sh_lss rfl ?_
      refine wp_iteB rfl ?_
      rw [lt_true (show i < a.es.length by omega)]
      refine ite_t ?_
      refine wp_bind (sh_inr e_a) rfl ?_
      refine wp_bind (sh_elemW i_a e_a rfl) rfl ?_
      refine wp_bind (sh_inr e_b) rfl ?_
      refine wp_bind (sh_elemW i_b e_b rfl) rfl ?_
      refine wp_bind (sh_cmpS .neq (.inl rfl) ty98 st98 le4 gu98 rfl (shs_cons sh_int (shs_cons sh_int (shs_cons sh_int shs_nil))) (shs_cons sh_int (shs_cons sh_int (shs_cons sh_int shs_nil)))) rfl ?_
      refine wp_iteC rfl (fun c2 => ?_) (fun c2 => ?_)
      · skip
        refine wp_retR rfl ?_
        clear hi hi2; ((try simp only [deq_leaf, deq_agg, deqs_nil, deqs_cons, veq_int, veq_bool, veq_str] at c2 ⊢); grind)
      · skip
        refine wp_bind (sh_add hi2) rfl ?_
        refine wp_jumpR rfl ?_
        clear hi hi2; ((try simp only [deq_leaf, deq_agg, deqs_nil, deqs_cons, veq_int, veq_bool, veq_str] at c2 ⊢); grind)
    · show wp _ _ _ u46T1 _
      refine wp_bind sh_lss rfl ?_
      refine wp_iteB rfl ?_
      rw [lt_false]
      refine ite_f ?_
      refine wp_retTo (d' := dB (true)) rfl (db_congr ?_)
      ((try simp only [deq_leaf, deq_agg, deqs_nil, deqs_cons, veq_int, veq_bool, veq_str] at q1 ⊢); grind)
theorem h34 {a b : D} (h_a : HasSh (.st [.sl 98 3 (.st [.int .i64, .int .i64, .int .i64])]) a) (h_b : HasSh (.st [.sl 98 3 (.st [.int .i64, .int .i64, .int .i64])]) b) : Holds EE 34 [a, b] (dB (deq a b)) := by
  refine u34 rfl (Goes.step' ?_)
  obtain ⟨_, rfl, a_0, _, rfl, h_a_0, rfl⟩ := h_a
  have i_a_0 := isSl_of h_a_0
  obtain ⟨_, rfl, b_0, _, rfl, h_b_0, rfl⟩ := h_b
  have i_b_0 := isSl_of h_b_0
  show wp _ _ _ u34T0 _
  refine wp_bind (sh_chkW rfl) rfl ?_
  refine wp_bind (sh_chkW rfl) rfl ?_
  refine wp_bind (sh_fld1 (off := 0) rfl i_a_0.one) rfl ?_
  refine wp_bind (sh_fld1 (off := 0) rfl i_b_0.one) rfl ?_
  refine wp_call (h46 h_a_0 h_b_0) rfl rfl rfl ?_
  refine wp_retTo (d' := dB (deq (a_0) (b_0))) rfl (db_congr ?_)
  (first | rfl | ((try simp only [deq_leaf, deq_agg, deqs_nil, deqs_cons, veq_int, veq_bool, veq_str]); first | rfl | grind))
theorem h19 {a b : D} (h_a : HasSh (.st [.int .i64, .int .i64, .int .i64, .sl 98 3 (.st [.int .i64, .int .i64, .int .i64])]) a) (h_b : HasSh (.st [.int .i64, .int .i64, .int .i64, .sl 98 3 (.st [.int .i64, .int .i64, .int .i64])]) b) : Holds EE 19 [a, b] (dB (deq a b)) := by
  refine u19 rfl (Goes.step' ?_)
  obtain ⟨_, rfl, _, _, rfl, ⟨a_0, rfl⟩, _, _, rfl, ⟨a_1, rfl⟩, _, _, rfl, ⟨a_2, rfl⟩, a_3, _, rfl, h_a_3, rfl⟩ := h_a
  have i_a_3 := isSl_of h_a_3
  obtain ⟨_, rfl, _, _, rfl, ⟨b_0, rfl⟩, _, _, rfl, ⟨b_1, rfl⟩, _, _, rfl, ⟨b_2, rfl⟩, b_3, _, rfl, h_b_3, rfl⟩ := h_b
  have i_b_3 := isSl_of h_b_3
  show wp _ _ _ u19T0 _
  refine wp_bind (sh_chkW rfl) rfl ?_
  refine wp_bind (sh_chkW rfl) rfl ?_
  refine wp_bind (sh_fldA rfl) rfl ?_
  refine wp_bind (sh_fldA rfl) rfl ?_
  refine wp_bind (sh_cmpS .eql (.inr rfl) ty50 st50 le4 gu50 rfl (shs_cons sh_int (shs_cons sh_int shs_nil)) (shs_cons sh_int (shs_cons sh_int shs_nil))) rfl ?_
  refine wp_iteC rfl (fun c0 => ?_) (fun c0 => ?_)
  · skip
    refine wp_bind (sh_fld1 (off := 2) rfl rfl) rfl ?_
    refine wp_bind (sh_fld1 (off := 2) rfl rfl) rfl ?_
    refine wp_bind sh_eql rfl ?_
    refine wp_iteC rfl (fun c1 => ?_) (fun c1 => ?_)
    · skip
      refine wp_bind (sh_fldA rfl) rfl ?_
      refine wp_bind (sh_fldA rfl) rfl ?_
      refine wp_call (h34 (sh_st (shs_cons h_a_3 shs_nil)) (sh_st (shs_cons h_b_3 shs_nil))) rfl rfl rfl ?_
      refine wp_retTo (d' := dB (deq (.agg [a_3]) (.agg [b_3]))) rfl (db_congr ?_)
      ((try simp only [deq_leaf, deq_agg, deqs_nil, deqs_cons, veq_int, veq_bool, veq_str] at c1 c0 ⊢); grind)
    · skip
      refine wp_retTo (d' := dB (false)) rfl (db_congr ?_)
      ((try simp only [deq_leaf, deq_agg, deqs_nil, deqs_cons, veq_int, veq_bool, veq_str] at c1 c0 ⊢); grind)
  · skip
    refine wp_retTo (d' := dB (false)) rfl (db_congr ?_)
    ((try simp only [deq_leaf, deq_agg, deqs_nil, deqs_cons, veq_int, veq_bool, veq_str] at c0 ⊢); grind)
theorem h28 {a b : D} {g : Nat} (h_a : HasSh (.sl 60 4 (.st [.int .i64, .int .i64, .int .i64, .sl 98 3 (.st [.int .i64, .int .i64, .int .i64])])) a) (h_b : HasSh (.sl 60 4 (.st [.int .i64, .int .i64, .int .i64, .sl 98 3 (.st [.int .i64, .int .i64, .int .i64])])) b) (hp : ∀ x y, HasSh (.st [.int .i64, .int .i64, .int .i64, .sl 98 3 (.st [.int .i64, .int .i64, .int .i64])]) x → HasSh (.st [.int .i64, .int .i64, .int .i64, .sl 98 3 (.st [.int .i64, .int .i64, .int .i64])]) y → Holds EE g [x, y] (dB (deq x y))) : Holds EE 28 [a, b, .clo (.func g) [] []] (dB (deq a b)) := by
  refine u28 rfl (Goes.step' ?_)
  have i_a := isSl_of h_a
  have i_b := isSl_of h_b
  show wp _ _ _ u28T0 _
  refine wp_bind (sh_len i_a) rfl ?_
  refine wp_bind (sh_len i_b) rfl ?_
  refine wp_bind sh_neq rfl ?_
  refine wp_iteC rfl (fun c0 => ?_) (fun c0 => ?_)
  · have q0 := deq_len i_a i_b (len_ne c0)
    refine wp_retTo (d' := dB (false)) rfl (db_congr ?_)
    ((try simp only [deq_leaf, deq_agg, deqs_nil, deqs_cons, veq_int, veq_bool, veq_str] at q0 ⊢); grind)
  · have l_a_b := len_of c0
    refine wp_bind (sh_len i_a) rfl ?_
    refine wp_jumpTo rfl ?_
    refine loop_eq2 (ρ := fun i => [b, (.clo (.func g) [] []), a, dI ((a.es.length : Nat) : Int), dI ((i : Nat) : Int)]) i_a i_b l_a_b (fun q1 => ?_) ?_ (fun q1 => ?_)
    · ((try simp only [deq_leaf, deq_agg, deqs_nil, deqs_cons, veq_int, veq_bool, veq_str] at q1 ⊢); grind)
    · intro i x1 y1 e_a e_b hi hi2
      obtain ⟨_, rfl, _, _, rfl, ⟨x1_0, rfl⟩, _, _, rfl, ⟨x1_1, rfl⟩, _, _, rfl, ⟨x1_2, rfl⟩, x1_3, _, rfl, h_x1_3, rfl⟩ := elem_of h_a e_a
      have i_x1_3 := isSl_of h_x1_3
      obtain ⟨_, rfl, _, _, rfl, ⟨y1_0, rfl⟩, _, _, rfl, ⟨y1_1, rfl⟩, _, _, rfl, ⟨y1_2, rfl⟩, y1_3, _, rfl, h_y1_3, rfl⟩ := elem_of h_b e_b
      have i_y1_3 := isSl_of h_y1_3
      show wp _ _ _ u28T1 _
      refine wp_bind sh_lss rfl ?_
      refine wp_iteB rfl ?_
      rw [lt_true (show i < a.es.length by omega)]
      refine ite_t ?_
      refine wp_bind (sh_inr e_a) rfl ?_
      refine wp_bind (sh_elemW i_a e_a rfl) rfl ?_
      refine wp_bind (sh_chkW rfl) rfl ?_
      refine wp_bind (sh_inr e_b) rfl ?_
      refine wp_bind (sh_elemW i_b e_b rfl) rfl ?_
      refine wp_bind (sh_chkW rfl) rfl ?_
      refine wp_call (hp _ _ (sh_st (shs_cons sh_int (shs_cons sh_int (shs_cons sh_int (shs_cons h_x1_3 shs_nil))))) (sh_st (shs_cons sh_int (shs_cons sh_int (shs_cons sh_int (shs_cons h_y1_3 shs_nil)))))) rfl rfl rfl ?_
      refine wp_bind sh_not rfl ?_
      refine wp_iteC rfl (fun c2 => ?_) (fun c2 => ?_)
      · skip
        refine wp_retR rfl ?_
        clear hi hi2; ((try simp only [deq_leaf, deq_agg, deqs_nil, deqs_cons, veq_int, veq_bool, veq_str] at c2 ⊢); grind)
      · skip
        refine wp_bind (sh_add hi2) rfl ?_
        refine wp_jumpR rfl ?_
        clear hi hi2; ((try simp only [deq_leaf, deq_agg, deqs_nil, deqs_cons, veq_int, veq_bool, veq_str] at c2 ⊢); grind)
    · show wp _ _ _ u28T1 _
      refine wp_bind sh_lss rfl ?_
      refine wp_iteB rfl ?_
      rw [lt_false]
      refine ite_f ?_
      refine wp_retTo (d' := dB (true)) rfl (db_congr ?_)
      ((try simp only [deq_leaf, deq_agg, deqs_nil, deqs_cons, veq_int, veq_bool, veq_str] at q1 ⊢); grind)
theorem h10 {a b : D} (h_a : HasSh (.sl 60 4 (.st [.int .i64, .int .i64, .int .i64, .sl 98 3 (.st [.int .i64, .int .i64, .int .i64])])) a) (h_b : HasSh (.sl 60 4 (.st [.int .i64, .int .i64, .int .i64, .sl 98 3 (.st [.int .i64, .int .i64, .int .i64])])) b) : Holds EE 10 [a, b] (dB (deq a b)) := by
  refine u10 rfl (Goes.step' ?_)
  have i_a := isSl_of h_a
  have i_b := isSl_of h_b
  show wp _ _ _ u10T0 _
  refine wp_call (h28 h_a h_b (fun x y hx hy => h19 hx hy)) rfl rfl rfl ?_
  refine wp_retTo (d' := dB (deq (a) (b))) rfl (db_congr ?_)
  (first | rfl | ((try simp only [deq_leaf, deq_agg, deqs_nil, deqs_cons, veq_int, veq_bool, veq_str]); first | rfl | grind))
end Go.Proofs.YtbmjdlgfnoaocaaGreat
