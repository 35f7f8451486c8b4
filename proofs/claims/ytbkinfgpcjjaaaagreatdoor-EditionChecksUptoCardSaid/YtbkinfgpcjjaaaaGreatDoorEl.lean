/- EditionChecks: Check and its specification give the same, and the law. Conditions: none. -/
import Derived.Test.YtbkinfgpcjjaaaaGreatDoorEk
import Derived.Test.YtbkinfgpcjjaaaaGreatDoorUv
set_option linter.all false
namespace Go.Proofs.YtbkinfgpcjjaaaaGreatDoor
open Go Go.Am Go.Proofs
attribute [local irreducible] Go.Am.wp Go.Am.TOp.eval
def id0 : D → Int
  | .agg (.leaf (.int _ n) :: _) => n
  | _ => 0
def numD : D → Int
  | .leaf (.int _ n) => n
  | _ => 0
def hasId (l : List D) (r : Int) : Bool := l.any fun d => decide (id0 d = r)
def IsDocs (d : D) : Prop := IsSl 68 7 d ∧ d.es.length ≤ 300000000 ∧ ∀ x ∈ d.es, ∃ n cs, x = .agg (dI n :: cs) ∧ cs.length = 6
def IsInts (d : D) : Prop := IsSl 3 1 d ∧ d.es.length ≤ 300000000 ∧ ∀ x ∈ d.es, ∃ n, x = dI n
theorem take_any {l : List D} {f : D → Bool} {i : Nat} {x : D} (hx : l[i]? = some x) : (l.take (i + 1)).any f = ((l.take i).any f || f x) := by
  rw [List.take_add_one, hx]; simp
theorem any_of {l : List D} {f : D → Bool} {i : Nat} {x : D} (hx : l[i]? = some x) (h : f x = true) : l.any f = true :=
  List.any_eq_true.2 ⟨x, List.mem_of_getElem? hx, h⟩
/- the closure -/
theorem h19 {n r : Int} {cs : List D} (hc : cs.length = 6) : Holds EE 19 [.agg (dI n :: cs), .ptr [dI r] 0] (dB (decide (n = r))) := by
  refine u19 rfl (Goes.step' ?_)
  show wp _ _ _ u19T0 _
  refine wp_bindE (ρ' := [_, _, .agg (dI n :: cs)]) (sh_chkW (by rw [List.length_cons, hc])) rfl rfl ?_
  refine wp_bindE (ρ' := [_, _, _, dI n]) (sh_fld1 (off := 0) rfl rfl) rfl rfl ?_
  refine wp_bindE (ρ' := [_, _, _, _, .ptr [dI r] 0]) ev_pchk rfl rfl ?_
  refine wp_bindE (ρ' := [_, _, _, _, _, dI r]) (ev_loadp (ag := false) (size := 1) (off := 0) (cs := [dI r])) rfl rfl ?_
  refine wp_bindE (ρ' := [_, _, _, _, _, _, dB (decide (n = r))]) sk_eql rfl rfl ?_
  exact wp_retTo2 rfl rfl
theorem h37 {docs : D} {r : Int} (hd : IsDocs docs) : ∃ d, (∃ n : Int, d = dI n ∧ decide (n ≥ 0) = hasId docs.es r) ∧ Holds EE 37 [docs, .clo (.func 19) [] [.ptr [dI r] 0]] d := by
  suffices h : ∃ d, (∃ n : Int, d = dI n ∧ decide (n ≥ 0) = hasId docs.es r) ∧ Goes EE (Holds EE) u37Ts 0 [docs, .clo (.func 19) [] [.ptr [dI r] 0]] d by
    obtain ⟨d, hd, hg⟩ := h; exact ⟨d, hd, u37 rfl hg⟩
  obtain ⟨hs, hl, he⟩ := hd
  refine goes_R ?_
  show wp _ _ _ u37T0 _
  refine wp_bindE (ρ' := [_, _, dI ((docs.es.length : Nat) : Int)]) (sh_len hs) rfl rfl ?_
  refine wr_jump rfl (loop_up (P := fun i => i ≤ docs.es.length → (docs.es.take i).any (fun d => decide (id0 d = r)) = false → ∃ d, (∃ n : Int, d = dI n ∧ decide (n ≥ 0) = hasId docs.es r) ∧ Goes EE (Holds EE) u37Ts 1 [docs, .clo (.func 19) [] [.ptr [dI r] 0], dI ((docs.es.length : Nat) : Int), dI ((i : Nat) : Int)] d) docs.es.length (fun i ih => ?_) 0 (by omega) (by simp))
  intro hi hno
  refine goes_R ?_
  show wp _ _ _ u37T1 _
  refine wp_bindE (ρ' := [_, _, _, _, _]) sk_lss rfl rfl ?_
  refine wp_iteC rfl (fun c => ?_) (fun c => ?_)
  · replace c : ((i : Nat) : Int) < ((docs.es.length : Nat) : Int) := of_decide_eq_true c
    obtain ⟨x, hx⟩ : ∃ x, docs.es[i]? = some x := ⟨_, List.getElem?_eq_getElem (by omega)⟩
    obtain ⟨n, cs, rfl, hcs⟩ := he x (List.mem_of_getElem? hx)
    refine wp_bindE (ρ' := [_, _, _, _, _, dB true]) (sh_inr hx) rfl rfl ?_
    refine wp_bindE (ρ' := [_, _, _, _, _, _, .agg (dI n :: cs)]) (sh_elemW hs hx (by rw [List.length_cons, hcs])) rfl rfl ?_
    refine wp_callE (ρ' := [_, _, _, _, _, _, _, dB (decide (n = r))]) (h19 (r := r) hcs) rfl rfl rfl rfl ?_
    have hf : decide (id0 (.agg (dI n :: cs)) = r) = decide (n = r) := rfl
    refine wp_iteC rfl (fun c2 => ?_) (fun c2 => ?_)
    · refine wr_ret rfl ⟨_, rfl, ?_⟩
      have : hasId docs.es r = true := any_of hx (by rw [hf]; exact c2)
      rw [this]; exact decide_eq_true (by omega)
    · refine wp_bindE (ρ' := [_, _, _, _, _, _, _, _, dI ((i + 1 : Nat) : Int)]) (sh_add (cap_bd' (by omega))) rfl rfl ?_
      exact wr_jump rfl (ih (by omega) (by omega) (by rw [take_any hx, hno, hf, c2]; rfl))
  · replace c : ¬ (((i : Nat) : Int) < ((docs.es.length : Nat) : Int)) := of_decide_eq_false c
    refine wr_ret rfl ⟨_, rfl, ?_⟩
    have : hasId docs.es r = false := by
      rw [List.take_of_length_le (by omega)] at hno; exact hno
    rw [this]; rfl
theorem h18 {docs : D} {r : Int} (hd : IsDocs docs) : Holds EE 18 [docs, .clo (.func 19) [] [.ptr [dI r] 0]] (dB (hasId docs.es r)) := by
  obtain ⟨_, ⟨n, rfl, hn⟩, k⟩ := h37 (r := r) hd
  refine u18 rfl (Goes.step' ?_)
  show wp _ _ _ u18T0 _
  refine wp_callE (ρ' := [_, _, dI n]) k rfl rfl rfl rfl ?_
  refine wp_bindE (ρ' := [_, _, _, _]) sk_geq rfl rfl ?_
  exact wp_retTo2 rfl (by show dB (decide (n ≥ 0)) = _; rw [hn])
structure IsPr (ps : List D) (docs : D) : Prop where
  len : ps.length = 16
  at9 : ps[9]? = some docs
  docs : IsDocs docs
theorem h20 {ps : List D} {docs : D} {r : Int} (hp : IsPr ps docs) : Holds EE 20 [.agg ps, dI r] (dB (hasId docs.es r)) := by
  obtain ⟨hs, hl, he⟩ := hp.docs
  suffices h : ∃ d, d = dB (hasId docs.es r) ∧ Goes EE (Holds EE) u20Ts 0 [.agg ps, dI r] d by
    obtain ⟨d, rfl, hg⟩ := h; exact u20 rfl hg
  refine goes_R ?_
  show wp _ _ _ u20T0 _
  refine wp_bindE (ρ' := [_, _, .agg ps]) (sh_chkW hp.len) rfl rfl ?_
  refine wr_jump rfl (loop_up (P := fun i => i ≤ docs.es.length → (docs.es.take i).any (fun d => decide (id0 d = r)) = false → ∃ d, d = dB (hasId docs.es r) ∧ Goes EE (Holds EE) u20Ts 1 [dI r, dI ((i : Nat) : Int), .agg ps] d) docs.es.length (fun i ih => ?_) 0 (by omega) (by simp))
  intro hi hno
  refine goes_R ?_
  show wp _ _ _ u20T1 _
  refine wp_bindE (ρ' := [_, _, _, docs]) (sh_fld1 (off := 9) hp.at9 hs.one) rfl rfl ?_
  refine wp_bindE (ρ' := [_, _, _, _, dI ((docs.es.length : Nat) : Int)]) (sh_len hs) rfl rfl ?_
  refine wp_bindE (ρ' := [_, _, _, _, _, _]) sk_lss rfl rfl ?_
  refine wp_iteC rfl (fun c => ?_) (fun c => ?_)
  · replace c : ((i : Nat) : Int) < ((docs.es.length : Nat) : Int) := of_decide_eq_true c
    obtain ⟨x, hx⟩ : ∃ x, docs.es[i]? = some x := ⟨_, List.getElem?_eq_getElem (by omega)⟩
    obtain ⟨n, cs, rfl, hcs⟩ := he x (List.mem_of_getElem? hx)
    refine wp_bindE (ρ' := [_, _, _, _, _, _, docs]) (sh_fld1 (off := 9) hp.at9 hs.one) rfl rfl ?_
    refine wp_bindE (ρ' := [_, _, _, _, _, _, _, dB true]) (sh_inr hx) rfl rfl ?_
    refine wp_bindE (ρ' := [_, _, _, _, _, _, _, _, dI n]) (sh_elemP (off := 0) hs hx rfl rfl (by decide)) rfl rfl ?_
    refine wp_bindE (ρ' := [_, _, _, _, _, _, _, _, _, dB (decide (n = r))]) sk_eql rfl rfl ?_
    have hf : decide (id0 (.agg (dI n :: cs)) = r) = decide (n = r) := rfl
    refine wp_iteC rfl (fun c2 => ?_) (fun c2 => ?_)
    · refine wr_ret rfl ?_
      have : hasId docs.es r = true := any_of hx (by rw [hf]; exact c2)
      rw [this]; rfl
    · refine wp_bindE (ρ' := [_, _, _, _, _, _, _, _, _, _, dI ((i + 1 : Nat) : Int)]) (sh_add (cap_bd' (by omega))) rfl rfl ?_
      exact wr_jump rfl (ih (by omega) (by omega) (by rw [take_any hx, hno, hf, c2]; rfl))
  · replace c : ¬ (((i : Nat) : Int) < ((docs.es.length : Nat) : Int)) := of_decide_eq_false c
    refine wr_ret rfl ?_
    have : hasId docs.es r = false := by
      rw [List.take_of_length_le (by omega)] at hno; exact hno
    rw [this]; rfl
def res (docs : List D) (w : Int) : Option Int → List D → Int
  | _, [] => if w < 20 then 2 else if w > 200 then 2 else 0
  | p, x :: r => match p with
    | some m => if numD x ≤ m then 10 else if hasId docs (numD x) then res docs w (some (numD x)) r else 9
    | none => if hasId docs (numD x) then res docs w (some (numD x)) r else 9
def prv (l : List D) : Nat → Option Int
  | 0 => none
  | i + 1 => (l[i]?).map numD
def resA (docs : List D) (k a b w : Int) (recs : List D) : Int :=
  if k < 0 then 14 else if k > 3 then 14 else if a < 0 then 2 else if a > 1099511627776 then 2 else if b < 1 then 12 else if b > 109573 then 12 else res docs w none recs
theorem res_step {docs l : List D} {w : Int} {i : Nat} {x : D} (hx : l[i]? = some x) (hb : ∀ m, prv l i = some m → ¬ numD x ≤ m) (hh : hasId docs (numD x) = true) :
    res docs w (prv l i) (l.drop i) = res docs w (prv l (i + 1)) (l.drop (i + 1)) := by
  obtain ⟨hi, hx'⟩ := List.getElem?_eq_some_iff.1 hx
  have hn : prv l (i + 1) = some (numD x) := by simp only [prv, hx, Option.map_some]
  rw [List.drop_eq_getElem_cons hi, hx', hn]
  cases hp : prv l i with
  | none => simp only [res, hh, if_true]
  | some m => simp only [res, hh, if_true]; rw [if_neg (hb m hp)]
theorem res_no {docs l : List D} {w : Int} {i : Nat} {x : D} (hx : l[i]? = some x) (hb : ∀ m, prv l i = some m → ¬ numD x ≤ m) (hh : hasId docs (numD x) = false) :
    res docs w (prv l i) (l.drop i) = 9 := by
  obtain ⟨hi, hx'⟩ := List.getElem?_eq_some_iff.1 hx
  rw [List.drop_eq_getElem_cons hi, hx']
  cases hp : prv l i with
  | none => simp [res, hh]
  | some m => simp only [res]; rw [if_neg (hb m hp)]; simp [hh]
theorem res_ord {docs l : List D} {w : Int} {i : Nat} {x : D} {m : Int} (hx : l[i]? = some x) (hp : prv l i = some m) (hb : numD x ≤ m) :
    res docs w (prv l i) (l.drop i) = 10 := by
  obtain ⟨hi, hx'⟩ := List.getElem?_eq_some_iff.1 hx
  rw [List.drop_eq_getElem_cons hi, hx', hp]
  simp only [res]; rw [if_pos hb]
theorem res_end {docs l : List D} {w : Int} {i : Nat} (hi : l.length ≤ i) : res docs w (prv l i) (l.drop i) = if w < 20 then 2 else if w > 200 then 2 else 0 := by
  rw [List.drop_of_length_le hi]; simp only [res]
theorem wr_retI {E : Env} {HS : FuncId → List D → D → Prop} {Ts : Nat → Tree} {xs : List SV} {ρ : List D} {m n : Int} (hx : SV.ds (getD ρ) xs = [dI m]) (h : m = n) : wp E HS (To E HS Ts (dI n)) (.ret xs) ρ := by
  subst h; exact wp_retTo2 hx rfl
section
variable {ps : List D} {docs recs : D} {k a b w : Int}
abbrev planD (k a b : Int) (recs : D) (w : Int) : List D := [dI k, dI a, dI b, recs, dI w]
set_option maxHeartbeats 1000000 in
theorem h6 (hp : IsPr ps docs) (hr : IsInts recs) : Holds EE 6 [.agg ps, .agg (planD k a b recs w)] (dI (resA docs.es k a b w recs.es)) := by
  obtain ⟨hs, hl, he⟩ := hr
  have loop : ∀ i, i ≤ recs.es.length → Goes EE (Holds EE) u6Ts 1 [recs, dI ((recs.es.length : Nat) : Int), dI ((i : Nat) : Int), .agg ps, .agg (planD k a b recs w)] (dI (res docs.es w (prv recs.es i) (recs.es.drop i))) := by
    refine loop_up (P := fun i => i ≤ recs.es.length → Goes EE (Holds EE) u6Ts 1 [recs, dI ((recs.es.length : Nat) : Int), dI ((i : Nat) : Int), .agg ps, .agg (planD k a b recs w)] (dI (res docs.es w (prv recs.es i) (recs.es.drop i)))) recs.es.length (fun i ih => ?_)
    intro hi
    refine Goes.step' ?_
    show wp _ _ _ u6T1 _
    refine wp_bindE (ρ' := [_, _, _, _, _, _]) sk_lss rfl rfl ?_
    refine wp_iteC rfl (fun c => ?_) (fun c => ?_)
    · replace c : ((i : Nat) : Int) < ((recs.es.length : Nat) : Int) := of_decide_eq_true c
      obtain ⟨x, hx⟩ : ∃ x, recs.es[i]? = some x := ⟨_, List.getElem?_eq_getElem (by omega)⟩
      obtain ⟨n, rfl⟩ := he x (List.mem_of_getElem? hx)
      refine wp_bindE (ρ' := [_, _, _, _, _, _, dB true]) (sh_inr hx) rfl rfl ?_
      refine wp_bindE (ρ' := [_, _, _, _, _, _, _, dI n]) (sh_elem1 hs hx rfl) rfl rfl ?_
      refine wp_bindE (ρ' := [_, _, _, _, _, _, _, _, _]) sk_gtr rfl rfl ?_
      refine wp_iteC rfl (fun c2 => ?_) (fun c2 => ?_)
      · replace c2 : ((i : Nat) : Int) > 0 := of_decide_eq_true c2
        obtain ⟨j, rfl⟩ : ∃ j, i = j + 1 := ⟨i - 1, by omega⟩
        obtain ⟨y, hy⟩ : ∃ y, recs.es[j]? = some y := ⟨_, List.getElem?_eq_getElem (by omega)⟩
        obtain ⟨m, rfl⟩ := he y (List.mem_of_getElem? hy)
        have hpr : prv recs.es (j + 1) = some m := by simp only [prv, hy, Option.map_some, numD]
        refine wp_bindE (ρ' := [_, _, _, _, _, _, _, _, _, recs]) (sh_fld1 (off := 3) rfl hs.one) rfl rfl ?_
        refine wp_bindE (ρ' := [_, _, _, _, _, _, _, _, _, _, dI ((j : Nat) : Int)]) (by rw [show dI ((j : Nat) : Int) = dI (((j + 1 : Nat) : Int) - 1) by congr 2; omega]; exact si_sub (by omega)) rfl rfl ?_
        refine wp_bindE (ρ' := [_, _, _, _, _, _, _, _, _, _, _, dB true]) (sh_inr hy) rfl rfl ?_
        refine wp_bindE (ρ' := [_, _, _, _, _, _, _, _, _, _, _, _, dI m]) (sh_elem1 hs hy rfl) rfl rfl ?_
        refine wp_bindE (ρ' := [_, _, _, _, _, _, _, _, _, _, _, _, _, _]) sk_leq rfl rfl ?_
        refine wp_iteC rfl (fun c3 => ?_) (fun c3 => ?_)
        · replace c3 : n ≤ m := of_decide_eq_true c3
          exact wr_retI rfl (res_ord hx hpr c3).symm
        · replace c3 : ¬ n ≤ m := of_decide_eq_false c3
          have hb : ∀ q, prv recs.es (j + 1) = some q → ¬ numD (dI n) ≤ q := fun q hq => by rw [hpr] at hq; cases hq; exact c3
          refine wp_bindE (ρ' := [_, _, _, _, _, _, _, _, _, _, _, _, _, _, docs]) (sh_fld1 (off := 9) hp.at9 hp.docs.1.one) rfl rfl ?_
          refine wp_bindE (ρ' := [_, _, _, _, _, _, _, _, _, _, _, _, _, _, _, .ptr [dI n] 0]) ev_box rfl rfl ?_
          refine wp_callE (ρ' := [_, _, _, _, _, _, _, _, _, _, _, _, _, _, _, _, dB (hasId docs.es n)]) (h18 (r := n) hp.docs) rfl rfl rfl rfl ?_
          refine wp_bindE (ρ' := [_, _, _, _, _, _, _, _, _, _, _, _, _, _, _, _, _, dB (!(hasId docs.es n))]) sh_not rfl rfl ?_
          refine wp_iteC rfl (fun c4 => ?_) (fun c4 => ?_)
          · exact wr_retI rfl (res_no hx hb (by show hasId docs.es n = _; simpa using c4)).symm
          · refine wp_bindE (ρ' := [_, _, _, _, _, _, _, _, _, _, _, _, _, _, _, _, _, _, dI ((j + 1 + 1 : Nat) : Int)]) (sh_add (cap_bd' (by omega))) rfl rfl ?_
            rw [res_step hx hb (by show hasId docs.es n = _; simpa using c4)]
            exact wp_jumpTo rfl (ih (by omega) (by omega))
      · replace c2 : ¬ (((i : Nat) : Int) > 0) := of_decide_eq_false c2
        obtain rfl : i = 0 := by omega
        have hb : ∀ q, prv recs.es 0 = some q → ¬ numD (dI n) ≤ q := fun q hq => by cases hq
        refine wp_bindE (ρ' := [_, _, _, _, _, _, _, _, _, docs]) (sh_fld1 (off := 9) hp.at9 hp.docs.1.one) rfl rfl ?_
        refine wp_bindE (ρ' := [_, _, _, _, _, _, _, _, _, _, .ptr [dI n] 0]) ev_box rfl rfl ?_
        refine wp_callE (ρ' := [_, _, _, _, _, _, _, _, _, _, _, dB (hasId docs.es n)]) (h18 (r := n) hp.docs) rfl rfl rfl rfl ?_
        refine wp_bindE (ρ' := [_, _, _, _, _, _, _, _, _, _, _, _, dB (!(hasId docs.es n))]) sh_not rfl rfl ?_
        refine wp_iteC rfl (fun c4 => ?_) (fun c4 => ?_)
        · exact wr_retI rfl (res_no hx hb (by show hasId docs.es n = _; simpa using c4)).symm
        · refine wp_bindE (ρ' := [_, _, _, _, _, _, _, _, _, _, _, _, _, dI ((0 + 1 : Nat) : Int)]) (sh_add (cap_bd' (by omega))) rfl rfl ?_
          rw [res_step hx hb (by show hasId docs.es n = _; simpa using c4)]
          exact wp_jumpTo rfl (ih (by omega) (by omega))
    · replace c : ¬ (((i : Nat) : Int) < ((recs.es.length : Nat) : Int)) := of_decide_eq_false c
      rw [res_end (by omega)]
      refine wp_bindE (ρ' := [_, _, _, _, _, _, dI w]) (sh_fld1 (off := 4) rfl rfl) rfl rfl ?_
      refine wp_bindE (ρ' := [_, _, _, _, _, _, _, _]) sk_lss rfl rfl ?_
      refine wp_iteC rfl (fun c2 => ?_) (fun c2 => ?_)
      · exact wr_retI rfl (by rw [if_pos (of_decide_eq_true c2)])
      · rw [if_neg (of_decide_eq_false c2)]
        refine wp_bindE (ρ' := [_, _, _, _, _, _, _, _, dI w]) (sh_fld1 (off := 4) rfl rfl) rfl rfl ?_
        refine wp_bindE (ρ' := [_, _, _, _, _, _, _, _, _, _]) sk_gtr rfl rfl ?_
        refine wp_iteC rfl (fun c3 => ?_) (fun c3 => ?_)
        · exact wr_retI rfl (by rw [if_pos (of_decide_eq_true c3)])
        · exact wr_retI rfl (by rw [if_neg (of_decide_eq_false c3)])
  refine u6 rfl (Goes.step' ?_)
  show wp _ _ _ u6T0 _
  unfold resA
  refine wp_bindE (ρ' := [_, _, .agg ps]) (sh_chkW hp.len) rfl rfl ?_
  refine wp_bindE (ρ' := [_, _, _, .agg (planD k a b recs w)]) (sh_chkW rfl) rfl rfl ?_
  refine wp_bindE (ρ' := [_, _, _, _, dI k]) (sh_fld1 (off := 0) rfl rfl) rfl rfl ?_
  refine wp_bindE (ρ' := [_, _, _, _, _, _]) sk_lss rfl rfl ?_
  refine wp_iteC rfl (fun c => wr_retI rfl (by rw [if_pos (of_decide_eq_true c)])) (fun c => ?_)
  rw [if_neg (of_decide_eq_false c)]
  refine wp_bindE (ρ' := [_, _, _, _, _, _, dI k]) (sh_fld1 (off := 0) rfl rfl) rfl rfl ?_
  refine wp_bindE (ρ' := [_, _, _, _, _, _, _, _]) sk_gtr rfl rfl ?_
  refine wp_iteC rfl (fun c => wr_retI rfl (by rw [if_pos (of_decide_eq_true c)])) (fun c => ?_)
  rw [if_neg (of_decide_eq_false c)]
  refine wp_bindE (ρ' := [_, _, _, _, _, _, _, _, dI a]) (sh_fld1 (off := 1) rfl rfl) rfl rfl ?_
  refine wp_bindE (ρ' := [_, _, _, _, _, _, _, _, _, _]) sk_lss rfl rfl ?_
  refine wp_iteC rfl (fun c => wr_retI rfl (by rw [if_pos (of_decide_eq_true c)])) (fun c => ?_)
  rw [if_neg (of_decide_eq_false c)]
  refine wp_bindE (ρ' := [_, _, _, _, _, _, _, _, _, _, dI a]) (sh_fld1 (off := 1) rfl rfl) rfl rfl ?_
  refine wp_bindE (ρ' := [_, _, _, _, _, _, _, _, _, _, _, _]) sk_gtr rfl rfl ?_
  refine wp_iteC rfl (fun c => wr_retI rfl (by rw [if_pos (of_decide_eq_true c)])) (fun c => ?_)
  rw [if_neg (of_decide_eq_false c)]
  refine wp_bindE (ρ' := [_, _, _, _, _, _, _, _, _, _, _, _, dI b]) (sh_fld1 (off := 2) rfl rfl) rfl rfl ?_
  refine wp_bindE (ρ' := [_, _, _, _, _, _, _, _, _, _, _, _, _, _]) sk_lss rfl rfl ?_
  refine wp_iteC rfl (fun c => wr_retI rfl (by rw [if_pos (of_decide_eq_true c)])) (fun c => ?_)
  rw [if_neg (of_decide_eq_false c)]
  refine wp_bindE (ρ' := [_, _, _, _, _, _, _, _, _, _, _, _, _, _, dI b]) (sh_fld1 (off := 2) rfl rfl) rfl rfl ?_
  refine wp_bindE (ρ' := [_, _, _, _, _, _, _, _, _, _, _, _, _, _, _, _]) sk_gtr rfl rfl ?_
  refine wp_iteC rfl (fun c => wr_retI rfl (by rw [if_pos (of_decide_eq_true c)])) (fun c => ?_)
  rw [if_neg (of_decide_eq_false c)]
  refine wp_bindE (ρ' := [_, _, _, _, _, _, _, _, _, _, _, _, _, _, _, _, recs]) (sh_fld1 (off := 3) rfl hs.one) rfl rfl ?_
  refine wp_bindE (ρ' := [_, _, _, _, _, _, _, _, _, _, _, _, _, _, _, _, _, dI ((recs.es.length : Nat) : Int)]) (sh_len hs) rfl rfl ?_
  exact wp_jumpTo rfl (loop 0 (Nat.zero_le _))
set_option maxHeartbeats 1000000 in
theorem h7 (hp : IsPr ps docs) (hr : IsInts recs) : Holds EE 7 [.agg ps, .agg (planD k a b recs w)] (dI (resA docs.es k a b w recs.es)) := by
  obtain ⟨hs, hl, he⟩ := hr
  have loop : ∀ i, i ≤ recs.es.length → Goes EE (Holds EE) u7Ts 1 [dI ((i : Nat) : Int), .agg ps, .agg (planD k a b recs w)] (dI (res docs.es w (prv recs.es i) (recs.es.drop i))) := by
    refine loop_up (P := fun i => i ≤ recs.es.length → Goes EE (Holds EE) u7Ts 1 [dI ((i : Nat) : Int), .agg ps, .agg (planD k a b recs w)] (dI (res docs.es w (prv recs.es i) (recs.es.drop i)))) recs.es.length (fun i ih => ?_)
    intro hi
    refine Goes.step' ?_
    show wp _ _ _ u7T1 _
    refine wp_bindE (ρ' := [_, _, _, recs]) (sh_fld1 (off := 3) rfl hs.one) rfl rfl ?_
    refine wp_bindE (ρ' := [_, _, _, _, dI ((recs.es.length : Nat) : Int)]) (sh_len hs) rfl rfl ?_
    refine wp_bindE (ρ' := [_, _, _, _, _, _]) sk_lss rfl rfl ?_
    refine wp_iteC rfl (fun c => ?_) (fun c => ?_)
    · replace c : ((i : Nat) : Int) < ((recs.es.length : Nat) : Int) := of_decide_eq_true c
      obtain ⟨x, hx⟩ : ∃ x, recs.es[i]? = some x := ⟨_, List.getElem?_eq_getElem (by omega)⟩
      obtain ⟨n, rfl⟩ := he x (List.mem_of_getElem? hx)
      refine wp_bindE (ρ' := [_, _, _, _, _, _, _]) sk_gtr rfl rfl ?_
      refine wp_iteC rfl (fun c2 => ?_) (fun c2 => ?_)
      · replace c2 : ((i : Nat) : Int) > 0 := of_decide_eq_true c2
        obtain ⟨j, rfl⟩ : ∃ j, i = j + 1 := ⟨i - 1, by omega⟩
        obtain ⟨y, hy⟩ : ∃ y, recs.es[j]? = some y := ⟨_, List.getElem?_eq_getElem (by omega)⟩
        obtain ⟨m, rfl⟩ := he y (List.mem_of_getElem? hy)
        have hpr : prv recs.es (j + 1) = some m := by simp only [prv, hy, Option.map_some, numD]
        refine wp_bindE (ρ' := [_, _, _, _, _, _, _, recs]) (sh_fld1 (off := 3) rfl hs.one) rfl rfl ?_
        refine wp_bindE (ρ' := [_, _, _, _, _, _, _, _, dB true]) (sh_inr hx) rfl rfl ?_
        refine wp_bindE (ρ' := [_, _, _, _, _, _, _, _, _, dI n]) (sh_elem1 hs hx rfl) rfl rfl ?_
        refine wp_bindE (ρ' := [_, _, _, _, _, _, _, _, _, _, recs]) (sh_fld1 (off := 3) rfl hs.one) rfl rfl ?_
        refine wp_bindE (ρ' := [_, _, _, _, _, _, _, _, _, _, _, dI ((j : Nat) : Int)]) (by rw [show dI ((j : Nat) : Int) = dI (((j + 1 : Nat) : Int) - 1) by congr 2; omega]; exact si_sub (by omega)) rfl rfl ?_
        refine wp_bindE (ρ' := [_, _, _, _, _, _, _, _, _, _, _, _, dB true]) (sh_inr hy) rfl rfl ?_
        refine wp_bindE (ρ' := [_, _, _, _, _, _, _, _, _, _, _, _, _, dI m]) (sh_elem1 hs hy rfl) rfl rfl ?_
        refine wp_bindE (ρ' := [_, _, _, _, _, _, _, _, _, _, _, _, _, _, _]) sk_leq rfl rfl ?_
        refine wp_iteC rfl (fun c3 => ?_) (fun c3 => ?_)
        · replace c3 : n ≤ m := of_decide_eq_true c3
          exact wr_retI rfl (res_ord hx hpr c3).symm
        · replace c3 : ¬ n ≤ m := of_decide_eq_false c3
          have hb : ∀ q, prv recs.es (j + 1) = some q → ¬ numD (dI n) ≤ q := fun q hq => by rw [hpr] at hq; cases hq; exact c3
          refine wp_bindE (ρ' := [_, _, _, _, _, _, _, _, _, _, _, _, _, _, _, recs]) (sh_fld1 (off := 3) rfl hs.one) rfl rfl ?_
          refine wp_bindE (ρ' := [_, _, _, _, _, _, _, _, _, _, _, _, _, _, _, _, dB true]) (sh_inr hx) rfl rfl ?_
          refine wp_bindE (ρ' := [_, _, _, _, _, _, _, _, _, _, _, _, _, _, _, _, _, dI n]) (sh_elem1 hs hx rfl) rfl rfl ?_
          refine wp_callE (ρ' := [_, _, _, _, _, _, _, _, _, _, _, _, _, _, _, _, _, _, dB (hasId docs.es n)]) (h20 (r := n) hp) rfl rfl rfl rfl ?_
          refine wp_bindE (ρ' := [_, _, _, _, _, _, _, _, _, _, _, _, _, _, _, _, _, _, _, dB (!(hasId docs.es n))]) sh_not rfl rfl ?_
          refine wp_iteC rfl (fun c4 => ?_) (fun c4 => ?_)
          · exact wr_retI rfl (res_no hx hb (by show hasId docs.es n = _; simpa using c4)).symm
          · refine wp_bindE (ρ' := [_, _, _, _, _, _, _, _, _, _, _, _, _, _, _, _, _, _, _, _, dI ((j + 1 + 1 : Nat) : Int)]) (sh_add (cap_bd' (by omega))) rfl rfl ?_
            rw [res_step hx hb (by show hasId docs.es n = _; simpa using c4)]
            exact wp_jumpTo rfl (ih (by omega) (by omega))
      · replace c2 : ¬ (((i : Nat) : Int) > 0) := of_decide_eq_false c2
        obtain rfl : i = 0 := by omega
        have hb : ∀ q, prv recs.es 0 = some q → ¬ numD (dI n) ≤ q := fun q hq => by cases hq
        refine wp_bindE (ρ' := [_, _, _, _, _, _, _, recs]) (sh_fld1 (off := 3) rfl hs.one) rfl rfl ?_
        refine wp_bindE (ρ' := [_, _, _, _, _, _, _, _, dB true]) (sh_inr hx) rfl rfl ?_
        refine wp_bindE (ρ' := [_, _, _, _, _, _, _, _, _, dI n]) (sh_elem1 hs hx rfl) rfl rfl ?_
        refine wp_callE (ρ' := [_, _, _, _, _, _, _, _, _, _, dB (hasId docs.es n)]) (h20 (r := n) hp) rfl rfl rfl rfl ?_
        refine wp_bindE (ρ' := [_, _, _, _, _, _, _, _, _, _, _, dB (!(hasId docs.es n))]) sh_not rfl rfl ?_
        refine wp_iteC rfl (fun c4 => ?_) (fun c4 => ?_)
        · exact wr_retI rfl (res_no hx hb (by show hasId docs.es n = _; simpa using c4)).symm
        · refine wp_bindE (ρ' := [_, _, _, _, _, _, _, _, _, _, _, _, dI ((0 + 1 : Nat) : Int)]) (sh_add (cap_bd' (by omega))) rfl rfl ?_
          rw [res_step hx hb (by show hasId docs.es n = _; simpa using c4)]
          exact wp_jumpTo rfl (ih (by omega) (by omega))
    · replace c : ¬ (((i : Nat) : Int) < ((recs.es.length : Nat) : Int)) := of_decide_eq_false c
      rw [res_end (by omega)]
      refine wp_bindE (ρ' := [_, _, _, _, _, _, dI w]) (sh_fld1 (off := 4) rfl rfl) rfl rfl ?_
      refine wp_bindE (ρ' := [_, _, _, _, _, _, _, _]) sk_lss rfl rfl ?_
      refine wp_iteC rfl (fun c2 => ?_) (fun c2 => ?_)
      · exact wr_retI rfl (by rw [if_pos (of_decide_eq_true c2)])
      · rw [if_neg (of_decide_eq_false c2)]
        refine wp_bindE (ρ' := [_, _, _, _, _, _, _, _, dI w]) (sh_fld1 (off := 4) rfl rfl) rfl rfl ?_
        refine wp_bindE (ρ' := [_, _, _, _, _, _, _, _, _, _]) sk_gtr rfl rfl ?_
        refine wp_iteC rfl (fun c3 => ?_) (fun c3 => ?_)
        · exact wr_retI rfl (by rw [if_pos (of_decide_eq_true c3)])
        · exact wr_retI rfl (by rw [if_neg (of_decide_eq_false c3)])
  refine u7 rfl (Goes.step' ?_)
  show wp _ _ _ u7T0 _
  unfold resA
  refine wp_bindE (ρ' := [_, _, .agg ps]) (sh_chkW hp.len) rfl rfl ?_
  refine wp_bindE (ρ' := [_, _, _, .agg (planD k a b recs w)]) (sh_chkW rfl) rfl rfl ?_
  refine wp_bindE (ρ' := [_, _, _, _, dI k]) (sh_fld1 (off := 0) rfl rfl) rfl rfl ?_
  refine wp_bindE (ρ' := [_, _, _, _, _, _]) sk_lss rfl rfl ?_
  refine wp_iteC rfl (fun c => wr_retI rfl (by rw [if_pos (of_decide_eq_true c)])) (fun c => ?_)
  rw [if_neg (of_decide_eq_false c)]
  refine wp_bindE (ρ' := [_, _, _, _, _, _, dI k]) (sh_fld1 (off := 0) rfl rfl) rfl rfl ?_
  refine wp_bindE (ρ' := [_, _, _, _, _, _, _, _]) sk_gtr rfl rfl ?_
  refine wp_iteC rfl (fun c => wr_retI rfl (by rw [if_pos (of_decide_eq_true c)])) (fun c => ?_)
  rw [if_neg (of_decide_eq_false c)]
  refine wp_bindE (ρ' := [_, _, _, _, _, _, _, _, dI a]) (sh_fld1 (off := 1) rfl rfl) rfl rfl ?_
  refine wp_bindE (ρ' := [_, _, _, _, _, _, _, _, _, _]) sk_lss rfl rfl ?_
  refine wp_iteC rfl (fun c => wr_retI rfl (by rw [if_pos (of_decide_eq_true c)])) (fun c => ?_)
  rw [if_neg (of_decide_eq_false c)]
  refine wp_bindE (ρ' := [_, _, _, _, _, _, _, _, _, _, dI a]) (sh_fld1 (off := 1) rfl rfl) rfl rfl ?_
  refine wp_bindE (ρ' := [_, _, _, _, _, _, _, _, _, _, _, _]) sk_gtr rfl rfl ?_
  refine wp_iteC rfl (fun c => wr_retI rfl (by rw [if_pos (of_decide_eq_true c)])) (fun c => ?_)
  rw [if_neg (of_decide_eq_false c)]
  refine wp_bindE (ρ' := [_, _, _, _, _, _, _, _, _, _, _, _, dI b]) (sh_fld1 (off := 2) rfl rfl) rfl rfl ?_
  refine wp_bindE (ρ' := [_, _, _, _, _, _, _, _, _, _, _, _, _, _]) sk_lss rfl rfl ?_
  refine wp_iteC rfl (fun c => wr_retI rfl (by rw [if_pos (of_decide_eq_true c)])) (fun c => ?_)
  rw [if_neg (of_decide_eq_false c)]
  refine wp_bindE (ρ' := [_, _, _, _, _, _, _, _, _, _, _, _, _, _, dI b]) (sh_fld1 (off := 2) rfl rfl) rfl rfl ?_
  refine wp_bindE (ρ' := [_, _, _, _, _, _, _, _, _, _, _, _, _, _, _, _]) sk_gtr rfl rfl ?_
  refine wp_iteC rfl (fun c => wr_retI rfl (by rw [if_pos (of_decide_eq_true c)])) (fun c => ?_)
  rw [if_neg (of_decide_eq_false c)]
  exact wp_jumpTo rfl (loop 0 (Nat.zero_le _))
end
theorem h3 {ps : List D} {docs recs : D} {k a b w : Int} (hp : IsPr ps docs) (hr : IsInts recs) (hl : ∃ t, Holds EE 4 [.agg ps] (dB t)) (hw : Holds EE 5 [] (dB true)) : Holds EE 3 [.agg ps, .agg (planD k a b recs w)] (dB true) := by
  obtain ⟨t, k4⟩ := hl
  refine u3 rfl (Goes.step' ?_)
  show wp _ _ _ u3T0 _
  refine wp_bindE (ρ' := [_, _, .agg ps]) (sh_chkW hp.len) rfl rfl ?_
  refine wp_bindE (ρ' := [_, _, _, .agg (planD k a b recs w)]) (sh_chkW rfl) rfl rfl ?_
  refine wp_bindE (ρ' := [_, _, _, _, recs]) (sh_fld1 (off := 3) rfl hr.1.one) rfl rfl ?_
  refine wp_bindE (ρ' := [_, _, _, _, _, dI ((recs.es.length : Nat) : Int)]) (sh_len hr.1) rfl rfl ?_
  refine wp_bindE (ρ' := [_, _, _, _, _, _, _]) sk_gtr rfl rfl ?_
  refine wp_iteC rfl (fun c => ?_) (fun c => ?_)
  · refine wp_callE (ρ' := [_, _, _, _, _, _, _, dB true]) hw rfl rfl rfl rfl ?_
    exact wp_retTo2 rfl rfl
  · refine wp_callE (ρ' := [_, _, _, _, _, _, _, dB t]) k4 rfl rfl rfl rfl ?_
    refine wp_bindE (ρ' := [_, _, _, _, _, _, _, _, dB (!t)]) sh_not rfl rfl ?_
    refine wp_iteC rfl (fun c => ?_) (fun c => ?_)
    · refine wp_callE (ρ' := [_, _, _, _, _, _, _, _, _, dB true]) hw rfl rfl rfl rfl ?_
      exact wp_retTo2 rfl rfl
    · refine wp_callE (ρ' := [_, _, _, _, _, _, _, _, _, dI (resA docs.es k a b w recs.es)]) (h6 hp hr) rfl rfl rfl rfl ?_
      refine wp_callE (ρ' := [_, _, _, _, _, _, _, _, _, _, dI (resA docs.es k a b w recs.es)]) (h7 hp hr) rfl rfl rfl rfl ?_
      refine wp_bindE (ρ' := [_, _, _, _, _, _, _, _, _, _, _, _]) sk_eql rfl rfl ?_
      refine wp_iteC rfl (fun c => ?_) (fun c => ?_)
      · refine wp_callE (ρ' := [_, _, _, _, _, _, _, _, _, _, _, _, dB true]) hw rfl rfl rfl rfl ?_
        exact wp_retTo2 rfl rfl
      · exact absurd rfl (of_decide_eq_false c)
end Go.Proofs.YtbkinfgpcjjaaaaGreatDoor
