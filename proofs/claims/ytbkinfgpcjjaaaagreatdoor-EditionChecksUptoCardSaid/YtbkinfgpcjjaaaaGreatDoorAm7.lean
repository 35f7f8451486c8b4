/- Runs along a given path: what is claimed of single operations is collected. Conditions: none. -/
import Derived.Test.YtbkinfgpcjjaaaaGreatDoorAm6
set_option linter.all false
namespace Go.Am
open Go
theorem execR_of {E : Env} {ih : Cmd → AH → Res} {fr : Fr} {o : Oper} {H : AH} {r : Value × AH} (h : execA E ih fr o H = some r) : execR E ih fr o H = some r := by
  unfold execR
  split
  · rename_i h1
    unfold execA at h
    rw [h1] at h
    cases h
  · exact h
inductive Claim where
  | val (d : Nat) (v : Value)
  | heap (H : AH)
  | both (d : Nat) (v : Value) (H : AH)
abbrev TapeA := List Claim
abbrev Fol (α : Type) := Option (α × TapeA × List Prop)
def Fol.add {α : Type} (p : Prop) : Fol α → Fol α
  | some (r, tp, P) => some (r, tp, p :: P)
  | none => none
def Fol.app {α : Type} (P : List Prop) : Fol α → Fol α
  | some (r, tp, Q) => some (r, tp, P ++ Q)
  | none => none
end Go.Am
namespace Go.Am
open Go
theorem funcs_below : ∀ (fs : List Func) (n : Nat) (t : T Func) (k : Nat), k < n → (funcsFrom fs n t).get k = t.get k
  | [], _, _, _, _ => rfl
  | f :: fs, n, t, k, h => by
    simp only [funcsFrom]
    rw [funcs_below fs (n + 1) _ k (by omega)]
    split
    · cases (f.name == "runtime.NumGoroutine" || !regsOk _) with
      | true => rfl
      | false => simp only [cond_false]; rw [T.get_put, if_neg (by omega)]
    · rfl
theorem funcs_at : ∀ (fs : List Func) (n : Nat) (t : T Func) (k : Nat) (fn : Func) (c : Code), n ≤ k → fs[k - n]? = some fn → fn.body = some c →
    (fn.name == "runtime.NumGoroutine" || !regsOk c) = false → (funcsFrom fs n t).get k = some fn
  | [], n, t, k, fn, c, _, h, _, _ => by simp at h
  | f :: fs, n, t, k, fn, c, hn, h, hb, hc => by
    simp only [funcsFrom]
    by_cases e : n = k
    · subst e
      simp only [Nat.sub_self, List.getElem?_cons_zero, Option.some.injEq] at h
      subst h
      rw [funcs_below fs (n + 1) _ n (Nat.lt_succ_self _), hb]
      simp only [hc, cond_false]
      rw [T.get_put, if_pos rfl]
    · refine funcs_at fs (n + 1) _ k fn c (by omega) ?_ hb hc
      have : k - n = (k - (n + 1)) + 1 := by omega
      rw [this] at h
      simpa using h
theorem envFunc {P : Program} {f : FuncId} {fn : Func} {c : Code} (h : P.funcs[f]? = some fn) (hb : fn.body = some c) (hc : (fn.name == "runtime.NumGoroutine" || !regsOk c) = false) :
    (envOf P).funcs.get f = some fn :=
  funcs_at _ _ _ _ _ _ (Nat.zero_le _) (by simpa using h) hb hc
section
variable {E : Env}
def LocOK (E : Env) (w : World) (cs : List Value) (el : TypeId) (L : Loc) : Prop :=
  cs.all (fun v => leafV v && oneCell v) = true ∧ (∃ ccs cel fz, w.heap[L.blk]? = some (.cells ccs cel fz) ∧ L.off + L.ext ≤ ccs.size ∧ ∀ i v, cs[i]? = some v → ccs[L.off + i]? = some v) ∧
  cs.length ≤ L.ext ∧ ∀ ti, E.types.get el = some ti → L.sz = ti.size
theorem LocOK.kept {w w' : World} {cs : List Value} {el : TypeId} {L : Loc} (h : LocOK E w cs el L) (k : Kept w w') : LocOK E w' cs el L := by
  obtain ⟨h1, ⟨ccs, cel, fz, g1, g2, g3⟩, h3, h4⟩ := h
  refine ⟨h1, ⟨ccs, cel, fz, ?_, g2, g3⟩, h3, h4⟩
  rw [k.old _ (Array.getElem?_eq_some_iff.1 g1).1]; exact g1
theorem ofList_getA {α : Type} : ∀ (xs : List α) (t : T α) (n i : Nat), (T.ofList t n xs).get i = if n ≤ i ∧ i < n + xs.length then xs[i - n]? else t.get i
  | [], t, n, i => by
    simp only [T.ofList, List.length_nil, Nat.add_zero]
    rw [if_neg (by omega)]
  | x :: xs, t, n, i => by
    simp only [T.ofList]
    rw [ofList_getA xs (t.put n (some x)) (n + 1) i, T.get_put]
    by_cases h1 : i = n
    · subst h1
      rw [if_neg (by omega), if_pos rfl, if_pos (by simp)]
      simp
    · rw [if_neg h1]
      by_cases h2 : n + 1 ≤ i ∧ i < n + 1 + xs.length
      · rw [if_pos h2, if_pos (by simp; omega)]
        have : i - n = (i - (n + 1)) + 1 := by omega
        rw [this]; simp
      · rw [if_neg h2, if_neg (by simp; omega)]
def conF (f0 : FuncId) (g : List Value → AH → Option Value) (rest : Con) : Con := fun f args H => bif Nat.beq f f0 then (match g args H with | some v => some (v, H) | none => none) else rest f args H
theorem conV_ok {f0 : FuncId} {g : List Value → AH → Option Value} {rest : Con} (hr : ConOK E rest)
    (hg : ∀ args H v, g args H = some v → ∀ (σ : Sig) (w : World) (args' : List Value), HR E σ H w → VRs σ args args' → Calls E.prog f0 ⟨args'⟩ w fun e w' => ∃ v', e = .returned v' ∧ VR σ v v' ∧ Kept w w') :
    ConOK E (conF f0 g rest) := by
  intro f args H v H' h
  simp only [conF] at h
  cases hb : Nat.beq f f0 with
  | true =>
    rw [hb] at h
    simp only [cond_true] at h
    have := Nat.eq_of_beq_eq_true hb
    subst this
    split at h
    · rename_i v1 hv
      cases h
      exact ⟨Nat.le_refl _, call_kept (hg args H _ hv)⟩
    · cases h
  | false =>
    rw [hb] at h
    exact hr f args H v H' h
end
end Go.Am
