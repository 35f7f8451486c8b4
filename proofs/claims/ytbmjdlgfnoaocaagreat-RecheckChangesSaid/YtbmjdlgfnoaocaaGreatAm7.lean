/- Runs along a given path: what is claimed of single operations is collected. Conditions: none. -/
import Derived.Test.YtbmjdlgfnoaocaaGreatAm6
import Derived.ReadAgain
import Derived.ChangeSame
import Derived.ChangeOld
import Derived.ProofKit
set_option linter.unusedVariables false
set_option linter.unusedSimpArgs false
namespace Go.Am
open Go
theorem execR_of {E : Env} {ih : Cmd → AH → Res} {fr : Fr} {o : Oper} {H : AH} {r : Value × AH} (h : execA E ih fr o H = some r) : execR E ih fr o H = some r := by
  unfold execR
  split
  · rename_i h1
    unfold execA at h
    rw [h1] at h
    cases h
  · exact h
inductive Claim where
  | val (d : Nat) (v : Value)
  | heap (H : AH)
  | both (d : Nat) (v : Value) (H : AH)
abbrev TapeA := List Claim
abbrev Fol (α : Type) := Option (α × TapeA × List Prop)
def Fol.add {α : Type} (p : Prop) : Fol α → Fol α
  | some (r, tp, P) => some (r, tp, p :: P)
  | none => none
def Fol.app {α : Type} (P : List Prop) : Fol α → Fol α
  | some (r, tp, Q) => some (r, tp, P ++ Q)
  | none => none
end Go.Am
namespace Go.Am
open Go
theorem funcs_below : ∀ (fs : List Func) (n : Nat) (t : T Func) (k : Nat), k < n → (funcsFrom fs n t).get k = t.get k
  | [], _, _, _, _ => rfl
  | f :: fs, n, t, k, h => by
    simp only [funcsFrom]
    rw [funcs_below fs (n + 1) _ k (by omega)]
    split
    · cases (f.name == "runtime.NumGoroutine" || !regsOk _) with
      | true => rfl
      | false => simp only [cond_false]; rw [T.get_put, if_neg (by omega)]
    · rfl
theorem funcs_at : ∀ (fs : List Func) (n : Nat) (t : T Func) (k : Nat) (fn : Func) (c : Code), n ≤ k → fs[k - n]? = some fn → fn.body = some c →
    (fn.name == "runtime.NumGoroutine" || !regsOk c) = false → (funcsFrom fs n t).get k = some fn
  | [], n, t, k, fn, c, _, h, _, _ => by simp at h
  | f :: fs, n, t, k, fn, c, hn, h, hb, hc => by
    simp only [funcsFrom]
    by_cases e : n = k
    · subst e
      simp only [Nat.sub_self, List.getElem?_cons_zero, Option.some.injEq] at h
      subst h
      rw [funcs_below fs (n + 1) _ n (Nat.lt_succ_self _), hb]
      simp only [hc, cond_false]
      rw [T.get_put, if_pos rfl]
    · refine funcs_at fs (n + 1) _ k fn c (by omega) ?_ hb hc
      have : k - n = (k - (n + 1)) + 1 := by omega
      rw [this] at h
      simpa using h
theorem envFunc {P : Program} {f : FuncId} {fn : Func} {c : Code} (h : P.funcs[f]? = some fn) (hb : fn.body = some c) (hc : (fn.name == "runtime.NumGoroutine" || !regsOk c) = false) :
    (envOf P).funcs.get f = some fn :=
  funcs_at _ _ _ _ _ _ (Nat.zero_le _) (by simpa using h) hb hc
section
variable {E : Env}
def LocOK (E : Env) (w : World) (cs : List Value) (el : TypeId) (L : Loc) : Prop :=
  cs.all (fun v => leafV v && oneCell v) = true ∧ (∃ ccs cel fz, w.heap[L.blk]? = some (.cells ccs cel fz) ∧ L.off + L.ext ≤ ccs.size ∧ ∀ i v, cs[i]? = some v → ccs[L.off + i]? = some v) ∧
  cs.length ≤ L.ext ∧ ∀ ti, E.types.get el = some ti → L.sz = ti.size
theorem LocOK.kept {w w' : World} {cs : List Value} {el : TypeId} {L : Loc} (h : LocOK E w cs el L) (k : Kept w w') : LocOK E w' cs el L := by
  obtain ⟨h1, ⟨ccs, cel, fz, g1, g2, g3⟩, h3, h4⟩ := h
  refine ⟨h1, ⟨ccs, cel, fz, ?_, g2, g3⟩, h3, h4⟩
  rw [k.old _ (Array.getElem?_eq_some_iff.1 g1).1]; exact g1
theorem ofList_getA {α : Type} : ∀ (xs : List α) (t : T α) (n i : Nat), (T.ofList t n xs).get i = if n ≤ i ∧ i < n + xs.length then xs[i - n]? else t.get i
  | [], t, n, i => by
    simp only [T.ofList, List.length_nil, Nat.add_zero]
    rw [if_neg (by omega)]
  | x :: xs, t, n, i => by
    simp only [T.ofList]
    rw [ofList_getA xs (t.put n (some x)) (n + 1) i, T.get_put]
    by_cases h1 : i = n
    · subst h1
      rw [if_neg (by omega), if_pos rfl, if_pos (by simp)]
      simp
    · rw [if_neg h1]
      by_cases h2 : n + 1 ≤ i ∧ i < n + 1 + xs.length
      · rw [if_pos h2, if_pos (by simp; omega)]
        have : i - n = (i - (n + 1)) + 1 := by omega
        rw [this]; simp
      · rw [if_neg h2, if_neg (by simp; omega)]
end
end Go.Am
namespace Go.Am
open Go
section
variable {H : Type} {enc : TypeId × Value → H} {P : Program} {W W' : World}
theorem Kept.sameAt (k : Kept W W') {p : MemPlace} (hp : p.block < W.heap.size) : W.sameAt W' p := by
  cases p with
  | cell b off =>
    have h := k.old b hp
    simp only [World.sameAt, World.cell?, h]
  | map b => exact k.old b hp
theorem Kept.keptBut (k : Kept W W') (may : MemPlace → Prop) : W.keptBut W' may := by
  refine ⟨k.os, k.output.1, fun i hi => ?_⟩
  rw [k.old i hi]
  obtain ⟨o, ho⟩ : ∃ o, W.heap[i]? = some o := ⟨W.heap[i], Array.getElem?_eq_getElem hi⟩
  rw [ho]
  cases o with
  | cells c t fr => exact ⟨rfl, rfl, rfl, fun _ _ => rfl⟩
  | map es cl => exact .inr ⟨rfl, rfl⟩
  | _ => rfl
theorem Kept.frozen (k : Kept W W') {a : Addr} (ha : a.block < W.heap.size) : W'.frozen? a = W.frozen? a := by
  unfold World.frozen?
  rw [k.old _ ha]
theorem trodAll_carry {sp : Nat → Bool} {base : Nat} {held : Bool} : ∀ {ts : List TypeId} {vs : List Value} {ds : List (DataW H)} {ps : List MemPlace}, DataW.TrodAll enc P W base sp held ts vs ds ps →
    (∀ p ∈ ps, W.sameAt W' p) → DataW.TrodAll enc P W' base sp held ts vs ds ps
  | [], [], [], _, h, _ => h
  | _ :: _, _ :: _, _ :: _, _, ⟨p, q, ⟨n, h1⟩, h2, e⟩, hs =>
    ⟨p, q, ⟨n, DataW.trod_carry n _ _ _ h1 (fun x hx => hs x (by rw [e]; exact List.mem_append_left _ hx))⟩, trodAll_carry h2 (fun x hx => hs x (by rw [e]; exact List.mem_append_right _ hx)), e⟩
theorem trodAll_again (hl : laidOutB P = true) (hm : mapsRowed P = true) (hz : ∀ t e, t < P.types.size → P.underlying t = some (.slice e) → 0 < P.cellsOf e) {ts : List TypeId} (hts : ∀ t ∈ ts, t < P.types.size)
    {vs : List Value} {ds : List (DataW H)} {ps : List MemPlace} (h : DataW.TrodAll enc P W 0 (fun _ => true) true ts vs ds ps) (k : Kept W W') {sp : Nat → Bool} (hs : ∀ p ∈ ps, sp p.block = true) :
    DataW.TrodAll enc P W' 0 sp true ts vs ds ps :=
  DataW.TrodAll.respare (kids_rows hl hm) hz hts (trodAll_carry h fun p hp => k.sameAt (DataW.TrodAll.lt h p hp)) hs
theorem post_of_kept {f : Func} {s : ChangeSpec} {apart fresh handsOn again : Bool} {args : Array Value} {v : Value} {ds gs : List (DataW H)} {before pa pv : List MemPlace}
    (hW : DataW.Whole enc P f.params.toList s.vars apart W args.toList ds gs before)
    (hres : ∀ (b : Nat) (sp : Nat → Bool) (hd : Bool), DataW.TrodAll enc P W' b sp hd f.resultTypes.toList (v.resultList f.resultTypes.size) (s.fn H (ds ++ gs)).results [])
    (hargs : ∀ sp : Nat → Bool, (∀ p ∈ before, sp p.block = true) → DataW.TrodAll enc P W' 0 sp true f.params.toList args.toList (s.fn H (ds ++ gs)).args pa)
    (hvars : ∀ sp : Nat → Bool, (∀ p ∈ before, sp p.block = true) → DataW.TrodVars enc P W' sp s.vars (s.fn H (ds ++ gs)).vars pv)
    (hps : before = pa ++ pv) (k : Kept W W')
    (hok : ∀ (j : Nat) (t : TypeId) (r : Value), f.resultTypes[j]? = some t → (v.resultList f.resultTypes.size)[j]? = some r → Value.okWide P W' .any 0 t r) :
    s.post enc P f apart fresh handsOn again W args v W' := by
  have hold : ∀ p ∈ before, (fun b => decide (b < W.heap.size)) p.block = true := fun p hp => by simpa using hW.lt p hp
  have hlt := hW.lt
  refine ⟨ds, gs, before, [], pa, pv, hW, hres _ _ _, hargs _ hold, hvars _ hold, World.keptBut_mono (fun p hp => ⟨hp, ?_⟩) (k.keptBut (· ∈ before)), fun _ => ?_⟩
  · rw [hps, List.mem_append] at hp
    exact Or.inr hp
  · obtain ⟨_, _, _, _, _, hz, hn⟩ := hW
    refine ⟨hok, _, _, ([] ++ pa) ++ pv, ⟨[] ++ pa, pv, ChangeShapes.trodAll_append (hargs _ (fun _ _ => rfl)) (hres _ _ _), hvars _ (fun _ _ => rfl), rfl, ?_, ?_⟩, ?_⟩
    · intro b off hp
      have hp' : MemPlace.cell b off ∈ before := by rw [hps]; simpa using hp
      rw [k.frozen (hlt _ hp')]
      exact hz b off hp'
    · intro ha
      have := hn ha
      rw [hps] at this
      simpa using this
    · intro p hp _
      rw [hps]
      simpa using hp
end
end Go.Am
