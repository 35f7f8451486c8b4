/- What came in, opened: an abstract heap with a block for every list. Conditions: none. -/
import Derived.Test.YtbkinfgpcjjaaaaGreatDoorUn
import Derived.Test.YtbkinfgpcjjaaaaGreatDoorAm8
import Derived.WalkKit
import Derived.OpenShut
import Derived.Deep.Slices
import Derived.Deep.Strs
set_option linter.all false
namespace Go.Am
open Go
def shFs (P : Program) (rec : TypeId → Option (List Sh)) : List Field → List Sh → Option (List Sh)
  | [], acc => some acc
  | f :: r, acc => bif Nat.beq f.offset acc.length then match rec f.type with
    | some s => bif Nat.beq (P.cellsOf f.type) s.length then shFs P rec r (acc ++ s) else none
    | none => none
    else none
def elSh (P : Program) (e : TypeId) (ss : List Sh) : Option Sh := match P.underlying e with
  | some (.struct _) => some (.st ss)
  | some (.array _ _) => none
  | _ => match ss with
    | [s] => some s
    | _ => none
def shCells (P : Program) : Nat → TypeId → Option (List Sh)
  | 0, _ => none
  | n + 1, t => match P.underlying t with
    | some .bool => some [.bool]
    | some (.int k) => some [.int k]
    | some .string => some [.str]
    | some (.slice e) => match shCells P n e with
      | some ss => match elSh P e ss with
        | some s => bif Nat.beq (P.cellsOf e) ss.length && Nat.blt 0 ss.length then some [.sl e ss.length s] else none
        | none => none
      | none => none
    | some (.struct fs) => match shFs P (shCells P n) fs.toList [] with
      | some ss => bif Nat.beq (P.cellsOf t) ss.length then some ss else none
      | none => none
    | _ => none
structure Bk where
  loc : Option Loc
  cs : List Value
  el : TypeId
def Bk.a (k : Bk) : ABlk := ⟨.cells k.cs k.el, 0, false⟩
def hpOf (m : Nat) (L : List Bk) : AH := { blocks := T.ofList .leaf m (L.map Bk.a), next := Nat.add m L.length, low := capX }
def sgOf (m : Nat) (L : List Bk) : Sig := fun b => if b < m then some ⟨b, 0, 0, 0⟩ else L[b - m]?.bind Bk.loc
theorem hpOf_get (m : Nat) (L : List Bk) (b : Nat) : (hpOf m L).blocks.get b = if m ≤ b then L[b - m]?.map Bk.a else none := by
  simp only [hpOf]
  rw [ofList_getA]
  by_cases h : m ≤ b ∧ b < m + (L.map Bk.a).length
  · rw [if_pos h, if_pos h.1, List.getElem?_map]
  · rw [if_neg h]
    by_cases h1 : m ≤ b
    · rw [if_pos h1, List.getElem?_eq_none (by simp at h; omega)]
      rfl
    · rw [if_neg h1]; rfl
theorem hpOf_app {m : Nat} {L L1 : List Bk} : Mem.le (hpOf m L).blocks.get (hpOf m (L ++ L1)).blocks.get := by
  intro b k h
  rw [hpOf_get] at h ⊢
  split at h
  · rename_i hb
    rw [if_pos hb]
    cases hl : L[b - m]? with
    | none => rw [hl] at h; cases h
    | some x =>
      rw [hl] at h
      have : b - m < L.length := (List.getElem?_eq_some_iff.1 hl).1
      rw [List.getElem?_append_left this, hl]; exact h
  · cases h
theorem sgOf_app {m : Nat} {L L1 : List Bk} : Sig.le (sgOf m L) (sgOf m (L ++ L1)) := by
  intro b l h
  unfold sgOf at h ⊢
  split at h
  · rename_i hb; rw [if_pos hb]; exact h
  · rename_i hb
    rw [if_neg hb]
    cases hl : L[b - m]? with
    | none => rw [hl] at h; cases h
    | some x =>
      rw [hl] at h
      have : b - m < L.length := (List.getElem?_eq_some_iff.1 hl).1
      rw [List.getElem?_append_left this, hl]; exact h
def OkL (E : Env) (m : Nat) (W : World) (L : List Bk) : Prop := ∀ (i : Nat) (k : Bk) (l : Loc), L[i]? = some k → k.loc = some l → ∃ o, W.heap[l.blk]? = some o ∧ ObjR E (sgOf m L) l false (.cells k.cs k.el) o
theorem OkL.snoc {E : Env} {m : Nat} {W : World} {L : List Bk} {k : Bk} (h : OkL E m W L) (hk : ∀ l, k.loc = some l → ∃ o, W.heap[l.blk]? = some o ∧ ObjR E (sgOf m L) l false (.cells k.cs k.el) o) : OkL E m W (L ++ [k]) := by
  intro i k' l hi hl
  rcases Nat.lt_or_ge i L.length with hlt | hge
  · rw [List.getElem?_append_left hlt] at hi
    obtain ⟨o, h1, h2⟩ := h i k' l hi hl
    exact ⟨o, h1, h2.mono sgOf_app⟩
  · rw [List.getElem?_append_right hge] at hi
    have : i - L.length = 0 := by
      rcases Nat.eq_zero_or_pos (i - L.length) with h | h
      · exact h
      · rw [List.getElem?_eq_none (by simp; omega)] at hi; cases hi
    rw [this] at hi
    simp only [List.getElem?_cons_zero, Option.some.injEq] at hi
    subst hi
    obtain ⟨o, h1, h2⟩ := hk l hl
    exact ⟨o, h1, h2.mono sgOf_app⟩
theorem hasShs_len : ∀ {fs : List Sh} {cs : List D}, HasShs fs cs → cs.length = fs.length
  | [], cs, h => by simp only [HasShs] at h; rw [h]; rfl
  | s :: ss, cs, h => by
    simp only [HasShs] at h
    obtain ⟨d, ds, rfl, _, h2⟩ := h
    simp [hasShs_len h2]
theorem hasShs_app : ∀ {ss ts : List Sh} {ds es : List D}, HasShs ss ds → HasShs ts es → HasShs (ss ++ ts) (ds ++ es)
  | [], _, ds, es, h, h' => by simp only [HasShs] at h; subst h; exact h'
  | s :: ss, _, ds, es, h, h' => by
    simp only [HasShs] at h
    obtain ⟨d, ds, rfl, h1, h2⟩ := h
    simp only [List.cons_append, HasShs]
    exact ⟨d, ds ++ es, rfl, h1, hasShs_app h2 h'⟩
theorem vrs_app {σ : Sig} : ∀ {l l' k k' : List Value}, VRs σ l l' → VRs σ k k' → VRs σ (l ++ k) (l' ++ k')
  | _, _, _, _, .nil, h => h
  | _, _, _, _, .cons h hs, h' => .cons h (vrs_app hs h')
section
variable {E : Env} {H : Type} {enc : TypeId × Value → H} {P : Program} {W : World} {m : Nat}
def Opened (E : Env) (m : Nat) (W : World) (L0 : List Bk) (ss : List Sh) (cs : List Value) : Prop :=
  ∃ (L1 : List Bk) (vs : List Value) (ds : List D), OkL E m W (L0 ++ L1) ∧ VRs (sgOf m (L0 ++ L1)) vs cs ∧ DRs (hpOf m (L0 ++ L1)).blocks.get ds vs ∧ HasShs ss ds ∧ vs.all oneCell = true
theorem Opened.app {L0 : List Bk} {ss ts : List Sh} {cs es : List Value} (h1 : Opened E m W L0 ss cs) (h2 : ∀ L, OkL E m W L → Opened E m W L ts es) : Opened E m W L0 (ss ++ ts) (cs ++ es) := by
  obtain ⟨L1, vs, ds, a1, a2, a3, a4, a5⟩ := h1
  obtain ⟨L2, us, xs, b1, b2, b3, b4, b5⟩ := h2 _ a1
  refine ⟨L1 ++ L2, vs ++ us, ds ++ xs, ?_, ?_, ?_, hasShs_app a4 b4, ?_⟩
  · rw [← List.append_assoc]; exact b1
  · rw [← List.append_assoc]; exact vrs_app (a2.mono sgOf_app) b2
  · rw [← List.append_assoc]; exact (a3.mono hpOf_app).append b3
  · rw [List.all_append, a5, b5]; rfl
def mkE (st : Bool) (ds : List D) : D := bif st then .agg ds else ds.headD .nil
theorem elSh_mk {e : TypeId} {ss : List Sh} {s : Sh} {n : Nat} (hn : shCells P n e = some ss) (h : elSh P e ss = some s) : ∃ st, ∀ ds, HasShs ss ds → HasSh s (mkE st ds) ∧ (mkE st ds).cells = ds := by
  unfold elSh at h
  split at h
  · rename_i fs hu
    simp only [Option.some.injEq] at h
    subst h
    exact ⟨true, fun ds hd => ⟨⟨ds, rfl, hd⟩, rfl⟩⟩
  · cases h
  · rename_i h1 h2
    split at h
    case h_2 => cases h
    rename_i s'
    simp only [Option.some.injEq] at h
    subst h
    refine ⟨false, fun ds hd => ?_⟩
    simp only [HasShs] at hd
    obtain ⟨d, l, rfl, hd, rfl⟩ := hd
    refine ⟨hd, ?_⟩
    show D.cells d = [d]
    have hone : ∀ fs, s' ≠ .st fs := by
      intro fs e0
      cases n with
      | zero => cases hn
      | succ n =>
        simp only [shCells] at hn
        split at hn
        · cases hn; cases e0
        · cases hn; cases e0
        · cases hn; cases e0
        · split at hn
          · split at hn
            · rename_i s1 _
              cases hc : (Nat.beq (P.cellsOf _) (List.length _) && Nat.blt 0 (List.length _)) with
              | _ =>
                rw [hc] at hn
                first
                  | (simp only [cond_true, Option.some.injEq, List.cons.injEq] at hn; rw [← hn.1] at e0; cases e0)
                  | (cases hn)
            · cases hn
          · cases hn
        · rename_i fs' hu
          exact absurd hu (h1 fs')
        · cases hn
    cases s' with
    | int k => simp only [HasSh] at hd; obtain ⟨n, rfl⟩ := hd; rfl
    | bool => simp only [HasSh] at hd; obtain ⟨n, rfl⟩ := hd; rfl
    | str => simp only [HasSh] at hd; obtain ⟨n, rfl⟩ := hd; rfl
    | st fs => exact absurd rfl (hone fs)
    | sl el sz e => simp only [HasSh] at hd; rcases hd with rfl | ⟨es, rfl, _⟩ <;> rfl
end
end Go.Am
namespace Go.Am
open Go
section
variable {E : Env} {H : Type} {enc : TypeId × Value → H} {P : Program} {W : World} {m : Nat}
theorem flatten_get {n sz : Nat} (f : Nat → List Value) (hf : ∀ i, i < n → (f i).length = sz) (hz : 0 < sz) : ∀ (i : Nat), i < n * sz → (((List.range n).map f).flatten)[i]? = (f (i / sz))[i % sz]? := by
  have key : ∀ (l : List (List Value)), (∀ c ∈ l, c.length = sz) → ∀ i, l.flatten[i]? = (l[i / sz]?.getD [])[i % sz]? := by
    intro l
    induction l with
    | nil => intro _ i; simp
    | cons c l ih =>
      intro h i
      have hc := h c List.mem_cons_self
      rw [List.flatten_cons]
      rcases Nat.lt_or_ge i sz with hi | hi
      · rw [List.getElem?_append_left (by omega), Nat.div_eq_of_lt hi, Nat.mod_eq_of_lt hi]
        rfl
      · rw [List.getElem?_append_right (by omega), ih (fun d hd => h d (List.mem_cons_of_mem _ hd)), hc]
        have e1 : i / sz = (i - sz) / sz + 1 := by
          rw [Nat.div_eq_sub_div hz hi]
        have e2 : i % sz = (i - sz) % sz := Nat.mod_eq_sub_mod hi
        rw [e1, e2]; rfl
  intro i hi
  rw [key _ (fun c hc => by
    obtain ⟨j, hj, rfl⟩ := List.mem_map.1 hc
    exact hf j (List.mem_range.1 hj))]
  have hd : i / sz < n := Nat.div_lt_of_lt_mul (by rw [Nat.mul_comm]; exact hi)
  rw [List.getElem?_map, List.getElem?_range hd]
  rfl
theorem vrs_at {σ : Sig} {vs cs : List Value} (h : VRs σ vs cs) {i : Nat} {v : Value} (hv : vs[i]? = some v) : ∃ v', cs[i]? = some v' ∧ VR σ v v' := h.get i v hv
theorem take?_all : ∀ (l : List Value) (n : Nat), n = l.length → take? l n = some l
  | [], 0, _ => rfl
  | [], _ + 1, h => by simp at h
  | _ :: _, 0, h => by simp at h
  | x :: l, n + 1, h => by
    simp only [take?, take?_all l n (by simpa using h), Option.map_some]
theorem flatten_len {sz : Nat} : ∀ l : List (List Value), (∀ c ∈ l, c.length = sz) → l.flatten.length = l.length * sz
  | [], _ => by simp
  | c :: l, h => by
    rw [List.flatten_cons, List.length_append, h c List.mem_cons_self, flatten_len l (fun d hd => h d (List.mem_cons_of_mem _ hd)), List.length_cons, Nat.succ_mul, Nat.add_comm]
theorem cells_mk {st : Bool} : ∀ dss : List (List D), (∀ d ∈ dss, (mkE st d).cells = d) → (dss.map (mkE st)).flatMap D.cells = dss.flatten
  | [], _ => rfl
  | d :: dss, h => by
    rw [List.map_cons, List.flatMap_cons, List.flatten_cons, h d List.mem_cons_self, cells_mk dss (fun c hc => h c (List.mem_cons_of_mem _ hc))]
end
end Go.Am
namespace Go.Am
open Go
section
variable {E : Env} {H : Type} {enc : TypeId × Value → H} {P : Program} {W : World} {m : Nat}
def argShs (P : Program) (n : Nat) : List TypeId → Option (List Sh)
  | [] => some []
  | t :: ts => match shCells P n t with
    | some ss => match elSh P t ss, argShs P n ts with
      | some s, some r => some (s :: r)
      | _, _ => none
    | none => none
theorem hpOf_some {L : List Bk} {b : Nat} {k : ABlk} (h : (hpOf m L).blocks.get b = some k) : m ≤ b ∧ b < m + L.length ∧ ∃ x, L[b - m]? = some x ∧ k = x.a := by
  rw [hpOf_get] at h
  split at h
  · rename_i hb
    cases hl : L[b - m]? with
    | none => rw [hl] at h; cases h
    | some x =>
      rw [hl] at h
      simp only [Option.map_some, Option.some.injEq] at h
      have := (List.getElem?_eq_some_iff.1 hl).1
      exact ⟨hb, by omega, x, rfl, h.symm⟩
  · cases h
theorem hpOf_hr (hm : m = E.prog.globals.size) {L : List Bk} (hL : OkL E m W L) : HR E (sgOf m L) (hpOf m L) W := by
  refine ⟨?_, ?_, ?_, ?_⟩
  · intro b k l hb hs
    obtain ⟨h1, h2, x, h3, rfl⟩ := hpOf_some hb
    unfold sgOf at hs
    rw [if_neg (by omega), h3] at hs
    exact hL _ x l h3 hs
  · intro b₁ b₂ k₁ k₂ L₁ L₂ h1 _ ho
    obtain ⟨_, _, x, _, rfl⟩ := hpOf_some h1
    cases ho
  · intro g hg
    exact ⟨⟨g, 0, 0, 0⟩, by unfold sgOf; rw [if_pos (by omega)], rfl, rfl⟩
  · intro b k hb
    obtain ⟨h1, h2, x, h3, rfl⟩ := hpOf_some hb
    exact ⟨Nat.zero_le _, h2⟩
theorem holds_calls (hm : m = E.prog.globals.size) {f : FuncId} {ds : List D} {b : Bool} (h : Holds E f ds (.leaf (.bool b))) {L : List Bk} (hL : OkL E m W L) {as args' : List Value} (hd : DRs (hpOf m L).blocks.get ds as) (hv : VRs (sgOf m L) as args') :
    Calls E.prog f ⟨args'⟩ W fun e w' => e = .returned (.bool b) ∧ Kept W w' := by
  have hr := hpOf_hr hm hL
  have h : Holds0 E f ds (.leaf (.bool b)) := by
    rcases h with ⟨_, h⟩ | ⟨_, _, _, _, rfl, _⟩
    · exact h
    · cases hd with
      | cons h1 _ => cases h1
  obtain ⟨v, H', g', h1, h2, h3, h4, h5, h6, h7, h8, h9⟩ := h.2 (hpOf m L) (hpOf m L).blocks.get as (fun b k hb => hr.wf b k hb) (Mem.le_refl _) hd
  have hfree : Free (sgOf m L) (hpOf m L).next H'.next := by
    intro b hb _
    have hb' : m + L.length ≤ b := hb
    unfold sgOf
    rw [if_neg (by omega), List.getElem?_eq_none (by omega)]
    rfl
  refine (h1 (sgOf m L) W args' hr hv hfree).mono fun e w' ⟨σ', v', e1, e2, st⟩ => ?_
  have hvv : v = .bool b := h9.leaf_inv.1
  subst hvv
  cases e2
  refine ⟨e1, st.size, fun B hB => st.frame B hB (fun b k l hb ho => ?_), st.tape, st.os, st.output⟩
  obtain ⟨_, _, x, _, rfl⟩ := hpOf_some hb
  cases ho
end
end Go.Am
namespace Go.Am
open Go
section
variable {E : Env}
theorem step_bump {σ : Sig} {H : AH} {w w' : World} (hr : HR E σ H w) (k : Kept w w') : Step E σ H w σ { H with next := H.next + 1 } w' := by
  have s := Step.kept hr k
  exact
  { hr := ⟨s.hr.objs, s.hr.sep, s.hr.glob, fun b kk hb => ⟨(hr.wf b kk hb).1, Nat.lt_succ_of_lt (hr.wf b kk hb).2⟩⟩
    next := Nat.le_succ _, ext := fun _ _ => rfl, size := s.size, low := Nat.le_refl _, tape := s.tape, os := s.os, output := s.output, frame := s.frame,
    origin := s.origin, old := fun b kk hb _ => ⟨kk, hb, rfl, rfl⟩, keep := s.keep, born := fun b kk hb hn => absurd (hr.wf b kk hb).2 (Nat.not_lt.2 hn) }
theorem holds_closed {f : FuncId} (hf : ∃ fn, E.funcs.get f = some fn) (h : ∀ w, Calls E.prog f #[] w fun e w' => e = .returned (.bool true) ∧ Kept w w') (hlt : f < bigN := by decide) : Holds E f [] (dB true) := by
  refine .inl ⟨hlt, hf, fun H g args hwf hg hd => ?_⟩
  cases hd
  refine ⟨.bool true, { H with next := H.next + 1 }, g, ?_, Nat.lt_succ_self _, fun b k hb => ⟨(hwf b k hb).1, Nat.lt_succ_of_lt (hwf b k hb).2⟩, fun _ _ => rfl, Nat.min_le_left _ _, Mem.le_refl _, hg, fun _ _ => rfl, .leaf rfl⟩
  intro σ w args' hr hv _
  cases hv
  exact (h w).mono fun e w' ⟨h1, h2⟩ => ⟨σ, .bool true, h1, .leaf rfl, step_bump hr h2⟩
theorem size_cells (he : EOk E) {t : TypeId} {ti : TI} (h : E.types.get t = some ti) : ti.size = E.prog.cellsOf t := by
  obtain ⟨i, h1, _, h2, _⟩ := he.types t ti h
  rw [h2]
  simp only [Program.cellsOf, h1, Option.map_some, Option.getD_some]
end
end Go.Am
