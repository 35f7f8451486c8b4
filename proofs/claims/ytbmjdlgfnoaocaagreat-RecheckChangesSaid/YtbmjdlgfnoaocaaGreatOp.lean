/- What came in, opened: an abstract heap with a block for every list. Conditions: none. -/
import Derived.Test.YtbmjdlgfnoaocaaGreatUn
import Derived.Test.YtbmjdlgfnoaocaaGreatAm7
import Derived.WalkKit
import Derived.OpenShut
import Derived.Deep.Slices
import Derived.Deep.Strs
set_option linter.unusedVariables false
set_option linter.unusedSimpArgs false
namespace Go.Am
open Go
def shFs (P : Program) (rec : TypeId → Option (List Sh)) : List Field → List Sh → Option (List Sh)
  | [], acc => some acc
  | f :: r, acc => bif Nat.beq f.offset acc.length then match rec f.type with
    | some s => bif Nat.beq (P.cellsOf f.type) s.length then shFs P rec r (acc ++ s) else none
    | none => none
    else none
def elSh (P : Program) (e : TypeId) (ss : List Sh) : Option Sh := match P.underlying e with
  | some (.struct _) => some (.st ss)
  | some (.array _ _) => none
  | _ => match ss with
    | [s] => some s
    | _ => none
def shCells (P : Program) : Nat → TypeId → Option (List Sh)
  | 0, _ => none
  | n + 1, t => match P.underlying t with
    | some .bool => some [.bool]
    | some (.int k) => some [.int k]
    | some .string => some [.str]
    | some (.slice e) => match shCells P n e with
      | some ss => match elSh P e ss with
        | some s => bif Nat.beq (P.cellsOf e) ss.length && Nat.blt 0 ss.length then some [.sl e ss.length s] else none
        | none => none
      | none => none
    | some (.struct fs) => match shFs P (shCells P n) fs.toList [] with
      | some ss => bif Nat.beq (P.cellsOf t) ss.length then some ss else none
      | none => none
    | _ => none
structure Bk where
  loc : Option Loc
  cs : List Value
  el : TypeId
def Bk.a (k : Bk) : ABlk := ⟨.cells k.cs k.el, 0, false⟩
def hpOf (m : Nat) (L : List Bk) : AH := { blocks := T.ofList .leaf m (L.map Bk.a), next := Nat.add m L.length, low := capX }
def sgOf (m : Nat) (L : List Bk) : Sig := fun b => if b < m then some ⟨b, 0, 0, 0⟩ else L[b - m]?.bind Bk.loc
theorem hpOf_get (m : Nat) (L : List Bk) (b : Nat) : (hpOf m L).blocks.get b = if m ≤ b then L[b - m]?.map Bk.a else none := by
  simp only [hpOf]
  rw [ofList_getA]
  by_cases h : m ≤ b ∧ b < m + (L.map Bk.a).length
  · rw [if_pos h, if_pos h.1, List.getElem?_map]
  · rw [if_neg h]
    by_cases h1 : m ≤ b
    · rw [if_pos h1, List.getElem?_eq_none (by simp at h; omega)]
      rfl
    · rw [if_neg h1]; rfl
theorem hpOf_app {m : Nat} {L L1 : List Bk} : Mem.le (hpOf m L).blocks.get (hpOf m (L ++ L1)).blocks.get := by
  intro b k h
  rw [hpOf_get] at h ⊢
  split at h
  · rename_i hb
    rw [if_pos hb]
    cases hl : L[b - m]? with
    | none => rw [hl] at h; cases h
    | some x =>
      rw [hl] at h
      have : b - m < L.length := (List.getElem?_eq_some_iff.1 hl).1
      rw [List.getElem?_append_left this, hl]; exact h
  · cases h
theorem sgOf_app {m : Nat} {L L1 : List Bk} : Sig.le (sgOf m L) (sgOf m (L ++ L1)) := by
  intro b l h
  unfold sgOf at h ⊢
  split at h
  · rename_i hb; rw [if_pos hb]; exact h
  · rename_i hb
    rw [if_neg hb]
    cases hl : L[b - m]? with
    | none => rw [hl] at h; cases h
    | some x =>
      rw [hl] at h
      have : b - m < L.length := (List.getElem?_eq_some_iff.1 hl).1
      rw [List.getElem?_append_left this, hl]; exact h
def OkL (E : Env) (m : Nat) (W : World) (L : List Bk) : Prop := ∀ (i : Nat) (k : Bk) (l : Loc), L[i]? = some k → k.loc = some l → ∃ o, W.heap[l.blk]? = some o ∧ ObjR E (sgOf m L) l false (.cells k.cs k.el) o
theorem OkL.snoc {E : Env} {m : Nat} {W : World} {L : List Bk} {k : Bk} (h : OkL E m W L) (hk : ∀ l, k.loc = some l → ∃ o, W.heap[l.blk]? = some o ∧ ObjR E (sgOf m L) l false (.cells k.cs k.el) o) : OkL E m W (L ++ [k]) := by
  intro i k' l hi hl
  rcases Nat.lt_or_ge i L.length with hlt | hge
  · rw [List.getElem?_append_left hlt] at hi
    obtain ⟨o, h1, h2⟩ := h i k' l hi hl
    exact ⟨o, h1, h2.mono sgOf_app⟩
  · rw [List.getElem?_append_right hge] at hi
    have : i - L.length = 0 := by
      rcases Nat.eq_zero_or_pos (i - L.length) with h | h
      · exact h
      · rw [List.getElem?_eq_none (by simp; omega)] at hi; cases hi
    rw [this] at hi
    simp only [List.getElem?_cons_zero, Option.some.injEq] at hi
    subst hi
    obtain ⟨o, h1, h2⟩ := hk l hl
    exact ⟨o, h1, h2.mono sgOf_app⟩
theorem hasShs_len : ∀ {fs : List Sh} {cs : List D}, HasShs fs cs → cs.length = fs.length
  | [], cs, h => by simp only [HasShs] at h; rw [h]; rfl
  | s :: ss, cs, h => by
    simp only [HasShs] at h
    obtain ⟨d, ds, rfl, _, h2⟩ := h
    simp [hasShs_len h2]
theorem hasShs_app : ∀ {ss ts : List Sh} {ds es : List D}, HasShs ss ds → HasShs ts es → HasShs (ss ++ ts) (ds ++ es)
  | [], _, ds, es, h, h' => by simp only [HasShs] at h; subst h; exact h'
  | s :: ss, _, ds, es, h, h' => by
    simp only [HasShs] at h
    obtain ⟨d, ds, rfl, h1, h2⟩ := h
    simp only [List.cons_append, HasShs]
    exact ⟨d, ds ++ es, rfl, h1, hasShs_app h2 h'⟩
theorem vrs_app {σ : Sig} : ∀ {l l' k k' : List Value}, VRs σ l l' → VRs σ k k' → VRs σ (l ++ k) (l' ++ k')
  | _, _, _, _, .nil, h => h
  | _, _, _, _, .cons h hs, h' => .cons h (vrs_app hs h')
section
variable {E : Env} {H : Type} {enc : TypeId × Value → H} {P : Program} {W : World} {m : Nat}
def Opened (E : Env) (m : Nat) (W : World) (L0 : List Bk) (ss : List Sh) (cs : List Value) : Prop :=
  ∃ (L1 : List Bk) (vs : List Value) (ds : List D), OkL E m W (L0 ++ L1) ∧ VRs (sgOf m (L0 ++ L1)) vs cs ∧ DRs (hpOf m (L0 ++ L1)).blocks.get ds vs ∧ HasShs ss ds ∧ vs.all oneCell = true
theorem Opened.app {L0 : List Bk} {ss ts : List Sh} {cs es : List Value} (h1 : Opened E m W L0 ss cs) (h2 : ∀ L, OkL E m W L → Opened E m W L ts es) : Opened E m W L0 (ss ++ ts) (cs ++ es) := by
  obtain ⟨L1, vs, ds, a1, a2, a3, a4, a5⟩ := h1
  obtain ⟨L2, us, xs, b1, b2, b3, b4, b5⟩ := h2 _ a1
  refine ⟨L1 ++ L2, vs ++ us, ds ++ xs, ?_, ?_, ?_, hasShs_app a4 b4, ?_⟩
  · rw [← List.append_assoc]; exact b1
  · rw [← List.append_assoc]; exact vrs_app (a2.mono sgOf_app) b2
  · rw [← List.append_assoc]; exact (a3.mono hpOf_app).append b3
  · rw [List.all_append, a5, b5]; rfl
theorem open_fields {rec : TypeId → Option (List Sh)} {cs : List Value} (ih : ∀ (f : Field) (s : List Sh), rec f.type = some s → P.cellsOf f.type = s.length → (∃ x, ∃ k, DataW.trod enc P W 0 (fun _ => true) true k f.type ((cs.drop f.offset).take (P.cellsOf f.type)) = some x) →
      ∀ L, OkL E m W L → Opened E m W L s ((cs.drop f.offset).take (P.cellsOf f.type))) :
    ∀ (fs : List Field) (acc ss : List Sh), shFs P rec fs acc = some ss → (∀ f ∈ fs, ∃ x, ∃ k, DataW.trod enc P W 0 (fun _ => true) true k f.type ((cs.drop f.offset).take (P.cellsOf f.type)) = some x) →
      (∀ L, OkL E m W L → Opened E m W L acc (cs.take acc.length)) → ss.length ≤ cs.length → ∀ L, OkL E m W L → Opened E m W L ss (cs.take ss.length)
  | [], acc, ss, h, _, ha, _ => by simp only [shFs, Option.some.injEq] at h; subst h; exact ha
  | f :: fs, acc, ss, h, hf, ha, hl => by
    simp only [shFs] at h
    cases hc : Nat.beq f.offset acc.length with
    | false => rw [hc] at h; cases h
    | true =>
      rw [hc] at h
      simp only [cond_true] at h
      have hoff := Nat.eq_of_beq_eq_true hc
      split at h
      case h_2 => cases h
      rename_i s hs
      cases hz : Nat.beq (P.cellsOf f.type) s.length with
      | false => rw [hz] at h; cases h
      | true =>
        rw [hz] at h
        simp only [cond_true] at h
        have hsz := Nat.eq_of_beq_eq_true hz
        refine open_fields ih fs (acc ++ s) ss h (fun g hg => hf g (List.mem_cons_of_mem _ hg)) (fun L hL => ?_) hl
        have h2 := ih f s hs hsz (hf f List.mem_cons_self)
        rw [hsz, hoff] at h2
        have h1 := (ha L hL).app h2
        have : cs.take acc.length ++ (cs.drop acc.length).take s.length = cs.take (acc ++ s).length := by
          rw [List.length_append, List.take_add]
        rw [this] at h1
        exact h1
theorem open_elems {e : TypeId} {ss : List Sh} (ih : ∀ k cs x, DataW.trod enc P W 0 (fun _ => true) true k e cs = some x → ∀ L, OkL E m W L → Opened E m W L ss cs) :
    ∀ (l : List (List Value)), (∀ cs ∈ l, ∃ k x, DataW.trod enc P W 0 (fun _ => true) true k e cs = some x) → ∀ L, OkL E m W L →
      ∃ (L1 : List Bk) (vs : List Value) (dss : List (List D)), OkL E m W (L ++ L1) ∧ VRs (sgOf m (L ++ L1)) vs l.flatten ∧ DRs (hpOf m (L ++ L1)).blocks.get dss.flatten vs ∧ dss.length = l.length ∧ (∀ ds ∈ dss, HasShs ss ds) ∧ vs.all oneCell = true
  | [], _, L, hL => ⟨[], [], [], by rw [List.append_nil]; exact hL, .nil, .nil, rfl, fun _ h => (by cases h), rfl⟩
  | cs :: l, h, L, hL => by
    obtain ⟨k, x, hx⟩ := h cs List.mem_cons_self
    obtain ⟨L1, vs, ds, a1, a2, a3, a4, a5⟩ := ih k cs x hx L hL
    obtain ⟨L2, us, dss, b1, b2, b3, b4, b5, b6⟩ := open_elems ih l (fun c hc => h c (List.mem_cons_of_mem _ hc)) _ a1
    refine ⟨L1 ++ L2, vs ++ us, ds :: dss, ?_, ?_, ?_, by simp [b4], ?_, by rw [List.all_append, a5, b6]; rfl⟩
    · rw [← List.append_assoc]; exact b1
    · rw [← List.append_assoc, List.flatten_cons]; exact vrs_app (a2.mono sgOf_app) b2
    · rw [← List.append_assoc, List.flatten_cons]; exact (a3.mono hpOf_app).append b3
    · intro d hd
      rcases List.mem_cons.1 hd with rfl | hd
      · exact a4
      · exact b5 d hd
def mkE (st : Bool) (ds : List D) : D := bif st then .agg ds else ds.headD .nil
theorem elSh_mk {e : TypeId} {ss : List Sh} {s : Sh} {n : Nat} (hn : shCells P n e = some ss) (h : elSh P e ss = some s) : ∃ st, ∀ ds, HasShs ss ds → HasSh s (mkE st ds) ∧ (mkE st ds).cells = ds := by
  unfold elSh at h
  split at h
  · rename_i fs hu
    simp only [Option.some.injEq] at h
    subst h
    exact ⟨true, fun ds hd => ⟨⟨ds, rfl, hd⟩, rfl⟩⟩
  · cases h
  · rename_i h1 h2
    split at h
    case h_2 => cases h
    rename_i s'
    simp only [Option.some.injEq] at h
    subst h
    refine ⟨false, fun ds hd => ?_⟩
    simp only [HasShs] at hd
    obtain ⟨d, l, rfl, hd, rfl⟩ := hd
    refine ⟨hd, ?_⟩
    show D.cells d = [d]
    have hone : ∀ fs, s' ≠ .st fs := by
      intro fs e0
      cases n with
      | zero => cases hn
      | succ n =>
        simp only [shCells] at hn
        split at hn
        · cases hn; cases e0
        · cases hn; cases e0
        · cases hn; cases e0
        · split at hn
          · split at hn
            · rename_i s1 _
              cases hc : (Nat.beq (P.cellsOf _) (List.length _) && Nat.blt 0 (List.length _)) with
              | _ =>
                rw [hc] at hn
                first
                  | (simp only [cond_true, Option.some.injEq, List.cons.injEq] at hn; rw [← hn.1] at e0; cases e0)
                  | (cases hn)
            · cases hn
          · cases hn
        · rename_i fs' hu
          exact absurd hu (h1 fs')
        · cases hn
    cases s' with
    | int k => simp only [HasSh] at hd; obtain ⟨n, rfl⟩ := hd; rfl
    | bool => simp only [HasSh] at hd; obtain ⟨n, rfl⟩ := hd; rfl
    | str => simp only [HasSh] at hd; obtain ⟨n, rfl⟩ := hd; rfl
    | st fs => exact absurd rfl (hone fs)
    | sl el sz e => simp only [HasSh] at hd; rcases hd with rfl | ⟨es, rfl, _⟩ <;> rfl
end
end Go.Am
namespace Go.Am
open Go
section
variable {E : Env} {H : Type} {enc : TypeId × Value → H} {P : Program} {W : World} {m : Nat}
theorem flatten_get {n sz : Nat} (f : Nat → List Value) (hf : ∀ i, i < n → (f i).length = sz) (hz : 0 < sz) : ∀ (i : Nat), i < n * sz → (((List.range n).map f).flatten)[i]? = (f (i / sz))[i % sz]? := by
  have key : ∀ (l : List (List Value)), (∀ c ∈ l, c.length = sz) → ∀ i, l.flatten[i]? = (l[i / sz]?.getD [])[i % sz]? := by
    intro l
    induction l with
    | nil => intro _ i; simp
    | cons c l ih =>
      intro h i
      have hc := h c List.mem_cons_self
      rw [List.flatten_cons]
      rcases Nat.lt_or_ge i sz with hi | hi
      · rw [List.getElem?_append_left (by omega), Nat.div_eq_of_lt hi, Nat.mod_eq_of_lt hi]
        rfl
      · rw [List.getElem?_append_right (by omega), ih (fun d hd => h d (List.mem_cons_of_mem _ hd)), hc]
        have e1 : i / sz = (i - sz) / sz + 1 := by
          rw [Nat.div_eq_sub_div hz hi]
        have e2 : i % sz = (i - sz) % sz := Nat.mod_eq_sub_mod hi
        rw [e1, e2]; rfl
  intro i hi
  rw [key _ (fun c hc => by
    obtain ⟨j, hj, rfl⟩ := List.mem_map.1 hc
    exact hf j (List.mem_range.1 hj))]
  have hd : i / sz < n := Nat.div_lt_of_lt_mul (by rw [Nat.mul_comm]; exact hi)
  rw [List.getElem?_map, List.getElem?_range hd]
  rfl
theorem vrs_at {σ : Sig} {vs cs : List Value} (h : VRs σ vs cs) {i : Nat} {v : Value} (hv : vs[i]? = some v) : ∃ v', cs[i]? = some v' ∧ VR σ v v' := h.get i v hv
theorem take?_all : ∀ (l : List Value) (n : Nat), n = l.length → take? l n = some l
  | [], 0, _ => rfl
  | [], _ + 1, h => by simp at h
  | _ :: _, 0, h => by simp at h
  | x :: l, n + 1, h => by
    simp only [take?, take?_all l n (by simpa using h), Option.map_some]
theorem flatten_len {sz : Nat} : ∀ l : List (List Value), (∀ c ∈ l, c.length = sz) → l.flatten.length = l.length * sz
  | [], _ => by simp
  | c :: l, h => by
    rw [List.flatten_cons, List.length_append, h c List.mem_cons_self, flatten_len l (fun d hd => h d (List.mem_cons_of_mem _ hd)), List.length_cons, Nat.succ_mul, Nat.add_comm]
theorem cells_mk {st : Bool} : ∀ dss : List (List D), (∀ d ∈ dss, (mkE st d).cells = d) → (dss.map (mkE st)).flatMap D.cells = dss.flatten
  | [], _ => rfl
  | d :: dss, h => by
    rw [List.map_cons, List.flatMap_cons, List.flatten_cons, h d List.mem_cons_self, cells_mk dss (fun c hc => h c (List.mem_cons_of_mem _ hc))]
theorem open_list (hsz : ∀ t ti, E.types.get t = some ti → ti.size = P.cellsOf t) (hm : m = E.prog.globals.size) {t e : TypeId} {ss : List Sh} {s : Sh} {n : Nat} (ht : P.underlying t = some (.slice e)) (hn : shCells P n e = some ss) (hs : elSh P e ss = some s)
    (hc : P.cellsOf e = ss.length) (hz : 0 < ss.length)
    (ih : ∀ k cs x, DataW.trod enc P W 0 (fun _ => true) true k e cs = some x → ∀ L, OkL E m W L → Opened E m W L ss cs)
    {k : Nat} {cs : List Value} {x : DataW H × List MemPlace} (h : DataW.trod enc P W 0 (fun _ => true) true k t cs = some x) {L : List Bk} (hL : OkL E m W L) : Opened E m W L [.sl e ss.length s] cs := by
  rcases Deep.open_slice ht h with ⟨rfl, _⟩ | ⟨a, len, cap, mm, nn, Dx, Pl, rfl, _, hlc, hcap, hmm, _, hx⟩
  · exact ⟨[], [.slice none 0 0], [.nil], by rw [List.append_nil]; exact hL, .cons (.leaf rfl) .nil, .cons .nil .nil, ⟨.nil, [], rfl, .inl rfl, rfl⟩, rfl⟩
  · simp only [if_true] at hmm
    subst hmm
    rw [hc] at hx
    obtain ⟨f, hf⟩ := Deep.choose_lt (α := List Value) (p := fun i c => W.cells? 0 (a.add (i * ss.length)) ss.length = some c ∧ DataW.trod enc P W 0 (fun _ => true) true nn e c = some (Dx i, Pl i)) hx
    have hfl : ∀ i, i < mm → (f i).length = ss.length := fun i hi => (World.cells?_some (hf i hi).1).2.1
    obtain ⟨L1, vs, dss, a1, a2, a3, a4, a5, a6⟩ := open_elems ih ((List.range len).map f) (fun c hc => by
      obtain ⟨i, hi, rfl⟩ := List.mem_map.1 hc
      exact ⟨nn, _, (hf i (by have := List.mem_range.1 hi; omega)).2⟩) L hL
    rw [List.length_map, List.length_range] at a4
    obtain ⟨st, hst⟩ := elSh_mk hn hs
    have hvl : vs.length = len * ss.length := by
      have h1 := VRs.length a2
      rw [← h1, flatten_len _ (sz := ss.length) (fun c hc => by
        obtain ⟨i, hi, rfl⟩ := List.mem_map.1 hc
        exact hfl i (by have := List.mem_range.1 hi; omega)), List.length_map, List.length_range]
    have hcells : (dss.map (mkE st)).flatMap D.cells = dss.flatten := cells_mk _ (fun d hd => (hst d (a5 d hd)).2)
    have hlenX : len < capX := by
      have : maxLen < capX := by unfold maxLen capX; decide
      omega
    have hcapX : mm < capX := by
      have : maxLen < capX := by unfold maxLen capX; decide
      omega
    have hsh : HasSh (.sl e ss.length s) (.sl e ss.length (dss.map (mkE st))) := by
      refine .inr ⟨_, rfl, by rw [List.length_map, a4]; exact hlenX, fun y hy => ?_⟩
      obtain ⟨d, hd, rfl⟩ := List.mem_map.1 hy
      exact (hst d (a5 d hd)).1
    have fin : ∀ (o : Option Loc), (∀ l, o = some l → ∃ ob, W.heap[l.blk]? = some ob ∧ ObjR E (sgOf m (L ++ L1)) l false (.cells vs e) ob) →
        (VR (sgOf m (L ++ L1 ++ [⟨o, vs, e⟩])) (.slice (some ⟨m + (L ++ L1).length, 0, none⟩) len mm) (.slice (some a) len mm)) → Opened E m W L [.sl e ss.length s] [.slice (some a) len mm] := by
      intro o ho hv
      refine ⟨L1 ++ [⟨o, vs, e⟩], [.slice (some ⟨m + (L ++ L1).length, 0, none⟩) len mm], [.sl e ss.length (dss.map (mkE st))], ?_, ?_, ?_, ⟨_, [], rfl, hsh, rfl⟩, rfl⟩
      · rw [← List.append_assoc]; exact a1.snoc ho
      · rw [← List.append_assoc]; exact .cons hv .nil
      · rw [← List.append_assoc]
        have hb : (hpOf m (L ++ L1 ++ [⟨o, vs, e⟩])).blocks.get (m + (L ++ L1).length) = some ⟨.cells vs e, 0, false⟩ := by
          rw [hpOf_get, if_pos (by omega), Nat.add_sub_cancel_left]
          simp [Bk.a]
        refine .cons (.sl hb ?_ ?_ (by rw [List.length_map, a4]) ?_ hlc hlenX a6) .nil
        · rw [List.drop_zero]; exact take?_all vs _ hvl.symm
        · rw [hcells]; exact a3.mono hpOf_app
        · intro y hy
          obtain ⟨d, hd, rfl⟩ := List.mem_map.1 hy
          rw [(hst d (a5 d hd)).2]
          exact hasShs_len (a5 d hd)
    by_cases hc0 : mm = 0
    · have hl0 : len = 0 := by omega
      subst hl0 hc0
      exact fin none (fun l hl => by cases hl) (.sliceZ (.inl rfl))
    · have hcell : ∀ i j, i < mm → j < ss.length → W.cell? ((a.add (i * ss.length)).add j) = (f i)[j]? := fun i j hi hj => (World.cells?_some (hf i hi).1).2.2 j hj
      have hsome : ∀ i j, i < mm → j < ss.length → ∃ v, (f i)[j]? = some v := fun i j hi hj => ⟨_, List.getElem?_eq_getElem (by rw [hfl i hi]; exact hj)⟩
      have h00 := hcell 0 0 (by omega) hz
      have hadd0 : ((a.add (0 * ss.length)).add 0) = a := by simp [Addr.add]
      rw [hadd0] at h00
      obtain ⟨blk, off, spot⟩ := a
      obtain ⟨v0, hv0⟩ := hsome 0 0 (by omega) hz
      rw [hv0] at h00
      have hspot : spot = none ∧ ∃ ccs cel fz, W.heap[blk]? = some (.cells ccs cel fz) := by
        unfold World.cell? at h00
        split at h00
        · rename_i ccs cel fz hb
          refine ⟨?_, ccs, cel, fz, hb⟩
          cases spot with
          | none => rfl
          | some s => simp at h00
        · simp at h00
      obtain ⟨rfl, ccs, cel, fz, hb⟩ := hspot
      have haddr : ∀ i j, ((⟨blk, off, none⟩ : Addr).add (i * ss.length)).add j = ⟨blk, off + (i * ss.length + j), none⟩ := by
        intro i j
        unfold Addr.add
        by_cases h1 : i * ss.length = 0 <;> by_cases h2 : j = 0 <;> simp [h1, h2, Nat.add_assoc]
      have hget : ∀ i j, i < mm → j < ss.length → ccs[off + (i * ss.length + j)]? = (f i)[j]? := by
        intro i j hi hj
        rw [← hcell i j hi hj, haddr]
        simp [World.cell?, hb]
      have hsize : off + mm * ss.length ≤ ccs.size := by
        have h1 := hget (mm - 1) (ss.length - 1) (by omega) (by omega)
        obtain ⟨v, hv⟩ := hsome (mm - 1) (ss.length - 1) (by omega) (by omega)
        rw [hv] at h1
        have h2 := (Array.getElem?_eq_some_iff.1 h1).1
        have h3 : mm * ss.length = (mm - 1) * ss.length + ss.length := by
          obtain ⟨q, rfl⟩ : ∃ q, mm = q + 1 := ⟨mm - 1, by omega⟩
          rw [Nat.add_sub_cancel, Nat.succ_mul]
        omega
      refine fin (some ⟨blk, off, mm * ss.length, ss.length⟩) (fun l hl => ?_) ?_
      · cases hl
        refine ⟨_, hb, ?_⟩
        simp only [ObjR]
        refine ⟨fun e => absurd e (by decide), hsize, by rw [hvl]; exact Nat.mul_le_mul_right _ hlc, fun ti hti => by rw [hsz _ _ hti, hc], fun i v hi => ?_⟩
        have hone : oneCell v = true := List.all_eq_true.1 a6 v (List.mem_of_getElem? hi)
        obtain ⟨v', h1, h2⟩ := vrs_at a2 hi
        refine ⟨hone, v', ?_, h2⟩
        have hil : i < len * ss.length := by rw [← hvl]; exact (List.getElem?_eq_some_iff.1 hi).1
        rw [flatten_get f (fun j hj => hfl j (by omega)) hz i hil] at h1
        have hdl : i / ss.length < len := Nat.div_lt_of_lt_mul (by rw [Nat.mul_comm]; exact hil)
        have := hget (i / ss.length) (i % ss.length) (by omega) (Nat.mod_lt _ hz)
        rw [Nat.div_add_mod' i ss.length, h1] at this
        exact this
      · have hσ : sgOf m (L ++ L1 ++ [⟨some ⟨blk, off, mm * ss.length, ss.length⟩, vs, e⟩]) (m + (L ++ L1).length) = some ⟨blk, off, mm * ss.length, ss.length⟩ := by
          unfold sgOf
          rw [if_neg (by omega), Nat.add_sub_cancel_left]
          simp
        have := VR.sliceE (b := m + (L ++ L1).length) (i := 0) (l := len) (c := mm) hσ hlc hcapX
        exact this
theorem open_cells (hsz : ∀ t ti, E.types.get t = some ti → ti.size = P.cellsOf t) (hm : m = E.prog.globals.size) : ∀ (n : Nat) (t : TypeId) (ss : List Sh), shCells P n t = some ss →
    ∀ (k : Nat) (cs : List Value) (x : DataW H × List MemPlace), DataW.trod enc P W 0 (fun _ => true) true k t cs = some x → ∀ L, OkL E m W L → Opened E m W L ss cs := by
  intro n
  induction n with
  | zero => intro t ss h; cases h
  | succ n ih =>
    intro t ss h k cs x hx L hL
    simp only [shCells] at h
    split at h
    · rename_i hu
      cases h
      obtain ⟨b, rfl, _⟩ := DataW.trod_bool hu hx
      exact ⟨[], [.bool b], [.leaf (.bool b)], by rw [List.append_nil]; exact hL, .cons (.leaf rfl) .nil, .cons (.leaf rfl) .nil, ⟨_, [], rfl, ⟨b, rfl⟩, rfl⟩, rfl⟩
    · rename_i kk hu
      cases h
      obtain ⟨b, rfl, _⟩ := DataW.trod_int hu hx
      exact ⟨[], [.int kk b], [.leaf (.int kk b)], by rw [List.append_nil]; exact hL, .cons (.leaf rfl) .nil, .cons (.leaf rfl) .nil, ⟨_, [], rfl, ⟨b, rfl⟩, rfl⟩, rfl⟩
    · rename_i hu
      cases h
      obtain ⟨b, rfl, _⟩ := DataW.trod_string hu hx
      exact ⟨[], [.string b], [.leaf (.string b)], by rw [List.append_nil]; exact hL, .cons (.leaf rfl) .nil, .cons (.leaf rfl) .nil, ⟨_, [], rfl, ⟨b, rfl⟩, rfl⟩, rfl⟩
    · rename_i e hu
      split at h
      · rename_i ss' hss
        split at h
        · rename_i s hs
          cases hcc : (Nat.beq (P.cellsOf e) ss'.length && Nat.blt 0 ss'.length) with
          | false => rw [hcc] at h; cases h
          | true =>
            rw [hcc] at h
            simp only [cond_true, Option.some.injEq] at h
            subst h
            simp only [Bool.and_eq_true] at hcc
            exact open_list hsz hm hu hss hs (Nat.eq_of_beq_eq_true hcc.1) (Nat.le_of_ble_eq_true hcc.2) (ih e ss' hss) hx hL
        · cases h
      · cases h
    · rename_i fs hu
      split at h
      · rename_i ss' hss
        cases hcc : Nat.beq (P.cellsOf t) ss'.length with
        | false => rw [hcc] at h; cases h
        | true =>
          rw [hcc] at h
          simp only [cond_true, Option.some.injEq] at h
          subst h
          have hcl := Nat.eq_of_beq_eq_true hcc
          obtain ⟨xs, n', rfl, _, hl, hxl, hf⟩ := DataW.trod_struct hu hx
          have := open_fields (E := E) (enc := enc) (P := P) (W := W) (m := m) (cs := cs) (rec := shCells P n) (fun f s hs _ ⟨x, k, hx⟩ L hL => ih f.type s hs k _ x hx L hL) fs.toList [] ss' hss (fun f hf' => by
            obtain ⟨i, hi⟩ := List.getElem?_of_mem hf'
            have h1 := hf i f (by simpa using hi)
            have hlt : i < xs.length := by
              have := (List.getElem?_eq_some_iff.1 hi).1
              rw [hxl]; simpa using this
            rw [List.getElem?_eq_getElem hlt] at h1
            exact ⟨_, _, h1⟩) (fun L hL => ⟨[], [], [], by rw [List.append_nil]; exact hL, .nil, .nil, rfl, rfl⟩) (by omega) L hL
          rw [List.take_of_length_le (by omega)] at this
          exact this
      · cases h
    · cases h
end
end Go.Am
namespace Go.Am
open Go
section
variable {E : Env} {H : Type} {enc : TypeId × Value → H} {P : Program} {W : World} {m : Nat}
def Opened1 (E : Env) (m : Nat) (W : World) (L0 : List Bk) (s : Sh) (v' : Value) : Prop :=
  ∃ (L1 : List Bk) (v : Value) (d : D), OkL E m W (L0 ++ L1) ∧ VR (sgOf m (L0 ++ L1)) v v' ∧ DR (hpOf m (L0 ++ L1)).blocks.get d v ∧ HasSh s d
theorem opened_one {L0 : List Bk} {s : Sh} {v' : Value} (h : Opened E m W L0 [s] [v']) : Opened1 E m W L0 s v' := by
  obtain ⟨L1, vs, ds, a1, a2, a3, a4, a5⟩ := h
  simp only [HasShs] at a4
  obtain ⟨d, l, rfl, a4, rfl⟩ := a4
  cases a3 with
  | cons h hs =>
    cases hs
    cases a2 with
    | cons h2 hs2 => exact ⟨L1, _, d, a1, h2, h, a4⟩
theorem open_arg (hsz : ∀ t ti, E.types.get t = some ti → ti.size = P.cellsOf t) (hm : m = E.prog.globals.size) {n : Nat} {t : TypeId} {ss : List Sh} {s : Sh} (hn : shCells P n t = some ss) (hs : elSh P t ss = some s)
    {v : Value} {d : DataW H} {p : List MemPlace} (hv : Value.okWide P W .any 0 t v) (h : DataW.Trod enc P W 0 (fun _ => true) true t v d p) {L : List Bk} (hL : OkL E m W L) : Opened1 E m W L s v := by
  obtain ⟨k, hk⟩ := h
  have ho := open_cells hsz hm n t ss hn k _ _ hk L hL
  have flat : (∀ cs, v ≠ .agg cs) → ss = [s] → Opened1 E m W L s v := by
    intro h1 h2
    rw [h2] at ho
    have hc : v.cells.toList = [v] := by
      cases v <;> first | rfl | exact absurd rfl (h1 _)
    rw [hc] at ho
    exact opened_one ho
  have one : (∀ fs, P.underlying t ≠ some (.struct fs)) → (∀ k e, P.underlying t ≠ some (.array k e)) → ss = [s] := by
    intro h1 h2
    unfold elSh at hs
    split at hs
    · rename_i fs hu; exact absurd hu (h1 fs)
    · rename_i k e hu; exact absurd hu (h2 k e)
    · split at hs
      · cases hs; rfl
      · cases hs
  cases n with
  | zero => cases hn
  | succ n =>
    have hn0 := hn
    simp only [shCells] at hn
    split at hn
    · rename_i hu
      refine flat (fun cs e => ?_) (one (fun _ e => by rw [hu] at e; cases e) (fun _ _ e => by rw [hu] at e; cases e))
      subst e
      simp only [Value.okWide, hu, Cell.okWide] at hv
      simp [Cell.ok] at hv
    · rename_i kk hu
      refine flat (fun cs e => ?_) (one (fun _ e => by rw [hu] at e; cases e) (fun _ _ e => by rw [hu] at e; cases e))
      subst e
      simp only [Value.okWide, hu, Cell.okWide] at hv
      simp [Cell.ok] at hv
    · rename_i hu
      refine flat (fun cs e => ?_) (one (fun _ e => by rw [hu] at e; cases e) (fun _ _ e => by rw [hu] at e; cases e))
      obtain ⟨s, hv⟩ := Go.WideShapes.okWide_string hu hv
      rw [hv] at e; cases e
    · rename_i e hu
      refine flat (fun cs e => ?_) (one (fun _ e => by rw [hu] at e; cases e) (fun _ _ e => by rw [hu] at e; cases e))
      obtain ⟨a, l, c, hv⟩ := Go.WideShapes.okWide_slice hu hv
      rw [hv] at e; cases e
    · rename_i fs hu
      have hs' : s = .st ss := by
        unfold elSh at hs
        rw [hu] at hs
        simp only [Option.some.injEq] at hs
        exact hs.symm
      subst hs'
      simp only [Value.okWide, hu] at hv
      obtain ⟨cs, rfl, _⟩ := hv
      obtain ⟨L1, vs, ds, a1, a2, a3, a4, a5⟩ := ho
      refine ⟨L1, .agg ⟨vs⟩, .agg ds, a1, ?_, .agg a3 a5, ⟨ds, rfl, a4⟩⟩
      obtain ⟨cs⟩ := cs
      exact .agg a2 a5
    · cases hn
def argShs (P : Program) (n : Nat) : List TypeId → Option (List Sh)
  | [] => some []
  | t :: ts => match shCells P n t with
    | some ss => match elSh P t ss, argShs P n ts with
      | some s, some r => some (s :: r)
      | _, _ => none
    | none => none
theorem open_args (hsz : ∀ t ti, E.types.get t = some ti → ti.size = P.cellsOf t) (hm : m = E.prog.globals.size) {n : Nat} : ∀ (ts : List TypeId) (ss : List Sh) (vs : List Value) (ds : List (DataW H)) (p : List MemPlace) (L : List Bk),
    argShs P n ts = some ss → DataW.TrodAll enc P W 0 (fun _ => true) true ts vs ds p → (∀ (j : Nat) t v, ts[j]? = some t → vs[j]? = some v → Value.okWide P W .any 0 t v) → OkL E m W L →
    ∃ (L1 : List Bk) (us : List Value) (xs : List D), OkL E m W (L ++ L1) ∧ VRs (sgOf m (L ++ L1)) us vs ∧ DRs (hpOf m (L ++ L1)).blocks.get xs us ∧ HasShs ss xs
  | [], ss, [], [], _, L, h, _, _, hL => by
    simp only [argShs, Option.some.injEq] at h; subst h
    exact ⟨[], [], [], by rw [List.append_nil]; exact hL, .nil, .nil, rfl⟩
  | t :: ts, ss, v :: vs, d :: ds, _, L, h, ⟨p, q, ht, hr, _⟩, hok, hL => by
    simp only [argShs] at h
    split at h
    · rename_i s1 h1
      split at h
      · rename_i s r h2 h3
        simp only [Option.some.injEq] at h; subst h
        obtain ⟨L1, u, x, a1, a2, a3, a4⟩ := open_arg hsz hm h1 h2 (hok 0 t v rfl rfl) ht hL
        obtain ⟨L2, us, xs, b1, b2, b3, b4⟩ := open_args hsz hm ts r vs ds q (L ++ L1) h3 hr (fun j t v h h' => hok (j + 1) t v (by simpa using h) (by simpa using h')) a1
        refine ⟨L1 ++ L2, u :: us, x :: xs, ?_, ?_, ?_, x, xs, rfl, a4, b4⟩
        · rw [← List.append_assoc]; exact b1
        · rw [← List.append_assoc]; exact .cons (a2.mono sgOf_app) b2
        · rw [← List.append_assoc]; exact .cons (a3.mono hpOf_app) b3
      · cases h
    · cases h
  | [], _, _ :: _, _, _, _, _, h, _, _ => h.elim
  | [], _, [], _ :: _, _, _, _, h, _, _ => h.elim
  | _ :: _, _, [], _, _, _, _, h, _, _ => h.elim
  | _ :: _, _, _ :: _, [], _, _, _, h, _, _ => h.elim
theorem hpOf_some {L : List Bk} {b : Nat} {k : ABlk} (h : (hpOf m L).blocks.get b = some k) : m ≤ b ∧ b < m + L.length ∧ ∃ x, L[b - m]? = some x ∧ k = x.a := by
  rw [hpOf_get] at h
  split at h
  · rename_i hb
    cases hl : L[b - m]? with
    | none => rw [hl] at h; cases h
    | some x =>
      rw [hl] at h
      simp only [Option.map_some, Option.some.injEq] at h
      have := (List.getElem?_eq_some_iff.1 hl).1
      exact ⟨hb, by omega, x, rfl, h.symm⟩
  · cases h
theorem hpOf_hr (hm : m = E.prog.globals.size) {L : List Bk} (hL : OkL E m W L) : HR E (sgOf m L) (hpOf m L) W := by
  refine ⟨?_, ?_, ?_, ?_⟩
  · intro b k l hb hs
    obtain ⟨h1, h2, x, h3, rfl⟩ := hpOf_some hb
    unfold sgOf at hs
    rw [if_neg (by omega), h3] at hs
    exact hL _ x l h3 hs
  · intro b₁ b₂ k₁ k₂ L₁ L₂ h1 _ ho
    obtain ⟨_, _, x, _, rfl⟩ := hpOf_some h1
    cases ho
  · intro g hg
    exact ⟨⟨g, 0, 0, 0⟩, by unfold sgOf; rw [if_pos (by omega)], rfl, rfl⟩
  · intro b k hb
    obtain ⟨h1, h2, x, h3, rfl⟩ := hpOf_some hb
    exact ⟨Nat.zero_le _, h2⟩
theorem holds_calls (hm : m = E.prog.globals.size) {f : FuncId} {ds : List D} {b : Bool} (h : Holds E f ds (.leaf (.bool b))) {L : List Bk} (hL : OkL E m W L) {azq args' : List Value} (hd : DRs (hpOf m L).blocks.get ds azq) (hv : VRs (sgOf m L) azq args') :
    Calls E.prog f ⟨args'⟩ W fun e w' => e = .returned (.bool b) ∧ Kept W w' := by
  have hr := hpOf_hr hm hL
  have h : Holds0 E f ds (.leaf (.bool b)) := by
    rcases h with ⟨_, h⟩ | ⟨_, _, _, _, rfl, _⟩
    · exact h
    · cases hd with
      | cons h1 _ => cases h1
  obtain ⟨v, H', g', h1, h2, h3, h4, h5, h6, h7, h8, h9⟩ := h.2 (hpOf m L) (hpOf m L).blocks.get azq (fun b k hb => hr.wf b k hb) (Mem.le_refl _) hd
  have hfree : Free (sgOf m L) (hpOf m L).next H'.next := by
    intro b hb _
    have hb' : m + L.length ≤ b := hb
    unfold sgOf
    rw [if_neg (by omega), List.getElem?_eq_none (by omega)]
    rfl
  refine (h1 (sgOf m L) W args' hr hv hfree).mono fun e w' ⟨σ', v', e1, e2, st⟩ => ?_
  have hvv : v = .bool b := h9.leaf_inv.1
  subst hvv
  cases e2
  refine ⟨e1, st.size, fun B hB => st.frame B hB (fun b k l hb ho => ?_), st.tape, st.os, st.output⟩
  obtain ⟨_, _, x, _, rfl⟩ := hpOf_some hb
  cases ho
end
end Go.Am
namespace Go.Am
open Go
section
variable {E : Env}
theorem step_bump {σ : Sig} {H : AH} {w w' : World} (hr : HR E σ H w) (k : Kept w w') : Step E σ H w σ { H with next := H.next + 1 } w' := by
  have s := Step.kept hr k
  exact
  { hr := ⟨s.hr.objs, s.hr.sep, s.hr.glob, fun b kk hb => ⟨(hr.wf b kk hb).1, Nat.lt_succ_of_lt (hr.wf b kk hb).2⟩⟩
    next := Nat.le_succ _, ext := fun _ _ => rfl, size := s.size, low := Nat.le_refl _, tape := s.tape, os := s.os, output := s.output, frame := s.frame,
    origin := s.origin, old := fun b kk hb _ => ⟨kk, hb, rfl, rfl⟩, keep := s.keep, born := fun b kk hb hn => absurd (hr.wf b kk hb).2 (Nat.not_lt.2 hn) }
theorem holds_closed {f : FuncId} (hf : ∃ fn, E.funcs.get f = some fn) (h : ∀ w, Calls E.prog f #[] w fun e w' => e = .returned (.bool true) ∧ Kept w w') (hlt : f < bigN := by decide) : Holds E f [] (dB true) := by
  refine .inl ⟨hlt, hf, fun H g args hwf hg hd => ?_⟩
  cases hd
  refine ⟨.bool true, { H with next := H.next + 1 }, g, ?_, Nat.lt_succ_self _, fun b k hb => ⟨(hwf b k hb).1, Nat.lt_succ_of_lt (hwf b k hb).2⟩, fun _ _ => rfl, Nat.min_le_left _ _, Mem.le_refl _, hg, fun _ _ => rfl, .leaf rfl⟩
  intro σ w args' hr hv _
  cases hv
  exact (h w).mono fun e w' ⟨h1, h2⟩ => ⟨σ, .bool true, h1, .leaf rfl, step_bump hr h2⟩
theorem holds_run {P : Program} (hg : envGood P = true) {f : FuncId} {n m : Nat} (hf : ∃ fn, (envOf P).funcs.get f = some fn) (hm : Nat.ble P.globals.size m = true) (h : isTrue (runF (envOf P) n (.call f []) (heap0 m)) = true) (hlt : f < bigN := by decide) : Holds (envOf P) f [] (dB true) :=
  holds_closed hf (fun w => (closed_true hg hm h w).mono fun _ _ ⟨h1, h2, h3, h4, h5, h6⟩ => ⟨h1, h2, h3, h4, h5, h6⟩) hlt
theorem size_cells (he : EOk E) {t : TypeId} {ti : TI} (h : E.types.get t = some ti) : ti.size = E.prog.cellsOf t := by
  obtain ⟨i, h1, _, h2, _⟩ := he.types t ti h
  rw [h2]
  simp only [Program.cellsOf, h1, Option.map_some, Option.getD_some]
theorem law_calls {P : Program} {H : Type} {enc : TypeId × Value → H} {W : World} {n : Nat} {f : FuncId} {ts : List TypeId} {ss : List Sh} (hE : E.prog = P) (hsz : ∀ t ti, E.types.get t = some ti → ti.size = P.cellsOf t) (hss : argShs P n ts = some ss)
    (hlaw : ∀ ds, HasShs ss ds → Holds E f ds (dB true)) {args : List Value} {ds : List (DataW H)} {p : List MemPlace} (hA : DataW.TrodAll enc P W 0 (fun _ => true) true ts args ds p)
    (hok : ∀ (j : Nat) t v, ts[j]? = some t → args[j]? = some v → Value.okWide P W .any 0 t v) : Calls P f ⟨args⟩ W fun e w' => e = .returned (.bool true) ∧ Kept W w' := by
  obtain ⟨L1, us, xs, a1, a2, a3, a4⟩ := open_args (E := E) (m := E.prog.globals.size) hsz rfl ts ss args ds p [] hss hA hok (fun i k l h => by cases h)
  rw [← hE]
  exact holds_calls rfl (hlaw xs a4) a1 a3 a2
end
end Go.Am
