/- What came in, opened, with its bulk: the data are not larger than what was read. Conditions: none. -/
import Derived.Test.YtbkinfgpcjjaaaaGreatDoorOp
import Derived.Test.YtbkinfgpcjjaaaaGreatDoorUv
set_option linter.all false
namespace Go.Am
open Go
mutual
def dBulk : D → Nat
  | .leaf (.string s) => s.size + 1
  | .leaf _ => 1
  | .nil => 1
  | .sl _ _ es => dBulks es + 1
  | .agg cs => Nat.max 1 (dBulks cs)
  | .tup cs => dBulks cs + 1
  | _ => 1
def dBulks : List D → Nat
  | [] => 0
  | d :: r => dBulk d + dBulks r
end
mutual
def wBulk {H : Type} : DataW H → Nat
  | .lit (.string bytes) => bytes.length + 1
  | .lit _ => 1
  | .nil => 1
  | .ptr d => wBulk d + 1
  | .slice elems spare => wBulks elems + wBulks spare + 1
  | .agg parts => wBulks parts + 1
  | .iface _ d => wBulk d + 1
  | .map _ => 1
  | .held _ => 1
def wBulks {H : Type} : List (DataW H) → Nat
  | [] => 0
  | d :: r => wBulk d + wBulks r
end
theorem dBulks_app : ∀ a b : List D, dBulks (a ++ b) = dBulks a + dBulks b
  | [], b => by simp [dBulks]
  | x :: a, b => by simp only [List.cons_append, dBulks, dBulks_app a b]; omega
theorem dBulk_pos (d : D) : 1 ≤ dBulk d := by
  unfold dBulk; split <;> first | omega | exact Nat.le_max_left _ _
theorem wBulk_pos {H : Type} (d : DataW H) : 1 ≤ wBulk d := by
  unfold wBulk; split <;> omega
theorem dBulk_mk (st : Bool) (ds : List D) : dBulk (mkE st ds) ≤ Nat.max 1 (dBulks ds) := by
  cases st with
  | true => exact Nat.le_refl _
  | false => cases ds with
    | nil => exact Nat.le_max_left _ _
    | cons d ds => exact Nat.le_trans (Nat.le_add_right _ _) (Nat.le_max_right _ _)
theorem dBulks_mem : ∀ {l : List D} {x : D}, x ∈ l → dBulk x ≤ dBulks l
  | y :: l, x, h => by
    simp only [dBulks]
    rcases List.mem_cons.1 h with rfl | h
    · omega
    · have := dBulks_mem h; omega
theorem dBulks_len : ∀ l : List D, l.length ≤ dBulks l
  | [] => by simp [dBulks]
  | x :: l => by
    have := dBulk_pos x
    have := dBulks_len l
    simp only [dBulks, List.length_cons]; omega
mutual
theorem hasB_bulk {B : Nat} : ∀ {s : Sh} {d : D}, HasSh s d → dBulk d ≤ B → HasB B s d
  | .int k, d, h, _ => by simp only [HasSh] at h; simp only [HasB]; exact h
  | .bool, d, h, _ => by simp only [HasSh] at h; simp only [HasB]; exact h
  | .str, d, h, hb => by
    simp only [HasSh] at h; obtain ⟨s, rfl⟩ := h
    simp only [dBulk] at hb
    simp only [HasB]; exact ⟨s, rfl, by omega⟩
  | .st fs, d, h, hb => by
    simp only [HasSh] at h; obtain ⟨cs, rfl, h⟩ := h
    simp only [dBulk] at hb
    simp only [HasB]; exact ⟨cs, rfl, hasBs_bulk h (Nat.le_trans (Nat.le_max_right _ _) hb)⟩
  | .sl el sz e, d, h, hb => by
    simp only [HasSh] at h
    simp only [HasB]
    rcases h with rfl | ⟨es, rfl, _, ha⟩
    · exact .inl rfl
    · simp only [dBulk] at hb
      have := dBulks_len es
      exact .inr ⟨es, rfl, by omega, fun x hx => hasB_bulk (ha x hx) (by have := dBulks_mem hx; omega)⟩
theorem hasBs_bulk {B : Nat} : ∀ {ss : List Sh} {ds : List D}, HasShs ss ds → dBulks ds ≤ B → HasBs B ss ds
  | [], ds, h, _ => by simp only [HasShs] at h; simp only [HasBs]; exact h
  | s :: ss, ds, h, hb => by
    simp only [HasShs] at h; obtain ⟨d, r, rfl, h1, h2⟩ := h
    simp only [dBulks] at hb
    simp only [HasBs]
    exact ⟨d, r, rfl, hasB_bulk h1 (by omega), hasBs_bulk h2 (by omega)⟩
end
section
variable {E : Env} {H : Type} {enc : TypeId × Value → H} {P : Program} {W : World} {m : Nat}
def OpenedB (E : Env) (m : Nat) (W : World) (L0 : List Bk) (ss : List Sh) (cs : List Value) (B : Nat) : Prop :=
  ∃ (L1 : List Bk) (vs : List Value) (ds : List D), OkL E m W (L0 ++ L1) ∧ VRs (sgOf m (L0 ++ L1)) vs cs ∧ DRs (hpOf m (L0 ++ L1)).blocks.get ds vs ∧ HasShs ss ds ∧ vs.all oneCell = true ∧ dBulks ds ≤ B
theorem OpenedB.app {L0 : List Bk} {ss ts : List Sh} {cs es : List Value} {B C : Nat} (h1 : OpenedB E m W L0 ss cs B) (h2 : ∀ L, OkL E m W L → OpenedB E m W L ts es C) : OpenedB E m W L0 (ss ++ ts) (cs ++ es) (B + C) := by
  obtain ⟨L1, vs, ds, a1, a2, a3, a4, a5, a6⟩ := h1
  obtain ⟨L2, us, xs, b1, b2, b3, b4, b5, b6⟩ := h2 _ a1
  refine ⟨L1 ++ L2, vs ++ us, ds ++ xs, ?_, ?_, ?_, hasShs_app a4 b4, ?_, by rw [dBulks_app]; omega⟩
  · rw [← List.append_assoc]; exact b1
  · rw [← List.append_assoc]; exact vrs_app (a2.mono sgOf_app) b2
  · rw [← List.append_assoc]; exact (a3.mono hpOf_app).append b3
  · rw [List.all_append, a5, b5]; rfl
theorem OpenedB.le {L0 : List Bk} {ss : List Sh} {cs : List Value} {B C : Nat} (h : OpenedB E m W L0 ss cs B) (hb : B ≤ C) : OpenedB E m W L0 ss cs C := by
  obtain ⟨L1, vs, ds, a1, a2, a3, a4, a5, a6⟩ := h
  exact ⟨L1, vs, ds, a1, a2, a3, a4, a5, Nat.le_trans a6 hb⟩
theorem openB_fields {rec : TypeId → Option (List Sh)} {cs : List Value} (ih : ∀ (f : Field) (s : List Sh), rec f.type = some s → P.cellsOf f.type = s.length → ∀ (x : DataW H × List MemPlace) (k : Nat), DataW.trod enc P W 0 (fun _ => true) true k f.type ((cs.drop f.offset).take (P.cellsOf f.type)) = some x →
      ∀ L, OkL E m W L → OpenedB E m W L s ((cs.drop f.offset).take (P.cellsOf f.type)) (wBulk x.1)) :
    ∀ (fs : List Field) (xs : List (DataW H × List MemPlace)) (acc ss : List Sh) (B : Nat), shFs P rec fs acc = some ss → xs.length = fs.length → (∀ (i : Nat) f, fs[i]? = some f → ∃ x, xs[i]? = some x ∧ ∃ k, DataW.trod enc P W 0 (fun _ => true) true k f.type ((cs.drop f.offset).take (P.cellsOf f.type)) = some x) →
      (∀ L, OkL E m W L → OpenedB E m W L acc (cs.take acc.length) B) → ss.length ≤ cs.length → ∀ L, OkL E m W L → OpenedB E m W L ss (cs.take ss.length) (B + wBulks (xs.map (·.1)))
  | [], [], acc, ss, B, h, _, _, ha, _ => by
    simp only [shFs, Option.some.injEq] at h; subst h
    simpa [wBulks] using ha
  | [], _ :: _, _, _, _, _, h, _, _, _ => by simp at h
  | _ :: _, [], _, _, _, _, h, _, _, _ => by simp at h
  | f :: fs, x :: xs, acc, ss, B, h, hlx, hf, ha, hl => by
    simp only [shFs] at h
    cases hc : Nat.beq f.offset acc.length with
    | false => rw [hc] at h; cases h
    | true =>
      rw [hc] at h
      simp only [cond_true] at h
      have hoff := Nat.eq_of_beq_eq_true hc
      split at h
      case h_2 => cases h
      rename_i s hs
      cases hz : Nat.beq (P.cellsOf f.type) s.length with
      | false => rw [hz] at h; cases h
      | true =>
        rw [hz] at h
        simp only [cond_true] at h
        have hsz := Nat.eq_of_beq_eq_true hz
        intro L0 hL0
        obtain ⟨x', hx', k, hk⟩ := hf 0 f rfl
        cases hx'
        have key := openB_fields ih fs xs (acc ++ s) ss (B + wBulk x.1) h (by simpa using hlx) (fun i g hg => hf (i + 1) g (by simpa using hg)) (fun L hL => ?_) hl L0 hL0
        · refine key.le ?_
          simp only [List.map_cons, wBulks]; omega
        have h2 := ih f s hs hsz x k hk
        rw [hsz, hoff] at h2
        have h1 := (ha L hL).app h2
        have : cs.take acc.length ++ (cs.drop acc.length).take s.length = cs.take (acc ++ s).length := by
          rw [List.length_append, List.take_add]
        rw [this] at h1
        exact h1
theorem openB_elems {e : TypeId} {ss : List Sh} (ih : ∀ k cs x, DataW.trod enc P W 0 (fun _ => true) true k e cs = some x → ∀ L, OkL E m W L → OpenedB E m W L ss cs (wBulk x.1)) :
    ∀ (l : List (List Value)) (xs : List (DataW H)), xs.length = l.length → (∀ (i : Nat) cs, l[i]? = some cs → ∃ k x, DataW.trod enc P W 0 (fun _ => true) true k e cs = some x ∧ xs[i]? = some x.1) → ∀ L, OkL E m W L →
      ∃ (L1 : List Bk) (vs : List Value) (dss : List (List D)), OkL E m W (L ++ L1) ∧ VRs (sgOf m (L ++ L1)) vs l.flatten ∧ DRs (hpOf m (L ++ L1)).blocks.get dss.flatten vs ∧ dss.length = l.length ∧ (∀ ds ∈ dss, HasShs ss ds) ∧ vs.all oneCell = true ∧ ∀ st, dBulks (dss.map (mkE st)) ≤ wBulks xs
  | [], [], _, _, L, hL => ⟨[], [], [], by rw [List.append_nil]; exact hL, .nil, .nil, rfl, fun _ h => (by cases h), rfl, fun _ => Nat.le_refl _⟩
  | [], _ :: _, h, _, _, _ => by simp at h
  | _ :: _, [], h, _, _, _ => by simp at h
  | cs :: l, y :: ys, hly, h, L, hL => by
    obtain ⟨k, x, hx, hy⟩ := h 0 cs rfl
    cases hy
    obtain ⟨L1, vs, ds, a1, a2, a3, a4, a5, a6⟩ := ih k cs x hx L hL
    obtain ⟨L2, us, dss, b1, b2, b3, b4, b5, b6, b7⟩ := openB_elems ih l ys (by simpa using hly) (fun i c hc => h (i + 1) c (by simpa using hc)) _ a1
    refine ⟨L1 ++ L2, vs ++ us, ds :: dss, ?_, ?_, ?_, by simp [b4], ?_, by rw [List.all_append, a5, b6]; rfl, ?_⟩
    · rw [← List.append_assoc]; exact b1
    · rw [← List.append_assoc, List.flatten_cons]; exact vrs_app (a2.mono sgOf_app) b2
    · rw [← List.append_assoc, List.flatten_cons]; exact (a3.mono hpOf_app).append b3
    · intro d hd
      rcases List.mem_cons.1 hd with rfl | hd
      · exact a4
      · exact b5 d hd
    · intro st
      have h1 := dBulk_mk st ds
      have h2 : Nat.max 1 (dBulks ds) ≤ wBulk x.1 := Nat.max_le.2 ⟨wBulk_pos _, a6⟩
      have h3 := b7 st
      simp only [List.map_cons, dBulks, wBulks]; omega
theorem openB_list (hsz : ∀ t ti, E.types.get t = some ti → ti.size = P.cellsOf t) (hm : m = E.prog.globals.size) {t e : TypeId} {ss : List Sh} {s : Sh} {n : Nat} (ht : P.underlying t = some (.slice e)) (hn : shCells P n e = some ss) (hs : elSh P e ss = some s)
    (hc : P.cellsOf e = ss.length) (hz : 0 < ss.length)
    (ih : ∀ k cs x, DataW.trod enc P W 0 (fun _ => true) true k e cs = some x → ∀ L, OkL E m W L → OpenedB E m W L ss cs (wBulk x.1))
    {k : Nat} {cs : List Value} {x : DataW H × List MemPlace} (h : DataW.trod enc P W 0 (fun _ => true) true k t cs = some x) {L : List Bk} (hL : OkL E m W L) : OpenedB E m W L [.sl e ss.length s] cs (wBulk x.1) := by
  rcases Deep.open_slice ht h with ⟨rfl, rfl⟩ | ⟨a, len, cap, mm, nn, Dx, Pl, rfl, _, hlc, hcap, hmm, rfl, hx⟩
  · exact ⟨[], [.slice none 0 0], [.nil], by rw [List.append_nil]; exact hL, .cons (.leaf rfl) .nil, .cons .nil .nil, ⟨.nil, [], rfl, .inl rfl, rfl⟩, rfl, Nat.le_refl _⟩
  · simp only [if_true] at hmm
    subst hmm
    rw [hc] at hx
    obtain ⟨f, hf⟩ := Deep.choose_lt (α := List Value) (p := fun i c => W.cells? 0 (a.add (i * ss.length)) ss.length = some c ∧ DataW.trod enc P W 0 (fun _ => true) true nn e c = some (Dx i, Pl i)) hx
    have hfl : ∀ i, i < mm → (f i).length = ss.length := fun i hi => (World.cells?_some (hf i hi).1).2.1
    obtain ⟨L1, vs, dss, a1, a2, a3, a4, a5, a6, a7⟩ := openB_elems ih ((List.range len).map f) ((List.range len).map Dx) (by simp) (fun i c hc => by
      rw [List.getElem?_map] at hc
      have hi : i < len := by
        rcases Nat.lt_or_ge i len with h | h
        · exact h
        · rw [List.getElem?_eq_none (by simpa using h)] at hc; cases hc
      rw [List.getElem?_range hi] at hc
      cases hc
      exact ⟨nn, _, (hf i (by omega)).2, by rw [List.getElem?_map, List.getElem?_range hi]; rfl⟩) L hL
    rw [List.length_map, List.length_range] at a4
    obtain ⟨st, hst⟩ := elSh_mk hn hs
    have hvl : vs.length = len * ss.length := by
      have h1 := VRs.length a2
      rw [← h1, flatten_len _ (sz := ss.length) (fun c hc => by
        obtain ⟨i, hi, rfl⟩ := List.mem_map.1 hc
        exact hfl i (by have := List.mem_range.1 hi; omega)), List.length_map, List.length_range]
    have hcells : (dss.map (mkE st)).flatMap D.cells = dss.flatten := cells_mk _ (fun d hd => (hst d (a5 d hd)).2)
    have hlenX : len < capX := by
      have : maxLen < capX := by unfold maxLen capX; decide
      omega
    have hcapX : mm < capX := by
      have : maxLen < capX := by unfold maxLen capX; decide
      omega
    have hsh : HasSh (.sl e ss.length s) (.sl e ss.length (dss.map (mkE st))) := by
      refine .inr ⟨_, rfl, by rw [List.length_map, a4]; exact hlenX, fun y hy => ?_⟩
      obtain ⟨d, hd, rfl⟩ := List.mem_map.1 hy
      exact (hst d (a5 d hd)).1
    have fin : ∀ (o : Option Loc), (∀ l, o = some l → ∃ ob, W.heap[l.blk]? = some ob ∧ ObjR E (sgOf m (L ++ L1)) l false (.cells vs e) ob) →
        (VR (sgOf m (L ++ L1 ++ [⟨o, vs, e⟩])) (.slice (some ⟨m + (L ++ L1).length, 0, none⟩) len mm) (.slice (some a) len mm)) → OpenedB E m W L [.sl e ss.length s] [.slice (some a) len mm] (wBulk (DataW.slice ((List.range len).map Dx) ((List.range (mm - len)).map fun j => Dx (len + j)))) := by
      intro o ho hv
      refine ⟨L1 ++ [⟨o, vs, e⟩], [.slice (some ⟨m + (L ++ L1).length, 0, none⟩) len mm], [.sl e ss.length (dss.map (mkE st))], ?_, ?_, ?_, ⟨_, [], rfl, hsh, rfl⟩, rfl, by have := a7 st; simp only [dBulks, dBulk, wBulk]; omega⟩
      · rw [← List.append_assoc]; exact a1.snoc ho
      · rw [← List.append_assoc]; exact .cons hv .nil
      · rw [← List.append_assoc]
        have hb : (hpOf m (L ++ L1 ++ [⟨o, vs, e⟩])).blocks.get (m + (L ++ L1).length) = some ⟨.cells vs e, 0, false⟩ := by
          rw [hpOf_get, if_pos (by omega), Nat.add_sub_cancel_left]
          simp [Bk.a]
        refine .cons (.sl hb ?_ ?_ (by rw [List.length_map, a4]) ?_ hlc hlenX a6) .nil
        · rw [List.drop_zero]; exact take?_all vs _ hvl.symm
        · rw [hcells]; exact a3.mono hpOf_app
        · intro y hy
          obtain ⟨d, hd, rfl⟩ := List.mem_map.1 hy
          rw [(hst d (a5 d hd)).2]
          exact hasShs_len (a5 d hd)
    by_cases hc0 : mm = 0
    · have hl0 : len = 0 := by omega
      subst hl0 hc0
      exact fin none (fun l hl => by cases hl) (.sliceZ (.inl rfl))
    · have hcell : ∀ i j, i < mm → j < ss.length → W.cell? ((a.add (i * ss.length)).add j) = (f i)[j]? := fun i j hi hj => (World.cells?_some (hf i hi).1).2.2 j hj
      have hsome : ∀ i j, i < mm → j < ss.length → ∃ v, (f i)[j]? = some v := fun i j hi hj => ⟨_, List.getElem?_eq_getElem (by rw [hfl i hi]; exact hj)⟩
      have h00 := hcell 0 0 (by omega) hz
      have hadd0 : ((a.add (0 * ss.length)).add 0) = a := by simp [Addr.add]
      rw [hadd0] at h00
      obtain ⟨blk, off, spot⟩ := a
      obtain ⟨v0, hv0⟩ := hsome 0 0 (by omega) hz
      rw [hv0] at h00
      have hspot : spot = none ∧ ∃ ccs cel fz, W.heap[blk]? = some (.cells ccs cel fz) := by
        unfold World.cell? at h00
        split at h00
        · rename_i ccs cel fz hb
          refine ⟨?_, ccs, cel, fz, hb⟩
          cases spot with
          | none => rfl
          | some s => simp at h00
        · simp at h00
      obtain ⟨rfl, ccs, cel, fz, hb⟩ := hspot
      have haddr : ∀ i j, ((⟨blk, off, none⟩ : Addr).add (i * ss.length)).add j = ⟨blk, off + (i * ss.length + j), none⟩ := by
        intro i j
        unfold Addr.add
        by_cases h1 : i * ss.length = 0 <;> by_cases h2 : j = 0 <;> simp [h1, h2, Nat.add_assoc]
      have hget : ∀ i j, i < mm → j < ss.length → ccs[off + (i * ss.length + j)]? = (f i)[j]? := by
        intro i j hi hj
        rw [← hcell i j hi hj, haddr]
        simp [World.cell?, hb]
      have hsize : off + mm * ss.length ≤ ccs.size := by
        have h1 := hget (mm - 1) (ss.length - 1) (by omega) (by omega)
        obtain ⟨v, hv⟩ := hsome (mm - 1) (ss.length - 1) (by omega) (by omega)
        rw [hv] at h1
        have h2 := (Array.getElem?_eq_some_iff.1 h1).1
        have h3 : mm * ss.length = (mm - 1) * ss.length + ss.length := by
          obtain ⟨q, rfl⟩ : ∃ q, mm = q + 1 := ⟨mm - 1, by omega⟩
          rw [Nat.add_sub_cancel, Nat.succ_mul]
        omega
      refine fin (some ⟨blk, off, mm * ss.length, ss.length⟩) (fun l hl => ?_) ?_
      · cases hl
        refine ⟨_, hb, ?_⟩
        simp only [ObjR]
        refine ⟨fun e => absurd e (by decide), hsize, by rw [hvl]; exact Nat.mul_le_mul_right _ hlc, fun ti hti => by rw [hsz _ _ hti, hc], fun i v hi => ?_⟩
        have hone : oneCell v = true := List.all_eq_true.1 a6 v (List.mem_of_getElem? hi)
        obtain ⟨v', h1, h2⟩ := vrs_at a2 hi
        refine ⟨hone, v', ?_, h2⟩
        have hil : i < len * ss.length := by rw [← hvl]; exact (List.getElem?_eq_some_iff.1 hi).1
        rw [flatten_get f (fun j hj => hfl j (by omega)) hz i hil] at h1
        have hdl : i / ss.length < len := Nat.div_lt_of_lt_mul (by rw [Nat.mul_comm]; exact hil)
        have := hget (i / ss.length) (i % ss.length) (by omega) (Nat.mod_lt _ hz)
        rw [Nat.div_add_mod' i ss.length, h1] at this
        exact this
      · have hσ : sgOf m (L ++ L1 ++ [⟨some ⟨blk, off, mm * ss.length, ss.length⟩, vs, e⟩]) (m + (L ++ L1).length) = some ⟨blk, off, mm * ss.length, ss.length⟩ := by
          unfold sgOf
          rw [if_neg (by omega), Nat.add_sub_cancel_left]
          simp
        have := VR.sliceE (b := m + (L ++ L1).length) (i := 0) (l := len) (c := mm) hσ hlc hcapX
        exact this
theorem openB_cells (hsz : ∀ t ti, E.types.get t = some ti → ti.size = P.cellsOf t) (hm : m = E.prog.globals.size) : ∀ (n : Nat) (t : TypeId) (ss : List Sh), shCells P n t = some ss →
    ∀ (k : Nat) (cs : List Value) (x : DataW H × List MemPlace), DataW.trod enc P W 0 (fun _ => true) true k t cs = some x → ∀ L, OkL E m W L → OpenedB E m W L ss cs (wBulk x.1) := by
  intro n
  induction n with
  | zero => intro t ss h; cases h
  | succ n ih =>
    intro t ss h k cs x hx L hL
    simp only [shCells] at h
    split at h
    · rename_i hu
      cases h
      obtain ⟨b, rfl, rfl⟩ := DataW.trod_bool hu hx
      exact ⟨[], [.bool b], [.leaf (.bool b)], by rw [List.append_nil]; exact hL, .cons (.leaf rfl) .nil, .cons (.leaf rfl) .nil, ⟨_, [], rfl, ⟨b, rfl⟩, rfl⟩, rfl, by simp [dBulks, dBulk, wBulk]⟩
    · rename_i kk hu
      cases h
      obtain ⟨b, rfl, rfl, _⟩ := DataW.trod_int hu hx
      exact ⟨[], [.int kk b], [.leaf (.int kk b)], by rw [List.append_nil]; exact hL, .cons (.leaf rfl) .nil, .cons (.leaf rfl) .nil, ⟨_, [], rfl, ⟨b, rfl⟩, rfl⟩, rfl, by simp [dBulks, dBulk, wBulk]⟩
    · rename_i hu
      cases h
      obtain ⟨b, rfl, rfl, _⟩ := DataW.trod_string hu hx
      exact ⟨[], [.string b], [.leaf (.string b)], by rw [List.append_nil]; exact hL, .cons (.leaf rfl) .nil, .cons (.leaf rfl) .nil, ⟨_, [], rfl, ⟨b, rfl⟩, rfl⟩, rfl, by simp [dBulks, dBulk, wBulk]⟩
    · rename_i e hu
      split at h
      · rename_i ss' hss
        split at h
        · rename_i s hs
          cases hcc : (Nat.beq (P.cellsOf e) ss'.length && Nat.blt 0 ss'.length) with
          | false => rw [hcc] at h; cases h
          | true =>
            rw [hcc] at h
            simp only [cond_true, Option.some.injEq] at h
            subst h
            simp only [Bool.and_eq_true] at hcc
            exact openB_list hsz hm hu hss hs (Nat.eq_of_beq_eq_true hcc.1) (Nat.le_of_ble_eq_true hcc.2) (ih e ss' hss) hx hL
        · cases h
      · cases h
    · rename_i fs hu
      split at h
      · rename_i ss' hss
        cases hcc : Nat.beq (P.cellsOf t) ss'.length with
        | false => rw [hcc] at h; cases h
        | true =>
          rw [hcc] at h
          simp only [cond_true, Option.some.injEq] at h
          subst h
          have hcl := Nat.eq_of_beq_eq_true hcc
          obtain ⟨xs, n', rfl, rfl, hl, hxl, hf⟩ := DataW.trod_struct hu hx
          have := openB_fields (E := E) (enc := enc) (P := P) (W := W) (m := m) (cs := cs) (rec := shCells P n) (fun f s hs _ x k hx L hL => ih f.type s hs k _ x hx L hL) fs.toList xs [] ss' 0 hss (by rw [hxl]; simp) (fun i f hi => by
            have h1 := hf i f (by simpa using hi)
            have hlt : i < xs.length := by
              have := (List.getElem?_eq_some_iff.1 hi).1
              rw [hxl]; simpa using this
            rw [List.getElem?_eq_getElem hlt] at h1
            exact ⟨_, List.getElem?_eq_getElem hlt, _, h1⟩) (fun L hL => ⟨[], [], [], by rw [List.append_nil]; exact hL, .nil, .nil, rfl, rfl, Nat.le_refl _⟩) (by omega) L hL
          rw [List.take_of_length_le (by omega)] at this
          exact this.le (by simp only [wBulk]; omega)
      · cases h
    · cases h
def OpenedB1 (E : Env) (m : Nat) (W : World) (L0 : List Bk) (s : Sh) (v' : Value) (B : Nat) : Prop :=
  ∃ (L1 : List Bk) (v : Value) (d : D), OkL E m W (L0 ++ L1) ∧ VR (sgOf m (L0 ++ L1)) v v' ∧ DR (hpOf m (L0 ++ L1)).blocks.get d v ∧ HasSh s d ∧ dBulk d ≤ B
theorem openedB_one {L0 : List Bk} {s : Sh} {v' : Value} {B : Nat} (h : OpenedB E m W L0 [s] [v'] B) : OpenedB1 E m W L0 s v' B := by
  obtain ⟨L1, vs, ds, a1, a2, a3, a4, a5, a6⟩ := h
  simp only [HasShs] at a4
  obtain ⟨d, l, rfl, a4, rfl⟩ := a4
  cases a3 with
  | cons h hs =>
    cases hs
    cases a2 with
    | cons h2 hs2 => exact ⟨L1, _, d, a1, h2, h, a4, by simpa [dBulks] using a6⟩
theorem openB_arg (hsz : ∀ t ti, E.types.get t = some ti → ti.size = P.cellsOf t) (hm : m = E.prog.globals.size) {n : Nat} {t : TypeId} {ss : List Sh} {s : Sh} (hn : shCells P n t = some ss) (hs : elSh P t ss = some s)
    {v : Value} {d : DataW H} {p : List MemPlace} (hv : Value.okWide P W .any 0 t v) (h : DataW.Trod enc P W 0 (fun _ => true) true t v d p) {L : List Bk} (hL : OkL E m W L) : OpenedB1 E m W L s v (wBulk d) := by
  obtain ⟨k, hk⟩ := h
  have ho := openB_cells hsz hm n t ss hn k _ _ hk L hL
  have flat : (∀ cs, v ≠ .agg cs) → ss = [s] → OpenedB1 E m W L s v (wBulk d) := by
    intro h1 h2
    rw [h2] at ho
    have hc : v.cells.toList = [v] := by
      cases v <;> first | rfl | exact absurd rfl (h1 _)
    rw [hc] at ho
    exact openedB_one ho
  have one : (∀ fs, P.underlying t ≠ some (.struct fs)) → (∀ k e, P.underlying t ≠ some (.array k e)) → ss = [s] := by
    intro h1 h2
    unfold elSh at hs
    split at hs
    · rename_i fs hu; exact absurd hu (h1 fs)
    · rename_i k e hu; exact absurd hu (h2 k e)
    · split at hs
      · cases hs; rfl
      · cases hs
  cases n with
  | zero => cases hn
  | succ n =>
    have hn0 := hn
    simp only [shCells] at hn
    split at hn
    · rename_i hu
      refine flat (fun cs e => ?_) (one (fun _ e => by rw [hu] at e; cases e) (fun _ _ e => by rw [hu] at e; cases e))
      subst e
      simp only [Value.okWide, hu, Cell.okWide] at hv
      simp [Cell.ok] at hv
    · rename_i kk hu
      refine flat (fun cs e => ?_) (one (fun _ e => by rw [hu] at e; cases e) (fun _ _ e => by rw [hu] at e; cases e))
      subst e
      simp only [Value.okWide, hu, Cell.okWide] at hv
      simp [Cell.ok] at hv
    · rename_i hu
      refine flat (fun cs e => ?_) (one (fun _ e => by rw [hu] at e; cases e) (fun _ _ e => by rw [hu] at e; cases e))
      obtain ⟨s, hv⟩ := Go.WideShapes.okWide_string hu hv
      rw [hv] at e; cases e
    · rename_i e hu
      refine flat (fun cs e => ?_) (one (fun _ e => by rw [hu] at e; cases e) (fun _ _ e => by rw [hu] at e; cases e))
      obtain ⟨a, l, c, hv⟩ := Go.WideShapes.okWide_slice hu hv
      rw [hv] at e; cases e
    · rename_i fs hu
      have hs' : s = .st ss := by
        unfold elSh at hs
        rw [hu] at hs
        simp only [Option.some.injEq] at hs
        exact hs.symm
      subst hs'
      simp only [Value.okWide, hu] at hv
      obtain ⟨cs, rfl, _⟩ := hv
      obtain ⟨L1, vs, ds, a1, a2, a3, a4, a5, a6⟩ := ho
      refine ⟨L1, .agg ⟨vs⟩, .agg ds, a1, ?_, .agg a3 a5, ⟨ds, rfl, a4⟩, Nat.max_le.2 ⟨wBulk_pos _, a6⟩⟩
      obtain ⟨cs⟩ := cs
      exact .agg a2 a5
    · cases hn
theorem openB_args (hsz : ∀ t ti, E.types.get t = some ti → ti.size = P.cellsOf t) (hm : m = E.prog.globals.size) {n : Nat} : ∀ (ts : List TypeId) (ss : List Sh) (vs : List Value) (ds : List (DataW H)) (p : List MemPlace) (L : List Bk),
    argShs P n ts = some ss → DataW.TrodAll enc P W 0 (fun _ => true) true ts vs ds p → (∀ (j : Nat) t v, ts[j]? = some t → vs[j]? = some v → Value.okWide P W .any 0 t v) → OkL E m W L →
    ∃ (L1 : List Bk) (us : List Value) (xs : List D), OkL E m W (L ++ L1) ∧ VRs (sgOf m (L ++ L1)) us vs ∧ DRs (hpOf m (L ++ L1)).blocks.get xs us ∧ HasShs ss xs ∧ dBulks xs ≤ wBulks ds
  | [], ss, [], [], _, L, h, _, _, hL => by
    simp only [argShs, Option.some.injEq] at h; subst h
    exact ⟨[], [], [], by rw [List.append_nil]; exact hL, .nil, .nil, rfl, Nat.le_refl _⟩
  | t :: ts, ss, v :: vs, d :: ds, _, L, h, ⟨p, q, ht, hr, _⟩, hok, hL => by
    simp only [argShs] at h
    split at h
    · rename_i s1 h1
      split at h
      · rename_i s r h2 h3
        simp only [Option.some.injEq] at h; subst h
        obtain ⟨L1, u, x, a1, a2, a3, a4, a5⟩ := openB_arg hsz hm h1 h2 (hok 0 t v rfl rfl) ht hL
        obtain ⟨L2, us, xs, b1, b2, b3, b4, b5⟩ := openB_args hsz hm ts r vs ds q (L ++ L1) h3 hr (fun j t v h h' => hok (j + 1) t v (by simpa using h) (by simpa using h')) a1
        refine ⟨L1 ++ L2, u :: us, x :: xs, ?_, ?_, ?_, ⟨x, xs, rfl, a4, b4⟩, by simp only [dBulks, wBulks]; omega⟩
        · rw [← List.append_assoc]; exact b1
        · rw [← List.append_assoc]; exact .cons (a2.mono sgOf_app) b2
        · rw [← List.append_assoc]; exact .cons (a3.mono hpOf_app) b3
      · cases h
    · cases h
  | [], _, _ :: _, _, _, _, _, h, _, _ => h.elim
  | [], _, [], _ :: _, _, _, _, h, _, _ => h.elim
  | _ :: _, _, [], _, _, _, _, h, _, _ => h.elim
  | _ :: _, _, _ :: _, [], _, _, _, h, _, _ => h.elim
theorem lawB_calls {W : World} {n B : Nat} {f : FuncId} {ts : List TypeId} {ss : List Sh} (hE : E.prog = P) (hsz : ∀ t ti, E.types.get t = some ti → ti.size = P.cellsOf t) (hss : argShs P n ts = some ss)
    (hlaw : ∀ ds, HasBs B ss ds → Holds E f ds (dB true)) {args : List Value} {ds : List (DataW H)} {p : List MemPlace} (hA : DataW.TrodAll enc P W 0 (fun _ => true) true ts args ds p)
    (hok : ∀ (j : Nat) t v, ts[j]? = some t → args[j]? = some v → Value.okWide P W .any 0 t v) (hB : wBulks ds ≤ B) : Calls P f ⟨args⟩ W fun e w' => e = .returned (.bool true) ∧ Kept W w' := by
  obtain ⟨L1, us, xs, a1, a2, a3, a4, a5⟩ := openB_args (E := E) (m := E.prog.globals.size) hsz rfl ts ss args ds p [] hss hA hok (fun i k l h => by cases h)
  rw [← hE]
  exact holds_calls rfl (hlaw xs (hasBs_bulk a4 (Nat.le_trans a5 hB))) a1 a3 a2
end
end Go.Am
