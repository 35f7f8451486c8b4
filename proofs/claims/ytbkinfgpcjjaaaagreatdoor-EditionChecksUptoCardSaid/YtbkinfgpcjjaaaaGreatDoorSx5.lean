/- Symbolic runs: calls that are handed places of the function's own. Conditions: none. -/
import Derived.Test.YtbkinfgpcjjaaaaGreatDoorSx3
set_option linter.all false
namespace Go.Am
open Go
def Holds0 (E : Env) (f : FuncId) (ds : List D) (d : D) : Prop := (∃ fn, E.funcs.get f = some fn) ∧
  ∀ (H : AH) (g : Mem) (args : List Value), WF H → Mem.le g H.blocks.get → DRs g ds args →
    ∃ v H' g', CallOK E f args H v H' ∧ H.next < H'.next ∧ WF H' ∧ (∀ b, b < H.next → H'.blocks.get b = H.blocks.get b) ∧ Nat.min H.low H.next ≤ H'.low ∧ Mem.le g g' ∧ Mem.le g' H'.blocks.get ∧ (∀ b, b < H.next → g' b = g b) ∧ DR g' d v
def resV (m : Mode) (ve : Nat → Value) (lb : Nat → Nat) : Value := match m.out.slots with
  | [(_, x)] => x.val ve lb
  | l => .tuple ⟨SV.vals ve lb (l.map Prod.snd)⟩
def HoldsM (E : Env) (f : FuncId) (m : Mode) (ds : List D) (d : D) : Prop := (∃ fn, E.funcs.get f = some fn) ∧ ∃ ds', d = retD ds' ∧ ds'.length = m.out.sts.length ∧
  ∀ (L : Lim) (H : AH) (g : Mem) (ve : Nat → Value) (lb : Nat → Nat) (args : List Value), SR L H g (m.inp.st m.n) ds ve lb g ⟨m.n, false, T.ofList .leaf 0 args⟩ H → args.length = m.n →
    (L.F = (List.range m.inp.blks.length).map lb) →
    ∃ v H' g' ve', CallOK E f args H v H' ∧ H.next < H'.next ∧ SM { L with F := [] } (m.out.st 0) ds' ve' lb g' H' ∧ (∀ b, L.K b → H'.blocks.get b = H.blocks.get b) ∧ (∀ b, L.K b → g' b = g b) ∧ Nat.min H.low L.n ≤ H'.low ∧ v = resV m ve' lb
def Holds (E : Env) (f : FuncId) (ds : List D) (d : D) : Prop := (f < bigN ∧ Holds0 E f ds d) ∨ ∃ f0 m ds0, f = Nat.add bigN f0 ∧ ds = .mode m :: ds0 ∧ HoldsM E f0 m ds0 d
section
variable {E : Env} {n0 : Lim} {H0 : AH} {g0 : Mem} {S : St} {ρ : List D} {ve : Nat → Value} {lb : Nat → Nat} {g : Mem} {fr : Fr} {H : AH} {Q : Res1 → Prop} {o : Oper} {κ : K1} {wm : Bool}
theorem holdsM_inv {f : FuncId} {m : Mode} {ds : List D} {d : D} (h : Holds E (Nat.add bigN f) (.mode m :: ds) d) : HoldsM E f m ds d := by
  rcases h with ⟨h, _⟩ | ⟨f0, m', ds0, e1, e2, h⟩
  · exact absurd h (Nat.not_lt.2 (Nat.le_add_right bigN f))
  · have : f0 = f := by
      have h1 : bigN + f = bigN + f0 := e1
      omega
    subst this
    cases e2
    exact h
theorem idxN_ok {b : Nat} : ∀ {l : List Nat} {i k : Nat}, idxN b l i = some k → ∃ j, k = i + j ∧ l[j]? = some b
  | [], _, _, h => by cases h
  | c :: r, i, k, h => by
    simp only [idxN, bif_beq] at h
    split at h
    · rename_i e; cases h; exact ⟨0, rfl, by rw [e]; rfl⟩
    · obtain ⟨j, h1, h2⟩ := idxN_ok h
      exact ⟨j + 1, by omega, by simpa using h2⟩
def lbC (lb : Nat → Nat) (bm : List Nat) : Nat → Nat := fun k => lb (bm.getD k 0)
mutual
theorem toC_ok {bm : List Nat} {n m : Nat} {ρ : Nat → D} : ∀ {x y : SV}, x.toC bm = some y → y.val ve (lbC lb bm) = x.val ve lb ∧ y.d ρ = x.d ρ ∧ (x.bd n m → y.bd n bm.length)
  | .v i, y, h => by simp only [SV.toC, Option.some.injEq] at h; subst h; exact ⟨rfl, rfl, fun h => h⟩
  | .c x, y, h => by simp only [SV.toC, Option.some.injEq] at h; subst h; exact ⟨rfl, rfl, fun h => h⟩
  | .loc b o, y, h => by
    simp only [SV.toC] at h
    split at h
    · rename_i k hk
      cases h
      obtain ⟨j, h1, h2⟩ := idxN_ok hk
      have : k = j := by omega
      subst this
      refine ⟨?_, rfl, fun _ => (List.getElem?_eq_some_iff.1 h2).1⟩
      simp only [SV.val, lbC, List.getD_eq_getElem?_getD, h2, Option.getD_some]
    · cases h
  | .ptr _ _ _ _, y, h => by cases h
  | .pp i o, y, h => by simp only [SV.toC, Option.some.injEq] at h; subst h; exact ⟨rfl, rfl, fun h => h⟩
  | .agg cs, y, h => by
    simp only [SV.toC] at h
    split at h
    · rename_i l hl
      cases h
      obtain ⟨h1, h2, h3⟩ := toCs_ok (n := n) (m := m) (ρ := ρ) hl
      exact ⟨by simp only [SV.val, h1], by simp only [SV.d, h2], h3⟩
    · cases h
  | .tup cs, y, h => by
    simp only [SV.toC] at h
    split at h
    · rename_i l hl
      cases h
      obtain ⟨h1, h2, h3⟩ := toCs_ok (n := n) (m := m) (ρ := ρ) hl
      exact ⟨by simp only [SV.val, h1], by simp only [SV.d, h2], h3⟩
    · cases h
  | .fn f a b, y, h => by
    simp only [SV.toC] at h
    split at h
    · rename_i a' b' ha hb
      cases h
      obtain ⟨h1, h2, h3⟩ := toCs_ok (n := n) (m := m) (ρ := ρ) ha
      obtain ⟨k1, k2, k3⟩ := toCs_ok (n := n) (m := m) (ρ := ρ) hb
      exact ⟨by simp only [SV.val, h1, k1], by simp only [SV.d, h2, k2], fun q => ⟨h3 q.1, k3 q.2⟩⟩
    · cases h
  | .ifc t x, y, h => by
    simp only [SV.toC] at h
    split at h
    · rename_i x' hx
      cases h
      obtain ⟨h1, h2, h3⟩ := toC_ok (n := n) (m := m) (ρ := ρ) hx
      exact ⟨by simp only [SV.val, h1], by simp only [SV.d, h2], h3⟩
    · cases h
theorem toCs_ok {bm : List Nat} {n m : Nat} {ρ : Nat → D} : ∀ {xs ys : List SV}, SV.toCs bm xs = some ys → SV.vals ve (lbC lb bm) ys = SV.vals ve lb xs ∧ SV.ds ρ ys = SV.ds ρ xs ∧ (SV.bds n m xs → SV.bds n bm.length ys)
  | [], ys, h => by simp only [SV.toCs, Option.some.injEq] at h; subst h; exact ⟨rfl, rfl, fun h => h⟩
  | x :: xs, ys, h => by
    simp only [SV.toCs] at h
    split at h
    · rename_i y l hy hl
      cases h
      obtain ⟨h1, h2, h3⟩ := toC_ok (n := n) (m := m) (ρ := ρ) hy
      obtain ⟨k1, k2, k3⟩ := toCs_ok (n := n) (m := m) (ρ := ρ) hl
      exact ⟨by simp only [SV.vals, h1, k1], by simp only [SV.ds, h2, k2], fun q => ⟨h3 q.1, k3 q.2⟩⟩
    · cases h
end
theorem blk_toC {bm : List Nat} {n m : Nat} {ρ : Nat → D} {x y : Blk} (h : x.toC bm = some y) : (∀ cs, BlkOK ρ ve lb cs x → BlkOK ρ ve (lbC lb bm) cs y) ∧ (x.bd n m → y.bd n bm.length) := by
  cases x with
  | cells xs =>
    simp only [Blk.toC] at h
    split at h
    · rename_i l hl
      cases h
      obtain ⟨h1, h2, h3⟩ := toCs_ok (ve := ve) (lb := lb) (n := n) (m := m) (ρ := ρ) hl
      exact ⟨fun cs hc => by simp only [BlkOK] at hc ⊢; rw [h1]; exact hc, h3⟩
    · cases h
  | whole x k =>
    simp only [Blk.toC] at h
    split at h
    · rename_i l hl
      cases h
      obtain ⟨h1, h2, h3⟩ := toC_ok (ve := ve) (lb := lb) (n := n) (m := m) (ρ := ρ) hl
      exact ⟨fun cs hc => by simp only [BlkOK] at hc ⊢; rw [h1, h2]; exact hc, h3⟩
    · cases h
theorem blksC_ok {bm : List Nat} : ∀ {l : List Nat} {bs : List (Option Blk)}, blksC S bm l = some bs → bs.length = l.length ∧ (∀ b ∈ l, S.live b) ∧ ∀ (k : Nat) (y : Blk), bs[k]? = some (some y) → ∃ (b : Nat) (x : Blk), l[k]? = some b ∧ S.blks[b]? = some (some x) ∧ x.toC bm = some y
  | [], bs, h => by simp only [blksC, Option.some.injEq] at h; subst h; exact ⟨rfl, fun _ h => (by cases h), fun k y h => by simp at h⟩
  | b :: r, bs, h => by
    simp only [blksC] at h
    split at h
    · rename_i x l hx hl
      split at h
      · rename_i y hy
        cases h
        obtain ⟨h1, h2, h3⟩ := blksC_ok hl
        refine ⟨by simp [h1], ?_, ?_⟩
        · intro c hc
          rcases List.mem_cons.1 hc with rfl | hc
          · exact ⟨x, hx⟩
          · exact h2 c hc
        · intro k z hz
          cases k with
          | zero => simp at hz; subst hz; exact ⟨b, x, rfl, hx, hy⟩
          | succ k => simpa using h3 k z (by simpa using hz)
      · cases h
    · cases h
theorem nodupN_ok : ∀ {l : List Nat}, nodupN l = true → ∀ (i j a : Nat), l[i]? = some a → l[j]? = some a → i = j
  | [], _, i, j, a, hi, _ => by simp at hi
  | b :: r, h, i, j, a, hi, hj => by
    simp only [nodupN, Bool.and_eq_true, Bool.not_eq_true'] at h
    have no : ∀ k : Nat, r[k]? = some b → False := fun k hk => by
      have := List.mem_of_getElem? hk
      have h1 := h.1
      rw [List.any_eq_false] at h1
      exact h1 b this (Nat.beq_refl b)
    cases i with
    | zero =>
      simp at hi; subst hi
      cases j with
      | zero => rfl
      | succ j => exact absurd (by simpa using hj) (no j)
    | succ i => cases j with
      | zero => simp at hj; subst hj; exact absurd (by simpa using hi) (no i)
      | succ j => exact congrArg (· + 1) (nodupN_ok h.2 i j a (by simpa using hi) (by simpa using hj))
theorem ofList_get0 {l : List Value} {t : Nat} : (T.ofList .leaf 0 l).get t = l[t]? := by
  rw [ofList_getA]
  split
  · rfl
  · rename_i h
    simp only [T.get]
    rw [List.getElem?_eq_none (by omega)]
theorem ofList_get1 {l : List SV} {t : Nat} : (T.ofList .leaf 0 l).get t = l[t]? := by
  rw [ofList_getA]
  split
  · rfl
  · rename_i h
    simp only [T.get]
    rw [List.getElem?_eq_none (by omega)]
theorem SR.forC (h : SR n0 H0 g0 S ρ ve lb g fr H) {bm : List Nat} {l l' : List SV} {bs : List (Option Blk)} (hl : SV.bds S.n S.blks.length l) (hl' : SV.toCs bm l = some l') (hbs : blksC S bm bm = some bs) (hnd : nodupN bm = true) :
    SR { n0 with F := [] } H0 g0 (S.forC l' bs) ρ ve (lbC lb bm) g ⟨l'.length, false, T.ofList .leaf 0 (SV.vals ve lb l)⟩ H := by
  obtain ⟨b1, b2, b3⟩ := blksC_ok hbs
  have at_ : ∀ k, (S.forC l' bs).live k → ∃ b : Nat, bm[k]? = some b ∧ S.live b ∧ lbC lb bm k = lb b := by
    intro k ⟨y, hy⟩
    obtain ⟨b, x, e1, e2, _⟩ := b3 k y hy
    exact ⟨b, e1, ⟨x, e2⟩, by simp only [lbC, List.getD_eq_getElem?_getD, e1, Option.getD_some]⟩
  obtain ⟨v1, _, v3⟩ := toCs_ok (ve := ve) (lb := lb) (n := S.n) (m := S.blks.length) (ρ := getD ρ) hl'
  refine { len := h.len, wf := h.wf, mem := h.mem, base := h.base, fix := ⟨Nat.zero_le _, fun k a hk => by simp at hk⟩, vars := ?_, blks := ?_, sepLG := ?_, sepFG := h.sepFG, sepL := ?_, sepF := h.sepF, sepX := ?_, sz := rfl, rd := rfl, slots := ?_, keep := h.keep, gk := h.gk, low := h.low }
  · intro i s hs
    have := h.vars i s hs
    obtain ⟨k, oo⟩ := s
    refine ⟨this.1, ?_⟩
    have h2 := this.2
    cases k <;> try exact h2
    rcases h2 with q | ⟨B, l, cs, vs, el, rt, sz, es, q⟩
    · exact .inl q
    · exact .inr ⟨B, l, cs, vs, el, rt, sz, es, { q with rt := q.rt }⟩
  · intro k y hy
    obtain ⟨b, x, e1, e2, e3⟩ := b3 k y hy
    obtain ⟨q1, el, rt, cs, q2, q3, q4⟩ := h.blks b x e2
    obtain ⟨t1, t2⟩ := blk_toC (ve := ve) (lb := lb) (n := S.n) (m := S.blks.length) (ρ := getD ρ) e3
    have hlb : lbC lb bm k = lb b := by simp only [lbC, List.getD_eq_getElem?_getD, e1, Option.getD_some]
    refine ⟨?_, el, rt, cs, by rw [hlb]; exact q2, by rw [hlb]; exact q3, t1 cs q4⟩
    have := t2 q1
    show y.bd S.n bs.length
    rw [b1]; exact this
  · intro k hk
    obtain ⟨b, _, e2, e3⟩ := at_ k hk
    rw [e3]; exact h.sepLG b e2
  · intro a b ha hb e
    obtain ⟨c, c1, c2, c3⟩ := at_ a ha
    obtain ⟨d, d1, d2, d3⟩ := at_ b hb
    rw [c3, d3] at e
    have := h.sepL c d c2 d2 e
    subst this
    exact nodupN_ok hnd a b c c1 d1
  · intro k i hk hi
    obtain ⟨b, _, e2, e3⟩ := at_ k hk
    rw [e3]; exact h.sepX b i e2 hi
  · intro t x hx
    have hx : (T.ofList .leaf 0 l').get t = some x := hx
    rw [ofList_get1] at hx
    refine ⟨?_, ?_⟩
    · have hm := List.mem_of_getElem? hx
      have := v3 hl
      rw [SV.bds_iff] at this
      show x.bd S.n bs.length
      rw [b1]; exact this x hm
    · show (T.ofList .leaf 0 (SV.vals ve lb l)).get t = _
      rw [ofList_get0, ← v1, SV.vals_map, List.getElem?_map, hx]
      rfl
theorem SM.relim (h : SM n0 S ρ ve lb g H) (L : Lim) (hn : L.n = n0.n) (hb : ∀ b, L.K b → b < H.next) (hk1 : ∀ b, S.live b → ¬ L.K (lb b)) (hk2 : ∀ i B, S.freshV i = true → ownB (ve i) = some B → ¬ L.K B)
    (hF : L.F.length ≤ S.blks.length ∧ ∀ k a, L.F[k]? = some a → lb k = a) : SM L S ρ ve lb g H := by
  refine { len := h.len, wf := h.wf, mem := h.mem, base := ⟨by rw [hn]; exact h.base.1, hb⟩, fix := hF, vars := ?_, blks := ?_, sepLG := h.sepLG, sepFG := h.sepFG, sepL := h.sepL, sepF := h.sepF, sepX := h.sepX }
  · intro i s hs
    have := h.vars i s hs
    obtain ⟨k, oo⟩ := s
    refine ⟨this.1, ?_⟩
    have h2 := this.2
    cases k <;> try exact h2
    rcases h2 with q | ⟨B, l, cs, vs, el, rt, sz, es, q⟩
    · exact .inl q
    · refine .inr ⟨B, l, cs, vs, el, rt, sz, es, { q with rt := ⟨by rw [hn]; exact q.rt.1, hk2 i B (fresh_st.2 ⟨oo, hs⟩) ?_⟩ }⟩
      rw [q.v]; simp [ownB]
  · intro b x hx
    obtain ⟨q1, el, rt, cs, q2, q3, q4⟩ := h.blks b x hx
    exact ⟨q1, el, rt, cs, q2, ⟨by rw [hn]; exact q3.1, hk1 b ⟨x, hx⟩⟩, q4⟩
theorem core_fresh {p : Pat} {sz : Nat} {as : List SV} (h : SM n0 S ρ ve lb g H) (hc : coreS sz p as S = true) {i B sz' : Nat} (hi : (p.st sz').freshV i = true) (hB : ownB (argVe ve lb as i) = some B) : ∃ j, as[i]? = some (.v j) ∧ S.freshV j = true ∧ ownB (ve j) = some B := by
  unfold coreS at hc
  simp only [Bool.and_eq_true] at hc
  obtain ⟨⟨_, c5⟩, _⟩ := hc
  obtain ⟨o, hs⟩ := fresh_st.1 hi
  obtain ⟨x, hx, _, hk⟩ := stFits_at c5 hs
  simp only at hk
  simp only [argVe, hx] at hB
  rcases freshS_inv hk with (rfl | ⟨j, o', rfl, hj⟩) | ⟨j, rfl, hj⟩
  · simp [SV.val, ownB] at hB
  · have hB : ownB (ve j) = some B := hB
    rw [NoL.own (h.vars j _ hj).2] at hB; cases hB
  · exact ⟨j, hx, hj, hB⟩
theorem core_live {p : Pat} {sz : Nat} {as : List SV} (hc : coreS sz p as S = true) {b sz' : Nat} (hb : (p.st sz').live b) : S.live b := by
  unfold coreS at hc
  simp only [Bool.and_eq_true] at hc
  obtain ⟨⟨⟨_, c4⟩, _⟩, _⟩ := hc
  obtain ⟨x, hx⟩ := hb
  obtain ⟨y, hy, hf⟩ := fitBlks_at c4 hx
  cases y with
  | none => cases x <;> cases hf
  | some y => exact ⟨y, hy⟩
theorem killV_len : ∀ (l : List VSt) (x : SV), (killV l x).length = l.length := by
  intro l x
  cases x <;> first | rfl | simp [killV]
theorem kills_len : ∀ (as : List SV) (l : List VSt), (as.foldl killV l).length = l.length
  | [], _ => rfl
  | a :: as, l => by rw [List.foldl_cons, kills_len as, killV_len]
theorem kills_at : ∀ (as : List SV) (l : List VSt) {i : Nat} {s : VSt}, (as.foldl killV l)[i]? = some s → ∃ s0, l[i]? = some s0 ∧ ((s = s0 ∧ (s.k = .fresh → SV.v i ∉ as)) ∨ (s = ⟨.dead, s0.one⟩))
  | [], l, i, s, h => ⟨s, h, .inl ⟨rfl, fun _ h => by cases h⟩⟩
  | a :: as, l, i, s, h => by
    obtain ⟨s1, h1, h2⟩ := kills_at as (killV l a) h
    have key : ∃ s0, l[i]? = some s0 ∧ ((s1 = s0 ∧ (s1.k = .fresh → SV.v i ≠ a)) ∨ s1 = ⟨.dead, s0.one⟩) := by
      cases a with
      | v j =>
        simp only [killV, List.getElem?_modify] at h1
        cases hl : l[i]? with
        | none => rw [hl] at h1; simp at h1
        | some s0 =>
          rw [hl] at h1
          refine ⟨s0, rfl, ?_⟩
          change some _ = some _ at h1
          injection h1 with h1
          simp only at h1
          by_cases e : j = i
          · rw [if_pos e] at h1
            obtain ⟨k0, o0⟩ := s0
            cases k0 with
            | fresh => exact .inr h1.symm
            | _ => exact .inl ⟨h1.symm, fun hk => by rw [← h1] at hk; cases hk⟩
          · rw [if_neg e] at h1
            exact .inl ⟨h1.symm, fun _ he => e (by cases he; rfl)⟩
      | _ => exact ⟨s1, h1, .inl ⟨rfl, fun _ he => by cases he⟩⟩
    obtain ⟨s0, k1, k2⟩ := key
    refine ⟨s0, k1, ?_⟩
    rcases h2 with ⟨rfl, h2⟩ | h2
    · rcases k2 with ⟨rfl, k2⟩ | k2
      · refine .inl ⟨rfl, fun hk hm => ?_⟩
        rcases List.mem_cons.1 hm with hm | hm
        · exact k2 hk hm
        · exact h2 hk hm
      · exact .inr k2
    · rcases k2 with ⟨rfl, k2⟩ | k2
      · exact .inr h2
      · rw [h2, k2]; exact .inr rfl
theorem setBs_len {n : Nat} {bm : List Nat} : ∀ (l : List Nat) (xs B : List (Option Blk)), (setBs n bm l xs B).length = B.length
  | [], _, _ => by simp [setBs]
  | b :: bs, [], B => (setBs_len bs [] _).trans (List.length_set ..)
  | b :: bs, x :: xs, B => (setBs_len bs xs _).trans (List.length_set ..)
theorem setBs_at {n : Nat} {bm : List Nat} : ∀ (l : List Nat) (xs B : List (Option Blk)) {c : Nat} {y : Blk}, (setBs n bm l xs B)[c]? = some (some y) → (c ∉ l ∧ B[c]? = some (some y)) ∨ ∃ (k : Nat) (x : Blk), l[k]? = some c ∧ xs[k]? = some (some x) ∧ y = x.ofC n bm
  | [], _, B, c, y, h => .inl ⟨fun h => (by cases h), by simpa [setBs] using h⟩
  | b :: bs, [], B, c, y, h => by
    have h : (setBs n bm bs [] (B.set b none))[c]? = some (some y) := h
    rcases setBs_at bs [] _ h with ⟨h1, h2⟩ | ⟨k, x, h1, h2, _⟩
    · rw [List.getElem?_set] at h2
      split at h2
      · split at h2 <;> cases h2
      · rename_i e
        refine .inl ⟨fun hm => ?_, h2⟩
        rcases List.mem_cons.1 hm with rfl | hm
        · exact e rfl
        · exact h1 hm
    · simp at h2
  | b :: bs, x :: xs, B, c, y, h => by
    have h : (setBs n bm bs xs (B.set b (x.map (Blk.ofC n bm))))[c]? = some (some y) := h
    rcases setBs_at bs xs _ h with ⟨h1, h2⟩ | ⟨k, x', h1, h2, h3⟩
    · rw [List.getElem?_set] at h2
      split at h2
      · rename_i e
        subst e
        split at h2
        · cases x with
          | none => cases h2
          | some x => exact .inr ⟨0, x, rfl, rfl, by simpa using h2.symm⟩
        · cases h2
      · rename_i e
        refine .inl ⟨fun hm => ?_, h2⟩
        rcases List.mem_cons.1 hm with rfl | hm
        · exact e rfl
        · exact h1 hm
    · exact .inr ⟨k + 1, x', by simpa using h1, by simpa using h2, h3⟩
section
variable {n k M : Nat} {bm : List Nat} {ve3 ve2 : Nat → Value} {ρ3 ρ2 : Nat → D}
mutual
theorem ofC_ok (hv : ∀ i, ve3 (n + i) = ve2 i) (hd : ∀ i, ρ3 (n + i) = ρ2 i) (hM : ∀ j, j < bm.length → bm.getD j 0 < M) : ∀ {x : SV}, (x.ofC n bm).val ve3 lb = x.val ve2 (lbC lb bm) ∧ (x.ofC n bm).d ρ3 = x.d ρ2 ∧ (x.bd k bm.length → (x.ofC n bm).bd (n + k) M)
  | .v i => ⟨hv i, hd i, fun h => Nat.add_lt_add_left h n⟩
  | .c _ => ⟨rfl, rfl, fun h => h⟩
  | .loc b o => ⟨rfl, rfl, fun h => hM b h⟩
  | .ptr s i _ _ => by
    obtain ⟨a1, a2, a3⟩ := ofC_ok hv hd hM (x := s)
    obtain ⟨b1, b2, b3⟩ := ofC_ok hv hd hM (x := i)
    exact ⟨by simp only [SV.ofC, SV.val, a1, b1], rfl, fun h => ⟨a3 h.1, b3 h.2⟩⟩
  | .pp i o => ⟨by simp only [SV.ofC, SV.val]; rw [show Nat.add n i = n + i from rfl, hv i], by simp only [SV.ofC, SV.d]; rw [show Nat.add n i = n + i from rfl, hd i], fun h => Nat.add_lt_add_left h n⟩
  | .agg cs => by
    obtain ⟨a1, a2, a3⟩ := ofCs_ok hv hd hM (xs := cs)
    exact ⟨by simp only [SV.ofC, SV.val, a1], by simp only [SV.ofC, SV.d, a2], a3⟩
  | .tup cs => by
    obtain ⟨a1, a2, a3⟩ := ofCs_ok hv hd hM (xs := cs)
    exact ⟨by simp only [SV.ofC, SV.val, a1], by simp only [SV.ofC, SV.d, a2], a3⟩
  | .fn f a b => by
    obtain ⟨a1, a2, a3⟩ := ofCs_ok hv hd hM (xs := a)
    obtain ⟨b1, b2, b3⟩ := ofCs_ok hv hd hM (xs := b)
    exact ⟨by simp only [SV.ofC, SV.val, a1, b1], by simp only [SV.ofC, SV.d, a2, b2], fun h => ⟨a3 h.1, b3 h.2⟩⟩
  | .ifc t x => by
    obtain ⟨a1, a2, a3⟩ := ofC_ok hv hd hM (x := x)
    exact ⟨by simp only [SV.ofC, SV.val, a1], by simp only [SV.ofC, SV.d, a2], a3⟩
theorem ofCs_ok (hv : ∀ i, ve3 (n + i) = ve2 i) (hd : ∀ i, ρ3 (n + i) = ρ2 i) (hM : ∀ j, j < bm.length → bm.getD j 0 < M) : ∀ {xs : List SV}, SV.vals ve3 lb (SV.ofCs n bm xs) = SV.vals ve2 (lbC lb bm) xs ∧ SV.ds ρ3 (SV.ofCs n bm xs) = SV.ds ρ2 xs ∧ (SV.bds k bm.length xs → SV.bds (n + k) M (SV.ofCs n bm xs))
  | [] => ⟨rfl, rfl, fun h => h⟩
  | x :: xs => by
    obtain ⟨a1, a2, a3⟩ := ofC_ok hv hd hM (x := x)
    obtain ⟨b1, b2, b3⟩ := ofCs_ok hv hd hM (xs := xs)
    exact ⟨by simp only [SV.ofCs, SV.vals, a1, b1], by simp only [SV.ofCs, SV.ds, a2, b2], fun h => ⟨a3 h.1, b3 h.2⟩⟩
end
theorem blk_ofC (hv : ∀ i, ve3 (n + i) = ve2 i) (hd : ∀ i, ρ3 (n + i) = ρ2 i) (hM : ∀ j, j < bm.length → bm.getD j 0 < M) {x : Blk} : (∀ cs, BlkOK ρ2 ve2 (lbC lb bm) cs x → BlkOK ρ3 ve3 lb cs (x.ofC n bm)) ∧ (x.bd k bm.length → (x.ofC n bm).bd (n + k) M) := by
  cases x with
  | cells xs =>
    obtain ⟨a1, a2, a3⟩ := ofCs_ok (lb := lb) (k := k) hv hd hM (xs := xs)
    exact ⟨fun cs h => by simp only [Blk.ofC, BlkOK] at h ⊢; rw [a1]; exact h, a3⟩
  | whole x q =>
    obtain ⟨a1, a2, a3⟩ := ofC_ok (lb := lb) (k := k) hv hd hM (x := x)
    exact ⟨fun cs h => by simp only [Blk.ofC, BlkOK] at h ⊢; rw [a1, a2]; exact h, a3⟩
end
end
end Go.Am
namespace Go.Am
open Go
theorem ExecX.of_call {E : Env} {fr : Fr} {o : Oper} {H H' : AH} {f : FuncId} {args : List Value} {v : Value} (ha : aop E fr o H = some (.enter f args, H)) (hc : CallOK E f args H v H') (hn : H.next < H'.next) : ExecX E fr o H v H' := by
  refine ⟨Nat.le_of_lt hn, [⟨f, args, H, v, H'⟩], ⟨⟨hn, hc⟩, Nat.le_refl _, trivial⟩, fun a ha => ?_, fun ih hg => ?_⟩
  · simp only [List.mem_singleton] at ha; subst ha; exact Nat.le_refl _
  · have := hg _ (List.mem_singleton.2 rfl)
    simp only [execA, ha]
    simp only at this
    rw [this]
section
variable {E : Env} {n0 : Lim} {H0 : AH} {g0 : Mem} {S : St} {ρ : List D} {ve : Nat → Value} {lb : Nat → Nat} {g : Mem} {fr : Fr} {H : AH} {Q : Res1 → Prop} {o : Oper} {κ : K1} {wm : Bool}
theorem SR.after (h : SR n0 H0 g0 S ρ ve lb g fr H) {m : Mode} {bm : List Nat} {as : List SV} (hnd : nodupN bm = true) (hlv : ∀ b ∈ bm, S.live b) {L : Lim} {H' : AH} {g' : Mem} {ve2 : Nat → Value} {ds : List D}
    (hLn : L.n = n0.n) (hLK : ∀ b, L.K b ↔ b < H.next ∧ (∀ c ∈ bm, lb c ≠ b) ∧ (∀ i, SV.v i ∈ as → S.freshV i = true → ownB (ve i) ≠ some b)) (hLF : L.F = [])
    (hout : SM L (m.out.st 0) ds ve2 (lbC lb bm) g' H') (hkeep : ∀ b, L.K b → H'.blocks.get b = H.blocks.get b) (hgk : ∀ b, L.K b → g' b = g b) (hlow : Nat.min H.low L.n ≤ H'.low) (hnx : H.next < H'.next) (hln : m.out.blks.length ≤ bm.length) :
    SR n0 H0 g0 (S.after m bm as) (ρ ++ ds) (fun i => if i < S.n then ve i else ve2 (i - S.n)) lb g' fr H' := by
  have hlen : ρ.length = S.n := h.len
  have hds : ds.length = m.out.sts.length := hout.len
  have hn : (S.after m bm as).n = S.n + m.out.sts.length := by
    show (as.foldl killV S.sts ++ m.out.sts).length = _
    rw [List.length_append, kills_len]; rfl
  have hbl : (S.after m bm as).blks.length = S.blks.length := setBs_len _ _ _
  have e1 : ∀ i, i < S.n → (fun i => if i < S.n then ve i else ve2 (i - S.n)) i = ve i := fun i hi => if_pos hi
  have e2 : ∀ i, (fun i => if i < S.n then ve i else ve2 (i - S.n)) (S.n + i) = ve2 i := fun i => by
    simp only
    rw [if_neg (by omega)]
    congr 1; omega
  have d1 : ∀ i, i < S.n → getD (ρ ++ ds) i = getD ρ i := fun i hi => by
    simp only [getD, List.getD_eq_getElem?_getD]
    rw [List.getElem?_append_left (by omega)]
  have d2 : ∀ i, getD (ρ ++ ds) (S.n + i) = getD ds i := fun i => by
    simp only [getD, List.getD_eq_getElem?_getD]
    rw [List.getElem?_append_right (by omega)]
    congr 2; omega
  have hM : ∀ j, j < bm.length → bm.getD j 0 < S.blks.length := fun j hj => by
    have : bm.getD j 0 = bm[j] := by simp [List.getD_eq_getElem?_getD, List.getElem?_eq_getElem hj]
    rw [this]
    exact live_bd (hlv _ (List.getElem_mem hj))
  have Ksub : ∀ b, n0.K b → L.K b := fun b hb => (hLK b).2 ⟨h.base.2 b hb, fun c hc e => (live_lt h.toSM (hlv c hc)).2 (by rw [e]; exact hb), fun i _ hi e => by
    obtain ⟨oo, hs⟩ := fresh_st.1 hi
    rcases (h.vars i _ hs).2 with q | ⟨B, l, cs, vs, el, rt, sz, es, q⟩
    · rw [q.own] at e; cases e
    · rw [q.v] at e
      simp only [ownB, Nat.le_refl, if_true, Option.some.injEq] at e
      subst e
      exact q.rt.2 hb⟩
  have ownsub : ∀ b rt, L.own b rt → n0.own b rt := fun b rt q => ⟨by rw [← hLn]; exact q.1, fun hb => q.2 (Ksub b hb)⟩
  have hle : Mem.le g g' := fun b k hb => by
    have hbn := g_lt h.toSM hb
    have : L.K b := (hLK b).2 ⟨hbn, fun c hc e => (by rw [← e, h.sepLG c (hlv c hc)] at hb; cases hb), fun i _ hi e => (by rw [h.sepFG i b hi e] at hb; cases hb)⟩
    rw [hgk b this]; exact hb
  have oldF : ∀ i, (S.after m bm as).freshV i = true → i < S.n → S.freshV i = true ∧ SV.v i ∉ as := by
    intro i hi hlt
    obtain ⟨oo, hs⟩ := fresh_st.1 hi
    have hs : (as.foldl killV S.sts ++ m.out.sts)[i]? = some ⟨.fresh, oo⟩ := hs
    rw [List.getElem?_append_left (by rw [kills_len]; exact hlt)] at hs
    obtain ⟨s0, k1, k2⟩ := kills_at as S.sts hs
    rcases k2 with ⟨rfl, k2⟩ | k2
    · exact ⟨fresh_st.2 ⟨oo, k1⟩, k2 rfl⟩
    · cases k2
  have newF : ∀ i, (S.after m bm as).freshV i = true → ¬ i < S.n → (m.out.st 0).freshV (i - S.n) = true := by
    intro i hi hlt
    obtain ⟨oo, hs⟩ := fresh_st.1 hi
    have hs : (as.foldl killV S.sts ++ m.out.sts)[i]? = some ⟨.fresh, oo⟩ := hs
    rw [List.getElem?_append_right (by rw [kills_len]; exact Nat.le_of_not_lt hlt), kills_len] at hs
    exact fresh_st.2 ⟨oo, hs⟩
  have oldK : ∀ i B, S.freshV i = true → SV.v i ∉ as → ownB (ve i) = some B → L.K B := by
    intro i B hi hm hB
    refine (hLK B).2 ⟨(own_lt h.toSM hi hB).1, fun c hc e => h.sepX c i (hlv c hc) hi (by rw [e]; exact hB), fun j hj hfj e => ?_⟩
    have := h.sepF i j B hi hfj hB e
    subst this
    exact hm hj
  have liveK : ∀ b, S.live b → b ∉ bm → L.K (lb b) := by
    intro b hb hm
    refine (hLK _).2 ⟨(live_lt h.toSM hb).1, fun c hc e => ?_, fun i _ hi => h.sepX b i hb hi⟩
    have := h.sepL c b (hlv c hc) hb e
    subst this
    exact hm hc
  have newNK : ∀ i B, (m.out.st 0).freshV i = true → ownB (ve2 i) = some B → ¬ L.K B := by
    intro i B hi hB
    obtain ⟨oo, hs⟩ := fresh_st.1 hi
    rcases (hout.vars i _ hs).2 with q | ⟨B', l, cs, vs, el, rt, sz, es, q⟩
    · rw [q.own] at hB; cases hB
    · rw [q.v] at hB
      simp only [ownB, Nat.le_refl, if_true, Option.some.injEq] at hB
      subst hB
      exact q.rt.2
  have blk : ∀ c y, (S.after m bm as).blks[c]? = some (some y) → (c ∉ bm ∧ S.blks[c]? = some (some y)) ∨ ∃ (k : Nat) (x : Blk), bm[k]? = some c ∧ (m.out.st 0).blks[k]? = some (some x) ∧ y = x.ofC S.n bm := fun c y hy => setBs_at _ _ _ hy
  have lbk : ∀ {k c : Nat}, bm[k]? = some c → lbC lb bm k = lb c := fun {k c} hk => by simp only [lbC, List.getD_eq_getElem?_getD, hk, Option.getD_some]
  have lv : ∀ c, (S.after m bm as).live c → (c ∉ bm ∧ S.live c) ∨ ∃ k, bm[k]? = some c ∧ (m.out.st 0).live k := by
    intro c ⟨y, hy⟩
    rcases blk c y hy with ⟨h1, h2⟩ | ⟨k, x, h1, h2, _⟩
    · exact .inl ⟨h1, y, h2⟩
    · exact .inr ⟨k, h1, x, h2⟩
  have lv0 : ∀ c, (S.after m bm as).live c → S.live c := by
    intro c hc
    rcases lv c hc with ⟨_, h2⟩ | ⟨k, h1, _⟩
    · exact h2
    · exact hlv c (List.mem_of_getElem? h1)
  refine { len := ?_, wf := hout.wf, mem := hout.mem, base := h.base.mono (Nat.le_of_lt hnx), fix := ⟨by rw [hbl]; exact h.fix.1, h.fix.2⟩, vars := ?_, blks := ?_, sepLG := ?_, sepFG := ?_, sepL := fun a b ha hb => h.sepL a b (lv0 a ha) (lv0 b hb), sepF := ?_, sepX := ?_,
           sz := h.sz, rd := h.rd, slots := ?_, keep := fun b hb => by rw [hkeep b (Ksub b hb)]; exact h.keep b hb, gk := fun b hb => by rw [hgk b (Ksub b hb)]; exact h.gk b hb, low := ?_ }
  · show (ρ ++ ds).length = (as.foldl killV S.sts ++ m.out.sts).length
    rw [List.length_append, List.length_append, kills_len, hds, hlen]; rfl
  · intro i s hs
    have hs : (as.foldl killV S.sts ++ m.out.sts)[i]? = some s := hs
    by_cases hi : i < S.n
    · rw [List.getElem?_append_left (by rw [kills_len]; exact hi)] at hs
      obtain ⟨s0, k1, k2⟩ := kills_at as S.sts hs
      simp only [if_pos hi]
      rw [d1 i hi]
      have hv := h.vars i s0 k1
      rcases k2 with ⟨rfl, k2⟩ | k2
      · refine hv.mono hle fun hk B hB => hkeep B ?_
        obtain ⟨k, oo⟩ := s
        simp only at hk
        subst hk
        exact oldK i B (fresh_st.2 ⟨oo, k1⟩) (k2 rfl) hB
      · subst k2; exact ⟨hv.1, trivial⟩
    · rw [List.getElem?_append_right (by rw [kills_len]; exact Nat.le_of_not_lt hi), kills_len] at hs
      have hv := hout.vars (i - S.n) s hs
      simp only [if_neg hi]
      have hd := d2 (i - S.n)
      rw [show S.n + (i - S.n) = i by omega] at hd
      rw [hd]
      obtain ⟨k, oo⟩ := s
      refine ⟨hv.1, ?_⟩
      have h2 := hv.2
      cases k <;> try exact h2
      rcases h2 with q | ⟨B, l, cs, vs, el, rt, sz, es, q⟩
      · exact .inl q
      · exact .inr ⟨B, l, cs, vs, el, rt, sz, es, { q with rt := ownsub _ _ q.rt }⟩
  · intro c y hy
    rcases blk c y hy with ⟨h1, h2⟩ | ⟨k, x, h1, h2, rfl⟩
    · obtain ⟨q1, el, rt, cs, q2, q3, q4⟩ := h.blks c y h2
      refine ⟨Blk.bd_mono (by rw [hn]; omega) (by rw [hbl]; exact Nat.le_refl _) q1, el, rt, cs, ?_, q3, q4.congr e1 (fun _ _ => rfl) d1 q1⟩
      rw [hkeep _ (liveK c ⟨y, h2⟩ h1)]; exact q2
    · obtain ⟨q1, el, rt, cs, q2, q3, q4⟩ := hout.blks k x h2
      obtain ⟨t1, t2⟩ := blk_ofC (lb := lb) (k := (m.out.st 0).n) (M := S.blks.length) (ve3 := fun i => if i < S.n then ve i else ve2 (i - S.n)) (ve2 := ve2) (ρ3 := getD (ρ ++ ds)) (ρ2 := getD ds) e2 d2 hM (x := x)
      have hk : lbC lb bm k = lb c := lbk h1
      rw [hk] at q2 q3
      refine ⟨?_, el, rt, cs, q2, ownsub _ _ q3, t1 cs q4⟩
      rw [hn, hbl]
      exact t2 (Blk.bd_mono (Nat.le_refl _) hln q1)
  · intro b hb
    rcases lv b hb with ⟨h1, h2⟩ | ⟨k, h1, h2⟩
    · rw [hgk _ (liveK b h2 h1)]; exact h.sepLG b h2
    · have := hout.sepLG k h2
      rw [lbk h1] at this; exact this
  · intro i B hi hB
    by_cases hlt : i < S.n
    · obtain ⟨k1, k2⟩ := oldF i hi hlt
      simp only [if_pos hlt] at hB
      rw [hgk _ (oldK i B k1 k2 hB)]
      exact h.sepFG i B k1 hB
    · simp only [if_neg hlt] at hB
      exact hout.sepFG _ B (newF i hi hlt) hB
  · intro i j B hi hj h1 h2
    by_cases a1 : i < S.n <;> by_cases a2 : j < S.n
    · simp only [if_pos a1] at h1; simp only [if_pos a2] at h2
      exact h.sepF i j B (oldF i hi a1).1 (oldF j hj a2).1 h1 h2
    · simp only [if_pos a1] at h1; simp only [if_neg a2] at h2
      exact absurd (oldK i B (oldF i hi a1).1 (oldF i hi a1).2 h1) (newNK _ B (newF j hj a2) h2)
    · simp only [if_neg a1] at h1; simp only [if_pos a2] at h2
      exact absurd (oldK j B (oldF j hj a2).1 (oldF j hj a2).2 h2) (newNK _ B (newF i hi a1) h1)
    · simp only [if_neg a1] at h1; simp only [if_neg a2] at h2
      have := hout.sepF _ _ B (newF i hi a1) (newF j hj a2) h1 h2
      omega
  · intro b i hb hi
    by_cases hlt : i < S.n
    · simp only [if_pos hlt]
      exact h.sepX b i (lv0 b hb) (oldF i hi hlt).1
    · simp only [if_neg hlt]
      rcases lv b hb with ⟨h1, h2⟩ | ⟨k, h1, h2⟩
      · intro e
        exact newNK _ _ (newF i hi hlt) e (liveK b h2 h1)
      · have := hout.sepX k _ h2 (newF i hi hlt)
        rw [lbk h1] at this; exact this
  · intro t x hx
    obtain ⟨q1, q2⟩ := h.slots t x hx
    exact ⟨SV.bd_mono (by rw [hn]; omega) (by rw [hbl]; exact Nat.le_refl _) q1, by rw [q2, SV.val_congr e1 (fun _ _ => rfl) q1]⟩
  · have h1 := h.low
    have h2 : Nat.min H.low n0.n ≤ H'.low := by rw [← hLn]; exact hlow
    exact Nat.le_trans (Nat.le_min.2 ⟨h1, Nat.min_le_right _ _⟩) h2
theorem retD_inj {a b : List D} (h : retD a = retD b) (hl : a.length = b.length) : a = b := by
  match a, b, hl with
  | [], [], _ => rfl
  | [x], [y], _ => exact congrArg (fun z => [z]) h
  | x :: y :: r, x' :: y' :: r', _ => injection h
theorem op_callM (h : SR n0 H0 g0 S ρ ve lb g fr H) {f : FuncId} {l : List SV} (hl : SV.bds S.n S.blks.length l) (ha : (∃ fn, E.funcs.get f = some fn) → aop E fr o H = some (.enter f (SV.vals ve lb l), H))
    (hw : wp E (Holds E) Q (callMS E f l S κ) ρ) : Done true E (Holds E) Q n0 H0 g0 fr H o κ := by
  unfold callMS at hw
  simp only at hw
  generalize closeL S 3 ((locsOfs l).foldl addN []) = bm at hw
  split at hw
  case h_2 => cases hw
  rename_i fn l' bs hfn hl' hbs
  generalize inferM (S.forC l' bs) (hintOf E f) fn.resultTypes.size l' bs = mi at hw
  obtain ⟨m, as⟩ := mi
  simp only at hw
  obtain ⟨g2, ex, h2⟩ := freezeVs_ok (pureArgs m.inp.sts as) h
  generalize freezeVs S (pureArgs m.inp.sts as) = S2 at hw ex h2
  obtain ⟨hc, hw⟩ := wp_bif hw
  simp only [Bool.and_eq_true] at hc
  obtain ⟨⟨⟨⟨⟨hnd, hcore⟩, hmn⟩, hos⟩, hob⟩, hol⟩ := hc
  have hmn := Nat.eq_of_beq_eq_true hmn
  have hol := Nat.le_of_ble_eq_true hol
  simp only [wp] at hw
  obtain ⟨ds, hh, hdl, hw⟩ := hw
  have hM := holdsM_inv hh
  obtain ⟨hfe, ds', hd', hdl', hM⟩ := hM
  have hds := retD_inj hd' (by rw [hdl, hdl'])
  subst hds
  have hl2 : SV.bds S2.n S2.blks.length l := ex.bds hl
  have hbs2 : blksC S2 bm bm = some bs := by
    have : ∀ r, blksC S2 bm r = blksC S bm r := by
      intro r
      induction r with
      | nil => rfl
      | cons b r ih => simp only [blksC, ex.blks, ih]
    rw [this]; exact hbs
  obtain ⟨b1, b2, b3⟩ := blksC_ok hbs2
  have hC := h2.forC hl2 hl' hbs2 hnd
  have hcs := core_ok hC hcore (Nat.zero_le _)
  have hvals : SV.vals ve lb l = SV.vals ve lb l := rfl
  have hall : (SV.vals ve lb l).length = l'.length := by
    have := (toCs_ok (ve := ve) (lb := lb) (n := S.n) (m := S.blks.length) (ρ := getD ρ) hl').1
    rw [← this, SV.vals_map, List.length_map]
  let L : Lim := ⟨n0.n, fun b => b < H.next ∧ (∀ c ∈ bm, lb c ≠ b) ∧ (∀ i, SV.v i ∈ as → S2.freshV i = true → ownB (ve i) ≠ some b), (List.range m.inp.blks.length).map (lbC lb bm)⟩
  have liveIn : ∀ k, (m.inp.st l'.length).live k → ∃ c : Nat, bm[k]? = some c := by
    intro k hk
    obtain ⟨y, hy⟩ := core_live hcore hk
    obtain ⟨b, x, e1, _, _⟩ := b3 k y hy
    exact ⟨b, e1⟩
  have hSM : SM L (m.inp.st l'.length) (SV.ds (getD ρ) as) (argVe ve (lbC lb bm) as) (lbC lb bm) g2 H := by
    refine hcs.toSM.relim L rfl (fun b hb => hb.1) ?_ ?_ ⟨?_, ?_⟩
    · intro k hk hK
      obtain ⟨c, hc⟩ := liveIn k hk
      refine hK.2.1 c (List.mem_of_getElem? hc) ?_
      simp only [lbC, List.getD_eq_getElem?_getD, hc, Option.getD_some]
    · intro i B hi hB hK
      obtain ⟨j, j1, j2, j3⟩ := core_fresh (lb := lbC lb bm) hC.toSM hcore hi hB
      exact hK.2.2 j (List.mem_of_getElem? j1) j2 j3
    · show ((List.range m.inp.blks.length).map (lbC lb bm)).length ≤ m.inp.blks.length
      simp
    · intro k a hk
      have hk : ((List.range m.inp.blks.length).map (lbC lb bm))[k]? = some a := hk
      rw [List.getElem?_map, Option.map_eq_some_iff] at hk
      obtain ⟨q, hq, rfl⟩ := hk
      rw [List.getElem?_range] at hq
      · cases hq; rfl
      · have := (List.getElem?_eq_some_iff.1 hq).1; simpa using this
  have hSR : SR L H g2 (m.inp.st m.n) (SV.ds (getD ρ) as) (argVe ve (lbC lb bm) as) (lbC lb bm) g2 ⟨m.n, false, T.ofList .leaf 0 (SV.vals ve lb l)⟩ H := by
    rw [hmn]
    exact { hSM with sz := hcs.sz, rd := hcs.rd, slots := hcs.slots, keep := fun _ _ => rfl, gk := fun _ _ => rfl, low := Nat.min_le_left _ _ }
  obtain ⟨v, H', g', ve2, c1, c2, c3, c4, c5, c6, c7⟩ := hM L H g2 _ _ _ hSR (by rw [hall, hmn]) rfl
  have hA := h2.after (m := m) (bm := bm) (as := as) hnd b2 (L := { L with F := [] }) rfl (fun b => Iff.rfl) rfl c3 c4 c5 c6 c2 hol
  have hlen : ρ.length = S2.n := h2.len
  have e2 : ∀ i, (fun i => if i < S2.n then ve i else ve2 (i - S2.n)) (S2.n + i) = ve2 i := fun i => by
    simp only
    rw [if_neg (by omega)]
    congr 1; omega
  have d2 : ∀ i, getD (ρ ++ ds) (S2.n + i) = getD ds i := fun i => by
    simp only [getD, List.getD_eq_getElem?_getD]
    rw [List.getElem?_append_right (by omega)]
    congr 2; omega
  have hMb : ∀ j, j < bm.length → bm.getD j 0 < S2.blks.length := fun j hj => by
    have : bm.getD j 0 = bm[j] := by simp [List.getD_eq_getElem?_getD, List.getElem?_eq_getElem hj]
    rw [this]
    exact live_bd (b2 _ (List.getElem_mem hj))
  have hn : (S2.after m bm as).n = S2.n + m.out.sts.length := by
    show (as.foldl killV S2.sts ++ m.out.sts).length = _
    rw [List.length_append, kills_len]; rfl
  have hbl : (S2.after m bm as).blks.length = S2.blks.length := setBs_len _ _ _
  have hres : (resSV m S2.n bm).val (fun i => if i < S2.n then ve i else ve2 (i - S2.n)) lb = v ∧ (resSV m S2.n bm).bd (S2.after m bm as).n (S2.after m bm as).blks.length := by
    rw [c7, hn, hbl]
    rw [List.all_eq_true] at hos
    unfold resSV resV
    generalize m.out.slots = sl at hos
    have many : ∀ l : List (Nat × SV), (∀ q ∈ l, bdB m.out.sts.length bm.length q.2 = true) → (SV.tup (SV.ofCs S2.n bm (l.map Prod.snd))).val (fun i => if i < S2.n then ve i else ve2 (i - S2.n)) lb = .tuple ⟨SV.vals ve2 (lbC lb bm) (l.map Prod.snd)⟩ ∧ (SV.tup (SV.ofCs S2.n bm (l.map Prod.snd))).bd (S2.n + m.out.sts.length) S2.blks.length := by
      intro l hl
      obtain ⟨t1, _, t3⟩ := ofCs_ok (lb := lb) (k := m.out.sts.length) (M := S2.blks.length) (ve3 := fun i => if i < S2.n then ve i else ve2 (i - S2.n)) (ve2 := ve2) (ρ3 := getD (ρ ++ ds)) (ρ2 := getD ds) e2 d2 hMb (xs := l.map Prod.snd)
      refine ⟨by simp only [SV.val, t1], t3 ?_⟩
      rw [SV.bds_iff]
      intro x hx
      obtain ⟨q, hq, rfl⟩ := List.mem_map.1 hx
      exact bdB_ok (hl q hq)
    match sl, hos with
    | [], hos => exact many [] hos
    | [(q, x)], hos =>
      obtain ⟨t1, _, t3⟩ := ofC_ok (lb := lb) (k := m.out.sts.length) (M := S2.blks.length) (ve3 := fun i => if i < S2.n then ve i else ve2 (i - S2.n)) (ve2 := ve2) (ρ3 := getD (ρ ++ ds)) (ρ2 := getD ds) e2 d2 hMb (x := x)
      exact ⟨t1, t3 (bdB_ok (hos (q, x) (List.mem_singleton.2 rfl)))⟩
    | a :: b :: r, hos => exact many (a :: b :: r) hos
  refine ⟨_, _, _, _, _, _, _, hA, hres.2, hw, ?_, fun e => by cases e⟩
  rw [hres.1]
  exact .of_call (ha hfe) c1 c2
end
end Go.Am
namespace Go.Am
open Go
section
variable {E : Env} {n0 : Lim} {H0 : AH} {g0 : Mem} {S : St} {ρ : List D} {ve : Nat → Value} {lb : Nat → Nat} {g : Mem} {fr : Fr} {H : AH} {Q : Res1 → Prop} {o : Oper} {κ : K1} {wm : Bool}
theorem SR.grow (h : SR n0 H0 g0 S ρ ve lb g fr H) {g' : Mem} (hg : Mem.le g g') (hm : Mem.le g' H.blocks.get) (n : Nat) (hn : n0.base n) (hk : ∀ b, b < n → g' b = g b) (hl : ∀ b, S.live b → lb b < n) (hf : ∀ i B, S.freshV i = true → ownB (ve i) = some B → B < n) :
    SR n0 H0 g0 S ρ ve lb g' fr H := by
  refine { h with mem := hm, vars := ?_, sepLG := ?_, sepFG := ?_, gk := ?_ }
  · intro i s hs
    exact (h.vars i s hs).mono hg (fun _ _ _ => rfl)
  · intro b hb
    rw [hk _ (hl b hb)]; exact h.sepLG b hb
  · intro i B hi hB
    rw [hk _ (hf i B hi hB)]; exact h.sepFG i B hi hB
  · intro b hb
    rw [hk b (hn.2 b hb)]; exact h.gk b hb
theorem allLeaf_dr {g g' : Mem} : ∀ {ds : List D} {vs : List Value}, allLeaf ds = true → DRs g ds vs → DRs g' ds vs
  | [], _, _, .nil => .nil
  | .leaf x :: ds, _, h, .cons (.leaf h1) h2 => .cons (.leaf h1) (allLeaf_dr (ds := ds) h h2)
  | .agg _ :: _, _, h, _ => by cases h
  | .nil :: _, _, h, _ => by cases h
  | .sl _ _ _ :: _, _, h, _ => by cases h
  | .tup _ :: _, _, h, _ => by cases h
  | .ptr _ _ :: _, _, h, _ => by cases h
  | .clo _ _ _ :: _, _, h, _ => by cases h
  | .iface _ _ :: _, _, h, _ => by cases h
  | .mode _ :: _, _, h, _ => by cases h
theorem flat_dr {g g' : Mem} {fl : Nat} {d : D} {v : Value} (hfl : fl ≠ 0) (h : flatD fl d = true) (hd : DR g d v) : DR g' d v ∧ (Nat.beq fl 1 = true → d.one = true) := by
  match fl, hfl with
  | 1, _ =>
    cases d with
    | leaf x => cases hd with
      | leaf h1 => exact ⟨.leaf h1, fun _ => rfl⟩
    | _ => cases h
  | n + 2, _ =>
    refine ⟨?_, fun e => by cases e⟩
    cases d with
    | tup l => cases hd with
      | tup h1 => exact .tup (allLeaf_dr h h1)
    | _ => cases h
theorem op_callS (h : SR n0 H0 g0 S ρ ve lb g fr H) {tg : Tgt} {args : List SV} {fl : Nat} (hws : writesS o = false)
    (ha : ∀ {g' : Mem} {f : FuncId} {ds : List D}, tgtD E tg (SV.ds (getD ρ) args) = some (f, ds) → DRs g' (SV.ds (getD ρ) args) (SV.vals ve lb args) → ∃ as, DRs g' ds as ∧ ((∃ fn, E.funcs.get f = some fn) → aop E fr o H = some (.enter f as, H)))
    (hw : wp E (Holds E) Q (callS E tg args fl S κ) ρ) : Done wm E (Holds E) Q n0 H0 g0 fr H o κ := by
  obtain ⟨g1, e1, h1⟩ := freezeVs_ok args h
  have call : args.all (pureB (freezeVs S args)) = true → ∀ {f : FuncId} {ds : List D} {d : D}, tgtD E tg (SV.ds (getD ρ) args) = some (f, ds) → Holds E f ds d →
      ∃ v H' g', ExecX E fr o H v H' ∧ H.next < H'.next ∧ WF H' ∧ (∀ b, b < H.next → H'.blocks.get b = H.blocks.get b) ∧ Nat.min H.low H.next ≤ H'.low ∧ Mem.le g1 g' ∧ Mem.le g' H'.blocks.get ∧ (∀ b, b < H.next → g' b = g1 b) ∧ DR g' d v := by
    intro hp f ds d ht hh
    rw [List.all_eq_true] at hp
    have hdr := readBs_pure h1.toSM hp
    obtain ⟨as, hds, hop⟩ := ha ht hdr
    rcases hh with ⟨_, hh⟩ | ⟨f0, m0, ds0, _, rfl, _⟩
    · obtain ⟨v, H', g', q1, q2, q3, q4, q5, q6, q7, q8, q9⟩ := hh.2 H g1 as h.wf h1.mem hds
      exact ⟨v, H', g', .of_call (hop hh.1) q1 q2, q2, q3, q4, q5, q6, q7, q8, q9⟩
    · cases hds with
      | cons h1 _ => cases h1
  unfold callS at hw
  split at hw
  · simp only at hw
    obtain ⟨hp, hw⟩ := wp_bif hw
    simp only [wp] at hw
    split at hw
    case h_2 => cases hw
    rename_i f ds ht
    obtain ⟨d, hh, _, hw⟩ := hw
    obtain ⟨v, H', g', hx, q2, q3, q4, q5, q6, q7, q8, q9⟩ := call hp ht hh
    have h2 := h1.heap q4 q3 (Nat.le_of_lt q2) (Nat.le_trans (Nat.le_min.2 ⟨h.low, Nat.le_trans (Nat.min_le_right _ _) h.base.1⟩) q5)
    have h3 := h2.grow q6 q7 H.next h.base q8 (fun b hb => (live_lt h1.toSM hb).1) (fun i B hi hB => (own_lt h1.toSM hi hB).1)
    exact ⟨_, _, _, _, _, _, _, h3.new (k := .pure) (o := false) (by simp) (v := v) ⟨(fun e => by cases e), q9⟩, new_bd, hw, by simpa only [SV.val, upd_at] using hx, fun _ => q5⟩
  · rename_i hfl
    obtain ⟨hp, hw⟩ := wp_bif hw
    simp only [wp] at hw
    split at hw
    case h_2 => cases hw
    rename_i f ds ht
    obtain ⟨d, hh, hfd, hw⟩ := hw
    obtain ⟨v, H', g', hx, q2, q3, q4, q5, q6, q7, q8, q9⟩ := call hp ht hh
    obtain ⟨r1, r2⟩ := flat_dr (g' := g) (fun e => hfl e) hfd q9
    have h2 := h.heap q4 q3 (Nat.le_of_lt q2) (Nat.le_trans (Nat.le_min.2 ⟨h.low, Nat.le_trans (Nat.min_le_right _ _) h.base.1⟩) q5)
    exact ⟨_, _, _, _, _, _, _, h2.new (k := .pure) (o := Nat.beq fl 1) (by simp) (v := v) ⟨r2, r1⟩, new_bd, hw, by simpa only [SV.val, upd_at] using hx, fun _ => q5⟩
theorem vals_app (ve : Nat → Value) (lb : Nat → Nat) (a b : List SV) : SV.vals ve lb (a ++ b) = SV.vals ve lb a ++ SV.vals ve lb b := by
  rw [SV.vals_map, SV.vals_map, SV.vals_map, List.map_append]
theorem op_call (h : SR n0 H0 g0 S ρ ve lb g fr H) {c : Call} (ho : o.op = .call c) (hw : wp E (Holds E) Q (sxOp E o S κ) ρ) : Done (writesM E S o) E (Holds E) Q n0 H0 g0 fr H o κ := by
  unfold sxOp at hw
  rw [ho] at hw
  simp only at hw
  split at hw
  · cases hw
  rename_i args hargs
  obtain ⟨ab, ae⟩ := evSs_ok (E := E) h hargs
  split at hw
  · rename_i b hb
    unfold builtinS at hw
    split at hw
    · split at hw
      · rename_i t ts x hts
        exact op_len h ho hb hts (by simpa [SV.vals] using ae) hw
      · cases hw
    · split at hw
      · rename_i s x
        have hwm : writesM E S o = appW S [s, x] := by simp only [writesM, writesS, ho, hb, hargs, Bool.false_or]
        rw [hwm]
        exact op_append h ho hb (by simpa [SV.vals] using ae) ab.1 ab.2.1 hw
      · cases hw
    · split at hw
      · exact op_mm h (mx := false) ho hb (by simpa [SV.vals] using ae) hw
      · cases hw
    · split at hw
      · exact op_mm h (mx := true) ho hb (by simpa [SV.vals] using ae) hw
      · cases hw
    · cases hw
  · rename_i r name hr
    have hws : writesS o = false := by simp [writesS, ho]
    split at hw
    case h_2 => cases hw
    rename_i y hy
    obtain ⟨yb, ye⟩ := evS_ok (E := E) h hy
    refine op_callS h hws (fun {g' f ds} ht hdr => ?_) hw
    simp only [SV.ds, SV.vals] at ht hdr
    generalize y.d (getD ρ) = yd at ht hdr
    generalize SV.ds (getD ρ) args = rd at ht hdr
    generalize hyv : y.val ve lb = yv at hdr
    generalize hav : SV.vals ve lb args = av at hdr
    cases hdr with
    | @cons _ _ _ _ h1 h2 =>
      cases yd with
      | iface t d =>
        simp only [tgtD] at ht
        split at ht
        case h_2 => cases ht
        rename_i i ti hi hti
        split at ht
        case h_2 => cases ht
        rename_i p f' ptr hfind
        obtain ⟨hc, ht⟩ := bif_none ht
        cases ht
        cases h1 with
        | @iface _ _ v h1 =>
          refine ⟨v :: av, .cons h1 h2, ?_⟩
          intro ⟨fn, hfn⟩
          unfold aop; rw [ho]
          simp only [callA, ae, hav, hr, ye, hyv, methodA, hi, hti, hfind, hc, cond_true, enterA, hfn]
      | _ => cases ht
  · rename_i f hf
    have hws : writesS o = false := by simp [writesS, ho]
    split at hw
    · rename_i gf first cap hfv
      obtain ⟨fb, fe⟩ := evS_ok (E := E) h hfv
      rw [cond_eq_ite] at hw
      split at hw
      · rename_i hloc
        have hwm : writesM E S o = true := by simp only [writesM, ho, hf, hargs, hfv, hloc, Bool.or_true]
        rw [hwm]
        refine op_callM h (l := first ++ args ++ cap) ?_ (fun ⟨fn, hfn⟩ => ?_) hw
        · rw [SV.bds_iff] at ab ⊢
          have f1 := SV.bds_iff.1 fb.1
          have f2 := SV.bds_iff.1 fb.2
          intro x hx
          rcases List.mem_append.1 hx with hx | hx
          · rcases List.mem_append.1 hx with hx | hx
            · exact f1 x hx
            · exact ab x hx
          · exact f2 x hx
        · simp only [SV.val] at fe
          unfold aop; rw [ho]
          simp only [callA, ae, hf, fe, directA, hfn, vals_app]
      refine op_callS h hws (fun {g' f' ds} ht hdr => ?_) hw
      simp only [tgtD, Option.some.injEq, Prod.mk.injEq] at ht
      obtain ⟨rfl, rfl⟩ := ht
      refine ⟨_, hdr, ?_⟩
      intro ⟨fn, hfn⟩
      simp only [SV.val] at fe
      unfold aop; rw [ho]
      simp only [callA, ae, hf, fe, directA, hfn, vals_app]
    · rename_i i hfv
      obtain ⟨fb, fe⟩ := evS_ok (E := E) h hfv
      refine op_callS h hws (fun {g' f' ds} ht hdr => ?_) hw
      simp only [SV.ds, SV.vals] at ht hdr
      simp only [SV.val] at fe
      generalize hyd : (SV.v i).d (getD ρ) = yd at ht hdr
      generalize SV.ds (getD ρ) args = rd at ht hdr
      generalize hyv : (SV.v i).val ve lb = yv at hdr
      generalize hav : SV.vals ve lb args = av at hdr
      simp only [SV.val] at hyv
      cases hdr with
      | cons h1 h2 =>
        cases yd with
        | clo fnn first cap =>
          cases fnn with
          | func gf =>
            simp only [tgtD, Option.some.injEq, Prod.mk.injEq] at ht
            obtain ⟨rfl, rfl⟩ := ht
            cases h1 with
            | @clo _ _ _ f1 c1 hp hf1 hc1 =>
              refine ⟨f1 ++ av ++ c1, (hf1.append h2).append hc1, ?_⟩
              intro ⟨fn, hfn⟩
              unfold aop; rw [ho]
              simp only [callA, ae, hav, hf, fe, hyv, directA, hfn]
          | _ => cases ht
        | _ => cases ht
    · cases hw
theorem sxOp_ok (h : SR n0 H0 g0 S ρ ve lb g fr H) (hw : wp E (Holds E) Q (sxOp E o S κ) ρ) : Done (writesM E S o) E (Holds E) Q n0 H0 g0 fr H o κ := by
  cases ho : o.op with
  | move x => exact op_move h (.inl ho) (by unfold sxOp at hw; rw [ho] at hw; exact hw)
  | assign x => exact op_move h (.inr ho) (by unfold sxOp at hw; rw [ho] at hw; exact hw)
  | pick c a b => exact op_pick h ho hw
  | alloc t => exact op_alloc h ho hw
  | box t x => exact op_box h ho hw
  | build t ps => exact op_build h ho hw
  | buildSlice t n ps => exact op_buildSlice h ho hw
  | load t a =>
    unfold sxOp at hw; rw [ho] at hw
    simp only at hw
    split at hw
    · rename_i a' ha
      obtain ⟨ab, ae⟩ := evS_ok (E := E) h ha
      obtain ⟨y, S', ρ', ve', g', e, h', hw', r1, r2⟩ := op_load h ab hw
      refine .same h' r1 hw' ?_
      unfold aop; rw [ho]
      simp only [ae, r2, one, Option.map_some]
    · cases hw
  | store t a x =>
    have hwm : writesM E S o = true := by simp [writesM, writesS, ho]
    rw [hwm]
    unfold sxOp at hw; rw [ho] at hw
    simp only at hw
    split at hw
    · rename_i i j sz off x' ha hx
      obtain ⟨ab, ae⟩ := evS_ok (E := E) h ha
      obtain ⟨xb, xe⟩ := evS_ok (E := E) h hx
      exact op_set h ho ae xe hw
    · rename_i a' x' _ ha hx
      obtain ⟨ab, ae⟩ := evS_ok (E := E) h ha
      obtain ⟨xb, xe⟩ := evS_ok (E := E) h hx
      exact op_store h ho ae xe ab xb hw
    · cases hw
  | makeSlice t l c => exact op_mk h ho hw
  | nilCheck x => exact op_nilCheck h ho hw
  | binOp op t x y p => exact op_bin h (b := fun _ => true) ho hw
  | unOp op t x => exact op_un h ho hw
  | convert s d x =>
    cases hbi : bytesIn E s d with
    | some el => exact op_bytes h ho hbi hw
    | none => cases hbo : bytesOk E s d with
      | true => exact op_str h ho hbi hbo hw
      | false => exact op_conv h ho hbi hbo hw
  | makeInterface t x => exact op_mkI h ho hw
  | makeFunc f a b => exact op_makeFunc h ho hw
  | slice t x lo hi mx => cases hz : ((lo.isNone || zeroO lo) && zeroO hi && zeroO mx) with
    | true => exact op_slice0 h ho hz hw
    | false => exact op_slice h ho hz hw
  | fieldAddr t x f => exact op_fieldAddr h ho hw
  | field t x f => exact op_field h ho hw
  | indexAddr t x i => exact op_indexAddr h ho hw
  | index t x i => exact op_index h ho hw
  | extract x i => exact op_extract h ho hw
  | call c => exact op_call h ho hw
  | _ => unfold sxOp at hw; rw [ho] at hw; cases hw
end
end Go.Am
namespace Go.Am
open Go
section
variable {E : Env} {n0 : Lim} {H0 : AH} {g0 : Mem} {S : St} {ρ : List D} {ve : Nat → Value} {lb : Nat → Nat} {g : Mem} {fr : Fr} {H : AH} {Q : Res1 → Prop} {o : Oper} {HS : FuncId → List D → D → Prop}
theorem guard_ok (h : SR n0 H0 g0 S ρ ve lb g fr H) {all : Array Oper} {yes no : St → Tree} (hw : wp E HS Q (guardS all o S yes no) ρ) :
    ∃ S', SR n0 H0 g0 S' ρ ve lb g fr H ∧ ((wantedA all fr o = some true ∧ wp E HS Q (yes S') ρ) ∨ (wantedA all fr o = some false ∧ wp E HS Q (no S') ρ)) := by
  unfold guardS at hw
  split at hw
  · rename_i hg
    exact ⟨S, h, .inl ⟨by simp only [wantedA, hg], hw⟩⟩
  · rename_i j want hg
    split at hw
    case h_2 => cases hw
    rename_i d o1 o2 o3 o4 o5 hj
    have y : ∀ {v : Value}, fr.t.get d = some v → yieldedA all fr j = (match v with | .bool b => some (some b) | _ => some none) := by
      intro v hv
      simp only [yieldedA, hj, hv]
      cases v <;> rfl
    split at hw
    · rename_i b hs
      have hv := (h.slots _ _ hs).2
      have hy := y hv
      simp only [SV.val] at hy
      rw [cond_eq_ite] at hw
      split at hw
      · rename_i hb
        exact ⟨S, h, .inl ⟨by simp only [wantedA, hg, hy, hb], hw⟩⟩
      · rename_i hb
        have hb' : (b == want) = false := by simpa using hb
        exact ⟨S, h, .inr ⟨by simp only [wantedA, hg, hy, hb'], hw⟩⟩
    · rename_i hs
      have hv := (h.slots _ _ hs).2
      have hy := y hv
      simp only [SV.val] at hy
      exact ⟨S, h, .inr ⟨by simp only [wantedA, hg, hy], hw⟩⟩
    · rename_i i hs
      obtain ⟨hp, hw⟩ := wp_bif hw
      obtain ⟨t, hd, hw⟩ := ite_inv hw
      have hv := (h.slots _ _ hs).2
      simp only [SV.val, bool_val h.toSM hp hd] at hv
      have hy := y hv
      simp only at hy
      refine ⟨S.known i t, known_ok h hp hd, ?_⟩
      cases t <;> cases want
      · exact .inl ⟨by simp only [wantedA, hg, hy]; rfl, hw⟩
      · exact .inr ⟨by simp only [wantedA, hg, hy]; rfl, hw⟩
      · exact .inr ⟨by simp only [wantedA, hg, hy]; rfl, hw⟩
      · exact .inl ⟨by simp only [wantedA, hg, hy]; rfl, hw⟩
    · cases hw
theorem Facts.append {n m : Nat} : ∀ {l l' : List Fact}, Facts E n l → (∀ a ∈ l, a.H'.next ≤ m) → n ≤ m → Facts E m l' → Facts E n (l ++ l')
  | [], _, _, _, hn, h' => h'.mono hn
  | a :: l, l', ⟨h1, h2, h3⟩, hm, _, h' => ⟨h1, h2, Facts.append h3 (fun b hb => hm b (List.mem_cons_of_mem _ hb)) (hm a List.mem_cons_self) h'⟩
theorem OpsX.nil {all : Array Oper} {draw : Bool} {i : Nat} : OpsX E all draw [] i fr H fr H :=
  ⟨Nat.le_refl _, [], trivial, fun _ h => (by cases h), fun _ _ => rfl⟩
theorem OpsX.skipped {all : Array Oper} {draw : Bool} {os : List Oper} {i : Nat} {fr1 fr' : Fr} {H' : AH} (hg : wantedA all fr o = some false) (hp : putA fr o.dst (.tuple #[]) = some fr1) (h : OpsX E all draw os (i + 1) fr1 H fr' H') :
    OpsX E all draw (o :: os) i fr H fr' H' := by
  obtain ⟨h1, l, h2, h3, h4⟩ := h
  exact ⟨h1, l, h2, h3, fun ih hgr => by simp only [runOps, hg, hp]; exact h4 ih hgr⟩
theorem OpsX.cons {all : Array Oper} {os : List Oper} {i : Nat} {fr1 fr' : Fr} {H1 H' : AH} {v : Value} (hg : wantedA all fr o = some true) (hx : ExecX E fr o H v H1) (hp : putA fr o.dst v = some fr1) (h : OpsX E all false os (i + 1) fr1 H1 fr' H') :
    OpsX E all false (o :: os) i fr H fr' H' := by
  obtain ⟨h1, l, h2, h3, h4⟩ := h
  obtain ⟨k1, l0, k2, k3, k4⟩ := hx
  refine ⟨Nat.le_trans k1 h1, l0 ++ l, k2.append k3 k1 h2, fun a ha => ?_, fun ih hgr => ?_⟩
  · rcases List.mem_append.1 ha with ha | ha
    · exact Nat.le_trans (k3 a ha) h1
    · exact h3 a ha
  · have e1 := k4 ih (fun a ha => hgr a (List.mem_append_left _ ha))
    have e2 := h4 ih (fun a ha => hgr a (List.mem_append_right _ ha))
    simp only [runOps, hg, cond_false, execR_of e1, hp, e2]
theorem OpsX.consD {all : Array Oper} {os : List Oper} {i : Nat} {fr1 fr' : Fr} {H1 H' : AH} {v : Value} (hg : wantedA all fr o = some true) (hx : ExecX E fr o (hideH H []) v H1) (hc : H.next ≤ H1.low ∨ fences all.toList i = true) (hp : putA fr o.dst v = some fr1)
    (h : OpsX E all true os (i + 1) fr1 (restoreH H H1 []) fr' H') : OpsX E all true (o :: os) i fr H fr' H' := by
  obtain ⟨h1, l, h2, h3, h4⟩ := h
  obtain ⟨k1, l0, k2, k3, k4⟩ := hx
  refine ⟨Nat.le_trans k1 h1, l0 ++ l, k2.append k3 k1 h2, fun a ha => ?_, fun ih hgr => ?_⟩
  · rcases List.mem_append.1 ha with ha | ha
    · exact Nat.le_trans (k3 a ha) h1
    · exact h3 a ha
  · have e1 := k4 ih (fun a ha => hgr a (List.mem_append_left _ ha))
    have e2 := h4 ih (fun a ha => hgr a (List.mem_append_right _ ha))
    have hW : hidden all.toList i [] = [] := rfl
    have hcond : (Nat.ble H.next H1.low || (([] : List Nat).isEmpty && (([] : List (Nat × Nat)).any (fun t => Nat.beq t.1 i && storesAt fr o t.2) || fences all.toList i))) = true := by
      rcases hc with hc | hc
      · rw [Nat.ble_eq_true_of_le hc]; rfl
      · rw [hc]; simp
    simp only [runOps, hg, cond_true, drawA, hW, e1, hcond, List.all_nil, Bool.and_true, hp, e2]
theorem SR.hide (h : SR n0 H0 g0 S ρ ve lb g fr H) : SR n0 H0 g0 S ρ ve lb g fr (hideH H []) :=
  { h with low := Nat.le_trans (Nat.min_le_right _ _) h.base.1 }
theorem SR.restore (h0 : SR n0 H0 g0 S ρ ve lb g fr H) {S' : St} {ρ' : List D} {ve' : Nat → Value} {lb' : Nat → Nat} {g' : Mem} {fr' : Fr} {H1 : AH} (h : SR n0 H0 g0 S' ρ' ve' lb' g' fr' H1) : SR n0 H0 g0 S' ρ' ve' lb' g' fr' (restoreH H H1 []) :=
  { h with low := Nat.le_min.2 ⟨h0.low, h.low⟩ }
theorem ops_ok {all : Array Oper} {draw : Bool} : ∀ (os : List Oper) (i : Nat) {S : St} {ρ : List D} {ve : Nat → Value} {lb : Nat → Nat} {g : Mem} {fr : Fr} {H : AH} {κ : St → Tree}, SR n0 H0 g0 S ρ ve lb g fr H → wp E (Holds E) Q (opsS E all draw os i S κ) ρ →
    ∃ S' ρ' ve' lb' g' fr' H', SR n0 H0 g0 S' ρ' ve' lb' g' fr' H' ∧ wp E (Holds E) Q (κ S') ρ' ∧ OpsX E all draw os i fr H fr' H'
  | [], i, S, ρ, ve, lb, g, fr, H, κ, h, hw => ⟨S, ρ, ve, lb, g, fr, H, h, hw, .nil⟩
  | o :: os, i, S, ρ, ve, lb, g, fr, H, κ, h, hw => by
    simp only [opsS] at hw
    obtain ⟨S1, h1, hw⟩ := guard_ok h hw
    rcases hw with ⟨hg, hw⟩ | ⟨hg, hw⟩
    · cases draw with
      | false =>
        simp only [Bool.false_and, cond_false] at hw
        obtain ⟨y, S2, ρ2, ve2, lb2, g2, H2, h2, hb, hw, hx, _⟩ := sxOp_ok h1 hw
        simp only at hw
        split at hw
        · rename_i S3 hp
          obtain ⟨fr3, hp', h3⟩ := put_ok h2 hb hp
          obtain ⟨S', ρ', ve', lb', g', fr', H', r1, r2, r3⟩ := ops_ok os (i + 1) h3 hw
          exact ⟨S', ρ', ve', lb', g', fr', H', r1, r2, .cons hg hx hp' r3⟩
        · cases hw
      | true =>
        simp only [Bool.true_and] at hw
        cases hwr : (writesM E S1 o && !(fences all.toList i)) with
        | true => rw [hwr] at hw; cases hw
        | false =>
          rw [hwr] at hw
          simp only [cond_false] at hw
          obtain ⟨y, S2, ρ2, ve2, lb2, g2, H2, h2, hb, hw, hx, hlow⟩ := sxOp_ok h1.hide hw
          simp only at hw
          split at hw
          · rename_i S3 hp
            obtain ⟨fr3, hp', h3⟩ := put_ok h2 hb hp
            obtain ⟨S', ρ', ve', lb', g', fr', H', r1, r2, r3⟩ := ops_ok os (i + 1) (h1.restore h3) hw
            refine ⟨S', ρ', ve', lb', g', fr', H', r1, r2, .consD hg hx ?_ hp' r3⟩
            cases hwo : writesM E S1 o with
            | true =>
              right
              rw [hwo] at hwr
              simpa using hwr
            | false =>
              left
              have := hlow hwo
              have e : Nat.min (hideH H []).low (hideH H []).next = H.next := Nat.min_self _
              rw [e] at this
              exact this
          · cases hw
    · split at hw
      · rename_i S3 hp
        obtain ⟨fr3, hp', h3⟩ := put_ok h1 (y := .tup []) trivial hp
        obtain ⟨S', ρ', ve', lb', g', fr', H', r1, r2, r3⟩ := ops_ok os (i + 1) h3 hw
        exact ⟨S', ρ', ve', lb', g', fr', H', r1, r2, .skipped hg hp' r3⟩
      · cases hw
end
end Go.Am
