/- Symbolic runs: states and what they say. Conditions: none. -/
import Derived.Test.YtbkinfgpcjjaaaaGreatDoorSx1
set_option linter.all false
namespace Go.Am
open Go
theorem T.get_map {α β : Type} (f : α → β) : ∀ (t : T α) (n : Nat), (t.map f).get n = (t.get n).map f
  | .leaf, _ => rfl
  | .node v l r, n => by
    simp only [T.map, T.get_node, T.get_map f l, T.get_map f r]
    split
    · cases v <;> rfl
    · split <;> rfl
theorem ofV_ok {g : Mem} : ∀ (n : Nat) (v : Value), deepFlat n v = true → DR g (ofVn n v) v := by
  intro n
  induction n with
  | zero =>
    intro v h
    cases v <;> first | (exact .leaf rfl) | (simp [deepFlat] at h; done) | skip
    · rename_i a; exact .leaf (by simpa [deepFlat, dleaf] using h)
    · rename_i a l c
      cases a with
      | none =>
        simp [deepFlat] at h
        rw [h.1, h.2]; exact .nil
      | some a => simp [deepFlat] at h
    · exact .leaf (by simpa [deepFlat, dleaf] using h)
  | succ n ih =>
    have all : ∀ l : List Value, (∀ v ∈ l, deepFlat n v = true) → DRs g (l.map (ofVn n)) l := by
      intro l
      induction l with
      | nil => intro _; exact .nil
      | cons x l ihl => intro h; exact .cons (ih x (h x (by simp))) (ihl fun v hv => h v (by simp [hv]))
    intro v h
    cases v <;> first | (exact .leaf rfl) | (simp [deepFlat] at h; done) | skip
    · rename_i a; exact .leaf (by simpa [deepFlat, dleaf] using h)
    · rename_i a l c
      cases a with
      | none =>
        simp [deepFlat] at h
        rw [h.1, h.2]; exact .nil
      | some a => simp [deepFlat] at h
    · exact .leaf (by simpa [deepFlat, dleaf] using h)
    · exact .iface (ih _ (by simpa [deepFlat] using h))
    · rename_i cs
      simp only [deepFlat, List.all_eq_true, Bool.and_eq_true] at h
      exact .agg (all cs.toList fun v hv => (h v hv).2) (by rw [List.all_eq_true]; exact fun v hv => (h v hv).1)
    · rename_i cs
      simp only [deepFlat, List.all_eq_true] at h
      exact .tup (all cs.toList fun v hv => h v hv)
mutual
def SV.bd (n m : Nat) : SV → Prop
  | .v i => i < n
  | .c _ => True
  | .loc b _ => b < m
  | .ptr s i _ _ => s.bd n m ∧ i.bd n m
  | .pp i _ => i < n
  | .agg cs => SV.bds n m cs
  | .tup cs => SV.bds n m cs
  | .fn _ a b => SV.bds n m a ∧ SV.bds n m b
  | .ifc _ x => x.bd n m
def SV.bds (n m : Nat) : List SV → Prop
  | [] => True
  | x :: xs => x.bd n m ∧ SV.bds n m xs
end
mutual
theorem SV.bd_mono {n m n' m' : Nat} (h1 : n ≤ n') (h2 : m ≤ m') : ∀ {x : SV}, x.bd n m → x.bd n' m'
  | .v i, h => Nat.lt_of_lt_of_le h h1
  | .c _, _ => trivial
  | .loc b _, h => Nat.lt_of_lt_of_le h h2
  | .ptr s i _ _, h => ⟨SV.bd_mono h1 h2 h.1, SV.bd_mono h1 h2 h.2⟩
  | .pp i _, h => Nat.lt_of_lt_of_le h h1
  | .agg cs, h => SV.bds_mono h1 h2 (xs := cs) h
  | .tup cs, h => SV.bds_mono h1 h2 (xs := cs) h
  | .fn _ a b, h => ⟨SV.bds_mono h1 h2 h.1, SV.bds_mono h1 h2 h.2⟩
  | .ifc _ x, h => SV.bd_mono h1 h2 (x := x) h
theorem SV.bds_mono {n m n' m' : Nat} (h1 : n ≤ n') (h2 : m ≤ m') : ∀ {xs : List SV}, SV.bds n m xs → SV.bds n' m' xs
  | [], _ => trivial
  | _ :: _, h => ⟨SV.bd_mono h1 h2 h.1, SV.bds_mono h1 h2 h.2⟩
end
mutual
theorem SV.val_congr {ve ve' : Nat → Value} {lb lb' : Nat → Nat} {n m : Nat} (h1 : ∀ i, i < n → ve' i = ve i) (h2 : ∀ b, b < m → lb' b = lb b) : ∀ {x : SV}, x.bd n m → x.val ve' lb' = x.val ve lb
  | .v i, h => h1 i h
  | .c _, _ => rfl
  | .loc b _, h => by simp only [SV.val, h2 b h]
  | .ptr s i _ _, h => by simp only [SV.val, SV.val_congr h1 h2 h.1, SV.val_congr h1 h2 h.2]
  | .pp i _, h => by simp only [SV.val, h1 i h]
  | .agg cs, h => by simp only [SV.val, SV.vals_congr h1 h2 (xs := cs) h]
  | .tup cs, h => by simp only [SV.val, SV.vals_congr h1 h2 (xs := cs) h]
  | .fn _ a b, h => by simp only [SV.val, SV.vals_congr h1 h2 h.1, SV.vals_congr h1 h2 h.2]
  | .ifc _ x, h => by simp only [SV.val, SV.val_congr h1 h2 (x := x) h]
theorem SV.vals_congr {ve ve' : Nat → Value} {lb lb' : Nat → Nat} {n m : Nat} (h1 : ∀ i, i < n → ve' i = ve i) (h2 : ∀ b, b < m → lb' b = lb b) : ∀ {xs : List SV}, SV.bds n m xs → SV.vals ve' lb' xs = SV.vals ve lb xs
  | [], _ => rfl
  | _ :: _, h => by simp only [SV.vals, SV.val_congr h1 h2 h.1, SV.vals_congr h1 h2 h.2]
end
mutual
theorem SV.d_congr {ρ ρ' : Nat → D} {n m : Nat} (h1 : ∀ i, i < n → ρ' i = ρ i) : ∀ {x : SV}, x.bd n m → x.d ρ' = x.d ρ
  | .v i, h => h1 i h
  | .c _, _ => rfl
  | .loc b _, h => rfl
  | .ptr s i _ _, h => rfl
  | .pp i _, h => by simp only [SV.d, h1 i h]
  | .agg cs, h => by simp only [SV.d, SV.ds_congr h1 (xs := cs) h]
  | .tup cs, h => by simp only [SV.d, SV.ds_congr h1 (xs := cs) h]
  | .fn _ a b, h => by simp only [SV.d, SV.ds_congr h1 h.1, SV.ds_congr h1 h.2]
  | .ifc _ x, h => by simp only [SV.d, SV.d_congr h1 (x := x) h]
theorem SV.ds_congr {ρ ρ' : Nat → D} {n m : Nat} (h1 : ∀ i, i < n → ρ' i = ρ i) : ∀ {xs : List SV}, SV.bds n m xs → SV.ds ρ' xs = SV.ds ρ xs
  | [], _ => rfl
  | _ :: _, h => by simp only [SV.ds, SV.d_congr h1 h.1, SV.ds_congr h1 h.2]
end
theorem SV.vals_map (ve : Nat → Value) (lb : Nat → Nat) : ∀ xs : List SV, SV.vals ve lb xs = xs.map (SV.val ve lb)
  | [] => rfl
  | x :: xs => by simp [SV.vals, SV.vals_map ve lb xs]
theorem SV.ds_map (ρ : Nat → D) : ∀ xs : List SV, SV.ds ρ xs = xs.map (SV.d ρ)
  | [] => rfl
  | x :: xs => by simp [SV.ds, SV.ds_map ρ xs]
theorem SV.bds_iff {n m : Nat} : ∀ {xs : List SV}, SV.bds n m xs ↔ ∀ x ∈ xs, x.bd n m
  | [] => by simp [SV.bds]
  | x :: xs => by simp [SV.bds, SV.bds_iff (xs := xs)]
structure Lim where
  n : Nat
  K : Nat → Prop
  F : List Nat := []
def Lim.own (L : Lim) (b rt : Nat) : Prop := L.n ≤ rt ∧ ¬ L.K b
def Lim.base (L : Lim) (n : Nat) : Prop := L.n ≤ n ∧ ∀ b, L.K b → b < n
def Lim.of (n : Nat) : Lim := ⟨n, (· < n), []⟩
theorem Lim.base.mono {L : Lim} {n m : Nat} (h : L.base n) (hm : n ≤ m) : L.base m := ⟨Nat.le_trans h.1 hm, fun b hb => Nat.lt_of_lt_of_le (h.2 b hb) hm⟩
theorem Lim.base.new {L : Lim} {n : Nat} (h : L.base n) : L.own n n := ⟨h.1, fun hk => Nat.lt_irrefl _ (h.2 n hk)⟩
theorem Lim.of_base (n : Nat) : (Lim.of n).base n := ⟨Nat.le_refl _, fun _ h => h⟩
def ownB (v : Value) : Option Nat := match v with
  | .slice (some ⟨b, _, _⟩) _ c => if capX ≤ c then some b else none
  | _ => none
structure OwnL (g : Mem) (bs : Mem) (n0 : Lim) (d : D) (v : Value) (B l : Nat) (cs vs : List Value) (el rt sz : Nat) (es : List D) : Prop where
  v : v = .slice (some ⟨B, 0, none⟩) l capX
  d : d = .sl el sz es
  b : bs B = some ⟨.cells cs el, rt, true⟩
  rt : n0.own B rt
  t : take? cs (l * sz) = some vs
  r : DRs g (es.flatMap D.cells) vs
  n : es.length = l
  s : ∀ e ∈ es, e.cells.length = sz
  x : l < capX
  o : vs.all oneCell = true
def NoL (g : Mem) (d : D) (v : Value) : Prop := (v = .slice none 0 0 ∧ d = .nil) ∨ (DR g d v ∧ ∃ a, v = .slice (some a) 0 0)
theorem NoL.dr {g : Mem} {d : D} {v : Value} (h : NoL g d v) : DR g d v := by
  rcases h with ⟨h1, h2⟩ | ⟨h, _⟩
  · rw [h1, h2]; exact .nil
  · exact h
theorem NoL.own {g : Mem} {d : D} {v : Value} (h : NoL g d v) : ownB v = none := by
  rcases h with ⟨h1, _⟩ | ⟨_, a, h⟩
  · rw [h1]; rfl
  · rw [h]; simp [ownB, capX]
theorem NoL.mono {g g' : Mem} (hg : Mem.le g g') {d : D} {v : Value} (h : NoL g d v) : NoL g' d v := by
  rcases h with h | ⟨h, a⟩
  · exact .inl h
  · exact .inr ⟨h.mono hg, a⟩
theorem NoL.sl {g : Mem} {d : D} {v : Value} (h : NoL g d v) : d = .nil ∨ ∃ el sz, d = .sl el sz [] := by
  rcases h with ⟨_, h2⟩ | ⟨h, a, rfl⟩
  · exact .inl h2
  · cases h with
    | leaf h0 => simp [dleaf] at h0
    | sl hb ht hv hl => exact .inr ⟨_, _, by rw [List.length_eq_zero_iff.1 hl]⟩
theorem NoL.one {g : Mem} {d : D} {v : Value} (h : NoL g d v) : d.one = true := by
  rcases h.sl with rfl | ⟨el, sz, rfl⟩ <;> rfl
def FreshR (g : Mem) (bs : Mem) (n0 : Lim) (d : D) (v : Value) : Prop :=
  NoL g d v ∨ ∃ B l cs vs el rt sz es, OwnL g bs n0 d v B l cs vs el rt sz es
def VarOK (g : Mem) (bs : Mem) (n0 : Lim) (s : VSt) (d : D) (v : Value) : Prop := (s.one = true → d.one = true) ∧ match s.k with
  | .pure => DR g d v
  | .full => NoL g d v
  | .fresh => FreshR g bs n0 d v
  | .dead => True
  | .ptr => DR g d v ∧ ∃ cs o, d = .ptr cs o
def BlkOK (ρ : Nat → D) (ve : Nat → Value) (lb : Nat → Nat) (cs : List Value) : Blk → Prop
  | .cells xs => cs = SV.vals ve lb xs
  | .whole x n => cs = (x.val ve lb).cells.toList ∧ ∃ ds, x.d ρ = .agg ds ∧ ds.length = n
def Blk.bd (n m : Nat) : Blk → Prop
  | .cells xs => SV.bds n m xs
  | .whole x _ => x.bd n m
def WF (H : AH) : Prop := ∀ b k, H.blocks.get b = some k → k.root ≤ b ∧ b < H.next
def St.live (S : St) (b : Nat) : Prop := ∃ x, S.blks[b]? = some (some x)
structure SM (n0 : Lim) (S : St) (ρ : List D) (ve : Nat → Value) (lb : Nat → Nat) (g : Mem) (H : AH) : Prop where
  len : ρ.length = S.sts.length
  wf : WF H
  mem : Mem.le g H.blocks.get
  base : n0.base H.next
  fix : n0.F.length ≤ S.blks.length ∧ ∀ k a, n0.F[k]? = some a → lb k = a
  vars : ∀ i s, S.sts[i]? = some s → VarOK g H.blocks.get n0 s (getD ρ i) (ve i)
  blks : ∀ b x, S.blks[b]? = some (some x) → x.bd S.n S.blks.length ∧ ∃ el rt cs, H.blocks.get (lb b) = some ⟨.cells cs el, rt, true⟩ ∧ n0.own (lb b) rt ∧ BlkOK (getD ρ) ve lb cs x
  sepLG : ∀ b, S.live b → g (lb b) = none
  sepFG : ∀ i B, S.freshV i = true → ownB (ve i) = some B → g B = none
  sepL : ∀ a b, S.live a → S.live b → lb a = lb b → a = b
  sepF : ∀ i j B, S.freshV i = true → S.freshV j = true → ownB (ve i) = some B → ownB (ve j) = some B → i = j
  sepX : ∀ b i, S.live b → S.freshV i = true → ownB (ve i) ≠ some (lb b)
structure SR (n0 : Lim) (H0 : AH) (g0 : Mem) (S : St) (ρ : List D) (ve : Nat → Value) (lb : Nat → Nat) (g : Mem) (fr : Fr) (H : AH) : Prop extends SM n0 S ρ ve lb g H where
  sz : fr.sz = S.sz
  rd : fr.rd = false
  slots : ∀ t x, S.slots.get t = some x → x.bd S.n S.blks.length ∧ fr.t.get t = some (x.val ve lb)
  keep : ∀ b, n0.K b → H.blocks.get b = H0.blocks.get b
  gk : ∀ b, n0.K b → g b = g0 b
  low : Nat.min H0.low n0.n ≤ H.low
section
variable {E : Env} {n0 : Lim} {H0 : AH} {S : St} {ρ : List D} {ve : Nat → Value} {lb : Nat → Nat} {g g' : Mem} {fr : Fr} {H : AH}
theorem FreshR.mono {bs bs' : Mem} (hg : Mem.le g g') {d : D} {v : Value} (hb : ∀ B, ownB v = some B → bs' B = bs B) (h : FreshR g bs n0 d v) : FreshR g' bs' n0 d v := by
  rcases h with h | ⟨B, l, cs, vs, el, rt, sz, es, h⟩
  · exact .inl (h.mono hg)
  · refine .inr ⟨B, l, cs, vs, el, rt, sz, es, { h with b := ?_, r := h.r.mono hg }⟩
    rw [hb B (by rw [h.v]; simp [ownB])]
    exact h.b
theorem VarOK.mono {bs bs' : Mem} (hg : Mem.le g g') {s : VSt} {d : D} {v : Value} (hb : s.k = .fresh → ∀ B, ownB v = some B → bs' B = bs B) (h : VarOK g bs n0 s d v) : VarOK g' bs' n0 s d v := by
  obtain ⟨k, o⟩ := s
  refine ⟨h.1, ?_⟩
  have h2 := h.2
  cases k <;> simp only at h2 ⊢
  · exact h2.mono hg
  · exact h2.mono hg
  · exact h2.mono hg (hb rfl)
  · exact ⟨h2.1.mono hg, h2.2⟩
theorem fresh_st {i : Nat} : S.freshV i = true ↔ ∃ o, S.sts[i]? = some ⟨.fresh, o⟩ := by
  unfold St.freshV
  split
  · rename_i o h; simp [h]
  · rename_i hn
    constructor
    · intro h; cases h
    · rintro ⟨o, h⟩; exact absurd h (hn o)
theorem pure_st {i : Nat} (h : S.pureV i = true) : ∃ s, S.sts[i]? = some s ∧ (s.k = .pure ∨ s.k = .full ∨ s.k = .ptr) := by
  unfold St.pureV at h
  split at h
  · rename_i o hh; exact ⟨_, hh, .inl rfl⟩
  · rename_i o hh; exact ⟨_, hh, .inr (.inl rfl)⟩
  · rename_i o hh; exact ⟨_, hh, .inr (.inr rfl)⟩
  · cases h
theorem ptr_dr (h : SM n0 S ρ ve lb g H) {i : Nat} (hp : S.isPtr i = true) : DR g (getD ρ i) (ve i) ∧ ∃ cs o, getD ρ i = .ptr cs o := by
  unfold St.isPtr at hp
  split at hp
  · rename_i o hh; exact (h.vars i _ hh).2
  · cases hp
theorem pure_dr (h : SM n0 S ρ ve lb g H) {i : Nat} (hp : S.pureV i = true) : DR g (getD ρ i) (ve i) := by
  obtain ⟨s, h1, h2⟩ := pure_st hp
  have := (h.vars i s h1).2
  obtain ⟨k, o⟩ := s
  rcases h2 with rfl | rfl | rfl
  · exact this
  · exact this.dr
  · exact this.1
theorem one_dr (h : SM n0 S ρ ve lb g H) {i : Nat} (hp : S.oneV i = true) : (getD ρ i).one = true := by
  unfold St.oneV at hp
  split at hp
  · rename_i o hh
    exact (h.vars i _ hh).1 hp
  · cases hp
def RdR (g : Mem) (bs : Mem) (d : D) (v : Value) : Prop := DR g d v ∨ ∃ n0 B l cs vs el rt sz es, OwnL g bs n0 d v B l cs vs el rt sz es
theorem ppV_dr {p : D} {v : Value} {off : Nat} (h : DR g p v) (hp : ∃ cs o, p = .ptr cs o) : DR g (ppD p off) (ppV v off) := by
  obtain ⟨cs, o, rfl⟩ := hp
  cases h with
  | ptr hb hv ho => exact .ptr hb hv ho
theorem one_val (h : SM n0 S ρ ve lb g H) : ∀ {x : SV}, oneS S x = true → DR g (x.d (getD ρ)) (x.val ve lb) → oneCell (x.val ve lb) = true
  | .v i, ho, hd => by rw [hd.one]; exact one_dr h ho
  | .c x, ho, _ => ho
  | .loc _ _, _, _ => rfl
  | .ptr s i sz off, _, _ => by
    simp only [SV.val, ptrV]
    split <;> rfl
  | .pp i off, _, _ => by
    simp only [SV.val, ppV]
    split <;> rfl
  | .agg _, ho, _ => by cases ho
  | .tup _, ho, _ => by cases ho
  | .fn _ _ _, _, _ => rfl
  | .ifc _ _, _, _ => rfl
mutual
theorem pure_val (h : SM n0 S ρ ve lb g H) : ∀ {x : SV}, pureB S x = true → DR g (x.d (getD ρ)) (x.val ve lb)
  | .v i, hp => pure_dr h hp
  | .c x, hp => ofV_ok 6 x hp
  | .loc _ _, hp => by cases hp
  | .ptr _ _ _ _, hp => by cases hp
  | .pp i off, hp => by
    obtain ⟨h1, h2⟩ := ptr_dr h hp
    exact ppV_dr h1 h2
  | .agg cs, hp => by
    simp only [pureB, Bool.and_eq_true] at hp
    have := pure_vals h hp.1
    refine .agg this ?_
    rw [List.all_eq_true]
    intro v hv
    rw [SV.vals_map] at hv
    obtain ⟨x, hx, rfl⟩ := List.mem_map.1 hv
    have ho : oneS S x = true := by
      have := hp.2
      rw [List.all_eq_true] at this
      exact this x hx
    exact one_val h ho (pure_in h hp.1 hx)
  | .tup cs, hp => .tup (pure_vals h (xs := cs) hp)
  | .fn f a b, hp => by
    simp only [pureB, Bool.and_eq_true] at hp
    exact .clo hp.1.1 (pure_vals h hp.1.2) (pure_vals h hp.2)
  | .ifc t x, hp => .iface (pure_val h (x := x) hp)
theorem pure_vals (h : SM n0 S ρ ve lb g H) : ∀ {xs : List SV}, pureBs S xs = true → DRs g (SV.ds (getD ρ) xs) (SV.vals ve lb xs)
  | [], _ => .nil
  | x :: xs, hp => by
    simp only [pureBs, Bool.and_eq_true] at hp
    exact .cons (pure_val h hp.1) (pure_vals h hp.2)
theorem pure_in (h : SM n0 S ρ ve lb g H) : ∀ {xs : List SV}, pureBs S xs = true → ∀ {x : SV}, x ∈ xs → DR g (x.d (getD ρ)) (x.val ve lb)
  | y :: xs, hp, x, hx => by
    simp only [pureBs, Bool.and_eq_true] at hp
    by_cases e : x = y
    · rw [e]; exact pure_val h hp.1
    · exact pure_in h hp.2 (by simpa [e] using hx)
end
theorem read_val (h : SM n0 S ρ ve lb g H) {x : SV} (hp : readB S x = true) : RdR g H.blocks.get (x.d (getD ρ)) (x.val ve lb) := by
  have other : pureB S x = true → RdR g H.blocks.get (x.d (getD ρ)) (x.val ve lb) := fun hp => .inl (pure_val h hp)
  cases x with
  | v i =>
    simp only [readB, St.readV] at hp
    split at hp
    · cases hp
    · rename_i s hh hn
      obtain ⟨k, o⟩ := s
      have hv := (h.vars i _ hn).2
      cases k with
      | pure => exact .inl hv
      | full => exact .inl hv.dr
      | ptr => exact .inl hv.1
      | dead => exact absurd rfl (hh o)
      | fresh =>
        rcases hv with q | ⟨B, l, cs, vs, el, rt, sz, es, q⟩
        · exact .inl q.dr
        · exact .inr ⟨n0, B, l, cs, vs, el, rt, sz, es, q⟩
    · cases hp
  | _ => exact other hp
structure SliceR (g : Mem) (bs : Mem) (el : TypeId) (sz : Nat) (es : List D) (v : Value) (b o l c rt : Nat) (cs vs : List Value) (own : Bool) : Prop where
  v : v = .slice (some ⟨b, o, none⟩) l c
  b : bs b = some ⟨.cells cs el, rt, own⟩
  t : take? (cs.drop o) (l * sz) = some vs
  r : DRs g (es.flatMap D.cells) vs
  n : es.length = l
  s : ∀ e ∈ es, e.cells.length = sz
  c : l ≤ c
  x : l < capX
  o : vs.all oneCell = true
theorem RdR.sl {bs : Mem} (hm : Mem.le g bs) {el : TypeId} {sz : Nat} {es : List D} {v : Value} (h : RdR g bs (.sl el sz es) v) : ∃ b o l c rt cs vs own, SliceR g bs el sz es v b o l c rt cs vs own := by
  rcases h with h | ⟨n0, B, l, cs, vs, el', rt, sz, es', h⟩
  · cases h with
    | sl hb ht hv hl hs hc hx ho => exact ⟨_, _, _, _, _, _, _, _, rfl, hm _ _ hb, ht, hv, hl, hs, hc, hx, ho⟩
  · have hd := h.d
    cases hd
    exact ⟨B, 0, l, capX, rt, cs, vs, true, h.v, h.b, by simpa using h.t, h.r, h.n, h.s, Nat.le_of_lt h.x, h.x, h.o⟩
theorem RdR.dr {bs : Mem} {d : D} {v : Value} (h : RdR g bs d v) (hn : ∀ el sz es, d ≠ .sl el sz es) : DR g d v := by
  rcases h with h | ⟨n0, B, l, cs, vs, el', rt, sz, es', h⟩
  · exact h
  · exact absurd h.d (hn _ _ _)
end
end Go.Am
namespace Go.Am
open Go
def upd (ve : Nat → Value) (n : Nat) (v : Value) : Nat → Value := fun i => if i = n then v else ve i
theorem upd_lt {ve : Nat → Value} {n : Nat} {v : Value} {i : Nat} (h : i < n) : upd ve n v i = ve i := if_neg (by omega)
theorem upd_at {ve : Nat → Value} {n : Nat} {v : Value} : upd ve n v n = v := if_pos rfl
theorem getD_lt {ρ : List D} {d : D} {i : Nat} (h : i < ρ.length) : getD (ρ ++ [d]) i = getD ρ i := by
  simp [getD, List.getElem?_append_left h]
theorem getD_at {ρ : List D} {d : D} : getD (ρ ++ [d]) ρ.length = d := by
  simp [getD]
section
variable {E : Env} {n0 : Lim} {H0 : AH} {g0 : Mem} {S : St} {ρ : List D} {ve : Nat → Value} {lb : Nat → Nat} {g : Mem} {fr : Fr} {H : AH}
theorem BlkOK.congr {ρ ρ' : Nat → D} {ve ve' : Nat → Value} {lb lb' : Nat → Nat} {n m : Nat} (h1 : ∀ i, i < n → ve' i = ve i) (h2 : ∀ b, b < m → lb' b = lb b) (h3 : ∀ i, i < n → ρ' i = ρ i) {cs : List Value} {x : Blk}
    (hb : x.bd n m) (h : BlkOK ρ ve lb cs x) : BlkOK ρ' ve' lb' cs x := by
  cases x with
  | cells xs =>
    simp only [BlkOK] at h ⊢
    rw [h, SV.vals_congr h1 h2 hb]
  | whole x n' =>
    simp only [BlkOK] at h ⊢
    rw [SV.val_congr h1 h2 hb, SV.d_congr h3 hb]
    exact h
theorem Blk.bd_mono {n m n' m' : Nat} (h1 : n ≤ n') (h2 : m ≤ m') {x : Blk} (h : x.bd n m) : x.bd n' m' := by
  cases x with
  | cells xs => exact SV.bds_mono h1 h2 h
  | whole x n' => exact SV.bd_mono h1 h2 h
theorem new_n {k : VK} {o : Bool} : (S.new k o).n = S.n + 1 := by simp [St.new, St.n]
theorem new_st {k : VK} {o : Bool} {i : Nat} {s : VSt} (h : (S.new k o).sts[i]? = some s) : (i < S.n ∧ S.sts[i]? = some s) ∨ (i = S.n ∧ s = ⟨k, o⟩) := by
  simp only [St.new] at h
  rcases Nat.lt_trichotomy i S.sts.length with hi | hi | hi
  · rw [List.getElem?_append_left hi] at h
    exact .inl ⟨hi, h⟩
  · subst hi
    simp at h
    exact .inr ⟨rfl, h.symm⟩
  · rw [List.getElem?_eq_none (by simp; omega)] at h
    cases h
theorem new_fresh {k : VK} {o : Bool} (hk : k ≠ .fresh) {i : Nat} (h : (S.new k o).freshV i = true) : S.freshV i = true ∧ i < S.n := by
  obtain ⟨o', h'⟩ := fresh_st.1 h
  rcases new_st h' with ⟨h1, h2⟩ | ⟨h1, h2⟩
  · exact ⟨fresh_st.2 ⟨_, h2⟩, h1⟩
  · cases h2; exact absurd rfl hk
theorem fresh_lt {i : Nat} (h : S.freshV i = true) : i < S.n := by
  obtain ⟨o, h⟩ := fresh_st.1 h
  exact (List.getElem?_eq_some_iff.1 h).1
theorem SM.new (h : SM n0 S ρ ve lb g H) {k : VK} {o : Bool} {d : D} {v : Value} (hk : k ≠ .fresh) (hv : VarOK g H.blocks.get n0 ⟨k, o⟩ d v) : SM n0 (S.new k o) (ρ ++ [d]) (upd ve S.n v) lb g H := by
  have hl : ρ.length = S.n := h.len
  have e1 : ∀ i, i < S.n → upd ve S.n v i = ve i := fun i hi => upd_lt hi
  have e2 : ∀ i, i < S.n → getD (ρ ++ [d]) i = getD ρ i := fun i hi => getD_lt (by omega)
  refine { len := by simp [St.new, h.len], wf := h.wf, mem := h.mem, base := h.base, fix := h.fix, vars := ?_, blks := ?_, sepLG := h.sepLG, sepFG := ?_, sepL := h.sepL, sepF := ?_, sepX := ?_ }
  · intro i s hs
    rcases new_st hs with ⟨h1, h2⟩ | ⟨h1, h2⟩
    · rw [e1 i h1, e2 i h1]; exact h.vars i s h2
    · subst h1 h2
      rw [upd_at, ← hl, getD_at]; exact hv
  · intro b x hb
    obtain ⟨q1, el, rt, cs, q2, q3, q4⟩ := h.blks b x hb
    exact ⟨Blk.bd_mono (by rw [new_n]; omega) (Nat.le_refl _) q1, el, rt, cs, q2, q3, q4.congr e1 (fun _ _ => rfl) e2 q1⟩
  · intro i B hf ho
    obtain ⟨h1, h2⟩ := new_fresh hk hf
    rw [e1 i h2] at ho
    exact h.sepFG i B h1 ho
  · intro i j B hi hj h1 h2
    obtain ⟨a1, a2⟩ := new_fresh hk hi
    obtain ⟨b1, b2⟩ := new_fresh hk hj
    rw [e1 _ a2] at h1
    rw [e1 _ b2] at h2
    exact h.sepF i j B a1 b1 h1 h2
  · intro b i hb hi
    obtain ⟨a1, a2⟩ := new_fresh hk hi
    rw [e1 _ a2]
    exact h.sepX b i hb a1
structure ExtS (S : St) (ρ : List D) (ve : Nat → Value) (g : Mem) (S' : St) (ρ' : List D) (ve' : Nat → Value) (g' : Mem) : Prop where
  n : S.n ≤ S'.n
  slots : S'.slots = S.slots
  blks : S'.blks = S.blks
  sz : S'.sz = S.sz
  ve : ∀ i, i < S.n → ve' i = ve i
  ρ : ∀ i, i < S.n → getD ρ' i = getD ρ i
  g : Mem.le g g'
theorem ExtS.refl : ExtS S ρ ve g S ρ ve g := ⟨Nat.le_refl _, rfl, rfl, rfl, fun _ _ => rfl, fun _ _ => rfl, Mem.le_refl _⟩
theorem ExtS.trans {S1 S2 : St} {ρ1 ρ2 : List D} {ve1 ve2 : Nat → Value} {g1 g2 : Mem} (a : ExtS S ρ ve g S1 ρ1 ve1 g1) (b : ExtS S1 ρ1 ve1 g1 S2 ρ2 ve2 g2) : ExtS S ρ ve g S2 ρ2 ve2 g2 :=
  ⟨Nat.le_trans a.n b.n, b.slots.trans a.slots, b.blks.trans a.blks, b.sz.trans a.sz, fun i hi => (b.ve i (Nat.lt_of_lt_of_le hi a.n)).trans (a.ve i hi), fun i hi => (b.ρ i (Nat.lt_of_lt_of_le hi a.n)).trans (a.ρ i hi), Mem.le_trans a.g b.g⟩
theorem ExtS.val {S' : St} {ρ' : List D} {ve' : Nat → Value} {g' : Mem} (e : ExtS S ρ ve g S' ρ' ve' g') {x : SV} {m : Nat} (h : x.bd S.n m) : x.val ve' lb = x.val ve lb :=
  SV.val_congr e.ve (fun _ _ => rfl) h
theorem ExtS.d {S' : St} {ρ' : List D} {ve' : Nat → Value} {g' : Mem} (e : ExtS S ρ ve g S' ρ' ve' g') {x : SV} {m : Nat} (h : x.bd S.n m) : x.d (getD ρ') = x.d (getD ρ) :=
  SV.d_congr e.ρ h
theorem ExtS.bd {S' : St} {ρ' : List D} {ve' : Nat → Value} {g' : Mem} (e : ExtS S ρ ve g S' ρ' ve' g') {x : SV} (h : x.bd S.n S.blks.length) : x.bd S'.n S'.blks.length := by
  rw [e.blks]; exact SV.bd_mono e.n (Nat.le_refl _) h
theorem ExtS.bds {S' : St} {ρ' : List D} {ve' : Nat → Value} {g' : Mem} (e : ExtS S ρ ve g S' ρ' ve' g') {x : List SV} (h : SV.bds S.n S.blks.length x) : SV.bds S'.n S'.blks.length x := by
  rw [e.blks]; exact SV.bds_mono e.n (Nat.le_refl _) h
theorem SR.ext (h : SR n0 H0 g0 S ρ ve lb g fr H) {S' : St} {ρ' : List D} {ve' : Nat → Value} {g' : Mem} (m : SM n0 S' ρ' ve' lb g' H) (e : ExtS S ρ ve g S' ρ' ve' g') (hg : ∀ b, n0.K b → g' b = g b) : SR n0 H0 g0 S' ρ' ve' lb g' fr H :=
  { m with
    sz := by rw [e.sz]; exact h.sz
    rd := h.rd
    slots := fun t x hx => by
      rw [e.slots] at hx
      obtain ⟨h1, h2⟩ := h.slots t x hx
      exact ⟨e.bd h1, by rw [e.val h1]; exact h2⟩
    keep := h.keep
    low := h.low
    gk := fun b hb => (hg b hb).trans (h.gk b hb) }
theorem ext_new (h : ρ.length = S.n) {k : VK} {o : Bool} {d : D} {v : Value} : ExtS S ρ ve g (S.new k o) (ρ ++ [d]) (upd ve S.n v) g :=
  ⟨by rw [new_n]; omega, rfl, rfl, rfl, fun i hi => upd_lt hi, fun i hi => getD_lt (by omega), Mem.le_refl _⟩
theorem SR.new (h : SR n0 H0 g0 S ρ ve lb g fr H) {k : VK} {o : Bool} {d : D} {v : Value} (hk : k ≠ .fresh) (hv : VarOK g H.blocks.get n0 ⟨k, o⟩ d v) :
    SR n0 H0 g0 (S.new k o) (ρ ++ [d]) (upd ve S.n v) lb g fr H :=
  h.ext (h.toSM.new hk hv) (ext_new h.len) (fun _ _ => rfl)
theorem freeze_st {i j : Nat} {s : VSt} (h : (S.freeze i).sts[j]? = some s) : ∃ s0, S.sts[j]? = some s0 ∧ s = if i = j then freezeSt s0 else s0 := by
  simp only [St.freeze, List.getElem?_modify] at h
  cases hs : S.sts[j]? with
  | none => rw [hs] at h; simp at h
  | some s0 =>
    rw [hs] at h
    refine ⟨s0, rfl, ?_⟩
    simp at h
    split at h <;> rename_i e
    · rw [if_pos e]; exact h.symm
    · rw [if_neg e]; exact h.symm
theorem freeze_n {i : Nat} : (S.freeze i).n = S.n := by simp [St.freeze, St.n]
theorem freezeSt_fresh {s : VSt} : (freezeSt s).k ≠ .fresh := by
  unfold freezeSt
  split
  · simp
  · rename_i h; intro e; obtain ⟨k, o⟩ := s; simp only at e; subst e; exact h _ rfl
theorem freeze_fresh {i j : Nat} (h : (S.freeze i).freshV j = true) : S.freshV j = true ∧ i ≠ j := by
  obtain ⟨o, h⟩ := fresh_st.1 h
  obtain ⟨s0, h1, h2⟩ := freeze_st h
  split at h2
  · exact absurd (by rw [← h2]) (freezeSt_fresh (s := s0))
  · rename_i hne
    subst h2
    exact ⟨fresh_st.2 ⟨_, h1⟩, hne⟩
theorem freeze_ok (h : SR n0 H0 g0 S ρ ve lb g fr H) (i : Nat) : ∃ g', ExtS S ρ ve g (S.freeze i) ρ ve g' ∧ SR n0 H0 g0 (S.freeze i) ρ ve lb g' fr H := by
  have key : ∀ g', Mem.le g g' → Mem.le g' H.blocks.get → (∀ b, n0.K b → g' b = g b) → (∀ o, S.sts[i]? = some ⟨.fresh, o⟩ → DR g' (getD ρ i) (ve i)) → (∀ B, g' B ≠ g B → S.freshV i = true ∧ ownB (ve i) = some B) →
      ExtS S ρ ve g (S.freeze i) ρ ve g' ∧ SR n0 H0 g0 (S.freeze i) ρ ve lb g' fr H := by
    intro g' hg hm hk hi hB
    have e : ExtS S ρ ve g (S.freeze i) ρ ve g' := ⟨by rw [freeze_n]; exact Nat.le_refl _, rfl, rfl, rfl, fun _ _ => rfl, fun _ _ => rfl, hg⟩
    refine ⟨e, h.ext ?_ e hk⟩
    refine { len := by simp [St.freeze, h.len], wf := h.wf, mem := hm, base := h.base, fix := h.fix, vars := ?_, blks := ?_, sepLG := ?_, sepFG := ?_, sepL := h.sepL, sepF := ?_, sepX := ?_ }
    · intro j s hs
      obtain ⟨s0, h1, h2⟩ := freeze_st hs
      have hv := (h.vars j s0 h1).mono hg (bs' := H.blocks.get) (fun _ _ _ => rfl)
      split at h2
      · rename_i hij
        subst hij
        obtain ⟨k, o⟩ := s0
        cases k <;> (subst h2; first | exact hv | skip)
        exact ⟨hv.1, hi o h1⟩
      · subst h2; exact hv
    · intro b x hb
      obtain ⟨q1, el, rt, cs, q2, q3, q4⟩ := h.blks b x hb
      exact ⟨by rw [freeze_n]; exact q1, el, rt, cs, q2, q3, q4⟩
    · intro b hb
      have hn := h.sepLG b hb
      cases hc : g' (lb b) with
      | none => rfl
      | some k =>
        obtain ⟨h1, h2⟩ := hB (lb b) (by rw [hc, hn]; simp)
        exact absurd h2 (h.sepX b i hb h1)
    · intro j B hj ho
      obtain ⟨h1, h2⟩ := freeze_fresh hj
      have hn := h.sepFG j B h1 ho
      cases hc : g' B with
      | none => rfl
      | some k =>
        obtain ⟨q1, q2⟩ := hB B (by rw [hc, hn]; simp)
        exact absurd (h.sepF i j B q1 h1 q2 ho) h2
    · intro a b B ha hb h1 h2
      exact h.sepF a b B (freeze_fresh ha).1 (freeze_fresh hb).1 h1 h2
    · intro b j hb hj
      exact h.sepX b j hb (freeze_fresh hj).1
  cases hf : S.freshV i with
  | false => exact ⟨g, key g (Mem.le_refl _) h.mem (fun _ _ => rfl) (fun o ho => by rw [fresh_st.2 ⟨o, ho⟩] at hf; cases hf) (fun B hB => absurd rfl hB)⟩
  | true =>
    obtain ⟨o, ho⟩ := fresh_st.1 hf
    rcases (h.vars i _ ho).2 with q | ⟨B, l, cs, vs, el, rt, sz, es, q⟩
    · exact ⟨g, key g (Mem.le_refl _) h.mem (fun _ _ => rfl) (fun _ _ => q.dr) (fun B hB => absurd rfl hB)⟩
    · have hown : ownB (ve i) = some B := by rw [q.v]; simp [ownB]
      have hle : Mem.le g (fun b => if b = B then H.blocks.get b else g b) := by
        intro b k hb
        simp only
        split
        · exact h.mem b k hb
        · exact hb
      refine ⟨fun b => if b = B then H.blocks.get b else g b, key _ hle ?_ ?_ ?_ ?_⟩
      · intro b k hb
        simp only at hb
        split at hb
        · exact hb
        · exact h.mem b k hb
      · intro b hb
        rw [if_neg]
        intro e
        subst e
        exact q.rt.2 hb
      · intro _ _
        rw [q.v, q.d]
        refine .sl (g := fun b => if b = B then H.blocks.get b else g b) (sz := sz) (cs := cs) (by simp only [if_true]; exact q.b) (by simpa using q.t) (q.r.mono hle) q.n q.s (Nat.le_of_lt q.x) q.x q.o
      · intro b hb
        split at hb
        · rename_i e; rw [e]; exact ⟨hf, hown⟩
        · exact absurd rfl hb
mutual
theorem freezeV_ok : ∀ (x : SV) {S : St} {g : Mem}, SR n0 H0 g0 S ρ ve lb g fr H → ∃ g', ExtS S ρ ve g (freezeV S x) ρ ve g' ∧ SR n0 H0 g0 (freezeV S x) ρ ve lb g' fr H
  | .v i, _, _, h => freeze_ok h i
  | .c _, _, g, h => ⟨g, .refl, h⟩
  | .loc _ _, _, g, h => ⟨g, .refl, h⟩
  | .ptr _ _ _ _, _, g, h => ⟨g, .refl, h⟩
  | .pp _ _, _, g, h => ⟨g, .refl, h⟩
  | .agg cs, _, _, h => freezeVs_ok cs h
  | .tup cs, _, _, h => freezeVs_ok cs h
  | .fn _ a b, _, _, h => by
    obtain ⟨g1, e1, h1⟩ := freezeVs_ok a h
    obtain ⟨g2, e2, h2⟩ := freezeVs_ok b h1
    exact ⟨g2, e1.trans e2, h2⟩
  | .ifc _ x, _, _, h => freezeV_ok x h
theorem freezeVs_ok : ∀ (xs : List SV) {S : St} {g : Mem}, SR n0 H0 g0 S ρ ve lb g fr H → ∃ g', ExtS S ρ ve g (freezeVs S xs) ρ ve g' ∧ SR n0 H0 g0 (freezeVs S xs) ρ ve lb g' fr H
  | [], _, g, h => ⟨g, .refl, h⟩
  | x :: xs, _, _, h => by
    obtain ⟨g1, e1, h1⟩ := freezeV_ok x h
    obtain ⟨g2, e2, h2⟩ := freezeVs_ok xs h1
    exact ⟨g2, e1.trans e2, h2⟩
end
theorem known_ok (h : SR n0 H0 g0 S ρ ve lb g fr H) {i : Nat} {b : Bool} (hp : S.pureV i = true) (hd : getD ρ i = .leaf (.bool b)) : SR n0 H0 g0 (S.known i b) ρ ve lb g fr H := by
  have hv : ve i = .bool b := by
    have := pure_dr h.toSM hp
    rw [hd] at this
    exact this.leaf_inv.1
  refine { h with slots := ?_ }
  intro t x hx
  simp only [St.known, T.get_map, Option.map_eq_some_iff] at hx
  obtain ⟨y, h1, rfl⟩ := hx
  obtain ⟨q1, q2⟩ := h.slots t y h1
  cases y with
  | v j =>
    simp only [SV.known, bif_beq]
    split
    · rename_i e; subst e
      exact ⟨trivial, by rw [q2]; simp only [SV.val, hv]⟩
    · exact ⟨q1, q2⟩
  | _ => exact ⟨q1, q2⟩
theorem put_ok (h : SR n0 H0 g0 S ρ ve lb g fr H) {dst : Option Tmp} {y : SV} {S' : St} (hy : y.bd S.n S.blks.length) (hp : S.put dst y = some S') :
    ∃ fr', putA fr dst (y.val ve lb) = some fr' ∧ SR n0 H0 g0 S' ρ ve lb g fr' H := by
  cases dst with
  | none => cases hp; exact ⟨fr, rfl, h⟩
  | some d =>
    simp only [St.put, bif_ble] at hp
    split at hp
    case isFalse => cases hp
    rename_i hle
    cases hp
    refine ⟨⟨fr.sz, fr.rd, fr.t.put d (some (y.val ve lb))⟩, ?_, ?_⟩
    · simp only [putA, bif_ble, h.sz]
      rw [if_pos hle]
    · refine { h with slots := ?_ }
      intro t x hx
      simp only at hx ⊢
      rw [T.get_put] at hx ⊢
      by_cases e : t = d
      · rw [if_pos e] at hx ⊢; cases hx; exact ⟨hy, rfl⟩
      · rw [if_neg e] at hx ⊢; exact h.slots t x hx
variable {HS : FuncId → List D → D → Prop} {Q : Res1 → Prop}
theorem bindR_inv {o : TOp} {args : List SV} {k : VK} {one : Bool} {κ : K1} (hw : wp E HS Q (bindR o args k one S κ) ρ) :
    ∃ d, (∀ x ∈ args, readB S x = true) ∧ o.eval E (SV.ds (getD ρ) args) = some d ∧ wp E HS Q (κ (.v S.n) (S.new k one)) (ρ ++ [d]) := by
  unfold bindR at hw
  cases hr : args.all (readB S) with
  | false => rw [hr] at hw; cases hw
  | true =>
    rw [hr] at hw
    simp only [cond_true, wp] at hw
    split at hw
    · rename_i d hd
      rw [List.all_eq_true] at hr
      exact ⟨d, hr, hd, hw⟩
    · cases hw
end
end Go.Am
namespace Go.Am
open Go
def partV (ag : Bool) (size off : Nat) (vs : List Value) : Option Value :=
  bif ag then (take? (vs.drop off) size).map fun l => .agg ⟨l⟩ else vs[off]?
theorem bif_and2 {α : Type} {a b : Bool} {x : α} {r : α} (h : (bif a && b then some x else none) = some r) : a = true ∧ b = true ∧ x = r := by
  cases a <;> cases b <;> simp at h
  exact ⟨rfl, rfl, h⟩
theorem all_drop_take {p : Value → Bool} {vs : List Value} (h : vs.all p = true) (o n : Nat) : ((vs.drop o).take n).all p = true := by
  rw [List.all_eq_true] at h ⊢
  intro x hx
  exact h x (List.mem_of_mem_drop (List.mem_of_mem_take hx))
section
variable {g : Mem}
theorem part_ok {ag : Bool} {size off : Nat} {ds : List D} {vs : List Value} {d : D} (h : DRs g ds vs) (ho : vs.all oneCell = true) (hp : partD ag size off ds = some d) :
    ∃ v, partV ag size off vs = some v ∧ DR g d v ∧ (ag = false → d.one = true) ∧ (ag = true → ∃ cs, d = .agg cs ∧ cs.length = size) := by
  cases ag with
  | true =>
    simp only [partD, cond_true, bif_ble] at hp
    split at hp
    case isFalse => cases hp
    rename_i hle
    cases hp
    have hl := h.length
    refine ⟨.agg ⟨(vs.drop off).take size⟩, ?_, .agg ((h.drop off).take size) (all_drop_take ho _ _), (fun e => by cases e), fun _ => ⟨_, rfl, ?_⟩⟩
    · simp only [partV, cond_true]
      rw [take_of (by simp; omega)]
      rfl
    · simp; omega
  | false =>
    simp only [partD, cond_false] at hp
    split at hp
    · rename_i d' hd
      cases h1 : d'.one with
      | false => rw [h1] at hp; cases hp
      | true =>
        rw [h1] at hp
        cases hp
        obtain ⟨v, q1, q2⟩ := h.get _ _ hd
        exact ⟨v, q1, q2, fun _ => h1, fun e => by cases e⟩
    · cases hp
theorem chk_ok {ag : Bool} {size : Nat} {d d' : D} (h : chkD ag size d = some d') : d' = d ∧ (ag = true → ∃ cs, d = .agg cs ∧ cs.length = size) ∧ (ag = false → d.one = true ∧ size = 1) := by
  cases ag with
  | true =>
    simp only [chkD, cond_true] at h
    split at h
    · rename_i cs
      simp only [bif_beq] at h
      split at h
      · cases h; exact ⟨rfl, fun _ => ⟨_, rfl, by assumption⟩, fun e => by cases e⟩
      · cases h
    · cases h
  | false =>
    simp only [chkD, cond_false] at h
    obtain ⟨h1, h2, h3⟩ := bif_and2 h
    exact ⟨h3.symm, (fun e => by cases e), fun _ => ⟨h1, Nat.eq_of_beq_eq_true h2⟩⟩
theorem cells_one {d : D} {v : Value} (h : DR g d v) (ho : d.one = true) : v.cells.toList = [v] := by
  have := h.one
  rw [ho] at this
  cases v <;> first | rfl | (simp [oneCell] at this)
theorem cells_agg {d : D} {v : Value} {cs : List D} (h : DR g d v) (hd : d = .agg cs) : ∃ vs, v = .agg ⟨vs⟩ ∧ DRs g cs vs ∧ vs.all oneCell = true := by
  subst hd
  cases h with
  | agg h o => exact ⟨_, rfl, h, o⟩
def NoTup (v : Value) : Prop := ∀ c, v ≠ .tuple c
theorem noTup_one {d : D} {v : Value} (h : DR g d v) (ho : d.one = true) : NoTup v := by
  intro c e
  subst e
  cases h with
  | tup h => cases ho
  | leaf h => simp [dleaf] at h
theorem noTup_agg {d : D} {v : Value} {cs : List D} (h : DR g d v) (hd : d = .agg cs) : NoTup v := by
  obtain ⟨vs, rfl, _⟩ := cells_agg h hd
  intro c e; cases e
end
section
variable {E : Env} {n0 : Lim} {H0 : AH} {g0 : Mem} {S : St} {ρ : List D} {ve : Nat → Value} {lb : Nat → Nat} {g : Mem} {fr : Fr} {H : AH} {HS : FuncId → List D → D → Prop} {Q : Res1 → Prop}
def Helped (E : Env) (HS : FuncId → List D → D → Prop) (Q : Res1 → Prop) (n0 : Lim) (H0 : AH) (g0 : Mem) (S : St) (ρ : List D) (ve : Nat → Value) (lb : Nat → Nat) (g : Mem) (fr : Fr) (H : AH) {α : Type} (κ : α → St → Tree) (P : α → St → List D → (Nat → Value) → Mem → Prop) : Prop :=
  ∃ y S' ρ' ve' g', ExtS S ρ ve g S' ρ' ve' g' ∧ SR n0 H0 g0 S' ρ' ve' lb g' fr H ∧ wp E HS Q (κ y S') ρ' ∧ P y S' ρ' ve' g'
theorem read_agg (h : SM n0 S ρ ve lb g H) {x : SV} (hr : readB S x = true) {cs : List D} (hd : x.d (getD ρ) = .agg cs) : DR g (x.d (getD ρ)) (x.val ve lb) :=
  (read_val h hr).dr (by rw [hd]; intro _ _ _ e; cases e)
theorem new_one {k : VK} {o : Bool} {x : SV} {m : Nat} (hb : x.bd S.n m) (h : oneS S x = true) : oneS (S.new k o) x = true := by
  cases x with
  | v i =>
    have hi : i < S.sts.length := hb
    simp only [oneS, St.oneV, St.new] at h ⊢
    rw [List.getElem?_append_left hi]
    exact h
  | _ => exact h
theorem new_oneV {k : VK} : (S.new k true).oneV S.n = true := by
  simp [St.oneV, St.new, St.n]
theorem flds_ok {i : Nat} {cs : List D} {vs : List Value} (ho : vs.all oneCell = true) : ∀ (n k : Nat) (acc : List SV) (S : St) (ρ : List D) (ve : Nat → Value) (g : Mem) (κ : List SV → St → Tree),
    getD ρ i = .agg cs → ve i = .agg ⟨vs⟩ → i < S.n → DRs g cs vs → k + n = cs.length → SV.bds S.n S.blks.length acc → SV.vals ve lb acc = vs.take k → acc.all (oneS S) = true → SR n0 H0 g0 S ρ ve lb g fr H → wp E HS Q (fldsS i n k acc S κ) ρ →
    Helped E HS Q n0 H0 g0 S ρ ve lb g fr H κ fun l S' _ ve' _ => SV.bds S'.n S'.blks.length l ∧ SV.vals ve' lb l = vs ∧ l.all (oneS S') = true := by
  intro n
  induction n with
  | zero =>
    intro k acc S ρ ve g κ hd hv hi hr hk hb hacc hone h hw
    refine ⟨acc, S, ρ, ve, g, .refl, h, hw, hb, ?_, hone⟩
    have hl := hr.length
    have hk' : k = cs.length := hk
    rw [hacc, hk', ← hl]
    exact List.take_length
  | succ n ih =>
    intro k acc S ρ ve g κ hd hv hi hr hk hb hacc hone h hw
    have hw2 : wp E HS Q (bindR (.fld false 1 k) [.v i] .pure true S fun y S => fldsS i n (k + 1) (acc ++ [y]) S κ) ρ := hw
    obtain ⟨d, _, h1, h4⟩ := bindR_inv hw2
    simp only [SV.ds, SV.d, hd, ev_fld, D.cells] at h1
    obtain ⟨v, q1, q2, q3, _⟩ := part_ok hr ho h1
    have h3 := h.new (k := .pure) (o := true) (by simp) (d := d) (v := v) ⟨fun _ => q3 rfl, q2⟩
    have e : ExtS S ρ ve g (S.new .pure true) (ρ ++ [d]) (upd ve S.n v) g := ext_new h.len
    have hn : i < (S.new .pure true).n := by rw [new_n]; omega
    have hb' : SV.bds (S.new .pure true).n (S.new .pure true).blks.length (acc ++ [SV.v S.n]) := by
      rw [SV.bds_iff] at hb ⊢
      intro x hx
      rcases List.mem_append.1 hx with hx | hx
      · exact SV.bd_mono (by rw [new_n]; omega) (Nat.le_refl _) (hb x hx)
      · simp only [List.mem_singleton] at hx
        subst hx
        show S.n < (S.new .pure true).n
        rw [new_n]; omega
    have hacc' : SV.vals (upd ve S.n v) lb (acc ++ [SV.v S.n]) = vs.take (k + 1) := by
      rw [SV.vals_map, List.map_append, ← SV.vals_map, SV.vals_congr e.ve (fun _ _ => rfl) hb, hacc]
      simp only [partV, cond_false] at q1
      obtain ⟨w1, w2⟩ := List.getElem?_eq_some_iff.1 q1
      rw [List.take_succ_eq_append_getElem w1, w2]
      simp [SV.val, upd_at]
    have hone' : (acc ++ [SV.v S.n]).all (oneS (S.new .pure true)) = true := by
      rw [List.all_append, Bool.and_eq_true]
      refine ⟨?_, by simp [oneS, new_oneV]⟩
      rw [List.all_eq_true] at hone ⊢
      rw [SV.bds_iff] at hb
      intro x hx
      exact new_one (hb x hx) (hone x hx)
    obtain ⟨y, S', ρ', ve', g', e', r1, r2, r3⟩ := ih (k + 1) (acc ++ [SV.v S.n]) (S.new .pure true) (ρ ++ [d]) (upd ve S.n v) g κ (by rw [e.ρ i hi]; exact hd) (by rw [e.ve i hi]; exact hv) hn hr (by rw [← hk]; exact Nat.add_right_comm k 1 n) hb' hacc' hone' h3 h4
    exact ⟨y, S', ρ', ve', g', e.trans e', r1, r2, r3⟩
theorem bindP_inv {o : TOp} {args : List SV} {k : VK} {one : Bool} {κ : K1} (h : SR n0 H0 g0 S ρ ve lb g fr H) (hw : wp E HS Q (bindP o args k one S κ) ρ) :
    ∃ g' d, ExtS S ρ ve g (freezeVs S args) ρ ve g' ∧ SR n0 H0 g0 (freezeVs S args) ρ ve lb g' fr H ∧ (∀ x ∈ args, pureB (freezeVs S args) x = true) ∧ o.eval E (SV.ds (getD ρ) args) = some d ∧
      wp E HS Q (κ (.v (freezeVs S args).n) ((freezeVs S args).new k one)) (ρ ++ [d]) := by
  obtain ⟨g', e, h'⟩ := freezeVs_ok args h
  unfold bindP at hw
  cases hr : args.all (pureB (freezeVs S args)) with
  | false => simp only [hr] at hw; cases hw
  | true =>
    simp only [hr, cond_true, wp] at hw
    split at hw
    · rename_i d hd
      rw [List.all_eq_true] at hr
      exact ⟨g', d, e, h', hr, hd, hw⟩
    · cases hw
theorem read_cells {bs : Mem} {d : D} {v : Value} (h : RdR g bs d v) (ho : d.one = true) : v.cells.toList = [v] ∧ NoTup v := by
  rcases h with h | ⟨_, B, l, cs, vs, el, rt, sz, es, q⟩
  · exact ⟨cells_one h ho, noTup_one h ho⟩
  · rw [q.v]
    exact ⟨rfl, fun c e => by cases e⟩
def otherS : SV → Bool
  | .loc _ _ => true
  | .ptr _ _ _ _ => true
  | .pp _ _ => true
  | .fn _ _ _ => true
  | .ifc _ _ => true
  | _ => false
theorem val_other {x : SV} (h : otherS x = true) : (x.val ve lb).cells.toList = [x.val ve lb] ∧ NoTup (x.val ve lb) := by
  cases x <;> first | (cases h; done) | skip
  · exact ⟨rfl, fun c e => by cases e⟩
  · simp only [SV.val, ptrV]
    split <;> exact ⟨rfl, fun c e => by cases e⟩
  · simp only [SV.val, ppV]
    split <;> exact ⟨rfl, fun c e => by cases e⟩
  · exact ⟨rfl, fun c e => by cases e⟩
  · exact ⟨rfl, fun c e => by cases e⟩
theorem const_cells {ag : Bool} {size : Nat} {v : Value} {l : List SV} (h : constCells ag size v = some l) :
    l = v.cells.toList.map .c ∧ v.cells.toList.length = size ∧ NoTup v ∧ flatV v = true := by
  simp only [constCells] at h
  cases h1 : flatV v with
  | false => simp [h1] at h
  | true =>
    simp only [h1, Bool.true_and] at h
    obtain ⟨h2, h3, h4⟩ := bif_and2 h
    refine ⟨h4.symm, Nat.eq_of_beq_eq_true h2, ?_, rfl⟩
    intro c e
    subst e
    cases h3
theorem vals_c (l : List Value) : SV.vals ve lb (l.map .c) = l := by
  rw [SV.vals_map, List.map_map]
  have : (SV.val ve lb ∘ SV.c) = id := by funext x; rfl
  rw [this, List.map_id]
theorem bds_c {n m : Nat} (l : List Value) : SV.bds n m (l.map .c) := by
  rw [SV.bds_iff]
  intro x hx
  obtain ⟨v, _, rfl⟩ := List.mem_map.1 hx
  trivial
theorem decomp_ok (h : SR n0 H0 g0 S ρ ve lb g fr H) {x : SV} {ag : Bool} {size : Nat} {κ : List SV → St → Tree} (hx : x.bd S.n S.blks.length) (hw : wp E HS Q (decomp x ag size S κ) ρ) :
    Helped E HS Q n0 H0 g0 S ρ ve lb g fr H κ fun l S' _ ve' _ => SV.bds S'.n S'.blks.length l ∧ SV.vals ve' lb l = (x.val ve lb).cells.toList ∧ l.length = size ∧ NoTup (x.val ve lb) := by
  have other : otherS x = true → wp E HS Q (bif !ag && Nat.beq size 1 then κ [x] S else .fail) ρ →
      Helped E HS Q n0 H0 g0 S ρ ve lb g fr H κ fun l S' _ ve' _ => SV.bds S'.n S'.blks.length l ∧ SV.vals ve' lb l = (x.val ve lb).cells.toList ∧ l.length = size ∧ NoTup (x.val ve lb) := by
    intro hm hw
    cases hc : (!ag && Nat.beq size 1) with
    | false => rw [hc] at hw; cases hw
    | true =>
      rw [hc] at hw
      simp only [Bool.and_eq_true] at hc
      obtain ⟨q1, q2⟩ := val_other (ve := ve) (lb := lb) hm
      exact ⟨[x], S, ρ, ve, g, .refl, h, hw, ⟨hx, trivial⟩, by rw [q1]; rfl, (Nat.eq_of_beq_eq_true hc.2).symm, q2⟩
  cases x with
  | loc b o => exact other rfl hw
  | ptr a b c d => exact other rfl hw
  | pp i o => exact other rfl hw
  | fn f a b => exact other rfl hw
  | ifc t x => exact other rfl hw
  | tup cs => cases hw
  | agg cs =>
    simp only [decomp] at hw
    cases hc : (ag && Nat.beq cs.length size && cs.all (oneS S)) with
    | false => rw [hc] at hw; cases hw
    | true =>
      rw [hc] at hw
      simp only [Bool.and_eq_true] at hc
      exact ⟨cs, S, ρ, ve, g, .refl, h, hw, hx, rfl, Nat.eq_of_beq_eq_true hc.1.2, fun c e => by cases e⟩
  | c v =>
    simp only [decomp] at hw
    split at hw
    · rename_i l hl
      obtain ⟨rfl, h2, h3, _⟩ := const_cells hl
      exact ⟨_, S, ρ, ve, g, .refl, h, hw, bds_c _, vals_c _, by rw [List.length_map]; exact h2, h3⟩
    · cases hw
  | v i =>
    have hi : i < S.n := hx
    simp only [decomp] at hw
    cases ag with
    | true =>
      simp only [cond_true] at hw
      obtain ⟨d, h1, h2, h3⟩ := bindR_inv hw
      have hr := read_val h.toSM (h1 _ (List.mem_singleton.2 rfl))
      simp only [SV.ds, SV.d, ev_chk] at h2
      obtain ⟨rfl, h4, _⟩ := chk_ok h2
      obtain ⟨cs, hd, hl⟩ := h4 rfl
      have hdr : DR g (getD ρ i) (ve i) := hr.dr (by intro _ _ _ e; simp only [SV.d] at e; rw [hd] at e; cases e)
      obtain ⟨vs, hv, hvs, ho⟩ := cells_agg hdr hd
      have h5 := h.new (k := .pure) (o := false) (by simp) (d := getD ρ i) (v := ve i) ⟨(fun e => by cases e), hdr⟩
      have e : ExtS S ρ ve g (S.new .pure false) (ρ ++ [getD ρ i]) (upd ve S.n (ve i)) g := ext_new h.len
      have hg : getD (ρ ++ [getD ρ i]) S.n = getD ρ i := by
        have : S.n = ρ.length := h.len.symm
        rw [this, getD_at]
      obtain ⟨y, S', ρ', ve', g', e', r1, r2, r3, r4, r5⟩ := flds_ok (i := S.n) (cs := cs) (vs := vs) ho size 0 [] (S.new .pure false) (ρ ++ [getD ρ i]) (upd ve S.n (ve i)) g κ (by rw [hg, hd]) (by rw [upd_at, hv])
        (by rw [new_n]; exact Nat.lt_succ_self _) hvs (by rw [hl]; exact Nat.zero_add _) trivial (by simp [SV.vals]) rfl h5 h3
      refine ⟨y, S', ρ', ve', g', e.trans e', r1, r2, r3, ?_, ?_, ?_⟩
      · rw [r4]; simp only [SV.val, hv]; rfl
      · have : (SV.vals ve' lb y).length = vs.length := by rw [r4]
        rw [SV.vals_map, List.length_map, hvs.length, hl] at this
        exact this
      · simp only [SV.val]; exact noTup_agg hdr hd
    | false =>
      simp only [cond_false, bif_beq] at hw
      split at hw
      case isFalse => cases hw
      rename_i hs
      cases hc : S.oneV i && S.readV i with
      | true =>
        rw [hc] at hw
        simp only [Bool.and_eq_true] at hc
        have hr := read_val h.toSM (x := .v i) hc.2
        obtain ⟨q1, q2⟩ := read_cells hr (one_dr h.toSM hc.1)
        exact ⟨[.v i], S, ρ, ve, g, .refl, h, hw, ⟨hx, trivial⟩, by rw [q1]; rfl, hs.symm, q2⟩
      | false =>
        rw [hc] at hw
        simp only [cond_false] at hw
        obtain ⟨g', d, e, h', h1, h2, h3⟩ := bindP_inv h hw
        have hp := pure_val h'.toSM (h1 _ (List.mem_singleton.2 rfl))
        simp only [SV.ds, SV.d, ev_chk] at h2
        obtain ⟨rfl, _, h4⟩ := chk_ok h2
        obtain ⟨ho, _⟩ := h4 rfl
        simp only [SV.d, SV.val] at hp
        have h5 := h'.new (k := .pure) (o := true) (by simp) (d := getD ρ i) (v := ve i) ⟨fun _ => ho, hp⟩
        have e5 : ExtS (freezeVs S [.v i]) ρ ve g' ((freezeVs S [.v i]).new .pure true) (ρ ++ [getD ρ i]) (upd ve (freezeVs S [.v i]).n (ve i)) g' := ext_new h'.len
        refine ⟨_, _, _, _, _, e.trans e5, h5, h3, ⟨?_, trivial⟩, ?_, hs.symm, ?_⟩
        · show _ < ((freezeVs S [.v i]).new .pure true).n
          rw [new_n]; exact Nat.lt_succ_self _
        · simp only [SV.vals, SV.val, upd_at]; exact (cells_one hp ho).symm
        · exact noTup_one hp ho
end
end Go.Am
namespace Go.Am
open Go
def ExecX (E : Env) (fr : Fr) (o : Oper) (H : AH) (v : Value) (H' : AH) : Prop :=
  H.next ≤ H'.next ∧ ∃ l, Facts E H.next l ∧ (∀ a ∈ l, a.H'.next ≤ H'.next) ∧ ∀ ih, Grants l ih → execA E ih fr o H = some (v, H')
theorem ExecX.of_val {E : Env} {fr : Fr} {o : Oper} {H H' : AH} {v : Value} (hn : H.next ≤ H'.next) (h : aop E fr o H = some (.val v, H')) : ExecX E fr o H v H' :=
  ⟨hn, [], trivial, fun _ h => (by cases h), fun ih _ => by simp only [execA, h]⟩
theorem ExecX.of_skip {E : Env} {fr : Fr} {o : Oper} {H H' : AH} (hn : H.next ≤ H'.next) (h : aop E fr o H = some (.skip, H')) : ExecX E fr o H (.tuple #[]) H' :=
  ⟨hn, [], trivial, fun _ h => (by cases h), fun ih _ => by simp only [execA, h]⟩
section
variable {E : Env} {n0 : Lim} {H0 : AH} {g0 : Mem} {S : St} {ρ : List D} {ve : Nat → Value} {lb : Nat → Nat} {g : Mem} {fr : Fr} {H : AH} {HS : FuncId → List D → D → Prop} {Q : Res1 → Prop}
def Done (wm : Bool) (E : Env) (HS : FuncId → List D → D → Prop) (Q : Res1 → Prop) (n0 : Lim) (H0 : AH) (g0 : Mem) (fr : Fr) (H : AH) (o : Oper) (κ : K1) : Prop :=
  ∃ y S' ρ' ve' lb' g' H', SR n0 H0 g0 S' ρ' ve' lb' g' fr H' ∧ y.bd S'.n S'.blks.length ∧ wp E HS Q (κ y S') ρ' ∧ ExecX E fr o H (y.val ve' lb') H' ∧ (wm = false → Nat.min H.low H.next ≤ H'.low)
theorem Done.same {wm : Bool} {o : Oper} {κ : K1} {y : SV} {S' : St} {ρ' : List D} {ve' : Nat → Value} {g' : Mem} (h : SR n0 H0 g0 S' ρ' ve' lb g' fr H) (hb : y.bd S'.n S'.blks.length) (hw : wp E HS Q (κ y S') ρ') (ha : aop E fr o H = some (.val (y.val ve' lb), H)) :
    Done wm E HS Q n0 H0 g0 fr H o κ :=
  ⟨y, S', ρ', ve', lb, g', H, h, hb, hw, .of_val (Nat.le_refl _) ha, fun _ => Nat.min_le_left _ _⟩
theorem evS_ok (h : SR n0 H0 g0 S ρ ve lb g fr H) {x : Operand} {y : SV} (hx : evS S x = some y) : y.bd S.n S.blks.length ∧ ev E fr x = some (y.val ve lb) := by
  cases x with
  | tmp t => exact h.slots t y hx
  | const v =>
    simp only [evS] at hx
    cases hf : flatV v with
    | false => simp [hf] at hx
    | true =>
      simp only [hf, cond_true, Option.some.injEq] at hx
      subst hx
      exact ⟨trivial, by simp only [ev, hf, cond_true, SV.val]⟩
  | global g => cases hx
  | func f =>
    simp only [evS, Option.some.injEq] at hx
    subst hx
    exact ⟨⟨trivial, trivial⟩, rfl⟩
theorem evSs_ok (h : SR n0 H0 g0 S ρ ve lb g fr H) : ∀ {xs : List Operand} {ys : List SV}, evSs S xs = some ys → SV.bds S.n S.blks.length ys ∧ evs E fr xs = some (SV.vals ve lb ys)
  | [], ys, hx => by simp only [evSs, Option.some.injEq] at hx; subst hx; exact ⟨trivial, rfl⟩
  | x :: xs, ys, hx => by
    simp only [evSs] at hx
    split at hx
    · rename_i a l h1 h2
      cases hx
      obtain ⟨q1, q2⟩ := evS_ok (E := E) h h1
      obtain ⟨q3, q4⟩ := evSs_ok h h2
      exact ⟨⟨q1, q3⟩, by simp only [evs, q2, q4, Option.map_some, SV.vals]⟩
    · cases hx
theorem own_lt (h : SM n0 S ρ ve lb g H) {i B : Nat} (hf : S.freshV i = true) (ho : ownB (ve i) = some B) : B < H.next ∧ H.blocks.get B ≠ none := by
  obtain ⟨o, hs⟩ := fresh_st.1 hf
  rcases (h.vars i _ hs).2 with q | ⟨B', l, cs, vs, el, rt, sz, es, q⟩
  · rw [q.own] at ho; cases ho
  · rw [q.v] at ho
    simp only [ownB, Nat.le_refl, if_true, Option.some.injEq] at ho
    subst ho
    exact ⟨(h.wf _ _ q.b).2, by rw [q.b]; simp⟩
theorem live_lt (h : SM n0 S ρ ve lb g H) {b : Nat} (hl : S.live b) : lb b < H.next ∧ ¬ n0.K (lb b) := by
  obtain ⟨x, hx⟩ := hl
  obtain ⟨_, el, rt, cs, q2, q3, _⟩ := h.blks b x hx
  have := h.wf _ _ q2
  exact ⟨this.2, q3.2⟩
theorem g_lt (h : SM n0 S ρ ve lb g H) {b : Nat} {k : ABlk} (hb : g b = some k) : b < H.next := (h.wf _ _ (h.mem b k hb)).2
theorem SR.heap (h : SR n0 H0 g0 S ρ ve lb g fr H) {H' : AH} (hold : ∀ b, b < H.next → H'.blocks.get b = H.blocks.get b) (hwf : WF H') (hn : H.next ≤ H'.next) (hl : Nat.min H0.low n0.n ≤ H'.low) :
    SR n0 H0 g0 S ρ ve lb g fr H' := by
  refine { len := h.len, wf := hwf, mem := ?_, base := h.base.mono hn, fix := h.fix, vars := ?_, blks := ?_, sepLG := h.sepLG, sepFG := h.sepFG, sepL := h.sepL, sepF := h.sepF, sepX := h.sepX, sz := h.sz, rd := h.rd, slots := h.slots, keep := ?_, low := hl, gk := h.gk }
  · intro b k hb
    rw [hold b (g_lt h.toSM hb)]
    exact h.mem b k hb
  · intro i s hs
    refine (h.vars i s hs).mono (Mem.le_refl _) fun hk B hB => hold B ?_
    obtain ⟨k, o⟩ := s
    simp only at hk
    subst hk
    exact (own_lt h.toSM (fresh_st.2 ⟨o, hs⟩) hB).1
  · intro b x hb
    obtain ⟨q1, el, rt, cs, q2, q3, q4⟩ := h.blks b x hb
    exact ⟨q1, el, rt, cs, by rw [hold _ (live_lt h.toSM ⟨x, hb⟩).1]; exact q2, q3, q4⟩
  · intro b hb
    rw [hold b (h.base.2 b hb)]
    exact h.keep b hb
theorem WF.new (h : WF H) (o : AObj) : WF (H.new o) := by
  intro b k hb
  rw [AH.get_new] at hb
  split at hb
  · rename_i e; cases hb; subst e; exact ⟨Nat.le_refl _, Nat.lt_succ_self _⟩
  · exact ⟨(h b k hb).1, Nat.lt_succ_of_lt (h b k hb).2⟩
theorem new_old {o : AObj} : ∀ b, b < H.next → (H.new o).blocks.get b = H.blocks.get b := fun b hb => by
  rw [AH.get_new, if_neg (by omega)]
def updL (lb : Nat → Nat) (m x : Nat) : Nat → Nat := fun b => if b = m then x else lb b
theorem live_bd {b : Nat} (h : S.live b) : b < S.blks.length := by
  obtain ⟨x, hx⟩ := h
  exact (List.getElem?_eq_some_iff.1 hx).1
theorem SR.alloc (h : SR n0 H0 g0 S ρ ve lb g fr H) {cs : List Value} {el : TypeId} {x : Blk} (hx : x.bd S.n S.blks.length) (hb : BlkOK (getD ρ) ve lb cs x) :
    SR n0 H0 g0 { S with blks := S.blks ++ [some x] } ρ ve (updL lb S.blks.length H.next) g fr (H.new (.cells cs el)) := by
  have h' := h.heap (H' := H.new (.cells cs el)) new_old (h.wf.new _) (Nat.le_succ _) h.low
  have e2 : ∀ b, b < S.blks.length → updL lb S.blks.length H.next b = lb b := fun b hb => if_neg (by omega)
  have hnone : H.blocks.get H.next = none := by
    cases hc : H.blocks.get H.next with
    | none => rfl
    | some k => exact absurd (h.wf _ _ hc).2 (Nat.lt_irrefl _)
  have inv : ∀ b, St.live { S with blks := S.blks ++ [some x] } b → (b < S.blks.length ∧ S.live b) ∨ b = S.blks.length := by
    intro b ⟨y, hy⟩
    simp only at hy
    rcases Nat.lt_trichotomy b S.blks.length with hl | hl | hl
    · rw [List.getElem?_append_left hl] at hy
      exact .inl ⟨hl, y, hy⟩
    · exact .inr hl
    · rw [List.getElem?_eq_none (by simp; omega)] at hy
      cases hy
  have hself : updL lb S.blks.length H.next S.blks.length = H.next := if_pos rfl
  refine { len := h.len, wf := h'.wf, mem := h'.mem, base := h'.base, fix := ⟨by simp only [List.length_append]; exact Nat.le_trans h.fix.1 (Nat.le_add_right _ _), fun k a hk => by rw [e2 k (Nat.lt_of_lt_of_le (List.getElem?_eq_some_iff.1 hk).1 h.fix.1)]; exact h.fix.2 k a hk⟩, vars := h'.vars, blks := ?_, sepLG := ?_, sepFG := h.sepFG, sepL := ?_, sepF := h.sepF, sepX := ?_, sz := h.sz, rd := h.rd, slots := ?_, keep := h'.keep, low := h.low, gk := h.gk }
  · intro b y hy
    simp only at hy
    rcases Nat.lt_or_ge b S.blks.length with hl | hl
    · rw [List.getElem?_append_left hl] at hy
      obtain ⟨q1, el', rt, cs', q2, q3, q4⟩ := h'.blks b y hy
      exact ⟨Blk.bd_mono (Nat.le_refl _) (by simp) q1, el', rt, cs', by rw [e2 b hl]; exact q2, by rw [e2 b hl]; exact q3, q4.congr (fun _ _ => rfl) e2 (fun _ _ => rfl) q1⟩
    · rw [List.getElem?_append_right hl] at hy
      have : b = S.blks.length := by
        have := (List.getElem?_eq_some_iff.1 hy).1
        simp at this
        omega
      subst this
      simp at hy
      subst hy
      refine ⟨Blk.bd_mono (Nat.le_refl _) (by simp) hx, el, H.next, cs, ?_, (by rw [hself]; exact h.base.new), hb.congr (fun _ _ => rfl) e2 (fun _ _ => rfl) hx⟩
      rw [hself, AH.get_new, if_pos rfl]
  · intro b hb
    rcases inv b hb with ⟨h1, h2⟩ | rfl
    · rw [e2 b h1]; exact h.sepLG b h2
    · rw [hself]
      cases hc : g H.next with
      | none => rfl
      | some k => rw [h.mem _ _ hc] at hnone; cases hnone
  · intro a b ha hb he
    rcases inv a ha with ⟨h1, h2⟩ | rfl <;> rcases inv b hb with ⟨h3, h4⟩ | rfl
    · rw [e2 a h1, e2 b h3] at he
      exact h.sepL a b h2 h4 he
    · rw [e2 a h1, hself] at he
      have := (live_lt h.toSM h2).1
      omega
    · rw [e2 b h3, hself] at he
      have := (live_lt h.toSM h4).1
      omega
    · rfl
  · intro b i hb hi
    rcases inv b hb with ⟨h1, h2⟩ | rfl
    · rw [e2 b h1]; exact h.sepX b i h2 hi
    · rw [hself]
      intro ho
      have := (own_lt h.toSM hi ho).1
      omega
  · intro t y hy
    obtain ⟨q1, q2⟩ := h.slots t y hy
    exact ⟨SV.bd_mono (Nat.le_refl _) (by simp) q1, by rw [q2, SV.val_congr (fun _ _ => rfl) e2 q1]⟩
theorem WF.write (h : WF H) {b : Nat} {k : ABlk} (hb : H.blocks.get b = some k) (o : AObj) : WF (H.write b k o) := by
  intro c k' hc
  rw [AH.get_write] at hc
  split at hc
  · rename_i e; cases hc; subst e; exact h c k hb
  · exact h c k' hc
theorem SR.store (h : SR n0 H0 g0 S ρ ve lb g fr H) {b : Nat} {x0 x : Blk} {cs cs' : List Value} {el : TypeId} {rt : Nat} (hb0 : S.blks[b]? = some (some x0)) (hk : H.blocks.get (lb b) = some ⟨.cells cs el, rt, true⟩)
    (hx : x.bd S.n S.blks.length) (hb : BlkOK (getD ρ) ve lb cs' x) :
    SR n0 H0 g0 (S.setBlk b x) ρ ve lb g fr (H.write (lb b) ⟨.cells cs el, rt, true⟩ (.cells cs' el)) := by
  have hlive : S.live b := ⟨x0, hb0⟩
  have hlen : b < S.blks.length := live_bd hlive
  obtain ⟨_, el0, rt0, cs0, k2, k3, _⟩ := h.blks b x0 hb0
  rw [hk] at k2
  cases k2
  have inv : ∀ c, (S.setBlk b x).live c → S.live c := by
    intro c ⟨y, hy⟩
    simp only [St.setBlk, List.getElem?_set] at hy
    split at hy
    · rename_i e; subst e; exact hlive
    · exact ⟨y, hy⟩
  have hother : ∀ c, c ≠ lb b → (H.write (lb b) ⟨.cells cs el, rt, true⟩ (.cells cs' el)).blocks.get c = H.blocks.get c := fun c hc => by rw [AH.get_write, if_neg hc]
  refine { len := h.len, wf := h.wf.write hk _, mem := ?_, base := h.base, fix := ⟨by simp only [St.setBlk, List.length_set]; exact h.fix.1, h.fix.2⟩, vars := ?_, blks := ?_, sepLG := fun c hc => h.sepLG c (inv c hc), sepFG := h.sepFG, sepL := fun a c ha hc => h.sepL a c (inv a ha) (inv c hc), sepF := h.sepF,
           sepX := fun c i hc => h.sepX c i (inv c hc), sz := h.sz, rd := h.rd, slots := ?_, keep := ?_, low := ?_, gk := h.gk }
  · intro c k hc
    rw [hother c (fun e => by rw [e, h.sepLG b hlive] at hc; cases hc)]
    exact h.mem c k hc
  · intro i s hs
    refine (h.vars i s hs).mono (Mem.le_refl _) fun hk' B hB => hother B ?_
    obtain ⟨k, o⟩ := s
    simp only at hk'
    subst hk'
    intro e
    subst e
    exact h.sepX b i hlive (fresh_st.2 ⟨o, hs⟩) hB
  · intro c y hy
    simp only [St.setBlk, List.getElem?_set] at hy
    split at hy
    · rename_i e
      subst e
      cases hy
      exact ⟨by simpa [St.setBlk, St.n] using hx, el, rt, cs', by rw [AH.get_write, if_pos rfl], k3, hb⟩
    · rename_i hne
      obtain ⟨q1, el', rt', cs'', q2, q3, q4⟩ := h.blks c y hy
      exact ⟨by simpa [St.setBlk, St.n] using q1, el', rt', cs'', by rw [hother _ (fun e => hne (h.sepL c b ⟨y, hy⟩ hlive e).symm)]; exact q2, q3, q4⟩
  · intro t y hy
    obtain ⟨q1, q2⟩ := h.slots t y hy
    exact ⟨by simpa [St.setBlk, St.n] using q1, q2⟩
  · intro c hc
    rw [hother c (fun e => (live_lt h.toSM hlive).2 (e ▸ hc))]
    exact h.keep c hc
  · show _ ≤ Nat.min H.low rt
    exact Nat.le_min.2 ⟨h.low, Nat.le_trans (Nat.min_le_right _ _) k3.1⟩
end
end Go.Am
namespace Go.Am
open Go
theorem splice_full : ∀ {cs vs : List Value}, cs.length = vs.length → splice cs 0 vs = some vs
  | [], [], _ => rfl
  | [], _ :: _, h => by simp at h
  | _ :: _, [], h => by simp at h
  | c :: cs, v :: vs, h => by
    simp only [splice]
    rw [splice_full (by simpa using h)]
    rfl
theorem spliceS_ok {ve : Nat → Value} {lb : Nat → Nat} : ∀ {cs : List SV} {i : Nat} {l r : List SV}, spliceS cs i l = some r → splice (SV.vals ve lb cs) i (SV.vals ve lb l) = some (SV.vals ve lb r)
  | _, 0, [], _, h => by simp only [spliceS, Option.some.injEq] at h; rw [h]; simp [SV.vals, splice]
  | [], 0, _ :: _, _, h => by cases h
  | c :: cs, 0, v :: vs, r, h => by
    simp only [spliceS, Option.map_eq_some_iff] at h
    obtain ⟨r', h1, rfl⟩ := h
    simp only [SV.vals, splice, spliceS_ok h1, Option.map_some]
  | [], _ + 1, _, _, h => by simp [spliceS] at h
  | c :: cs, i + 1, l, r, h => by
    simp only [spliceS, Option.map_eq_some_iff] at h
    obtain ⟨r', h1, rfl⟩ := h
    simp only [SV.vals, splice, spliceS_ok h1, Option.map_some]
theorem spliceS_bd {n m : Nat} : ∀ {cs : List SV} {i : Nat} {l r : List SV}, spliceS cs i l = some r → SV.bds n m cs → SV.bds n m l → SV.bds n m r
  | _, 0, [], _, h, h1, _ => by simp only [spliceS, Option.some.injEq] at h; rw [← h]; exact h1
  | [], 0, _ :: _, _, h, _, _ => by cases h
  | c :: cs, 0, v :: vs, r, h, h1, h2 => by
    simp only [spliceS, Option.map_eq_some_iff] at h
    obtain ⟨r', h3, rfl⟩ := h
    exact ⟨h2.1, spliceS_bd h3 h1.2 h2.2⟩
  | [], _ + 1, _, _, h, _, _ => by simp [spliceS] at h
  | c :: cs, i + 1, l, r, h, h1, h2 => by
    simp only [spliceS, Option.map_eq_some_iff] at h
    obtain ⟨r', h3, rfl⟩ := h
    exact ⟨h1.1, spliceS_bd h3 h1.2 h2⟩
section
variable {E : Env} {n0 : Lim} {H0 : AH} {g0 : Mem} {S : St} {ρ : List D} {ve : Nat → Value} {lb : Nat → Nat} {g : Mem} {fr : Fr} {H : AH} {HS : FuncId → List D → D → Prop} {Q : Res1 → Prop} {o : Oper} {κ : K1} {wm : Bool}
theorem op_move (h : SR n0 H0 g0 S ρ ve lb g fr H) {x : Operand} (ho : o.op = .move x ∨ o.op = .assign x) (hw : wp E HS Q (match evS S x with | some y => κ y S | none => .fail) ρ) : Done wm E HS Q n0 H0 g0 fr H o κ := by
  split at hw
  · rename_i y hy
    obtain ⟨q1, q2⟩ := evS_ok (E := E) h hy
    refine .same h q1 hw ?_
    rcases ho with ho | ho <;> (unfold aop; rw [ho]; simp only [q2, one, Option.map_some])
  · cases hw
theorem ite_inv {i : Nat} {a b : Tree} (hw : wp E HS Q (.ite (.v i) a b) ρ) : ∃ t, getD ρ i = .leaf (.bool t) ∧ wp E HS Q (if t then a else b) ρ := by
  simp only [wp, SV.d] at hw
  split at hw
  · rename_i h; exact ⟨true, h, hw⟩
  · rename_i h; exact ⟨false, h, hw⟩
  · cases hw
theorem bool_val (h : SM n0 S ρ ve lb g H) {i : Nat} (hp : S.pureV i = true) {t : Bool} (hd : getD ρ i = .leaf (.bool t)) : ve i = .bool t := by
  have := pure_dr h hp
  rw [hd] at this
  exact this.leaf_inv.1
theorem op_pick (h : SR n0 H0 g0 S ρ ve lb g fr H) {c a b : Operand} (ho : o.op = .pick c a b) (hw : wp E HS Q (sxOp E o S κ) ρ) : Done wm E HS Q n0 H0 g0 fr H o κ := by
  unfold sxOp at hw
  rw [ho] at hw
  simp only at hw
  have main : ∀ {S : St} {t : Bool} {x : Operand}, SR n0 H0 g0 S ρ ve lb g fr H → ev E fr c = some (.bool t) → (t = true ∧ x = a ∨ t = false ∧ x = b) → wp E HS Q (match evS S x with | some y => κ y S | none => .fail) ρ → Done wm E HS Q n0 H0 g0 fr H o κ := by
    intro S t x h hc hx hw
    split at hw
    · rename_i y hy
      obtain ⟨q1, q2⟩ := evS_ok (E := E) h hy
      refine .same h q1 hw ?_
      unfold aop
      rw [ho]
      rcases hx with ⟨rfl, rfl⟩ | ⟨rfl, rfl⟩ <;> simp only [hc, q2, one, Option.map_some]
    · cases hw
  split at hw
  · rename_i hc
    exact main h (evS_ok (E := E) h hc).2 (.inl ⟨rfl, rfl⟩) hw
  · rename_i hc
    exact main h (evS_ok (E := E) h hc).2 (.inr ⟨rfl, rfl⟩) hw
  · rename_i i hc
    cases hp : S.pureV i with
    | false => rw [hp] at hw; cases hw
    | true =>
      rw [hp] at hw
      simp only [cond_true] at hw
      obtain ⟨t, hd, hw⟩ := ite_inv hw
      have hv := (evS_ok (E := E) h hc).2
      simp only [SV.val, bool_val h.toSM hp hd] at hv
      cases t with
      | true => exact main (known_ok h hp hd) hv (.inl ⟨rfl, rfl⟩) hw
      | false => exact main (known_ok h hp hd) hv (.inr ⟨rfl, rfl⟩) hw
  · cases hw
theorem wp_bif {b : Bool} {a : Tree} (hw : wp E HS Q (bif b then a else .fail) ρ) : b = true ∧ wp E HS Q a ρ := by
  cases b with
  | true => exact ⟨rfl, hw⟩
  | false => cases hw
theorem new_low {x : AObj} : Nat.min H.low H.next ≤ (H.new x).low := Nat.min_le_left _ _
theorem loc_bd (x : Option Blk) : SV.bd (St.n { S with blks := S.blks ++ [x] }) (S.blks ++ [x]).length (.loc S.blks.length 0) := by
  show S.blks.length < (S.blks ++ [x]).length
  simp
theorem op_alloc (h : SR n0 H0 g0 S ρ ve lb g fr H) {t : TypeId} (ho : o.op = .alloc t) (hw : wp E HS Q (sxOp E o S κ) ρ) : Done wm E HS Q n0 H0 g0 fr H o κ := by
  unfold sxOp at hw
  rw [ho] at hw
  simp only at hw
  split at hw
  · rename_i ds sz bt z ag ht
    obtain ⟨_, hw⟩ := wp_bif hw
    refine ⟨_, _, _, _, _, _, _, h.alloc (el := t) (cs := z) (x := .cells (z.map .c)) (bds_c _) (vals_c z).symm, loc_bd _, hw, .of_val (Nat.le_succ _) ?_, fun _ => new_low⟩
    unfold aop
    rw [ho]
    simp only [ht, SV.val, updL, if_true]
  · cases hw
theorem op_box (h : SR n0 H0 g0 S ρ ve lb g fr H) {t : TypeId} {x : Operand} (ho : o.op = .box t x) (hw : wp E HS Q (sxOp E o S κ) ρ) : Done wm E HS Q n0 H0 g0 fr H o κ := by
  unfold sxOp at hw
  rw [ho] at hw
  simp only at hw
  split at hw
  case h_2 => cases hw
  rename_i y ti hy ht
  obtain ⟨hb, he⟩ := evS_ok (E := E) h hy
  have key : ∀ {S' : St} {ρ' : List D} {ve' : Nat → Value} {g' : Mem} {b : Blk}, SR n0 H0 g0 S' ρ' ve' lb g' fr H → b.bd S'.n S'.blks.length → BlkOK (getD ρ') ve' lb (y.val ve lb).cells.toList b → NoTup (y.val ve lb) →
      wp E HS Q (κ (.loc S'.blks.length 0) { S' with blks := S'.blks ++ [some b] }) ρ' → Done wm E HS Q n0 H0 g0 fr H o κ := by
    intro S' ρ' ve' g' b h' hbd hok hnt hw
    refine ⟨_, _, _, _, _, _, _, h'.alloc (el := t) hbd hok, loc_bd _, hw, .of_val (Nat.le_succ _) ?_, fun _ => new_low⟩
    unfold aop
    rw [ho]
    simp only [he]
    split
    · rename_i c hc
      simp only [Option.some.injEq] at hc
      exact absurd hc (hnt _)
    · rename_i v hn hc
      simp only [Option.some.injEq] at hc
      subst hc
      simp only [SV.val, updL, if_true]
    · rename_i hc; cases hc
  have dec : wp E HS Q (decomp y ti.agg ti.size S fun l S => κ (.loc S.blks.length 0) { S with blks := S.blks ++ [some (.cells l)] }) ρ → Done wm E HS Q n0 H0 g0 fr H o κ := by
    intro hw
    obtain ⟨l, S', ρ', ve', g', e, h', hw', r1, r2, _, r4⟩ := decomp_ok h hb hw
    exact key h' (b := .cells l) r1 r2.symm r4 hw'
  split at hw
  · rename_i i hag
    obtain ⟨d, h1, h2, h3⟩ := bindR_inv hw
    have hr := read_val h.toSM (h1 _ (List.mem_singleton.2 rfl))
    simp only [SV.ds, SV.d, ev_chk] at h2
    obtain ⟨rfl, h4, _⟩ := chk_ok h2
    obtain ⟨cs, hd, hl⟩ := h4 rfl
    have hdr : DR g (getD ρ i) (ve i) := hr.dr (by intro _ _ _ e; simp only [SV.d] at e; rw [hd] at e; cases e)
    have h5 := h.new (k := .pure) (o := false) (by simp) (d := getD ρ i) (v := ve i) ⟨(fun e => by cases e), hdr⟩
    have hg : getD (ρ ++ [getD ρ i]) S.n = getD ρ i := by
      have : S.n = ρ.length := h.len.symm
      rw [this, getD_at]
    refine key h5 (b := .whole (.v S.n) ti.size) ?_ ?_ (noTup_agg hdr hd) h3
    · show S.n < (S.new .pure false).n
      rw [new_n]; exact Nat.lt_succ_self _
    · refine ⟨?_, cs, ?_, hl⟩
      · simp only [SV.val, upd_at]
      · show getD (ρ ++ [getD ρ i]) S.n = _
        rw [hg, hd]
  · exact dec hw
theorem deref_ok (h : SR n0 H0 g0 S ρ ve lb g fr H) {a : SV} {κ : K1} (hb : a.bd S.n S.blks.length) (hw : wp E HS Q (derefS a S κ) ρ) :
    Helped E HS Q n0 H0 g0 S ρ ve lb g fr H κ fun y S' _ ve' _ => y.bd S'.n S'.blks.length ∧ y.val ve' lb = a.val ve lb := by
  cases a with
  | v i =>
    simp only [derefS] at hw
    obtain ⟨d, h1, h2, h3⟩ := bindR_inv hw
    have hr := read_val h.toSM (h1 _ (List.mem_singleton.2 rfl))
    simp only [SV.ds, SV.d, ev_pchk] at h2
    split at h2
    · rename_i cs off hd
      simp only [Option.some.injEq] at h2
      subst h2
      rw [hd] at h3
      have hdr : DR g (getD ρ i) (ve i) := hr.dr (by intro _ _ _ e; simp only [SV.d] at e; rw [hd] at e; cases e)
      rw [hd] at hdr
      have h5 := h.new (k := .ptr) (o := true) (by simp) (d := .ptr cs off) (v := ve i) ⟨fun _ => rfl, hdr, cs, off, rfl⟩
      have e : ExtS S ρ ve g (S.new .ptr true) (ρ ++ [.ptr cs off]) (upd ve S.n (ve i)) g := ext_new h.len
      have h3' : wp E HS Q (κ (SV.pp S.n 0) (S.new VK.ptr true)) (ρ ++ [.ptr cs off]) := h3
      refine ⟨_, _, _, _, _, e, h5, h3', ?_, ?_⟩
      · show S.n < (S.new .ptr true).n
        rw [new_n]; exact Nat.lt_succ_self _
      · simp only [SV.val, upd_at]
        generalize ve i = vi at hdr
        cases hdr with
        | ptr => rfl
    · cases h2
  | _ => exact ⟨_, S, ρ, ve, g, .refl, h, hw, hb, rfl⟩
theorem loads_one {b i : Nat} {cs : List Value} {el : TypeId} {rt : Nat} {own : Bool} {v : Value} (hb : H.blocks.get b = some ⟨.cells cs el, rt, own⟩) (hv : cs[i]? = some v) : H.loads b i 1 = some [v] := by
  simp only [AH.loads, hb]
  obtain ⟨h1, rfl⟩ := List.getElem?_eq_some_iff.1 hv
  rw [take_of (by simp; omega), List.drop_eq_getElem_cons h1, List.take_succ_cons, List.take_zero]
theorem load_part {t : TypeId} {ti : TI} (ht : E.types.get t = some ti) {b i : Nat} {cs : List Value} {el : TypeId} {rt : Nat} {own : Bool} {v : Value} (hb : H.blocks.get b = some ⟨.cells cs el, rt, own⟩)
    (hp : partV ti.agg ti.size i cs = some v) : loadA E H t (.pointer (some ⟨b, i, none⟩)) = some v := by
  simp only [loadA, ht]
  cases hag : ti.agg with
  | true =>
    simp only [hag, partV, cond_true] at hp ⊢
    simp only [AH.loads, hb]
    exact hp
  | false =>
    simp only [hag, partV, cond_false] at hp ⊢
    simp only [loads_one hb hp]
theorem partS_ok {ag : Bool} {size off : Nat} {cs : List SV} {x : SV} (h : partS ag size off cs = some x) : partV ag size off (SV.vals ve lb cs) = some (x.val ve lb) := by
  cases ag with
  | true =>
    simp only [partS, cond_true, bif_ble] at h
    split at h
    case isFalse => cases h
    rename_i hle
    cases h
    simp only [partV, cond_true, SV.vals_map]
    rw [take_of (by simp; omega)]
    simp [SV.val, SV.vals_map, List.map_drop, List.map_take]
  | false =>
    simp only [partS, cond_false] at h
    simp only [partV, cond_false, SV.vals_map, List.getElem?_map, h, Option.map_some]
theorem partS_bd {n m : Nat} {ag : Bool} {size off : Nat} {cs : List SV} {x : SV} (h : partS ag size off cs = some x) (hb : SV.bds n m cs) : x.bd n m := by
  rw [SV.bds_iff] at hb
  cases ag with
  | true =>
    simp only [partS, cond_true, bif_ble] at h
    split at h
    · cases h
      show SV.bds n m _
      rw [SV.bds_iff]
      exact fun y hy => hb y (List.mem_of_mem_drop (List.mem_of_mem_take hy))
    · cases h
  | false =>
    simp only [partS, cond_false] at h
    exact hb x (List.mem_of_getElem? h)
theorem natD_ok {bs : Mem} {d : D} {v : Value} {n : Nat} (h : RdR g bs d v) (hn : natD d = some n) : ∃ k, v = .int k (.ofNat n) := by
  unfold natD at hn
  split at hn
  · rename_i k m
    cases hn
    exact ⟨k, (h.dr (by intro _ _ _ e; cases e)).leaf_inv.1⟩
  · cases hn
theorem elem_ok {bs : Mem} (hm : Mem.le g bs) {d i : D} {v j : Value} (h : RdR g bs d v) (hi : RdR g bs i j) {e : D} (he : elemD d i = some e) :
    ∃ b o l c k n cs evs el rt own, v = .slice (some ⟨b, o, none⟩) l c ∧ j = .int k (.ofNat n) ∧ n < l ∧ bs b = some ⟨.cells cs el, rt, own⟩ ∧ (∃ es, d = .sl el e.cells.length es ∧ es.length = l) ∧
      take? (cs.drop (o + n * e.cells.length)) e.cells.length = some evs ∧ DRs g e.cells evs ∧ evs.all oneCell = true := by
  unfold elemD at he
  split at he
  · rename_i n hn
    obtain ⟨k, hk⟩ := natD_ok hi hn
    cases d with
    | sl el sz es =>
      simp only [D.es] at he
      obtain ⟨b, o, l, c, rt, cs, vs, own, q⟩ := h.sl hm
      have hes := q.s e (List.mem_of_getElem? he)
      have hlt : n < es.length := (List.getElem?_eq_some_iff.1 he).1
      have hle : n * sz + sz ≤ l * sz := mul_le (by rw [← q.n]; exact hlt)
      refine ⟨b, o, l, c, k, n, cs, (vs.drop (n * sz)).take sz, el, rt, own, q.v, hk, by rw [← q.n]; exact hlt, q.b, ⟨es, by rw [hes], q.n⟩, ?_, ?_, all_drop_take q.o _ _⟩
      · rw [hes, ← List.drop_drop]
        exact take_part q.t hle
      · have := (q.r.drop (n * sz)).take sz
        rw [flat_at q.s he] at this
        exact this
    | _ => simp [D.es] at he
  · cases he
theorem op_load (h : SR n0 H0 g0 S ρ ve lb g fr H) {t : TypeId} {a : SV} (hb : a.bd S.n S.blks.length) (hw : wp E HS Q (loadS E t a S κ) ρ) :
    Helped E HS Q n0 H0 g0 S ρ ve lb g fr H κ fun y S' _ ve' _ => y.bd S'.n S'.blks.length ∧ loadA E H t (a.val ve lb) = some (y.val ve' lb) := by
  unfold loadS at hw
  obtain ⟨a', S, ρ, ve1, g1, e0, h, hw, hb, hv⟩ := deref_ok h hb hw
  rw [← hv]
  suffices hs : Helped E HS Q n0 H0 g0 S ρ ve1 lb g1 fr H κ fun y S' _ ve' _ => y.bd S'.n S'.blks.length ∧ loadA E H t (a'.val ve1 lb) = some (y.val ve' lb) by
    obtain ⟨y, S', ρ', ve', g', e, r⟩ := hs
    exact ⟨y, S', ρ', ve', g', e0.trans e, r⟩
  split at hw
  · cases hw
  rename_i ti ht
  simp only at hw
  split at hw
  · rename_i b off
    split at hw
    · rename_i cs hbl
      obtain ⟨q1, el, rt, cs', q2, q3, q4⟩ := h.blks b _ hbl
      simp only [BlkOK] at q4
      subst q4
      split at hw
      · rename_i x hx
        exact ⟨x, S, ρ, ve1, g1, .refl, h, hw, partS_bd hx q1, load_part ht q2 (partS_ok hx)⟩
      · cases hw
    · rename_i x n hbl
      obtain ⟨q1, el, rt, cs', q2, q3, q4, ds, q5, q6⟩ := h.blks b _ hbl
      subst q4
      cases hc : (Nat.beq off 0 && Nat.beq ti.size n && ti.agg) with
      | true =>
        rw [hc] at hw
        simp only [Bool.and_eq_true] at hc
        obtain ⟨hr, hw⟩ := wp_bif hw
        obtain ⟨vs, hv, hvs, ho⟩ := cells_agg (read_agg h.toSM hr q5) q5
        refine ⟨x, S, ρ, ve1, g1, .refl, h, hw, q1, load_part ht q2 ?_⟩
        have h1 := Nat.eq_of_beq_eq_true hc.1.1
        have h2 := Nat.eq_of_beq_eq_true hc.1.2
        rw [h1, h2, hc.2, hv]
        have hl : vs.length = n := by rw [hvs.length, q6]
        show partV true n 0 vs = _
        simp only [partV, cond_true, List.drop_zero]
        rw [take_of (by omega), List.take_of_length_le (by omega)]
        rfl
      | false =>
        rw [hc] at hw
        simp only [cond_false] at hw
        obtain ⟨d, h1, h2, h3⟩ := bindR_inv hw
        obtain ⟨vs, hv, hvs, ho⟩ := cells_agg (read_agg h.toSM (h1 _ (List.mem_singleton.2 rfl)) q5) q5
        simp only [SV.ds, ev_fld, q5, D.cells] at h2
        obtain ⟨v, r1, r2, r3, _⟩ := part_ok hvs ho h2
        refine ⟨_, _, _, _, _, ext_new h.len, h.new (k := .pure) (o := !ti.agg) (by simp) (d := d) (v := v) ⟨fun e => r3 (by simpa using e), r2⟩, h3, ?_, ?_⟩
        · show S.n < (S.new .pure _).n
          rw [new_n]; exact Nat.lt_succ_self _
        · rw [hv] at q2
          simp only [SV.val, upd_at]
          exact load_part ht q2 r1
    · cases hw
  · rename_i s i sz off
    obtain ⟨d, h1, h2, h3⟩ := bindR_inv hw
    have hr1 := read_val h.toSM (h1 s (by simp))
    have hr2 := read_val h.toSM (h1 i (by simp))
    simp only [SV.ds, ev_elem] at h2
    split at h2
    case h_2 => cases h2
    rename_i e he
    obtain ⟨b, o', l, c, k, n, cs, evs, el, rt, own, w1, w2, w3, w4, ⟨wes, wd, _⟩, w5, w6, w7⟩ := elem_ok h.mem hr1 hr2 he
    cases hc : (Nat.beq (s.d (getD ρ)).szD sz && Nat.ble (off + (bif ti.agg then ti.size else 1)) sz) with
    | false => rw [hc] at h2; cases h2
    | true =>
      rw [hc] at h2
      simp only [Bool.and_eq_true] at hc
      have hsz := Nat.eq_of_beq_eq_true hc.1
      rw [wd] at hsz
      simp only [D.szD] at hsz
      have hoff := Nat.le_of_ble_eq_true hc.2
      simp only [cond_true] at h2
      have fin : ∀ v, partV ti.agg ti.size off evs = some v → DR g1 d v → (ti.agg = false → d.one = true) → Helped E HS Q n0 H0 g0 S ρ ve1 lb g1 fr H κ fun y S' _ ve' _ => y.bd S'.n S'.blks.length ∧ loadA E H t ((SV.ptr s i sz off).val ve1 lb) = some (y.val ve' lb) := by
        intro v r1 r2 r3
        refine ⟨_, _, _, _, _, ext_new h.len, h.new (k := .pure) (o := !ti.agg) (by simp) (d := d) (v := v) ⟨fun e => r3 (by simpa using e), r2⟩, h3, ?_, ?_⟩
        · show S.n < (S.new .pure _).n
          rw [new_n]; exact Nat.lt_succ_self _
        · simp only [SV.val, upd_at, w1, w2, ptrV]
          refine load_part ht w4 ?_
          obtain ⟨u1, u2⟩ := take_some w5
          rw [hsz] at u1 u2
          cases hag : ti.agg with
          | true =>
            simp only [hag, partV, cond_true, Option.map_eq_some_iff] at r1 hoff ⊢
            obtain ⟨l', r1, rfl⟩ := r1
            refine ⟨l', ?_, rfl⟩
            obtain ⟨u3, u4⟩ := take_some r1
            rw [u1] at u3 u4
            rw [← List.drop_drop, take_of (by simp at u2 u4 ⊢; omega), u3]
            congr 1
            rw [List.drop_take, List.take_take, Nat.min_eq_left (by omega)]
          | false =>
            simp only [hag, partV, cond_false] at r1 hoff ⊢
            rw [u1, List.getElem?_take] at r1
            split at r1
            · rw [List.getElem?_drop] at r1
              exact r1
            · cases r1
      cases hc2 : (ti.agg && Nat.beq off 0 && Nat.beq ti.size sz) with
      | true =>
        rw [hc2] at h2
        simp only [Bool.and_eq_true, cond_true] at hc2 h2
        obtain ⟨rfl, q, _⟩ := chk_ok h2
        obtain ⟨ecs, rfl, hecs⟩ := q rfl
        simp only [D.cells] at w5 w6 hsz
        refine fin (.agg ⟨evs⟩) ?_ (.agg w6 w7) (fun e => by rw [hc2.1.1] at e; cases e)
        have hel : evs.length = sz := by rw [w6.length, hsz]
        simp only [partV, hc2.1.1, cond_true, Nat.eq_of_beq_eq_true hc2.1.2, Nat.eq_of_beq_eq_true hc2.2, List.drop_zero]
        rw [take_of (by omega), List.take_of_length_le (by omega)]
        rfl
      | false =>
        rw [hc2] at h2
        simp only [cond_false] at h2
        obtain ⟨v, r1, r2, r3, _⟩ := part_ok w6 w7 h2
        exact fin v r1 r2 r3
  · rename_i i off
    obtain ⟨d, h1, h2, h3⟩ := bindR_inv hw
    have hp : pureB S (.pp i off) = true := h1 _ (List.mem_singleton.2 rfl)
    have hdr := pure_val h.toSM hp
    obtain ⟨hp1, cs, o', hp2⟩ := ptr_dr h.toSM (i := i) hp
    simp only [SV.ds, SV.d, hp2, ppD, ev_loadp] at h2 hdr
    generalize hvv : (SV.pp i off).val ve1 lb = vv at hdr
    cases hdr with
    | ptr hbk hvs ho =>
      rename_i b rt vs el own
      obtain ⟨v, r1, r2, r3, _⟩ := part_ok hvs ho h2
      refine ⟨_, _, _, _, _, ext_new h.len, h.new (k := .pure) (o := !ti.agg) (by simp) (d := d) (v := v) ⟨fun e => r3 (by simpa using e), r2⟩, h3, ?_, ?_⟩
      · show S.n < (S.new .pure _).n
        rw [new_n]; exact Nat.lt_succ_self _
      · simp only [SV.val, upd_at] at hvv ⊢
        exact load_part ht (h.mem _ _ hbk) r1
  · cases hw
end
end Go.Am
namespace Go.Am
open Go
section
variable {E : Env} {n0 : Lim} {H0 : AH} {g0 : Mem} {S : St} {ρ : List D} {ve : Nat → Value} {lb : Nat → Nat} {g : Mem} {fr : Fr} {H : AH} {HS : FuncId → List D → D → Prop} {Q : Res1 → Prop} {o : Oper} {κ : K1} {wm : Bool}
theorem new_bd {k : VK} {b : Bool} {m : Nat} : SV.bd (S.new k b).n m (.v S.n) := by
  show S.n < (S.new k b).n
  rw [new_n]; exact Nat.lt_succ_self _
theorem getD_n (h : SM n0 S ρ ve lb g H) {d : D} : getD (ρ ++ [d]) S.n = d := by
  have : S.n = ρ.length := h.len.symm
  rw [this, getD_at]
theorem chkV_ok (h : SR n0 H0 g0 S ρ ve lb g fr H) {i : Nat} {size : Nat} {κ : K1} (hw : wp E HS Q (bindR (.chk true size) [.v i] .pure false S κ) ρ) :
    ∃ cs, getD ρ i = .agg cs ∧ cs.length = size ∧ DR g (getD ρ i) (ve i) ∧ SR n0 H0 g0 (S.new .pure false) (ρ ++ [getD ρ i]) (upd ve S.n (ve i)) lb g fr H ∧ wp E HS Q (κ (.v S.n) (S.new .pure false)) (ρ ++ [getD ρ i]) := by
  obtain ⟨d, h1, h2, h3⟩ := bindR_inv hw
  have hr := read_val h.toSM (h1 _ (List.mem_singleton.2 rfl))
  simp only [SV.ds, SV.d, ev_chk] at h2
  obtain ⟨rfl, h4, _⟩ := chk_ok h2
  obtain ⟨cs, hd, hl⟩ := h4 rfl
  have hdr : DR g (getD ρ i) (ve i) := hr.dr (by intro _ _ _ e; simp only [SV.d] at e; rw [hd] at e; cases e)
  exact ⟨cs, hd, hl, hdr, h.new (k := .pure) (o := false) (by simp) (d := getD ρ i) (v := ve i) ⟨(fun e => by cases e), hdr⟩, h3⟩
theorem storeX_run {t : TypeId} {ti : TI} (ht : E.types.get t = some ti) {b i : Nat} {cs r : List Value} {el : TypeId} {rt : Nat} {v : Value} (hb : H.blocks.get b = some ⟨.cells cs el, rt, true⟩)
    (hl : v.cells.toList.length = ti.size) (hs : splice cs i v.cells.toList = some r) : storeA E H t (.pointer (some ⟨b, i, none⟩)) v = some (H.write b ⟨.cells cs el, rt, true⟩ (.cells r el)) := by
  simp only [storeA, ht, bif_beq]
  rw [if_pos hl]
  simp only [AH.stores, hb, hs, Option.map_some]
theorem op_store (h : SR n0 H0 g0 S ρ ve lb g fr H) {t : TypeId} {x1 x2 : Operand} {a x : SV} (ho : o.op = .store t x1 x2) (h1 : ev E fr x1 = some (a.val ve lb)) (h2 : ev E fr x2 = some (x.val ve lb))
    (hb : a.bd S.n S.blks.length) (hx : x.bd S.n S.blks.length) (hw : wp E HS Q (storeS E t a x S κ) ρ) : Done true E HS Q n0 H0 g0 fr H o κ := by
  unfold storeS at hw
  split at hw
  · cases hw
  rename_i ti ht
  split at hw
  case h_2 => cases hw
  rename_i b off
  have fin : ∀ {S' : St} {ρ' : List D} {ve' : Nat → Value} {g' : Mem} {blk blk0 : Blk} {cs r : List Value} {el : TypeId} {rt : Nat}, SR n0 H0 g0 S' ρ' ve' lb g' fr H → S'.blks[b]? = some (some blk0) → H.blocks.get (lb b) = some ⟨.cells cs el, rt, true⟩ →
      NoTup (x.val ve lb) → (x.val ve lb).cells.toList.length = ti.size → splice cs off (x.val ve lb).cells.toList = some r → blk.bd S'.n S'.blks.length → BlkOK (getD ρ') ve' lb r blk →
      wp E HS Q (κ (.tup []) (S'.setBlk b blk)) ρ' → Done true E HS Q n0 H0 g0 fr H o κ := by
    intro S' ρ' ve' g' blk blk0 cs r el rt h' hbl hk hnt hlen hsp hbd hok hw
    refine ⟨.tup [], _, _, _, _, _, _, h'.store hbl hk hbd hok, trivial, hw, .of_skip (Nat.le_refl _) ?_, fun e => by cases e⟩
    unfold aop
    rw [ho]
    simp only [h1, h2]
    have hst := storeX_run (t := t) ht hk hlen hsp
    simp only [SV.val] at hst ⊢
    split
    · rename_i c _ hc
      simp only [Option.some.injEq] at hc
      exact absurd hc (hnt _)
    · rename_i a' v' hn e1 e2
      simp only [Option.some.injEq] at e1 e2
      subst e1 e2
      rw [hst]
      rfl
    · rename_i hn
      exact absurd rfl (hn _ _ rfl)
  have whole : ∀ {blk0 : Blk} {cs : List Value} {el : TypeId} {rt : Nat}, S.blks[b]? = some (some blk0) → H.blocks.get (lb b) = some ⟨.cells cs el, rt, true⟩ → cs.length = ti.size → off = 0 →
      wp E HS Q (storeW ti b x S κ) ρ → Done true E HS Q n0 H0 g0 fr H o κ := by
    intro blk0 cs el rt hbl hk hcs hoff hw2
    subst hoff
    have dec : wp E HS Q (decomp x ti.agg ti.size S fun l S => κ (.tup []) (S.setBlk b (.cells l))) ρ → Done true E HS Q n0 H0 g0 fr H o κ := by
      intro hw
      obtain ⟨l, S', ρ', ve', g', e, h', hw', r1, r2, r3, r4⟩ := decomp_ok h hx hw
      have hlen : (x.val ve lb).cells.toList.length = ti.size := by rw [← r2, SV.vals_map, List.length_map, r3]
      exact fin (S' := S') (blk := .cells l) h' (by rw [e.blks]; exact hbl) hk r4 hlen (splice_full (by rw [hcs, hlen])) r1 r2.symm hw'
    unfold storeW at hw2
    split at hw2
    · rename_i i
      obtain ⟨cs', hd, hl, hdr, h', hw'⟩ := chkV_ok h hw2
      obtain ⟨vs, hv, hvs, ho'⟩ := cells_agg hdr hd
      have hlen : ((SV.v i).val ve lb).cells.toList.length = ti.size := by
        simp only [SV.val, hv]
        show vs.length = _
        rw [hvs.length, hl]
      refine fin (S' := S.new .pure false) (blk := .whole (.v S.n) ti.size) h' hbl hk (noTup_agg hdr hd) hlen (splice_full (by rw [hcs, hlen])) (new_bd (m := S.blks.length)) ⟨?_, cs', ?_, hl⟩ hw'
      · simp only [SV.val, upd_at]
      · show getD _ S.n = _
        rw [getD_n h.toSM, hd]
    · exact dec hw2
  split at hw
  · rename_i cs hbl
    obtain ⟨q1, el, rt, cs', q2, q3, q4⟩ := h.blks b _ hbl
    simp only [BlkOK] at q4
    subst q4
    cases hc : (ti.agg && Nat.beq off 0 && Nat.beq cs.length ti.size) with
    | true =>
      rw [hc] at hw
      simp only [Bool.and_eq_true] at hc
      simp only [cond_true] at hw
      exact whole hbl q2 (by rw [SV.vals_map, List.length_map]; exact Nat.eq_of_beq_eq_true hc.2) (Nat.eq_of_beq_eq_true hc.1.2) hw
    | false =>
      rw [hc] at hw
      simp only [cond_false] at hw
      obtain ⟨l, S', ρ', ve', g', e, h', hw', r1, r2, r3, r4⟩ := decomp_ok h hx hw
      simp only at hw'
      split at hw'
      · rename_i cs2 hsp
        have hsp' := spliceS_ok (ve := ve') (lb := lb) hsp
        have hcs : SV.vals ve' lb cs = SV.vals ve lb cs := SV.vals_congr e.ve (fun _ _ => rfl) q1
        rw [hcs, r2] at hsp'
        exact fin (S' := S') (blk := .cells cs2) h' (by rw [e.blks]; exact hbl) q2 r4 (by rw [← r2, SV.vals_map, List.length_map, r3]) hsp' (spliceS_bd hsp (e.bds q1) r1) rfl hw'
      · cases hw'
  · rename_i y n hbl
    obtain ⟨q1, el, rt, cs', q2, q3, q4, ds, q5, q6⟩ := h.blks b _ hbl
    cases hc : (ti.agg && Nat.beq off 0 && Nat.beq n ti.size && readB S y) with
    | true =>
      rw [hc] at hw
      simp only [Bool.and_eq_true] at hc
      simp only [cond_true] at hw
      obtain ⟨vs, hv, hvs, _⟩ := cells_agg (read_agg h.toSM hc.2 q5) q5
      refine whole hbl q2 ?_ (Nat.eq_of_beq_eq_true hc.1.1.2) hw
      rw [q4, hv, ← Nat.eq_of_beq_eq_true hc.1.2, ← q6]
      exact hvs.length
    | false =>
      rw [hc] at hw
      simp only [cond_false] at hw
      obtain ⟨cl, S1, ρ1, ve1, g1, e1, h1', hw1, s1, s2, s3, s4⟩ := decomp_ok h q1 hw
      obtain ⟨l, S', ρ', ve', g', e, h', hw', r1, r2, r3, r4⟩ := decomp_ok h1' (e1.bd hx) hw1
      have hxv : x.val ve1 lb = x.val ve lb := e1.val hx
      rw [hxv] at r2 r4
      simp only at hw'
      split at hw'
      · rename_i cs2 hsp
        have hsp' := spliceS_ok (ve := ve') (lb := lb) hsp
        have hcs : SV.vals ve' lb cl = SV.vals ve1 lb cl := SV.vals_congr e.ve (fun _ _ => rfl) s1
        rw [hcs, s2, r2, ← q4] at hsp'
        exact fin (S' := S') (blk := .cells cs2) h' (by rw [e.blks, e1.blks]; exact hbl) q2 r4 (by rw [← r2, SV.vals_map, List.length_map, r3]) hsp' (spliceS_bd hsp (e.bds s1) r1) rfl hw'
      · cases hw'
  · cases hw
end
end Go.Am
