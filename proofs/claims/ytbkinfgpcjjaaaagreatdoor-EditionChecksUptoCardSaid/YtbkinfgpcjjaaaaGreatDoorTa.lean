/- Data checked symbolically: shapes with bounds, names, facts about numbers. Conditions: none. -/
import Derived.Test.YtbkinfgpcjjaaaaGreatDoorUv
set_option linter.all false
namespace Go.Am.Tt
open Go Go.Am
inductive Sn where
  | int (k : IntKind)
  | bool
  | str (n : Nat)
  | st (fs : List Sn)
  | sl (el sz n : Nat) (e : Sn)
  | any
mutual
def HasN : Sn → D → Prop
  | .int k, d => ∃ n, d = .leaf (.int k n)
  | .bool, d => ∃ b, d = .leaf (.bool b)
  | .str n, d => ∃ s, d = .leaf (.string s) ∧ s.size ≤ n
  | .st fs, d => ∃ cs, d = .agg cs ∧ HasNs fs cs
  | .sl el sz n e, d => d = .nil ∨ ∃ es, d = .sl el sz es ∧ es.length ≤ n ∧ ∀ x ∈ es, HasN e x
  | .any, _ => True
def HasNs : List Sn → List D → Prop
  | [], l => l = []
  | s :: ss, l => ∃ d ds, l = d :: ds ∧ HasN s d ∧ HasNs ss ds
end
mutual
def Sn.fits : Sn → Sn → Bool
  | .int k, .int k' => decide (k = k')
  | .bool, .bool => true
  | .str n, .str m => Nat.ble n m
  | .st fs, .st gs => Sn.fitss fs gs
  | .sl el sz n e, .sl el' sz' m e' => Nat.beq el el' && Nat.beq sz sz' && Nat.ble n m && Sn.fits e e'
  | _, _ => false
def Sn.fitss : List Sn → List Sn → Bool
  | [], [] => true
  | a :: l, b :: m => Sn.fits a b && Sn.fitss l m
  | _, _ => false
end
mutual
theorem fits_ok : ∀ {s t : Sn} {d : D}, Sn.fits s t = true → HasN s d → HasN t d
  | .int k, t, d, h, hd => by
    cases t <;> simp only [Sn.fits] at h <;> first | (cases h; done) | skip
    rw [decide_eq_true_eq] at h; subst h; exact hd
  | .bool, t, d, h, hd => by
    cases t <;> simp only [Sn.fits] at h <;> first | (cases h; done) | skip
    exact hd
  | .str n, t, d, h, hd => by
    cases t <;> simp only [Sn.fits] at h <;> first | (cases h; done) | skip
    simp only [HasN] at hd ⊢
    obtain ⟨s, rfl, hs⟩ := hd
    exact ⟨s, rfl, Nat.le_trans hs (Nat.le_of_ble_eq_true h)⟩
  | .st fs, t, d, h, hd => by
    cases t <;> simp only [Sn.fits] at h <;> first | (cases h; done) | skip
    simp only [HasN] at hd ⊢
    obtain ⟨cs, rfl, hs⟩ := hd
    exact ⟨cs, rfl, fitss_ok h hs⟩
  | .sl el sz n e, t, d, h, hd => by
    cases t <;> simp only [Sn.fits] at h <;> first | (cases h; done) | skip
    simp only [Bool.and_eq_true] at h
    obtain ⟨⟨⟨h1, h2⟩, h3⟩, h4⟩ := h
    have h1 := Nat.eq_of_beq_eq_true h1
    have h2 := Nat.eq_of_beq_eq_true h2
    subst h1 h2
    simp only [HasN] at hd ⊢
    rcases hd with rfl | ⟨es, rfl, hl, ha⟩
    · exact .inl rfl
    · exact .inr ⟨es, rfl, Nat.le_trans hl (Nat.le_of_ble_eq_true h3), fun x hx => fits_ok h4 (ha x hx)⟩
  | .any, t, d, h, hd => by simp only [Sn.fits] at h; cases h
theorem fitss_ok : ∀ {ss ts : List Sn} {ds : List D}, Sn.fitss ss ts = true → HasNs ss ds → HasNs ts ds
  | [], ts, ds, h, hd => by
    cases ts <;> simp only [Sn.fitss] at h <;> first | (cases h; done) | skip
    exact hd
  | s :: ss, ts, ds, h, hd => by
    cases ts <;> simp only [Sn.fitss] at h <;> first | (cases h; done) | skip
    simp only [Bool.and_eq_true] at h
    simp only [HasNs] at hd ⊢
    obtain ⟨d, r, rfl, h1, h2⟩ := hd
    exact ⟨d, r, rfl, fits_ok h.1 h1, fitss_ok h.2 h2⟩
end
abbrev Wd := List (Int × D)
abbrev Fact := Nat × Nat × Int
def fOk (σ : Wd) (q : Fact) : Prop := ∃ x y, σ[q.1]? = some x ∧ σ[q.2.1]? = some y ∧ x.1 ≤ y.1 + q.2.2
def bOk (σ : Wd) (q : Nat × Nat) : Prop := ∃ x, σ[q.1]? = some x ∧ 0 ≤ x.1 ∧ x.1 ≤ (q.2 : Int)
inductive Y where
  | int (k : IntKind) (v : Nat) (c : Int)
  | bool (t f : List Fact)
  | str (n b : Nat)
  | sl (n el sz b : Nat) (e : Sn)
  | st (cs : List Y)
  | nil
  | clo (f : Nat)
  | tup (cs : List Y)
  | any
mutual
def relY (σ : Wd) : Y → D → Prop
  | .int k v c, d => ∃ x, σ[v]? = some x ∧ d = .leaf (.int k (x.1 + c))
  | .bool t f, d => ∃ b, d = .leaf (.bool b) ∧ (b = true → ∀ q ∈ t, fOk σ q) ∧ (b = false → ∀ q ∈ f, fOk σ q)
  | .str n b, d => ∃ s x, d = .leaf (.string s) ∧ σ[n]? = some x ∧ x.1 = (s.size : Int) ∧ s.size ≤ b
  | .sl n el sz b e, d => σ[n]? = some ((d.es.length : Int), d) ∧ HasN (.sl el sz b e) d
  | .st cs, d => ∃ ds, d = .agg ds ∧ relYs σ cs ds
  | .nil, d => d = .nil
  | .clo f, d => d = .clo (.func f) [] []
  | .tup cs, d => ∃ ds, d = .tup ds ∧ relYs σ cs ds
  | .any, _ => True
def relYs (σ : Wd) : List Y → List D → Prop
  | [], l => l = []
  | y :: ys, l => ∃ d ds, l = d :: ds ∧ relY σ y d ∧ relYs σ ys ds
end
theorem get_app {σ τ : Wd} {n : Nat} {x : Int × D} (h : σ[n]? = some x) : (σ ++ τ)[n]? = some x := by
  have hl : n < σ.length := by
    rcases Nat.lt_or_ge n σ.length with h' | h'
    · exact h'
    · rw [List.getElem?_eq_none h'] at h; cases h
  rw [List.getElem?_append_left hl]; exact h
theorem fOk_app {σ τ : Wd} {q : Fact} (h : fOk σ q) : fOk (σ ++ τ) q := by
  obtain ⟨x, y, h1, h2, h3⟩ := h
  exact ⟨x, y, get_app h1, get_app h2, h3⟩
theorem bOk_app {σ τ : Wd} {q : Nat × Nat} (h : bOk σ q) : bOk (σ ++ τ) q := by
  obtain ⟨x, h1, h2⟩ := h
  exact ⟨x, get_app h1, h2⟩
mutual
theorem relY_app {σ τ : Wd} : ∀ {y : Y} {d : D}, relY σ y d → relY (σ ++ τ) y d
  | .int k v c, d, h => by
    simp only [relY] at h ⊢
    obtain ⟨x, h1, h2⟩ := h; exact ⟨x, get_app h1, h2⟩
  | .bool t f, d, h => by
    simp only [relY] at h ⊢
    obtain ⟨b, h1, h2, h3⟩ := h
    exact ⟨b, h1, fun hb q hq => fOk_app (h2 hb q hq), fun hb q hq => fOk_app (h3 hb q hq)⟩
  | .str n b, d, h => by
    simp only [relY] at h ⊢
    obtain ⟨s, x, h1, h2, h3⟩ := h; exact ⟨s, x, h1, get_app h2, h3⟩
  | .sl n el sz b e, d, h => by
    simp only [relY] at h ⊢
    exact ⟨get_app h.1, h.2⟩
  | .st cs, d, h => by
    simp only [relY] at h ⊢
    obtain ⟨ds, h1, h2⟩ := h; exact ⟨ds, h1, relYs_app h2⟩
  | .nil, d, h => by simp only [relY] at h ⊢; exact h
  | .clo f, d, h => by simp only [relY] at h ⊢; exact h
  | .tup cs, d, h => by
    simp only [relY] at h ⊢
    obtain ⟨ds, h1, h2⟩ := h; exact ⟨ds, h1, relYs_app h2⟩
  | .any, d, h => by simp only [relY]
theorem relYs_app {σ τ : Wd} : ∀ {ys : List Y} {ds : List D}, relYs σ ys ds → relYs (σ ++ τ) ys ds
  | [], ds, h => by simp only [relYs] at h ⊢; exact h
  | y :: ys, ds, h => by
    simp only [relYs] at h ⊢
    obtain ⟨d, r, h1, h2, h3⟩ := h; exact ⟨d, r, h1, relY_app h2, relYs_app h3⟩
end
def leI : Int → Int → Bool
  | .ofNat a, .ofNat b => Nat.ble a b
  | .negSucc a, .negSucc b => Nat.ble b a
  | .negSucc _, .ofNat _ => true
  | .ofNat _, .negSucc _ => false
theorem leI_ok : ∀ {a b : Int}, leI a b = true → a ≤ b
  | .ofNat a, .ofNat b, h => by have := Nat.le_of_ble_eq_true h; show (a : Int) ≤ (b : Int); omega
  | .negSucc a, .negSucc b, h => by have := Nat.le_of_ble_eq_true h; omega
  | .negSucc a, .ofNat b, _ => by show Int.negSucc a ≤ (b : Int); omega
  | .ofNat _, .negSucc _, h => by cases h
def lookA : List (Nat × Int) → Nat → Option Int
  | [], _ => none
  | (w, d) :: r, u => bif Nat.beq w u then some d else lookA r u
def addA (acc : List (Nat × Int)) (w : Nat) (d : Int) : List (Nat × Int) := match lookA acc w with
  | some d' => bif leI d' d then acc else (w, d) :: acc
  | none => (w, d) :: acc
def stepA (q : Fact) (acc : List (Nat × Int)) : List (Nat × Int) := match lookA acc q.1 with
  | some d => addA acc q.2.1 (Int.add d q.2.2)
  | none => acc
def roundA : List Fact → List (Nat × Int) → List (Nat × Int)
  | [], acc => acc
  | q :: r, acc => roundA r (stepA q acc)
def closeA (F : List Fact) : Nat → List (Nat × Int) → List (Nat × Int)
  | 0, acc => acc
  | n + 1, acc => closeA F n (roundA F acc)
def AOk (σ : Wd) (a : Nat) (acc : List (Nat × Int)) : Prop := ∀ p ∈ acc, fOk σ (a, p.1, p.2)
theorem lookA_mem {acc : List (Nat × Int)} {u : Nat} {d : Int} (h : lookA acc u = some d) : (u, d) ∈ acc := by
  induction acc with
  | nil => cases h
  | cons p r ih =>
    obtain ⟨w, e⟩ := p
    simp only [lookA] at h
    cases hw : Nat.beq w u with
    | true => rw [hw] at h; have := Nat.eq_of_beq_eq_true hw; subst this; cases h; exact List.mem_cons_self
    | false => rw [hw] at h; exact List.mem_cons_of_mem _ (ih h)
theorem addA_ok {σ : Wd} {a w : Nat} {d : Int} {acc : List (Nat × Int)} (h : AOk σ a acc) (hd : fOk σ (a, w, d)) : AOk σ a (addA acc w d) := by
  have hc : AOk σ a ((w, d) :: acc) := fun p hp => by
    rcases List.mem_cons.1 hp with rfl | hp
    · exact hd
    · exact h p hp
  unfold addA
  split
  · cases leI _ d
    · exact hc
    · exact h
  · exact hc
theorem fOk_trans {σ : Wd} {a u v : Nat} {c d : Int} (h1 : fOk σ (a, u, d)) (h2 : fOk σ (u, v, c)) : fOk σ (a, v, d + c) := by
  obtain ⟨x, y, ha, hu, hx⟩ := h1
  obtain ⟨y', z, hu', hv, hy⟩ := h2
  simp only at ha hu hx hu' hv hy
  rw [hu] at hu'
  cases hu'
  exact ⟨x, z, ha, hv, by simp only; omega⟩
theorem stepA_ok {σ : Wd} {a : Nat} {q : Fact} {acc : List (Nat × Int)} (hq : fOk σ q) (h : AOk σ a acc) : AOk σ a (stepA q acc) := by
  unfold stepA
  split
  · rename_i d hd
    exact addA_ok h (fOk_trans (h _ (lookA_mem hd)) hq)
  · exact h
theorem roundA_ok {σ : Wd} {a : Nat} : ∀ (F : List Fact) (acc : List (Nat × Int)), (∀ q ∈ F, fOk σ q) → AOk σ a acc → AOk σ a (roundA F acc)
  | [], _, _, h => h
  | q :: r, acc, hF, h => by
    unfold roundA
    exact roundA_ok r _ (fun x hx => hF x (List.mem_cons_of_mem _ hx)) (stepA_ok (hF q List.mem_cons_self) h)
theorem closeA_ok {σ : Wd} {a : Nat} {F : List Fact} (hF : ∀ q ∈ F, fOk σ q) : ∀ (n : Nat) (acc : List (Nat × Int)), AOk σ a acc → AOk σ a (closeA F n acc)
  | 0, _, h => h
  | n + 1, acc, h => by
    unfold closeA
    exact closeA_ok hF n _ (roundA_ok F acc hF h)
def anyL (acc : List (Nat × Int)) (lim : Int) : List (Nat × Nat) → Bool
  | [] => false
  | (w, m) :: r => (match lookA acc w with
    | some d => leI (Int.add d (Int.ofNat m)) lim
    | none => false) || anyL acc lim r
def okA (L : List (Nat × Nat)) (acc : List (Nat × Int)) (b : Nat) (lim : Int) : Bool :=
  (match lookA acc b with
  | some d => leI d lim
  | none => false) || (Nat.beq b 0 && anyL acc lim L)
def seekA (F : List Fact) (L : List (Nat × Nat)) (b : Nat) (lim : Int) : Nat → List (Nat × Int) → Bool
  | 0, acc => okA L acc b lim
  | n + 1, acc => okA L acc b lim || seekA F L b lim n (roundA F acc)
def zeroL : List (Nat × Nat) → List (Nat × Int)
  | [] => []
  | (w, _) :: r => (w, 0) :: zeroL r
def entN (n : Nat) (F : List Fact) (L : List (Nat × Nat)) (a : Nat) (ca : Int) (b : Nat) (cb : Int) : Bool :=
  bif Nat.beq a b then leI ca cb else seekA F L b (Int.sub cb ca) n (bif Nat.beq a 0 then (0, 0) :: zeroL L else [(a, 0)])
abbrev ent := entN 4
structure SOk (σ : Wd) (F : List Fact) (L : List (Nat × Nat)) : Prop where
  z : ∃ d, σ[0]? = some (0, d)
  f : ∀ q ∈ F, fOk σ q
  l : ∀ q ∈ L, bOk σ q
theorem anyL_ok {acc : List (Nat × Int)} {lim : Int} : ∀ {L : List (Nat × Nat)}, anyL acc lim L = true → ∃ p ∈ L, ∃ d, lookA acc p.1 = some d ∧ d + (p.2 : Int) ≤ lim
  | [], h => by cases h
  | (w, m) :: r, h => by
    simp only [anyL] at h
    rcases Bool.or_eq_true_iff.1 h with h | h
    · split at h
      · rename_i d hd
        exact ⟨_, List.mem_cons_self, d, hd, leI_ok h⟩
      · cases h
    · obtain ⟨p, hp, q⟩ := anyL_ok h
      exact ⟨p, List.mem_cons_of_mem _ hp, q⟩
theorem zeroL_mem {p : Nat × Int} : ∀ {L : List (Nat × Nat)}, p ∈ zeroL L → ∃ q ∈ L, p = (q.1, 0)
  | [], h => by cases h
  | (w, m) :: r, h => by
    simp only [zeroL] at h
    rcases List.mem_cons.1 h with rfl | h
    · exact ⟨_, List.mem_cons_self, rfl⟩
    · obtain ⟨q, hq, e⟩ := zeroL_mem h
      exact ⟨q, List.mem_cons_of_mem _ hq, e⟩
theorem seekA_ok {σ : Wd} {F : List Fact} {L : List (Nat × Nat)} (hs : SOk σ F L) {a b : Nat} {lim : Int} {x y : Int × D} (ha : σ[a]? = some x) (hb : σ[b]? = some y) :
    ∀ (n : Nat) (acc : List (Nat × Int)), AOk σ a acc → seekA F L b lim n acc = true → x.1 ≤ y.1 + lim := by
  have one : ∀ acc, AOk σ a acc → okA L acc b lim = true → x.1 ≤ y.1 + lim := by
    intro acc hacc h
    unfold okA at h
    rcases Bool.or_eq_true_iff.1 h with h | h
    · split at h
      · rename_i d hd
        obtain ⟨x', y', h1, h2, h3⟩ := hacc _ (lookA_mem hd)
        simp only at h1 h2 h3
        rw [ha] at h1; rw [hb] at h2
        cases h1; cases h2
        have := leI_ok h
        omega
      · cases h
    · rw [Bool.and_eq_true] at h
      have h0 := Nat.eq_of_beq_eq_true h.1
      subst h0
      obtain ⟨p, hp, d, hd, hle⟩ := anyL_ok h.2
      obtain ⟨x', y', h1, h2, h3⟩ := hacc _ (lookA_mem hd)
      obtain ⟨z, h4, _, h5⟩ := hs.l p hp
      obtain ⟨e, h6⟩ := hs.z
      simp only at h1 h2 h3
      rw [ha] at h1; rw [h4] at h2; rw [h6] at hb
      cases h1; cases h2; cases hb
      simp only
      omega
  intro n
  induction n with
  | zero => intro acc hacc h; exact one acc hacc h
  | succ n ih =>
    intro acc hacc h
    simp only [seekA] at h
    rcases Bool.or_eq_true_iff.1 h with h | h
    · exact one acc hacc h
    · exact ih _ (roundA_ok F acc hs.f hacc) h
theorem entN_ok {n : Nat} {σ : Wd} {F : List Fact} {L : List (Nat × Nat)} (hs : SOk σ F L) {a b : Nat} {ca cb : Int} (h : entN n F L a ca b cb = true) {x y : Int × D} (ha : σ[a]? = some x) (hb : σ[b]? = some y) : x.1 + ca ≤ y.1 + cb := by
  unfold entN at h
  cases hab : Nat.beq a b with
  | true =>
    rw [hab] at h
    have := Nat.eq_of_beq_eq_true hab
    subst this
    rw [ha] at hb
    cases hb
    have := leI_ok h
    omega
  | false =>
    rw [hab] at h
    simp only [cond_false] at h
    have hi : AOk σ a (bif Nat.beq a 0 then (0, 0) :: zeroL L else [(a, 0)]) := by
      cases h0 : Nat.beq a 0 with
      | true =>
        have := Nat.eq_of_beq_eq_true h0
        subst this
        obtain ⟨d, hd⟩ := hs.z
        intro p hp
        rcases List.mem_cons.1 hp with rfl | hp
        · exact ⟨_, _, hd, hd, by simp⟩
        · obtain ⟨q, hq, rfl⟩ := zeroL_mem hp
          obtain ⟨z, h1, h2, _⟩ := hs.l q hq
          exact ⟨_, _, hd, h1, by simp only; omega⟩
      | false =>
        intro p hp
        rw [cond_false, List.mem_singleton] at hp
        subst hp
        exact ⟨_, _, ha, ha, by simp⟩
    have := seekA_ok hs ha hb n _ hi h
    have e : Int.sub cb ca = cb - ca := rfl
    rw [e] at this
    omega
theorem ent_ok {σ : Wd} {F : List Fact} {L : List (Nat × Nat)} (hs : SOk σ F L) {a b : Nat} {ca cb : Int} (h : ent F L a ca b cb = true) {x y : Int × D} (ha : σ[a]? = some x) (hb : σ[b]? = some y) : x.1 + ca ≤ y.1 + cb := entN_ok hs h ha hb
end Go.Am.Tt
namespace Go.Am.Tt
open Go Go.Am
structure El where
  n : Nat
  v : Nat
  c : Int
  y : Y
structure Cx where
  F : List Fact
  L : List (Nat × Nat)
  els : List El
  nx : Nat
def Cx.add (C : Cx) (F : List Fact) (L : List (Nat × Nat)) (els : List El) (k : Nat) : Cx := ⟨F ++ C.F, L ++ C.L, els ++ C.els, Nat.add C.nx k⟩
def elOk (σ : Wd) (e : El) : Prop := ∃ x d i z, σ[e.n]? = some (x, d) ∧ σ[e.v]? = some i ∧ 0 ≤ i.1 + e.c ∧ d.es[(i.1 + e.c).toNat]? = some z ∧ relY σ e.y z
theorem elOk_app {σ τ : Wd} {e : El} (h : elOk σ e) : elOk (σ ++ τ) e := by
  obtain ⟨x, d, i, z, h1, h2, h3, h4, h5⟩ := h
  exact ⟨x, d, i, z, get_app h1, get_app h2, h3, h4, relY_app h5⟩
structure COk (σ : Wd) (C : Cx) : Prop where
  s : SOk σ C.F C.L
  e : ∀ e ∈ C.els, elOk σ e
  n : σ.length = C.nx
theorem COk.ext {σ τ : Wd} {C : Cx} (h : COk σ C) {F : List Fact} {L : List (Nat × Nat)} {els : List El} {k : Nat}
    (hF : ∀ q ∈ F, fOk (σ ++ τ) q) (hL : ∀ q ∈ L, bOk (σ ++ τ) q) (hE : ∀ q ∈ els, elOk (σ ++ τ) q) (hk : τ.length = k) : COk (σ ++ τ) (C.add F L els k) := by
  refine ⟨⟨?_, fun q hq => ?_, fun q hq => ?_⟩, fun q hq => ?_, ?_⟩
  · obtain ⟨d, hd⟩ := h.s.z
    exact ⟨d, get_app hd⟩
  · rcases List.mem_append.1 hq with hq | hq
    · exact hF q hq
    · exact fOk_app (h.s.f q hq)
  · rcases List.mem_append.1 hq with hq | hq
    · exact hL q hq
    · exact bOk_app (h.s.l q hq)
  · rcases List.mem_append.1 hq with hq | hq
    · exact hE q hq
    · exact elOk_app (h.e q hq)
  · show (σ ++ τ).length = C.nx + k
    rw [List.length_append, h.n, hk]
theorem COk.facts {σ : Wd} {C : Cx} (h : COk σ C) {F : List Fact} (hF : ∀ q ∈ F, fOk σ q) : COk σ (C.add F [] [] 0) := by
  have := h.ext (τ := []) (F := F) (L := []) (els := []) (k := 0) (by simpa using hF) (by simp) (by simp) rfl
  simpa using this
theorem get_new {σ : Wd} {C : Cx} (h : COk σ C) (x : Int × D) : (σ ++ [x])[C.nx]? = some x := by
  rw [← h.n]; simp
mutual
def fresh : Sn → Cx → Cx × Y
  | .int k, C => (C.add [] [] [] 1, .int k C.nx 0)
  | .bool, C => (C, .bool [] [])
  | .str b, C => (C.add [] [(C.nx, b)] [] 1, .str C.nx b)
  | .st fs, C => ((freshs fs C).1, .st (freshs fs C).2)
  | .sl el sz b e, C => (C.add [] [(C.nx, b)] [] 1, .sl C.nx el sz b e)
  | .any, C => (C, .any)
def freshs : List Sn → Cx → Cx × List Y
  | [], C => (C, [])
  | s :: r, C => ((freshs r (fresh s C).1).1, (fresh s C).2 :: (freshs r (fresh s C).1).2)
end
theorem app_nil {σ : Wd} {C : Cx} (h : COk σ C) : COk (σ ++ []) C := by rw [List.append_nil]; exact h
mutual
theorem fresh_ok : ∀ {s : Sn} {d : D} {σ : Wd} {C : Cx}, HasN s d → COk σ C → ∃ τ, COk (σ ++ τ) (fresh s C).1 ∧ relY (σ ++ τ) (fresh s C).2 d
  | .int k, d, σ, C, h, hC => by
    simp only [HasN] at h
    obtain ⟨n, rfl⟩ := h
    refine ⟨[(n, .nil)], hC.ext (by simp) (by simp) (by simp) rfl, ?_⟩
    simp only [fresh, relY]
    exact ⟨_, get_new hC _, by simp⟩
  | .bool, d, σ, C, h, hC => by
    simp only [HasN] at h
    obtain ⟨b, rfl⟩ := h
    refine ⟨[], app_nil hC, ?_⟩
    simp only [fresh, relY]
    exact ⟨b, rfl, fun _ q hq => (by cases hq), fun _ q hq => (by cases hq)⟩
  | .str b, d, σ, C, h, hC => by
    simp only [HasN] at h
    obtain ⟨s, rfl, hs⟩ := h
    refine ⟨[((s.size : Int), .nil)], hC.ext (by simp) (fun q hq => ?_) (by simp) rfl, ?_⟩
    · rw [List.mem_singleton] at hq; subst hq
      exact ⟨_, get_new hC _, by simp, by simp; omega⟩
    · simp only [fresh, relY]
      exact ⟨s, _, rfl, get_new hC _, rfl, hs⟩
  | .st fs, d, σ, C, h, hC => by
    simp only [HasN] at h
    obtain ⟨cs, rfl, hs⟩ := h
    obtain ⟨τ, h1, h2⟩ := freshs_ok hs hC
    refine ⟨τ, h1, ?_⟩
    simp only [fresh, relY]
    exact ⟨cs, rfl, h2⟩
  | .sl el sz b e, d, σ, C, h, hC => by
    have hl : d.es.length ≤ b := by
      simp only [HasN] at h
      rcases h with rfl | ⟨es, rfl, h, _⟩
      · exact Nat.zero_le _
      · exact h
    refine ⟨[((d.es.length : Int), d)], hC.ext (by simp) (fun q hq => ?_) (by simp) rfl, ?_⟩
    · rw [List.mem_singleton] at hq; subst hq
      exact ⟨_, get_new hC _, by simp, by simp; omega⟩
    · simp only [fresh, relY]
      exact ⟨get_new hC _, h⟩
  | .any, d, σ, C, h, hC => by
    refine ⟨[], app_nil hC, ?_⟩
    simp only [fresh, relY]
theorem freshs_ok : ∀ {ss : List Sn} {ds : List D} {σ : Wd} {C : Cx}, HasNs ss ds → COk σ C → ∃ τ, COk (σ ++ τ) (freshs ss C).1 ∧ relYs (σ ++ τ) (freshs ss C).2 ds
  | [], ds, σ, C, h, hC => by
    simp only [HasNs] at h
    refine ⟨[], app_nil hC, ?_⟩
    simp only [freshs, relYs]; exact h
  | s :: r, ds, σ, C, h, hC => by
    simp only [HasNs] at h
    obtain ⟨d, ds', rfl, h1, h2⟩ := h
    obtain ⟨τ, a1, a2⟩ := fresh_ok h1 hC
    obtain ⟨τ', b1, b2⟩ := freshs_ok h2 a1
    refine ⟨τ ++ τ', by rw [← List.append_assoc]; exact b1, ?_⟩
    simp only [freshs, relYs]
    exact ⟨d, ds', rfl, by rw [← List.append_assoc]; exact relY_app a2, by rw [← List.append_assoc]; exact b2⟩
end
mutual
def fitY (C : Cx) : Y → Sn → Bool
  | _, .any => true
  | .int k _ _, .int k' => decide (k = k')
  | .bool _ _, .bool => true
  | .str n b, .str m => Nat.ble b m || ent C.F C.L n 0 0 m
  | .st cs, .st fs => fitYs C cs fs
  | .sl n el sz b e, .sl el' sz' m e' => Nat.beq el el' && Nat.beq sz sz' && e.fits e' && (Nat.ble b m || ent C.F C.L n 0 0 m)
  | .nil, .sl _ _ _ _ => true
  | _, _ => false
def fitYs (C : Cx) : List Y → List Sn → Bool
  | [], [] => true
  | y :: ys, s :: ss => fitY C y s && fitYs C ys ss
  | _, _ => false
end
theorem ent_zero {σ : Wd} {C : Cx} (hC : COk σ C) {n m : Nat} {x : Int × D} (hx : σ[n]? = some x) (h : ent C.F C.L n 0 0 (m : Int) = true) : x.1 ≤ (m : Int) := by
  obtain ⟨z, hz⟩ := hC.s.z
  have := ent_ok hC.s h hx hz
  simpa using this
mutual
theorem fitY_ok {σ : Wd} {C : Cx} (hC : COk σ C) : ∀ {y : Y} {s : Sn} {d : D}, fitY C y s = true → relY σ y d → HasN s d
  | .int k v c, s, d, h, hd => by
    cases s <;> first | (simp only [HasN]; done) | simp only [fitY] at h <;> first | (cases h; done) | skip
    rw [decide_eq_true_eq] at h; subst h
    simp only [relY] at hd
    obtain ⟨x, _, rfl⟩ := hd
    simp only [HasN]; exact ⟨_, rfl⟩
  | .bool t f, s, d, h, hd => by
    cases s <;> first | (simp only [HasN]; done) | simp only [fitY] at h <;> first | (cases h; done) | skip
    simp only [relY] at hd
    obtain ⟨b, rfl, _⟩ := hd
    simp only [HasN]; exact ⟨_, rfl⟩
  | .str n b, s, d, h, hd => by
    cases s <;> first | (simp only [HasN]; done) | simp only [fitY] at h <;> first | (cases h; done) | skip
    simp only [relY] at hd
    obtain ⟨t, x, rfl, h1, h2, h3⟩ := hd
    simp only [HasN]
    refine ⟨_, rfl, ?_⟩
    rcases Bool.or_eq_true_iff.1 h with h | h
    · exact Nat.le_trans h3 (Nat.le_of_ble_eq_true h)
    · have := ent_zero hC h1 h
      omega
  | .st cs, s, d, h, hd => by
    cases s <;> first | (simp only [HasN]; done) | simp only [fitY] at h <;> first | (cases h; done) | skip
    simp only [relY] at hd
    obtain ⟨ds, rfl, h1⟩ := hd
    simp only [HasN]; exact ⟨_, rfl, fitYs_ok hC h h1⟩
  | .sl n el sz b e, s, d, h, hd => by
    cases s <;> first | (simp only [HasN]; done) | simp only [fitY] at h <;> first | (cases h; done) | skip
    simp only [Bool.and_eq_true] at h
    obtain ⟨⟨⟨h1, h2⟩, h3⟩, h4⟩ := h
    have h1 := Nat.eq_of_beq_eq_true h1
    have h2 := Nat.eq_of_beq_eq_true h2
    subst h1 h2
    simp only [relY] at hd
    obtain ⟨hn, hd⟩ := hd
    simp only [HasN] at hd ⊢
    rcases hd with rfl | ⟨es, rfl, hl, ha⟩
    · exact .inl rfl
    · refine .inr ⟨es, rfl, ?_, fun x hx => fits_ok h3 (ha x hx)⟩
      rcases Bool.or_eq_true_iff.1 h4 with h | h
      · exact Nat.le_trans hl (Nat.le_of_ble_eq_true h)
      · have := ent_zero hC hn h
        have e : (D.sl el sz es).es.length = es.length := rfl
        simp only [e] at this
        omega
  | .nil, s, d, h, hd => by
    cases s <;> first | (simp only [HasN]; done) | simp only [fitY] at h <;> first | (cases h; done) | skip
    simp only [relY] at hd
    subst hd
    simp only [HasN]; exact .inl trivial
  | .clo _, s, d, h, hd => by cases s <;> first | (simp only [HasN]; done) | (simp only [fitY] at h; cases h; done)
  | .tup _, s, d, h, hd => by cases s <;> first | (simp only [HasN]; done) | (simp only [fitY] at h; cases h; done)
  | .any, s, d, h, hd => by cases s <;> first | (simp only [HasN]; done) | (simp only [fitY] at h; cases h; done)
theorem fitYs_ok {σ : Wd} {C : Cx} (hC : COk σ C) : ∀ {ys : List Y} {ss : List Sn} {ds : List D}, fitYs C ys ss = true → relYs σ ys ds → HasNs ss ds
  | [], ss, ds, h, hd => by
    cases ss <;> simp only [fitYs] at h <;> first | (cases h; done) | skip
    simp only [relYs] at hd
    simp only [HasNs]; exact hd
  | y :: ys, ss, ds, h, hd => by
    cases ss <;> simp only [fitYs] at h <;> first | (cases h; done) | skip
    simp only [Bool.and_eq_true] at h
    simp only [relYs] at hd
    obtain ⟨d, r, rfl, h1, h2⟩ := hd
    simp only [HasNs]
    exact ⟨d, r, rfl, fitY_ok hC h.1 h1, fitYs_ok hC h.2 h2⟩
end
end Go.Am.Tt
namespace Go.Am.Tt
open Go Go.Am
def OpS (E : Env) (σ : Wd) (o : TOp) (ds : List D) (r : Cx × Y) : Prop := ∃ d τ, TOp.eval E o ds = some d ∧ COk (σ ++ τ) r.1 ∧ relY (σ ++ τ) r.2 d
section
variable {E : Env} {σ : Wd} {C : Cx} {o : TOp} {ds : List D} {d : D}
theorem OpS.same (hC : COk σ C) {y : Y} (he : TOp.eval E o ds = some d) (hr : relY σ y d) : OpS E σ o ds (C, y) :=
  ⟨d, [], he, app_nil hC, by rw [List.append_nil]; exact hr⟩
theorem OpS.fresh (hC : COk σ C) {s : Sn} (he : TOp.eval E o ds = some d) (hn : HasN s d) : OpS E σ o ds (fresh s C) := by
  obtain ⟨τ, h1, h2⟩ := fresh_ok hn hC
  exact ⟨d, τ, he, h1, h2⟩
theorem OpS.list (hC : COk σ C) {el sz b : Nat} {e : Sn} {F : List Fact} (he : TOp.eval E o ds = some d) (hn : HasN (.sl el sz b e) d)
    (hF : ∀ q ∈ F, fOk (σ ++ [((d.es.length : Int), d)]) q) : OpS E σ o ds (C.add F [(C.nx, b)] [] 1, .sl C.nx el sz b e) := by
  have hl : d.es.length ≤ b := by
    simp only [HasN] at hn
    rcases hn with rfl | ⟨es, rfl, h, _⟩
    · exact Nat.zero_le _
    · exact h
  refine ⟨d, [((d.es.length : Int), d)], he, hC.ext hF (fun q hq => ?_) (by simp) rfl, ?_⟩
  · rw [List.mem_singleton] at hq; subst hq
    exact ⟨_, get_new hC _, by simp, by simp; omega⟩
  · simp only [relY]
    exact ⟨get_new hC _, hn⟩
theorem OpS.num (hC : COk σ C) {k : IntKind} {n : Int} {F : List Fact} (he : TOp.eval E o ds = some (.leaf (.int k n)))
    (hF : ∀ q ∈ F, fOk (σ ++ [(n, D.nil)]) q) : OpS E σ o ds (C.add F [] [] 1, .int k C.nx 0) := by
  refine ⟨_, [(n, .nil)], he, hC.ext hF (by simp) (by simp) rfl, ?_⟩
  simp only [relY]
  exact ⟨_, get_new hC _, by simp⟩
end
def neF (C : Cx) (v : Nat) (c : Int) (w : Nat) (e : Int) : List Fact :=
  (bif entN 1 C.F C.L w e v c then [(w, v, c - e - 1)] else []) ++ (bif entN 1 C.F C.L v c w e then [(v, w, e - c - 1)] else [])
def cmpF (op : BinOp) (C : Cx) (v : Nat) (c : Int) (w : Nat) (e : Int) : Option (List Fact × List Fact) := match op with
  | .lss => some ([(v, w, e - c - 1)], [(w, v, c - e)])
  | .leq => some ([(v, w, e - c)], [(w, v, c - e - 1)])
  | .gtr => some ([(w, v, c - e - 1)], [(v, w, e - c)])
  | .geq => some ([(w, v, c - e)], [(v, w, e - c - 1)])
  | .eql => some ([(v, w, e - c), (w, v, c - e)], neF C v c w e)
  | .neq => some (neF C v c w e, [(v, w, e - c), (w, v, c - e)])
  | _ => none
theorem ne_ok {σ : Wd} {C : Cx} (hC : COk σ C) {v w : Nat} {c e : Int} {x y : Int × D} (hv : σ[v]? = some x) (hw : σ[w]? = some y) (h : ¬ x.1 + c = y.1 + e) : ∀ q ∈ neF C v c w e, fOk σ q := by
  intro q hq
  unfold neF at hq
  rcases List.mem_append.1 hq with hq | hq
  · cases hb : entN 1 C.F C.L w e v c with
    | false => rw [hb] at hq; cases hq
    | true =>
      rw [hb, cond_true, List.mem_singleton] at hq
      subst hq
      have := entN_ok hC.s hb hw hv
      exact ⟨y, x, hw, hv, by simp only; omega⟩
  · cases hb : entN 1 C.F C.L v c w e with
    | false => rw [hb] at hq; cases hq
    | true =>
      rw [hb, cond_true, List.mem_singleton] at hq
      subst hq
      have := entN_ok hC.s hb hv hw
      exact ⟨x, y, hv, hw, by simp only; omega⟩
theorem f1 {σ : Wd} {v w : Nat} {c : Int} {x y : Int × D} (hv : σ[v]? = some x) (hw : σ[w]? = some y) (h : x.1 ≤ y.1 + c) : ∀ q ∈ [(v, w, c)], fOk σ q := by
  intro q hq; rw [List.mem_singleton] at hq; subst hq; exact ⟨x, y, hv, hw, h⟩
theorem f2 {σ : Wd} {p q : Fact} (hp : fOk σ p) (hq : fOk σ q) : ∀ r ∈ [p, q], fOk σ r := by
  intro r hr
  rcases List.mem_cons.1 hr with rfl | hr
  · exact hp
  · rw [List.mem_singleton] at hr; subst hr; exact hq
theorem cmp_ok {E : Env} {σ : Wd} {C : Cx} (hC : COk σ C) {op : BinOp} {ty : TypeId} {a b : Operand} {k : IntKind} {v w : Nat} {c e : Int} {t f : List Fact} {x y : Int × D}
    (h : cmpF op C v c w e = some (t, f)) (hv : σ[v]? = some x) (hw : σ[w]? = some y) :
    OpS E σ (.bin op ty a b) [.leaf (.int k (x.1 + c)), .leaf (.int k (y.1 + e))] (C, .bool t f) := by
  have fin : ∀ r : Bool, TOp.eval E (.bin op ty a b) [.leaf (.int k (x.1 + c)), .leaf (.int k (y.1 + e))] = some (dB r) → (r = true → ∀ q ∈ t, fOk σ q) → (r = false → ∀ q ∈ f, fOk σ q) → OpS E σ (.bin op ty a b) [.leaf (.int k (x.1 + c)), .leaf (.int k (y.1 + e))] (C, .bool t f) := by
    intro r he ht hf
    refine .same hC he ?_
    simp only [relY]
    exact ⟨r, rfl, ht, hf⟩
  cases op <;> simp only [cmpF] at h <;> first | (cases h; done) | (cases h)
  · exact fin _ sk_eql (fun hb => f2 ⟨x, y, hv, hw, by have := of_decide_eq_true hb; simp only; omega⟩ ⟨y, x, hw, hv, by have := of_decide_eq_true hb; simp only; omega⟩) (fun hb => ne_ok hC hv hw (of_decide_eq_false hb))
  · exact fin _ sk_neq (fun hb => ne_ok hC hv hw (of_decide_eq_true hb)) (fun hb => f2 ⟨x, y, hv, hw, by have := of_decide_eq_false hb; simp only; omega⟩ ⟨y, x, hw, hv, by have := of_decide_eq_false hb; simp only; omega⟩)
  · exact fin _ sk_lss (fun hb => f1 hv hw (by have := of_decide_eq_true hb; omega)) (fun hb => f1 hw hv (by have := of_decide_eq_false hb; omega))
  · exact fin _ sk_leq (fun hb => f1 hv hw (by have := of_decide_eq_true hb; omega)) (fun hb => f1 hw hv (by have := of_decide_eq_false hb; omega))
  · exact fin _ sk_gtr (fun hb => f1 hw hv (by have := of_decide_eq_true hb; omega)) (fun hb => f1 hv hw (by have := of_decide_eq_false hb; omega))
  · exact fin _ sk_geq (fun hb => f1 hw hv (by have := of_decide_eq_true hb; omega)) (fun hb => f1 hv hw (by have := of_decide_eq_false hb; omega))
end Go.Am.Tt
namespace Go.Am.Tt
open Go Go.Am
section
variable {E : Env} {σ : Wd} {C : Cx}
def Sn.small (n : Nat) : Bool := Nat.ble n 300000000
theorem isSl_N {el sz b : Nat} {e : Sn} {d : D} (h : HasN (.sl el sz b e) d) (hb : Nat.ble b 300000000 = true) : IsSl el sz d := by
  simp only [HasN] at h
  rcases h with rfl | ⟨es, rfl, h, _⟩
  · exact .inl rfl
  · exact .inr ⟨es, rfl, cap_bd (Nat.le_trans h (Nat.le_of_ble_eq_true hb))⟩
theorem elem_N {el sz b : Nat} {e : Sn} {d x : D} {i : Nat} (h : HasN (.sl el sz b e) d) (hx : d.es[i]? = some x) : HasN e x := by
  simp only [HasN] at h
  rcases h with rfl | ⟨es, rfl, _, h⟩
  · simp [D.es] at hx
  · exact h x (List.mem_of_getElem? hx)
theorem len_sl (hC : COk σ C) {n el sz b : Nat} {e : Sn} {d : D} (h : relY σ (.sl n el sz b e) d) : OpS E σ (.len false) [d] (C, .int .i64 n 0) := by
  simp only [relY] at h
  refine .same hC (d := dI (d.es.length : Int)) ?_ ?_
  · have h2 := h.2
    simp only [HasN] at h2
    rcases h2 with rfl | ⟨es, rfl, _, _⟩ <;> rfl
  · simp only [relY]; exact ⟨_, h.1, by simp⟩
theorem len_nil (hC : COk σ C) : OpS E σ (.len false) [.nil] (C, .int .i64 0 0) := by
  obtain ⟨z, hz⟩ := hC.s.z
  refine .same hC (d := dI ((0 : Nat) : Int)) rfl ?_
  simp only [relY]; exact ⟨_, hz, by simp⟩
theorem len_str (hC : COk σ C) {n b : Nat} {d : D} (h : relY σ (.str n b) d) : OpS E σ (.len true) [d] (C, .int .i64 n 0) := by
  simp only [relY] at h
  obtain ⟨s, x, rfl, h1, h2, _⟩ := h
  refine .same hC (d := dI (s.size : Int)) rfl ?_
  simp only [relY]; exact ⟨_, h1, by rw [h2]; simp⟩
def findE : List El → Nat → Nat → Int → Option Y
  | [], _, _, _ => none
  | e :: r, n, v, c => bif Nat.beq e.n n && Nat.beq e.v v && decide (e.c = c) then some e.y else findE r n v c
theorem findE_ok {l : List El} (hl : ∀ e ∈ l, elOk σ e) {n v : Nat} {c : Int} {y : Y} (h : findE l n v c = some y) : elOk σ ⟨n, v, c, y⟩ := by
  induction l with
  | nil => cases h
  | cons e r ih =>
    simp only [findE] at h
    cases hb : (Nat.beq e.n n && Nat.beq e.v v && decide (e.c = c)) with
    | true =>
      rw [hb, cond_true] at h
      simp only [Bool.and_eq_true, decide_eq_true_eq] at hb
      have h1 := Nat.eq_of_beq_eq_true hb.1.1
      have h2 := Nat.eq_of_beq_eq_true hb.1.2
      cases h
      have := hl e List.mem_cons_self
      obtain ⟨en, ev, ec, ey⟩ := e
      simp only at h1 h2 hb
      rw [← h1, ← h2, ← hb.2]
      exact this
    | false => rw [hb, cond_false] at h; exact ih (fun e he => hl e (List.mem_cons_of_mem _ he)) h
def inrY (C : Cx) (n : Nat) (e : Sn) (v : Nat) (c : Int) : Option (Cx × Y) :=
  match findE C.els n v c with
  | some _ => some (C, .bool [] [])
  | none => bif ent C.F C.L 0 0 v c && ent C.F C.L v (c + 1) n 0 then
      some ((fresh e C).1.add [] [] [⟨n, v, c, (fresh e C).2⟩] 0, .bool [] []) else none
theorem inr_ok (hC : COk σ C) {n el sz b v : Nat} {e : Sn} {c : Int} {d i : D} {r : Cx × Y} (hd : relY σ (.sl n el sz b e) d) (hi : relY σ (.int .i64 v c) i) (h : inrY C n e v c = some r) : OpS E σ .inr [d, i] r := by
  simp only [relY] at hd hi
  obtain ⟨x, hx, rfl⟩ := hi
  unfold inrY at h
  split at h
  · rename_i y hy
    cases h
    obtain ⟨x', d', i', z, h1, h2, h3, h4, _⟩ := findE_ok hC.e hy
    simp only at h1 h2 h3 h4
    rw [hd.1] at h1; rw [hx] at h2
    cases h1; cases h2
    refine .same hC (si_inr h3 h4) ?_
    simp only [relY]
    exact ⟨true, rfl, fun _ q hq => (by cases hq), fun hb => (by cases hb)⟩
  · obtain ⟨hb, h⟩ := bif_none h
    cases h
    rw [Bool.and_eq_true] at hb
    obtain ⟨z, hz⟩ := hC.s.z
    have l1 := ent_ok hC.s hb.1 hz hx
    have l2 := ent_ok hC.s hb.2 hx hd.1
    simp only at l1 l2
    obtain ⟨q, hq⟩ := get_at (d := d) (s := x.1 + c) (by omega) (by omega)
    obtain ⟨τ, a1, a2⟩ := fresh_ok (elem_N hd.2 hq) hC
    refine ⟨dB true, τ, si_inr (by omega) hq, ?_, ?_⟩
    · have := a1.ext (τ := []) (F := []) (L := []) (els := [⟨n, v, c, (fresh e C).2⟩]) (k := 0) (by simp) (by simp) ?_ rfl
      · simpa using this
      · intro p hp
        rw [List.mem_singleton] at hp; subst hp
        rw [List.append_nil]
        exact ⟨_, d, x, q, get_app hd.1, get_app hx, by simp only; omega, hq, a2⟩
    · simp only [relY]
      exact ⟨true, rfl, fun _ q hq => (by cases hq), fun hb => (by cases hb)⟩
end
end Go.Am.Tt
namespace Go.Am.Tt
open Go Go.Am
theorem relYs_len {σ : Wd} : ∀ {ys : List Y} {ds : List D}, relYs σ ys ds → ys.length = ds.length
  | [], ds, h => by simp only [relYs] at h; subst h; rfl
  | y :: ys, ds, h => by
    simp only [relYs] at h
    obtain ⟨d, r, rfl, _, h2⟩ := h
    simp [relYs_len h2]
theorem relYs_get {σ : Wd} : ∀ {ys : List Y} {ds : List D} {i : Nat} {y : Y}, relYs σ ys ds → ys[i]? = some y → ∃ d, ds[i]? = some d ∧ relY σ y d
  | [], ds, i, y, h, hy => by simp at hy
  | z :: ys, ds, i, y, h, hy => by
    simp only [relYs] at h
    obtain ⟨d, r, rfl, h1, h2⟩ := h
    cases i with
    | zero => simp only [List.getElem?_cons_zero, Option.some.injEq] at hy; subst hy; exact ⟨d, by simp, h1⟩
    | succ i => simp only [List.getElem?_cons_succ] at hy ⊢; exact relYs_get h2 hy
theorem relYs_drop {σ : Wd} : ∀ {n : Nat} {ys : List Y} {ds : List D}, relYs σ ys ds → relYs σ (ys.drop n) (ds.drop n)
  | 0, ys, ds, h => by simpa using h
  | n + 1, [], ds, h => by simp only [relYs] at h; subst h; simp [relYs]
  | n + 1, y :: ys, ds, h => by
    simp only [relYs] at h
    obtain ⟨d, r, rfl, _, h2⟩ := h
    simpa using relYs_drop (n := n) h2
theorem relYs_take {σ : Wd} : ∀ {n : Nat} {ys : List Y} {ds : List D}, relYs σ ys ds → relYs σ (ys.take n) (ds.take n)
  | 0, ys, ds, h => by simp [relYs]
  | n + 1, [], ds, h => by simp only [relYs] at h; subst h; simp [relYs]
  | n + 1, y :: ys, ds, h => by
    simp only [relYs] at h
    obtain ⟨d, r, rfl, h1, h2⟩ := h
    simp only [List.take_succ_cons, relYs]
    exact ⟨d, _, rfl, h1, relYs_take (n := n) h2⟩
def oneY : Y → Bool
  | .int _ _ _ => true
  | .bool _ _ => true
  | .str _ _ => true
  | .sl _ _ _ _ _ => true
  | .nil => true
  | _ => false
theorem oneY_ok {σ : Wd} {y : Y} {d : D} (h : oneY y = true) (hd : relY σ y d) : d.one = true := by
  cases y <;> simp only [oneY] at h <;> first | (cases h; done) | simp only [relY] at hd
  · obtain ⟨_, _, rfl⟩ := hd; rfl
  · obtain ⟨_, rfl, _⟩ := hd; rfl
  · obtain ⟨_, _, rfl, _⟩ := hd; rfl
  · have := hd.2
    simp only [HasN] at this
    rcases this with rfl | ⟨es, rfl, _⟩ <;> rfl
  · subst hd; rfl
section
variable {E : Env} {σ : Wd} {C : Cx}
def partY (ag : Bool) (size off : Nat) (cs : List Y) : Option Y := match ag with
  | true => bif Nat.ble (off + size) cs.length then some (.st ((cs.drop off).take size)) else none
  | false => match cs[off]? with
    | some y => bif oneY y && Nat.beq size 1 then some y else none
    | none => none
theorem fld_ok (hC : COk σ C) {ag : Bool} {size off : Nat} {cs : List Y} {d : D} {y : Y} (hd : relY σ (.st cs) d) (h : partY ag size off cs = some y) : OpS E σ (.fld ag size off) [d] (C, y) := by
  simp only [relY] at hd
  obtain ⟨es, rfl, hs⟩ := hd
  unfold partY at h
  split at h
  · obtain ⟨hb, h⟩ := bif_none h
    cases h
    refine .same hC (sh_fldA (by rw [← relYs_len hs]; exact hb)) ?_
    simp only [relY]
    exact ⟨_, rfl, relYs_take (relYs_drop hs)⟩
  · split at h
    · rename_i y' hy
      obtain ⟨hb, h⟩ := bif_none h
      cases h
      rw [Bool.and_eq_true] at hb
      have hsz := Nat.eq_of_beq_eq_true hb.2
      subst hsz
      obtain ⟨e, he, hr⟩ := relYs_get hs hy
      exact .same hC (sh_fld1 he (oneY_ok hb.1 hr)) hr
    · cases h
def pick1 (cs : List Y) (off : Nat) : Option Y := match cs[off]? with
  | some y => bif oneY y then some y else none
  | none => none
theorem pick1_ok {cs : List Y} {off : Nat} {y : Y} (h : pick1 cs off = some y) : cs[off]? = some y ∧ oneY y = true := by
  unfold pick1 at h
  split at h
  · rename_i y' hy
    obtain ⟨ho, h⟩ := bif_none h
    cases h
    exact ⟨hy, ho⟩
  · cases h
def elemY (C : Cx) (n v : Nat) (c : Int) (sz : Nat) (ag : Bool) (size off : Nat) : Option Y := match findE C.els n v c with
  | some (.st cs) => bif Nat.beq cs.length sz then (match ag with
    | true => bif Nat.beq off 0 && Nat.beq size sz then some (.st cs) else bif Nat.ble (off + size) sz then some (.st ((cs.drop off).take size)) else none
    | false => bif Nat.beq size 1 && Nat.blt off sz then pick1 cs off else none) else none
  | some y => bif !ag && oneY y && Nat.beq sz 1 && Nat.beq size 1 && Nat.beq off 0 then some y else none
  | none => none
theorem elem_ok (hC : COk σ C) {n el sz sz' b v size off : Nat} {ag : Bool} {e : Sn} {c : Int} {d i : D} {y : Y} (hd : relY σ (.sl n el sz b e) d) (hi : relY σ (.int .i64 v c) i)
    (hb : Nat.ble b 300000000 = true) (hz : Nat.beq sz sz' = true) (h : elemY C n v c sz' ag size off = some y) : OpS E σ (.elem sz' ag size off) [d, i] (C, y) := by
  have hz := Nat.eq_of_beq_eq_true hz
  subst hz
  simp only [relY] at hd hi
  obtain ⟨x, hx, rfl⟩ := hi
  have hsl := isSl_N hd.2 hb
  unfold elemY at h
  split at h
  · rename_i cs hf
    obtain ⟨x', d', i', z, h1, h2, h3, h4, h5⟩ := findE_ok hC.e hf
    simp only at h1 h2 h3 h4 h5
    rw [hd.1] at h1; rw [hx] at h2
    cases h1; cases h2
    simp only [relY] at h5
    obtain ⟨es, rfl, hs⟩ := h5
    obtain ⟨hl, h⟩ := bif_none h
    have hl := Nat.eq_of_beq_eq_true hl
    have hle := relYs_len hs
    split at h
    · cases hw : (Nat.beq off 0 && Nat.beq size sz) with
      | true =>
        rw [hw, cond_true] at h
        cases h
        rw [Bool.and_eq_true] at hw
        have a1 := Nat.eq_of_beq_eq_true hw.1
        have a2 := Nat.eq_of_beq_eq_true hw.2
        subst a1 a2
        refine .same hC (si_elemW hsl h3 h4 (by omega)) ?_
        simp only [relY]; exact ⟨_, rfl, hs⟩
      | false =>
        rw [hw, cond_false] at h
        obtain ⟨hb', h⟩ := bif_none h
        cases h
        refine .same hC (si_elemA (size := size) (off := off) hsl h3 h4 (by omega) (Nat.le_of_ble_eq_true hb') ?_) ?_
        · rintro ⟨rfl, rfl⟩
          rw [Nat.beq_refl, Nat.beq_refl] at hw
          cases hw
        · simp only [relY]; exact ⟨_, rfl, relYs_take (relYs_drop hs)⟩
    · obtain ⟨hb', h'⟩ := bif_none h
      rw [Bool.and_eq_true] at hb'
      have a1 := Nat.eq_of_beq_eq_true hb'.1
      subst a1
      obtain ⟨hy, ho⟩ := pick1_ok h'
      obtain ⟨q, hq, hr⟩ := relYs_get hs hy
      exact .same hC (si_elemP (off := off) hsl h3 h4 hq (oneY_ok ho hr) (Nat.lt_of_succ_le (Nat.le_of_ble_eq_true hb'.2))) hr
  · rename_i y' hns hf
    obtain ⟨hb', h⟩ := bif_none h
    cases h
    simp only [Bool.and_eq_true] at hb'
    obtain ⟨⟨⟨⟨a0, a1⟩, a2⟩, a3⟩, a4⟩ := hb'
    have a2 := Nat.eq_of_beq_eq_true a2
    have a3 := Nat.eq_of_beq_eq_true a3
    have a4 := Nat.eq_of_beq_eq_true a4
    subst a2 a3 a4
    have a0 : ag = false := by simpa using a0
    subst a0
    obtain ⟨x', d', i', z, h1, h2, h3, h4, h5⟩ := findE_ok hC.e hf
    simp only at h1 h2 h3 h4 h5
    rw [hd.1] at h1; rw [hx] at h2
    cases h1; cases h2
    exact .same hC (si_elem1 hsl h3 h4 (oneY_ok a1 h5)) h5
  · cases h
theorem not_ok (hC : COk σ C) {ty : TypeId} {t f : List Fact} {d : D} (hd : relY σ (.bool t f) d) : OpS E σ (.un .not ty) [d] (C, .bool f t) := by
  simp only [relY] at hd
  obtain ⟨b, rfl, h1, h2⟩ := hd
  refine .same hC sh_not ?_
  simp only [relY]
  exact ⟨!b, rfl, fun h => h2 (by simpa using h), fun h => h1 (by simpa using h)⟩
theorem chkW_ok (hC : COk σ C) {n : Nat} {cs : List Y} {d : D} (hd : relY σ (.st cs) d) (h : Nat.beq cs.length n = true) : OpS E σ (.chk true n) [d] (C, .st cs) := by
  have hd' := hd
  simp only [relY] at hd'
  obtain ⟨es, rfl, hs⟩ := hd'
  exact .same hC (sh_chkW (by rw [← relYs_len hs]; exact Nat.eq_of_beq_eq_true h)) hd
theorem chk1_ok (hC : COk σ C) {y : Y} {d : D} (hd : relY σ y d) (h : oneY y = true) : OpS E σ (.chk false 1) [d] (C, y) :=
  .same hC (sh_chk1 (oneY_ok h hd)) hd
theorem ext_ok (hC : COk σ C) {i : Nat} {cs : List Y} {y : Y} {d : D} (hd : relY σ (.tup cs) d) (h : cs[i]? = some y) : OpS E σ (.ext i) [d] (C, y) := by
  simp only [relY] at hd
  obtain ⟨es, rfl, hs⟩ := hd
  obtain ⟨q, hq, hr⟩ := relYs_get hs h
  exact .same hC (te_ext hq) hr
def addY (C : Cx) (v : Nat) (c : Int) : Bool := ent C.F C.L v c 0 4000000000000000000 && ent C.F C.L 0 (-4000000000000000000) v c
theorem addY_ok (hC : COk σ C) {v : Nat} {c : Int} {x : Int × D} (hv : σ[v]? = some x) (h : addY C v c = true) : -4000000000000000000 ≤ x.1 + c ∧ x.1 + c ≤ 4000000000000000000 := by
  unfold addY at h
  rw [Bool.and_eq_true] at h
  obtain ⟨z, hz⟩ := hC.s.z
  have h1 := ent_ok hC.s h.1 hv hz
  have h2 := ent_ok hC.s h.2 hz hv
  simp only at h1 h2
  omega
def upX (C : Cx) (w : Nat) (e : Int) : Option Int :=
  let acc := closeA C.F 4 [(w, 0)]
  C.L.foldl (fun m p => match lookA acc p.1 with
    | some d => (match m with
      | some u => some (bif decide (d + p.2 + e ≤ u) then d + p.2 + e else u)
      | none => some (d + p.2 + e))
    | none => m) (match lookA acc 0 with | some d => some (d + e) | none => none)
def loF (C : Cx) (v : Nat) (c : Int) (w : Nat) (e : Int) : List Fact :=
  bif ent C.F C.L 0 1 w e then [(v, C.nx, -c - 1)] else bif ent C.F C.L 0 0 w e then [(v, C.nx, -c)] else []
def hiF (C : Cx) (v : Nat) (c : Int) (w : Nat) (e : Int) : List Fact := match upX C w e with
  | some u => bif ent C.F C.L w e 0 u then [(C.nx, v, c + u)] else []
  | none => []
def addF (C : Cx) (v : Nat) (c : Int) (w : Nat) (e : Int) : List Fact := loF C v c w e ++ hiF C v c w e ++ loF C w e v c ++ hiF C w e v c
def addR (C : Cx) (v : Nat) (c : Int) (w : Nat) (e : Int) : Cx × Y :=
  bif Nat.beq w 0 && addY C v (c + e) then (C, .int .i64 v (c + e)) else
  bif Nat.beq v 0 && addY C w (e + c) then (C, .int .i64 w (e + c)) else
  bif addY C v c && addY C w e then (C.add (addF C v c w e) [] [] 1, .int .i64 C.nx 0) else (C.add [] [] [] 1, .int .i64 C.nx 0)
theorem loF_ok (hC : COk σ C) {v w : Nat} {c e : Int} {x y : Int × D} (hx : σ[v]? = some x) (hy : σ[w]? = some y) {n : Int} (hn : n = x.1 + c + (y.1 + e)) : ∀ q ∈ loF C v c w e, fOk (σ ++ [(n, D.nil)]) q := by
  obtain ⟨z, hz⟩ := hC.s.z
  intro q hq
  unfold loF at hq
  cases h1 : ent C.F C.L 0 1 w e with
  | true =>
    rw [h1, cond_true, List.mem_singleton] at hq
    subst hq
    have := ent_ok hC.s h1 hz hy
    exact ⟨_, _, get_app hx, get_new hC _, by simp only at this ⊢; omega⟩
  | false =>
    rw [h1, cond_false] at hq
    cases h0 : ent C.F C.L 0 0 w e with
    | true =>
      rw [h0, cond_true, List.mem_singleton] at hq
      subst hq
      have := ent_ok hC.s h0 hz hy
      exact ⟨_, _, get_app hx, get_new hC _, by simp only at this ⊢; omega⟩
    | false => rw [h0] at hq; cases hq
theorem hiF_ok (hC : COk σ C) {v w : Nat} {c e : Int} {x y : Int × D} (hx : σ[v]? = some x) (hy : σ[w]? = some y) {n : Int} (hn : n = x.1 + c + (y.1 + e)) : ∀ q ∈ hiF C v c w e, fOk (σ ++ [(n, D.nil)]) q := by
  obtain ⟨z, hz⟩ := hC.s.z
  intro q hq
  unfold hiF at hq
  split at hq
  · rename_i u _
    cases h1 : ent C.F C.L w e 0 u with
    | true =>
      rw [h1, cond_true, List.mem_singleton] at hq
      subst hq
      have := ent_ok hC.s h1 hy hz
      exact ⟨_, _, get_new hC _, get_app hx, by simp only at this ⊢; omega⟩
    | false => rw [h1] at hq; cases hq
  · cases hq
theorem add_ok (hC : COk σ C) {ty : TypeId} {a b : Operand} {v w : Nat} {c e : Int} {d d' : D} (hd : relY σ (.int .i64 v c) d) (hd' : relY σ (.int .i64 w e) d') :
    OpS E σ (.bin .add ty a b) [d, d'] (addR C v c w e) := by
  simp only [relY] at hd hd'
  obtain ⟨x, hx, rfl⟩ := hd
  obtain ⟨y, hy, rfl⟩ := hd'
  obtain ⟨z, hz⟩ := hC.s.z
  unfold addR
  cases hb : (Nat.beq w 0 && addY C v (c + e)) with
  | true =>
    rw [Bool.and_eq_true] at hb
    have hw := Nat.eq_of_beq_eq_true hb.1
    subst hw
    rw [hz] at hy; cases hy
    have := addY_ok hC hx hb.2
    refine .same hC (si_add (by omega)) ?_
    simp only [relY]
    exact ⟨x, hx, by show dI (x.1 + c + (0 + e)) = dI (x.1 + (c + e)); rw [show x.1 + c + (0 + e) = x.1 + (c + e) by omega]⟩
  | false =>
    rw [cond_false]
    cases hb : (Nat.beq v 0 && addY C w (e + c)) with
    | true =>
      rw [Bool.and_eq_true] at hb
      have hw := Nat.eq_of_beq_eq_true hb.1
      subst hw
      rw [hz] at hx; cases hx
      have := addY_ok hC hy hb.2
      refine .same hC (si_add (by omega)) ?_
      simp only [relY]
      exact ⟨y, hy, by show dI (0 + c + (y.1 + e)) = dI (y.1 + (e + c)); rw [show 0 + c + (y.1 + e) = y.1 + (e + c) by omega]⟩
    | false =>
      rw [cond_false]
      cases hb : (addY C v c && addY C w e) with
      | false => exact .num hC si_addW (by simp)
      | true =>
        rw [Bool.and_eq_true] at hb
        have h1 := addY_ok hC hx hb.1
        have h2 := addY_ok hC hy hb.2
        refine .num hC (si_add (by omega)) fun q hq => ?_
        unfold addF at hq
        rcases List.mem_append.1 hq with hq | hq
        · rcases List.mem_append.1 hq with hq | hq
          · rcases List.mem_append.1 hq with hq | hq
            · exact loF_ok hC hx hy rfl q hq
            · exact hiF_ok hC hx hy rfl q hq
          · exact loF_ok hC hy hx (by omega) q hq
        · exact hiF_ok hC hy hx (by omega) q hq
def subF (C : Cx) (v : Nat) (c : Int) (w : Nat) (e : Int) : List Fact :=
  (bif ent C.F C.L w e v c then [(0, C.nx, 0)] else []) ++ (bif ent C.F C.L 0 0 w e then [(C.nx, v, c)] else [])
def subR (C : Cx) (v : Nat) (c : Int) (w : Nat) (e : Int) : Cx × Y :=
  bif Nat.beq w 0 && addY C v (c - e) then (C, .int .i64 v (c - e)) else
  bif addY C v c && addY C w e then (C.add (subF C v c w e) [] [] 1, .int .i64 C.nx 0) else (C.add [] [] [] 1, .int .i64 C.nx 0)
theorem sub_ok (hC : COk σ C) {ty : TypeId} {a b : Operand} {v w : Nat} {c e : Int} {d d' : D} (hd : relY σ (.int .i64 v c) d) (hd' : relY σ (.int .i64 w e) d') :
    OpS E σ (.bin .sub ty a b) [d, d'] (subR C v c w e) := by
  simp only [relY] at hd hd'
  obtain ⟨x, hx, rfl⟩ := hd
  obtain ⟨y, hy, rfl⟩ := hd'
  obtain ⟨z, hz⟩ := hC.s.z
  unfold subR
  cases hb : (Nat.beq w 0 && addY C v (c - e)) with
  | true =>
    rw [Bool.and_eq_true] at hb
    have hw := Nat.eq_of_beq_eq_true hb.1
    subst hw
    rw [hz] at hy; cases hy
    have := addY_ok hC hx hb.2
    refine .same hC (si_sub (by omega)) ?_
    simp only [relY]
    exact ⟨x, hx, by show dI (x.1 + c - (0 + e)) = dI (x.1 + (c - e)); rw [show x.1 + c - (0 + e) = x.1 + (c - e) by omega]⟩
  | false =>
    rw [cond_false]
    cases hb : (addY C v c && addY C w e) with
    | false => exact .num hC si_subW (by simp)
    | true =>
      rw [Bool.and_eq_true] at hb
      have h1 := addY_ok hC hx hb.1
      have h2 := addY_ok hC hy hb.2
      refine .num hC (si_sub (by omega)) fun q hq => ?_
      unfold subF at hq
      rcases List.mem_append.1 hq with hq | hq
      · cases h : ent C.F C.L w e v c with
        | false => rw [h] at hq; cases hq
        | true =>
          rw [h, cond_true, List.mem_singleton] at hq
          subst hq
          have := ent_ok hC.s h hy hx
          exact ⟨_, _, get_app hz, get_new hC _, by simp only; omega⟩
      · cases h : ent C.F C.L 0 0 w e with
        | false => rw [h] at hq; cases hq
        | true =>
          rw [h, cond_true, List.mem_singleton] at hq
          subst hq
          have := ent_ok hC.s h hz hy
          exact ⟨_, _, get_new hC _, get_app hx, by simp only at this ⊢; omega⟩
theorem mul_ok (hC : COk σ C) {ty : TypeId} {a b : Operand} {v w : Nat} {c e : Int} {d d' : D} (hd : relY σ (.int .i64 v c) d) (hd' : relY σ (.int .i64 w e) d') :
    OpS E σ (.bin .mul ty a b) [d, d'] (C.add [] [] [] 1, .int .i64 C.nx 0) := by
  simp only [relY] at hd hd'
  obtain ⟨x, hx, rfl⟩ := hd
  obtain ⟨y, hy, rfl⟩ := hd'
  exact .num hC si_mulW (by simp)
theorem mm_ok (hC : COk σ C) {m : Bool} {v w : Nat} {c e : Int} {d d' : D} (hd : relY σ (.int .i64 v c) d) (hd' : relY σ (.int .i64 w e) d') :
    OpS E σ (.mm m) [d, d'] (C.add [] [] [] 1, .int .i64 C.nx 0) := by
  simp only [relY] at hd hd'
  obtain ⟨x, hx, rfl⟩ := hd
  obtain ⟨y, hy, rfl⟩ := hd'
  obtain ⟨n, hn⟩ := mm_ex (E := E) m (x.1 + c) (y.1 + e)
  exact .num hC hn (by simp)
end
end Go.Am.Tt
namespace Go.Am.Tt
open Go Go.Am
mutual
def Sn.sh : Sn → Sh
  | .int k => .int k
  | .bool => .bool
  | .str _ => .str
  | .st fs => .st (Sn.shs fs)
  | .sl el sz _ e => .sl el sz (Sn.sh e)
  | .any => .bool
def Sn.shs : List Sn → List Sh
  | [] => []
  | s :: r => Sn.sh s :: Sn.shs r
end
mutual
def Sn.low : Sn → Bool
  | .int _ => true
  | .bool => true
  | .str n => Nat.ble n 300000000
  | .st fs => Sn.lows fs
  | .sl _ _ n e => Nat.ble n 300000000 && Sn.low e
  | .any => false
def Sn.lows : List Sn → Bool
  | [] => true
  | s :: r => Sn.low s && Sn.lows r
end
mutual
theorem hasN_B : ∀ {s : Sn} {d : D}, Sn.low s = true → HasN s d → HasB 300000000 s.sh d
  | .int k, d, _, h => by simp only [HasN] at h; simp only [Sn.sh, HasB]; exact h
  | .bool, d, _, h => by simp only [HasN] at h; simp only [Sn.sh, HasB]; exact h
  | .str n, d, hl, h => by
    simp only [HasN] at h; simp only [Sn.sh, HasB]
    obtain ⟨s, hs, hn⟩ := h
    exact ⟨s, hs, Nat.le_trans hn (Nat.le_of_ble_eq_true hl)⟩
  | .st fs, d, hl, h => by
    simp only [HasN] at h; simp only [Sn.sh, HasB]
    obtain ⟨cs, hd, h⟩ := h
    exact ⟨cs, hd, hasNs_B hl h⟩
  | .sl el sz n e, d, hl, h => by
    simp only [Sn.low, Bool.and_eq_true] at hl
    simp only [HasN] at h; simp only [Sn.sh, HasB]
    rcases h with h | ⟨es, hd, hn, ha⟩
    · exact .inl h
    · exact .inr ⟨es, hd, Nat.le_trans hn (Nat.le_of_ble_eq_true hl.1), fun x hx => hasN_B hl.2 (ha x hx)⟩
  | .any, d, hl, h => by simp only [Sn.low] at hl; cases hl
theorem hasNs_B : ∀ {ss : List Sn} {ds : List D}, Sn.lows ss = true → HasNs ss ds → HasBs 300000000 (Sn.shs ss) ds
  | [], ds, _, h => by simp only [HasNs] at h; simp only [Sn.shs, HasBs]; exact h
  | s :: r, ds, hl, h => by
    simp only [Sn.lows, Bool.and_eq_true] at hl
    simp only [HasNs] at h; simp only [Sn.shs, HasBs]
    obtain ⟨d, r', hd, h1, h2⟩ := h
    exact ⟨d, r', hd, hasN_B hl.1 h1, hasNs_B hl.2 h2⟩
end
section
variable {E : Env} {σ : Wd} {C : Cx}
theorem hasN_sl {el sz b b' : Nat} {e : Sn} {d : D} (h : HasN (.sl el sz b e) d) (hl : d.es.length ≤ b') : HasN (.sl el sz b' e) d := by
  simp only [HasN] at h ⊢
  rcases h with rfl | ⟨es, rfl, _, ha⟩
  · exact .inl rfl
  · exact .inr ⟨es, rfl, hl, ha⟩
theorem hasNs_len : ∀ {fs : List Sn} {cs : List D}, HasNs fs cs → cs.length = fs.length
  | [], cs, h => by simp only [HasNs] at h; subst h; rfl
  | f :: fs, cs, h => by simp only [HasNs] at h; obtain ⟨d, r, rfl, _, h⟩ := h; simp [hasNs_len h]
def cellsN : Sn → Nat
  | .st fs => fs.length
  | _ => 1
def realN : Sn → Bool
  | .any => false
  | _ => true
theorem cells_N {s : Sn} {d : D} (hr : realN s = true) (h : HasN s d) : d.cells.length = cellsN s := by
  cases s <;> first | (cases hr; done) | simp only [HasN] at h
  · obtain ⟨_, rfl⟩ := h; rfl
  · obtain ⟨_, rfl⟩ := h; rfl
  · obtain ⟨_, rfl, _⟩ := h; rfl
  · obtain ⟨cs, rfl, h⟩ := h
    show cs.length = _
    simp only [cellsN]
    exact hasNs_len h
  · rcases h with rfl | ⟨es, rfl, _⟩ <;> rfl
theorem fitY_all {C : Cx} (hC : COk σ C) {e : Sn} : ∀ {ys : List Y} {ds : List D}, ys.all (fun y => fitY C y e) = true → relYs σ ys ds → ∀ x ∈ ds, HasN e x
  | [], ds, _, h => by simp only [relYs] at h; subst h; intro x hx; cases hx
  | y :: ys, ds, ha, h => by
    simp only [relYs] at h
    obtain ⟨d, r, rfl, h1, h2⟩ := h
    simp only [List.all_cons, Bool.and_eq_true] at ha
    intro x hx
    rcases List.mem_cons.1 hx with rfl | hx
    · exact fitY_ok hC ha.1 h1
    · exact fitY_all hC ha.2 h2 x hx
def litY (C : Cx) (el sz : Nat) (e : Sn) (ys : List Y) : Option (Cx × Y) :=
  bif realN e && ys.all (fun y => fitY C y e) && Nat.beq (cellsN e) sz && Nat.ble (Nat.mul ys.length (Nat.succ sz)) 1000000 then
    some (C.add [(C.nx, 0, ys.length), (0, C.nx, -(ys.length : Int))] [(C.nx, ys.length)] [] 1, .sl C.nx el sz ys.length e) else none
theorem lit_ok (hC : COk σ C) {el sz : Nat} {e : Sn} {ys : List Y} {ds : List D} {r : Cx × Y} (hd : relYs σ ys ds) (h : litY C el sz e ys = some r) : OpS E σ (.lit el sz) ds r := by
  unfold litY at h
  obtain ⟨hb, h⟩ := bif_none h
  cases h
  simp only [Bool.and_eq_true] at hb
  obtain ⟨⟨⟨h0, h1⟩, h2⟩, h3⟩ := hb
  have hl := relYs_len hd
  have hall := fitY_all hC h1 hd
  have h2 := Nat.eq_of_beq_eq_true h2
  have hev : TOp.eval E (.lit el sz) ds = some (.sl el sz ds) := by
    rw [ev_lit]
    refine tt_bif ?_
    rw [Bool.and_eq_true]
    refine ⟨List.all_eq_true.2 fun x hx => ?_, by rw [← hl]; exact h3⟩
    rw [cells_N h0 (hall x hx), h2]; exact Nat.beq_refl _
  obtain ⟨z, hz⟩ := hC.s.z
  refine .list hC hev ?_ (f2 ⟨_, _, get_new hC _, get_app hz, ?_⟩ ⟨_, _, get_app hz, get_new hC _, ?_⟩)
  · simp only [HasN]
    exact .inr ⟨ds, rfl, by omega, hall⟩
  · show ((ds.length : Nat) : Int) ≤ 0 + (ys.length : Int); omega
  · show (0 : Int) ≤ ((ds.length : Nat) : Int) + -(ys.length : Int); omega
def chrY (C : Cx) (n v : Nat) (c : Int) : Bool := ent C.F C.L 0 0 v c && ent C.F C.L v (c + 1) n 0
theorem chr_ok (hC : COk σ C) {n b v : Nat} {c : Int} {d i : D} (hd : relY σ (.str n b) d) (hi : relY σ (.int .i64 v c) i) (h : chrY C n v c = true) :
    OpS E σ .chr [d, i] (C.add [(0, C.nx, 0), (C.nx, 0, 255)] [] [] 1, .int .u8 C.nx 0) := by
  simp only [relY] at hd hi
  obtain ⟨s, x, rfl, h1, h2, _⟩ := hd
  obtain ⟨y, hy, rfl⟩ := hi
  unfold chrY at h
  rw [Bool.and_eq_true] at h
  obtain ⟨z, hz⟩ := hC.s.z
  have l1 := ent_ok hC.s h.1 hz hy
  have l2 := ent_ok hC.s h.2 hy h1
  simp only at l1
  obtain ⟨m, m0, m1, he⟩ := ss_chr (E := E) (s := s) (i := y.1 + c) (by omega) (by omega)
  exact .num hC he (f2 ⟨_, _, get_app hz, get_new hC _, by simp only; omega⟩ ⟨_, _, get_new hC _, get_app hz, by simp only; omega⟩)
end
end Go.Am.Tt
