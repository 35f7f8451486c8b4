/- SurfaceOrder's function over three analyses. Conditions: none. -/
import Derived.Test.YtokincjfhndjaaaGreatRu7
namespace Go.Proofs.YtokincjfhndjaaaGreat
open Go Go.Am Go.Proofs

/-! ### the plain law -/
theorem lt3_trans (p q r : Tri) (h1 : lt3 p q = true) (h2 : lt3 q r = true) : lt3 p r = true := by
  obtain ⟨a, b, c⟩ := p
  obtain ⟨d, e, f⟩ := q
  obtain ⟨g, h, i⟩ := r
  simp only [lt3] at h1 h2 ⊢
  by_cases x1 : a = d
  · subst x1
    by_cases y1 : b = e
    · subst y1
      simp only [if_true, decide_eq_true_eq] at h1
      by_cases x2 : a = g
      · subst x2
        by_cases y2 : b = h
        · subst y2
          simp only [if_true, decide_eq_true_eq] at h2 ⊢
          omega
        · simpa only [if_true, if_neg y2] using h2
      · simpa only [if_neg x2] using h2
    · simp only [if_true, if_neg y1, decide_eq_true_eq] at h1
      by_cases x2 : a = g
      · subst x2
        by_cases y2 : e = h
        · subst y2
          simp only [if_true, if_neg y1, decide_eq_true_eq]
          exact h1
        · simp only [if_true, if_neg y2, decide_eq_true_eq] at h2
          have : ¬ b = h := by omega
          simp only [if_true, if_neg this, decide_eq_true_eq]
          omega
      · simpa only [if_neg x2] using h2
  · simp only [if_neg x1, decide_eq_true_eq] at h1
    by_cases x2 : d = g
    · subst x2
      simp only [if_neg x1, decide_eq_true_eq]
      exact h1
    · simp only [if_neg x2, decide_eq_true_eq] at h2
      have : ¬ a = g := by omega
      simp only [if_neg this, decide_eq_true_eq]
      omega

theorem lt3_ne {p q : Tri} (h : lt3 p q = true) : p ≠ q := by
  rintro rfl
  rw [lt3_irrefl] at h; cases h

theorem ltL_irrefl : ∀ us : List Tri, ltL us us = false
  | [] => rfl
  | p :: ps => by
    have : ltL (p :: ps) (p :: ps) = if p = p then ltL ps ps else lt3 p p := rfl
    rw [this, if_pos rfl, ltL_irrefl ps]

theorem ltL_trans : ∀ us vs ws : List Tri, ltL us vs = true → ltL vs ws = true → ltL us ws = true
  | [], [], _, h, _ => by cases h
  | [], _ :: _, [], _, h => by cases h
  | [], _ :: _, _ :: _, _, _ => rfl
  | _ :: _, [], _, h, _ => by cases h
  | _ :: _, _ :: _, [], _, h => by cases h
  | p :: ps, q :: qs, r :: rs, h1, h2 => by
    have e1 : ltL (p :: ps) (q :: qs) = if p = q then ltL ps qs else lt3 p q := rfl
    have e2 : ltL (q :: qs) (r :: rs) = if q = r then ltL qs rs else lt3 q r := rfl
    have e3 : ltL (p :: ps) (r :: rs) = if p = r then ltL ps rs else lt3 p r := rfl
    rw [e1] at h1
    rw [e2] at h2
    rw [e3]
    by_cases x : p = q
    · subst x
      rw [if_pos rfl] at h1
      by_cases y : p = r
      · subst y
        rw [if_pos rfl] at h2 ⊢
        exact ltL_trans ps qs rs h1 h2
      · rw [if_neg y] at h2 ⊢
        exact h2
    · rw [if_neg x] at h1
      by_cases y : q = r
      · subst y
        rw [if_neg x]
        exact h1
      · rw [if_neg y] at h2
        have := lt3_trans p q r h1 h2
        rw [if_neg (lt3_ne this)]
        exact this

/-! ### three analyses in memory -/
def in3 (us vs ws : List Tri) : AH := inH 1000 [(flat us, 46), (flat vs, 46), (flat ws, 46)]
def H4 (us vs ws : List Tri) (sa sb sc : Value) : AH := (((in3 us vs ws).new (.cells [sa] 24)).new (.cells [sb] 24)).new (.cells [sc] 24)
def HH4 (us vs ws : List Tri) (sa sb sc : Value) : AH := hideH (H4 us vs ws sa sb sc) []

theorem H4_get0 (us vs ws : List Tri) (sa sb sc : Value) : (H4 us vs ws sa sb sc).blocks.get 1000 = some ⟨.cells (flat us) 46, 0, false⟩ := by kernel_rfl
theorem H4_get1 (us vs ws : List Tri) (sa sb sc : Value) : (H4 us vs ws sa sb sc).blocks.get 1001 = some ⟨.cells (flat vs) 46, 0, false⟩ := by kernel_rfl
theorem H4_get2 (us vs ws : List Tri) (sa sb sc : Value) : (H4 us vs ws sa sb sc).blocks.get 1002 = some ⟨.cells (flat ws) 46, 0, false⟩ := by kernel_rfl

theorem fn4 : EE.funcs.get 4 = some Tryz.f4 := envFunc (c := bodyOf Tryz.f4) Tryz.func4 rfl (by kernel_rfl)

def an (sa : Value) : Value := .agg ⟨[sa]⟩
/-- a call of a function of analyses gives a bool, the heap as it was -/
def callB (k : Nat) (f : FuncId) (args : List Value) (H : AH) (b : Bool) : Prop := runC EE c6 k (.call f args) H = some (.val (.bool b), H)

noncomputable def path4 (us vs ws : List Tri) (sa sb sc : Value) (tp : TapeA) : Option (Value × List Prop) :=
  outV EE Tryz.f4.results.toList (followA EE c6 49 (bodyOf Tryz.f4) ⟨Nat.max Tryz.f4.ntmps 3, false, T.ofList .leaf 0 [an sa, an sb, an sc]⟩ (in3 us vs ws) tp)

/-- too many parts: which one -/
def farT (k : Nat) : TapeA := match k with
  | 0 => [.val 9 (.bool false)]
  | 1 => [.val 9 (.bool true), .val 13 (.bool false)]
  | _ => [.val 9 (.bool true), .val 13 (.bool true), .val 18 (.bool false)]
def farP (us vs ws : List Tri) (sa sb sc : Value) (k : Nat) : List Prop := match k with
  | 0 => [callB 45 5 [an sa] (H4 us vs ws sa sb sc) false]
  | 1 => [callB 45 5 [an sa] (H4 us vs ws sa sb sc) true, callB 45 5 [an sb] (H4 us vs ws sa sb sc) false]
  | _ => [callB 45 5 [an sa] (H4 us vs ws sa sb sc) true, callB 45 5 [an sb] (H4 us vs ws sa sb sc) true, callB 45 5 [an sc] (H4 us vs ws sa sb sc) false]

theorem far40 (us vs ws : List Tri) (na nb nc : Bool) (la lb lc ca cb cc : Nat) :
    path4 us vs ws (sv na 1000 la ca) (sv nb 1001 lb cb) (sv nc 1002 lc cc) (farT 0) = some (.bool true, farP us vs ws (sv na 1000 la ca) (sv nb 1001 lb cb) (sv nc 1002 lc cc) 0) := by
  cases na <;> cases nb <;> cases nc
  all_goals kernel_rfl

theorem far41 (us vs ws : List Tri) (na nb nc : Bool) (la lb lc ca cb cc : Nat) :
    path4 us vs ws (sv na 1000 la ca) (sv nb 1001 lb cb) (sv nc 1002 lc cc) (farT 1) = some (.bool true, farP us vs ws (sv na 1000 la ca) (sv nb 1001 lb cb) (sv nc 1002 lc cc) 1) := by
  cases na <;> cases nb <;> cases nc
  all_goals kernel_rfl

theorem far42 (us vs ws : List Tri) (na nb nc : Bool) (la lb lc ca cb cc : Nat) :
    path4 us vs ws (sv na 1000 la ca) (sv nb 1001 lb cb) (sv nc 1002 lc cc) (farT 2) = some (.bool true, farP us vs ws (sv na 1000 la ca) (sv nb 1001 lb cb) (sv nc 1002 lc cc) 2) := by
  cases na <;> cases nb <;> cases nc
  all_goals kernel_rfl

def few3 (us vs ws : List Tri) (sa sb sc : Value) : List Prop := [callB 45 5 [an sa] (H4 us vs ws sa sb sc) true, callB 45 5 [an sb] (H4 us vs ws sa sb sc) true, callB 45 5 [an sc] (H4 us vs ws sa sb sc) true]
def fewT : TapeA := [.val 9 (.bool true), .val 13 (.bool true), .val 18 (.bool true)]

/-- the first comes before the second -/
theorem near4a (us vs ws : List Tri) (na nb nc : Bool) (la lb lc ca cb cc : Nat) (x : Bool) :
    path4 us vs ws (sv na 1000 la ca) (sv nb 1001 lb cb) (sv nc 1002 lc cc) (fewT ++ [.val 24 (.bool true), .val 29 (.bool false), .val 34 (.bool false), .val 42 (.bool false), .val 47 (.bool false), .val 50 (.bool false), .val 55 (.bool true), .val 60 (.bool x)] ++
      (bif x then [.val 66 (.bool true)] else []) ++ [.val 71 (.bool false)]) =
    some (.bool true, few3 us vs ws (sv na 1000 la ca) (sv nb 1001 lb cb) (sv nc 1002 lc cc) ++
     [callB 43 7 [an (sv na 1000 la ca), an (sv nb 1001 lb cb)] (H4 us vs ws (sv na 1000 la ca) (sv nb 1001 lb cb) (sv nc 1002 lc cc)) true,
      callB 42 7 [an (sv nb 1001 lb cb), an (sv na 1000 la ca)] (H4 us vs ws (sv na 1000 la ca) (sv nb 1001 lb cb) (sv nc 1002 lc cc)) false,
      callB 41 9 [an (sv na 1000 la ca), an (sv nb 1001 lb cb)] (H4 us vs ws (sv na 1000 la ca) (sv nb 1001 lb cb) (sv nc 1002 lc cc)) false,
      callB 40 7 [an (sv na 1000 la ca), an (sv na 1000 la ca)] (HH4 us vs ws (sv na 1000 la ca) (sv nb 1001 lb cb) (sv nc 1002 lc cc)) false,
      callB 40 9 [an (sv na 1000 la ca), an (sv nb 1001 lb cb)] (HH4 us vs ws (sv na 1000 la ca) (sv nb 1001 lb cb) (sv nc 1002 lc cc)) false,
      callB 40 9 [an (sv nb 1001 lb cb), an (sv na 1000 la ca)] (HH4 us vs ws (sv na 1000 la ca) (sv nb 1001 lb cb) (sv nc 1002 lc cc)) false,
      callB 40 7 [an (sv na 1000 la ca), an (sv nb 1001 lb cb)] (HH4 us vs ws (sv na 1000 la ca) (sv nb 1001 lb cb) (sv nc 1002 lc cc)) true,
      callB 40 7 [an (sv nb 1001 lb cb), an (sv nc 1002 lc cc)] (HH4 us vs ws (sv na 1000 la ca) (sv nb 1001 lb cb) (sv nc 1002 lc cc)) x] ++
      (bif x then [callB 40 7 [an (sv na 1000 la ca), an (sv nc 1002 lc cc)] (HH4 us vs ws (sv na 1000 la ca) (sv nb 1001 lb cb) (sv nc 1002 lc cc)) true] else []) ++
     [callB 40 9 [an (sv na 1000 la ca), an (sv nb 1001 lb cb)] (HH4 us vs ws (sv na 1000 la ca) (sv nb 1001 lb cb) (sv nc 1002 lc cc)) false]) := by
  cases x <;> cases na <;> cases nb <;> cases nc
  all_goals kernel_rfl

/-- the second comes before the first -/
theorem near4b (us vs ws : List Tri) (na nb nc : Bool) (la lb lc ca cb cc : Nat) :
    path4 us vs ws (sv na 1000 la ca) (sv nb 1001 lb cb) (sv nc 1002 lc cc) (fewT ++ [.val 24 (.bool false), .val 29 (.bool true), .val 34 (.bool false), .val 42 (.bool false), .val 47 (.bool false), .val 50 (.bool false), .val 55 (.bool false), .val 71 (.bool false)]) =
    some (.bool true, few3 us vs ws (sv na 1000 la ca) (sv nb 1001 lb cb) (sv nc 1002 lc cc) ++
     [callB 43 7 [an (sv na 1000 la ca), an (sv nb 1001 lb cb)] (H4 us vs ws (sv na 1000 la ca) (sv nb 1001 lb cb) (sv nc 1002 lc cc)) false,
      callB 42 7 [an (sv nb 1001 lb cb), an (sv na 1000 la ca)] (H4 us vs ws (sv na 1000 la ca) (sv nb 1001 lb cb) (sv nc 1002 lc cc)) true,
      callB 41 9 [an (sv na 1000 la ca), an (sv nb 1001 lb cb)] (H4 us vs ws (sv na 1000 la ca) (sv nb 1001 lb cb) (sv nc 1002 lc cc)) false,
      callB 40 7 [an (sv na 1000 la ca), an (sv na 1000 la ca)] (HH4 us vs ws (sv na 1000 la ca) (sv nb 1001 lb cb) (sv nc 1002 lc cc)) false,
      callB 40 9 [an (sv na 1000 la ca), an (sv nb 1001 lb cb)] (HH4 us vs ws (sv na 1000 la ca) (sv nb 1001 lb cb) (sv nc 1002 lc cc)) false,
      callB 40 9 [an (sv nb 1001 lb cb), an (sv na 1000 la ca)] (HH4 us vs ws (sv na 1000 la ca) (sv nb 1001 lb cb) (sv nc 1002 lc cc)) false,
      callB 40 7 [an (sv na 1000 la ca), an (sv nb 1001 lb cb)] (HH4 us vs ws (sv na 1000 la ca) (sv nb 1001 lb cb) (sv nc 1002 lc cc)) false,
      callB 40 9 [an (sv na 1000 la ca), an (sv nb 1001 lb cb)] (HH4 us vs ws (sv na 1000 la ca) (sv nb 1001 lb cb) (sv nc 1002 lc cc)) false]) := by
  cases na <;> cases nb <;> cases nc
  all_goals kernel_rfl

/-- the first is the same as the second -/
theorem near4c (us vs ws : List Tri) (na nb nc : Bool) (la lb lc ca cb cc : Nat) (x : Bool) :
    path4 us vs ws (sv na 1000 la ca) (sv nb 1001 lb cb) (sv nc 1002 lc cc) (fewT ++ [.val 24 (.bool false), .val 29 (.bool false), .val 34 (.bool true), .val 42 (.bool false), .val 47 (.bool true), .val 50 (.bool true), .val 55 (.bool false), .val 71 (.bool true), .val 76 (.bool x), .val 79 (.bool x)]) =
    some (.bool true, few3 us vs ws (sv na 1000 la ca) (sv nb 1001 lb cb) (sv nc 1002 lc cc) ++
     [callB 43 7 [an (sv na 1000 la ca), an (sv nb 1001 lb cb)] (H4 us vs ws (sv na 1000 la ca) (sv nb 1001 lb cb) (sv nc 1002 lc cc)) false,
      callB 42 7 [an (sv nb 1001 lb cb), an (sv na 1000 la ca)] (H4 us vs ws (sv na 1000 la ca) (sv nb 1001 lb cb) (sv nc 1002 lc cc)) false,
      callB 41 9 [an (sv na 1000 la ca), an (sv nb 1001 lb cb)] (H4 us vs ws (sv na 1000 la ca) (sv nb 1001 lb cb) (sv nc 1002 lc cc)) true,
      callB 40 7 [an (sv na 1000 la ca), an (sv na 1000 la ca)] (HH4 us vs ws (sv na 1000 la ca) (sv nb 1001 lb cb) (sv nc 1002 lc cc)) false,
      callB 40 9 [an (sv na 1000 la ca), an (sv nb 1001 lb cb)] (HH4 us vs ws (sv na 1000 la ca) (sv nb 1001 lb cb) (sv nc 1002 lc cc)) true,
      callB 40 9 [an (sv nb 1001 lb cb), an (sv na 1000 la ca)] (HH4 us vs ws (sv na 1000 la ca) (sv nb 1001 lb cb) (sv nc 1002 lc cc)) true,
      callB 40 7 [an (sv na 1000 la ca), an (sv nb 1001 lb cb)] (HH4 us vs ws (sv na 1000 la ca) (sv nb 1001 lb cb) (sv nc 1002 lc cc)) false,
      callB 40 9 [an (sv na 1000 la ca), an (sv nb 1001 lb cb)] (HH4 us vs ws (sv na 1000 la ca) (sv nb 1001 lb cb) (sv nc 1002 lc cc)) true,
      callB 40 7 [an (sv na 1000 la ca), an (sv nc 1002 lc cc)] (HH4 us vs ws (sv na 1000 la ca) (sv nb 1001 lb cb) (sv nc 1002 lc cc)) x,
      callB 40 7 [an (sv nb 1001 lb cb), an (sv nc 1002 lc cc)] (HH4 us vs ws (sv na 1000 la ca) (sv nb 1001 lb cb) (sv nc 1002 lc cc)) x]) := by
  cases x <;> cases na <;> cases nb <;> cases nc
  all_goals kernel_rfl

theorem q5 {H : AH} {sa : Value} {us : List Tri} (k : Nat) {b : Bool} (h : partsOf H sa = some us) (hb : decide (us.length ≤ 20) = b) : callB (k + 1) 5 [an sa] H b := by
  subst hb
  have hc : c6 5 [an sa] H = some (.bool (decide (us.length ≤ 20))) := one_some (res := fun us => .bool (decide (us.length ≤ 20))) h
  exact runC_con hc

theorem q7 {H : AH} {sa sb : Value} {us vs : List Tri} (k : Nat) {b : Bool} (h1 : partsOf H sa = some us) (h2 : partsOf H sb = some vs) (l1 : us.length ≤ 20) (l2 : vs.length ≤ 20) (hb : ltL us vs = b) : callB (k + 1) 7 [an sa, an sb] H b := by
  subst hb
  have hc : c6 7 [an sa, an sb] H = some (.bool (decide (cmpL us vs < 0))) := two_some (res := fun us vs => .bool (decide (cmpL us vs < 0))) h1 h2 (by omega) (by omega)
  rw [cmp_lt] at hc
  exact runC_con hc

theorem q9 {H : AH} {sa sb : Value} {us vs : List Tri} (k : Nat) {b : Bool} (h1 : partsOf H sa = some us) (h2 : partsOf H sb = some vs) (l1 : us.length ≤ 20) (l2 : vs.length ≤ 20) (hb : decide (us = vs) = b) : callB (k + 1) 9 [an sa, an sb] H b := by
  subst hb
  have hc : c6 9 [an sa, an sb] H = some (.bool (decide (us = vs))) := two_some (res := fun us vs => .bool (decide (us = vs))) h1 h2 (by omega) (by omega)
  exact runC_con hc

theorem path4_run {us vs ws : List Tri} {sa sb sc : Value} {tp : TapeA} {P : List Prop} (h : path4 us vs ws sa sb sc tp = some (.bool true, P)) (hP : allP P) :
    ∃ H', runC EE c6 50 (.call 4 [an sa, an sb, an sc]) (in3 us vs ws) = some (.val (.bool true), H') :=
  follow_call (n := 49) rfl fn4 (c := bodyOf Tryz.f4) rfl h hP

theorem run4 (us vs ws : List Tri) (na nb nc : Bool) (ca cb cc : Nat) (hna : na = true → us = []) (hnb : nb = true → vs = []) (hnc : nc = true → ws = []) :
    ∃ H', runC EE c6 50 (.call 4 [an (sv na 1000 us.length ca), an (sv nb 1001 vs.length cb), an (sv nc 1002 ws.length cc)]) (in3 us vs ws) = some (.val (.bool true), H') := by
  have pa : partsOf (H4 us vs ws (sv na 1000 us.length ca) (sv nb 1001 vs.length cb) (sv nc 1002 ws.length cc)) (sv na 1000 us.length ca) = some us := partsOf_sv (H4_get0 us vs ws _ _ _) hna
  have pb : partsOf (H4 us vs ws (sv na 1000 us.length ca) (sv nb 1001 vs.length cb) (sv nc 1002 ws.length cc)) (sv nb 1001 vs.length cb) = some vs := partsOf_sv (H4_get1 us vs ws _ _ _) hnb
  have pc : partsOf (H4 us vs ws (sv na 1000 us.length ca) (sv nb 1001 vs.length cb) (sv nc 1002 ws.length cc)) (sv nc 1002 ws.length cc) = some ws := partsOf_sv (H4_get2 us vs ws _ _ _) hnc
  have ra : partsOf (HH4 us vs ws (sv na 1000 us.length ca) (sv nb 1001 vs.length cb) (sv nc 1002 ws.length cc)) (sv na 1000 us.length ca) = some us := pa
  have rb : partsOf (HH4 us vs ws (sv na 1000 us.length ca) (sv nb 1001 vs.length cb) (sv nc 1002 ws.length cc)) (sv nb 1001 vs.length cb) = some vs := pb
  have rc : partsOf (HH4 us vs ws (sv na 1000 us.length ca) (sv nb 1001 vs.length cb) (sv nc 1002 ws.length cc)) (sv nc 1002 ws.length cc) = some ws := pc
  by_cases h1 : us.length ≤ 20
  · by_cases h2 : vs.length ≤ 20
    · by_cases h3 : ws.length ≤ 20
      · have f1 := q5 44 pa (decide_eq_true h1)
        have f2 := q5 44 pb (decide_eq_true h2)
        have f3 := q5 44 pc (decide_eq_true h3)
        have hs := same_lt us vs
        cases hab : ltL us vs with
        | true =>
          have hba : ltL vs us = false := by
            cases h : ltL vs us with
            | false => rfl
            | true => have := ltL_trans us vs us hab h; rw [ltL_irrefl] at this; cases this
          have hsab : decide (us = vs) = false := by rw [hs, hab]; rfl
          have hsba : decide (vs = us) = false := by rw [same_lt, hab, hba]; rfl
          refine path4_run (near4a us vs ws na nb nc us.length vs.length ws.length ca cb cc (ltL vs ws)) ?_
          cases hx : ltL vs ws with
          | true => exact ⟨f1, f2, f3, q7 42 pa pb h1 h2 hab, q7 41 pb pa h2 h1 hba, q9 40 pa pb h1 h2 hsab, q7 39 ra ra h1 h1 (ltL_irrefl us), q9 39 ra rb h1 h2 hsab, q9 39 rb ra h2 h1 hsba, q7 39 ra rb h1 h2 hab, q7 39 rb rc h2 h3 hx,
              q7 39 ra rc h1 h3 (ltL_trans us vs ws hab hx), q9 39 ra rb h1 h2 hsab, trivial⟩
          | false => exact ⟨f1, f2, f3, q7 42 pa pb h1 h2 hab, q7 41 pb pa h2 h1 hba, q9 40 pa pb h1 h2 hsab, q7 39 ra ra h1 h1 (ltL_irrefl us), q9 39 ra rb h1 h2 hsab, q9 39 rb ra h2 h1 hsba, q7 39 ra rb h1 h2 hab, q7 39 rb rc h2 h3 hx,
              q9 39 ra rb h1 h2 hsab, trivial⟩
        | false =>
          cases hba : ltL vs us with
          | true =>
            have hsab : decide (us = vs) = false := by rw [hs, hab, hba]; rfl
            have hsba : decide (vs = us) = false := by rw [same_lt, hab, hba]; rfl
            exact path4_run (near4b us vs ws na nb nc us.length vs.length ws.length ca cb cc)
              ⟨f1, f2, f3, q7 42 pa pb h1 h2 hab, q7 41 pb pa h2 h1 hba, q9 40 pa pb h1 h2 hsab, q7 39 ra ra h1 h1 (ltL_irrefl us), q9 39 ra rb h1 h2 hsab, q9 39 rb ra h2 h1 hsba, q7 39 ra rb h1 h2 hab, q9 39 ra rb h1 h2 hsab, trivial⟩
          | false =>
            have hsab : decide (us = vs) = true := by rw [hs, hab, hba]; rfl
            have hsba : decide (vs = us) = true := by rw [same_lt, hab, hba]; rfl
            have heq : us = vs := of_decide_eq_true hsab
            exact path4_run (near4c us vs ws na nb nc us.length vs.length ws.length ca cb cc (ltL vs ws))
              ⟨f1, f2, f3, q7 42 pa pb h1 h2 hab, q7 41 pb pa h2 h1 hba, q9 40 pa pb h1 h2 hsab, q7 39 ra ra h1 h1 (ltL_irrefl us), q9 39 ra rb h1 h2 hsab, q9 39 rb ra h2 h1 hsba, q7 39 ra rb h1 h2 hab, q9 39 ra rb h1 h2 hsab,
                q7 39 ra rc h1 h3 (by rw [heq]), q7 39 rb rc h2 h3 rfl, trivial⟩
      · exact path4_run (far42 us vs ws na nb nc us.length vs.length ws.length ca cb cc) ⟨q5 44 pa (decide_eq_true h1), q5 44 pb (decide_eq_true h2), q5 44 pc (decide_eq_false h3), trivial⟩
    · exact path4_run (far41 us vs ws na nb nc us.length vs.length ws.length ca cb cc) ⟨q5 44 pa (decide_eq_true h1), q5 44 pb (decide_eq_false h2), trivial⟩
  · exact path4_run (far40 us vs ws na nb nc us.length vs.length ws.length ca cb cc) ⟨q5 44 pa (decide_eq_false h1), trivial⟩

theorem three_locs {w : World} {us vs ws : List Tri} {oA oB oC : Option Am.Loc} (hA : ∀ L, oA = some L → LocOK EE w (flat us) 46 L) (hB : ∀ L, oB = some L → LocOK EE w (flat vs) 46 L)
    (hC : ∀ L, oC = some L → LocOK EE w (flat ws) 46 L) :
    ∀ (i : Nat) (p : List Value × TypeId) (L : Am.Loc), [(flat us, 46), (flat vs, 46), (flat ws, 46)][i]? = some p → [oA, oB, oC][i]? = some (some L) → LocOK EE w p.1 p.2 L := by
  intro i p L hp hL
  match i with
  | 0 =>
    simp only [List.getElem?_cons_zero, Option.some.injEq] at hp hL
    subst hp
    exact hA L hL
  | 1 =>
    simp only [List.getElem?_cons_succ, List.getElem?_cons_zero, Option.some.injEq] at hp hL
    subst hp
    exact hB L hL
  | 2 =>
    simp only [List.getElem?_cons_succ, List.getElem?_cons_zero, Option.some.injEq] at hp hL
    subst hp
    exact hC L hL
  | i + 3 => simp at hp

end Go.Proofs.YtokincjfhndjaaaGreat
