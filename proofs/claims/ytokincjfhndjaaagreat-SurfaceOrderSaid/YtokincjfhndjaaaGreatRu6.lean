/- SurfaceLess over two analyses. Conditions: none. -/
import Derived.Test.YtokincjfhndjaaaGreatRu5
import Derived.Test.YtokincjfhndjaaaGreatAw1
namespace Go.Proofs.YtokincjfhndjaaaGreat
open Go Go.Am Go.Proofs

/-! ### the plain law -/
theorem cmp3_zero (p q : Tri) : cmp3 p q = 0 ↔ p = q := by
  obtain ⟨a, b, c⟩ := p
  obtain ⟨x, y, z⟩ := q
  simp only [cmp3, or3, cmpI, Prod.mk.injEq]
  constructor
  · intro h
    refine ⟨?_, ?_, ?_⟩ <;> (split at h <;> (try split at h)) <;> (try split at h) <;> (try split at h) <;> (try split at h) <;> omega
  · rintro ⟨rfl, rfl, rfl⟩
    simp

theorem cmp3_neg (p q : Tri) : p ≠ q → (decide (cmp3 p q < 0) = lt3 p q) := by
  obtain ⟨a, b, c⟩ := p
  obtain ⟨x, y, z⟩ := q
  simp only [cmp3, or3, cmpI, lt3, ne_eq, Prod.mk.injEq]
  intro h
  by_cases h1 : a = x
  · subst h1
    by_cases h2 : b = y
    · subst h2
      by_cases h3 : c < z
      · simp [h3]
      · by_cases h4 : c = z
        · exact absurd ⟨rfl, rfl, h4⟩ h
        · have h5 : z < c := by omega
          simp [h3, h5]
    · by_cases h3 : b < y
      · simp [h3, h2]
      · have h5 : y < b := by omega
        simp [h3, h5, h2]
  · by_cases h3 : a < x
    · simp [h3, h1]
    · have h5 : x < a := by omega
      simp [h3, h5, h1]

theorem lt3_irrefl (p : Tri) : lt3 p p = false := by simp [lt3]

theorem lt3_asymm (p q : Tri) (h : p ≠ q) : lt3 q p = !lt3 p q := by
  obtain ⟨a, b, c⟩ := p
  obtain ⟨x, y, z⟩ := q
  simp only [lt3, ne_eq, Prod.mk.injEq] at h ⊢
  by_cases h1 : a = x
  · subst h1
    by_cases h2 : b = y
    · subst h2
      simp only [if_true]
      by_cases h3 : c < z
      · simp [h3]; omega
      · simp [h3]; omega
    · have h2' : ¬ y = b := fun e => h2 e.symm
      simp only [if_true, h2, h2', if_false]
      by_cases h3 : b < y
      · simp [h3]; omega
      · simp [h3]; omega
  · have h1' : ¬ x = a := fun e => h1 e.symm
    simp only [h1, h1', if_false]
    by_cases h3 : a < x
    · simp [h3]; omega
    · simp [h3]; omega

theorem cmp_lt : ∀ us vs : List Tri, decide (cmpL us vs < 0) = ltL us vs
  | [], [] => rfl
  | [], _ :: _ => rfl
  | _ :: _, [] => rfl
  | p :: ps, q :: qs => by
    have hc : cmpL (p :: ps) (q :: qs) = if cmp3 p q = 0 then cmpL ps qs else cmp3 p q := rfl
    have hl : ltL (p :: ps) (q :: qs) = if p = q then ltL ps qs else lt3 p q := rfl
    by_cases h : p = q
    · rw [if_pos ((cmp3_zero p q).2 h)] at hc
      rw [hl, if_pos h, ← cmp_lt ps qs]
      exact decide_eq_decide.2 (by rw [hc])
    · rw [if_neg (fun e => h ((cmp3_zero p q).1 e))] at hc
      rw [hl, if_neg h, ← cmp3_neg p q h]
      exact decide_eq_decide.2 (by rw [hc])

theorem same_lt : ∀ us vs : List Tri, decide (us = vs) = (!ltL us vs && !ltL vs us)
  | [], [] => rfl
  | [], _ :: _ => rfl
  | _ :: _, [] => rfl
  | p :: ps, q :: qs => by
    simp only [ltL]
    by_cases h : p = q
    · subst h
      simp only [if_true, List.cons.injEq, true_and]
      exact same_lt ps qs
    · rw [if_neg h, if_neg (fun e => h e.symm), lt3_asymm p q h]
      simp [h]

/-! ### the law's function -/
def g6 (args : List Value) (_ : AH) : Option Value := match args with
  | [] => some (.bool true)
  | _ => none
noncomputable def c6 : Con := conF 6 g6 c5
theorem c6_ok : ConOK EE c6 := conF_ok c5_ok fun args H v h => by
  unfold g6 at h
  split at h
  · cases h
    refine ⟨rfl, fun σ w args' hr hv => ?_⟩
    rw [hv.nil_inv]
    have := closed_true Am.good Am.globs Am.awake_run w
    intro cs
    obtain ⟨e, w', fr, ⟨h1, h2, h3, h4, h5, h6⟩, g⟩ := this cs
    exact ⟨e, w', fr, ⟨h1, h2, h3, h4, h5, h6⟩, g⟩
  · cases h

theorem fn3 : EE.funcs.get 3 = some Tryz.f3 := envFunc (c := bodyOf Tryz.f3) Tryz.func3 rfl (by kernel_rfl)

/-- too many parts -/
theorem far3 (us vs : List Tri) (na nb : Bool) (la lb ca cb : Nat) (fa : Bool) :
    outV EE Tryz.f3.results.toList (followA EE c6 39 (bodyOf Tryz.f3) ⟨Nat.max Tryz.f3.ntmps 2, false, T.ofList .leaf 0 [.agg ⟨[sv na 1000 la ca]⟩, .agg ⟨[sv nb 1001 lb cb]⟩]⟩ (in2 us vs)
      (.val 6 (.bool fa) :: (bif fa then [.val 10 (.bool false)] else []))) =
    some (.bool true, (runC EE c6 35 (.call 5 [.agg ⟨[sv na 1000 la ca]⟩]) (H8 us vs (sv na 1000 la ca) (sv nb 1001 lb cb)) = some (.val (.bool fa), H8 us vs (sv na 1000 la ca) (sv nb 1001 lb cb))) ::
      (bif fa then [runC EE c6 35 (.call 5 [.agg ⟨[sv nb 1001 lb cb]⟩]) (H8 us vs (sv na 1000 la ca) (sv nb 1001 lb cb)) = some (.val (.bool false), H8 us vs (sv na 1000 la ca) (sv nb 1001 lb cb))] else [])) := by
  cases fa <;> cases na <;> cases nb
  all_goals kernel_rfl

def HH8 (us vs : List Tri) (sa sb : Value) : AH := hideH (H8 us vs sa sb) []

theorem near3 (us vs : List Tri) (na nb : Bool) (la lb ca cb : Nat) (b c : Bool) :
    outV EE Tryz.f3.results.toList (followA EE c6 39 (bodyOf Tryz.f3) ⟨Nat.max Tryz.f3.ntmps 2, false, T.ofList .leaf 0 [.agg ⟨[sv na 1000 la ca]⟩, .agg ⟨[sv nb 1001 lb cb]⟩]⟩ (in2 us vs)
      [.val 6 (.bool true), .val 10 (.bool true), .val 16 (.bool b), .val 19 (.bool b), .val 24 (.bool c), .val 27 (.bool c)]) =
    some (.bool true, [(runC EE c6 35 (.call 5 [.agg ⟨[sv na 1000 la ca]⟩]) (H8 us vs (sv na 1000 la ca) (sv nb 1001 lb cb)) = some (.val (.bool true), H8 us vs (sv na 1000 la ca) (sv nb 1001 lb cb))),
      (runC EE c6 35 (.call 5 [.agg ⟨[sv nb 1001 lb cb]⟩]) (H8 us vs (sv na 1000 la ca) (sv nb 1001 lb cb)) = some (.val (.bool true), H8 us vs (sv na 1000 la ca) (sv nb 1001 lb cb))),
      (runC EE c6 35 (.call 7 [.agg ⟨[sv na 1000 la ca]⟩, .agg ⟨[sv nb 1001 lb cb]⟩]) (HH8 us vs (sv na 1000 la ca) (sv nb 1001 lb cb)) = some (.val (.bool b), HH8 us vs (sv na 1000 la ca) (sv nb 1001 lb cb))),
      (runC EE c6 35 (.call 8 [.agg ⟨[sv na 1000 la ca]⟩, .agg ⟨[sv nb 1001 lb cb]⟩]) (HH8 us vs (sv na 1000 la ca) (sv nb 1001 lb cb)) = some (.val (.bool b), HH8 us vs (sv na 1000 la ca) (sv nb 1001 lb cb))),
      (runC EE c6 35 (.call 9 [.agg ⟨[sv na 1000 la ca]⟩, .agg ⟨[sv nb 1001 lb cb]⟩]) (HH8 us vs (sv na 1000 la ca) (sv nb 1001 lb cb)) = some (.val (.bool c), HH8 us vs (sv na 1000 la ca) (sv nb 1001 lb cb))),
      (runC EE c6 35 (.call 10 [.agg ⟨[sv na 1000 la ca]⟩, .agg ⟨[sv nb 1001 lb cb]⟩]) (HH8 us vs (sv na 1000 la ca) (sv nb 1001 lb cb)) = some (.val (.bool c), HH8 us vs (sv na 1000 la ca) (sv nb 1001 lb cb)))]) := by
  cases b <;> cases c <;> cases na <;> cases nb
  all_goals kernel_rfl

theorem one_some {H : AH} {sa : Value} {res : List Tri → Value} {us : List Tri} (h : partsOf H sa = some us) : gO res [.agg ⟨[sa]⟩] H = some (res us) := by
  simp only [gO, h]

theorem run3 (us vs : List Tri) (na nb : Bool) (ca cb : Nat) (hna : na = true → us = []) (hnb : nb = true → vs = []) :
    ∃ H', runC EE c6 40 (.call 3 [.agg ⟨[sv na 1000 us.length ca]⟩, .agg ⟨[sv nb 1001 vs.length cb]⟩]) (in2 us vs) = some (.val (.bool true), H') := by
  have pa := parts8a (us := us) (vs := vs) (na := na) (ca := ca) (sa := sv na 1000 us.length ca) (sb := sv nb 1001 vs.length cb) hna
  have pb := parts8b (us := us) (vs := vs) (nb := nb) (cb := cb) (sa := sv na 1000 us.length ca) (sb := sv nb 1001 vs.length cb) hnb
  have fa : c6 5 [.agg ⟨[sv na 1000 us.length ca]⟩] (H8 us vs (sv na 1000 us.length ca) (sv nb 1001 vs.length cb)) = some (.bool (decide (us.length ≤ 20))) := by
    exact one_some (res := fun us => .bool (decide (us.length ≤ 20))) pa
  have fb : c6 5 [.agg ⟨[sv nb 1001 vs.length cb]⟩] (H8 us vs (sv na 1000 us.length ca) (sv nb 1001 vs.length cb)) = some (.bool (decide (vs.length ≤ 20))) := by
    exact one_some (res := fun us => .bool (decide (us.length ≤ 20))) pb
  by_cases h1 : us.length ≤ 20
  · rw [decide_eq_true h1] at fa
    by_cases h2 : vs.length ≤ 20
    · rw [decide_eq_true h2] at fb
      have pa' : partsOf (HH8 us vs (sv na 1000 us.length ca) (sv nb 1001 vs.length cb)) (sv na 1000 us.length ca) = some us := pa
      have pb' : partsOf (HH8 us vs (sv na 1000 us.length ca) (sv nb 1001 vs.length cb)) (sv nb 1001 vs.length cb) = some vs := pb
      have q7 : c6 7 [.agg ⟨[sv na 1000 us.length ca]⟩, .agg ⟨[sv nb 1001 vs.length cb]⟩] (HH8 us vs (sv na 1000 us.length ca) (sv nb 1001 vs.length cb)) = some (.bool (decide (cmpL us vs < 0))) :=
        two_some (res := fun us vs => .bool (decide (cmpL us vs < 0))) pa' pb' (by omega) (by omega)
      have q8 : c6 8 [.agg ⟨[sv na 1000 us.length ca]⟩, .agg ⟨[sv nb 1001 vs.length cb]⟩] (HH8 us vs (sv na 1000 us.length ca) (sv nb 1001 vs.length cb)) = some (.bool (ltL us vs)) :=
        two_some (res := fun us vs => .bool (ltL us vs)) pa' pb' (by omega) (by omega)
      have q9 : c6 9 [.agg ⟨[sv na 1000 us.length ca]⟩, .agg ⟨[sv nb 1001 vs.length cb]⟩] (HH8 us vs (sv na 1000 us.length ca) (sv nb 1001 vs.length cb)) = some (.bool (decide (us = vs))) :=
        two_some (res := fun us vs => .bool (decide (us = vs))) pa' pb' (by omega) (by omega)
      have q10 : c6 10 [.agg ⟨[sv na 1000 us.length ca]⟩, .agg ⟨[sv nb 1001 vs.length cb]⟩] (HH8 us vs (sv na 1000 us.length ca) (sv nb 1001 vs.length cb)) = some (.bool (!ltL us vs && !ltL vs us)) :=
        two_some (res := fun us vs => .bool (!ltL us vs && !ltL vs us)) pa' pb' (by omega) (by omega)
      rw [cmp_lt] at q7
      rw [same_lt] at q9
      exact follow_call (n := 39) rfl fn3 (c := bodyOf Tryz.f3) rfl (near3 us vs na nb us.length vs.length ca cb (ltL us vs) (!ltL us vs && !ltL vs us))
        ⟨runC_con fa, runC_con fb, runC_con q7, runC_con q8, runC_con q9, runC_con q10, trivial⟩
    · rw [decide_eq_false h2] at fb
      exact follow_call (n := 39) rfl fn3 (c := bodyOf Tryz.f3) rfl (far3 us vs na nb us.length vs.length ca cb true) ⟨runC_con fa, runC_con fb, trivial⟩
  · rw [decide_eq_false h1] at fa
    exact follow_call (n := 39) rfl fn3 (c := bodyOf Tryz.f3) rfl (far3 us vs na nb us.length vs.length ca cb false) ⟨runC_con fa, trivial⟩

end Go.Proofs.YtokincjfhndjaaaGreat
