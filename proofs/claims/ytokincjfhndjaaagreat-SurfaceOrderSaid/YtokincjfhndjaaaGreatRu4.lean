/- slices.Equal over parts, run. Conditions: none. -/
import Derived.Test.YtokincjfhndjaaaGreatRu3
namespace Go.Proofs.YtokincjfhndjaaaGreat
open Go Go.Am Go.Proofs

noncomputable def b22 : Code := loopOf (bodyOf Tryz.f22)
noncomputable def a22 : Code := seqL (bodyOf Tryz.f22)
noncomputable def d22 : Code := seqL (seqR (bodyOf Tryz.f22))
noncomputable def r22 : Code := seqL (seqL (seqR (seqR (bodyOf Tryz.f22))))
noncomputable def t22 : Code := seqR (seqR (seqR (bodyOf Tryz.f22)))
theorem code22 : bodyOf Tryz.f22 = .seq a22 (.seq d22 (.seq (.seq r22 (.block 0 (.loop b22))) t22)) := by kernel_rfl

def keys22 (sh : Bool) : List Nat := bif sh then [0,1,4,6,7,8,9,10,11,12,13,14,15,5,16,17,18,19,20,21,22,23,24,25] else [0,1,4,6,7,8,9,10,11,12,13]
def ov22 (sa sb : Value) (la : Nat) (x : Nat → Value) (i : Nat) : Nat → Value
  | 0 => sa
  | 1 => sb
  | 4 => .bool false
  | 12 => i64 (la : Int)
  | 13 => i64 (i : Int)
  | j => x j
def F22 (sa sb : Value) (la : Nat) (sh : Bool) (x : Nat → Value) (i : Nat) : Fr := ⟨26, false, mkL (ov22 sa sb la x i) (keys22 sh)⟩
def slots22 (sa sb : Value) (la i : Nat) : List Value := [sa, sb, .bool false, i64 (la : Int), i64 (i : Int)]
def sl22 : List Nat := [0, 1, 4, 12, 13]

theorem preA22 (r : Nat) (H : AH) (na nb : Bool) (la ca lb cb : Nat) :
    sumOf [0, 1, 4] (followA EE c21 (r + 30) a22 ⟨Nat.max Tryz.f22.ntmps 2, false, T.ofList .leaf 0 [sv na 1000 la ca, sv nb 1001 lb cb]⟩ H []) =
    some ⟨0, [], H, [], 26, false, shape (mkL (fun _ => .bool true) [0, 1, 4]), ([sv na 1000 la ca, sv nb 1001 lb cb, .bool false] : List Value).map some⟩ := by
  cases na <;> cases nb
  all_goals kernel_rfl

theorem len22 (r : Nat) (H : AH) (na nb : Bool) (la ca lb cb i : Nat) (x : Nat → Value) :
    sumOf [0, 1, 4] (followA EE c21 (r + 30) d22 ⟨26, false, mkL (ov22 (sv na 1000 la ca) (sv nb 1001 lb cb) (ln na la) x i) [0, 1, 4]⟩ H [.val 10 (.bool false)]) =
    some ⟨0, [], H, [binA EE .neq 3 (.tmp 7) (.tmp 9) (i64 ((ln na la : Nat) : Int)) (i64 ((ln nb lb : Nat) : Int)) = some (.bool false)], 26, false, shape (mkL (fun _ => .bool true) [0, 1, 4, 6, 7, 8, 9, 10]),
      ([sv na 1000 la ca, sv nb 1001 lb cb, .bool false] : List Value).map some⟩ := by
  cases na <;> cases nb
  all_goals kernel_rfl

theorem dif22 (r : Nat) (H : AH) (na nb : Bool) (la ca lb cb i : Nat) (x : Nat → Value) :
    retOf 4 (followA EE c21 (r + 30) d22 ⟨26, false, mkL (ov22 (sv na 1000 la ca) (sv nb 1001 lb cb) (ln na la) x i) [0, 1, 4]⟩ H [.val 10 (.bool true)]) =
    some ([], H, [binA EE .neq 3 (.tmp 7) (.tmp 9) (i64 ((ln na la : Nat) : Int)) (i64 ((ln nb lb : Nat) : Int)) = some (.bool true)], .bool false) := by
  cases na <;> cases nb
  all_goals kernel_rfl

theorem preB22 (r : Nat) (H : AH) (na nb : Bool) (la ca lb cb i : Nat) (x : Nat → Value) :
    sumOf sl22 (followA EE c21 (r + 30) r22 ⟨26, false, mkL (ov22 (sv na 1000 la ca) (sv nb 1001 lb cb) (ln na la) x i) [0, 1, 4, 6, 7, 8, 9, 10]⟩ H []) =
    some ⟨0, [], H, [], 26, false, shape (mkL (fun _ => .bool true) (keys22 false)), (slots22 (sv na 1000 la ca) (sv nb 1001 lb cb) (ln na la) 0).map some⟩ := by
  cases na <;> cases nb
  all_goals kernel_rfl

def tp22 (i : Nat) (p q : Tri) (ne : Bool) : TapeA :=
  [.val 14 (.bool true), .val 18 (ptrA 1000 (i * 3)), .val 19 (triV p), .val 22 (ptrA 1001 (i * 3)), .val 23 (triV q), .val 24 (.bool ne)]

def obl22 (H : AH) (la ca lb cb i : Nat) (p q : Tri) (ne : Bool) : List Prop :=
  [binA EE .lss 3 (.tmp 13) (.tmp 12) (i64 (i : Int)) (i64 (la : Int)) = some (.bool true),
   indexA EE 22 (sv false 1000 la ca) i = some (ptrA 1000 (i * 3)), loadA EE (hideH H []) 46 (ptrA 1000 (i * 3)) = some (triV p),
   indexA EE 22 (sv false 1001 lb cb) i = some (ptrA 1001 (i * 3)), loadA EE (hideH H []) 46 (ptrA 1001 (i * 3)) = some (triV q),
   binA EE .neq 46 (.tmp 19) (.tmp 23) (triV p) (triV q) = some (.bool ne)]

theorem go22 (r : Nat) (us vs : List Tri) (la ca lb cb i : Nat) (p q : Tri) (x : Nat → Value) (sh : Bool) :
    sumOf sl22 (followA EE c21 (r + 30) b22 (F22 (sv false 1000 la ca) (sv false 1001 lb cb) la sh x i) (in2 us vs) (tp22 i p q false ++ [.val 25 (i64 ((i + 1 : Nat) : Int))])) =
    some ⟨0, [], in2 us vs, obl22 (in2 us vs) la ca lb cb i p q false ++ [binA EE .add 3 (.tmp 13) (.const (i64 1)) (i64 (i : Int)) (i64 1) = some (i64 ((i + 1 : Nat) : Int))], 26, false,
      shape (mkL (fun _ => .bool true) (keys22 true)), (slots22 (sv false 1000 la ca) (sv false 1001 lb cb) la (i + 1)).map some⟩ := by
  cases sh
  · kernel_rfl
  · kernel_rfl

theorem retP22 (r : Nat) (us vs : List Tri) (la ca lb cb i : Nat) (p q : Tri) (x : Nat → Value) (sh : Bool) :
    retOf 4 (followA EE c21 (r + 30) b22 (F22 (sv false 1000 la ca) (sv false 1001 lb cb) la sh x i) (in2 us vs) (tp22 i p q true)) =
    some ([], in2 us vs, obl22 (in2 us vs) la ca lb cb i p q true, .bool false) := by
  cases sh
  · kernel_rfl
  · kernel_rfl

def keysE22 (sh : Bool) : List Nat := bif sh then keys22 true else [0,1,4,6,7,8,9,10,11,12,13,14]
def FE22 (sa sb : Value) (la : Nat) (sh : Bool) (x : Nat → Value) (i : Nat) : Fr := ⟨26, false, mkL (ov22 sa sb la x i) (keysE22 sh)⟩

theorem exit22 (r : Nat) (H : AH) (sa sb : Value) (la i : Nat) (x : Nat → Value) (sh : Bool) :
    sumOf sl22 (followA EE c21 (r + 30) b22 (F22 sa sb la sh x i) H [.val 14 (.bool false)]) =
    some ⟨2, [], H, [binA EE .lss 3 (.tmp 13) (.tmp 12) (i64 (i : Int)) (i64 (la : Int)) = some (.bool false)], 26, false,
      shape (mkL (fun _ => .bool true) (keysE22 sh)), (slots22 sa sb la i).map some⟩ := by
  cases sh
  · kernel_rfl
  · kernel_rfl

theorem tail22 (r : Nat) (H : AH) (sa sb : Value) (la i : Nat) (x : Nat → Value) (sh : Bool) :
    retOf 4 (followA EE c21 (r + 30) t22 (FE22 sa sb la sh x i) H []) = some ([], H, [], .bool true) := by
  cases sh
  all_goals kernel_rfl

theorem neq79 (a b : Int) : binA EE .neq 3 (.tmp 7) (.tmp 9) (i64 a) (i64 b) = some (.bool (!decide (a = b))) := by kernel_rfl

theorem ov22_eq {sa sb : Value} {la : Nat} {x : Nat → Value} {i : Nat} (h : sl22.map x = slots22 sa sb la i) : ov22 sa sb la x i = x := by
  simp only [sl22, List.map_cons, List.map_nil, slots22, List.cons.injEq, and_true] at h
  obtain ⟨h0, h1, h4, h12, h13⟩ := h
  funext j
  unfold ov22
  split
  · exact h0.symm
  · exact h1.symm
  · exact h4.symm
  · exact h12.symm
  · exact h13.symm
  · rfl

theorem in2_hide (us vs : List Tri) : InvH us vs (hideH (in2 us vs) []) := ⟨by kernel_rfl, by kernel_rfl, Nat.le_refl _⟩

theorem obl22_ok {us vs : List Tri} {ca cb i : Nat} {p q : Tri} (hp : us[i]? = some p) (hq : vs[i]? = some q) {ne : Bool} (hne : (!decide (p = q)) = ne) {R : List Prop} (hR : allP R) :
    allP (obl22 (in2 us vs) us.length ca vs.length cb i p q ne ++ R) := by
  have h1 := (List.getElem?_eq_some_iff.1 hp).1
  have h2 := (List.getElem?_eq_some_iff.1 hq).1
  refine ⟨?_, index22 h1, load46 (in2_hide us vs).a hp, index22 h2, load46 (in2_hide us vs).b hq, ?_, hR⟩
  · rw [lss_ok, decide_eq_true (by omega)]
  · rw [neq46, hne]

theorem eq_step {us vs : List Tri} {i : Nat} {p q : Tri} (hp : us[i]? = some p) (hq : vs[i]? = some q) :
    decide (us.drop i = vs.drop i) = if p = q then decide (us.drop (i + 1) = vs.drop (i + 1)) else false := by
  obtain ⟨h1, rfl⟩ := List.getElem?_eq_some_iff.1 hp
  obtain ⟨h2, rfl⟩ := List.getElem?_eq_some_iff.1 hq
  rw [List.drop_eq_getElem_cons h1, List.drop_eq_getElem_cons h2]
  by_cases e : us[i] = vs[i]
  · rw [if_pos e]
    simp only [List.cons.injEq, e, true_and]
  · rw [if_neg e]
    exact decide_eq_false fun h => e (List.cons.inj h).1

theorem loop22 (us vs : List Tri) (na nb : Bool) (ca cb : Nat) (hna : na = true → us = []) (hnb : nb = true → vs = []) (hbig : us.length < 1000) (hl : us.length = vs.length) : ∀ (r i : Nat) (sh : Bool) (x : Nat → Value),
    us.length - i = r → i ≤ us.length →
    ∃ out, runC EE c21 (r + 31) (.code (.loop b22) (F22 (sv na 1000 us.length ca) (sv nb 1001 vs.length cb) us.length sh x i)) (in2 us vs) = some (out, in2 us vs) ∧
      ((∃ fr', out = .ex .ret fr' ∧ fr'.t.get 4 = some (.bool false) ∧ decide (us.drop i = vs.drop i) = false) ∨
       (∃ sh' x' i', out = .ex (.exit 0) (FE22 (sv na 1000 us.length ca) (sv nb 1001 vs.length cb) us.length sh' x' i') ∧ decide (us.drop i = vs.drop i) = true)) := by
  intro r
  induction r with
  | zero =>
    intro i sh x hr h1
    have hi : i = us.length := by omega
    obtain ⟨x', ex, g1, g2, g3⟩ := sum_run (exit22 0 (in2 us vs) (sv na 1000 us.length ca) (sv nb 1001 vs.length cb) us.length i x sh) ⟨by rw [lss_ok, decide_eq_false (by omega)], trivial⟩
    have ge := exitE g1
    subst ge
    refine ⟨_, runC_loop_out (by simp) g2, .inr ⟨sh, x', i, ?_, ?_⟩⟩
    · unfold FE22
      rw [ov22_eq g3]
    · rw [List.drop_eq_nil_of_le (show us.length ≤ i by omega), List.drop_eq_nil_of_le (show vs.length ≤ i by omega)]; simp
  | succ r ih =>
    intro i sh x hr h1
    have hi : i < us.length := by omega
    have h3 : i < vs.length := by omega
    have hna' : na = false := by
      cases na with
      | false => rfl
      | true => rw [hna rfl] at hi; simp at hi
    subst hna'
    have hnb' : nb = false := by
      cases nb with
      | false => rfl
      | true => rw [hnb rfl] at h3; simp at h3
    subst hnb'
    obtain ⟨p, hp⟩ : ∃ p, us[i]? = some p := ⟨us[i], List.getElem?_eq_getElem hi⟩
    obtain ⟨q, hq⟩ : ∃ q, vs[i]? = some q := ⟨vs[i], List.getElem?_eq_getElem h3⟩
    by_cases hpq : p = q
    · obtain ⟨x', ex, g1, g2, g3⟩ := sum_run (go22 (r + 1) us vs us.length ca vs.length cb i p q x sh) (obl22_ok hp hq (by simp [hpq]) ⟨add3 _ _ i (by omega), trivial⟩)
      have ge := exit0 g1
      subst ge
      have hF : (⟨26, false, mkL x' (keys22 true)⟩ : Fr) = F22 (sv false 1000 us.length ca) (sv false 1001 vs.length cb) us.length true x' (i + 1) := by unfold F22; rw [ov22_eq g3]
      rw [hF] at g2
      obtain ⟨out, q1, q2⟩ := ih (i + 1) true x' (by omega) (by omega)
      refine ⟨out, (runC_loop g2).trans q1, ?_⟩
      rw [eq_step hp hq, if_pos hpq]
      exact q2
    · have ho := obl22_ok (ca := ca) (cb := cb) hp hq (ne := true) (by simp [hpq]) (R := []) trivial
      rw [List.append_nil] at ho
      obtain ⟨fr', g1, g2⟩ := ret_run (retP22 (r + 1) us vs us.length ca vs.length cb i p q x sh) ho
      refine ⟨_, runC_loop_out (by simp) g1, .inl ⟨fr', rfl, g2, ?_⟩⟩
      rw [eq_step hp hq, if_neg hpq]

theorem fn22 : EE.funcs.get 22 = some Tryz.f22 := envFunc (c := bodyOf Tryz.f22) Tryz.func22 rfl (by kernel_rfl)
theorem res22 : Tryz.f22.results.toList = [.tmp 4] := by kernel_rfl

theorem run22 (us vs : List Tri) (na nb : Bool) (ca cb : Nat) (hna : na = true → us = []) (hnb : nb = true → vs = []) (hbig : us.length < 1000) :
    ∃ H', runC EE c21 (us.length + 37) (.call 22 [sv na 1000 us.length ca, sv nb 1001 vs.length cb]) (in2 us vs) = some (.val (.bool (decide (us = vs))), H') := by
  obtain ⟨x0, e0, p1, p2, p3⟩ := sum_run (preA22 (us.length + 5) (in2 us vs) na nb us.length ca vs.length cb) trivial
  have ge := exit0 p1
  subst ge
  have hkx : ∀ (x : Nat → Value) (ks : List Nat) (i : Nat), [0, 1, 4].map x = [sv na 1000 us.length ca, sv nb 1001 vs.length cb, .bool false] → (∀ k ∈ ks, k ≠ 12 ∧ k ≠ 13) →
      mkL x ks = mkL (ov22 (sv na 1000 us.length ca) (sv nb 1001 vs.length cb) (ln na us.length) x i) ks := by
    intro x ks i h hks
    simp only [List.map_cons, List.map_nil, List.cons.injEq, and_true] at h
    obtain ⟨h0, h1, h4⟩ := h
    refine mkL_congr fun k hk => ?_
    have := hks k hk
    unfold ov22
    split
    · exact h0
    · exact h1
    · exact h4
    · exact absurd rfl this.1
    · exact absurd rfl this.2
    · rfl
  rw [hkx x0 _ 0 p3 (by decide)] at p2
  have hlen : Nat.max Tryz.f22.ntmps [sv na 1000 us.length ca, sv nb 1001 vs.length cb].length = Nat.max Tryz.f22.ntmps 2 := rfl
  by_cases hl : us.length = vs.length
  · have hq := len22 (us.length + 4) (in2 us vs) na nb us.length ca vs.length cb 0 x0
    obtain ⟨x2, e2, q1, q2, q3⟩ := sum_run hq ⟨by rw [neq79, ln_len hna, ln_len hnb]; simp [hl], trivial⟩
    have ge := exit0 q1
    subst ge
    rw [hkx x2 _ 0 q3 (by decide)] at q2
    obtain ⟨x1, e1, s1, s2, s3⟩ := sum_run (preB22 (us.length + 2) (in2 us vs) na nb us.length ca vs.length cb 0 x2) trivial
    have ge := exit0 s1
    subst ge
    rw [ln_len hna] at s3
    have hF : (⟨26, false, mkL x1 (keys22 false)⟩ : Fr) = F22 (sv na 1000 us.length ca) (sv nb 1001 vs.length cb) us.length false x1 0 := by unfold F22; rw [ov22_eq s3]
    rw [hF] at s2
    obtain ⟨out, l1, l2⟩ := loop22 us vs na nb ca cb hna hnb hbig hl us.length 0 false x1 rfl (Nat.zero_le _)
    simp only [List.drop_zero] at l2
    rcases l2 with ⟨fr', rfl, l3, l4⟩ | ⟨sh', x', i', rfl, l3⟩
    · refine ⟨in2 us vs, runC_call rfl fn22 (c := bodyOf Tryz.f22) rfl (e := .ret) (fr' := fr') ?_ (.inr rfl) (by rw [res22, l4]; exact res_tmp l3)⟩
      rw [code22, hlen]
      exact runC_seq p2 (runC_seq q2 (runC_seq_ret (runC_seq s2 (runC_block_ret l1))))
    · obtain ⟨fr', g1, g2⟩ := ret_run (tail22 (us.length + 3) (in2 us vs) (sv na 1000 us.length ca) (sv nb 1001 vs.length cb) us.length i' x' sh') trivial
      refine ⟨in2 us vs, runC_call rfl fn22 (c := bodyOf Tryz.f22) rfl (e := .ret) (fr' := fr') ?_ (.inr rfl) (by rw [res22, l3]; exact res_tmp g2)⟩
      rw [code22, hlen]
      exact runC_seq p2 (runC_seq q2 (runC_seq (runC_seq s2 (runC_block_exit l1)) g1))
  · obtain ⟨fr', g1, g2⟩ := ret_run (dif22 (us.length + 4) (in2 us vs) na nb us.length ca vs.length cb 0 x0) ⟨by rw [neq79, ln_len hna, ln_len hnb]; simp; omega, trivial⟩
    have hd : decide (us = vs) = false := decide_eq_false fun e => hl (by rw [e])
    refine ⟨in2 us vs, runC_call rfl fn22 (c := bodyOf Tryz.f22) rfl (e := .ret) (fr' := fr') ?_ (.inr rfl) (by rw [res22, hd]; exact res_tmp g2)⟩
    rw [code22, hlen]
    exact runC_seq p2 (runC_seq_ret g1)
end Go.Proofs.YtokincjfhndjaaaGreat
/- Functions of two lists of parts, as contracts. Conditions: none. -/
namespace Go.Proofs.YtokincjfhndjaaaGreat
open Go Go.Am Go.Proofs

def trisOf : List Value → Option (List Tri)
  | [] => some []
  | .int .i64 a :: .int .i64 b :: .int .i64 c :: r => (trisOf r).map ((a, b, c) :: ·)
  | _ => none

theorem trisOf_flat : ∀ us : List Tri, trisOf (flat us) = some us
  | [] => rfl
  | p :: ps => by simp only [flat, trisOf, trisOf_flat ps, Option.map_some]

theorem trisOf_inv : ∀ {cs : List Value} {us : List Tri}, trisOf cs = some us → cs = flat us := by
  intro cs
  induction cs using trisOf.induct with
  | case1 => intro us h; simp [trisOf] at h; subst h; rfl
  | case2 a b c r ih =>
    intro us h
    simp only [trisOf, Option.map_eq_some_iff] at h
    obtain ⟨vs, h1, rfl⟩ := h
    simp only [flat, ← ih h1]
  | case3 cs h1 h2 =>
    intro us h
    unfold trisOf at h
    split at h
    · exact absurd rfl h1
    · exact absurd rfl (h2 _ _ _ _)
    · cases h

def partsOf (H : AH) (v : Value) : Option (List Tri) := match v with
  | .slice none 0 0 => some []
  | .slice (some ⟨b, 0, none⟩) l _ => match H.blocks.get b with
    | some ⟨.cells cs el, _, _⟩ => if el = 46 then (match trisOf cs with
      | some us => if us.length = l then some us else none
      | none => none) else none
    | _ => none
  | _ => none

theorem partsOf_sv {H : AH} {na : Bool} {b c : Nat} {us : List Tri} {rt : Nat} {own : Bool} (hb : H.blocks.get b = some ⟨.cells (flat us) 46, rt, own⟩) (hna : na = true → us = []) :
    partsOf H (sv na b us.length c) = some us := by
  cases na with
  | true => rw [hna rfl]; rfl
  | false => simp only [sv, cond_false, partsOf, hb, if_true, trisOf_flat]

theorem open_sl {σ : Sig} {H : AH} {w : World} (hr : HR EE σ H w) {sa v' : Value} {us : List Tri} (h : partsOf H sa = some us) (hv : VR σ sa v') :
    ∃ (na : Bool) (c : Nat) (oL : Option Am.Loc), (na = true → us = []) ∧ (∀ L, oL = some L → LocOK EE w (flat us) 46 L) ∧
      ∀ (σ' : Sig) (b0 : Nat), (∀ L, oL = some L → σ' b0 = some L) → VR σ' (sv na b0 us.length c) v' := by
  unfold partsOf at h
  split at h
  · cases h
    cases hv with
    | leaf _ => exact ⟨true, 0, none, (fun _ => rfl), (fun L e => by cases e), (fun σ' b0 _ => VR.leaf rfl)⟩
  · rename_i b l c0
    split at h
    case h_2 => cases h
    rename_i cs el rt own hb
    split at h
    case isFalse => cases h
    rename_i hel
    subst hel
    split at h
    case h_2 => cases h
    rename_i us' hus
    split at h
    case isFalse => cases h
    rename_i hl
    cases h
    have hcs := trisOf_inv hus
    subst hcs
    have key : ∀ (L : Am.Loc) (c' : Nat), σ b = some L → l ≤ c' → c' < capX →
        ∃ (na : Bool) (c : Nat) (oL : Option Am.Loc), (na = true → us = []) ∧ (∀ L, oL = some L → LocOK EE w (flat us) 46 L) ∧
          ∀ (σ' : Sig) (b0 : Nat), (∀ L, oL = some L → σ' b0 = some L) → VR σ' (sv na b0 us.length c) (.slice (some ⟨L.blk, L.off + 0, none⟩) l c') := by
      intro L c' hs h1 h2
      refine ⟨false, c', some L, (fun e => by cases e), (fun M e => ?_), (fun σ' b0 h0 => ?_)⟩
      · cases e; exact locOK hr hb hs (flat_leaf us)
      · rw [hl]; exact VR.sliceE (h0 L rfl) h1 h2
    cases hv with
    | leaf h0 => simp [leafV] at h0
    | sliceE hs h1 h2 => exact key _ _ hs h1 h2
    | sliceX hs h1 h2 _ => exact key _ _ hs h1 h2
    | sliceZ hc =>
      refine ⟨false, 0, none, (fun e => by cases e), (fun M e => by cases e), (fun σ' b0 _ => ?_)⟩
      rw [hl]
      exact VR.sliceZ (.inl rfl)
  · cases h

theorem two_locs {w : World} {us vs : List Tri} {oA oB : Option Am.Loc} (hA : ∀ L, oA = some L → LocOK EE w (flat us) 46 L) (hB : ∀ L, oB = some L → LocOK EE w (flat vs) 46 L) :
    ∀ (i : Nat) (p : List Value × TypeId) (L : Am.Loc), [(flat us, 46), (flat vs, 46)][i]? = some p → [oA, oB][i]? = some (some L) → LocOK EE w p.1 p.2 L := by
  intro i p L hp hL
  match i with
  | 0 =>
    simp only [List.getElem?_cons_zero, Option.some.injEq] at hp hL
    subst hp
    exact hA L hL
  | 1 =>
    simp only [List.getElem?_cons_succ, List.getElem?_cons_zero, Option.some.injEq] at hp hL
    subst hp
    exact hB L hL
  | i + 2 => simp at hp

/-- what a run over two lists of parts gives is what any call gives -/
theorem two_calls {con : Con} (hc : ConOK EE con) {σ : Sig} {H : AH} {w : World} (hr : HR EE σ H w) {f : FuncId} {sa sb va vb : Value} {us vs : List Tri} {v : Value} (hl : leafV v = true)
    (h1 : partsOf H sa = some us) (h2 : partsOf H sb = some vs) (v1 : VR σ sa va) (v2 : VR σ sb vb) (g : Value → Value → List Value)
    (hg : ∀ (σ' : Sig) a b a' b', oneCell a = true → oneCell b = true → VR σ' a a' → VR σ' b b' → VRs σ' (g a b) (g a' b'))
    (hrun : ∀ na nb ca cb, (na = true → us = []) → (nb = true → vs = []) → ∃ n H', runC EE con n (.call f (g (sv na 1000 us.length ca) (sv nb 1001 vs.length cb))) (in2 us vs) = some (.val v, H')) :
    Calls EE.prog f ⟨g va vb⟩ w fun e w' => e = .returned v ∧ Kept w w' := by
  obtain ⟨na, ca, oA, a1, a2, a3⟩ := open_sl hr h1 v1
  obtain ⟨nb, cb, oB, b1, b2, b3⟩ := open_sl hr h2 v2
  obtain ⟨n, H', hrun⟩ := hrun na nb ca cb a1 b1
  refine in_calls he hc hm (bl := [(flat us, 46), (flat vs, 46)]) (ls := [oA, oB]) (Nat.le_refl _) (two_locs a2 b2) hrun hl (hg _ _ _ _ _ (by cases na <;> rfl) (by cases nb <;> rfl) (a3 _ _ ?_) (b3 _ _ ?_))
  · intro L e; exact inS_at (i := 0) hm (by rw [e]; rfl)
  · intro L e; exact inS_at (i := 1) hm (by rw [e]; rfl)

def two (H : AH) (sa sb : Value) (res : List Tri → List Tri → Value) : Option Value := match partsOf H sa, partsOf H sb with
  | some us, some vs => bif Nat.blt us.length 1000 && Nat.blt vs.length 1000 then some (res us vs) else none
  | _, _ => none

theorem two_inv {H : AH} {sa sb : Value} {res : List Tri → List Tri → Value} {v : Value} (h : two H sa sb res = some v) :
    ∃ us vs, partsOf H sa = some us ∧ partsOf H sb = some vs ∧ us.length < 1000 ∧ vs.length < 1000 ∧ v = res us vs := by
  unfold two at h
  split at h
  · rename_i us vs h1 h2
    cases hb : Nat.blt us.length 1000 && Nat.blt vs.length 1000 with
    | false => rw [hb] at h; cases h
    | true =>
      rw [hb] at h
      cases h
      simp only [Bool.and_eq_true] at hb
      exact ⟨us, vs, h1, h2, Nat.le_of_ble_eq_true hb.1, Nat.le_of_ble_eq_true hb.2, rfl⟩
  · cases h

theorem two_some {H : AH} {sa sb : Value} {res : List Tri → List Tri → Value} {us vs : List Tri} (h1 : partsOf H sa = some us) (h2 : partsOf H sb = some vs) (l1 : us.length < 1000) (l2 : vs.length < 1000) :
    two H sa sb res = some (res us vs) := by
  have b1 : Nat.blt us.length 1000 = true := Nat.ble_eq_true_of_le l1
  have b2 : Nat.blt vs.length 1000 = true := Nat.ble_eq_true_of_le l2
  simp only [two, h1, h2, b1, b2, Bool.and_self, cond_true]

/-- two bare slices -/
def gS (res : List Tri → List Tri → Value) (args : List Value) (H : AH) : Option Value := match args with
  | [sa, sb] => two H sa sb res
  | _ => none
/-- two bare slices and the comparison -/
def gF (res : List Tri → List Tri → Value) (args : List Value) (H : AH) : Option Value := match args with
  | [sa, sb, .func (.func 20) ⟨[]⟩ ⟨[]⟩] => two H sa sb res
  | _ => none
/-- two analyses -/
def gA (res : List Tri → List Tri → Value) (args : List Value) (H : AH) : Option Value := match args with
  | [.agg ⟨[sa]⟩, .agg ⟨[sb]⟩] => two H sa sb res
  | _ => none

theorem gS_ok {con rest : Con} (hc : ConOK EE con) (hr0 : ConOK EE rest) {f : FuncId} {res : List Tri → List Tri → Value} (hl : ∀ us vs, leafV (res us vs) = true)
    (hrun : ∀ us vs na nb ca cb, (na = true → us = []) → (nb = true → vs = []) → us.length < 1000 → vs.length < 1000 → ∃ n H', runC EE con n (.call f [sv na 1000 us.length ca, sv nb 1001 vs.length cb]) (in2 us vs) = some (.val (res us vs), H')) :
    ConOK EE (conF f (gS res) rest) := conF_ok hr0 fun args H v h => by
  unfold gS at h
  split at h
  · obtain ⟨us, vs, h1, h2, l1, l2, rfl⟩ := two_inv h
    refine ⟨hl _ _, fun σ w args' hr hv => ?_⟩
    obtain ⟨va, r, rfl, v1, hv⟩ := hv.cons_inv
    obtain ⟨vb, r, rfl, v2, hv⟩ := hv.cons_inv
    rw [hv.nil_inv]
    exact two_calls hc hr (hl _ _) h1 h2 v1 v2 (fun a b => [a, b]) (fun σ' a b a' b' _ _ x y => .cons x (.cons y .nil)) (fun na nb ca cb a b => hrun us vs na nb ca cb a b l1 l2)
  · cases h

theorem gF_ok {con rest : Con} (hc : ConOK EE con) (hr0 : ConOK EE rest) {f : FuncId} {res : List Tri → List Tri → Value} (hl : ∀ us vs, leafV (res us vs) = true)
    (hrun : ∀ us vs na nb ca cb, (na = true → us = []) → (nb = true → vs = []) → us.length < 1000 → vs.length < 1000 → ∃ n H', runC EE con n (.call f [sv na 1000 us.length ca, sv nb 1001 vs.length cb, fn20v]) (in2 us vs) = some (.val (res us vs), H')) :
    ConOK EE (conF f (gF res) rest) := conF_ok hr0 fun args H v h => by
  unfold gF at h
  split at h
  · obtain ⟨us, vs, h1, h2, l1, l2, rfl⟩ := two_inv h
    refine ⟨hl _ _, fun σ w args' hr hv => ?_⟩
    obtain ⟨va, r, rfl, v1, hv⟩ := hv.cons_inv
    obtain ⟨vb, r, rfl, v2, hv⟩ := hv.cons_inv
    obtain ⟨vc, r, rfl, v3, hv⟩ := hv.cons_inv
    rw [hv.nil_inv]
    have hvc : vc = fn20v := by
      cases v3 with
      | leaf h0 => simp [leafV] at h0
      | func _ h1 h2 => rw [h1.nil_inv, h2.nil_inv]; rfl
    rw [hvc]
    exact two_calls hc hr (hl _ _) h1 h2 v1 v2 (fun a b => [a, b, fn20v]) (fun σ' a b a' b' _ _ x y => .cons x (.cons y (.cons (.func rfl .nil .nil) .nil))) (fun na nb ca cb a b => hrun us vs na nb ca cb a b l1 l2)
  · cases h

theorem gA_ok {con rest : Con} (hc : ConOK EE con) (hr0 : ConOK EE rest) {f : FuncId} {res : List Tri → List Tri → Value} (hl : ∀ us vs, leafV (res us vs) = true)
    (hrun : ∀ us vs na nb ca cb, (na = true → us = []) → (nb = true → vs = []) → us.length < 1000 → vs.length < 1000 → ∃ n H', runC EE con n (.call f [.agg ⟨[sv na 1000 us.length ca]⟩, .agg ⟨[sv nb 1001 vs.length cb]⟩]) (in2 us vs) = some (.val (res us vs), H')) :
    ConOK EE (conF f (gA res) rest) := conF_ok hr0 fun args H v h => by
  unfold gA at h
  split at h
  · obtain ⟨us, vs, h1, h2, l1, l2, rfl⟩ := two_inv h
    refine ⟨hl _ _, fun σ w args' hr hv => ?_⟩
    obtain ⟨va, r, rfl, v1, hv⟩ := hv.cons_inv
    obtain ⟨vb, r, rfl, v2, hv⟩ := hv.cons_inv
    rw [hv.nil_inv]
    have agg_inv : ∀ {s v : Value}, VR σ (.agg ⟨[s]⟩) v → ∃ s', v = .agg ⟨[s']⟩ ∧ VR σ s s' := by
      intro s v hh
      cases hh with
      | leaf h0 => simp [leafV] at h0
      | agg hc ho =>
        obtain ⟨s', r, rfl, q1, q2⟩ := hc.cons_inv
        rw [q2.nil_inv]
        exact ⟨s', rfl, q1⟩
    obtain ⟨wa, rfl, w1⟩ := agg_inv v1
    obtain ⟨wb, rfl, w2⟩ := agg_inv v2
    have all1 : ∀ a : Value, oneCell a = true → [a].all oneCell = true := fun a ha => by simp [ha]
    exact two_calls hc hr (hl _ _) h1 h2 w1 w2 (fun a b => [.agg ⟨[a]⟩, .agg ⟨[b]⟩]) (fun σ' a b a' b' p q x y => .cons (.agg (.cons x .nil) (all1 a p)) (.cons (.agg (.cons y .nil) (all1 b q)) .nil)) (fun na nb ca cb a b => hrun us vs na nb ca cb a b l1 l2)
  · cases h

/-- one analysis -/
def gO (res : List Tri → Value) (args : List Value) (H : AH) : Option Value := match args with
  | [.agg ⟨[sa]⟩] => match partsOf H sa with
    | some us => some (res us)
    | none => none
  | _ => none

theorem gO_ok {con rest : Con} (hc : ConOK EE con) (hr0 : ConOK EE rest) {f : FuncId} {res : List Tri → Value} (hl : ∀ us, leafV (res us) = true)
    (hrun : ∀ us na ca, (na = true → us = []) → ∃ n H', runC EE con n (.call f [.agg ⟨[sv na 1000 us.length ca]⟩]) (in2 us []) = some (.val (res us), H')) :
    ConOK EE (conF f (gO res) rest) := conF_ok hr0 fun args H v h => by
  unfold gO at h
  split at h
  · split at h
    case h_2 => cases h
    rename_i us h1
    cases h
    refine ⟨hl _, fun σ w args' hr hv => ?_⟩
    obtain ⟨va, r, rfl, v1, hv⟩ := hv.cons_inv
    rw [hv.nil_inv]
    cases v1 with
    | leaf h0 => simp [leafV] at h0
    | agg hcc ho =>
      obtain ⟨s', r, rfl, q1, q2⟩ := hcc.cons_inv
      rw [q2.nil_inv]
      obtain ⟨na, ca, oA, a1, a2, a3⟩ := open_sl hr h1 q1
      obtain ⟨n, H', hrun⟩ := hrun us na ca a1
      refine in_calls he hc hm (bl := [(flat us, 46), (flat [], 46)]) (ls := [oA, none]) (Nat.le_refl _) (two_locs a2 (fun L e => by cases e)) hrun (hl _) (.cons (.agg (.cons (a3 _ _ ?_) .nil) ?_) .nil)
      · intro L e; exact inS_at (i := 0) hm (by rw [e]; rfl)
      · cases na <;> rfl
  · cases h

end Go.Proofs.YtokincjfhndjaaaGreat
