/- The rounds of slices.CompareFunc. Conditions: none. -/
import Derived.Test.YtokincjfhndjaaaGreatRu2
namespace Go.Proofs.YtokincjfhndjaaaGreat
open Go Go.Am Go.Proofs

noncomputable def b19 : Code := loopOf (bodyOf Tryz.f19)
noncomputable def a19 : Code := seqL (bodyOf Tryz.f19)
noncomputable def r19 : Code := seqL (seqL (seqR (bodyOf Tryz.f19)))
noncomputable def t19 : Code := seqR (seqR (bodyOf Tryz.f19))
theorem code19 : bodyOf Tryz.f19 = .seq a19 (.seq (.seq r19 (.block 0 (.loop b19))) t19) := by kernel_rfl

def fn20v : Value := .func (.func 20) #[] #[]

def keys19 (sh : Bool) : List Nat := bif sh then [0,1,2,6,11,12,13,14,7,8,9,10,15,16,17,18,19,20,21,22,23,24,25,26,27,28,29,30,31,33] else [0,1,2,6,11,12,13]
def ov19 (sa sb : Value) (la : Nat) (x : Nat → Value) (i : Nat) : Nat → Value
  | 0 => sa
  | 1 => sb
  | 2 => fn20v
  | 6 => i64 0
  | 11 => sa
  | 12 => i64 (la : Int)
  | 13 => i64 (i : Int)
  | j => x j
def F19 (sa sb : Value) (la : Nat) (sh : Bool) (x : Nat → Value) (i : Nat) : Fr := ⟨39, false, mkL (ov19 sa sb la x i) (keys19 sh)⟩
def slots19 (sa sb : Value) (la i : Nat) : List Value := [sa, sb, fn20v, i64 0, sa, i64 (la : Int), i64 (i : Int)]
def sl19 : List Nat := [0, 1, 2, 6, 11, 12, 13]

def zer : List Value := [i64 0, i64 0, i64 0]
def hA (H : AH) : AH := H.new (.cells zer 46)
def hB (H : AH) (p : Tri) : AH := { blocks := (hA H).blocks.put H.next (some ⟨.cells (triL p) 46, H.next, true⟩), next := Nat.succ H.next, low := Nat.min H.low H.next }
def hC (H : AH) (p : Tri) : AH := hA (hB H p)
def hD (H : AH) (p q : Tri) : AH := hB (hB H p) q

def ptrA (b o : Nat) : Value := .pointer (some ⟨b, o, none⟩)

theorem preA19 (r : Nat) (H : AH) (na nb : Bool) (la ca lb cb : Nat) :
    sumOf [0, 1, 2, 6] (followA EE c21 (r + 30) a19 ⟨Nat.max Tryz.f19.ntmps 3, false, T.ofList .leaf 0 [sv na 1000 la ca, sv nb 1001 lb cb, fn20v]⟩ H []) =
    some ⟨0, [], H, [], 39, false, shape (mkL (fun _ => .bool true) [0, 1, 2, 6]), ([sv na 1000 la ca, sv nb 1001 lb cb, fn20v, i64 0] : List Value).map some⟩ := by
  cases na <;> cases nb
  all_goals kernel_rfl

theorem preB19 (r : Nat) (H : AH) (na nb : Bool) (la ca lb cb i : Nat) (x : Nat → Value) :
    sumOf sl19 (followA EE c21 (r + 30) r19 ⟨39, false, mkL (ov19 (sv na 1000 la ca) (sv nb 1001 lb cb) (ln na la) x i) [0, 1, 2, 6]⟩ H []) =
    some ⟨0, [], H, [], 39, false, shape (mkL (fun _ => .bool true) (keys19 false)), (slots19 (sv na 1000 la ca) (sv nb 1001 lb cb) (ln na la) 0).map some⟩ := by
  cases na <;> cases nb
  all_goals kernel_rfl

def tp19 (H : AH) (i : Nat) (p q : Tri) (ne : Bool) : TapeA :=
  [.val 14 (.bool true), .val 16 (ptrA 1000 (i * 3)), .val 17 (triV p), .heap (hB H p), .val 21 (.bool false),
   .val 24 (ptrA 1001 (i * 3)), .val 25 (triV q), .heap (hD H p q), .val 27 (triV p), .val 28 (triV q), .val 31 (.bool ne)]

def obl19 (H : AH) (la ca lb cb i : Nat) (p q : Tri) (ne : Bool) : List Prop :=
  [binA EE .lss 3 (.tmp 13) (.tmp 12) (i64 (i : Int)) (i64 (la : Int)) = some (.bool true),
   indexA EE 22 (sv false 1000 la ca) i = some (ptrA 1000 (i * 3)), loadA EE H 46 (ptrA 1000 (i * 3)) = some (triV p),
   storeA EE (hA H) 46 (ptrA H.next 0) (triV p) = some (hB H p),
   binA EE .geq 3 (.tmp 18) (.tmp 20) (i64 (i : Int)) (i64 (lb : Int)) = some (.bool false),
   indexA EE 22 (sv false 1001 lb cb) i = some (ptrA 1001 (i * 3)), loadA EE (hB H p) 46 (ptrA 1001 (i * 3)) = some (triV q),
   storeA EE (hC H p) 46 (ptrA (Nat.succ H.next) 0) (triV q) = some (hD H p q),
   loadA EE (hD H p q) 46 (ptrA H.next 0) = some (triV p), loadA EE (hD H p q) 46 (ptrA (Nat.succ H.next) 0) = some (triV q),
   binA EE .neq 3 (.tmp 30) (.const (i64 0)) (i64 (cmp3 p q)) (i64 0) = some (.bool ne)]

theorem go19 (r : Nat) (H : AH) (la ca lb cb i : Nat) (p q : Tri) (x : Nat → Value) (sh : Bool) :
    sumOf sl19 (followA EE c21 (r + 30) b19 (F19 (sv false 1000 la ca) (sv false 1001 lb cb) la sh x i) H (tp19 H i p q false ++ [.val 33 (i64 ((i + 1 : Nat) : Int))])) =
    some ⟨0, [], hD H p q, obl19 H la ca lb cb i p q false ++ [binA EE .add 3 (.tmp 13) (.const (i64 1)) (i64 (i : Int)) (i64 1) = some (i64 ((i + 1 : Nat) : Int))], 39, false,
      shape (mkL (fun _ => .bool true) (keys19 true)), (slots19 (sv false 1000 la ca) (sv false 1001 lb cb) la (i + 1)).map some⟩ := by
  cases sh
  · kernel_rfl
  · kernel_rfl

theorem retP19 (r : Nat) (H : AH) (la ca lb cb i : Nat) (p q : Tri) (x : Nat → Value) (sh : Bool) :
    retOf 6 (followA EE c21 (r + 30) b19 (F19 (sv false 1000 la ca) (sv false 1001 lb cb) la sh x i) H (tp19 H i p q true)) =
    some ([], hD H p q, obl19 H la ca lb cb i p q true, i64 (cmp3 p q)) := by
  cases sh
  · kernel_rfl
  · kernel_rfl

theorem retG19 (r : Nat) (H : AH) (la ca : Nat) (nb : Bool) (lb cb i : Nat) (p : Tri) (x : Nat → Value) (sh : Bool) :
    retOf 6 (followA EE c21 (r + 30) b19 (F19 (sv false 1000 la ca) (sv nb 1001 lb cb) la sh x i) H
      [.val 14 (.bool true), .val 16 (ptrA 1000 (i * 3)), .val 17 (triV p), .heap (hB H p), .val 21 (.bool true)]) =
    some ([], hB H p, [binA EE .lss 3 (.tmp 13) (.tmp 12) (i64 (i : Int)) (i64 (la : Int)) = some (.bool true),
   indexA EE 22 (sv false 1000 la ca) i = some (ptrA 1000 (i * 3)), loadA EE H 46 (ptrA 1000 (i * 3)) = some (triV p),
   storeA EE (hA H) 46 (ptrA H.next 0) (triV p) = some (hB H p),
   binA EE .geq 3 (.tmp 18) (.tmp 20) (i64 (i : Int)) (i64 ((ln nb lb : Nat) : Int)) = some (.bool true)], i64 1) := by
  cases sh <;> cases nb
  all_goals kernel_rfl

def keysE19 (sh : Bool) : List Nat := bif sh then keys19 true else [0,1,2,6,11,12,13,14]
def FE19 (sa sb : Value) (la : Nat) (sh : Bool) (x : Nat → Value) (i : Nat) : Fr := ⟨39, false, mkL (ov19 sa sb la x i) (keysE19 sh)⟩

theorem exit19 (r : Nat) (H : AH) (sa sb : Value) (la i : Nat) (x : Nat → Value) (sh : Bool) :
    sumOf sl19 (followA EE c21 (r + 30) b19 (F19 sa sb la sh x i) H [.val 14 (.bool false)]) =
    some ⟨2, [], H, [binA EE .lss 3 (.tmp 13) (.tmp 12) (i64 (i : Int)) (i64 (la : Int)) = some (.bool false)], 39, false,
      shape (mkL (fun _ => .bool true) (keysE19 sh)), (slots19 sa sb la i).map some⟩ := by
  cases sh
  · kernel_rfl
  · kernel_rfl

theorem tail19 (r : Nat) (H : AH) (na nb : Bool) (la ca lb cb i : Nat) (x : Nat → Value) (sh : Bool) (c : Bool) :
    retOf 6 (followA EE c21 (r + 30) t19 (FE19 (sv na 1000 la ca) (sv nb 1001 lb cb) (ln na la) sh x i) H [.val 38 (.bool c)]) =
    some ([], H, [binA EE .lss 3 (.tmp 35) (.tmp 37) (i64 ((ln na la : Nat) : Int)) (i64 ((ln nb lb : Nat) : Int)) = some (.bool c)], i64 (bif c then -1 else 0)) := by
  cases sh <;> cases na <;> cases nb <;> cases c
  all_goals kernel_rfl

end Go.Proofs.YtokincjfhndjaaaGreat
/- slices.CompareFunc over parts, run. Conditions: none. -/
namespace Go.Proofs.YtokincjfhndjaaaGreat
open Go Go.Am Go.Proofs

def cmpL : List Tri → List Tri → Int
  | [], [] => 0
  | [], _ :: _ => -1
  | _ :: _, [] => 1
  | p :: ps, q :: qs => if cmp3 p q = 0 then cmpL ps qs else cmp3 p q

theorem cmpL_step {us vs : List Tri} {i : Nat} {p q : Tri} (hp : us[i]? = some p) (hq : vs[i]? = some q) :
    cmpL (us.drop i) (vs.drop i) = if cmp3 p q = 0 then cmpL (us.drop (i + 1)) (vs.drop (i + 1)) else cmp3 p q := by
  obtain ⟨h1, rfl⟩ := List.getElem?_eq_some_iff.1 hp
  obtain ⟨h2, rfl⟩ := List.getElem?_eq_some_iff.1 hq
  rw [List.drop_eq_getElem_cons h1, List.drop_eq_getElem_cons h2, cmpL]

theorem cmpL_end1 {us vs : List Tri} {i : Nat} (h1 : i = us.length) (h2 : i ≤ vs.length) : cmpL (us.drop i) (vs.drop i) = bif decide (us.length < vs.length) then -1 else 0 := by
  have hu : us.drop i = [] := List.drop_eq_nil_of_le (by omega)
  rw [hu]
  by_cases h : i < vs.length
  · rw [List.drop_eq_getElem_cons h, cmpL, decide_eq_true (by omega)]; rfl
  · rw [List.drop_eq_nil_of_le (show vs.length ≤ i by omega), cmpL, decide_eq_false (by omega)]; rfl

theorem cmpL_end2 {us vs : List Tri} {i : Nat} (h1 : i < us.length) (h2 : i = vs.length) : cmpL (us.drop i) (vs.drop i) = 1 := by
  rw [List.drop_eq_getElem_cons h1, List.drop_eq_nil_of_le (show vs.length ≤ i by omega), cmpL]

/-- the two lists' blocks are there, and new ones come behind -/
structure InvH (us vs : List Tri) (H : AH) : Prop where
  a : H.blocks.get 1000 = some ⟨.cells (flat us) 46, 0, false⟩
  b : H.blocks.get 1001 = some ⟨.cells (flat vs) 46, 0, false⟩
  n : 1002 ≤ H.next

theorem hB_get (H : AH) (p : Tri) (b : Nat) : (hB H p).blocks.get b = if b = H.next then some ⟨.cells (triL p) 46, H.next, true⟩ else H.blocks.get b := by
  simp only [hB, hA, AH.new, T.get_put]
  by_cases e : b = H.next
  · rw [if_pos e, if_pos e]
  · rw [if_neg e, if_neg e, if_neg e]

theorem InvH.step {us vs : List Tri} {H : AH} (h : InvH us vs H) (p : Tri) : InvH us vs (hB H p) :=
  ⟨by rw [hB_get, if_neg (by have := h.n; omega)]; exact h.a, by rw [hB_get, if_neg (by have := h.n; omega)]; exact h.b, Nat.le_succ_of_le h.n⟩

theorem store46 (H : AH) (p : Tri) : storeA EE (hA H) 46 (ptrA H.next 0) (triV p) = some (hB H p) := by
  obtain ⟨ti, h1, h2, h3⟩ := ty46
  have hg : (hA H).blocks.get H.next = some ⟨.cells zer 46, H.next, true⟩ := by
    simp only [hA, AH.new, T.get_put, if_true]
  have hb : Nat.beq (triL p).length 3 = true := rfl
  have hs : splice zer 0 (triL p) = some (triL p) := rfl
  simp only [storeA, h1, ptrA, triV, Value.cells, h3, hb, cond_true, AH.stores, hg, hs, Option.map_some]
  rfl

theorem tri_load {H : AH} {p : Tri} {b : Nat} (hg : H.blocks.get b = some ⟨.cells (triL p) 46, b, true⟩) : loadA EE H 46 (ptrA b 0) = some (triV p) := by
  obtain ⟨ti, h1, h2, h3⟩ := ty46
  have ht : take? ((triL p).drop 0) 3 = some (triL p) := rfl
  simp only [loadA, ptrA, h1, h2, cond_true, AH.loads, hg, h3, ht, Option.map_some]
  rfl

theorem neq30 (a b : Int) : binA EE .neq 3 (.tmp 30) (.const (i64 0)) (i64 a) (i64 b) = some (.bool (!decide (a = b))) := by kernel_rfl

theorem obl19_ok {us vs : List Tri} {H : AH} (hI : InvH us vs H) {ca cb i : Nat} {p q : Tri} (hp : us[i]? = some p) (hq : vs[i]? = some q) {ne : Bool} (hne : (!decide (cmp3 p q = 0)) = ne) {R : List Prop} (hR : allP R) :
    allP (obl19 H us.length ca vs.length cb i p q ne ++ R) := by
  have h1 := (List.getElem?_eq_some_iff.1 hp).1
  have h2 := (List.getElem?_eq_some_iff.1 hq).1
  have hn := hI.n
  refine ⟨?_, index22 h1, load46 hI.a hp, store46 H p, ?_, index22 h2, load46 (hI.step p).b hq, store46 (hB H p) q, tri_load ?_, tri_load ?_, ?_, hR⟩
  · rw [lss_ok, decide_eq_true (by omega)]
  · rw [geq_ok, decide_eq_false (by omega)]
  · simp only [hD]
    have hne : H.next ≠ (hB H p).next := Nat.ne_of_lt (Nat.lt_succ_self _)
    rw [hB_get, if_neg hne, hB_get, if_pos rfl]
  · have hs : H.next.succ = (hB H p).next := rfl
    simp only [hD]
    rw [hB_get, if_pos hs]
    rfl
  · rw [neq30, hne]

theorem ov19_eq {sa sb : Value} {la : Nat} {x : Nat → Value} {i : Nat} (h : sl19.map x = slots19 sa sb la i) : ov19 sa sb la x i = x := by
  simp only [sl19, List.map_cons, List.map_nil, slots19, List.cons.injEq, and_true] at h
  obtain ⟨h0, h1, h2, h6, h11, h12, h13⟩ := h
  funext j
  unfold ov19
  split
  · exact h0.symm
  · exact h1.symm
  · exact h2.symm
  · exact h6.symm
  · exact h11.symm
  · exact h12.symm
  · exact h13.symm
  · rfl

theorem loop19 (us vs : List Tri) (na nb : Bool) (ca cb : Nat) (hna : na = true → us = []) (hnb : nb = true → vs = []) (hbig : us.length < 1000) : ∀ (r i : Nat) (sh : Bool) (x : Nat → Value) (H : AH), InvH us vs H →
    us.length - i = r → i ≤ us.length → i ≤ vs.length →
    ∃ out H', runC EE c21 (r + 31) (.code (.loop b19) (F19 (sv na 1000 us.length ca) (sv nb 1001 vs.length cb) us.length sh x i)) H = some (out, H') ∧
      ((∃ fr', out = .ex .ret fr' ∧ fr'.t.get 6 = some (i64 (cmpL (us.drop i) (vs.drop i)))) ∨
       (∃ sh' x' i', out = .ex (.exit 0) (FE19 (sv na 1000 us.length ca) (sv nb 1001 vs.length cb) us.length sh' x' i') ∧ cmpL (us.drop i) (vs.drop i) = bif decide (us.length < vs.length) then -1 else 0)) := by
  intro r
  induction r with
  | zero =>
    intro i sh x H hI hr h1 h2
    have hi : i = us.length := by omega
    obtain ⟨x', ex, g1, g2, g3⟩ := sum_run (exit19 0 H (sv na 1000 us.length ca) (sv nb 1001 vs.length cb) us.length i x sh) ⟨by rw [lss_ok, decide_eq_false (by omega)], trivial⟩
    have ge := exitE g1
    subst ge
    refine ⟨_, _, runC_loop_out (by simp) g2, .inr ⟨sh, x', i, ?_, cmpL_end1 hi h2⟩⟩
    unfold FE19
    rw [ov19_eq g3]
  | succ r ih =>
    intro i sh x H hI hr h1 h2
    have hi : i < us.length := by omega
    have hna' : na = false := by
      cases na with
      | false => rfl
      | true => rw [hna rfl] at hi; simp at hi
    subst hna'
    obtain ⟨p, hp⟩ : ∃ p, us[i]? = some p := ⟨us[i], List.getElem?_eq_getElem hi⟩
    by_cases h3 : i < vs.length
    · have hnb' : nb = false := by
        cases nb with
        | false => rfl
        | true => rw [hnb rfl] at h3; simp at h3
      subst hnb'
      obtain ⟨q, hq⟩ : ∃ q, vs[i]? = some q := ⟨vs[i], List.getElem?_eq_getElem h3⟩
      by_cases hpq : cmp3 p q = 0
      · obtain ⟨x', ex, g1, g2, g3⟩ := sum_run (go19 (r + 1) H us.length ca vs.length cb i p q x sh) (obl19_ok hI hp hq (by simp [hpq]) ⟨add3 _ _ i (by omega), trivial⟩)
        have ge := exit0 g1
        subst ge
        have hF : (⟨39, false, mkL x' (keys19 true)⟩ : Fr) = F19 (sv false 1000 us.length ca) (sv false 1001 vs.length cb) us.length true x' (i + 1) := by unfold F19; rw [ov19_eq g3]
        rw [hF] at g2
        obtain ⟨out, H', q1, q2⟩ := ih (i + 1) true x' (hD H p q) ((hI.step p).step q) (by omega) (by omega) (by omega)
        refine ⟨out, H', (runC_loop g2).trans q1, ?_⟩
        rw [cmpL_step hp hq, if_pos hpq]
        exact q2
      · have ho := obl19_ok (ca := ca) (cb := cb) hI hp hq (ne := true) (by simp [hpq]) (R := []) trivial
        rw [List.append_nil] at ho
        obtain ⟨fr', g1, g2⟩ := ret_run (retP19 (r + 1) H us.length ca vs.length cb i p q x sh) ho
        refine ⟨_, _, runC_loop_out (by simp) g1, .inl ⟨fr', rfl, ?_⟩⟩
        rw [cmpL_step hp hq, if_neg hpq]
        exact g2
    · have hi2 : i = vs.length := by omega
      obtain ⟨fr', g1, g2⟩ := ret_run (retG19 (r + 1) H us.length ca nb vs.length cb i p x sh) ⟨by rw [lss_ok, decide_eq_true (by omega)], index22 hi, load46 hI.a hp, store46 H p, by
        rw [geq_ok, decide_eq_true]
        cases nb with
        | true => simp [ln]
        | false => simp [ln]; omega, trivial⟩
      refine ⟨_, _, runC_loop_out (by simp) g1, .inl ⟨fr', rfl, ?_⟩⟩
      rw [cmpL_end2 hi hi2]
      exact g2

theorem fn19 : EE.funcs.get 19 = some Tryz.f19 := envFunc (c := bodyOf Tryz.f19) Tryz.func19 rfl (by kernel_rfl)
theorem res19 : Tryz.f19.results.toList = [.tmp 6] := by kernel_rfl

theorem in2_inv (us vs : List Tri) : InvH us vs (in2 us vs) := ⟨by kernel_rfl, by kernel_rfl, Nat.le_refl _⟩

theorem run19 (us vs : List Tri) (na nb : Bool) (ca cb : Nat) (hna : na = true → us = []) (hnb : nb = true → vs = []) (hbig : us.length < 1000) :
    ∃ H', runC EE c21 (us.length + 36) (.call 19 [sv na 1000 us.length ca, sv nb 1001 vs.length cb, fn20v]) (in2 us vs) = some (.val (i64 (cmpL us vs)), H') := by
  obtain ⟨x0, e0, p1, p2, p3⟩ := sum_run (preA19 (us.length + 4) (in2 us vs) na nb us.length ca vs.length cb) trivial
  have ge := exit0 p1
  subst ge
  have hk : mkL x0 [0, 1, 2, 6] = mkL (ov19 (sv na 1000 us.length ca) (sv nb 1001 vs.length cb) (ln na us.length) x0 0) [0, 1, 2, 6] := by
    simp only [List.map_cons, List.map_nil, List.cons.injEq, and_true] at p3
    obtain ⟨h0, h1, h2, h6⟩ := p3
    refine mkL_congr fun k hk => ?_
    simp only [List.mem_cons, List.not_mem_nil, or_false] at hk
    rcases hk with rfl | rfl | rfl | rfl
    · exact h0
    · exact h1
    · exact h2
    · exact h6
  rw [hk] at p2
  obtain ⟨x1, e1, q1, q2, q3⟩ := sum_run (preB19 (us.length + 2) (in2 us vs) na nb us.length ca vs.length cb 0 x0) trivial
  have ge := exit0 q1
  subst ge
  rw [ln_len hna] at q3
  have hF : (⟨39, false, mkL x1 (keys19 false)⟩ : Fr) = F19 (sv na 1000 us.length ca) (sv nb 1001 vs.length cb) us.length false x1 0 := by unfold F19; rw [ov19_eq q3]
  rw [hF] at q2
  obtain ⟨out, H', l1, l2⟩ := loop19 us vs na nb ca cb hna hnb hbig us.length 0 false x1 _ (in2_inv us vs) rfl (Nat.zero_le _) (Nat.zero_le _)
  simp only [List.drop_zero] at l2
  have hlen : Nat.max Tryz.f19.ntmps [sv na 1000 us.length ca, sv nb 1001 vs.length cb, fn20v].length = Nat.max Tryz.f19.ntmps 3 := rfl
  rcases l2 with ⟨fr', rfl, l3⟩ | ⟨sh', x', i', rfl, l3⟩
  · refine ⟨H', runC_call rfl fn19 (c := bodyOf Tryz.f19) rfl (e := .ret) (fr' := fr') ?_ (.inr rfl) (by rw [res19]; exact res_tmp l3)⟩
    rw [code19, hlen]
    exact runC_seq p2 (runC_seq_ret (runC_seq q2 (runC_block_ret l1)))
  · have ht := tail19 (us.length + 3) H' na nb us.length ca vs.length cb i' x' sh' (decide (us.length < vs.length))
    rw [ln_len hna, ln_len hnb] at ht
    obtain ⟨fr', g1, g2⟩ := ret_run ht ⟨by rw [lss_ok]; simp, trivial⟩
    refine ⟨H', runC_call rfl fn19 (c := bodyOf Tryz.f19) rfl (e := .ret) (fr' := fr') ?_ (.inr rfl) (by rw [res19]; refine res_tmp ?_; rw [g2, l3])⟩
    rw [code19, hlen]
    exact runC_seq p2 (runC_seq (runC_seq q2 (runC_block_exit l1)) g1)
end Go.Proofs.YtokincjfhndjaaaGreat
