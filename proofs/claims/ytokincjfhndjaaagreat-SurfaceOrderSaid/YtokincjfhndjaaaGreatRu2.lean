/- Runs of the reference's Less, us a contract. Conditions: none. -/
import Derived.Test.YtokincjfhndjaaaGreatRu1
namespace Go.Proofs.YtokincjfhndjaaaGreat
open Go Go.Am Go.Proofs

/-! ### lists of parts in cells -/
def flat : List Tri → List Value
  | [] => []
  | p :: ps => i64 p.1 :: i64 p.2.1 :: i64 p.2.2 :: flat ps

theorem flat_len : ∀ us : List Tri, (flat us).length = 3 * us.length
  | [] => rfl
  | p :: ps => by simp [flat, flat_len ps]; omega

theorem flat_leaf : ∀ us : List Tri, (flat us).all (fun v => leafV v && oneCell v) = true
  | [] => rfl
  | p :: ps => by simp only [flat, List.all_cons, flat_leaf ps]; rfl

theorem flat_take : ∀ (us : List Tri) (i : Nat) (p : Tri), us[i]? = some p → take? ((flat us).drop (i * 3)) 3 = some (triL p)
  | [], i, p, h => by simp at h
  | a :: us, 0, p, h => by
    simp at h; subst h
    rw [Nat.zero_mul, List.drop_zero]
    simp only [flat, take?, Option.map_some]
    rfl
  | a :: us, i + 1, p, h => by
    have h' : us[i]? = some p := by simpa using h
    have := flat_take us i p h'
    rw [show (i + 1) * 3 = i * 3 + 1 + 1 + 1 by omega]
    exact this

theorem ty46 : ∃ ti, EE.types.get 46 = some ti ∧ ti.agg = true ∧ ti.size = 3 := by
  have h : ((EE.types.get 46).map fun ti => (ti.agg, ti.size)) = some (true, 3) := by kernel_rfl
  simp only [Option.map_eq_some_iff, Prod.mk.injEq] at h
  obtain ⟨ti, h1, h2, h3⟩ := h
  exact ⟨ti, h1, h2, h3⟩

theorem load46 {H : AH} {b : Nat} {us : List Tri} {el : TypeId} {rt : Nat} {own : Bool} {i : Nat} {p : Tri} (hb : H.blocks.get b = some ⟨.cells (flat us) el, rt, own⟩) (hi : us[i]? = some p) :
    loadA EE H 46 (.pointer (some ⟨b, i * 3, none⟩)) = some (triV p) := by
  obtain ⟨ti, h1, h2, h3⟩ := ty46
  simp only [loadA, h1, h2, h3, cond_true, AH.loads, hb, flat_take us i p hi, Option.map_some]
  rfl

theorem index22 {b l c i : Nat} (h : i < l) : indexA EE 22 (.slice (some ⟨b, 0, none⟩) l c) i = some (.pointer (some ⟨b, i * 3, none⟩)) := by
  have h0 : ((EE.types.get 22).bind fun ti => match ti.desc with | .slice e => some e | _ => none) = some 46 := by kernel_rfl
  simp only [Option.bind_eq_some_iff] at h0
  obtain ⟨ti, h1, h2⟩ := h0
  obtain ⟨d, s1, b1, z1, a1⟩ := ti
  cases d <;> simp at h2
  subst h2
  obtain ⟨ti, g1, g2, g3⟩ := ty46
  have hle : Nat.ble (i + 1) l = true := Nat.ble_eq_true_of_le h
  simp only [indexA, h1, g1, Option.bind_some, hle, cond_true, g3, addrAdd, Nat.add_eq, Nat.mul_eq, Nat.zero_add]

theorem add3 (x y : Operand) (i : Nat) (h : i < 1000) : binA EE .add 3 x y (i64 (i : Int)) (i64 1) = some (i64 ((i + 1 : Nat) : Int)) := by
  have h0 : binA EE .add 3 x y (i64 (i : Int)) (i64 1) = some (.int .i64 (IntKind.i64.wrap ((i : Int) + 1))) := by kernel_rfl
  rw [h0, show ((i : Int) + 1) = ((i + 1 : Nat) : Int) by omega, wrap_nat (by omega)]

/-! ### frames -/
def mkL (x : Nat → Value) : List Nat → T Value
  | [] => .leaf
  | k :: ks => (mkL x ks).put k (some (x k))

def fGet (r : Fol (Out × AH)) (j : Nat) : Option Value := match r with
  | some ((.ex _ fr, _), _, _) => fr.t.get j
  | _ => none

/-- a slice of parts, or none -/
def sv (nil : Bool) (b l c : Nat) : Value := bif nil then .slice none 0 0 else .slice (some ⟨b, 0, none⟩) l c

theorem runC_loop {E : Env} {con : Con} {n : Nat} {b : Code} {fr fr' : Fr} {H H' : AH} (h : runC E con n (.code b fr) H = some (.ex .normal fr', H')) :
    runC E con (n + 1) (.code (.loop b) fr) H = runC E con n (.code (.loop b) fr') H' := by
  show body E (runC E con n) (.code (.loop b) fr) H = _
  simp only [body, h]

theorem runC_loop_out {E : Env} {con : Con} {n : Nat} {b : Code} {fr fr' : Fr} {H H' : AH} {e : AExit} (he : e ≠ .normal) (h : runC E con n (.code b fr) H = some (.ex e fr', H')) :
    runC E con (n + 1) (.code (.loop b) fr) H = some (.ex e fr', H') := by
  show body E (runC E con n) (.code (.loop b) fr) H = _
  simp only [body, h]
  cases e with
  | normal => exact absurd rfl he
  | _ => rfl

/-! ### the reference's Less -/
def loopOf : Code → Code
  | .seq a b => match loopOf a with
    | .skip => loopOf b
    | c => c
  | .block _ b => match b with
    | .loop c => c
    | _ => .skip
  | _ => .skip

noncomputable def b8 : Code := loopOf (bodyOf Tryz.f8)

def keys8 (sh : Bool) : List Nat := bif sh then [0,1,2,3,4,5,6,7,8,9,10,11,12,13,14,15,16,17,18,19,20,21,22,23,24,25,26,27,28,29,30] else [0,1,2,3,4,5]
def ov8 (x : Nat → Value) (i : Nat) : Nat → Value
  | 2 => .pointer (some ⟨1002, 0, none⟩)
  | 3 => .pointer (some ⟨1003, 0, none⟩)
  | 4 => .bool false
  | 5 => i64 (i : Int)
  | j => x j
def F8 (sh : Bool) (x : Nat → Value) (i : Nat) : Fr := ⟨49, false, mkL (ov8 x i) (keys8 sh)⟩

def H8 (us vs : List Tri) (sa sb : Value) : AH := ((inH 1000 [(flat us, 46), (flat vs, 46)]).new (.cells [sa] 24)).new (.cells [sb] 24)

def tpA (i : Nat) (p q : Tri) (ne : Bool) : TapeA := [.val 10 (.bool true), .val 16 (.bool true), .val 23 (.pointer (some ⟨1000, i * 3, none⟩)), .val 24 (triV p),
  .val 28 (.pointer (some ⟨1001, i * 3, none⟩)), .val 29 (triV q), .val 30 (.bool ne)]

end Go.Proofs.YtokincjfhndjaaaGreat
/- What a run along a path leaves, in short. Conditions: none. -/
namespace Go.Proofs.YtokincjfhndjaaaGreat
open Go Go.Am Go.Proofs

/-- which places of a trie are there, and which hold something -/
def shape {α : Type} : T α → T Unit
  | .leaf => .leaf
  | .node v l r => .node (bif v.isSome then some () else none) (shape l) (shape r)

theorem get0 {α : Type} (v : Option α) (l r : T α) : (T.node v l r).get 0 = v := rfl
theorem getL {α : Type} (v : Option α) (l r : T α) (n : Nat) : (T.node v l r).get (2 * n + 1) = l.get n := by
  have h1 : Nat.beq (2 * n + 1) 0 = false := rfl
  have h2 : Nat.beq (Nat.mod (2 * n + 1) 2) 1 = true := by
    have : (2 * n + 1) % 2 = 1 := by omega
    show Nat.beq ((2 * n + 1) % 2) 1 = true
    rw [this]; rfl
  have h3 : Nat.div (2 * n + 1) 2 = n := by
    show (2 * n + 1) / 2 = n
    omega
  simp only [T.get, h1, h2, h3, cond_true, cond_false]
theorem getR {α : Type} (v : Option α) (l r : T α) (n : Nat) : (T.node v l r).get (2 * n + 2) = r.get n := by
  have h1 : Nat.beq (2 * n + 2) 0 = false := rfl
  have h2 : Nat.beq (Nat.mod (2 * n + 2) 2) 1 = false := by
    have : (2 * n + 2) % 2 = 0 := by omega
    show Nat.beq ((2 * n + 2) % 2) 1 = false
    rw [this]; rfl
  have h3 : Nat.pred (Nat.div (2 * n + 2) 2) = n := by
    show Nat.pred ((2 * n + 2) / 2) = n
    have : (2 * n + 2) / 2 = n + 1 := by omega
    rw [this]; rfl
  simp only [T.get, h1, h2, h3, cond_false]

theorem ext_shape {α : Type} : ∀ {t t' : T α}, shape t = shape t' → (∀ j, t.get j = t'.get j) → t = t'
  | .leaf, .leaf, _, _ => rfl
  | .leaf, .node _ _ _, h, _ => by cases h
  | .node _ _ _, .leaf, h, _ => by cases h
  | .node v l r, .node v' l' r', h, hg => by
    simp only [shape, T.node.injEq] at h
    have h0 := hg 0
    rw [get0, get0] at h0
    have hl := ext_shape h.2.1 (fun n => by have := hg (2 * n + 1); rwa [getL, getL] at this)
    have hr := ext_shape h.2.2 (fun n => by have := hg (2 * n + 2); rwa [getR, getR] at this)
    rw [h0, hl, hr]

theorem shape_get {α β : Type} : ∀ {t : T α} {t' : T β}, shape t = shape t' → ∀ j, (t.get j).isSome = (t'.get j).isSome
  | .leaf, .leaf, _, _ => rfl
  | .leaf, .node _ _ _, h, _ => by cases h
  | .node _ _ _, .leaf, h, _ => by cases h
  | .node v l r, .node v' l' r', h, j => by
    simp only [shape, T.node.injEq] at h
    rcases Nat.eq_zero_or_pos j with rfl | hp
    · rw [get0, get0]
      cases v <;> cases v' <;> simp at h ⊢
    · rcases Nat.mod_two_eq_zero_or_one j with hm | hm
      · obtain ⟨n, rfl⟩ : ∃ n, j = 2 * n + 2 := ⟨j / 2 - 1, by omega⟩
        rw [getR, getR]; exact shape_get h.2.2 n
      · obtain ⟨n, rfl⟩ : ∃ n, j = 2 * n + 1 := ⟨j / 2, by omega⟩
        rw [getL, getL]; exact shape_get h.2.1 n

theorem shape_set {α : Type} : ∀ (d : Nat) (t t' : T α) (n : Nat) (v v' : Option α), shape t = shape t' → v.isSome = v'.isSome → shape (T.set d t n v) = shape (T.set d t' n v')
  | 0, t, t', n, v, v', h, _ => by simpa [T.set] using h
  | d + 1, .leaf, .leaf, n, v, v', _, hv => by
    simp only [T.set]
    cases Nat.beq n 0 with
    | true => simp [shape, hv]
    | false =>
      cases Nat.beq (Nat.mod n 2) 1 with
      | true => simp only [cond_true, cond_false, shape, shape_set d .leaf .leaf _ v v' rfl hv]
      | false => simp only [cond_false, shape, shape_set d .leaf .leaf _ v v' rfl hv]
  | d + 1, .leaf, .node _ _ _, n, v, v', h, _ => by cases h
  | d + 1, .node _ _ _, .leaf, n, v, v', h, _ => by cases h
  | d + 1, .node u l r, .node u' l' r', n, v, v', h, hv => by
    simp only [shape, T.node.injEq] at h
    simp only [T.set]
    cases Nat.beq n 0 with
    | true => simp [shape, hv, h.2.1, h.2.2]
    | false =>
      cases Nat.beq (Nat.mod n 2) 1 with
      | true => simp only [cond_true, cond_false, shape, shape_set d l l' _ v v' h.2.1 hv, h.1, h.2.2]
      | false => simp only [cond_false, shape, shape_set d r r' _ v v' h.2.2 hv, h.1, h.2.1]

theorem mkL_shape (x y : Nat → Value) : ∀ ks : List Nat, shape (mkL x ks) = shape (mkL y ks)
  | [] => rfl
  | k :: ks => shape_set _ _ _ _ _ _ (mkL_shape x y ks) rfl

theorem mkL_get (x : Nat → Value) : ∀ (ks : List Nat) (j : Nat), (mkL x ks).get j = if j ∈ ks then some (x j) else none
  | [], j => by simp [mkL, T.get]
  | k :: ks, j => by
    rw [mkL, T.get_put, mkL_get x ks j]
    by_cases e : j = k
    · subst e; simp
    · rw [if_neg e]; simp [e]

theorem of_shape {t : T Value} {ks : List Nat} (h : shape t = shape (mkL (fun _ => .bool true) ks)) : t = mkL (fun j => (t.get j).getD (.bool true)) ks := by
  have hs : ∀ j, (t.get j).isSome = decide (j ∈ ks) := fun j => by
    rw [shape_get h j, mkL_get]
    by_cases e : j ∈ ks <;> simp [e]
  refine ext_shape ?_ ?_
  · rw [h]
    exact mkL_shape _ _ ks
  · intro j
    rw [mkL_get]
    have := hs j
    by_cases e : j ∈ ks
    · rw [if_pos e]
      simp only [e, decide_true] at this
      obtain ⟨v, hv⟩ := Option.isSome_iff_exists.1 this
      rw [hv]; rfl
    · rw [if_neg e]
      simp only [e, decide_false] at this
      exact Option.isNone_iff_eq_none.1 (by cases hh : t.get j <;> simp_all)

/-- what is left: the way out, the tape's rest, the heap, what is claimed, the frame's shape and some slots -/
structure Sum where
  exit : Nat
  rest : TapeA
  heap : AH
  obl : List Prop
  sz : Nat
  rd : Bool
  shp : T Unit
  slots : List (Option Value)

def exitNo : AExit → Nat
  | .normal => 0
  | .ret => 1
  | .exit id => id + 2

def sumOf (sl : List Nat) (r : Fol (Out × AH)) : Option Sum := match r with
  | some ((.ex e fr, H), tp, P) => some ⟨exitNo e, tp, H, P, fr.sz, fr.rd, shape fr.t, sl.map fr.t.get⟩
  | _ => none

/-- a run along a path, of which the short form is known -/
theorem sum_run {con : Con} {n : Nat} {c : Code} {fr : Fr} {H : AH} {tp : TapeA} {sl ks : List Nat} {e sz : Nat} {rd : Bool} {H' : AH} {P : List Prop} {vs : List Value}
    (h : sumOf sl (followA EE con n c fr H tp) = some ⟨e, [], H', P, sz, rd, shape (mkL (fun _ => .bool true) ks), vs.map some⟩) (hP : allP P) :
    ∃ x ex, exitNo ex = e ∧ runC EE con n (.code c fr) H = some (.ex ex ⟨sz, rd, mkL x ks⟩, H') ∧ sl.map x = vs := by
  unfold sumOf at h
  split at h
  case h_2 => cases h
  rename_i ex fr' H1 tp1 P1 hr
  simp only [Option.some.injEq, Sum.mk.injEq] at h
  obtain ⟨h1, h2, h3, h4, h5, h6, h7, h8⟩ := h
  subst h3 h4
  have ht := of_shape h7
  refine ⟨fun j => (fr'.t.get j).getD (.bool true), ex, h1, ?_, ?_⟩
  rotate_left
  · have := congrArg (List.map fun o : Option Value => o.getD (.bool true)) h8
    simpa [Function.comp_def] using this
  have := followA_ok hr hP
  rw [this]
  obtain ⟨s, d, t⟩ := fr'
  simp only at h5 h6 ht
  subst h5 h6
  rw [← ht]

end Go.Proofs.YtokincjfhndjaaaGreat
/- The rounds of the reference's Less. Conditions: none. -/
namespace Go.Proofs.YtokincjfhndjaaaGreat
open Go Go.Am Go.Proofs

def slots8 (i : Nat) : List Value := [.pointer (some ⟨1002, 0, none⟩), .pointer (some ⟨1003, 0, none⟩), .bool false, i64 (i : Int)]

def obl8 (us vs : List Tri) (la ca lb cb i : Nat) (p q : Tri) (ne : Bool) : List Prop :=
  [binA EE .lss 3 (.tmp 6) (.tmp 9) (i64 (i : Int)) (i64 (la : Int)) = some (.bool true), binA EE .lss 3 (.tmp 12) (.tmp 15) (i64 (i : Int)) (i64 (lb : Int)) = some (.bool true),
   indexA EE 22 (sv false 1000 la ca) i = some (.pointer (some ⟨1000, i * 3, none⟩)), loadA EE (hideH (H8 us vs (sv false 1000 la ca) (sv false 1001 lb cb)) []) 46 (.pointer (some ⟨1000, i * 3, none⟩)) = some (triV p),
   indexA EE 22 (sv false 1001 lb cb) i = some (.pointer (some ⟨1001, i * 3, none⟩)), loadA EE (hideH (H8 us vs (sv false 1000 la ca) (sv false 1001 lb cb)) []) 46 (.pointer (some ⟨1001, i * 3, none⟩)) = some (triV q),
   binA EE .neq 46 (.tmp 24) (.tmp 29) (triV p) (triV q) = some (.bool ne)]

theorem go8 (r : Nat) (us vs : List Tri) (la ca lb cb i : Nat) (p q : Tri) (x : Nat → Value) (sh : Bool) :
    sumOf [2, 3, 4, 5] (followA EE c21 (r + 30) b8 (F8 sh x i) (H8 us vs (sv false 1000 la ca) (sv false 1001 lb cb)) (tpA i p q false ++ [.val 19 (i64 ((i + 1 : Nat) : Int))])) =
    some ⟨0, [], H8 us vs (sv false 1000 la ca) (sv false 1001 lb cb),
      obl8 us vs la ca lb cb i p q false ++ [binA EE .add 3 (.tmp 18) (.const (i64 1)) (i64 (i : Int)) (i64 1) = some (i64 ((i + 1 : Nat) : Int))], 49, false,
      shape (mkL (fun _ => .bool true) (keys8 true)), (slots8 (i + 1)).map some⟩ := by
  cases sh
  · kernel_rfl
  · kernel_rfl

def keysE8 (sh : Bool) : List Nat := bif sh then keys8 true else [0,1,2,3,4,5,6,7,8,9,10,11,12,13,14,15,16,17]
def FE8 (sh : Bool) (x : Nat → Value) (i : Nat) : Fr := ⟨49, false, mkL (ov8 x i) (keysE8 sh)⟩
def ln (nil : Bool) (l : Nat) : Nat := bif nil then 0 else l

theorem exitA8 (r : Nat) (us vs : List Tri) (na : Bool) (la ca i : Nat) (sb : Value) (x : Nat → Value) (sh : Bool) :
    sumOf [2, 3, 4, 5] (followA EE c21 (r + 30) b8 (F8 sh x i) (H8 us vs (sv na 1000 la ca) sb) [.val 10 (.bool false)]) =
    some ⟨2, [], H8 us vs (sv na 1000 la ca) sb, [binA EE .lss 3 (.tmp 6) (.tmp 9) (i64 (i : Int)) (i64 ((ln na la : Nat) : Int)) = some (.bool false)], 49, false,
      shape (mkL (fun _ => .bool true) (keysE8 sh)), (slots8 i).map some⟩ := by
  cases sh <;> cases na
  · kernel_rfl
  · kernel_rfl
  · kernel_rfl
  · kernel_rfl

theorem exitB8 (r : Nat) (us vs : List Tri) (nb : Bool) (la ca lb cb i : Nat) (x : Nat → Value) (sh : Bool) :
    sumOf [2, 3, 4, 5] (followA EE c21 (r + 30) b8 (F8 sh x i) (H8 us vs (sv false 1000 la ca) (sv nb 1001 lb cb)) [.val 10 (.bool true), .val 16 (.bool false)]) =
    some ⟨2, [], H8 us vs (sv false 1000 la ca) (sv nb 1001 lb cb), [binA EE .lss 3 (.tmp 6) (.tmp 9) (i64 (i : Int)) (i64 (la : Int)) = some (.bool true), binA EE .lss 3 (.tmp 12) (.tmp 15) (i64 (i : Int)) (i64 ((ln nb lb : Nat) : Int)) = some (.bool false)], 49, false,
      shape (mkL (fun _ => .bool true) (keysE8 sh)), (slots8 i).map some⟩ := by
  cases sh <;> cases nb
  · kernel_rfl
  · kernel_rfl
  · kernel_rfl
  · kernel_rfl

/-- a run along a path that returns: what one slot holds -/
def retOf (t : Nat) (r : Fol (Out × AH)) : Option (TapeA × AH × List Prop × Value) := match r with
  | some ((.ex .ret fr, H), tp, P) => (fr.t.get t).map fun v => (tp, H, P, v)
  | _ => none

theorem ret_run {con : Con} {n : Nat} {c : Code} {fr : Fr} {H : AH} {tp : TapeA} {t : Nat} {H' : AH} {P : List Prop} {v : Value}
    (h : retOf t (followA EE con n c fr H tp) = some ([], H', P, v)) (hP : allP P) :
    ∃ fr', runC EE con n (.code c fr) H = some (.ex .ret fr', H') ∧ fr'.t.get t = some v := by
  unfold retOf at h
  split at h
  case h_2 => cases h
  rename_i fr' H1 tp1 P1 hr
  simp only [Option.map_eq_some_iff, Prod.mk.injEq] at h
  obtain ⟨v', h1, h2, h3, h4, h5⟩ := h
  subst h3 h4 h5
  exact ⟨fr', followA_ok hr hP, h1⟩

theorem retP8 (r : Nat) (us vs : List Tri) (la ca lb cb i : Nat) (p q : Tri) (x : Nat → Value) (sh : Bool) :
    retOf 4 (followA EE c21 (r + 30) b8 (F8 sh x i) (H8 us vs (sv false 1000 la ca) (sv false 1001 lb cb))
      (tpA i p q true ++ [.val 34 (.pointer (some ⟨1000, i * 3, none⟩)), .val 35 (triV p), .val 39 (.pointer (some ⟨1001, i * 3, none⟩)), .val 40 (triV q)])) =
    some ([], H8 us vs (sv false 1000 la ca) (sv false 1001 lb cb), obl8 us vs la ca lb cb i p q true ++
      [indexA EE 22 (sv false 1000 la ca) i = some (.pointer (some ⟨1000, i * 3, none⟩)), loadA EE (hideH (H8 us vs (sv false 1000 la ca) (sv false 1001 lb cb)) []) 46 (.pointer (some ⟨1000, i * 3, none⟩)) = some (triV p),
       indexA EE 22 (sv false 1001 lb cb) i = some (.pointer (some ⟨1001, i * 3, none⟩)), loadA EE (hideH (H8 us vs (sv false 1000 la ca) (sv false 1001 lb cb)) []) 46 (.pointer (some ⟨1001, i * 3, none⟩)) = some (triV q)],
      .bool (lt3 p q)) := by
  cases sh
  · kernel_rfl
  · kernel_rfl

def seqL : Code → Code | .seq a _ => a | _ => .skip
def seqR : Code → Code | .seq _ b => b | _ => .skip
noncomputable def a8 : Code := seqL (bodyOf Tryz.f8)
noncomputable def r8 : Code := seqL (seqL (seqR (bodyOf Tryz.f8)))
noncomputable def t8 : Code := seqR (seqR (bodyOf Tryz.f8))
theorem code8 : bodyOf Tryz.f8 = .seq a8 (.seq (.seq r8 (.block 0 (.loop b8))) t8) := by kernel_rfl

def in2 (us vs : List Tri) : AH := inH 1000 [(flat us, 46), (flat vs, 46)]

theorem preA8 (r : Nat) (us vs : List Tri) (na nb : Bool) (la ca lb cb : Nat) :
    sumOf [2, 3, 4] (followA EE c21 (r + 30) a8 ⟨Nat.max Tryz.f8.ntmps 2, false, T.ofList .leaf 0 [.agg ⟨[sv na 1000 la ca]⟩, .agg ⟨[sv nb 1001 lb cb]⟩]⟩ (in2 us vs) []) =
    some ⟨0, [], H8 us vs (sv na 1000 la ca) (sv nb 1001 lb cb), [], 49, false, shape (mkL (fun _ => .bool true) [0, 1, 2, 3, 4]),
      ([.pointer (some ⟨1002, 0, none⟩), .pointer (some ⟨1003, 0, none⟩), .bool false] : List Value).map some⟩ := by
  cases na <;> cases nb
  · kernel_rfl
  · kernel_rfl
  · kernel_rfl
  · kernel_rfl

theorem preB8 (r : Nat) (us vs : List Tri) (sa sb : Value) (x : Nat → Value) :
    sumOf [2, 3, 4, 5] (followA EE c21 (r + 30) r8 ⟨49, false, mkL (ov8 x 0) [0, 1, 2, 3, 4]⟩ (H8 us vs sa sb) []) =
    some ⟨0, [], H8 us vs sa sb, [], 49, false, shape (mkL (fun _ => .bool true) (keys8 false)), (slots8 0).map some⟩ := by kernel_rfl

theorem tail8 (r : Nat) (us vs : List Tri) (na nb : Bool) (la ca lb cb i : Nat) (x : Nat → Value) (sh : Bool) :
    retOf 4 (followA EE c21 (r + 30) t8 (FE8 sh x i) (H8 us vs (sv na 1000 la ca) (sv nb 1001 lb cb)) []) =
    some ([], H8 us vs (sv na 1000 la ca) (sv nb 1001 lb cb), [], .bool (decide (((ln na la : Nat) : Int) < ((ln nb lb : Nat) : Int)))) := by
  cases sh <;> cases na <;> cases nb
  all_goals kernel_rfl
end Go.Proofs.YtokincjfhndjaaaGreat
/- The reference's Less, as a contract. Conditions: none. -/
namespace Go.Proofs.YtokincjfhndjaaaGreat
open Go Go.Am Go.Proofs

section
variable {E : Env} {con : Con} {n : Nat} {fr fr' fr2 : Fr} {H H' H2 : AH}

theorem runC_seq {a b : Code} {out : Out} (h1 : runC E con n (.code a fr) H = some (.ex .normal fr', H')) (h2 : runC E con n (.code b fr') H' = some (out, H2)) :
    runC E con (n + 1) (.code (.seq a b) fr) H = some (out, H2) := by
  show body E (runC E con n) (.code (.seq a b) fr) H = _
  simp only [body, h1, h2]

theorem runC_seq_ret {a b : Code} (h1 : runC E con n (.code a fr) H = some (.ex .ret fr', H')) : runC E con (n + 1) (.code (.seq a b) fr) H = some (.ex .ret fr', H') := by
  show body E (runC E con n) (.code (.seq a b) fr) H = _
  simp only [body, h1]

theorem runC_block_exit {id : Nat} {b : Code} (h1 : runC E con n (.code b fr) H = some (.ex (.exit id) fr', H')) : runC E con (n + 1) (.code (.block id b) fr) H = some (.ex .normal fr', H') := by
  show body E (runC E con n) (.code (.block id b) fr) H = _
  have : Nat.beq id id = true := Nat.beq_refl id
  simp only [body, h1, this, cond_true]

theorem runC_block_ret {id : Nat} {b : Code} (h1 : runC E con n (.code b fr) H = some (.ex .ret fr', H')) : runC E con (n + 1) (.code (.block id b) fr) H = some (.ex .ret fr', H') := by
  show body E (runC E con n) (.code (.block id b) fr) H = _
  simp only [body, h1]
end

theorem exit0 {e : AExit} (h : exitNo e = 0) : e = .normal := by cases e <;> simp [exitNo] at h ⊢
theorem exitE {e : AExit} {k : Nat} (h : exitNo e = k + 2) : e = .exit k := by cases e <;> simp [exitNo] at h ⊢; exact h

theorem mkL_congr {x y : Nat → Value} : ∀ {ks : List Nat}, (∀ k ∈ ks, x k = y k) → mkL x ks = mkL y ks
  | [], _ => rfl
  | k :: ks, h => by
    rw [mkL, mkL, mkL_congr (fun j hj => h j (List.mem_cons_of_mem _ hj)), h k List.mem_cons_self]

/-- the lexicographic order -/
def ltL : List Tri → List Tri → Bool
  | [], [] => false
  | [], _ :: _ => true
  | _ :: _, [] => false
  | p :: ps, q :: qs => if p = q then ltL ps qs else lt3 p q

theorem ltL_step {us vs : List Tri} {i : Nat} {p q : Tri} (hp : us[i]? = some p) (hq : vs[i]? = some q) : ltL (us.drop i) (vs.drop i) = if p = q then ltL (us.drop (i + 1)) (vs.drop (i + 1)) else lt3 p q := by
  obtain ⟨h1, rfl⟩ := List.getElem?_eq_some_iff.1 hp
  obtain ⟨h2, rfl⟩ := List.getElem?_eq_some_iff.1 hq
  rw [List.drop_eq_getElem_cons h1, List.drop_eq_getElem_cons h2, ltL]

theorem ltL_end1 {us vs : List Tri} {i : Nat} (h1 : i = us.length) (h2 : i ≤ vs.length) : ltL (us.drop i) (vs.drop i) = decide (us.length < vs.length) := by
  have hu : us.drop i = [] := List.drop_eq_nil_of_le (by omega)
  rw [hu]
  by_cases h : i < vs.length
  · rw [List.drop_eq_getElem_cons h, ltL, decide_eq_true (by omega)]
  · rw [List.drop_eq_nil_of_le (show vs.length ≤ i by omega), ltL, decide_eq_false (by omega)]

theorem ltL_end2 {us vs : List Tri} {i : Nat} (h1 : i < us.length) (h2 : i = vs.length) : ltL (us.drop i) (vs.drop i) = decide (us.length < vs.length) := by
  rw [List.drop_eq_getElem_cons h1, List.drop_eq_nil_of_le (show vs.length ≤ i by omega), ltL, decide_eq_false (by omega)]

theorem H8_get0 (us vs : List Tri) (sa sb : Value) : (H8 us vs sa sb).blocks.get 1000 = some ⟨.cells (flat us) 46, 0, false⟩ := by kernel_rfl
theorem H8_get1 (us vs : List Tri) (sa sb : Value) : (H8 us vs sa sb).blocks.get 1001 = some ⟨.cells (flat vs) 46, 0, false⟩ := by kernel_rfl

theorem ov8_eq {x : Nat → Value} {i : Nat} (h : [2, 3, 4, 5].map x = slots8 i) : ov8 x i = x := by
  simp only [List.map_cons, List.map_nil, slots8, List.cons.injEq, and_true] at h
  obtain ⟨h2, h3, h4, h5⟩ := h
  funext j
  unfold ov8
  split
  · exact h2.symm
  · exact h3.symm
  · exact h4.symm
  · exact h5.symm
  · rfl

theorem obl8_ok {us vs : List Tri} {ca cb i : Nat} {p q : Tri} (hp : us[i]? = some p) (hq : vs[i]? = some q) {ne : Bool} (hne : (!decide (p = q)) = ne) {R : List Prop} (hR : allP R) :
    allP (obl8 us vs us.length ca vs.length cb i p q ne ++ R) := by
  have h1 := (List.getElem?_eq_some_iff.1 hp).1
  have h2 := (List.getElem?_eq_some_iff.1 hq).1
  refine ⟨?_, ?_, index22 h1, load46 (H8_get0 us vs _ _) hp, index22 h2, load46 (H8_get1 us vs _ _) hq, ?_, hR⟩
  · rw [lss_ok, decide_eq_true (by omega)]
  · rw [lss_ok, decide_eq_true (by omega)]
  · rw [neq46, hne]

theorem loop8 (us vs : List Tri) (na nb : Bool) (ca cb : Nat) (hna : na = true → us = []) (hnb : nb = true → vs = []) (hbig : us.length < 1000) : ∀ (r i : Nat) (sh : Bool) (x : Nat → Value), us.length - i = r → i ≤ us.length → i ≤ vs.length →
    ∃ out, runC EE c21 (r + 31) (.code (.loop b8) (F8 sh x i)) (H8 us vs (sv na 1000 us.length ca) (sv nb 1001 vs.length cb)) = some (out, H8 us vs (sv na 1000 us.length ca) (sv nb 1001 vs.length cb)) ∧
      ((∃ fr', out = .ex .ret fr' ∧ fr'.t.get 4 = some (.bool (ltL (us.drop i) (vs.drop i)))) ∨
       (∃ sh' x' i', out = .ex (.exit 0) (FE8 sh' x' i') ∧ ltL (us.drop i) (vs.drop i) = decide (us.length < vs.length))) := by
  intro r
  induction r with
  | zero =>
    intro i sh x hr h1 h2
    have hi : i = us.length := by omega
    obtain ⟨x', ex, g1, g2, g3⟩ := sum_run (exitA8 0 us vs na us.length ca i (sv nb 1001 vs.length cb) x sh) ⟨by
      rw [lss_ok, decide_eq_false]
      cases na with
      | true => simp [ln]
      | false => simp [ln]; omega, trivial⟩
    have ge := exitE g1
    subst ge
    refine ⟨_, runC_loop_out (by simp) g2, .inr ⟨sh, x', i, ?_, ltL_end1 hi h2⟩⟩
    unfold FE8
    rw [ov8_eq g3]
  | succ r ih =>
    intro i sh x hr h1 h2
    have hi : i < us.length := by omega
    have hna' : na = false := by
      cases na with
      | false => rfl
      | true => rw [hna rfl] at hi; simp at hi
    subst hna'
    obtain ⟨p, hp⟩ : ∃ p, us[i]? = some p := ⟨us[i], List.getElem?_eq_getElem hi⟩
    by_cases h3 : i < vs.length
    · have hnb' : nb = false := by
        cases nb with
        | false => rfl
        | true => rw [hnb rfl] at h3; simp at h3
      subst hnb'
      obtain ⟨q, hq⟩ : ∃ q, vs[i]? = some q := ⟨vs[i], List.getElem?_eq_getElem h3⟩
      by_cases hpq : p = q
      · obtain ⟨x', ex, g1, g2, g3⟩ := sum_run (go8 (r + 1) us vs us.length ca vs.length cb i p q x sh) (obl8_ok hp hq (by simp [hpq]) ⟨add3 _ _ i (by omega), trivial⟩)
        have ge := exit0 g1
        subst ge
        have hF : (⟨49, false, mkL x' (keys8 true)⟩ : Fr) = F8 true x' (i + 1) := by unfold F8; rw [ov8_eq g3]
        rw [hF] at g2
        obtain ⟨out, q1, q2⟩ := ih (i + 1) true x' (by omega) (by omega) (by omega)
        refine ⟨out, (runC_loop g2).trans q1, ?_⟩
        rw [ltL_step hp hq, if_pos hpq]
        exact q2
      · obtain ⟨fr', g1, g2⟩ := ret_run (retP8 (r + 1) us vs us.length ca vs.length cb i p q x sh)
          (obl8_ok hp hq (by simp [hpq]) ⟨index22 hi, load46 (H8_get0 us vs _ _) hp, index22 h3, load46 (H8_get1 us vs _ _) hq, trivial⟩)
        refine ⟨_, runC_loop_out (by simp) g1, .inl ⟨fr', rfl, ?_⟩⟩
        rw [ltL_step hp hq, if_neg hpq]
        exact g2
    · have hi2 : i = vs.length := by omega
      obtain ⟨x', ex, g1, g2, g3⟩ := sum_run (exitB8 (r + 1) us vs nb us.length ca vs.length cb i x sh) ⟨by rw [lss_ok, decide_eq_true (by omega)], by
        rw [lss_ok, decide_eq_false]
        cases nb with
        | true => simp [ln]
        | false => simp [ln]; omega, trivial⟩
      have ge := exitE g1
      subst ge
      refine ⟨_, runC_loop_out (by simp) g2, .inr ⟨sh, x', i, ?_, ltL_end2 hi hi2⟩⟩
      unfold FE8
      rw [ov8_eq g3]

theorem fn8 : EE.funcs.get 8 = some Tryz.f8 := envFunc (c := bodyOf Tryz.f8) Tryz.func8 rfl (by kernel_rfl)
theorem nt8 : Tryz.f8.ntmps = 49 := Tryz.ntmps8
theorem res8 : Tryz.f8.results.toList = [.tmp 4] := by kernel_rfl

theorem res_tmp {E : Env} {fr : Fr} {H : AH} {t : Nat} {v : Value} (h : fr.t.get t = some v) : resultA E fr H [.tmp t] = some [v] := by
  simp [resultA, h]

theorem ln_len {na : Bool} {us : List Tri} (h : na = true → us = []) : ln na us.length = us.length := by
  cases na with
  | false => rfl
  | true => rw [h rfl]; rfl

theorem run8 (us vs : List Tri) (na nb : Bool) (ca cb : Nat) (hna : na = true → us = []) (hnb : nb = true → vs = []) (hbig : us.length < 1000) :
    ∃ H', runC EE c21 (us.length + 36) (.call 8 [.agg ⟨[sv na 1000 us.length ca]⟩, .agg ⟨[sv nb 1001 vs.length cb]⟩]) (in2 us vs) = some (.val (.bool (ltL us vs)), H') := by
  obtain ⟨x0, e0, p1, p2, p3⟩ := sum_run (preA8 (us.length + 4) us vs na nb us.length ca vs.length cb) trivial
  have ge := exit0 p1
  subst ge
  have hk : mkL x0 [0, 1, 2, 3, 4] = mkL (ov8 x0 0) [0, 1, 2, 3, 4] := by
    simp only [List.map_cons, List.map_nil, List.cons.injEq, and_true] at p3
    obtain ⟨h2, h3, h4⟩ := p3
    refine mkL_congr fun k hk => ?_
    simp only [List.mem_cons, List.not_mem_nil, or_false] at hk
    rcases hk with rfl | rfl | rfl | rfl | rfl
    · rfl
    · rfl
    · exact h2
    · exact h3
    · exact h4
  rw [hk] at p2
  obtain ⟨x1, e1, q1, q2, q3⟩ := sum_run (preB8 (us.length + 2) us vs (sv na 1000 us.length ca) (sv nb 1001 vs.length cb) x0) trivial
  have ge := exit0 q1
  subst ge
  have hF : (⟨49, false, mkL x1 (keys8 false)⟩ : Fr) = F8 false x1 0 := by unfold F8; rw [ov8_eq q3]
  rw [hF] at q2
  obtain ⟨out, l1, l2⟩ := loop8 us vs na nb ca cb hna hnb hbig us.length 0 false x1 rfl (Nat.zero_le _) (Nat.zero_le _)
  simp only [List.drop_zero] at l2
  have hlen : Nat.max Tryz.f8.ntmps [Value.agg ⟨[sv na 1000 us.length ca]⟩, .agg ⟨[sv nb 1001 vs.length cb]⟩].length = Nat.max Tryz.f8.ntmps 2 := rfl
  rcases l2 with ⟨fr', rfl, l3⟩ | ⟨sh', x', i', rfl, l3⟩
  · refine ⟨H8 us vs (sv na 1000 us.length ca) (sv nb 1001 vs.length cb), runC_call rfl fn8 (c := bodyOf Tryz.f8) rfl (e := .ret) (fr' := fr') ?_ (.inr rfl) (by rw [res8]; exact res_tmp l3)⟩
    rw [code8, hlen]
    exact runC_seq p2 (runC_seq_ret (runC_seq q2 (runC_block_ret l1)))
  · obtain ⟨fr', g1, g2⟩ := ret_run (tail8 (us.length + 3) us vs na nb us.length ca vs.length cb i' x' sh') trivial
    refine ⟨H8 us vs (sv na 1000 us.length ca) (sv nb 1001 vs.length cb), runC_call rfl fn8 (c := bodyOf Tryz.f8) rfl (e := .ret) (fr' := fr') ?_ (.inr rfl) (by rw [res8]; refine res_tmp ?_; rw [g2, ln_len hna, ln_len hnb, l3]; simp)⟩
    rw [code8, hlen]
    exact runC_seq p2 (runC_seq (runC_seq q2 (runC_block_exit l1)) g1)

end Go.Proofs.YtokincjfhndjaaaGreat
