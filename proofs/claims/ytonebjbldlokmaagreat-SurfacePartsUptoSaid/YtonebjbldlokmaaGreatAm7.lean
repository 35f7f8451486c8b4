/- Runs along a given path: what is claimed of single operations is collected. Conditions: none. -/
import Derived.Test.YtonebjbldlokmaaGreatAm6
namespace Go.Am
open Go
/-- what must hold for an operation to give a value, the heap as it was -/
def oblA (E : Env) (ih : Cmd → AH → Res) (fr : Fr) (o : Oper) (H : AH) (v : Value) : Prop := match o.op with
  | .binOp op t x y _ => match ev E fr x, ev E fr y with
    | some a, some b => binA E op t x y a b = some v
    | _, _ => False
  | .load t x => match ev E fr x with
    | some a => loadA E H t a = some v
    | none => False
  | .indexAddr t x i => match ev E fr x, (ev E fr i).bind nat? with
    | some a, some n => indexA E t a n = some v
    | _, _ => False
  | .call c => match callA E fr H c with
    | some (.enter f args, H') => ih (.call f args) H' = some (.val v, H)
    | _ => False
  | _ => False
/-- what must hold for a store to leave a heap -/
def oblS (E : Env) (fr : Fr) (o : Oper) (H H' : AH) : Prop := match o.op with
  | .call c => match c.callee with
    | .builtin _ => callA E fr H c = some (.val (.tuple #[]), H')
    | _ => False
  | .store t x y => match ev E fr x, ev E fr y with
    | some _, some (.tuple _) => False
    | some a, some v => storeA E H t a v = some H'
    | _, _ => False
  | _ => False
/-- what must hold for a call to give a value and to leave a heap -/
def oblC (E : Env) (ih : Cmd → AH → Res) (fr : Fr) (o : Oper) (H : AH) (v : Value) (H' : AH) : Prop := match o.op with
  | .call c => match c.callee with
    | .builtin _ => callA E fr H c = some (.val v, H')
    | _ => match callA E fr H c with
      | some (.enter f args, H1) => ih (.call f args) H1 = some (.val v, H')
      | _ => False
  | _ => False
theorem oblA_exec {E : Env} {ih : Cmd → AH → Res} {fr : Fr} {o : Oper} {H : AH} {v : Value} (h : oblA E ih fr o H v) : execA E ih fr o H = some (v, H) := by
  unfold oblA at h
  unfold execA aop
  split at h
  · rename_i op t x y ty ho
    rw [ho]
    split at h
    · rename_i a b h1 h2
      simp only [h1, h2, h, one, Option.map_some]
    · cases h
  · rename_i t x ho
    rw [ho]
    split at h
    · rename_i a h1
      simp only [h1, h, one, Option.map_some]
    · cases h
  · rename_i t x i ho
    rw [ho]
    split at h
    · rename_i a n h1 h2
      simp only [h1, h2, h, one, Option.map_some]
    · cases h
  · rename_i c ho
    rw [ho]
    split at h
    · rename_i f args H' h1
      simp only [h1, h]
    · cases h
  · cases h
theorem execR_of {E : Env} {ih : Cmd → AH → Res} {fr : Fr} {o : Oper} {H : AH} {r : Value × AH} (h : execA E ih fr o H = some r) : execR E ih fr o H = some r := by
  unfold execR
  split
  · rename_i h1
    unfold execA at h
    rw [h1] at h
    cases h
  · exact h
theorem oblC_exec {E : Env} {ih : Cmd → AH → Res} {fr : Fr} {o : Oper} {H H' : AH} {v : Value} (h : oblC E ih fr o H v H') : execA E ih fr o H = some (v, H') := by
  unfold oblC at h
  unfold execA aop
  split at h
  · rename_i c ho
    rw [ho]
    split at h
    · simp only [h]
    · split at h
      · rename_i f args H1 h1
        simp only [h1, h]
      · cases h
  · cases h
theorem oblS_exec {E : Env} {ih : Cmd → AH → Res} {fr : Fr} {o : Oper} {H H' : AH} (h : oblS E fr o H H') : execA E ih fr o H = some (.tuple #[], H') := by
  unfold oblS at h
  unfold execA aop
  split at h
  · rename_i c ho
    rw [ho]
    split at h
    · simp only [h]
    · cases h
  · rename_i t x y ho
    rw [ho]
    split at h
    · cases h
    · rename_i a v hn h1 h2
      simp only [h1, h2, h, Option.map_some]
    · cases h
  · cases h
inductive Claim where
  | val (d : Nat) (v : Value)
  | heap (H : AH)
  | both (d : Nat) (v : Value) (H : AH)
abbrev TapeA := List Claim
inductive Cl where
  | no
  | val (v : Value) (tp : TapeA)
  | heap (H : AH) (tp : TapeA)
  | both (v : Value) (H : AH) (tp : TapeA)
def claimA (o : Oper) (tp : TapeA) : Cl := match o.dst, tp with
  | some d, .val d' v :: tp' => bif Nat.beq d d' then .val v tp' else .no
  | some d, .both d' v H :: tp' => bif Nat.beq d d' then .both v H tp' else .no
  | none, .heap H :: tp' => .heap H tp'
  | _, _ => .no
abbrev Fol (α : Type) := Option (α × TapeA × List Prop)
def Fol.add {α : Type} (p : Prop) : Fol α → Fol α
  | some (r, tp, P) => some (r, tp, p :: P)
  | none => none
def Fol.app {α : Type} (P : List Prop) : Fol α → Fol α
  | some (r, tp, Q) => some (r, tp, P ++ Q)
  | none => none
def allP : List Prop → Prop
  | [] => True
  | p :: ps => p ∧ allP ps
theorem allP_app : ∀ {P Q : List Prop}, allP (P ++ Q) → allP P ∧ allP Q
  | [], _, h => ⟨trivial, h⟩
  | _ :: _, _, h => ⟨⟨h.1, (allP_app h.2).1⟩, (allP_app h.2).2⟩
theorem Fol.add_inv {α : Type} {p : Prop} {x : Fol α} {r : α} {tp : TapeA} {P : List Prop} (h : Fol.add p x = some (r, tp, P)) (hP : allP P) : p ∧ ∃ Q, x = some (r, tp, Q) ∧ allP Q := by
  unfold Fol.add at h
  split at h
  · cases h; exact ⟨hP.1, _, rfl, hP.2⟩
  · cases h
theorem Fol.app_inv {α : Type} {R : List Prop} {x : Fol α} {r : α} {tp : TapeA} {P : List Prop} (h : Fol.app R x = some (r, tp, P)) (hP : allP P) : allP R ∧ ∃ Q, x = some (r, tp, Q) ∧ allP Q := by
  unfold Fol.app at h
  split at h
  · cases h; exact ⟨(allP_app hP).1, _, rfl, (allP_app hP).2⟩
  · cases h
def followOps (E : Env) (ih : Cmd → AH → Res) (all : Array Oper) (draw : Bool) (ts : List (Nat × Nat)) : List Oper → Nat → Fr → AH → TapeA → Fol (Fr × AH)
  | [], _, fr, H, tp => some ((fr, H), tp, [])
  | o :: os, i, fr, H, tp =>
    match wantedA all fr o with
    | none => none
    | some false => match putA fr o.dst (.tuple #[]) with
      | some fr' => followOps E ih all draw ts os (i + 1) fr' H tp
      | none => none
    | some true => match claimA o tp with
      | .val v tp' => match putA fr o.dst v with
        | none => none
        | some fr' =>
          bif draw then
            Fol.add (oblA E ih fr o (hideH H (hidden all.toList i ts)) v) (followOps E ih all draw ts os (i + 1) fr' (restoreH H (hideH H (hidden all.toList i ts)) (hidden all.toList i ts)) tp')
          else Fol.add (oblA E ih fr o H v) (followOps E ih all draw ts os (i + 1) fr' H tp')
      | .heap H' tp' => match putA fr o.dst (.tuple #[]) with
        | none => none
        | some fr' =>
          bif draw then none else Fol.add (oblS E fr o H H') (followOps E ih all draw ts os (i + 1) fr' H' tp')
      | .both v H' tp' => match putA fr o.dst v with
        | none => none
        | some fr' =>
          bif draw then none else Fol.add (oblC E ih fr o H v H') (followOps E ih all draw ts os (i + 1) fr' H' tp')
      | .no => match (bif draw then drawA E ih ts all.toList i fr o H else execR E ih fr o H) with
        | none => none
        | some (v, H') => match putA fr o.dst v with
          | none => none
          | some fr' => followOps E ih all draw ts os (i + 1) fr' H' tp
theorem blt_or_ble (n : Nat) (W : List Nat) : W.all (fun b => Nat.blt b n || Nat.ble n b) = true := by
  rw [List.all_eq_true]
  intro b _
  rw [Bool.or_eq_true]
  rcases Nat.lt_or_ge b n with h | h
  · exact .inl (Nat.ble_eq_true_of_le h)
  · exact .inr (Nat.ble_eq_true_of_le h)
theorem followOps_ok {E : Env} {ih : Cmd → AH → Res} {all : Array Oper} {draw : Bool} {ts : List (Nat × Nat)} : ∀ {os : List Oper} {i : Nat} {fr : Fr} {H : AH} {tp tp' : TapeA} {r : Fr × AH} {P : List Prop},
    followOps E ih all draw ts os i fr H tp = some (r, tp', P) → allP P → runOps E ih all draw ts os i fr H = some r
  | [], i, fr, H, tp, tp', r, P, h, _ => by
    simp only [followOps, Option.some.injEq, Prod.mk.injEq] at h
    simp only [runOps, h.1]
  | o :: os, i, fr, H, tp, tp', r, P, h, hP => by
    simp only [followOps] at h
    simp only [runOps]
    split at h
    · cases h
    · rename_i hw
      rw [hw]
      split at h
      · rename_i fr' hp
        simp only [hp]
        exact followOps_ok h hP
      · cases h
    · rename_i hw
      rw [hw]
      split at h
      · split at h
        · cases h
        · rename_i v tp1 hc fr' hp
          cases draw with
          | true =>
            simp only [cond_true] at h ⊢
            obtain ⟨h1, Q, h2, h3⟩ := Fol.add_inv h hP
            have h4 := oblA_exec h1
            have hle' : Nat.ble H.next H.next = true := Nat.ble_eq_true_of_le (Nat.le_refl _)
            have hl : (hideH H (hidden all.toList i ts)).low = H.next := rfl
            have hall := blt_or_ble H.next (hidden all.toList i ts)
            have hn : (hideH H (hidden all.toList i ts)).next = H.next := rfl
            simp only [drawA, h4, hl, hle', Bool.true_or, Bool.true_and, hn, hall, cond_true, hp]
            exact followOps_ok h2 h3
          | false =>
            simp only [cond_false] at h ⊢
            obtain ⟨h1, Q, h2, h3⟩ := Fol.add_inv h hP
            simp only [execR_of (oblA_exec h1), hp]
            exact followOps_ok h2 h3
      · split at h
        · cases h
        · rename_i fr' hp
          cases draw with
          | true => cases h
          | false =>
            simp only [cond_false] at h ⊢
            obtain ⟨h1, Q, h2, h3⟩ := Fol.add_inv h hP
            simp only [execR_of (oblS_exec h1), hp]
            exact followOps_ok h2 h3
      · split at h
        · cases h
        · rename_i fr' hp
          cases draw with
          | true => cases h
          | false =>
            simp only [cond_false] at h ⊢
            obtain ⟨h1, Q, h2, h3⟩ := Fol.add_inv h hP
            simp only [execR_of (oblC_exec h1), hp]
            exact followOps_ok h2 h3
      · split at h
        · cases h
        · rename_i v H' he
          simp only [he]
          split at h
          · cases h
          · rename_i fr' hp
            simp only [hp]
            exact followOps_ok h hP
def followA (E : Env) (con : Con) : Nat → Code → Fr → AH → TapeA → Fol (Out × AH)
  | 0, _, _, _, _ => none
  | n + 1, c, fr, H, tp => match c with
    | .skip => some ((.ex .normal fr, H), tp, [])
    | .label _ => some ((.ex .normal fr, H), tp, [])
    | .ret => some ((.ex .ret fr, H), tp, [])
    | .exit id => some ((.ex (.exit id) fr, H), tp, [])
    | .seq a b => match followA E con n a fr H tp with
      | some ((.ex .normal fr', H'), tp', P) => Fol.app P (followA E con n b fr' H' tp')
      | r => r
    | .cond c a b => match ev E fr c with
      | some (.bool true) => followA E con n a fr H tp
      | some (.bool false) => followA E con n b fr H tp
      | _ => none
    | .block id b => match followA E con n b fr H tp with
      | some ((.ex (.exit id') fr', H'), tp', P) => some ((bif Nat.beq id' id then (.ex .normal fr') else (.ex (.exit id') fr'), H'), tp', P)
      | r => r
    | .loop b => match followA E con n b fr H tp with
      | some ((.ex .normal fr', H'), tp', P) => Fol.app P (followA E con n (.loop b) fr' H' tp')
      | r => r
    | .scope b => followA E con n b fr H tp
    | .region _ ops draw => match followOps E (runC E con n) ops draw (bif draw then targetsFrom fr ops.toList ops.toList 0 else []) ops.toList 0 fr H tp with
      | some ((fr', H'), tp', P) => some ((.ex .normal fr', H'), tp', P)
      | none => none
    | _ => none
theorem followA_ok {E : Env} {con : Con} : ∀ {n : Nat} {c : Code} {fr : Fr} {H : AH} {tp tp' : TapeA} {r : Out × AH} {P : List Prop},
    followA E con n c fr H tp = some (r, tp', P) → allP P → runC E con n (.code c fr) H = some r
  | 0, _, _, _, _, _, _, _, h, _ => by cases h
  | n + 1, c, fr, H, tp, tp', r, P, h, hP => by
    show body E (runC E con n) (.code c fr) H = some r
    simp only [followA] at h
    simp only [body]
    split at h
    · cases h; rfl
    · cases h; rfl
    · cases h; rfl
    · cases h; rfl
    · split at h
      · rename_i fr' H' tp1 P1 h1
        obtain ⟨g1, Q, g2, g3⟩ := Fol.app_inv h hP
        simp only [followA_ok h1 g1]
        exact followA_ok g2 g3
      · rename_i hn
        have h1 := followA_ok h hP
        simp only [h1]
        split
        · rename_i fr' H' heq
          cases heq
          exact absurd h (hn _ _ _ _)
        · rfl
    · split at h
      · rename_i hc; simp only [hc]; exact followA_ok h hP
      · rename_i hc; simp only [hc]; exact followA_ok h hP
      · cases h
    · split at h
      · rename_i id' fr' H' tp1 P1 h1
        cases h
        simp only [followA_ok h1 hP]
        cases Nat.beq id' _ <;> rfl
      · rename_i hn
        have h1 := followA_ok h hP
        simp only [h1]
        split
        · rename_i id' fr' H' heq
          cases heq
          exact absurd h (hn _ _ _ _ _)
        · rfl
    · split at h
      · rename_i fr' H' tp1 P1 h1
        obtain ⟨g1, Q, g2, g3⟩ := Fol.app_inv h hP
        simp only [followA_ok h1 g1]
        exact followA_ok g2 g3
      · rename_i hn
        have h1 := followA_ok h hP
        simp only [h1]
        split
        · rename_i fr' H' heq
          cases heq
          exact absurd h (hn _ _ _ _)
        · rfl
    · exact followA_ok h hP
    · split at h
      · rename_i fr' H' tp1 P1 h1
        cases h
        simp only [followOps_ok h1 hP]
      · cases h
    · cases h
end Go.Am
namespace Go.Am
open Go
theorem funcs_below : ∀ (fs : List Func) (n : Nat) (t : T Func) (k : Nat), k < n → (funcsFrom fs n t).get k = t.get k
  | [], _, _, _, _ => rfl
  | f :: fs, n, t, k, h => by
    simp only [funcsFrom]
    rw [funcs_below fs (n + 1) _ k (by omega)]
    split
    · cases (f.name == "runtime.NumGoroutine" || !regsOk _) with
      | true => rfl
      | false => simp only [cond_false]; rw [T.get_put, if_neg (by omega)]
    · rfl
theorem funcs_at : ∀ (fs : List Func) (n : Nat) (t : T Func) (k : Nat) (fn : Func) (c : Code), n ≤ k → fs[k - n]? = some fn → fn.body = some c →
    (fn.name == "runtime.NumGoroutine" || !regsOk c) = false → (funcsFrom fs n t).get k = some fn
  | [], n, t, k, fn, c, _, h, _, _ => by simp at h
  | f :: fs, n, t, k, fn, c, hn, h, hb, hc => by
    simp only [funcsFrom]
    by_cases e : n = k
    · subst e
      simp only [Nat.sub_self, List.getElem?_cons_zero, Option.some.injEq] at h
      subst h
      rw [funcs_below fs (n + 1) _ n (Nat.lt_succ_self _), hb]
      simp only [hc, cond_false]
      rw [T.get_put, if_pos rfl]
    · refine funcs_at fs (n + 1) _ k fn c (by omega) ?_ hb hc
      have : k - n = (k - (n + 1)) + 1 := by omega
      rw [this] at h
      simpa using h
theorem envFunc {P : Program} {f : FuncId} {fn : Func} {c : Code} (h : P.funcs[f]? = some fn) (hb : fn.body = some c) (hc : (fn.name == "runtime.NumGoroutine" || !regsOk c) = false) :
    (envOf P).funcs.get f = some fn :=
  funcs_at _ _ _ _ _ _ (Nat.zero_le _) (by simpa using h) hb hc
section
variable {E : Env}
theorem runC_call {con : Con} {n : Nat} {f : FuncId} {args : List Value} {H H' : AH} {fn : Func} {c : Code} {e : AExit} {fr' : Fr} {v : Value} (hcon : con f args H = none) (hf : E.funcs.get f = some fn) (hb : fn.body = some c)
    (hr : runC E con n (.code c ⟨Nat.max fn.ntmps args.length, false, T.ofList .leaf 0 args⟩) H = some (.ex e fr', H')) (he : e = .normal ∨ e = .ret)
    (hres : resultA E fr' H' fn.results.toList = some [v]) : runC E con (n + 1) (.call f args) H = some (.val v, H') := by
  show stepC E con (runC E con n) (.call f args) H = _
  simp only [stepC, hcon, body, hf, hb, hr]
  rcases he with rfl | rfl <;> simp only [hres]
/-- a block that is read: what is known of its cells, and where they lie -/
def LocOK (E : Env) (w : World) (cs : List Value) (el : TypeId) (L : Loc) : Prop :=
  cs.all (fun v => leafV v && oneCell v) = true ∧ (∃ ccs cel fz, w.heap[L.blk]? = some (.cells ccs cel fz) ∧ L.off + L.ext ≤ ccs.size ∧ ∀ i v, cs[i]? = some v → ccs[L.off + i]? = some v) ∧
  cs.length ≤ L.ext ∧ ∀ ti, E.types.get el = some ti → L.sz = ti.size
theorem LocOK.kept {w w' : World} {cs : List Value} {el : TypeId} {L : Loc} (h : LocOK E w cs el L) (k : Kept w w') : LocOK E w' cs el L := by
  obtain ⟨h1, ⟨ccs, cel, fz, g1, g2, g3⟩, h3, h4⟩ := h
  refine ⟨h1, ⟨ccs, cel, fz, ?_, g2, g3⟩, h3, h4⟩
  rw [k.old _ (Array.getElem?_eq_some_iff.1 g1).1]; exact g1
def blocksOf (m : Nat) : List (List Value × TypeId) → T ABlk
  | bl => T.ofList .leaf m (bl.map fun p => ⟨.cells p.1 p.2, 0, false⟩)
def inH (m : Nat) (bl : List (List Value × TypeId)) : AH := { blocks := blocksOf m bl, next := Nat.add m bl.length, low := capX }
def inS (P : Program) (m : Nat) (ls : List (Option Loc)) : Sig := fun b => if b < P.globals.size then some ⟨b, 0, 0, 0⟩ else if m ≤ b then (ls[b - m]?).getD none else none
theorem ofList_getA {α : Type} : ∀ (xs : List α) (t : T α) (n i : Nat), (T.ofList t n xs).get i = if n ≤ i ∧ i < n + xs.length then xs[i - n]? else t.get i
  | [], t, n, i => by
    simp only [T.ofList, List.length_nil, Nat.add_zero]
    rw [if_neg (by omega)]
  | x :: xs, t, n, i => by
    simp only [T.ofList]
    rw [ofList_getA xs (t.put n (some x)) (n + 1) i, T.get_put]
    by_cases h1 : i = n
    · subst h1
      rw [if_neg (by omega), if_pos rfl, if_pos (by simp)]
      simp
    · rw [if_neg h1]
      by_cases h2 : n + 1 ≤ i ∧ i < n + 1 + xs.length
      · rw [if_pos h2, if_pos (by simp; omega)]
        have : i - n = (i - (n + 1)) + 1 := by omega
        rw [this]; simp
      · rw [if_neg h2, if_neg (by simp; omega)]
theorem inH_get {m : Nat} {bl : List (List Value × TypeId)} {b : Nat} {k : ABlk} (h : (inH m bl).blocks.get b = some k) :
    m ≤ b ∧ b < m + bl.length ∧ ∃ p, bl[b - m]? = some p ∧ k = ⟨.cells p.1 p.2, 0, false⟩ := by
  simp only [inH, blocksOf] at h
  rw [ofList_getA] at h
  split at h
  · rename_i hh
    simp only [List.length_map] at hh
    simp only [List.getElem?_map, Option.map_eq_some_iff] at h
    obtain ⟨p, h1, h2⟩ := h
    exact ⟨hh.1, hh.2, p, h1, h2.symm⟩
  · simp [T.get] at h
theorem inH_own {m : Nat} {bl : List (List Value × TypeId)} (b : Nat) (k : ABlk) (h : (inH m bl).blocks.get b = some k) : k.own = false := by
  obtain ⟨_, _, p, _, rfl⟩ := inH_get h
  rfl
theorem inH_hr {w : World} {m : Nat} (hm : E.prog.globals.size ≤ m) {bl : List (List Value × TypeId)} {ls : List (Option Loc)}
    (h : ∀ (i : Nat) (p : List Value × TypeId) (L : Loc), bl[i]? = some p → ls[i]? = some (some L) → LocOK E w p.1 p.2 L) : HR E (inS E.prog m ls) (inH m bl) w := by
  refine ⟨?_, ?_, ?_, ?_⟩
  · intro b k L hb hs
    obtain ⟨g1, g2, p, g3, rfl⟩ := inH_get hb
    have hs' : ls[b - m]? = some (some L) := by
      simp only [inS] at hs
      rw [if_neg (by omega), if_pos g1] at hs
      cases hl : ls[b - m]? with
      | none => rw [hl] at hs; cases hs
      | some o => rw [hl] at hs; simp at hs; rw [hs]
    obtain ⟨q1, ⟨ccs, cel, fz, q2, q3, q4⟩, q5, q6⟩ := h _ _ _ g3 hs'
    refine ⟨.cells ccs cel fz, q2, ?_⟩
    simp only [ObjR]
    refine ⟨fun e => absurd e (by decide), q3, q5, q6, fun i v hi => ?_⟩
    rw [List.all_eq_true] at q1
    have := q1 v (List.mem_of_getElem? hi)
    simp only [Bool.and_eq_true] at this
    exact ⟨this.2, v, q4 i v hi, .leaf this.1⟩
  · intro b₁ b₂ k₁ k₂ L₁ L₂ h1 _ ho
    rw [inH_own b₁ k₁ h1] at ho; cases ho
  · intro g hg
    exact ⟨⟨g, 0, 0, 0⟩, by simp only [inS]; rw [if_pos hg], rfl, rfl⟩
  · intro b k hb
    obtain ⟨g1, g2, p, g3, rfl⟩ := inH_get hb
    exact ⟨Nat.zero_le _, g2⟩
/-- a run over given blocks is a contract -/
theorem in_calls (he : EOk E) {con : Con} (hc : ConOK E con) {w : World} {m : Nat} (hm : E.prog.globals.size ≤ m) {bl : List (List Value × TypeId)} {ls : List (Option Loc)} (hlen : ls.length ≤ bl.length)
    (h : ∀ (i : Nat) (p : List Value × TypeId) (L : Loc), bl[i]? = some p → ls[i]? = some (some L) → LocOK E w p.1 p.2 L)
    {n : Nat} {f : FuncId} {args args' : List Value} {v : Value} {H' : AH} (hrun : runC E con n (.call f args) (inH m bl) = some (.val v, H')) (hl : leafV v = true)
    (hv : VRs (inS E.prog m ls) args args') :
    Calls E.prog f ⟨args'⟩ w fun e w' => e = .returned v ∧ Kept w w' :=
  run_calls he hc hrun hl inH_own (inH_hr hm h) hv (fun b hb => by
    have hb' : m + bl.length ≤ b := hb
    simp only [inS]
    rw [if_neg (by omega), if_pos (by omega), List.getElem?_eq_none (by omega)]
    rfl)
/-! ### contracts put together -/
def conF (f0 : FuncId) (g : List Value → AH → Option Value) (rest : Con) : Con := fun f args H => bif Nat.beq f f0 then (match g args H with | some v => some (v, H) | none => none) else rest f args H
def con0 : Con := fun _ _ _ => none
theorem con0_ok : ConOK E con0 := fun _ _ _ _ _ h => by cases h
/-- a contract whose calls leave all as it was -/
theorem conV_ok {f0 : FuncId} {g : List Value → AH → Option Value} {rest : Con} (hr : ConOK E rest)
    (hg : ∀ args H v, g args H = some v → ∀ (σ : Sig) (w : World) (args' : List Value), HR E σ H w → VRs σ args args' → Calls E.prog f0 ⟨args'⟩ w fun e w' => ∃ v', e = .returned v' ∧ VR σ v v' ∧ Kept w w') :
    ConOK E (conF f0 g rest) := by
  intro f args H v H' h
  simp only [conF] at h
  cases hb : Nat.beq f f0 with
  | true =>
    rw [hb] at h
    simp only [cond_true] at h
    have := Nat.eq_of_beq_eq_true hb
    subst this
    split at h
    · rename_i v1 hv
      cases h
      exact ⟨Nat.le_refl _, call_kept (hg args H _ hv)⟩
    · cases h
  | false =>
    rw [hb] at h
    exact hr f args H v H' h
theorem conF_ok {f0 : FuncId} {g : List Value → AH → Option Value} {rest : Con} (hr : ConOK E rest)
    (hg : ∀ args H v, g args H = some v → leafV v = true ∧ ∀ (σ : Sig) (w : World) (args' : List Value), HR E σ H w → VRs σ args args' → Calls E.prog f0 ⟨args'⟩ w fun e w' => e = .returned v ∧ Kept w w') :
    ConOK E (conF f0 g rest) := conV_ok hr fun args H v h σ w args' h1 h2 cs => by
  obtain ⟨hl, h3⟩ := hg args H v h
  obtain ⟨e, w', fr, ⟨q1, q2⟩, q3⟩ := h3 σ w args' h1 h2 cs
  exact ⟨e, w', fr, ⟨v, q1, .leaf hl, q2⟩, q3⟩
/-- a contract whose calls leave another heap -/
def conE (f0 : FuncId) (g : List Value → AH → Option (Value × AH)) (rest : Con) : Con := fun f args H => bif Nat.beq f f0 then g args H else rest f args H
theorem conE_ok {f0 : FuncId} {g : List Value → AH → Option (Value × AH)} {rest : Con} (hr : ConOK E rest)
    (hg : ∀ args H v H', g args H = some (v, H') → H.next ≤ H'.next ∧ CallOK E f0 args H v H') : ConOK E (conE f0 g rest) := by
  intro f args H v H' h
  simp only [conE] at h
  cases hb : Nat.beq f f0 with
  | true =>
    rw [hb] at h
    have := Nat.eq_of_beq_eq_true hb
    subst this
    exact hg args H v H' h
  | false =>
    rw [hb] at h
    exact hr f args H v H' h
end
end Go.Am
