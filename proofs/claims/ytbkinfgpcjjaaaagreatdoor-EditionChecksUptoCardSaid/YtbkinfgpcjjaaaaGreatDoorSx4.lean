/- Regions whose order is drawn: runs in the text's order, carried over. Conditions: none. -/
import Derived.Test.YtbkinfgpcjjaaaaGreatDoorSx5
set_option linter.all false
namespace Go.Am
open Go
structure Heq (N : Nat) (H H2 : AH) : Prop where
  get : ∀ b, H2.blocks.get b = H.blocks.get b
  next : H2.next = H.next
  low : ∀ L, L ≤ N → L ≤ H.low → L ≤ H2.low
  le : N ≤ H.next
section
variable {E : Env} {ih : Cmd → AH → Res} {fr : Fr} {o : Oper} {N : Nat}
theorem pureK_aop (h : pureK o.op = true) : ∃ x : Option Value, ∀ H, aop E fr o H = one H x := by
  cases ho : o.op <;> rw [ho] at h <;> first | (cases h; done) | skip
  · rename_i x; exact ⟨ev E fr x, fun H => by simp only [aop, ho]⟩
  · rename_i x; exact ⟨ev E fr x, fun H => by simp only [aop, ho]⟩
  · rename_i c a b
    refine ⟨match ev E fr c with | some (.bool true) => ev E fr a | some (.bool false) => ev E fr b | _ => none, fun H => ?_⟩
    simp only [aop, ho]
    generalize ev E fr c = q
    rcases q with _ | v
    · rfl
    · cases v <;> first | rfl | skip
      rename_i b; cases b <;> rfl
  · rename_i x
    refine ⟨match ev E fr x with
      | some (.pointer (some a)) => some (.pointer (some a))
      | some (.iface t v) => some (.iface t v)
      | some (.func (.func f) a b) => some (.func (.func f) a b)
      | some (.func (.yield f) a b) => some (.func (.yield f) a b)
      | _ => none, fun H => ?_⟩
    simp only [aop, ho]
    generalize ev E fr x = q
    rcases q with _ | v
    · rfl
    · cases v <;> first | rfl | skip
      · rename_i a; cases a <;> rfl
      · rename_i f a b; cases f <;> rfl
  · rename_i op t x y z
    refine ⟨match ev E fr x, ev E fr y with | some a, some b => binA E op t x y a b | _, _ => none, fun H => ?_⟩
    simp only [aop, ho]
    generalize ev E fr x = q
    generalize ev E fr y = r
    cases q <;> cases r <;> rfl
  · rename_i op t x
    refine ⟨match ev E fr x with | some v => bif flatV v then flat? (pureRun E.prog (Op.unary op v)) else none | none => none, fun H => ?_⟩
    simp only [aop, ho]
    generalize ev E fr x = q
    rcases q with _ | v
    · rfl
    · simp only
      cases flatV v <;> rfl
  · rename_i s x f
    refine ⟨match ev E fr x with | some v => fieldA E s v f | none => none, fun H => ?_⟩
    simp only [aop, ho]
    generalize ev E fr x = q
    cases q <;> rfl
  · rename_i t x i
    refine ⟨match ev E fr x, (ev E fr i).bind nat? with | some v, some i => indexA E t v i | _, _ => none, fun H => ?_⟩
    simp only [aop, ho]
    generalize ev E fr x = q
    generalize (ev E fr i).bind nat? = r
    cases q <;> cases r <;> rfl
  · rename_i x i
    refine ⟨match ev E fr x with | some (.tuple vs) => vs.toList[i]? | _ => none, fun H => ?_⟩
    simp only [aop, ho]
    generalize ev E fr x = q
    rcases q with _ | v
    · rfl
    · cases v <;> rfl
theorem exec_one {x : Option Value} {H H1 : AH} {v : Value} (h : aop E fr o H = one H x) (he : execR E ih fr o H = some (v, H1)) : x = some v ∧ H1 = H := by
  cases x with
  | none => simp only [execR, execA, h, one, Option.map_none] at he; cases he
  | some u => simp only [execR, execA, h, one, Option.map_some, Option.some.injEq, Prod.mk.injEq] at he; exact ⟨by rw [he.1], he.2.symm⟩
theorem draw_read {ts : List (Nat × Nat)} {all : List Oper} {i : Nat} {H H2 : AH} {v : Value} (h : execA E ih fr o (hideH H2 (hidden all i ts)) = some (v, hideH H2 (hidden all i ts))) (hq : Heq N H H2) :
    ∃ H2', drawA E ih ts all i fr o H2 = some (v, H2') ∧ Heq N H H2' := by
  refine ⟨restoreH H2 (hideH H2 (hidden all i ts)) (hidden all i ts), ?_, ?_, hq.next, ?_, hq.le⟩
  · have h1 : Nat.ble H2.next (hideH H2 (hidden all i ts)).low = true := Nat.ble_eq_true_of_le (Nat.le_refl _)
    have h2 : (hidden all i ts).all (fun b => Nat.blt b H2.next || Nat.ble (hideH H2 (hidden all i ts)).next b) = true := by
      rw [List.all_eq_true]
      intro b _
      show (Nat.blt b H2.next || Nat.ble H2.next b) = true
      by_cases hb : b < H2.next
      · have : Nat.blt b H2.next = true := Nat.ble_eq_true_of_le hb
        rw [this, Bool.true_or]
      · have : Nat.ble H2.next b = true := Nat.ble_eq_true_of_le (by omega)
        rw [this, Bool.or_true]
    simp only [drawA, h, h1, h2, Bool.true_or, Bool.and_self, cond_true]
  · intro b
    show (restoreT _ _ _).get b = _
    rw [restoreT_get]
    show (if _ then H2.blocks.get b else (hideT H2.blocks _).get b) = _
    rw [hideT_get]
    split <;> exact hq.get b
  · intro L h1 h2
    refine Nat.le_min.2 ⟨hq.low L h1 h2, ?_⟩
    show L ≤ H2.next
    rw [hq.next]
    exact Nat.le_trans h1 hq.le
theorem loadA_get {H H2 : AH} {t : TypeId} {b i : Nat} {p : Option Nat} (h : H2.blocks.get b = H.blocks.get b) : loadA E H2 t (.pointer (some ⟨b, i, p⟩)) = loadA E H t (.pointer (some ⟨b, i, p⟩)) := by
  unfold loadA
  cases E.types.get t with
  | none => rfl
  | some ti => cases p with
    | none => simp only [AH.loads, h]
    | some _ => rfl
theorem runOps_keep {all : Array Oper} {draw : Bool} {ts : List (Nat × Nat)} {a : Tmp} : ∀ (os : List Oper) (i : Nat) {fr fr' : Fr} {H H' : AH}, runOps E ih all draw ts os i fr H = some (fr', H') → os.all (noDst a) = true → fr'.t.get a = fr.t.get a
  | [], i, fr, fr', H, H', h, _ => by simp only [runOps, Option.some.injEq, Prod.mk.injEq] at h; rw [h.1]
  | o :: os, i, fr, fr', H, H', h, hn => by
    simp only [List.all_cons, Bool.and_eq_true] at hn
    have hp : ∀ {fr1 : Fr} {v : Value}, putA fr o.dst v = some fr1 → fr1.t.get a = fr.t.get a := by
      intro fr1 v hp
      have hd := hn.1
      unfold putA at hp
      unfold noDst at hd
      split at hp
      · rename_i d hd'
        rw [hd'] at hd
        simp only [Bool.not_eq_true'] at hd
        cases hb : Nat.ble (d + 1) fr.sz with
        | false => rw [hb] at hp; cases hp
        | true =>
          rw [hb] at hp
          simp only [cond_true, Option.some.injEq] at hp
          subst hp
          show (fr.t.put d (some v)).get a = _
          rw [T.get_put, if_neg]
          intro e; subst e; rw [Nat.beq_refl] at hd; cases hd
      · simp only [Option.some.injEq] at hp; rw [hp]
    simp only [runOps] at h
    split at h
    · cases h
    · split at h
      · rename_i fr1 hf
        rw [runOps_keep os (i + 1) h hn.2, hp hf]
      · cases h
    · split at h
      · cases h
      · split at h
        · cases h
        · rename_i fr1 hf
          rw [runOps_keep os (i + 1) h hn.2, hp hf]
def ptrB (v : Option Value) : Option Nat := match v with
  | some (.pointer (some ⟨b, _, _⟩)) => some b
  | _ => none
def TameR (fr' : Fr) (ts : List (Nat × Nat)) (all : List Oper) (i : Nat) (o : Oper) (os : List Oper) : Prop := match o.op with
  | .load _ (.tmp a) => (o :: os).all (noDst a) = true ∧ ∀ B, ptrB (fr'.t.get a) = some B → B ∉ hidden all i ts
  | .alloc _ => ∃ d, o.dst = some d ∧ os.all (noDst d) = true ∧ ∀ B, ptrB (fr'.t.get d) = some B → B ∉ hidden all i ts
  | .store _ (.tmp a) _ => hidden all i ts = [] ∧ (o :: os).all (noDst a) = true ∧ ∀ B, ptrB (fr'.t.get a) = some B → (i, B) ∈ ts
  | op => pureK op = true
def TamesR (fr' : Fr) (ts : List (Nat × Nat)) (all : List Oper) : Nat → List Oper → Prop
  | _, [] => True
  | i, o :: os => TameR fr' ts all i o os ∧ TamesR fr' ts all (i + 1) os
theorem draw_op {ts : List (Nat × Nat)} {all : Array Oper} {i : Nat} {os : List Oper} {fr1 fr' : Fr} {H H1 H' H2 : AH} {v : Value} (he : execR E ih fr o H = some (v, H1)) (hp : putA fr o.dst v = some fr1)
    (hr : runOps E ih all false [] os (i + 1) fr1 H1 = some (fr', H')) (ht : TameR fr' ts all.toList i o os) (hq : Heq N H H2) :
    ∃ H2', drawA E ih ts all.toList i fr o H2 = some (v, H2') ∧ Heq N H1 H2' := by
  have pure : pureK o.op = true → ∃ H2', drawA E ih ts all.toList i fr o H2 = some (v, H2') ∧ Heq N H1 H2' := by
    intro hk
    obtain ⟨x, hx⟩ := pureK_aop (E := E) (fr := fr) hk
    obtain ⟨rfl, rfl⟩ := exec_one (hx H) he
    exact draw_read (by simp only [execA, hx, one, Option.map_some]) hq
  have keep : ∀ a, (o :: os).all (noDst a) = true → fr'.t.get a = fr.t.get a := by
    intro a ha
    have h0 : runOps E ih all false [] (o :: os) i fr H = some (fr', H') ∨ True := .inr trivial
    have ha' := ha
    simp only [List.all_cons, Bool.and_eq_true] at ha'
    have k1 := runOps_keep os (i + 1) hr ha'.2
    rw [k1]
    have hd := ha'.1
    unfold putA at hp
    unfold noDst at hd
    split at hp
    · rename_i d hd'
      rw [hd'] at hd
      simp only [Bool.not_eq_true'] at hd
      cases hb : Nat.ble (d + 1) fr.sz with
      | false => rw [hb] at hp; cases hp
      | true =>
        rw [hb] at hp
        simp only [cond_true, Option.some.injEq] at hp
        subst hp
        show (fr.t.put d (some v)).get a = _
        rw [T.get_put, if_neg]
        intro e; subst e; rw [Nat.beq_refl] at hd; cases hd
    · simp only [Option.some.injEq] at hp; rw [hp]
  cases ho : o.op with
  | load t a =>
    cases a with
    | tmp a =>
      unfold TameR at ht
      rw [ho] at ht
      simp only at ht
      obtain ⟨h1, h2⟩ := ht
      have hk := keep a h1
      rw [hk] at h2
      cases hv : fr.t.get a with
      | none =>
        have ha : aop E fr o H = none := by simp only [aop, ho, ev, hv]
        simp only [execR, execA, ha] at he; cases he
      | some u =>
        have ha' : ∀ H, aop E fr o H = one H (loadA E H t u) := fun H => by simp only [aop, ho, ev, hv]
        obtain ⟨hx, hH⟩ := exec_one (ha' H) he
        subst hH
        rw [hv] at h2
        have hu : ∃ b j p, u = .pointer (some ⟨b, j, p⟩) := by
          unfold loadA at hx
          split at hx
          · rename_i b j _; exact ⟨b, j, none, rfl⟩
          · cases hx
        obtain ⟨b, j, p, rfl⟩ := hu
        refine draw_read ?_ hq
        have hg : (hideH H2 (hidden all.toList i ts)).blocks.get b = H1.blocks.get b := by
          show (hideT H2.blocks _).get b = _
          rw [hideT_get, if_neg (h2 b rfl)]
          exact hq.get b
        simp only [execA, ha', loadA_get (E := E) (t := t) (i := j) (p := p) hg, hx, one, Option.map_some]
    | const _ => exfalso; unfold TameR at ht; rw [ho] at ht; cases ht
    | global _ => exfalso; unfold TameR at ht; rw [ho] at ht; cases ht
    | func _ => exfalso; unfold TameR at ht; rw [ho] at ht; cases ht
  | alloc t =>
    unfold TameR at ht
    rw [ho] at ht
    simp only at ht
    obtain ⟨d, hd, h1, h2⟩ := ht
    have hz : ∃ z, ∀ H, aop E fr o H = some (.val (.pointer (some ⟨H.next, 0, none⟩)), H.new (.cells z t)) := by
      cases hz : E.types.get t with
      | none =>
        have ha : aop E fr o H = none := by simp only [aop, ho, hz]
        simp only [execR, execA, ha] at he; cases he
      | some ti =>
        obtain ⟨a1, a2, a3, z, a5⟩ := ti
        cases z with
        | none =>
          have ha : aop E fr o H = none := by simp only [aop, ho, hz]
          simp only [execR, execA, ha] at he; cases he
        | some z => exact ⟨z, fun H => by simp only [aop, ho, hz]⟩
    obtain ⟨z, ha⟩ := hz
    · skip
      have e1 : v = .pointer (some ⟨H.next, 0, none⟩) ∧ H1 = H.new (.cells z t) := by
        simp only [execR, execA, ha, Option.some.injEq, Prod.mk.injEq] at he
        exact ⟨he.1.symm, he.2.symm⟩
      obtain ⟨rfl, rfl⟩ := e1
      have hn : H.next ∉ hidden all.toList i ts := by
        have k1 := runOps_keep os (i + 1) hr h1
        refine h2 _ ?_
        rw [k1]
        rw [hd] at hp
        simp only [putA] at hp
        cases hb : Nat.ble (d + 1) fr.sz with
        | false => rw [hb] at hp; cases hp
        | true =>
          rw [hb] at hp
          simp only [cond_true, Option.some.injEq] at hp
          subst hp
          show ptrB ((fr.t.put d _).get d) = _
          rw [T.get_put, if_pos rfl]
          rfl
      have hex : execA E ih fr o (hideH H2 (hidden all.toList i ts)) = some (.pointer (some ⟨H.next, 0, none⟩), (hideH H2 (hidden all.toList i ts)).new (.cells z t)) := by
        simp only [execA, ha]
        show some (Value.pointer (some ⟨H2.next, 0, none⟩), _) = _
        rw [hq.next]
      refine ⟨restoreH H2 ((hideH H2 (hidden all.toList i ts)).new (.cells z t)) (hidden all.toList i ts), ?_, ?_, ?_, ?_, Nat.le_succ_of_le hq.le⟩
      · have h1 : Nat.ble H2.next ((hideH H2 (hidden all.toList i ts)).new (.cells z t)).low = true := Nat.ble_eq_true_of_le (Nat.le_refl _)
        have h2 : (hidden all.toList i ts).all (fun b => Nat.blt b H2.next || Nat.ble ((hideH H2 (hidden all.toList i ts)).new (.cells z t)).next b) = true := by
          rw [List.all_eq_true]
          intro b hb
          show (Nat.blt b H2.next || Nat.ble (Nat.succ H2.next) b) = true
          have hne : b ≠ H2.next := by rw [hq.next]; intro e; subst e; exact hn hb
          by_cases hb : b < H2.next
          · have : Nat.blt b H2.next = true := Nat.ble_eq_true_of_le hb
            rw [this, Bool.true_or]
          · have : Nat.ble (Nat.succ H2.next) b = true := Nat.ble_eq_true_of_le (by omega)
            rw [this, Bool.or_true]
        simp only [drawA, hex, h1, h2, Bool.true_or, Bool.and_self, cond_true]
      · intro b
        show (restoreT _ _ _).get b = (H.blocks.put H.next _).get b
        rw [restoreT_get, T.get_put]
        show (if _ then H2.blocks.get b else ((hideT H2.blocks _).put H2.next _).get b) = _
        rw [T.get_put, hideT_get, hq.next]
        by_cases hb : b ∈ hidden all.toList i ts
        · rw [if_pos hb, if_neg (fun e : b = H.next => hn (by rw [← e]; exact hb)), hq.get]
        · rw [if_neg hb]
          by_cases e : b = H.next
          · rw [if_pos e, if_pos e]
            show some (⟨AObj.cells z t, H2.next, true⟩ : ABlk) = some ⟨.cells z t, H.next, true⟩
            rw [hq.next]
          · rw [if_neg e, if_neg e, if_neg hb, hq.get]
      · show Nat.succ H2.next = Nat.succ H.next
        rw [hq.next]
      · intro L h1 h2
        refine Nat.le_min.2 ⟨hq.low L h1 h2, ?_⟩
        show L ≤ H2.next
        rw [hq.next]
        exact Nat.le_trans h1 hq.le
  | store t a x =>
    cases a with
    | tmp a =>
      unfold TameR at ht
      rw [ho] at ht
      simp only at ht
      obtain ⟨hW, h1, h2⟩ := ht
      have hk := keep a h1
      rw [hk] at h2
      cases hv : fr.t.get a with
      | none =>
        have ha : aop E fr o H = none := by simp only [aop, ho, ev, hv]
        simp only [execR, execA, ha] at he; cases he
      | some u =>
        cases hy : ev E fr x with
        | none =>
          have ha : aop E fr o H = none := by simp only [aop, ho, hv, hy, show ev E fr (.tmp a) = fr.t.get a from rfl]
          simp only [execR, execA, ha] at he; cases he
        | some y =>
          have hty : ∀ cs, y ≠ .tuple cs := by
            intro cs e; subst e
            have ha : aop E fr o H = none := by simp only [aop, ho, hv, hy, show ev E fr (.tmp a) = fr.t.get a from rfl]
            simp only [execR, execA, ha] at he
            cases he
          have ha' : ∀ H, aop E fr o H = (storeA E H t u y).map fun H' => (.skip, H') := fun H => by
            simp only [aop, ho, hv, hy, show ev E fr (.tmp a) = fr.t.get a from rfl]
          cases hs : storeA E H t u y with
          | none => simp only [execR, execA, ha', hs, Option.map_none] at he; cases he
          | some Hs =>
            simp only [execR, execA, ha', hs, Option.map_some, Option.some.injEq, Prod.mk.injEq] at he
            obtain ⟨rfl, rfl⟩ := he
            rw [hv] at h2
            unfold storeA at hs
            split at hs
            case h_2 => cases hs
            rename_i ti b j hti
            simp only at hs
            cases hl : Nat.beq y.cells.toList.length ti.size with
            | false => rw [hl] at hs; cases hs
            | true =>
              rw [hl] at hs
              simp only [cond_true, AH.stores] at hs
              split at hs
              case h_2 => cases hs
              rename_i cs el r hb
              cases hsp : splice cs j y.cells.toList with
              | none => rw [hsp] at hs; cases hs
              | some cs' =>
                rw [hsp] at hs
                simp only [Option.map_some, Option.some.injEq] at hs
                subst hs
                have hb2 : (hideH H2 []).blocks.get b = some ⟨.cells cs el, r, true⟩ := by
                  show H2.blocks.get b = _
                  rw [hq.get, hb]
                have hex : execA E ih fr o (hideH H2 (hidden all.toList i ts)) = some (.tuple #[], (hideH H2 []).write b ⟨.cells cs el, r, true⟩ (.cells cs' el)) := by
                  rw [hW]
                  have hsa : storeA E (hideH H2 []) t (.pointer (some ⟨b, j, none⟩)) y = some ((hideH H2 []).write b ⟨.cells cs el, r, true⟩ (.cells cs' el)) := by
                    simp only [storeA, hti, hl, cond_true, AH.stores, hb2, hsp, Option.map_some]
                  simp only [execA, ha', hsa, Option.map_some]
                have hmem := h2 b rfl
                have hst : ts.any (fun t => Nat.beq t.1 i && storesAt fr o t.2) = true := by
                  rw [List.any_eq_true]
                  refine ⟨_, hmem, ?_⟩
                  simp only [Nat.beq_refl, Bool.true_and, storesAt, ho, hv]
                refine ⟨restoreH H2 ((hideH H2 []).write b ⟨.cells cs el, r, true⟩ (.cells cs' el)) [], ?_, ?_, hq.next, ?_, hq.le⟩
                · rw [hW] at hex
                  simp only [drawA, hW, hex, hst, List.isEmpty_nil, Bool.true_or, Bool.true_and, Bool.or_true, List.all_nil, Bool.and_self, cond_true]
                · intro c
                  show ((H2.blocks).put b _).get c = (H.blocks.put b _).get c
                  rw [T.get_put, T.get_put, hq.get]
                · intro L h1 h2
                  have h3 : L ≤ Nat.min H.low r := h2
                  have h4 := Nat.le_min.1 h3
                  refine Nat.le_min.2 ⟨hq.low L h1 h4.1, ?_⟩
                  show L ≤ Nat.min H2.next r
                  refine Nat.le_min.2 ⟨?_, h4.2⟩
                  rw [hq.next]
                  exact Nat.le_trans h1 hq.le
    | const _ => exfalso; unfold TameR at ht; rw [ho] at ht; cases ht
    | global _ => exfalso; unfold TameR at ht; rw [ho] at ht; cases ht
    | func _ => exfalso; unfold TameR at ht; rw [ho] at ht; cases ht
  | move _ => exact pure (by rw [ho]; rfl)
  | assign _ => exact pure (by rw [ho]; rfl)
  | pick _ _ _ => exact pure (by rw [ho]; rfl)
  | nilCheck _ => exact pure (by rw [ho]; rfl)
  | binOp _ _ _ _ _ => exact pure (by rw [ho]; rfl)
  | unOp _ _ _ => exact pure (by rw [ho]; rfl)
  | fieldAddr _ _ _ => exact pure (by rw [ho]; rfl)
  | indexAddr _ _ _ => exact pure (by rw [ho]; rfl)
  | extract _ _ => exact pure (by rw [ho]; rfl)
  | _ => exfalso; unfold TameR at ht; rw [ho] at ht; cases ht
theorem draw_run {ts : List (Nat × Nat)} {all : Array Oper} {fr' : Fr} {H' : AH} : ∀ (os : List Oper) (i : Nat) {fr : Fr} {H H2 : AH}, runOps E ih all false [] os i fr H = some (fr', H') → TamesR fr' ts all.toList i os → Heq N H H2 →
    ∃ H2', runOps E ih all true ts os i fr H2 = some (fr', H2') ∧ Heq N H' H2'
  | [], i, fr, H, H2, h, _, hq => by
    simp only [runOps, Option.some.injEq, Prod.mk.injEq] at h
    obtain ⟨rfl, rfl⟩ := h
    exact ⟨H2, rfl, hq⟩
  | o :: os, i, fr, H, H2, h, ht, hq => by
    simp only [runOps] at h
    split at h
    · cases h
    · rename_i hw
      split at h
      · rename_i fr1 hf
        obtain ⟨H2', q1, q2⟩ := draw_run os (i + 1) h ht.2 hq
        exact ⟨H2', by simp only [runOps, hw, hf, q1], q2⟩
      · cases h
    · rename_i hw
      simp only [cond_false] at h
      split at h
      · cases h
      · rename_i v H1 hx
        split at h
        · cases h
        · rename_i fr1 hf
          obtain ⟨H2a, q1, q2⟩ := draw_op hx hf h ht.1 hq
          obtain ⟨H2', q3, q4⟩ := draw_run os (i + 1) h ht.2 q2
          exact ⟨H2', by simp only [runOps, hw, cond_true, q1, hf, q3], q4⟩
end
section
variable {E : Env} {n0 : Lim} {H0 : AH} {g0 : Mem} {S : St} {ρ : List D} {ve : Nat → Value} {lb : Nat → Nat} {g : Mem} {fr : Fr} {H H2 : AH} {Q : Res1 → Prop} {o : Oper}
theorem SM.congr (h : SM n0 S ρ ve lb g H) (hg : ∀ b, H2.blocks.get b = H.blocks.get b) (hn : H2.next = H.next) : SM n0 S ρ ve lb g H2 := by
  have hf : H2.blocks.get = H.blocks.get := funext hg
  exact { len := h.len, wf := fun b k hb => by rw [hg] at hb; rw [hn]; exact h.wf b k hb, mem := by rw [hf]; exact h.mem, base := by rw [hn]; exact h.base, fix := h.fix, vars := by rw [hf]; exact h.vars,
          blks := by rw [hf]; exact h.blks, sepLG := h.sepLG, sepFG := h.sepFG, sepL := h.sepL, sepF := h.sepF, sepX := h.sepX }
theorem SR.congr (h : SR n0 H0 g0 S ρ ve lb g fr H) (hg : ∀ b, H2.blocks.get b = H.blocks.get b) (hn : H2.next = H.next) (hl : Nat.min H0.low n0.n ≤ H2.low) : SR n0 H0 g0 S ρ ve lb g fr H2 :=
  { toSM := h.toSM.congr hg hn, sz := h.sz, rd := h.rd, slots := h.slots, keep := fun b hb => by rw [hg]; exact h.keep b hb, gk := h.gk, low := hl }
theorem hidden_map (all : List Oper) (i : Nat) (f : Nat → Nat) : ∀ ts : List (Nat × Nat), hidden all i (ts.map fun q => (q.1, f q.2)) = (hidden all i ts).map f
  | [] => rfl
  | (j, b) :: ts => by
    simp only [List.map_cons, hidden, hidden_map all i f ts]
    cases (Nat.beq j i || tied (masks all) j i) <;> rfl
theorem tgt_mem {a : Tmp} {b off : Nat} {t : TypeId} {x : Operand} (hs : S.slots.get a = some (.loc b off)) : ∀ (os : List Oper) (i k : Nat) (o : Oper), os[k]? = some o → o.op = .store t (.tmp a) x → (i + k, b) ∈ tgtS S os i
  | [], _, _, _, h, _ => by simp at h
  | p :: os, i, 0, o, h, ho => by
    simp only [List.getElem?_cons_zero, Option.some.injEq] at h
    subst h
    simp only [tgtS, ho, hs, Nat.add_zero]
    exact List.mem_cons_self
  | p :: os, i, k + 1, o, h, ho => by
    have := tgt_mem hs os (i + 1) k o (by simpa using h) ho
    rw [show i + 1 + k = i + (k + 1) by omega] at this
    unfold tgtS
    split
    · split
      · exact List.mem_cons_of_mem _ this
      · exact this
    · exact this
theorem tgt_live {all : List Oper} {b i : Nat} : ∀ (os : List Oper) (k : Nat), (∀ o ∈ os, ∀ t a x, o.op = .store t a x → ∃ d b off y, a = .tmp d ∧ S.slots.get d = some (.loc b off) ∧ S.blks[b]? = some (some y)) → (i, b) ∈ tgtS S os k → S.live b
  | [], _, _, h => by cases h
  | o :: os, k, hst, h => by
    have ih := tgt_live (all := all) (b := b) (i := i) os (k + 1) (fun o ho => hst o (List.mem_cons_of_mem _ ho))
    cases ho : o.op with
    | store t a x =>
      obtain ⟨d, b', off, y, rfl, hd, hy⟩ := hst o List.mem_cons_self t a x ho
      simp only [tgtS, ho, hd] at h
      rcases List.mem_cons.1 h with h | h
      · cases h; exact ⟨y, hy⟩
      · exact ih h
    | _ => simp only [tgtS, ho] at h; exact ih h
theorem hidden_sub {all : List Oper} {i b : Nat} : ∀ ts : List (Nat × Nat), b ∈ hidden all i ts → ∃ j, (j, b) ∈ ts
  | [], h => by cases h
  | (j, c) :: ts, h => by
    simp only [hidden] at h
    cases hc : (Nat.beq j i || tied (masks all) j i) with
    | true =>
      rw [hc] at h
      obtain ⟨j', hj⟩ := hidden_sub ts h
      exact ⟨j', List.mem_cons_of_mem _ hj⟩
    | false =>
      rw [hc] at h
      rcases List.mem_cons.1 h with rfl | h
      · exact ⟨j, List.mem_cons_self⟩
      · obtain ⟨j', hj⟩ := hidden_sub ts h
        exact ⟨j', List.mem_cons_of_mem _ hj⟩
theorem some_of_getD {α : Type} {x : Option (Option α)} (h : (x.getD none).isSome = true) : ∃ y, x = some (some y) := by
  rcases x with _ | _ | y
  · cases h
  · cases h
  · exact ⟨y, rfl⟩
theorem tame_store {os : List Oper} {bs : List Nat} {t : TypeId} {a x : Operand} (h : tameOp S o os bs = true) (ho : o.op = .store t a x) : ∃ d b off y, a = .tmp d ∧ S.slots.get d = some (.loc b off) ∧ S.blks[b]? = some (some y) ∧ bs = [] ∧ (o :: os).all (noDst d) = true := by
  unfold tameOp at h
  rw [ho] at h
  cases a with
  | tmp a =>
    simp only [Bool.and_eq_true] at h
    obtain ⟨⟨h1, h2⟩, h3⟩ := h
    split at h3
    · rename_i b off hs
      obtain ⟨y, hy⟩ := some_of_getD h3
      exact ⟨a, b, off, y, rfl, hs, hy, List.isEmpty_iff.1 h1, h2⟩
    · cases h3
  | _ => cases h
theorem tame_stores {all : List Oper} : ∀ (os : List Oper) (i : Nat), tameAll S all os i = true → ∀ o ∈ os, ∀ t a x, o.op = .store t a x → ∃ d b off y, a = .tmp d ∧ S.slots.get d = some (.loc b off) ∧ S.blks[b]? = some (some y)
  | [], _, _, _, h => by cases h
  | p :: os, i, h, o, ho => by
    simp only [tameAll, Bool.and_eq_true] at h
    intro t a x hop
    rcases List.mem_cons.1 ho with rfl | ho
    · obtain ⟨d, b, off, y, q1, q2, q3, _⟩ := tame_store h.1 hop
      exact ⟨d, b, off, y, q1, q2, q3⟩
    · exact tame_stores os (i + 1) h.2 o ho t a x hop
def PtrG (ve : Nat → Value) (lb : Nat → Nat) (g : Mem) (s i : SV) : Prop := ∀ sz off B, ptrB (some (ptrV (s.val ve lb) (i.val ve lb) sz off)) = some B → ∃ k, g B = some k
theorem ptr_g {s i : SV} {e : D} (h : SM n0 S ρ ve lb g H) (hs : pureB S s = true) (hi : pureB S i = true) (he : elemD (s.d (getD ρ)) (i.d (getD ρ)) = some e) : PtrG ve lb g s i := by
  intro sz off B hB
  have d1 := pure_val h hs
  have d2 := pure_val h hi
  unfold elemD at he
  split at he
  case h_2 => cases he
  rename_i n hn
  have hiv : ∃ k, i.val ve lb = .int k (.ofNat n) := by
    unfold natD at hn
    split at hn
    · rename_i k m hm
      cases hn
      rw [hm] at d2
      exact ⟨k, d2.leaf_inv.1⟩
    · cases hn
  obtain ⟨k, hk⟩ := hiv
  rw [hk] at hB
  generalize s.d (getD ρ) = sd at d1 he
  generalize s.val ve lb = sv at d1 hB
  cases d1 <;> first | (simp [D.es] at he; done) | skip
  rename_i el es b o l c sz' rt cs vs own hb ht hv hl hss hc hx ho
  simp only [ptrV, ptrB, Option.some.injEq] at hB
  subst hB
  exact ⟨_, hb⟩
theorem chkPS_ok : ∀ (l : List (SV × SV)) {S : St} {ρ : List D} {ve : Nat → Value} {κ : St → Tree}, SR n0 H0 g0 S ρ ve lb g fr H → (∀ q ∈ l, q.1.bd S.n S.blks.length ∧ q.2.bd S.n S.blks.length) → wp E (Holds E) Q (chkPS l S κ) ρ →
    ∃ S' ρ' ve', SR n0 H0 g0 S' ρ' ve' lb g fr H ∧ wp E (Holds E) Q (κ S') ρ' ∧ ∀ q ∈ l, PtrG ve lb g q.1 q.2
  | [], S, ρ, ve, κ, h, _, hw => ⟨S, ρ, ve, h, hw, fun _ h => (by cases h)⟩
  | (s, i) :: r, S, ρ, ve, κ, h, hb, hw => by
    simp only [chkPS] at hw
    obtain ⟨hp, hw⟩ := wp_bif hw
    simp only [Bool.and_eq_true] at hp
    simp only [wp] at hw
    split at hw
    case h_2 => cases hw
    rename_i d hd
    simp only [SV.ds, ev_inr, Option.map_eq_some_iff] at hd
    obtain ⟨e, he, rfl⟩ := hd
    have h1 := h.new (k := .pure) (o := true) (by simp) (d := .leaf (.bool true)) (v := .bool true) ⟨fun _ => rfl, .leaf rfl⟩
    have ex : ExtS S ρ ve g (S.new .pure true) (ρ ++ [.leaf (.bool true)]) (upd ve S.n (.bool true)) g := ext_new h.len
    obtain ⟨S', ρ', ve', q1, q2, q3⟩ := chkPS_ok r h1 (fun q hq => ⟨ex.bd (hb q (List.mem_cons_of_mem _ hq)).1, ex.bd (hb q (List.mem_cons_of_mem _ hq)).2⟩) hw
    refine ⟨S', ρ', ve', q1, q2, fun q hq => ?_⟩
    rcases List.mem_cons.1 hq with rfl | hq
    · exact ptr_g h.toSM hp.1 hp.2 he
    · have := q3 q hq
      have b := hb q (List.mem_cons_of_mem _ hq)
      unfold PtrG at this ⊢
      rw [ex.val b.1, ex.val b.2] at this
      exact this
theorem ptrsS_bd (h : SR n0 H0 g0 S ρ ve lb g fr H) : ∀ (os : List Oper), ∀ q ∈ ptrsS S os, q.1.bd S.n S.blks.length ∧ q.2.bd S.n S.blks.length
  | [], _, hq => by cases hq
  | o :: os, q, hq => by
    unfold ptrsS at hq
    split at hq
    · split at hq
      · rename_i k i _ _ hs
        rcases List.mem_cons.1 hq with rfl | hq
        · exact (h.slots _ _ hs).1
        · exact ptrsS_bd h os q hq
      · exact ptrsS_bd h os q hq
    · exact ptrsS_bd h os q hq
theorem ptrsS_mem {t : TypeId} {a : Tmp} {k sz off : Nat} {i : SV} (hs : S.slots.get a = some (.ptr (.v k) i sz off)) : ∀ (os : List Oper) {o : Oper}, o ∈ os → o.op = .load t (.tmp a) → (.v k, i) ∈ ptrsS S os
  | [], _, h, _ => by cases h
  | p :: os, o, h, ho => by
    rcases List.mem_cons.1 h with rfl | h
    · simp only [ptrsS, ho, hs]
      exact List.mem_cons_self
    · have := ptrsS_mem hs os h ho
      unfold ptrsS
      split
      · split
        · exact List.mem_cons_of_mem _ this
        · exact this
      · exact this
theorem tames_ok {all : List Oper} (hpg : ∀ q ∈ ptrsS S all, PtrG ve lb g q.1 q.2) (h : SR n0 H0 g0 S ρ ve lb g fr H) (hall : tameAll S all all 0 = true) : ∀ (os : List Oper) (i : Nat), (∀ k o, os[k]? = some o → all[i + k]? = some o) → tameAll S all os i = true → TamesR fr ((tgtS S all 0).map fun q => (q.1, lb q.2)) all i os
  | [], _, _, _ => trivial
  | o :: os, i, hi, ht => by
    simp only [tameAll, Bool.and_eq_true] at ht
    refine ⟨?_, tames_ok hpg h hall os (i + 1) (fun k p hk => by have := hi (k + 1) p (by simpa using hk); rw [show i + 1 + k = i + (k + 1) by omega]; exact this) ht.2⟩
    have hst := tame_stores all 0 hall
    have hlive : ∀ {b}, b ∈ hidden all i (tgtS S all 0) → S.live b := fun {b} hb => by
      obtain ⟨j, hj⟩ := hidden_sub _ hb
      exact tgt_live (all := all) all 0 hst hj
    have hfar : ∀ {bs : List Nat} {b c : Nat}, bs.all (fun c => !(Nat.beq c b)) = true → c ∈ bs → c ≠ b := by
      intro bs b c h hc e
      have := List.all_eq_true.1 h c hc
      subst e
      simp at this
    have h1 := ht.1
    unfold TameR
    rw [hidden_map]
    cases ho : o.op with
    | store t a x =>
      obtain ⟨d, b, off, y, rfl, hs, hy, hb, hd⟩ := tame_store h1 ho
      refine ⟨by rw [hb]; rfl, hd, fun B hB => ?_⟩
      have hv := (h.slots d _ hs).2
      simp only [SV.val] at hv
      rw [hv] at hB
      simp only [ptrB, Option.some.injEq] at hB
      subst hB
      have hm := tgt_mem hs all 0 i o (by have := hi 0 o rfl; simpa using this) ho
      rw [Nat.zero_add] at hm
      exact List.mem_map.2 ⟨_, hm, rfl⟩
    | load t a =>
      unfold tameOp at h1
      rw [ho] at h1
      cases a with
      | tmp a =>
        simp only [Bool.and_eq_true] at h1
        refine ⟨h1.1, fun B hB hm => ?_⟩
        obtain ⟨c, hc, rfl⟩ := List.mem_map.1 hm
        have h2 := h1.2
        split at h2
        · rename_i b off hs
          have hv := (h.slots a _ hs).2
          simp only [SV.val] at hv
          rw [hv] at hB
          simp only [ptrB, Option.some.injEq] at hB
          simp only [Bool.and_eq_true] at h2
          obtain ⟨y, hy⟩ := some_of_getD h2.2
          exact hfar h2.1 hc (h.sepL c b (hlive hc) ⟨y, hy⟩ hB.symm)
        · rename_i k x1 x2 x3 hs
          have hv := (h.slots a _ hs).2
          simp only [SV.val] at hv
          rw [hv] at hB
          have hmem : o ∈ all := by have := hi 0 o rfl; exact List.mem_of_getElem? this
          obtain ⟨kk, hkk⟩ := hpg _ (ptrsS_mem hs all hmem ho) _ _ _ hB
          have hfree := h.sepLG c (hlive hc)
          rw [hkk] at hfree
          cases hfree
        · cases h2
      | const _ => cases h1
      | global _ => cases h1
      | func _ => cases h1
    | alloc t =>
      unfold tameOp at h1
      rw [ho] at h1
      simp only at h1 ⊢
      split at h1
      case h_2 => cases h1
      rename_i d hd
      simp only [Bool.and_eq_true] at h1
      refine ⟨d, hd, h1.1, fun B hB hm => ?_⟩
      obtain ⟨c, hc, rfl⟩ := List.mem_map.1 hm
      have h2 := h1.2
      split at h2
      · rename_i b off hs
        have hv := (h.slots d _ hs).2
        simp only [SV.val] at hv
        rw [hv] at hB
        simp only [ptrB, Option.some.injEq] at hB
        simp only [Bool.and_eq_true] at h2
        obtain ⟨y, hy⟩ := some_of_getD h2.2
        exact hfar h2.1 hc (h.sepL c b (hlive hc) ⟨y, hy⟩ hB.symm)
      · cases h2
    | _ => unfold tameOp at h1; rw [ho] at h1; exact h1
theorem loose_ok (he : EOk E) {id : Nat} {ops : Array Oper} {κ : St → Tree} (h : SR n0 H0 g0 S ρ ve lb g fr H)
    (hw : wp E (Holds E) Q (opsS E ops false ops.toList 0 S (fun S => bif tameAll S ops.toList ops.toList 0 then chkPS (ptrsS S ops.toList) S κ else .fail)) ρ) :
    ∃ S' ρ' ve' lb' g' fr' H', SR n0 H0 g0 S' ρ' ve' lb' g' fr' H' ∧ wp E (Holds E) Q (κ S') ρ' ∧ CodeX E (.region id ops true) fr H .normal fr' H' := by
  obtain ⟨S1, ρ1, ve1, lb1, g1, fr1, H1, h1, hw, hx⟩ := ops_ok ops.toList 0 h hw
  obtain ⟨ht, hw⟩ := wp_bif hw
  obtain ⟨S2, ρ2, ve2, h2, hw, hpg⟩ := chkPS_ok _ h1 (ptrsS_bd h1 _) hw
  have hT := tames_ok hpg h1 ht ops.toList 0 (fun k o hk => by rw [Nat.zero_add]; exact hk) ht
  obtain ⟨hn, l, f1, f2, f3⟩ := hx
  have hrun0 := f3 (ihL l) (fun a ha => ihL_at f1 a ha)
  obtain ⟨H2, hrun, hq⟩ := draw_run (N := n0.n) ops.toList 0 hrun0 hT ⟨fun _ => rfl, rfl, fun _ _ h => h, h.base.1⟩
  refine ⟨S2, ρ2, ve2, lb1, g1, fr1, H2, h2.congr hq.get hq.next (hq.low _ (Nat.min_le_right _ _) h2.low), hw, ?_⟩
  have io := ihL_ok f1
  refine ⟨by rw [hq.next]; exact hn, ?_⟩
  intro hr0 σ w tmps n0 B0 hr hf hfree hn0 b ds k cs hk hro hds
  have hfree' : Free σ H.next H2.next := hfree
  obtain ⟨σ', w', tmps', g1, g2, g3⟩ := region_sim he io.call io.round io.up (id := id) (fun hd => by simpa [regsOk, hd] using hr0) b ds k cs hk hro hrun hr hf hfree'
  exact ⟨σ', w', tmps', ds, g1, g2, runOps_rd hrun, hds.step hr g1, g3⟩
end
end Go.Am
namespace Go.Am
open Go
theorem CallOK.raise {E : Env} {f : FuncId} {args : List Value} {H H' : AH} {v : Value} (h : CallOK E f args H v H') : CallOK E f args H v { H' with next := H'.next + 1 } := by
  intro σ w args' hr hv hf cs
  obtain ⟨e, w', fr, ⟨σ', v', g1, g2, s⟩, g4⟩ := h σ w args' hr hv (fun b h1 h2 => hf b h1 (Nat.lt_succ_of_lt h2)) cs
  have st : Step E σ H w σ' { H' with next := H'.next + 1 } w' := by
    refine ⟨⟨s.hr.objs, s.hr.sep, s.hr.glob, fun b k hb => ?_⟩, Nat.le_succ_of_le s.next, fun b hb => ?_, s.size, s.low, s.tape, s.os, s.output, s.frame, s.origin, s.old, s.keep, s.born⟩
    · exact ⟨(s.hr.wf b k hb).1, Nat.lt_succ_of_lt (s.hr.wf b k hb).2⟩
    · refine s.ext b ?_
      rcases hb with hb | hb
      · exact .inl hb
      · exact .inr (Nat.le_of_succ_le hb)
  exact ⟨e, w', fr, ⟨σ', v', g1, g2, st⟩, g4⟩
abbrev KSem := AExit → Fr → AH → Prop
def Fin (E : Env) (c : Code) (K : KSem) (fr : Fr) (H : AH) : Prop := ∃ e fr1 H1, CodeX E c fr H e fr1 H1 ∧ K e fr1 H1
def semSeq (E : Env) (b : Code) (K : KSem) : KSem := fun e fr H => match e with
  | .normal => Fin E b K fr H
  | e => K e fr H
def semBlock (id : Nat) (K : KSem) : KSem := fun e fr H => match e with
  | .exit id' => if id' = id then K .normal fr H else K (.exit id') fr H
  | e => K e fr H
def semLoop (E : Env) (b : Code) (K : KSem) : KSem := fun e fr H => match e with
  | .normal => Fin E (.loop b) K fr H
  | e => K e fr H
section
variable {E : Env} {fr : Fr} {H : AH} {K : KSem}
theorem fin_seq {a b : Code} (h : Fin E a (semSeq E b K) fr H) : Fin E (.seq a b) K fr H := by
  obtain ⟨e, fr1, H1, h1, h2⟩ := h
  cases e with
  | normal =>
    obtain ⟨e2, fr2, H2, h3, h4⟩ := h2
    exact ⟨e2, fr2, H2, h1.seq h3, h4⟩
  | exit id => exact ⟨_, fr1, H1, h1.seqOut (by simp), h2⟩
  | ret => exact ⟨_, fr1, H1, h1.seqOut (by simp), h2⟩
theorem fin_block {id : Nat} {b : Code} (h : Fin E b (semBlock id K) fr H) : Fin E (.block id b) K fr H := by
  obtain ⟨e, fr1, H1, h1, h2⟩ := h
  cases e with
  | normal => exact ⟨_, fr1, H1, h1.block (by simp), h2⟩
  | exit id' =>
    simp only [semBlock] at h2
    split at h2
    · rename_i e; subst e
      exact ⟨_, fr1, H1, h1.blockExit, h2⟩
    · rename_i e
      exact ⟨_, fr1, H1, h1.block (by simpa using e), h2⟩
  | ret => exact ⟨_, fr1, H1, h1.block (by simp), h2⟩
theorem fin_loop {b : Code} (h : Fin E b (semLoop E b K) fr H) : Fin E (.loop b) K fr H := by
  obtain ⟨e, fr1, H1, h1, h2⟩ := h
  cases e with
  | normal =>
    obtain ⟨e2, fr2, H2, h3, h4⟩ := h2
    exact ⟨e2, fr2, H2, h1.loop h3, h4⟩
  | exit id => exact ⟨_, fr1, H1, h1.loopOut (by simp), h2⟩
  | ret => exact ⟨_, fr1, H1, h1.loopOut (by simp), h2⟩
theorem fin_scope {b : Code} (h : Fin E b K fr H) : Fin E (.scope b) K fr H := by
  obtain ⟨e, fr1, H1, h1, h2⟩ := h
  exact ⟨e, fr1, H1, h1.scope, h2⟩
end
inductive Ctx (E : Env) (J : Nat → St → Tree) (c0 : Code) (κ0 : KC) (K0 : KSem) : Nat → Code → KC → KSem → Prop
  | root : Ctx E J c0 κ0 K0 1 c0 κ0 K0
  | seqL {n : Nat} {a b : Code} {κ : KC} {K : KSem} (h : Ctx E J c0 κ0 K0 n (.seq a b) κ K) : Ctx E J c0 κ0 K0 n a (seqK (fun S => sx E J (n + nl a) b S κ) κ) (semSeq E b K)
  | seqR {n : Nat} {a b : Code} {κ : KC} {K : KSem} (h : Ctx E J c0 κ0 K0 n (.seq a b) κ K) : Ctx E J c0 κ0 K0 (n + nl a) b κ K
  | condL {n : Nat} {c : Operand} {a b : Code} {κ : KC} {K : KSem} (h : Ctx E J c0 κ0 K0 n (.cond c a b) κ K) : Ctx E J c0 κ0 K0 n a κ K
  | condR {n : Nat} {c : Operand} {a b : Code} {κ : KC} {K : KSem} (h : Ctx E J c0 κ0 K0 n (.cond c a b) κ K) : Ctx E J c0 κ0 K0 (n + nl a) b κ K
  | block {n id : Nat} {b : Code} {κ : KC} {K : KSem} (h : Ctx E J c0 κ0 K0 n (.block id b) κ K) : Ctx E J c0 κ0 K0 n b (blockK id κ) (semBlock id K)
  | loop {n : Nat} {b : Code} {κ : KC} {K : KSem} (h : Ctx E J c0 κ0 K0 n (.loop b) κ K) : Ctx E J c0 κ0 K0 (n + 1) b (loopK J n κ) (semLoop E b K)
  | scope {n : Nat} {b : Code} {κ : KC} {K : KSem} (h : Ctx E J c0 κ0 K0 n (.scope b) κ K) : Ctx E J c0 κ0 K0 n b κ K
section
variable {E : Env} {n0 : Lim} {H0 : AH} {g0 : Mem} {Q : Res1 → Prop} {J : Nat → St → Tree} {c0 : Code} {κ0 : KC} {K0 : KSem}
def Link (E : Env) (n0 : Lim) (H0 : AH) (g0 : Mem) (Q : Res1 → Prop) (κ : KC) (K : KSem) : Prop :=
  ∀ e S ρ ve lb g fr H, SR n0 H0 g0 S ρ ve lb g fr H → wp E (Holds E) Q (κ e S) ρ → K e fr H
def Jumps (E : Env) (n0 : Lim) (H0 : AH) (g0 : Mem) (Q : Res1 → Prop) (J : Nat → St → Tree) (c0 : Code) (κ0 : KC) (K0 : KSem) : Prop :=
  ∀ k b κ K, Ctx E J c0 κ0 K0 k (.loop b) κ K → ∀ S ρ ve lb g fr H, SR n0 H0 g0 S ρ ve lb g fr H → wp E (Holds E) Q (J k S) ρ → Fin E (.loop b) K fr H
theorem sx_ok (he : EOk E) (hj : Jumps E n0 H0 g0 Q J c0 κ0 K0) : ∀ (c : Code) (n : Nat) (κ : KC) (K : KSem), Ctx E J c0 κ0 K0 n c κ K → Link E n0 H0 g0 Q κ K →
    ∀ S ρ ve lb g fr H, SR n0 H0 g0 S ρ ve lb g fr H → wp E (Holds E) Q (sx E J n c S κ) ρ → Fin E c K fr H
  | .seq a b, n, κ, K, hc, hl, S, ρ, ve, lb, g, fr, H, h, hw => by
    refine fin_seq (sx_ok he hj a n _ _ hc.seqL ?_ S ρ ve lb g fr H h hw)
    intro e S1 ρ1 ve1 lb1 g1 fr1 H1 h1 hw1
    cases e with
    | normal => exact sx_ok he hj b _ κ K hc.seqR hl S1 ρ1 ve1 lb1 g1 fr1 H1 h1 hw1
    | exit id => exact hl _ S1 ρ1 ve1 lb1 g1 fr1 H1 h1 hw1
    | ret => exact hl _ S1 ρ1 ve1 lb1 g1 fr1 H1 h1 hw1
  | .cond c a b, n, κ, K, hc, hl, S, ρ, ve, lb, g, fr, H, h, hw => by
    simp only [sx] at hw
    have T : ∀ S', SR n0 H0 g0 S' ρ ve lb g fr H → ev E fr c = some (.bool true) → wp E (Holds E) Q (sx E J n a S' κ) ρ → Fin E (.cond c a b) K fr H := by
      intro S' h' hv hw
      obtain ⟨e, fr1, H1, r1, r2⟩ := sx_ok he hj a n κ K hc.condL hl S' ρ ve lb g fr H h' hw
      exact ⟨e, fr1, H1, r1.condT he hv, r2⟩
    have F : ∀ S', SR n0 H0 g0 S' ρ ve lb g fr H → ev E fr c = some (.bool false) → wp E (Holds E) Q (sx E J (n + nl a) b S' κ) ρ → Fin E (.cond c a b) K fr H := by
      intro S' h' hv hw
      obtain ⟨e, fr1, H1, r1, r2⟩ := sx_ok he hj b (n + nl a) κ K hc.condR hl S' ρ ve lb g fr H h' hw
      exact ⟨e, fr1, H1, r1.condF he hv, r2⟩
    split at hw
    · rename_i hv; exact T S h (evS_ok (E := E) h hv).2 hw
    · rename_i hv; exact F S h (evS_ok (E := E) h hv).2 hw
    · rename_i i hv
      obtain ⟨hp, hw⟩ := wp_bif hw
      obtain ⟨t, hd, hw⟩ := ite_inv hw
      have hv' := (evS_ok (E := E) h hv).2
      simp only [SV.val, bool_val h.toSM hp hd] at hv'
      cases t with
      | true => exact T _ (known_ok h hp hd) hv' hw
      | false => exact F _ (known_ok h hp hd) hv' hw
    · cases hw
  | .block id b, n, κ, K, hc, hl, S, ρ, ve, lb, g, fr, H, h, hw => by
    refine fin_block (sx_ok he hj b n _ _ hc.block ?_ S ρ ve lb g fr H h hw)
    intro e S1 ρ1 ve1 lb1 g1 fr1 H1 h1 hw1
    cases e with
    | normal => exact hl _ S1 ρ1 ve1 lb1 g1 fr1 H1 h1 hw1
    | ret => exact hl _ S1 ρ1 ve1 lb1 g1 fr1 H1 h1 hw1
    | exit id' =>
      simp only [blockK, bif_beq] at hw1
      simp only [semBlock]
      split
      · rename_i e; rw [if_pos e] at hw1
        exact hl _ S1 ρ1 ve1 lb1 g1 fr1 H1 h1 hw1
      · rename_i e; rw [if_neg e] at hw1
        exact hl _ S1 ρ1 ve1 lb1 g1 fr1 H1 h1 hw1
  | .loop b, n, κ, K, hc, hl, S, ρ, ve, lb, g, fr, H, h, hw => hj n b κ K hc S ρ ve lb g fr H h hw
  | .scope b, n, κ, K, hc, hl, S, ρ, ve, lb, g, fr, H, h, hw => fin_scope (sx_ok he hj b n κ K hc.scope hl S ρ ve lb g fr H h hw)
  | .region id ops draw, n, κ, K, hc, hl, S, ρ, ve, lb, g, fr, H, h, hw => by
    simp only [sx] at hw
    rw [cond_eq_ite] at hw
    split at hw
    · rename_i hc
      simp only [Bool.and_eq_true] at hc
      obtain ⟨S', ρ', ve', lb', g', fr', H', r1, r2, r3⟩ := loose_ok he (id := id) h hw
      rw [hc.1]
      exact ⟨_, fr', H', r3, hl _ S' ρ' ve' lb' g' fr' H' r1 r2⟩
    · obtain ⟨S', ρ', ve', lb', g', fr', H', r1, r2, r3⟩ := ops_ok ops.toList 0 h hw
      exact ⟨_, fr', H', .region he r3, hl _ S' ρ' ve' lb' g' fr' H' r1 r2⟩
  | .skip, n, κ, K, hc, hl, S, ρ, ve, lb, g, fr, H, h, hw => ⟨_, fr, H, .skip, hl _ S ρ ve lb g fr H h hw⟩
  | .label l, n, κ, K, hc, hl, S, ρ, ve, lb, g, fr, H, h, hw => ⟨_, fr, H, .label, hl _ S ρ ve lb g fr H h hw⟩
  | .ret, n, κ, K, hc, hl, S, ρ, ve, lb, g, fr, H, h, hw => ⟨_, fr, H, .ret, hl _ S ρ ve lb g fr H h hw⟩
  | .exit id, n, κ, K, hc, hl, S, ρ, ve, lb, g, fr, H, h, hw => ⟨_, fr, H, .exit, hl _ S ρ ve lb g fr H h hw⟩
  | .rangeFunc _ _ _ _, n, κ, K, hc, hl, S, ρ, ve, lb, g, fr, H, h, hw => by cases hw
  | .goto _, n, κ, K, hc, hl, S, ρ, ve, lb, g, fr, H, h, hw => by cases hw
  | .refuse _, n, κ, K, hc, hl, S, ρ, ve, lb, g, fr, H, h, hw => by cases hw
theorem link_of (he : EOk E) (hj : Jumps E n0 H0 g0 Q J c0 κ0 K0) (h0 : Link E n0 H0 g0 Q κ0 K0) {n : Nat} {c : Code} {κ : KC} {K : KSem} (hc : Ctx E J c0 κ0 K0 n c κ K) : Link E n0 H0 g0 Q κ K := by
  induction hc with
  | root => exact h0
  | @seqL n a b κ K hc ih =>
    intro e S1 ρ1 ve1 lb1 g1 fr1 H1 h1 hw1
    cases e with
    | normal => exact sx_ok he hj b _ κ K hc.seqR ih S1 ρ1 ve1 lb1 g1 fr1 H1 h1 hw1
    | exit id => exact ih _ S1 ρ1 ve1 lb1 g1 fr1 H1 h1 hw1
    | ret => exact ih _ S1 ρ1 ve1 lb1 g1 fr1 H1 h1 hw1
  | seqR hc ih => exact ih
  | condL hc ih => exact ih
  | condR hc ih => exact ih
  | @block n id b κ K hc ih =>
    intro e S1 ρ1 ve1 lb1 g1 fr1 H1 h1 hw1
    cases e with
    | normal => exact ih _ S1 ρ1 ve1 lb1 g1 fr1 H1 h1 hw1
    | ret => exact ih _ S1 ρ1 ve1 lb1 g1 fr1 H1 h1 hw1
    | exit id' =>
      simp only [blockK, bif_beq] at hw1
      simp only [semBlock]
      split
      · rename_i e; rw [if_pos e] at hw1
        exact ih _ S1 ρ1 ve1 lb1 g1 fr1 H1 h1 hw1
      · rename_i e; rw [if_neg e] at hw1
        exact ih _ S1 ρ1 ve1 lb1 g1 fr1 H1 h1 hw1
  | @loop n b κ K hc ih =>
    intro e S1 ρ1 ve1 lb1 g1 fr1 H1 h1 hw1
    cases e with
    | normal => exact hj n b κ K hc S1 ρ1 ve1 lb1 g1 fr1 H1 h1 hw1
    | exit id => exact ih _ S1 ρ1 ve1 lb1 g1 fr1 H1 h1 hw1
    | ret => exact ih _ S1 ρ1 ve1 lb1 g1 fr1 H1 h1 hw1
  | scope hc ih => exact ih
theorem heads_in {P : Nat → St} {n : Nat} {c : Code} {κ : KC} {K : KSem} (hc : Ctx E J c0 κ0 K0 n c κ K) : ∀ x ∈ headsT E P J n c κ, x ∈ headsT E P J 1 c0 κ0 := by
  induction hc with
  | root => exact fun x hx => hx
  | seqL hc ih => exact fun x hx => ih x (by simp only [headsT]; exact List.mem_append_left _ hx)
  | seqR hc ih => exact fun x hx => ih x (by simp only [headsT]; exact List.mem_append_right _ hx)
  | condL hc ih => exact fun x hx => ih x (by simp only [headsT]; exact List.mem_append_left _ hx)
  | condR hc ih => exact fun x hx => ih x (by simp only [headsT]; exact List.mem_append_right _ hx)
  | block hc ih => exact fun x hx => ih x (by simp only [headsT]; exact hx)
  | loop hc ih => exact fun x hx => ih x (by simp only [headsT]; exact List.mem_cons_of_mem _ hx)
  | scope hc ih => exact fun x hx => ih x (by simp only [headsT]; exact hx)
theorem jumps_ok (he : EOk E) {pats : Nat → Pat} {sz : Nat} {Ts : Nat → Tree} {d : D} (hJ : J = fun k S => jumpS sz (pats k) k S)
    (hT : ∀ x ∈ headsT E (fun k => (pats k).st sz) J 1 c0 κ0, Ts x.1 = x.2) (h0 : ∀ Q : Res1 → Prop, (∀ d', Q (.ret d') → d' = d) → Link E n0 H0 g0 Q κ0 K0) (hP : ∀ k, n0.F.length ≤ (pats k).blks.length) :
    ∀ n, Jumps E n0 H0 g0 (fun r => match r with | .ret d' => d' = d | .jump k' ds => goN E (Holds E) Ts n k' ds d) J c0 κ0 K0
  | 0 => by
    intro k b κ K hc S ρ ve lb g fr H h hw
    rw [hJ] at hw
    obtain ⟨ds, ve', g', _, hq⟩ := jump_ok h hw (hP _)
    cases hq
  | n + 1 => by
    have ih := jumps_ok he hJ hT h0 hP n
    intro k b κ K hc S ρ ve lb g fr H h hw
    have hw2 := hw
    rw [hJ] at hw2
    obtain ⟨ds, ve', g', h', hq⟩ := jump_ok h hw2 (hP _)
    have hTk : Ts k = sx E J (k + 1) b ((pats k).st sz) (loopK J k κ) := by
      have := heads_in (P := fun k => (pats k).st sz) hc (k, sx E J (k + 1) b ((pats k).st sz) (loopK J k κ)) (by simp only [headsT]; exact List.mem_cons_self)
      exact hT _ this
    have hq' : wp E (Holds E) (fun r => match r with | .ret d' => d' = d | .jump k' ds => goN E (Holds E) Ts n k' ds d) (Ts k) ds := hq
    rw [hTk] at hq'
    refine fin_loop (sx_ok he ih b (k + 1) _ _ hc.loop (link_of he ih (h0 _ fun d' hd => hd) hc.loop) _ ds ve' lb g' fr H h' hq')
end
end Go.Am
namespace Go.Am
open Go
section
variable {E : Env} {n0 : Lim} {H0 : AH} {g0 : Mem} {Q : Res1 → Prop} {HS : FuncId → List D → D → Prop}
theorem resS_ok : ∀ (rs : List ResultVar) (acc : List SV) {S : St} {ρ : List D} {ve : Nat → Value} {lb : Nat → Nat} {g : Mem} {fr : Fr} {H : AH}, SR n0 H0 g0 S ρ ve lb g fr H → SV.bds S.n S.blks.length acc → wp E HS Q (resS E S acc rs) ρ →
    ∃ S' ρ' ve' g' vs ds, SR n0 H0 g0 S' ρ' ve' lb g' fr H ∧ resultA E fr H rs = some vs ∧ DRs g' ds (SV.vals ve lb acc ++ vs) ∧ Q (.ret (retD ds))
  | [], acc, S, ρ, ve, lb, g, fr, H, h, hb, hw => by
    simp only [resS] at hw
    obtain ⟨g1, e1, h1⟩ := freezeVs_ok acc h
    obtain ⟨hp, hw⟩ := wp_bif hw
    rw [List.all_eq_true] at hp
    exact ⟨_, ρ, ve, g1, [], _, h1, rfl, by rw [List.append_nil]; exact readBs_pure h1.toSM hp, hw⟩
  | .tmp t :: rs, acc, S, ρ, ve, lb, g, fr, H, h, hb, hw => by
    simp only [resS] at hw
    split at hw
    · rename_i x hx
      obtain ⟨q1, q2⟩ := h.slots t x hx
      obtain ⟨S', ρ', ve', g', vs, ds, r1, r2, r3, r4⟩ := resS_ok rs (acc ++ [x]) h (by
        rw [SV.bds_iff] at hb ⊢
        intro u hu
        rcases List.mem_append.1 hu with hu | hu
        · exact hb u hu
        · simp only [List.mem_singleton] at hu; subst hu; exact q1) hw
      refine ⟨S', ρ', ve', g', x.val ve lb :: vs, ds, r1, by simp only [resultA, q2, r2, Option.map_some], ?_, r4⟩
      rw [vals_app] at r3
      simpa [SV.vals] using r3
    · cases hw
  | .cell a t :: rs, acc, S, ρ, ve, lb, g, fr, H, h, hb, hw => by
    simp only [resS] at hw
    split at hw
    · rename_i p hp
      obtain ⟨q1, q2⟩ := h.slots a p hp
      obtain ⟨y, S1, ρ1, ve1, g1, e1, h1, hw1, s1, s2⟩ := op_load h q1 hw
      obtain ⟨S', ρ', ve', g', vs, ds, r1, r2, r3, r4⟩ := resS_ok rs (acc ++ [y]) h1 (by
        have hb' := e1.bds hb
        rw [SV.bds_iff] at hb' ⊢
        intro u hu
        rcases List.mem_append.1 hu with hu | hu
        · exact hb' u hu
        · simp only [List.mem_singleton] at hu; subst hu; exact s1) hw1
      refine ⟨S', ρ', ve', g', y.val ve1 lb :: vs, ds, r1, by simp only [resultA, q2, Option.bind_some, s2, r2, Option.map_some], ?_, r4⟩
      rw [vals_app] at r3
      have : SV.vals ve1 lb acc = SV.vals ve lb acc := SV.vals_congr e1.ve (fun _ _ => rfl) hb
      rw [this] at r3
      simpa [SV.vals] using r3
    · cases hw
def EndOK (E : Env) (H0 : AH) (g0 : Mem) (rs : List ResultVar) (d : D) : KSem := fun e fr H => (e = .normal ∨ e = .ret) ∧
  ∃ v g', (match resultA E fr H rs with | some [v] => some v | some vs => some (.tuple ⟨vs⟩) | none => none) = some v ∧ DR g' d v ∧ Mem.le g' H.blocks.get ∧ WF H ∧ H0.next ≤ H.next ∧ (∀ b, b < H0.next → H.blocks.get b = H0.blocks.get b) ∧
    Nat.min H0.low H0.next ≤ H.low ∧ (∀ b, b < H0.next → g' b = g0 b)
theorem endK_ok {rs : List ResultVar} {d : D} (hQ : ∀ d', Q (.ret d') → d' = d) : Link E (Lim.of H0.next) H0 g0 Q (endK E rs) (EndOK E H0 g0 rs d) := by
  intro e S ρ ve lb g fr H h hw
  have main : wp E (Holds E) Q (resS E S [] rs) ρ → ∃ v g', (match resultA E fr H rs with | some [v] => some v | some vs => some (.tuple ⟨vs⟩) | none => none) = some v ∧ DR g' d v ∧ Mem.le g' H.blocks.get ∧ WF H ∧ H0.next ≤ H.next ∧ (∀ b, b < H0.next → H.blocks.get b = H0.blocks.get b) ∧
    Nat.min H0.low H0.next ≤ H.low ∧ (∀ b, b < H0.next → g' b = g0 b) := by
    intro hw
    obtain ⟨S', ρ', ve', g', vs, ds, r1, r2, r3, r4⟩ := resS_ok rs [] h trivial hw
    have := hQ _ r4
    subst this
    simp only [SV.vals, List.nil_append] at r3
    have fin : ∀ v, (match some vs with | some [v] => some v | some vs => some (Value.tuple ⟨vs⟩) | none => none) = some v → DR g' (retD ds) v → ∃ v g', (match resultA E fr H rs with | some [v] => some v | some vs => some (Value.tuple ⟨vs⟩) | none => none) = some v ∧ DR g' (retD ds) v ∧ Mem.le g' H.blocks.get ∧ WF H ∧ H0.next ≤ H.next ∧ (∀ b, b < H0.next → H.blocks.get b = H0.blocks.get b) ∧
        Nat.min H0.low H0.next ≤ H.low ∧ (∀ b, b < H0.next → g' b = g0 b) :=
      fun v e hd => ⟨v, g', by rw [r2]; exact e, hd, r1.mem, r1.wf, r1.base.1, r1.keep, r1.low, r1.gk⟩
    match ds, vs, r3 with
    | [], _, .nil => exact fin _ rfl (.tup .nil)
    | [x], _, .cons hx .nil => exact fin _ rfl hx
    | x :: y :: r, _, .cons hx (.cons hy hr) => exact fin _ rfl (.tup (.cons hx (.cons hy hr)))
  cases e with
  | normal => exact ⟨.inl rfl, main hw⟩
  | ret => exact ⟨.inr rfl, main hw⟩
  | exit id => cases hw
theorem start_ok {H : AH} {g : Mem} {args : List Value} {ds : List D} (hwf : WF H) (hm : Mem.le g H.blocks.get) (hd : DRs g ds args) {n sz : Nat} (hn : args.length = n) :
    SR (Lim.of H.next) H g (startS n sz) ds (fun i => args.getD i (.bool false)) (fun _ => 0) g ⟨sz, false, T.ofList .leaf 0 args⟩ H := by
  have hl : ds.length = n := by rw [← hd.length, hn]
  have nofresh : ∀ i, (startS n sz).freshV i = false := by
    intro i
    cases hf : (startS n sz).freshV i with
    | false => rfl
    | true =>
      obtain ⟨o, h⟩ := fresh_st.1 hf
      simp only [startS, List.getElem?_replicate] at h
      split at h <;> cases h
  have nolive : ∀ b, ¬ (startS n sz).live b := by
    rintro b ⟨x, h⟩
    simp [startS] at h
  refine { len := by simp [startS, hl], wf := hwf, mem := hm, base := Lim.of_base _, fix := ⟨Nat.zero_le _, fun k a hk => by simp [Lim.of] at hk⟩, vars := ?_, blks := ?_, sepLG := fun b hb => absurd hb (nolive b), sepFG := ?_, sepL := fun a b ha => absurd ha (nolive a), sepF := ?_, sepX := fun b i hb => absurd hb (nolive b),
           sz := rfl, rd := rfl, slots := ?_, keep := fun _ _ => rfl, low := Nat.min_le_left _ _, gk := fun _ _ => rfl }
  · intro i s hs
    simp only [startS, List.getElem?_replicate] at hs
    split at hs
    · rename_i hi
      cases hs
      refine ⟨fun e => (by cases e), ?_⟩
      have hi' : i < ds.length := by omega
      obtain ⟨v, h1, h2⟩ := hd.get i ds[i] (List.getElem?_eq_getElem hi')
      simp only [getD, List.getD_eq_getElem?_getD, List.getElem?_eq_getElem hi', Option.getD_some, h1]
      exact h2
    · cases hs
  · intro b x hb
    exact absurd ⟨x, hb⟩ (nolive b)
  · intro i B hi; rw [nofresh i] at hi; cases hi
  · intro i j B hi; rw [nofresh i] at hi; cases hi
  · intro t x hx
    simp only [startS, ofList_getA, List.length_map, List.length_range] at hx
    rw [ofList_getA]
    split at hx
    · rename_i ht
      simp only [List.getElem?_map, Option.map_eq_some_iff] at hx
      obtain ⟨j, hj, rfl⟩ := hx
      obtain ⟨h1, h2⟩ := List.getElem?_eq_some_iff.1 hj
      simp at h1 h2
      subst h2
      refine ⟨?_, ?_⟩
      · show t < (startS n sz).n
        simp [startS, St.n]; omega
      · rw [if_pos (by omega)]
        simp only [Nat.sub_zero, SV.val, List.getD_eq_getElem?_getD]
        rw [List.getElem?_eq_getElem (by omega)]
        rfl
    · simp [T.get] at hx
theorem wp_one : ∀ (T : Tree) (ρ : List D), wp E HS Q T ρ → ∃ r, Q r ∧ ∀ Q' : Res1 → Prop, Q' r → wp E HS Q' T ρ
  | .fail, _, h => by cases h
  | .stop _ _, _, h => by cases h
  | .ret xs, ρ, h => ⟨_, h, fun _ h' => h'⟩
  | .jump k xs, ρ, h => ⟨_, h, fun _ h' => h'⟩
  | .bind o xs r, ρ, h => by
    simp only [wp] at h
    split at h
    · rename_i d hd
      obtain ⟨r', h1, h2⟩ := wp_one r _ h
      exact ⟨r', h1, fun Q' h' => by simp only [wp, hd]; exact h2 Q' h'⟩
    · cases h
  | .call tg xs fl r, ρ, h => by
    simp only [wp] at h
    split at h
    · rename_i f ds hd
      obtain ⟨d, h1, h2, h3⟩ := h
      obtain ⟨r', h4, h5⟩ := wp_one r _ h3
      exact ⟨r', h4, fun Q' h' => by simp only [wp, hd]; exact ⟨d, h1, h2, h5 Q' h'⟩⟩
    · cases h
  | .callM f m xs r, ρ, h => by
    simp only [wp] at h
    obtain ⟨ds, h1, h2, h3⟩ := h
    obtain ⟨r', h4, h5⟩ := wp_one r _ h3
    exact ⟨r', h4, fun Q' h' => by simp only [wp]; exact ⟨ds, h1, h2, h5 Q' h'⟩⟩
  | .ite c a b, ρ, h => by
    simp only [wp] at h
    split at h
    · rename_i hd
      obtain ⟨r', h1, h2⟩ := wp_one a _ h
      exact ⟨r', h1, fun Q' h' => by simp only [wp, hd]; exact h2 Q' h'⟩
    · rename_i hd
      obtain ⟨r', h1, h2⟩ := wp_one b _ h
      exact ⟨r', h1, fun Q' h' => by simp only [wp, hd]; exact h2 Q' h'⟩
    · cases h
theorem Goes.step {Ts : Nat → Tree} {k : Nat} {ρ : List D} {d : D} (h : wp E HS (fun r => match r with | .ret d' => d' = d | .jump k' ds => Goes E HS Ts k' ds d) (Ts k) ρ) : Goes E HS Ts k ρ d := by
  obtain ⟨r, h1, h2⟩ := wp_one _ _ h
  cases r with
  | ret d' => exact ⟨1, h2 _ h1⟩
  | jump k' ds =>
    obtain ⟨n, hn⟩ := h1
    exact ⟨n + 1, h2 _ hn⟩
theorem holds_of0 (he : EOk E) {f : FuncId} {fn : Func} {c : Code} (hf : E.funcs.get f = some fn) (hb : fn.body = some c) {pats : Nat → Pat} {Ts : Nat → Tree} {ds : List D} {d : D} {n : Nat} (hn : ds.length = n)
    (h0 : rootT E (fun k S => jumpS (Nat.max fn.ntmps n) (pats k) k S) fn n = Ts 0)
    (hT : ∀ x ∈ headsT E (fun k => (pats k).st (Nat.max fn.ntmps n)) (fun k S => jumpS (Nat.max fn.ntmps n) (pats k) k S) 1 c (endK E fn.results.toList), Ts x.1 = x.2)
    (hgo : Goes E (Holds E) Ts 0 ds d) : Holds0 E f ds d := by
  refine ⟨⟨fn, hf⟩, fun H g args hwf hm hd => ?_⟩
  have hlen : args.length = n := by rw [hd.length, hn]
  have hs := start_ok (sz := Nat.max fn.ntmps n) hwf hm hd hlen
  obtain ⟨m, hgo⟩ := hgo
  cases m with
  | zero => cases hgo
  | succ m =>
    have hgo' : wp E (Holds E) (fun r => match r with | .ret d' => d' = d | .jump k' ds => goN E (Holds E) Ts m k' ds d) (Ts 0) ds := hgo
    rw [← h0] at hgo'
    simp only [rootT, hb] at hgo'
    have hlk : ∀ Q : Res1 → Prop, (∀ d', Q (.ret d') → d' = d) → Link E (Lim.of H.next) H g Q (endK E fn.results.toList) (EndOK E H g fn.results.toList d) := fun Q hQ => endK_ok hQ
    have hj := jumps_ok (n0 := Lim.of H.next) (H0 := H) (g0 := g) (c0 := c) (κ0 := endK E fn.results.toList) (K0 := EndOK E H g fn.results.toList d) he rfl hT hlk (fun _ => Nat.zero_le _) m
    obtain ⟨e, fr1, H1, hx, he', v, g', hv, hdr, hm', hwf', hnx, hk, hlow, hgk⟩ := sx_ok he hj c 1 _ _ .root (hlk _ fun d' hd' => hd') _ _ _ _ _ _ _ hs hgo'
    rw [← hlen] at hx
    have hcall := CodeX.call he hf hb hx he' hv
    let g2 : Mem := fun b => if b < H.next then g b else g' b
    have hg2 : Mem.le g' g2 := by
      intro b k hb
      simp only [g2]
      split
      · rename_i hlt; rw [← hgk b hlt]; exact hb
      · exact hb
    refine ⟨v, { H1 with next := H1.next + 1 }, g2, hcall.raise, Nat.lt_succ_of_le hnx, fun b k hb => ⟨(hwf' b k hb).1, Nat.lt_succ_of_lt (hwf' b k hb).2⟩, hk, hlow, ?_, ?_, ?_, hdr.mono hg2⟩
    · intro b k hb
      simp only [g2]
      rw [if_pos (hwf b k (hm b k hb)).2]
      exact hb
    · intro b k hb
      simp only [g2] at hb
      split at hb
      · rename_i hlt
        rw [← hgk b hlt] at hb
        exact hm' b k hb
      · exact hm' b k hb
    · intro b hb
      simp only [g2]
      rw [if_pos hb]
theorem holds_of (he : EOk E) {f : FuncId} {fn : Func} {c : Code} (hf : E.funcs.get f = some fn) (hb : fn.body = some c) {pats : Nat → Pat} {Ts : Nat → Tree} {ds : List D} {d : D} {n : Nat} (hn : ds.length = n)
    (h0 : rootT E (fun k S => jumpS (Nat.max fn.ntmps n) (pats k) k S) fn n = Ts 0)
    (hT : ∀ x ∈ headsT E (fun k => (pats k).st (Nat.max fn.ntmps n)) (fun k S => jumpS (Nat.max fn.ntmps n) (pats k) k S) 1 c (endK E fn.results.toList), Ts x.1 = x.2)
    (hgo : Goes E (Holds E) Ts 0 ds d) (hlt : f < bigN := by decide) : Holds E f ds d := .inl ⟨hlt, holds_of0 he hf hb hn h0 hT hgo⟩
theorem SM.raise {L : Lim} {S : St} {ρ : List D} {ve : Nat → Value} {lb : Nat → Nat} {g : Mem} {H : AH} (h : SM L S ρ ve lb g H) : SM L S ρ ve lb g { H with next := H.next + 1 } :=
  { h with wf := fun b k hb => ⟨(h.wf b k hb).1, Nat.lt_succ_of_lt (h.wf b k hb).2⟩, base := h.base.mono (Nat.le_succ _) }
end
end Go.Am
