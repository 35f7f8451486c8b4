/- What the abstract operations do, the model's do too: comparisons, addresses, slices. Conditions: none. -/
import Derived.Test.YtbkinfgpcjjaaaaGreatDoorAm1
set_option linter.all false
namespace Go.Am
open Go
section
variable {E : Env} {σ : Sig} {H : AH} {w : World} {fr : Fr} {a : Act}
theorem VR.int_inv {k : IntKind} {n : Int} {v' : Value} (h : VR σ (.int k n) v') : v' = .int k n := by cases h; rfl
theorem VR.bool_inv {b : Bool} {v' : Value} (h : VR σ (.bool b) v') : v' = .bool b := by cases h; rfl
theorem VR.string_inv {s : ByteArray} {v' : Value} (h : VR σ (.string s) v') : v' = .string s := by cases h; rfl
theorem flat_run {v v' : Value} (h : flatV v = true) (hv : VR σ v v') : v' = v := flat_eq 6 v v' h hv
theorem nilEqIn_run (he : EOk E) {t : TypeId} {x y x' y' : Value} (h : nilEq E t x y = true) (hx : VR σ x x') (hy : VR σ y y') (d : Nat) :
    (Op.equalIn (d + 1) t x' y').run E.prog w = .ok false w := by
  unfold nilEq at h
  split at h
  all_goals first | (cases h; done) | skip
  all_goals (rename_i ht; have hu := fun w => run_und he ht w; clear ht)
  all_goals
    cases hx <;> cases hy <;>
    first
    | (rename_i h0; simp [leafV] at h0; done)
    | (rename_i h0 _; simp [leafV] at h0; done)
    | simp [Op.equalIn, hu]
theorem nilEq_run (he : EOk E) {t : TypeId} {x y x' y' : Value} (h : nilEq E t x y = true) (hx : VR σ x x') (hy : VR σ y y') (xo yo : Operand) (op : BinOp) (b : Bool)
    (hop : op = .eql ∧ b = false ∨ op = .neq ∧ b = true) :
    (do eqGuard op t xo yo x' y'; binOp op t x' y' : Sem Value).run E.prog w = .ok (.bool b) w := by
  have hk : ∀ w, (Op.equal t x' y').run E.prog w = .ok false w := fun w => nilEqIn_run he h hx hy 9999
  unfold nilEq at h
  split at h
  all_goals first | (cases h; done) | skip
  all_goals
    rcases hop with ⟨rfl, rfl⟩ | ⟨rfl, rfl⟩ <;> cases hx <;> cases hy <;>
    first
    | (rename_i h0; simp [leafV] at h0; done)
    | (rename_i h0 _; simp [leafV] at h0; done)
    | simp [eqGuard, binOp, hk]
theorem ptrEq_run (he : EOk E) {t : TypeId} {x y x' y' : Value} (h : ptrEq E t x y = true) (hx : VR σ x x') (hy : VR σ y y') (xo yo : Operand) (op : BinOp) (b : Bool)
    (hop : op = .eql ∧ b = true ∨ op = .neq ∧ b = false) :
    (do eqGuard op t xo yo x' y'; binOp op t x' y' : Sem Value).run E.prog w = .ok (.bool b) w := by
  unfold ptrEq at h
  split at h
  case h_2 => cases h
  rename_i elem sz by_ z ag b1 o1 b2 o2 ht
  simp only [Bool.and_eq_true, Nat.beq_eq] at h
  obtain ⟨⟨hel, rfl⟩, rfl⟩ := h
  obtain ⟨e, hel⟩ := Option.isSome_iff_exists.1 hel
  cases hx with
  | leaf h0 => simp [leafV] at h0
  | ptr hs =>
    cases hy with
    | leaf h0 => simp [leafV] at h0
    | ptr hs2 =>
      rw [hs] at hs2
      cases hs2
      have hu := fun w => run_und he ht w
      have hsz := fun w => run_sizeOf' he hel w
      rename_i L
      have hk0 : ∀ (d : Nat) w, (Op.equalIn (d + 1) t (.pointer (some ⟨L.blk, L.off + o1, none⟩)) (.pointer (some ⟨L.blk, L.off + o1, none⟩))).run E.prog w = .ok true w := by
        intro d w
        by_cases h0 : e.size = 0 <;> simp [Op.equalIn, hu, hsz, h0, sameAddr]
      have hk : ∀ w, (Op.equal t (.pointer (some ⟨L.blk, L.off + o1, none⟩)) (.pointer (some ⟨L.blk, L.off + o1, none⟩))).run E.prog w = .ok true w := fun w => hk0 9999 w
      rcases hop with ⟨rfl, rfl⟩ | ⟨rfl, rfl⟩ <;> simp [eqGuard, binOp, hk]
theorem bin_run (he : EOk E) {op : BinOp} {t : TypeId} {xo yo : Operand} {x y x' y' v : Value} (h : binA E op t xo yo x y = some v) (hx : VR σ x x') (hy : VR σ y y') :
    ∃ v', (do eqGuard op t xo yo x' y'; binOp op t x' y' : Sem Value).run E.prog w = .ok v' w ∧ VR σ v v' := by
  unfold binA at h
  split at h
  case h_10 =>
    cases hc : flatV x && flatV y with
    | true =>
      rw [hc, cond_true] at h
      obtain ⟨h1, h2⟩ := flat?_spec h
      rw [Bool.and_eq_true] at hc
      rw [flat_run hc.1 hx, flat_run hc.2 hy]
      exact ⟨v, pure_run _ _ _ _ h1, flat_refl _ _ h2⟩
    | false =>
      rw [hc, cond_false] at h
      cases hp : ptrEq E t x y with
      | true =>
        rw [hp, cond_true] at h
        split at h
        · cases h; exact ⟨_, ptrEq_run he hp hx hy _ _ _ _ (.inl ⟨rfl, rfl⟩), .leaf rfl⟩
        · cases h; exact ⟨_, ptrEq_run he hp hx hy _ _ _ _ (.inr ⟨rfl, rfl⟩), .leaf rfl⟩
        · cases h
      | false =>
      rw [hp, cond_false] at h
      cases hn : nilEq E t x y with
      | false => rw [hn, cond_false] at h; cases h
      | true =>
        rw [hn, cond_true] at h
        split at h
        · cases h; exact ⟨_, nilEq_run he hn hx hy _ _ _ _ (.inl ⟨rfl, rfl⟩), .leaf rfl⟩
        · cases h; exact ⟨_, nilEq_run he hn hx hy _ _ _ _ (.inr ⟨rfl, rfl⟩), .leaf rfl⟩
        · cases h
  all_goals
    split at h
    case isFalse => cases h
    rename_i hk
    cases h
    rw [hx.int_inv, hy.int_inv]
    subst hk
    refine ⟨_, ?_, .leaf rfl⟩
    simp [eqGuard, binOp, Op.intArith, Op.intCmp]
theorem nat?_spec {v : Value} {n : Nat} (h : nat? v = some n) : ∃ k, v = .int k (Int.ofNat n) := by
  unfold nat? at h
  split at h
  · cases h; exact ⟨_, rfl⟩
  · cases h
theorem index_run (he : EOk E) {t : TypeId} {x x' iv iv' : Value} {i : Nat} {v : Value} (h : indexA E t x i = some v) (hi : nat? iv = some i) (hx : VR σ x x') (hiv : VR σ iv iv') :
    ∃ v', (Instr.indexAt t x' iv').run E.prog w = .ok v' w ∧ VR σ v v' := by
  obtain ⟨k, rfl⟩ := nat?_spec hi
  rw [hiv.int_inv]
  unfold indexA at h
  split at h
  · rename_i ti len elem sz by_ z ag b o ht
    cases hel : E.types.get elem with
    | none => simp [hel] at h
    | some e =>
      simp only [hel, Option.bind_some, bif_ble] at h
      split at h
      case isFalse => cases h
      rename_i hlt
      cases h
      cases hx with
      | leaf h0 => simp [leafV] at h0
      | ptr hs =>
        rename_i L
        have h1 : (0 : Int) ≤ Int.ofNat i ∧ Int.ofNat i < (len : Int) := by simp; omega
        refine ⟨_, ?_, VR.ptr hs⟩
        simp only [Instr.indexAt, asIntOf, Sem.run_bind, Sem.run_pure, Result.andThen_ok, run_und he ht, Instr.sureAddr, if_pos h1, run_sizeOf' he hel, addr_add]
        simp [Nat.add_assoc]
  · rename_i ti elem sz by_ z ag b o len cap ht
    cases hel : E.types.get elem with
    | none => simp [hel] at h
    | some e =>
      simp only [hel, Option.bind_some, bif_ble] at h
      split at h
      case isFalse => cases h
      rename_i hlt
      cases h
      have h1 : (0 : Int) ≤ Int.ofNat i ∧ Int.ofNat i < (len : Int) := by simp; omega
      have key : ∀ (L : Loc) (c : Nat), σ b = some L →
          ∃ v', (Instr.indexAt t (.slice (some ⟨L.blk, L.off + o, none⟩) len c) (.int k (Int.ofNat i))).run E.prog w = .ok v' w ∧ VR σ (.pointer (some ⟨b, o + i * e.size, none⟩)) v' := by
        intro L c hs
        refine ⟨_, ?_, VR.ptr hs⟩
        simp only [Instr.indexAt, asIntOf, Sem.run_bind, Sem.run_pure, Result.andThen_ok, run_und he ht, if_pos h1, run_sizeOf' he hel, addr_add]
        simp [Nat.add_assoc]
      cases hx with
      | leaf h0 => simp [leafV] at h0
      | sliceE hs _ _ => exact key _ _ hs
      | sliceX hs _ _ _ => exact key _ _ hs
      | sliceZ _ => omega
  · cases h
theorem field_run (he : EOk E) {t : TypeId} {x x' v : Value} {f : Nat} (h : fieldA E t x f = some v) (hx : VR σ x x') :
    ∃ v', (Instr.fieldAt t x' f).run E.prog w = .ok v' w ∧ VR σ v v' := by
  unfold fieldA at h
  split at h
  case h_2 => cases h
  rename_i ti fs sz by_ z ag b o ht
  split at h
  case h_2 => cases h
  rename_i fd hfd
  cases hel : E.types.get fd.type with
  | none => simp [hel] at h
  | some e =>
    simp only [hel, Option.bind_some, bif_beq] at h
    split at h
    case isTrue => cases h
    rename_i hsz
    cases h
    cases hx with
    | leaf h0 => simp [leafV] at h0
    | ptr hs =>
      rename_i L
      refine ⟨_, ?_, VR.ptr hs⟩
      simp only [Instr.fieldAt, Sem.run_bind, run_und he ht, Result.andThen_ok, hfd, Instr.sureAddr, Sem.run_pure, fieldPlace, run_sizeOf' he hel, if_neg hsz, addr_add]
      simp [Nat.add_assoc]
theorem part_run (he : EOk E) {t : TypeId} {cs cs' : List Value} {off : Nat} {v : Value} (h : partA E t cs off = some v) (hc : VRs σ cs cs') (h1 : cs.all oneCell = true) :
    ∃ v', (part t ⟨cs'⟩ off).run E.prog w = .ok v' w ∧ VR σ v v' := by
  unfold partA at h
  cases ht : E.types.get t with
  | none => simp [ht] at h
  | some ti =>
    simp only [ht, Option.bind_some] at h
    simp only [part, Sem.run_bind, run_isAgg' he ht, Result.andThen_ok]
    cases hagg : ti.agg with
    | true =>
      rw [hagg, cond_true] at h
      simp only [Option.map_eq_some_iff] at h
      obtain ⟨l, hl, rfl⟩ := h
      obtain ⟨rfl, hn⟩ := take?_spec _ _ _ hl
      refine ⟨.agg ⟨(cs'.drop off).take ti.size⟩, ?_, .agg ((hc.drop off).take _) (all_take _ (all_drop _ h1))⟩
      simp only [if_true, Sem.run_bind, run_sizeOf' he ht, Result.andThen_ok, Sem.run_pure]
      congr 2
      apply Array.ext'
      simp [Array.toList_extract, List.extract_eq_take_drop]
    | false =>
      rw [hagg, cond_false] at h
      obtain ⟨v', h2, h3⟩ := hc.get _ _ h
      exact ⟨v', by simp [h2], h3⟩
theorem fieldV_run (he : EOk E) {t : TypeId} {cs : Array Value} {x' v : Value} {f : Nat} {ti : TI} {fs : Array Field} {fd : Field} (ht : E.types.get t = some ti) (hd : ti.desc = .struct fs)
    (hf : fs[f]? = some fd) (h : partA E fd.type cs.toList fd.offset = some v) (hx : VR σ (.agg cs) x') :
    ∃ v', (Instr.field t x' f).run E.prog w = .ok v' w ∧ VR σ v v' := by
  cases hx with
  | leaf h0 => simp [leafV] at h0
  | agg hc h1 =>
    obtain ⟨v', h2, h3⟩ := part_run (w := w) he h hc h1
    refine ⟨v', ?_, h3⟩
    have hu := run_und he ht w
    rw [hd] at hu
    simp only [Instr.field, Sem.run_bind, hu, Result.andThen_ok, hf, asAgg, Sem.run_pure, h2]
theorem indexV_run (he : EOk E) {t : TypeId} {cs : Array Value} {x' v iv iv' : Value} {i : Nat} {ti e : TI} {len elem : Nat} (ht : E.types.get t = some ti) (hd : ti.desc = .array len elem)
    (hel : E.types.get elem = some e) (hi : nat? iv = some i) (hlt : i + 1 ≤ len)
    (h : partA E elem cs.toList (Nat.mul i e.size) = some v) (hx : VR σ (.agg cs) x') (hiv : VR σ iv iv') :
    ∃ v', (Instr.index t x' iv').run E.prog w = .ok v' w ∧ VR σ v v' := by
  obtain ⟨k, rfl⟩ := nat?_spec hi
  rw [hiv.int_inv]
  cases hx with
  | leaf h0 => simp [leafV] at h0
  | agg hc h1 =>
    obtain ⟨v', h2, h3⟩ := part_run (w := w) he h hc h1
    refine ⟨v', ?_, h3⟩
    have hu := run_und he ht w
    rw [hd] at hu
    have hb : (0 : Int) ≤ Int.ofNat i ∧ Int.ofNat i < (len : Int) := by simp; omega
    simp only [Instr.index, asIntOf, Sem.run_bind, hu, Result.andThen_ok, Sem.run_pure, if_pos hb, run_sizeOf' he hel]
    exact h2
theorem indexS_run (he : EOk E) {t : TypeId} {s : ByteArray} {x' iv iv' : Value} {i : Nat} {ti : TI} {b : UInt8} (ht : E.types.get t = some ti) (hd : ti.desc = .string)
    (hi : nat? iv = some i) (h : s.data.toList[i]? = some b) (hx : VR σ (.string s) x') (hiv : VR σ iv iv') :
    (Instr.index t x' iv').run E.prog w = .ok (.int .u8 b.toNat) w := by
  obtain ⟨k, rfl⟩ := nat?_spec hi
  rw [hiv.int_inv, hx.string_inv]
  have hu := run_und he ht w
  rw [hd] at hu
  have hb : (0 : Int) ≤ Int.ofNat i := by simp
  have hlt := (List.getElem?_eq_some_iff.1 h)
  obtain ⟨h1, h2⟩ := hlt
  have hg : s[i]? = some b := by
    have : i < s.size := by rw [Array.length_toList] at h1; exact h1
    rw [getElem?_pos s i this]
    congr 1
  have hm : (if (0 : Int) ≤ Int.ofNat i then s[(Int.ofNat i).toNat]? else none) = some b := by rw [if_pos hb]; exact hg
  simp only [Instr.index, asIntOf, Sem.run_bind, hu, Result.andThen_ok, Sem.run_pure, hm]
end
end Go.Am
namespace Go.Am
open Go
section
variable {E : Env} {σ : Sig} {H : AH} {w : World}
theorem shape_cells {w : World} {B : Nat} {ccs : Array Value} {cel : TypeId} {fz : Nat × Nat} (h : w.heap[B]? = some (.cells ccs cel fz)) : w.shape? B = some (cel, ccs.size) := by
  simp [World.shape?, h]
theorem view_run (he : EOk E) (hr : HR E σ H w) {s d : TypeId} {a : Addr} {v v' : Value} {H' : AH} (h : viewA E H s d a = some (.val v, H')) (hx : VR σ (.pointer (some a)) v') :
    H' = H ∧ ∃ u, (Go.convert s d v').run E.prog w = .ok u w ∧ VR σ v u := by
  unfold viewA at h
  split at h
  case h_2 => cases h
  rename_i b o
  cases hx with
  | leaf h0 => simp [leafV] at h0
  | ptr hs =>
  rename_i L
  split at h
  · rename_i t _ _ _ _ _ _ _ _ cs el rt own hst hdt hb
    split at h
    case h_2 => cases h
    rename_i ti hti
    simp only [bif_and, bif_ble] at h
    split at h
    case isFalse => cases h
    rename_i h1
    cases hlt : Nat.blt o cs.length with
    | false => rw [hlt] at h; cases h
    | true =>
    rw [hlt] at h
    cases h
    have hlt' : o < cs.length := Nat.le_of_ble_eq_true hlt
    obtain ⟨ccs, cel, fz, g1, g2, g3, g4, g5, g6⟩ := hr.cellsAt hb hs
    have hus := fun w => run_und he hst w
    have hud := fun w => run_und he hdt w
    have hsz := fun w => run_sizeOf' he hti w
    refine ⟨rfl, _, ?_, .ptr hs⟩
    have hne : ti.size ≠ 0 := by omega
    have hcl : ¬ ccs.size ≤ L.off + o := by omega
    simp [Go.convert, hus, hud, Conv.unsafePointer, Conv.seenAt, viewAt, cellsIn, shape_cells g1, hsz, hne, hcl]
  · rename_i u _ _ _ _ cs el rt hst hdt hb
    split at h
    case h_2 => cases h
    rename_i ti hti
    simp only [bif_and, bif_ble, bif_beq] at h
    split at h
    case isFalse => cases h
    rename_i h1
    split at h
    case isFalse => cases h
    rename_i h2
    split at h
    case isFalse => cases h
    rename_i h3
    split at h
    case isFalse => cases h
    rename_i h4
    cases h
    subst h1
    subst h2
    obtain ⟨ccs, cel, fz, g1, g2, g3, g4, g5, g6⟩ := hr.cellsAt hb hs
    obtain ⟨_, rfl, hoff⟩ := g2 rfl
    rw [g5 ti hti] at hoff
    have hus := fun w => run_und he hst w
    have hud := fun w => run_und he hdt w
    have hsz := fun w => run_sizeOf' he hti w
    have hne : ti.size ≠ 0 := by omega
    obtain ⟨i, q1, _, q2, _⟩ := he.types _ _ hti
    have hcs : E.prog.cellsOf cel = ti.size := by simp [Program.cellsOf, q1, q2]
    have hlies : liesAt E.prog E.prog.depth cel (ccs.size / E.prog.cellsOf cel) L.off cel 1 = true := by
      refine lies_own _ _ _ _ _ (by rw [hcs]; exact hne) (by rw [hcs]; exact hoff) ?_
      rw [hcs, ← Nat.add_div_right _ (by omega)]
      exact Nat.div_le_div_right (by omega)
    refine ⟨rfl, _, ?_, .ptr hs⟩
    simp [Go.convert, hus, hud, Conv.unsafePointer, Conv.seenAt, viewAt, shape_cells g1, hsz, hne, variablesAt, hlies]
  · cases h
end
end Go.Am
namespace Go.Am
open Go
section
variable {E : Env} {σ : Sig} {H : AH} {w : World}
theorem loadBytes_run (P : Program) (w : World) (B : Nat) : ∀ (vs : List Value) (l : List UInt8) (o : Nat) (acc : ByteArray), bytesA vs = some l → (∀ i v, vs[i]? = some v → w.cell? ⟨B, o + i, none⟩ = some v) →
    (loadBytes ⟨B, o, none⟩ acc vs.length).run P w = .ok ⟨⟨acc.data.toList ++ l⟩⟩ w
  | [], l, o, acc, h, _ => by
    simp [bytesA] at h; subst h
    simp [loadBytes]
  | v :: vs, l, o, acc, h, hc => by
    unfold bytesA at h
    split at h
    · rename_i heq; cases heq
    · rename_i b vs' heq
      cases heq
      simp only [Option.map_eq_some_iff] at h
      obtain ⟨l', h1, rfl⟩ := h
      have h0 := hc 0 _ rfl
      have hadd : (⟨B, o, none⟩ : Addr).add 1 = ⟨B, o + 1, none⟩ := by simp [Addr.add]
      have ih := loadBytes_run P w B vs l' (o + 1) (acc.push b.toNat.toUInt8) h1 (fun i v hi => by
        have := hc (i + 1) v (by simpa using hi)
        rw [show o + 1 + i = o + (i + 1) by omega]; exact this)
      simp only [Nat.add_zero] at h0
      simp only [List.length_cons, loadBytes, Sem.run_bind, run_load, h0, Result.andThen_ok, hadd, ih]
      simp [ByteArray.push]
    · cases h
end
end Go.Am
namespace Go.Am
open Go
section
variable {E : Env} {σ : Sig} {H : AH} {w : World}
theorem bytes_same : ∀ {vs : List Value} {l : List UInt8} {v : Value}, bytesA vs = some l → v ∈ vs → ∃ b, v = .int .u8 b
  | [], l, v, h, hm => by cases hm
  | x :: vs, l, v, h, hm => by
    unfold bytesA at h
    split at h
    · rename_i heq; cases heq
    · rename_i b vs' heq
      cases heq
      simp only [Option.map_eq_some_iff] at h
      obtain ⟨l', h1, _⟩ := h
      simp only [List.mem_cons] at hm
      rcases hm with rfl | hm
      · exact ⟨b, rfl⟩
      · exact bytes_same h1 hm
    · cases h
theorem bytesA_at {vs : List Value} {l : List UInt8} (h : bytesA vs = some l) (i : Nat) (v : Value) (hi : vs[i]? = some v) : ∃ b, v = Value.int .u8 b :=
  bytes_same h (List.mem_of_getElem? hi)
theorem freeze_size (w : World) (a : Addr) (n : Nat) : (w.freeze a n).heap.size = w.heap.size := by
  unfold World.freeze
  split
  · rfl
  · simp
theorem freeze_other (w : World) (a : Addr) (n : Nat) {B : Nat} (h : B ≠ a.block) : (w.freeze a n).heap[B]? = w.heap[B]? := by
  unfold World.freeze
  split
  · rfl
  · simp only [Array.getElem?_modify]
    rw [if_neg (Ne.symm h)]
theorem freeze_rest (w : World) (a : Addr) (n : Nat) : (w.freeze a n).tape = w.tape ∧ (w.freeze a n).os = w.os ∧ (w.freeze a n).output = w.output := by
  unfold World.freeze
  split <;> exact ⟨rfl, rfl, rfl⟩
theorem unsafeString_run (he : EOk E) (hr : HR E σ H w) {ats : List TypeId} {ty : TypeId} {p l p' l' v : Value} {H' : AH} (hat : ats ≠ []) (h : unsafeStringA E H ats p l = some (.val v, H')) (hp : VR σ p p') (hl : VR σ l l') :
    ∃ w' u, (Builtin.unsafeString_ ⟨ats⟩ ty #[p', l']).run E.prog w = .ok u w' ∧ Step E σ H w σ H' w' ∧ VR σ v u := by
  obtain ⟨t, rest, rfl⟩ : ∃ t rest, ats = t :: rest := by cases ats with | nil => exact absurd rfl hat | cons t rest => exact ⟨t, rest, rfl⟩
  have zero : ∀ P, p' = .pointer P → nat? l = some 0 → (Builtin.unsafeString_ ⟨t :: rest⟩ ty #[p', l']).run E.prog w = .ok (.string .empty) w := by
    rintro P rfl hn
    obtain ⟨k, rfl⟩ := nat?_spec hn
    rw [hl.int_inv]
    have hm : ¬ (IntKind.i64.max < 0) := by decide
    cases P
    · refine (Sem.run_bind E.prog w (asInt (.int k (Int.ofNat 0))) _).trans ?_
      simp [asInt, asIntOf, hm]
    · refine (Sem.run_bind E.prog w (asInt (.int k (Int.ofNat 0))) _).trans ?_
      simp [asInt, asIntOf, hm]
  have hptr : ∀ a, p = .pointer a → ∃ P, p' = .pointer P := by
    rintro a rfl
    cases hp with
    | leaf _ => exact ⟨_, rfl⟩
    | ptr _ => exact ⟨_, rfl⟩
  unfold unsafeStringA at h
  split at h
  · cases h
    rename_i hn
    obtain ⟨P, hP⟩ := hptr _ rfl
    exact ⟨w, _, zero P hP hn, Step.refl hr, .leaf rfl⟩
  · cases h
    rename_i hn
    obtain ⟨P, hP⟩ := hptr _ rfl
    exact ⟨w, _, zero P hP hn, Step.refl hr, .leaf rfl⟩
  · rename_i b o n hn0 hn
    split at h
    case h_2 => cases h
    rename_i cs el r hb
    split at h
    case h_2 => cases h
    rename_i vs hv
    simp only [Option.map_eq_some_iff, Prod.mk.injEq] at h
    obtain ⟨l0, hl0, hv0, rfl⟩ := h
    cases hv0
    unfold bytesTyped at hv
    split at hv
    case h_2 => cases hv
    rename_i t2 rest2 hts
    cases hts
    split at hv
    case h_2 => cases hv
    rename_i u _ _ _ _ e ht hel
    simp only [bif_and, bif_beq, bif_ble] at hv
    split at hv
    case isFalse => cases hv
    rename_i hu
    split at hv
    case isFalse => cases hv
    rename_i hsz
    split at hv
    case isFalse => cases hv
    rename_i hbig
    subst hu
    obtain ⟨rfl, hlen⟩ := take?_spec _ _ _ hv
    cases hp with
    | leaf h0 => simp [leafV] at h0
    | ptr hs =>
    rename_i L
    obtain ⟨ccs, cel, fz, g1, g2, g3, g4, g5, g6⟩ := hr.cellsAt hb hs
    obtain ⟨_, rfl, hoff⟩ := g2 rfl
    obtain ⟨k, rfl⟩ := nat?_spec hn
    rw [hl.int_inv]
    have hn0' : n ≠ 0 := fun e => by subst e; exact hn0 rfl
    have hlen' : n ≤ cs.length - o := by simpa using hlen
    have htl : ((cs.drop o).take n).length = n := by rw [List.length_take]; simp; omega
    have hut := fun w => run_und he ht w
    obtain ⟨i, q1, _, q2, _⟩ := he.types _ _ hel
    have hcs : E.prog.cellsOf cel = 1 := by simp only [Program.cellsOf, q1, Option.map_some, Option.getD_some]; omega
    have hlies : liesAt E.prog E.prog.depth cel (ccs.size / E.prog.cellsOf cel) (L.off + o) cel n = true := by
      refine lies_own _ _ _ _ _ (by rw [hcs]; decide) (by rw [hcs]; omega) ?_
      rw [hcs, Nat.div_one, Nat.div_one]; omega
    have hload := loadBytes_run E.prog w L.blk ((cs.drop o).take n) l0 (L.off + o) .empty hl0 (by
      intro j v hj
      obtain ⟨x, rfl⟩ := bytesA_at hl0 j v hj
      have hjn : j < n := by have := (List.getElem?_eq_some_iff.1 hj).1; omega
      rw [List.getElem?_take_of_lt hjn, List.getElem?_drop] at hj
      obtain ⟨_, v', h7, h8⟩ := g6 _ _ hj
      rw [h8.int_inv] at h7
      simp only [World.cell?, World.cells?, g1]
      simpa [Nat.add_assoc] using h7)
    rw [htl] at hload
    have hst := Step.drop hr hb rfl hs (freeze_size w ⟨L.blk, L.off + o, none⟩ n) (fun B hB => freeze_other w ⟨L.blk, L.off + o, none⟩ n hB) (freeze_rest _ _ _).1 (freeze_rest _ _ _).2.1 (freeze_rest _ _ _).2.2
    refine ⟨w.freeze ⟨L.blk, L.off + o, none⟩ n, .string ⟨⟨l0⟩⟩, ?_, hst, .leaf rfl⟩
    have hm1 : ¬ ((n : Int) > IntKind.i64.max) := by
      have : IntKind.i64.max = 9223372036854775807 := by decide
      omega
    refine (Sem.run_bind E.prog w (asInt (.int k (Int.ofNat n))) _).trans ?_
    have hneg : ¬ ((n : Int) < 0) := by omega
    have hm2 : ¬ (9223372036854775807 < (n : Int)) := by omega
    simp only [asInt, asIntOf, Sem.run_pure, Result.andThen_ok, Int.ofNat_eq_natCast]
    simp [hneg, hm1, hm2, hn0', elemOf, hut, variablesAt, shape_cells g1, hlies, hload]
  · cases h
end
end Go.Am
namespace Go.Am
open Go
theorem growBy_le (newLen B : Nat) (hB : 2 * newLen + 192 ≤ B) : ∀ (r c : Nat), c ≤ B → Builtin.growBy newLen r c ≤ B
  | 0, c, h => h
  | r + 1, c, h => by
    simp only [Builtin.growBy]
    split
    · exact h
    · exact growBy_le newLen B hB r _ (by omega)
theorem nextcap_le (need c : Nat) (h : c < need) : Builtin.nextslicecap need c ≤ 2 * need + 512 := by
  unfold Builtin.nextslicecap
  split
  · omega
  · split
    · omega
    · exact growBy_le need _ (by omega) 4 c (by omega)
section
variable {E : Env} {σ : Sig} {H : AH} {w : World} {fr : Fr} {a : Act}
theorem bound_run {v v' : Value} {n y : Nat} (h : nat? v = some n) (hv : VR σ v v') (hn : n ≤ y) (code : BoundsCode) :
    (Instr.sliceBound v' y code).run E.prog w = .ok n w := by
  obtain ⟨k, rfl⟩ := nat?_spec h
  rw [hv.int_inv]
  have hb : (0 : Int) ≤ Int.ofNat n ∧ Int.ofNat n ≤ (y : Int) := by simp; omega
  simp only [Instr.sliceBound, asIntOf, Sem.run_bind, Sem.run_pure, Result.andThen_ok, if_pos hb]
  rfl
inductive OR (σ : Sig) : Option Value → Option Value → Prop
  | none : OR σ none none
  | some {v v' : Value} (h : VR σ v v') : OR σ (some v) (some v')
theorem bounds_run {lo lo' hi hi' mx mx' : Option Value} {len cap l h m : Nat} (isS : Bool) (hlo : OR σ lo lo') (hhi : OR σ hi hi') (hmx : OR σ mx mx')
    (el : boundA lo 0 = some l) (eh : boundA hi len = some h) (em : boundA mx cap = some m) (h1 : l ≤ h) (h2 : h ≤ m) (h3 : m ≤ cap) (h4 : mx = none ∨ hi ≠ none) :
    (Instr.sliceBounds isS len cap lo' hi' mx').run E.prog w = .ok (l, h, m) w := by
  rcases hlo with _ | r1 <;> rcases hhi with _ | r2 <;> rcases hmx with _ | r3 <;> simp only [boundA, Option.some.injEq] at el eh em
  all_goals first | (rcases h4 with h4 | h4 <;> first | (cases h4; done) | (exact absurd rfl h4)) | skip
  all_goals try subst el
  all_goals try subst eh
  all_goals try subst em
  all_goals simp only [Instr.sliceBounds, Sem.run_bind, Sem.run_pure, Result.andThen_ok]
  all_goals try simp only [bound_run (E := E) (w := w) em r3 h3, Result.andThen_ok]
  all_goals try simp only [bound_run (E := E) (w := w) eh r2 h2, Result.andThen_ok]
  all_goals try simp only [bound_run (E := E) (w := w) el r1 h1, Result.andThen_ok]
theorem if_add (b o l m s : Nat) : (if m = l then (⟨b, o, none⟩ : Addr) else (⟨b, o, none⟩ : Addr).add (l * s)) = ⟨b, if m = l then o else o + l * s, none⟩ := by
  split <;> simp [addr_add]
theorem slice_run (he : EOk E) (hr : HR E σ H w) {t : TypeId} {x x' v : Value} {lo lo' hi hi' mx mx' : Option Value} (h : sliceA E H t x lo hi mx = some v) (hx : VR σ x x')
    (hlo : OR σ lo lo') (hhi : OR σ hi hi') (hmx : OR σ mx mx') :
    ∃ v', (Instr.sliceAt t x' lo' hi' mx').run E.prog w = .ok v' w ∧ VR σ v v' := by
  unfold sliceA at h
  split at h
  · rename_i ti n elem sz by_ z ag b o ht
    split at h
    case h_2 => cases h
    rename_i l hh m e el eh em hel
    simp only [bif_and, bif_ble] at h
    split at h
    case isFalse => cases h
    rename_i h1
    split at h
    case isFalse => cases h
    rename_i h2
    split at h
    case isFalse => cases h
    rename_i h3
    split at h
    case isFalse => cases h
    rename_i h4
    cases hc : (mx.isNone || hi.isSome) with
    | false => rw [hc, cond_false] at h; cases h
    | true =>
      rw [hc, cond_true] at h
      cases h
      cases hx with
      | leaf h0 => simp [leafV] at h0
      | ptr hs =>
        rename_i L
        have hb := bounds_run (E := E) (w := w) false hlo hhi hmx el eh em h1 h2 h3 (by
          rw [Bool.or_eq_true] at hc
          rcases hc with hc | hc
          · exact .inl (by simpa using hc)
          · exact .inr (by intro e; rw [e] at hc; simp at hc))
        refine ⟨_, ?_, VR.sliceE hs (by show hh - l ≤ m - l; omega) (by show m - l < capX; unfold capX; omega)⟩
        simp only [Instr.sliceAt, Sem.run_bind, run_und he ht, Result.andThen_ok, Instr.sureAddr, Sem.run_pure, hb, run_sizeOf' he hel, if_add, bif_beq]
        split <;> simp [Nat.add_assoc]
  · rename_i ti elem sz by_ z ag base len cap ht
    split at h
    case h_2 => cases h
    rename_i l hh e el eh hel
    have hu := fun w => run_und he ht w
    split at h
    · -- the nil slice
      simp only [bif_and, bif_beq] at h
      split at h
      case isFalse => cases h
      rename_i h1
      split at h
      case isFalse => cases h
      rename_i h2
      split at h
      case isFalse => cases h
      rename_i h3
      split at h
      case isFalse => cases h
      rename_i h4
      split at h
      case h_2 => cases h
      rename_i mm em
      simp only [bif_beq] at h
      split at h
      case isFalse => cases h
      rename_i hm0
      cases hm2 : (mx.isNone || hi.isSome) with
      | false => rw [hm2, cond_false] at h; cases h
      | true =>
        rw [hm2, cond_true] at h
        cases h
        subst h1 h2 h3 h4 hm0
        simp only [Bool.or_eq_true] at hm2
        have h4 : mx = none ∨ hi ≠ none := by
          rcases hm2 with h | h
          · exact .inl (by simpa using h)
          · exact .inr (by intro e; rw [e] at h; cases h)
        cases hx with
        | leaf h0 =>
          refine ⟨_, ?_, .leaf rfl⟩
          have hb := bounds_run (E := E) (w := w) (len := 0) (cap := 0) (m := 0) true hlo hhi hmx el eh em (Nat.le_refl _) (Nat.le_refl _) (Nat.le_refl _) h4
          simp only [Instr.sliceAt, Sem.run_bind, hu, Result.andThen_ok, Instr.slice, hb, run_sizeOf' he hel, Sem.run_pure, if_true]
          try rfl
    · rename_i b o
      split at h
      · -- with a maximum
        rename_i mv
        split at h
        case h_2 => cases h
        rename_i m em
        simp only [bif_and, bif_ble] at h
        split at h
        case isFalse => cases h
        rename_i h1
        split at h
        case isFalse => cases h
        rename_i h2
        split at h
        case isFalse => cases h
        rename_i h3
        cases hc : hi.isSome with
        | false => rw [hc, cond_false] at h; cases h
        | true =>
          rw [hc, cond_true] at h
          cases h
          have hne : hi ≠ none := by intro e; rw [e] at hc; simp at hc
          have run : ∀ (A : Addr) (c : Nat), len ≤ c → (Instr.sliceAt t (.slice (some A) len c) lo' hi' mx').run E.prog w =
              .ok (.slice (some (if m = l then A else A.add (l * e.size))) (hh - l) (m - l)) w := by
            intro A c hlc
            have hb := bounds_run (E := E) (w := w) (len := len) (cap := c) (m := m) true hlo hhi hmx el eh (by simpa [boundA] using em) h1 h2 (by omega) (.inr hne)
            simp only [Instr.sliceAt, Sem.run_bind, hu, Result.andThen_ok, Instr.slice, hb, run_sizeOf' he hel, Sem.run_pure]
            try (split <;> simp)
          have fin : ∀ (L : Loc) (c : Nat), σ b = some L → len ≤ c → c < capX → ∃ v', (Instr.sliceAt t (.slice (some ⟨L.blk, L.off + o, none⟩) len c) lo' hi' mx').run E.prog w = .ok v' w ∧
              VR σ (.slice (some ⟨b, bif Nat.beq m l then o else Nat.add o (Nat.mul l e.size), none⟩) (Nat.sub hh l) (Nat.sub m l)) v' := by
            intro L c hs hl hcx
            refine ⟨_, run _ _ hl, ?_⟩
            rw [if_add, bif_beq]
            have := VR.sliceE (σ := σ) (i := if m = l then o else o + l * e.size) (l := hh - l) (c := m - l) hs (by omega) (by omega)
            have e2 : L.off + (if m = l then o else o + l * e.size) = if m = l then L.off + o else L.off + o + l * e.size := by split <;> omega
            rw [e2] at this
            exact this
          cases hx with
          | leaf h0 => simp [leafV] at h0
          | sliceE hs hl hcx => exact fin _ _ hs hl hcx
          | sliceX hs hl hcx _ => exact fin _ _ hs hl hcx
          | sliceZ hcc =>
            refine ⟨_, run _ _ (Nat.le_refl _), ?_⟩
            have z1 : m = 0 := by omega
            have z2 : hh = 0 := by omega
            have z3 : l = 0 := by omega
            subst z1 z2 z3
            exact .sliceZ (.inl rfl)
      · simp only [bif_ble] at h
        split at h
        case isFalse => cases h
        rename_i h1
        have run : ∀ (A : Addr) (c : Nat), hh ≤ c → (Instr.sliceAt t (.slice (some A) len c) lo' hi' mx').run E.prog w =
            .ok (.slice (some (if c = l then A else A.add (l * e.size))) (hh - l) (c - l)) w := by
          intro A c hlc
          have hb := bounds_run (E := E) (w := w) (len := len) (cap := c) (m := c) true hlo hhi hmx el eh rfl h1 hlc (Nat.le_refl _) (.inl rfl)
          simp only [Instr.sliceAt, Sem.run_bind, hu, Result.andThen_ok, Instr.slice, hb, run_sizeOf' he hel, Sem.run_pure]
          try (split <;> simp)
        split at h
        · rename_i hcap
          split at h
          case h_2 => cases h
          rename_i cs el' rt own hb
          rw [bif_and, bif_beq] at h
          split at h
          case isFalse => cases h
          rename_i hel'
          cases hcond : (Nat.ble hh len || (Nat.ble 1 e.size && Nat.ble (Nat.add o (Nat.mul hh e.size)) cs.length)) with
          | false => rw [hcond] at h; cases h
          | true =>
          rw [hcond] at h
          cases h
          rw [Bool.or_eq_true, Bool.and_eq_true] at hcond
          have hlen : hh ≤ len ∨ (1 ≤ e.size ∧ o + hh * e.size ≤ cs.length) := hcond.imp Nat.le_of_ble_eq_true fun h => ⟨Nat.le_of_ble_eq_true h.1, Nat.le_of_ble_eq_true h.2⟩
          cases hx with
          | leaf h0 => simp [leafV] at h0
          | sliceE hs hl hcx => omega
          | sliceX hs hl hcx hext =>
            rename_i c L
            obtain ⟨_, _, _, _, _, _, hcl0, hsz, _⟩ := hr.cellsAt hb hs
            have hsz' : L.sz = e.size := hsz e (by rw [hel']; exact hel)
            have hlc : hh ≤ c := by
              rcases hlen with h2 | ⟨h2, h3⟩
              · omega
              · rw [hsz'] at hext
                have h4 : hh * e.size ≤ c * e.size := by omega
                exact Nat.le_of_mul_le_mul_right h4 h2
            refine ⟨_, run _ _ hlc, ?_⟩
            rw [if_add]
            by_cases hcl : c = l
            · rw [if_pos hcl]
              have z : hh - l = 0 := by omega
              have z2 : c - l = 0 := by omega
              show VR σ (.slice _ (hh - l) capX) _
              rw [z, z2]
              refine .sliceZ (.inr ⟨rfl, L, hs, ?_⟩)
              rw [hsz', hcl] at hext
              exact Nat.le_of_eq hext.symm
            · rw [if_neg hcl]
              have := VR.sliceX (σ := σ) (i := o + l * e.size) (l := hh - l) (c := c - l) hs (by omega) (by omega) (by
                rw [hsz'] at hext ⊢
                rw [Nat.sub_mul]
                have : l * e.size ≤ c * e.size := Nat.mul_le_mul_right _ (by omega)
                omega)
              rw [← Nat.add_assoc] at this
              exact this
          | sliceZ hcc =>
            have z2 : hh = 0 := by
              rcases hlen with h2 | ⟨h2, h3⟩
              · omega
              · rcases hcc with hcc | ⟨_, L, hL1, hL2⟩
                · exfalso; rw [hcc] at hcap; exact absurd hcap (by decide)
                · obtain ⟨_, _, _, _, _, _, hcl0, _⟩ := hr.cellsAt hb hL1
                  have h4 : hh * e.size = 0 := by omega
                  rcases Nat.mul_eq_zero.1 h4 with h5 | h5
                  · exact h5
                  · omega
            have z3 : l = 0 := by omega
            subst z2 z3
            refine ⟨_, run _ _ (Nat.le_refl _), ?_⟩
            rw [if_pos rfl]
            refine .sliceZ ?_
            rcases hcc with hcc | ⟨_, L, hL1, hL2⟩
            · exfalso; rw [hcc] at hcap; exact absurd hcap (by decide)
            · exact .inr ⟨rfl, L, hL1, by simpa using hL2⟩
        · rename_i hcap
          split at h
          case isFalse => cases h
          rename_i hhc
          cases h
          cases hx with
          | leaf h0 => simp [leafV] at h0
          | sliceE hs hl hcx =>
            rename_i L
            refine ⟨_, run _ _ hhc, ?_⟩
            rw [if_add, bif_beq]
            have := VR.sliceE (σ := σ) (i := if cap = l then o else o + l * e.size) (l := hh - l) (c := cap - l) hs (by omega) (by omega)
            have e2 : L.off + (if cap = l then o else o + l * e.size) = if cap = l then L.off + o else L.off + o + l * e.size := by split <;> omega
            rw [e2] at this
            exact this
          | sliceX hs hl hcx hext => omega
          | sliceZ hcc =>
            have z2 : hh = 0 := by rcases hcc with hcc | ⟨hcc, _⟩ <;> omega
            have z3 : l = 0 := by omega
            subst z2 z3
            rcases hcc with hcc | ⟨hcc, _⟩
            · subst hcc
              refine ⟨_, run _ _ (Nat.le_refl _), ?_⟩
              rw [if_pos rfl]
              exact .sliceZ (.inl rfl)
            · omega
    · cases h
  · rename_i ti sz by_ z ag s ht
    split at h
    case h_2 => cases h
    rename_i l hh el eh
    simp only [bif_and, bif_ble] at h
    split at h
    case isFalse => cases h
    rename_i h1
    split at h
    case isFalse => cases h
    rename_i h2
    cases hm : mx.isNone with
    | false => rw [hm, cond_false] at h; cases h
    | true =>
      rw [hm, cond_true] at h
      cases h
      have hmn : mx = none := by simpa using hm
      subst hmn
      cases hmx
      rw [hx.string_inv]
      have hu := run_und he ht w
      have hb := bounds_run (E := E) (w := w) (len := s.size) (cap := s.size) (m := s.size) false hlo hhi .none el eh rfl h1 h2 (Nat.le_refl _) (.inl rfl)
      refine ⟨_, ?_, .leaf rfl⟩
      simp only [Instr.sliceAt, Sem.run_bind, hu, Result.andThen_ok, Instr.slice]
      simp [hb]
  · cases h
end
end Go.Am
