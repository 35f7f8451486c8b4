/- What the abstract append does, the model's does too. Conditions: none. -/
import Derived.Test.YtbkinfgpcjjaaaaGreatDoorAm2
set_option linter.all false
namespace Go.Am
open Go
section
variable {E : Env} {σ : Sig} {H : AH} {w : World} {fr : Fr} {a : Act}
theorem bytes_refl : ∀ (l : List UInt8), VRs σ (l.map fun b => .int .u8 b.toNat) (l.map fun b => .int .u8 b.toNat)
  | [] => .nil
  | _ :: l => .cons (.leaf rfl) (bytes_refl l)
theorem bytes_one (l : List UInt8) : (l.map fun b => Value.int .u8 b.toNat).all oneCell = true := by
  rw [List.all_eq_true]; intro v hv; simp at hv; obtain ⟨b, _, rfl⟩ := hv; rfl
theorem first_run (hr : HR E σ H w) {size n : Nat} {x x' : Value} {cs : List Value} (h : firstA H size n x = some cs) (hx : VR σ x x') :
    ∃ cs', (Builtin.firstCells size n x').run E.prog w = .ok ⟨cs'⟩ w ∧ VRs σ cs cs' ∧ cs.length = n * size ∧ cs.all oneCell = true := by
  unfold firstA at h
  split at h
  · rename_i b o len cap
    simp only [bif_beq, bif_ble] at h
    split at h
    · rename_i h0
      cases h
      subst h0
      refine ⟨[], ?_, .nil, by simp, rfl⟩
      cases hx <;> first | (rename_i h0; simp [leafV] at h0; done) | (simp only [Builtin.firstCells, Nat.zero_mul, loadCells, loadCellsFrom]; rfl)
    · split at h
      case isFalse => cases h
      rename_i hn0 hle
      have key : ∀ (L : Loc) (c : Nat), σ b = some L → ∃ cs', (Builtin.firstCells size n (.slice (some ⟨L.blk, L.off + o, none⟩) len c)).run E.prog w = .ok ⟨cs'⟩ w ∧ VRs σ cs cs' ∧
          cs.length = n * size ∧ cs.all oneCell = true := by
        intro L c hs
        obtain ⟨r', h1, h2, h3, h4⟩ := loads_run hr h hs
        exact ⟨r', h1, h2, h3, h4⟩
      cases hx with
      | leaf h0 => simp [leafV] at h0
      | sliceE hs _ _ => exact key _ _ hs
      | sliceX hs _ _ _ => exact key _ _ hs
      | sliceZ hc => omega
  · rename_i len cap
    simp only [bif_beq] at h
    split at h
    case isFalse => cases h
    rename_i h0
    cases h
    subst h0
    cases hx with
    | leaf h0 => exact ⟨[], rfl, .nil, by simp, rfl⟩
  · rename_i s
    simp only [bif_and, bif_beq, bif_ble] at h
    split at h
    case isFalse => cases h
    rename_i h1
    split at h
    case isFalse => cases h
    rename_i h2
    cases h
    rw [hx.string_inv]
    refine ⟨_, ?_, bytes_refl _, ?_, bytes_one _⟩
    · simp only [Builtin.firstCells, Sem.run_pure]
      congr 1
      apply Array.ext'
      simp [ByteArray.extract, ByteArray.copySlice]
    · have : s.size = s.data.toList.length := by rw [Array.length_toList]; rfl
      simp only [List.length_map, List.length_take, h1, Nat.mul_one]; omega
  · cases h
theorem len_run {x x' : Value} {n : Nat} (h : lenA x = some n) (hx : VR σ x x') : (Builtin.lenOf x').run E.prog w = .ok n w := by
  unfold lenA at h
  split at h
  · cases h
    cases hx <;> first | rfl | skip
  · cases h; rw [hx.string_inv]; rfl
  · cases h
def isIntD : TypeDesc → Bool
  | .int _ => true
  | _ => false
theorem newCells_run (he : EOk E) (hr : HR E σ H w) {elem xt : TypeId} {xi e : TI} {x x' : Value} {n : Nat} {new : List Value} (hxt : E.types.get xt = some xi) (hel : E.types.get elem = some e)
    (h : newCellsA H xi e x = some (n, new)) (hx : VR σ x x') (hb : n * e.bytes ≤ 2 ^ 48) (hb' : n < 2 ^ 62) :
    ∃ new', VRs σ new new' ∧ new.length = n * e.size ∧ new.all oneCell = true ∧
      ((isIntD xi.desc = false ∧ (Builtin.lenOf x').run E.prog w = .ok n w ∧ (Builtin.firstCells e.size n x').run E.prog w = .ok ⟨new'⟩ w) ∨
       (isIntD xi.desc = true ∧ ∃ k, x' = .int k (Int.ofNat n) ∧ (if n * e.size = 0 then (#[] : Array Value) else ⟨new'⟩) = ⟨new'⟩ ∧
          ∀ w, ∃ zv, (zeroValue elem).run E.prog w = .ok zv w ∧ Builtin.zeroCells zv.cells n = ⟨new'⟩)) := by
  unfold newCellsA at h
  split at h
  · rename_i k hd
    split at h
    case h_2 => cases h
    rename_i k' m z hz
    cases h
    obtain ⟨zv, h1, h2, h3, h4, h5⟩ := run_zero he hel hz w
    have hl : (reps z n).length = n * e.size := by rw [reps_length, h5]
    have hzc : ∀ zv : Value, zv.cells.toList = z → Builtin.zeroCells zv.cells n = ⟨reps z n⟩ := by
      intro zv h3
      unfold Builtin.zeroCells
      apply Array.ext'
      rw [zeros_eq zv.cells n zv.cells.size rfl, h3]
    refine ⟨reps z n, reps_refl (zero_refl h2 h3) n, hl, reps_one h4 n, .inr ⟨by rw [hd]; rfl, k', hx.int_inv, ?_, fun w => ?_⟩⟩
    · split
      · rename_i h0
        rw [h0] at hl
        rw [List.length_eq_zero_iff.1 hl]
      · rfl
    · obtain ⟨zv, h1, h2, h3, h4, h5⟩ := run_zero he hel hz w
      exact ⟨zv, h1, hzc zv h3⟩
  · rename_i hd
    split at h
    case h_2 => cases h
    rename_i m hm
    simp only [Option.map_eq_some_iff] at h
    obtain ⟨cs, h1, h2⟩ := h
    cases h2
    obtain ⟨cs', g1, g2, g3, g4⟩ := first_run hr h1 hx
    refine ⟨cs', g2, g3, g4, .inl ⟨?_, len_run hm hx, g1⟩⟩
    cases hdd : xi.desc <;> first | rfl | exact absurd hdd (hd _)
theorem wrap_nat {n : Nat} (h : n < 2 ^ 62) : IntKind.i64.wrap (n : Int) = (n : Int) := by
  have h1 : (n : Int) % 2 ^ 64 = (n : Int) := by omega
  simp only [IntKind.wrap, IntKind.bits, IntKind.signed, h1]
  rw [if_neg]
  simp; omega
theorem isInt_eq {d : TypeDesc} (h : isIntD d = true) : ∃ k, d = .int k := by
  cases d <;> first | exact ⟨_, rfl⟩ | (simp [isIntD] at h)
def storeAt? (A : Option Addr) (o : Nat) (new' : List Value) : Sem Unit := match A with
  | some a => storeCells (a.add o) new'
  | none => pure ()
set_option maxHeartbeats 1000000 in
theorem app_room1 (he : EOk E) {t xt elem ty : TypeId} {ats : List TypeId} {ti xi e : TI} {n len c : Nat} {x' : Value} {new' : List Value} {A : Option Addr}
    (ht : E.types.get t = some ti) (hd : ti.desc = .slice elem) (hxt : E.types.get xt = some xi) (hel : E.types.get elem = some e)
    (hz : isIntD xi.desc = false) (h1 : (Builtin.lenOf x').run E.prog w = .ok n w) (h2 : (Builtin.firstCells e.size n x').run E.prog w = .ok ⟨new'⟩ w) (hle : len + n ≤ c) {w' : World}
    (hst : (storeAt? A (len * e.size) new').run E.prog w = .ok () w') :
    (Builtin.append_ ⟨t :: xt :: ats⟩ ty #[.slice A len c, x']).run E.prog w = .ok (.slice A (len + n) c) w' := by
  have hu := fun w => run_und he ht w
  rw [hd] at hu
  have hux := fun w => run_und he hxt w
  have hsz := fun w => run_sizeOf' he hel w
  clear ht hxt hel he hd
  generalize xi.desc = d at hux hz
  cases d <;> first | (simp [isIntD] at hz; done) | skip
  all_goals
    cases A with
    | none =>
      simp only [storeAt?, Sem.run_pure, Result.ok.injEq, true_and] at hst
      subst hst
      simp [Builtin.append_, hu, hux, hsz, h1, h2, hle]
    | some A =>
      simp only [storeAt?] at hst
      simp [Builtin.append_, hu, hux, hsz, h1, h2, hle, hst]
set_option maxHeartbeats 1000000 in
theorem app_room2 (he : EOk E) {t xt elem ty : TypeId} {ats : List TypeId} {ti xi e : TI} {n len c : Nat} {k : IntKind} {new' : List Value} {A : Option Addr}
    (ht : E.types.get t = some ti) (hd : ti.desc = .slice elem) (hxt : E.types.get xt = some xi) (hel : E.types.get elem = some e)
    (hz : isIntD xi.desc = true) (h2 : (if n * e.size = 0 then (#[] : Array Value) else ⟨new'⟩) = ⟨new'⟩)
    (h3 : ∀ w, ∃ zv, (zeroValue elem).run E.prog w = .ok zv w ∧ Builtin.zeroCells zv.cells n = ⟨new'⟩)
    (hb : n * e.bytes ≤ 2 ^ 48) (hb' : n < 2 ^ 62) (hle : len + n ≤ c) {w' : World}
    (hst : (storeAt? A (len * e.size) new').run E.prog w = .ok () w') :
    (Builtin.append_ ⟨t :: xt :: ats⟩ ty #[.slice A len c, .int k (n : Int)]).run E.prog w = .ok (.slice A (len + n) c) w' := by
  have hu := fun w => run_und he ht w
  rw [hd] at hu
  have hux := fun w => run_und he hxt w
  have hsz := fun w => run_sizeOf' he hel w
  have hw : IntKind.i64.wrap (n : Int) = (n : Int) := wrap_nat hb'
  obtain ⟨i, hi, _, _, hby, _⟩ := he.types elem e hel
  have hti := fun w => run_typeInfo (P := E.prog) w hi
  have hsm : ¬ (281474976710656 : Int) < (n : Int) * (i.bytes : Int) := by
    rw [← hby]
    have : (n : Int) * (e.bytes : Int) = ((n * e.bytes : Nat) : Int) := by simp
    rw [this]; omega
  obtain ⟨k', hk'⟩ := isInt_eq hz
  rw [hk'] at hux
  obtain ⟨zv, g1, g2⟩ := h3 w
  clear ht hxt hel he hd hi hby h3
  have hneg : ¬ (n : Int) < 0 := by omega
  by_cases h0 : n * e.size = 0
  · rw [if_pos h0] at h2
    have hnil : new' = [] := by have := congrArg Array.toList h2; simpa using this.symm
    subst hnil
    cases A <;>
      (simp only [storeAt?, Sem.run_pure, Result.ok.injEq, true_and, storeCells] at hst
       subst hst
       simp [Builtin.append_, hu, hux, hsz, hle, asInt, asIntOf, hw, hti, hsm, h0, hneg, storeCells])
  · cases A with
    | none =>
      simp only [storeAt?, Sem.run_pure, Result.ok.injEq, true_and] at hst
      subst hst
      simp [Builtin.append_, hu, hux, hsz, hle, asInt, asIntOf, hw, hti, hsm, h0, hneg, g1]
    | some A =>
      simp only [storeAt?] at hst
      simp [Builtin.append_, hu, hux, hsz, hle, asInt, asIntOf, hw, hti, hsm, h0, hneg, g1, g2, hst]
end
end Go.Am
