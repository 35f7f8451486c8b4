/- Bounded data of given shapes; steps for functions that always give something. Conditions: none. -/
import Derived.Test.YtgkfhfcieamncaaGreatDoorUn
set_option linter.unusedVariables false
set_option linter.unusedSimpArgs false
namespace Go.Am
open Go
variable {B : Nat}
theorem cap_bd {n : Nat} (h : n ≤ 300000000) : n < capX := by unfold capX; omega
section
variable {E : Env} {HS : FuncId → List D → D → Prop}
theorem wrapI {m : Int} (h0 : -9223372036854775808 ≤ m) (h1 : m < 9223372036854775808) : IntKind.i64.wrap m = m := by
  have e : IntKind.i64.wrap m = (if (true && decide ((m % 18446744073709551616) ≥ 9223372036854775808)) = true then m % 18446744073709551616 - 18446744073709551616 else m % 18446744073709551616) := rfl
  rw [e]
  simp only [Bool.true_and, decide_eq_true_eq]
  split <;> omega
theorem si_add {t : TypeId} {x y : Operand} {m n : Int} (h : -9223372036854775808 ≤ m + n ∧ m + n < 9223372036854775808) : TOp.eval E (.bin .add t x y) [dI m, dI n] = some (dI (m + n)) := by
  have h0 : TOp.eval E (.bin .add t x y) [dI m, dI n] = some (dI (IntKind.i64.wrap (m + n))) := rfl
  rw [h0, wrapI h.1 h.2]
theorem ss_len {s : ByteArray} : TOp.eval E (.len true) [.leaf (.string s)] = some (dI (s.size : Int)) := rfl
def ToR (E : Env) (HS : FuncId → List D → D → Prop) (Ts : Nat → Tree) (R : D → Prop) (r : Res1) : Prop := match r with
  | .ret d' => R d'
  | .jump k ds => ∃ d, R d ∧ Goes E HS Ts k ds d
theorem goes_R {Ts : Nat → Tree} {R : D → Prop} {k : Nat} {ρ : List D} (h : wp E HS (ToR E HS Ts R) (Ts k) ρ) : ∃ d, R d ∧ Goes E HS Ts k ρ d := by
  obtain ⟨r, h1, h2⟩ := wp_one _ _ h
  cases r with
  | ret d' => exact ⟨d', h1, Goes.step (h2 _ rfl)⟩
  | jump k' ds => obtain ⟨d, hr, hd⟩ := h1; exact ⟨d, hr, Goes.step (h2 _ hd)⟩
theorem wr_ret {Ts : Nat → Tree} {R : D → Prop} {xs : List SV} {ρ ds : List D} (hx : SV.ds (getD ρ) xs = ds) (h : R (retD ds)) : wp E HS (ToR E HS Ts R) (.ret xs) ρ := by
  simp only [wp, hx]; exact h
theorem wr_jump {Ts : Nat → Tree} {R : D → Prop} {k : Nat} {xs : List SV} {ρ ds : List D} (hx : SV.ds (getD ρ) xs = ds) (h : ∃ d, R d ∧ Goes E HS Ts k ds d) : wp E HS (ToR E HS Ts R) (.jump k xs) ρ := by
  simp only [wp, hx]; exact h
theorem loop_up {P : Nat → Prop} (N : Nat) (st : ∀ i, (i < N → P (i + 1)) → P i) : ∀ i, P i := by
  have go : ∀ m i, N ≤ i + m → P i := by
    intro m
    induction m with
    | zero => intro i h; exact st i fun hi => absurd hi (by omega)
    | succ m ih => intro i h; exact st i fun _ => ih (i + 1) (by omega)
  intro i
  exact go N i (Nat.le_add_left _ _)
theorem cap_bd' {n : Nat} (h : n ≤ 4000000000) : n < capX := by unfold capX; omega
theorem sk_lss {k : IntKind} {t : TypeId} {x y : Operand} {m n : Int} : TOp.eval E (.bin .lss t x y) [.leaf (.int k m), .leaf (.int k n)] = some (dB (decide (m < n))) := by cases k <;> rfl
theorem sk_gtr {k : IntKind} {t : TypeId} {x y : Operand} {m n : Int} : TOp.eval E (.bin .gtr t x y) [.leaf (.int k m), .leaf (.int k n)] = some (dB (decide (m > n))) := by cases k <;> rfl
theorem sk_geq {k : IntKind} {t : TypeId} {x y : Operand} {m n : Int} : TOp.eval E (.bin .geq t x y) [.leaf (.int k m), .leaf (.int k n)] = some (dB (decide (m ≥ n))) := by cases k <;> rfl
theorem sk_eql {k : IntKind} {t : TypeId} {x y : Operand} {m n : Int} : TOp.eval E (.bin .eql t x y) [.leaf (.int k m), .leaf (.int k n)] = some (dB (decide (m = n))) := by cases k <;> rfl
theorem app_ble {n bytes : Nat} (h : n ≤ 300000000) (hb : bytes ≤ 80) : Nat.ble (Nat.mul (Nat.add (Nat.mul 4 n) 4000) (Nat.succ bytes)) 100000000000 = true := by
  rw [Nat.ble_eq]
  have h1 : 4 * n + 4000 ≤ 1200004000 := by omega
  have h2 : bytes + 1 ≤ 81 := by omega
  exact Nat.le_trans (Nat.mul_le_mul h1 h2) (Nat.le_of_ble_eq_true rfl)
end
end Go.Am
namespace Go.Am
open Go
section
variable {E : Env} {B : Nat}
theorem tt_bif {b : Bool} {x y : Option D} (h : b = true) : (bif b then x else y) = x := by rw [h]; rfl
end
end Go.Am
namespace Go.Am
open Go
section
variable {E : Env} {B : Nat}
end
theorem wp_retTo2 {E : Env} {HS : FuncId → List D → D → Prop} {Ts : Nat → Tree} {xs : List SV} {ρ ds : List D} {d : D} (hx : SV.ds (getD ρ) xs = ds) (h : retD ds = d) : wp E HS (To E HS Ts d) (.ret xs) ρ := by
  simp only [wp, hx, To]; exact h
end Go.Am
namespace Go.Am
open Go
section
variable {E : Env} {B : Nat}
end
end Go.Am
