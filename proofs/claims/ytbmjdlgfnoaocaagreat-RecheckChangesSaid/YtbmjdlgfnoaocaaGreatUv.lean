/- Bounded data of given shapes; steps for functions that always give something. Conditions: none. -/
import Derived.Test.YtbmjdlgfnoaocaaGreatUn
set_option linter.unusedVariables false
set_option linter.unusedSimpArgs false
namespace Go.Am
open Go
mutual
def HasB (B : Nat) : Sh → D → Prop
  | .int k, d => ∃ n, d = .leaf (.int k n)
  | .bool, d => ∃ b, d = .leaf (.bool b)
  | .str, d => ∃ s, d = .leaf (.string s) ∧ s.size ≤ B
  | .st fs, d => ∃ cs, d = .agg cs ∧ HasBs B fs cs
  | .sl el sz e, d => d = .nil ∨ ∃ es, d = .sl el sz es ∧ es.length ≤ B ∧ ∀ x ∈ es, HasB B e x
def HasBs (B : Nat) : List Sh → List D → Prop
  | [], l => l = []
  | s :: ss, l => ∃ d ds, l = d :: ds ∧ HasB B s d ∧ HasBs B ss ds
end
variable {B : Nat}
theorem hb_sl {el sz : Nat} {e : Sh} {es : List D} (h : es.length ≤ B) (ha : ∀ x ∈ es, HasB B e x) : HasB B (.sl el sz e) (.sl el sz es) := .inr ⟨es, rfl, h, ha⟩
section
variable {E : Env} {HS : FuncId → List D → D → Prop}
theorem toNat_dI {s : Int} (h : 0 ≤ s) : dI s = dI ((s.toNat : Nat) : Int) := by rw [Int.toNat_of_nonneg h]
theorem si_inr {d : D} {s : Int} {e : D} (h : 0 ≤ s) (he : d.es[s.toNat]? = some e) : TOp.eval E .inr [d, dI s] = some (dB true) := by
  rw [toNat_dI h]; exact sh_inr he
theorem si_elemW {el sz : Nat} {d : D} {s : Int} {cs : List D} (h : IsSl el sz d) (h0 : 0 ≤ s) (he : d.es[s.toNat]? = some (.agg cs)) (hc : cs.length = sz) : TOp.eval E (.elem sz true sz 0) [d, dI s] = some (.agg cs) := by
  rw [toNat_dI h0]; exact sh_elemW h he hc
theorem si_elem1 {el : Nat} {d : D} {s : Int} {e : D} (h : IsSl el 1 d) (h0 : 0 ≤ s) (he : d.es[s.toNat]? = some e) (ho : e.one = true) : TOp.eval E (.elem 1 false 1 0) [d, dI s] = some e := by
  rw [toNat_dI h0]; exact sh_elem1 h he ho
theorem si_elemP {el sz off : Nat} {d : D} {s : Int} {cs : List D} {e : D} (h : IsSl el sz d) (h0 : 0 ≤ s) (he : d.es[s.toNat]? = some (.agg cs)) (hc : cs[off]? = some e) (ho : e.one = true) (hoff : off < sz) : TOp.eval E (.elem sz false 1 off) [d, dI s] = some e := by
  rw [toNat_dI h0]; exact sh_elemP h he hc ho hoff
theorem si_elemA {el sz size off : Nat} {d : D} {s : Int} {cs : List D} (h : IsSl el sz d) (h0 : 0 ≤ s) (he : d.es[s.toNat]? = some (.agg cs)) (hc : cs.length = sz) (ho : off + size ≤ sz) (hn : ¬ (off = 0 ∧ size = sz)) : TOp.eval E (.elem sz true size off) [d, dI s] = some (.agg ((cs.drop off).take size)) := by
  rw [toNat_dI h0]; exact sh_elemA h he hc ho hn
theorem loop_up {P : Nat → Prop} (N : Nat) (st : ∀ i, (i < N → P (i + 1)) → P i) : ∀ i, P i := by
  have go : ∀ m i, N ≤ i + m → P i := by
    intro m
    induction m with
    | zero => intro i h; exact st i fun hi => absurd hi (by omega)
    | succ m ih => intro i h; exact st i fun _ => ih (i + 1) (by omega)
  intro i
  exact go N i (Nat.le_add_left _ _)
theorem cap_bd' {n : Nat} (h : n ≤ 4000000000) : n < capX := by unfold capX; omega
theorem sk_lss {k : IntKind} {t : TypeId} {x y : Operand} {m n : Int} : TOp.eval E (.bin .lss t x y) [.leaf (.int k m), .leaf (.int k n)] = some (dB (decide (m < n))) := by cases k <;> rfl
theorem sk_gtr {k : IntKind} {t : TypeId} {x y : Operand} {m n : Int} : TOp.eval E (.bin .gtr t x y) [.leaf (.int k m), .leaf (.int k n)] = some (dB (decide (m > n))) := by cases k <;> rfl
theorem sk_eql {k : IntKind} {t : TypeId} {x y : Operand} {m n : Int} : TOp.eval E (.bin .eql t x y) [.leaf (.int k m), .leaf (.int k n)] = some (dB (decide (m = n))) := by cases k <;> rfl
theorem sk_neq {k : IntKind} {t : TypeId} {x y : Operand} {m n : Int} : TOp.eval E (.bin .neq t x y) [.leaf (.int k m), .leaf (.int k n)] = some (dB (decide (¬ m = n))) := by
  have h : TOp.eval E (.bin .neq t x y) [.leaf (.int k m), .leaf (.int k n)] = some (dB (m != n)) := by cases k <;> rfl
  rw [h]
  by_cases e : m = n
  · subst e; simp
  · simp [e]
theorem te_ext {i : Nat} {ds : List D} {d : D} (h : ds[i]? = some d) : TOp.eval E (.ext i) [.tup ds] = some d := by rw [ev_ext]; exact h
theorem app_ble {n bytes : Nat} (h : n ≤ 300000000) (hb : bytes ≤ 80) : Nat.ble (Nat.mul (Nat.add (Nat.mul 4 n) 4000) (Nat.succ bytes)) 100000000000 = true := by
  rw [Nat.ble_eq]
  have h1 : 4 * n + 4000 ≤ 1200004000 := by omega
  have h2 : bytes + 1 ≤ 81 := by omega
  exact Nat.le_trans (Nat.mul_le_mul h1 h2) (Nat.le_of_ble_eq_true rfl)
end
end Go.Am
namespace Go.Am
open Go
section
variable {E : Env} {B : Nat}
end
end Go.Am
namespace Go.Am
open Go
section
variable {E : Env} {B : Nat}
end
theorem wp_retTo2 {E : Env} {HS : FuncId → List D → D → Prop} {Ts : Nat → Tree} {xs : List SV} {ρ ds : List D} {d : D} (hx : SV.ds (getD ρ) xs = ds) (h : retD ds = d) : wp E HS (To E HS Ts d) (.ret xs) ρ := by
  simp only [wp, hx, To]; exact h
end Go.Am
namespace Go.Am
open Go
def mkOut (el sz : Nat) (l : List D) : D := if l = [] then .nil else .sl el sz l
theorem mkOut_es {el sz : Nat} {l : List D} : (mkOut el sz l).es = l := by
  unfold mkOut; split
  · rename_i h; rw [h]; rfl
  · rfl
section
variable {E : Env} {B : Nat}
theorem app_mk {el sz bytes : Nat} {l : List D} {b : D} {e : Sh} (hb : HasB B (.sl el sz e) b) (hbytes : bytes ≤ 80) (hl : l.length + b.es.length ≤ 300000000) :
    TOp.eval E (.app el sz bytes) [mkOut el sz l, b] = some (mkOut el sz (l ++ b.es)) := by
  have hss : strSize (mkOut el sz l) = some l.length := by
    unfold mkOut; split
    · rename_i h; rw [h]; rfl
    · rfl
  have tt : ∀ (b : Bool) (x y : Option D), b = true → (bif b then x else y) = x := fun b x y hb => by rw [hb]; rfl
  rw [ev_app, hss]
  simp only [HasB] at hb
  rcases hb with rfl | ⟨es, rfl, hbl, hbe⟩
  · have h1 : Nat.ble (Nat.mul (Nat.add (Nat.mul 4 l.length) 4000) (Nat.succ bytes)) 100000000000 = true := app_ble (by have : (D.nil).es.length = 0 := rfl; omega) hbytes
    refine (tt _ _ _ h1).trans ?_
    show some (mkOut el sz l) = some (mkOut el sz (l ++ []))
    rw [List.append_nil]
  · have h1 : Nat.ble (Nat.mul (Nat.add (Nat.mul 4 (Nat.add l.length es.length)) 4000) (Nat.succ bytes)) 100000000000 = true := app_ble hl hbytes
    have h2 : Nat.beq sz sz = true := Nat.beq_refl _
    have hes : (D.sl el sz es).es = es := rfl
    by_cases hn : l = []
    · subst hn
      refine (tt _ _ _ (by rw [h1, h2]; rfl)).trans ?_
      rw [bif_beq, hes]
      split
      · rename_i h0
        have : es = [] := List.length_eq_zero_iff.1 h0
        rw [this]; rfl
      · rename_i h0
        have hne : es ≠ [] := fun h => h0 (by rw [h]; rfl)
        show some (D.sl el sz ([] ++ es)) = some (mkOut el sz ([] ++ es))
        rw [List.nil_append]
        unfold mkOut
        rw [if_neg hne]
    · have hm : mkOut el sz l = .sl el sz l := if_neg hn
      rw [hm]
      refine (tt _ _ _ (by rw [h1, h2]; show (true && true && (Nat.beq el el && Nat.beq sz sz)) = true; rw [Nat.beq_refl, Nat.beq_refl]; rfl)).trans ?_
      have hm2 : mkOut el sz (l ++ es) = .sl el sz (l ++ es) := if_neg (by intro h; exact hn (List.append_eq_nil_iff.1 h).1)
      rw [bif_beq, hes, hm2]
      split
      · rename_i h0
        have : es = [] := List.length_eq_zero_iff.1 h0
        rw [this, List.append_nil]
      · rfl
end
end Go.Am
