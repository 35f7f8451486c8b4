/- Shapes of data, and their equality. Conditions: none. -/
import Derived.Test.YtgkfhfcieamncaaGreatDoorSx4
set_option linter.unusedVariables false
set_option linter.unusedSimpArgs false
namespace Go.Am
open Go
inductive Sh where
  | int (k : IntKind)
  | bool
  | str
  | st (fs : List Sh)
  | sl (el sz : Nat) (e : Sh)
mutual
def HasSh : Sh → D → Prop
  | .int k, d => ∃ n, d = .leaf (.int k n)
  | .bool, d => ∃ b, d = .leaf (.bool b)
  | .str, d => ∃ s, d = .leaf (.string s)
  | .st fs, d => ∃ cs, d = .agg cs ∧ HasShs fs cs
  | .sl el sz e, d => d = .nil ∨ ∃ es, d = .sl el sz es ∧ es.length < capX ∧ ∀ x ∈ es, HasSh e x
def HasShs : List Sh → List D → Prop
  | [], l => l = []
  | s :: ss, l => ∃ d ds, l = d :: ds ∧ HasSh s d ∧ HasShs ss ds
end
inductive VSh : Sh → Value → Prop
  | int {k : IntKind} {n : Int} : VSh (.int k) (.int k n)
  | bool {b : Bool} : VSh .bool (.bool b)
  | str {s : ByteArray} : VSh .str (.string s)
inductive VShs : List Sh → List Value → Prop
  | nil : VShs [] []
  | cons {s : Sh} {v : Value} {ss : List Sh} {vs : List Value} (h : VSh s v) (hs : VShs ss vs) : VShs (s :: ss) (v :: vs)
theorem VShs.length : ∀ {ss : List Sh} {vs : List Value}, VShs ss vs → vs.length = ss.length
  | _, _, .nil => rfl
  | _, _, .cons _ h => by simp [VShs.length h]
theorem VShs.split : ∀ {a b : List Sh} {vs : List Value}, VShs (a ++ b) vs → ∃ x y, vs = x ++ y ∧ VShs a x ∧ VShs b y
  | [], _, vs, h => ⟨[], vs, rfl, .nil, h⟩
  | s :: a, b, _, .cons h hs => by
    obtain ⟨x, y, rfl, h1, h2⟩ := VShs.split (a := a) hs
    exact ⟨_ :: x, y, rfl, .cons h h1, h2⟩
end Go.Am
namespace Go.Am
open Go
def IsSl (el sz : Nat) (d : D) : Prop := d = .nil ∨ ∃ es, d = .sl el sz es ∧ es.length < capX
abbrev dI (n : Int) : D := .leaf (.int .i64 n)
abbrev dB (b : Bool) : D := .leaf (.bool b)
section
variable {E : Env} {HS : FuncId → List D → D → Prop} {Q : Res1 → Prop}
theorem wp_bind {o : TOp} {xs : List SV} {r : Tree} {ρ ds : List D} {d : D} (h : o.eval E ds = some d) (hx : SV.ds (getD ρ) xs = ds) (hr : wp E HS Q r (ρ ++ [d])) : wp E HS Q (.bind o xs r) ρ := by
  simp only [wp, hx, h]; exact hr
theorem wp_call {tg : Tgt} {xs : List SV} {fl : Nat} {r : Tree} {ρ ds as : List D} {f : FuncId} {d : D} (h : HS f as d) (hx : SV.ds (getD ρ) xs = ds) (ht : tgtD E tg ds = some (f, as)) (hf : flatD fl d = true) (hr : wp E HS Q r (ρ ++ [d])) : wp E HS Q (.call tg xs fl r) ρ := by
  simp only [wp, hx, ht]; exact ⟨d, h, hf, hr⟩
theorem sh_len {el sz : Nat} {d : D} (h : IsSl el sz d) : TOp.eval E (.len false) [d] = some (dI d.es.length) := by
  rcases h with rfl | ⟨es, rfl, _⟩ <;> rfl
theorem sh_inr {d : D} {i : Nat} {e : D} (he : d.es[i]? = some e) : TOp.eval E .inr [d, dI (i : Int)] = some (dB true) := by
  rw [ev_inr]
  have : elemD d (dI (i : Int)) = some e := he
  rw [this]; rfl
theorem sh_szD {el sz : Nat} {d : D} {i : Nat} {e : D} (h : IsSl el sz d) (he : d.es[i]? = some e) : d.szD = sz := by
  rcases h with rfl | ⟨es, rfl, _⟩
  · simp [D.es] at he
  · rfl
theorem sh_elemW {el sz : Nat} {d : D} {i : Nat} {cs : List D} (h : IsSl el sz d) (he : d.es[i]? = some (.agg cs)) (hc : cs.length = sz) : TOp.eval E (.elem sz true sz 0) [d, dI (i : Int)] = some (.agg cs) := by
  rw [ev_elem]
  have h1 : elemD d (dI (i : Int)) = some (.agg cs) := he
  have h2 : Nat.ble (0 + sz) sz = true := Nat.ble_eq_true_of_le (by omega)
  have h3 : Nat.beq sz sz = true := Nat.beq_refl _
  have h4 : Nat.beq 0 0 = true := rfl
  simp only [h1, sh_szD h he, h3, h2, h4, cond_true, Bool.and_self, chkD, hc, bif_beq, if_true]
theorem sh_elem1 {el : Nat} {d : D} {i : Nat} {e : D} (h : IsSl el 1 d) (he : d.es[i]? = some e) (ho : e.one = true) : TOp.eval E (.elem 1 false 1 0) [d, dI (i : Int)] = some e := by
  rw [ev_elem]
  have h1 : elemD d (dI (i : Int)) = some e := he
  simp only [h1, sh_szD h he]
  cases e <;> first | rfl | (cases ho; done)
theorem sh_elemP {el sz off : Nat} {d : D} {i : Nat} {cs : List D} {e : D} (h : IsSl el sz d) (he : d.es[i]? = some (.agg cs)) (hc : cs[off]? = some e) (ho : e.one = true) (hoff : off < sz) : TOp.eval E (.elem sz false 1 off) [d, dI (i : Int)] = some e := by
  rw [ev_elem]
  have h1 : elemD d (dI (i : Int)) = some (.agg cs) := he
  have h2 : Nat.ble (off + 1) sz = true := Nat.ble_eq_true_of_le hoff
  have h3 : Nat.beq sz sz = true := Nat.beq_refl _
  simp only [h1, sh_szD h he, h3, cond_false, h2, Bool.and_self, cond_true, Bool.false_and, partD, D.cells, hc, ho]
theorem sh_chkW {cs : List D} {n : Nat} (h : cs.length = n) : TOp.eval E (.chk true n) [.agg cs] = some (.agg cs) := by
  rw [ev_chk]; simp only [chkD, cond_true, h, bif_beq, if_true]
theorem wrap63 {n : Nat} (h : n < capX) : IntKind.i64.wrap (n : Int) = (n : Int) := by
  have h' : n < 9223372036854775808 := h
  have h2 : (n : Int) < 9223372036854775808 := by omega
  have h1 : (n : Int) % 2 ^ 64 = (n : Int) := by omega
  simp only [IntKind.wrap, IntKind.bits, IntKind.signed, h1]
  rw [if_neg]
  simp only [Bool.and_eq_true, decide_eq_true_eq, not_and, ge_iff_le, Int.not_le]
  intro _
  exact h2
theorem sh_add {t : TypeId} {x y : Operand} {n : Nat} (h : n + 1 < capX) : TOp.eval E (.bin .add t x y) [dI (n : Int), dI 1] = some (dI ((n + 1 : Nat) : Int)) := by
  have h0 : TOp.eval E (.bin .add t x y) [dI (n : Int), dI 1] = some (dI (IntKind.i64.wrap ((n : Int) + 1))) := rfl
  rw [h0, show ((n : Int) + 1) = ((n + 1 : Nat) : Int) by omega, wrap63 h]
theorem wp_iteC {i : Nat} {a b : Tree} {ρ : List D} {t : Bool} (h : getD ρ i = dB t) (ht : t = true → wp E HS Q a ρ) (hf : t = false → wp E HS Q b ρ) : wp E HS Q (.ite (.v i) a b) ρ := by
  simp only [wp, SV.d, h]
  cases t
  · exact hf rfl
  · exact ht rfl
def To (E : Env) (HS : FuncId → List D → D → Prop) (Ts : Nat → Tree) (d : D) (r : Res1) : Prop := match r with
  | .ret d' => d' = d
  | .jump k ds => Goes E HS Ts k ds d
theorem Goes.step' {Ts : Nat → Tree} {k : Nat} {ρ : List D} {d : D} (h : wp E HS (To E HS Ts d) (Ts k) ρ) : Goes E HS Ts k ρ d := by
  obtain ⟨r, h1, h2⟩ := wp_one _ _ h
  refine Goes.step (h2 _ ?_)
  cases r <;> exact h1
end
end Go.Am
namespace Go.Am
open Go
theorem IsSl.one {el sz : Nat} {d : D} (h : IsSl el sz d) : d.one = true := by
  rcases h with rfl | ⟨es, rfl, _⟩ <;> rfl
section
variable {E : Env} {HS : FuncId → List D → D → Prop}
theorem sh_fld1 {off : Nat} {cs : List D} {e : D} (hc : cs[off]? = some e) (ho : e.one = true) : TOp.eval E (.fld false 1 off) [.agg cs] = some e := by
  rw [ev_fld]
  simp only [partD, cond_false, D.cells, hc, ho, cond_true]
theorem sh_chk1 {e : D} (ho : e.one = true) : TOp.eval E (.chk false 1) [e] = some e := by
  rw [ev_chk]
  have h : Nat.beq 1 1 = true := rfl
  simp only [chkD, cond_false, ho, h, Bool.and_self, cond_true]
theorem sh_fldA {off size : Nat} {cs : List D} (h : Nat.ble (off + size) cs.length = true) : TOp.eval E (.fld true size off) [.agg cs] = some (.agg ((cs.drop off).take size)) := by
  rw [ev_fld]
  simp only [partD, cond_true, D.cells, h]
end
end Go.Am
namespace Go.Am
open Go
section
variable {E : Env} {HS : FuncId → List D → D → Prop} {Q : Res1 → Prop}
theorem wp_jumpTo {Ts : Nat → Tree} {k : Nat} {xs : List SV} {ρ ds : List D} {d : D} (hx : SV.ds (getD ρ) xs = ds) (h : Goes E HS Ts k ds d) : wp E HS (To E HS Ts d) (.jump k xs) ρ := by
  simp only [wp, hx, To]; exact h
theorem wp_bindE {ρ' : List D} {o : TOp} {xs : List SV} {r : Tree} {ρ ds : List D} {d : D} (h : o.eval E ds = some d) (hx : SV.ds (getD ρ) xs = ds) (hρ : ρ ++ [d] = ρ') (hr : wp E HS Q r ρ') : wp E HS Q (.bind o xs r) ρ :=
  wp_bind h hx (hρ ▸ hr)
theorem wp_callE {ρ' : List D} {tg : Tgt} {xs : List SV} {fl : Nat} {r : Tree} {ρ ds as : List D} {f : FuncId} {d : D} (h : HS f as d) (hx : SV.ds (getD ρ) xs = ds) (ht : tgtD E tg ds = some (f, as)) (hf : flatD fl d = true) (hρ : ρ ++ [d] = ρ') (hr : wp E HS Q r ρ') : wp E HS Q (.call tg xs fl r) ρ :=
  wp_call h hx ht hf (hρ ▸ hr)
end
end Go.Am
