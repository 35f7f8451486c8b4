/- Shapes of data, and their equality. Conditions: none. -/
import Derived.Test.YtbmjdlgfnoaocaaGreatSx4
import Derived.Test.YtbmjdlgfnoaocaaGreatSx7
set_option linter.unusedVariables false
set_option linter.unusedSimpArgs false
namespace Go.Am
open Go
inductive Sh where
  | int (k : IntKind)
  | bool
  | str
  | st (fs : List Sh)
  | sl (el sz : Nat) (e : Sh)
mutual
def HasSh : Sh → D → Prop
  | .int k, d => ∃ n, d = .leaf (.int k n)
  | .bool, d => ∃ b, d = .leaf (.bool b)
  | .str, d => ∃ s, d = .leaf (.string s)
  | .st fs, d => ∃ cs, d = .agg cs ∧ HasShs fs cs
  | .sl el sz e, d => d = .nil ∨ ∃ es, d = .sl el sz es ∧ es.length < capX ∧ ∀ x ∈ es, HasSh e x
def HasShs : List Sh → List D → Prop
  | [], l => l = []
  | s :: ss, l => ∃ d ds, l = d :: ds ∧ HasSh s d ∧ HasShs ss ds
end
def veq : Value → Value → Bool
  | .int _ a, .int _ b => decide (a = b)
  | .bool a, .bool b => decide (a = b)
  | .string a, .string b => a == b
  | _, _ => false
mutual
def deq : D → D → Bool
  | .leaf a, .leaf b => veq a b
  | .agg azq, .agg bs => deqs azq bs
  | .nil, b => match b with
    | .nil => true
    | .sl _ _ bs => bs.isEmpty
    | _ => false
  | .sl _ _ azq, b => match b with
    | .nil => azq.isEmpty
    | .sl _ _ bs => deqs azq bs
    | _ => false
  | _, _ => false
def deqs : List D → List D → Bool
  | [], [] => true
  | a :: azq, b :: bs => deq a b && deqs azq bs
  | _, _ => false
end
theorem pureRun_bind2 {α β : Type} (P : Program) (x : Sem α) (f : α → Sem β) : pureRun P (x >>= f) = (pureRun P x).bind fun a => pureRun P (f a) := by
  show pureRun P (x.bind f) = _
  induction x with
  | pure a => rfl
  | program k ih => exact ih P
  | mark m k ih => exact ih
  | _ => rfl
theorem pureRun_program (P : Program) : pureRun P program = some P := rfl
theorem pureRun_pure {α : Type} (P : Program) (a : α) : pureRun P (pure a) = some a := rfl
inductive VSh : Sh → Value → Prop
  | int {k : IntKind} {n : Int} : VSh (.int k) (.int k n)
  | bool {b : Bool} : VSh .bool (.bool b)
  | str {s : ByteArray} : VSh .str (.string s)
def oneTy : TypeDesc → Option Sh
  | .bool => some .bool
  | .int k => some (.int k)
  | .string => some .str
  | _ => none
def eqFs (P : Program) (rec : TypeId → Option (List Sh)) : List Field → List Sh → Option (List Sh)
  | [], acc => some acc
  | f :: r, acc => bif f.name == "_" || !(Nat.beq f.offset acc.length) then none else match rec f.type, P.info? f.type with
    | some s, some i => bif Nat.beq i.size s.length then eqFs P rec r (acc ++ s) else none
    | _, _ => none
def eqTy (P : Program) : Nat → TypeId → Option (List Sh)
  | 0, _ => none
  | n + 1, t => match P.underlying t with
    | some (.struct fs) => bif P.stoodInHeld t then none else eqFs P (eqTy P n) fs.toList []
    | some d => match oneTy d with
      | some s => some [s]
      | none => none
    | none => none
def isSt (P : Program) (t : TypeId) : Bool := match P.underlying t with
  | some (.struct _) => true
  | _ => false
def mkV (st : Bool) (vs : List Value) : Value := bif st then .agg ⟨vs⟩ else vs.headD (.bool false)
def veqs : List Value → List Value → Bool
  | [], [] => true
  | a :: azq, b :: bs => veq a b && veqs azq bs
  | _, _ => false
inductive VShs : List Sh → List Value → Prop
  | nil : VShs [] []
  | cons {s : Sh} {v : Value} {ss : List Sh} {vs : List Value} (h : VSh s v) (hs : VShs ss vs) : VShs (s :: ss) (v :: vs)
theorem VShs.length : ∀ {ss : List Sh} {vs : List Value}, VShs ss vs → vs.length = ss.length
  | _, _, .nil => rfl
  | _, _, .cons _ h => by simp [VShs.length h]
theorem VShs.split : ∀ {a b : List Sh} {vs : List Value}, VShs (a ++ b) vs → ∃ x y, vs = x ++ y ∧ VShs a x ∧ VShs b y
  | [], _, vs, h => ⟨[], vs, rfl, .nil, h⟩
  | s :: a, b, _, .cons h hs => by
    obtain ⟨x, y, rfl, h1, h2⟩ := VShs.split (a := a) hs
    exact ⟨_ :: x, y, rfl, .cons h h1, h2⟩
theorem veqs_app : ∀ {a b c d : List Value}, a.length = c.length → veqs (a ++ b) (c ++ d) = (veqs a c && veqs b d)
  | [], b, [], d, _ => by simp [veqs]
  | x :: a, b, y :: c, d, h => by
    simp only [List.cons_append, veqs, veqs_app (show a.length = c.length by simpa using h), Bool.and_assoc]
  | [], _, _ :: _, _, h => by simp at h
  | _ :: _, _, [], _, h => by simp at h
theorem pure_und {P : Program} {t : TypeId} {d : TypeDesc} (h : P.underlying t = some d) : pureRun P (underlying t) = some d := by
  unfold underlying
  simp only [pureRun_bind2, pureRun_program, Option.bind_some, h, pureRun_pure]
theorem pure_size {P : Program} {t : TypeId} {i : TypeInfo} (h : P.info? t = some i) : pureRun P (sizeOf t) = some i.size := by
  unfold sizeOf typeInfo
  simp only [pureRun_bind2, pureRun_program, Option.bind_some, h, pureRun_pure]
theorem pure_agg {P : Program} {n : Nat} {t : TypeId} {s : List Sh} (h : eqTy P n t = some s) : pureRun P (isAgg t) = some (isSt P t) ∧ (isSt P t = false → s.length = 1) := by
  cases n with
  | zero => cases h
  | succ n =>
    simp only [eqTy] at h
    unfold isAgg
    cases hu : P.underlying t with
    | none => rw [hu] at h; cases h
    | some d =>
      simp only [pureRun_bind2, pure_und hu, Option.bind_some, isSt, hu]
      rw [hu] at h
      cases d <;> simp only [oneTy] at h <;> first | (cases h; done) | skip
      all_goals first
        | exact ⟨rfl, fun (e : true = false) => Bool.noConfusion e⟩
        | (cases h; exact ⟨rfl, fun _ => rfl⟩)
        | (simp only [Option.some.injEq] at h; subst h; exact ⟨rfl, fun _ => rfl⟩)
theorem pure_part {P : Program} {n : Nat} {t : TypeId} {s : List Sh} {i : TypeInfo} (h : eqTy P n t = some s) (hi : P.info? t = some i) (hs : i.size = s.length) (a x b : List Value) (hx : x.length = s.length) :
    pureRun P (part t ⟨a ++ (x ++ b)⟩ a.length) = some (mkV (isSt P t) x) := by
  obtain ⟨h1, h2⟩ := pure_agg h
  unfold part
  simp only [pureRun_bind2, h1, Option.bind_some]
  cases hst : isSt P t with
  | true =>
    simp only [if_true, pureRun_bind2, pure_size hi, Option.bind_some, pureRun_pure, mkV, cond_true]
    congr 2
    apply Array.ext'
    simp [List.extract_eq_take_drop, hs, ← hx]
  | false =>
    have hl := h2 hst
    rw [hl] at hx
    match x, hx with
    | [v], _ => simp [mkV, pureRun_pure]
theorem eq_loop {P : Program} {n d : Nat} (ih : ∀ t s, eqTy P n t = some s → ∀ us vs : List Value, VShs s us → VShs s vs → pureRun P (Op.equalIn d t (mkV (isSt P t) us) (mkV (isSt P t) vs)) = some (veqs us vs)) :
    ∀ (fl : List Field) (acc s : List Sh), eqFs P (eqTy P n) fl acc = some s → ∃ rest, s = acc ++ rest ∧ ∀ (ua va ru rv : List Value), ua.length = acc.length → va.length = acc.length → VShs rest ru → VShs rest rv →
      pureRun P (forIn fl ((none, ()) : Option Bool × Unit) fun f __s =>
            if f.name ≠ "_" then do
              let __do_lift ← part f.type { toList := ua ++ ru } f.offset
              let __do_lift_1 ← part f.type { toList := va ++ rv } f.offset
              let __do_lift ← Op.equalIn d f.type __do_lift __do_lift_1
              if (!__do_lift) = true then pure (ForInStep.done (some false, ())) else pure (ForInStep.yield (none, ()))
            else pure (ForInStep.yield (none, ()))) = some (if veqs ru rv = true then (none, ()) else (some false, ()))
  | [], acc, s, h => by
    simp only [eqFs, Option.some.injEq] at h
    subst h
    refine ⟨[], by simp, ?_⟩
    intro ua va ru rv _ _ h1 h2
    cases h1; cases h2
    simp [veqs, pureRun_pure]
  | f :: r, acc, s, h => by
    simp only [eqFs] at h
    cases hc : (f.name == "_" || !(Nat.beq f.offset acc.length)) with
    | true => rw [hc] at h; cases h
    | false =>
      rw [hc] at h
      simp only [cond_false] at h
      simp only [Bool.or_eq_false_iff, Bool.not_eq_false', beq_eq_false_iff_ne, ne_eq] at hc
      have hoff := Nat.eq_of_beq_eq_true hc.2
      split at h
      case h_2 => cases h
      rename_i s1 i hs1 hi
      simp only [bif_beq] at h
      split at h
      case isFalse => cases h
      rename_i hsz
      obtain ⟨rest, rfl, hr⟩ := eq_loop ih r (acc ++ s1) s h
      refine ⟨s1 ++ rest, by simp, ?_⟩
      intro ua va ru rv hua hva h1 h2
      obtain ⟨x, xr, rfl, x1, x2⟩ := h1.split
      obtain ⟨y, yr, rfl, y1, y2⟩ := h2.split
      have hp1 := pure_part hs1 hi hsz ua x xr x1.length
      have hp2 := pure_part hs1 hi hsz va y yr y1.length
      rw [hua, ← hoff] at hp1
      rw [hva, ← hoff] at hp2
      have heq := ih _ _ hs1 x y x1 y1
      have hr' := hr (ua ++ x) (va ++ y) xr yr (by simp [hua, x1.length]) (by simp [hva, y1.length]) x2 y2
      simp only [List.append_assoc] at hr'
      rw [veqs_app (by rw [x1.length, y1.length])]
      simp only [List.forIn_cons, ne_eq, hc.1, not_false_eq_true, if_true, pureRun_bind2, hp1, hp2, heq, Option.bind_some]
      cases hv : veqs x y with
      | true =>
        simp only [Bool.not_true, Bool.false_eq_true, if_false, pureRun_pure, Option.bind_some, Bool.true_and]
        exact hr'
      | false => simp [pureRun_pure]
theorem eq_ty {P : Program} : ∀ (n t : Nat) (s : List Sh), eqTy P n t = some s → ∀ (d : Nat), n ≤ d → ∀ us vs : List Value, VShs s us → VShs s vs → pureRun P (Op.equalIn d t (mkV (isSt P t) us) (mkV (isSt P t) vs)) = some (veqs us vs) := by
  intro n
  induction n with
  | zero => intro t s h; cases h
  | succ n ih =>
    intro t s h d hd us vs hu hv
    obtain ⟨d, rfl⟩ : ∃ d', d = d' + 1 := ⟨d - 1, by omega⟩
    simp only [eqTy] at h
    rw [Op.equalIn]
    split at h
    · rename_i fs hund
      have hst : isSt P t = true := by simp only [isSt, hund]
      cases hh : P.stoodInHeld t with
      | true => rw [hh] at h; cases h
      | false =>
        rw [hh] at h
        simp only [cond_false] at h
        simp only [pureRun_bind2, pure_und hund, Option.bind_some, hst, mkV, cond_true, pureRun_program, hh, Bool.false_eq_true, if_false, ← Array.forIn_toList]
        generalize fs.toList = fl at h
        obtain ⟨rest, hs, hr⟩ := eq_loop (d := d) (fun t s h us vs hu hv => ih t s h d (by omega) us vs hu hv) fl [] s h
        simp only [List.nil_append] at hs
        subst hs
        have := hr [] [] us vs rfl rfl hu hv
        simp only [List.nil_append] at this
        rw [this]
        cases veqs us vs <;> simp [pureRun_pure]
    · rename_i dd hne hund
      split at h
      case h_2 => cases h
      rename_i s1 hs1
      cases h
      have hst : isSt P t = false := by
        unfold isSt
        rw [hund]
        split
        · rename_i fs e; cases e; exact absurd rfl (hne _)
        · rfl
      simp only [pureRun_bind2, pure_und hund, Option.bind_some, hst, mkV, cond_false]
      cases hu with
      | cons h1 h2 => cases h2; cases hv with
        | cons h3 h4 =>
          cases h4
          cases dd <;> simp only [oneTy, Option.some.injEq] at hs1 <;> first | (cases hs1; done) | subst hs1
          · cases h1; cases h3; simp only [List.headD_cons, pureRun_pure, veqs, veq, Bool.and_true]
            rename_i a b
            cases a <;> cases b <;> rfl
          · cases h1; cases h3; simp only [List.headD_cons, if_true, pureRun_pure, veqs, veq, Bool.and_true]; rfl
          · cases h1; cases h3
            rename_i a b
            simp only [List.headD_cons, pureRun_pure, veqs, veq, Bool.and_true]
    · cases h
theorem bytes_self (a : ByteArray) : (a == a) = true := by
  obtain ⟨a⟩ := a
  show (a == a) = true
  exact beq_self_eq_true a
end Go.Am
namespace Go.Am
open Go
def IsSl (el sz : Nat) (d : D) : Prop := d = .nil ∨ ∃ es, d = .sl el sz es ∧ es.length < capX
abbrev dI (n : Int) : D := .leaf (.int .i64 n)
abbrev dB (b : Bool) : D := .leaf (.bool b)
section
variable {E : Env} {HS : FuncId → List D → D → Prop} {Q : Res1 → Prop}
theorem wp_bind {o : TOp} {xs : List SV} {r : Tree} {ρ ds : List D} {d : D} (h : o.eval E ds = some d) (hx : SV.ds (getD ρ) xs = ds) (hr : wp E HS Q r (ρ ++ [d])) : wp E HS Q (.bind o xs r) ρ := by
  simp only [wp, hx, h]; exact hr
theorem wp_call {tg : Tgt} {xs : List SV} {fl : Nat} {r : Tree} {ρ ds azq : List D} {f : FuncId} {d : D} (h : HS f azq d) (hx : SV.ds (getD ρ) xs = ds) (ht : tgtD E tg ds = some (f, azq)) (hf : flatD fl d = true) (hr : wp E HS Q r (ρ ++ [d])) : wp E HS Q (.call tg xs fl r) ρ := by
  simp only [wp, hx, ht]; exact ⟨d, h, hf, hr⟩
theorem sh_len {el sz : Nat} {d : D} (h : IsSl el sz d) : TOp.eval E (.len false) [d] = some (dI d.es.length) := by
  rcases h with rfl | ⟨es, rfl, _⟩ <;> rfl
theorem sh_lt {el sz : Nat} {d : D} (h : IsSl el sz d) : d.es.length < capX := by
  rcases h with rfl | ⟨es, rfl, h⟩
  · show 0 < capX; unfold capX; omega
  · exact h
theorem sh_inr {d : D} {i : Nat} {e : D} (he : d.es[i]? = some e) : TOp.eval E .inr [d, dI (i : Int)] = some (dB true) := by
  rw [ev_inr]
  have : elemD d (dI (i : Int)) = some e := he
  rw [this]; rfl
theorem sh_szD {el sz : Nat} {d : D} {i : Nat} {e : D} (h : IsSl el sz d) (he : d.es[i]? = some e) : d.szD = sz := by
  rcases h with rfl | ⟨es, rfl, _⟩
  · simp [D.es] at he
  · rfl
theorem sh_elemW {el sz : Nat} {d : D} {i : Nat} {cs : List D} (h : IsSl el sz d) (he : d.es[i]? = some (.agg cs)) (hc : cs.length = sz) : TOp.eval E (.elem sz true sz 0) [d, dI (i : Int)] = some (.agg cs) := by
  rw [ev_elem]
  have h1 : elemD d (dI (i : Int)) = some (.agg cs) := he
  have h2 : Nat.ble (0 + sz) sz = true := Nat.ble_eq_true_of_le (by omega)
  have h3 : Nat.beq sz sz = true := Nat.beq_refl _
  have h4 : Nat.beq 0 0 = true := rfl
  simp only [h1, sh_szD h he, h3, h2, h4, cond_true, Bool.and_self, chkD, hc, bif_beq, if_true]
theorem sh_elem1 {el : Nat} {d : D} {i : Nat} {e : D} (h : IsSl el 1 d) (he : d.es[i]? = some e) (ho : e.one = true) : TOp.eval E (.elem 1 false 1 0) [d, dI (i : Int)] = some e := by
  rw [ev_elem]
  have h1 : elemD d (dI (i : Int)) = some e := he
  simp only [h1, sh_szD h he]
  cases e <;> first | rfl | (cases ho; done)
theorem sh_elemP {el sz off : Nat} {d : D} {i : Nat} {cs : List D} {e : D} (h : IsSl el sz d) (he : d.es[i]? = some (.agg cs)) (hc : cs[off]? = some e) (ho : e.one = true) (hoff : off < sz) : TOp.eval E (.elem sz false 1 off) [d, dI (i : Int)] = some e := by
  rw [ev_elem]
  have h1 : elemD d (dI (i : Int)) = some (.agg cs) := he
  have h2 : Nat.ble (off + 1) sz = true := Nat.ble_eq_true_of_le hoff
  have h3 : Nat.beq sz sz = true := Nat.beq_refl _
  simp only [h1, sh_szD h he, h3, cond_false, h2, Bool.and_self, cond_true, Bool.false_and, partD, D.cells, hc, ho]
theorem sh_chkW {cs : List D} {n : Nat} (h : cs.length = n) : TOp.eval E (.chk true n) [.agg cs] = some (.agg cs) := by
  rw [ev_chk]; simp only [chkD, cond_true, h, bif_beq, if_true]
theorem sh_lss {t : TypeId} {x y : Operand} {m n : Int} : TOp.eval E (.bin .lss t x y) [dI m, dI n] = some (dB (decide (m < n))) := rfl
theorem sh_neq {t : TypeId} {x y : Operand} {m n : Int} : TOp.eval E (.bin .neq t x y) [dI m, dI n] = some (dB (m != n)) := rfl
theorem sh_eql {t : TypeId} {x y : Operand} {m n : Int} : TOp.eval E (.bin .eql t x y) [dI m, dI n] = some (dB (m == n)) := rfl
theorem wrap63 {n : Nat} (h : n < capX) : IntKind.i64.wrap (n : Int) = (n : Int) := by
  have h' : n < 9223372036854775808 := h
  have h2 : (n : Int) < 9223372036854775808 := by omega
  have h1 : (n : Int) % 2 ^ 64 = (n : Int) := by omega
  simp only [IntKind.wrap, IntKind.bits, IntKind.signed, h1]
  rw [if_neg]
  simp only [Bool.and_eq_true, decide_eq_true_eq, not_and, ge_iff_le, Int.not_le]
  intro _
  exact h2
theorem sh_add {t : TypeId} {x y : Operand} {n : Nat} (h : n + 1 < capX) : TOp.eval E (.bin .add t x y) [dI (n : Int), dI 1] = some (dI ((n + 1 : Nat) : Int)) := by
  have h0 : TOp.eval E (.bin .add t x y) [dI (n : Int), dI 1] = some (dI (IntKind.i64.wrap ((n : Int) + 1))) := rfl
  rw [h0, show ((n : Int) + 1) = ((n + 1 : Nat) : Int) by omega, wrap63 h]
theorem sh_not {t : TypeId} {b : Bool} : TOp.eval E (.un .not t) [dB b] = some (dB (!b)) := rfl
theorem wp_iteB {i : Nat} {a b : Tree} {ρ : List D} {t : Bool} (h : getD ρ i = dB t) (hw : wp E HS Q (if t then a else b) ρ) : wp E HS Q (.ite (.v i) a b) ρ := by
  simp only [wp, SV.d, h]
  cases t <;> exact hw
theorem wp_iteC {i : Nat} {a b : Tree} {ρ : List D} {t : Bool} (h : getD ρ i = dB t) (ht : t = true → wp E HS Q a ρ) (hf : t = false → wp E HS Q b ρ) : wp E HS Q (.ite (.v i) a b) ρ := by
  simp only [wp, SV.d, h]
  cases t
  · exact hf rfl
  · exact ht rfl
def To (E : Env) (HS : FuncId → List D → D → Prop) (Ts : Nat → Tree) (d : D) (r : Res1) : Prop := match r with
  | .ret d' => d' = d
  | .jump k ds => Goes E HS Ts k ds d
def Round (k : Nat) (next : List D) (p : Bool) (r : Res1) : Prop := match r with
  | .ret d' => d' = dB false ∧ p = false
  | .jump k' ds => k' = k ∧ ds = next ∧ p = true
theorem Goes.step' {Ts : Nat → Tree} {k : Nat} {ρ : List D} {d : D} (h : wp E HS (To E HS Ts d) (Ts k) ρ) : Goes E HS Ts k ρ d := by
  obtain ⟨r, h1, h2⟩ := wp_one _ _ h
  refine Goes.step (h2 _ ?_)
  cases r <;> exact h1
theorem loop_all {Ts : Nat → Tree} {k : Nat} {ρ : Nat → List D} {N : Nat} {P : Nat → Bool} {rest : Bool}
    (step : ∀ i, i < N → wp E HS (Round k (ρ (i + 1)) (P i)) (Ts k) (ρ i))
    (last : wp E HS (To E HS Ts (dB rest)) (Ts k) (ρ N)) :
    ∀ m i, i + m = N → Goes E HS Ts k (ρ i) (dB ((List.range' i m).all P && rest))
  | 0, i, h => by
    have hi : i = N := h
    subst hi
    exact Goes.step' last
  | m + 1, i, h => by
    refine Goes.step' ?_
    obtain ⟨r, h1, h2⟩ := wp_one _ _ (step i (by omega))
    refine h2 _ ?_
    cases r with
    | ret d' =>
      simp only [Round] at h1
      simp only [To]
      rw [h1.1, List.range'_succ, List.all_cons, h1.2]; rfl
    | jump k' ds =>
      simp only [Round] at h1
      simp only [To]
      obtain ⟨rfl, rfl, hp⟩ := h1
      have := loop_all step last m (i + 1) (by omega)
      rw [List.range'_succ, List.all_cons, hp, Bool.true_and]
      exact this
def flatS : Sh → Bool
  | .int _ | .bool | .str => true
  | _ => false
theorem flat_vals : ∀ {ss : List Sh} {cs : List D}, ss.all flatS = true → HasShs ss cs → ∃ vs, cs = vs.map .leaf ∧ VShs ss vs
  | [], cs, _, h => by simp only [HasShs] at h; exact ⟨[], by simp [h], .nil⟩
  | s :: ss, cs, hf, h => by
    simp only [HasShs] at h
    obtain ⟨d, ds, rfl, h1, h2⟩ := h
    simp only [List.all_cons, Bool.and_eq_true] at hf
    obtain ⟨vs, rfl, h3⟩ := flat_vals hf.2 h2
    cases s with
    | int k => simp only [HasSh] at h1; obtain ⟨n, rfl⟩ := h1; exact ⟨_ :: vs, rfl, .cons .int h3⟩
    | bool => simp only [HasSh] at h1; obtain ⟨n, rfl⟩ := h1; exact ⟨_ :: vs, rfl, .cons .bool h3⟩
    | str => simp only [HasSh] at h1; obtain ⟨n, rfl⟩ := h1; exact ⟨_ :: vs, rfl, .cons .str h3⟩
    | st _ => cases hf.1
    | sl _ _ _ => cases hf.1
theorem toVs_leaf : ∀ vs : List Value, D.toVs (vs.map .leaf) = some vs
  | [] => rfl
  | v :: vs => by simp only [List.map_cons, D.toVs, D.toV, toVs_leaf vs]
theorem deqs_leaf : ∀ us vs : List Value, deqs (us.map .leaf) (vs.map .leaf) = veqs us vs
  | [], [] => rfl
  | [], _ :: _ => rfl
  | _ :: _, [] => rfl
  | u :: us, v :: vs => by simp only [List.map_cons, deqs, deq, veqs, deqs_leaf us vs]
theorem vsh_flat : ∀ {ss : List Sh} {vs : List Value}, VShs ss vs → flatV (.agg ⟨vs⟩) = true
  | ss, vs, h => by
    show deepFlat 6 _ = true
    simp only [deepFlat, List.all_eq_true, Bool.and_eq_true]
    intro v hv
    have : ∀ {ss : List Sh} {vs : List Value}, VShs ss vs → ∀ v ∈ vs, oneCell v = true ∧ deepFlat 5 v = true := by
      intro ss vs h
      induction h with
      | nil => intro v hv; cases hv
      | cons h hs ih =>
        intro v hv
        rcases List.mem_cons.1 hv with rfl | hv
        · cases h <;> exact ⟨rfl, rfl⟩
        · exact ih v hv
    exact this h v hv
theorem sh_cmpS (op : BinOp) (hop : op = .neq ∨ op = .eql) {n : Nat} {t : TypeId} {ss : List Sh} (ht : eqTy E.prog n t = some ss) (hst : isSt E.prog t = true) (hn : n ≤ 10000) (hg : E.prog.eqGuardType E.prog.depth t = false) (hf : ss.all flatS = true) {x y : Operand} {azq bs : List D}
    (ha : HasShs ss azq) (hb : HasShs ss bs) : TOp.eval E (.bin op t x y) [.agg azq, .agg bs] = some (dB (match op with | .neq => !(deqs azq bs) | _ => deqs azq bs)) := by
  obtain ⟨us, rfl, hu⟩ := flat_vals hf ha
  obtain ⟨vs, rfl, hv⟩ := flat_vals hf hb
  rw [ev_bin]
  simp only [D.toV, toVs_leaf, Option.map_some, deqs_leaf]
  have heq := eq_ty n t ss ht 10000 hn us vs hu hv
  simp only [hst, mkV, cond_true] at heq
  have hguard : ∀ op, pureRun E.prog (eqGuard op t x y (.agg ⟨us⟩) (.agg ⟨vs⟩)) = some () := by
    intro op
    unfold eqGuard
    cases op <;> simp [pureRun_bind2, pureRun_program, hg, pureRun_pure]
  rcases hop with rfl | rfl
  · have hb : binOp .neq t (.agg ⟨us⟩) (.agg ⟨vs⟩) = (Op.equal t (.agg ⟨us⟩) (.agg ⟨vs⟩) >>= fun r => pure (.bool (!r))) := by unfold binOp; rfl
    have : binA E .neq t x y (.agg ⟨us⟩) (.agg ⟨vs⟩) = some (.bool (!(veqs us vs))) := by
      unfold binA
      simp only [vsh_flat hu, vsh_flat hv, Bool.and_self, cond_true, pureRun_bind2, hguard, Option.bind_some, hb, Op.equal, Op.maxDepth, heq, pureRun_pure]
      rfl
    rw [this]; rfl
  · have hb : binOp .eql t (.agg ⟨us⟩) (.agg ⟨vs⟩) = (Op.equal t (.agg ⟨us⟩) (.agg ⟨vs⟩) >>= fun r => pure (.bool r)) := by unfold binOp; rfl
    have : binA E .eql t x y (.agg ⟨us⟩) (.agg ⟨vs⟩) = some (.bool (veqs us vs)) := by
      unfold binA
      simp only [vsh_flat hu, vsh_flat hv, Bool.and_self, cond_true, pureRun_bind2, hguard, Option.bind_some, hb, Op.equal, Op.maxDepth, heq, pureRun_pure]
      rfl
    rw [this]; rfl
end
end Go.Am
namespace Go.Am
open Go
section
variable {E : Env} {fr fr' : Fr} {t : T Value} {o : Oper} {H H1 H' : AH} {n d i : Nat} {v : Value} {all : Array Oper} {os : List Oper}
theorem kk_op (hx : ExecX E ⟨n, false, t⟩ o H v H1) (hg : o.guard = none) (ho : o.dst = some d) (hn : Nat.ble (d + 1) n = true) (h : OpsX E all false os (i + 1) ⟨n, false, t.put d (some v)⟩ H1 fr' H') : OpsX E all false (o :: os) i ⟨n, false, t⟩ H fr' H' :=
  OpsX.cons (by simp only [wantedA, hg]) hx (by simp only [putA, ho, hn, cond_true]) h
theorem kk_st (hx : ExecX E ⟨n, false, t⟩ o H v H1) (hg : o.guard = none) (ho : o.dst = none) (h : OpsX E all false os (i + 1) ⟨n, false, t⟩ H1 fr' H') : OpsX E all false (o :: os) i ⟨n, false, t⟩ H fr' H' :=
  OpsX.cons (by simp only [wantedA, hg]) hx (by simp only [putA, ho]) h
def itK (H : AH) : Nat → AH
  | 0 => H
  | n + 1 => restoreH (itK H n) (hideH (itK H n) []) []
theorem itK_b (H : AH) : ∀ k, (itK H k).blocks = H.blocks
  | 0 => rfl
  | k + 1 => itK_b H k
theorem itK_n (H : AH) : ∀ k, (itK H k).next = H.next
  | 0 => rfl
  | k + 1 => itK_n H k
theorem itK_l (H : AH) : ∀ k, Nat.min H.low H.next ≤ (itK H k).low
  | 0 => Nat.min_le_left _ _
  | k + 1 => Nat.le_min.2 ⟨itK_l H k, by show _ ≤ (itK H k).next; rw [itK_n]; exact Nat.min_le_right _ _⟩
theorem gK {b k : Nat} {x : Option ABlk} (h : H.blocks.get b = x) : (hideH (itK H k) []).blocks.get b = x := by
  show (itK H k).blocks.get b = x
  rw [itK_b, h]
theorem kk_dr {k : Nat} (hx : aop E ⟨n, false, t⟩ o (hideH (itK H k) []) = some (.val v, hideH (itK H k) [])) (hg : o.guard = none) (ho : o.dst = some d) (hn : Nat.ble (d + 1) n = true) (h : OpsX E all true os (i + 1) ⟨n, false, t.put d (some v)⟩ (itK H (k + 1)) fr' H') : OpsX E all true (o :: os) i ⟨n, false, t⟩ (itK H k) fr' H' :=
  OpsX.consD (by simp only [wantedA, hg]) (.of_val (Nat.le_refl _) hx) (.inl (Nat.le_refl _)) (by simp only [putA, ho, hn, cond_true]) h
theorem kof_write {b : Nat} {k : ABlk} {x : AObj} (h : aop E fr o H = some (.skip, H.write b k x)) : ExecX E fr o H (.tuple #[]) (H.write b k x) := .of_skip (Nat.le_refl _) h
structure ElT (E : Env) (t el sz : Nat) (z : List Value) : Prop where
  ts : isSlice E t = some el
  te : ∃ e, E.types.get el = some e ∧ e.size = sz ∧ e.zero = some z
theorem ax_idx {ty : TypeId} {x j : Operand} {el sz b p l c k : Nat} {z : List Value} (ht : ElT E ty el sz z) (ho : o.op = .indexAddr ty x j) (hx : ev E fr x = some (.slice (some ⟨b, p, none⟩) l c)) (hj : ev E fr j = some (goInt k)) (hk : k < l) :
    aop E fr o H = some (.val (.pointer (some ⟨b, p + k * sz, none⟩)), H) := by
  obtain ⟨sz0, bt0, z0, ag0, h1⟩ := isSlice_inv ht.ts
  obtain ⟨e, h2, rfl, _⟩ := ht.te
  have hle : Nat.ble (k + 1) l = true := Nat.ble_eq_true_of_le hk
  have hn : nat? (goInt k) = some k := rfl
  unfold aop; rw [ho]
  simp only [hx, hj, Option.bind_some, hn, indexA, h1, h2, hle, cond_true, one, Option.map_some, addrAdd]
  rfl
theorem ax_ldA {ty : TypeId} {x : Operand} {ti : TI} {b p rt el : Nat} {own : Bool} {cs vs : List Value} (ht : E.types.get ty = some ti) (ha : ti.agg = true) (ho : o.op = .load ty x) (hv : ev E fr x = some (.pointer (some ⟨b, p, none⟩)))
    (hb : H.blocks.get b = some ⟨.cells cs el, rt, own⟩) (hc : take? (cs.drop p) ti.size = some vs) : aop E fr o H = some (.val (.agg ⟨vs⟩), H) := by
  unfold aop; rw [ho]
  simp only [hv, loadA, ht, ha, cond_true, AH.loads, hb, hc, Option.map_some, one]
theorem ax_stA {ty : TypeId} {a x : Operand} {ti : TI} {b p rt el : Nat} {cs cs' vs : List Value} (ht : E.types.get ty = some ti) (hs : vs.length = ti.size) (ho : o.op = .store ty a x) (ha : ev E fr a = some (.pointer (some ⟨b, p, none⟩))) (hv : ev E fr x = some (.agg ⟨vs⟩))
    (hb : H.blocks.get b = some ⟨.cells cs el, rt, true⟩) (hc : splice cs p vs = some cs') : aop E fr o H = some (.skip, H.write b ⟨.cells cs el, rt, true⟩ (.cells cs' el)) := by
  have hsz : Nat.beq vs.length ti.size = true := by rw [hs]; exact Nat.beq_refl _
  unfold aop; rw [ho]
  simp only [ha, hv, storeA, ht, Value.cells, hsz, cond_true, AH.stores, hb, hc, Option.map_some]
theorem ax_slLo {ty : TypeId} {x l : Operand} {el sz b p n k rt : Nat} {z cs : List Value} {own : Bool} (ht : ElT E ty el sz z) (ho : o.op = .slice ty x (some l) none none) (hx : ev E fr x = some (.slice (some ⟨b, p, none⟩) n capX)) (hl : ev E fr l = some (goInt k)) (hk : k ≤ n)
    (hb : H.blocks.get b = some ⟨.cells cs el, rt, own⟩) : aop E fr o H = some (.val (.slice (some ⟨b, p + k * sz, none⟩) (n - k) capX), H) := by
  obtain ⟨sz0, bt0, z0, ag0, h1⟩ := isSlice_inv ht.ts
  obtain ⟨e, h2, rfl, _⟩ := ht.te
  have hle : Nat.ble k n = true := Nat.ble_eq_true_of_le hk
  have hn : nat? (goInt k) = some k := rfl
  have h3 : Nat.ble capX capX = true := Nat.ble_eq_true_of_le (Nat.le_refl _)
  have h4 : Nat.beq el el = true := Nat.beq_refl _
  have h5 : Nat.ble n n = true := Nat.ble_eq_true_of_le (Nat.le_refl _)
  unfold aop; rw [ho]
  simp only [hx, Option.toList, evs, hl, Option.map_some, List.head?_cons, List.head?_nil, sliceA, h1, boundA, hn, h2, hle, h3, h4, h5, hb, cond_true, Bool.true_or, Bool.and_self, one]
  rfl
theorem ax_slHi {ty : TypeId} {x l : Operand} {el sz b n k rt : Nat} {z cs : List Value} {own : Bool} (ht : ElT E ty el sz z) (ho : o.op = .slice ty x none (some l) none) (hx : ev E fr x = some (.slice (some ⟨b, 0, none⟩) n capX)) (hl : ev E fr l = some (goInt k)) (hk : k ≤ n)
    (hb : H.blocks.get b = some ⟨.cells cs el, rt, own⟩) : aop E fr o H = some (.val (.slice (some ⟨b, 0, none⟩) k capX), H) := by
  obtain ⟨sz0, bt0, z0, ag0, h1⟩ := isSlice_inv ht.ts
  obtain ⟨e, h2, rfl, _⟩ := ht.te
  have hle : Nat.ble k n = true := Nat.ble_eq_true_of_le hk
  have hn : nat? (goInt k) = some k := rfl
  have h3 : Nat.ble capX capX = true := Nat.ble_eq_true_of_le (Nat.le_refl _)
  have h4 : Nat.beq el el = true := Nat.beq_refl _
  have h5 : Nat.ble 0 k = true := Nat.ble_eq_true_of_le (Nat.zero_le _)
  have h6 : Nat.add 0 (Nat.mul 0 e.size) = 0 := by show 0 + 0 * e.size = 0; omega
  unfold aop; rw [ho]
  simp only [hx, Option.toList, evs, hl, Option.map_some, List.head?_cons, List.head?_nil, sliceA, h1, boundA, hn, h2, hle, h3, h4, h5, h6, hb, cond_true, Bool.true_or, Bool.and_self, one]
  rfl
theorem ax_clr0 {c : Call} {ty : TypeId} {ts : List TypeId} {el sz : Nat} {z : List Value} {a : Option Addr} {cp : Nat} (ht : ElT E ty el sz z) (ho : o.op = .call c) (hc : c.callee = .builtin .clear) (hts : c.argTypes.toList = ty :: ts) (ha : evs E fr c.args.toList = some [.slice a 0 cp]) :
    aop E fr o H = some (.val (.tuple #[]), H) := by
  obtain ⟨sz0, bt0, z0, ag0, h1⟩ := isSlice_inv ht.ts
  obtain ⟨⟨_, _, _, _, _⟩, h2, rfl, h3⟩ := ht.te
  simp only at h3
  subst h3
  have h4 : Nat.beq 0 0 = true := rfl
  unfold aop; rw [ho]
  simp only [callA, ha, hc, hts, builtinA, clearB, h1, h2, h4, cond_true]
theorem ax_clr {c : Call} {ty : TypeId} {ts : List TypeId} {el sz b p n rt : Nat} {z cs cs' : List Value} {cp : Nat} (ht : ElT E ty el sz z) (ho : o.op = .call c) (hc : c.callee = .builtin .clear) (hts : c.argTypes.toList = ty :: ts) (ha : evs E fr c.args.toList = some [.slice (some ⟨b, p, none⟩) n cp]) (hn : n ≠ 0)
    (hb : H.blocks.get b = some ⟨.cells cs el, rt, true⟩) (hs : splice cs p (reps z n) = some cs') : aop E fr o H = some (.val (.tuple #[]), H.write b ⟨.cells cs el, rt, true⟩ (.cells cs' el)) := by
  obtain ⟨sz0, bt0, z0, ag0, h1⟩ := isSlice_inv ht.ts
  obtain ⟨⟨_, _, _, _, _⟩, h2, rfl, h3⟩ := ht.te
  simp only at h3
  subst h3
  have h4 : Nat.beq n 0 = false := by
    cases e : Nat.beq n 0 with
    | false => rfl
    | true => exact absurd (Nat.eq_of_beq_eq_true e) hn
  unfold aop; rw [ho]
  simp only [callA, ha, hc, hts, builtinA, clearB, h1, h2, h4, cond_false, AH.stores, hb, hs, Option.map_some]
theorem ax_sln {c : Call} {ty : TypeId} {ts : List TypeId} {el n cp : Nat} {a : Option Addr} (ht : isSlice E ty = some el) (ho : o.op = .call c) (hc : c.callee = .builtin .len) (hts : c.argTypes.toList = ty :: ts) (ha : evs E fr c.args.toList = some [.slice a n cp]) :
    aop E fr o H = some (.val (goInt n), H) := by
  obtain ⟨sz0, bt0, z0, ag0, h1⟩ := isSlice_inv ht
  exact ax_len ho hc hts ha (by simp only [lenB, h1])
theorem ax_scp {c : Call} {ty : TypeId} {ts : List TypeId} {el n cp : Nat} {a : Option Addr} (ht : isSlice E ty = some el) (ho : o.op = .call c) (hc : c.callee = .builtin .cap) (hts : c.argTypes.toList = ty :: ts) (ha : evs E fr c.args.toList = some [.slice a n cp]) (hcp : cp < capX) :
    aop E fr o H = some (.val (goInt cp), H) := by
  obtain ⟨sz0, bt0, z0, ag0, h1⟩ := isSlice_inv ht
  have h2 : Nat.ble capX cp = false := by
    cases e : Nat.ble capX cp with
    | false => rfl
    | true => exact absurd (Nat.le_of_ble_eq_true e) (by omega)
  unfold aop; rw [ho]
  simp only [callA, ha, hc, hts, builtinA, capB, h1, h2, cond_false, one, Option.map_some]
theorem leafD_inv {x : Option Value} {v : Value} (h : leafD x = some (.leaf v)) : x = some v := by
  cases x with
  | none => cases h
  | some w =>
    unfold leafD at h
    obtain ⟨_, h⟩ := bif_none h
    cases h
    rfl
theorem ax_ge {d : Nat} {v w : Value} {k : Nat} (hd : d ≠ k) (h : ev E ⟨n, false, t⟩ (.tmp k) = some w) : ev E ⟨n, false, t.put d (some v)⟩ (.tmp k) = some w := by
  have h' : t.get k = some w := h
  show (t.put d (some v)).get k = some w
  rw [T.get_put, if_neg (fun e => hd e.symm), h']
theorem ax_gs {d : Nat} {v : Value} : ev E ⟨n, false, t.put d (some v)⟩ (.tmp d) = some v := by
  show (t.put d (some v)).get d = some v
  rw [T.get_put, if_pos rfl]
theorem evs1 {x : Operand} {w : Value} (h : ev E fr x = some w) : evs E fr [x] = some [w] := by simp only [evs, h, Option.map_some]
theorem bi_ltT {ty : TypeId} {x y : Operand} {a b : Nat} (h : a < b) : binA E .lss ty x y (goInt a) (goInt b) = some (.bool true) := by
  have : binA E .lss ty x y (goInt a) (goInt b) = some (.bool (decide ((a : Int) < (b : Int)))) := rfl
  rw [this, decide_eq_true (by omega)]
theorem bi_ltF {ty : TypeId} {x y : Operand} {a b : Nat} (h : b ≤ a) : binA E .lss ty x y (goInt a) (goInt b) = some (.bool false) := by
  have : binA E .lss ty x y (goInt a) (goInt b) = some (.bool (decide ((a : Int) < (b : Int)))) := rfl
  rw [this, decide_eq_false (by omega)]
theorem bi_gtT {ty : TypeId} {x y : Operand} {a b : Nat} (h : b < a) : binA E .gtr ty x y (goInt a) (goInt b) = some (.bool true) := by
  have : binA E .gtr ty x y (goInt a) (goInt b) = some (.bool (decide ((a : Int) > (b : Int)))) := rfl
  rw [this, decide_eq_true (by omega)]
theorem bi_gtF {ty : TypeId} {x y : Operand} {a b : Nat} (h : a ≤ b) : binA E .gtr ty x y (goInt a) (goInt b) = some (.bool false) := by
  have : binA E .gtr ty x y (goInt a) (goInt b) = some (.bool (decide ((a : Int) > (b : Int)))) := rfl
  rw [this, decide_eq_false (by omega)]
theorem bi_add {ty : TypeId} {x y : Operand} {a : Nat} (h : a + 1 < capX) : binA E .add ty x y (goInt a) (goInt 1) = some (goInt ((a + 1 : Nat) : Int)) := by
  have : binA E .add ty x y (goInt a) (goInt 1) = some (goInt (IntKind.i64.wrap ((a : Int) + 1))) := rfl
  rw [this, show ((a : Int) + 1) = ((a + 1 : Nat) : Int) by omega, wrap63 h]
theorem bi_sub {ty : TypeId} {x y : Operand} {a b : Nat} (h : b ≤ a) (ha : a < capX) : binA E .sub ty x y (goInt a) (goInt b) = some (goInt ((a - b : Nat) : Int)) := by
  have : binA E .sub ty x y (goInt a) (goInt b) = some (goInt (IntKind.i64.wrap ((a : Int) - b))) := rfl
  rw [this, show ((a : Int) - b) = ((a - b : Nat) : Int) by omega, wrap63 (by omega)]
end
def cs_l : Code → Code
  | .seq a _ => a
  | c => c
def cs_r : Code → Code
  | .seq _ b => b
  | c => c
def cs_b : Code → Code
  | .block _ b => b
  | .loop b => b
  | c => c
def cs_t : Code → Code
  | .cond _ a _ => a
  | c => c
end Go.Am
namespace Go.Am
open Go
theorem isSl_of {el sz : Nat} {e : Sh} {d : D} (h : HasSh (.sl el sz e) d) : IsSl el sz d := by
  simp only [HasSh] at h
  rcases h with h | ⟨es, h, h2, _⟩
  · exact .inl h
  · exact .inr ⟨es, h, h2⟩
theorem elem_of {el sz : Nat} {e : Sh} {d x : D} {i : Nat} (h : HasSh (.sl el sz e) d) (hx : d.es[i]? = some x) : HasSh e x := by
  simp only [HasSh] at h
  rcases h with rfl | ⟨es, rfl, _, h⟩
  · simp [D.es] at hx
  · exact h x (List.mem_of_getElem? hx)
theorem IsSl.one {el sz : Nat} {d : D} (h : IsSl el sz d) : d.one = true := by
  rcases h with rfl | ⟨es, rfl, _⟩ <;> rfl
theorem deq_es {el sz el' sz' : Nat} {a b : D} (ha : IsSl el sz a) (hb : IsSl el' sz' b) : deq a b = deqs a.es b.es := by
  rcases ha with rfl | ⟨azq, rfl, _⟩ <;> rcases hb with rfl | ⟨bs, rfl, _⟩
  · rfl
  · simp only [deq, D.es]
    cases bs <;> rfl
  · simp only [deq, D.es]
    cases azq <;> rfl
  · simp only [deq, D.es]
theorem deqs_len : ∀ {azq bs : List D}, azq.length ≠ bs.length → deqs azq bs = false
  | [], [], h => absurd rfl h
  | [], _ :: _, _ => rfl
  | _ :: _, [], _ => rfl
  | a :: azq, b :: bs, h => by
    simp only [deqs, deqs_len (show azq.length ≠ bs.length by simpa using h), Bool.and_false]
theorem deqs_all : ∀ (azq bs pa pb : List D), pa.length = pb.length → azq.length = bs.length → deqs azq bs = (List.range' pa.length azq.length).all fun i => deq ((pa ++ azq).getD i .nil) ((pb ++ bs).getD i .nil)
  | [], [], pa, pb, _, _ => by simp [deqs]
  | [], _ :: _, _, _, _, h => by simp at h
  | _ :: _, [], _, _, _, h => by simp at h
  | a :: azq, b :: bs, pa, pb, h1, h2 => by
    have ih := deqs_all azq bs (pa ++ [a]) (pb ++ [b]) (by simp [h1]) (by simpa using h2)
    simp only [List.append_assoc, List.cons_append, List.nil_append, List.length_append, List.length_cons, List.length_nil, Nat.zero_add] at ih
    simp only [deqs, List.length_cons, List.range'_succ, List.all_cons, ih]
    congr 1
    have e1 : (pa ++ a :: azq).getD pa.length D.nil = a := by simp
    have e2 : (pb ++ b :: bs).getD pa.length D.nil = b := by rw [h1]; simp
    rw [e1, e2]
section
variable {E : Env} {HS : FuncId → List D → D → Prop}
theorem loop_eq {Ts : Nat → Tree} {k : Nat} {ρ : Nat → List D} {el sz el' sz' : Nat} {a b : D} {rest : Bool} (ha : IsSl el sz a) (hb : IsSl el' sz' b) (hl : a.es.length = b.es.length)
    (step : ∀ i x y, a.es[i]? = some x → b.es[i]? = some y → i < a.es.length → i + 1 < capX → wp E HS (Round k (ρ (i + 1)) (deq x y)) (Ts k) (ρ i))
    (last : wp E HS (To E HS Ts (dB rest)) (Ts k) (ρ a.es.length)) : Goes E HS Ts k (ρ 0) (dB (deq a b && rest)) := by
  rw [deq_es ha hb]
  have hall := deqs_all a.es b.es [] [] rfl hl
  simp only [List.nil_append, List.length_nil] at hall
  rw [hall]
  refine loop_all (P := fun i => deq (a.es.getD i .nil) (b.es.getD i .nil)) ?_ last a.es.length 0 (Nat.zero_add _)
  intro i hi
  have h1 : a.es[i]? = some a.es[i] := List.getElem?_eq_getElem hi
  have h2 : b.es[i]? = some (b.es[i]'(by omega)) := List.getElem?_eq_getElem (by omega)
  have hs := step i _ _ h1 h2 hi (by have := sh_lt ha; omega)
  have e1 : a.es.getD i .nil = a.es[i] := by simp [h1]
  have e2 : b.es.getD i .nil = b.es[i]'(by omega) := by simp [h2]
  simp only [e1, e2]
  exact hs
theorem loop_eq2 {Ts : Nat → Tree} {k : Nat} {ρ : Nat → List D} {el sz el' sz' : Nat} {a b : D} {r : Bool} (ha : IsSl el sz a) (hb : IsSl el' sz' b) (hl : a.es.length = b.es.length) (hf : deq a b = false → r = false)
    (step : ∀ i x y, a.es[i]? = some x → b.es[i]? = some y → i < a.es.length → i + 1 < capX → wp E HS (Round k (ρ (i + 1)) (deq x y)) (Ts k) (ρ i))
    (last : deq a b = true → wp E HS (To E HS Ts (dB r)) (Ts k) (ρ a.es.length)) : Goes E HS Ts k (ρ 0) (dB r) := by
  cases h : deq a b with
  | true =>
    have := loop_eq (rest := r) ha hb hl step (last h)
    rw [h, Bool.true_and] at this
    exact this
  | false =>
    rw [hf h]
    have hall := deqs_all a.es b.es [] [] rfl hl
    simp only [List.nil_append, List.length_nil] at hall
    rw [deq_es ha hb, hall] at h
    have st : ∀ i, i < a.es.length → wp E HS (Round k (ρ (i + 1)) (deq (a.es.getD i .nil) (b.es.getD i .nil))) (Ts k) (ρ i) := by
      intro i hi
      have h1 : a.es[i]? = some a.es[i] := List.getElem?_eq_getElem hi
      have h2 : b.es[i]? = some (b.es[i]'(by omega)) := List.getElem?_eq_getElem (by omega)
      have hs := step i _ _ h1 h2 hi (by have := sh_lt ha; omega)
      have e1 : a.es.getD i .nil = a.es[i] := by simp [h1]
      have e2 : b.es.getD i .nil = b.es[i]'(by omega) := by simp [h2]
      rw [e1, e2]
      exact hs
    have go : ∀ m i, i + m = a.es.length → ((List.range' i m).all fun i => deq (a.es.getD i .nil) (b.es.getD i .nil)) = false → Goes E HS Ts k (ρ i) (dB false) := by
      intro m
      induction m with
      | zero => intro i _ h; simp at h
      | succ m ih =>
        intro i hi h
        refine Goes.step' ?_
        obtain ⟨q, h1, h2⟩ := wp_one _ _ (st i (by omega))
        refine h2 _ ?_
        cases q with
        | ret d' => exact h1.1
        | jump k' ds =>
          obtain ⟨rfl, rfl, hp⟩ := h1
          rw [List.range'_succ, List.all_cons, hp, Bool.true_and] at h
          exact ih (i + 1) (by omega) h
    exact go _ 0 (Nat.zero_add _) h
theorem deq_len {el sz el' sz' : Nat} {a b : D} (ha : IsSl el sz a) (hb : IsSl el' sz' b) (h : a.es.length ≠ b.es.length) : deq a b = false := by
  rw [deq_es ha hb, deqs_len h]
theorem len_neq {m n : Nat} : ((m : Int) != (n : Int)) = !decide (m = n) := by
  by_cases h : m = n
  · subst h; simp
  · have : ¬ ((m : Int) = (n : Int)) := by omega
    simp [h, this]
theorem len_of {m n : Nat} (h : ((m : Int) != (n : Int)) = false) : m = n := by
  rw [len_neq] at h; simpa using h
theorem len_ne {m n : Nat} (h : ((m : Int) != (n : Int)) = true) : m ≠ n := by
  rw [len_neq] at h; simpa using h
theorem lt_true {m n : Nat} (h : m < n) : decide ((m : Int) < (n : Int)) = true := decide_eq_true (by omega)
theorem lt_false {n : Nat} : decide ((n : Int) < (n : Int)) = false := decide_eq_false (by omega)
theorem sh_fld1 {off : Nat} {cs : List D} {e : D} (hc : cs[off]? = some e) (ho : e.one = true) : TOp.eval E (.fld false 1 off) [.agg cs] = some e := by
  rw [ev_fld]
  simp only [partD, cond_false, D.cells, hc, ho, cond_true]
theorem sh_chk1 {e : D} (ho : e.one = true) : TOp.eval E (.chk false 1) [e] = some e := by
  rw [ev_chk]
  have h : Nat.beq 1 1 = true := rfl
  simp only [chkD, cond_false, ho, h, Bool.and_self, cond_true]
theorem sh_fldA {off size : Nat} {cs : List D} (h : Nat.ble (off + size) cs.length = true) : TOp.eval E (.fld true size off) [.agg cs] = some (.agg ((cs.drop off).take size)) := by
  rw [ev_fld]
  simp only [partD, cond_true, D.cells, h]
theorem ite_t {a b : Tree} {Q : Res1 → Prop} {ρ : List D} (h : wp E HS Q a ρ) : wp E HS Q (if true = true then a else b) ρ := h
theorem ite_f {a b : Tree} {Q : Res1 → Prop} {ρ : List D} (h : wp E HS Q b ρ) : wp E HS Q (if false = true then a else b) ρ := h
theorem sh_int {k : IntKind} {n : Int} : HasSh (.int k) (.leaf (.int k n)) := ⟨n, rfl⟩
theorem sh_st {fs : List Sh} {cs : List D} (h : HasShs fs cs) : HasSh (.st fs) (.agg cs) := ⟨cs, rfl, h⟩
theorem shs_nil : HasShs [] [] := rfl
theorem shs_cons {s : Sh} {ss : List Sh} {d : D} {ds : List D} (h : HasSh s d) (hs : HasShs ss ds) : HasShs (s :: ss) (d :: ds) := ⟨d, ds, rfl, h, hs⟩
end
end Go.Am
namespace Go.Am
open Go
theorem deq_leaf (a b : Value) : deq (.leaf a) (.leaf b) = veq a b := by simp only [deq]
theorem deq_agg (a b : List D) : deq (.agg a) (.agg b) = deqs a b := by simp only [deq]
theorem deqs_nil : deqs [] [] = true := by simp only [deqs]
theorem deqs_cons (a b : D) (azq bs : List D) : deqs (a :: azq) (b :: bs) = (deq a b && deqs azq bs) := by simp only [deqs]
theorem veq_int (k l : IntKind) (a b : Int) : veq (.int k a) (.int l b) = decide (a = b) := rfl
theorem veq_bool (a b : Bool) : veq (.bool a) (.bool b) = decide (a = b) := rfl
theorem veq_str (a b : ByteArray) : veq (.string a) (.string b) = (a == b) := rfl
section
variable {E : Env} {HS : FuncId → List D → D → Prop} {Q : Res1 → Prop}
theorem wp_retTo {Ts : Nat → Tree} {xs : List SV} {ρ : List D} {d d' : D} (hx : SV.ds (getD ρ) xs = [d']) (h : d' = d) : wp E HS (To E HS Ts d) (.ret xs) ρ := by
  simp only [wp, hx, To, retD]; exact h
theorem wp_jumpTo {Ts : Nat → Tree} {k : Nat} {xs : List SV} {ρ ds : List D} {d : D} (hx : SV.ds (getD ρ) xs = ds) (h : Goes E HS Ts k ds d) : wp E HS (To E HS Ts d) (.jump k xs) ρ := by
  simp only [wp, hx, To]; exact h
theorem wp_retR {k : Nat} {ds : List D} {xs : List SV} {ρ : List D} {p : Bool} (hx : SV.ds (getD ρ) xs = [dB false]) (h : p = false) : wp E HS (Round k ds p) (.ret xs) ρ := by
  simp only [wp, hx, Round, retD]; exact ⟨trivial, h⟩
theorem wp_jumpR {k : Nat} {ds : List D} {xs : List SV} {ρ : List D} {p : Bool} (hx : SV.ds (getD ρ) xs = ds) (h : p = true) : wp E HS (Round k ds p) (.jump k xs) ρ := by
  simp only [wp, hx, Round]; exact ⟨trivial, trivial, h⟩
theorem sh_elemA {el sz size off : Nat} {d : D} {i : Nat} {cs : List D} (h : IsSl el sz d) (he : d.es[i]? = some (.agg cs)) (hc : cs.length = sz) (ho : off + size ≤ sz) (hn : ¬ (off = 0 ∧ size = sz)) :
    TOp.eval E (.elem sz true size off) [d, dI (i : Int)] = some (.agg ((cs.drop off).take size)) := by
  rw [ev_elem]
  have h1 : elemD d (dI (i : Int)) = some (.agg cs) := he
  have h2 : Nat.ble (off + size) sz = true := Nat.ble_eq_true_of_le ho
  have h5 : Nat.ble (off + size) cs.length = true := by rw [hc]; exact h2
  have h3 : Nat.beq sz sz = true := Nat.beq_refl _
  have h4 : (Nat.beq off 0 && Nat.beq size sz) = false := by
    cases h : (Nat.beq off 0 && Nat.beq size sz) with
    | false => rfl
    | true =>
      simp only [Bool.and_eq_true] at h
      exact absurd ⟨Nat.eq_of_beq_eq_true h.1, Nat.eq_of_beq_eq_true h.2⟩ hn
  simp only [h1, sh_szD h he, h3, h2, h4, h5, cond_true, cond_false, Bool.and_self, Bool.true_and, Bool.and_true, partD, D.cells]
theorem wp_bindE {ρ' : List D} {o : TOp} {xs : List SV} {r : Tree} {ρ ds : List D} {d : D} (h : o.eval E ds = some d) (hx : SV.ds (getD ρ) xs = ds) (hρ : ρ ++ [d] = ρ') (hr : wp E HS Q r ρ') : wp E HS Q (.bind o xs r) ρ :=
  wp_bind h hx (hρ ▸ hr)
theorem wp_callE {ρ' : List D} {tg : Tgt} {xs : List SV} {fl : Nat} {r : Tree} {ρ ds azq : List D} {f : FuncId} {d : D} (h : HS f azq d) (hx : SV.ds (getD ρ) xs = ds) (ht : tgtD E tg ds = some (f, azq)) (hf : flatD fl d = true) (hρ : ρ ++ [d] = ρ') (hr : wp E HS Q r ρ') : wp E HS Q (.call tg xs fl r) ρ :=
  wp_call h hx ht hf (hρ ▸ hr)
theorem db_congr {a b : Bool} (h : a = b) : dB a = dB b := by rw [h]
end
theorem le4 : 4 ≤ 10000 := by omega
end Go.Am
