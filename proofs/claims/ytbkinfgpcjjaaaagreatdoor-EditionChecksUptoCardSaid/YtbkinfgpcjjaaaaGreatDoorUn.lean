/- Shapes of data, and their equality. Conditions: none. -/
import Derived.Test.YtbkinfgpcjjaaaaGreatDoorSx4
set_option linter.all false
namespace Go.Am
open Go
inductive Sh where
  | int (k : IntKind)
  | bool
  | str
  | st (fs : List Sh)
  | sl (el sz : Nat) (e : Sh)
mutual
def HasSh : Sh → D → Prop
  | .int k, d => ∃ n, d = .leaf (.int k n)
  | .bool, d => ∃ b, d = .leaf (.bool b)
  | .str, d => ∃ s, d = .leaf (.string s)
  | .st fs, d => ∃ cs, d = .agg cs ∧ HasShs fs cs
  | .sl el sz e, d => d = .nil ∨ ∃ es, d = .sl el sz es ∧ es.length < capX ∧ ∀ x ∈ es, HasSh e x
def HasShs : List Sh → List D → Prop
  | [], l => l = []
  | s :: ss, l => ∃ d ds, l = d :: ds ∧ HasSh s d ∧ HasShs ss ds
end
def veq : Value → Value → Bool
  | .int _ a, .int _ b => decide (a = b)
  | .bool a, .bool b => decide (a = b)
  | .string a, .string b => a == b
  | _, _ => false
mutual
def deq : D → D → Bool
  | .leaf a, .leaf b => veq a b
  | .agg as, .agg bs => deqs as bs
  | .nil, b => match b with
    | .nil => true
    | .sl _ _ bs => bs.isEmpty
    | _ => false
  | .sl _ _ as, b => match b with
    | .nil => as.isEmpty
    | .sl _ _ bs => deqs as bs
    | _ => false
  | _, _ => false
def deqs : List D → List D → Bool
  | [], [] => true
  | a :: as, b :: bs => deq a b && deqs as bs
  | _, _ => false
end
theorem pureRun_bind2 {α β : Type} (P : Program) (x : Sem α) (f : α → Sem β) : pureRun P (x >>= f) = (pureRun P x).bind fun a => pureRun P (f a) := by
  show pureRun P (x.bind f) = _
  induction x with
  | pure a => rfl
  | program k ih => exact ih P
  | mark m k ih => exact ih
  | _ => rfl
theorem pureRun_program (P : Program) : pureRun P program = some P := rfl
theorem pureRun_pure {α : Type} (P : Program) (a : α) : pureRun P (pure a) = some a := rfl
inductive VSh : Sh → Value → Prop
  | int {k : IntKind} {n : Int} : VSh (.int k) (.int k n)
  | bool {b : Bool} : VSh .bool (.bool b)
  | str {s : ByteArray} : VSh .str (.string s)
def oneTy : TypeDesc → Option Sh
  | .bool => some .bool
  | .int k => some (.int k)
  | .string => some .str
  | _ => none
def eqFs (P : Program) (rec : TypeId → Option (List Sh)) : List Field → List Sh → Option (List Sh)
  | [], acc => some acc
  | f :: r, acc => bif f.name == "_" || !(Nat.beq f.offset acc.length) then none else match rec f.type, P.info? f.type with
    | some s, some i => bif Nat.beq i.size s.length then eqFs P rec r (acc ++ s) else none
    | _, _ => none
def eqTy (P : Program) : Nat → TypeId → Option (List Sh)
  | 0, _ => none
  | n + 1, t => match P.underlying t with
    | some (.struct fs) => bif P.stoodInHeld t then none else eqFs P (eqTy P n) fs.toList []
    | some d => match oneTy d with
      | some s => some [s]
      | none => none
    | none => none
def isSt (P : Program) (t : TypeId) : Bool := match P.underlying t with
  | some (.struct _) => true
  | _ => false
def mkV (st : Bool) (vs : List Value) : Value := bif st then .agg ⟨vs⟩ else vs.headD (.bool false)
def veqs : List Value → List Value → Bool
  | [], [] => true
  | a :: as, b :: bs => veq a b && veqs as bs
  | _, _ => false
inductive VShs : List Sh → List Value → Prop
  | nil : VShs [] []
  | cons {s : Sh} {v : Value} {ss : List Sh} {vs : List Value} (h : VSh s v) (hs : VShs ss vs) : VShs (s :: ss) (v :: vs)
theorem VShs.length : ∀ {ss : List Sh} {vs : List Value}, VShs ss vs → vs.length = ss.length
  | _, _, .nil => rfl
  | _, _, .cons _ h => by simp [VShs.length h]
theorem VShs.split : ∀ {a b : List Sh} {vs : List Value}, VShs (a ++ b) vs → ∃ x y, vs = x ++ y ∧ VShs a x ∧ VShs b y
  | [], _, vs, h => ⟨[], vs, rfl, .nil, h⟩
  | s :: a, b, _, .cons h hs => by
    obtain ⟨x, y, rfl, h1, h2⟩ := VShs.split (a := a) hs
    exact ⟨_ :: x, y, rfl, .cons h h1, h2⟩
theorem veqs_app : ∀ {a b c d : List Value}, a.length = c.length → veqs (a ++ b) (c ++ d) = (veqs a c && veqs b d)
  | [], b, [], d, _ => by simp [veqs]
  | x :: a, b, y :: c, d, h => by
    simp only [List.cons_append, veqs, veqs_app (show a.length = c.length by simpa using h), Bool.and_assoc]
  | [], _, _ :: _, _, h => by simp at h
  | _ :: _, _, [], _, h => by simp at h
theorem pure_und {P : Program} {t : TypeId} {d : TypeDesc} (h : P.underlying t = some d) : pureRun P (underlying t) = some d := by
  unfold underlying
  simp only [pureRun_bind2, pureRun_program, Option.bind_some, h, pureRun_pure]
theorem pure_size {P : Program} {t : TypeId} {i : TypeInfo} (h : P.info? t = some i) : pureRun P (sizeOf t) = some i.size := by
  unfold sizeOf typeInfo
  simp only [pureRun_bind2, pureRun_program, Option.bind_some, h, pureRun_pure]
theorem pure_agg {P : Program} {n : Nat} {t : TypeId} {s : List Sh} (h : eqTy P n t = some s) : pureRun P (isAgg t) = some (isSt P t) ∧ (isSt P t = false → s.length = 1) := by
  cases n with
  | zero => cases h
  | succ n =>
    simp only [eqTy] at h
    unfold isAgg
    cases hu : P.underlying t with
    | none => rw [hu] at h; cases h
    | some d =>
      simp only [pureRun_bind2, pure_und hu, Option.bind_some, isSt, hu]
      rw [hu] at h
      cases d <;> simp only [oneTy] at h <;> first | (cases h; done) | skip
      all_goals first
        | exact ⟨rfl, fun (e : true = false) => Bool.noConfusion e⟩
        | (cases h; exact ⟨rfl, fun _ => rfl⟩)
        | (simp only [Option.some.injEq] at h; subst h; exact ⟨rfl, fun _ => rfl⟩)
theorem pure_part {P : Program} {n : Nat} {t : TypeId} {s : List Sh} {i : TypeInfo} (h : eqTy P n t = some s) (hi : P.info? t = some i) (hs : i.size = s.length) (a x b : List Value) (hx : x.length = s.length) :
    pureRun P (part t ⟨a ++ (x ++ b)⟩ a.length) = some (mkV (isSt P t) x) := by
  obtain ⟨h1, h2⟩ := pure_agg h
  unfold part
  simp only [pureRun_bind2, h1, Option.bind_some]
  cases hst : isSt P t with
  | true =>
    simp only [if_true, pureRun_bind2, pure_size hi, Option.bind_some, pureRun_pure, mkV, cond_true]
    congr 2
    apply Array.ext'
    simp [List.extract_eq_take_drop, hs, ← hx]
  | false =>
    have hl := h2 hst
    rw [hl] at hx
    match x, hx with
    | [v], _ => simp [mkV, pureRun_pure]
theorem eq_loop {P : Program} {n d : Nat} (ih : ∀ t s, eqTy P n t = some s → ∀ us vs : List Value, VShs s us → VShs s vs → pureRun P (Op.equalIn d t (mkV (isSt P t) us) (mkV (isSt P t) vs)) = some (veqs us vs)) :
    ∀ (fl : List Field) (acc s : List Sh), eqFs P (eqTy P n) fl acc = some s → ∃ rest, s = acc ++ rest ∧ ∀ (ua va ru rv : List Value), ua.length = acc.length → va.length = acc.length → VShs rest ru → VShs rest rv →
      pureRun P (forIn fl ((none, ()) : Option Bool × Unit) fun f __s =>
            if f.name ≠ "_" then do
              let __do_lift ← part f.type { toList := ua ++ ru } f.offset
              let __do_lift_1 ← part f.type { toList := va ++ rv } f.offset
              let __do_lift ← Op.equalIn d f.type __do_lift __do_lift_1
              if (!__do_lift) = true then pure (ForInStep.done (some false, ())) else pure (ForInStep.yield (none, ()))
            else pure (ForInStep.yield (none, ()))) = some (if veqs ru rv = true then (none, ()) else (some false, ()))
  | [], acc, s, h => by
    simp only [eqFs, Option.some.injEq] at h
    subst h
    refine ⟨[], by simp, ?_⟩
    intro ua va ru rv _ _ h1 h2
    cases h1; cases h2
    simp [veqs, pureRun_pure]
  | f :: r, acc, s, h => by
    simp only [eqFs] at h
    cases hc : (f.name == "_" || !(Nat.beq f.offset acc.length)) with
    | true => rw [hc] at h; cases h
    | false =>
      rw [hc] at h
      simp only [cond_false] at h
      simp only [Bool.or_eq_false_iff, Bool.not_eq_false', beq_eq_false_iff_ne, ne_eq] at hc
      have hoff := Nat.eq_of_beq_eq_true hc.2
      split at h
      case h_2 => cases h
      rename_i s1 i hs1 hi
      simp only [bif_beq] at h
      split at h
      case isFalse => cases h
      rename_i hsz
      obtain ⟨rest, rfl, hr⟩ := eq_loop ih r (acc ++ s1) s h
      refine ⟨s1 ++ rest, by simp, ?_⟩
      intro ua va ru rv hua hva h1 h2
      obtain ⟨x, xr, rfl, x1, x2⟩ := h1.split
      obtain ⟨y, yr, rfl, y1, y2⟩ := h2.split
      have hp1 := pure_part hs1 hi hsz ua x xr x1.length
      have hp2 := pure_part hs1 hi hsz va y yr y1.length
      rw [hua, ← hoff] at hp1
      rw [hva, ← hoff] at hp2
      have heq := ih _ _ hs1 x y x1 y1
      have hr' := hr (ua ++ x) (va ++ y) xr yr (by simp [hua, x1.length]) (by simp [hva, y1.length]) x2 y2
      simp only [List.append_assoc] at hr'
      rw [veqs_app (by rw [x1.length, y1.length])]
      simp only [List.forIn_cons, ne_eq, hc.1, not_false_eq_true, if_true, pureRun_bind2, hp1, hp2, heq, Option.bind_some]
      cases hv : veqs x y with
      | true =>
        simp only [Bool.not_true, Bool.false_eq_true, if_false, pureRun_pure, Option.bind_some, Bool.true_and]
        exact hr'
      | false => simp [pureRun_pure]
theorem eq_ty {P : Program} : ∀ (n t : Nat) (s : List Sh), eqTy P n t = some s → ∀ (d : Nat), n ≤ d → ∀ us vs : List Value, VShs s us → VShs s vs → pureRun P (Op.equalIn d t (mkV (isSt P t) us) (mkV (isSt P t) vs)) = some (veqs us vs) := by
  intro n
  induction n with
  | zero => intro t s h; cases h
  | succ n ih =>
    intro t s h d hd us vs hu hv
    obtain ⟨d, rfl⟩ : ∃ d', d = d' + 1 := ⟨d - 1, by omega⟩
    simp only [eqTy] at h
    rw [Op.equalIn]
    split at h
    · rename_i fs hund
      have hst : isSt P t = true := by simp only [isSt, hund]
      cases hh : P.stoodInHeld t with
      | true => rw [hh] at h; cases h
      | false =>
        rw [hh] at h
        simp only [cond_false] at h
        simp only [pureRun_bind2, pure_und hund, Option.bind_some, hst, mkV, cond_true, pureRun_program, hh, Bool.false_eq_true, if_false, ← Array.forIn_toList]
        generalize fs.toList = fl at h
        obtain ⟨rest, hs, hr⟩ := eq_loop (d := d) (fun t s h us vs hu hv => ih t s h d (by omega) us vs hu hv) fl [] s h
        simp only [List.nil_append] at hs
        subst hs
        have := hr [] [] us vs rfl rfl hu hv
        simp only [List.nil_append] at this
        rw [this]
        cases veqs us vs <;> simp [pureRun_pure]
    · rename_i dd hne hund
      split at h
      case h_2 => cases h
      rename_i s1 hs1
      cases h
      have hst : isSt P t = false := by
        unfold isSt
        rw [hund]
        split
        · rename_i fs e; cases e; exact absurd rfl (hne _)
        · rfl
      simp only [pureRun_bind2, pure_und hund, Option.bind_some, hst, mkV, cond_false]
      cases hu with
      | cons h1 h2 => cases h2; cases hv with
        | cons h3 h4 =>
          cases h4
          cases dd <;> simp only [oneTy, Option.some.injEq] at hs1 <;> first | (cases hs1; done) | subst hs1
          · cases h1; cases h3; simp only [List.headD_cons, pureRun_pure, veqs, veq, Bool.and_true]
            rename_i a b
            cases a <;> cases b <;> rfl
          · cases h1; cases h3; simp only [List.headD_cons, if_true, pureRun_pure, veqs, veq, Bool.and_true]; rfl
          · cases h1; cases h3
            rename_i a b
            simp only [List.headD_cons, pureRun_pure, veqs, veq, Bool.and_true]
    · cases h
theorem bytes_self (a : ByteArray) : (a == a) = true := by
  obtain ⟨a⟩ := a
  show (a == a) = true
  exact beq_self_eq_true a
theorem bytes_eq {a b : ByteArray} (h : (a == b) = true) : a = b := by
  obtain ⟨a⟩ := a
  obtain ⟨b⟩ := b
  have h : (a == b) = true := h
  rw [eq_of_beq h]
end Go.Am
namespace Go.Am
open Go
def IsSl (el sz : Nat) (d : D) : Prop := d = .nil ∨ ∃ es, d = .sl el sz es ∧ es.length < capX
abbrev dI (n : Int) : D := .leaf (.int .i64 n)
abbrev dB (b : Bool) : D := .leaf (.bool b)
section
variable {E : Env} {HS : FuncId → List D → D → Prop} {Q : Res1 → Prop}
theorem wp_bind {o : TOp} {xs : List SV} {r : Tree} {ρ ds : List D} {d : D} (h : o.eval E ds = some d) (hx : SV.ds (getD ρ) xs = ds) (hr : wp E HS Q r (ρ ++ [d])) : wp E HS Q (.bind o xs r) ρ := by
  simp only [wp, hx, h]; exact hr
theorem wp_call {tg : Tgt} {xs : List SV} {fl : Nat} {r : Tree} {ρ ds as : List D} {f : FuncId} {d : D} (h : HS f as d) (hx : SV.ds (getD ρ) xs = ds) (ht : tgtD E tg ds = some (f, as)) (hf : flatD fl d = true) (hr : wp E HS Q r (ρ ++ [d])) : wp E HS Q (.call tg xs fl r) ρ := by
  simp only [wp, hx, ht]; exact ⟨d, h, hf, hr⟩
theorem sh_len {el sz : Nat} {d : D} (h : IsSl el sz d) : TOp.eval E (.len false) [d] = some (dI d.es.length) := by
  rcases h with rfl | ⟨es, rfl, _⟩ <;> rfl
theorem sh_inr {d : D} {i : Nat} {e : D} (he : d.es[i]? = some e) : TOp.eval E .inr [d, dI (i : Int)] = some (dB true) := by
  rw [ev_inr]
  have : elemD d (dI (i : Int)) = some e := he
  rw [this]; rfl
theorem sh_szD {el sz : Nat} {d : D} {i : Nat} {e : D} (h : IsSl el sz d) (he : d.es[i]? = some e) : d.szD = sz := by
  rcases h with rfl | ⟨es, rfl, _⟩
  · simp [D.es] at he
  · rfl
theorem sh_elemW {el sz : Nat} {d : D} {i : Nat} {cs : List D} (h : IsSl el sz d) (he : d.es[i]? = some (.agg cs)) (hc : cs.length = sz) : TOp.eval E (.elem sz true sz 0) [d, dI (i : Int)] = some (.agg cs) := by
  rw [ev_elem]
  have h1 : elemD d (dI (i : Int)) = some (.agg cs) := he
  have h2 : Nat.ble (0 + sz) sz = true := Nat.ble_eq_true_of_le (by omega)
  have h3 : Nat.beq sz sz = true := Nat.beq_refl _
  have h4 : Nat.beq 0 0 = true := rfl
  simp only [h1, sh_szD h he, h3, h2, h4, cond_true, Bool.and_self, chkD, hc, bif_beq, if_true]
theorem sh_elem1 {el : Nat} {d : D} {i : Nat} {e : D} (h : IsSl el 1 d) (he : d.es[i]? = some e) (ho : e.one = true) : TOp.eval E (.elem 1 false 1 0) [d, dI (i : Int)] = some e := by
  rw [ev_elem]
  have h1 : elemD d (dI (i : Int)) = some e := he
  simp only [h1, sh_szD h he]
  cases e <;> first | rfl | (cases ho; done)
theorem sh_elemP {el sz off : Nat} {d : D} {i : Nat} {cs : List D} {e : D} (h : IsSl el sz d) (he : d.es[i]? = some (.agg cs)) (hc : cs[off]? = some e) (ho : e.one = true) (hoff : off < sz) : TOp.eval E (.elem sz false 1 off) [d, dI (i : Int)] = some e := by
  rw [ev_elem]
  have h1 : elemD d (dI (i : Int)) = some (.agg cs) := he
  have h2 : Nat.ble (off + 1) sz = true := Nat.ble_eq_true_of_le hoff
  have h3 : Nat.beq sz sz = true := Nat.beq_refl _
  simp only [h1, sh_szD h he, h3, cond_false, h2, Bool.and_self, cond_true, Bool.false_and, partD, D.cells, hc, ho]
theorem sh_chkW {cs : List D} {n : Nat} (h : cs.length = n) : TOp.eval E (.chk true n) [.agg cs] = some (.agg cs) := by
  rw [ev_chk]; simp only [chkD, cond_true, h, bif_beq, if_true]
theorem wrap63 {n : Nat} (h : n < capX) : IntKind.i64.wrap (n : Int) = (n : Int) := by
  have h' : n < 9223372036854775808 := h
  have h2 : (n : Int) < 9223372036854775808 := by omega
  have h1 : (n : Int) % 2 ^ 64 = (n : Int) := by omega
  simp only [IntKind.wrap, IntKind.bits, IntKind.signed, h1]
  rw [if_neg]
  simp only [Bool.and_eq_true, decide_eq_true_eq, not_and, ge_iff_le, Int.not_le]
  intro _
  exact h2
theorem sh_add {t : TypeId} {x y : Operand} {n : Nat} (h : n + 1 < capX) : TOp.eval E (.bin .add t x y) [dI (n : Int), dI 1] = some (dI ((n + 1 : Nat) : Int)) := by
  have h0 : TOp.eval E (.bin .add t x y) [dI (n : Int), dI 1] = some (dI (IntKind.i64.wrap ((n : Int) + 1))) := rfl
  rw [h0, show ((n : Int) + 1) = ((n + 1 : Nat) : Int) by omega, wrap63 h]
theorem sh_not {t : TypeId} {b : Bool} : TOp.eval E (.un .not t) [dB b] = some (dB (!b)) := rfl
theorem wp_iteC {i : Nat} {a b : Tree} {ρ : List D} {t : Bool} (h : getD ρ i = dB t) (ht : t = true → wp E HS Q a ρ) (hf : t = false → wp E HS Q b ρ) : wp E HS Q (.ite (.v i) a b) ρ := by
  simp only [wp, SV.d, h]
  cases t
  · exact hf rfl
  · exact ht rfl
def To (E : Env) (HS : FuncId → List D → D → Prop) (Ts : Nat → Tree) (d : D) (r : Res1) : Prop := match r with
  | .ret d' => d' = d
  | .jump k ds => Goes E HS Ts k ds d
theorem Goes.step' {Ts : Nat → Tree} {k : Nat} {ρ : List D} {d : D} (h : wp E HS (To E HS Ts d) (Ts k) ρ) : Goes E HS Ts k ρ d := by
  obtain ⟨r, h1, h2⟩ := wp_one _ _ h
  refine Goes.step (h2 _ ?_)
  cases r <;> exact h1
def flatS : Sh → Bool
  | .int _ | .bool | .str => true
  | _ => false
theorem flat_vals : ∀ {ss : List Sh} {cs : List D}, ss.all flatS = true → HasShs ss cs → ∃ vs, cs = vs.map .leaf ∧ VShs ss vs
  | [], cs, _, h => by simp only [HasShs] at h; exact ⟨[], by simp [h], .nil⟩
  | s :: ss, cs, hf, h => by
    simp only [HasShs] at h
    obtain ⟨d, ds, rfl, h1, h2⟩ := h
    simp only [List.all_cons, Bool.and_eq_true] at hf
    obtain ⟨vs, rfl, h3⟩ := flat_vals hf.2 h2
    cases s with
    | int k => simp only [HasSh] at h1; obtain ⟨n, rfl⟩ := h1; exact ⟨_ :: vs, rfl, .cons .int h3⟩
    | bool => simp only [HasSh] at h1; obtain ⟨n, rfl⟩ := h1; exact ⟨_ :: vs, rfl, .cons .bool h3⟩
    | str => simp only [HasSh] at h1; obtain ⟨n, rfl⟩ := h1; exact ⟨_ :: vs, rfl, .cons .str h3⟩
    | st _ => cases hf.1
    | sl _ _ _ => cases hf.1
theorem toVs_leaf : ∀ vs : List Value, D.toVs (vs.map .leaf) = some vs
  | [] => rfl
  | v :: vs => by simp only [List.map_cons, D.toVs, D.toV, toVs_leaf vs]
theorem deqs_leaf : ∀ us vs : List Value, deqs (us.map .leaf) (vs.map .leaf) = veqs us vs
  | [], [] => rfl
  | [], _ :: _ => rfl
  | _ :: _, [] => rfl
  | u :: us, v :: vs => by simp only [List.map_cons, deqs, deq, veqs, deqs_leaf us vs]
theorem vsh_flat : ∀ {ss : List Sh} {vs : List Value}, VShs ss vs → flatV (.agg ⟨vs⟩) = true
  | ss, vs, h => by
    show deepFlat 6 _ = true
    simp only [deepFlat, List.all_eq_true, Bool.and_eq_true]
    intro v hv
    have : ∀ {ss : List Sh} {vs : List Value}, VShs ss vs → ∀ v ∈ vs, oneCell v = true ∧ deepFlat 5 v = true := by
      intro ss vs h
      induction h with
      | nil => intro v hv; cases hv
      | cons h hs ih =>
        intro v hv
        rcases List.mem_cons.1 hv with rfl | hv
        · cases h <;> exact ⟨rfl, rfl⟩
        · exact ih v hv
    exact this h v hv
theorem sh_cmpS (op : BinOp) (hop : op = .neq ∨ op = .eql) {n : Nat} {t : TypeId} {ss : List Sh} (ht : eqTy E.prog n t = some ss) (hst : isSt E.prog t = true) (hn : n ≤ 10000) (hg : E.prog.eqGuardType E.prog.depth t = false) (hf : ss.all flatS = true) {x y : Operand} {as bs : List D}
    (ha : HasShs ss as) (hb : HasShs ss bs) : TOp.eval E (.bin op t x y) [.agg as, .agg bs] = some (dB (match op with | .neq => !(deqs as bs) | _ => deqs as bs)) := by
  obtain ⟨us, rfl, hu⟩ := flat_vals hf ha
  obtain ⟨vs, rfl, hv⟩ := flat_vals hf hb
  rw [ev_bin]
  simp only [D.toV, toVs_leaf, Option.map_some, deqs_leaf]
  have heq := eq_ty n t ss ht 10000 hn us vs hu hv
  simp only [hst, mkV, cond_true] at heq
  have hguard : ∀ op, pureRun E.prog (eqGuard op t x y (.agg ⟨us⟩) (.agg ⟨vs⟩)) = some () := by
    intro op
    unfold eqGuard
    cases op <;> simp [pureRun_bind2, pureRun_program, hg, pureRun_pure]
  rcases hop with rfl | rfl
  · have hb : binOp .neq t (.agg ⟨us⟩) (.agg ⟨vs⟩) = (Op.equal t (.agg ⟨us⟩) (.agg ⟨vs⟩) >>= fun r => pure (.bool (!r))) := by unfold binOp; rfl
    have : binA E .neq t x y (.agg ⟨us⟩) (.agg ⟨vs⟩) = some (.bool (!(veqs us vs))) := by
      unfold binA
      simp only [vsh_flat hu, vsh_flat hv, Bool.and_self, cond_true, pureRun_bind2, hguard, Option.bind_some, hb, Op.equal, Op.maxDepth, heq, pureRun_pure]
      rfl
    rw [this]; rfl
  · have hb : binOp .eql t (.agg ⟨us⟩) (.agg ⟨vs⟩) = (Op.equal t (.agg ⟨us⟩) (.agg ⟨vs⟩) >>= fun r => pure (.bool r)) := by unfold binOp; rfl
    have : binA E .eql t x y (.agg ⟨us⟩) (.agg ⟨vs⟩) = some (.bool (veqs us vs)) := by
      unfold binA
      simp only [vsh_flat hu, vsh_flat hv, Bool.and_self, cond_true, pureRun_bind2, hguard, Option.bind_some, hb, Op.equal, Op.maxDepth, heq, pureRun_pure]
      rfl
    rw [this]; rfl
end
end Go.Am
namespace Go.Am
open Go
theorem IsSl.one {el sz : Nat} {d : D} (h : IsSl el sz d) : d.one = true := by
  rcases h with rfl | ⟨es, rfl, _⟩ <;> rfl
section
variable {E : Env} {HS : FuncId → List D → D → Prop}
theorem sh_fld1 {off : Nat} {cs : List D} {e : D} (hc : cs[off]? = some e) (ho : e.one = true) : TOp.eval E (.fld false 1 off) [.agg cs] = some e := by
  rw [ev_fld]
  simp only [partD, cond_false, D.cells, hc, ho, cond_true]
theorem sh_chk1 {e : D} (ho : e.one = true) : TOp.eval E (.chk false 1) [e] = some e := by
  rw [ev_chk]
  have h : Nat.beq 1 1 = true := rfl
  simp only [chkD, cond_false, ho, h, Bool.and_self, cond_true]
theorem sh_fldA {off size : Nat} {cs : List D} (h : Nat.ble (off + size) cs.length = true) : TOp.eval E (.fld true size off) [.agg cs] = some (.agg ((cs.drop off).take size)) := by
  rw [ev_fld]
  simp only [partD, cond_true, D.cells, h]
theorem eqGuard_str {P : Program} {op : BinOp} {t : TypeId} {x y : Operand} {a b : ByteArray} : pureRun P (eqGuard op t x y (.string a) (.string b)) = some () := by
  unfold eqGuard
  cases op <;> simp [pureRun_pure]
theorem toList_beq (a b : ByteArray) : (a.toList == b.toList) = (a == b) := by
  rw [ByteArray.toList_eq, ByteArray.toList_eq]
  cases h : (a == b) with
  | true => rw [bytes_eq h]; exact beq_self_eq_true _
  | false =>
    cases h2 : (a.data.toList == b.data.toList) with
    | false => rfl
    | true =>
      have he : a.data.toList = b.data.toList := eq_of_beq h2
      have : a = b := by
        obtain ⟨⟨a⟩⟩ := a
        obtain ⟨⟨b⟩⟩ := b
        simp only at he
        rw [he]
      rw [this, bytes_self] at h
      cases h
theorem sh_strN {t : TypeId} {x y : Operand} {a b : ByteArray} : TOp.eval E (.bin .neq t x y) [.leaf (.string a), .leaf (.string b)] = some (dB (!(a == b))) := by
  rw [ev_bin]
  have hf : ∀ s : ByteArray, flatV (.string s) = true := fun _ => rfl
  have : binA E .neq t x y (.string a) (.string b) = some (.bool (!(a == b))) := by
    unfold binA
    simp only [hf, Bool.and_self, cond_true, pureRun_bind2, eqGuard_str, Option.bind_some, binOp, Op.stringOp, toList_beq, pureRun_pure]
    rfl
  simp only [D.toV, this]; rfl
theorem sh_strE {t : TypeId} {x y : Operand} {a b : ByteArray} : TOp.eval E (.bin .eql t x y) [.leaf (.string a), .leaf (.string b)] = some (dB (a == b)) := by
  rw [ev_bin]
  have hf : ∀ s : ByteArray, flatV (.string s) = true := fun _ => rfl
  have : binA E .eql t x y (.string a) (.string b) = some (.bool (a == b)) := by
    unfold binA
    simp only [hf, Bool.and_self, cond_true, pureRun_bind2, eqGuard_str, Option.bind_some, binOp, Op.stringOp, toList_beq, pureRun_pure]
    rfl
  simp only [D.toV, this]; rfl
end
end Go.Am
namespace Go.Am
open Go
section
variable {E : Env} {HS : FuncId → List D → D → Prop} {Q : Res1 → Prop}
theorem wp_jumpTo {Ts : Nat → Tree} {k : Nat} {xs : List SV} {ρ ds : List D} {d : D} (hx : SV.ds (getD ρ) xs = ds) (h : Goes E HS Ts k ds d) : wp E HS (To E HS Ts d) (.jump k xs) ρ := by
  simp only [wp, hx, To]; exact h
theorem sh_elemA {el sz size off : Nat} {d : D} {i : Nat} {cs : List D} (h : IsSl el sz d) (he : d.es[i]? = some (.agg cs)) (hc : cs.length = sz) (ho : off + size ≤ sz) (hn : ¬ (off = 0 ∧ size = sz)) :
    TOp.eval E (.elem sz true size off) [d, dI (i : Int)] = some (.agg ((cs.drop off).take size)) := by
  rw [ev_elem]
  have h1 : elemD d (dI (i : Int)) = some (.agg cs) := he
  have h2 : Nat.ble (off + size) sz = true := Nat.ble_eq_true_of_le ho
  have h5 : Nat.ble (off + size) cs.length = true := by rw [hc]; exact h2
  have h3 : Nat.beq sz sz = true := Nat.beq_refl _
  have h4 : (Nat.beq off 0 && Nat.beq size sz) = false := by
    cases h : (Nat.beq off 0 && Nat.beq size sz) with
    | false => rfl
    | true =>
      simp only [Bool.and_eq_true] at h
      exact absurd ⟨Nat.eq_of_beq_eq_true h.1, Nat.eq_of_beq_eq_true h.2⟩ hn
  simp only [h1, sh_szD h he, h3, h2, h4, h5, cond_true, cond_false, Bool.and_self, Bool.true_and, Bool.and_true, partD, D.cells]
theorem wp_bindE {ρ' : List D} {o : TOp} {xs : List SV} {r : Tree} {ρ ds : List D} {d : D} (h : o.eval E ds = some d) (hx : SV.ds (getD ρ) xs = ds) (hρ : ρ ++ [d] = ρ') (hr : wp E HS Q r ρ') : wp E HS Q (.bind o xs r) ρ :=
  wp_bind h hx (hρ ▸ hr)
theorem wp_callE {ρ' : List D} {tg : Tgt} {xs : List SV} {fl : Nat} {r : Tree} {ρ ds as : List D} {f : FuncId} {d : D} (h : HS f as d) (hx : SV.ds (getD ρ) xs = ds) (ht : tgtD E tg ds = some (f, as)) (hf : flatD fl d = true) (hρ : ρ ++ [d] = ρ') (hr : wp E HS Q r ρ') : wp E HS Q (.call tg xs fl r) ρ :=
  wp_call h hx ht hf (hρ ▸ hr)
end
end Go.Am
