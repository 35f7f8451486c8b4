/- Lists that grow, and what a number or a length is worth. Conditions: none. -/
import Derived.Test.YtgkfhfcieamncaaGreatDoorUv
import Derived.Test.YtgkfhfcieamncaaGreatDoorOr
set_option linter.unusedVariables false
set_option linter.unusedSimpArgs false
namespace Go.Am.Tt
open Go Go.Am
variable {E : Env}
def Ls (el sz : Nat) (d : D) : Prop := d = .nil ∨ ∃ es, d = .sl el sz es
theorem app_gen {el sz bytes : Nat} {a b : D} (ha : Ls el sz a) (hb : Ls el sz b) (hbytes : bytes ≤ 80) (hl : a.es.length + b.es.length ≤ 300000000) :
    ∃ y, TOp.eval E (.app el sz bytes) [a, b] = some y ∧ Ls el sz y ∧ y.es = a.es ++ b.es := by
  have hss : strSize a = some a.es.length := by
    rcases ha with rfl | ⟨es, rfl⟩ <;> rfl
  rw [ev_app, hss]
  rcases hb with rfl | ⟨es, rfl⟩
  · refine ⟨a, ?_, ha, by simp [D.es]⟩
    have h1 : Nat.ble (Nat.mul (Nat.add (Nat.mul 4 a.es.length) 4000) (Nat.succ bytes)) 100000000000 = true := app_ble (by have : (D.nil).es.length = 0 := rfl; omega) hbytes
    have e0 : ∀ (b : Bool) (x : Option D), b = true → (bif b then x else none) = x := fun b x hb => by rw [hb]; rfl
    exact e0 _ _ h1
  · have h1 : Nat.ble (Nat.mul (Nat.add (Nat.mul 4 (Nat.add a.es.length es.length)) 4000) (Nat.succ bytes)) 100000000000 = true := app_ble hl hbytes
    have h2 : Nat.beq sz sz = true := Nat.beq_refl _
    have tt : ∀ (b : Bool) (x y : Option D), b = true → (bif b then x else y) = x := fun b x y hb => by rw [hb]; rfl
    rcases ha with rfl | ⟨es', rfl⟩
    · refine ⟨if es.length = 0 then .nil else .sl el sz ([] ++ es), (tt _ _ _ (by rw [h1, h2]; rfl)).trans ?_, ?_, ?_⟩
      · rw [bif_beq]; split <;> rfl
      · split
        · exact .inl rfl
        · exact .inr ⟨_, rfl⟩
      · split
        · rename_i h0
          have := List.eq_nil_of_length_eq_zero h0
          subst this; rfl
        · rfl
    · refine ⟨if es.length = 0 then .sl el sz es' else .sl el sz (es' ++ es), (tt _ _ _ (by rw [h1, h2]; show (true && true && (Nat.beq el el && Nat.beq sz sz)) = true; rw [Nat.beq_refl, Nat.beq_refl]; rfl)).trans ?_, ?_, ?_⟩
      · rw [bif_beq]; split <;> rfl
      · split
        · exact .inr ⟨_, rfl⟩
        · exact .inr ⟨_, rfl⟩
      · split
        · rename_i h0
          have := List.eq_nil_of_length_eq_zero h0
          subst this
          show es' = es' ++ []
          simp
        · rfl
def valD : D → Int
  | .leaf (.int _ n) => n
  | .leaf (.string s) => (s.size : Int)
  | d => (d.es.length : Int)
end Go.Am.Tt
namespace Go.Am
open Go Go.Am.Tt
abbrev dU (n : Int) : D := .leaf (.int .u64 n)
abbrev dY (n : Int) : D := .leaf (.int .u8 n)
theorem wrapU (n : Int) : IntKind.u64.wrap n = n % 18446744073709551616 := rfl
theorem wrapY (n : Int) : IntKind.u8.wrap n = n % 256 := rfl
def zig (n : Int) : Nat := if n < 0 then (-2 * n - 1).toNat else (2 * n).toNat
theorem zig_lt {n : Int} (h0 : -9223372036854775808 ≤ n) (h1 : n ≤ 9223372036854775807) : zig n < 18446744073709551616 := by
  unfold zig; split <;> omega
theorem toNat_of (i : Int) : ((BitVec.ofInt 64 i).toNat : Int) = i % 18446744073709551616 := by
  rw [BitVec.toNat_ofInt]
  have h : (0 : Int) ≤ i % ((2 ^ 64 : Nat) : Int) := Int.emod_nonneg _ (by decide)
  rw [Int.toNat_of_nonneg h]; rfl
theorem zig_prog {n : Int} (h0 : -9223372036854775808 ≤ n) (h1 : n ≤ 9223372036854775807) :
    IntKind.u64.wrap ((BitVec.ofInt 64 (IntKind.u64.wrap (IntKind.u64.wrap n * 2 ^ 1)) ^^^ BitVec.ofInt 64 (IntKind.u64.wrap (n.fdiv (2 ^ 63)))).toNat : Int) = (zig n : Int) := by
  have e2 : (2 : Int) ^ 1 = 2 := rfl
  have e63 : (2 : Int) ^ 63 = 9223372036854775808 := rfl
  rw [e2, e63]
  by_cases hn : n < 0
  · have hf : n.fdiv 9223372036854775808 = -1 := by
      rw [Int.fdiv_eq_ediv_of_nonneg _ (by decide)]; omega
    have hx : IntKind.u64.wrap (n.fdiv 9223372036854775808) = 18446744073709551615 := by rw [hf]; rfl
    rw [hx]
    have ho : BitVec.ofInt 64 18446744073709551615 = BitVec.allOnes 64 := by decide
    rw [ho, BitVec.xor_allOnes, BitVec.toNat_not]
    have ht := toNat_of (IntKind.u64.wrap (IntKind.u64.wrap n * 2))
    simp only [wrapU] at ht ⊢
    have hb := (BitVec.ofInt 64 ((n % 18446744073709551616 * 2) % 18446744073709551616)).isLt
    generalize (BitVec.ofInt 64 ((n % 18446744073709551616 * 2) % 18446744073709551616)).toNat = q at ht hb ⊢
    unfold zig; rw [if_pos hn]
    omega
  · have hf : n.fdiv 9223372036854775808 = 0 := by
      rw [Int.fdiv_eq_ediv_of_nonneg _ (by decide)]; omega
    have hx : BitVec.ofInt 64 (IntKind.u64.wrap (n.fdiv 9223372036854775808)) = 0#64 := by rw [hf]; rfl
    rw [hx, BitVec.xor_zero]
    have ht := toNat_of (IntKind.u64.wrap (IntKind.u64.wrap n * 2))
    rw [ht]
    simp only [wrapU]
    unfold zig; rw [if_neg hn]
    omega
theorem or128 : ∀ m : _root_.Fin 256, ((BitVec.ofNat 8 m.val ||| 128#8).toNat) = m.val % 128 + 128 := by decide +kernel
theorem or_prog (x : Nat) : IntKind.u8.wrap ((BitVec.ofInt 8 (IntKind.u8.wrap (x : Int)) ||| BitVec.ofInt 8 128).toNat : Int) = ((x % 128 + 128 : Nat) : Int) := by
  have h1 : BitVec.ofInt 8 (IntKind.u8.wrap (x : Int)) = BitVec.ofNat 8 (x % 256) := by
    rw [wrapY]
    have : ((x : Int) % 256) = ((x % 256 : Nat) : Int) := by omega
    rw [this]; exact BitVec.ofInt_natCast 8 _
  have h2 : BitVec.ofInt 8 128 = 128#8 := rfl
  have h3 := or128 ⟨x % 256, Nat.mod_lt _ (by decide)⟩
  rw [h1, h2, h3, wrapY]
  have : x % 256 % 128 = x % 128 := Nat.mod_mod_of_dvd x (by decide)
  simp only [this]
  omega
def encU (u : Nat) : List Int := if u < 128 then [(u : Int)] else ((u % 128 + 128 : Nat) : Int) :: encU (u / 128)
termination_by u
decreasing_by omega
theorem encU_len : ∀ (k u : Nat), u < 128 ^ k → 0 < k → (encU u).length ≤ k
  | 0, u, _, h => by omega
  | k + 1, u, h, _ => by
    rw [encU]
    split
    · simp
    · rename_i hu
      cases k with
      | zero => simp at h; omega
      | succ k =>
        have hlt : u / 128 < 128 ^ (k + 1) := by
          rw [Nat.div_lt_iff_lt_mul (by decide)]
          rw [Nat.pow_succ] at h; exact h
        have := encU_len (k + 1) (u / 128) hlt (by omega)
        simp only [List.length_cons]; omega
def encI (n : Int) : List Int := encU (zig n)
def IsY (d : D) (l : List Int) : Prop := Ls 5 1 d ∧ d.es = l.map (fun n => dY n)
theorem IsY.len {d : D} {l : List Int} (h : IsY d l) : d.es.length = l.length := by rw [h.2, List.length_map]
theorem IsY.sl {d : D} {l : List Int} (h : IsY d l) (hb : l.length ≤ 300000000) : IsSl 5 1 d := by
  rcases h.1 with rfl | ⟨es, rfl⟩
  · exact .inl rfl
  · exact .inr ⟨es, rfl, cap_bd (by have := h.len; have e : (D.sl 5 1 es).es.length = es.length := rfl; omega)⟩
theorem IsY.get {d : D} {l : List Int} (h : IsY d l) {i : Nat} {n : Int} (hi : l[i]? = some n) : d.es[i]? = some (dY n) := by
  rw [h.2, List.getElem?_map, hi]; rfl
theorem IsY.nil : IsY .nil [] := ⟨.inl rfl, rfl⟩
theorem IsY.empty : IsY (.sl 5 1 []) [] := ⟨.inr ⟨_, rfl⟩, rfl⟩
theorem IsY.one {x : Int} : IsY (.sl 5 1 [dY x]) [x] := ⟨.inr ⟨_, rfl⟩, rfl⟩
theorem app_Y {E : Env} {a b : D} {l m : List Int} (ha : IsY a l) (hb : IsY b m) (hl : l.length + m.length ≤ 300000000) : ∃ y, TOp.eval E (.app 5 1 1) [a, b] = some y ∧ IsY y (l ++ m) := by
  obtain ⟨y, h1, h2, h3⟩ := app_gen (E := E) (bytes := 1) ha.1 hb.1 (by decide) (by rw [ha.len, hb.len]; exact hl)
  exact ⟨y, h1, h2, by rw [h3, ha.2, hb.2, List.map_append]⟩
theorem lit_Y {E : Env} {x : Int} : TOp.eval E (.lit 5 1) [dY x] = some (.sl 5 1 [dY x]) := ev_lit.trans rfl
theorem lit_Y0 {E : Env} : TOp.eval E (.lit 5 1) [] = some (.sl 5 1 []) := ev_lit.trans rfl
end Go.Am
namespace Go.Am
open Go Go.Am.Tt
section
variable {E : Env} {HS : FuncId → List D → D → Prop} {Q : Res1 → Prop}
theorem wp_callM {ρ' : List D} {f : FuncId} {m : Mode} {xs : List SV} {r : Tree} {ρ ds rs : List D} (h : HS (Nat.add bigN f) (.mode m :: ds) (retD rs)) (hx : SV.ds (getD ρ) xs = ds) (hl : rs.length = m.out.sts.length) (hρ : ρ ++ rs = ρ') (hr : wp E HS Q r ρ') : wp E HS Q (.callM f m xs r) ρ := by
  simp only [wp, hx]
  exact ⟨rs, h, hl, hρ ▸ hr⟩
def Wm (E : Env) (f : FuncId) (m : Mode) (x : D) (e : List Int) : Prop := ∀ {b : D} {l : List Int}, IsY b l → (l ++ e).length ≤ 300000000 → ∃ b', IsY b' (l ++ e) ∧ Holds E (Nat.add bigN f) [.mode m, x, b] b'
def Wb (E : Env) (f : FuncId) (m : Mode) (x : D) (e : List Int) : Prop := ∀ {b : D} {l : List Int}, IsY b l → (l ++ e).length ≤ 300000000 → ∃ b', IsY b' (l ++ e) ∧ Holds E (Nat.add bigN f) [.mode m, b, x] b'
def Wf (E : Env) (f : FuncId) (x : D) (e : List Int) : Prop := ∀ {b : D} {l : List Int}, IsY b l → (l ++ e).length ≤ 300000000 → ∃ b', IsY b' (l ++ e) ∧ Holds E f [b, x] b'
theorem loop_wr {Ts : Nat → Tree} {k : Nat} {R : D → Prop} {es : List D} {enc : D → List Int} {ρ : Nat → D → List D} {l0 : List Int} (hB : (l0 ++ es.flatMap enc).length ≤ 300000000)
    (step : ∀ i x b l, es[i]? = some x → i < es.length → IsY b l → (l ++ enc x).length ≤ 300000000 → (∀ b', IsY b' (l ++ enc x) → ∃ d, R d ∧ Goes E (Holds E) Ts k (ρ (i + 1) b') d) → ∃ d, R d ∧ Goes E (Holds E) Ts k (ρ i b) d)
    (last : ∀ b, IsY b (l0 ++ es.flatMap enc) → ∃ d, R d ∧ Goes E (Holds E) Ts k (ρ es.length b) d) : ∀ b, IsY b l0 → ∃ d, R d ∧ Goes E (Holds E) Ts k (ρ 0 b) d := by
  have key : ∀ m i, es.length - i = m → i ≤ es.length → ∀ b, IsY b (l0 ++ (es.take i).flatMap enc) → ∃ d, R d ∧ Goes E (Holds E) Ts k (ρ i b) d := by
    intro m
    induction m with
    | zero =>
      intro i hm hi b hb
      obtain rfl : i = es.length := by omega
      rw [List.take_length] at hb
      exact last b hb
    | succ m ih =>
      intro i hm hi b hb
      have hlt : i < es.length := by omega
      obtain ⟨x, hx⟩ : ∃ x, es[i]? = some x := ⟨_, List.getElem?_eq_getElem hlt⟩
      have ht : (es.take (i + 1)).flatMap enc = (es.take i).flatMap enc ++ enc x := by
        rw [List.take_add_one, hx, List.flatMap_append]
        show _ ++ List.flatMap enc [x] = _
        rw [List.flatMap_cons, List.flatMap_nil, List.append_nil]
      refine step i x b _ hx hlt hb ?_ fun b' hb' => ?_
      · have h1 : es.flatMap enc = (es.take (i + 1)).flatMap enc ++ (es.drop (i + 1)).flatMap enc := by
          rw [← List.flatMap_append, List.take_append_drop]
        rw [h1, ht] at hB
        simp only [List.length_append] at hB ⊢
        omega
      · refine ih (i + 1) (by omega) (by omega) b' ?_
        rw [ht, ← List.append_assoc]; exact hb'
  intro b hb
  exact key _ 0 rfl (Nat.zero_le _) b (by simpa using hb)
end
end Go.Am
namespace Go.Am
open Go Go.Am.Tt
def encB (s : ByteArray) : List Int := s.data.toList.map fun c => ((c.toNat : Nat) : Int)
def encT (s : ByteArray) : List Int := encI (s.size : Int) ++ encB s
theorem encB_len (s : ByteArray) : (encB s).length = s.size := by
  unfold encB
  rw [List.length_map]; exact Array.length_toList
mutual
def enc : Sh → D → List Int
  | .int _, d => encI (valD d)
  | .bool, d => encI (match d with | .leaf (.bool true) => 1 | _ => 0)
  | .str, d => (match d with | .leaf (.string s) => encT s | _ => [])
  | .st fs, d => (match d with | .agg cs => encs fs cs | _ => [])
  | .sl _ _ e, d => encI (d.es.length : Int) ++ d.es.flatMap (enc e)
def encs : List Sh → List D → List Int
  | s :: ss, d :: ds => enc s d ++ encs ss ds
  | _, _ => []
end
def Wd (s : Sh) (d : D) : Prop := HasSh s d ∧ dBulk d ≤ 1048576
def Wds : List Sh → List D → Prop
  | [], l => l = []
  | s :: ss, l => ∃ d ds, l = d :: ds ∧ Wd s d ∧ Wds ss ds
theorem wds_of : ∀ {fs : List Sh} {cs : List D}, HasShs fs cs → dBulks cs ≤ 1048576 → Wds fs cs
  | [], cs, h, _ => by simp only [HasShs] at h; exact h
  | s :: ss, cs, h, hb => by
    simp only [HasShs] at h
    obtain ⟨d, ds, rfl, h1, h2⟩ := h
    simp only [dBulks] at hb
    exact ⟨d, ds, rfl, ⟨h1, by omega⟩, wds_of h2 (by omega)⟩
theorem wd_int {d : D} (h : Wd (.int .i64) d) : ∃ n : Int, d = dI n ∧ -9223372036854775808 ≤ n ∧ n ≤ 9223372036854775807 := by
  obtain ⟨h1, h2⟩ := h
  simp only [HasSh] at h1
  obtain ⟨n, rfl⟩ := h1
  have := int_bulk (k := .i64) (n := n) (Nat.lt_of_le_of_lt h2 (by decide))
  exact ⟨n, rfl, this⟩
theorem wd_bool {d : D} (h : Wd .bool d) : ∃ b, d = dB b := by
  have := h.1
  simp only [HasSh] at this
  exact this
theorem wd_str {d : D} (h : Wd .str d) : ∃ s : ByteArray, d = .leaf (.string s) ∧ s.size ≤ 1048576 := by
  obtain ⟨h1, h2⟩ := h
  simp only [HasSh] at h1
  obtain ⟨s, rfl⟩ := h1
  simp only [dBulk] at h2
  exact ⟨s, rfl, by omega⟩
theorem wd_st {fs : List Sh} {d : D} (h : Wd (.st fs) d) : ∃ cs, d = .agg cs ∧ Wds fs cs := by
  obtain ⟨h1, h2⟩ := h
  simp only [HasSh] at h1
  obtain ⟨cs, rfl, h1⟩ := h1
  simp only [dBulk] at h2
  exact ⟨cs, rfl, wds_of h1 (Nat.le_trans (Nat.le_max_right _ _) h2)⟩
theorem wd_sl {el sz : Nat} {e : Sh} {d : D} (h : Wd (.sl el sz e) d) : IsSl el sz d ∧ d.es.length ≤ 1048576 ∧ ∀ x ∈ d.es, Wd e x := by
  obtain ⟨h1, h2⟩ := h
  simp only [HasSh] at h1
  rcases h1 with rfl | ⟨es, rfl, hl, ha⟩
  · exact ⟨.inl rfl, by simp [D.es], fun x hx => by simp [D.es] at hx⟩
  · simp only [dBulk] at h2
    have h3 := dBulks_len es
    refine ⟨.inr ⟨es, rfl, hl⟩, by show es.length ≤ _; omega, fun x hx => ⟨ha x hx, ?_⟩⟩
    have := dBulks_mem (show x ∈ es from hx)
    omega
theorem wds_nil {l : List D} (h : Wds [] l) : l = [] := h
theorem wds_cons {s : Sh} {ss : List Sh} {l : List D} (h : Wds (s :: ss) l) : ∃ d ds, l = d :: ds ∧ Wd s d ∧ Wds ss ds := h
theorem wd_one {s : Sh} {d : D} (h : Wd s d) (hs : ∀ fs, s ≠ .st fs) : d.one = true := by
  have h1 := h.1
  cases s with
  | int k => simp only [HasSh] at h1; obtain ⟨_, rfl⟩ := h1; rfl
  | bool => simp only [HasSh] at h1; obtain ⟨_, rfl⟩ := h1; rfl
  | str => simp only [HasSh] at h1; obtain ⟨_, rfl⟩ := h1; rfl
  | st fs => exact absurd rfl (hs fs)
  | sl el sz e => exact (wd_sl h).1.one
end Go.Am
namespace Go.Am
open Go Go.Am.Tt
theorem encI_small {n : Int} (h0 : -18446744073709551616 ≤ n) (h1 : n ≤ 18446744073709551616) : (encI n).length ≤ 10 := by
  refine encU_len 10 _ (Nat.lt_of_lt_of_le (m := 100000000000000000000) ?_ (by decide)) (by decide)
  unfold zig; split <;> omega
theorem int_range {k : IntKind} {n : Int} (h : k.min ≤ n ∧ n ≤ k.max) : -18446744073709551616 ≤ n ∧ n ≤ 18446744073709551616 := by
  have h0 : -18446744073709551616 ≤ k.min := by cases k <;> decide
  have h1 : k.max ≤ 18446744073709551616 := by cases k <;> decide
  omega
mutual
theorem enc_len : ∀ {s : Sh} {d : D}, HasSh s d → dBulk d ≤ 1048576 → (enc s d).length ≤ 20 * dBulk d
  | .int k, d, h, hb => by
    simp only [HasSh] at h
    obtain ⟨n, rfl⟩ := h
    have hr := int_range (int_bulk (k := k) (n := n) (Nat.lt_of_le_of_lt hb (by decide)))
    have := encI_small hr.1 hr.2
    have hp := dBulk_pos (.leaf (.int k n))
    show (encI n).length ≤ _
    omega
  | .bool, d, h, hb => by
    have hp := dBulk_pos d
    have : (enc .bool d).length ≤ 10 := by
      unfold enc
      refine encI_small ?_ ?_ <;> split <;> decide
    omega
  | .str, d, h, hb => by
    simp only [HasSh] at h
    obtain ⟨s, rfl⟩ := h
    simp only [dBulk] at hb ⊢
    show (encT s).length ≤ _
    unfold encT
    rw [List.length_append, encB_len]
    have := encI_small (n := (s.size : Int)) (by omega) (by omega)
    omega
  | .st fs, d, h, hb => by
    simp only [HasSh] at h
    obtain ⟨cs, rfl, h⟩ := h
    simp only [dBulk] at hb ⊢
    have := encs_len h (Nat.le_trans (Nat.le_max_right _ _) hb)
    show (encs fs cs).length ≤ _
    have h2 := Nat.le_max_right 1 (dBulks cs)
    exact Nat.le_trans this (Nat.mul_le_mul_left _ h2)
  | .sl el sz e, d, h, hb => by
    simp only [HasSh] at h
    have hlen : d.es.length ≤ dBulk d := by
      rcases h with rfl | ⟨es, rfl, _⟩
      · simp [D.es]
      · simp only [dBulk]; have := dBulks_len es; show es.length ≤ _; omega
    have hall : ∀ x ∈ d.es, HasSh e x := by
      rcases h with rfl | ⟨es, rfl, _, ha⟩
      · intro x hx; simp [D.es] at hx
      · exact ha
    have hsum : dBulks d.es + 1 ≤ dBulk d := by
      rcases h with rfl | ⟨es, rfl, _⟩
      · simp [D.es, dBulks, dBulk]
      · simp only [dBulk]; exact Nat.le_refl _
    have hi := encI_small (n := (d.es.length : Int)) (by omega) (by omega)
    have hf : ∀ l : List D, (∀ x ∈ l, HasSh e x) → dBulks l ≤ 1048576 → (l.flatMap (enc e)).length ≤ 20 * dBulks l := by
      intro l
      induction l with
      | nil => intro _ _; simp
      | cons x l ih =>
        intro ha hb2
        simp only [dBulks] at hb2 ⊢
        have h1 := enc_len (ha x List.mem_cons_self) (by omega)
        have h2 := ih (fun y hy => ha y (List.mem_cons_of_mem _ hy)) (by omega)
        rw [List.flatMap_cons, List.length_append]; omega
    have h3 := hf d.es hall (by omega)
    show (encI (d.es.length : Int) ++ d.es.flatMap (enc e)).length ≤ _
    rw [List.length_append]; omega
theorem encs_len : ∀ {ss : List Sh} {ds : List D}, HasShs ss ds → dBulks ds ≤ 1048576 → (encs ss ds).length ≤ 20 * dBulks ds
  | [], ds, h, _ => by simp only [HasShs] at h; subst h; simp [encs]
  | s :: ss, ds, h, hb => by
    simp only [HasShs] at h
    obtain ⟨d, r, rfl, h1, h2⟩ := h
    simp only [dBulks] at hb ⊢
    have a := enc_len h1 (by omega)
    have b := encs_len h2 (by omega)
    simp only [encs, List.length_append]; omega
end
theorem wd_len {s : Sh} {d : D} (h : Wd s d) : (enc s d).length ≤ 300000000 := by
  have := enc_len h.1 h.2
  have := h.2
  omega
theorem hasShs_drop : ∀ (n : Nat) {fs : List Sh} {cs : List D}, HasShs fs cs → HasShs (fs.drop n) (cs.drop n)
  | 0, _, _, h => h
  | n + 1, [], cs, h => by simp only [HasShs] at h; subst h; simp [HasShs]
  | n + 1, s :: ss, cs, h => by
    simp only [HasShs] at h
    obtain ⟨d, r, rfl, _, h2⟩ := h
    simpa using hasShs_drop n h2
theorem hasShs_take : ∀ (n : Nat) {fs : List Sh} {cs : List D}, HasShs fs cs → HasShs (fs.take n) (cs.take n)
  | 0, _, _, h => by simp [HasShs]
  | n + 1, [], cs, h => by simp only [HasShs] at h; subst h; simp [HasShs]
  | n + 1, s :: ss, cs, h => by
    simp only [HasShs] at h
    obtain ⟨d, r, rfl, h1, h2⟩ := h
    simp only [List.take_succ_cons, HasShs]
    exact ⟨d, _, rfl, h1, hasShs_take n h2⟩
theorem dBulks_drop : ∀ (n : Nat) (l : List D), dBulks (l.drop n) ≤ dBulks l
  | 0, _ => Nat.le_refl _
  | n + 1, [] => by simp
  | n + 1, x :: l => by have := dBulks_drop n l; simp only [List.drop_succ_cons, dBulks]; omega
theorem dBulks_take : ∀ (n : Nat) (l : List D), dBulks (l.take n) ≤ dBulks l
  | 0, _ => by simp [dBulks]
  | n + 1, [] => by simp
  | n + 1, x :: l => by have := dBulks_take n l; simp only [List.take_succ_cons, dBulks]; omega
theorem wd_part {fs : List Sh} {cs : List D} {off size : Nat} (h : Wd (.st fs) (.agg cs)) : Wd (.st ((fs.drop off).take size)) (.agg ((cs.drop off).take size)) := by
  obtain ⟨h1, h2⟩ := h
  simp only [HasSh] at h1
  obtain ⟨_, e, h1⟩ := h1
  cases e
  simp only [dBulk] at h2
  refine ⟨by simp only [HasSh]; exact ⟨_, rfl, hasShs_take _ (hasShs_drop _ h1)⟩, ?_⟩
  simp only [dBulk]
  have a := dBulks_take size (cs.drop off)
  have b := dBulks_drop off cs
  have c : dBulks cs ≤ 1048576 := Nat.le_trans (Nat.le_max_right _ _) h2
  exact Nat.max_le.2 ⟨by omega, by omega⟩
end Go.Am
