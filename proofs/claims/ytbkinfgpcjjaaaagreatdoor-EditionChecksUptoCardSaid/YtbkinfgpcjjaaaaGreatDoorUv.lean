/- Bounded data of given shapes; steps for functions that always give something. Conditions: none. -/
import Derived.Test.YtbkinfgpcjjaaaaGreatDoorUn
set_option linter.all false
namespace Go.Am
open Go
mutual
def HasB (B : Nat) : Sh → D → Prop
  | .int k, d => ∃ n, d = .leaf (.int k n)
  | .bool, d => ∃ b, d = .leaf (.bool b)
  | .str, d => ∃ s, d = .leaf (.string s) ∧ s.size ≤ B
  | .st fs, d => ∃ cs, d = .agg cs ∧ HasBs B fs cs
  | .sl el sz e, d => d = .nil ∨ ∃ es, d = .sl el sz es ∧ es.length ≤ B ∧ ∀ x ∈ es, HasB B e x
def HasBs (B : Nat) : List Sh → List D → Prop
  | [], l => l = []
  | s :: ss, l => ∃ d ds, l = d :: ds ∧ HasB B s d ∧ HasBs B ss ds
end
variable {B : Nat}
theorem cap_bd {n : Nat} (h : n ≤ 300000000) : n < capX := by unfold capX; omega
theorem isSl_ofB {el sz : Nat} {e : Sh} {d : D} (h : HasB B (.sl el sz e) d) (hB : B ≤ 300000000 := by decide) : IsSl el sz d := by
  simp only [HasB] at h
  rcases h with rfl | ⟨es, rfl, h, _⟩
  · exact .inl rfl
  · exact .inr ⟨es, rfl, cap_bd (Nat.le_trans h hB)⟩
theorem len_leB {el sz : Nat} {e : Sh} {d : D} (h : HasB B (.sl el sz e) d) : d.es.length ≤ B := by
  simp only [HasB] at h
  rcases h with rfl | ⟨es, rfl, h, _⟩
  · exact Nat.zero_le _
  · exact h
theorem elem_ofB {el sz : Nat} {e : Sh} {d x : D} {i : Nat} (h : HasB B (.sl el sz e) d) (hx : d.es[i]? = some x) : HasB B e x := by
  simp only [HasB] at h
  rcases h with rfl | ⟨es, rfl, _, h⟩
  · simp [D.es] at hx
  · exact h x (List.mem_of_getElem? hx)
theorem hb_int {k : IntKind} {n : Int} : HasB B (.int k) (.leaf (.int k n)) := ⟨n, rfl⟩
theorem hb_bool {b : Bool} : HasB B .bool (.leaf (.bool b)) := ⟨b, rfl⟩
theorem hb_str {s : ByteArray} (h : s.size ≤ B) : HasB B .str (.leaf (.string s)) := ⟨s, rfl, h⟩
theorem hb_st {fs : List Sh} {cs : List D} (h : HasBs B fs cs) : HasB B (.st fs) (.agg cs) := ⟨cs, rfl, h⟩
theorem hbs_nil : HasBs B [] [] := rfl
theorem hbs_cons {s : Sh} {ss : List Sh} {d : D} {ds : List D} (h : HasB B s d) (hs : HasBs B ss ds) : HasBs B (s :: ss) (d :: ds) := ⟨d, ds, rfl, h, hs⟩
theorem hb_nil {el sz : Nat} {e : Sh} : HasB B (.sl el sz e) .nil := .inl rfl
theorem hb_sl {el sz : Nat} {e : Sh} {es : List D} (h : es.length ≤ B) (ha : ∀ x ∈ es, HasB B e x) : HasB B (.sl el sz e) (.sl el sz es) := .inr ⟨es, rfl, h, ha⟩
section
variable {E : Env} {HS : FuncId → List D → D → Prop}
theorem get_at {d : D} {s : Int} (h0 : 0 ≤ s) (h1 : s < (d.es.length : Int)) : ∃ x, d.es[s.toNat]? = some x :=
  ⟨_, List.getElem?_eq_getElem (by omega)⟩
theorem toNat_dI {s : Int} (h : 0 ≤ s) : dI s = dI ((s.toNat : Nat) : Int) := by rw [Int.toNat_of_nonneg h]
theorem si_inr {d : D} {s : Int} {e : D} (h : 0 ≤ s) (he : d.es[s.toNat]? = some e) : TOp.eval E .inr [d, dI s] = some (dB true) := by
  rw [toNat_dI h]; exact sh_inr he
theorem si_elemW {el sz : Nat} {d : D} {s : Int} {cs : List D} (h : IsSl el sz d) (h0 : 0 ≤ s) (he : d.es[s.toNat]? = some (.agg cs)) (hc : cs.length = sz) : TOp.eval E (.elem sz true sz 0) [d, dI s] = some (.agg cs) := by
  rw [toNat_dI h0]; exact sh_elemW h he hc
theorem si_elem1 {el : Nat} {d : D} {s : Int} {e : D} (h : IsSl el 1 d) (h0 : 0 ≤ s) (he : d.es[s.toNat]? = some e) (ho : e.one = true) : TOp.eval E (.elem 1 false 1 0) [d, dI s] = some e := by
  rw [toNat_dI h0]; exact sh_elem1 h he ho
theorem si_elemP {el sz off : Nat} {d : D} {s : Int} {cs : List D} {e : D} (h : IsSl el sz d) (h0 : 0 ≤ s) (he : d.es[s.toNat]? = some (.agg cs)) (hc : cs[off]? = some e) (ho : e.one = true) (hoff : off < sz) : TOp.eval E (.elem sz false 1 off) [d, dI s] = some e := by
  rw [toNat_dI h0]; exact sh_elemP h he hc ho hoff
theorem si_elemA {el sz size off : Nat} {d : D} {s : Int} {cs : List D} (h : IsSl el sz d) (h0 : 0 ≤ s) (he : d.es[s.toNat]? = some (.agg cs)) (hc : cs.length = sz) (ho : off + size ≤ sz) (hn : ¬ (off = 0 ∧ size = sz)) : TOp.eval E (.elem sz true size off) [d, dI s] = some (.agg ((cs.drop off).take size)) := by
  rw [toNat_dI h0]; exact sh_elemA h he hc ho hn
theorem wrapI {m : Int} (h0 : -9223372036854775808 ≤ m) (h1 : m < 9223372036854775808) : IntKind.i64.wrap m = m := by
  have e : IntKind.i64.wrap m = (if (true && decide ((m % 18446744073709551616) ≥ 9223372036854775808)) = true then m % 18446744073709551616 - 18446744073709551616 else m % 18446744073709551616) := rfl
  rw [e]
  simp only [Bool.true_and, decide_eq_true_eq]
  split <;> omega
theorem si_add {t : TypeId} {x y : Operand} {m n : Int} (h : -9223372036854775808 ≤ m + n ∧ m + n < 9223372036854775808) : TOp.eval E (.bin .add t x y) [dI m, dI n] = some (dI (m + n)) := by
  have h0 : TOp.eval E (.bin .add t x y) [dI m, dI n] = some (dI (IntKind.i64.wrap (m + n))) := rfl
  rw [h0, wrapI h.1 h.2]
theorem si_sub {t : TypeId} {x y : Operand} {m n : Int} (h : -9223372036854775808 ≤ m - n ∧ m - n < 9223372036854775808) : TOp.eval E (.bin .sub t x y) [dI m, dI n] = some (dI (m - n)) := by
  have h0 : TOp.eval E (.bin .sub t x y) [dI m, dI n] = some (dI (IntKind.i64.wrap (m - n))) := rfl
  rw [h0, wrapI h.1 h.2]
theorem si_addW {t : TypeId} {x y : Operand} {m n : Int} : TOp.eval E (.bin .add t x y) [dI m, dI n] = some (dI (IntKind.i64.wrap (m + n))) := rfl
theorem si_subW {t : TypeId} {x y : Operand} {m n : Int} : TOp.eval E (.bin .sub t x y) [dI m, dI n] = some (dI (IntKind.i64.wrap (m - n))) := rfl
theorem si_mulW {t : TypeId} {x y : Operand} {m n : Int} : TOp.eval E (.bin .mul t x y) [dI m, dI n] = some (dI (IntKind.i64.wrap (m * n))) := rfl
theorem ss_len {s : ByteArray} : TOp.eval E (.len true) [.leaf (.string s)] = some (dI (s.size : Int)) := rfl
theorem ss_chr {s : ByteArray} {i : Int} (h0 : 0 ≤ i) (h1 : i < (s.size : Int)) : ∃ n : Int, 0 ≤ n ∧ n < 256 ∧ TOp.eval E .chr [.leaf (.string s), dI i] = some (.leaf (.int .u8 n)) := by
  rw [toNat_dI h0, ev_chr]
  have hl : i.toNat < s.data.toList.length := by
    have : s.data.toList.length = s.size := Array.length_toList
    omega
  refine ⟨((s.data.toList[i.toNat]).toNat : Int), by omega, ?_, ?_⟩
  · have := (s.data.toList[i.toNat]).toNat_lt; omega
  · show (s.data.toList[i.toNat]?).map (fun (b : UInt8) => D.leaf (.int .u8 b.toNat)) = _
    rw [List.getElem?_eq_getElem hl]; rfl
def ToR (E : Env) (HS : FuncId → List D → D → Prop) (Ts : Nat → Tree) (R : D → Prop) (r : Res1) : Prop := match r with
  | .ret d' => R d'
  | .jump k ds => ∃ d, R d ∧ Goes E HS Ts k ds d
theorem goes_R {Ts : Nat → Tree} {R : D → Prop} {k : Nat} {ρ : List D} (h : wp E HS (ToR E HS Ts R) (Ts k) ρ) : ∃ d, R d ∧ Goes E HS Ts k ρ d := by
  obtain ⟨r, h1, h2⟩ := wp_one _ _ h
  cases r with
  | ret d' => exact ⟨d', h1, Goes.step (h2 _ rfl)⟩
  | jump k' ds => obtain ⟨d, hr, hd⟩ := h1; exact ⟨d, hr, Goes.step (h2 _ hd)⟩
theorem wr_ret {Ts : Nat → Tree} {R : D → Prop} {xs : List SV} {ρ ds : List D} (hx : SV.ds (getD ρ) xs = ds) (h : R (retD ds)) : wp E HS (ToR E HS Ts R) (.ret xs) ρ := by
  simp only [wp, hx]; exact h
theorem wr_jump {Ts : Nat → Tree} {R : D → Prop} {k : Nat} {xs : List SV} {ρ ds : List D} (hx : SV.ds (getD ρ) xs = ds) (h : ∃ d, R d ∧ Goes E HS Ts k ds d) : wp E HS (ToR E HS Ts R) (.jump k xs) ρ := by
  simp only [wp, hx]; exact h
theorem loop_up {P : Nat → Prop} (N : Nat) (st : ∀ i, (i < N → P (i + 1)) → P i) : ∀ i, P i := by
  have go : ∀ m i, N ≤ i + m → P i := by
    intro m
    induction m with
    | zero => intro i h; exact st i fun hi => absurd hi (by omega)
    | succ m ih => intro i h; exact st i fun _ => ih (i + 1) (by omega)
  intro i
  exact go N i (Nat.le_add_left _ _)
theorem cap_bd' {n : Nat} (h : n ≤ 4000000000) : n < capX := by unfold capX; omega
theorem sk_lss {k : IntKind} {t : TypeId} {x y : Operand} {m n : Int} : TOp.eval E (.bin .lss t x y) [.leaf (.int k m), .leaf (.int k n)] = some (dB (decide (m < n))) := by cases k <;> rfl
theorem sk_leq {k : IntKind} {t : TypeId} {x y : Operand} {m n : Int} : TOp.eval E (.bin .leq t x y) [.leaf (.int k m), .leaf (.int k n)] = some (dB (decide (m ≤ n))) := by cases k <;> rfl
theorem sk_gtr {k : IntKind} {t : TypeId} {x y : Operand} {m n : Int} : TOp.eval E (.bin .gtr t x y) [.leaf (.int k m), .leaf (.int k n)] = some (dB (decide (m > n))) := by cases k <;> rfl
theorem sk_geq {k : IntKind} {t : TypeId} {x y : Operand} {m n : Int} : TOp.eval E (.bin .geq t x y) [.leaf (.int k m), .leaf (.int k n)] = some (dB (decide (m ≥ n))) := by cases k <;> rfl
theorem sk_eql {k : IntKind} {t : TypeId} {x y : Operand} {m n : Int} : TOp.eval E (.bin .eql t x y) [.leaf (.int k m), .leaf (.int k n)] = some (dB (decide (m = n))) := by cases k <;> rfl
theorem sk_neq {k : IntKind} {t : TypeId} {x y : Operand} {m n : Int} : TOp.eval E (.bin .neq t x y) [.leaf (.int k m), .leaf (.int k n)] = some (dB (decide (¬ m = n))) := by
  have h : TOp.eval E (.bin .neq t x y) [.leaf (.int k m), .leaf (.int k n)] = some (dB (m != n)) := by cases k <;> rfl
  rw [h]
  by_cases e : m = n
  · subst e; simp
  · simp [e]
theorem te_ext {i : Nat} {ds : List D} {d : D} (h : ds[i]? = some d) : TOp.eval E (.ext i) [.tup ds] = some d := by rw [ev_ext]; exact h
mutual
theorem hasB_sh' (hB : B ≤ 300000000) : ∀ {s : Sh} {d : D}, HasB B s d → HasSh s d
  | .int k, d, h => by simp only [HasB] at h; simp only [HasSh]; exact h
  | .bool, d, h => by simp only [HasB] at h; simp only [HasSh]; exact h
  | .str, d, h => by simp only [HasB] at h; obtain ⟨s, hs, _⟩ := h; simp only [HasSh]; exact ⟨s, hs⟩
  | .st fs, d, h => by simp only [HasB] at h; obtain ⟨cs, hd, h⟩ := h; simp only [HasSh]; exact ⟨cs, hd, hasBs_sh' hB h⟩
  | .sl el sz e, d, h => by
    simp only [HasB] at h; simp only [HasSh]
    rcases h with h | ⟨es, hd, hl, ha⟩
    · exact .inl h
    · exact .inr ⟨es, hd, cap_bd (Nat.le_trans hl hB), fun x hx => hasB_sh' hB (ha x hx)⟩
theorem hasBs_sh' (hB : B ≤ 300000000) : ∀ {ss : List Sh} {ds : List D}, HasBs B ss ds → HasShs ss ds
  | [], ds, h => by simp only [HasBs] at h; simp only [HasShs]; exact h
  | s :: ss, ds, h => by
    simp only [HasBs] at h; obtain ⟨d, r, hd, h1, h2⟩ := h
    simp only [HasShs]; exact ⟨d, r, hd, hasB_sh' hB h1, hasBs_sh' hB h2⟩
end
theorem hasBs_sh {ss : List Sh} {ds : List D} (h : HasBs B ss ds) (hB : B ≤ 300000000 := by decide) : HasShs ss ds := hasBs_sh' hB h
theorem app_ble {n bytes : Nat} (h : n ≤ 300000000) (hb : bytes ≤ 80) : Nat.ble (Nat.mul (Nat.add (Nat.mul 4 n) 4000) (Nat.succ bytes)) 100000000000 = true := by
  rw [Nat.ble_eq]
  have h1 : 4 * n + 4000 ≤ 1200004000 := by omega
  have h2 : bytes + 1 ≤ 81 := by omega
  exact Nat.le_trans (Nat.mul_le_mul h1 h2) (Nat.le_of_ble_eq_true rfl)
theorem vs_app {el sz bytes : Nat} {a b : D} {e : Sh} (ha : HasB B (.sl el sz e) a) (hb : HasB B (.sl el sz e) b) (hbytes : bytes ≤ 80) (hl : a.es.length + b.es.length ≤ B) (hB : B ≤ 300000000 := by decide) :
    ∃ y, TOp.eval E (.app el sz bytes) [a, b] = some y ∧ y.es.length = a.es.length + b.es.length ∧ HasB B (.sl el sz e) y := by
  have hss : strSize a = some a.es.length := by
    simp only [HasB] at ha
    rcases ha with rfl | ⟨es, rfl, _⟩ <;> rfl
  rw [ev_app, hss]
  simp only [HasB] at hb
  rcases hb with rfl | ⟨es, rfl, hbl, hbe⟩
  · refine ⟨a, ?_, by simp [D.es], ha⟩
    have h1 : Nat.ble (Nat.mul (Nat.add (Nat.mul 4 a.es.length) 4000) (Nat.succ bytes)) 100000000000 = true := app_ble (by have : (D.nil).es.length = 0 := rfl; omega) hbytes
    have e0 : ∀ (b : Bool) (x : Option D), b = true → (bif b then x else none) = x := fun b x hb => by rw [hb]; rfl
    exact e0 _ _ h1
  · have h1 : Nat.ble (Nat.mul (Nat.add (Nat.mul 4 (Nat.add a.es.length es.length)) 4000) (Nat.succ bytes)) 100000000000 = true := app_ble (Nat.le_trans hl hB) hbytes
    have h2 : Nat.beq sz sz = true := Nat.beq_refl _
    have tt : ∀ (b : Bool) (x y : Option D), b = true → (bif b then x else y) = x := fun b x y hb => by rw [hb]; rfl
    simp only [HasB] at ha
    rcases ha with rfl | ⟨es', rfl, hal, hae⟩
    · refine ⟨if es.length = 0 then .nil else .sl el sz ([] ++ es), (tt _ _ _ (by rw [h1, h2]; rfl)).trans ?_, ?_, ?_⟩
      · rw [bif_beq]; split <;> rfl
      · split
        · rename_i h0; show 0 = 0 + es.length; omega
        · show ([] ++ es).length = 0 + es.length; simp
      · split
        · exact hb_nil
        · exact hb_sl (by simpa using hbl) (by simpa using hbe)
    · have hl' : es'.length + es.length ≤ B := hl
      refine ⟨if es.length = 0 then .sl el sz es' else .sl el sz (es' ++ es), (tt _ _ _ (by rw [h1, h2]; show (true && true && (Nat.beq el el && Nat.beq sz sz)) = true; rw [Nat.beq_refl, Nat.beq_refl]; rfl)).trans ?_, ?_, ?_⟩
      · rw [bif_beq]; split <;> rfl
      · split
        · rename_i h0; show es'.length = es'.length + es.length; omega
        · show (es' ++ es).length = es'.length + es.length; simp
      · split
        · exact hb_sl hal hae
        · refine hb_sl (by rw [List.length_append]; exact hl') fun x hx => ?_
          rcases List.mem_append.1 hx with hx | hx
          · exact hae x hx
          · exact hbe x hx
end
end Go.Am
namespace Go.Am
open Go
theorem all_n {P : D → Prop} : ∀ x ∈ ([] : List D), P x := fun _ h => by cases h
theorem all_c {P : D → Prop} {a : D} {l : List D} (h : P a) (hl : ∀ x ∈ l, P x) : ∀ x ∈ a :: l, P x := List.forall_mem_cons.2 ⟨h, hl⟩
section
variable {E : Env} {B : Nat}
theorem vs_lit {el sz : Nat} {xs : List D} {e : Sh} (hc : xs.all (fun x => Nat.beq x.cells.length sz) = true) (hx : ∀ x ∈ xs, HasB B e x) (hz : Nat.ble (Nat.mul xs.length (Nat.succ sz)) 1000000 = true) (hl : Nat.ble xs.length B = true) :
    ∃ y, TOp.eval E (.lit el sz) xs = some y ∧ y.es.length = xs.length ∧ HasB B (.sl el sz e) y ∧ ∃ es, y = .sl el sz es := by
  refine ⟨.sl el sz xs, ?_, rfl, hb_sl (Nat.le_of_ble_eq_true hl) hx, _, rfl⟩
  rw [ev_lit, hc, hz]; rfl
theorem nat_int {n : Int} (h : 0 ≤ n) : natD (dI n) = some n.toNat := by
  have e : dI n = dI ((n.toNat : Nat) : Int) := toNat_dI h
  rw [e]; rfl
theorem tt_bif {b : Bool} {x y : Option D} (h : b = true) : (bif b then x else y) = x := by rw [h]; rfl
theorem vs_lo {el sz : Nat} {l : D} {e : Sh} {j : Int} (hl : HasB B (.sl el sz e) l) (h0 : 0 ≤ j) (h1 : j ≤ (l.es.length : Int)) :
    ∃ y, TOp.eval E (.slc el sz true false) [l, dI j] = some y ∧ (y.es.length : Int) = (l.es.length : Int) - j ∧ HasB B (.sl el sz e) y := by
  have hl' := hl
  simp only [HasB] at hl'
  rcases hl' with rfl | ⟨es, rfl, hb2, ha⟩
  · have hj : j = 0 := by have : (D.nil).es.length = 0 := rfl; omega
    subst hj
    exact ⟨.nil, rfl, rfl, hb_nil⟩
  · refine ⟨.sl el sz (es.drop j.toNat), ?_, ?_, hb_sl (by rw [List.length_drop]; omega) fun x hx => ha x (List.mem_of_mem_drop hx)⟩
    · rw [ev_slc]
      have hb0 : boundD true 0 [dI j] = some (j.toNat, []) := by simp only [boundD, cond_true, nat_int h0, Option.map_some]
      have hb' : boundD false es.length ([] : List D) = some (es.length, []) := rfl
      simp only [hb0, hb']
      have hle : j.toNat ≤ es.length := by have : (D.sl el sz es).es.length = es.length := rfl; omega
      refine (tt_bif ?_).trans ?_
      · rw [Nat.beq_refl, Nat.beq_refl, Nat.ble_eq_true_of_le hle, Nat.ble_eq_true_of_le (Nat.le_refl _)]; rfl
      · rw [List.take_of_length_le (by rw [List.length_drop]; omega)]
    · show ((es.drop j.toNat).length : Int) = (es.length : Int) - j
      have : (D.sl el sz es).es.length = es.length := rfl
      rw [List.length_drop]; omega
theorem vs_sub {s : ByteArray} {i j : Int} (h0 : 0 ≤ i) (h1 : i ≤ j) (h2 : j ≤ (s.size : Int)) (hs : s.size ≤ B) :
    ∃ t : ByteArray, t.size ≤ B ∧ TOp.eval E (.sub true true) [.leaf (.string s), dI i, dI j] = some (.leaf (.string t)) := by
  refine ⟨s.extract i.toNat j.toNat, ?_, ?_⟩
  · rw [ByteArray.size_extract]; omega
  · rw [ev_sub]
    have hb0 : boundD true 0 [dI i, dI j] = some (i.toNat, [dI j]) := by simp only [boundD, cond_true, nat_int h0, Option.map_some]
    have hb1 : boundD true s.size [dI j] = some (j.toNat, []) := by simp only [boundD, cond_true, nat_int (by omega : 0 ≤ j), Option.map_some]
    simp only [hb0, hb1]
    exact tt_bif (by rw [Nat.ble_eq_true_of_le (by omega), Nat.ble_eq_true_of_le (by omega)]; rfl)
theorem vs_mk {el sz bytes : Nat} {ag : Bool} {z : List Value} {n : Int} {e : Sh} (h0 : 0 ≤ n) (h1 : n ≤ (B : Int)) (hz : (Nat.beq z.length sz && z.all (fun v => flatV v && oneCell v) && (ag || Nat.beq sz 1)) = true) (hb : bytes + sz ≤ 2)
    (he : HasB B e (zD ag z)) (hB : B ≤ 300000000 := by decide) : ∃ y, TOp.eval E (.mk el sz bytes ag z) [dI n] = some y ∧ (y.es.length : Int) = n ∧ HasB B (.sl el sz e) y := by
  refine ⟨.sl el sz (List.replicate n.toNat (zD ag z)), ?_, ?_, hb_sl (by rw [List.length_replicate]; omega) fun x hx => by rw [List.eq_of_mem_replicate hx]; exact he⟩
  · rw [ev_mk, nat_int h0]
    have hle : n.toNat * (bytes + sz + 1) ≤ 1000000000 := by
      have : n.toNat * (bytes + sz + 1) ≤ 300000000 * 3 := Nat.mul_le_mul (by omega) (by omega)
      omega
    exact tt_bif (by rw [hz]; exact Nat.ble_eq_true_of_le hle)
  · show ((List.replicate n.toNat (zD ag z)).length : Int) = _
    rw [List.length_replicate]; omega
theorem vs_set {el : Nat} {y x : D} {i : Int} {e : Sh} (hy : HasB B (.sl el 1 e) y) (h0 : 0 ≤ i) (h1 : i < (y.es.length : Int)) (hx : HasB B e x) (hone : ∀ d, HasB B e d → d.one = true) :
    ∃ y', TOp.eval E (.set 1 false 1 0) [y, dI i, x] = some y' ∧ y'.es.length = y.es.length ∧ HasB B (.sl el 1 e) y' := by
  have hy' := hy
  simp only [HasB] at hy'
  rcases hy' with rfl | ⟨es, rfl, hl, ha⟩
  · have : (D.nil).es.length = 0 := rfl
    omega
  · have hlt : i.toNat < es.length := by have : (D.sl el 1 es).es.length = es.length := rfl; omega
    have hg : es[i.toNat]? = some es[i.toNat] := List.getElem?_eq_getElem hlt
    have he0 := hone _ (ha _ (List.getElem_mem hlt))
    have hx0 := hone _ hx
    have hxc : x.cells = [x] := by cases x <;> first | rfl | (simp [D.one] at hx0)
    refine ⟨.sl el 1 (es.set i.toNat x), ?_, by show (es.set i.toNat x).length = _; rw [List.length_set]; rfl, hb_sl (by rw [List.length_set]; exact hl) fun d hd => ?_⟩
    · rw [ev_set, nat_int h0]
      have hck : chkD false 1 x = some x := by
        show (bif x.one && Nat.beq 1 1 then some x else none) = some x
        rw [hx0]; rfl
      simp only [hck, hg]
      refine (tt_bif (by rfl)).trans ?_
      rw [hxc]
      have : setP es[i.toNat] 0 [x] = x := by
        generalize es[i.toNat] = q at he0
        cases q <;> first | rfl | (simp [D.one] at he0)
      rw [this]
    · rcases List.mem_or_eq_of_mem_set hd with hd | rfl
      · exact ha d hd
      · exact hx
theorem one_bool : ∀ d, HasB B .bool d → d.one = true := fun d h => by simp only [HasB] at h; obtain ⟨b, rfl⟩ := h; rfl
theorem bytes_some : ∀ {es : List D}, (∀ x ∈ es, HasB B (.int .u8) x) → ∃ l, bytesD es = some l ∧ l.length = es.length
  | [], _ => ⟨[], rfl, rfl⟩
  | x :: es, h => by
    obtain ⟨l, h1, h2⟩ := bytes_some (es := es) fun y hy => h y (List.mem_cons_of_mem _ hy)
    have hx := h x List.mem_cons_self
    simp only [HasB] at hx
    obtain ⟨n, rfl⟩ := hx
    exact ⟨UInt8.ofNat n.toNat :: l, by simp only [bytesD, h1, Option.map_some], by simp [h2]⟩
theorem vs_bstr {el : Nat} {y : D} (hy : HasB B (.sl el 1 (.int .u8)) y) (hn : ∃ es, y = .sl el 1 es) : ∃ t : ByteArray, t.size ≤ B ∧ TOp.eval E .bstr [y] = some (.leaf (.string t)) := by
  obtain ⟨es, rfl⟩ := hn
  have hy' := hy
  simp only [HasB] at hy'
  rcases hy' with h | ⟨es', h, hl, ha⟩
  · cases h
  · cases h
    obtain ⟨l, h1, h2⟩ := bytes_some (B := B) ha
    refine ⟨⟨⟨l⟩⟩, ?_, ?_⟩
    · show (Array.mk l).size ≤ _
      simp [h2]; exact hl
    · rw [ev_str]
      simp only [h1, Option.map_some]
      rfl
end
end Go.Am
namespace Go.Am
open Go
def isF : D → Bool
  | .leaf (.bool false) => true
  | _ => false
def cntF (d : D) : Nat := (d.es.filter isF).length
theorem cntF_le (d : D) : cntF d ≤ d.es.length := List.length_filter_le _ _
theorem filter_set {l : List D} {i : Nat} {x : D} (h : l[i]? = some x) (hx : isF x = true) (y : D) (hy : isF y = false) : ((l.set i y).filter isF).length + 1 = (l.filter isF).length := by
  induction l generalizing i with
  | nil => simp at h
  | cons a l ih =>
    cases i with
    | zero =>
      simp only [List.getElem?_cons_zero, Option.some.injEq] at h
      subst h
      simp [hx, hy]
    | succ i =>
      simp only [List.getElem?_cons_succ] at h
      have := ih h
      cases ha : isF a <;> simp [ha] <;> omega
section
variable {E : Env} {B : Nat}
theorem vs_setC {el : Nat} {y : D} {i : Int} (hy : HasB B (.sl el 1 .bool) y) (h0 : 0 ≤ i) (h1 : i < (y.es.length : Int)) (he : y.es[i.toNat]? = some (dB false)) :
    ∃ y', TOp.eval E (.set 1 false 1 0) [y, dI i, dB true] = some y' ∧ y'.es.length = y.es.length ∧ HasB B (.sl el 1 .bool) y' ∧ cntF y' + 1 = cntF y := by
  obtain ⟨y', e1, e2, e3⟩ := vs_set (E := E) hy h0 h1 (hb_bool (b := true)) one_bool
  refine ⟨y', e1, e2, e3, ?_⟩
  have hy' := hy
  simp only [HasB] at hy'
  rcases hy' with rfl | ⟨es, rfl, hl, ha⟩
  · simp [D.es] at he
  · have he' : es[i.toNat]? = some (dB false) := he
    rw [ev_set, nat_int h0] at e1
    have hck : chkD false 1 (dB true) = some (dB true) := rfl
    simp only [hck, he'] at e1
    have e1' : some (D.sl el 1 (es.set i.toNat (dB true))) = some y' := e1
    cases e1'
    exact filter_set he' rfl _ rfl
end
theorem wp_retTo2 {E : Env} {HS : FuncId → List D → D → Prop} {Ts : Nat → Tree} {xs : List SV} {ρ ds : List D} {d : D} (hx : SV.ds (getD ρ) xs = ds) (h : retD ds = d) : wp E HS (To E HS Ts d) (.ret xs) ρ := by
  simp only [wp, hx, To]; exact h
end Go.Am
namespace Go.Am
open Go
section
variable {E : Env} {B : Nat}
end
end Go.Am
namespace Go.Am
open Go
def pd (p : Int × Int) : D := .agg [dI p.1, dI p.2]
def mn (x y : Int) : Int := if y < x then y else x
def mx (x y : Int) : Int := if x < y then y else x
def rt (x y : Int) : Bool := decide (x ≥ 0) && (decide (x < y) && decide (y ≤ 86400000))
def wo (s p : Int × Int) : List (Int × Int) :=
  (if rt p.1 (mn p.2 s.1) = true then [(p.1, mn p.2 s.1)] else []) ++ (if rt (mx p.1 s.2) p.2 = true then [(mx p.1 s.2, p.2)] else [])
def Srt (l : List (Int × Int)) : Prop := l.Pairwise (fun p q => p.2 ≤ q.1) ∧ ∀ p ∈ l, p.1 < p.2
theorem rt_lt {x y : Int} (h : rt x y = true) : x < y := by
  unfold rt at h
  simp only [Bool.and_eq_true, decide_eq_true_eq] at h
  exact h.2.1
theorem mn_le (x y : Int) : mn x y ≤ x ∧ mn x y ≤ y := by unfold mn; split <;> omega
theorem mx_ge (x y : Int) : x ≤ mx x y ∧ y ≤ mx x y := by unfold mx; split <;> omega
theorem wo_mem {s p q : Int × Int} (h : q ∈ wo s p) : p.1 ≤ q.1 ∧ q.2 ≤ p.2 ∧ q.1 < q.2 := by
  have a := mn_le p.2 s.1
  have b := mx_ge p.1 s.2
  unfold wo at h
  rcases List.mem_append.1 h with h | h
  · split at h
    · rename_i hr
      have := rt_lt hr
      simp only [List.mem_singleton] at h
      subst h
      exact ⟨Int.le_refl _, a.1, this⟩
    · cases h
  · split at h
    · rename_i hr
      have := rt_lt hr
      simp only [List.mem_singleton] at h
      subst h
      exact ⟨b.1, Int.le_refl _, this⟩
    · cases h
theorem wo_two (s p : Int × Int) : (wo s p).length ≤ 1 ∨ (p.1 < s.1 ∧ s.2 < p.2 ∧ (wo s p).length = 2) := by
  have a := mn_le p.2 s.1
  have b := mx_ge p.1 s.2
  unfold wo
  by_cases h1 : rt p.1 (mn p.2 s.1) = true
  · by_cases h2 : rt (mx p.1 s.2) p.2 = true
    · right
      have := rt_lt h1
      have := rt_lt h2
      rw [if_pos h1, if_pos h2]
      exact ⟨by omega, by omega, rfl⟩
    · left; rw [if_pos h1, if_neg h2]; exact Nat.le_refl _
  · left
    rw [if_neg h1]
    split
    · exact Nat.le_refl _
    · exact Nat.zero_le _
theorem wo_one {s p : Int × Int} (h : s.1 ≤ p.1) : (wo s p).length ≤ 1 := by
  rcases wo_two s p with h' | ⟨h1, _, _⟩
  · exact h'
  · omega
theorem wo_few {s : Int × Int} : ∀ {l : List (Int × Int)}, (∀ q ∈ l, s.1 ≤ q.1) → (l.flatMap (wo s)).length ≤ l.length
  | [], _ => Nat.le_refl _
  | p :: t, h => by
    have := wo_one (s := s) (p := p) (h p List.mem_cons_self)
    have := wo_few (s := s) (l := t) fun q hq => h q (List.mem_cons_of_mem _ hq)
    rw [List.flatMap_cons, List.length_append, List.length_cons]
    omega
theorem wo_len {s : Int × Int} (hs : s.1 < s.2) : ∀ {l : List (Int × Int)}, Srt l → (l.flatMap (wo s)).length ≤ l.length + 1
  | [], _ => Nat.zero_le _
  | p :: t, h => by
    obtain ⟨h1, h2⟩ := h
    rw [List.pairwise_cons] at h1
    rw [List.flatMap_cons, List.length_append, List.length_cons]
    rcases wo_two s p with h' | ⟨_, h3, h4⟩
    · have := wo_len hs (l := t) ⟨h1.2, fun q hq => h2 q (List.mem_cons_of_mem _ hq)⟩
      omega
    · have := wo_few (s := s) (l := t) fun q hq => by have := h1.1 q hq; omega
      omega
theorem wo_srt {s : Int × Int} (hs : s.1 < s.2) {l : List (Int × Int)} (h : Srt l) : Srt (l.flatMap (wo s)) := by
  obtain ⟨h1, h2⟩ := h
  refine ⟨List.pairwise_flatMap.2 ⟨fun p _ => ?_, h1.imp_of_mem ?_⟩, fun q hq => ?_⟩
  · have a := mn_le p.2 s.1
    have b := mx_ge p.1 s.2
    unfold wo
    split
    · split
      · refine List.pairwise_cons.2 ⟨fun q (hq : q ∈ [(mx p.1 s.2, p.2)]) => ?_, List.pairwise_singleton _ _⟩
        rw [List.mem_singleton] at hq
        subst hq
        show mn p.2 s.1 ≤ mx p.1 s.2
        omega
      · exact List.pairwise_singleton _ _
    · split
      · exact List.pairwise_singleton _ _
      · exact List.Pairwise.nil
  · intro p q _ _ hpq x hx y hy
    have := wo_mem hx
    have := wo_mem hy
    omega
  · obtain ⟨p, _, hq⟩ := List.mem_flatMap.1 hq
    exact (wo_mem hq).2.2
theorem srt_nil : Srt [] := ⟨List.Pairwise.nil, fun _ h => by cases h⟩
theorem srt_one {p : Int × Int} (h : p.1 < p.2) : Srt [p] := ⟨List.pairwise_singleton _ _, fun q hq => by rw [List.mem_singleton] at hq; subst hq; exact h⟩
section
variable {E : Env}
theorem mm_mn {x y : Int} : TOp.eval E (.mm false) [dI x, dI y] = some (dI (mn x y)) := rfl
theorem mm_mx {x y : Int} : TOp.eval E (.mm true) [dI x, dI y] = some (dI (mx x y)) := rfl
theorem mm_ex (m : Bool) (x y : Int) : ∃ w : Int, TOp.eval E (.mm m) [dI x, dI y] = some (dI w) := by
  cases m
  · exact ⟨_, mm_mn⟩
  · exact ⟨_, mm_mx⟩
theorem lit_no {el : Nat} : TOp.eval E (.lit el 2) [] = some (.sl el 2 []) := rfl
theorem lit_pd {el : Nat} {q : Int × Int} : TOp.eval E (.lit el 2) [pd q] = some (.sl el 2 [pd q]) := rfl
def sp (el : Nat) (l : List (Int × Int)) : D := .sl el 2 (l.map pd)
theorem sp_sl {el : Nat} {l : List (Int × Int)} (h : l.length ≤ 600000000) : IsSl el 2 (sp el l) := .inr ⟨_, rfl, by rw [List.length_map]; unfold capX; omega⟩
theorem sp_len {el : Nat} {l : List (Int × Int)} : TOp.eval E (.len false) [sp el l] = some (dI ((l.length : Nat) : Int)) := by
  show some (D.leaf (goInt (l.map pd).length)) = _
  rw [List.length_map]; rfl
theorem sp_app {el : Nat} {l : List (Int × Int)} {q : Int × Int} (h : l.length ≤ 600000000) : TOp.eval E (.app el 2 16) [sp el l, .sl el 2 [pd q]] = some (sp el (l ++ [q])) := by
  rw [ev_app]
  have hss : strSize (sp el l) = some l.length := by show some (l.map pd).length = _; rw [List.length_map]
  rw [hss]
  have hle : Nat.ble (Nat.mul (Nat.add (Nat.mul 4 (Nat.add l.length 1)) 4000) (Nat.succ 16)) 100000000000 = true := Nat.ble_eq_true_of_le (by show (4 * (l.length + 1) + 4000) * 17 ≤ _; omega)
  refine (tt_bif ?_).trans ?_
  · show (Nat.ble (Nat.mul (Nat.add (Nat.mul 4 (Nat.add l.length 1)) 4000) (Nat.succ 16)) 100000000000 && _ && _) = true
    rw [hle]
    show (Nat.beq el el && true) = true
    rw [Nat.beq_refl]; rfl
  · show some (D.sl el 2 ((l.map pd) ++ [pd q])) = some (.sl el 2 ((l ++ [q]).map pd))
    rw [List.map_append]; rfl
theorem app_no {el : Nat} {x y : Int} : TOp.eval E (.app el 2 16) [sp el [(x, y)], sp el []] = some (sp el [(x, y)]) := by
  rw [ev_app]
  have hss : strSize (sp el [(x, y)]) = some 1 := rfl
  rw [hss]
  have hle : Nat.ble (Nat.mul (Nat.add (Nat.mul 4 (Nat.add 1 0)) 4000) (Nat.succ 16)) 100000000000 = true := Nat.ble_eq_true_of_le (by decide)
  refine (tt_bif ?_).trans ?_
  · show (Nat.ble (Nat.mul (Nat.add (Nat.mul 4 (Nat.add 1 0)) 4000) (Nat.succ 16)) 100000000000 && _ && _) = true
    rw [hle]
    show (Nat.beq el el && true) = true
    rw [Nat.beq_refl]; rfl
  · rfl
theorem sp_at {el i : Nat} {l : List (Int × Int)} {x : Int × Int} (h : l[i]? = some x) : (sp el l).es[((i : Nat) : Int).toNat]? = some (pd x) := by
  show (l.map pd)[i]? = _
  rw [List.getElem?_map, h]; rfl
end
end Go.Am
