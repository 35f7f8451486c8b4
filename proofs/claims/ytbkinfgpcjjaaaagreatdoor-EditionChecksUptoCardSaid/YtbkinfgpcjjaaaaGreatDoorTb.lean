/- Data checked symbolically: lists that grow and are cut. Conditions: none. -/
import Derived.Test.YtbkinfgpcjjaaaaGreatDoorTa
set_option linter.all false
namespace Go.Am.Tt
open Go Go.Am
def Ls (el sz : Nat) (d : D) : Prop := d = .nil ∨ ∃ es, d = .sl el sz es
theorem sl_iff {el sz b : Nat} {e : Sn} {d : D} : HasN (.sl el sz b e) d ↔ Ls el sz d ∧ d.es.length ≤ b ∧ ∀ x ∈ d.es, HasN e x := by
  constructor
  · intro h
    simp only [HasN] at h
    rcases h with rfl | ⟨es, rfl, hl, ha⟩
    · exact ⟨.inl rfl, Nat.zero_le _, fun x hx => by cases hx⟩
    · exact ⟨.inr ⟨es, rfl⟩, hl, ha⟩
  · rintro ⟨h, hl, ha⟩
    simp only [HasN]
    rcases h with rfl | ⟨es, rfl⟩
    · exact .inl rfl
    · exact .inr ⟨es, rfl, hl, ha⟩
section
variable {E : Env} {σ : Wd} {C : Cx}
theorem app_gen {el sz bytes : Nat} {a b : D} (ha : Ls el sz a) (hb : Ls el sz b) (hbytes : bytes ≤ 80) (hl : a.es.length + b.es.length ≤ 300000000) :
    ∃ y, TOp.eval E (.app el sz bytes) [a, b] = some y ∧ Ls el sz y ∧ y.es = a.es ++ b.es := by
  have hss : strSize a = some a.es.length := by
    rcases ha with rfl | ⟨es, rfl⟩ <;> rfl
  rw [ev_app, hss]
  rcases hb with rfl | ⟨es, rfl⟩
  · refine ⟨a, ?_, ha, by simp [D.es]⟩
    have h1 : Nat.ble (Nat.mul (Nat.add (Nat.mul 4 a.es.length) 4000) (Nat.succ bytes)) 100000000000 = true := app_ble (by have : (D.nil).es.length = 0 := rfl; omega) hbytes
    have e0 : ∀ (b : Bool) (x : Option D), b = true → (bif b then x else none) = x := fun b x hb => by rw [hb]; rfl
    exact e0 _ _ h1
  · have h1 : Nat.ble (Nat.mul (Nat.add (Nat.mul 4 (Nat.add a.es.length es.length)) 4000) (Nat.succ bytes)) 100000000000 = true := app_ble hl hbytes
    have h2 : Nat.beq sz sz = true := Nat.beq_refl _
    have tt : ∀ (b : Bool) (x y : Option D), b = true → (bif b then x else y) = x := fun b x y hb => by rw [hb]; rfl
    rcases ha with rfl | ⟨es', rfl⟩
    · refine ⟨if es.length = 0 then .nil else .sl el sz ([] ++ es), (tt _ _ _ (by rw [h1, h2]; rfl)).trans ?_, ?_, ?_⟩
      · rw [bif_beq]; split <;> rfl
      · split
        · exact .inl rfl
        · exact .inr ⟨_, rfl⟩
      · split
        · rename_i h0
          have := List.eq_nil_of_length_eq_zero h0
          subst this; rfl
        · rfl
    · refine ⟨if es.length = 0 then .sl el sz es' else .sl el sz (es' ++ es), (tt _ _ _ (by rw [h1, h2]; show (true && true && (Nat.beq el el && Nat.beq sz sz)) = true; rw [Nat.beq_refl, Nat.beq_refl]; rfl)).trans ?_, ?_, ?_⟩
      · rw [bif_beq]; split <;> rfl
      · split
        · exact .inr ⟨_, rfl⟩
        · exact .inr ⟨_, rfl⟩
      · split
        · rename_i h0
          have := List.eq_nil_of_length_eq_zero h0
          subst this
          show es' = es' ++ []
          simp
        · rfl
theorem app_ok (hC : COk σ C) {el sz bytes n1 b1 n2 b2 : Nat} {e : Sn} {a c : D} (ha : relY σ (.sl n1 el sz b1 e) a) (hc : relY σ (.sl n2 el sz b2 e) c) (hbytes : Nat.ble bytes 80 = true)
    {m k m' k' : Nat} (hm : ent C.F C.L n1 0 0 m = true) (hk : ent C.F C.L n2 0 0 k = true) (hm' : ent C.F C.L 0 m' n1 0 = true) (hk' : ent C.F C.L 0 k' n2 0 = true) (hmk : Nat.ble (m + k) 300000000 = true) :
    OpS E σ (.app el sz bytes) [a, c] (C.add [(n1, C.nx, -(k' : Int)), (C.nx, n1, (k : Int)), (n2, C.nx, -(m' : Int)), (C.nx, n2, (m : Int))] [(C.nx, m + k)] [] 1, .sl C.nx el sz (m + k) e) := by
  simp only [relY] at ha hc
  obtain ⟨ha0, ha1⟩ := ha
  obtain ⟨hc0, hc1⟩ := hc
  have l1 := ent_zero hC ha0 hm
  have l2 := ent_zero hC hc0 hk
  obtain ⟨z, hz⟩ := hC.s.z
  have l3 := ent_ok hC.s hm' hz ha0
  have l4 := ent_ok hC.s hk' hz hc0
  simp only at l1 l2 l3 l4
  have hmk := Nat.le_of_ble_eq_true hmk
  rw [sl_iff] at ha1 hc1
  obtain ⟨y, e1, e2, e3⟩ := app_gen (E := E) ha1.1 hc1.1 (Nat.le_of_ble_eq_true hbytes) (by omega)
  have hlen : y.es.length = a.es.length + c.es.length := by rw [e3, List.length_append]
  refine .list hC e1 (sl_iff.2 ⟨e2, by omega, fun x hx => ?_⟩) ?_
  · rw [e3] at hx
    rcases List.mem_append.1 hx with hx | hx
    · exact ha1.2.2 x hx
    · exact hc1.2.2 x hx
  · intro q hq
    simp only [List.mem_cons, List.not_mem_nil, or_false] at hq
    rcases hq with rfl | rfl | rfl | rfl
    · exact ⟨_, _, get_app ha0, get_new hC _, by simp only; omega⟩
    · exact ⟨_, _, get_new hC _, get_app ha0, by simp only; omega⟩
    · exact ⟨_, _, get_app hc0, get_new hC _, by simp only; omega⟩
    · exact ⟨_, _, get_new hC _, get_app hc0, by simp only; omega⟩
theorem hi_ok (hC : COk σ C) {el sz n b v : Nat} {c : Int} {e : Sn} {l i : D} (hl : relY σ (.sl n el sz b e) l) (hi : relY σ (.int .i64 v c) i) (hb : Nat.ble b 300000000 = true)
    (h0 : ent C.F C.L 0 0 v c = true) (h1 : ent C.F C.L v c n 0 = true) :
    OpS E σ (.slc el sz false true) [l, i] (C.add [(C.nx, v, c), (v, C.nx, -c)] [(C.nx, b)] [] 1, .sl C.nx el sz b e) := by
  simp only [relY] at hl hi
  obtain ⟨x, hx, rfl⟩ := hi
  obtain ⟨hl0, hl1⟩ := hl
  obtain ⟨z, hz⟩ := hC.s.z
  have l0 := ent_ok hC.s h0 hz hx
  have l1 := ent_ok hC.s h1 hx hl0
  simp only at l0 l1
  have hl2 := hl1
  simp only [HasN] at hl2
  rcases hl2 with rfl | ⟨es, rfl, hlen, ha⟩
  · have hz' : (D.nil).es.length = 0 := rfl
    rw [hz'] at l1 hl0
    have hj : x.1 + c = 0 := by omega
    refine .list hC (d := .nil) ?_ hl1 (f2 ⟨_, _, get_new hC _, get_app hx, by simp only [hz']; omega⟩ ⟨_, _, get_app hx, get_new hC _, by simp only [hz']; omega⟩)
    show TOp.eval E (.slc el sz false true) [.nil, dI (x.1 + c)] = _
    rw [hj]; rfl
  · have he : (D.sl el sz es).es.length = es.length := rfl
    rw [he] at l1 hl0
    have hev : TOp.eval E (.slc el sz false true) [.sl el sz es, dI (x.1 + c)] = some (.sl el sz (es.take (x.1 + c).toNat)) := by
      rw [ev_slc]
      have hb0 : boundD false 0 [dI (x.1 + c)] = some (0, [dI (x.1 + c)]) := rfl
      have hb' : boundD true es.length [dI (x.1 + c)] = some ((x.1 + c).toNat, []) := by simp only [boundD, cond_true, nat_int (by omega : 0 ≤ x.1 + c), Option.map_some]
      simp only [hb0, hb']
      refine (tt_bif ?_).trans ?_
      · rw [Nat.beq_refl, Nat.beq_refl, Nat.ble_eq_true_of_le (Nat.zero_le _), Nat.ble_eq_true_of_le (by omega)]; rfl
      · simp
    have hn : ((es.take (x.1 + c).toNat).length : Int) = x.1 + c := by rw [List.length_take]; omega
    have hn' : ((D.sl el sz (es.take (x.1 + c).toNat)).es.length : Int) = x.1 + c := hn
    refine .list hC hev (by simp only [HasN]; exact .inr ⟨_, rfl, by rw [List.length_take]; omega, fun y hy => ha y (List.mem_of_mem_take hy)⟩) (f2 ⟨_, _, get_new hC _, get_app hx, by simp only [hn']; omega⟩ ⟨_, _, get_app hx, get_new hC _, by simp only [hn']; omega⟩)
end
end Go.Am.Tt
namespace Go.Am.Tt
open Go Go.Am
section
variable {E : Env} {σ : Wd} {C : Cx}
theorem lo_ok (hC : COk σ C) {el sz n b v : Nat} {c : Int} {e : Sn} {l i : D} (hl : relY σ (.sl n el sz b e) l) (hi : relY σ (.int .i64 v c) i)
    (h0 : ent C.F C.L 0 0 v c = true) (h1 : ent C.F C.L v c n 0 = true) :
    OpS E σ (.slc el sz true false) [l, i] (C.add [(C.nx, n, 0)] [(C.nx, b)] [] 1, .sl C.nx el sz b e) := by
  simp only [relY] at hl hi
  obtain ⟨x, hx, rfl⟩ := hi
  obtain ⟨hl0, hl1⟩ := hl
  obtain ⟨z, hz⟩ := hC.s.z
  have l0 := ent_ok hC.s h0 hz hx
  have l1 := ent_ok hC.s h1 hx hl0
  simp only at l0 l1
  have hl2 := hl1
  simp only [HasN] at hl2
  rcases hl2 with rfl | ⟨es, rfl, hlen, ha⟩
  · have hz' : (D.nil).es.length = 0 := rfl
    rw [hz'] at l1 hl0
    have hj : x.1 + c = 0 := by omega
    refine .list hC (d := .nil) ?_ hl1 (f1 (get_new hC _) (get_app hl0) (by simp only [hz']; omega))
    show TOp.eval E (.slc el sz true false) [.nil, dI (x.1 + c)] = _
    rw [hj]; rfl
  · have he : (D.sl el sz es).es.length = es.length := rfl
    rw [he] at l1 hl0
    have hev : TOp.eval E (.slc el sz true false) [.sl el sz es, dI (x.1 + c)] = some (.sl el sz (es.drop (x.1 + c).toNat)) := by
      rw [ev_slc]
      have hb0 : boundD true 0 [dI (x.1 + c)] = some ((x.1 + c).toNat, []) := by simp only [boundD, cond_true, nat_int (by omega : 0 ≤ x.1 + c), Option.map_some]
      have hb' : boundD false es.length ([] : List D) = some (es.length, []) := rfl
      simp only [hb0, hb']
      refine (tt_bif ?_).trans ?_
      · rw [Nat.beq_refl, Nat.beq_refl, Nat.ble_eq_true_of_le (by omega), Nat.ble_eq_true_of_le (Nat.le_refl _)]; rfl
      · rw [List.take_of_length_le (by rw [List.length_drop]; omega)]
    have hn' : (D.sl el sz (es.drop (x.1 + c).toNat)).es.length = es.length - (x.1 + c).toNat := List.length_drop
    exact .list hC hev (by simp only [HasN]; exact .inr ⟨_, rfl, by rw [List.length_drop]; omega, fun y hy => ha y (List.mem_of_mem_drop hy)⟩) (f1 (get_new hC _) (get_app hl0) (by simp only [hn']; omega))
theorem OpS.text (hC : COk σ C) {o : TOp} {ds : List D} {s : ByteArray} {b : Nat} (he : TOp.eval E o ds = some (.leaf (.string s))) (hs : s.size ≤ b) {F : List Fact}
    (hF : ∀ q ∈ F, fOk (σ ++ [((s.size : Int), D.nil)]) q) : OpS E σ o ds (C.add F [(C.nx, b)] [] 1, .str C.nx b) := by
  refine ⟨_, [((s.size : Int), .nil)], he, hC.ext hF (fun q hq => ?_) (by simp) rfl, ?_⟩
  · rw [List.mem_singleton] at hq; subst hq
    exact ⟨_, get_new hC _, by simp, by simp; omega⟩
  · simp only [relY]
    exact ⟨s, _, rfl, get_new hC _, rfl, hs⟩
theorem subs_ok (hC : COk σ C) {n b v w : Nat} {c e : Int} {d i j : D} (hd : relY σ (.str n b) d) (hi : relY σ (.int .i64 v c) i) (hj : relY σ (.int .i64 w e) j)
    (h0 : ent C.F C.L 0 0 v c = true) (h1 : ent C.F C.L v c w e = true) (h2 : ent C.F C.L w e n 0 = true) :
    OpS E σ (.sub true true) [d, i, j] (C.add [] [(C.nx, b)] [] 1, .str C.nx b) := by
  simp only [relY] at hd hi hj
  obtain ⟨s, y, rfl, hy, hs, hb⟩ := hd
  obtain ⟨x, hx, rfl⟩ := hi
  obtain ⟨u, hu, rfl⟩ := hj
  obtain ⟨z, hz⟩ := hC.s.z
  have l0 := ent_ok hC.s h0 hz hx
  have l1 := ent_ok hC.s h1 hx hu
  have l2 := ent_ok hC.s h2 hu hy
  simp only at l0
  obtain ⟨t, ht, he⟩ := vs_sub (E := E) (B := b) (s := s) (i := x.1 + c) (j := u.1 + e) (by omega) (by omega) (by omega) hb
  exact .text hC he ht (by simp)
theorem bstr_ok (hC : COk σ C) {n el b : Nat} {d : D} (hd : relY σ (.sl n el 1 b (.int .u8)) d) (h1 : ent C.F C.L 0 1 n 0 = true) :
    OpS E σ .bstr [d] (C.add [] [(C.nx, b)] [] 1, .str C.nx b) := by
  simp only [relY] at hd
  obtain ⟨hd0, hd1⟩ := hd
  obtain ⟨z, hz⟩ := hC.s.z
  have l1 := ent_ok hC.s h1 hz hd0
  simp only at l1
  have hB : HasB b (.sl el 1 (.int .u8)) d := by
    simp only [HasN] at hd1
    simp only [HasB]
    exact hd1
  have hn : ∃ es, d = .sl el 1 es := by
    simp only [HasN] at hd1
    rcases hd1 with rfl | ⟨es, rfl, _⟩
    · have : (D.nil).es.length = 0 := rfl
      omega
    · exact ⟨es, rfl⟩
  obtain ⟨t, ht, he⟩ := vs_bstr (E := E) hB hn
  exact .text hC he ht (by simp)
end
end Go.Am.Tt
namespace Go.Am.Tt
open Go Go.Am
section
variable {E : Env} {σ : Wd} {C : Cx}
def zeroN (e : Sn) (z : D) : Bool := match e, z with
  | .bool, .leaf (.bool _) => true
  | .int k, .leaf (.int k' _) => decide (k = k')
  | _, _ => false
theorem zeroN_ok {e : Sn} {z : D} (h : zeroN e z = true) : HasN e z := by
  unfold zeroN at h
  split at h
  · simp only [HasN]; exact ⟨_, rfl⟩
  · rw [decide_eq_true_eq] at h; subst h; simp only [HasN]; exact ⟨_, rfl⟩
  · cases h
theorem mk_ok (hC : COk σ C) {el sz bytes v b : Nat} {ag : Bool} {zs : List Value} {c : Int} {e : Sn} {i : D} (hi : relY σ (.int .i64 v c) i)
    (h0 : ent C.F C.L 0 0 v c = true) (h1 : ent C.F C.L v c 0 b = true) (hb : Nat.ble b 300000000 = true)
    (hz : (Nat.beq zs.length sz && zs.all (fun v => flatV v && oneCell v) && (ag || Nat.beq sz 1)) = true) (hs : Nat.ble (bytes + sz) 2 = true) (he : zeroN e (zD ag zs) = true) :
    OpS E σ (.mk el sz bytes ag zs) [i] (C.add [(C.nx, v, c), (v, C.nx, -c)] [(C.nx, b)] [] 1, .sl C.nx el sz b e) := by
  simp only [relY] at hi
  obtain ⟨x, hx, rfl⟩ := hi
  obtain ⟨z, hz0⟩ := hC.s.z
  have l0 := ent_ok hC.s h0 hz0 hx
  have l1 := ent_ok hC.s h1 hx hz0
  simp only at l0 l1
  have hbb := Nat.le_of_ble_eq_true hb
  have hev : TOp.eval E (.mk el sz bytes ag zs) [dI (x.1 + c)] = some (.sl el sz (List.replicate (x.1 + c).toNat (zD ag zs))) := by
    rw [ev_mk, nat_int (by omega)]
    have hle : (x.1 + c).toNat * (bytes + sz + 1) ≤ 1000000000 := by
      have : (x.1 + c).toNat * (bytes + sz + 1) ≤ 300000000 * 3 := Nat.mul_le_mul (by omega) (by have := Nat.le_of_ble_eq_true hs; omega)
      omega
    exact tt_bif (by rw [hz]; exact Nat.ble_eq_true_of_le hle)
  have hn : ((D.sl el sz (List.replicate (x.1 + c).toNat (zD ag zs))).es.length : Int) = x.1 + c := by
    show ((List.replicate (x.1 + c).toNat (zD ag zs)).length : Int) = _
    rw [List.length_replicate]; omega
  refine .list hC hev ?_ (f2 ⟨_, _, get_new hC _, get_app hx, by simp only [hn]; omega⟩ ⟨_, _, get_app hx, get_new hC _, by simp only [hn]; omega⟩)
  simp only [HasN]
  exact .inr ⟨_, rfl, by rw [List.length_replicate]; omega, fun y hy => by rw [List.eq_of_mem_replicate hy]; exact zeroN_ok he⟩
theorem strcmp_ok (hC : COk σ C) {ty : TypeId} {a b : Operand} {op : BinOp} (hop : op = .eql ∨ op = .neq) {n b1 m b2 : Nat} {d d' : D} (hd : relY σ (.str n b1) d) (hd' : relY σ (.str m b2) d') :
    OpS E σ (.bin op ty a b) [d, d'] (C, .bool [] []) := by
  simp only [relY] at hd hd'
  obtain ⟨s, _, rfl, _⟩ := hd
  obtain ⟨t, _, rfl, _⟩ := hd'
  have fin : ∀ r : Bool, relY σ (.bool [] []) (dB r) := by
    intro r; simp only [relY]; exact ⟨r, rfl, fun _ q hq => (by cases hq), fun _ q hq => (by cases hq)⟩
  rcases hop with rfl | rfl
  · exact .same hC sh_strE (fin _)
  · exact .same hC sh_strN (fin _)
theorem stcmp_ok (hC : COk σ C) {ty : TypeId} {a b : Operand} {op : BinOp} (hop : op = .neq ∨ op = .eql) {ss : List Sn} {cs cs' : List Y} {d d' : D} {k : Nat} {sh : List Sh}
    (hd : relY σ (.st cs) d) (hd' : relY σ (.st cs') d') (h1 : fitYs C cs ss = true) (h2 : fitYs C cs' ss = true) (hl : Sn.lows ss = true)
    (ht : eqTy E.prog k ty = some sh) (hsh : sh = Sn.shs ss) (hst : isSt E.prog ty = true) (hk : k ≤ 10000) (hg : E.prog.eqGuardType E.prog.depth ty = false) (hf : (Sn.shs ss).all flatS = true) :
    OpS E σ (.bin op ty a b) [d, d'] (C, .bool [] []) := by
  subst hsh
  simp only [relY] at hd hd'
  obtain ⟨as, rfl, ha⟩ := hd
  obtain ⟨bs, rfl, hb⟩ := hd'
  refine .same hC (sh_cmpS op hop ht hst hk hg hf (hasBs_sh (hasNs_B hl (fitYs_ok hC h1 ha))) (hasBs_sh (hasNs_B hl (fitYs_ok hC h2 hb)))) ?_
  simp only [relY]
  exact ⟨_, rfl, fun _ q hq => (by cases hq), fun _ q hq => (by cases hq)⟩
end
end Go.Am.Tt
namespace Go.Am.Tt
open Go Go.Am
section
variable {E : Env} {σ : Wd} {C : Cx}
theorem OpS.after {τ : Wd} {o : TOp} {ds : List D} {r : Cx × Y} (h : OpS E (σ ++ τ) o ds r) : OpS E σ o ds r := by
  obtain ⟨d, τ', h1, h2, h3⟩ := h
  exact ⟨d, τ ++ τ', h1, by rw [← List.append_assoc]; exact h2, by rw [← List.append_assoc]; exact h3⟩
def ubC (C : Cx) (n : Nat) : Nat :=
  let acc := closeA C.F 4 [(n, 0)]
  C.L.foldl (fun m p => match lookA acc p.1 with | some d => Nat.min m (d + p.2).toNat | none => m) (match lookA acc 0 with | some d => d.toNat | none => 300000001)
def lbC (C : Cx) (n : Nat) : Nat := C.F.foldl (fun m q => bif Nat.beq q.1 0 && Nat.beq q.2.1 n then Nat.max m (-q.2.2).toNat else m) 0
def app2 (C : Cx) (el sz bytes : Nat) (n1 el1 sz1 : Nat) (e1 : Sn) (n2 el2 sz2 : Nat) (e2 : Sn) : Option (Cx × Y) :=
  let m := ubC C n1
  let k := ubC C n2
  let m' := lbC C n1
  let k' := lbC C n2
  bif Nat.beq el1 el && Nat.beq sz1 sz && Nat.beq el2 el && Nat.beq sz2 sz && e2.fits e1 && Nat.ble bytes 80 && ent C.F C.L n1 0 0 m && ent C.F C.L n2 0 0 k && ent C.F C.L 0 m' n1 0 && ent C.F C.L 0 k' n2 0 && Nat.ble (m + k) 300000000 then
    some (C.add [(n1, C.nx, -(k' : Int)), (C.nx, n1, (k : Int)), (n2, C.nx, -(m' : Int)), (C.nx, n2, (m : Int))] [(C.nx, m + k)] [] 1, .sl C.nx el sz (m + k) e1) else none
theorem app2_ok (hC : COk σ C) {el sz bytes n1 el1 sz1 b1 n2 el2 sz2 b2 : Nat} {e1 e2 : Sn} {a c : D} {r : Cx × Y} (ha : relY σ (.sl n1 el1 sz1 b1 e1) a) (hc : relY σ (.sl n2 el2 sz2 b2 e2) c)
    (h : app2 C el sz bytes n1 el1 sz1 e1 n2 el2 sz2 e2 = some r) : OpS E σ (.app el sz bytes) [a, c] r := by
  unfold app2 at h
  obtain ⟨hb, h⟩ := bif_none h
  cases h
  simp only [Bool.and_eq_true] at hb
  obtain ⟨⟨⟨⟨⟨⟨⟨⟨⟨⟨a1, a2⟩, a3⟩, a4⟩, a5⟩, a6⟩, a7⟩, a8⟩, a9⟩, a10⟩, a11⟩ := hb
  have a1 := Nat.eq_of_beq_eq_true a1
  have a2 := Nat.eq_of_beq_eq_true a2
  have a3 := Nat.eq_of_beq_eq_true a3
  have a4 := Nat.eq_of_beq_eq_true a4
  subst a1 a2 a3 a4
  have hc' : relY σ (.sl n2 el2 sz2 b2 e1) c := by
    simp only [relY] at hc ⊢
    refine ⟨hc.1, ?_⟩
    have := sl_iff.1 hc.2
    exact sl_iff.2 ⟨this.1, this.2.1, fun x hx => fits_ok a5 (this.2.2 x hx)⟩
  exact app_ok hC ha hc' a6 a7 a8 a9 a10 a11
def nilC (C : Cx) : Cx := C.add [(C.nx, 0, 0)] [(C.nx, 0)] [] 1
theorem nil_ok (hC : COk σ C) (el sz : Nat) (e : Sn) : COk (σ ++ [(0, D.nil)]) (nilC C) ∧ relY (σ ++ [(0, D.nil)]) (.sl C.nx el sz 0 e) .nil := by
  obtain ⟨z, hz⟩ := hC.s.z
  refine ⟨hC.ext (f1 (get_new hC _) (get_app hz) (by simp)) (fun q hq => ?_) (by simp) rfl, ?_⟩
  · rw [List.mem_singleton] at hq; subst hq
    exact ⟨_, get_new hC _, by simp, by simp⟩
  · simp only [relY]
    exact ⟨get_new hC _, sl_iff.2 ⟨.inl rfl, Nat.zero_le _, fun x hx => by cases hx⟩⟩
def appY (C : Cx) (el sz bytes : Nat) : Y → Y → Option (Cx × Y)
  | .sl n1 el1 sz1 _ e1, .sl n2 el2 sz2 _ e2 => app2 C el sz bytes n1 el1 sz1 e1 n2 el2 sz2 e2
  | .nil, .sl n2 el2 sz2 _ e2 => app2 (nilC C) el sz bytes C.nx el sz e2 n2 el2 sz2 e2
  | .sl n1 el1 sz1 _ e1, .nil => app2 (nilC C) el sz bytes n1 el1 sz1 e1 C.nx el sz e1
  | _, _ => none
theorem appY_ok (hC : COk σ C) {el sz bytes : Nat} {y1 y2 : Y} {a c : D} {r : Cx × Y} (ha : relY σ y1 a) (hc : relY σ y2 c) (h : appY C el sz bytes y1 y2 = some r) : OpS E σ (.app el sz bytes) [a, c] r := by
  unfold appY at h
  split at h
  · exact app2_ok hC ha hc h
  · rename_i n2 el2 sz2 b2 e2
    have ha' : a = .nil := by simpa only [relY] using ha
    subst ha'
    obtain ⟨h1, h2⟩ := nil_ok hC el sz e2
    exact .after (app2_ok h1 h2 (relY_app hc) h)
  · rename_i n1 el1 sz1 b1 e1
    have hc' : c = .nil := by simpa only [relY] using hc
    subst hc'
    obtain ⟨h1, h2⟩ := nil_ok hC el sz e1
    exact .after (app2_ok h1 (relY_app ha) h2 h)
  · cases h
end
end Go.Am.Tt
namespace Go.Am.Tt
open Go Go.Am
section
variable {E : Env} {σ : Wd} {C : Cx}
abbrev Rs := Option (Cx × Y)
def lenY (C : Cx) (str : Bool) : List Y → Rs
  | [.sl n _ _ _ _] => bif str then none else some (C, .int .i64 n 0)
  | [.nil] => bif str then none else some (C, .int .i64 0 0)
  | [.str n _] => bif str then some (C, .int .i64 n 0) else none
  | _ => none
theorem lenY_ok (hC : COk σ C) {str : Bool} {ys : List Y} {ds : List D} {r : Cx × Y} (hd : relYs σ ys ds) (h : lenY C str ys = some r) : OpS E σ (.len str) ds r := by
  unfold lenY at h
  split at h
  · simp only [relYs] at hd
    obtain ⟨d, _, rfl, h1, rfl⟩ := hd
    cases str with
    | true => cases h
    | false => cases h; exact len_sl hC h1
  · simp only [relYs, relY] at hd
    obtain ⟨d, _, rfl, rfl, rfl⟩ := hd
    cases str with
    | true => cases h
    | false => cases h; exact len_nil hC
  · simp only [relYs] at hd
    obtain ⟨d, _, rfl, h1, rfl⟩ := hd
    cases str with
    | true => cases h; exact len_str hC h1
    | false => cases h
  · cases h
def inY (C : Cx) : List Y → Rs
  | [.sl n _ _ _ e, .int .i64 v c] => inrY C n e v c
  | _ => none
theorem inY_ok (hC : COk σ C) {ys : List Y} {ds : List D} {r : Cx × Y} (hd : relYs σ ys ds) (h : inY C ys = some r) : OpS E σ .inr ds r := by
  unfold inY at h
  split at h
  · simp only [relYs] at hd
    obtain ⟨d, _, rfl, h1, i, _, rfl, h2, rfl⟩ := hd
    exact inr_ok hC h1 h2 h
  · cases h
def elY (C : Cx) (sz : Nat) (ag : Bool) (size off : Nat) : List Y → Rs
  | [.sl n _ sz' b _, .int .i64 v c] => bif Nat.ble b 300000000 && Nat.beq sz' sz then (elemY C n v c sz ag size off).map (fun y => (C, y)) else none
  | _ => none
theorem elY_ok (hC : COk σ C) {sz size off : Nat} {ag : Bool} {ys : List Y} {ds : List D} {r : Cx × Y} (hd : relYs σ ys ds) (h : elY C sz ag size off ys = some r) : OpS E σ (.elem sz ag size off) ds r := by
  unfold elY at h
  split at h
  · simp only [relYs] at hd
    obtain ⟨d, _, rfl, h1, i, _, rfl, h2, rfl⟩ := hd
    obtain ⟨hb, h⟩ := bif_none h
    rw [Bool.and_eq_true] at hb
    obtain ⟨y, hy, rfl⟩ := Option.map_eq_some_iff.1 h
    exact elem_ok hC h1 h2 hb.1 hb.2 hy
  · cases h
def strY (C : Cx) (ag : Bool) (n : Nat) : List Y → Rs
  | [.st cs] => bif ag && Nat.beq cs.length n then some (C, .st cs) else none
  | [y] => bif !ag && Nat.beq n 1 && oneY y then some (C, y) else none
  | _ => none
theorem strY_ok (hC : COk σ C) {n : Nat} {ag : Bool} {ys : List Y} {ds : List D} {r : Cx × Y} (hd : relYs σ ys ds) (h : strY C ag n ys = some r) : OpS E σ (.chk ag n) ds r := by
  unfold strY at h
  split at h
  · simp only [relYs] at hd
    obtain ⟨d, _, rfl, h1, rfl⟩ := hd
    obtain ⟨hb, h⟩ := bif_none h
    cases h
    rw [Bool.and_eq_true] at hb
    obtain ⟨rfl, hb⟩ := hb
    exact chkW_ok hC h1 hb
  · simp only [relYs] at hd
    obtain ⟨d, _, rfl, h1, rfl⟩ := hd
    obtain ⟨hb, h⟩ := bif_none h
    cases h
    simp only [Bool.and_eq_true] at hb
    obtain ⟨⟨a, b⟩, c⟩ := hb
    have b := Nat.eq_of_beq_eq_true b
    subst b
    cases ag with
    | true => cases a
    | false => exact chk1_ok hC h1 c
  · cases h
end
end Go.Am.Tt
namespace Go.Am.Tt
open Go Go.Am
section
variable {E : Env} {σ : Wd} {C : Cx}
def fldY (C : Cx) (ag : Bool) (size off : Nat) : List Y → Rs
  | [.st cs] => (partY ag size off cs).map fun y => (C, y)
  | _ => none
theorem fldY_ok (hC : COk σ C) {size off : Nat} {ag : Bool} {ys : List Y} {ds : List D} {r : Cx × Y} (hd : relYs σ ys ds) (h : fldY C ag size off ys = some r) : OpS E σ (.fld ag size off) ds r := by
  unfold fldY at h
  split at h
  · simp only [relYs] at hd
    obtain ⟨d, _, rfl, h1, rfl⟩ := hd
    obtain ⟨y, hy, rfl⟩ := Option.map_eq_some_iff.1 h
    exact fld_ok hC h1 hy
  · cases h
def extY (C : Cx) (i : Nat) : List Y → Rs
  | [.tup cs] => (cs[i]?).map fun y => (C, y)
  | _ => none
theorem extY_ok (hC : COk σ C) {i : Nat} {ys : List Y} {ds : List D} {r : Cx × Y} (hd : relYs σ ys ds) (h : extY C i ys = some r) : OpS E σ (.ext i) ds r := by
  unfold extY at h
  split at h
  · simp only [relYs] at hd
    obtain ⟨d, _, rfl, h1, rfl⟩ := hd
    obtain ⟨y, hy, rfl⟩ := Option.map_eq_some_iff.1 h
    exact ext_ok hC h1 hy
  · cases h
def notY (C : Cx) : List Y → Rs
  | [.bool t f] => some (C, .bool f t)
  | _ => none
theorem notY_ok (hC : COk σ C) {ty : TypeId} {ys : List Y} {ds : List D} {r : Cx × Y} (hd : relYs σ ys ds) (h : notY C ys = some r) : OpS E σ (.un .not ty) ds r := by
  unfold notY at h
  split at h
  · simp only [relYs] at hd
    obtain ⟨d, _, rfl, h1, rfl⟩ := hd
    cases h
    exact not_ok hC h1
  · cases h
def chY (C : Cx) : List Y → Rs
  | [.str n _, .int .i64 v c] => bif chrY C n v c then some (C.add [(0, C.nx, 0), (C.nx, 0, 255)] [] [] 1, .int .u8 C.nx 0) else none
  | _ => none
theorem chY_ok (hC : COk σ C) {ys : List Y} {ds : List D} {r : Cx × Y} (hd : relYs σ ys ds) (h : chY C ys = some r) : OpS E σ .chr ds r := by
  unfold chY at h
  split at h
  · simp only [relYs] at hd
    obtain ⟨d, _, rfl, h1, i, _, rfl, h2, rfl⟩ := hd
    obtain ⟨hb, h⟩ := bif_none h
    cases h
    exact chr_ok hC h1 h2 hb
  · cases h
def slY (C : Cx) (el sz : Nat) (lo hi : Bool) : List Y → Rs
  | [.sl n el' sz' b e, .int .i64 v c] =>
    bif Nat.beq el' el && Nat.beq sz' sz && Nat.ble b 300000000 && ent C.F C.L 0 0 v c && ent C.F C.L v c n 0 then
      (match lo, hi with
      | false, true => some (C.add [(C.nx, v, c), (v, C.nx, -c)] [(C.nx, b)] [] 1, .sl C.nx el sz b e)
      | true, false => some (C.add [(C.nx, n, 0)] [(C.nx, b)] [] 1, .sl C.nx el sz b e)
      | _, _ => none) else none
  | _ => none
theorem slY_ok (hC : COk σ C) {el sz : Nat} {lo hi : Bool} {ys : List Y} {ds : List D} {r : Cx × Y} (hd : relYs σ ys ds) (h : slY C el sz lo hi ys = some r) : OpS E σ (.slc el sz lo hi) ds r := by
  unfold slY at h
  split at h
  · simp only [relYs] at hd
    obtain ⟨d, _, rfl, h1, i, _, rfl, h2, rfl⟩ := hd
    obtain ⟨hb, h⟩ := bif_none h
    simp only [Bool.and_eq_true] at hb
    obtain ⟨⟨⟨⟨a1, a2⟩, a3⟩, a4⟩, a5⟩ := hb
    have a1 := Nat.eq_of_beq_eq_true a1
    have a2 := Nat.eq_of_beq_eq_true a2
    subst a1 a2
    split at h
    · cases h; exact hi_ok hC h1 h2 a3 a4 a5
    · cases h; exact lo_ok hC h1 h2 a4 a5
    · cases h
  · cases h
def suY (C : Cx) (lo hi : Bool) : List Y → Rs
  | [.str n b, .int .i64 v c, .int .i64 w e] => bif lo && hi && ent C.F C.L 0 0 v c && ent C.F C.L v c w e && ent C.F C.L w e n 0 then some (C.add [] [(C.nx, b)] [] 1, .str C.nx b) else none
  | _ => none
theorem suY_ok (hC : COk σ C) {lo hi : Bool} {ys : List Y} {ds : List D} {r : Cx × Y} (hd : relYs σ ys ds) (h : suY C lo hi ys = some r) : OpS E σ (.sub lo hi) ds r := by
  unfold suY at h
  split at h
  · simp only [relYs] at hd
    obtain ⟨d, _, rfl, h1, i, _, rfl, h2, j, _, rfl, h3, rfl⟩ := hd
    obtain ⟨hb, h⟩ := bif_none h
    cases h
    simp only [Bool.and_eq_true] at hb
    obtain ⟨⟨⟨⟨rfl, rfl⟩, a3⟩, a4⟩, a5⟩ := hb
    exact subs_ok hC h1 h2 h3 a3 a4 a5
  · cases h
def mmY (C : Cx) : List Y → Rs
  | [.int .i64 _ _, .int .i64 _ _] => some (C.add [] [] [] 1, .int .i64 C.nx 0)
  | _ => none
theorem mmY_ok (hC : COk σ C) {m : Bool} {ys : List Y} {ds : List D} {r : Cx × Y} (hd : relYs σ ys ds) (h : mmY C ys = some r) : OpS E σ (.mm m) ds r := by
  unfold mmY at h
  split at h
  · simp only [relYs] at hd
    obtain ⟨d, _, rfl, h1, i, _, rfl, h2, rfl⟩ := hd
    cases h
    exact mm_ok hC h1 h2
  · cases h
end
end Go.Am.Tt
namespace Go.Am.Tt
open Go Go.Am
section
variable {E : Env} {σ : Wd} {C : Cx}
def bsY (C : Cx) : List Y → Rs
  | [.sl n _ sz b (.int .u8)] => bif Nat.beq sz 1 && ent C.F C.L 0 1 n 0 then some (C.add [] [(C.nx, b)] [] 1, .str C.nx b) else none
  | _ => none
theorem bsY_ok (hC : COk σ C) {ys : List Y} {ds : List D} {r : Cx × Y} (hd : relYs σ ys ds) (h : bsY C ys = some r) : OpS E σ .bstr ds r := by
  unfold bsY at h
  split at h
  · simp only [relYs] at hd
    obtain ⟨d, _, rfl, h1, rfl⟩ := hd
    obtain ⟨hb, h⟩ := bif_none h
    cases h
    rw [Bool.and_eq_true] at hb
    have := Nat.eq_of_beq_eq_true hb.1
    subst this
    exact bstr_ok hC h1 hb.2
  · cases h
def isEq : BinOp → Bool
  | .eql | .neq => true
  | _ => false
theorem isEq_ok {op : BinOp} (h : isEq op = true) : op = .neq ∨ op = .eql := by
  cases op <;> simp only [isEq] at h <;> first | (cases h; done) | exact .inl rfl | exact .inr rfl
def numY (C : Cx) (op : BinOp) (v : Nat) (c : Int) (w : Nat) (e : Int) : Rs := match op with
  | .add => some (addR C v c w e)
  | .sub => some (subR C v c w e)
  | .mul => some (C.add [] [] [] 1, .int .i64 C.nx 0)
  | _ => none
def binY (C : Cx) (op : BinOp) : List Y → Rs
  | [.int k v c, .int k' w e] => bif decide (k = k') then (match cmpF op C v c w e with
    | some (t, f) => some (C, .bool t f)
    | none => bif decide (k = .i64) then numY C op v c w e else none) else none
  | [.str _ _, .str _ _] => bif isEq op then some (C, .bool [] []) else none
  | _ => none
theorem binY_ok (hC : COk σ C) {op : BinOp} {ty : TypeId} {a b : Operand} {ys : List Y} {ds : List D} {r : Cx × Y} (hd : relYs σ ys ds) (h : binY C op ys = some r) : OpS E σ (.bin op ty a b) ds r := by
  unfold binY at h
  split at h
  · simp only [relYs] at hd
    obtain ⟨d, _, rfl, h1, i, _, rfl, h2, rfl⟩ := hd
    obtain ⟨hk, h'⟩ := bif_none h
    clear h
    have hk' := of_decide_eq_true hk
    clear hk
    subst hk'
    split at h'
    · rename_i t f hc
      cases h'
      simp only [relY] at h1 h2
      obtain ⟨x, hx, rfl⟩ := h1
      obtain ⟨y, hy, rfl⟩ := h2
      exact cmp_ok hC hc hx hy
    · obtain ⟨hk, h⟩ := bif_none h'
      clear h'
      have hk' := of_decide_eq_true hk
      clear hk
      subst hk'
      unfold numY at h
      split at h
      · cases h; exact add_ok hC h1 h2
      · cases h; exact sub_ok hC h1 h2
      · cases h; exact mul_ok hC h1 h2
      · cases h
  · simp only [relYs] at hd
    obtain ⟨d, _, rfl, h1, i, _, rfl, h2, rfl⟩ := hd
    obtain ⟨hk, h⟩ := bif_none h
    cases h
    exact strcmp_ok hC (isEq_ok hk).symm h1 h2
  · cases h
end
end Go.Am.Tt
namespace Go.Am.Tt
open Go Go.Am
section
variable {E : Env} {σ : Wd} {C : Cx}
structure Tb where
  sh : Nat → Option Sn
  oth : TOp → List Y → Option IntKind
  st : TypeId → Option (Nat × List Sn)
structure TbOk (E : Env) (T : Tb) : Prop where
  o : ∀ {o ys k}, T.oth o ys = some k → ∀ {σ C ds}, COk σ C → relYs σ ys ds → ∃ n, TOp.eval E o ds = some (.leaf (.int k n))
  s : ∀ {t k ss}, T.st t = some (k, ss) → eqTy E.prog k t = some (Sn.shs ss) ∧ isSt E.prog t = true ∧ k ≤ 10000 ∧ E.prog.eqGuardType E.prog.depth t = false ∧ (Sn.shs ss).all flatS = true ∧ Sn.lows ss = true
def othY (T : Tb) (C : Cx) (o : TOp) (ys : List Y) : Rs := match T.oth o ys with
  | some k => some (C.add [] [] [] 1, .int k C.nx 0)
  | none => none
theorem othY_ok {T : Tb} (hT : TbOk E T) (hC : COk σ C) {o : TOp} {ys : List Y} {ds : List D} {r : Cx × Y} (hd : relYs σ ys ds) (h : othY T C o ys = some r) : OpS E σ o ds r := by
  unfold othY at h
  split at h
  · rename_i k hk
    cases h
    obtain ⟨n, hn⟩ := hT.o hk hC hd
    exact .num hC hn (by simp)
  · cases h
def stY (T : Tb) (C : Cx) (op : BinOp) (ty : TypeId) : List Y → Rs
  | [.st cs, .st cs'] => match T.st ty with
    | some (_, ss) => bif isEq op && fitYs C cs ss && fitYs C cs' ss then some (C, .bool [] []) else none
    | none => none
  | _ => none
theorem stY_ok {T : Tb} (hT : TbOk E T) (hC : COk σ C) {op : BinOp} {ty : TypeId} {a b : Operand} {ys : List Y} {ds : List D} {r : Cx × Y} (hd : relYs σ ys ds) (h : stY T C op ty ys = some r) : OpS E σ (.bin op ty a b) ds r := by
  unfold stY at h
  split at h
  · simp only [relYs] at hd
    obtain ⟨d, _, rfl, h1, i, _, rfl, h2, rfl⟩ := hd
    split at h
    · rename_i k ss hs
      obtain ⟨hb, h⟩ := bif_none h
      cases h
      simp only [Bool.and_eq_true] at hb
      obtain ⟨q1, q2, q3, q4, q5, q6⟩ := hT.s hs
      exact stcmp_ok hC (isEq_ok hb.1.1) h1 h2 hb.1.2 hb.2 q6 q1 rfl q2 q3 q4 q5
    · cases h
  · cases h
end
end Go.Am.Tt
namespace Go.Am.Tt
open Go Go.Am
section
variable {E : Env} {σ : Wd} {C : Cx}
def mkN (C : Cx) (el sz bytes : Nat) (ag : Bool) (zs : List Value) (e : Sn) (v : Nat) (c : Int) (b : Nat) : Rs :=
  bif ent C.F C.L 0 0 v c && ent C.F C.L v c 0 b && Nat.ble b 300000000 && (Nat.beq zs.length sz && zs.all (fun v => flatV v && oneCell v) && (ag || Nat.beq sz 1)) && Nat.ble (bytes + sz) 2 && zeroN e (zD ag zs) then
    some (C.add [(C.nx, v, c), (v, C.nx, -c)] [(C.nx, b)] [] 1, .sl C.nx el sz b e) else none
def mkY (T : Tb) (C : Cx) (el sz bytes : Nat) (ag : Bool) (zs : List Value) : List Y → Rs
  | [.int .i64 v c] => (match T.sh el with
    | some e => mkN C el sz bytes ag zs e v c ((ubC C v : Int) + c).toNat
    | none => none)
  | _ => none
theorem mkY_ok (hC : COk σ C) {T : Tb} {el sz bytes : Nat} {ag : Bool} {zs : List Value} {ys : List Y} {ds : List D} {r : Cx × Y} (hd : relYs σ ys ds) (h : mkY T C el sz bytes ag zs ys = some r) : OpS E σ (.mk el sz bytes ag zs) ds r := by
  unfold mkY at h
  split at h
  · simp only [relYs] at hd
    obtain ⟨d, _, rfl, h1, rfl⟩ := hd
    split at h
    · unfold mkN at h
      obtain ⟨hb, h⟩ := bif_none h
      cases h
      simp only [Bool.and_eq_true] at hb
      obtain ⟨⟨⟨⟨⟨q1, q2⟩, q3⟩, q4⟩, q5⟩, q6⟩ := hb
      exact mk_ok hC h1 q1 q2 q3 (by simp only [Bool.and_eq_true]; exact q4) q5 q6
    · cases h
  · cases h
def oneN : Sn → Bool
  | .st _ => false
  | .any => false
  | _ => true
theorem oneN_ok {e : Sn} (h : oneN e = true) {d : D} (hd : HasN e d) : d.one = true := by
  cases e <;> simp only [oneN] at h <;> first | (cases h; done) | simp only [HasN] at hd
  · obtain ⟨_, rfl⟩ := hd; rfl
  · obtain ⟨_, rfl⟩ := hd; rfl
  · obtain ⟨_, rfl, _⟩ := hd; rfl
  · rcases hd with rfl | ⟨_, rfl, _⟩ <;> rfl
theorem set_ok (hC : COk σ C) {n el b v : Nat} {c : Int} {e : Sn} {l i x : D} {y : Y} (hl : relY σ (.sl n el 1 b e) l) (hi : relY σ (.int .i64 v c) i) (hx : relY σ y x)
    (hf : fitY C y e = true) (ho : oneN e = true) (h0 : ent C.F C.L 0 0 v c = true) (h1 : ent C.F C.L v (c + 1) n 0 = true) :
    OpS E σ (.set 1 false 1 0) [l, i, x] (C.add [(C.nx, n, 0), (n, C.nx, 0)] [(C.nx, b)] [] 1, .sl C.nx el 1 b e) := by
  have hxN := fitY_ok hC hf hx
  simp only [relY] at hl hi
  obtain ⟨k, hk, rfl⟩ := hi
  obtain ⟨z, hz0⟩ := hC.s.z
  obtain ⟨hln, hl⟩ := hl
  have l0 := ent_ok hC.s h0 hz0 hk
  have l1 := ent_ok hC.s h1 hk hln
  simp only at l0 l1
  simp only [HasN] at hl
  rcases hl with rfl | ⟨es, rfl, hlen, ha⟩
  · have : (D.nil).es.length = 0 := rfl
    omega
  · have hes : (D.sl el 1 es).es = es := rfl
    rw [hes] at l1 hln
    have hlt : (k.1 + c).toNat < es.length := by omega
    have hg : es[(k.1 + c).toNat]? = some es[(k.1 + c).toNat] := List.getElem?_eq_getElem hlt
    have he0 := oneN_ok ho (ha _ (List.getElem_mem hlt))
    have hx0 := oneN_ok ho hxN
    have hxc : x.cells = [x] := by cases x <;> first | rfl | (simp [D.one] at hx0)
    have hev : TOp.eval E (.set 1 false 1 0) [.sl el 1 es, dI (k.1 + c), x] = some (.sl el 1 (es.set (k.1 + c).toNat x)) := by
      rw [ev_set, nat_int (by omega)]
      have hck : chkD false 1 x = some x := by
        show (bif x.one && Nat.beq 1 1 then some x else none) = some x
        rw [hx0]; rfl
      simp only [hck, hg]
      refine (tt_bif (by rfl)).trans ?_
      rw [hxc]
      have : setP es[(k.1 + c).toNat] 0 [x] = x := by
        generalize es[(k.1 + c).toNat] = q at he0
        cases q <;> first | rfl | (simp [D.one] at he0)
      rw [this]
    have hn : (D.sl el 1 (es.set (k.1 + c).toNat x)).es.length = es.length := by
      show (es.set (k.1 + c).toNat x).length = _
      rw [List.length_set]
    refine .list hC hev ?_ (f2 ⟨_, _, get_new hC _, get_app hln, by simp only [hn]; omega⟩ ⟨_, _, get_app hln, get_new hC _, by simp only [hn]; omega⟩)
    simp only [HasN]
    refine .inr ⟨_, rfl, by rw [List.length_set]; exact hlen, fun w hw => ?_⟩
    rcases List.mem_or_eq_of_mem_set hw with hw | rfl
    · exact ha w hw
    · exact hxN
def seY (C : Cx) (sz : Nat) (ag : Bool) (size off : Nat) : List Y → Rs
  | [.sl n el sz' b e, .int .i64 v c, y] =>
    bif Nat.beq sz 1 && Nat.beq sz' 1 && !ag && Nat.beq size 1 && Nat.beq off 0 && fitY C y e && oneN e && ent C.F C.L 0 0 v c && ent C.F C.L v (c + 1) n 0 then
      some (C.add [(C.nx, n, 0), (n, C.nx, 0)] [(C.nx, b)] [] 1, .sl C.nx el 1 b e) else none
  | _ => none
theorem seY_ok (hC : COk σ C) {sz size off : Nat} {ag : Bool} {ys : List Y} {ds : List D} {r : Cx × Y} (hd : relYs σ ys ds) (h : seY C sz ag size off ys = some r) : OpS E σ (.set sz ag size off) ds r := by
  unfold seY at h
  split at h
  · simp only [relYs] at hd
    obtain ⟨d, _, rfl, h1, i, _, rfl, h2, x, _, rfl, h3, rfl⟩ := hd
    obtain ⟨hb, h⟩ := bif_none h
    cases h
    simp only [Bool.and_eq_true, Bool.not_eq_true'] at hb
    obtain ⟨⟨⟨⟨⟨⟨⟨⟨a1, a2⟩, a3⟩, a4⟩, a5⟩, a6⟩, a7⟩, a8⟩, a9⟩ := hb
    have a1 := Nat.eq_of_beq_eq_true a1
    have a2 := Nat.eq_of_beq_eq_true a2
    have a4 := Nat.eq_of_beq_eq_true a4
    have a5 := Nat.eq_of_beq_eq_true a5
    subst a1 a2 a3 a4 a5
    exact set_ok hC h1 h2 h3 a6 a7 a8 a9
  · cases h
end
end Go.Am.Tt
namespace Go.Am.Tt
open Go Go.Am
section
variable {E : Env} {σ : Wd} {C : Cx}
def ap2 (C : Cx) (el sz bytes : Nat) : List Y → Rs
  | [a, b] => appY C el sz bytes a b
  | _ => none
def liY (T : Tb) (C : Cx) (el sz : Nat) (ys : List Y) : Rs := match T.sh el with
  | some e => litY C el sz e ys
  | none => none
def orY (a b : Rs) : Rs := match a with
  | some r => some r
  | none => b
theorem orY_or {a b : Rs} {r : Cx × Y} (h : orY a b = some r) : a = some r ∨ b = some r := by
  unfold orY at h
  split at h
  · exact .inl h
  · exact .inr h
def opY (T : Tb) (C : Cx) (o : TOp) (ys : List Y) : Rs := match o with
  | .len s => lenY C s ys
  | .inr => inY C ys
  | .elem sz ag size off => elY C sz ag size off ys
  | .chk ag n => strY C ag n ys
  | .fld ag size off => fldY C ag size off ys
  | .ext i => extY C i ys
  | .un .not _ => notY C ys
  | .chr => chY C ys
  | .slc el sz lo hi => slY C el sz lo hi ys
  | .sub lo hi => suY C lo hi ys
  | .bstr => bsY C ys
  | .mm _ => mmY C ys
  | .lit el sz => liY T C el sz ys
  | .app el sz bytes => ap2 C el sz bytes ys
  | .mk el sz bytes ag zs => mkY T C el sz bytes ag zs ys
  | .set sz ag size off => seY C sz ag size off ys
  | .bin op ty a b => orY (stY T C op ty ys) (orY (binY C op ys) (othY T C (.bin op ty a b) ys))
  | o => othY T C o ys
theorem opY_ok {T : Tb} (hT : TbOk E T) (hC : COk σ C) {o : TOp} {ys : List Y} {ds : List D} {r : Cx × Y} (hd : relYs σ ys ds) (h : opY T C o ys = some r) : OpS E σ o ds r := by
  unfold opY at h
  split at h
  · exact lenY_ok hC hd h
  · exact inY_ok hC hd h
  · exact elY_ok hC hd h
  · exact strY_ok hC hd h
  · exact fldY_ok hC hd h
  · exact extY_ok hC hd h
  · exact notY_ok hC hd h
  · exact chY_ok hC hd h
  · exact slY_ok hC hd h
  · exact suY_ok hC hd h
  · exact bsY_ok hC hd h
  · exact mmY_ok hC hd h
  · unfold liY at h
    split at h
    · exact lit_ok hC hd h
    · cases h
  · unfold ap2 at h
    split at h
    · simp only [relYs] at hd
      obtain ⟨d, _, rfl, h1, i, _, rfl, h2, rfl⟩ := hd
      exact appY_ok hC h1 h2 h
    · cases h
  · exact mkY_ok hC hd h
  · exact seY_ok hC hd h
  · rcases orY_or h with h | h
    · exact stY_ok hT hC hd h
    · rcases orY_or h with h | h
      · exact binY_ok hC hd h
      · exact othY_ok hT hC hd h
  · exact othY_ok hT hC hd h
end
end Go.Am.Tt
