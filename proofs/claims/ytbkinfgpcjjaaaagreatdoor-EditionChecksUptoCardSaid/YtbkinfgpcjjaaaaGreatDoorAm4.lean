/- What the abstract append does where the array must grow, the model's does too. Conditions: none. -/
import Derived.Test.YtbkinfgpcjjaaaaGreatDoorAm3
import Derived.Laws.IdiomStrings
import Derived.Test.YtbkinfgpcjjaaaaGreatDoorAm2
import Derived.KernelRfl
import Derived.Laws.Externs
set_option linter.all false
namespace Go.Am
open Go
def drewW (w : World) : World := { w with drawn := w.drawn + 1 }
section
variable {E : Env} {σ : Sig} {H : AH} {w : World}
theorem zeroCells_size (z : Array Value) (n : Nat) : (Builtin.zeroCells z n).size = n * z.size := by simp [Builtin.zeroCells]
theorem grow_bounds {need c by_ : Nat} (hgt : c < need) (hbig : (4 * need + 4000) * (by_ + 1) ≤ 100000000000) :
    ¬ (need : Int) > IntKind.i64.max ∧ ¬ Builtin.nextslicecap need c * by_ > 2 ^ 48 ∧ need < 2 ^ 62 := by
  have h1 := nextcap_le need c hgt
  have h2 : (4 * need + 4000) * (by_ + 1) = (4 * need + 4000) * by_ + (4 * need + 4000) := by rw [Nat.mul_add]; simp
  have h3 : Builtin.nextslicecap need c * by_ ≤ (4 * need + 4000) * by_ := Nat.mul_le_mul_right _ (by omega)
  have hm : IntKind.i64.max = 9223372036854775807 := by decide
  refine ⟨by rw [hm]; omega, by omega, by omega⟩
set_option maxHeartbeats 1000000 in
theorem app_grow1 (he : EOk E) {t xt elem ty : TypeId} {ats : List TypeId} {ti xi e : TI} {n len c : Nat} {x' : Value} {old' new' z : List Value} {A : Option Addr}
    (ht : E.types.get t = some ti) (hd : ti.desc = .slice elem) (hxt : E.types.get xt = some xi) (hel : E.types.get elem = some e) (hzero : e.zero = some z)
    (hz : isIntD xi.desc = false) (h1 : (Builtin.lenOf x').run E.prog w = .ok n w) (h2 : (Builtin.firstCells e.size n x').run E.prog (drewW w) = .ok ⟨new'⟩ (drewW w))
    (h0 : (Builtin.firstCells e.size len (.slice A len c)).run E.prog (drewW w) = .ok ⟨old'⟩ (drewW w))
    (hgt : c < len + n) (hbig : (4 * (len + n) + 4000) * (e.bytes + 1) ≤ 100000000000) :
    ∃ (nc : Nat) (rest : Array Value), len + n ≤ nc ∧ nc < capX ∧ rest.size = (nc - (len + n)) * e.size ∧
      (Builtin.append_ ⟨t :: xt :: ats⟩ ty #[.slice A len c, x']).run E.prog w =
        .ok (.slice (some ⟨w.heap.size, 0, none⟩) (len + n) nc) (World.push (drewW w) (.cells (⟨old'⟩ ++ ⟨new'⟩ ++ rest) elem)) := by
  obtain ⟨hb1, hb2, hb3⟩ := grow_bounds hgt hbig
  obtain ⟨zv, z1, _, z3, _, z5⟩ := run_zero he hel hzero (drewW w)
  have hu := fun w => run_und he ht w
  rw [hd] at hu
  have hux := fun w => run_und he hxt w
  have hsz := fun w => run_sizeOf' he hel w
  obtain ⟨i, hi, _, _, hby, _⟩ := he.types elem e hel
  have hti := fun w => run_typeInfo (P := E.prog) w hi
  rw [hby] at hb2
  have hle : ¬ len + n ≤ c := by omega
  have hzs : zv.cells.size = e.size := by rw [← z5, ← z3]; simp
  clear ht hxt hel he hd hi
  refine ⟨(len + n) + (w.tape w.drawn (.appendCap (len + n) c elem)) % (2 ^ 63 - (len + n)), Builtin.zeroCells zv.cells ((len + n) + (w.tape w.drawn (.appendCap (len + n) c elem)) % (2 ^ 63 - (len + n)) - (len + n)),
    by omega, ?_, by rw [zeroCells_size, hzs], ?_⟩
  · have := Nat.mod_lt (w.tape w.drawn (.appendCap (len + n) c elem)) (show 2 ^ 63 - (len + n) > 0 by omega)
    unfold capX; omega
  · generalize xi.desc = d at hux hz
    have hq : (Question.appendCap (len + n) c elem).forced = false := rfl
    have hcut : (Question.appendCap (len + n) c elem).cut (w.tape w.drawn (.appendCap (len + n) c elem)) = (len + n) + (w.tape w.drawn (.appendCap (len + n) c elem)) % (2 ^ 63 - (len + n)) := rfl
    cases d <;> first | (simp [isIntD] at hz; done) | skip
    all_goals
      simp only [Builtin.append_, List.getElem?_toArray, List.getElem?_cons_zero, List.getElem?_cons_succ, Sem.run_bind, hu, Result.andThen_ok, hsz, hux, Sem.run_pure, Bool.false_eq_true, if_false, h1,
        if_neg hle, hti]
      rw [if_neg (by intro h; exact hb1 h.1)]
      simp only [Sem.run_bind, hti, Result.andThen_ok]
      rw [if_neg hb2]
      simp only [Sem.run_bind, run_choose, hq, Bool.false_eq_true, if_false, Result.andThen_ok, hcut, run_askRoom, hti]
      rw [show ({ w with drawn := w.drawn + 1 } : World) = drewW w from rfl]
      simp only [Bool.not_false, if_true, Sem.run_bind, h0, h2, Result.andThen_ok, z1, newRow, run_newObj, Sem.run_pure]
      rfl
set_option maxHeartbeats 1000000 in
theorem app_grow2 (he : EOk E) {t xt elem ty : TypeId} {ats : List TypeId} {ti xi e : TI} {n len c : Nat} {k : IntKind} {old' new' z : List Value} {A : Option Addr}
    (ht : E.types.get t = some ti) (hd : ti.desc = .slice elem) (hxt : E.types.get xt = some xi) (hel : E.types.get elem = some e) (hzero : e.zero = some z)
    (hz : isIntD xi.desc = true) (h2 : (if n * e.size = 0 then (#[] : Array Value) else ⟨new'⟩) = ⟨new'⟩)
    (h3 : ∀ w, ∃ zv, (zeroValue elem).run E.prog w = .ok zv w ∧ Builtin.zeroCells zv.cells n = ⟨new'⟩)
    (h0 : (Builtin.firstCells e.size len (.slice A len c)).run E.prog (drewW w) = .ok ⟨old'⟩ (drewW w))
    (hgt : c < len + n) (hbig : (4 * (len + n) + 4000) * (e.bytes + 1) ≤ 100000000000) :
    ∃ (nc : Nat) (rest : Array Value), len + n ≤ nc ∧ nc < capX ∧ rest.size = (nc - (len + n)) * e.size ∧
      (Builtin.append_ ⟨t :: xt :: ats⟩ ty #[.slice A len c, .int k (n : Int)]).run E.prog w =
        .ok (.slice (some ⟨w.heap.size, 0, none⟩) (len + n) nc) (World.push (drewW w) (.cells (⟨old'⟩ ++ ⟨new'⟩ ++ rest) elem)) := by
  obtain ⟨hb1, hb2, hb3⟩ := grow_bounds hgt hbig
  obtain ⟨zv, z1, _, z3, _, z5⟩ := run_zero he hel hzero (drewW w)
  have hu := fun w => run_und he ht w
  rw [hd] at hu
  have hux := fun w => run_und he hxt w
  have hsz := fun w => run_sizeOf' he hel w
  obtain ⟨i, hi, _, _, hby, _⟩ := he.types elem e hel
  have hti := fun w => run_typeInfo (P := E.prog) w hi
  have hle : ¬ len + n ≤ c := by omega
  have hzs : zv.cells.size = e.size := by rw [← z5, ← z3]; simp
  have hw : IntKind.i64.wrap (n : Int) = (n : Int) := wrap_nat (by omega)
  have hneg : ¬ (n : Int) < 0 := by omega
  have hsm : ¬ (n : Int) * (i.bytes : Int) > 2 ^ 48 := by
    rw [← hby]
    have : (n : Int) * (e.bytes : Int) = ((n * e.bytes : Nat) : Int) := by simp
    rw [this]
    have h5 : n * e.bytes ≤ (4 * (len + n) + 4000) * (e.bytes + 1) := Nat.mul_le_mul (by omega) (by omega)
    omega
  obtain ⟨k', hk'⟩ := isInt_eq hz
  rw [hk'] at hux
  obtain ⟨zv2, g1, g2⟩ := h3 (drewW w)
  have hzv : zv2 = zv := by rw [z1] at g1; cases g1; rfl
  subst hzv
  rw [hby] at hb2
  clear ht hxt hel he hd hi h3 g1
  refine ⟨(len + n) + (w.tape w.drawn (.appendCap (len + n) c elem)) % (2 ^ 63 - (len + n)), Builtin.zeroCells zv2.cells ((len + n) + (w.tape w.drawn (.appendCap (len + n) c elem)) % (2 ^ 63 - (len + n)) - (len + n)),
    by omega, ?_, by rw [zeroCells_size, hzs], ?_⟩
  · have := Nat.mod_lt (w.tape w.drawn (.appendCap (len + n) c elem)) (show 2 ^ 63 - (len + n) > 0 by omega)
    unfold capX; omega
  · have hq : (Question.appendCap (len + n) c elem).forced = false := rfl
    have hcut : (Question.appendCap (len + n) c elem).cut (w.tape w.drawn (.appendCap (len + n) c elem)) = (len + n) + (w.tape w.drawn (.appendCap (len + n) c elem)) % (2 ^ 63 - (len + n)) := rfl
    simp only [Builtin.append_, List.getElem?_toArray, List.getElem?_cons_zero, List.getElem?_cons_succ, Sem.run_bind, hu, Result.andThen_ok, hsz, hux, Sem.run_pure, if_true,
      asInt, asIntOf, hw, if_neg hneg, hti]
    rw [if_neg hsm]
    simp only [Sem.run_bind, Sem.run_pure, Result.andThen_ok, Int.toNat_natCast, if_neg hle, hti]
    rw [if_neg (by intro h; exact hb1 h.1)]
    simp only [Sem.run_bind, hti, Result.andThen_ok]
    rw [if_neg hb2]
    simp only [Sem.run_bind, run_choose, hq, Bool.false_eq_true, if_false, Result.andThen_ok, hcut, run_askRoom, hti]
    rw [show ({ w with drawn := w.drawn + 1 } : World) = drewW w from rfl]
    by_cases hn0 : n * e.size = 0
    · rw [if_pos hn0] at h2
      have hnil : new' = [] := by have := congrArg Array.toList h2; simpa using this.symm
      subst hnil
      simp only [Bool.not_true, Bool.false_eq_true, if_false, if_pos hn0, Sem.run_bind, h0, Result.andThen_ok, z1, newRow, run_newObj, Sem.run_pure]
      rfl
    · simp only [Bool.not_true, Bool.false_eq_true, if_false, if_neg hn0, Sem.run_bind, h0, Result.andThen_ok, z1, g2, newRow, run_newObj, Sem.run_pure]
      rfl
theorem append_sim (he : EOk E) (hr : HR E σ H w) {s s' x x' : Value} {ats : List TypeId} (ty : TypeId) (hs : VR σ s s') (hx : VR σ x x') :
    Sim E σ H w (appendA E H ats s x) (do pure (.value (← Builtin.append_ ⟨ats⟩ ty #[s', x']))) := by
  intro ar H' h hf
  unfold appendA at h
  split at h
  case h_2 => cases h
  rename_i t xt rest base len cap
  split at h
  case h_2 => cases h
  rename_i elem sz by_ z ag xi ht hxt
  split at h
  case h_2 => cases h
  rename_i e hel
  split at h
  case h_2 => cases h
  rename_i ez n new hzero hnew
  simp only [bif_and, bif_ble, bif_beq, Nat.add_eq, Nat.mul_eq, Nat.succ_eq_add_one] at h
  split at h
  case isFalse => cases h
  rename_i hbig0
  have hbig : (4 * (len + n) + 4000) * (e.bytes + 1) ≤ 100000000000 := hbig0
  have hnb : n * e.bytes ≤ 2 ^ 48 := by
    have h5 : n * e.bytes ≤ (4 * (len + n) + 4000) * (e.bytes + 1) := Nat.mul_le_mul (by clear hbig hbig0; omega) (Nat.le_succ _)
    exact Nat.le_trans h5 (Nat.le_trans hbig (by decide))
  have hnb' : len + n < 2 ^ 40 := by
    have h5 : (4 * (len + n) + 4000) * 1 ≤ (4 * (len + n) + 4000) * (e.bytes + 1) := Nat.mul_le_mul_left _ (Nat.le_add_left _ _)
    have h6 := Nat.le_trans h5 hbig
    rw [Nat.mul_one] at h6
    clear hbig hbig0 hnb
    omega
  have hrd : HR E σ H (drewW w) := (Step.drew hr _).hr
  have sd : Step E σ H w σ H (drewW w) := Step.drew hr _
  obtain ⟨new', n1, n2, n3, n4⟩ := newCells_run he hr hxt hel hnew hx hnb (by omega)
  obtain ⟨new'', d1, d2, d3, d4⟩ := newCells_run he hrd hxt hel hnew hx hnb (by omega)
  have room : ∀ (A : Option Addr) (c : Nat) (w' : World), len + n ≤ c → (storeAt? A (len * e.size) new').run E.prog w = .ok () w' →
      (Builtin.append_ ⟨t :: xt :: rest⟩ ty #[.slice A len c, x']).run E.prog w = .ok (.slice A (len + n) c) w' := by
    intro A c w' hle hst
    rcases n4 with ⟨q1, q2, q3⟩ | ⟨q1, k, rfl, q2, q3⟩
    · exact app_room1 he ht rfl hxt hel q1 q2 q3 hle hst
    · exact app_room2 he ht rfl hxt hel q1 q2 q3 hnb (by omega) hle hst
  have grow : ∀ (A : Option Addr) (c : Nat) (old' : List Value), c < len + n → (Builtin.firstCells e.size len (.slice A len c)).run E.prog (drewW w) = .ok ⟨old'⟩ (drewW w) →
      ∃ (nc : Nat) (rst : Array Value), len + n ≤ nc ∧ nc < capX ∧ rst.size = (nc - (len + n)) * e.size ∧
      (Builtin.append_ ⟨t :: xt :: rest⟩ ty #[.slice A len c, x']).run E.prog w =
        .ok (.slice (some ⟨w.heap.size, 0, none⟩) (len + n) nc) (World.push (drewW w) (.cells (⟨old'⟩ ++ ⟨new''⟩ ++ rst) elem)) := by
    intro A c old' hlt h0
    rcases d4 with ⟨q1, q2, q3⟩ | ⟨q1, k, rfl, q2, q3⟩
    · rcases n4 with ⟨_, p2, _⟩ | ⟨p1, _⟩
      · exact app_grow1 he ht rfl hxt hel hzero q1 p2 q3 h0 hlt hbig
      · rw [q1] at p1; cases p1
    · exact app_grow2 he ht rfl hxt hel hzero q1 q2 q3 h0 hlt hbig
  have fresh : ∀ (old old' : List Value) (nc : Nat) (rst : Array Value), VRs σ old old' → old.length = len * e.size → old.all oneCell = true → rst.size = (nc - (len + n)) * e.size → len + n ≤ nc →
      ∃ M : Loc, M.blk = w.heap.size ∧ M.off = 0 ∧ M.ext = nc * e.size ∧ M.sz = e.size ∧
        ∀ τ : Sig, Sig.le σ τ → ObjR E τ M true (.cells (old ++ new) elem) (.cells (⟨old'⟩ ++ ⟨new''⟩ ++ rst) elem) := by
    intro old old' nc rst ho hol ho1 hrs hnc
    have hl1 := ho.length
    have hl2 := d1.length
    have hmul : nc * e.size = len * e.size + n * e.size + (nc - (len + n)) * e.size := by
      rw [← Nat.add_mul, ← Nat.add_mul]; congr 1; omega
    refine ⟨⟨w.heap.size, 0, nc * e.size, e.size⟩, rfl, rfl, rfl, rfl, fun τ hτ => ⟨fun _ => ⟨.inl rfl, rfl, Nat.zero_mod _⟩, ?_, ?_, ?_, ?_⟩⟩
    · simp [hl1, hl2, hrs, hol, d2]; omega
    · simp [hol, n2]; omega
    · intro ti hti; rw [hel] at hti; cases hti; rfl
    · intro i v hi
      have hall : (old ++ new).all oneCell = true := by rw [List.all_append, ho1, n3]; rfl
      rw [List.all_eq_true] at hall
      refine ⟨hall v (List.mem_of_getElem? hi), ?_⟩
      obtain ⟨v', e1, e2⟩ := (ho.append d1).get i v hi
      refine ⟨v', ?_, e2.mono hτ⟩
      have hlt : i < (old' ++ new'').length := (List.getElem?_eq_some_iff.1 e1).1
      simp only [Nat.zero_add]
      rw [Array.getElem?_append_left (by simpa using hlt)]
      simpa using e1
  have res : ∀ (M : Loc) (nc : Nat), M.blk = w.heap.size → M.off = 0 → M.ext = nc * e.size → M.sz = e.size → len + n ≤ nc → nc < capX →
      VR (σ.add H.next M) (.slice (some ⟨H.next, 0, none⟩) (len + n) capX) (.slice (some ⟨w.heap.size, 0, none⟩) (len + n) nc) := by
    intro M nc m1 m2 m3 m4 h1 h2
    have := VR.sliceX (σ := σ.add H.next M) (b := H.next) (i := 0) (l := len + n) (c := nc) Sig.add_self h1 h2 (by rw [m4, m3]; omega)
    rw [m1, m2] at this
    exact this
  have growNew : ∀ (A : Option Addr) (c : Nat) (old old' : List Value), c < len + n → (Builtin.firstCells e.size len (.slice A len c)).run E.prog (drewW w) = .ok ⟨old'⟩ (drewW w) →
      VRs σ old old' → old.length = len * e.size → old.all oneCell = true → σ H.next = none →
      ∃ σ' w' nx, (do pure (.value (← Builtin.append_ ⟨t :: xt :: rest⟩ ty #[.slice A len c, x'])) : Sem Next).run E.prog w = .ok nx w' ∧
        Step E σ H w σ' (H.new (.cells (old ++ new) elem)) w' ∧ ARR E σ' w' (.val (.slice (some ⟨H.next, 0, none⟩) (len + n) capX)) nx := by
    intro A c old old' hlt h0 ho hol ho1 hfree
    obtain ⟨nc, rst, g1, g2, g3, g4⟩ := grow A c old' hlt h0
    obtain ⟨M, m1, m2, m3, m4, m5⟩ := fresh old old' nc rst ho hol ho1 g3 g1
    have st := Step.new hrd hfree (.cells (old ++ new) elem) _ M m1 (m5 _ (Sig.add_le hfree))
    refine ⟨σ.add H.next M, _, .value _, ?_, sd.trans st, res M nc m1 m2 m3 m4 g1 g2⟩
    simp [g4]
  split at h
  · -- nothing is appended
    rename_i hn0
    cases h
    subst hn0
    have hnil : new' = [] := by
      have := n1.length; rw [n2, Nat.zero_mul] at this
      exact List.length_eq_zero_iff.1 this
    have key : ∀ (A : Option Addr) (c : Nat), len ≤ c → VR σ (.slice base len cap) (.slice A len c) →
        ∃ σ' w' nx, (do pure (.value (← Builtin.append_ ⟨t :: xt :: rest⟩ ty #[.slice A len c, x'])) : Sem Next).run E.prog w = .ok nx w' ∧ Step E σ H w σ' H w' ∧
          ARR E σ' w' (.val (.slice base len cap)) nx := by
      intro A c hle hv
      have hst : (storeAt? A (len * e.size) new').run E.prog w = .ok () w := by
        rw [hnil]; cases A <;> rfl
      refine ⟨σ, w, .value (.slice A len c), ?_, Step.refl hr, hv⟩
      simp [room A c w hle hst]
    cases hs with
    | leaf h0 =>
      have h00 := h0
      simp only [leafV, Bool.and_eq_true] at h0
      have hl0 : len = 0 := Nat.eq_of_beq_eq_true h0.1.2
      exact key base cap (by omega) (.leaf h00)
    | sliceE hb hl hc => exact key _ _ hl (.sliceE hb hl hc)
    | sliceX hb hl hc hx => exact key _ _ hl (.sliceX hb hl hc hx)
    | sliceZ hc => exact key _ _ (Nat.le_refl _) (.sliceZ hc)
  · rename_i hn0
    split at h
    · -- onto nil
      cases h
      have hfree := hf.head (Nat.lt_succ_self _)
      cases hs with
      | leaf h0 =>
        simp only [leafV, Bool.and_eq_true] at h0
        have hl0 : len = 0 := Nat.eq_of_beq_eq_true h0.1.2
        have hc0 : cap = 0 := Nat.eq_of_beq_eq_true h0.2
        subst hl0 hc0
        have := growNew none 0 [] [] (by omega) rfl .nil (by simp) rfl hfree
        simpa only [List.nil_append] using this
    · rename_i b o
      split at h
      · -- of unknown capacity
        rename_i hcx
        split at h
        case h_2 => cases h
        rename_i cs el rt old hb hold
        split at h
        case isFalse => cases h
        rename_i hel'
        split at h
        case isFalse => cases h
        rename_i hmod2
        cases h
        have hmod : o % e.size = 0 := hmod2
        subst hel'
        have hfree := hf.head (Nat.lt_succ_self _)
        obtain ⟨old1, o1, o2, o3, o4⟩ := first_run hr hold hs
        obtain ⟨old2, o1d, o2d, _, _⟩ := first_run hrd hold hs
        have growMove : ∀ (A : Addr) (c : Nat), s' = .slice (some A) len c → c < len + n → cs.length ≤ o + (len + n) * e.size →
            ∃ σ' w' nx, (do pure (.value (← Builtin.append_ ⟨t :: xt :: rest⟩ ty #[.slice (some A) len c, x'])) : Sem Next).run E.prog w = .ok nx w' ∧
              Step E σ H w σ' (H.move b ⟨.cells cs el, rt, true⟩ (.cells ((old ++ new) ++ cs.drop (o + (len + n) * e.size)) el)) w' ∧ ARR E σ' w' (.val (.slice (some ⟨H.next, 0, none⟩) (len + n) capX)) nx := by
          intro A c e1 hlt hcsl
          rw [List.drop_of_length_le hcsl, List.append_nil]
          rw [e1] at o1d
          obtain ⟨nc, rst, g1, g2, g3, g4⟩ := grow (some A) c old2 hlt o1d
          obtain ⟨M, m1, m2, m3, m4, m5⟩ := fresh old old2 nc rst o2d o3 o4 g3 g1
          have st := Step.move hrd hfree (M := M) (x := .cells (old ++ new) el) (w' := World.push (drewW w) (.cells (⟨old2⟩ ++ ⟨new''⟩ ++ rst) el)) (L := M) hb rfl (.inr ⟨rfl, m1⟩) (m5 _ (Sig.add_le hfree))
          refine ⟨σ.add H.next M, _, .value _, ?_, sd.trans st, res M nc m1 m2 m3 m4 g1 g2⟩
          simp [g4]
        cases hs with
        | leaf h0 => simp [leafV] at h0
        | sliceE hs1 hl hc => omega
        | sliceX hs1 hl hc hext =>
          rename_i c L
          obtain ⟨ccs, cel, fz, g1, g2, g3, g4, g5, g6⟩ := hr.cellsAt hb hs1
          have hsz : L.sz = e.size := g5 e hel
          by_cases hle : len + n ≤ c
          · -- within the capacity
            obtain ⟨hfz, hcel, hoff⟩ := g2 rfl
            have hlen := n1.length
            have hcm : len * e.size + n * e.size ≤ c * e.size := by rw [← Nat.add_mul]; exact Nat.mul_le_mul_right _ hle
            rw [hsz] at hext
            have hrun := run_storeCells_thaw E.prog L.blk (L.off + o + len * e.size) cel fz new' 0 ccs w g1 hfz (by rw [hlen, n2]; omega)
              (fun v hv' => by
                rw [one_eq]
                have := n1.all_one; rw [n3, List.all_eq_true] at this
                exact this v hv')
            have hst : storeAt? (some ⟨L.blk, L.off + o, none⟩) (len * e.size) new' = storeCells ⟨L.blk, L.off + o + len * e.size, none⟩ new' := by
              simp only [storeAt?, addr_add]
            have hroom := room (some ⟨L.blk, L.off + o, none⟩) c _ hle (by rw [hst]; exact hrun)
            let M : Loc := ⟨L.blk, L.off + o, L.ext - o, e.size⟩
            have hold' : ∀ i v, old[i]? = some v → ∃ v', ccs[L.off + o + i]? = some v' ∧ VR σ v v' := by
              intro i v hi
              unfold firstA at hold
              simp only [bif_beq, bif_ble] at hold
              split at hold
              · cases hold; simp at hi
              · split at hold
                case isFalse => cases hold
                obtain ⟨cs2, el2, rt2, own2, hb2, he2, hn2⟩ := loads_spec hold
                rw [hb] at hb2
                simp only [Option.some.injEq, ABlk.mk.injEq, AObj.cells.injEq] at hb2
                obtain ⟨⟨rfl, _⟩, _⟩ := hb2
                rw [he2] at hi
                have hil : i < (List.take (Nat.mul len e.size) (List.drop o cs)).length := (List.getElem?_eq_some_iff.1 hi).1
                rw [List.length_take] at hil
                rw [List.getElem?_take_of_lt (by omega), List.getElem?_drop] at hi
                obtain ⟨_, v', e1, e2⟩ := g6 _ v hi
                exact ⟨v', by rw [Nat.add_assoc]; exact e1, e2⟩
            have st := Step.move hr hfree (M := M) (x := .cells ((old ++ new) ++ cs.drop (o + (len + n) * e.size)) el)
              (w' := w.setRow L.blk (ccs.toList.take (L.off + o + len * e.size + 0) ++ new' ++ ccs.toList.drop (L.off + o + len * e.size + 0 + new'.length)).toArray) hb rfl (.inl ⟨hs1, WSet.setRow g1, rfl⟩) (by
                refine ⟨fun _ => ⟨?_, hcel, ?_⟩, ?_, ?_, ?_, ?_⟩
                · have hnew : (ccs.toList.take (L.off + o + len * e.size + 0) ++ new' ++ ccs.toList.drop (L.off + o + len * e.size + 0 + new'.length)).toArray.size = ccs.size := by simp; omega
                  rw [hnew]; exact hfz
                · show (L.off + o) % e.size = 0
                  rw [Nat.add_mod, ← hsz, hoff, hsz, hmod]
                  exact Nat.zero_mod _
                · simp [M]; omega
                · have hmul : (len + n) * e.size = len * e.size + n * e.size := Nat.add_mul _ _ _
                  simp [M, o3, n2]; omega
                · intro ti hti; rw [hel] at hti; cases hti; rfl
                · intro i v hi
                  have hmul : (len + n) * e.size = len * e.size + n * e.size := Nat.add_mul _ _ _
                  rcases Nat.lt_or_ge i (old ++ new).length with hilt | hige
                  case inr =>
                    rw [List.getElem?_append_right hige, List.getElem?_drop] at hi
                    obtain ⟨q1, v', q2, q3⟩ := g6 _ v hi
                    refine ⟨q1, v', ?_, q3.mono (Sig.add_le hfree)⟩
                    have hl0 : (old ++ new).length = len * e.size + n * e.size := by rw [List.length_append, o3, n2]
                    have htk : (ccs.toList.take (L.off + o + len * e.size)).length = L.off + o + len * e.size := by simp; omega
                    simp only [Nat.add_zero, List.getElem?_toArray, M]
                    rw [List.append_assoc, List.getElem?_append_right (by omega), List.getElem?_append_right (by omega), htk, List.getElem?_drop, Array.getElem?_toList, ← q2]
                    congr 1
                    omega
                  rw [List.getElem?_append_left hilt] at hi
                  have hall : (old ++ new).all oneCell = true := by rw [List.all_append, o4, n3]; rfl
                  rw [List.all_eq_true] at hall
                  refine ⟨hall v (List.mem_of_getElem? hi), ?_⟩
                  have htk : (ccs.toList.take (L.off + o + len * e.size)).length = L.off + o + len * e.size := by simp; omega
                  simp only [Nat.add_zero, List.getElem?_toArray, M]
                  by_cases hio : i < old.length
                  · rw [List.getElem?_append_left hio] at hi
                    obtain ⟨v', e1, e2⟩ := hold' i v hi
                    refine ⟨v', ?_, e2.mono (Sig.add_le hfree)⟩
                    rw [List.append_assoc, List.getElem?_append_left (by omega), List.getElem?_take_of_lt (by omega), Array.getElem?_toList]
                    exact e1
                  · rw [List.getElem?_append_right (by omega)] at hi
                    obtain ⟨v', e1, e2⟩ := n1.get _ v hi
                    have hil := (List.getElem?_eq_some_iff.1 hi).1
                    refine ⟨v', ?_, e2.mono (Sig.add_le hfree)⟩
                    rw [List.append_assoc, List.getElem?_append_right (by omega), List.getElem?_append_left (by omega), htk, ← e1]
                    congr 1; omega)
            refine ⟨σ.add H.next M, _, .value (.slice (some ⟨L.blk, L.off + o, none⟩) (len + n) c), ?_, st, ?_⟩
            · simp [hroom]
            · have := VR.sliceX (σ := σ.add H.next M) (b := H.next) (i := 0) (l := len + n) (c := c) Sig.add_self hle hc (by simp [M]; omega)
              exact this
          · refine growMove _ _ rfl (by omega) ?_
            rw [hsz] at hext
            have h5 : c * e.size ≤ (len + n) * e.size := Nat.mul_le_mul_right _ (by omega)
            omega
        | sliceZ hcc =>
          refine growMove _ 0 rfl (by omega) ?_
          rcases hcc with hcc | ⟨_, L, hL1, hL2⟩
          · exfalso; rw [hcc] at hcx; exact absurd hcx (by decide)
          · obtain ⟨_, _, _, _, _, _, hcl0, _⟩ := hr.cellsAt hb hL1
            omega
      · rename_i hcx
        split at h
        · -- within a known capacity
          rename_i hle
          simp only [Option.map_eq_some_iff] at h
          obtain ⟨H1, hst, h⟩ := h
          cases h
          cases hs with
          | leaf h0 => simp [leafV] at h0
          | sliceE hs1 hl hc =>
            rename_i L
            obtain ⟨w', e1, e2⟩ := stores_run hr hst hs1 n1 n3
            have hst' : (storeAt? (some ⟨L.blk, L.off + o, none⟩) (len * e.size) new').run E.prog w = .ok () w' := by
              simp only [storeAt?, addr_add, Nat.add_assoc]; exact e1
            refine ⟨σ, w', .value (.slice (some ⟨L.blk, L.off + o, none⟩) (len + n) cap), ?_, e2, .sliceE hs1 hle hc⟩
            simp [room _ cap _ hle hst']
          | sliceX hs1 hl hc hext => omega
          | sliceZ hcc => rcases hcc with hcc | ⟨hcc, _⟩ <;> omega
        · -- beyond it
          rename_i hgt
          split at h
          case h_2 => cases h
          rename_i old hold
          cases h
          have hfree := hf.head (Nat.lt_succ_self _)
          obtain ⟨old2, o1, o2, o3, o4⟩ := first_run hrd hold hs
          cases hs with
          | leaf h0 => simp [leafV] at h0
          | sliceE hs1 hl hc => exact growNew _ _ old old2 (by omega) o1 o2 o3 o4 hfree
          | sliceX hs1 hl hc hext => omega
          | sliceZ hcc => exact growNew _ _ old old2 (by omega) o1 o2 o3 o4 hfree
    · cases h
end
end Go.Am
namespace Go.Am
open Go
theorem run_getObj' {w : World} {r : Nat} {o : Obj} (P : Program) (h : w.heap[r]? = some o) (hc : ∀ c e f, o ≠ .cells c e f) : (getObj r).run P w = .ok o w := by
  simp only [getObj, Sem.run, h]
  all_goals (cases o <;> first | rfl | exact absurd rfl (hc _ _ _))
theorem run_setObj' {w : World} {r : Nat} {o o' : Obj} (P : Program) (h : w.heap[r]? = some o) (hc : ∀ c e f, o ≠ .cells c e f) :
    (setObj r o').run P w = .ok () { w with heap := w.heap.setIfInBounds r o' } := by
  simp only [setObj, Sem.run, h]
  all_goals (cases o <;> first | rfl | exact absurd rfl (hc _ _ _))
theorem WSet.setObj {w : World} {r : Nat} {o : Obj} (o' : Obj) (h : w.heap[r]? = some o) : WSet w { w with heap := w.heap.setIfInBounds r o' } r o' where
  size := by simp
  at_ := by
    have := (Array.getElem?_eq_some_iff.1 h).1
    simp [this]
  else_ B hB := by simp only [Array.getElem?_setIfInBounds]; rw [if_neg (fun e => hB e.symm)]
  tape := rfl
  os := rfl
  output := rfl
theorem pureRun_bind {α β : Type} (P : Program) (f : α → Sem β) : ∀ (s : Sem α), pureRun P (s >>= f) = (pureRun P s).bind fun a => pureRun P (f a) := by
  intro s
  show pureRun P (s.bind f) = _
  induction s with
  | pure a => rfl
  | program k ih => simp only [Sem.bind, pureRun]; exact ih P
  | mark m k ih => simp only [Sem.bind, pureRun]; exact ih
  | _ => rfl
section
variable {E : Env} {σ : Sig} {H : AH} {w : World}
theorem makeSlice_sim (he : EOk E) (hr : HR E σ H w) {t : TypeId} {l l' c c' : Value} (hl : VR σ l l') (hc : VR σ c c') :
    Sim E σ H w (makeSliceA E H t l c) (do pure (.value (← Instr.makeSlice t l' c'))) := by
  intro ar H' h hf
  unfold makeSliceA at h
  split at h
  case h_2 => cases h
  rename_i elem sz by_ z0 ag ln cn ht el ec
  split at h
  case h_2 => cases h
  rename_i ed esz eby ez eag hel
  simp only [bif_and, bif_beq, bif_ble, Nat.mul_eq, Nat.add_eq, Nat.succ_eq_add_one] at h
  split at h
  case isFalse => cases h
  rename_i hz
  split at h
  case isFalse => cases h
  rename_i hle
  split at h
  case isFalse => cases h
  rename_i hbig
  cases h
  obtain ⟨k1, rfl⟩ := nat?_spec el
  obtain ⟨k2, rfl⟩ := nat?_spec ec
  rw [hl.int_inv, hc.int_inv]
  obtain ⟨zv, h1, h2, h3, h4, h5⟩ := run_zero he hel rfl w
  have hzr := zero_refl (σ := σ) h2 h3
  have hzsz : zv.cells.size = esz := by rw [← hz, ← h3]; simp
  have hcn : cn ≤ 1000000000 := by
    have : cn * 1 ≤ cn * (eby + esz + 1) := Nat.mul_le_mul_left _ (by omega)
    omega
  have hcb : cn * eby ≤ 1000000000 := by
    have : cn * eby ≤ cn * (eby + esz + 1) := Nat.mul_le_mul_left _ (by omega)
    omega
  have hw1 : IntKind.i64.wrap (Int.ofNat ln) = (ln : Int) := wrap_nat (by omega)
  have hw2 : IntKind.i64.wrap (Int.ofNat cn) = (cn : Int) := wrap_nat (by omega)
  obtain ⟨i, hi, _, _, hby, _⟩ := he.types elem _ hel
  have hby' : i.bytes = eby := hby.symm
  have hti := fun w => run_typeInfo (P := E.prog) w hi
  have hsz := fun w => run_sizeOf' he hel w
  obtain ⟨za, hza, k2⟩ : ∃ za : Array Value, za = (if cn * esz = 0 then #[] else zv.cells) ∧
      ((Array.range (cn * esz)).map (fun i => za[i % za.size]!)).toList = reps ez cn := by
    by_cases h0 : cn * esz = 0
    · refine ⟨#[], by simp [h0], ?_⟩
      rw [h0]
      have : (reps ez cn).length = 0 := by rw [reps_length, hz, h0]
      simp [List.length_eq_zero_iff.1 this]
    · refine ⟨zv.cells, by simp [h0], ?_⟩
      rw [zeros_eq zv.cells cn esz hzsz.symm, h3]
  have hf' := hf.head (Nat.lt_succ_self _)
  obtain ⟨L, q1, q2, q3, q4, q5⟩ := new_cells hr hf' (cs := reps ez cn) (cs' := (Array.range (cn * esz)).map (fun i => za[i % za.size]!)) (el := elem)
    (by rw [k2, List.take_length]; exact reps_refl hzr cn) (by rw [reps_length, hz]; simp) (reps_one h4 cn)
  have hlt : ¬ ((cn : Int) < 0 ∨ (eby : Int) * (cn : Int) > 2 ^ 48 ∨ (ln : Int) < 0 ∨ (ln : Int) > (cn : Int)) := by
    have : (eby : Int) * (cn : Int) = ((cn * eby : Nat) : Int) := by rw [Nat.mul_comm]; simp
    rw [this]; omega
  have hb1 : decide ((cn : Int) < 0) = false := decide_eq_false (by omega)
  have hb2 : decide ((eby : Int) * (cn : Int) > 2 ^ 48) = false := by
    have : (eby : Int) * (cn : Int) = ((cn * eby : Nat) : Int) := by rw [Nat.mul_comm]; simp
    rw [this]; simp; omega
  have hb3 : decide ((ln : Int) < 0) = false := decide_eq_false (by omega)
  have hb4 : decide ((ln : Int) > (cn : Int)) = false := by simp; omega
  refine ⟨_, _, .value (.slice (some ⟨w.heap.size, 0, none⟩) ln cn), ?_, q5, ?_⟩
  · simp only [Instr.makeSlice, Sem.run_bind, run_und he ht, Result.andThen_ok, asInt, asIntOf, Sem.run_pure, hti, hw1, hw2, hby', hb1, hb2, hb3, hb4, Bool.or_false, Bool.false_eq_true, if_false,
      run_askRoom, Int.toNat_natCast, hsz]
    by_cases h0 : cn * esz = 0
    · rw [if_pos h0] at hza; subst hza
      simp only [if_pos h0, Sem.run_bind, Sem.run_pure, Result.andThen_ok, newRow, run_newObj]
      rfl
    · rw [if_neg h0] at hza; subst hza
      simp only [if_neg h0, Sem.run_bind, h1, Sem.run_pure, Result.andThen_ok, newRow, run_newObj]
      rfl
  · by_cases hlc : ln = cn
    · subst hlc
      have := VR.sliceX (σ := σ.add H.next L) (b := H.next) (i := 0) (l := ln) (c := ln) Sig.add_self (Nat.le_refl _) (by unfold capX; omega) (by rw [q3, q4 _ hel]; simp)
      rw [q1, q2] at this
      rw [if_pos rfl]
      exact this
    · rw [if_neg hlc]
      have := VR.sliceE (σ := σ.add H.next L) (i := 0) (l := ln) (c := cn) Sig.add_self hle (by unfold capX; omega)
      rw [q1, q2] at this
      exact this
theorem ERs.length : ∀ {es es' : List MapEntry}, ERs σ es es' → es'.length = es.length
  | _, _, .nil => rfl
  | _, _, .cons _ _ _ _ hs => by simp [ERs.length hs]
inductive FR (σ : Sig) : Option (Nat × Value) → Option (Nat × Value) → Prop
  | none : FR σ none none
  | some {i : Nat} {v v' : Value} (h : VR σ v v') : FR σ (some (i, v)) (some (i, v'))
theorem findNow_sim {kd : TypeDesc} {k : Value} : ∀ {es es' : List MapEntry}, ERs σ es es' → ∀ (i : Nat),
    (Instr.findNow kd k es i = none ∧ Instr.findNow kd k es' i = none) ∨ ∃ r r', Instr.findNow kd k es i = some r ∧ Instr.findNow kd k es' i = some r' ∧ FR σ r r'
  | _, _, .nil, i => .inr ⟨none, none, rfl, rfl, .none⟩
  | _, _, .cons (e := e) (e' := e') hk ek hv eb hs, i => by
    simp only [Instr.findNow, ek]
    cases Instr.sameNow kd k e.key with
    | none => exact .inl ⟨rfl, rfl⟩
    | some b => cases b with
      | true => exact .inr ⟨_, _, rfl, rfl, .some hv⟩
      | false => exact findNow_sim hs (i + 1)
theorem findAsking_sim {kt : TypeId} {k : Value} : ∀ {es es' : List MapEntry}, ERs σ es es' → ∀ (i : Nat) (r : Option (Nat × Value)), pureRun E.prog (Instr.findAsking kt k es i) = some r →
    ∃ r', pureRun E.prog (Instr.findAsking kt k es' i) = some r' ∧ FR σ r r'
  | _, _, .nil, i, r, h => by
    have : r = none := by simpa [Instr.findAsking, pureRun, pure] using h.symm
    subst this
    exact ⟨none, h, .none⟩
  | _, _, .cons (e := e) (e' := e') hk ek hv eb hs, i, r, h => by
    simp only [Instr.findAsking, pureRun_bind, ek] at h ⊢
    cases hq : pureRun E.prog (Op.equal kt k e.key) with
    | none => rw [hq] at h; simp at h
    | some b =>
      rw [hq] at h
      simp only [Option.bind_some] at h ⊢
      cases b with
      | true =>
        simp only [if_true] at h ⊢
        cases h
        exact ⟨_, rfl, .some hv⟩
      | false =>
        simp only [Bool.false_eq_true, if_false] at h ⊢
        exact findAsking_sim hs (i + 1) r h
theorem find_sim {kt : TypeId} {k : Value} {es es' : List MapEntry} (h : ERs σ es es') {r : Option (Nat × Value)} (hp : pureRun E.prog (Instr.findKey kt k es) = some r) :
    ∃ r', pureRun E.prog (Instr.findKey kt k es') = some r' ∧ FR σ r r' := by
  simp only [Instr.findKey, pureRun_bind] at hp ⊢
  cases hd : pureRun E.prog (underlying kt) with
  | none => rw [hd] at hp; simp at hp
  | some kd =>
    rw [hd] at hp
    simp only [Option.bind_some] at hp ⊢
    rcases findNow_sim (kd := kd) (k := k) h 0 with ⟨h1, h2⟩ | ⟨r1, r2, h1, h2, h3⟩
    · rw [h1] at hp; rw [h2]
      exact findAsking_sim h 0 r hp
    · rw [h1] at hp; rw [h2]
      cases hp
      exact ⟨r2, rfl, h3⟩
theorem findA_run {kt : TypeId} {k k' : Value} {es es' : List MapEntry} (h : ERs σ es es') (hk : VR σ k k') {r : Option (Nat × Value)} (hp : findA E kt k es = some r) :
    ∃ r', (Instr.checkKey es.isEmpty 10000 kt k').run E.prog w = .ok () w ∧ (Instr.findKey kt k' es').run E.prog w = .ok r' w ∧ FR σ r r' := by
  unfold findA at hp
  cases hfl : flatV k with
  | false => rw [hfl] at hp; simp at hp
  | true =>
    rw [hfl, cond_true, pureRun_bind] at hp
    rw [flat_run hfl hk]
    cases h1 : pureRun E.prog (Instr.checkKey es.isEmpty 10000 kt k) with
    | none => rw [h1] at hp; simp at hp
    | some u =>
      rw [h1] at hp
      obtain ⟨r', g1, g2⟩ := find_sim h hp
      exact ⟨r', pure_run _ _ _ _ h1, pure_run _ _ _ _ g1, g2⟩
theorem findA_nil {kt : TypeId} {k : Value} {r : Option (Nat × Value)} (h : findA E kt k [] = some r) : r = none := by
  unfold findA at h
  cases hfl : flatV k with
  | false => rw [hfl] at h; simp at h
  | true =>
    rw [hfl, cond_true, pureRun_bind] at h
    cases h1 : pureRun E.prog (Instr.checkKey ([] : List MapEntry).isEmpty 10000 kt k) with
    | none => rw [h1] at h; simp at h
    | some u =>
      rw [h1] at h
      simp only [Option.bind_some, Instr.findKey, pureRun_bind] at h
      cases h2 : pureRun E.prog (underlying kt) with
      | none => rw [h2] at h; simp at h
      | some d => rw [h2] at h; simpa [Instr.findNow, pureRun, pure] using h.symm
theorem HR.mapAt (hr : HR E σ H w) {b ck rt : Nat} {L : Loc} {es : List MapEntry} {own : Bool} (hb : H.blocks.get b = some ⟨.map es ck, rt, own⟩) (hs : σ b = some L) :
    L.off = 0 ∧ ∃ es', w.heap[L.blk]? = some (.map es' ck) ∧ ERs σ es es'.toList := by
  obtain ⟨o, h1, h2⟩ := hr.objs b _ L hb hs
  cases o <;> simp only [ObjR] at h2
  obtain ⟨h3, rfl, h4⟩ := h2
  exact ⟨h3, _, h1, h4⟩
theorem isEmpty_eq {es : List MapEntry} {es' : Array MapEntry} (h : ERs σ es es'.toList) : es'.isEmpty = es.isEmpty := by
  have := h.length
  rw [Array.length_toList] at this
  cases es with
  | nil => simp at this ⊢; simpa using this
  | cons e es => simp at this ⊢; intro e; rw [e] at this; simp at this
theorem lookup_run (he : EOk E) (hr : HR E σ H w) {t : TypeId} {x x' k k' v : Value} {ok : Bool} (h : lookupA E H t x k ok = some v) (hx : VR σ x x') (hk : VR σ k k') :
    ∃ v', (Instr.lookup t x' k' ok).run E.prog w = .ok v' w ∧ VR σ v v' := by
  unfold lookupA at h
  split at h
  case h_2 => cases h
  rename_i kt et sz by_ z ag es ht hm
  have hund := fun w => run_und he ht w
  have hent : (x' = .map none ∧ es = []) ∨ ∃ B es' ck, x' = .map (some B) ∧ w.heap[B]? = some (.map es' ck) ∧ ERs σ es es'.toList := by
    unfold mapOf at hm
    split at hm
    · cases hm
      cases hx
      exact .inl ⟨rfl, rfl⟩
    · rename_i r
      split at hm
      case h_2 => cases hm
      rename_i ck rt own hb
      cases hm
      cases hx with
      | leaf h0 => simp [leafV] at h0
      | map hs h0 =>
        obtain ⟨_, es', g1, g2⟩ := hr.mapAt hb hs
        exact .inr ⟨_, es', _, rfl, g1, g2⟩
    · cases hm
  split at h
  case h_3 => cases h
  · rename_i i u hfa
    cases h
    rcases hent with ⟨rfl, rfl⟩ | ⟨B, es', ck, rfl, hB, her⟩
    · cases findA_nil hfa
    · obtain ⟨r', c1, c2, c3⟩ := findA_run (w := w) her hk hfa
      cases c3 with
      | some hv =>
        rename_i u'
        rw [← isEmpty_eq her] at c1
        refine ⟨bif ok then .tuple #[u', .bool true] else u', ?_, ?_⟩
        · simp only [Instr.lookup, Sem.run_bind, hund, Result.andThen_ok, Sem.run_pure, run_getObj' E.prog hB (by simp), c1, c2]
          cases ok <;> rfl
        · cases ok
          · exact hv
          · exact .tuple (.cons hv (.cons (.leaf rfl) .nil))
  · rename_i ed esz eby ez eag hfa hel
    split at h
    case h_2 => cases h
    rename_i zv hzv
    cases h
    obtain ⟨z1, z2⟩ := run_zeroVal he hel rfl hzv w
    have hzr : VR σ zv zv := flat_refl _ _ z2
    refine ⟨bif ok then .tuple #[zv, .bool false] else zv, ?_, ?_⟩
    · rcases hent with ⟨rfl, rfl⟩ | ⟨B, es', ck, rfl, hB, her⟩
      · obtain ⟨r', c1, c2, c3⟩ := findA_run (w := w) (es' := []) (σ := σ) .nil hk hfa
        cases c3
        have c1' : (Instr.checkKey (#[] : Array MapEntry).isEmpty 10000 kt k').run E.prog w = .ok () w := c1
        have c2' : (Instr.findKey kt k' (#[] : Array MapEntry).toList).run E.prog w = .ok none w := c2
        simp only [Instr.lookup, Sem.run_bind, hund, Result.andThen_ok, Sem.run_pure, c1', c2', z1]
        cases ok <;> rfl
      · obtain ⟨r', c1, c2, c3⟩ := findA_run (w := w) her hk hfa
        cases c3
        rw [← isEmpty_eq her] at c1
        simp only [Instr.lookup, Sem.run_bind, hund, Result.andThen_ok, Sem.run_pure, run_getObj' E.prog hB (by simp), c1, c2, z1]
        cases ok <;> rfl
    · cases ok
      · exact hzr
      · exact .tuple (.cons hzr (.cons (.leaf rfl) .nil))
end
end Go.Am
namespace Go.Am
open Go
section
variable {E : Env} {σ : Sig} {H : AH} {w : World}
theorem ERs.get : ∀ {es es' : List MapEntry}, ERs σ es es' → ∀ (i : Nat) (e : MapEntry), es[i]? = some e → ∃ e', es'[i]? = some e' ∧ e'.key = e.key ∧ e'.born = e.born
  | _, _, .nil, i, e, h => by simp at h
  | _, _, .cons hk ek hv eb hs, 0, e, h => by simp at h; subst h; exact ⟨_, rfl, ek, eb⟩
  | _, _, .cons hk ek hv eb hs, i + 1, e, h => by simpa using ERs.get hs i e (by simpa using h)
theorem ERs.modify {k v v' : Value} (hk0 : flatV k = true) (hv0 : VR σ v v') : ∀ {es es' : List MapEntry} (i : Nat), ERs σ es es' →
    ERs σ (Go.Am.modify es i k v) (es'.modify i fun e => { e with key := k, val := v' })
  | _, _, _, .nil => by simp [Go.Am.modify]; exact .nil
  | _, _, 0, .cons hk ek hv eb hs => by simp [Go.Am.modify]; exact .cons hk0 rfl hv0 eb hs
  | _, _, i + 1, .cons hk ek hv eb hs => by simp [Go.Am.modify]; exact .cons hk ek hv eb (ERs.modify hk0 hv0 i hs)
theorem ERs.snoc {e e' : MapEntry} (hk0 : flatV e.key = true) (hk1 : e'.key = e.key) (hv0 : VR σ e.val e'.val) (hb : e'.born = e.born) : ∀ {es es' : List MapEntry}, ERs σ es es' →
    ERs σ (es ++ [e]) (es' ++ [e'])
  | _, _, .nil => .cons hk0 hk1 hv0 hb .nil
  | _, _, .cons hk ek hv eb hs => .cons hk ek hv eb (ERs.snoc hk0 hk1 hv0 hb hs)
theorem ERs.erase : ∀ {es es' : List MapEntry} (i : Nat), ERs σ es es' → ERs σ (es.eraseIdx i) (es'.eraseIdx i)
  | _, _, _, .nil => by simp; exact .nil
  | _, _, 0, .cons hk ek hv eb hs => by simpa using hs
  | _, _, i + 1, .cons hk ek hv eb hs => by simp; exact .cons hk ek hv eb (ERs.erase i hs)
theorem toList_modify (es : Array MapEntry) (i : Nat) (f : MapEntry → MapEntry) : (es.modify i f).toList = es.toList.modify i f := by
  apply List.ext_getElem?
  intro j
  simp [Array.getElem?_modify, List.getElem?_modify]
theorem update_run (he : EOk E) (hr : HR E σ H w) {t : TypeId} {m m' k k' v v' : Value} {H' : AH} (h : updateA E H t m k v = some H') (hm : VR σ m m') (hk : VR σ k k') (hv : VR σ v v') :
    ∃ w', (Instr.mapUpdate t m' k' v').run E.prog w = .ok () w' ∧ Step E σ H w σ H' w' := by
  unfold updateA at h
  split at h
  case h_2 => cases h
  rename_i kt et sz by_ z ag r ht
  split at h
  case h_2 => cases h
  rename_i es ck rt hb
  cases hfl : flatV k with
  | false => rw [hfl] at h; simp at h
  | true =>
    rw [hfl, cond_true] at h
    rw [flat_run hfl hk]
    cases hm with
    | leaf h0 => simp [leafV] at h0
    | map hs h0 =>
      rename_i L
      obtain ⟨_, es', hB, her⟩ := hr.mapAt hb hs
      have hund := fun w => run_und he ht w
      simp only [pureRun_bind] at h
      cases h1 : pureRun E.prog (Instr.checkKey false 10000 kt k) with
      | none => rw [h1] at h; simp at h
      | some u =>
        rw [h1] at h
        simp only [Option.bind_some] at h
        have c1 := fun w => pure_run E.prog w _ _ h1
        cases h2 : pureRun E.prog (Instr.findKey kt k es) with
        | none => rw [h2] at h; simp at h
        | some r0 =>
          rw [h2] at h
          obtain ⟨r', g1, g2⟩ := find_sim her h2
          have c2 := fun w => pure_run E.prog w _ _ g1
          cases g2 with
          | none =>
            simp only [Option.some.injEq] at h
            subst h
            refine ⟨_, ?_, Step.write hr hb rfl hs (WSet.setObj (.map (es'.push { key := k, val := v', born := ck }) (ck + 1)) hB) ?_⟩
            · simp only [Instr.mapUpdate, Sem.run_bind, hund, Result.andThen_ok, run_getObj' E.prog hB (by simp), c1, c2, run_setObj' E.prog hB (by simp)]
            · exact ⟨h0, rfl, by rw [Array.toList_push]; exact ERs.snoc (e := { key := k, val := v, born := ck }) (e' := { key := k, val := v', born := ck }) hfl rfl hv rfl her⟩
          | some hvv =>
            rename_i i u u'
            simp only at h
            split at h
            case h_2 => cases h
            rename_i e hei
            cases hsb : Instr.sameBits 10000 e.key k with
            | false => rw [hsb] at h; simp at h
            | true =>
              rw [hsb, cond_true] at h
              simp only [Option.some.injEq] at h
              subst h
              obtain ⟨e', he', hke, _⟩ := her.get i e hei
              have hkey : (((es'[i]?).map (·.key)).getD k) = e.key := by
                rw [← Array.getElem?_toList, he']; simp [hke]
              have hkts : ∀ w, (Instr.keyThatStays (((es'[i]?).map (·.key)).getD k) k).run E.prog w = .ok k w := by
                intro w; rw [hkey]; simp [Instr.keyThatStays, hsb]
              refine ⟨_, ?_, Step.write hr hb rfl hs (WSet.setObj (.map (es'.modify i fun e => { e with key := k, val := v' }) ck) hB) ?_⟩
              · simp only [Instr.mapUpdate, Sem.run_bind, hund, Result.andThen_ok, run_getObj' E.prog hB (by simp), c1, c2, hkts, run_setObj' E.prog hB (by simp)]
              · exact ⟨h0, rfl, by rw [toList_modify]; exact her.modify hfl hv i⟩
theorem delete_run (he : EOk E) (hr : HR E σ H w) {t ty : TypeId} {ats : List TypeId} {m m' k k' : Value} {H' : AH} (h : deleteA E H t m k = some H') (hm : VR σ m m') (hk : VR σ k k') :
    ∃ w', (Builtin.delete_ ⟨t :: ats⟩ ty #[m', k']).run E.prog w = .ok (.tuple #[]) w' ∧ Step E σ H w σ H' w' := by
  unfold deleteA at h
  split at h
  case h_3 => cases h
  · rename_i kt et sz by_ z ag r ht
    split at h
    case h_2 => cases h
    rename_i es ck rt hb
    cases hm with
    | leaf h0 => simp [leafV] at h0
    | map hs h0 =>
      rename_i L
      obtain ⟨_, es', hB, her⟩ := hr.mapAt hb hs
      have hund := fun w => run_und he ht w
      split at h
      case h_3 => cases h
      · rename_i i u hfa
        cases h
        obtain ⟨r', c1, c2, c3⟩ := findA_run (w := w) her hk hfa
        cases c3 with
        | some hvv =>
          rw [← isEmpty_eq her] at c1
          refine ⟨_, ?_, Step.write hr hb rfl hs (WSet.setObj (.map (es'.eraseIdxIfInBounds i) ck) hB) ?_⟩
          · simp only [Builtin.delete_, List.getElem?_toArray, List.getElem?_cons_zero, List.getElem?_cons_succ, Sem.run_bind, hund, Result.andThen_ok, run_getObj' E.prog hB (by simp), c1, c2, run_setObj' E.prog hB (by simp), Sem.run_pure]
          · refine ⟨h0, rfl, ?_⟩
            rw [Array.toList_eraseIdxIfInBounds]
            exact her.erase i
      · rename_i hfa
        cases h
        obtain ⟨r', c1, c2, c3⟩ := findA_run (w := w) her hk hfa
        cases c3
        rw [← isEmpty_eq her] at c1
        refine ⟨_, ?_, Step.write hr hb rfl hs (WSet.setObj (.map es' ck) hB) ⟨h0, rfl, her⟩⟩
        simp only [Builtin.delete_, List.getElem?_toArray, List.getElem?_cons_zero, List.getElem?_cons_succ, Sem.run_bind, hund, Result.andThen_ok, run_getObj' E.prog hB (by simp), c1, c2, run_setObj' E.prog hB (by simp), Sem.run_pure]
  · rename_i kt et sz by_ z ag ht
    split at h
    case h_2 => cases h
    rename_i r hfa
    cases h
    obtain ⟨r', c1, _, _⟩ := findA_run (w := w) (es' := []) (σ := σ) .nil hk hfa
    have c1' : (Instr.checkKey true 10000 kt k').run E.prog w = .ok () w := c1
    have hund := fun w => run_und he ht w
    cases hm
    refine ⟨w, ?_, Step.refl hr⟩
    simp only [Builtin.delete_, List.getElem?_toArray, List.getElem?_cons_zero, List.getElem?_cons_succ, Sem.run_bind, hund, Result.andThen_ok, c1', Sem.run_pure]
theorem range_sim (he : EOk E) (hr : HR E σ H w) {t : TypeId} {ti : TI} {s : ByteArray} {x' : Value} (ht : E.types.get t = some ti) (hd : ti.desc = .string) (hx : VR σ (.string s) x') :
    Sim E σ H w (some (.val (.pointer (some ⟨H.next, 0, none⟩)), H.new (.siter s 0))) (do pure (.value (← Instr.range t x'))) := by
  intro ar H' h hf
  cases h
  rw [hx.string_inv]
  have hund := fun w => run_und he ht w
  rw [hd] at hund
  have hf' := hf.head (Nat.lt_succ_self _)
  have st := Step.new hr hf' (.siter s 0) (.stringIter s 0) ⟨w.heap.size, 0, 0, 0⟩ rfl ⟨rfl, rfl, rfl⟩
  refine ⟨_, _, .value (.pointer (some ⟨w.heap.size, 0, none⟩)), ?_, st, ?_⟩
  · simp only [Instr.range, Sem.run_bind, hund, Result.andThen_ok, Sem.run_pure, run_newObj]
    rfl
  · exact VR.ptr (σ := σ.add H.next ⟨w.heap.size, 0, 0, 0⟩) (i := 0) Sig.add_self
theorem ERs.filter {p : MapEntry → Bool} (hp : ∀ e e' : MapEntry, e'.born = e.born → p e' = p e) : ∀ {es es' : List MapEntry}, ERs σ es es' → ERs σ (es.filter p) (es'.filter p)
  | _, _, .nil => .nil
  | _, _, .cons (e := e) (e' := e') hk ek hv eb hs => by
    have h := hp e e' eb
    have ih := ERs.filter hp hs
    cases hc : p e
    · simpa [List.filter_cons, h, hc] using ih
    · simpa [List.filter_cons, h, hc] using ERs.cons hk ek hv eb ih
theorem ERs.all {p : MapEntry → Bool} (hp : ∀ e e' : MapEntry, e'.born = e.born → p e' = p e) : ∀ {es es' : List MapEntry}, ERs σ es es' → es'.all p = es.all p
  | _, _, .nil => rfl
  | _, _, .cons hk ek hv eb hs => by simp [hp _ _ eb, ERs.all hp hs]
theorem ERs.nil_inv {es' : List MapEntry} (h : ERs σ [] es') : es' = [] := by cases h; rfl
theorem ERs.one_inv {e : MapEntry} {es' : List MapEntry} (h : ERs σ [e] es') : ∃ e', es' = [e'] ∧ flatV e.key = true ∧ e'.key = e.key ∧ VR σ e.val e'.val ∧ e'.born = e.born := by
  cases h with
  | cons hk ek hv eb hs => cases hs; exact ⟨_, rfl, hk, ek, hv, eb⟩
theorem bornSeen (seen : List Nat) (seen' : Array Nat) (h : seen'.toList = seen) (b : Nat) : seen'.contains b = seen.contains b := by
  subst h; simp
theorem mnext_run {es : List MapEntry} {es' : Array MapEntry} {ck since last B R : Nat} {seen : List Nat} {seen' : Array Nat} {ty : TypeId}
    (her : ERs σ es es'.toList) (hs : seen'.toList = seen) (hI : w.heap[R]? = some (.mapIter (some B) since seen' last)) (hB : w.heap[B]? = some (.map es' ck))
    {r : Option MapEntry} (h : mapNext1 es since seen last = some r) :
    match r with
    | none => (Instr.next (.pointer (some ⟨R, 0, none⟩)) false ty).run E.prog w = .ok (.tuple #[.bool false]) w
    | some e => ∃ e' : MapEntry, flatV e.key = true ∧ e'.key = e.key ∧ VR σ e.val e'.val ∧ e'.born = e.born ∧
        (Instr.next (.pointer (some ⟨R, 0, none⟩)) false ty).run E.prog w =
          .ok (.tuple #[.bool true, e'.key, e'.val]) { w with heap := w.heap.setIfInBounds R (.mapIter (some B) since (seen'.push e'.born) ck) } := by
  have hsb := bornSeen seen seen' hs
  have hse : seen'.isEmpty = seen.isEmpty := by rw [← hs]; simp [Array.isEmpty, List.isEmpty_iff, Array.size_eq_zero_iff]
  have hee := isEmpty_eq her
  have hall : es'.all (fun e => decide (e.born ≥ last)) = es.all (fun e => Nat.ble last e.born) := by
    rw [← Array.all_toList, ERs.all (p := fun e => decide (e.born ≥ last)) (fun e e' hb => by simp [hb]) her]
    congr 1
    funext e
    rw [Bool.eq_iff_iff]
    simp
  have hl := ERs.filter (p := fun e => !(seen.contains e.born)) (fun e e' hb => by simp [hb]) her
  have h1 := ERs.filter (p := fun e => Nat.blt e.born since) (fun e e' hb => by simp [hb]) hl
  have h2 := ERs.filter (p := fun e => Nat.ble since e.born) (fun e e' hb => by simp [hb]) hl
  have eL : (es'.filter fun e => !seen'.contains e.born) = ⟨es'.toList.filter fun e => !(seen.contains e.born)⟩ := by
    apply Array.ext'
    rw [Array.toList_filter]
    simp only [hsb]
  have eO : ∀ l : List MapEntry, ((⟨l⟩ : Array MapEntry).filter fun e => decide (e.born < since)) = ⟨l.filter fun e => Nat.blt e.born since⟩ := by
    intro l
    apply Array.ext'
    rw [Array.toList_filter]
    congr 1
    funext e
    rw [Bool.eq_iff_iff]
    simp [Nat.blt_eq]
  have eN : ∀ l : List MapEntry, ((⟨l⟩ : Array MapEntry).filter fun e => decide (e.born ≥ since)) = ⟨l.filter fun e => Nat.ble since e.born⟩ := by
    intro l
    apply Array.ext'
    rw [Array.toList_filter]
    congr 1
    funext e
    rw [Bool.eq_iff_iff]
    simp
  unfold mapNext1 at h
  cases hc : (!seen.isEmpty && !es.isEmpty && es.all (fun e => Nat.ble last e.born)) with
  | true => rw [hc] at h; simp at h
  | false =>
    rw [hc] at h
    simp only [cond_false] at h
    have hf : ∀ k : Question, k = .mapNext 1 → k.forced = true := by rintro _ rfl; rfl
    split at h
    · rename_i q1 q2
      cases h
      rw [q1] at h1
      rw [q2] at h2
      have w1 := h1.nil_inv
      have w2 := h2.nil_inv
      simp only [Instr.next, Sem.run_bind, run_getObj' E.prog hI (by simp), run_getObj' E.prog hB (by simp), Result.andThen_ok, hse, hee, hall, hc, Bool.false_eq_true, if_false, Sem.run_pure, eL, eO, eN, w1, w2]
      simp [run_choose, Question.forced]
    · rename_i e q1 q2
      cases h
      rw [q1] at h1
      rw [q2] at h2
      obtain ⟨e', w1, g1, g2, g3, g4⟩ := h1.one_inv
      have w2 := h2.nil_inv
      refine ⟨e', g1, g2, g3, g4, ?_⟩
      simp only [Instr.next, Sem.run_bind, run_getObj' E.prog hI (by simp), run_getObj' E.prog hB (by simp), Result.andThen_ok, hse, hee, hall, hc, Bool.false_eq_true, if_false, Sem.run_pure, eL, eO, eN, w1, w2]
      simp [run_choose, Question.forced, run_setObj' E.prog hI (by simp)]
    · cases h
theorem next_sim (hr : HR E σ H w) {it it' : Value} {str : Bool} {ty : TypeId} (hx : VR σ it it') :
    Sim E σ H w (nextA H it str) (do pure (.value (← Instr.next it' str ty))) := by
  intro ar H' h hf
  unfold nextA at h
  split at h
  case h_3 => cases h
  · rename_i r
    split at h
    case h_2 => cases h
    rename_i s pos rt hb
    cases hx with
    | leaf h0 => simp [leafV] at h0
    | ptr hs =>
      rename_i L
      obtain ⟨o, g1, g2⟩ := hr.objs r _ L hb hs
      cases o <;> simp only [ObjR] at g2
      obtain ⟨h0, e1, e2⟩ := g2
      rw [e1, e2] at g1
      simp only [bif_ble] at h
      rw [h0]
      split at h
      · rename_i hlt
        cases h
        refine ⟨σ, _, .value (.tuple #[.bool true, goInt pos, .int .i32 (Utf8.decode s pos).1]), ?_, Step.write hr hb rfl hs (WSet.setObj (.stringIter s (pos + (Utf8.decode s pos).2)) g1) ⟨h0, rfl, rfl⟩, ?_⟩
        · have hlt' : pos < s.size := hlt
          simp only [Instr.next, Nat.add_zero, Sem.run_bind, run_getObj' E.prog g1 (by simp), Result.andThen_ok, if_pos hlt', run_setObj' E.prog g1 (by simp), Sem.run_pure]
        · exact .tuple (.cons (.leaf rfl) (.cons (.leaf rfl) (.cons (.leaf rfl) .nil)))
      · rename_i hlt
        cases h
        refine ⟨σ, w, .value (.tuple #[.bool false]), ?_, Step.refl hr, .tuple (.cons (.leaf rfl) .nil)⟩
        have hlt' : ¬ pos < s.size := hlt
        simp only [Instr.next, Nat.add_zero, Sem.run_bind, run_getObj' E.prog g1 (by simp), Result.andThen_ok, if_neg hlt', Sem.run_pure]
  · rename_i r
    split at h
    case h_2 => cases h
    rename_i m since seen last rt hb
    split at h
    case h_2 => cases h
    rename_i es ck rt2 own2 hm
    cases hx with
    | leaf h0 => simp [leafV] at h0
    | ptr hs =>
      rename_i L
      obtain ⟨o, g1, g2⟩ := hr.objs r _ L hb hs
      cases o <;> simp only [ObjR] at g2
      rename_i m' since' seen' last'
      cases m' with
      | none => simp at g2
      | some m' =>
        simp only at g2
        obtain ⟨h0, ⟨M, h2, h3, h4⟩, h5, h6, h7⟩ := g2
        obtain ⟨_, es', hB, her⟩ := hr.mapAt hm h2
        rw [h4] at hB
        subst h5 h7
        rw [h0]
        split at h
        · rename_i e hn
          cases h
          obtain ⟨e', k1, k2, k3, k4, k5⟩ := mnext_run (E := E) (ty := ty) her h6 g1 hB hn
          refine ⟨σ, _, .value (.tuple #[.bool true, e'.key, e'.val]), ?_, Step.write hr hb rfl hs (WSet.setObj (.mapIter (some m') since' (seen'.push e'.born) ck) g1) ⟨h0, ⟨M, h2, h3, h4⟩, rfl, by rw [Array.toList_push, h6, k4], rfl⟩, ?_⟩
          · simp only [Nat.add_zero, Sem.run_bind]
            rw [k5]
            simp only [Result.andThen_ok, Sem.run_pure]
          · exact .tuple (.cons (.leaf rfl) (.cons (by rw [k2]; exact flat_refl _ _ k1) (.cons k3 .nil)))
        · rename_i hn
          cases h
          have k5 := mnext_run (E := E) (ty := ty) her h6 g1 hB hn
          refine ⟨σ, w, .value (.tuple #[.bool false]), ?_, Step.refl hr, .tuple (.cons (.leaf rfl) .nil)⟩
          simp only [Nat.add_zero, Sem.run_bind]
          rw [k5]
          simp only [Result.andThen_ok, Sem.run_pure]
        · cases h
theorem ERs.find {b : Nat} {e : MapEntry} : ∀ {es es' : List MapEntry}, ERs σ es es' → es.find? (fun e => e.born == b) = some e →
    ∃ e', es'.find? (fun e => e.born == b) = some e' ∧ flatV e.key = true ∧ e'.key = e.key ∧ VR σ e.val e'.val
  | _, _, .nil, h => by simp at h
  | _, _, .cons (e := x) (e' := x') hk ek hv eb hs, h => by
    rw [List.find?_cons] at h ⊢
    rw [eb]
    cases hc : (x.born == b) with
    | true => rw [hc] at h; simp only [Option.some.injEq] at h; subst h; exact ⟨x', rfl, hk, ek, hv⟩
    | false => rw [hc] at h; exact ERs.find hs h
theorem entry_run (hr : HR E σ H w) {it it' v : Value} (h : entryA H it = some v) (hx : VR σ it it') :
    ∃ v', (Instr.entry it').run E.prog w = .ok v' w ∧ VR σ v v' := by
  unfold entryA at h
  split at h
  case h_2 => cases h
  rename_i r
  split at h
  case h_2 => cases h
  rename_i m since seen last rt hb
  split at h
  case h_2 => cases h
  rename_i es ck rt2 own2 hm
  rw [bif_beq] at h
  split at h
  case isFalse => cases h
  rename_i hc
  split at h
  case h_2 => cases h
  rename_i b hlast
  split at h
  case h_2 => cases h
  rename_i e hfind
  cases h
  cases hx with
  | leaf h0 => simp [leafV] at h0
  | ptr hs =>
    rename_i L
    obtain ⟨o, g1, g2⟩ := hr.objs r _ L hb hs
    cases o <;> simp only [ObjR] at g2
    rename_i m' since' seen' last'
    cases m' with
    | none => simp at g2
    | some m' =>
      simp only at g2
      obtain ⟨h0, ⟨M, h2, h3, h4⟩, h5, h6, h7⟩ := g2
      obtain ⟨_, es', hB, her⟩ := hr.mapAt hm h2
      rw [h4] at hB
      subst h5 h7
      obtain ⟨e', k1, k2, k3, k4⟩ := her.find hfind
      rw [h0]
      have hback : seen'.back? = some b := by rw [← hlast, ← h6, Array.getLast?_toList]
      refine ⟨.tuple #[e'.key, e'.val], ?_, .tuple (.cons (by rw [k3]; exact flat_refl _ _ k2) (.cons k4 .nil))⟩
      have hfind' : es'.find? (fun e => e.born == b) = some e' := by rw [← k1, Array.find?_toList]
      have hne : (ck != last') = false := by simpa using hc
      simp only [Instr.entry, Nat.add_zero, Sem.run_bind, run_getObj' E.prog g1 (by simp), run_getObj' E.prog hB (by simp), Result.andThen_ok, hback, hne, hfind', Bool.false_eq_true, if_false, Sem.run_pure]
theorem mrange_sim (he : EOk E) (hr : HR E σ H w) {t : TypeId} {ti : TI} {m ck rt : Nat} {own : Bool} {es : List MapEntry} {x' : Value} {kt et : TypeId} (ht : E.types.get t = some ti) (hd : ti.desc = .map kt et)
    (hb : H.blocks.get m = some ⟨.map es ck, rt, own⟩) (hx : VR σ (.map (some m)) x') :
    Sim E σ H w (some (.val (.pointer (some ⟨H.next, 0, none⟩)), H.new (.miter m ck [] ck))) (do pure (.value (← Instr.range t x'))) := by
  intro ar H' h hf
  cases h
  have hund := fun w => run_und he ht w
  rw [hd] at hund
  have hf' := hf.head (Nat.lt_succ_self _)
  cases hx with
  | leaf h0 => simp [leafV] at h0
  | map hs h0 =>
    rename_i M
    obtain ⟨_, es', hB, her⟩ := hr.mapAt hb hs
    have hle : Sig.le σ (σ.add H.next ⟨w.heap.size, 0, 0, 0⟩) := Sig.add_le hf'
    have st := Step.new hr hf' (.miter m ck [] ck) (.mapIter (some M.blk) ck #[] ck) ⟨w.heap.size, 0, 0, 0⟩ rfl ⟨rfl, ⟨M, hle _ _ hs, h0, rfl⟩, rfl, rfl, rfl⟩
    refine ⟨_, _, .value (.pointer (some ⟨w.heap.size, 0, none⟩)), ?_, st, ?_⟩
    · simp only [Instr.range, Sem.run_bind, hund, Result.andThen_ok, run_getObj' E.prog hB (by simp), Sem.run_pure, run_newObj]
      rfl
    · exact VR.ptr (σ := σ.add H.next ⟨w.heap.size, 0, 0, 0⟩) (i := 0) Sig.add_self
theorem bytes_fold {m : String} : ∀ {cs : List Value} {l : List UInt8}, bytesA cs = some l → ∀ (acc : ByteArray) (w : World),
    (forIn cs acc (fun c s => (match c with | .int .u8 n => pure (.yield (s.push (UInt8.ofNat n.toNat))) | _ => (do stuck m; pure (.yield s)) : Sem (ForInStep ByteArray)))).run E.prog w = .ok ⟨⟨acc.data.toList ++ l⟩⟩ w
  | [], l, h, acc, w => by
    simp [bytesA] at h; subst h
    simp only [List.forIn_nil, Sem.run_pure, List.append_nil]
  | c :: cs, l, h, acc, w => by
    unfold bytesA at h
    split at h
    · rename_i heq; cases heq
    · rename_i b vs heq
      cases heq
      simp only [Option.map_eq_some_iff] at h
      obtain ⟨l', h1, rfl⟩ := h
      simp only [List.forIn_cons, Sem.run_bind, Sem.run_pure, Result.andThen_ok]
      rw [bytes_fold h1]
      congr 3
      simp [ByteArray.push]
    · cases h
theorem runes_fold {m : String} : ∀ {cs : List Value} {l : List UInt8}, runesA cs = some l → ∀ (acc : ByteArray) (w : World),
    (forIn cs acc (fun c s => (match c with | .int .i32 n => pure (.yield (s ++ Utf8.encode n)) | _ => (do stuck m; pure (.yield s)) : Sem (ForInStep ByteArray)))).run E.prog w = .ok ⟨⟨acc.data.toList ++ l⟩⟩ w
  | [], l, h, acc, w => by
    simp [runesA] at h; subst h
    simp only [List.forIn_nil, Sem.run_pure, List.append_nil]
  | c :: cs, l, h, acc, w => by
    unfold runesA at h
    split at h
    · rename_i heq; cases heq
    · rename_i b vs heq
      cases heq
      simp only [Option.map_eq_some_iff] at h
      obtain ⟨l', h1, rfl⟩ := h
      simp only [List.forIn_cons, Sem.run_bind, Sem.run_pure, Result.andThen_ok]
      rw [runes_fold h1]
      congr 3
      simp [← List.append_assoc]
    · cases h
end
end Go.Am
namespace Go.Am
open Go
section
variable {E : Env} {σ : Sig} {H : AH} {w : World}
theorem bytesA_rel : ∀ {cs cs' : List Value} {l : List UInt8}, bytesA cs = some l → VRs σ cs cs' → bytesA cs' = some l
  | [], [], _, h, .nil => h
  | v :: _, _ :: _, l, h, .cons hv hs => by
    unfold bytesA at h
    split at h
    · rename_i heq; cases heq
    · rename_i b vs heq
      cases heq
      simp only [Option.map_eq_some_iff] at h
      obtain ⟨l', h1, rfl⟩ := h
      rw [hv.int_inv]
      simp only [bytesA, bytesA_rel h1 hs]
      rfl
    · cases h
theorem runesA_rel : ∀ {cs cs' : List Value} {l : List UInt8}, runesA cs = some l → VRs σ cs cs' → runesA cs' = some l
  | [], [], _, h, .nil => h
  | v :: _, _ :: _, l, h, .cons hv hs => by
    unfold runesA at h
    split at h
    · rename_i heq; cases heq
    · rename_i b vs heq
      cases heq
      simp only [Option.map_eq_some_iff] at h
      obtain ⟨l', h1, rfl⟩ := h
      rw [hv.int_inv]
      simp only [runesA, runesA_rel h1 hs]
      rfl
    · cases h
theorem toString_run (he : EOk E) (hr : HR E σ H w) {s d : TypeId} {a : Option Addr} {n c : Nat} {v v' : Value} (h : toStringA E H s d (.slice a n c) n = some v) (hx : VR σ (.slice a n c) v') :
    ∃ u, (Go.convert s d v').run E.prog w = .ok u w ∧ VR σ v u := by
  unfold toStringA at h
  split at h
  case h_2 => cases h
  rename_i e sz1 by1 z1 ag1 sz2 by2 z2 ag2 cs hs hd hcs
  obtain ⟨cs', f1, f2, _, _⟩ := first_run hr hcs hx
  have hus := fun w => run_und he hs w
  have hud := fun w => run_und he hd w
  have key : ∀ A c', v' = .slice A n c' → (match A with | some A => loadCells A n | none => pure #[]).run E.prog w = .ok ⟨cs'⟩ w := by
    rintro A c' rfl
    cases A with
    | none =>
      simp only [Builtin.firstCells, Sem.run_pure] at f1 ⊢
      exact f1
    | some A => simpa only [Builtin.firstCells, Nat.mul_one] using f1
  obtain ⟨A, c', rfl⟩ : ∃ A c', v' = .slice A n c' := by
    cases hx with
    | leaf h0 => exact ⟨_, _, rfl⟩
    | sliceE _ _ _ => exact ⟨_, _, rfl⟩
    | sliceX _ _ _ _ => exact ⟨_, _, rfl⟩
    | sliceZ _ => exact ⟨_, _, rfl⟩
  have hk := key A c' rfl
  split at h
  · rename_i sz3 by3 z3 ag3 hel
    simp only [Option.map_eq_some_iff] at h
    obtain ⟨l, hl, rfl⟩ := h
    have hue := fun w => run_und he hel w
    have hl' := bytesA_rel hl f2
    refine ⟨_, ?_, .leaf rfl⟩
    cases A with
    | none =>
      simp only [Sem.run_pure, Result.ok.injEq, and_true] at hk
      have : cs' = [] := by simpa using hk.symm
      rw [this] at hl'
      simp only [bytesA, Option.some.injEq] at hl'
      subst hl'
      simp only [Go.convert, Sem.run_bind, hus, hud, Result.andThen_ok, hue, Conv.bytesToString, Sem.run_pure]
      rfl
    | some A =>
      simp only at hk
      have hfold := fun m => bytes_fold (E := E) (m := m) hl' ByteArray.empty w
      simp only [Go.convert, Sem.run_bind, hus, hud, Result.andThen_ok, hue, Conv.bytesToString, Sem.run_pure, hk, ← Array.forIn_toList]
      exact (congrArg (fun r : Result ByteArray => r.andThen fun a w' => Result.ok (Value.string a) w') (hfold _)).trans rfl
  · rename_i sz3 by3 z3 ag3 hel
    simp only [Option.map_eq_some_iff] at h
    obtain ⟨l, hl, rfl⟩ := h
    have hue := fun w => run_und he hel w
    have hl' := runesA_rel hl f2
    refine ⟨_, ?_, .leaf rfl⟩
    cases A with
    | none =>
      simp only [Sem.run_pure, Result.ok.injEq, and_true] at hk
      have : cs' = [] := by simpa using hk.symm
      rw [this] at hl'
      simp only [runesA, Option.some.injEq] at hl'
      subst hl'
      simp only [Go.convert, Sem.run_bind, hus, hud, Result.andThen_ok, hue, Conv.runesToString, Sem.run_pure]
      rfl
    | some A =>
      simp only at hk
      have hfold := fun m => runes_fold (E := E) (m := m) hl' ByteArray.empty w
      simp only [Go.convert, Sem.run_bind, hus, hud, Result.andThen_ok, hue, Conv.runesToString, Sem.run_pure, hk, ← Array.forIn_toList]
      exact (congrArg (fun r : Result ByteArray => r.andThen fun a w' => Result.ok (Value.string a) w') (hfold _)).trans rfl
  · cases h
theorem bytesOf_sim (he : EOk E) (hr : HR E σ H w) {s d e : TypeId} {si di : TI} {b : ByteArray} (hs : E.types.get s = some si) (hsd : si.desc = .string)
    (hd : E.types.get d = some di) (hdd : di.desc = .slice e) : Sim E σ H w (bytesOfA E H e b) (do pure (.value (← Go.convert s d (.string b)))) := by
  intro ar H' h hf
  unfold bytesOfA at h
  split at h
  case h_2 => cases h
  rename_i sz by_ z ag hel
  simp only [bif_and, bif_beq, bif_ble] at h
  split at h
  case isFalse => cases h
  rename_i h1
  split at h
  case isFalse => cases h
  rename_i h2
  cases h
  have hf' := hf.head (Nat.lt_succ_self _)
  obtain ⟨_, _, us, _⟩ := he.types s si hs
  obtain ⟨_, _, ud, _⟩ := he.types d di hd
  obtain ⟨_, _, ue, _⟩ := he.types e _ hel
  rw [hsd] at us
  rw [hdd] at ud
  have run := run_bytes_of_string (P := E.prog) w s d e b us ud ue
  have g1 : b.size ≤ grownCap w b.size 0 e := grownCap_ge w b.size 0 e
  have hbl : b.data.toList.length = b.size := by rw [Array.length_toList]; rfl
  have g2 : grownCap w b.size 0 e < capX := by
    have := grownCap_le_maxLen w b.size 0 e (by unfold maxLen; omega)
    unfold maxLen at this
    unfold capX; omega
  generalize hnc : grownCap w b.size 0 e = nc at run g1 g2
  have hsz : (bytesRow b nc).size = nc := by
    unfold bytesRow
    rw [Array.size_append, Array.size_map, Array.size_replicate]
    have : b.data.size = b.size := rfl
    omega
  have hrd : HR E σ H (drewW w) := (Step.drew hr _).hr
  have st := Step.new hrd hf' (.cells (b.data.toList.map fun x => Value.int .u8 x.toNat) e) (.cells (bytesRow b nc) e ((bytesRow b nc).size, (bytesRow b nc).size + 1)) ⟨w.heap.size, 0, nc, 1⟩ rfl
    ⟨fun _ => ⟨.inr (Nat.le_refl _), rfl, Nat.zero_mod _⟩, by rw [hsz]; simp, by simp only [List.length_map]; omega, fun ti hti => by rw [hel] at hti; cases hti; exact h1.symm, fun i v hi => by
      simp only [List.getElem?_map, Option.map_eq_some_iff] at hi
      obtain ⟨x, hx, rfl⟩ := hi
      refine ⟨rfl, _, ?_, .leaf rfl⟩
      have hlt : i < b.data.size := by have := (List.getElem?_eq_some_iff.1 hx).1; simpa using this
      simp only [bytesRow, Nat.zero_add]
      rw [Array.getElem?_append_left (by simpa using hlt)]
      simp only [Array.getElem?_map]
      rw [Array.getElem?_toList] at hx
      rw [hx]; rfl⟩
  refine ⟨_, _, .value (.slice (some ⟨w.heap.size, 0, none⟩) b.size nc), ?_, (Step.drew hr _).trans st, ?_⟩
  · simp only [Sem.run_bind, run, Result.andThen_ok, Sem.run_pure]
    rfl
  · rw [hbl]
    exact VR.sliceX (σ := σ.add H.next ⟨w.heap.size, 0, nc, 1⟩) (b := H.next) (i := 0) (l := b.size) (c := nc) (L := ⟨w.heap.size, 0, nc, 1⟩) Sig.add_self g1 g2 (by simp)
theorem assert_run (he : EOk E) {xt asserted : TypeId} {ti : TI} {v v' : Value} {ok : Bool} (ht : E.types.get asserted = some ti) (hv : VR σ v v') :
    (∀ u, assertHit E ti asserted v = some (some u) → ∃ u', (Instr.typeAssert v' xt asserted ok).run E.prog w = .ok (bif ok then .tuple #[u', .bool true] else u') w ∧ VR σ u u') ∧
    (∀ z zv, assertHit E ti asserted v = some none → ok = true → ti.zero = some z → zeroVal ti.agg z = some zv →
      (Instr.typeAssert v' xt asserted ok).run E.prog w = .ok (.tuple #[zv, .bool false]) w ∧ VR σ zv zv) := by
  have hu := fun w => run_und he ht w
  constructor
  · intro u h
    unfold assertHit at h
    split at h
    · rename_i want t x hd
      split at h
      case h_2 => cases h
      rename_i i hi
      split at h
      case h_2 => cases h
      rename_i hm
      cases h
      cases hv with
      | leaf h0 => simp [leafV] at h0
      | iface hx =>
        refine ⟨_, ?_, .iface hx⟩
        rw [hd] at hu
        simp only [Instr.typeAssert, Sem.run_bind, hu, Result.andThen_ok, run_typeInfo _ hi, hm, Sem.run_pure]
        cases ok <;> rfl
    · cases h
    · cases h
    · rename_i t x hni
      split at h
      case isFalse => cases h
      rename_i hta
      cases h
      cases hv with
      | leaf h0 => simp [leafV] at h0
      | iface hx =>
        refine ⟨_, ?_, hx⟩
        subst hta
        revert hu
        cases hd : ti.desc with
        | interface want => exact absurd hd (hni _)
        | _ =>
          intro hu
          simp only [Instr.typeAssert, Sem.run_bind, hu, Result.andThen_ok, if_true, Sem.run_pure]
          cases ok <;> rfl
    · cases h
    · cases h
  · intro z zv h hok hz hzv
    subst hok
    obtain ⟨z1, z2⟩ := run_zeroVal he ht hz hzv w
    refine ⟨?_, flat_refl _ _ z2⟩
    unfold assertHit at h
    split at h
    · rename_i want t x hd
      split at h
      case h_2 => cases h
      rename_i i hi
      split at h
      case h_1 => cases h
      rename_i m hm
      cases hv with
      | leaf h0 => simp [leafV] at h0
      | iface hx =>
        rw [hd] at hu
        simp only [Instr.typeAssert, Sem.run_bind, hu, Result.andThen_ok, run_typeInfo _ hi, hm, Sem.run_pure, if_true, z1]
    · rename_i want hd
      cases hv
      rw [hd] at hu
      simp only [Instr.typeAssert, Sem.run_bind, hu, Result.andThen_ok, Sem.run_pure, if_true, z1]
    · cases h
    · rename_i t x hni
      split at h
      case isTrue => cases h
      rename_i hta
      cases hv with
      | leaf h0 => simp [leafV] at h0
      | iface hx =>
        revert hu
        cases hd : ti.desc with
        | interface want => exact absurd hd (hni _)
        | _ =>
          intro hu
          simp only [Instr.typeAssert, Sem.run_bind, hu, Result.andThen_ok, if_neg hta, Sem.run_pure, if_true, z1]
    · rename_i hni
      cases hv
      revert hu
      cases hd : ti.desc with
      | interface want => exact absurd hd (hni _)
      | _ =>
        intro hu
        simp only [Instr.typeAssert, Sem.run_bind, hu, Result.andThen_ok, Sem.run_pure, if_true, z1]
    · cases h
theorem method_run (he : EOk E) {t : TypeId} {x x' y : Value} {name : String} {f : FuncId} (h : methodA E (.iface t x) name = some (f, y)) (hx : VR σ x x') (fuel : Nat) :
    (method (fuel + 1) t x' name).run E.prog w = .ok (f, x') w ∧ y = x := by
  simp only [methodA] at h
  split at h
  case h_2 => cases h
  rename_i i ti hi hti
  split at h
  case h_2 => cases h
  rename_i nm sig p g ptr hm
  simp only [bif_and, bif_beq] at h
  split at h
  case isFalse => cases h
  rename_i hp
  have hp' : p.toList = [] := List.length_eq_zero_iff.1 hp
  have hpe : p.isEmpty = true := by cases p; simp at hp'; simp [hp']
  have hu := fun w => run_und he hti w
  cases hc : ptrFits ti.desc ptr with
  | false => rw [hc] at h; simp at h
  | true =>
    rw [hc, cond_true] at h
    cases h
    refine ⟨?_, rfl⟩
    simp only [method, Sem.run_bind, run_typeInfo _ hi, Result.andThen_ok, hm, hp', follow, Sem.run_pure, hpe, if_true, receiverAt, hu]
    revert hc
    cases hd : ti.desc <;> intro hc <;> simp only [ptrFits] at hc <;> cases ptr <;> first | (cases hc; done) | (simp at hc; done) | rfl
theorem enter_run (he : EOk E) {f : FuncId} {fn : Func} (hf : E.funcs.get f = some fn) (args : Array Value) : (callFunc f args).run E.prog w = .ok (.enter f args) w := by
  obtain ⟨h1, h2, h3⟩ := he.funcs f fn hf
  have h4 : fn.body.isNone = false := by cases hb : fn.body <;> simp [hb] at h2 ⊢
  have h5 : (fn.name == "runtime.NumGoroutine") = false := by simpa using h3
  simp only [callFunc, Sem.run_bind, run_program, Result.andThen_ok, h1, h5, h4, Bool.false_eq_true, if_false, Sem.run_pure]
theorem methodV {v : Value} {name : String} {r : FuncId × Value} (h : methodA E v name = some r) : ∃ t x, v = .iface t x := by
  unfold methodA at h
  split at h
  · exact ⟨_, _, rfl⟩
  · cases h
theorem callMethod_run (he : EOk E) {v v' y : Value} {name : String} {f : FuncId} (h : methodA E v name = some (f, y)) (hv : VR σ v v') {fn : Func} (hf : E.funcs.get f = some fn) (args : Array Value) :
    ∃ y', (callMethod v' name args).run E.prog w = .ok (.enter f (#[y'] ++ args)) w ∧ VR σ y y' := by
  obtain ⟨t, x, rfl⟩ := methodV h
  cases hv with
  | leaf h0 => simp [leafV] at h0
  | iface hx =>
    rename_i x'
    obtain ⟨n, hn⟩ : ∃ n, E.prog.types.size + Made.depth = n + 1 := ⟨E.prog.types.size + Made.depth - 1, by unfold Made.depth; omega⟩
    obtain ⟨g1, rfl⟩ := method_run (w := w) he h hx n
    refine ⟨x', ?_, hx⟩
    simp only [callMethod, Sem.run_bind, run_program, Result.andThen_ok, hn, g1, enter_run he hf]
end
end Go.Am
namespace Go.Am
open Go
section
variable {E : Env} {σ : Sig} {H : AH} {w : World} {fr : Fr} {a : Act}
theorem VRs.cons_inv {v : Value} {l l' : List Value} (h : VRs σ (v :: l) l') : ∃ v' r, l' = v' :: r ∧ VR σ v v' ∧ VRs σ l r := by
  cases h with | cons h hs => exact ⟨_, _, rfl, h, hs⟩
theorem VRs.nil_inv {l' : List Value} (h : VRs σ [] l') : l' = [] := by cases h; rfl
theorem VR.slice_inv {a : Option Addr} {n c : Nat} {v' : Value} (h : VR σ (.slice a n c) v') : ∃ a' c', v' = .slice a' n c' ∧ (c < capX → c' = c) := by
  cases h with
  | leaf h0 => exact ⟨_, _, rfl, fun _ => rfl⟩
  | sliceE _ _ _ => exact ⟨_, _, rfl, fun _ => rfl⟩
  | sliceX _ _ _ _ => exact ⟨_, _, rfl, fun h => absurd h (Nat.lt_irrefl _)⟩
  | sliceZ hc => exact ⟨_, _, rfl, fun h => by rcases hc with hc | ⟨hc, _⟩ <;> omega⟩
theorem Sim.step {ar : AR} {r : Option AH} {s : Sem Next} (h : ∀ H', r = some H' → ∃ w' nx, s.run E.prog w = .ok nx w' ∧ Step E σ H w σ H' w' ∧ ARR E σ w' ar nx) :
    Sim E σ H w (r.map fun H' => (ar, H')) s := by
  intro ar' H' he _
  simp only [Option.map_eq_some_iff] at he
  obtain ⟨H1, h1, h2⟩ := he
  cases h2
  obtain ⟨w', nx, g⟩ := h _ h1
  exact ⟨σ, w', nx, g⟩
theorem len_b (he : EOk E) (hr : HR E σ H w) {ats : List TypeId} {ty : TypeId} {x x' v : Value} (hx : VR σ x x') (h : lenB E H ats x = some v) :
    ∃ v', (Builtin.len_ ⟨ats⟩ ty #[x']).run E.prog w = .ok v' w ∧ VR σ v v' := by
  unfold lenB at h
  split at h
  · cases h
  · rename_i t rest
    split at h
    · cases h
    · rename_i ti ht
      have hu := fun w => run_und he ht w
      split at h
      · rename_i hd
        cases h
        rw [hx.string_inv]
        rw [hd] at hu
        exact ⟨_, by simp [Builtin.len_, hu], .leaf rfl⟩
      · rename_i hd
        cases h
        obtain ⟨a', c', rfl, _⟩ := hx.slice_inv
        rw [hd] at hu
        exact ⟨_, by simp [Builtin.len_, hu], .leaf rfl⟩
      · rename_i kt et hd
        rw [hd] at hu
        simp only [Option.map_eq_some_iff] at h
        obtain ⟨es, hes, rfl⟩ := h
        unfold mapOf at hes
        split at hes
        · cases hes; cases hx
          exact ⟨_, by simp [Builtin.len_, hu], .leaf rfl⟩
        · split at hes
          case h_2 => cases hes
          rename_i r ck rt own hb
          cases hes
          cases hx with
          | leaf h0 => simp [leafV] at h0
          | map hs h0 =>
            obtain ⟨_, es', g1, g2⟩ := hr.mapAt hb hs
            refine ⟨goInt es.length, ?_, .leaf rfl⟩
            have hl : es'.size = es.length := by rw [← g2.length]; simp
            simp [Builtin.len_, hu, run_getObj' E.prog g1, hl]
        · cases hes
      · rename_i n el hd
        rw [hd] at hu
        cases h
        exact ⟨_, by simp [Builtin.len_, hu], .leaf rfl⟩
      · rename_i p hd
        rw [hd] at hu
        split at h
        case h_2 => cases h
        rename_i n el sz by_ z ag hp
        cases h
        have hup := fun w => run_und he hp w
        exact ⟨_, by simp [Builtin.len_, hu, hup], .leaf rfl⟩
      · cases h
theorem cap_b (he : EOk E) {ats : List TypeId} {ty : TypeId} {x x' v : Value} (hx : VR σ x x') (h : capB E ats x = some v) :
    ∃ v', (Builtin.cap_ ⟨ats⟩ ty #[x']).run E.prog w = .ok v' w ∧ VR σ v v' := by
  unfold capB at h
  split at h
  · cases h
  · rename_i t rest
    split at h
    · cases h
    · rename_i ti ht
      have hu := fun w => run_und he ht w
      split at h
      case h_2 => cases h
      rename_i hd
      simp only [bif_ble] at h
      split at h
      case isTrue => cases h
      rename_i hc
      cases h
      obtain ⟨a', c', rfl, hcc⟩ := hx.slice_inv
      rw [hd] at hu
      rw [hcc (by omega)]
      exact ⟨_, by simp [Builtin.cap_, hu], .leaf rfl⟩
theorem copy_b (he : EOk E) (hr : HR E σ H w) {ats : List TypeId} {ty : TypeId} {d d' s s' : Value} (hd0 : VR σ d d') (hs0 : VR σ s s') :
    Sim E σ H w (copyB E H ats d s) (do pure (.value (← Builtin.copy_ ⟨ats⟩ ty #[d', s']))) := by
  intro ar H' h hf
  unfold copyB at h
  split at h
  · cases h
  · rename_i t rest
    split at h
    · cases h
    · rename_i ti ht
      have hu := fun w => run_und he ht w
      split at h
      case h_2 => cases h
      rename_i elem base dl cap hd
      rw [hd] at hu
      split at h
      case h_2 => cases h
      rename_i e sl hel hsl
      split at h
      · cases h
      · rename_i cs hcs
        obtain ⟨cs', f1, f2, f3, f4⟩ := first_run hr hcs hs0
        have hln := len_run (E := E) (w := w) hsl hs0
        have hsz := fun w => run_sizeOf' he hel w
        simp only [bif_beq] at h
        split at h
        · rename_i h0
          cases h
          have hnil : cs' = [] := by
            have := f2.length; rw [f3, h0, Nat.zero_mul] at this
            exact List.length_eq_zero_iff.1 this
          subst hnil
          obtain ⟨a', c', rfl, _⟩ := hd0.slice_inv
          refine ⟨σ, w, .value (goInt (Nat.min sl dl)), ?_, Step.refl hr, .leaf rfl⟩
          cases a' <;> simp [Builtin.copy_, hu, hln, hsz, f1, storeCells]
        · rename_i h0
          split at h
          case h_2 => cases h
          rename_i b o
          simp only [Option.map_eq_some_iff] at h
          obtain ⟨H1, hst, h⟩ := h
          cases h
          have fin : ∀ (L : Loc) (c' : Nat), σ b = some L → ∃ σ' w' nx, (do pure (.value (← Builtin.copy_ ⟨t :: rest⟩ ty #[.slice (some ⟨L.blk, L.off + o, none⟩) dl c', s'])) : Sem Next).run E.prog w = .ok nx w' ∧
              Step E σ H w σ' H' w' ∧ ARR E σ' w' (.val (goInt (Nat.min sl dl))) nx := by
            intro L c' hs1
            obtain ⟨w', e1, e2⟩ := stores_run hr hst hs1 f2 f4
            refine ⟨σ, w', .value (goInt (Nat.min sl dl)), ?_, e2, .leaf rfl⟩
            simp [Builtin.copy_, hu, hln, hsz, f1, e1]
          cases hd0 with
          | leaf h0 => simp [leafV] at h0
          | sliceE hs1 _ _ => exact fin _ _ hs1
          | sliceX hs1 _ _ _ => exact fin _ _ hs1
          | sliceZ hcc => simp at h0
theorem clear_b (he : EOk E) (hr : HR E σ H w) {ats : List TypeId} {ty : TypeId} {x x' : Value} (hx : VR σ x x') :
    Sim E σ H w (clearB E H ats x) (do pure (.value (← Builtin.clear_ ⟨ats⟩ ty #[x']))) := by
  intro ar H' h hf
  unfold clearB at h
  split at h
  · cases h
  · rename_i t rest
    split at h
    · cases h
    · rename_i ti ht
      have hu := fun w => run_und he ht w
      split at h
      case h_2 => cases h
      rename_i elem base n cap hd
      rw [hd] at hu
      split at h
      case h_2 => cases h
      rename_i ed esz eby ez eag hel
      simp only [bif_beq] at h
      split at h
      · rename_i h0
        cases h
        subst h0
        obtain ⟨a', c', rfl, _⟩ := hx.slice_inv
        refine ⟨σ, w, .value (.tuple #[]), ?_, Step.refl hr, .tuple .nil⟩
        cases a' <;> simp [Builtin.clear_, hu]
      · rename_i h0
        split at h
        case h_2 => cases h
        rename_i b o
        simp only [Option.map_eq_some_iff] at h
        obtain ⟨H1, hst, h⟩ := h
        cases h
        obtain ⟨zv, h1, h2, h3, h4, h5⟩ := run_zero he hel rfl w
        have hzc : (Builtin.zeroCells zv.cells n).toList = reps ez n := by
          unfold Builtin.zeroCells; rw [zeros_eq zv.cells n zv.cells.size rfl, h3]
        have fin : ∀ (L : Loc) (c' : Nat), σ b = some L → ∃ σ' w' nx, (do pure (.value (← Builtin.clear_ ⟨t :: rest⟩ ty #[.slice (some ⟨L.blk, L.off + o, none⟩) n c'])) : Sem Next).run E.prog w = .ok nx w' ∧
            Step E σ H w σ' H' w' ∧ ARR E σ' w' (.val (.tuple #[])) nx := by
          intro L c' hs1
          obtain ⟨w', e1, e2⟩ := stores_run hr hst hs1 (reps_refl (zero_refl h2 h3) n) (reps_one h4 n)
          refine ⟨σ, w', .value (.tuple #[]), ?_, e2, .tuple .nil⟩
          rw [← hzc] at e1
          obtain ⟨m, rfl⟩ := Nat.exists_eq_succ_of_ne_zero h0
          simp [Builtin.clear_, hu, h1, e1]
        cases hx with
        | leaf h0 => simp [leafV] at h0
        | sliceE hs1 _ _ => exact fin _ _ hs1
        | sliceX hs1 _ _ _ => exact fin _ _ hs1
        | sliceZ hcc => exact absurd rfl h0
theorem unsafeStringA_val (E : Env) (H H' : AH) (ats : List TypeId) (p l : Value) (ar : AR) (hn : ∀ v, ar ≠ .val v) : unsafeStringA E H ats p l ≠ some (ar, H') := by
  intro h
  unfold unsafeStringA at h
  split at h
  · cases h; exact hn _ rfl
  · cases h; exact hn _ rfl
  · split at h
    · split at h
      · simp only [Option.map_eq_some_iff, Prod.mk.injEq] at h
        obtain ⟨_, _, rfl, _⟩ := h
        exact hn _ rfl
      · cases h
    · cases h
  · cases h
theorem noEscape1 : (Extern.allGenericRows.lookup nameNoEscape).isNone = true := by kernel_rfl
theorem noEscape2 : (Extern.allTypedRows.lookup nameNoEscape).isNone = true := by kernel_rfl
theorem noEscape3 : Extern.allRows.lookup nameNoEscape = some Extern.AbiNoEscape.same := by kernel_rfl
theorem noEscape_find {fn : Func} (h : fn.name = nameNoEscape) : Extern.find fn = some Extern.AbiNoEscape.same := by
  have h1 := Option.isNone_iff_eq_none.1 noEscape1
  have h2 := Option.isNone_iff_eq_none.1 noEscape2
  simp only [Extern.find, h, h1, h2, noEscape3]
  rfl
theorem flats_run : ∀ {l l' : List Value}, l.all flatV = true → VRs σ l l' → l' = l
  | _, _, _, .nil => rfl
  | _, _, h, .cons hv hs => by
    simp only [List.all_cons, Bool.and_eq_true] at h
    rw [flat_run h.1 hv, flats_run h.2 hs]
theorem builtin_sim (he : EOk E) (hr : HR E σ H w) (b : Builtin) {ats : List TypeId} (ty : TypeId) (consts : Array Bool) {args args' : List Value} (ha : VRs σ args args') :
    Sim E σ H w (builtinA E H b ats args) (builtin b ⟨ats⟩ ty consts ⟨args'⟩) := by
  unfold builtinA
  split
  · split
    · obtain ⟨s', r, rfl, h1, h2⟩ := ha.cons_inv
      obtain ⟨x', r, rfl, h3, h4⟩ := h2.cons_inv
      rw [h4.nil_inv]
      exact append_sim he hr ty h1 h3
    · exact Sim.none
  · split
    · obtain ⟨x', r, rfl, h1, h2⟩ := ha.cons_inv
      rw [h2.nil_inv]
      exact Sim.one hr fun v hv => len_b he hr h1 hv
    · exact Sim.none
  · split
    · obtain ⟨x', r, rfl, h1, h2⟩ := ha.cons_inv
      rw [h2.nil_inv]
      exact Sim.one hr fun v hv => cap_b he h1 hv
    · exact Sim.none
  · split
    · obtain ⟨x', r, rfl, h1, h2⟩ := ha.cons_inv
      rw [h2.nil_inv]
      intro ar H' h hf
      cases h
      refine ⟨σ, w, .value (.pointer none), ?_, Step.refl hr, .leaf rfl⟩
      cases h1 with
      | leaf h0 => rfl
    · rename_i a l c
      obtain ⟨x', r, rfl, h1, h2⟩ := ha.cons_inv
      rw [h2.nil_inv]
      intro ar H' h hf
      rw [bif_ble] at h
      split at h
      case isFalse => cases h
      rename_i hl1
      cases h
      cases h1 with
      | leaf h0 => simp [leafV] at h0
      | sliceE hs hl hc =>
        refine ⟨σ, w, .value (.pointer _), ?_, Step.refl hr, .ptr hs⟩
        obtain ⟨k, rfl⟩ : ∃ k, c = k + 1 := ⟨c - 1, by omega⟩
        rfl
      | sliceX hs hl hc he2 =>
        refine ⟨σ, w, .value (.pointer _), ?_, Step.refl hr, .ptr hs⟩
        rename_i c1 _
        obtain ⟨k, rfl⟩ : ∃ k, c1 = k + 1 := ⟨c1 - 1, by omega⟩
        rfl
      | sliceZ hc => omega
    · exact Sim.none
  · split
    · obtain ⟨p', r, rfl, h1, h2⟩ := ha.cons_inv
      obtain ⟨l', r, rfl, h3, h4⟩ := h2.cons_inv
      rw [h4.nil_inv]
      intro ar H' h hf
      cases ar with
      | val v =>
        obtain ⟨w', u, g1, g2, g3⟩ := unsafeString_run (ty := ty) he hr (by simp) h h1 h3
        refine ⟨σ, w', .value u, ?_, g2, g3⟩
        simp only [builtin, Sem.run_bind]
        exact (congrArg (fun r : Result Value => r.andThen fun a w' => (pure (Next.value a) : Sem Next).run E.prog w') g1).trans rfl
      | _ => exact absurd h (unsafeStringA_val _ _ _ _ _ _ _ (fun v e => by cases e))
    · exact Sim.none
  · split
    · obtain ⟨s', r, rfl, h1, h2⟩ := ha.cons_inv
      obtain ⟨x', r, rfl, h3, h4⟩ := h2.cons_inv
      rw [h4.nil_inv]
      exact copy_b he hr h1 h3
    · exact Sim.none
  · split
    · obtain ⟨x', r, rfl, h1, h2⟩ := ha.cons_inv
      rw [h2.nil_inv]
      exact clear_b he hr h1
    · exact Sim.none
  · split
    · obtain ⟨s', r, rfl, h1, h2⟩ := ha.cons_inv
      obtain ⟨x', r, rfl, h3, h4⟩ := h2.cons_inv
      rw [h4.nil_inv]
      refine Sim.step fun H' hH => ?_
      obtain ⟨w', g1, g2⟩ := delete_run (ty := ty) he hr hH h1 h3
      refine ⟨w', .value (.tuple #[]), ?_, g2, .tuple .nil⟩
      simp only [builtin, Sem.run_bind]
      exact congrArg (fun r : Result Value => r.andThen fun a w' => (pure (Next.value a) : Sem Next).run E.prog w') g1
    · exact Sim.none
  · cases hfl : args.all flatV with
    | false => exact Sim.none
    | true =>
      rw [cond_true, flats_run hfl ha]
      refine Sim.one hr fun v hv => ?_
      obtain ⟨g1, g2⟩ := flat?_spec hv
      exact ⟨v, pure_run _ _ _ _ g1, flat_refl _ _ g2⟩
  · cases hfl : args.all flatV with
    | false => exact Sim.none
    | true =>
      rw [cond_true, flats_run hfl ha]
      refine Sim.one hr fun v hv => ?_
      obtain ⟨g1, g2⟩ := flat?_spec hv
      exact ⟨v, pure_run _ _ _ _ g1, flat_refl _ _ g2⟩
  · split
    · rw [ha.nil_inv]
      intro ar H' h hf
      cases h
      exact ⟨σ, w, .recover, rfl, Step.refl hr, trivial⟩
    · exact Sim.none
  · exact Sim.none
theorem makeNoZero1 : (Extern.allGenericRows.lookup nameMakeNoZero).isNone = true := by kernel_rfl
theorem makeNoZero2 : Extern.allTypedRows.lookup nameMakeNoZero = some Extern.BytealgMakeNoZero.makeNoZero := by kernel_rfl
theorem makeNoZero_find {fn : Func} (h : fn.name = nameMakeNoZero) : Extern.find fn = some (Extern.BytealgMakeNoZero.makeNoZero fn.params fn.resultTypes) := by
  have h1 := Option.isNone_iff_eq_none.1 makeNoZero1
  simp only [Extern.find, h, h1, makeNoZero2]
  rfl
theorem digits_size : ∀ (n t : Nat) (acc : Array Value), (Extern.BytealgMakeNoZero.digits n t acc).size = acc.size + n
  | 0, _, acc => rfl
  | n + 1, t, acc => by
    rw [Extern.BytealgMakeNoZero.digits, digits_size n]
    simp; omega
theorem makeNoZero_run {P : Program} {params : Array TypeId} {rest : List TypeId} {t elem : TypeId} {n : Nat} (w : World) (hu : ∀ w, (underlying t).run P w = .ok (.slice elem) w) (hn : n ≤ 1000000000) :
    ∃ (cap bytes d : Nat), n ≤ cap ∧ cap < capX ∧ (Extern.BytealgMakeNoZero.makeNoZero params ⟨t :: rest⟩ #[.int .i64 (Int.ofNat n)]).run P w =
      .ok (.slice (some ⟨w.heap.size, 0, none⟩) n cap) (World.push { w with drawn := d } (.cells (Extern.BytealgMakeNoZero.digits cap bytes #[]) elem)) := by
  have hneg : ¬ ((n : Int) < 0) := by omega
  have hbig : ¬ ((n : Int) > 2 ^ 48) := by omega
  have hq : (Question.appendCap n 0 elem).forced = false := rfl
  have hcut : (Question.appendCap n 0 elem).cut (w.tape w.drawn (.appendCap n 0 elem)) = n + (w.tape w.drawn (.appendCap n 0 elem)) % (2 ^ 63 - n) := rfl
  have hq2 : ∀ s, (Question.extern s 0).forced = false := fun _ => rfl
  have hlt : n + (w.tape w.drawn (.appendCap n 0 elem)) % (2 ^ 63 - n) < capX := by
    have := Nat.mod_lt (w.tape w.drawn (.appendCap n 0 elem)) (show 2 ^ 63 - n > 0 by omega)
    unfold capX; omega
  generalize hr : Sem.run P (Extern.BytealgMakeNoZero.makeNoZero params ⟨t :: rest⟩ #[.int .i64 (Int.ofNat n)]) w = r
  have hr2 := hr.symm.trans (Sem.run_bind P w (underlying t) _)
  rw [hu] at hr2
  simp only [Result.andThen_ok, Sem.run_bind, Int.ofNat_eq_natCast, hneg, hbig, decide_false, Bool.or_self, Bool.false_eq_true, if_false, Int.toNat_natCast, run_choose, hq, hcut, run_askRoom, hq2, newRow, run_newObj, Sem.run_pure] at hr2
  have hB : ∃ B, r = .ok (.slice (some ⟨w.heap.size, 0, none⟩) n (n + (w.tape w.drawn (.appendCap n 0 elem)) % (2 ^ 63 - n)))
      ({ w with heap := w.heap.push (.cells (Extern.BytealgMakeNoZero.digits (n + (w.tape w.drawn (.appendCap n 0 elem)) % (2 ^ 63 - n)) B #[]) elem), drawn := w.drawn + 1 + 1 } : World) := ⟨_, hr2⟩
  obtain ⟨B, hB⟩ := hB
  exact ⟨n + (w.tape w.drawn (.appendCap n 0 elem)) % (2 ^ 63 - n), B, w.drawn + 1 + 1, by omega, hlt, hB⟩
theorem noZero_sim (he : EOk E) (hr : HR E σ H w) {f : FuncId} {fn : Func} {n : Nat} {ar : AR} {H' : AH} (hfn : E.prog.funcs[f]? = some fn) (q1 : fn.name = nameMakeNoZero) (q2 : fn.body.isNone = true) (q3 : (Extern.findNext fn).isNone = true)
    (h : noZeroA E H fn n = some (ar, H')) (hf : Free σ H.next H'.next) : ∃ σ' w' nx, (callFunc f ⟨[.int .i64 (.ofNat n)]⟩).run E.prog w = .ok nx w' ∧ Step E σ H w σ' H' w' ∧ ARR E σ' w' ar nx := by
  unfold noZeroA at h
  split at h
  case h_2 => cases h
  rename_i elem sz by_ z ag hbind
  simp only [Option.bind_eq_some_iff] at hbind
  obtain ⟨t, ht0, ht⟩ := hbind
  split at h
  case h_2 => cases h
  rename_i e hel
  simp only [bif_and, bif_beq, bif_ble] at h
  split at h
  case isFalse => cases h
  rename_i h1
  split at h
  case isFalse => cases h
  rename_i h2
  cases h
  have hf' := hf.head (Nat.lt_succ_self _)
  obtain ⟨rest, hres⟩ : ∃ rest, fn.resultTypes = ⟨t :: rest⟩ := by
    cases hl : fn.resultTypes.toList with
    | nil => rw [hl] at ht0; cases ht0
    | cons x rest =>
      rw [hl] at ht0
      cases ht0
      exact ⟨rest, by rw [← hl]⟩
  have hu := fun w => run_und he ht w
  obtain ⟨cap, bytes, d, g1, g2, g3⟩ := makeNoZero_run (params := fn.params) (rest := rest) w hu h2
  have q4 : (fn.name == "runtime.NumGoroutine") = false := by rw [q1]; kernel_rfl
  have hsz : (Extern.BytealgMakeNoZero.digits cap bytes #[]).size = cap := by rw [digits_size]; simp
  have sd := Step.drew hr d
  have st := Step.new sd.hr hf' (.cells [] elem) (.cells (Extern.BytealgMakeNoZero.digits cap bytes #[]) elem) ⟨w.heap.size, 0, cap, 1⟩ rfl
    ⟨fun _ => ⟨.inl rfl, rfl, Nat.zero_mod _⟩, by rw [hsz]; simp, by simp, fun ti hti => by rw [hel] at hti; cases hti; exact h1.symm, fun i v hi => by simp at hi⟩
  refine ⟨_, _, .value (.slice (some ⟨w.heap.size, 0, none⟩) n cap), ?_, sd.trans st, ?_⟩
  · rw [run_callFunc_extern hfn q4 q2 (Option.isNone_iff_eq_none.1 q3) (makeNoZero_find q1), hres, g3]
    rfl
  · exact VR.sliceX (σ := σ.add H.next ⟨w.heap.size, 0, cap, 1⟩) (b := H.next) (i := 0) (l := n) (c := cap) (L := ⟨w.heap.size, 0, cap, 1⟩) Sig.add_self g1 g2 (by simp)
theorem map_toList (xs : Array Operand) (f : Operand → Value) : (⟨xs.toList.map f⟩ : Array Value) = xs.map f := by
  apply Array.ext'; simp
theorem cons_cat (y : Value) (l : List Value) : #[y] ++ (⟨l⟩ : Array Value) = ⟨y :: l⟩ := by apply Array.ext'; simp
theorem cat3 (x y z : List Value) : (⟨x⟩ : Array Value) ++ ⟨y⟩ ++ ⟨z⟩ = ⟨x ++ y ++ z⟩ := by apply Array.ext'; simp
theorem call_sim (he : EOk E) (hr : HR E σ H w) (c : Call) (ty : TypeId) (hev : ∀ x ∈ c.operands.toList, ∀ v, ev E fr x = some v → VR σ v (a.eval x)) :
    Sim E σ H w (callA E fr H c) (do let d ← resolve a.eval c ty; invoke d.target d.args) := by
  unfold callA
  split
  · exact Sim.none
  rename_i args hargs
  have hav := evs_run (a := a) (fun x hx => hev x (by simp only [Call.operands, Array.toList_append, List.mem_append]; exact .inr hx)) hargs
  have hmap : c.args.map a.eval = ⟨c.args.toList.map a.eval⟩ := (map_toList _ _).symm
  generalize hargs' : c.args.toList.map a.eval = args' at hav hmap
  have enter : ∀ (f : FuncId) (xs xs' : List Value) (s : Sem Next), VRs σ xs xs' → (∀ fn, E.funcs.get f = some fn → s.run E.prog w = .ok (.enter f ⟨xs'⟩) w) → Sim E σ H w (enterA E H f xs) s := by
    intro f xs xs' s hx hs ar H' h hf
    unfold enterA at h
    split at h
    case h_2 => cases h
    rename_i fn hfn
    cases h
    exact ⟨σ, w, .enter f ⟨xs'⟩, hs fn hfn, Step.refl hr, rfl, hx, fn, hfn⟩
  have direct : ∀ (f : FuncId) (xs xs' : List Value) (s : Sem Next), VRs σ xs xs' → s.run E.prog w = (callFunc f ⟨xs'⟩).run E.prog w → Sim E σ H w (directA E H f xs) s := by
    intro f xs xs' s hx hs ar H' h hf
    unfold directA at h
    split at h
    · rename_i fn hfn
      cases h
      exact ⟨σ, w, .enter f ⟨xs'⟩, by rw [hs, enter_run he hfn], Step.refl hr, rfl, hx, fn, hfn⟩
    · unfold rowA at h
      split at h
      · rename_i n
        split at h
        case h_2 => cases h
        rename_i fn hfn
        obtain ⟨p', r, rfl, h1, h2⟩ := hx.cons_inv
        rw [h2.nil_inv, h1.int_inv] at hs
        cases hq : (fn.name == nameMakeNoZero && fn.body.isNone && (Extern.findNext fn).isNone) with
        | false =>
          rw [hq, cond_false] at h
          split at h
          case h_2 => cases h
          rename_i v hv
          simp only [one, Option.map_eq_some_iff] at h
          obtain ⟨v1, hv1, h⟩ := h
          cases h
          obtain ⟨g1, g2⟩ := flat?_spec hv1
          cases g1
          exact ⟨σ, w, .value _, by rw [hs, pure_run _ _ _ _ hv], Step.refl hr, flat_refl _ _ g2⟩
        | true =>
          rw [hq, cond_true] at h
          simp only [Bool.and_eq_true, beq_iff_eq] at hq
          obtain ⟨⟨q1, q2⟩, q3⟩ := hq
          obtain ⟨σ', w', nx, g1, g2, g3⟩ := noZero_sim he hr hfn q1 q2 q3 h hf
          exact ⟨σ', w', nx, by rw [hs]; exact g1, g2, g3⟩
      · rename_i p
        split at h
        case h_2 => cases h
        rename_i fn hfn
        obtain ⟨p', r, rfl, h1, h2⟩ := hx.cons_inv
        rw [h2.nil_inv] at hs
        cases hq : (fn.name == nameNoEscape && fn.body.isNone && (Extern.findNext fn).isNone) with
        | false => rw [hq] at h; cases h
        | true =>
        rw [hq] at h
        cases h
        simp only [Bool.and_eq_true, beq_iff_eq] at hq
        obtain ⟨⟨q1, q2⟩, q3⟩ := hq
        have q4 : (fn.name == "runtime.NumGoroutine") = false := by rw [q1]; kernel_rfl
        refine ⟨σ, w, .value p', ?_, Step.refl hr, h1⟩
        rw [hs, run_callFunc_extern hfn q4 q2 (Option.isNone_iff_eq_none.1 q3) (noEscape_find q1)]
        rfl
      · cases hfl : xs.all flatV with
        | false => rw [hfl] at h; cases h
        | true =>
        rw [hfl, cond_true] at h
        split at h
        case h_2 => cases h
        rename_i v hv
        simp only [one, Option.map_eq_some_iff] at h
        obtain ⟨v1, hv1, h⟩ := h
        cases h
        obtain ⟨g1, g2⟩ := flat?_spec hv1
        cases g1
        rw [flats_run hfl hx] at hs
        exact ⟨σ, w, .value _, by rw [hs, pure_run _ _ _ _ hv], Step.refl hr, flat_refl _ _ g2⟩
  split
  · rename_i b hb
    have := builtin_sim he hr b (ats := c.argTypes.toList) ty (c.args.map fun | .const _ => true | _ => false) hav
    intro ar H' h hf
    obtain ⟨σ', w', nx, g1, g2⟩ := this ar H' h hf
    refine ⟨σ', w', nx, ?_, g2⟩
    simp only [resolve, hb, hmap, Sem.run_bind, Sem.run_pure, Result.andThen_ok, invoke]
    exact g1
  · rename_i r name hb
    split
    case h_2 => exact Sim.none
    rename_i v hv
    have hvr := hev r (by simp [Call.operands, hb]) v hv
    split
    case h_2 => exact Sim.none
    rename_i f y hm
    intro ar H' h hf
    cases hfn : E.funcs.get f with
    | none => simp [enterA, hfn] at h
    | some fn =>
      obtain ⟨y', m1, m2⟩ := callMethod_run (w := w) he hm hvr hfn ⟨args'⟩
      refine enter f (y :: args) (y' :: args') _ (.cons m2 hav) ?_ ar H' h hf
      intro _ _
      have hx : (#[a.eval r] ++ (⟨args'⟩ : Array Value)).extract 1 (#[a.eval r] ++ (⟨args'⟩ : Array Value)).size = ⟨args'⟩ := by
        apply Array.ext'; simp
      have h0 : (#[a.eval r] ++ (⟨args'⟩ : Array Value))[0]? = some (a.eval r) := by simp
      simp only [resolve, hb, hmap, Sem.run_bind, Sem.run_pure, Result.andThen_ok, invoke, h0, hx, m1]
      rw [cons_cat]
  · rename_i g hb
    split
    · rename_i f first cap hg
      have hgr := hev g (by simp [Call.operands, hb]) _ hg
      generalize hg' : a.eval g = g' at hgr
      cases hgr with
      | leaf h0 => simp [leafV] at h0
      | func h0 hf1 hc1 =>
        rename_i f1 c1
        refine direct f _ _ _ ((hf1.append hav).append hc1) ?_
        simp only [resolve, hb, hmap, Deferred.ofValue, hg', Sem.run_bind, Sem.run_pure, Result.andThen_ok, invoke]
        rw [cat3]
    · rename_i l first cap hg
      have hgr := hev g (by simp [Call.operands, hb]) _ hg
      generalize hg' : a.eval g = g' at hgr
      cases hgr with
      | leaf h0 => simp [leafV] at h0
      | func h0 _ _ => simp [fnPlain] at h0
      | yield hs h0 =>
        rename_i L
        split
        case h_2 => exact Sim.none
        rename_i st pd t ps as bd rt own hl
        simp only [bif_beq]
        split
        case isFalse => exact Sim.none
        rename_i hlen
        intro ar H' h hf
        cases h
        obtain ⟨o, g1, g2⟩ := hr.objs l _ L hl hs
        cases o <;> simp only [ObjR] at g2
        rename_i lo
        obtain ⟨_, q1, q2, q3, q4, q5, q6⟩ := g2
        have hsz : (⟨args'⟩ : Array Value).size = lo.params.size := by
          have := hav.length
          have h2 : lo.params.toList.length = ps.length := by rw [q4]
          simp at h2 ⊢; omega
        refine ⟨σ, w, .round L.blk lo.fn ((lo.params.zip ⟨args'⟩).foldl (fun tmps (t, a) => tmps.setIfInBounds t a) lo.tmps) lo.assign lo.body, ?_, Step.refl hr, ?_⟩
        · have hne : ¬ (⟨args'⟩ : Array Value).size ≠ lo.params.size := by rw [hsz]; simp
          simp only [resolve, hb, hmap, Deferred.ofValue, hg', Sem.run_bind, Sem.run_pure, Result.andThen_ok, invoke, Instr.yield, Instr.getLoop, run_getObj' E.prog g1 (by simp), Array.empty_append]
          rw [if_neg hne]
          rfl
        · exact ⟨L, lo, args', hs, g1, hav, by simpa using hsz, rfl⟩
    · rename_i name first cap hg
      have hgr := hev g (by simp [Call.operands, hb]) _ hg
      generalize hg' : a.eval g = g' at hgr
      cases hgr with
      | leaf h0 => simp [leafV] at h0
      | func h0 hf1 hc1 =>
        rename_i f1 c1 f1' c1'
        split
        case h_2 => exact Sim.none
        rename_i v rest hvr
        have hall := hf1.append hav
        rw [hvr] at hall
        obtain ⟨v', r', e1, e2, e3⟩ := hall.cons_inv
        split
        case h_2 => exact Sim.none
        rename_i f y hm
        intro ar H' h hf
        cases hfn : E.funcs.get f with
        | none => simp [enterA, hfn] at h
        | some fn =>
          obtain ⟨y', m1, m2⟩ := callMethod_run (w := w) he hm e2 hfn ⟨r'⟩
          refine enter f (y :: rest) (y' :: r') _ (.cons m2 e3) ?_ ar H' h hf
          intro _ _
          have hcat : (⟨f1'⟩ : Array Value) ++ ⟨args'⟩ = ⟨v' :: r'⟩ := by apply Array.ext'; simpa using e1
          have hx : (⟨v' :: r'⟩ : Array Value).extract 1 (⟨v' :: r'⟩ : Array Value).size = ⟨r'⟩ := by
            apply Array.ext'; simp
          have h0 : (⟨v' :: r'⟩ : Array Value)[0]? = some v' := by simp
          simp only [resolve, hb, hmap, Deferred.ofValue, hg', Sem.run_bind, Sem.run_pure, Result.andThen_ok, invoke, hcat, h0, hx, m1]
          rw [cons_cat]
    · rename_i t name first cap hg
      have hgr := hev g (by simp [Call.operands, hb]) _ hg
      generalize hg' : a.eval g = g' at hgr
      cases hgr with
      | leaf h0 => simp [leafV] at h0
      | func h0 hf1 hc1 =>
        rename_i f1 c1 f1' c1'
        split
        case h_2 => exact Sim.none
        rename_i v rest hvr
        have hall := hf1.append hav
        rw [hvr] at hall
        obtain ⟨v', r', e1, e2, e3⟩ := hall.cons_inv
        have hcat : (⟨f1'⟩ : Array Value) ++ ⟨args'⟩ = ⟨v' :: r'⟩ := by apply Array.ext'; simpa using e1
        have hx : (⟨v' :: r'⟩ : Array Value).extract 1 (⟨v' :: r'⟩ : Array Value).size = ⟨r'⟩ := by
          apply Array.ext'; simp
        have h00 : (⟨v' :: r'⟩ : Array Value)[0]? = some v' := by simp
        cases htt : E.types.get t with
        | none => exact Sim.none
        | some ti =>
          have hu := fun w => run_und he htt w
          have fin : ∀ (u u' : Value), VR σ u u' → ((match ti.desc with | .interface _ => v' | _ => .iface t v') = u') →
              Sim E σ H w (match methodA E u name with | some (f, x) => enterA E H f (x :: rest) | none => none) (do let d ← resolve a.eval c ty; invoke d.target d.args) := by
            intro u u' huu heq
            split
            case h_2 => exact Sim.none
            rename_i f y hm
            intro ar H' h hf
            cases hfn : E.funcs.get f with
            | none => simp [enterA, hfn] at h
            | some fn =>
              obtain ⟨y', m1, m2⟩ := callMethod_run (w := w) he hm huu hfn ⟨r'⟩
              refine enter f (y :: rest) (y' :: r') _ (.cons m2 e3) ?_ ar H' h hf
              intro _ _
              rw [← heq] at m1
              simp only [resolve, hb, hmap, Deferred.ofValue, hg', Sem.run_bind, Sem.run_pure, Result.andThen_ok, invoke, hcat, h00, hx, hu]
              revert m1
              cases ti.desc <;> intro m1 <;> simp only at m1 ⊢ <;> rw [m1, cons_cat]
          obtain ⟨d, s1, b1, z1, a1⟩ := ti
          cases d
          case interface => exact fin v v' e2 rfl
          all_goals exact fin (.iface t v) (.iface t v') (.iface e2) rfl
    · exact Sim.none
end
end Go.Am
namespace Go.Am
open Go
section
variable {E : Env} {σ : Sig} {H : AH} {w : World} {fr : Fr} {a : Act}
theorem ops_run (x : Option Operand) {vs : List Value} (hx : ∀ y ∈ x.toList, ∀ v, ev E fr y = some v → VR σ v (a.eval y)) (h : evs E fr x.toList = some vs) : OR σ vs.head? (x.map a.eval) := by
  cases x with
  | none => simp [evs] at h; subst h; exact .none
  | some x =>
    simp only [Option.toList, evs] at h
    split at h
    · cases h
    · rename_i v hv
      simp at h
      subst h
      exact .some (hx x (by simp) v hv)
theorem viewA_val (E : Env) (H H' : AH) (s d : TypeId) (a : Addr) (ar : AR) (hn : ∀ v, ar ≠ .val v) : viewA E H s d a ≠ some (ar, H') := by
  intro h
  have key : ∀ (c : Bool) (r : Ans), (∀ x, r = some x → ∃ v, x.1 = .val v) → (bif c then r else none) = some (ar, H') → False := by
    intro c r hr hc
    cases c with
    | false => cases hc
    | true =>
      obtain ⟨v, hv⟩ := hr _ hc
      exact hn _ hv
  unfold viewA at h
  split at h
  · split at h
    · split at h
      · exact key _ _ (by rintro x h; cases h; exact ⟨_, rfl⟩) h
      · cases h
    · split at h
      · exact key _ _ (by rintro x h; cases h; exact ⟨_, rfl⟩) h
      · cases h
    · cases h
  · cases h
set_option maxHeartbeats 2000000 in
theorem aop_sim (he : EOk E) (hr : HR E σ H w) (o : Oper) (hev0 : ∀ x ∈ o.op.operands.toList, ∀ v, ev E fr x = some v → VR σ v (a.eval x)) :
    Sim E σ H w (aop E fr o H) (execOp a.eval o) := by
  unfold aop
  split
  · -- move
    rename_i x hop
    simp only [hop, Op.operands] at hev0
    simp only [execOp, hop]
    intro ar H' h hf
    simp only [one, Option.map_eq_some_iff] at h
    obtain ⟨v, hv, h⟩ := h
    cases h
    exact ⟨σ, w, .value (a.eval x), rfl, Step.refl hr, hev0 _ (by simp) _ hv⟩
  · rename_i x hop
    simp only [hop, Op.operands] at hev0
    simp only [execOp, hop]
    intro ar H' h hf
    simp only [one, Option.map_eq_some_iff] at h
    obtain ⟨v, hv, h⟩ := h
    cases h
    exact ⟨σ, w, .value (a.eval x), rfl, Step.refl hr, hev0 _ (by simp) _ hv⟩
  · -- pick
    rename_i c x y hop
    simp only [hop, Op.operands] at hev0
    simp only [execOp, hop]
    intro ar H' h hf
    split at h
    · rename_i hc
      have hcr := (hev0 _ (by simp) _ hc).bool_inv
      simp only [one, Option.map_eq_some_iff] at h
      obtain ⟨v, hv, h⟩ := h
      cases h
      refine ⟨σ, w, .value (a.eval x), ?_, Step.refl hr, hev0 _ (by simp) _ hv⟩
      simp only [hcr, asBool, Sem.run_bind, Sem.run_pure, Result.andThen_ok, if_true]
    · rename_i hc
      have hcr := (hev0 _ (by simp) _ hc).bool_inv
      simp only [one, Option.map_eq_some_iff] at h
      obtain ⟨v, hv, h⟩ := h
      cases h
      refine ⟨σ, w, .value (a.eval y), ?_, Step.refl hr, hev0 _ (by simp) _ hv⟩
      simp only [hcr, asBool, Sem.run_bind, Sem.run_pure, Result.andThen_ok, Bool.false_eq_true, if_false]
    · cases h
  · rename_i t hop
    simp only [hop, Op.operands] at hev0
    simp only [execOp, hop]
    exact alloc_sim he hr t
  · -- box
    rename_i t x hop
    simp only [hop, Op.operands] at hev0
    simp only [execOp, hop]
    split
    · exact Sim.none
    · rename_i v hnt hv
      exact box_sim he hr t (hev0 _ (by simp) _ hv) (fun c e => hnt c e)
    · exact Sim.none
  · -- build
    rename_i t ps hop
    simp only [hop, Op.operands] at hev0
    simp only [execOp, hop]
    split
    · rename_i qs hq
      have hp := parts_run (a := a) (fun x hx => hev0 x (by simpa using hx)) hq
      refine Sim.one hr fun v hv => ?_
      obtain ⟨v', g1, g2⟩ := build_run (w := w) he hp hv
      refine ⟨v', ?_, g2⟩
      have : (ps.map fun (i, x) => (i, a.eval x)) = ⟨ps.toList.map fun (i, x) => (i, a.eval x)⟩ := by apply Array.ext'; simp
      rw [this]; exact g1
    · exact Sim.none
  · rename_i t n ps hop
    simp only [hop, Op.operands] at hev0
    simp only [execOp, hop]
    split
    · rename_i qs hq
      have hp := parts_run (a := a) (fun x hx => hev0 x (by simpa using hx)) hq
      have : (ps.map fun (i, x) => (i, a.eval x)) = ⟨ps.toList.map fun (i, x) => (i, a.eval x)⟩ := by apply Array.ext'; simp
      rw [this]
      exact buildSlice_sim he hr hp
    · exact Sim.none
  · rename_i t x hop
    simp only [hop, Op.operands] at hev0
    simp only [execOp, hop]
    split
    · rename_i v hv
      exact Sim.one hr fun u hu => load_run he hr hu (hev0 _ (by simp) _ hv)
    · exact Sim.none
  · -- store
    rename_i t x y hop
    simp only [hop, Op.operands] at hev0
    simp only [execOp, hop]
    split
    · exact Sim.none
    · rename_i va vb hnt hva hvb
      refine Sim.step fun H' hH => ?_
      obtain ⟨w', g1, g2⟩ := store_run he hr hH (hev0 _ (by simp) _ hva) (hev0 _ (by simp) _ hvb) (fun c e => hnt c e)
      exact ⟨w', .skip, by simp only [Sem.run_bind, g1, Result.andThen_ok, Sem.run_pure], g2, trivial⟩
    · exact Sim.none
  · -- nilCheck
    rename_i x hop
    simp only [hop, Op.operands] at hev0
    simp only [execOp, hop]
    intro ar H' h hf
    split at h
    · rename_i p hv
      cases h
      have hr1 := hev0 _ (by simp) _ hv
      generalize hx : a.eval x = x' at hr1
      cases hr1 with
      | leaf h0 => simp [leafV] at h0
      | ptr hs => exact ⟨σ, w, .value _, by simp only [hx]; rfl, Step.refl hr, VR.ptr hs⟩
    · rename_i t u hv
      cases h
      have hr1 := hev0 _ (by simp) _ hv
      generalize hx : a.eval x = x' at hr1
      cases hr1 with
      | leaf h0 => simp [leafV] at h0
      | iface hs => exact ⟨σ, w, .value _, by simp only [hx]; rfl, Step.refl hr, VR.iface hs⟩
    · rename_i f p q hv
      cases h
      have hr1 := hev0 _ (by simp) _ hv
      generalize hx : a.eval x = x' at hr1
      cases hr1 with
      | leaf h0 => simp [leafV] at h0
      | func h1 h2 h3 => exact ⟨σ, w, .value _, by simp only [hx]; rfl, Step.refl hr, VR.func h1 h2 h3⟩
    · rename_i f p q hv
      cases h
      have hr1 := hev0 _ (by simp) _ hv
      generalize hx : a.eval x = x' at hr1
      cases hr1 with
      | leaf h0 => simp [leafV] at h0
      | func h1 h2 h3 => simp [fnPlain] at h1
      | yield h1 h2 => exact ⟨σ, w, .value _, by simp only [hx]; rfl, Step.refl hr, VR.yield h1 h2⟩
    · cases h
  · -- binOp
    rename_i op t x y ty hop
    simp only [hop, Op.operands] at hev0
    simp only [execOp, hop]
    split
    · rename_i va vb hva hvb
      exact Sim.one hr fun u hu => bin_run he hu (hev0 _ (by simp) _ hva) (hev0 _ (by simp) _ hvb)
    · exact Sim.none
  · rename_i op t x hop
    simp only [hop, Op.operands] at hev0
    simp only [execOp, hop]
    split
    · rename_i v hv
      cases hfl : flatV v with
      | false => exact Sim.none
      | true =>
        refine Sim.one hr fun u hu => ?_
        obtain ⟨g1, g2⟩ := flat?_spec hu
        rw [flat_run hfl (hev0 _ (by simp) _ hv)]
        exact ⟨u, pure_run _ _ _ _ g1, flat_refl _ _ g2⟩
    · exact Sim.none
  · -- convert
    rename_i s d x hop
    simp only [hop, Op.operands] at hev0
    simp only [execOp, hop]
    split
    · rename_i p n c hv
      exact Sim.one hr fun u hu => toString_run he hr hu (hev0 _ (by simp) _ hv)
    · rename_i p hv
      intro ar H' h hf
      cases ar with
      | val v =>
        obtain ⟨rfl, u, g1, g2⟩ := view_run he hr h (hev0 _ (by simp) _ hv)
        refine ⟨σ, w, .value u, ?_, Step.refl hr, g2⟩
        simp only [Sem.run_bind, g1, Result.andThen_ok, Sem.run_pure]
      | _ => exact absurd h (viewA_val _ _ _ _ _ _ _ (fun v e => by cases e))
    · rename_i b hv
      rw [(hev0 _ (by simp) _ hv).string_inv]
      split
      · rename_i e _ _ _ _ hts htd
        exact bytesOf_sim he hr hts rfl htd rfl
      · refine Sim.one hr fun u hu => ?_
        obtain ⟨g1, g2⟩ := flat?_spec hu
        exact ⟨u, pure_run _ _ _ _ g1, flat_refl _ _ g2⟩
    · rename_i v hns hnp hnstr hv
      cases hfl : flatV v with
      | false => exact Sim.none
      | true =>
        refine Sim.one hr fun u hu => ?_
        obtain ⟨g1, g2⟩ := flat?_spec hu
        rw [flat_run hfl (hev0 _ (by simp) _ hv)]
        exact ⟨u, pure_run _ _ _ _ g1, flat_refl _ _ g2⟩
    · exact Sim.none
  · -- makeInterface
    rename_i t x hop
    simp only [hop, Op.operands] at hev0
    simp only [execOp, hop]
    split
    · exact Sim.none
    · rename_i ti v hni ht hv
      refine Sim.one hr fun u hu => ?_
      cases hu
      have hu := run_und he ht w
      refine ⟨.iface t (a.eval x), ?_, .iface (hev0 _ (by simp) _ hv)⟩
      simp only [Instr.makeInterface, Sem.run_bind, hu, Result.andThen_ok]
      cases hd : ti.desc <;> first | rfl | skip
      exact (hni _ _ _ _ _ (by rw [← hd])).elim
    · exact Sim.none
  · -- makeFunc
    rename_i fn f c hop
    simp only [hop, Op.operands] at hev0
    simp only [execOp, hop]
    split
    · rename_i vf vc hvf hvc
      have h1 := evs_run (a := a) (fun x hx => hev0 x (by simp; exact .inl (by simpa using hx))) hvf
      have h2 := evs_run (a := a) (fun x hx => hev0 x (by simp; exact .inr (by simpa using hx))) hvc
      refine Sim.one hr fun u hu => ?_
      cases hfn : fnPlain fn with
      | false => rw [hfn] at hu; simp at hu
      | true =>
        rw [hfn] at hu
        simp only [if_true, Option.some.injEq] at hu
        subst hu
        refine ⟨_, rfl, ?_⟩
        rw [← map_toList, ← map_toList]
        exact .func hfn h1 h2
    · exact Sim.none
  · -- makeMap
    rename_i t hop
    simp only [hop, Op.operands] at hev0
    simp only [execOp, hop]
    intro ar H' h hf
    cases h
    have hf' := hf.head (Nat.lt_succ_self _)
    have st := Step.new hr hf' (.map [] 0) (.map #[] 0) ⟨w.heap.size, 0, 0, 0⟩ rfl ⟨rfl, rfl, .nil⟩
    exact ⟨_, _, .value (.map (some w.heap.size)), rfl, st, VR.map (L := ⟨w.heap.size, 0, 0, 0⟩) Sig.add_self rfl⟩
  · rename_i t x hop
    simp only [hop, Op.operands] at hev0
    simp only [execOp, hop]
    split
    · rename_i kt et sz by_ z ag k n ht hv
      intro ar H' h hf
      cases h
      have hf' := hf.head (Nat.lt_succ_self _)
      have st := Step.new hr hf' (.map [] 0) (.map #[] 0) ⟨w.heap.size, 0, 0, 0⟩ rfl ⟨rfl, rfl, .nil⟩
      refine ⟨_, _, .value (.map (some w.heap.size)), ?_, st, VR.map (L := ⟨w.heap.size, 0, 0, 0⟩) Sig.add_self rfl⟩
      have hu := run_und he ht w
      have hxi := (hev0 _ (by simp) _ hv).int_inv
      simp only [Instr.makeMap, Option.map, Sem.run_bind, hu, Result.andThen_ok, hxi, asInt, asIntOf, Sem.run_pure, run_newObj]
      rfl
    · exact Sim.none
  · rename_i t l c hop
    simp only [hop, Op.operands] at hev0
    simp only [execOp, hop]
    split
    · rename_i vl vc hl hc
      exact makeSlice_sim he hr (hev0 _ (by simp) _ hl) (hev0 _ (by simp) _ hc)
    · exact Sim.none
  · -- slice
    rename_i t x lo hi mx hop
    simp only [hop, Op.operands] at hev0
    simp only [execOp, hop]
    split
    · rename_i vx vlo vhi vmx hx hlo hhi hmx
      exact Sim.one hr fun u hu => slice_run he hr hu (hev0 _ (by simp) _ hx) (ops_run lo (fun y hy => hev0 y (by cases lo <;> simp_all)) hlo)
        (ops_run hi (fun y hy => hev0 y (by cases hi <;> simp_all)) hhi) (ops_run mx (fun y hy => hev0 y (by cases mx <;> simp_all)) hmx)
    · exact Sim.none
  · rename_i s x f hop
    simp only [hop, Op.operands] at hev0
    simp only [execOp, hop]
    split
    · rename_i v hv
      exact Sim.one hr fun u hu => field_run he hu (hev0 _ (by simp) _ hv)
    · exact Sim.none
  · -- field
    rename_i t x f hop
    simp only [hop, Op.operands] at hev0
    simp only [execOp, hop]
    split
    · rename_i cs fs sz by_ z ag hv ht
      split
      · rename_i fd hfd
        exact Sim.one hr fun u hu => fieldV_run he ht rfl hfd hu (hev0 _ (by simp) _ hv)
      · exact Sim.none
    · exact Sim.none
  · -- indexAddr
    rename_i t x i hop
    simp only [hop, Op.operands] at hev0
    simp only [execOp, hop]
    split
    · rename_i v n hv hi
      simp only [Option.bind_eq_some_iff] at hi
      obtain ⟨iv, h1, h2⟩ := hi
      exact Sim.one hr fun u hu => index_run he hu h2 (hev0 _ (by simp) _ hv) (hev0 _ (by simp) _ h1)
    · exact Sim.none
  · -- index
    rename_i t x i hop
    simp only [hop, Op.operands] at hev0
    simp only [execOp, hop]
    split
    · rename_i s n sz by_ z ag hv hi ht
      simp only [Option.bind_eq_some_iff] at hi
      obtain ⟨iv, h1, h2⟩ := hi
      split
      · rename_i b hb
        refine Sim.one hr fun u hu => ?_
        cases hu
        exact ⟨_, indexS_run he ht rfl h2 hb (hev0 _ (by simp) _ hv) (hev0 _ (by simp) _ h1), .leaf rfl⟩
      · exact Sim.none
    · rename_i cs n len elem sz by_ z ag hv hi ht
      simp only [Option.bind_eq_some_iff] at hi
      obtain ⟨iv, h1, h2⟩ := hi
      split
      · rename_i e hel
        rw [bif_ble]
        split
        · rename_i hlt
          exact Sim.one hr fun u hu => indexV_run he ht rfl hel h2 hlt hu (hev0 _ (by simp) _ hv) (hev0 _ (by simp) _ h1)
        · exact Sim.none
      · exact Sim.none
    · exact Sim.none
  · rename_i t x k ok hop
    simp only [hop, Op.operands] at hev0
    simp only [execOp, hop]
    split
    · rename_i vx vk hx hk
      exact Sim.one hr fun u hu => lookup_run he hr hu (hev0 _ (by simp) _ hx) (hev0 _ (by simp) _ hk)
    · exact Sim.none
  · -- mapUpdate
    rename_i t m k x hop
    simp only [hop, Op.operands] at hev0
    simp only [execOp, hop]
    split
    · rename_i vm vk vx hm hk hx
      refine Sim.step fun H' hH => ?_
      obtain ⟨w', g1, g2⟩ := update_run he hr hH (hev0 _ (by simp) _ hm) (hev0 _ (by simp) _ hk) (hev0 _ (by simp) _ hx)
      exact ⟨w', .skip, by simp only [Sem.run_bind, g1, Result.andThen_ok, Sem.run_pure], g2, trivial⟩
    · exact Sim.none
  · rename_i t m k x hop
    simp only [hop, Op.operands] at hev0
    simp only [execOp, hop]
    split
    · rename_i vm vk vx hm hk hx
      refine Sim.step fun H' hH => ?_
      obtain ⟨w', g1, g2⟩ := update_run he hr hH (hev0 _ (by simp) _ hm) (hev0 _ (by simp) _ hk) (hev0 _ (by simp) _ hx)
      exact ⟨w', .skip, by simp only [Sem.run_bind, g1, Result.andThen_ok, Sem.run_pure], g2, trivial⟩
    · exact Sim.none
  · -- range
    rename_i t x hop
    simp only [hop, Op.operands] at hev0
    simp only [execOp, hop]
    split
    · rename_i s sz by_ z ag hv ht
      exact range_sim he hr ht rfl (hev0 _ (by simp) _ hv)
    · rename_i hv ht
      split
      · rename_i hb
        exact mrange_sim he hr ht rfl hb (hev0 _ (by simp) _ hv)
      · exact Sim.none
    · exact Sim.none
  · rename_i it str hop
    simp only [hop, Op.operands] at hev0
    simp only [execOp, hop]
    split
    · rename_i v hv
      exact next_sim hr (hev0 _ (by simp) _ hv)
    · exact Sim.none
  · rename_i it hop
    simp only [hop, Op.operands] at hev0
    simp only [execOp, hop]
    split
    · rename_i v hv
      exact Sim.one hr fun u hu => entry_run hr hu (hev0 _ (by simp) _ hv)
    · exact Sim.none
  · -- typeAssert
    rename_i x xt asserted ok hop
    simp only [hop, Op.operands] at hev0
    simp only [execOp, hop]
    split
    · rename_i v ti hv ht
      have hb := assert_run (w := w) (xt := xt) (ok := ok) he ht (hev0 _ (by simp) _ hv)
      split
      · rename_i u hu
        refine Sim.one hr fun r hr' => ?_
        cases hr'
        obtain ⟨u', g1, g2⟩ := hb.1 u hu
        refine ⟨_, g1, ?_⟩
        cases ok
        · exact g2
        · exact .tuple (.cons g2 (.cons (.leaf rfl) .nil))
      · rename_i hu
        cases ok with
        | false => exact Sim.none
        | true =>
          refine Sim.one hr fun r hr' => ?_
          split at hr'
          · rename_i z hz
            simp only [Option.map_eq_some_iff] at hr'
            obtain ⟨zv, hzv, rfl⟩ := hr'
            obtain ⟨g1, g2⟩ := hb.2 z zv hu rfl hz hzv
            exact ⟨_, g1, .tuple (.cons g2 (.cons (.leaf rfl) .nil))⟩
          · cases hr'
      · exact Sim.none
    · exact Sim.none
  · -- extract
    rename_i x i hop
    simp only [hop, Op.operands] at hev0
    simp only [execOp, hop]
    split
    · rename_i vs hv
      refine Sim.one hr fun u hu => ?_
      have hr1 := hev0 _ (by simp) _ hv
      generalize hx : a.eval x = x' at hr1
      cases hr1 with
      | leaf h0 => simp [leafV] at h0
      | tuple hc =>
        obtain ⟨v', g1, g2⟩ := hc.get _ _ hu
        refine ⟨v', ?_, g2⟩
        simp only [Instr.extract, List.getElem?_toArray, g1, Sem.run_pure]
    · exact Sim.none
  · rename_i c hop
    simp only [hop, Op.operands] at hev0
    simp only [execOp, hop]
    exact call_sim he hr c o.type hev0
  · exact Sim.none
end
end Go.Am
