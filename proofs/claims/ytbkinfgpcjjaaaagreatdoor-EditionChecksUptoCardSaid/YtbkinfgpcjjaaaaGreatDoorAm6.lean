/- A region whose order is drawn: one operation more, in any order. Conditions: none. -/
import Derived.Test.YtbkinfgpcjjaaaaGreatDoorAm5
set_option linter.all false
namespace Go.Am
open Go
section
variable {E : Env} {ih : Cmd → AH → Res} {ts : List (Nat × Nat)} {ops : Array Oper} {frs : Nat → Fr} {Hs : Nat → AH} {σ0 σ : Sig} {w0 w : World} {t : Nat} {S : Nat → Prop} {tmps : Array Value}
theorem putA_sz {fr fr' : Fr} {d : Option Tmp} {v : Value} (h : putA fr d v = some fr') : fr'.sz = fr.sz := by
  unfold putA at h
  cases d with
  | none => rw [← Option.some.inj h]
  | some d =>
    simp only [bif_ble] at h
    split at h
    case isFalse => cases h
    rw [← Option.some.inj h]
theorem Trace.sz (tr : Trace E ih ts ops frs Hs) : ∀ {i : Nat}, i ≤ ops.size → (frs i).sz = (frs 0).sz
  | 0, _ => rfl
  | i + 1, h => by
    rw [← tr.sz (i := i) (by omega)]
    obtain ⟨o, _, hx⟩ := tr.step i (by omega)
    rcases hx with hx | ⟨v, Q, hx, _⟩
    · exact putA_sz hx.2.1
    · exact putA_sz hx.2.2.2
theorem Inv.apart (tf : TF E ih ts ops frs Hs) (inv : Inv E ih ts ops frs Hs σ0 w0 t S σ w tmps) {i : Nat} (hi : ¬ S i) (hlt : i < ops.size) (hready : ∀ a, Anc ops.toList a i → S a) (hnb : blindAt ops.toList i = false)
    {j : Nat} (hj : Bar E ih ts ops frs Hs j) (hne : j ≠ i) (hr : (t ≤ j ∧ j < i) ∨ (i < j ∧ j < t)) : ∃ bt, TS ts ops frs j bt ∧ bt ∈ hidden ops.toList i ts := by
  refine untied_hidden tf hlt hj hne hnb ?_
  cases ht : tied (masks ops.toList) j i with
  | false => rfl
  | true =>
    rcases hr with ⟨h1, h2⟩ | ⟨h1, h2⟩
    · exact absurd (hready j ((tied_anc ht).1 h2)) (inv.a2 j h1 hj)
    · exact absurd (inv.down j i (inv.a1 j h2 hj) ((tied_anc ht).2 (by omega))) hi
theorem Inv.content (hu : UpIh ih) (tr : Trace E ih ts ops frs Hs) (tf : TF E ih ts ops frs Hs) (inv : Inv E ih ts ops frs Hs σ0 w0 t S σ w tmps) {i : Nat} (hi : ¬ S i) (hlt : i < ops.size)
    (hready : ∀ a, Anc ops.toList a i → S a) (hnb : blindAt ops.toList i = false) {b : Nat} {k : ABlk} (hb : (Hs i).blocks.get b = some k) (hW : b ∉ hidden ops.toList i ts) : cont Hs ops.size t b = some k := by
  have hmono : ∀ i j, i ≤ j → j ≤ ops.size → (Hs i).next ≤ (Hs j).next := fun i j h1 h2 => tr.nexts hu h1 h2
  have hbi := (tf.wf i (by omega) b k hb).2
  have hne : ∀ j, Bar E ih ts ops frs Hs j → j ≠ i → ((t ≤ j ∧ j < i) ∨ (i < j ∧ j < t)) → ∃ bt, TS ts ops frs j bt ∧ b ≠ bt := by
    intro j hj h1 h2
    obtain ⟨bt, g1, g2⟩ := inv.apart tf hi hlt hready hnb hj h1 h2
    exact ⟨bt, g1, fun e => hW (e ▸ g2)⟩
  have htle := inv.tle
  by_cases hti : t ≤ i
  · by_cases hbt : b < (Hs t).next
    · rw [cont_low hbt, ← same_range hu tr tf hbt hti (by omega) (fun j h1 h2 hj => hne j hj (by omega) (.inl ⟨h1, h2⟩)), hb]
    · obtain ⟨q, q1, q2, q3, q4⟩ := stage_of (Hs := Hs) (n := ops.size) (ops.size - t) t (by omega) (by omega) (Nat.lt_of_lt_of_le hbi (hmono i ops.size (by omega) (Nat.le_refl _)))
      have hqi : q < i := by
        rcases Nat.lt_or_ge q i with h | h
        · exact h
        · have := hmono i q h (by omega); omega
      rw [cont_at hmono q2 q3 q4 (q - t) t (by omega), ← same_range hu tr tf q4 (show q + 1 ≤ i by omega) (by omega) (fun j h1 h2 hj => hne j hj (by omega) (.inl ⟨by omega, h2⟩)), hb]
  · have hbt : b < (Hs t).next := Nat.lt_of_lt_of_le hbi (hmono i t (by omega) htle)
    rw [cont_low hbt, same_range hu tr tf hbi (show i ≤ t by omega) htle (fun j h1 h2 hj => ?_), hb]
    by_cases e : j = i
    · subst e; exact absurd (inv.a1 j h2 hj) hi
    · exact hne j hj e (.inr ⟨by omega, h2⟩)
theorem Inv.view (hu : UpIh ih) (tr : Trace E ih ts ops frs Hs) (tf : TF E ih ts ops frs Hs) (inv : Inv E ih ts ops frs Hs σ0 w0 t S σ w tmps) {i : Nat} (hi : ¬ S i) (hlt : i < ops.size)
    (hready : ∀ a, Anc ops.toList a i → S a) (hnb : blindAt ops.toList i = false) : HR E σ (hideH (Hs i) (hidden ops.toList i ts)) w := by
  have g : ∀ b k, (hideH (Hs i) (hidden ops.toList i ts)).blocks.get b = some k → (Hs i).blocks.get b = some k ∧ cont Hs ops.size t b = some k := by
    intro b k h
    rw [show (hideH (Hs i) (hidden ops.toList i ts)).blocks = hideT (Hs i).blocks (hidden ops.toList i ts) from rfl, hideT_get] at h
    split at h
    · cases h
    · rename_i hW
      exact ⟨h, inv.content hu tr tf hi hlt hready hnb h hW⟩
  exact ⟨fun b k L hb => inv.objs b k L (g b k hb).2, fun b₁ b₂ k₁ k₂ L₁ L₂ h1 h2 => inv.sep b₁ b₂ k₁ k₂ L₁ L₂ (g _ _ h1).2 (g _ _ h2).2, inv.glob, fun b k hb => tf.wf i (by omega) b k (g b k hb).1⟩
theorem Inv.done (inv : Inv E ih ts ops frs Hs σ0 w0 t S σ w tmps) {i : Nat} (hlt : i < ops.size) (hready : ∀ a, Anc ops.toList a i → S a) :
    (∀ j a, (S j ∨ j = i) → Anc ops.toList a j → (S a ∨ a = i)) ∧ ∀ j, (S j ∨ j = i) → j < ops.size := by
  refine ⟨fun j a hj ha => ?_, fun j hj => ?_⟩
  · rcases hj with hj | rfl
    · exact .inl (inv.down j a hj ha)
    · exact .inl (hready a ha)
  · rcases hj with hj | rfl
    · exact inv.slt j hj
    · exact hlt
theorem Inv.blk_lt (inv : Inv E ih ts ops frs Hs σ0 w0 t S σ w tmps) {b : Nat} {k : ABlk} {L : Loc} (hb : cont Hs ops.size t b = some k) (hs : σ b = some L) : L.blk < w.heap.size := by
  obtain ⟨o, h1, _⟩ := inv.objs b k L hb hs
  exact (Array.getElem?_eq_some_iff.1 h1).1
theorem Inv.pure (hreg : regOk ops.toList = true) (hu : UpIh ih) (tr : Trace E ih ts ops frs Hs) (tf : TF E ih ts ops frs Hs) (hfree0 : Free σ0 (Hs 0).next (Hs ops.size).next)
    (inv : Inv E ih ts ops frs Hs σ0 w0 t S σ w tmps) {i : Nat} (hi : ¬ S i) (hlt : i < ops.size)
    (hready : ∀ a, Anc ops.toList a i → S a) (hnb : blindAt ops.toList i = false) {o : Oper} (ho : ops[i]? = some o) {v v' : Value} {Q : AH} (hrun : Runs E ih (hidden ops.toList i ts) ops (frs i) (Hs i) (frs (i + 1)) (Hs (i + 1)) o v Q)
    (hp : (Hs i).next ≤ Q.low) (hWn : ∀ b ∈ hidden ops.toList i ts, b < (Hs i).next ∨ Q.next ≤ b) {σ' : Sig} {w' : World} (st : Step E σ (hideH (Hs i) (hidden ops.toList i ts)) w σ' Q w') (hv : VR σ' v v') :
    Inv E ih ts ops frs Hs σ0 w0 t (fun j => S j ∨ j = i) σ' w' (putC tmps o.dst v') := by
  have hmono : ∀ i j, i ≤ j → j ≤ ops.size → (Hs i).next ≤ (Hs j).next := fun i j h1 h2 => tr.nexts hu h1 h2
  obtain ⟨h1, h2, h3, h4⟩ := hrun
  have eQ : Q.next = (Hs (i + 1)).next := by rw [h3]; rfl
  have hview := inv.view hu tr tf hi hlt hready hnb
  have p1 := st.p1 hview hp
  have p3 := st.p3 hview hp
  have hnbar : ¬ Bar E ih ts ops frs Hs i := by
    rintro ⟨o', v2, Q2, ho2, hr2, hn2⟩
    rw [ho] at ho2; cases ho2
    have := h2.symm.trans hr2.2.1
    cases this
    exact hn2 hp
  have hfreei : Free σ (Hs i).next Q.next := fun b g1 g2 => inv.free i hlt hi b g1 (by omega)
  have hle : Sig.le σ σ' := st.le hfreei
  have hnext := tr.next hu hlt
  have hnewc : ∀ b k, (Hs i).next ≤ b → b < (Hs (i + 1)).next → cont Hs ops.size t b = some k → Q.blocks.get b = some k := by
    intro b k g1 g2 hc
    have hcont : cont Hs ops.size t b = (Hs (i + 1)).blocks.get b := by
      by_cases hti : t ≤ i
      · exact cont_at hmono hlt g1 g2 (i - t) t (by omega)
      · have hbt : b < (Hs t).next := Nat.lt_of_lt_of_le g2 (hmono (i + 1) t (by omega) inv.tle)
        rw [cont_low hbt]
        refine same_range hu tr tf g2 (by omega) inv.tle fun j q1 q2 hj => ?_
        obtain ⟨bt, g3, g4⟩ := inv.apart tf hi hlt hready hnb hj (by omega) (.inr ⟨by omega, q2⟩)
        refine ⟨bt, g3, fun e => ?_⟩
        have := hWn bt g4
        rw [eQ] at this
        omega
    rw [hcont, h3] at hc
    have : (restoreT Q.blocks (Hs i).blocks (hidden ops.toList i ts)).get b = some k := hc
    rw [restoreT_get] at this
    split at this
    · have := (tf.wf i (by omega) b k this).2; omega
    · exact this
  have hold : ∀ b, ¬ ((Hs i).next ≤ b ∧ b < (Hs (i + 1)).next) → σ' b = σ b := by
    intro b hb
    exact st.ext b (by show b < (Hs i).next ∨ Q.next ≤ b; omega)
  obtain ⟨hdown, hslt⟩ := inv.done hlt hready
  obtain ⟨hsl, hsz⟩ := slots_step hreg tr inv.down ho hi hle inv.tsz (tr.sz (by omega)) inv.slots h4 hv
  refine { tle := inv.tle, a1 := fun j g1 g2 => .inl (inv.a1 j g1 g2), a2 := ?_, a3 := inv.a3, down := hdown, slt := hslt, objs := ?_, sep := ?_, glob := st.hr.glob, free := ?_, ext := ?_, tsz := hsz, slots := hsl,
           size := Nat.le_trans inv.size st.size, tape := st.tape.trans inv.tape, os := st.os.trans inv.os, output := st.output.trans inv.output, frame := ?_, origin := ?_ }
  · rintro j g1 g2 (g3 | rfl)
    · exact inv.a2 j g1 g2 g3
    · exact hnbar g2
  · intro b k L hc hs
    by_cases hb : (Hs i).next ≤ b ∧ b < (Hs (i + 1)).next
    · exact st.hr.objs b k L (hnewc b k hb.1 hb.2 hc) hs
    · rw [hold b hb] at hs
      obtain ⟨o', g1, g2⟩ := inv.objs b k L hc hs
      exact ⟨o', by rw [p1 _ (inv.blk_lt hc hs)]; exact g1, g2.mono hle⟩
  · intro b₁ b₂ k₁ k₂ L₁ L₂ c1 c2 own s1 s2 hne
    by_cases hb1 : (Hs i).next ≤ b₁ ∧ b₁ < (Hs (i + 1)).next
    · have q1 := hnewc b₁ k₁ hb1.1 hb1.2 c1
      by_cases hb2 : (Hs i).next ≤ b₂ ∧ b₂ < (Hs (i + 1)).next
      · exact st.hr.sep b₁ b₂ k₁ k₂ L₁ L₂ q1 (hnewc b₂ k₂ hb2.1 hb2.2 c2) own s1 s2 hne
      · rw [hold b₂ hb2] at s2
        have := p3 b₁ k₁ L₁ hb1.1 q1 s1
        have := inv.blk_lt c2 s2
        omega
    · rw [hold b₁ hb1] at s1
      by_cases hb2 : (Hs i).next ≤ b₂ ∧ b₂ < (Hs (i + 1)).next
      · have := p3 b₂ k₂ L₂ hb2.1 (hnewc b₂ k₂ hb2.1 hb2.2 c2) s2
        have := inv.blk_lt c1 s1
        omega
      · rw [hold b₂ hb2] at s2
        exact inv.sep b₁ b₂ k₁ k₂ L₁ L₂ c1 c2 own s1 s2 hne
  · intro j hj hnj b g1 g2
    have hji : j ≠ i := fun e => hnj (.inr e)
    have : ¬ ((Hs i).next ≤ b ∧ b < (Hs (i + 1)).next) := by
      rintro ⟨q1, q2⟩
      by_cases hlt2 : j < i
      · have := hmono (j + 1) i (by omega) (by omega); omega
      · have := hmono (i + 1) j (by omega) (by omega); omega
    rw [hold b this]
    exact inv.free j hj (fun h => hnj (.inl h)) b g1 g2
  · intro b hb
    have : ¬ ((Hs i).next ≤ b ∧ b < (Hs (i + 1)).next) := by
      rintro ⟨q1, q2⟩
      have := hmono 0 i (by omega) (by omega)
      have := hmono (i + 1) ops.size (by omega) (Nat.le_refl _)
      omega
    rw [hold b this]; exact inv.ext b hb
  · intro B hB hx
    rw [p1 B (Nat.lt_of_lt_of_le hB inv.size)]
    exact inv.frame B hB hx
  · intro b k L hc own hs
    by_cases hb : (Hs i).next ≤ b ∧ b < (Hs (i + 1)).next
    · have := p3 b k L hb.1 (hnewc b k hb.1 hb.2 hc) hs
      exact .inl (Nat.le_trans inv.size this)
    · rw [hold b hb] at hs
      exact inv.origin b k L hc own hs
theorem Inv.skip (hreg : regOk ops.toList = true) (tr : Trace E ih ts ops frs Hs) (inv : Inv E ih ts ops frs Hs σ0 w0 t S σ w tmps) {i : Nat} (hi : ¬ S i) (hlt : i < ops.size)
    (hready : ∀ a, Anc ops.toList a i → S a) {o : Oper} (ho : ops[i]? = some o) (hrun : Skips ops (frs i) (Hs i) (frs (i + 1)) (Hs (i + 1)) o) :
    Inv E ih ts ops frs Hs σ0 w0 t (fun j => S j ∨ j = i) σ w (putC tmps o.dst undef) := by
  obtain ⟨h1, h2, h3⟩ := hrun
  have hnbar : ¬ Bar E ih ts ops frs Hs i := by
    rintro ⟨o', v2, Q2, ho2, hr2, hn2⟩
    rw [ho] at ho2; cases ho2
    exact absurd (h1.symm.trans hr2.1) (by simp)
  obtain ⟨hdown, hslt⟩ := inv.done hlt hready
  obtain ⟨hsl, hsz⟩ := slots_step hreg tr inv.down ho hi (Sig.le_refl σ) inv.tsz (tr.sz (by omega)) inv.slots h2 (v' := undef) (.tuple .nil)
  refine { inv with a1 := fun j g1 g2 => .inl (inv.a1 j g1 g2), a2 := ?_, down := hdown, slt := hslt, free := ?_, tsz := hsz, slots := hsl }
  · rintro j g1 g2 (g3 | rfl)
    · exact inv.a2 j g1 g2 g3
    · exact hnbar g2
  · exact fun j hj hnj b g1 g2 => inv.free j hj (fun h => hnj (.inl h)) b g1 g2
theorem blind_run (he : EOk E) {H Q : AH} {fr : Fr} {o : Oper} {v : Value} {a : Act} (hb : blindOp o.op = true) (h : execA E ih fr o H = some (v, Q)) (hev : ∀ x ∈ o.op.operands.toList, ∀ v, ev E fr x = some v → VR σ v (a.eval x)) :
    Q = H ∧ ∃ v', (execOp a.eval o).run E.prog w = .ok (.value v') w ∧ VR σ v v' := by
  unfold execA aop at h
  cases hop : o.op <;> rw [hop] at hb <;> simp only [blindOp] at hb <;> try (cases hb; done)
  all_goals simp only [hop, Op.operands] at hev
  all_goals simp only [execOp, hop]
  · rename_i x
    rw [hop] at h
    simp only [one] at h
    cases hv : ev E fr x with
    | none => rw [hv] at h; simp at h
    | some v0 =>
      rw [hv] at h
      simp at h
      obtain ⟨rfl, rfl⟩ := h
      exact ⟨rfl, _, rfl, hev _ (by simp) _ hv⟩
  · rename_i x
    rw [hop] at h
    simp only [one] at h
    cases hv : ev E fr x with
    | none => rw [hv] at h; simp at h
    | some v0 =>
      rw [hv] at h
      simp at h
      obtain ⟨rfl, rfl⟩ := h
      exact ⟨rfl, _, rfl, hev _ (by simp) _ hv⟩
  · rename_i x i
    rw [hop] at h
    simp only [one] at h
    cases hv : ev E fr x with
    | none => rw [hv] at h; simp at h
    | some v0 =>
      rw [hv] at h
      cases v0 with
      | tuple vs =>
        simp only at h
        cases hg : vs.toList[i]? with
        | none => rw [hg] at h; simp at h
        | some u =>
          rw [hg] at h
          simp at h
          obtain ⟨rfl, rfl⟩ := h
          have hr1 := hev _ (by simp) _ hv
          generalize hx : a.eval x = x' at hr1
          cases hr1 with
          | leaf h0 => simp [leafV] at h0
          | tuple hc =>
            obtain ⟨v', g1, g2⟩ := hc.get _ _ hg
            refine ⟨rfl, v', ?_, g2⟩
            simp only [Instr.extract, List.getElem?_toArray, g1, Sem.run_pure, Sem.run_bind, Result.andThen_ok]
      | _ => simp at h
theorem Inv.blind (hreg : regOk ops.toList = true) (tr : Trace E ih ts ops frs Hs) (tf : TF E ih ts ops frs Hs) (inv : Inv E ih ts ops frs Hs σ0 w0 t S σ w tmps) {i : Nat} (hi : ¬ S i) (hlt : i < ops.size)
    (hready : ∀ a, Anc ops.toList a i → S a) {o : Oper} (ho : ops[i]? = some o) (hb : blindAt ops.toList i = true) {v v' : Value} (hput : putA (frs i) o.dst v = some (frs (i + 1))) (hv : VR σ v v') :
    Inv E ih ts ops frs Hs σ0 w0 t (fun j => S j ∨ j = i) σ w (putC tmps o.dst v') := by
  have hnbar : ¬ Bar E ih ts ops frs Hs i := fun hbar => by rw [tf.nb i hlt hbar] at hb; cases hb
  obtain ⟨hdown, hslt⟩ := inv.done hlt hready
  obtain ⟨hsl, hsz⟩ := slots_step hreg tr inv.down ho hi (Sig.le_refl σ) inv.tsz (tr.sz (by omega)) inv.slots hput (v' := v') hv
  refine { inv with a1 := fun j g1 g2 => .inl (inv.a1 j g1 g2), a2 := ?_, down := hdown, slt := hslt, free := ?_, tsz := hsz, slots := hsl }
  · rintro j g1 g2 (g3 | rfl)
    · exact inv.a2 j g1 g2 g3
    · exact hnbar g2
  · exact fun j hj hnj b g1 g2 => inv.free j hj (fun h => hnj (.inl h)) b g1 g2
theorem least_bar (P : Nat → Prop) (n : Nat) : ∀ (d t : Nat), t + d = n → ∃ q, t ≤ q ∧ q ≤ n ∧ (q = n ∨ P q) ∧ ∀ j, t ≤ j → j < q → ¬ P j
  | 0, t, e => ⟨n, by omega, Nat.le_refl _, .inl rfl, fun j h1 h2 => by omega⟩
  | d + 1, t, e => by
    by_cases h : P t
    · exact ⟨t, Nat.le_refl _, by omega, .inr h, fun j h1 h2 => by omega⟩
    · obtain ⟨q, h1, h2, h3, h4⟩ := least_bar P n d (t + 1) (by omega)
      refine ⟨q, by omega, h2, h3, fun j g1 g2 => ?_⟩
      by_cases e : j = t
      · subst e; exact h
      · exact h4 j (by omega) g2
theorem Inv.bar (hreg : regOk ops.toList = true) (hu : UpIh ih) (tr : Trace E ih ts ops frs Hs) (tf : TF E ih ts ops frs Hs)
    (inv : Inv E ih ts ops frs Hs σ0 w0 t S σ w tmps) {i : Nat} (hi : ¬ S i) (hlt : i < ops.size)
    (hready : ∀ a, Anc ops.toList a i → S a) (hnb : blindAt ops.toList i = false) {o : Oper} (ho : ops[i]? = some o) {v v' : Value} {Q : AH} (hrun : Runs E ih (hidden ops.toList i ts) ops (frs i) (Hs i) (frs (i + 1)) (Hs (i + 1)) o v Q)
    (hp : ¬ (Hs i).next ≤ Q.low) {σ' : Sig} {w' : World} (st : Step E σ (hideH (Hs i) (hidden ops.toList i ts)) w σ' Q w') (hv : VR σ' v v') :
    ∃ t', Inv E ih ts ops frs Hs σ0 w0 t' (fun j => S j ∨ j = i) σ' w' (putC tmps o.dst v') := by
  have hmono : ∀ i j, i ≤ j → j ≤ ops.size → (Hs i).next ≤ (Hs j).next := fun i j h1 h2 => tr.nexts hu h1 h2
  have hbar : Bar E ih ts ops frs Hs i := ⟨o, v, Q, ho, hrun, hp⟩
  have hit : i = t := by
    rcases Nat.lt_trichotomy i t with h | h | h
    · exact absurd (inv.a1 i h hbar) hi
    · exact h
    · have htb : Bar E ih ts ops frs Hs t := inv.a3.resolve_left (by omega)
      have := bars_tied tf hbar htb (by omega)
      exact absurd (hready t ((tied_anc this).1 h)) (inv.a2 t (Nat.le_refl _) htb)
  subst hit
  have hview := inv.view hu tr tf hi hlt hready hnb
  obtain ⟨h1, h2, h3, h4⟩ := hrun
  have hW : hidden ops.toList i ts = [] := (tf.bars i hlt hbar).1
  rw [hW] at h2 h3 st hview
  have eQ : Q.next = (Hs (i + 1)).next := by rw [h3]; rfl
  have eB : ∀ b, (Hs (i + 1)).blocks.get b = Q.blocks.get b := by intro b; rw [h3]; rfl
  have eV : ∀ b, (hideH (Hs i) []).blocks.get b = (Hs i).blocks.get b := fun b => rfl
  have hfreei : Free σ (Hs i).next Q.next := fun b g1 g2 => inv.free i hlt hi b g1 (by omega)
  have hle : Sig.le σ σ' := st.le hfreei
  have hold : ∀ b, ¬ ((Hs i).next ≤ b ∧ b < (Hs (i + 1)).next) → σ' b = σ b := by
    intro b hb
    exact st.ext b (by show b < (Hs i).next ∨ Q.next ≤ b; omega)
  have hnext := tr.next hu hlt
  obtain ⟨t', q1, q2, q3, q4⟩ := least_bar (Bar E ih ts ops frs Hs) ops.size (ops.size - (i + 1)) (i + 1) (by omega)
  have clow : ∀ b, b < (Hs (i + 1)).next → cont Hs ops.size t' b = Q.blocks.get b := by
    intro b hb
    rw [cont_low (Nat.lt_of_lt_of_le hb (hmono (i + 1) t' q1 q2)), same_range hu tr tf hb q1 q2 (fun j g1 g2 hj => absurd hj (q4 j g1 g2)), eB]
  have chigh : ∀ b, ¬ b < (Hs (i + 1)).next → cont Hs ops.size t' b = cont Hs ops.size i b := by
    intro b hb
    by_cases hbn : b < (Hs ops.size).next
    · obtain ⟨q, g1, g2, g3, g4⟩ := stage_of (Hs := Hs) (n := ops.size) (ops.size - (i + 1)) (i + 1) (by omega) (by omega) hbn
      rw [cont_at hmono g2 g3 g4 (q - i) i (by omega)]
      by_cases hqt : t' ≤ q
      · exact cont_at hmono g2 g3 g4 (q - t') t' (by omega)
      · rw [cont_low (Nat.lt_of_lt_of_le g4 (hmono (q + 1) t' (by omega) q2))]
        exact same_range hu tr tf g4 (by omega) q2 (fun j k1 k2 hj => absurd hj (q4 j (by omega) k2))
    · rw [cont_none hmono (by omega) (ops.size - t') t' (by omega), cont_none hmono (by omega) (ops.size - i) i (by omega)]
  have cprev : ∀ b, b < (Hs i).next → cont Hs ops.size i b = (Hs i).blocks.get b := fun b hb => cont_low hb
  obtain ⟨hdown, hslt⟩ := inv.done hlt hready
  obtain ⟨hsl, hsz⟩ := slots_step hreg tr inv.down ho hi hle inv.tsz (tr.sz (by omega)) inv.slots h4 hv
  have pend : ∀ b k L, ¬ b < (Hs (i + 1)).next → cont Hs ops.size i b = some k → σ b = some L → w'.heap[L.blk]? = w.heap[L.blk]? := by
    intro b k L hb hc hs
    refine st.frame _ (inv.blk_lt hc hs) fun b1 k1 L1 g1 g2 g3 _ => ?_
    have hb1 := (tf.wf i (by omega) b1 k1 g1).2
    exact inv.sep b1 b k1 k L1 L (by rw [cprev b1 hb1]; exact g1) hc g2 g3 hs (by omega)
  have from' : ∀ b1 k1 L1, Q.blocks.get b1 = some k1 → σ' b1 = some L1 → ∀ b2 k2 L2, ¬ b2 < (Hs (i + 1)).next → cont Hs ops.size i b2 = some k2 → σ b2 = some L2 → (k1.own = true ∨ k2.own = true) → L1.blk ≠ L2.blk := by
    intro b1 k1 L1 g1 g2 b2 k2 L2 hb2 hc2 hs2 hown
    have hb1 := (st.hr.wf b1 k1 g1).2
    by_cases hold1 : b1 < (Hs i).next
    · obtain ⟨k0, e1, e2, e3⟩ := st.old b1 k1 g1 hold1
      rw [hold b1 (by omega)] at g2
      have c1 : cont Hs ops.size i b1 = some k0 := by rw [cprev b1 hold1]; exact e1
      rcases hown with hown | hown
      · exact inv.sep b1 b2 k0 k2 L1 L2 c1 hc2 (by rw [e3]; exact hown) g2 hs2 (by omega)
      · exact fun e => inv.sep b2 b1 k2 k0 L2 L1 hc2 c1 hown hs2 g2 (by omega) e.symm
    · have hown1 := (st.born b1 k1 g1 (by show (Hs i).next ≤ b1; omega)).2
      rcases st.origin b1 k1 L1 g1 hown1 g2 with h | ⟨b0, k0, L0, e1, e2, e3, e4, _⟩
      · have := inv.blk_lt hc2 hs2; omega
      · have hb0 := (tf.wf i (by omega) b0 k0 e1).2
        have := inv.sep b0 b2 k0 k2 L0 L2 (by rw [cprev b0 hb0]; exact e1) hc2 e2 e3 hs2 (by omega)
        omega
  refine ⟨t', ?_⟩
  refine { tle := q2, a1 := ?_, a2 := ?_, a3 := q3, down := hdown, slt := hslt, objs := ?_, sep := ?_, glob := st.hr.glob, free := ?_, ext := ?_, tsz := hsz, slots := hsl,
           size := Nat.le_trans inv.size st.size, tape := st.tape.trans inv.tape, os := st.os.trans inv.os, output := st.output.trans inv.output, frame := ?_, origin := ?_ }
  · intro j g1 g2
    rcases Nat.lt_trichotomy j i with h | h | h
    · exact .inl (inv.a1 j h g2)
    · exact .inr h
    · exact absurd g2 (q4 j (by omega) g1)
  · rintro j g1 g2 (g3 | rfl)
    · exact inv.a2 j (by omega) g2 g3
    · omega
  · intro b k L hc hs
    by_cases hb : b < (Hs (i + 1)).next
    · rw [clow b hb] at hc
      exact st.hr.objs b k L hc hs
    · rw [chigh b hb] at hc
      rw [hold b (by omega)] at hs
      obtain ⟨o', g1, g2⟩ := inv.objs b k L hc hs
      exact ⟨o', by rw [pend b k L hb hc hs]; exact g1, g2.mono hle⟩
  · intro b₁ b₂ k₁ k₂ L₁ L₂ c1 c2 own s1 s2 hne
    by_cases hb1 : b₁ < (Hs (i + 1)).next
    · rw [clow b₁ hb1] at c1
      by_cases hb2 : b₂ < (Hs (i + 1)).next
      · rw [clow b₂ hb2] at c2
        exact st.hr.sep b₁ b₂ k₁ k₂ L₁ L₂ c1 c2 own s1 s2 hne
      · rw [chigh b₂ hb2] at c2
        rw [hold b₂ (by omega)] at s2
        exact from' b₁ k₁ L₁ c1 s1 b₂ k₂ L₂ hb2 c2 s2 (.inl own)
    · rw [chigh b₁ hb1] at c1
      rw [hold b₁ (by omega)] at s1
      by_cases hb2 : b₂ < (Hs (i + 1)).next
      · rw [clow b₂ hb2] at c2
        exact fun e => from' b₂ k₂ L₂ c2 s2 b₁ k₁ L₁ hb1 c1 s1 (.inr own) e.symm
      · rw [chigh b₂ hb2] at c2
        rw [hold b₂ (by omega)] at s2
        exact inv.sep b₁ b₂ k₁ k₂ L₁ L₂ c1 c2 own s1 s2 hne
  · intro j hj hnj b g1 g2
    have hji : j ≠ i := fun e => hnj (.inr e)
    have : ¬ ((Hs i).next ≤ b ∧ b < (Hs (i + 1)).next) := by
      rintro ⟨k1, k2⟩
      by_cases hlt2 : j < i
      · have := hmono (j + 1) i (by omega) (by omega); omega
      · have := hmono (i + 1) j (by omega) (by omega); omega
    rw [hold b this]
    exact inv.free j hj (fun h => hnj (.inl h)) b g1 g2
  · intro b hb
    have : ¬ ((Hs i).next ≤ b ∧ b < (Hs (i + 1)).next) := by
      rintro ⟨k1, k2⟩
      have := hmono 0 i (by omega) (by omega)
      have := hmono (i + 1) ops.size (by omega) (Nat.le_refl _)
      omega
    rw [hold b this]; exact inv.ext b hb
  · intro B hB hx
    rw [st.frame B (Nat.lt_of_lt_of_le hB inv.size) ?_]
    · exact inv.frame B hB hx
    · intro b k L g1 g2 g3 g4 e
      have hb := (tf.wf i (by omega) b k g1).2
      rcases inv.origin b k L (by rw [cprev b hb]; exact g1) g2 g3 with h | ⟨b₀, k₀, L₀, e1, e2, e3, e4, e5⟩
      · omega
      · have hlow : (Hs ops.size).low ≤ (Hs (i + 1)).low := by
          have : ∀ d j, j + d = ops.size → (Hs ops.size).low ≤ (Hs j).low := by
            intro d
            induction d with
            | zero => intro j e; have : j = ops.size := by omega
                      subst this; exact Nat.le_refl _
            | succ d IH => intro j e; exact Nat.le_trans (IH (j + 1) (by omega)) (tf.low j (by omega))
          exact this (ops.size - (i + 1)) (i + 1) (by omega)
        have hq : (Hs (i + 1)).low ≤ Q.low := by rw [h3]; exact Nat.min_le_right _ _
        exact hx b₀ k₀ L₀ e1 e2 e3 (by omega) (by omega)
  · intro b k L hc own hs
    by_cases hb : b < (Hs (i + 1)).next
    · rw [clow b hb] at hc
      rcases st.origin b k L hc own hs with h | ⟨b₀, k₀, L₀, e1, e2, e3, e4, e5⟩
      · exact .inl (Nat.le_trans inv.size h)
      · have hb0 := (tf.wf i (by omega) b₀ k₀ e1).2
        rcases inv.origin b₀ k₀ L₀ (by rw [cprev b₀ hb0]; exact e1) e2 e3 with h | ⟨b', k', L', f1, f2, f3, f4, f5⟩
        · exact .inl (by omega)
        · exact .inr ⟨b', k', L', f1, f2, f3, by omega, by omega⟩
    · rw [chigh b hb] at hc
      rw [hold b (by omega)] at hs
      exact inv.origin b k L hc own hs
end
end Go.Am
namespace Go.Am
open Go
section
variable {E : Env} {ih : Cmd → AH → Res} {ts : List (Nat × Nat)} {ops : Array Oper} {frs : Nat → Fr} {Hs : Nat → AH} {σ0 σ : Sig} {w0 w : World} {t : Nat} {S : Nat → Prop} {tmps : Array Value}
def cnt (listed : Array Bool) : Nat → Nat
  | 0 => 0
  | n + 1 => cnt listed n + (if listed.getD n false = true then 0 else 1)
theorem cnt_le (listed : Array Bool) : ∀ n, cnt listed n ≤ n
  | 0 => Nat.le_refl _
  | n + 1 => by
    have := cnt_le listed n
    simp only [cnt]
    split <;> omega
theorem getD_set (listed : Array Bool) {i : Nat} (hi : i < listed.size) (j : Nat) : (listed.setIfInBounds i true).getD j false = if j = i then true else listed.getD j false := by
  by_cases e : j = i
  · subst e; simp [hi]
  · have : ¬ i = j := fun h => e h.symm
    simp [Array.getElem?_setIfInBounds, this, e]
theorem cnt_set (listed : Array Bool) {i : Nat} (hi : i < listed.size) (hl : listed.getD i false = false) : ∀ n, cnt (listed.setIfInBounds i true) n + (if i < n then 1 else 0) = cnt listed n
  | 0 => by simp [cnt]
  | n + 1 => by
    have IH := cnt_set listed hi hl n
    simp only [cnt, getD_set listed hi n]
    by_cases e : n = i
    · subst e
      rw [if_neg (Nat.lt_irrefl _)] at IH
      rw [if_pos rfl, if_pos rfl, if_pos (Nat.lt_succ_self _), hl]
      simp; omega
    · by_cases hlt : i < n
      · have h1 : i < n + 1 := by omega
        simp only [if_neg e, if_pos h1]
        rw [if_pos hlt] at IH; omega
      · have h1 : ¬ i < n + 1 := by omega
        simp only [if_neg e, if_neg h1]
        rw [if_neg hlt] at IH; omega
theorem cnt_zero (listed : Array Bool) : ∀ n, cnt listed n = 0 → ∀ j, j < n → listed.getD j false = true
  | 0, _, j, hj => by omega
  | n + 1, h, j, hj => by
    simp only [cnt] at h
    by_cases e : j = n
    · subst e
      cases hl : listed.getD j false with
      | true => rfl
      | false => rw [hl] at h; simp at h
    · exact cnt_zero listed n (by omega) j (by omega)
theorem preds_binds {o : Oper} {p : Nat} (h : p ∈ preds o) : ∃ e ∈ o.after, e.on = p ∧ Region.binds .any e = true := by
  unfold preds at h
  simp only [List.mem_filterMap] at h
  obtain ⟨e, he, hp⟩ := h
  refine ⟨e, by simpa using he, ?_⟩
  unfold Region.binds
  split at hp
  · cases hp
  · cases hp
  · rename_i h1 h2
    cases hp
    refine ⟨rfl, ?_⟩
    split
    · rename_i r hg; exact absurd hg (h1 r)
    · rename_i r hg; exact absurd hg (h2 r)
    · rfl
theorem last_writer (tr : Trace E ih ts ops frs Hs) (x : Tmp) : ∀ m, m ≤ ops.size → ∃ j, j ≤ m ∧ (j = 0 ∨ ∃ p, j = p + 1 ∧ Writes ops p x) ∧ (∀ p, p < m → Writes ops p x → p + 1 ≤ j) ∧ (frs j).t.get x = (frs m).t.get x := by
  intro m
  induction m with
  | zero => intro _; exact ⟨0, Nat.le_refl _, .inl rfl, fun p hp => by omega, rfl⟩
  | succ m IH =>
    intro hm
    obtain ⟨j, h1, h2, h3, h4⟩ := IH (by omega)
    by_cases hw : Writes ops m x
    · exact ⟨m + 1, Nat.le_refl _, .inr ⟨m, rfl, hw⟩, fun p hp _ => by omega, rfl⟩
    · refine ⟨j, by omega, h2, fun p hp hpw => ?_, ?_⟩
      · by_cases e : p = m
        · subst e; exact absurd hpw hw
        · exact h3 p (by omega) hpw
      · rw [h4]
        obtain ⟨q, hq, hx⟩ := tr.step m (by omega)
        have hne : q.dst ≠ some x := fun e => hw ⟨q, hq, e⟩
        have hp : ∃ v, putA (frs m) q.dst v = some (frs (m + 1)) := by
          rcases hx with hx | ⟨v, Q, hx, _⟩
          · exact ⟨_, hx.2.1⟩
          · exact ⟨_, hx.2.2.2⟩
        obtain ⟨v, hp⟩ := hp
        unfold putA at hp
        cases hd : q.dst with
        | none => rw [hd] at hp; rw [← Option.some.inj hp]
        | some d =>
          rw [hd] at hp hne
          simp only [bif_ble] at hp
          split at hp
          case isFalse => cases hp
          rw [← Option.some.inj hp]
          simp only [T.get_put]
          rw [if_neg]
          intro e; exact hne (by rw [e])
theorem Inv.start (hu : UpIh ih) (tr : Trace E ih ts ops frs Hs) (tf : TF E ih ts ops frs Hs) (hr : HR E σ0 (Hs 0) w0) (hfr : FrR σ0 (frs 0) tmps) (hfree0 : Free σ0 (Hs 0).next (Hs ops.size).next) :
    ∃ t, Inv E ih ts ops frs Hs σ0 w0 t (fun _ => False) σ0 w0 tmps := by
  have hmono : ∀ i j, i ≤ j → j ≤ ops.size → (Hs i).next ≤ (Hs j).next := fun i j h1 h2 => tr.nexts hu h1 h2
  obtain ⟨t, _, q2, q3, q4⟩ := least_bar (Bar E ih ts ops frs Hs) ops.size ops.size 0 (by omega)
  have hc : ∀ b k L, cont Hs ops.size t b = some k → σ0 b = some L → (Hs 0).blocks.get b = some k := by
    intro b k L hb hs
    by_cases h0 : b < (Hs 0).next
    · rw [cont_low (Nat.lt_of_lt_of_le h0 (hmono 0 t (by omega) q2)), same_range hu tr tf h0 (by omega) q2 (fun j g1 g2 hj => absurd hj (q4 j g1 g2))] at hb
      exact hb
    · by_cases hn : b < (Hs ops.size).next
      · rw [hfree0 b (by omega) hn] at hs; cases hs
      · rw [cont_none hmono (by omega) (ops.size - t) t (by omega)] at hb; cases hb
  refine ⟨t, ?_⟩
  refine { tle := q2, a1 := fun j g1 g2 => q4 j (by omega) g1 g2, a2 := fun _ _ _ h => h, a3 := q3, down := fun _ _ h _ => h, slt := fun _ h => h.elim,
           objs := fun b k L hb hs => hr.objs b k L (hc b k L hb hs) hs, sep := fun b₁ b₂ k₁ k₂ L₁ L₂ h1 h2 ho s1 s2 hne => hr.sep b₁ b₂ k₁ k₂ L₁ L₂ (hc _ _ _ h1 s1) (hc _ _ _ h2 s2) ho s1 s2 hne, glob := hr.glob,
           free := fun j hj _ b g1 g2 => hfree0 b (Nat.le_trans (hmono 0 j (by omega) (by omega)) g1) (Nat.lt_of_lt_of_le g2 (hmono (j + 1) ops.size (by omega) (Nat.le_refl _))), ext := fun _ _ => rfl, tsz := hfr.1,
           slots := ?_, size := Nat.le_refl _, tape := rfl, os := rfl, output := rfl, frame := fun _ _ _ => rfl,
           origin := fun b k L hb ho hs => .inr ⟨b, k, L, hc b k L hb hs, ho, hs, rfl, rfl⟩ }
  intro j x v hj hl hv
  rcases hl.1 with rfl | ⟨m, _, hm, _⟩
  · exact hfr.2 x v hv
  · exact hm.elim
theorem Inv.finish (hu : UpIh ih) (tr : Trace E ih ts ops frs Hs) (tf : TF E ih ts ops frs Hs) (hall : ∀ j, j < ops.size → S j) (inv : Inv E ih ts ops frs Hs σ0 w0 t S σ w tmps)
    {σh : Sig} {wh : World} (sh : Step E σ0 (Hs 0) w0 σh (Hs ops.size) wh) : Step E σ0 (Hs 0) w0 σ (Hs ops.size) w ∧ FrR σ (frs ops.size) tmps := by
  have ht : t = ops.size := by
    rcases inv.a3 with h | h
    · exact h
    · exact absurd (hall t (bar_lt h)) (inv.a2 t (Nat.le_refl _) h)
  subst ht
  have hwf := tf.wf ops.size (Nat.le_refl _)
  have hc : ∀ b k, (Hs ops.size).blocks.get b = some k → cont Hs ops.size ops.size b = some k := by
    intro b k hb
    rw [cont_low (hwf b k hb).2]; exact hb
  refine ⟨{ hr := ⟨fun b k L hb => inv.objs b k L (hc b k hb), fun b₁ b₂ k₁ k₂ L₁ L₂ h1 h2 => inv.sep b₁ b₂ k₁ k₂ L₁ L₂ (hc _ _ h1) (hc _ _ h2), inv.glob, hwf⟩,
            next := sh.next, ext := inv.ext, size := inv.size, low := sh.low, tape := inv.tape, os := inv.os, output := inv.output, frame := inv.frame,
            origin := fun b k L hb => inv.origin b k L (hc b k hb), old := sh.old, keep := sh.keep, born := sh.born }, ?_, ?_⟩
  · rw [inv.tsz, tr.sz (Nat.le_refl _)]
  · intro x v hv
    obtain ⟨j, h1, h2, h3, h4⟩ := last_writer tr x ops.size (Nat.le_refl _)
    refine inv.slots j x v h1 ⟨?_, fun m hm hw => h3 m (mem_lt hw) hw⟩ (by rw [h4]; exact hv)
    rcases h2 with h2 | ⟨p, rfl, hp⟩
    · exact .inl h2
    · exact .inr ⟨p, rfl, hall p (mem_lt hp), hp⟩
theorem run_order (he : EOk E) (hc : ∀ f args H v H', ih (.call f args) H = some (.val v, H') → CallOK E f args H v H')
    (hro : ∀ l args H v H', ih (.round l args) H = some (.val v, H') → RoundOK E l args H v H') (hu : UpIh ih) (hreg : regOk ops.toList = true)
    (tr : Trace E ih ts ops frs Hs) (tf : TF E ih ts ops frs Hs) (hfree0 : Free σ0 (Hs 0).next (Hs ops.size).next) (b : Frame) (ds : List Deferred) (k : List Item) (cs : List Frame) :
    ∀ (fuel q : Nat) (listed : Array Bool) (t : Nat) (σ : Sig) (w : World) (tmps : Array Value), listed.size = ops.size → cnt listed ops.size ≤ fuel →
      Inv E ih ts ops frs Hs σ0 w0 t (fun j => listed.getD j false = true) σ w tmps →
      ∃ t' S' σ' w' tmps', (∀ j, j < ops.size → S' j) ∧ Inv E ih ts ops frs Hs σ0 w0 t' S' σ' w' tmps' ∧
        Steps E.prog (lone (Fm b tmps ds (.inRegion ops (Region.linearise.go .any ops fuel q listed []) :: k)) cs w) (lone (Fm b tmps' ds (.inRegion ops [] :: k)) cs w') := by
  intro fuel
  induction fuel with
  | zero =>
    intro q listed t σ w tmps hsz hcnt inv
    exact ⟨t, _, σ, w, tmps, fun j hj => cnt_zero listed ops.size (by omega) j hj, inv, Steps.refl _ _⟩
  | succ fuel IH =>
    intro q listed t σ w tmps hsz hcnt inv
    simp only [Region.linearise.go]
    have hrs : ((List.range ops.size).filter fun i => !listed.getD i true && ((ops[i]?).map (·.after.all fun e => !Region.binds .any e || listed.getD e.on false)).getD false) = Region.ready .any ops listed := rfl
    rw [hrs]
    split
    · rename_i i hi
      rw [linearise_go_acc]
      have hmem : i ∈ Region.ready .any ops listed := List.mem_of_getElem? hi
      rw [mem_ready] at hmem
      obtain ⟨hnl, o, ho, hpre⟩ := hmem
      have hilt : i < ops.size := (Array.getElem?_eq_some_iff.1 ho).1
      have hnl' : listed.getD i false = false := by
        have : i < listed.size := by omega
        simp [Array.getD, this] at hnl ⊢; exact hnl
      have hnS : ¬ (listed.getD i false = true) := by rw [hnl']; simp
      have ho' : ops.toList[i]? = some o := by simpa using ho
      have hready : ∀ a, Anc ops.toList a i → listed.getD a false = true := by
        intro a ha
        cases ha with
        | edge h hp =>
          rw [ho'] at h; cases h
          obtain ⟨e, h1, h2, h3⟩ := preds_binds hp
          rw [← h2]; exact hpre e h1 h3
        | trans h hp ha =>
          rw [ho'] at h; cases h
          obtain ⟨e, h1, h2, h3⟩ := preds_binds hp
          have := hpre e h1 h3
          rw [h2] at this
          exact inv.down _ a this ha
      have hSeq : (fun j => listed.getD j false = true ∨ j = i) = fun j => (listed.setIfInBounds i true).getD j false = true := by
        funext j
        rw [getD_set listed (by omega)]
        by_cases e : j = i
        · simp [e]
        · simp [e]
      have hcnt' : cnt (listed.setIfInBounds i true) ops.size ≤ fuel := by
        have := cnt_set listed (i := i) (by omega) hnl' ops.size
        rw [if_pos hilt] at this; omega
      have hslot : ∀ x ∈ namesOf ops.toList o, ∀ v, (frs i).t.get x = some v → VR σ v (tmps.getD x undef) := by
        intro x hx v hv
        obtain ⟨j, h1, h2, h3⟩ := slot_named hreg tr inv.down inv.slt ho hnS hready hx
        exact inv.slots j x v (by omega) h2 (by rw [h3]; exact hv)
      have hguard : ∀ j want, o.guard = some (j, want) → ∀ d, ((ops[j]?).bind (·.dst)) = some d → ∀ v, (frs i).t.get d = some v → VR σ v (tmps.getD d undef) := by
        intro j want hg d hd v hv
        refine hslot d ?_ v hv
        unfold namesOf
        rw [hg]
        simp [hd]
      have fin : ∀ (t1 : Nat) (σ1 : Sig) (w1 : World) (tmps1 : Array Value), Inv E ih ts ops frs Hs σ0 w0 t1 (fun j => listed.getD j false = true ∨ j = i) σ1 w1 tmps1 →
          Steps E.prog (lone (Fm b tmps ds (.inRegion ops (i :: Region.linearise.go .any ops fuel (q / (Region.ready .any ops listed).length) (listed.setIfInBounds i true) []) :: k)) cs w)
            (lone (Fm b tmps1 ds (.inRegion ops (Region.linearise.go .any ops fuel (q / (Region.ready .any ops listed).length) (listed.setIfInBounds i true) []) :: k)) cs w1) →
          ∃ t' S' σ' w' tmps', (∀ j, j < ops.size → S' j) ∧ Inv E ih ts ops frs Hs σ0 w0 t' S' σ' w' tmps' ∧
            Steps E.prog (lone (Fm b tmps ds (.inRegion ops (i :: Region.linearise.go .any ops fuel (q / (Region.ready .any ops listed).length) (listed.setIfInBounds i true) []) :: k)) cs w)
              (lone (Fm b tmps' ds (.inRegion ops [] :: k)) cs w') := by
        intro t1 σ1 w1 tmps1 inv1 hst
        rw [hSeq] at inv1
        obtain ⟨t', S', σ', w', tmps', g1, g2, g3⟩ := IH (q / (Region.ready .any ops listed).length) (listed.setIfInBounds i true) t1 σ1 w1 tmps1 (by simp [hsz]) hcnt' inv1
        exact ⟨t', S', σ', w', tmps', g1, g2, hst.trans g3⟩
      show ∃ t' S' σ' w' tmps', _ ∧ _ ∧ Steps E.prog (lone (Fm b tmps ds (.inRegion ops ([i].reverse ++ _) :: k)) cs w) _
      simp only [List.reverse_cons, List.reverse_nil, List.nil_append, List.cons_append]
      obtain ⟨o2, ho2, hx⟩ := tr.step i hilt
      rw [ho] at ho2; cases ho2
      rcases hx with hx | ⟨v, Q, hx, hpure⟩
      · refine fin t σ w (putC tmps o.dst undef) (inv.skip hreg tr hnS hilt hready ho hx) (.one (fm_op_skip ho ?_))
        exact wanted_rel hx.1 hguard
      · have hwt := wanted_rel (tmps := tmps) hx.1 hguard
        have hevv : (∃ w' : World, HR E σ ⟨.leaf, 0, 0⟩ w') → ∀ x ∈ o.op.operands.toList, ∀ v, ev E (frs i) x = some v → VR σ v (Act.eval ⟨tmps, []⟩ x) := fun hex => by
          obtain ⟨w1, hview⟩ := hex
          exact fun x hxo v hv => by
            cases x with
            | tmp d =>
              refine hslot d ?_ v hv
              unfold namesOf tmpsOf
              simp only [List.mem_append, List.mem_filterMap]
              exact .inl (.inr ⟨.tmp d, hxo, rfl⟩)
            | const c =>
              simp only [ev] at hv
              cases hcf : flatV c with
              | true => rw [hcf, cond_true] at hv; cases hv; exact flat_refl _ _ hcf
              | false => rw [hcf, cond_false] at hv; cases hv
            | global g =>
              exact ev_run (a := ⟨tmps, []⟩) (fr := ⟨tmps.size, false, .leaf⟩) he hview ⟨rfl, fun t v h => by simp [T.get] at h⟩ (x := .global g) (by simpa [ev] using hv)
            | func f =>
              exact ev_run (a := ⟨tmps, []⟩) (fr := ⟨tmps.size, false, .leaf⟩) he hview ⟨rfl, fun t v h => by simp [T.get] at h⟩ (x := .func f) (by simpa [ev] using hv)
        have h0 : HR E σ ⟨.leaf, 0, 0⟩ w := ⟨fun b k L hb => by simp [T.get] at hb, fun b₁ b₂ k₁ k₂ L₁ L₂ hb => by simp [T.get] at hb, inv.glob, fun b k hb => by simp [T.get] at hb⟩
        cases hbl : blindAt ops.toList i with
        | true =>
          have hbo : blindOp o.op = true := by simpa [blindAt, ho'] using hbl
          obtain ⟨_, v', r1, r2⟩ := blind_run (w := w) he hbo hx.2.1 (hevv ⟨w, h0⟩)
          have hd : ∀ c, o.op ≠ .defer c := by
            intro c e
            rw [e] at hbo; cases hbo
          refine fin t σ w (putC tmps o.dst v') (inv.blind hreg tr tf hnS hilt hready ho hbl hx.2.2.2 r2) (.one (step_lone_go ?_))
          rw [fm_op ho hwt hd, ← fm_finish ho]
          simp [stepG.apply, r1]
        | false =>
          have hview := inv.view hu tr tf hnS hilt hready hbl
          have eQ : Q.next = (Hs (i + 1)).next := by rw [hx.2.2.1]; rfl
          obtain ⟨σ', w', v', g1, g2, g3⟩ := exec_sim he hc hro (fun f args H v H' h => hu _ _ _ _ h) (fun f args H v H' h => hu _ _ _ _ h) (ops := ops) (i := i) (tmps := tmps) hx.2.1 hview
            (fun c q1 q2 => inv.free i hilt hnS c q1 (by omega))
            (fun x hxo v hv => by
              cases x with
              | tmp d =>
                refine hslot d ?_ v hv
                unfold namesOf tmpsOf
                simp only [List.mem_append, List.mem_filterMap]
                exact .inl (.inr ⟨.tmp d, hxo, rfl⟩)
              | const c =>
                simp only [ev] at hv
                cases hcf : flatV c with
                | true => rw [hcf, cond_true] at hv; cases hv; exact flat_refl _ _ hcf
                | false => rw [hcf, cond_false] at hv; cases hv
              | global g =>
                exact ev_run (a := ⟨tmps, []⟩) (fr := ⟨tmps.size, false, .leaf⟩) he hview ⟨rfl, fun t v h => by simp [T.get] at h⟩ (x := .global g) (by simpa [ev] using hv)
              | func f =>
                exact ev_run (a := ⟨tmps, []⟩) (fr := ⟨tmps.size, false, .leaf⟩) he hview ⟨rfl, fun t v h => by simp [T.get] at h⟩ (x := .func f) (by simpa [ev] using hv))
            ho hwt b ds (Region.linearise.go .any ops fuel (q / (Region.ready .any ops listed).length) (listed.setIfInBounds i true) []) k cs
          by_cases hp : (Hs i).next ≤ Q.low
          · exact fin t σ' w' _ (inv.pure hreg hu tr tf hfree0 hnS hilt hready hbl ho hx hp hpure.2 g2 g1) g3
          · obtain ⟨t1, inv1⟩ := inv.bar hreg hu tr tf hnS hilt hready hbl ho hx hp g2 g1
            exact fin t1 σ' w' _ inv1 g3
    · rename_i hnone
      refine ⟨t, _, σ, w, tmps, ?_, inv, Steps.refl _ _⟩
      have hempty : Region.ready .any ops listed = [] := by
        cases hr : Region.ready .any ops listed with
        | nil => rfl
        | cons x l =>
          rw [hr] at hnone
          have hlt : q % (x :: l).length < (x :: l).length := Nat.mod_lt _ (by simp)
          rw [List.getElem?_eq_getElem hlt] at hnone
          cases hnone
      intro j
      induction j using Nat.strongRecOn with
      | _ j IHj =>
        intro hj
        cases hl : listed.getD j false with
        | true => rfl
        | false =>
          exfalso
          have hm : j ∈ Region.ready .any ops listed := by
            rw [mem_ready]
            have hjl : j < listed.size := by omega
            refine ⟨by simp [Array.getD, hjl] at hl ⊢; exact hl, ops[j], by simp [hj], fun e he hb => ?_⟩
            have hpred : e.on ∈ preds ops[j] := by
              unfold preds
              simp only [List.mem_filterMap]
              refine ⟨e, by simpa using he, ?_⟩
              unfold Region.binds at hb
              split at hb
              · simp at hb
              · simp at hb
              · rename_i h1 h2
                split
                · rename_i r hg; exact absurd hg (h1 r)
                · rename_i r hg; exact absurd hg (h2 r)
                · rfl
            have hlt := regOk_down hreg (i := j) (by simp [hj]) hpred
            exact IHj e.on hlt (by omega)
          rw [hempty] at hm
          simp at hm
end
end Go.Am
namespace Go.Am
open Go
section
variable {E : Env} {ih : Cmd → AH → Res} {σ σ' : Sig} {H H' : AH} {w w' : World}
theorem putA_rd {fr fr' : Fr} {d : Option Tmp} {v : Value} (h : putA fr d v = some fr') : fr'.rd = fr.rd := by
  unfold putA at h
  cases d with
  | none => rw [← Option.some.inj h]
  | some d =>
    simp only [bif_ble] at h
    split at h
    case isFalse => cases h
    rw [← Option.some.inj h]
theorem runOps_rd {all : Array Oper} {draw : Bool} {ts : List (Nat × Nat)} : ∀ {os : List Oper} {i : Nat} {fr fr' : Fr} {H H' : AH}, runOps E ih all draw ts os i fr H = some (fr', H') → fr'.rd = fr.rd
  | [], i, fr, fr', H, H', h => by simp [runOps] at h; rw [h.1]
  | o :: os, i, fr, fr', H, H', h => by
    simp only [runOps] at h
    split at h
    · cases h
    · split at h
      · rename_i hp; rw [runOps_rd h, putA_rd hp]
      · cases h
    · split at h
      · cases h
      · split at h
        · cases h
        · rename_i hp; rw [runOps_rd h, putA_rd hp]
theorem run_text (he : EOk E) (hc : ∀ f args H v H', ih (.call f args) H = some (.val v, H') → CallOK E f args H v H')
    (hro : ∀ l args H v H', ih (.round l args) H = some (.val v, H') → RoundOK E l args H v H') (hu : UpIh ih) {ops : Array Oper} {ts : List (Nat × Nat)} (b : Frame) (ds : List Deferred) (k : List Item) (cs : List Frame) (hk : NoRec b cs) :
    ∀ (os tl : List Oper) (rest : List Nat) (i : Nat) (fr fr' : Fr) (H H' : AH) (σ : Sig) (w : World) (tmps : Array Value), ops.toList.drop i = os ++ tl → runOps E ih ops false ts os i fr H = some (fr', H') → HR E σ H w → FrR σ fr tmps → Free σ H.next H'.next → (fr.rd = false → b.roundOf = none) →
      ∃ σ' w' tmps', Step E σ H w σ' H' w' ∧ FrR σ' fr' tmps' ∧
        Steps E.prog (lone (Fm b tmps ds (.inRegion ops (List.range' i os.length ++ rest) :: k)) cs w) (lone (Fm b tmps' ds (.inRegion ops rest :: k)) cs w')
  | [], tl, rest, i, fr, fr', H, H', σ, w, tmps, hd, h, hr, hf, hfree, hrd => by
    simp [runOps] at h
    obtain ⟨rfl, rfl⟩ := h
    exact ⟨σ, w, tmps, Step.refl hr, hf, Steps.refl _ _⟩
  | o :: os, tl, rest, i, fr, fr', H, H', σ, w, tmps, hd, h, hr, hf, hfree, hrd => by
    have ho : ops[i]? = some o := by
      have := congrArg (·[0]?) hd
      simpa using this
    have hd' : ops.toList.drop (i + 1) = os ++ tl := by
      have := congrArg (List.drop 1) hd
      rw [List.drop_drop] at this
      simpa using this
    have hrange : List.range' i (o :: os).length ++ rest = i :: (List.range' (i + 1) os.length ++ rest) := by simp [List.range'_succ]
    rw [hrange]
    simp only [runOps] at h
    split at h
    · cases h
    · rename_i hw
      split at h
      · rename_i fr1 hp
        obtain ⟨σ', w', tmps', g1, g2, g3⟩ := run_text he hc hro hu b ds k cs hk os tl rest (i + 1) fr1 fr' H H' σ w (putC tmps o.dst undef) hd' h hr (put_rel hf hp (.tuple .nil)) hfree (by rw [putA_rd hp]; exact hrd)
        exact ⟨σ', w', tmps', g1, g2, .head (fm_op_skip ho (wanted_rel hw (fun j want _ d _ v hv => hf.2 d v hv))) g3⟩
      · cases h
    · rename_i hw
      simp only [cond_false] at h
      split at h
      · cases h
      · rename_i v H1 h1
        split at h
        · cases h
        · rename_i fr1 hp
          have hle1 := execR_up hu h1
          have hle2 := runOps_up hu h
          have hfree1 : Free σ H.next H1.next := fun c q1 q2 => hfree c q1 (by omega)
          obtain ⟨σ1, w1, v', g1, g2, g3⟩ := execR_sim he hc hro (fun f args H v H' h => hu _ _ _ _ h) (fun f args H v H' h => hu _ _ _ _ h) (ops := ops) (i := i) (tmps := tmps) h1 hr hfree1
            (fun x _ v hv => ev_run (a := ⟨tmps, []⟩) he hr hf hv) ho (wanted_rel hw (fun j want _ d _ v hv => hf.2 d v hv)) b ds (List.range' (i + 1) os.length ++ rest) k cs hk hrd
          obtain ⟨σ2, w2, tmps2, k1, k2, k3⟩ := run_text he hc hro hu b ds k cs hk os tl rest (i + 1) fr1 fr' H1 H' σ1 w1 (putC tmps o.dst v') hd' h g2.hr (put_rel (hf.mono (g2.le hfree1)) hp g1) (hfree.split g2.ext g2.next) (by rw [putA_rd hp]; exact hrd)
          exact ⟨σ2, w2, tmps2, g2.trans k1, k2, g3.trans k3⟩
theorem region_sim (he : EOk E) (hc : ∀ f args H v H', ih (.call f args) H = some (.val v, H') → CallOK E f args H v H')
    (hro : ∀ l args H v H', ih (.round l args) H = some (.val v, H') → RoundOK E l args H v H') (hu : UpIh ih) {ops : Array Oper} {draw : Bool} {id : Nat} (hreg : draw = true → regOk ops.toList = true)
    (b : Frame) (ds : List Deferred) (k : List Item) (cs : List Frame) (hk : NoRec b cs) {fr fr' : Fr} {tmps : Array Value} (hrd : fr.rd = false → b.roundOf = none)
    {ts : List (Nat × Nat)} (h : runOps E ih ops draw ts ops.toList 0 fr H = some (fr', H')) (hr : HR E σ H w) (hf : FrR σ fr tmps) (hfree : Free σ H.next H'.next) :
    ∃ σ' w' tmps', Step E σ H w σ' H' w' ∧ FrR σ' fr' tmps' ∧ Steps E.prog (lone (Fm b tmps ds (.code (.region id ops draw) :: k)) cs w) (lone (Fm b tmps' ds k) cs w') := by
  cases draw with
  | false =>
    obtain ⟨σ', w', tmps', g1, g2, g3⟩ := run_text he hc hro hu b ds k cs hk ops.toList [] [] 0 fr fr' H H' σ w tmps (by simp) h hr hf hfree hrd
    refine ⟨σ', w', tmps', g1, g2, .head fm_region ?_⟩
    have : List.range ops.size = List.range' 0 ops.toList.length ++ [] := by rw [List.range_eq_range']; simp
    rw [this]
    exact g3.trans (.one fm_region_end)
  | true =>
    have hreg := hreg rfl
    obtain ⟨frs, Hs, e1, e2, e3, e4, e5⟩ := trace_of E ih _ ops ops.toList 0 fr fr' H H' (by simp) (Nat.zero_le _) h
    have tr : Trace E ih ts ops frs Hs := ⟨fun i hi => e5 i (Nat.zero_le _) hi⟩
    have sd := Step.drew (n := w.drawn + 1) hr
    have hrw := sd.hr
    rw [← e2] at hrw hfree
    rw [← e1] at hf
    rw [← e4] at hfree
    obtain ⟨tf, σh, wh, sh⟩ := trace_facts hu tr he hc hro hrw hf hfree b
    obtain ⟨t0, inv0⟩ := Inv.start hu tr tf hrw hf hfree
    have hS0 : (fun _ : Nat => False) = fun j => (Array.replicate ops.size false).getD j false = true := by
      funext j
      simp only [eq_iff_iff, false_iff]
      by_cases hj : j < ops.size <;> simp [Array.getD, hj]
    rw [hS0] at inv0
    obtain ⟨t', S', σ', w', tmps', g1, g2, g3⟩ := run_order he hc hro hu hreg tr tf hfree b ds k cs ops.size (w.tape w.drawn (.order b.fn id)) (Array.replicate ops.size false) t0 σ _ tmps (by simp) (cnt_le _ _) inv0
    obtain ⟨k1, k2⟩ := Inv.finish hu tr tf g1 g2 sh
    rw [e2, e4] at k1
    rw [e3] at k2
    refine ⟨σ', w', tmps', sd.trans k1, k2, .head fm_region_draw ?_⟩
    have hsch : Region.schedule (E.prog.follows .mixedOrders) ops (w.tape w.drawn (.order b.fn id)) = Region.linearise.go .any ops ops.size (w.tape w.drawn (.order b.fn id)) (Array.replicate ops.size false) [] := by
      simp only [Region.schedule, he.mixed, Bool.true_or, if_true]
      rfl
    rw [hsch]
    exact g3.trans (.one fm_region_end)
def MarkOK (E : Env) (n0 : Nat) (σ : Sig) (H : AH) (w : World) (r : Nat) : Prop :=
  n0 ≤ r ∧ w.heap[r]? = some (.deferred (some [])) ∧ ∀ b k L, H.blocks.get b = some k → σ b = some L → L.blk ≠ r
def markOf (r : Nat) : Deferred := { target := .collected r, args := #[] }
def DSOK (E : Env) (n0 : Nat) (B0 : List Deferred) (σ : Sig) (H : AH) (w : World) (ds : List Deferred) : Prop :=
  ∃ rs : List Nat, ds = rs.map markOf ++ B0 ∧ rs.Nodup ∧ ∀ r ∈ rs, MarkOK E n0 σ H w r
theorem MarkOK.step {n0 r : Nat} (hr : HR E σ H w) (h : MarkOK E n0 σ H w r) (st : Step E σ H w σ' H' w') : MarkOK E n0 σ' H' w' r := by
  obtain ⟨h1, h2, h3⟩ := h
  have hlt := (Array.getElem?_eq_some_iff.1 h2).1
  refine ⟨h1, by rw [st.frame r hlt fun b k L hb _ hs _ => h3 b k L hb hs]; exact h2, fun b k L hb hs => ?_⟩
  by_cases hlo : b < H.next
  · obtain ⟨k0, g1, _, _⟩ := st.old b k hb hlo
    rw [st.ext b (.inl hlo)] at hs
    exact h3 b k0 L g1 hs
  · have hown := (st.born b k hb (Nat.le_of_not_lt hlo)).2
    rcases st.origin b k L hb hown hs with g | ⟨b0, k0, L0, g1, g2, g3, g4, _⟩
    · omega
    · rw [← g4]; exact h3 b0 k0 L0 g1 g3
theorem DSOK.step {n0 : Nat} {B0 ds : List Deferred} (hr : HR E σ H w) (h : DSOK E n0 B0 σ H w ds) (st : Step E σ H w σ' H' w') : DSOK E n0 B0 σ' H' w' ds := by
  obtain ⟨rs, h1, h2, h3⟩ := h
  exact ⟨rs, h1, h2, fun r hm => (h3 r hm).step hr st⟩
theorem Step.junk (hr : HR E σ H w) (o : Obj) : Step E σ H w σ H (World.push w o) := by
  have s := Step.refl hr
  have hg : ∀ B, B < w.heap.size → (World.push w o).heap[B]? = w.heap[B]? := fun B hB => by rw [push_get, if_neg (Nat.ne_of_lt hB)]
  exact { hr := ⟨fun b k L hb hs => by
            obtain ⟨x, h1, h2⟩ := hr.objs b k L hb hs
            exact ⟨x, by rw [hg _ (hr.lt hb hs)]; exact h1, h2⟩, hr.sep, hr.glob, hr.wf⟩,
          next := s.next, ext := s.ext, size := by simp [World.push], low := s.low, tape := rfl, os := rfl, output := rfl, frame := fun B hB _ => hg B hB,
          origin := s.origin, old := s.old, keep := s.keep, born := s.born }
theorem Step.beside (s : Step E σ H w σ' H' w') {w2 : World} (hs : w2.heap.size = w'.heap.size) (ht : w2.tape = w'.tape) (hos : w2.os = w'.os) (hout : w2.output = w'.output)
    (hB : ∀ B, B < w.heap.size → w2.heap[B]? = w'.heap[B]?) (hL : ∀ b k L, H'.blocks.get b = some k → σ' b = some L → w2.heap[L.blk]? = w'.heap[L.blk]?) : Step E σ H w σ' H' w2 :=
  { hr := ⟨fun b k L hb hs => by
      obtain ⟨x, h1, h2⟩ := s.hr.objs b k L hb hs
      exact ⟨x, by rw [hL b k L hb hs]; exact h1, h2⟩, s.hr.sep, s.hr.glob, s.hr.wf⟩,
    next := s.next, ext := s.ext, size := by rw [hs]; exact s.size, low := s.low, tape := ht.trans s.tape, os := hos.trans s.os, output := hout.trans s.output,
    frame := fun B h1 h2 => by rw [hB B h1]; exact s.frame B h1 h2, origin := s.origin, old := s.old, keep := s.keep, born := s.born }
end
end Go.Am
namespace Go.Am
open Go
def Reach (P : Program) (e : AExit) (m : Machine) (b : Frame) (tmps : Array Value) (ds : List Deferred) (k : List Item) (cs : List Frame) (w : World) : Prop :=
  match e with
  | .normal => Steps P m (lone (Fm b tmps ds k) cs w)
  | .exit id => (∀ k', exitTo id k = some k' → Steps P m (lone (Fm b tmps ds k') cs w)) ∧
      (exitTo id k = none → ∃ k2, exitTo id k2 = none ∧ Steps P m (lone (Fm b tmps ds (.code (.exit id) :: k2)) cs w))
  | .ret => ∃ k2, Steps P m (lone (Fm b tmps ds (.code .ret :: k2)) cs w)
theorem Reach.head {P : Program} {e : AExit} {m m' : Machine} {b : Frame} {tmps : Array Value} {ds : List Deferred} {k : List Item} {cs : List Frame} {w : World} (h : Steps P m m')
    (hr : Reach P e m' b tmps ds k cs w) : Reach P e m b tmps ds k cs w := by
  cases e with
  | normal => exact h.trans hr
  | exit id => exact ⟨fun k' hk => h.trans (hr.1 k' hk), fun hn => let ⟨k2, g1, g2⟩ := hr.2 hn; ⟨k2, g1, h.trans g2⟩⟩
  | ret => obtain ⟨k2, g⟩ := hr; exact ⟨k2, h.trans g⟩
def lay (c : Code) (k : List Item) : List Item := match c with
  | .loop b => .code b :: .inLoop b :: k
  | c => .code c :: k
theorem lay_steps (P : Program) (c : Code) (b : Frame) (tmps : Array Value) (ds : List Deferred) (k : List Item) (cs : List Frame) (w : World) :
    Steps P (lone (Fm b tmps ds (.code c :: k)) cs w) (lone (Fm b tmps ds (lay c k)) cs w) := by
  cases c <;> first | exact Steps.refl _ _ | exact .one fm_loop
def CodeOK (E : Env) (c : Code) (fr : Fr) (H : AH) (e : AExit) (fr' : Fr) (H' : AH) : Prop :=
  regsOk c = true → ∀ (σ : Sig) (w : World) (tmps : Array Value) (n0 : Nat) (B0 : List Deferred), HR E σ H w → FrR σ fr tmps → Free σ H.next H'.next → n0 ≤ w.heap.size →
    ∀ (b : Frame) (ds : List Deferred) (k : List Item) (cs : List Frame), NoRec b cs → (fr.rd = false → b.roundOf = none) → DSOK E n0 B0 σ H w ds →
    ∃ σ' w' tmps' ds', Step E σ H w σ' H' w' ∧ FrR σ' fr' tmps' ∧ fr'.rd = fr.rd ∧ DSOK E n0 B0 σ' H' w' ds' ∧
      Reach E.prog e (lone (Fm b tmps ds (lay c k)) cs w) b tmps' ds' k cs w'
structure IhOK (E : Env) (ih : Cmd → AH → Res) : Prop where
  up : UpIh ih
  call : ∀ f args H v H', ih (.call f args) H = some (.val v, H') → CallOK E f args H v H'
  round : ∀ l args H v H', ih (.round l args) H = some (.val v, H') → RoundOK E l args H v H'
  code : ∀ c fr H e fr' H', ih (.code c fr) H = some (.ex e fr', H') → CodeOK E c fr H e fr' H'
  codev : ∀ c fr H v H', ih (.code c fr) H ≠ some (.val v, H')
section
variable {E : Env} {ih : Cmd → AH → Res} {σ σ' : Sig} {H H' : AH} {w w' : World}
theorem Reach.weaken {P : Program} {e : AExit} {m : Machine} {b : Frame} {tmps : Array Value} {ds : List Deferred} {k : List Item} {x : Item} {cs : List Frame} {w : World}
    (hx : ∀ id, exitTo id (x :: k) = exitTo id k) (he : e ≠ .normal) (h : Reach P e m b tmps ds (x :: k) cs w) : Reach P e m b tmps ds k cs w := by
  cases e with
  | normal => exact absurd rfl he
  | exit id =>
    refine ⟨fun k' hk => h.1 k' (by rw [hx]; exact hk), fun hn => h.2 (by rw [hx]; exact hn)⟩
  | ret => exact h
theorem CodeOK.lay {c : Code} {fr fr' : Fr} {e : AExit} (h : CodeOK E c fr H e fr' H') (hreg : regsOk c = true) (tmps : Array Value) (n0 : Nat) (B0 : List Deferred) (hr : HR E σ H w) (hf : FrR σ fr tmps)
    (hfree : Free σ H.next H'.next) (hn : n0 ≤ w.heap.size) (b : Frame) (ds : List Deferred) (k : List Item) (cs : List Frame) (hk : NoRec b cs) (hrd : fr.rd = false → b.roundOf = none) (hds : DSOK E n0 B0 σ H w ds) :
    ∃ σ' w' tmps' ds', Step E σ H w σ' H' w' ∧ FrR σ' fr' tmps' ∧ fr'.rd = fr.rd ∧ DSOK E n0 B0 σ' H' w' ds' ∧
      Reach E.prog e (lone (Fm b tmps ds (.code c :: k)) cs w) b tmps' ds' k cs w' := by
  obtain ⟨σ', w', tmps', ds', g1, g2, g3, g4, g5⟩ := h hreg σ w tmps n0 B0 hr hf hfree hn b ds k cs hk hrd hds
  exact ⟨σ', w', tmps', ds', g1, g2, g3, g4, .head (lay_steps _ _ _ _ _ _ _ _) g5⟩
theorem fm_endRange {P : Program} {b : Frame} {tmps : Array Value} {ds : List Deferred} {k : List Item} {cs : List Frame} {l : Nat} {lo : Loop} (hw : w.heap[l]? = some (.loop lo)) (hb : lo.state ≠ .busy) :
    step P (lone (Fm b tmps ds (.endRangeFunc l :: k)) cs w) =
      .next (lone (Fm b tmps ds ((lo.pending.map Item.code).toList ++ k)) cs { w with heap := w.heap.setIfInBounds l (.loop { lo with state := .exhausted }) }) := by
  have hbb : (lo.state == LoopState.busy) = false := by
    cases hs : lo.state <;> simp_all
  have hrun : (Instr.endLoop l).run P w = .ok lo.pending { w with heap := w.heap.setIfInBounds l (.loop { lo with state := .exhausted }) } := by
    simp only [Instr.endLoop, Instr.getLoop, Sem.run_bind, run_getObj' P hw (by simp), Result.andThen_ok, Sem.run_pure, hbb, Bool.false_eq_true, if_false, run_setObj' P hw (by simp)]
  exact step_lone_go (by simp [stepG, stepG.exec, Fm, hrun])
theorem range_ok (he : EOk E) (io : IhOK E ih) {fr : Fr} {f : Operand} {params : Array Tmp} {assign body : Code} {out : Out} (h : rangeA E ih fr f params.toList assign body H = some (out, H')) :
    ∃ e fr', out = .ex e fr' ∧ CodeOK E (.rangeFunc f params assign body) fr H e fr' H' := by
  unfold rangeA at h
  split at h
  case h_2 => cases h
  rename_i g first cap hrd hev
  split at h
  case h_2 => cases h
  rename_i fn v0 H2 hfn hcall
  split at h
  case h_2 => cases h
  rename_i st pend t ps a bd rt hl
  split at h
  case isTrue => cases h
  rename_i hst
  have hup1 := io.up _ _ _ _ hcall
  have hup1' : H.next + 1 ≤ H2.next := hup1
  have main : regsOk (.rangeFunc f params assign body) = true → ∀ (σ : Sig) (w : World) (tmps : Array Value) (n0 : Nat) (B0 : List Deferred), HR E σ H w → FrR σ fr tmps → Free σ H.next H2.next → n0 ≤ w.heap.size →
      ∀ (b : Frame) (ds : List Deferred) (k : List Item) (cs : List Frame), NoRec b cs → b.roundOf = none → DSOK E n0 B0 σ H w ds →
      ∃ σ' w' ds', Step E σ H w σ' (H2.write H.next ⟨.loop st pend t ps a bd, rt, true⟩ (.loop .exhausted pend t ps a bd)) w' ∧ FrR σ' fr tmps ∧ DSOK E n0 B0 σ' (H2.write H.next ⟨.loop st pend t ps a bd, rt, true⟩ (.loop .exhausted pend t ps a bd)) w' ds' ∧
        (∀ c, pend = some c → c = .ret ∨ ∃ id, c = .exit id) ∧
        Steps E.prog (lone (Fm b tmps ds (.code (.rangeFunc f params assign body) :: k)) cs w) (lone (Fm b tmps ds' ((pend.map Item.code).toList ++ k)) cs w') := by
    intro hreg σ w tmps n0 B0 hr hf hfree hn0 b ds k cs hk hro hds
    simp only [regsOk, Bool.and_eq_true] at hreg
    have hfv := ev_run (a := ⟨tmps, []⟩) he hr hf hev
    generalize hx : Act.eval ⟨tmps, []⟩ f = fv at hfv
    cases hfv with
    | leaf h0 => simp [leafV] at h0
    | func h0 hf1 hc1 =>
      rename_i f0 c0 f1 c1
      let wD := World.push w (.deferred (some []))
      have sD : Step E σ H w σ H wD := Step.junk hr _
      have hfree0 : σ H.next = none := hfree H.next (Nat.le_refl _) (by omega)
      let lo : Loop := { state := .ready, pending := none, fn := b.fn, tmps := tmps, params := params, assign := assign, body := body, defers := w.heap.size }
      let L : Loc := ⟨wD.heap.size, 0, 0, 0⟩
      have hDs : wD.heap.size = w.heap.size + 1 := by simp [wD, World.push]
      have hle1 : Sig.le σ (σ.add H.next L) := Sig.add_le hfree0
      have sL : Step E σ H wD (σ.add H.next L) (H.new (.loop .ready none ⟨fr.sz, true, fr.t⟩ params.toList assign body)) (World.push wD (.loop lo)) :=
        Step.new sD.hr hfree0 _ _ L rfl ⟨rfl, rfl, rfl, ⟨hf.1, fun x v hv => (hf.2 x v hv).mono hle1⟩, rfl, rfl, rfl, hreg.1, hreg.2, rfl, fun c hc => by cases hc⟩
      have s1 := sD.trans sL
      have hmark : DSOK E n0 B0 (σ.add H.next L) (H.new (.loop .ready none ⟨fr.sz, true, fr.t⟩ params.toList assign body)) (World.push wD (.loop lo)) (markOf w.heap.size :: ds) := by
        obtain ⟨rs, d1, d2, d3⟩ := hds.step hr s1
        have hnew : MarkOK E n0 (σ.add H.next L) (H.new (.loop .ready none ⟨fr.sz, true, fr.t⟩ params.toList assign body)) (World.push wD (.loop lo)) w.heap.size := by
          refine ⟨hn0, ?_, ?_⟩
          · rw [push_get, if_neg (by omega), push_get, if_pos rfl]
          · intro bb kk LL hb hs
            rw [AH.get_new] at hb
            by_cases e : bb = H.next
            · subst e
              rw [Sig.add_self] at hs; cases hs
              show wD.heap.size ≠ _; omega
            · rw [if_neg e] at hb; rw [Sig.add_ne e] at hs
              have := hr.lt hb hs; omega
        refine ⟨w.heap.size :: rs, by simp [d1], ?_, ?_⟩
        · rw [List.nodup_cons]
          refine ⟨fun hm => ?_, d2⟩
          obtain ⟨rs', d1', _, d3'⟩ := hds
          have : rs = rs' := by
            have hinj : ∀ {l l' : List Nat}, l.map markOf = l'.map markOf → l = l' := by
              intro l
              induction l with
              | nil => intro l' h; cases l' <;> simp at h ⊢
              | cons x l IH =>
                intro l' h
                cases l' with
                | nil => simp at h
                | cons y l' =>
                  simp only [List.map_cons, List.cons.injEq] at h
                  have hxy : x = y := by simpa [markOf] using h.1
                  rw [hxy, IH h.2]
            exact hinj (List.append_cancel_right (d1.symm.trans d1'))
          rw [this] at hm
          have := (Array.getElem?_eq_some_iff.1 (d3' _ hm).2.1).1
          omega
        · intro r hr'
          simp only [List.mem_cons] at hr'
          rcases hr' with rfl | hr'
          · exact hnew
          · exact d3 r hr'
      have hy : VR (σ.add H.next L) (.func (.yield H.next) #[] #[]) (.func (.yield L.blk) #[] #[]) := VR.yield Sig.add_self rfl
      have hargs : VRs (σ.add H.next L) (f0 ++ [.func (.yield H.next) #[] #[]] ++ c0) (f1 ++ [.func (.yield L.blk) #[] #[]] ++ c1) :=
        ((VRs.mono hle1 hf1).append (.cons hy .nil)).append (VRs.mono hle1 hc1)
      let caller : Frame := Fm b tmps (markOf w.heap.size :: ds) (.inRangeFunc L.blk :: k)
      obtain ⟨e1, w2, fr2, ⟨σ2, v', rfl, q1, q2⟩, q3, _, q4⟩ := io.call _ _ _ _ _ hcall (σ.add H.next L) (World.push wD (.loop lo)) _ s1.hr hargs (hfree.split s1.ext s1.next) (caller :: cs)
      have s2 := s1.trans q2
      have hstep1 : step E.prog (lone (Fm b tmps ds (.code (.rangeFunc f params assign body) :: k)) cs w) =
          .next (lone (Frame.enter E.prog g ⟨f1 ++ [.func (.yield L.blk) #[] #[]] ++ c1⟩ .normal) (caller :: cs) (World.push wD (.loop lo))) := by
        have hcat : (⟨f1⟩ : Array Value) ++ #[.func (.yield L.blk) #[] #[]] ++ ⟨c1⟩ = ⟨f1 ++ [.func (.yield L.blk) #[] #[]] ++ c1⟩ := by apply Array.ext'; simp
        have hen := enter_run (w := World.push wD (.loop lo)) he hfn (⟨f1 ++ [.func (.yield L.blk) #[] #[]] ++ c1⟩ : Array Value)
        have hevl : (Fm b tmps ds (.code (.rangeFunc f params assign body) :: k)).eval f = .func (.func g) ⟨f1⟩ ⟨c1⟩ := by rw [Fm_eval]; exact hx
        have hent : (Instr.enterLoop b.fn tmps params assign body none).run E.prog w = .ok (wD.heap.size, [markOf w.heap.size]) (World.push wD (.loop lo)) := by
          simp only [Instr.enterLoop, Sem.run_bind, run_newObj, Result.andThen_ok, Sem.run_pure]
          rfl
        have hevl2 : caller.eval f = .func (.func g) ⟨f1⟩ ⟨c1⟩ := by
          have := Fm_eval b tmps (markOf w.heap.size :: ds) (.inRangeFunc L.blk :: k) f
          rw [hx] at this; exact this
        have hinv : (do let d ← resolve caller.eval { callee := .value f, args := #[.const (.func (.yield wD.heap.size) #[] #[])], argTypes := #[] } 0; invoke d.target d.args : Sem Next).run E.prog (World.push wD (.loop lo)) =
            .ok (.enter g ⟨f1 ++ [.func (.yield L.blk) #[] #[]] ++ c1⟩) (World.push wD (.loop lo)) := by
          have hca : caller.eval (.const (.func (.yield wD.heap.size) #[] #[])) = .func (.yield wD.heap.size) #[] #[] := rfl
          simp only [resolve, hevl2, Deferred.ofValue, Sem.run_bind, Sem.run_pure, Result.andThen_ok, invoke]
          rw [show (#[Operand.const (.func (.yield wD.heap.size) #[] #[])].map caller.eval) = #[.func (.yield L.blk) #[] #[]] from by simp [Frame.eval, L], hcat]
          exact hen
        refine step_lone_go ?_
        simp only [stepG, stepG.exec, Fm, hro, Sem.runT_eq, hent, GStep.bare_after]
        have happ : ∀ (fr' : Frame), fr' = caller → (stepG.apply E.prog true fr' cs none (do let d ← resolve fr'.eval { callee := .value f, args := #[.const (.func (.yield wD.heap.size) #[] #[])], argTypes := #[] } 0; invoke d.target d.args) (World.push wD (.loop lo))).bare =
            .go { frame := Frame.enter E.prog g ⟨f1 ++ [.func (.yield L.blk) #[] #[]] ++ c1⟩ .normal, callers := caller :: cs, status := .running, dying := none } (World.push wD (.loop lo)) := by
          rintro fr' rfl
          simp only [stepG.apply, Sem.runT_eq, if_true, hinv, GStep.bare_after]
          rfl
        exact happ _ (by simp [caller, Fm, hro, L])
      have hleL : (σ2 H.next) = some L := by
        have := q2.ext H.next (.inl (Nat.lt_succ_self _))
        rw [this]; exact Sig.add_self
      obtain ⟨ob, g1, g2⟩ := q2.hr.objs _ _ L hl hleL
      cases ob <;> simp only [ObjR] at g2
      rename_i lo2
      obtain ⟨p0, p1, p2, p3, p4, p5, p6, p7, p8, p9, p10⟩ := g2
      have hend := fm_endRange (P := E.prog) (b := b) (tmps := tmps) (ds := markOf w.heap.size :: ds) (k := k) (cs := cs) g1 (by rw [p1]; exact hst)
      have s3 := Step.write q2.hr hl rfl hleL (WSet.setObj (.loop { lo2 with state := .exhausted }) g1) (x := .loop .exhausted pend t ps a bd) ⟨p0, rfl, p2, p3, p4, p5, p6, p7, p8, p9, p10⟩
      refine ⟨σ2, _, markOf w.heap.size :: ds, s2.trans s3, hf.mono (s2.le hfree), (hmark.step s1.hr q2).step q2.hr s3, p10, ?_⟩
      refine .head hstep1 (q3.trans (.head (step_leave_returned q4) ?_))
      have hfin : caller.finish v' = Fm b tmps (markOf w.heap.size :: ds) (.endRangeFunc L.blk :: k) := rfl
      rw [hfin, ← p2]
      exact .one hend
  split at h
  · -- no jump
    cases h
    refine ⟨.normal, fr, rfl, ?_⟩
    intro hreg σ w tmps n0 B0 hr hf hfree hn0 b ds k cs hk hro hds
    obtain ⟨σ', w', ds', g1, g2, g3, _, g5⟩ := main hreg σ w tmps n0 B0 hr hf hfree hn0 b ds k cs hk (hro hrd) hds
    exact ⟨σ', w', tmps, ds', g1, g2, rfl, g3, g5⟩
  · -- a jump
    rename_i c
    have hout : ∃ e fr', out = .ex e fr' := by
      cases out with
      | ex e fr' => exact ⟨e, fr', rfl⟩
      | val v => exact absurd h (io.codev _ _ _ _ _)
    obtain ⟨e, fr', rfl⟩ := hout
    refine ⟨e, fr', rfl, ?_⟩
    intro hreg σ w tmps n0 B0 hr hf hfree hn0 b ds k cs hk hro hds
    have hup2 := io.up _ _ _ _ h
    have hup2' : H2.next ≤ H'.next := hup2
    have hfree2 : Free σ H.next H2.next := fun c q1 q2 => hfree c q1 (by omega)
    obtain ⟨σ1, w1, ds1, g1, g2, g3, g4, g5⟩ := main hreg σ w tmps n0 B0 hr hf hfree2 hn0 b ds k cs hk (hro hrd) hds
    have hcreg : regsOk c = true := by rcases g4 c rfl with rfl | ⟨id, rfl⟩ <;> rfl
    obtain ⟨σ2, w2, tmps2, ds2, k1, k2, k3, k4, k5⟩ := (io.code _ _ _ _ _ _ h).lay hcreg tmps n0 B0 g1.hr g2 (hfree.split g1.ext g1.next) (Nat.le_trans hn0 g1.size) b ds1 k cs hk hro g3
    exact ⟨σ2, w2, tmps2, ds2, g1.trans k1, k2, k3, k4, .head g5 k5⟩
end
end Go.Am
namespace Go.Am
open Go
section
variable {E : Env} {ih : Cmd → AH → Res} {σ σ' : Sig} {H H' : AH} {w w' : World}
theorem bind_rel : ∀ {ps : List Tmp} {args args' : List Value} {fr fr' : Fr} {tmps : Array Value}, bindParams fr ps args = some fr' → FrR σ fr tmps → VRs σ args args' →
    FrR σ fr' ((ps.zip args').foldl (fun tmps (t, a) => tmps.setIfInBounds t a) tmps) ∧ fr'.rd = fr.rd
  | [], [], _, fr, fr', tmps, h, hf, .nil => by simp [bindParams] at h; subst h; exact ⟨hf, rfl⟩
  | [], _ :: _, _, fr, fr', tmps, h, hf, hv => by simp [bindParams] at h
  | t :: ps, [], _, fr, fr', tmps, h, hf, hv => by simp [bindParams] at h
  | t :: ps, a :: args, _ :: args', fr, fr', tmps, h, hf, .cons hv hs => by
    simp only [bindParams] at h
    split at h
    · rename_i fr1 hp
      obtain ⟨g1, g2⟩ := bind_rel h (put_rel hf hp hv) hs
      exact ⟨by simpa [putC] using g1, by rw [g2, putA_rd hp]⟩
    · cases h
theorem fm_beginRound {P : Program} {b : Frame} {tmps : Array Value} {ds : List Deferred} {k : List Item} {cs : List Frame} {l : Nat} {lo : Loop} (hr : b.roundOf = some l) (hw : w.heap[l]? = some (.loop lo)) (hs : lo.state = .ready) :
    step P (lone (Fm b tmps ds (.beginRound :: k)) cs w) = .next (lone (Fm b tmps ds k) cs { w with heap := w.heap.setIfInBounds l (.loop { lo with state := .busy }) }) := by
  have hrun : (Instr.beginRound l).run P w = .ok () { w with heap := w.heap.setIfInBounds l (.loop { lo with state := .busy }) } := by
    simp only [Instr.beginRound, Instr.getLoop, Sem.run_bind, run_getObj' P hw (by simp), Result.andThen_ok, Sem.run_pure, run_setObj' P hw (by simp), hs]
  refine step_lone_go ?_
  simp only [stepG, stepG.exec, Fm, hr, Option.elim]
  simp [stepG.apply, hrun, Frame.finish]
theorem fm_leave {P : Program} {b c : Frame} {tmps : Array Value} {ds : List Deferred} {k : List Item} {cs : List Frame} {l : Nat} {lo : Loop} (hk : b.kind = .normal) (hr : b.roundOf = some l)
    (hw : w.heap[l]? = some (.loop lo)) (j : Option Code) (hj : (j = none ∧ k = []) ∨ (∃ k2, j = some .ret ∧ k = .code .ret :: k2) ∨ ∃ id k2, j = some (.exit id) ∧ k = .code (.exit id) :: k2 ∧ exitTo id k2 = none) :
    step P (lone (Fm b tmps ds k) (c :: cs) w) =
      .next (lone (c.finish (.bool j.isNone)) cs { w with heap := w.heap.setIfInBounds l (.loop { lo with state := if j.isNone then .ready else .done, pending := j }) }) := by
  have hrun : ∀ j : Option Code, (Instr.endRound l j).run P w = .ok (.bool j.isNone) { w with heap := w.heap.setIfInBounds l (.loop { lo with state := if j.isNone then .ready else .done, pending := j }) } := by
    intro j
    simp only [Instr.endRound, Instr.getLoop, Sem.run_bind, run_getObj' P hw (by simp), Result.andThen_ok, Sem.run_pure, run_setObj' P hw (by simp)]
  rcases hj with ⟨rfl, rfl⟩ | ⟨k2, rfl, rfl⟩ | ⟨id, k2, rfl, rfl, hn⟩
  · exact step_lone_go (by simp [stepG, stepG.exec, Fm, hr, hrun, doReturn, hk])
  · exact step_lone_go (by simp [stepG, stepG.exec, Fm, hr, hrun, doReturn, hk])
  · exact step_lone_go (by simp [stepG, stepG.exec, Fm, hr, hrun, doReturn, hk, hn])
theorem HR.loopAt (hr : HR E σ H w) {l : Nat} {L : Loc} {st : LoopState} {pd : Option Code} {t : Fr} {ps : List Tmp} {a b : Code} {rt : Nat} {own : Bool}
    (hb : H.blocks.get l = some ⟨.loop st pd t ps a b, rt, own⟩) (hs : σ l = some L) :
    ∃ lo, w.heap[L.blk]? = some (.loop lo) ∧ ObjR E σ L own (.loop st pd t ps a b) (.loop lo) := by
  obtain ⟨o, h1, h2⟩ := hr.objs l _ L hb hs
  cases o
  case loop lo => exact ⟨lo, h1, h2⟩
  all_goals simp only [ObjR] at h2
theorem round_ok (io : IhOK E ih) {l : Nat} {args : List Value} {out : Out} (h : roundA E ih l args H = some (out, H')) : ∃ v, out = .val v ∧ RoundOK E l args H v H' := by
  unfold roundA at h
  split at h
  case h_2 => cases h
  rename_i pd0 t0 ps0 a0 b0 rt0 hl0
  split at h
  case h_2 => cases h
  rename_i fr hbind
  split at h
  case h_2 => cases h
  rename_i fr1 H1 h1
  split at h
  case h_2 => cases h
  rename_i pd1 t1 ps1 a1 b1 rt1 hl1
  split at h
  case h_2 => cases h
  rename_i e fr3 H3 h3
  split at h
  case h_2 => cases h
  rename_i st3 pd3 t3 ps3 a3 b3 rt3 hl3
  cases h
  refine ⟨_, rfl, ?_⟩
  intro σ w args' L lo hr hv hfree hs hw hlen c cs
  have hup1 := io.up _ _ _ _ h1
  have hup3 := io.up _ _ _ _ h3
  have hup3' : H1.next ≤ H3.next := hup3
  have hfree' : Free σ H.next H3.next := hfree
  obtain ⟨lo0, w0, g0⟩ := hr.loopAt hl0 hs
  rw [hw] at w0; cases w0
  obtain ⟨p0, p1, p2, p3, p4, p5, p6, p7, p8, p9, p10⟩ := g0
  obtain ⟨hfr, hrd⟩ := bind_rel hbind p3 hv
  have hrd' : fr.rd = true := by rw [hrd]; exact p9
  let b : Frame := { (default : Frame) with fn := lo.fn, kind := .normal, roundOf := some L.blk }
  have htm : (lo.params.zip ⟨args'⟩).foldl (fun tmps (t, a) => tmps.setIfInBounds t a) lo.tmps = (ps0.zip args').foldl (fun tmps (t, a) => tmps.setIfInBounds t a) lo.tmps := by
    rw [← Array.foldl_toList, Array.toList_zip, p4]
  have hstart : Frame.round L.blk lo.fn ((lo.params.zip ⟨args'⟩).foldl (fun tmps (t, a) => tmps.setIfInBounds t a) lo.tmps) lo.assign lo.body .normal =
      Fm b ((ps0.zip args').foldl (fun tmps (t, a) => tmps.setIfInBounds t a) lo.tmps) [] [.code a0, .beginRound, .code b0] := by
    rw [htm, p5, p6]; rfl
  rw [hstart]
  have hds0 : DSOK E w.heap.size [] σ H w [] := ⟨[], rfl, List.nodup_nil, fun r hr => by simp at hr⟩
  have hfree1 : Free σ H.next H1.next := fun c q1 q2 => hfree' c q1 (by omega)
  obtain ⟨σ1, w1, tmps1, ds1, s1, f1, r1, d1, e1⟩ := (io.code _ _ _ _ _ _ h1).lay p7 _ w.heap.size [] hr hfr hfree1 (Nat.le_refl _) b [] [.beginRound, .code b0] (c :: cs) (.inl rfl)
    (fun hf => by rw [hrd'] at hf; cases hf) hds0
  have hs1 : σ1 l = some L := (s1.le hfree1) l L hs
  obtain ⟨lo1, w1l, g1⟩ := s1.hr.loopAt hl1 hs1
  obtain ⟨q0, q1, q2, q3, q4, q5, q6, q7, q8, q9, q10⟩ := g1
  have hbeg := fm_beginRound (P := E.prog) (b := b) (tmps := tmps1) (ds := ds1) (k := [.code b0]) (cs := c :: cs) rfl w1l q1
  have s2 := Step.write s1.hr hl1 rfl hs1 (WSet.setObj (.loop { lo1 with state := .busy }) w1l) (x := .loop .busy pd1 t1 ps1 a1 b1) ⟨q0, rfl, q2, q3, q4, q5, q6, q7, q8, q9, q10⟩
  have hfree2 : Free σ1 H1.next H3.next := hfree'.split s1.ext s1.next
  obtain ⟨σ3, w3, tmps3, ds3, s3, f3, r3, d3, e3⟩ := (io.code _ _ _ _ _ _ h3).lay p8 tmps1 w.heap.size [] s2.hr f1 hfree2 (Nat.le_trans s1.size s2.size) b ds1 [] (c :: cs) (.inl rfl)
    (fun hf => by rw [r1, hrd'] at hf; cases hf) (d1.step s1.hr s2)
  have hs3 : σ3 l = some L := (s3.le hfree2) l L hs1
  obtain ⟨lo3, w3l, g3⟩ := s3.hr.loopAt hl3 hs3
  obtain ⟨u0, u1, u2, u3, u4, u5, u6, u7, u8, u9, u10⟩ := g3
  have hjs : ∀ cc, jumpOf e = some cc → cc = .ret ∨ ∃ id, cc = .exit id := by
    intro cc hc
    cases e with
    | normal => cases hc
    | exit id => cases hc; exact .inr ⟨id, rfl⟩
    | ret => cases hc; exact .inl rfl
  have hst : (bif (jumpOf e).isNone then LoopState.ready else .done) = if (jumpOf e).isNone then .ready else .done := by cases (jumpOf e).isNone <;> rfl
  have s4 := Step.write s3.hr hl3 rfl hs3 (WSet.setObj (.loop { lo3 with state := if (jumpOf e).isNone then .ready else .done, pending := jumpOf e }) w3l)
    (x := .loop (bif (jumpOf e).isNone then .ready else .done) (jumpOf e) t3 ps3 a3 b3) ⟨u0, hst.symm, rfl, u3, u4, u5, u6, u7, u8, u9, hjs⟩
  refine ⟨σ3, _, .bool (jumpOf e).isNone, .leaf rfl, ((s1.trans s2).trans s3).trans s4, ?_⟩
  have e1' : Steps E.prog _ _ := e1
  refine e1'.trans (.head hbeg ?_)
  cases e with
  | normal =>
    have e3' : Steps E.prog _ _ := e3
    exact e3'.trans (.one (fm_leave rfl rfl w3l none (.inl ⟨rfl, rfl⟩)))
  | ret =>
    obtain ⟨k2, e3'⟩ := e3
    exact e3'.trans (.one (fm_leave rfl rfl w3l (some .ret) (.inr (.inl ⟨k2, rfl, rfl⟩))))
  | exit id =>
    obtain ⟨k2, hk2, e3'⟩ := e3.2 rfl
    exact e3'.trans (.one (fm_leave rfl rfl w3l (some (.exit id)) (.inr (.inr ⟨id, k2, rfl, rfl, hk2⟩))))
theorem ofList_get : ∀ (xs : List Value) (t : T Value) (n i : Nat), (T.ofList t n xs).get i = if n ≤ i ∧ i < n + xs.length then xs[i - n]? else t.get i
  | [], t, n, i => by
    simp only [T.ofList, List.length_nil, Nat.add_zero]
    rw [if_neg (by omega)]
  | x :: xs, t, n, i => by
    simp only [T.ofList]
    rw [ofList_get xs (t.put n (some x)) (n + 1) i, T.get_put]
    by_cases h1 : n + 1 ≤ i ∧ i < n + 1 + xs.length
    · have h2 : n ≤ i ∧ i < n + (x :: xs).length := by simp; omega
      have h3 : i - n = (i - (n + 1)) + 1 := by omega
      rw [if_pos h1, if_pos h2, h3]
      simp
    · rw [if_neg h1]
      by_cases e : i = n
      · subst e
        have h2 : i ≤ i ∧ i < i + (x :: xs).length := by simp
        rw [if_pos rfl, if_pos h2]
        simp
      · have h2 : ¬ (n ≤ i ∧ i < n + (x :: xs).length) := by simp; omega
        rw [if_neg e, if_neg h2]
theorem enter_rel {args args' : List Value} (hv : VRs σ args args') (n : Nat) :
    FrR σ ⟨Nat.max n args.length, false, T.ofList .leaf 0 args⟩ ((⟨args'⟩ : Array Value) ++ Array.replicate (n - (⟨args'⟩ : Array Value).size) undef) := by
  have hl := hv.length
  refine ⟨?_, fun t v h => ?_⟩
  · have e : Nat.max n args.length = max n args.length := rfl
    simp only [e]
    simp [hl]; omega
  · rw [ofList_get] at h
    by_cases hlt : t < args.length
    · rw [if_pos (by omega)] at h
      obtain ⟨v', g1, g2⟩ := hv.get t v h
      have : ((⟨args'⟩ : Array Value) ++ Array.replicate (n - (⟨args'⟩ : Array Value).size) undef).getD t undef = v' := by
        have hlt' : t < args'.length := by omega
        have h3 : ((⟨args'⟩ : Array Value) ++ Array.replicate (n - (⟨args'⟩ : Array Value).size) undef)[t]? = some v' := by
          rw [Array.getElem?_append_left (by simpa using hlt')]
          simpa using g1
        have h4 : ((⟨args'⟩ : Array Value) ++ Array.replicate (n - (⟨args'⟩ : Array Value).size) undef).getD t undef =
            (((⟨args'⟩ : Array Value) ++ Array.replicate (n - (⟨args'⟩ : Array Value).size) undef)[t]?).getD undef := by simp
        rw [h4, h3]; rfl
      rw [this]; exact g2
    · rw [if_neg (by omega)] at h
      simp [T.get] at h
theorem result_run (he : EOk E) (hr : HR E σ H w) {fr : Fr} {tmps : Array Value} (hf : FrR σ fr tmps) : ∀ {rs : List ResultVar} {vs : List Value}, resultA E fr H rs = some vs →
    ∃ vs', (rs.mapM (fun r => (match r with
      | .tmp t => pure (tmps.getD t undef)
      | .cell a t => do loadVar t (← asAddr (tmps.getD a undef)) : Sem Value))).run E.prog w = .ok vs' w ∧ VRs σ vs vs'
  | [], vs, h => by simp [resultA] at h; subst h; exact ⟨[], by simp, .nil⟩
  | .tmp t :: rs, vs, h => by
    simp only [resultA] at h
    split at h
    · rename_i v hv
      simp only [Option.map_eq_some_iff] at h
      obtain ⟨vs1, h1, rfl⟩ := h
      obtain ⟨vs', g1, g2⟩ := result_run he hr hf h1
      exact ⟨_, by simp only [List.mapM_cons, Sem.run_bind, Sem.run_pure, Result.andThen_ok, g1], .cons (hf.2 t v hv) g2⟩
    · cases h
  | .cell a t :: rs, vs, h => by
    simp only [resultA] at h
    split at h
    · rename_i v hv
      simp only [Option.map_eq_some_iff] at h
      obtain ⟨vs1, h1, rfl⟩ := h
      obtain ⟨vs', g1, g2⟩ := result_run he hr hf h1
      simp only [Option.bind_eq_some_iff] at hv
      obtain ⟨p, hp, hl⟩ := hv
      have hpr := hf.2 a p hp
      obtain ⟨v', k1, k2⟩ := load_run he hr hl hpr
      obtain ⟨A, hA⟩ : ∃ A, tmps.getD a undef = .pointer (some A) := by
        generalize tmps.getD a undef = u at hpr
        unfold loadA at hl
        split at hl
        case h_2 => cases hl
        cases hpr with
        | leaf h0 => simp [leafV] at h0
        | ptr hs => exact ⟨_, rfl⟩
      have hasA : asAddr (tmps.getD a undef) = pure A := by rw [hA]; rfl
      rw [hA] at k1
      simp only [Instr.loadAt, Instr.sureAddr, Sem.run_bind, Sem.run_pure, Result.andThen_ok] at k1
      refine ⟨v' :: vs', ?_, .cons k2 g2⟩
      simp only [List.mapM_cons, Sem.run_bind, hasA, Sem.run_pure, Result.andThen_ok, k1, g1]
    · cases h
end
end Go.Am
namespace Go.Am
open Go
section
variable {E : Env} {ih : Cmd → AH → Res} {σ σ' : Sig} {H H' : AH} {w w' : World}
def Fx (b : Frame) (tmps : Array Value) (ds : List Deferred) (todo : List Item) : Frame := { b with tmps := tmps, defers := ds, todo := todo, mode := .returning }
theorem fm_end {P : Program} {b : Frame} {tmps : Array Value} {ds : List Deferred} {cs : List Frame} (hr : b.roundOf = none) :
    step P (lone (Fm b tmps ds []) cs w) = .next (lone (Fx b tmps ds []) cs w) :=
  step_lone_go (by simp [stepG, stepG.exec, Fm, Fx, hr])
theorem fm_ret {P : Program} {b : Frame} {tmps : Array Value} {ds : List Deferred} {k : List Item} {cs : List Frame} (hr : b.roundOf = none) :
    ∃ k2, step P (lone (Fm b tmps ds (.code .ret :: k)) cs w) = .next (lone (Fx b tmps ds k2) cs w) := by
  refine ⟨?_, step_lone_go ?_⟩
  rotate_left
  · simp only [stepG, stepG.exec, Fm, Fx, hr]; rfl
theorem fx_mark {P : Program} {b : Frame} {tmps : Array Value} {ds : List Deferred} {k : List Item} {cs : List Frame} {r : Nat} (h : w.heap[r]? = some (.deferred (some []))) :
    step P (lone (Fx b tmps (markOf r :: ds) k) cs w) = .next (lone (Fx b tmps ds k) cs { w with heap := w.heap.setIfInBounds r (.deferred none) }) := by
  have hrun : (Instr.takeDeferred r).run P w = .ok [] { w with heap := w.heap.setIfInBounds r (.deferred none) } := by
    simp only [Instr.takeDeferred, Sem.run_bind, run_getObj' P h (by simp), Result.andThen_ok, Sem.run_pure, run_setObj' P h (by simp)]
  refine step_lone_go ?_
  simp [stepG, unwind, Fx, markOf, hrun]
theorem fx_marks {n0 : Nat} {B0 : List Deferred} : ∀ (rs : List Nat) (w1 : World), Step E σ H w σ' H' w1 → rs.Nodup → w.heap.size ≤ n0 → (∀ r ∈ rs, MarkOK E n0 σ' H' w1 r) → ∀ (b : Frame) (tmps : Array Value) (k : List Item) (cs : List Frame),
    ∃ w2, Step E σ H w σ' H' w2 ∧ Steps E.prog (lone (Fx b tmps (rs.map markOf ++ B0) k) cs w1) (lone (Fx b tmps B0 k) cs w2)
  | [], w1, s, _, _, _, b, tmps, k, cs => ⟨w1, s, Steps.refl _ _⟩
  | r :: rs, w1, s, hnd, hn, hm, b, tmps, k, cs => by
    obtain ⟨m1, m2, m3⟩ := hm r (by simp)
    rw [List.nodup_cons] at hnd
    have hget : ∀ B, B ≠ r → (w1.heap.setIfInBounds r (.deferred none))[B]? = w1.heap[B]? := fun B hB => by
      rw [Array.getElem?_setIfInBounds, if_neg (Ne.symm hB)]
    have s1 : Step E σ H w σ' H' { w1 with heap := w1.heap.setIfInBounds r (.deferred none) } :=
      s.beside (by simp) rfl rfl rfl (fun B hB => hget B (by omega)) (fun b k L hb hs => hget _ (m3 b k L hb hs))
    obtain ⟨w2, g1, g2⟩ := fx_marks rs _ s1 hnd.2 hn (fun q hq => by
      obtain ⟨q1, q2, q3⟩ := hm q (by simp [hq])
      exact ⟨q1, by rw [hget q (fun e => hnd.1 (e ▸ hq))]; exact q2, q3⟩) b tmps k cs
    exact ⟨w2, g1, .head (fx_mark m2) g2⟩
def oneOf : List Value → Value
  | [v] => v
  | vs => .tuple ⟨vs⟩
theorem call_inv {f : FuncId} {args : List Value} {out : Out} (h : body E ih (.call f args) H = some (out, H')) :
    ∃ fn c, E.funcs.get f = some fn ∧ fn.body = some c ∧
      ((∃ e fr1, ih (.code c ⟨Nat.max fn.ntmps args.length, false, T.ofList .leaf 0 args⟩) H = some (.ex e fr1, H') ∧ (e = .normal ∨ e = .ret) ∧ resA E fn.results.toList fr1 H' = some (out, H')) ∨
       deferA E ih fn.results.toList c ⟨Nat.max fn.ntmps args.length, false, T.ofList .leaf 0 args⟩ H = some (out, H')) := by
  simp only [body] at h
  split at h
  case h_2 => cases h
  rename_i fn hfn
  split at h
  case h_2 => cases h
  rename_i c hc
  refine ⟨fn, c, hfn, hc, ?_⟩
  split at h
  · rename_i fr1 H1 h1
    have h2 : resA E fn.results.toList fr1 H1 = some (out, H') := h
    have := resA_up h2
    subst this
    exact .inl ⟨_, _, h1, .inl rfl, h2⟩
  · rename_i fr1 H1 h1
    have h2 : resA E fn.results.toList fr1 H1 = some (out, H') := h
    have := resA_up h2
    subst this
    exact .inl ⟨_, _, h1, .inr rfl, h2⟩
  · exact .inr h
  · cases h
theorem resA_inv {rs : List ResultVar} {fr : Fr} {out : Out} (h : resA E rs fr H = some (out, H')) : ∃ vs, resultA E fr H rs = some vs ∧ out = .val (oneOf vs) := by
  unfold resA at h
  split at h
  · rename_i v hv
    cases h; exact ⟨_, hv, rfl⟩
  · rename_i vs hne hv
    cases h
    refine ⟨_, hv, ?_⟩
    rw [oneOf]
    exact fun v e => hne v (by rw [e])
  · cases h
theorem results_ok (he : EOk E) {fn : Func} {fr : Fr} {vs : List Value} {tmps : Array Value} (hr : HR E σ H w) (hf : FrR σ fr tmps) (hres : resultA E fr H fn.results.toList = some vs) :
    ∃ v', (results fn tmps).run E.prog w = .ok v' w ∧ VR σ (oneOf vs) v' := by
  obtain ⟨vs', hrun, hvs⟩ := result_run he hr hf hres
  have hresults : (results fn tmps).run E.prog w = .ok (oneOf vs') w := by
    simp only [results, Array.mapM_eq_mapM_toList, map_eq_pure_bind, bind_assoc, pure_bind, Sem.run_bind]
    refine (congrArg (fun r => Result.andThen r _) hrun).trans ?_
    simp only [Result.andThen_ok, Sem.run_pure]
    rcases vs' with _ | ⟨x, _ | ⟨y, l⟩⟩ <;> simp [oneOf]
  refine ⟨_, hresults, ?_⟩
  cases hvs with
  | nil => exact .tuple .nil
  | cons hv1 hvs1 =>
    cases hvs1 with
    | nil => exact hv1
    | cons hv2 hvs2 => exact .tuple (.cons hv1 (.cons hv2 hvs2))
theorem to_end {e : AExit} {m : Machine} {b : Frame} {tmps : Array Value} {ds : List Deferred} {cs : List Frame} (hee : e = .normal ∨ e = .ret) (hr : b.roundOf = none) {k : List Item} (hk : k = [] ∨ e = .ret)
    (h : Reach E.prog e m b tmps ds k cs w) : ∃ k2, Steps E.prog m (lone (Fx b tmps ds k2) cs w) := by
  rcases hee with rfl | rfl
  · rcases hk with rfl | hk
    · have h' : Steps E.prog _ _ := h
      exact ⟨[], h'.trans (.one (fm_end hr))⟩
    · cases hk
  · obtain ⟨k1, h'⟩ := h
    obtain ⟨k2, hk2⟩ := fm_ret (P := E.prog) (b := b) (tmps := tmps) (ds := ds) (k := k1) (cs := cs) (w := w) hr
    exact ⟨k2, h'.trans (.one hk2)⟩
def DefOK (σ : Sig) (d : Deferred) (g : FuncId) (xs : List Value) : Prop := ∃ a1 c1 : List Value, d = { target := .fn (.func g) ⟨c1⟩, args := ⟨a1⟩ } ∧ VRs σ xs (a1 ++ c1)
theorem DefOK.mono {d : Deferred} {g : FuncId} {xs : List Value} (hσ : Sig.le σ σ') (h : DefOK σ d g xs) : DefOK σ' d g xs := by
  obtain ⟨a1, c1, h1, h2⟩ := h
  exact ⟨a1, c1, h1, h2.mono hσ⟩
theorem fm_op0 {P : Program} {b : Frame} {tmps : Array Value} {ds : List Deferred} {k : List Item} {cs : List Frame} {ops : Array Oper} {i : Nat} {rest : List Nat} {o : Oper} (ho : ops[i]? = some o)
    (hw : Region.wanted o (yielded ops tmps) = true) (hr : b.roundOf = none) :
    stepG P true { frame := Fm b tmps ds (.inRegion ops (i :: rest) :: k), callers := cs, status := .running, dying := none } w =
      stepG.apply P true (Fm b tmps ds (.inRegion ops (i :: rest) :: k)) cs none (execOp (Act.eval ⟨tmps, []⟩) o) w := by
  have he := Fm_eval' b tmps ds (.inRegion ops (i :: rest) :: k)
  simp only [Fm] at he
  simp only [Fm]
  simp only [hr] at he
  simp [stepG, stepG.exec, stepG.oper, Frame.oper?, ho, hw, he, hr]
theorem fm_defer {P : Program} {b : Frame} {tmps : Array Value} {ds : List Deferred} {k : List Item} {cs : List Frame} {ops : Array Oper} {i : Nat} {rest : List Nat} {o : Oper} {d : Deferred} (ho : ops[i]? = some o)
    (hw : Region.wanted o (yielded ops tmps) = true) (hr : b.roundOf = none) (hd : (execOp (Act.eval ⟨tmps, []⟩) o).run P w = .ok (.defer d) w) :
    step P (lone (Fm b tmps ds (.inRegion ops (i :: rest) :: k)) cs w) = .next (lone (Fm b (putC tmps o.dst undef) (d :: ds) (.inRegion ops rest :: k)) cs w) := by
  have hfin : ({ Fm b tmps ds (.inRegion ops (i :: rest) :: k) with defers := d :: ds } : Frame).finish undef = Fm b (putC tmps o.dst undef) (d :: ds) (.inRegion ops rest :: k) :=
    fm_finish (b := b) (tmps := tmps) (ds := d :: ds) (k := k) (rest := rest) ho undef
  refine step_lone_go ?_
  rw [fm_op0 ho hw hr, ← hfin]
  simp [stepG.apply, hd]
  rfl
theorem deferRun_ok (he : EOk E) (io : IhOK E ih) : ∀ {c : Code} {fr fr' : Fr} {H H' : AH} {g : FuncId} {xs : List Value} {b : Code}, deferRun E ih c fr H = some ((g, xs), fr', H', b) → regsOk c = true →
    ∀ (σ : Sig) (w : World) (tmps : Array Value), HR E σ H w → FrR σ fr tmps → Free σ H.next H'.next → fr.rd = false →
    ∀ (f : Frame) (k : List Item) (cs : List Frame), NoRec f cs → f.roundOf = none →
    ∃ σ' w' tmps' d, Step E σ H w σ' H' w' ∧ FrR σ' fr' tmps' ∧ fr'.rd = false ∧ DefOK σ' d g xs ∧ (∃ gn, E.funcs.get g = some gn) ∧ regsOk b = true ∧
      Steps E.prog (lone (Fm f tmps [] (.code c :: k)) cs w) (lone (Fm f tmps' [d] (.code b :: k)) cs w') := by
  intro c
  induction c with
  | seq a b0 _ ihb =>
    intro fr fr' H H' g xs b h hreg σ w tmps hr hf hfree hrd f k cs hk hro
    cases a with
    | region id ops draw =>
      simp only [regsOk, Bool.and_eq_true] at hreg
      simp only [deferRun] at h
      split at h
      · rename_i fr1 H1 h1
        have hup := deferRun_up io.up h
        obtain ⟨σ1, w1, tmps1, g1, g2, g3⟩ := region_sim he io.call io.round io.up (id := id) (fun hdr => by have h0 := hreg.1; rw [hdr] at h0; simpa using h0) f [] (.code b0 :: k) cs hk (fun _ => hro) h1 hr hf (fun x q1 q2 => hfree x q1 (by omega))
        have hrd1 : fr1.rd = false := by rw [runOps_rd h1]; exact hrd
        obtain ⟨σ2, w2, tmps2, d, k1, k2, k3, k4, k5, k6, k7⟩ := ihb h hreg.2 σ1 w1 tmps1 g1.hr g2 (hfree.split g1.ext g1.next) hrd1 f k cs hk hro
        exact ⟨σ2, w2, tmps2, d, g1.trans k1, k2, k3, k4, k5, k6, .head fm_seq (g3.trans k7)⟩
      · cases draw with
        | true => cases h
        | false =>
          simp only [cond_false] at h
          split at h
          case h_2 => cases h
          rename_i o hlast
          split at h
          case h_2 => cases h
          rename_i fr1 H1 h1
          split at h
          case h_2 => cases h
          rename_i d0 fr2 hdef hput
          cases h
          have hsplit : ops.toList = ops.toList.dropLast ++ [o] := by
            have hne : ops.toList ≠ [] := by intro e; rw [e] at hlast; cases hlast
            have := List.dropLast_concat_getLast hne
            rw [List.getLast?_eq_some_getLast hne] at hlast
            rw [Option.some.inj hlast] at this
            exact this.symm
          have hlen : ops.size = ops.toList.dropLast.length + 1 := by
            have := congrArg List.length hsplit
            simp only [List.length_append, List.length_cons, List.length_nil] at this
            simpa using this
          obtain ⟨σ1, w1, tmps1, g1, g2, g3⟩ := run_text he io.call io.round io.up f [] (.code b0 :: k) cs hk ops.toList.dropLast [o] [ops.toList.dropLast.length] 0 fr fr1 H H' σ w tmps (by simpa using hsplit) h1 hr hf hfree (fun _ => hro)
          have hrange : List.range ops.size = List.range' 0 ops.toList.dropLast.length ++ [ops.toList.dropLast.length] := by
            rw [hlen, List.range_succ, List.range_eq_range']
          have ho : ops[ops.toList.dropLast.length]? = some o := by
            have : ops.toList[ops.toList.dropLast.length]? = some o := by
              rw [hsplit]
              simp
            simpa using this
          unfold deferredA at hdef
          split at hdef
          case h_2 => cases hdef
          rename_i cc hop hguard
          split at hdef
          case h_2 => cases hdef
          rename_i fo args hcal hargs
          split at hdef
          case h_2 => cases hdef
          rename_i g0 first cap hev
          split at hdef
          case h_2 => cases hdef
          rename_i gn hgn
          simp only [Option.some.injEq, Prod.mk.injEq] at hdef
          obtain ⟨rfl, rfl⟩ := hdef
          have hw1 : Region.wanted o (yielded ops tmps1) = true := by simp [Region.wanted, hguard]
          have hfv := ev_run (a := ⟨tmps1, []⟩) he g1.hr g2 hev
          have hav := evs_run (a := ⟨tmps1, []⟩) (fun x _ v hv => ev_run (a := ⟨tmps1, []⟩) he g1.hr g2 hv) hargs
          have hmap : cc.args.map (Act.eval ⟨tmps1, []⟩) = ⟨cc.args.toList.map (Act.eval ⟨tmps1, []⟩)⟩ := (map_toList _ _).symm
          generalize hargs' : cc.args.toList.map (Act.eval ⟨tmps1, []⟩) = args' at hav hmap
          generalize hg' : Act.eval ⟨tmps1, []⟩ fo = g' at hfv
          cases hfv with
          | leaf h0 => simp [leafV] at h0
          | func h0 hf1 hc1 =>
            rename_i f1 c1
            have hexec : (execOp (Act.eval ⟨tmps1, []⟩) o).run E.prog w1 = .ok (.defer { target := .fn (.func g0) ⟨c1⟩, args := ⟨f1 ++ args'⟩ }) w1 := by
              have hcat : (⟨f1⟩ : Array Value) ++ ⟨args'⟩ = ⟨f1 ++ args'⟩ := by apply Array.ext'; simp
              simp only [execOp, hop, resolve, hcal, hmap, Deferred.ofValue, hg', Sem.run_bind, Sem.run_pure, Result.andThen_ok, hcat]
            refine ⟨σ1, w1, putC tmps1 o.dst undef, _, g1, put_rel g2 hput (.tuple .nil), by rw [putA_rd hput, runOps_rd h1]; exact hrd, ⟨f1 ++ args', c1, rfl, (hf1.append hav).append hc1⟩, ⟨gn, hgn⟩, hreg.2, ?_⟩
            refine .head fm_seq (.head fm_region ?_)
            rw [hrange]
            exact g3.trans (.head (fm_defer ho hw1 hro hexec) (.one fm_region_end))
    | _ => simp [deferRun] at h
  | _ => intro fr fr' H H' g xs b h; simp [deferRun] at h
theorem fx_deferred (he : EOk E) {b : Frame} {tmps : Array Value} {k : List Item} {cs : List Frame} {g : FuncId} {gn : Func} {a1 c1 : List Value} (hg : E.funcs.get g = some gn) :
    step E.prog (lone (Fx b tmps [{ target := .fn (.func g) ⟨c1⟩, args := ⟨a1⟩ }] k) cs w) = .next (lone (Frame.enter E.prog g ⟨a1 ++ c1⟩ .deferred) (Fx b tmps [] k :: cs) w) := by
  have hrun : (invoke (.fn (.func g) ⟨c1⟩) ⟨a1⟩).run E.prog w = .ok (.enter g ⟨a1 ++ c1⟩) w := by
    have hcat : (⟨a1⟩ : Array Value) ++ ⟨c1⟩ = ⟨a1 ++ c1⟩ := by apply Array.ext'; simp
    simp only [invoke, hcat, enter_run he hg]
  refine step_lone_go ?_
  simp [stepG, unwind, callDeferred, Fx, hrun]
theorem fx_back {P : Program} {b c : Frame} {tmps : Array Value} {k : List Item} {cs : List Frame} {fn : Func} {v : Value} (hf : P.funcs[b.fn]? = some fn) (hk : b.kind = .deferred) (hc : c.mode = .returning)
    (hres : (results fn tmps).run P w = .ok v w) : step P (lone (Fx b tmps [] k) (c :: cs) w) = .next (lone c cs w) := by
  refine step_lone_go ?_
  simp [stepG, unwind, Fx, hf, hres, doReturn, hk, hc]
theorem enter_fm (he : EOk E) {f : FuncId} {fn : Func} {c : Code} (hfn : E.funcs.get f = some fn) (hc : fn.body = some c) (args' : List Value) (kd : CallKind) :
    Frame.enter E.prog f ⟨args'⟩ kd = Fm { (default : Frame) with fn := f, kind := kd } ((⟨args'⟩ : Array Value) ++ Array.replicate (fn.ntmps - (⟨args'⟩ : Array Value).size) undef) [] [.code c] := by
  obtain ⟨hp, _, _⟩ := he.funcs _ _ hfn
  simp only [Frame.enter, hp, hc, Option.map_some, Option.getD_some, Option.bind_some]
  rfl
theorem call_ok (he : EOk E) (io : IhOK E ih) {f : FuncId} {args : List Value} {out : Out} (h : body E ih (.call f args) H = some (out, H')) : ∃ v, out = .val v ∧ CallOK E f args H v H' := by
  obtain ⟨fn, c, hfn, hc, h⟩ := call_inv h
  obtain ⟨hp, _, _⟩ := he.funcs _ _ hfn
  have hreg := he.codes _ _ _ hfn hc
  rcases h with ⟨e, fr1, h1, hee, hres⟩ | h
  · obtain ⟨vs, hres2, rfl⟩ := resA_inv hres
    refine ⟨_, rfl, ?_⟩
    intro σ w args' hr hv hfree cs
    let b : Frame := { (default : Frame) with fn := f, kind := .normal }
    rw [enter_fm he hfn hc]
    have hds0 : DSOK E w.heap.size [] σ H w [] := ⟨[], rfl, List.nodup_nil, fun r hr => by simp at hr⟩
    obtain ⟨σ1, w1, tmps1, ds1, s1, f1, r1, ⟨rs, rfl, hnd, hmk⟩, e1⟩ := (io.code _ _ _ _ _ _ h1).lay hreg _ w.heap.size [] hr (enter_rel hv fn.ntmps) hfree (Nat.le_refl _) b [] [] cs (.inl rfl)
      (fun _ => rfl) hds0
    obtain ⟨k2, hx⟩ := to_end hee rfl (.inl rfl) e1
    obtain ⟨w2, s2, hx2⟩ := fx_marks rs w1 s1 hnd (Nat.le_refl _) hmk b tmps1 k2 cs
    obtain ⟨v', hresults, hv'⟩ := results_ok he s2.hr f1 hres2
    exact ⟨.returned v', w2, Fx b tmps1 [] k2, ⟨σ1, v', rfl, hv', s2⟩, hx.trans hx2, rfl, rfl, rfl, rfl, fn, hp, hresults⟩
  · -- a call is deferred
    unfold deferA at h
    split at h
    case h_2 => cases h
    rename_i g xs fr1 H1 b0 hdr
    have main : ∀ (e : AExit) (fr2 : Fr) (H2 : AH), (e = .normal ∨ e = .ret) → ih (.code b0 fr1) H1 = some (.ex e fr2, H2) → lastA E ih fn.results.toList g xs fr2 H2 = some (out, H') → ∃ v, out = .val v ∧ CallOK E f args H v H' := by
      intro e fr2 H2 hee h2 hl
      unfold lastA at hl
      split at hl
      case h_2 => cases hl
      rename_i gn hgn
      split at hl
      case h_2 => cases hl
      rename_i gc hgc hgr
      have last : ∀ (e3 : AExit) (fr3 : Fr) (H3 : AH), (e3 = .normal ∨ e3 = .ret) → ih (.code gc ⟨Nat.max gn.ntmps xs.length, false, T.ofList .leaf 0 xs⟩) H2 = some (.ex e3 fr3, H3) → resA E fn.results.toList fr2 H3 = some (out, H') →
          ∃ v, out = .val v ∧ CallOK E f args H v H' := by
        intro e3 fr3 H3 hee3 h3 hres
        have hHH := resA_up hres
        subst hHH
        obtain ⟨vs, hres2, rfl⟩ := resA_inv hres
        refine ⟨_, rfl, ?_⟩
        intro σ w args' hr hv hfree cs
        have u1 := deferRun_up io.up hdr
        have u2 := io.up _ _ _ _ h2
        have u3 := io.up _ _ _ _ h3
        let b : Frame := { (default : Frame) with fn := f, kind := .normal }
        rw [enter_fm he hfn hc]
        obtain ⟨σ1, w1, tmps1, d, s1, f1, r1, ⟨a1, c1, rfl, hd⟩, _, hreg0, e1⟩ := deferRun_ok he io hdr hreg σ w _ hr (enter_rel hv fn.ntmps) (fun x q1 q2 => hfree x q1 (by omega)) rfl b [] cs (.inl rfl) rfl
        have hfree1 := hfree.split s1.ext s1.next
        have hds1 : DSOK E w1.heap.size [{ target := .fn (.func g) ⟨c1⟩, args := ⟨a1⟩ }] σ1 H1 w1 [{ target := .fn (.func g) ⟨c1⟩, args := ⟨a1⟩ }] := ⟨[], rfl, List.nodup_nil, fun r hr => by simp at hr⟩
        obtain ⟨σ2, w2, tmps2, ds2, s2, f2, r2, ⟨rs, rfl, hnd, hmk⟩, e2⟩ := (io.code _ _ _ _ _ _ h2).lay hreg0 tmps1 w1.heap.size _ s1.hr f1 (fun x q1 q2 => hfree1 x q1 (by omega)) (Nat.le_refl _) b _ [] cs (.inl rfl) (fun _ => rfl) hds1
        obtain ⟨k2, hx⟩ := to_end hee rfl (.inl rfl) e2
        obtain ⟨w3, s3, hx2⟩ := fx_marks rs w2 s2 hnd (Nat.le_refl _) hmk b tmps2 k2 cs
        have hfree2 := hfree1.split s3.ext s3.next
        have hle12 : Sig.le σ1 σ2 := s2.le (fun x q1 q2 => hfree1 x q1 (by omega))
        have hstep := fx_deferred (w := w3) he (b := b) (tmps := tmps2) (k := k2) (cs := cs) (a1 := a1) (c1 := c1) hgn
        rw [enter_fm he hgn hgc] at hstep
        let b2 : Frame := { (default : Frame) with fn := g, kind := .deferred }
        have hds3 : DSOK E w3.heap.size [] σ2 H2 w3 [] := ⟨[], rfl, List.nodup_nil, fun r hr => by simp at hr⟩
        obtain ⟨σ4, w4, tmps4, ds4, s4, f4, r4, ⟨rs4, rfl, hnd4, hmk4⟩, e4⟩ := (io.code _ _ _ _ _ _ h3).lay (he.codes _ _ _ hgn hgc) _ w3.heap.size [] s3.hr (enter_rel (hd.mono hle12) gn.ntmps) hfree2 (Nat.le_refl _) b2 [] []
          (Fx b tmps2 [] k2 :: cs) (.inr ⟨rfl, _, _, rfl, rfl⟩) (fun _ => rfl) hds3
        obtain ⟨k4, hx4⟩ := to_end hee3 rfl (.inl rfl) e4
        obtain ⟨w5, s5, hx5⟩ := fx_marks rs4 w4 s4 hnd4 (Nat.le_refl _) hmk4 b2 tmps4 k4 (Fx b tmps2 [] k2 :: cs)
        obtain ⟨_, hgres, _⟩ := results_ok (fn := gn) (vs := []) he s5.hr f4 (by rw [hgr]; rfl)
        have hback := fx_back (P := E.prog) (b := b2) (c := Fx b tmps2 [] k2) (tmps := tmps4) (k := k4) (cs := cs) (w := w5) (he.funcs _ _ hgn).1 rfl rfl hgres
        have hle24 : Sig.le σ2 σ4 := s4.le hfree2
        obtain ⟨v', hresults, hv'⟩ := results_ok he s5.hr (f2.mono hle24) hres2
        exact ⟨.returned v', w5, Fx b tmps2 [] k2, ⟨σ4, v', rfl, hv', s1.trans (s3.trans s5)⟩, e1.trans (hx.trans (hx2.trans (.head hstep (hx4.trans (hx5.trans (.one hback)))))), rfl, rfl, rfl, rfl, fn, hp, hresults⟩
      split at hl
      · rename_i h3; exact last _ _ _ (.inl rfl) h3 hl
      · rename_i h3; exact last _ _ _ (.inr rfl) h3 hl
      · cases hl
    split at h
    · rename_i h2; exact main _ _ _ (.inl rfl) h2 h
    · rename_i h2; exact main _ _ _ (.inr rfl) h2 h
    · cases h
end
end Go.Am
namespace Go.Am
open Go
section
variable {E : Env} {ih : Cmd → AH → Res} {σ σ' : Sig} {H H' : AH} {w w' : World}
theorem Reach.weaken2 {P : Program} {e : AExit} {m : Machine} {b : Frame} {tmps : Array Value} {ds : List Deferred} {k : List Item} {x : Item} {cs : List Frame} {w : World}
    (hx : ∀ id, e = .exit id → exitTo id (x :: k) = exitTo id k) (he : e ≠ .normal) (h : Reach P e m b tmps ds (x :: k) cs w) : Reach P e m b tmps ds k cs w := by
  cases e with
  | normal => exact absurd rfl he
  | exit id =>
    refine ⟨fun k' hk => h.1 k' (by rw [hx _ rfl]; exact hk), fun hn => h.2 (by rw [hx _ rfl]; exact hn)⟩
  | ret => exact h
theorem code_stay {c : Code} {fr : Fr} {e : AExit} (h : ∀ (b : Frame) (tmps : Array Value) (ds : List Deferred) (k : List Item) (cs : List Frame) (w : World), Reach E.prog e (lone (Fm b tmps ds (lay c k)) cs w) b tmps ds k cs w) :
    CodeOK E c fr H e fr H :=
  fun _ σ w tmps _ _ hr hf _ _ b ds k cs _ _ hds => ⟨σ, w, tmps, ds, Step.refl hr, hf, rfl, hds, h b tmps ds k cs w⟩
theorem bool_eq {v : Value} {t : Bool} (h : VR σ (.bool t) v) : v = .bool t := by
  cases h with
  | leaf h0 => rfl
theorem ih_ex (io : IhOK E ih) {c : Code} {fr : Fr} {out : Out} (h : ih (.code c fr) H = some (out, H')) : ∃ e fr', out = .ex e fr' := by
  cases out with
  | ex e fr' => exact ⟨e, fr', rfl⟩
  | val v => exact absurd h (io.codev _ _ _ _ _)
theorem code_then (io : IhOK E ih) {c1 c2 : Code} {fr fr1 fr' : Fr} {H1 : AH} {e : AExit} (h1 : ih (.code c1 fr) H = some (.ex .normal fr1, H1)) (h2 : ih (.code c2 fr1) H1 = some (.ex e fr', H'))
    {c : Code} (hreg : regsOk c = true → regsOk c1 = true ∧ regsOk c2 = true) (x : Item) (hx : ∀ id k, exitTo id (x :: k) = exitTo id k)
    (hs : ∀ (b : Frame) (tmps : Array Value) (ds : List Deferred) (k : List Item) (cs : List Frame) (w : World), Steps E.prog (lone (Fm b tmps ds (lay c k)) cs w) (lone (Fm b tmps ds (.code c1 :: x :: k)) cs w))
    (hs2 : ∀ (b : Frame) (tmps : Array Value) (ds : List Deferred) (k : List Item) (cs : List Frame) (w : World), Steps E.prog (lone (Fm b tmps ds (x :: k)) cs w) (lone (Fm b tmps ds (lay c2 k)) cs w)) :
    CodeOK E c fr H e fr' H' := by
  intro hr0 σ w tmps n0 B0 hr hf hfree hn0 b ds k cs hk hro hds
  obtain ⟨r1, r2⟩ := hreg hr0
  have hup1 : H.next ≤ H1.next := io.up _ _ _ _ h1
  have hup2 : H1.next ≤ H'.next := io.up _ _ _ _ h2
  have hfree1 : Free σ H.next H1.next := fun c q1 q2 => hfree c q1 (by omega)
  obtain ⟨σ1, w1, tmps1, ds1, s1, f1, rd1, d1, e1⟩ := (io.code _ _ _ _ _ _ h1).lay r1 tmps n0 B0 hr hf hfree1 hn0 b ds (x :: k) cs hk hro hds
  obtain ⟨σ2, w2, tmps2, ds2, s2, f2, rd2, d2, e2⟩ := io.code _ _ _ _ _ _ h2 r2 σ1 w1 tmps1 n0 B0 s1.hr f1 (hfree.split s1.ext s1.next) (Nat.le_trans hn0 s1.size) b ds1 k cs hk (by rw [rd1]; exact hro) d1
  have e1' : Steps E.prog _ _ := e1
  exact ⟨σ2, w2, tmps2, ds2, s1.trans s2, f2, rd2.trans rd1, d2, .head ((hs b tmps ds k cs w).trans (e1'.trans (hs2 b tmps1 ds1 k cs w1))) e2⟩
theorem code_in (io : IhOK E ih) {c1 : Code} {fr fr' : Fr} {e e' : AExit} (h1 : ih (.code c1 fr) H = some (.ex e fr', H'))
    {c : Code} (hreg : regsOk c = true → regsOk c1 = true) (xs : List Item)
    (hs : ∀ (tmps : Array Value), (∀ σ : Sig, FrR σ fr tmps → ∀ (b : Frame) (ds : List Deferred) (k : List Item) (cs : List Frame) (w : World), HR E σ H w → Steps E.prog (lone (Fm b tmps ds (lay c k)) cs w) (lone (Fm b tmps ds (.code c1 :: xs ++ k)) cs w)))
    (hs2 : ∀ (m : Machine) (b : Frame) (tmps : Array Value) (ds : List Deferred) (k : List Item) (cs : List Frame) (w : World), Reach E.prog e m b tmps ds (xs ++ k) cs w → Reach E.prog e' m b tmps ds k cs w) :
    CodeOK E c fr H e' fr' H' := by
  intro hr0 σ w tmps n0 B0 hr hf hfree hn0 b ds k cs hk hro hds
  obtain ⟨σ1, w1, tmps1, ds1, s1, f1, rd1, d1, e1⟩ := (io.code _ _ _ _ _ _ h1).lay (hreg hr0) tmps n0 B0 hr hf hfree hn0 b ds (xs ++ k) cs hk hro hds
  exact ⟨σ1, w1, tmps1, ds1, s1, f1, rd1, d1, hs2 _ _ _ _ _ _ _ (.head (hs tmps σ hf b ds k cs w hr) e1)⟩
theorem code_ok (he : EOk E) (io : IhOK E ih) {c : Code} {fr : Fr} {out : Out} (h : body E ih (.code c fr) H = some (out, H')) : ∃ e fr', out = .ex e fr' ∧ CodeOK E c fr H e fr' H' := by
  cases c
  case skip =>
    cases h
    exact ⟨_, _, rfl, code_stay fun b tmps ds k cs w => .one fm_skip⟩
  case label l =>
    cases h
    exact ⟨_, _, rfl, code_stay fun b tmps ds k cs w => .one fm_label⟩
  case ret =>
    cases h
    exact ⟨_, _, rfl, code_stay fun b tmps ds k cs w => ⟨k, Steps.refl _ _⟩⟩
  case exit id =>
    cases h
    exact ⟨_, _, rfl, code_stay fun b tmps ds k cs w => ⟨fun k' hk => .one (fm_exit hk), fun hn => ⟨k, hn, Steps.refl _ _⟩⟩⟩
  case seq a b =>
    simp only [body] at h
    split at h
    · rename_i fr1 H1 h1
      obtain ⟨e, fr', rfl⟩ := ih_ex io h
      refine ⟨e, fr', rfl, code_then io h1 h (fun hr => by simpa [regsOk] using hr) (.code b) (fun id k => rfl) (fun b tmps ds k cs w => .one fm_seq) (fun b tmps ds k cs w => lay_steps _ _ _ _ _ _ _ _)⟩
    · rename_i hne
      obtain ⟨e, fr', rfl⟩ := ih_ex io h
      have hn : e ≠ .normal := fun hh => by subst hh; exact hne _ _ h
      exact ⟨e, fr', rfl, code_in io h (fun hr => by simp [regsOk] at hr; exact hr.1) [.code b] (fun tmps σ hf b ds k cs w hr => .one fm_seq) (fun m b tmps ds k cs w g => g.weaken (fun id => rfl) hn)⟩
  case cond cnd a b =>
    simp only [body] at h
    split at h
    · rename_i hev
      obtain ⟨e, fr', rfl⟩ := ih_ex io h
      refine ⟨e, fr', rfl, code_in io h (fun hr => by simp [regsOk] at hr; exact hr.1) [] (fun tmps σ hf b ds k cs w hr => .one ?_) (fun m b tmps ds k cs w g => g)⟩
      exact fm_cond (t := true) (bool_eq (ev_run (a := ⟨tmps, []⟩) he hr hf hev))
    · rename_i hev
      obtain ⟨e, fr', rfl⟩ := ih_ex io h
      refine ⟨e, fr', rfl, code_in io h (fun hr => by simp [regsOk] at hr; exact hr.2) [] (fun tmps σ hf b ds k cs w hr => .one ?_) (fun m b tmps ds k cs w g => g)⟩
      exact fm_cond (t := false) (bool_eq (ev_run (a := ⟨tmps, []⟩) he hr hf hev))
    · cases h
  case block id b =>
    simp only [body] at h
    split at h
    · rename_i id' fr1 H1 h1
      by_cases hid : id' = id
      · subst hid
        simp only [Nat.beq_refl, cond_true] at h
        cases h
        exact ⟨_, _, rfl, code_in io h1 (fun hr => hr) [.inBlock id'] (fun tmps σ hf b ds k cs w hr => .one fm_block) (fun m b tmps ds k cs w g => g.1 k (by simp [exitTo]))⟩
      · have hb : Nat.beq id' id = false := by
          cases hb : Nat.beq id' id with
          | false => rfl
          | true => exact absurd (Nat.eq_of_beq_eq_true hb) hid
        simp only [hb, cond_false] at h
        cases h
        refine ⟨_, _, rfl, code_in io h1 (fun hr => hr) [.inBlock id] (fun tmps σ hf b ds k cs w hr => .one fm_block) (fun m b tmps ds k cs w g => g.weaken2 (fun id2 e2 => ?_) (by simp))⟩
        cases e2
        have : (id == id') = false := by simpa using fun hh => hid hh.symm
        simp [exitTo, this]
    · rename_i hne
      obtain ⟨e, fr', rfl⟩ := ih_ex io h
      refine ⟨e, fr', rfl, code_in io h (fun hr => hr) [.inBlock id] (fun tmps σ hf b ds k cs w hr => .one fm_block) (fun m b tmps ds k cs w g => ?_)⟩
      cases e with
      | normal =>
        have g' : Steps E.prog _ _ := g
        exact g'.trans (.one fm_inBlock)
      | exit id' => exact absurd h (hne _ _ _)
      | ret => exact g
  case loop b =>
    simp only [body] at h
    split at h
    · rename_i fr1 H1 h1
      obtain ⟨e, fr', rfl⟩ := ih_ex io h
      exact ⟨e, fr', rfl, code_then io h1 h (fun hr => ⟨hr, hr⟩) (.inLoop b) (fun id k => rfl) (fun b tmps ds k cs w => Steps.refl _ _) (fun b tmps ds k cs w => .one fm_inLoop)⟩
    · rename_i hne
      obtain ⟨e, fr', rfl⟩ := ih_ex io h
      have hn : e ≠ .normal := fun hh => by subst hh; exact hne _ _ h
      exact ⟨e, fr', rfl, code_in io h (fun hr => hr) [.inLoop b] (fun tmps σ hf b ds k cs w hr => Steps.refl _ _) (fun m b tmps ds k cs w g => g.weaken (fun id => rfl) hn)⟩
  case scope b =>
    simp only [body] at h
    obtain ⟨e, fr', rfl⟩ := ih_ex io h
    refine ⟨e, fr', rfl, code_in io h (fun hr => hr) [.inScope b] (fun tmps σ hf b ds k cs w hr => .one fm_scope) (fun m b2 tmps ds k cs w g => ?_)⟩
    by_cases hn : e = .normal
    · subst hn
      have g' : Steps E.prog _ _ := g
      exact g'.trans (.one fm_inScope)
    · exact g.weaken (fun id => rfl) hn
  case region id ops draw =>
    simp only [body] at h
    have main : ∀ (ts : List (Nat × Nat)) (fr1 : Fr) (H1 : AH), runOps E ih ops draw ts ops.toList 0 fr H = some (fr1, H1) → some (Out.ex .normal fr1, H1) = some (out, H') → ∃ e fr', out = .ex e fr' ∧ CodeOK E (.region id ops draw) fr H e fr' H' := by
      intro ts fr1 H1 h1 h
      cases h
      refine ⟨_, _, rfl, ?_⟩
      intro hr0 σ w tmps n0 B0 hr hf hfree hn0 b ds k cs hk hro hds
      obtain ⟨σ', w', tmps', g1, g2, g3⟩ := region_sim he io.call io.round io.up (id := id) (fun hd => by simpa [regsOk, hd] using hr0) b ds k cs hk hro h1 hr hf hfree
      exact ⟨σ', w', tmps', ds, g1, g2, runOps_rd h1, hds.step hr g1, g3⟩
    split at h
    · rename_i fr1 H1 h1
      exact main _ _ _ h1 h
    · cases draw with
      | false => cases h
      | true =>
        simp only [cond_true] at h
        split at h
        · split at h
          · rename_i h1; exact main _ _ _ h1 h
          · split at h
            · rename_i h1; exact main _ _ _ h1 h
            · cases h
        · cases h
  case rangeFunc f params assign b =>
    simp only [body] at h
    exact range_ok he io h
  all_goals (simp only [body] at h; cases h)
theorem body_ok (he : EOk E) (io : IhOK E ih) : IhOK E (body E ih) where
  up := body_up io.up
  call f args H v H' h := by
    obtain ⟨v', e, g⟩ := call_ok he io h
    cases e; exact g
  round l args H v H' h := by
    have h' : roundA E ih l args H = some (.val v, H') := h
    obtain ⟨v', e, g⟩ := round_ok io h'
    cases e; exact g
  code c fr H e fr' H' h := by
    obtain ⟨e', fr'', e1, g⟩ := code_ok he io h
    cases e1; exact g
  codev c fr H v H' h := by
    obtain ⟨e', fr'', e1, g⟩ := code_ok he io h
    cases e1
theorem runF_ok (he : EOk E) : ∀ n, IhOK E (runF E n)
  | 0 => { up := runF_up E 0, call := fun _ _ _ _ _ h => (by cases h), round := fun _ _ _ _ _ h => (by cases h), code := fun _ _ _ _ _ _ h => (by cases h), codev := fun _ _ _ _ _ h => (by cases h) }
  | n + 1 => body_ok he (runF_ok he n)
end
end Go.Am
namespace Go.Am
open Go
def fieldsFrom (P : Program) (ts : T TI) : List TypeInfo → Nat → Bool
  | [], _ => true
  | _ :: is, n => (match P.underlying n with
    | some (.struct fs) => fs.toList.all fun f => (ts.get f.type).isSome
    | _ => true) && fieldsFrom P ts is (n + 1)
def envGood (P : Program) : Bool := P.follows .mixedOrders && fieldsFrom P (envOf P).types P.types.toList 0
theorem types_get {P : Program} : ∀ (is : List TypeInfo) (n : Nat) (t : T TI) (k : Nat) (ti : TI), (typesFrom P is n t).get k = some ti →
    t.get k = some ti ∨ ∃ i d, n ≤ k ∧ is[k - n]? = some i ∧ P.underlying k = some d ∧ ti = tiOf i d
  | [], n, t, k, ti, h => .inl h
  | i :: is, n, t, k, ti, h => by
    simp only [typesFrom] at h
    rcases types_get is (n + 1) _ k ti h with g | ⟨i', d, g1, g2, g3, g4⟩
    · split at g
      · rename_i d hd
        rw [T.get_put] at g
        split at g
        · rename_i e
          subst e
          cases g
          exact .inr ⟨i, d, Nat.le_refl _, by simp, hd, rfl⟩
        · exact .inl g
      · exact .inl g
    · refine .inr ⟨i', d, by omega, ?_, g3, g4⟩
      have : k - n = (k - (n + 1)) + 1 := by omega
      rw [this]; simpa using g2
theorem funcs_get : ∀ (fs : List Func) (n : Nat) (t : T Func) (k : Nat) (fn : Func), (funcsFrom fs n t).get k = some fn →
    t.get k = some fn ∨ (n ≤ k ∧ fs[k - n]? = some fn ∧ ∃ c, fn.body = some c ∧ fn.name ≠ "runtime.NumGoroutine" ∧ regsOk c = true)
  | [], n, t, k, fn, h => .inl h
  | f :: fs, n, t, k, fn, h => by
    simp only [funcsFrom] at h
    rcases funcs_get fs (n + 1) _ k fn h with g | ⟨g1, g2, g3⟩
    · split at g
      · rename_i c hc
        cases hb : (f.name == "runtime.NumGoroutine" || !regsOk c) with
        | true => rw [hb] at g; exact .inl g
        | false =>
          rw [hb] at g
          simp only [cond_false] at g
          rw [T.get_put] at g
          split at g
          · rename_i e
            subst e
            cases g
            simp only [Bool.or_eq_false_iff, Bool.not_eq_false'] at hb
            exact .inr ⟨Nat.le_refl _, by simp, c, hc, by simpa using hb.1, hb.2⟩
          · exact .inl g
      · exact .inl g
    · refine .inr ⟨by omega, ?_, g3⟩
      have : k - n = (k - (n + 1)) + 1 := by omega
      rw [this]; simpa using g2
theorem fields_get {P : Program} {ts : T TI} : ∀ (is : List TypeInfo) (n : Nat), fieldsFrom P ts is n = true → ∀ k fs, n ≤ k → k < n + is.length → P.underlying k = some (.struct fs) → ∀ f ∈ fs.toList, ∃ fi, ts.get f.type = some fi
  | [], n, h, k, fs, h1, h2, h3, f, hf => by simp at h2; omega
  | i :: is, n, h, k, fs, h1, h2, h3, f, hf => by
    simp only [fieldsFrom, Bool.and_eq_true] at h
    by_cases e : n = k
    · subst e
      have h1 := h.1
      rw [h3] at h1
      simp only [List.all_eq_true] at h1
      exact Option.isSome_iff_exists.1 (h1 f hf)
    · exact fields_get is (n + 1) h.2 k fs (by omega) (by simp at h2; omega) h3 f hf
theorem zero_cells {ag : Bool} {size : Nat} {v : Value} (h : zeroOk ag size v = true) : flatV v = true ∧ v.cells.toList.all oneCell = true ∧ v.cells.toList.length = size ∧
    (ag = true → v = .agg ⟨v.cells.toList⟩) ∧ (ag = false → v.cells.toList = [v]) := by
  simp only [zeroOk, Bool.and_eq_true] at h
  obtain ⟨⟨⟨h1, h2⟩, h3⟩, h4⟩ := h
  refine ⟨h1, h2, Nat.eq_of_beq_eq_true h3, fun e => ?_, fun e => ?_⟩
  · subst e
    cases v <;> simp at h4 <;> rfl
  · subst e
    cases v <;> simp [Value.cells] at h4 ⊢
theorem env_ok {P : Program} (h : envGood P = true) : EOk (envOf P) where
  types t ti ht := by
    rcases types_get _ _ _ _ _ ht with g | ⟨i, d, g1, g2, g3, rfl⟩
    · simp [T.get] at g
    · have g2' : P.types[t]? = some i := by simpa using g2
      have hlt := (Array.getElem?_eq_some_iff.1 g2').1
      have hi : P.info? t = some i := by
        show Tables.info? P.toTables t = some i
        unfold Tables.info?
        rw [if_pos hlt]; exact g2'
      refine ⟨i, hi, g3, rfl, rfl, ?_, rfl⟩
      intro z hz
      simp only [tiOf] at hz
      split at hz
      · rename_i v hv
        cases hzo : zeroOk (aggT d) i.size v with
        | false => rw [hzo] at hz; cases hz
        | true =>
          rw [hzo] at hz
          cases hz
          obtain ⟨a1, a2, a3, a4, a5⟩ := zero_cells hzo
          exact ⟨v, hv, a1, rfl, a2, a3, a4, a5⟩
      · cases hz
  funcs f fn hf := by
    rcases funcs_get _ _ _ _ _ hf with g | ⟨g1, g2, c, g3, g4, g5⟩
    · simp [T.get] at g
    · have g2' : P.funcs[f]? = some fn := by simpa using g2
      exact ⟨g2', by rw [g3]; rfl, g4⟩
  codes f fn c hf hc := by
    rcases funcs_get _ _ _ _ _ hf with g | ⟨g1, g2, c', g3, g4, g5⟩
    · simp [T.get] at g
    · rw [hc] at g3; cases g3; exact g5
  mixed := by
    simp only [envGood, Bool.and_eq_true] at h
    exact h.1
  ng := rfl
  fields t ti fs ht hd f hf := by
    rcases types_get _ _ _ _ _ ht with g | ⟨i, d, g1, g2, g3, rfl⟩
    · simp [T.get] at g
    · simp only [envGood, Bool.and_eq_true] at h
      have g2' : P.types[t]? = some i := by simpa using g2
      have hlt := (Array.getElem?_eq_some_iff.1 g2').1
      simp only [tiOf] at hd
      exact fields_get _ _ h.2 t fs (Nat.zero_le _) (by simpa using hlt) (by rw [g3, hd]) f hf
def heap0 (n : Nat) : AH := { blocks := .leaf, next := n, low := capX }
def isTrue (r : Res) : Bool := match r with
  | some (.val (.bool true), _) => true
  | _ => false
end Go.Am
namespace Go.Am
open Go
structure Kept (w w' : World) : Prop where
  size : w.heap.size ≤ w'.heap.size
  old : ∀ B, B < w.heap.size → w'.heap[B]? = w.heap[B]?
  tape : w'.tape = w.tape
  os : w'.os = w.os
  output : w'.output = w.output
section
variable {E : Env} {σ σ' : Sig} {H H' : AH} {w w' : World}
theorem Kept.refl (w : World) : Kept w w := ⟨Nat.le_refl _, fun _ _ => rfl, rfl, rfl, rfl⟩
theorem Kept.trans {a b c : World} (h : Kept a b) (g : Kept b c) : Kept a c :=
  ⟨Nat.le_trans h.size g.size, fun B hB => (g.old B (Nat.lt_of_lt_of_le hB h.size)).trans (h.old B hB), g.tape.trans h.tape, g.os.trans h.os, g.output.trans h.output⟩
theorem Step.kept (hr : HR E σ H w) (k : Kept w w') : Step E σ H w σ H w' :=
  have s := Step.refl hr
  { hr := ⟨fun b kk L hb hs => by
      obtain ⟨o, h1, h2⟩ := hr.objs b kk L hb hs
      exact ⟨o, by rw [k.old _ (hr.lt hb hs)]; exact h1, h2⟩, hr.sep, hr.glob, hr.wf⟩
    next := s.next, ext := s.ext, size := k.size, low := s.low, tape := k.tape, os := k.os, output := k.output, frame := fun B hB _ => k.old B hB,
    origin := s.origin, old := s.old, keep := s.keep, born := s.born }
abbrev Con := FuncId → List Value → AH → Option (Value × AH)
def ConOK (E : Env) (con : Con) : Prop := ∀ f args H v H', con f args H = some (v, H') → H.next ≤ H'.next ∧ CallOK E f args H v H'
theorem call_kept {f : FuncId} {args : List Value} {v : Value} (h : ∀ (σ : Sig) (w : World) (args' : List Value), HR E σ H w → VRs σ args args' → Calls E.prog f ⟨args'⟩ w fun e w' => ∃ v', e = .returned v' ∧ VR σ v v' ∧ Kept w w') :
    CallOK E f args H v H := by
  intro σ w args' hr hv _ cs
  obtain ⟨e, w', fr, ⟨v', h1, h2, h3⟩, h4⟩ := h σ w args' hr hv cs
  exact ⟨e, w', fr, ⟨σ, v', h1, h2, Step.kept hr h3⟩, h4⟩
end
end Go.Am
