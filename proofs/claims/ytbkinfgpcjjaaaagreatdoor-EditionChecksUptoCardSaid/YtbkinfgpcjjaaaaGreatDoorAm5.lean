/- Frames, single operations, hidden blocks. Conditions: none. -/
import Derived.Test.YtbkinfgpcjjaaaaGreatDoorAm4
set_option linter.all false
namespace Go.Am
open Go
def Fm (b : Frame) (tmps : Array Value) (ds : List Deferred) (todo : List Item) : Frame := { b with tmps := tmps, defers := ds, todo := todo, mode := .run }
def putC (tmps : Array Value) (dst : Option Tmp) (v : Value) : Array Value := match dst with
  | some d => tmps.setIfInBounds d v
  | none => tmps
theorem Fm_eval (b : Frame) (tmps : Array Value) (ds : List Deferred) (todo : List Item) (x : Operand) : (Fm b tmps ds todo).eval x = Act.eval ⟨tmps, []⟩ x := by cases x <;> rfl
theorem Fm_eval' (b : Frame) (tmps : Array Value) (ds : List Deferred) (todo : List Item) : (Fm b tmps ds todo).eval = Act.eval ⟨tmps, []⟩ := funext (Fm_eval b tmps ds todo)
section moves
variable {P : Program} {b : Frame} {tmps : Array Value} {ds : List Deferred} {k : List Item} {cs : List Frame} {w : World} {ops : Array Oper}
theorem fm_skip : step P (lone (Fm b tmps ds (.code .skip :: k)) cs w) = .next (lone (Fm b tmps ds k) cs w) :=
  step_lone_go (by simp [stepG, stepG.exec, Fm])
theorem fm_label {l : Nat} : step P (lone (Fm b tmps ds (.code (.label l) :: k)) cs w) = .next (lone (Fm b tmps ds k) cs w) :=
  step_lone_go (by simp [stepG, stepG.exec, Fm])
theorem fm_inBlock {id : Nat} : step P (lone (Fm b tmps ds (.inBlock id :: k)) cs w) = .next (lone (Fm b tmps ds k) cs w) :=
  step_lone_go (by simp [stepG, stepG.exec, Fm])
theorem fm_inScope {c : Code} : step P (lone (Fm b tmps ds (.inScope c :: k)) cs w) = .next (lone (Fm b tmps ds k) cs w) :=
  step_lone_go (by simp [stepG, stepG.exec, Fm])
theorem fm_seq {x y : Code} : step P (lone (Fm b tmps ds (.code (.seq x y) :: k)) cs w) = .next (lone (Fm b tmps ds (.code x :: .code y :: k)) cs w) :=
  step_lone_go (by simp [stepG, stepG.exec, Fm])
theorem fm_cond {c : Operand} {x y : Code} {t : Bool} (h : Act.eval ⟨tmps, []⟩ c = .bool t) :
    step P (lone (Fm b tmps ds (.code (.cond c x y) :: k)) cs w) = .next (lone (Fm b tmps ds (.code (if t then x else y) :: k)) cs w) :=
  step_lone_go (by
    have := Fm_eval b tmps ds (.code (.cond c x y) :: k) c
    rw [h] at this
    simp only [Fm] at this
    simp [stepG, stepG.exec, Fm, this])
theorem fm_block {id : Nat} {c : Code} : step P (lone (Fm b tmps ds (.code (.block id c) :: k)) cs w) = .next (lone (Fm b tmps ds (.code c :: .inBlock id :: k)) cs w) :=
  step_lone_go (by simp [stepG, stepG.exec, Fm])
theorem fm_scope {c : Code} : step P (lone (Fm b tmps ds (.code (.scope c) :: k)) cs w) = .next (lone (Fm b tmps ds (.code c :: .inScope c :: k)) cs w) :=
  step_lone_go (by simp [stepG, stepG.exec, Fm])
theorem fm_loop {c : Code} : step P (lone (Fm b tmps ds (.code (.loop c) :: k)) cs w) = .next (lone (Fm b tmps ds (.code c :: .inLoop c :: k)) cs w) :=
  step_lone_go (by simp [stepG, stepG.exec, Fm])
theorem fm_inLoop {c : Code} : step P (lone (Fm b tmps ds (.inLoop c :: k)) cs w) = .next (lone (Fm b tmps ds (.code c :: .inLoop c :: k)) cs w) :=
  step_lone_go (by simp [stepG, stepG.exec, Fm])
theorem fm_exit {id : Nat} {k' : List Item} (h : exitTo id k = some k') : step P (lone (Fm b tmps ds (.code (.exit id) :: k)) cs w) = .next (lone (Fm b tmps ds k') cs w) :=
  step_lone_go (by simp [stepG, stepG.exec, Fm, h])
theorem fm_region {id : Nat} : step P (lone (Fm b tmps ds (.code (.region id ops false) :: k)) cs w) = .next (lone (Fm b tmps ds (.inRegion ops (List.range ops.size) :: k)) cs w) :=
  step_lone_go (by simp [stepG, stepG.exec, Fm])
theorem fm_region_draw {id : Nat} : step P (lone (Fm b tmps ds (.code (.region id ops true) :: k)) cs w) =
    .next (lone (Fm b tmps ds (.inRegion ops (Region.schedule (P.follows .mixedOrders) ops (w.tape w.drawn (.order b.fn id))) :: k)) cs { w with drawn := w.drawn + 1 }) :=
  step_lone_go (by simp [stepG, stepG.exec, Fm, choose, Sem.run, Question.forced, Question.cut])
theorem fm_region_end : step P (lone (Fm b tmps ds (.inRegion ops [] :: k)) cs w) = .next (lone (Fm b tmps ds k) cs w) :=
  step_lone_go (by simp [stepG, stepG.exec, Fm])
theorem fm_finish {i : Nat} {rest : List Nat} {o : Oper} (ho : ops[i]? = some o) (v : Value) :
    (Fm b tmps ds (.inRegion ops (i :: rest) :: k)).finish v = Fm b (putC tmps o.dst v) ds (.inRegion ops rest :: k) := by
  cases hd : o.dst <;> simp [Frame.finish, Fm, putC, ho, hd]
theorem fm_op_skip {i : Nat} {rest : List Nat} {o : Oper} (ho : ops[i]? = some o) (h : Region.wanted o (yielded ops tmps) = false) :
    step P (lone (Fm b tmps ds (.inRegion ops (i :: rest) :: k)) cs w) = .next (lone (Fm b (putC tmps o.dst undef) ds (.inRegion ops rest :: k)) cs w) := by
  rw [← fm_finish ho]
  exact step_lone_go (by
    simp only [Fm]
    simp [stepG, stepG.exec, ho, h])
theorem fm_op {i : Nat} {rest : List Nat} {o : Oper} (ho : ops[i]? = some o) (hw : Region.wanted o (yielded ops tmps) = true) (hd : ∀ c, o.op ≠ .defer c) :
    stepG P true { frame := Fm b tmps ds (.inRegion ops (i :: rest) :: k), callers := cs, status := .running, dying := none } w =
      stepG.apply P true (Fm b tmps ds (.inRegion ops (i :: rest) :: k)) cs none (execOp (Act.eval ⟨tmps, []⟩) o) w := by
  have he := Fm_eval' b tmps ds (.inRegion ops (i :: rest) :: k)
  simp only [Fm] at he
  simp only [Fm]
  have : ∀ (r : Option Nat) (x y : GStep) (f : Nat → Call → GStep), (match r, o.op with | some l, .defer c => f l c | _, _ => x) = x := by
    intro r x y f
    cases r with
    | none => rfl
    | some l => cases hop : o.op <;> first | rfl | exact absurd hop (hd _)
  cases hr : b.roundOf with
  | none =>
    simp only [hr] at he
    simp [stepG, stepG.exec, stepG.oper, Frame.oper?, ho, hw, he, hr]
  | some l =>
    simp only [stepG, stepG.exec, stepG.oper, Frame.oper?, ho, hw, hr]
    simp [ho, hw, hr, he]
    cases hop : o.op <;> first | rfl | exact absurd hop (hd _)
end moves
section
variable {E : Env} {σ : Sig} {H : AH} {w : World}
def CallOK (E : Env) (f : FuncId) (args : List Value) (H : AH) (v : Value) (H' : AH) : Prop :=
  ∀ (σ : Sig) (w : World) (args' : List Value), HR E σ H w → VRs σ args args' → Free σ H.next H'.next →
    Calls E.prog f ⟨args'⟩ w fun e w' => ∃ σ' v', e = .returned v' ∧ VR σ' v v' ∧ Step E σ H w σ' H' w'
def RoundOK (E : Env) (l : Nat) (args : List Value) (H : AH) (v : Value) (H' : AH) : Prop :=
  ∀ (σ : Sig) (w : World) (args' : List Value) (L : Loc) (lo : Loop), HR E σ H w → VRs σ args args' → Free σ H.next H'.next → σ l = some L → w.heap[L.blk]? = some (.loop lo) →
    args'.length = lo.params.size →
    ∀ (c : Frame) (cs : List Frame), ∃ σ' w' v', VR σ' v v' ∧ Step E σ H w σ' H' w' ∧
      Steps E.prog (lone (Frame.round L.blk lo.fn ((lo.params.zip ⟨args'⟩).foldl (fun tmps (t, a) => tmps.setIfInBounds t a) lo.tmps) lo.assign lo.body .normal) (c :: cs) w) (lone (c.finish v') cs w')
theorem exec_sim (he : EOk E) {ih : Cmd → AH → Res} (hc : ∀ f args H v H', ih (.call f args) H = some (.val v, H') → CallOK E f args H v H')
    (hro : ∀ l args H v H', ih (.round l args) H = some (.val v, H') → RoundOK E l args H v H')
    (hn : ∀ f args H v H', ih (.call f args) H = some (.val v, H') → H.next ≤ H'.next) (hn2 : ∀ f args H v H', ih (.round f args) H = some (.val v, H') → H.next ≤ H'.next)
    {fr : Fr} {o : Oper} {v : Value} {H' : AH} {ops : Array Oper} {i : Nat} {tmps : Array Value}
    (h : execA E ih fr o H = some (v, H')) (hr : HR E σ H w) (hf : Free σ H.next H'.next) (hev : ∀ x ∈ o.op.operands.toList, ∀ v, ev E fr x = some v → VR σ v (Act.eval ⟨tmps, []⟩ x))
    (ho : ops[i]? = some o) (hw : Region.wanted o (yielded ops tmps) = true) (b : Frame) (ds : List Deferred) (rest : List Nat) (k : List Item) (cs : List Frame) :
    ∃ σ' w' v', VR σ' v v' ∧ Step E σ H w σ' H' w' ∧
      Steps E.prog (lone (Fm b tmps ds (.inRegion ops (i :: rest) :: k)) cs w) (lone (Fm b (putC tmps o.dst v') ds (.inRegion ops rest :: k)) cs w') := by
  have hd : ∀ c, o.op ≠ .defer c := by
    intro c e
    simp [execA, aop, e] at h
  have hg := fm_op (P := E.prog) (b := b) (tmps := tmps) (ds := ds) (k := k) (cs := cs) (w := w) (rest := rest) ho hw hd
  have hsim := aop_sim (a := ⟨tmps, []⟩) he hr o hev
  unfold execA at h
  split at h
  · cases h
  · rename_i v1 H1 h1
    cases h
    obtain ⟨σ', w', nx, r1, r2, r3⟩ := hsim _ _ h1 hf
    cases nx <;> simp only [ARR] at r3
    rename_i v'
    refine ⟨σ', w', v', r3, r2, .one (step_lone_go ?_)⟩
    rw [hg, ← fm_finish ho]; simp [stepG.apply, r1]
  · rename_i H1 h1
    cases h
    obtain ⟨σ', w', nx, r1, r2, r3⟩ := hsim _ _ h1 hf
    cases nx <;> simp only [ARR] at r3
    refine ⟨σ', w', undef, .tuple .nil, r2, .one (step_lone_go ?_)⟩
    rw [hg, ← fm_finish ho]; simp [stepG.apply, r1]
  · cases h
  · rename_i f args H1 h1
    split at h
    case h_2 => cases h
    rename_i v1 H2 h2
    cases h
    have hle := hn _ _ _ _ _ h2
    have hfree1 : Free σ H.next H1.next := fun b h1 h2 => hf b h1 (by omega)
    obtain ⟨σ1, w1, nx, r1, r2, r3⟩ := hsim _ _ h1 hfree1
    cases nx <;> simp only [ARR] at r3
    rename_i f' args'
    obtain ⟨rfl, r4, fn, hfn⟩ := r3
    have hcall := hc _ _ _ _ _ h2 σ1 w1 args'.toList r2.hr r4 (hf.split r2.ext r2.next) (Fm b tmps ds (.inRegion ops (i :: rest) :: k) :: cs)
    obtain ⟨e, w2, fr2, ⟨σ2, v', rfl, q1, q2⟩, q3, _, q4⟩ := hcall
    refine ⟨σ2, w2, v', q1, r2.trans q2, .head (step_lone_go ?_) (q3.trans (.one ?_))⟩
    · rw [hg]; simp [stepG.apply, r1, Fm]
    · rw [← fm_finish ho]; exact step_leave_returned q4
  · rename_i l args H1 h1
    split at h
    case h_2 => cases h
    rename_i v1 H2 h2
    cases h
    have hle := hn2 _ _ _ _ _ h2
    have hfree1 : Free σ H.next H1.next := fun b h1 h2 => hf b h1 (by omega)
    obtain ⟨σ1, w1, nx, r1, r2, r3⟩ := hsim _ _ h1 hfree1
    simp only [ARR] at r3
    obtain ⟨L, lo, args', s1, s2, s3, s4, rfl⟩ := r3
    obtain ⟨σ2, w2, v', q1, q2, q3⟩ := hro _ _ _ _ _ h2 σ1 w1 args' L lo r2.hr s3 (hf.split r2.ext r2.next) s1 s2 s4 (Fm b tmps ds (.inRegion ops (i :: rest) :: k)) cs
    refine ⟨σ2, w2, v', q1, r2.trans q2, .head (step_lone_go ?_) (by rw [← fm_finish ho]; exact q3)⟩
    rw [hg]; simp [stepG.apply, r1, Fm]
def NoRec (b : Frame) (cs : List Frame) : Prop := b.kind = .normal ∨ (b.kind = .deferred ∧ ∃ c r, cs = c :: r ∧ c.mode = .returning)
theorem noRec_try {b fr : Frame} {cs : List Frame} (h : NoRec b cs) (hk : fr.kind = b.kind) : tryRecover fr cs = none := by
  rcases h with h | ⟨h, c, r, rfl, hm⟩
  · unfold tryRecover
    rw [hk, h]
  · unfold tryRecover
    rw [hk, h]
    simp only [hm]
theorem execR_sim (he : EOk E) {ih : Cmd → AH → Res} (hc : ∀ f args H v H', ih (.call f args) H = some (.val v, H') → CallOK E f args H v H')
    (hro : ∀ l args H v H', ih (.round l args) H = some (.val v, H') → RoundOK E l args H v H')
    (hn : ∀ f args H v H', ih (.call f args) H = some (.val v, H') → H.next ≤ H'.next) (hn2 : ∀ f args H v H', ih (.round f args) H = some (.val v, H') → H.next ≤ H'.next)
    {fr : Fr} {o : Oper} {v : Value} {H' : AH} {ops : Array Oper} {i : Nat} {tmps : Array Value}
    (h : execR E ih fr o H = some (v, H')) (hr : HR E σ H w) (hf : Free σ H.next H'.next) (hev : ∀ x ∈ o.op.operands.toList, ∀ v, ev E fr x = some v → VR σ v (Act.eval ⟨tmps, []⟩ x))
    (ho : ops[i]? = some o) (hw : Region.wanted o (yielded ops tmps) = true) (b : Frame) (ds : List Deferred) (rest : List Nat) (k : List Item) (cs : List Frame) (hk : NoRec b cs) (hrd : fr.rd = false → b.roundOf = none) :
    ∃ σ' w' v', VR σ' v v' ∧ Step E σ H w σ' H' w' ∧
      Steps E.prog (lone (Fm b tmps ds (.inRegion ops (i :: rest) :: k)) cs w) (lone (Fm b (putC tmps o.dst v') ds (.inRegion ops rest :: k)) cs w') := by
  unfold execR at h
  split at h
  · rename_i H1 h1
    cases hrd0 : fr.rd with
    | true => rw [hrd0] at h; cases h
    | false =>
      rw [hrd0] at h
      cases h
      have hd : ∀ c, o.op ≠ .defer c := by
        intro c e
        simp [aop, e] at h1
      have hg := fm_op (P := E.prog) (b := b) (tmps := tmps) (ds := ds) (k := k) (cs := cs) (w := w) (rest := rest) ho hw hd
      obtain ⟨σ', w', nx, r1, r2, r3⟩ := aop_sim (a := ⟨tmps, []⟩) he hr o hev _ _ h1 hf
      cases nx <;> simp only [ARR] at r3
      have htry := noRec_try (fr := Fm b tmps ds (.inRegion ops (i :: rest) :: k)) hk rfl
      have hro0 : (Fm b tmps ds (.inRegion ops (i :: rest) :: k)).roundOf = none := hrd hrd0
      refine ⟨σ', w', .nilIface, .leaf rfl, r2, .one (step_lone_go ?_)⟩
      rw [hg, ← fm_finish ho]
      simp [stepG.apply, r1, hro0, htry]
  · exact exec_sim he hc hro hn hn2 h hr hf hev ho hw b ds rest k cs
end
end Go.Am
namespace Go.Am
open Go
theorem hideT_get : ∀ (W : List Nat) (t : T ABlk) (b : Nat), (hideT t W).get b = if b ∈ W then none else t.get b
  | [], t, b => by simp [hideT]
  | c :: W, t, b => by
    rw [hideT, hideT_get W, T.get_put]
    by_cases h : b ∈ W
    · simp [h]
    · by_cases e : b = c
      · simp [e]
      · simp [h, e]
theorem restoreT_get (t0 : T ABlk) : ∀ (W : List Nat) (t : T ABlk) (b : Nat), (restoreT t t0 W).get b = if b ∈ W then t0.get b else t.get b
  | [], t, b => by simp [restoreT]
  | c :: W, t, b => by
    rw [restoreT, restoreT_get t0 W, T.get_put]
    by_cases h : b ∈ W
    · simp [h]
    · by_cases e : b = c
      · subst e; simp [h]
      · simp [h, e]
section
variable {E : Env} {σ σ' : Sig} {H Q H' : AH} {w w' : World}
theorem HR.hide (hr : HR E σ H w) (W : List Nat) : HR E σ (hideH H W) w := by
  have g : ∀ b k, (hideH H W).blocks.get b = some k → H.blocks.get b = some k := by
    intro b k h
    rw [show (hideH H W).blocks = hideT H.blocks W from rfl, hideT_get] at h
    split at h
    · cases h
    · exact h
  exact ⟨fun b k L hb => hr.objs b k L (g b k hb), fun b₁ b₂ k₁ k₂ L₁ L₂ h1 h2 => hr.sep b₁ b₂ k₁ k₂ L₁ L₂ (g _ _ h1) (g _ _ h2), hr.glob, fun b k hb => hr.wf b k (g b k hb)⟩
theorem HR.lt (hr : HR E σ H w) {b : Nat} {k : ABlk} {L : Loc} (hb : H.blocks.get b = some k) (hs : σ b = some L) : L.blk < w.heap.size := by
  obtain ⟨o', h1, _⟩ := hr.objs b k L hb hs
  exact (Array.getElem?_eq_some_iff.1 h1).1
theorem Step.p1 (hr : HR E σ H w) (s : Step E σ H w σ' H' w') (hp : H.next ≤ H'.low) : ∀ B, B < w.heap.size → w'.heap[B]? = w.heap[B]? :=
  fun B hB => s.frame B hB fun b k _ hb _ _ hl => absurd (hr.wf b k hb) (by omega)
theorem Step.p2 (hr : HR E σ H w) (s : Step E σ H w σ' H' w') (hp : H.next ≤ H'.low) : ∀ b, b < H.next → H'.blocks.get b = H.blocks.get b := by
  intro b hb
  cases h : H.blocks.get b with
  | some k => exact s.keep b k h (by have := hr.wf b k h; omega)
  | none =>
    cases h' : H'.blocks.get b with
    | none => rfl
    | some k =>
      obtain ⟨k₀, h0, _⟩ := s.old b k h' hb
      rw [h] at h0; cases h0
theorem Step.p3 (hr : HR E σ H w) (s : Step E σ H w σ' H' w') (hp : H.next ≤ H'.low) : ∀ b k L, H.next ≤ b → H'.blocks.get b = some k → σ' b = some L → w.heap.size ≤ L.blk := by
  intro b k L hb hk hs
  obtain ⟨h1, h2⟩ := s.born b k hk hb
  rcases s.origin b k L hk h2 hs with h | ⟨b₀, k₀, L₀, g1, _, _, _, g5⟩
  · exact h
  · have := hr.wf b₀ k₀ g1
    omega
theorem Step.restore {W : List Nat} (hr : HR E σ H w) (hf : Free σ H.next Q.next) (s : Step E σ (hideH H W) w σ' Q w') (hp : H.next ≤ Q.low) : Step E σ H w σ' (restoreH H Q W) w' := by
  have hr' := hr.hide W
  have hp' : (hideH H W).next ≤ Q.low := hp
  have p1 := s.p1 hr' hp'
  have p2 := s.p2 hr' hp'
  have p3 := s.p3 hr' hp'
  have gR : ∀ b, (restoreH H Q W).blocks.get b = if b ∈ W then H.blocks.get b else Q.blocks.get b := fun b => restoreT_get _ _ _ _
  have gold : ∀ b, b < H.next → (restoreH H Q W).blocks.get b = H.blocks.get b := by
    intro b hb
    rw [gR]
    split
    · rfl
    · rename_i hW
      rw [p2 b hb]
      show (hideT H.blocks W).get b = _
      rw [hideT_get, if_neg hW]
  have gnew : ∀ b k, H.next ≤ b → (restoreH H Q W).blocks.get b = some k → Q.blocks.get b = some k := by
    intro b k hb hk
    rw [gR] at hk
    split at hk
    · have := (hr.wf b k hk).2; omega
    · exact hk
  have hext : ∀ b, b < H.next → σ' b = σ b := fun b hb => s.ext b (.inl hb)
  have hle : Sig.le σ σ' := s.le hf
  refine { hr := ?_, next := s.next, ext := s.ext, size := s.size, low := Nat.min_le_left _ _, tape := s.tape, os := s.os, output := s.output, frame := fun B hB _ => p1 B hB,
           origin := ?_, old := ?_, keep := ?_, born := ?_ }
  · refine { objs := ?_, sep := ?_, glob := s.hr.glob, wf := ?_ }
    · intro b k L hb hs
      by_cases h : b < H.next
      · rw [gold b h] at hb
        rw [hext b h] at hs
        obtain ⟨o, h1, h2⟩ := hr.objs b k L hb hs
        exact ⟨o, by rw [p1 _ (hr.lt hb hs)]; exact h1, h2.mono hle⟩
      · exact s.hr.objs b k L (gnew b k (by omega) hb) hs
    · intro b₁ b₂ k₁ k₂ L₁ L₂ h1 h2 ho hs1 hs2 hne
      by_cases g1 : b₁ < H.next
      · rw [gold b₁ g1] at h1; rw [hext b₁ g1] at hs1
        by_cases g2 : b₂ < H.next
        · rw [gold b₂ g2] at h2; rw [hext b₂ g2] at hs2
          exact hr.sep b₁ b₂ k₁ k₂ L₁ L₂ h1 h2 ho hs1 hs2 hne
        · have := p3 b₂ k₂ L₂ (Nat.le_of_not_lt g2) (gnew b₂ k₂ (by omega) h2) hs2
          have := hr.lt h1 hs1
          omega
      · have q1 := gnew b₁ k₁ (by omega) h1
        by_cases g2 : b₂ < H.next
        · rw [gold b₂ g2] at h2; rw [hext b₂ g2] at hs2
          have := p3 b₁ k₁ L₁ (Nat.le_of_not_lt g1) q1 hs1
          have := hr.lt h2 hs2
          omega
        · exact s.hr.sep b₁ b₂ k₁ k₂ L₁ L₂ q1 (gnew b₂ k₂ (by omega) h2) ho hs1 hs2 hne
    · intro b k hb
      by_cases h : b < H.next
      · rw [gold b h] at hb
        have := hr.wf b k hb
        exact ⟨this.1, Nat.lt_of_lt_of_le this.2 s.next⟩
      · exact s.hr.wf b k (gnew b k (by omega) hb)
  · intro b k L hb ho hs
    by_cases h : b < H.next
    · rw [gold b h] at hb; rw [hext b h] at hs
      exact .inr ⟨b, k, L, hb, ho, hs, rfl, rfl⟩
    · exact .inl (p3 b k L (Nat.le_of_not_lt h) (gnew b k (by omega) hb) hs)
  · intro b k hb h
    rw [gold b h] at hb
    exact ⟨k, hb, rfl, rfl⟩
  · intro b k hb _
    rw [gold b (hr.wf b k hb).2]; exact hb
  · intro b k hb h
    obtain ⟨g1, g2⟩ := s.born b k (gnew b k h hb) h
    exact ⟨g1.imp id fun g => Nat.le_trans (Nat.min_le_right _ _) g, g2⟩
theorem put_rel {fr fr' : Fr} {tmps : Array Value} {dst : Option Tmp} {v v' : Value} (hf : FrR σ fr tmps) (h : putA fr dst v = some fr') (hv : VR σ v v') : FrR σ fr' (putC tmps dst v') := by
  unfold putA at h
  cases dst with
  | none => cases h; exact hf
  | some d =>
    simp only [bif_ble] at h
    split at h
    case isFalse => cases h
    rename_i hlt
    cases h
    refine ⟨by simp [putC, hf.1], fun t u hu => ?_⟩
    have hsz := hf.1
    simp only [T.get_put] at hu
    simp only [putC]
    by_cases e : t = d
    · subst e
      rw [if_pos rfl] at hu; cases hu
      have : (tmps.setIfInBounds t v').getD t undef = v' := by simp [Array.getD, show t < tmps.size by omega]
      rw [this]; exact hv
    · rw [if_neg e] at hu
      have : (tmps.setIfInBounds d v').getD t undef = tmps.getD t undef := by
        have e' : ¬ d = t := fun h => e h.symm
        simp [Array.getElem?_setIfInBounds, e']
      rw [this]; exact hf.2 t u hu
theorem VR.bool_iff {v v' : Value} (h : VR σ v v') (b : Bool) : v' = .bool b → v = .bool b := by
  intro e; subst e; cases h; rfl
theorem yielded_rel {ops : Array Oper} {fr : Fr} {tmps : Array Value} {j : Nat} {r : Option Bool} (h : yieldedA ops fr j = some r)
    (hf : ∀ d, ((ops[j]?).bind (·.dst)) = some d → ∀ v, fr.t.get d = some v → VR σ v (tmps.getD d undef)) : yielded ops tmps j = r := by
  unfold yieldedA at h
  split at h
  · rename_i d op ty pos af gd hl
    have hj : ops[j]? = some { dst := some d, op := op, type := ty, pos := pos, after := af, guard := gd } := by simpa using hl
    have hrel := hf d (by simp [hj])
    have hy : yielded ops tmps j = match tmps[d]? with | some (.bool b) => some b | _ => none := by simp [yielded, hj]; rfl
    have hgd : tmps.getD d undef = (tmps[d]?).getD undef := by simp
    rw [hgd] at hrel
    rw [hy]
    split at h
    · rename_i b hv
      cases h
      have hc := (hrel _ hv).bool_inv
      cases ht : tmps[d]? with
      | none => rw [ht] at hc; simp [undef] at hc
      | some u => rw [ht] at hc; simp at hc; subst hc; rfl
    · rename_i v hnb hv
      cases h
      have hvr := hrel v hv
      cases ht : tmps[d]? with
      | none => rfl
      | some u =>
        rw [ht] at hvr
        cases u <;> first | rfl | (have := hvr.bool_iff _ rfl; subst this; exact (hnb _ rfl).elim)
    · cases h
  · rename_i hl
    cases h
    cases hj : ops[j]? with
    | none => simp [yielded, hj]
    | some oj =>
      have hl' : ops.toList[j]? = some oj := by simpa using hj
      cases hdst : oj.dst with
      | none => simp [yielded, hj, hdst]
      | some d => exact absurd hl' (by intro e; exact hl d oj.op oj.type oj.pos oj.after oj.guard (by rw [e, ← hdst]))
theorem wanted_rel {ops : Array Oper} {fr : Fr} {tmps : Array Value} {o : Oper} {b : Bool} (h : wantedA ops fr o = some b)
    (hf : ∀ j want, o.guard = some (j, want) → ∀ d, ((ops[j]?).bind (·.dst)) = some d → ∀ v, fr.t.get d = some v → VR σ v (tmps.getD d undef)) :
    Region.wanted o (yielded ops tmps) = b := by
  unfold wantedA at h
  unfold Region.wanted
  split at h
  · rename_i hg
    simp only [hg]; cases h; rfl
  · rename_i j want hg
    simp only [hg]
    split at h
    · rename_i c hy
      cases h
      rw [yielded_rel hy (hf j want hg)]
      rfl
    · rename_i hy
      cases h
      rw [yielded_rel hy (hf j want hg)]
      rfl
    · cases h
end
end Go.Am
namespace Go.Am
open Go
inductive Anc (ops : List Oper) : Nat → Nat → Prop
  | edge {p i : Nat} {o : Oper} (h : ops[i]? = some o) (hp : p ∈ preds o) : Anc ops p i
  | trans {a p i : Nat} {o : Oper} (h : ops[i]? = some o) (hp : p ∈ preds o) (ha : Anc ops a p) : Anc ops a i
theorem mask_bit (acc : List Nat) (j : Nat) : ∀ (ps : List Nat) (m : Nat), (maskOf acc ps m).testBit j = true → m.testBit j = true ∨ ∃ p ∈ ps, j = p ∨ (acc.getD p 0).testBit j = true
  | [], m, h => .inl h
  | p :: ps, m, h => by
    simp only [maskOf] at h
    rcases mask_bit acc j ps _ h with h | ⟨q, hq, h⟩
    · have e1 : Nat.lor m (Nat.lor (Nat.shiftLeft 1 p) (acc.getD p 0)) = m ||| (1 <<< p ||| acc.getD p 0) := rfl
      rw [e1, Nat.testBit_or, Nat.testBit_or, Bool.or_eq_true, Bool.or_eq_true] at h
      rcases h with h | h | h
      · exact .inl h
      · refine .inr ⟨p, by simp, .inl ?_⟩
        rw [Nat.one_shiftLeft, Nat.testBit_two_pow] at h
        exact (of_decide_eq_true h).symm
      · exact .inr ⟨p, by simp, .inr h⟩
    · exact .inr ⟨q, by simp [hq], h⟩
theorem getD_out {l : List Nat} {i : Nat} (h : l.length ≤ i) : l.getD i 0 = 0 := by
  simp [List.getD, List.getElem?_eq_none h]
theorem getD_app {l r : List Nat} {i : Nat} (h : i < l.length) : (l ++ r).getD i 0 = l.getD i 0 := by
  simp [List.getD, List.getElem?_append_left h]
theorem masksFrom_anc (all : List Oper) : ∀ (os : List Oper) (acc : List Nat), (∀ i, i < acc.length → ∀ j, (acc.getD i 0).testBit j = true → Anc all j i) → all.drop acc.length = os →
    ∀ i j, ((masksFrom acc os).getD i 0).testBit j = true → Anc all j i
  | [], acc, h, _, i, j, hb => by
    simp only [masksFrom] at hb
    by_cases hi : i < acc.length
    · exact h i hi j hb
    · rw [getD_out (by omega)] at hb
      simp at hb
  | o :: os, acc, h, hd, i, j, hb => by
    simp only [masksFrom] at hb
    have ho : all[acc.length]? = some o := by
      have := congrArg (·[0]?) hd
      simpa using this
    refine masksFrom_anc all os _ ?_ ?_ i j hb
    · intro i hi j hb
      simp only [List.length_append, List.length_cons, List.length_nil] at hi
      by_cases hlt : i < acc.length
      · refine h i hlt j ?_
        rwa [getD_app hlt] at hb
      · have hie : i = acc.length := by omega
        subst hie
        have e : (acc ++ [maskOf acc (preds o) 0]).getD acc.length 0 = maskOf acc (preds o) 0 := by simp
        rw [e] at hb
        rcases mask_bit acc j _ _ hb with h0 | ⟨p, hp, rfl | h1⟩
        · simp at h0
        · exact .edge ho hp
        · by_cases hpl : p < acc.length
          · exact .trans ho hp (h p hpl j h1)
          · rw [getD_out (by omega)] at h1
            simp at h1
    · have := congrArg (List.drop 1) hd
      rw [List.drop_drop] at this
      simpa using this
theorem before_anc {ops : List Oper} {i j : Nat} (h : before (masks ops) j i = true) : Anc ops j i :=
  masksFrom_anc ops ops [] (by simp) (by simp) i j h
theorem tied_anc {ops : List Oper} {i j : Nat} (h : tied (masks ops) j i = true) : (j < i → Anc ops j i) ∧ (¬ j < i → Anc ops i j) := by
  unfold tied at h
  cases hb : Nat.blt j i with
  | true =>
    rw [hb, cond_true] at h
    have : j < i := Nat.le_of_ble_eq_true hb
    exact ⟨fun _ => before_anc h, fun h' => absurd this h'⟩
  | false =>
    rw [hb, cond_false] at h
    have : ¬ j < i := fun hlt => by
      have : Nat.blt j i = true := Nat.ble_eq_true_of_le hlt
      rw [this] at hb; cases hb
    exact ⟨fun h' => absurd h' this, fun _ => before_anc h⟩
theorem fences_self {ops : List Oper} {i : Nat} (h : fences ops i = true) : blindAt ops i = false := by
  unfold fences at h
  simp only [Bool.and_eq_true, Bool.not_eq_true'] at h
  exact h.1
theorem fences_tied {ops : List Oper} {i : Nat} (h : fences ops i = true) {j : Nat} (hj : j < ops.length) (hne : j ≠ i) (hb : blindAt ops j = false) : tied (masks ops) j i = true := by
  unfold fences at h
  simp only [Bool.and_eq_true, List.all_eq_true, List.mem_range, Bool.or_eq_true] at h
  rcases h.2 j hj with (h | h) | h
  · exact absurd (Nat.eq_of_beq_eq_true h) hne
  · exact h
  · rw [hb] at h; cases h
theorem regOk_down {ops : List Oper} (h : regOk ops = true) {i p : Nat} {o : Oper} (ho : ops[i]? = some o) (hp : p ∈ preds o) : p < i := by
  unfold regOk at h
  simp only [List.all_eq_true, Bool.and_eq_true] at h
  have hm : (o, i) ∈ ops.zipIdx := by
    rw [List.mem_zipIdx_iff_getElem?]; exact ho
  have := (h (o, i) hm).1 p hp
  exact Nat.le_of_ble_eq_true this
theorem regOk_names {ops : List Oper} (h : regOk ops = true) {i k : Nat} {o q : Oper} (ho : ops[i]? = some o) (hq : ops[k]? = some q) (hne : k ≠ i) {d : Tmp} (hd : q.dst = some d)
    (hn : d ∈ namesOf ops o) : tied (masks ops) k i = true := by
  unfold regOk at h
  simp only [List.all_eq_true, Bool.and_eq_true, Bool.or_eq_true] at h
  have hm : (o, i) ∈ ops.zipIdx := by rw [List.mem_zipIdx_iff_getElem?]; exact ho
  have hm' : (q, k) ∈ ops.zipIdx := by rw [List.mem_zipIdx_iff_getElem?]; exact hq
  rcases (h (o, i) hm).2 (q, k) hm' with h | h
  · exact absurd (Nat.eq_of_beq_eq_true h) hne
  · simp only [hd, Bool.or_eq_true, Bool.not_eq_true', List.contains_eq_mem, decide_eq_false_iff_not] at h
    rcases h with h | h
    · exact absurd hn h
    · exact h
theorem hidden_mem {all : List Oper} {i : Nat} : ∀ {ts : List (Nat × Nat)} {j b : Nat}, (j, b) ∈ ts → j ≠ i → tied (masks all) j i = false → b ∈ hidden all i ts
  | [], j, b, h, _, _ => by simp at h
  | (j', b') :: ts, j, b, h, hne, ht => by
    simp only [hidden]
    simp only [List.mem_cons, Prod.mk.injEq] at h
    rcases h with ⟨rfl, rfl⟩ | h
    · have h1 : Nat.beq j i = false := by
        cases hb : Nat.beq j i with
        | false => rfl
        | true => exact absurd (Nat.eq_of_beq_eq_true hb) hne
      simp [h1, ht]
    · have := hidden_mem h hne ht
      cases (Nat.beq j' i || tied (masks all) j' i) with
      | true => exact this
      | false => exact List.mem_cons_of_mem _ this
end Go.Am
namespace Go.Am
open Go
def Up (H : AH) (r : Ans) : Prop := ∀ ar H', r = some (ar, H') → H.next ≤ H'.next
theorem Up.none {H : AH} : Up H none := fun _ _ h => by cases h
theorem Up.one {H : AH} {v : Option Value} : Up H (one H v) := by
  intro ar H' h
  simp only [Go.Am.one, Option.map_eq_some_iff] at h
  obtain ⟨_, _, h⟩ := h
  cases h; exact Nat.le_refl _
theorem Up.same {H : AH} {ar : AR} : Up H (some (ar, H)) := fun _ _ h => by cases h; exact Nat.le_refl _
theorem Up.new {H : AH} {ar : AR} {x : AObj} : Up H (some (ar, H.new x)) := fun _ _ h => by cases h; exact Nat.le_succ _
theorem Up.write {H : AH} {ar : AR} {x : AObj} {b : Nat} {k : ABlk} : Up H (some (ar, H.write b k x)) := fun _ _ h => by cases h; exact Nat.le_refl _
theorem Up.move {H : AH} {ar : AR} {x : AObj} {b : Nat} {k : ABlk} : Up H (some (ar, H.move b k x)) := fun _ _ h => by cases h; exact Nat.le_succ _
theorem stores_next {H H' : AH} {b i : Nat} {vs : List Value} (h : H.stores b i vs = some H') : H'.next = H.next := by
  unfold AH.stores at h
  split at h
  · simp only [Option.map_eq_some_iff] at h
    obtain ⟨_, _, rfl⟩ := h
    rfl
  · cases h
theorem Up.mapEq {H : AH} {r : Option AH} {ar : AR} (h : ∀ H', r = some H' → H'.next = H.next) : Up H (r.map fun H' => (ar, H')) := by
  intro a H' e
  simp only [Option.map_eq_some_iff] at e
  obtain ⟨H1, h1, e⟩ := e
  cases e
  exact Nat.le_of_eq (h _ h1).symm
theorem storeA_next {E : Env} {H H' : AH} {t : TypeId} {a v : Value} (h : storeA E H t a v = some H') : H'.next = H.next := by
  unfold storeA at h
  split at h
  · simp only [bif_beq] at h
    split at h
    · exact stores_next h
    · cases h
  · cases h
theorem updateA_next {E : Env} {H H' : AH} {t : TypeId} {m k v : Value} (h : updateA E H t m k v = some H') : H'.next = H.next := by
  unfold updateA at h
  split at h
  case h_2 => cases h
  split at h
  case h_2 => cases h
  cases hfl : flatV k with
  | false => rw [hfl] at h; simp at h
  | true =>
    rw [hfl, cond_true] at h
    split at h
    · split at h
      case h_2 => cases h
      rename_i e _
      cases hs : Instr.sameBits 10000 e.key k with
      | false => rw [hs] at h; simp at h
      | true => rw [hs, cond_true] at h; cases h; rfl
    · cases h; rfl
    · cases h
theorem deleteA_next {E : Env} {H H' : AH} {t : TypeId} {m k : Value} (h : deleteA E H t m k = some H') : H'.next = H.next := by
  unfold deleteA at h
  split at h
  · split at h
    case h_2 => cases h
    split at h
    · cases h; rfl
    · cases h; rfl
    · cases h
  · split at h
    · cases h; rfl
    · cases h
  · cases h
theorem Up.bif {H : AH} {c : Bool} {x y : Ans} (hx : Up H x) (hy : Up H y) : Up H (bif c then x else y) := by cases c <;> assumption
theorem appendA_up (E : Env) (H : AH) (ats : List TypeId) (s x : Value) : Up H (appendA E H ats s x) := by
  unfold appendA
  split
  case h_2 => exact Up.none
  split
  case h_2 => exact Up.none
  split
  case h_2 => exact Up.none
  split
  case h_2 => exact Up.none
  refine Up.bif (Up.bif Up.same ?_) Up.none
  split
  · exact Up.new
  · refine Up.bif ?_ (Up.bif (Up.mapEq fun H' h => stores_next h) ?_)
    · split
      · exact Up.bif Up.move Up.none
      · exact Up.none
    · split
      · exact Up.new
      · exact Up.none
  · exact Up.none
theorem unsafeString_up (E : Env) (H : AH) (ats : List TypeId) (p l : Value) : Up H (unsafeStringA E H ats p l) := by
  unfold unsafeStringA
  split
  · exact Up.same
  · exact Up.same
  · split
    · split
      · intro ar H' h
        simp only [Option.map_eq_some_iff] at h
        obtain ⟨_, _, h⟩ := h
        cases h
        exact Nat.le_refl _
      · exact Up.none
    · exact Up.none
  · exact Up.none
theorem view_up (E : Env) (H : AH) (s d : TypeId) (a : Addr) : Up H (viewA E H s d a) := by
  unfold viewA
  split
  · split
    · split
      · exact Up.bif Up.same Up.none
      · exact Up.none
    · split
      · exact Up.bif Up.same Up.none
      · exact Up.none
    · exact Up.none
  · exact Up.none
theorem bytesOf_up (E : Env) (H : AH) (e : TypeId) (b : ByteArray) : Up H (bytesOfA E H e b) := by
  unfold bytesOfA
  split
  · exact Up.bif Up.new Up.none
  · exact Up.none
theorem builtin_up (E : Env) (H : AH) (b : Builtin) (ats : List TypeId) (args : List Value) : Up H (builtinA E H b ats args) := by
  unfold builtinA
  split
  · split
    · exact appendA_up _ _ _ _ _
    · exact Up.none
  · split <;> first | exact Up.one | exact Up.none
  · split <;> first | exact Up.one | exact Up.none
  · split
    · exact Up.same
    · exact Up.bif Up.same Up.none
    · exact Up.none
  · split
    · exact unsafeString_up _ _ _ _ _
    · exact Up.none
  · split
    · unfold copyB
      split
      · exact Up.none
      split
      · exact Up.none
      split
      case h_2 => exact Up.none
      split
      case h_2 => exact Up.none
      split
      · exact Up.none
      refine Up.bif Up.same ?_
      split
      · exact Up.mapEq fun H' h => stores_next h
      · exact Up.none
    · exact Up.none
  · split
    · unfold clearB
      split
      · exact Up.none
      split
      · exact Up.none
      split
      case h_2 => exact Up.none
      split
      case h_2 => exact Up.none
      refine Up.bif Up.same ?_
      split
      · exact Up.mapEq fun H' h => stores_next h
      · exact Up.none
    · exact Up.none
  · split
    · exact Up.mapEq fun H' h => deleteA_next h
    · exact Up.none
  · exact Up.bif Up.one Up.none
  · exact Up.bif Up.one Up.none
  · split
    · exact Up.same
    · exact Up.none
  · exact Up.none
theorem enter_up (E : Env) (H : AH) (f : FuncId) (args : List Value) : Up H (enterA E H f args) := by
  unfold enterA
  split
  · exact Up.same
  · exact Up.none
theorem direct_up (E : Env) (H : AH) (f : FuncId) (args : List Value) : Up H (directA E H f args) := by
  unfold directA
  split
  · exact Up.same
  · unfold rowA
    split
    · split
      · refine Up.bif ?_ ?_
        · unfold noZeroA
          split
          · split
            · exact Up.bif Up.new Up.none
            · exact Up.none
          · exact Up.none
        · split
          · exact Up.one
          · exact Up.none
      · exact Up.none
    · split
      · exact Up.bif Up.same Up.none
      · exact Up.none
    · refine Up.bif ?_ Up.none
      split
      · exact Up.one
      · exact Up.none
theorem call_up (E : Env) (fr : Fr) (H : AH) (c : Call) : Up H (callA E fr H c) := by
  unfold callA
  split
  · exact Up.none
  split
  · exact builtin_up _ _ _ _ _
  · split
    · split
      · exact enter_up _ _ _ _
      · exact Up.none
    · exact Up.none
  · split
    · exact direct_up _ _ _ _
    · split
      · exact Up.bif Up.same Up.none
      · exact Up.none
    · split
      · split
        · exact enter_up _ _ _ _
        · exact Up.none
      · exact Up.none
    · split
      · simp only
        split
        · split
          · exact enter_up _ _ _ _
          · exact Up.none
        · exact Up.none
      · exact Up.none
    · exact Up.none
theorem aop_up (E : Env) (fr : Fr) (o : Oper) (H : AH) : Up H (aop E fr o H) := by
  unfold aop
  split
  all_goals try (split <;> first | exact Up.one | exact Up.none | exact Up.same | exact Up.new | skip)
  all_goals try first | exact Up.one | exact Up.none | exact Up.new | exact call_up _ _ _ _
  · unfold buildSliceA
    split
    · split
      · refine Up.bif ?_ Up.none
        intro ar H' h
        simp only [Option.map_eq_some_iff] at h
        obtain ⟨_, _, h⟩ := h
        cases h
        exact Nat.le_succ _
      · exact Up.none
    · exact Up.none
  · exact Up.mapEq fun H' h => storeA_next h
  · exact Up.bif Up.one Up.none
  · exact view_up _ _ _ _ _
  · split
    · exact bytesOf_up _ _ _ _
    · exact Up.one
  · exact Up.bif Up.one Up.none
  · unfold makeSliceA
    split
    · split
      · exact Up.bif Up.new Up.none
      · exact Up.none
    · exact Up.none
  · split <;> first | exact Up.one | exact Up.none
  · split <;> first | exact Up.one | exact Up.none
  · split
    · exact Up.bif Up.one Up.none
    · exact Up.none
  · exact Up.mapEq fun H' h => updateA_next h
  · exact Up.mapEq fun H' h => updateA_next h
  · split
    · exact Up.new
    · exact Up.none
  · unfold nextA
    split
    · split
      · exact Up.bif Up.write Up.same
      · exact Up.none
    · split
      · split
        · split
          · exact Up.write
          · exact Up.same
          · exact Up.none
        · exact Up.none
      · exact Up.none
    · exact Up.none
  · split
    · exact Up.one
    · exact Up.bif Up.one Up.none
    · exact Up.none
def UpIh (ih : Cmd → AH → Res) : Prop := ∀ cmd H out H', ih cmd H = some (out, H') → H.next ≤ H'.next
theorem execA_up {E : Env} {ih : Cmd → AH → Res} (hu : UpIh ih) {fr : Fr} {o : Oper} {H H' : AH} {v : Value} (h : execA E ih fr o H = some (v, H')) : H.next ≤ H'.next := by
  unfold execA at h
  split at h
  · cases h
  · rename_i h1; cases h; exact aop_up _ _ _ _ _ _ h1
  · rename_i h1; cases h; exact aop_up _ _ _ _ _ _ h1
  · cases h
  · rename_i h1
    split at h
    · rename_i h2; cases h; exact Nat.le_trans (aop_up _ _ _ _ _ _ h1) (hu _ _ _ _ h2)
    · cases h
  · rename_i h1
    split at h
    · rename_i h2; cases h; exact Nat.le_trans (aop_up _ _ _ _ _ _ h1) (hu _ _ _ _ h2)
    · cases h
theorem execR_up {E : Env} {ih : Cmd → AH → Res} (hu : UpIh ih) {fr : Fr} {o : Oper} {H H' : AH} {v : Value} (h : execR E ih fr o H = some (v, H')) : H.next ≤ H'.next := by
  unfold execR at h
  split at h
  · rename_i h1
    cases hrd : fr.rd with
    | true => rw [hrd] at h; cases h
    | false => rw [hrd] at h; cases h; exact aop_up _ _ _ _ _ _ h1
  · exact execA_up hu h
theorem drawA_up {E : Env} {ih : Cmd → AH → Res} (hu : UpIh ih) {ts : List (Nat × Nat)} {all : List Oper} {i : Nat} {fr : Fr} {o : Oper} {H H' : AH} {v : Value}
    (h : drawA E ih ts all i fr o H = some (v, H')) : H.next ≤ H'.next := by
  unfold drawA at h
  simp only at h
  split at h
  · rename_i v1 Q h1
    have := execA_up hu h1
    cases hb : ((Nat.ble H.next Q.low || ((hidden all i ts).isEmpty && (ts.any (fun t => Nat.beq t.1 i && storesAt fr o t.2) || fences all i))) && (hidden all i ts).all (fun b => Nat.blt b H.next || Nat.ble Q.next b)) with
    | false => rw [hb] at h; simp at h
    | true => rw [hb, cond_true] at h; cases h; exact this
  · cases h
theorem runOps_up {E : Env} {ih : Cmd → AH → Res} (hu : UpIh ih) {all : Array Oper} {draw : Bool} {ts : List (Nat × Nat)} : ∀ {os : List Oper} {i : Nat} {fr fr' : Fr} {H H' : AH},
    runOps E ih all draw ts os i fr H = some (fr', H') → H.next ≤ H'.next
  | [], i, fr, fr', H, H', h => by simp [runOps] at h; rw [h.2]; exact Nat.le_refl _
  | o :: os, i, fr, fr', H, H', h => by
    simp only [runOps] at h
    split at h
    · cases h
    · split at h
      · exact runOps_up hu h
      · cases h
    · split at h
      · cases h
      · rename_i v H1 h1
        split at h
        · cases h
        · refine Nat.le_trans ?_ (runOps_up hu h)
          cases draw with
          | true => exact drawA_up hu h1
          | false => exact execR_up hu h1
theorem rangeA_up {E : Env} {ih : Cmd → AH → Res} (hu : UpIh ih) {fr : Fr} {f : Operand} {params : List Tmp} {assign b : Code} {H H' : AH} {out : Out}
    (h : rangeA E ih fr f params assign b H = some (out, H')) : H.next ≤ H'.next := by
  unfold rangeA at h
  split at h
  · split at h
    · rename_i h1
      have g1 : H.next ≤ _ := Nat.le_trans (Nat.le_succ _) (hu _ _ _ _ h1)
      split at h
      · split at h
        · cases h
        · split at h
          · cases h; exact g1
          · have g2 := hu _ _ _ _ h
            exact Nat.le_trans g1 g2
      · cases h
    · cases h
  · cases h
theorem roundA_up {E : Env} {ih : Cmd → AH → Res} (hu : UpIh ih) {l : Nat} {args : List Value} {H H' : AH} {out : Out}
    (h : roundA E ih l args H = some (out, H')) : H.next ≤ H'.next := by
  unfold roundA at h
  split at h
  · split at h
    · split at h
      · rename_i h1
        have g1 := hu _ _ _ _ h1
        split at h
        · split at h
          · rename_i h2
            have g2 := hu _ _ _ _ h2
            split at h
            · cases h; exact Nat.le_trans g1 g2
            · cases h
          · cases h
        · cases h
      · cases h
    · cases h
  · cases h
theorem resA_up {E : Env} {rs : List ResultVar} {fr : Fr} {H H' : AH} {out : Out} (h : resA E rs fr H = some (out, H')) : H' = H := by
  unfold resA at h
  split at h
  · cases h; rfl
  · cases h; rfl
  · cases h
theorem lastA_up {E : Env} {ih : Cmd → AH → Res} (hu : UpIh ih) {rs : List ResultVar} {g : FuncId} {xs : List Value} {fr : Fr} {H H' : AH} {out : Out} (h : lastA E ih rs g xs fr H = some (out, H')) : H.next ≤ H'.next := by
  unfold lastA at h
  split at h
  · split at h
    · split at h
      · rename_i h1; rw [resA_up h]; exact hu _ _ _ _ h1
      · rename_i h1; rw [resA_up h]; exact hu _ _ _ _ h1
      · cases h
    · cases h
  · cases h
theorem deferRun_up {E : Env} {ih : Cmd → AH → Res} (hu : UpIh ih) : ∀ {c : Code} {fr fr' : Fr} {H H' : AH} {d : FuncId × List Value} {b : Code}, deferRun E ih c fr H = some (d, fr', H', b) → H.next ≤ H'.next := by
  intro c
  induction c with
  | seq a b _ ihb =>
    intro fr fr' H H' d b' h
    cases a with
    | region id ops draw =>
      simp only [deferRun] at h
      split at h
      · rename_i h1; exact Nat.le_trans (runOps_up hu h1) (ihb h)
      · cases draw with
        | true => cases h
        | false =>
          simp only [cond_false] at h
          split at h
          · split at h
            · rename_i h1
              split at h
              · cases h; exact runOps_up hu h1
              · cases h
            · cases h
          · cases h
    | _ => simp [deferRun] at h
  | _ => intro fr fr' H H' d b' h; simp [deferRun] at h
theorem deferA_up {E : Env} {ih : Cmd → AH → Res} (hu : UpIh ih) {rs : List ResultVar} {c : Code} {fr : Fr} {H H' : AH} {out : Out} (h : deferA E ih rs c fr H = some (out, H')) : H.next ≤ H'.next := by
  unfold deferA at h
  split at h
  · rename_i h1
    have g1 := deferRun_up hu h1
    split at h
    · rename_i h2; exact Nat.le_trans g1 (Nat.le_trans (hu _ _ _ _ h2) (lastA_up hu h))
    · rename_i h2; exact Nat.le_trans g1 (Nat.le_trans (hu _ _ _ _ h2) (lastA_up hu h))
    · cases h
  · cases h
theorem body_up {E : Env} {ih : Cmd → AH → Res} (hu : UpIh ih) : UpIh (body E ih) := by
  intro cmd H out H' h
  unfold body at h
  split at h
  · split at h
    · cases h; exact Nat.le_refl _
    · cases h; exact Nat.le_refl _
    · cases h; exact Nat.le_refl _
    · cases h; exact Nat.le_refl _
    · split at h
      · rename_i h1; exact Nat.le_trans (hu _ _ _ _ h1) (hu _ _ _ _ h)
      · exact hu _ _ _ _ h
    · split at h
      · exact hu _ _ _ _ h
      · exact hu _ _ _ _ h
      · cases h
    · split at h
      · rename_i id' fr' H1 h1
        cases hb : Nat.beq id' _ with
        | true => rw [hb, cond_true] at h; cases h; exact hu _ _ _ _ h1
        | false => rw [hb, cond_false] at h; cases h; exact hu _ _ _ _ h1
      · exact hu _ _ _ _ h
    · split at h
      · rename_i h1; exact Nat.le_trans (hu _ _ _ _ h1) (hu _ _ _ _ h)
      · exact hu _ _ _ _ h
    · exact hu _ _ _ _ h
    · split at h
      · rename_i h1; cases h; exact runOps_up hu h1
      · rename_i draw _ _
        cases draw with
        | false => cases h
        | true =>
          simp only [cond_true] at h
          split at h
          · split at h
            · rename_i h1; cases h; exact runOps_up hu h1
            · split at h
              · rename_i h1; cases h; exact runOps_up hu h1
              · cases h
          · cases h
    · exact rangeA_up hu h
    · cases h
  · -- a call
    split at h
    · split at h
      · split at h
        · rename_i h1
          split at h
          · cases h; exact hu _ _ _ _ h1
          · cases h; exact hu _ _ _ _ h1
          · cases h
        · rename_i h1
          split at h
          · cases h; exact hu _ _ _ _ h1
          · cases h; exact hu _ _ _ _ h1
          · cases h
        · exact deferA_up hu h
        · cases h
      · cases h
    · cases h
  · exact roundA_up hu h
theorem runF_up (E : Env) : ∀ n, UpIh (runF E n)
  | 0 => fun _ _ _ _ h => by cases h
  | n + 1 => body_up (runF_up E n)
end Go.Am
namespace Go.Am
open Go
def Skips (ops : Array Oper) (fr : Fr) (H : AH) (fr' : Fr) (H' : AH) (o : Oper) : Prop :=
  wantedA ops fr o = some false ∧ putA fr o.dst (.tuple #[]) = some fr' ∧ H' = H
def Runs (E : Env) (ih : Cmd → AH → Res) (W : List Nat) (ops : Array Oper) (fr : Fr) (H : AH) (fr' : Fr) (H' : AH) (o : Oper) (v : Value) (Q : AH) : Prop :=
  wantedA ops fr o = some true ∧ execA E ih fr o (hideH H W) = some (v, Q) ∧ H' = restoreH H Q W ∧ putA fr o.dst v = some fr'
def Tg (ts : List (Nat × Nat)) (fr : Fr) (o : Oper) (i b : Nat) : Prop := (i, b) ∈ ts ∧ storesAt fr o b = true
def TS (ts : List (Nat × Nat)) (ops : Array Oper) (frs : Nat → Fr) (i b : Nat) : Prop := ∃ o, ops[i]? = some o ∧ Tg ts (frs i) o i b
theorem appTo_spec {fr : Fr} {c : Call} {b : Nat} (h : appTo fr c = some b) : c.callee = .builtin .append ∧ ∃ a y x sp l cp, c.args.toList = [.tmp a, y] ∧ fr.t.get a = some (.slice (some ⟨b, x, sp⟩) l cp) := by
  unfold appTo at h
  split at h
  · rename_i a y h1 h2
    split at h
    · rename_i b' x sp l cp hg
      cases h
      exact ⟨h1, a, y, x, sp, l, cp, h2, hg⟩
    · cases h
  · cases h
theorem storesAt_spec {fr : Fr} {o : Oper} {b : Nat} (h : storesAt fr o b = true) : (∃ t a x c s, o.op = .store t (.tmp a) x ∧ fr.t.get a = some (.pointer (some ⟨b, c, s⟩))) ∨ ∃ c, o.op = .call c ∧ appTo fr c = some b := by
  unfold storesAt at h
  split at h
  · rename_i t a x ho
    split at h
    · rename_i b' c s hg
      have := Nat.eq_of_beq_eq_true h
      subst this
      exact .inl ⟨t, a, x, c, s, ho, hg⟩
    · cases h
  · rename_i c ho
    split at h
    · rename_i b' hg
      have := Nat.eq_of_beq_eq_true h
      subst this
      exact .inr ⟨c, ho, hg⟩
    · cases h
  · cases h
theorem appendA_frame {E : Env} {H H' : AH} {ats : List TypeId} {b i l cp : Nat} {sp : Option Nat} {x : Value} {ar : AR} (h : appendA E H ats (.slice (some ⟨b, i, sp⟩) l cp) x = some (ar, H')) :
    (∃ v, ar = .val v) ∧ ∀ c, c < H.next → c ≠ b → H'.blocks.get c = H.blocks.get c := by
  unfold appendA at h
  split at h
  case h_2 => cases h
  rename_i hs
  cases hs
  split at h
  case h_2 => cases h
  split at h
  case h_2 => cases h
  split at h
  case h_2 => cases h
  rw [bif_ble] at h
  split at h
  case isFalse => cases h
  rw [bif_beq] at h
  split at h
  · cases h
    exact ⟨⟨_, rfl⟩, fun _ _ _ => rfl⟩
  · split at h
    · rename_i he; cases he
    · rename_i he
      cases he
      rw [bif_ble] at h
      split at h
      · split at h
        · rw [bif_and, bif_beq] at h
          split at h
          case isFalse => cases h
          rw [bif_beq] at h
          split at h
          case isFalse => cases h
          cases h
          refine ⟨⟨_, rfl⟩, fun c hc hne => ?_⟩
          rw [AH.get_move, if_neg (by omega), if_neg hne]
        · cases h
      · rw [bif_ble] at h
        split at h
        · simp only [Option.map_eq_some_iff] at h
          obtain ⟨H1, hst, h⟩ := h
          cases h
          refine ⟨⟨_, rfl⟩, fun c hc hne => ?_⟩
          unfold AH.stores at hst
          split at hst
          · simp only [Option.map_eq_some_iff] at hst
            obtain ⟨cs', _, rfl⟩ := hst
            rw [AH.get_write, if_neg hne]
          · cases hst
        · split at h
          · cases h
            refine ⟨⟨_, rfl⟩, fun c hc hne => ?_⟩
            rw [AH.get_new, if_neg (by omega)]
          · cases h
    · cases h
structure Trace (E : Env) (ih : Cmd → AH → Res) (ts : List (Nat × Nat)) (ops : Array Oper) (frs : Nat → Fr) (Hs : Nat → AH) : Prop where
  step : ∀ i, i < ops.size → ∃ o, ops[i]? = some o ∧ (Skips ops (frs i) (Hs i) (frs (i + 1)) (Hs (i + 1)) o ∨
    ∃ v Q, Runs E ih (hidden ops.toList i ts) ops (frs i) (Hs i) (frs (i + 1)) (Hs (i + 1)) o v Q ∧
      ((Hs i).next ≤ Q.low ∨ (hidden ops.toList i ts = [] ∧ ((∃ b, Tg ts (frs i) o i b) ∨ fences ops.toList i = true))) ∧ ∀ b ∈ hidden ops.toList i ts, b < (Hs i).next ∨ Q.next ≤ b)
def Bar (E : Env) (ih : Cmd → AH → Res) (ts : List (Nat × Nat)) (ops : Array Oper) (frs : Nat → Fr) (Hs : Nat → AH) (i : Nat) : Prop :=
  ∃ o v Q, ops[i]? = some o ∧ Runs E ih (hidden ops.toList i ts) ops (frs i) (Hs i) (frs (i + 1)) (Hs (i + 1)) o v Q ∧ ¬ (Hs i).next ≤ Q.low
theorem trace_of (E : Env) (ih : Cmd → AH → Res) (ts : List (Nat × Nat)) (ops : Array Oper) : ∀ (os : List Oper) (i : Nat) (fr fr' : Fr) (H H' : AH), ops.toList.drop i = os → i ≤ ops.size →
    runOps E ih ops true ts os i fr H = some (fr', H') →
    ∃ (frs : Nat → Fr) (Hs : Nat → AH), frs i = fr ∧ Hs i = H ∧ frs ops.size = fr' ∧ Hs ops.size = H' ∧ ∀ j, i ≤ j → j < ops.size → ∃ o, ops[j]? = some o ∧
      (Skips ops (frs j) (Hs j) (frs (j + 1)) (Hs (j + 1)) o ∨ ∃ v Q, Runs E ih (hidden ops.toList j ts) ops (frs j) (Hs j) (frs (j + 1)) (Hs (j + 1)) o v Q ∧
      ((Hs j).next ≤ Q.low ∨ (hidden ops.toList j ts = [] ∧ ((∃ b, Tg ts (frs j) o j b) ∨ fences ops.toList j = true))) ∧ ∀ b ∈ hidden ops.toList j ts, b < (Hs j).next ∨ Q.next ≤ b)
  | [], i, fr, fr', H, H', hd, hi, h => by
    simp [runOps] at h
    have hn : i = ops.size := by
      have := congrArg List.length hd
      simp at this; omega
    refine ⟨fun _ => fr, fun _ => H, rfl, rfl, h.1, h.2, fun j h1 h2 => by omega⟩
  | o :: os, i, fr, fr', H, H', hd, hi, h => by
    have ho : ops[i]? = some o := by
      have := congrArg (·[0]?) hd
      simpa using this
    have hlt : i < ops.size := (Array.getElem?_eq_some_iff.1 ho).1
    have hd' : ops.toList.drop (i + 1) = os := by
      have := congrArg (List.drop 1) hd
      rw [List.drop_drop] at this
      simpa using this
    have key : ∀ (fr1 : Fr) (H1 : AH), runOps E ih ops true ts os (i + 1) fr1 H1 = some (fr', H') →
        (Skips ops fr H fr1 H1 o ∨ ∃ v Q, Runs E ih (hidden ops.toList i ts) ops fr H fr1 H1 o v Q ∧ (H.next ≤ Q.low ∨ (hidden ops.toList i ts = [] ∧ ((∃ b, Tg ts fr o i b) ∨ fences ops.toList i = true))) ∧ ∀ b ∈ hidden ops.toList i ts, b < H.next ∨ Q.next ≤ b) →
        ∃ (frs : Nat → Fr) (Hs : Nat → AH), frs i = fr ∧ Hs i = H ∧ frs ops.size = fr' ∧ Hs ops.size = H' ∧ ∀ j, i ≤ j → j < ops.size → ∃ o, ops[j]? = some o ∧
          (Skips ops (frs j) (Hs j) (frs (j + 1)) (Hs (j + 1)) o ∨ ∃ v Q, Runs E ih (hidden ops.toList j ts) ops (frs j) (Hs j) (frs (j + 1)) (Hs (j + 1)) o v Q ∧
          ((Hs j).next ≤ Q.low ∨ (hidden ops.toList j ts = [] ∧ ((∃ b, Tg ts (frs j) o j b) ∨ fences ops.toList j = true))) ∧ ∀ b ∈ hidden ops.toList j ts, b < (Hs j).next ∨ Q.next ≤ b) := by
      intro fr1 H1 hrun hfact
      obtain ⟨frs, Hs, e1, e2, e3, e4, e5⟩ := trace_of E ih ts ops os (i + 1) fr1 fr' H1 H' hd' (by omega) hrun
      refine ⟨fun j => if j = i then fr else frs j, fun j => if j = i then H else Hs j, by simp, by simp, ?_, ?_, ?_⟩
      · have : ¬ ops.size = i := by omega
        simp only [if_neg this]; exact e3
      · have : ¬ ops.size = i := by omega
        simp only [if_neg this]; exact e4
      · intro j h1 h2
        by_cases hj : j = i
        · subst hj
          refine ⟨o, ho, ?_⟩
          simp only [if_true, if_neg (show ¬ j + 1 = j by omega), e1, e2]
          exact hfact
        · simp only [if_neg hj, if_neg (show ¬ j + 1 = i by omega)]
          exact e5 j (by omega) h2
    simp only [runOps] at h
    split at h
    · cases h
    · rename_i hw
      split at h
      · rename_i fr1 hp
        exact key fr1 H h (.inl ⟨hw, hp, rfl⟩)
      · cases h
    · rename_i hw
      simp only [cond_true] at h
      split at h
      · cases h
      · rename_i v H1 h1
        split at h
        · cases h
        · rename_i fr1 hp
          unfold drawA at h1
          simp only at h1
          split at h1
          · rename_i v1 Q hx
            cases hb : ((Nat.ble H.next Q.low || ((hidden ops.toList i ts).isEmpty && (ts.any (fun t => Nat.beq t.1 i && storesAt fr o t.2) || fences ops.toList i))) && (hidden ops.toList i ts).all (fun b => Nat.blt b H.next || Nat.ble Q.next b)) with
            | false => rw [hb] at h1; simp at h1
            | true =>
              rw [hb, cond_true] at h1
              cases h1
              rw [Bool.and_eq_true, Bool.or_eq_true, Bool.and_eq_true, Bool.or_eq_true] at hb
              obtain ⟨hb, hb3⟩ := hb
              refine key fr1 _ h (.inr ⟨v, Q, ⟨hw, hx, rfl, hp⟩, ?_, fun b hm => ?_⟩)
              rotate_left
              · rw [List.all_eq_true] at hb3
                have := hb3 b hm
                rw [Bool.or_eq_true] at this
                rcases this with h1 | h1
                · exact .inl (Nat.le_of_ble_eq_true h1)
                · exact .inr (Nat.le_of_ble_eq_true h1)
              rcases hb with hb | ⟨hb1, hb2⟩
              · exact .inl (Nat.le_of_ble_eq_true hb)
              · refine .inr ⟨by simpa using hb1, ?_⟩
                rcases hb2 with hb2 | hb2
                · rw [List.any_eq_true] at hb2
                  obtain ⟨⟨a, b⟩, hm, he⟩ := hb2
                  rw [Bool.and_eq_true] at he
                  have : a = i := Nat.eq_of_beq_eq_true he.1
                  subst this
                  exact .inl ⟨b, hm, he.2⟩
                · exact .inr hb2
          · cases h1
section
variable {E : Env} {ih : Cmd → AH → Res} {ts : List (Nat × Nat)} {ops : Array Oper} {frs : Nat → Fr} {Hs : Nat → AH}
structure TF (E : Env) (ih : Cmd → AH → Res) (ts : List (Nat × Nat)) (ops : Array Oper) (frs : Nat → Fr) (Hs : Nat → AH) : Prop where
  next : ∀ i, i < ops.size → (Hs i).next ≤ (Hs (i + 1)).next
  wf : ∀ i, i ≤ ops.size → ∀ b k, (Hs i).blocks.get b = some k → k.root ≤ b ∧ b < (Hs i).next
  pure : ∀ i, i < ops.size → ¬ Bar E ih ts ops frs Hs i → ∀ b, b < (Hs i).next → (Hs (i + 1)).blocks.get b = (Hs i).blocks.get b
  store : ∀ i, i < ops.size → Bar E ih ts ops frs Hs i → ∀ bt, TS ts ops frs i bt → ∀ b, b < (Hs i).next → b ≠ bt → (Hs (i + 1)).blocks.get b = (Hs i).blocks.get b
  low : ∀ i, i < ops.size → (Hs (i + 1)).low ≤ (Hs i).low
  bars : ∀ i, i < ops.size → Bar E ih ts ops frs Hs i → hidden ops.toList i ts = [] ∧ ((∃ b, TS ts ops frs i b) ∨ fences ops.toList i = true)
  nb : ∀ i, i < ops.size → Bar E ih ts ops frs Hs i → blindAt ops.toList i = false
theorem Trace.next (hu : UpIh ih) (tr : Trace E ih ts ops frs Hs) {i : Nat} (hi : i < ops.size) : (Hs i).next ≤ (Hs (i + 1)).next := by
  obtain ⟨o, _, h | ⟨v, Q, h, _⟩⟩ := tr.step i hi
  · rw [h.2.2]; exact Nat.le_refl _
  · rw [h.2.2.1]
    have := execA_up hu h.2.1
    exact this
theorem Trace.nexts (hu : UpIh ih) (tr : Trace E ih ts ops frs Hs) {i : Nat} : ∀ {j : Nat}, i ≤ j → j ≤ ops.size → (Hs i).next ≤ (Hs j).next
  | 0, h1, _ => by have : i = 0 := by omega
                   subst this; exact Nat.le_refl _
  | j + 1, h1, h2 => by
    by_cases h : i = j + 1
    · subst h; exact Nat.le_refl _
    · exact Nat.le_trans (tr.nexts hu (by omega) (by omega)) (tr.next hu (by omega))
theorem execA_store {fr : Fr} {o : Oper} {H Q : AH} {v p : Value} {t : TypeId} {a : Tmp} {x : Operand} (hop : o.op = .store t (.tmp a) x) (ha : fr.t.get a = some p)
    (h : execA E ih fr o H = some (v, Q)) : ∃ u, storeA E H t p u = some Q := by
  have hta : ev E fr (.tmp a) = some p := ha
  obtain ⟨u, hu⟩ : ∃ u, aop E fr o H = (storeA E H t p u).map (fun H' => (AR.skip, H')) ∨ aop E fr o H = none := by
    unfold aop
    simp only [hop, hta]
    cases ev E fr x with
    | none => exact ⟨.nilIface, .inr rfl⟩
    | some u => cases u <;> first | exact ⟨_, .inl rfl⟩ | exact ⟨.nilIface, .inr rfl⟩
  unfold execA at h
  rcases hu with hu | hu
  · rw [hu] at h
    cases hs : storeA E H t p u with
    | none => rw [hs] at h; simp at h
    | some H1 =>
      rw [hs] at h
      simp only [Option.map_some, Option.some.injEq, Prod.mk.injEq] at h
      exact ⟨u, by rw [hs, h.2]⟩
  · rw [hu] at h; simp at h
theorem trace_facts (hu : UpIh ih) (tr : Trace E ih ts ops frs Hs)
    {σ0 : Sig} {w0 : World} {tmps0 : Array Value} (he : EOk E) (hc : ∀ f args H v H', ih (.call f args) H = some (.val v, H') → CallOK E f args H v H')
    (hro : ∀ l args H v H', ih (.round l args) H = some (.val v, H') → RoundOK E l args H v H')
    (hr : HR E σ0 (Hs 0) w0) (hfr : FrR σ0 (frs 0) tmps0) (hf : Free σ0 (Hs 0).next (Hs ops.size).next) (b : Frame) :
    TF E ih ts ops frs Hs ∧ ∃ σ' w' , Step E σ0 (Hs 0) w0 σ' (Hs ops.size) w' := by
  have chain : ∀ i, i ≤ ops.size → ∃ σi wi tmpsi, Step E σ0 (Hs 0) w0 σi (Hs i) wi ∧ FrR σi (frs i) tmpsi ∧
      ∀ j, j < i → (∀ b k, (Hs j).blocks.get b = some k → k.root ≤ b ∧ b < (Hs j).next) ∧ (Hs (j + 1)).low ≤ (Hs j).low ∧
        (¬ Bar E ih ts ops frs Hs j → ∀ b, b < (Hs j).next → (Hs (j + 1)).blocks.get b = (Hs j).blocks.get b) := by
    intro i
    induction i with
    | zero => intro _; exact ⟨σ0, w0, tmps0, Step.refl hr, hfr, fun j hj => by omega⟩
    | succ i IH =>
      intro hi
      obtain ⟨σi, wi, tmpsi, st, hfi, hall⟩ := IH (by omega)
      have hri := st.hr
      have hfree : Free σi (Hs i).next (Hs (i + 1)).next := by
        have h1 : Free σi (Hs i).next (Hs ops.size).next := hf.split st.ext st.next
        exact fun b h2 h3 => h1 b h2 (Nat.lt_of_lt_of_le h3 (tr.nexts hu (by omega) (Nat.le_refl _)))
      obtain ⟨o, ho, hx⟩ := tr.step i (by omega)
      rcases hx with hx | ⟨v, Q, hx, hpure⟩
      · obtain ⟨h1, h2, h3⟩ := hx
        refine ⟨σi, wi, putC tmpsi o.dst undef, by rw [h3]; exact st, put_rel hfi h2 (.tuple .nil), fun j hj => ?_⟩
        by_cases e : j = i
        · subst e
          exact ⟨hri.wf, by rw [h3]; exact Nat.le_refl _, fun _ b _ => by rw [h3]⟩
        · exact hall j (by omega)
      · obtain ⟨h1, h2, h3, h4⟩ := hx
        have hwt := wanted_rel (tmps := tmpsi) h1 (fun j want _ d _ v hv => hfi.2 d v hv)
        obtain ⟨σ', w', v', g1, g2, _⟩ := exec_sim he hc hro (fun f args H v H' h => hu _ _ _ _ h) (fun f args H v H' h => hu _ _ _ _ h) (ops := ops) (i := i) (tmps := tmpsi) h2 (hri.hide _)
          (by have e : Q.next = (Hs (i + 1)).next := by rw [h3]; rfl
              intro b q1 q2; exact hfree b q1 (by omega))
          (fun x _ v hv => ev_run (a := ⟨tmpsi, []⟩) he hri hfi hv) ho hwt b [] [] [] []
        by_cases hp : (Hs i).next ≤ Q.low
        · have st2 : Step E σi (Hs i) wi σ' (Hs (i + 1)) w' := by
            rw [h3]
            exact Step.restore hri (by have e : Q.next = (Hs (i + 1)).next := by rw [h3]; rfl
                                       rw [e]; exact hfree) g2 hp
          refine ⟨σ', w', putC tmpsi o.dst v', st.trans st2, put_rel (hfi.mono (st2.le hfree)) h4 g1, fun j hj => ?_⟩
          by_cases e : j = i
          · subst e
            refine ⟨hri.wf, st2.low, fun _ c hcn => ?_⟩
            have p2 := g2.p2 (hri.hide _) hp c hcn
            rw [h3]
            show (restoreT Q.blocks (Hs j).blocks _).get c = _
            rw [restoreT_get]
            split
            · rfl
            · rename_i hW
              rw [p2]
              show (hideT (Hs j).blocks _).get c = _
              rw [hideT_get, if_neg hW]
          · exact hall j (by omega)
        · have hW : hidden ops.toList i ts = [] := by
            rcases hpure with h | ⟨h, _⟩
            · exact absurd h hp
            · exact h
          rw [hW] at g2 h3
          have st2 : Step E σi (Hs i) wi σ' (Hs (i + 1)) w' := by
            rw [h3]; exact g2.lower
          refine ⟨σ', w', putC tmpsi o.dst v', st.trans st2, put_rel (hfi.mono (st2.le hfree)) h4 g1, fun j hj => ?_⟩
          by_cases e : j = i
          · subst e
            refine ⟨hri.wf, st2.low, fun hb => ?_⟩
            exact absurd ⟨o, v, Q, ho, ⟨h1, h2, by rw [hW]; exact h3, h4⟩, hp⟩ hb
          · exact hall j (by omega)
  obtain ⟨σn, wn, tmpsn, stn, _, hall⟩ := chain ops.size (Nat.le_refl _)
  have hbars : ∀ i, i < ops.size → Bar E ih ts ops frs Hs i → hidden ops.toList i ts = [] ∧ ((∃ b, TS ts ops frs i b) ∨ fences ops.toList i = true) := by
    rintro i hi ⟨o, v, Q, ho, hrun, hnp⟩
    obtain ⟨o', ho', hx⟩ := tr.step i hi
    rw [ho] at ho'; cases ho'
    rcases hx with hx | ⟨v', Q', hx, hp⟩
    · exact absurd (hrun.1.symm.trans hx.1) (by simp)
    · have := hx.2.1.symm.trans hrun.2.1
      cases this
      obtain ⟨q1, q2⟩ := hp.1.resolve_left hnp
      refine ⟨q1, ?_⟩
      rcases q2 with ⟨b, hb⟩ | q2
      · exact .inl ⟨b, o, ho, hb⟩
      · exact .inr q2
  refine ⟨⟨fun i hi => tr.next hu hi, ?_, fun i hi => (hall i hi).2.2, ?_, fun i hi => (hall i hi).2.1, hbars, ?_⟩, σn, wn, stn⟩
  rotate_right
  · rintro i hi hbar
    rcases (hbars i hi hbar).2 with ⟨bt, hbt⟩ | hf
    · obtain ⟨o', g1, _, g3⟩ := hbt
      have g1' : ops.toList[i]? = some o' := by simpa using g1
      rcases storesAt_spec g3 with ⟨t, a, x, cc, s, g2, _⟩ | ⟨c, g2, _⟩
      · simp only [blindAt, g1', g2, blindOp]
      · simp only [blindAt, g1', g2, blindOp]
    · exact fences_self hf
  · intro i hi
    by_cases e : i = ops.size
    · subst e; exact stn.hr.wf
    · exact (hall i (by omega)).1
  · rintro i hi hbar bt hbt c hclt hne
    have hW := (hbars i hi hbar).1
    obtain ⟨o, v, Q, ho, ⟨h1, h2, h3, h4⟩, hnp⟩ := hbar
    obtain ⟨o', g1, _, g4⟩ := hbt
    rw [ho] at g1; cases g1
    rw [hW] at h2 h3
    rcases storesAt_spec g4 with ⟨t, a, x, cc, s, g2, g3⟩ | ⟨cl, g2, g3⟩
    case inr =>
      obtain ⟨k1, a, y, x, sp, l, cp, k2, k3⟩ := appTo_spec g3
      have hap : ∃ yv, aop E (frs i) o (hideH (Hs i) []) = appendA E (hideH (Hs i) []) cl.argTypes.toList (.slice (some ⟨bt, x, sp⟩) l cp) yv ∨ aop E (frs i) o (hideH (Hs i) []) = none := by
        unfold aop
        simp only [g2, callA, k1, k2]
        have hta : ev E (frs i) (.tmp a) = some (.slice (some ⟨bt, x, sp⟩) l cp) := k3
        simp only [evs, hta]
        cases hy : ev E (frs i) y with
        | none => exact ⟨.nilIface, .inr (by simp)⟩
        | some yv => exact ⟨yv, .inl (by simp [builtinA])⟩
      obtain ⟨yv, hap⟩ := hap
      unfold execA at h2
      rcases hap with hap | hap
      · rw [hap] at h2
        cases hx : appendA E (hideH (Hs i) []) cl.argTypes.toList (.slice (some ⟨bt, x, sp⟩) l cp) yv with
        | none => rw [hx] at h2; cases h2
        | some r =>
          obtain ⟨ar, H1⟩ := r
          obtain ⟨⟨v1, rfl⟩, hfr⟩ := appendA_frame hx
          rw [hx] at h2
          cases h2
          rw [h3]
          exact hfr c hclt hne
      · rw [hap] at h2; cases h2
    obtain ⟨u, hst⟩ := execA_store g2 g3 h2
    unfold storeA at hst
    split at hst
    · rename_i ti bb oo heq ht
      cases ht
      simp only [bif_beq] at hst
      split at hst
      case isFalse => cases hst
      unfold AH.stores at hst
      split at hst
      · simp only [Option.map_eq_some_iff] at hst
        obtain ⟨cs', _, rfl⟩ := hst
        rw [h3]
        simp only [restoreH, restoreT]
        rw [AH.get_write, if_neg hne]
        rfl
      · cases hst
    · cases hst
end
end Go.Am
namespace Go.Am
open Go
theorem tied_comm {ms : List Nat} {i j : Nat} (h : i ≠ j) : tied ms i j = tied ms j i := by
  unfold tied
  by_cases hlt : i < j
  · have h1 : Nat.blt i j = true := Nat.ble_eq_true_of_le hlt
    have h2 : Nat.blt j i = false := by
      cases hb : Nat.blt j i with
      | false => rfl
      | true => have : j < i := Nat.le_of_ble_eq_true hb
                omega
    rw [h1, h2]; rfl
  · have h1 : Nat.blt j i = true := Nat.ble_eq_true_of_le (show j + 1 ≤ i by omega)
    have h2 : Nat.blt i j = false := by
      cases hb : Nat.blt i j with
      | false => rfl
      | true => have : i < j := Nat.le_of_ble_eq_true hb
                omega
    rw [h1, h2]; rfl
def contUp (Hs : Nat → AH) : Nat → Nat → Nat → Option ABlk
  | 0, t, b => if b < (Hs t).next then (Hs t).blocks.get b else none
  | s + 1, t, b => if b < (Hs t).next then (Hs t).blocks.get b else contUp Hs s (t + 1) b
def cont (Hs : Nat → AH) (n t b : Nat) : Option ABlk := contUp Hs (n - t) t b
section
variable {Hs : Nat → AH} {n : Nat}
theorem cont_low {t b : Nat} (h : b < (Hs t).next) : cont Hs n t b = (Hs t).blocks.get b := by
  unfold cont
  cases n - t <;> simp [contUp, h]
theorem cont_next {t b : Nat} (ht : t < n) (h : ¬ b < (Hs t).next) : cont Hs n t b = cont Hs n (t + 1) b := by
  unfold cont
  have : n - t = (n - (t + 1)) + 1 := by omega
  rw [this]
  simp [contUp, h]
theorem cont_at (hmono : ∀ i j, i ≤ j → j ≤ n → (Hs i).next ≤ (Hs j).next) {k b : Nat} (hk : k < n) (h1 : (Hs k).next ≤ b) (h2 : b < (Hs (k + 1)).next) : ∀ (d t : Nat), t + d = k → cont Hs n t b = (Hs (k + 1)).blocks.get b
  | 0, t, e => by
    have : t = k := by omega
    subst this
    rw [cont_next hk (by omega), cont_low h2]
  | d + 1, t, e => by
    have := hmono t k (by omega) (by omega)
    rw [cont_next (by omega) (by omega)]
    exact cont_at hmono hk h1 h2 d (t + 1) (by omega)
theorem cont_none (hmono : ∀ i j, i ≤ j → j ≤ n → (Hs i).next ≤ (Hs j).next) {b : Nat} (h : (Hs n).next ≤ b) : ∀ (d t : Nat), t + d = n → cont Hs n t b = none
  | 0, t, e => by
    have : t = n := by omega
    subst this
    unfold cont
    simp only [Nat.sub_self, contUp]
    rw [if_neg (by omega)]
  | d + 1, t, e => by
    have := hmono t n (by omega) (Nat.le_refl _)
    rw [cont_next (by omega) (by omega)]
    exact cont_none hmono h d (t + 1) (by omega)
theorem stage_of {b : Nat} : ∀ (d t : Nat), t + d = n → (Hs t).next ≤ b → b < (Hs n).next → ∃ k, t ≤ k ∧ k < n ∧ (Hs k).next ≤ b ∧ b < (Hs (k + 1)).next
  | 0, t, e, h1, h2 => by
    have : t = n := by omega
    subst this; omega
  | d + 1, t, e, h1, h2 => by
    by_cases h : b < (Hs (t + 1)).next
    · exact ⟨t, Nat.le_refl _, by omega, h1, h⟩
    · obtain ⟨k, g1, g2, g3, g4⟩ := stage_of d (t + 1) (by omega) (by omega) h2
      exact ⟨k, by omega, g2, g3, g4⟩
end
section
variable {E : Env} {ih : Cmd → AH → Res} {ts : List (Nat × Nat)} {ops : Array Oper} {frs : Nat → Fr} {Hs : Nat → AH}
def Writes (ops : Array Oper) (m : Nat) (x : Tmp) : Prop := ∃ o, ops[m]? = some o ∧ o.dst = some x
def Latest (ops : Array Oper) (S : Nat → Prop) (j : Nat) (x : Tmp) : Prop := (j = 0 ∨ ∃ m, j = m + 1 ∧ S m ∧ Writes ops m x) ∧ ∀ m, S m → Writes ops m x → m + 1 ≤ j
theorem mem_lt {m : Nat} {x : Tmp} (h : Writes ops m x) : m < ops.size := by
  obtain ⟨o, ho, _⟩ := h
  exact (Array.getElem?_eq_some_iff.1 ho).1
theorem same_range (hu : UpIh ih) (tr : Trace E ih ts ops frs Hs) (tf : TF E ih ts ops frs Hs) {p b : Nat} (hb : b < (Hs p).next) : ∀ {q : Nat}, p ≤ q → q ≤ ops.size →
    (∀ j, p ≤ j → j < q → Bar E ih ts ops frs Hs j → ∃ bt, TS ts ops frs j bt ∧ b ≠ bt) → (Hs q).blocks.get b = (Hs p).blocks.get b
  | 0, h1, _, _ => by have : p = 0 := by omega
                      subst this; rfl
  | q + 1, h1, h2, h => by
    by_cases e : p = q + 1
    · subst e; rfl
    · have ih1 := same_range hu tr tf hb (q := q) (by omega) (by omega) fun j g1 g2 => h j g1 (by omega)
      have hlt : b < (Hs q).next := Nat.lt_of_lt_of_le hb (tr.nexts hu (by omega) (by omega))
      rw [← ih1]
      by_cases hbar : Bar E ih ts ops frs Hs q
      · obtain ⟨bt, g1, g2⟩ := h q (by omega) (by omega) hbar
        exact tf.store q (by omega) hbar bt g1 b hlt g2
      · exact tf.pure q (by omega) hbar b hlt
theorem bar_lt {j : Nat} (h : Bar E ih ts ops frs Hs j) : j < ops.size := by
  obtain ⟨o, _, _, ho, _⟩ := h
  exact (Array.getElem?_eq_some_iff.1 ho).1
theorem untied_hidden (tf : TF E ih ts ops frs Hs) {i j : Nat} (hi : i < ops.size) (hb : Bar E ih ts ops frs Hs j) (hne : j ≠ i) (hnb : blindAt ops.toList i = false) (ht : tied (masks ops.toList) j i = false) :
    ∃ bt, TS ts ops frs j bt ∧ bt ∈ hidden ops.toList i ts := by
  rcases (tf.bars j (bar_lt hb) hb).2 with ⟨bt, h⟩ | h
  · obtain ⟨o, h1, h2⟩ := h
    exact ⟨bt, ⟨o, h1, h2⟩, hidden_mem h2.1 hne ht⟩
  · have := fences_tied h (j := i) (by simpa using hi) (fun e => hne e.symm) hnb
    rw [tied_comm (fun e => hne e.symm)] at this
    rw [this] at ht; cases ht
theorem bars_tied (tf : TF E ih ts ops frs Hs) {i j : Nat} (hi : Bar E ih ts ops frs Hs i) (hj : Bar E ih ts ops frs Hs j) (hne : j ≠ i) : tied (masks ops.toList) j i = true := by
  cases ht : tied (masks ops.toList) j i with
  | true => rfl
  | false =>
    obtain ⟨bt, h1, h2⟩ := untied_hidden tf (bar_lt hi) hj hne (tf.nb i (bar_lt hi) hi) ht
    rw [(tf.bars i (bar_lt hi) hi).1] at h2
    simp at h2
structure Inv (E : Env) (ih : Cmd → AH → Res) (ts : List (Nat × Nat)) (ops : Array Oper) (frs : Nat → Fr) (Hs : Nat → AH) (σ0 : Sig) (w0 : World) (t : Nat) (S : Nat → Prop) (σ : Sig) (w : World) (tmps : Array Value) : Prop where
  tle : t ≤ ops.size
  a1 : ∀ j, j < t → Bar E ih ts ops frs Hs j → S j
  a2 : ∀ j, t ≤ j → Bar E ih ts ops frs Hs j → ¬ S j
  a3 : t = ops.size ∨ Bar E ih ts ops frs Hs t
  down : ∀ j a, S j → Anc ops.toList a j → S a
  slt : ∀ j, S j → j < ops.size
  objs : ∀ b k L, cont Hs ops.size t b = some k → σ b = some L → ∃ o, w.heap[L.blk]? = some o ∧ ObjR E σ L k.own k.obj o
  sep : ∀ b₁ b₂ k₁ k₂ L₁ L₂, cont Hs ops.size t b₁ = some k₁ → cont Hs ops.size t b₂ = some k₂ → k₁.own = true → σ b₁ = some L₁ → σ b₂ = some L₂ → b₁ ≠ b₂ → L₁.blk ≠ L₂.blk
  glob : ∀ g, g < E.prog.globals.size → ∃ L, σ g = some L ∧ L.blk = g ∧ L.off = 0
  free : ∀ j, j < ops.size → ¬ S j → ∀ b, (Hs j).next ≤ b → b < (Hs (j + 1)).next → σ b = none
  ext : ∀ b, b < (Hs 0).next ∨ (Hs ops.size).next ≤ b → σ b = σ0 b
  tsz : tmps.size = (frs 0).sz
  slots : ∀ j x v, j ≤ ops.size → Latest ops S j x → (frs j).t.get x = some v → VR σ v (tmps.getD x undef)
  size : w0.heap.size ≤ w.heap.size
  tape : w.tape = w0.tape
  os : w.os = w0.os
  output : w.output = w0.output
  frame : ∀ B, B < w0.heap.size → (∀ b k L, (Hs 0).blocks.get b = some k → k.own = true → σ0 b = some L → (Hs ops.size).low ≤ k.root → L.blk ≠ B) → w.heap[B]? = w0.heap[B]?
  origin : ∀ b k L, cont Hs ops.size t b = some k → k.own = true → σ b = some L → w0.heap.size ≤ L.blk ∨
    ∃ b₀ k₀ L₀, (Hs 0).blocks.get b₀ = some k₀ ∧ k₀.own = true ∧ σ0 b₀ = some L₀ ∧ L₀.blk = L.blk ∧ k₀.root = k.root
theorem slot_named (hreg : regOk ops.toList = true) (tr : Trace E ih ts ops frs Hs) {S : Nat → Prop} (hdown : ∀ j a, S j → Anc ops.toList a j → S a) (hslt : ∀ j, S j → j < ops.size) {i : Nat} {o : Oper} (ho : ops[i]? = some o) (hi : ¬ S i)
    (hready : ∀ a, Anc ops.toList a i → S a) {x : Tmp} (hx : x ∈ namesOf ops.toList o) : ∃ j, j ≤ i ∧ Latest ops S j x ∧ (frs j).t.get x = (frs i).t.get x := by
  have hilt : i < ops.size := (Array.getElem?_eq_some_iff.1 ho).1
  have ho' : ops.toList[i]? = some o := by simpa using ho
  have find : ∀ m, m ≤ i → ∃ j, j ≤ m ∧ (j = 0 ∨ ∃ p, j = p + 1 ∧ Writes ops p x) ∧ (∀ p, p < m → Writes ops p x → p + 1 ≤ j) ∧ (frs j).t.get x = (frs m).t.get x := by
    intro m
    induction m with
    | zero => intro _; exact ⟨0, Nat.le_refl _, .inl rfl, fun p hp => by omega, rfl⟩
    | succ m IH =>
      intro hm
      obtain ⟨j, h1, h2, h3, h4⟩ := IH (by omega)
      by_cases hw : Writes ops m x
      · exact ⟨m + 1, Nat.le_refl _, .inr ⟨m, rfl, hw⟩, fun p hp _ => by omega, rfl⟩
      · refine ⟨j, by omega, h2, fun p hp hpw => ?_, ?_⟩
        · by_cases e : p = m
          · subst e; exact absurd hpw hw
          · exact h3 p (by omega) hpw
        · rw [h4]
          obtain ⟨q, hq, hx⟩ := tr.step m (by omega)
          have hne : q.dst ≠ some x := fun e => hw ⟨q, hq, e⟩
          have hp : ∃ v, putA (frs m) q.dst v = some (frs (m + 1)) := by
            rcases hx with hx | ⟨v, Q, hx, _⟩
            · exact ⟨_, hx.2.1⟩
            · exact ⟨_, hx.2.2.2⟩
          obtain ⟨v, hp⟩ := hp
          unfold putA at hp
          cases hd : q.dst with
          | none => rw [hd] at hp; rw [← Option.some.inj hp]
          | some d =>
            rw [hd] at hp hne
            simp only [bif_ble] at hp
            split at hp
            case isFalse => cases hp
            rw [← Option.some.inj hp]
            simp only [T.get_put]
            rw [if_neg]
            intro e; exact hne (by rw [e])
  have hwr : ∀ k, k ≠ i → Writes ops k x → tied (masks ops.toList) k i = true := by
    rintro k hne ⟨q, hq, hd⟩
    exact regOk_names hreg ho' (by simpa using hq) hne hd hx
  obtain ⟨j, h1, h2, h3, h4⟩ := find i (Nat.le_refl _)
  refine ⟨j, h1, ⟨?_, ?_⟩, h4⟩
  · rcases h2 with h2 | ⟨p, rfl, hp⟩
    · exact .inl h2
    · exact .inr ⟨p, rfl, hready p ((tied_anc (hwr p (by omega) hp)).1 (by omega)), hp⟩
  · intro m hm hmw
    have hne : m ≠ i := fun e => hi (e ▸ hm)
    by_cases hlt : m < i
    · exact h3 m hlt hmw
    · exact absurd (hdown m i hm ((tied_anc (hwr m hne hmw)).2 hlt)) hi
theorem slots_step (hreg : regOk ops.toList = true) (tr : Trace E ih ts ops frs Hs) {S : Nat → Prop} (hdown : ∀ j a, S j → Anc ops.toList a j → S a) {i : Nat} {o : Oper} (ho : ops[i]? = some o) (hi : ¬ S i)
    {σ σ' : Sig} (hσ : Sig.le σ σ') {tmps : Array Value} (hsz : tmps.size = (frs 0).sz) (hszs : (frs i).sz = (frs 0).sz)
    (hs : ∀ j x v, j ≤ ops.size → Latest ops S j x → (frs j).t.get x = some v → VR σ v (tmps.getD x undef)) {v v' : Value} (hp : putA (frs i) o.dst v = some (frs (i + 1))) (hv : VR σ' v v') :
    (∀ j x u, j ≤ ops.size → Latest ops (fun m => S m ∨ m = i) j x → (frs j).t.get x = some u → VR σ' u ((putC tmps o.dst v').getD x undef)) ∧ (putC tmps o.dst v').size = (frs 0).sz := by
  have hilt : i < ops.size := (Array.getElem?_eq_some_iff.1 ho).1
  have ho' : ops.toList[i]? = some o := by simpa using ho
  constructor
  · intro j x u hj hl hu
    by_cases hw : o.dst = some x
    · -- written here
      have hwi : Writes ops i x := ⟨o, ho, hw⟩
      have hji : j = i + 1 := by
        have h1 := hl.2 i (.inr rfl) hwi
        rcases hl.1 with h0 | ⟨m, rfl, hm, hmw⟩
        · omega
        · rcases hm with hm | rfl
          · by_cases hlt : m < i
            · omega
            · have hne : m ≠ i := fun e => hi (e ▸ hm)
              obtain ⟨q, hq, hqd⟩ := hmw
              have ht := regOk_names hreg ho' (show ops.toList[m]? = some q by simpa using hq) hne hqd (by unfold namesOf; simp [hw])
              exact absurd (hdown m i hm ((tied_anc ht).2 hlt)) hi
          · rfl
      subst hji
      rw [hw] at hp ⊢
      unfold putA at hp
      simp only [bif_ble] at hp
      split at hp
      case isFalse => cases hp
      rename_i hlt
      rw [← Option.some.inj hp] at hu
      simp only [T.get_put, if_true, Option.some.injEq] at hu
      subst hu
      have hxl : x < tmps.size := by rw [hsz, ← hszs]; exact hlt
      have : (putC tmps (some x) v').getD x undef = v' := by simp [putC, Array.getD, hxl]
      rw [this]; exact hv
    · have hold : Latest ops S j x := by
        refine ⟨?_, fun m hm hmw => hl.2 m (.inl hm) hmw⟩
        rcases hl.1 with h0 | ⟨m, rfl, hm, hmw⟩
        · exact .inl h0
        · refine .inr ⟨m, rfl, ?_, hmw⟩
          rcases hm with hm | rfl
          · exact hm
          · obtain ⟨q, hq, hqd⟩ := hmw
            rw [ho] at hq; cases hq
            exact absurd hqd hw
      have hr := hs j x u hj hold hu
      have : (putC tmps o.dst v').getD x undef = tmps.getD x undef := by
        cases hd : o.dst with
        | none => rfl
        | some d =>
          have hne : ¬ d = x := fun e => hw (by rw [hd, e])
          simp [putC, Array.getElem?_setIfInBounds, hne]
      rw [this]; exact hr.mono hσ
  · cases hd : o.dst <;> simp [putC, hsz]
end
end Go.Am
