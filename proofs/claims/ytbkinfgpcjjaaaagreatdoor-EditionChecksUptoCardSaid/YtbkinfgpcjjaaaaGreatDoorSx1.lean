/- What commands do, said without a bound on steps. Conditions: none. -/
import Derived.Test.YtbkinfgpcjjaaaaGreatDoorAm7
set_option linter.all false
namespace Go.Am
open Go
def CodeX (E : Env) (c : Code) (fr : Fr) (H : AH) (e : AExit) (fr' : Fr) (H' : AH) : Prop := H.next ≤ H'.next ∧ CodeOK E c fr H e fr' H'
section
variable {E : Env} {H H1 H' : AH} {fr fr1 fr' : Fr} {e e' : AExit}
theorem codeX_then {c1 c2 : Code} (h1 : CodeX E c1 fr H .normal fr1 H1) (h2 : CodeX E c2 fr1 H1 e fr' H')
    {c : Code} (hreg : regsOk c = true → regsOk c1 = true ∧ regsOk c2 = true) (x : Item)
    (hs : ∀ (b : Frame) (tmps : Array Value) (ds : List Deferred) (k : List Item) (cs : List Frame) (w : World), Steps E.prog (lone (Fm b tmps ds (lay c k)) cs w) (lone (Fm b tmps ds (.code c1 :: x :: k)) cs w))
    (hs2 : ∀ (b : Frame) (tmps : Array Value) (ds : List Deferred) (k : List Item) (cs : List Frame) (w : World), Steps E.prog (lone (Fm b tmps ds (x :: k)) cs w) (lone (Fm b tmps ds (lay c2 k)) cs w)) :
    CodeX E c fr H e fr' H' := by
  refine ⟨Nat.le_trans h1.1 h2.1, ?_⟩
  intro hr0 σ w tmps n0 B0 hr hf hfree hn0 b ds k cs hk hro hds
  obtain ⟨r1, r2⟩ := hreg hr0
  have hup1 : H.next ≤ H1.next := h1.1
  have hup2 : H1.next ≤ H'.next := h2.1
  have hfree1 : Free σ H.next H1.next := fun c q1 q2 => hfree c q1 (by omega)
  obtain ⟨σ1, w1, tmps1, ds1, s1, f1, rd1, d1, e1⟩ := h1.2.lay r1 tmps n0 B0 hr hf hfree1 hn0 b ds (x :: k) cs hk hro hds
  obtain ⟨σ2, w2, tmps2, ds2, s2, f2, rd2, d2, e2⟩ := h2.2 r2 σ1 w1 tmps1 n0 B0 s1.hr f1 (hfree.split s1.ext s1.next) (Nat.le_trans hn0 s1.size) b ds1 k cs hk (by rw [rd1]; exact hro) d1
  have e1' : Steps E.prog _ _ := e1
  exact ⟨σ2, w2, tmps2, ds2, s1.trans s2, f2, rd2.trans rd1, d2, .head ((hs b tmps ds k cs w).trans (e1'.trans (hs2 b tmps1 ds1 k cs w1))) e2⟩
theorem codeX_in {c1 : Code} (h1 : CodeX E c1 fr H e fr' H')
    {c : Code} (hreg : regsOk c = true → regsOk c1 = true) (xs : List Item)
    (hs : ∀ (tmps : Array Value), (∀ σ : Sig, FrR σ fr tmps → ∀ (b : Frame) (ds : List Deferred) (k : List Item) (cs : List Frame) (w : World), HR E σ H w → Steps E.prog (lone (Fm b tmps ds (lay c k)) cs w) (lone (Fm b tmps ds (.code c1 :: xs ++ k)) cs w)))
    (hs2 : ∀ (m : Machine) (b : Frame) (tmps : Array Value) (ds : List Deferred) (k : List Item) (cs : List Frame) (w : World), Reach E.prog e m b tmps ds (xs ++ k) cs w → Reach E.prog e' m b tmps ds k cs w) :
    CodeX E c fr H e' fr' H' := by
  refine ⟨h1.1, ?_⟩
  intro hr0 σ w tmps n0 B0 hr hf hfree hn0 b ds k cs hk hro hds
  obtain ⟨σ1, w1, tmps1, ds1, s1, f1, rd1, d1, e1⟩ := h1.2.lay (hreg hr0) tmps n0 B0 hr hf hfree hn0 b ds (xs ++ k) cs hk hro hds
  exact ⟨σ1, w1, tmps1, ds1, s1, f1, rd1, d1, hs2 _ _ _ _ _ _ _ (.head (hs tmps σ hf b ds k cs w hr) e1)⟩
theorem CodeX.skip : CodeX E .skip fr H .normal fr H := ⟨Nat.le_refl _, code_stay fun _ _ _ _ _ _ => .one fm_skip⟩
theorem CodeX.label {l : Nat} : CodeX E (.label l) fr H .normal fr H := ⟨Nat.le_refl _, code_stay fun _ _ _ _ _ _ => .one fm_label⟩
theorem CodeX.ret : CodeX E .ret fr H .ret fr H := ⟨Nat.le_refl _, code_stay fun _ _ _ k _ _ => ⟨k, Steps.refl _ _⟩⟩
theorem CodeX.exit {id : Nat} : CodeX E (.exit id) fr H (.exit id) fr H :=
  ⟨Nat.le_refl _, code_stay fun _ _ _ k _ _ => ⟨fun _ hk => .one (fm_exit hk), fun hn => ⟨k, hn, Steps.refl _ _⟩⟩⟩
theorem CodeX.seq {a b : Code} (h1 : CodeX E a fr H .normal fr1 H1) (h2 : CodeX E b fr1 H1 e fr' H') : CodeX E (.seq a b) fr H e fr' H' :=
  codeX_then h1 h2 (fun hr => by simpa [regsOk] using hr) (.code b) (fun _ _ _ _ _ _ => .one fm_seq) (fun _ _ _ _ _ _ => lay_steps _ _ _ _ _ _ _ _)
theorem CodeX.seqOut {a b : Code} (h1 : CodeX E a fr H e fr' H') (hn : e ≠ .normal) : CodeX E (.seq a b) fr H e fr' H' :=
  codeX_in h1 (fun hr => by simp [regsOk] at hr; exact hr.1) [.code b] (fun _ _ _ _ _ _ _ _ _ => .one fm_seq) (fun _ _ _ _ _ _ _ g => g.weaken (fun _ => rfl) hn)
theorem CodeX.condT (he : EOk E) {c : Operand} {a b : Code} (hc : ev E fr c = some (.bool true)) (h1 : CodeX E a fr H e fr' H') : CodeX E (.cond c a b) fr H e fr' H' :=
  codeX_in h1 (fun hr => by simp [regsOk] at hr; exact hr.1) [] (fun tmps _ hf _ _ _ _ _ hr => .one (fm_cond (t := true) (bool_eq (ev_run (a := ⟨tmps, []⟩) he hr hf hc)))) (fun _ _ _ _ _ _ _ g => g)
theorem CodeX.condF (he : EOk E) {c : Operand} {a b : Code} (hc : ev E fr c = some (.bool false)) (h1 : CodeX E b fr H e fr' H') : CodeX E (.cond c a b) fr H e fr' H' :=
  codeX_in h1 (fun hr => by simp [regsOk] at hr; exact hr.2) [] (fun tmps _ hf _ _ _ _ _ hr => .one (fm_cond (t := false) (bool_eq (ev_run (a := ⟨tmps, []⟩) he hr hf hc)))) (fun _ _ _ _ _ _ _ g => g)
theorem CodeX.blockExit {id : Nat} {b : Code} (h1 : CodeX E b fr H (.exit id) fr' H') : CodeX E (.block id b) fr H .normal fr' H' :=
  codeX_in h1 (fun hr => hr) [.inBlock id] (fun _ _ _ _ _ _ _ _ _ => .one fm_block) (fun _ _ _ _ k _ _ g => g.1 k (by simp [exitTo]))
theorem CodeX.block {id : Nat} {b : Code} (h1 : CodeX E b fr H e fr' H') (hn : e ≠ .exit id) : CodeX E (.block id b) fr H e fr' H' := by
  refine codeX_in h1 (fun hr => hr) [.inBlock id] (fun _ _ _ _ _ _ _ _ _ => .one fm_block) (fun m b tmps ds k cs w g => ?_)
  cases e with
  | normal =>
    have g' : Steps E.prog _ _ := g
    exact g'.trans (.one fm_inBlock)
  | exit id' =>
    refine g.weaken2 (fun id2 e2 => ?_) (by simp)
    cases e2
    have : (id == id') = false := by simpa using fun hh => hn (by rw [hh])
    simp [exitTo, this]
  | ret => exact g
theorem CodeX.loop {b : Code} (h1 : CodeX E b fr H .normal fr1 H1) (h2 : CodeX E (.loop b) fr1 H1 e fr' H') : CodeX E (.loop b) fr H e fr' H' :=
  codeX_then h1 h2 (fun hr => ⟨hr, hr⟩) (.inLoop b) (fun _ _ _ _ _ _ => Steps.refl _ _) (fun _ _ _ _ _ _ => .one fm_inLoop)
theorem CodeX.loopOut {b : Code} (h1 : CodeX E b fr H e fr' H') (hn : e ≠ .normal) : CodeX E (.loop b) fr H e fr' H' :=
  codeX_in h1 (fun hr => hr) [.inLoop b] (fun _ _ _ _ _ _ _ _ _ => Steps.refl _ _) (fun _ _ _ _ _ _ _ g => g.weaken (fun _ => rfl) hn)
theorem CodeX.scope {b : Code} (h1 : CodeX E b fr H e fr' H') : CodeX E (.scope b) fr H e fr' H' := by
  refine codeX_in h1 (fun hr => hr) [.inScope b] (fun _ _ _ _ _ _ _ _ _ => .one fm_scope) (fun m b2 tmps ds k cs w g => ?_)
  by_cases hn : e = .normal
  · subst hn
    have g' : Steps E.prog _ _ := g
    exact g'.trans (.one fm_inScope)
  · exact g.weaken (fun _ => rfl) hn
structure Fact where
  f : FuncId
  args : List Value
  H : AH
  v : Value
  H' : AH
def Fact.ok (E : Env) (a : Fact) : Prop := a.H.next < a.H'.next ∧ CallOK E a.f a.args a.H a.v a.H'
def Facts (E : Env) : Nat → List Fact → Prop
  | _, [] => True
  | n, a :: l => a.ok E ∧ n ≤ a.H.next ∧ Facts E a.H'.next l
theorem Facts.mono : ∀ {n m : Nat} {l : List Fact}, m ≤ n → Facts E n l → Facts E m l
  | _, _, [], _, _ => trivial
  | _, _, _ :: _, h, ⟨h1, h2, h3⟩ => ⟨h1, Nat.le_trans h h2, h3⟩
theorem Facts.later : ∀ {n : Nat} {l : List Fact}, Facts E n l → ∀ a ∈ l, n ≤ a.H.next ∧ a.ok E
  | _, [], _, _, h => by cases h
  | n, b :: l, ⟨h1, h2, h3⟩, a, h => by
    rcases List.mem_cons.1 h with rfl | h
    · exact ⟨h2, h1⟩
    · have := Facts.later h3 a h
      exact ⟨Nat.le_trans h2 (Nat.le_trans (Nat.le_of_lt h1.1) this.1), this.2⟩
open Classical in
noncomputable def ihL : List Fact → Cmd → AH → Res
  | [], _, _ => none
  | a :: l, cmd, H => if cmd = .call a.f a.args ∧ H = a.H then some (.val a.v, a.H') else ihL l cmd H
theorem ihL_at : ∀ {n : Nat} {l : List Fact}, Facts E n l → ∀ a ∈ l, ihL l (.call a.f a.args) a.H = some (.val a.v, a.H')
  | _, [], _, _, h => by cases h
  | n, b :: l, ⟨h1, h2, h3⟩, a, h => by
    rcases List.mem_cons.1 h with rfl | h
    · simp [ihL]
    · have := Facts.later h3 a h
      have hb : b.H.next < b.H'.next := h1.1
      rw [ihL, if_neg, ihL_at h3 a h]
      rintro ⟨_, e⟩
      have : b.H'.next ≤ b.H.next := by rw [← e]; exact this.1
      omega
theorem ihL_inv : ∀ {l : List Fact} {cmd : Cmd} {H : AH} {r : Out × AH}, ihL l cmd H = some r → ∃ a ∈ l, cmd = .call a.f a.args ∧ H = a.H ∧ r = (.val a.v, a.H')
  | [], _, _, _, h => by cases h
  | a :: l, cmd, H, r, h => by
    rw [ihL] at h
    split at h
    · rename_i hh
      cases h
      exact ⟨a, List.mem_cons_self, hh.1, hh.2, rfl⟩
    · obtain ⟨b, h1, h2⟩ := ihL_inv h
      exact ⟨b, List.mem_cons_of_mem _ h1, h2⟩
theorem ihL_ok {n : Nat} {l : List Fact} (h : Facts E n l) : IhOK E (ihL l) where
  up cmd H out H' hh := by
    obtain ⟨a, h1, _, rfl, h4⟩ := ihL_inv hh
    cases h4
    exact Nat.le_of_lt (h.later a h1).2.1
  call f args H v H' hh := by
    obtain ⟨a, h1, h2, rfl, h4⟩ := ihL_inv hh
    cases h2; cases h4
    exact (h.later a h1).2.2
  round l args H v H' hh := by
    obtain ⟨a, h1, h2, _⟩ := ihL_inv hh
    cases h2
  code c fr H e fr' H' hh := by
    obtain ⟨a, h1, h2, _⟩ := ihL_inv hh
    cases h2
  codev c fr H v H' hh := by
    obtain ⟨a, h1, h2, _⟩ := ihL_inv hh
    cases h2
def Grants (l : List Fact) (ih : Cmd → AH → Res) : Prop := ∀ a ∈ l, ih (.call a.f a.args) a.H = some (.val a.v, a.H')
def OpsX (E : Env) (all : Array Oper) (draw : Bool) (os : List Oper) (i : Nat) (fr : Fr) (H : AH) (fr' : Fr) (H' : AH) : Prop :=
  H.next ≤ H'.next ∧ ∃ l, Facts E H.next l ∧ (∀ a ∈ l, a.H'.next ≤ H'.next) ∧ ∀ ih, Grants l ih → runOps E ih all draw [] os i fr H = some (fr', H')
theorem CodeX.region (he : EOk E) {id : Nat} {ops : Array Oper} {draw : Bool} (h : OpsX E ops draw ops.toList 0 fr H fr' H') : CodeX E (.region id ops draw) fr H .normal fr' H' := by
  obtain ⟨hn, l, h1, _, h3⟩ := h
  refine ⟨hn, ?_⟩
  have hrun := h3 (ihL l) (fun a ha => ihL_at h1 a ha)
  have io := ihL_ok h1
  intro hr0 σ w tmps n0 B0 hr hf hfree hn0 b ds k cs hk hro hds
  obtain ⟨σ', w', tmps', g1, g2, g3⟩ := region_sim he io.call io.round io.up (id := id) (fun hd => by simpa [regsOk, hd] using hr0) b ds k cs hk hro hrun hr hf hfree
  exact ⟨σ', w', tmps', ds, g1, g2, runOps_rd hrun, hds.step hr g1, g3⟩
open Classical in
theorem CodeX.call (he : EOk E) {f : FuncId} {args : List Value} {fn : Func} {c : Code} {v : Value} (hf : E.funcs.get f = some fn) (hb : fn.body = some c)
    (h : CodeX E c ⟨Nat.max fn.ntmps args.length, false, T.ofList .leaf 0 args⟩ H e fr' H') (he' : e = .normal ∨ e = .ret)
    (hres : (match resultA E fr' H' fn.results.toList with | some [v] => some v | some vs => some (.tuple ⟨vs⟩) | none => none) = some v) : CallOK E f args H v H' := by
  let fr0 : Fr := ⟨Nat.max fn.ntmps args.length, false, T.ofList .leaf 0 args⟩
  let ih : Cmd → AH → Res := fun cmd H2 => if cmd = .code c fr0 ∧ H2 = H then some (.ex e fr', H') else none
  have inv : ∀ {cmd : Cmd} {H2 : AH} {r : Out × AH}, ih cmd H2 = some r → cmd = .code c fr0 ∧ H2 = H ∧ r = (.ex e fr', H') := by
    intro cmd H2 r hh
    simp only [ih] at hh
    split at hh
    · rename_i hc; cases hh; exact ⟨hc.1, hc.2, rfl⟩
    · cases hh
  have io : IhOK E ih := by
    refine { up := ?_, call := ?_, round := ?_, code := ?_, codev := ?_ }
    · intro cmd H2 out H3 hh
      obtain ⟨_, h2, h3⟩ := inv hh
      cases h3
      rw [h2]
      exact h.1
    · intro f args H v H' hh; cases (inv hh).1
    · intro f args H v H' hh; cases (inv hh).1
    · intro c2 fr2 H2 e2 fr3 H3 hh
      obtain ⟨h1, rfl, h3⟩ := inv hh
      cases h1; cases h3
      exact h.2
    · intro c2 fr2 H2 v2 H3 hh
      have := (inv hh).2.2
      cases this
  have hrun : body E ih (.call f args) H = some (.val v, H') := by
    have hi : ih (.code c fr0) H = some (.ex e fr', H') := by simp [ih]
    simp only [body, hf, hb]
    have hi' : ih (.code c ⟨Nat.max fn.ntmps args.length, false, T.ofList .leaf 0 args⟩) H = some (.ex e fr', H') := hi
    rw [hi']
    rcases he' with rfl | rfl
    all_goals
      simp only
      split at hres
      · rename_i v1 hv; cases hres; simp only [hv]
      · rename_i vs h1 hv
        cases hres
        simp only [hv]
      · cases hres
  exact (body_ok he io).call _ _ _ _ _ hrun
end
end Go.Am
namespace Go.Am
open Go
inductive SV where
  | v (i : Nat)
  | c (x : Value)
  | loc (b off : Nat)
  | ptr (s i : SV) (sz off : Nat)
  | pp (i off : Nat)
  | agg (cs : List SV)
  | tup (cs : List SV)
  | fn (f : Fn) (first cap : List SV)
  | ifc (t : TypeId) (x : SV)
instance : Inhabited SV := ⟨.v 0⟩
inductive VK where
  | pure
  | full
  | fresh
  | dead
  | ptr
structure VSt where
  k : VK
  one : Bool
inductive Blk where
  | cells (cs : List SV)
  | whole (x : SV) (n : Nat)
structure Pat where
  sts : List VSt
  slots : List (Nat × SV)
  blks : List (Option Blk)
structure Mode where
  inp : Pat
  n : Nat
  out : Pat
inductive D where
  | leaf (v : Value)
  | agg (cs : List D)
  | nil
  | sl (el : TypeId) (sz : Nat) (es : List D)
  | tup (cs : List D)
  | ptr (cs : List D) (off : Nat)
  | clo (fn : Fn) (first cap : List D)
  | iface (t : TypeId) (d : D)
  | mode (m : Mode)
instance : Inhabited D := ⟨.nil⟩
def D.cells : D → List D
  | .agg cs => cs
  | d => [d]
def D.one : D → Bool
  | .agg _ | .tup _ => false
  | _ => true
def D.es : D → List D
  | .sl _ _ es => es
  | _ => []
def D.szD : D → Nat
  | .sl _ sz _ => sz
  | _ => 0
def dleaf : Value → Bool
  | .bool _ | .int _ _ | .float _ _ | .complex _ _ _ | .string _ => true
  | .pointer a => a.isNone
  | .map r => r.isNone
  | .nilFunc | .nilIface => true
  | _ => false
abbrev Mem := Nat → Option ABlk
mutual
inductive DR (g : Mem) : D → Value → Prop
  | leaf {v : Value} (h : dleaf v = true) : DR g (.leaf v) v
  | agg {cs : List D} {vs : List Value} (h : DRs g cs vs) (o : vs.all oneCell = true) : DR g (.agg cs) (.agg ⟨vs⟩)
  | tup {cs : List D} {vs : List Value} (h : DRs g cs vs) : DR g (.tup cs) (.tuple ⟨vs⟩)
  | nil : DR g .nil (.slice none 0 0)
  | sl {el : TypeId} {es : List D} {b o l c sz rt : Nat} {cs vs : List Value} {own : Bool} (hb : g b = some ⟨.cells cs el, rt, own⟩) (ht : take? (cs.drop o) (l * sz) = some vs)
      (hv : DRs g (es.flatMap D.cells) vs) (hl : es.length = l) (hs : ∀ e ∈ es, e.cells.length = sz) (hc : l ≤ c) (hx : l < capX) (ho : vs.all oneCell = true) : DR g (.sl el sz es) (.slice (some ⟨b, o, none⟩) l c)
  | ptr {cs : List D} {off b rt : Nat} {vs : List Value} {el : TypeId} {own : Bool} (hb : g b = some ⟨.cells vs el, rt, own⟩) (hv : DRs g cs vs) (ho : vs.all oneCell = true) : DR g (.ptr cs off) (.pointer (some ⟨b, off, none⟩))
  | clo {fn : Fn} {first cap : List D} {f c : List Value} (hp : fnPlain fn = true) (hf : DRs g first f) (hc : DRs g cap c) : DR g (.clo fn first cap) (.func fn ⟨f⟩ ⟨c⟩)
  | iface {t : TypeId} {d : D} {v : Value} (h : DR g d v) : DR g (.iface t d) (.iface t v)
inductive DRs (g : Mem) : List D → List Value → Prop
  | nil : DRs g [] []
  | cons {d : D} {v : Value} {ds : List D} {vs : List Value} (h : DR g d v) (hs : DRs g ds vs) : DRs g (d :: ds) (v :: vs)
end
def Mem.le (g g' : Mem) : Prop := ∀ b k, g b = some k → g' b = some k
theorem Mem.le_refl (g : Mem) : Mem.le g g := fun _ _ h => h
theorem Mem.le_trans {g g' g'' : Mem} (h : Mem.le g g') (h' : Mem.le g' g'') : Mem.le g g'' := fun b k e => h' b k (h b k e)
mutual
theorem DR.mono {g g' : Mem} (hg : Mem.le g g') : ∀ {d : D} {v : Value}, DR g d v → DR g' d v
  | _, _, .leaf h => .leaf h
  | _, _, .agg h o => .agg (DRs.mono hg h) o
  | _, _, .tup h => .tup (DRs.mono hg h)
  | _, _, .nil => .nil
  | _, _, .sl hb ht hv hl hs hc hx ho => .sl (hg _ _ hb) ht (DRs.mono hg hv) hl hs hc hx ho
  | _, _, .ptr hb hv ho => .ptr (hg _ _ hb) (DRs.mono hg hv) ho
  | _, _, .clo hp hf hc => .clo hp (DRs.mono hg hf) (DRs.mono hg hc)
  | _, _, .iface h => .iface (DR.mono hg h)
theorem DRs.mono {g g' : Mem} (hg : Mem.le g g') : ∀ {ds : List D} {vs : List Value}, DRs g ds vs → DRs g' ds vs
  | _, _, .nil => .nil
  | _, _, .cons h hs => .cons (DR.mono hg h) (DRs.mono hg hs)
end
section
variable {g g' : Mem}
theorem DR.one {d : D} {v : Value} (h : DR g d v) : oneCell v = d.one := by
  cases h <;> try rfl
  rename_i h; cases v <;> first | rfl | (simp [dleaf] at h)
theorem DRs.length : ∀ {ds : List D} {vs : List Value}, DRs g ds vs → vs.length = ds.length
  | _, _, .nil => rfl
  | _, _, .cons _ hs => by simp [DRs.length hs]
theorem DRs.append : ∀ {a b : List D} {x y : List Value}, DRs g a x → DRs g b y → DRs g (a ++ b) (x ++ y)
  | _, _, _, _, .nil, h => h
  | _, _, _, _, .cons h hs, h' => .cons h (DRs.append hs h')
theorem DRs.get : ∀ {ds : List D} {vs : List Value}, DRs g ds vs → ∀ (i : Nat) (d : D), ds[i]? = some d → ∃ v, vs[i]? = some v ∧ DR g d v
  | _, _, .nil, i, d, h => by simp at h
  | _, _, .cons h hs, 0, d, e => by simp at e; subst e; exact ⟨_, rfl, h⟩
  | _, _, .cons h hs, i + 1, d, e => by simp at e; simpa using DRs.get hs i d e
theorem DRs.split : ∀ {a b : List D} {vs : List Value}, DRs g (a ++ b) vs → ∃ x y, vs = x ++ y ∧ DRs g a x ∧ DRs g b y
  | [], b, vs, h => ⟨[], vs, rfl, .nil, h⟩
  | d :: a, b, _, .cons h hs => by
    obtain ⟨x, y, rfl, h1, h2⟩ := DRs.split (a := a) hs
    exact ⟨_ :: x, y, rfl, .cons h h1, h2⟩
theorem DRs.drop : ∀ (n : Nat) {ds : List D} {vs : List Value}, DRs g ds vs → DRs g (ds.drop n) (vs.drop n)
  | 0, _, _, h => h
  | _ + 1, _, _, .nil => .nil
  | n + 1, _, _, .cons _ hs => DRs.drop n hs
theorem DRs.take : ∀ (n : Nat) {ds : List D} {vs : List Value}, DRs g ds vs → DRs g (ds.take n) (vs.take n)
  | 0, _, _, _ => .nil
  | _ + 1, _, _, .nil => .nil
  | n + 1, _, _, .cons h hs => .cons h (DRs.take n hs)
theorem DRs.all_one {ds : List D} {vs : List Value} (h : DRs g ds vs) : vs.all oneCell = ds.all D.one := by
  induction ds generalizing vs with
  | nil => cases h; rfl
  | cons d ds ih => cases h with
    | cons h hs => simp [DR.one h, ih hs]
theorem DR.cells {d : D} {v : Value} (h : DR g d v) : DRs g d.cells v.cells.toList := by
  cases h with
  | agg h o => exact h
  | leaf h =>
    cases v <;> first | exact .cons (.leaf h) .nil | (simp [dleaf] at h)
  | tup h => exact .cons (.tup h) .nil
  | nil => exact .cons .nil .nil
  | sl hb ht hv hl hs hc hx ho => exact .cons (.sl hb ht hv hl hs hc hx ho) .nil
  | ptr hb hv ho => exact .cons (.ptr hb hv ho) .nil
  | clo hp hf hc => exact .cons (.clo hp hf hc) .nil
  | iface h => exact .cons (.iface h) .nil
theorem DR.leaf_inv {x v : Value} (h : DR g (.leaf x) v) : v = x ∧ dleaf x = true := by
  cases h; exact ⟨rfl, by assumption⟩
theorem take_some : ∀ {l : List Value} {n : Nat} {r : List Value}, take? l n = some r → r = l.take n ∧ n ≤ l.length
  | _, 0, r, h => by
    simp only [take?, Option.some.injEq] at h; subst h; simp
  | [], n + 1, r, h => by simp [take?] at h
  | x :: l, n + 1, r, h => by
    simp only [take?, Option.map_eq_some_iff] at h
    obtain ⟨r', h1, rfl⟩ := h
    obtain ⟨rfl, h2⟩ := take_some h1
    exact ⟨by simp, by simpa using h2⟩
theorem take_of : ∀ {l : List Value} {n : Nat}, n ≤ l.length → take? l n = some (l.take n)
  | _, 0, _ => by simp [take?]
  | [], n + 1, h => by simp at h
  | x :: l, n + 1, h => by
    simp only [take?]
    rw [take_of (show n ≤ l.length by simpa using h)]
    simp
theorem flat_len_of : ∀ {es : List D} {sz : Nat}, (∀ e ∈ es, e.cells.length = sz) → (es.flatMap D.cells).length = es.length * sz
  | [], sz, _ => by simp
  | e :: es, sz, h => by
    have := flat_len_of (es := es) fun x hx => h x (List.mem_cons_of_mem _ hx)
    simp only [List.flatMap_cons, List.length_append, this, h e List.mem_cons_self, List.length_cons]
    rw [Nat.add_mul]; omega
theorem flat_drop : ∀ {es : List D} {sz : Nat}, (∀ e ∈ es, e.cells.length = sz) → ∀ i, (es.flatMap D.cells).drop (i * sz) = (es.drop i).flatMap D.cells
  | _, _, _, 0 => by simp
  | [], _, _, i + 1 => by simp
  | e :: es, sz, h, i + 1 => by
    have := flat_drop (es := es) (fun x hx => h x (List.mem_cons_of_mem _ hx)) i
    simp only [List.flatMap_cons, List.drop_succ_cons]
    rw [← this]
    have he := h e List.mem_cons_self
    rw [show (i + 1) * sz = e.cells.length + i * sz by rw [Nat.add_mul, he]; omega, ← List.drop_drop]
    simp
theorem flat_take : ∀ {es : List D} {sz : Nat}, (∀ e ∈ es, e.cells.length = sz) → ∀ i, (es.flatMap D.cells).take (i * sz) = (es.take i).flatMap D.cells
  | _, _, _, 0 => by simp
  | [], _, _, i + 1 => by simp
  | e :: es, sz, h, i + 1 => by
    have := flat_take (es := es) (fun x hx => h x (List.mem_cons_of_mem _ hx)) i
    simp only [List.flatMap_cons, List.take_succ_cons]
    rw [← this]
    have he := h e List.mem_cons_self
    rw [show (i + 1) * sz = e.cells.length + i * sz by rw [Nat.add_mul, he]; omega, List.take_append]
    simp [List.take_of_length_le]
theorem flat_at {es : List D} {sz : Nat} (h : ∀ e ∈ es, e.cells.length = sz) {i : Nat} {e : D} (hi : es[i]? = some e) : ((es.flatMap D.cells).drop (i * sz)).take sz = e.cells := by
  obtain ⟨h1, rfl⟩ := List.getElem?_eq_some_iff.1 hi
  rw [flat_drop h, List.drop_eq_getElem_cons h1, List.flatMap_cons, List.take_append]
  have := h _ (List.getElem_mem h1)
  rw [this]
  simp [List.take_of_length_le (Nat.le_of_eq this)]
theorem take_part {l : List Value} {n : Nat} {vs : List Value} (h : take? l n = some vs) {i k : Nat} (hik : i + k ≤ n) : take? (l.drop i) k = some ((vs.drop i).take k) := by
  obtain ⟨rfl, h2⟩ := take_some h
  rw [take_of (by simp; omega)]
  congr 1
  rw [List.drop_take, List.take_take, Nat.min_eq_left (by omega)]
def Whole (ag : Bool) (size : Nat) (d : D) : Prop := if ag then ∃ cs, d = .agg cs ∧ cs.length = size else d.one = true ∧ size = 1
theorem mul_le {a b c : Nat} (h : a < b) : a * c + c ≤ b * c := by
  have : (a + 1) * c ≤ b * c := Nat.mul_le_mul_right c h
  rw [Nat.add_mul] at this; omega
end
end Go.Am
namespace Go.Am
open Go
def T.map {α β : Type} (f : α → β) : T α → T β
  | .leaf => .leaf
  | .node v l r => .node (match v with | some x => some (f x) | none => none) (l.map f) (r.map f)
def ofVn : Nat → Value → D
  | 0, v => match v with
    | .slice none _ _ => .nil
    | v => .leaf v
  | n + 1, v => match v with
    | .slice none _ _ => .nil
    | .agg cs => .agg (cs.toList.map (ofVn n))
    | .tuple cs => .tup (cs.toList.map (ofVn n))
    | .iface t v => .iface t (ofVn n v)
    | v => .leaf v
abbrev ofV : Value → D := ofVn 6
def ptrV (s i : Value) (sz off : Nat) : Value := match s, i with
  | .slice (some ⟨b, o, none⟩) _ _, .int _ (.ofNat n) => .pointer (some ⟨b, o + n * sz + off, none⟩)
  | _, _ => .pointer (some ⟨0, off, none⟩)
def ppV (p : Value) (off : Nat) : Value := match p with
  | .pointer (some ⟨b, o, none⟩) => .pointer (some ⟨b, o + off, none⟩)
  | _ => .pointer (some ⟨0, off, none⟩)
def ppD (p : D) (off : Nat) : D := match p with
  | .ptr cs o => .ptr cs (o + off)
  | d => d
mutual
def SV.val (ve : Nat → Value) (lb : Nat → Nat) : SV → Value
  | .v i => ve i
  | .c x => x
  | .loc b off => .pointer (some ⟨lb b, off, none⟩)
  | .ptr s i sz off => ptrV (s.val ve lb) (i.val ve lb) sz off
  | .pp i off => ppV (ve i) off
  | .agg cs => .agg ⟨SV.vals ve lb cs⟩
  | .tup cs => .tuple ⟨SV.vals ve lb cs⟩
  | .fn f a b => .func f ⟨SV.vals ve lb a⟩ ⟨SV.vals ve lb b⟩
  | .ifc t x => .iface t (x.val ve lb)
def SV.vals (ve : Nat → Value) (lb : Nat → Nat) : List SV → List Value
  | [] => []
  | x :: xs => x.val ve lb :: SV.vals ve lb xs
end
mutual
def SV.d (ρ : Nat → D) : SV → D
  | .v i => ρ i
  | .c x => ofV x
  | .loc _ _ => .nil
  | .ptr _ _ _ _ => .nil
  | .pp i off => ppD (ρ i) off
  | .agg cs => .agg (SV.ds ρ cs)
  | .tup cs => .tup (SV.ds ρ cs)
  | .fn f a b => .clo f (SV.ds ρ a) (SV.ds ρ b)
  | .ifc t x => .iface t (x.d ρ)
def SV.ds (ρ : Nat → D) : List SV → List D
  | [] => []
  | x :: xs => x.d ρ :: SV.ds ρ xs
end
inductive TOp where
  | bin (op : BinOp) (t : TypeId) (x y : Operand)
  | isNil (neg : Bool)
  | un (op : UnOp) (t : TypeId)
  | conv (s d : TypeId)
  | chk (ag : Bool) (size : Nat)
  | fld (ag : Bool) (size off : Nat)
  | inr
  | elem (sz : Nat) (ag : Bool) (size off : Nat)
  | len (str : Bool)
  | slc (el sz : Nat) (lo hi : Bool)
  | sub (lo hi : Bool)
  | chr
  | ext (i : Nat)
  | app (el sz bytes : Nat)
  | lit (el sz : Nat)
  | loadp (ag : Bool) (size : Nat)
  | box
  | boxw
  | nn
  | pchk
  | mk (el sz bytes : Nat) (ag : Bool) (z : List Value)
  | set (sz : Nat) (ag : Bool) (size off : Nat)
  | bstr
  | slc0 (el sz : Nat)
  | byt (el : Nat)
  | mm (mx : Bool)
mutual
def D.toV : D → Option Value
  | .leaf v => some v
  | .agg cs => (D.toVs cs).map fun l => .agg ⟨l⟩
  | .nil => some (.slice none 0 0)
  | _ => none
def D.toVs : List D → Option (List Value)
  | [] => some []
  | d :: ds => match d.toV, D.toVs ds with
    | some v, some vs => some (v :: vs)
    | _, _ => none
end
def partD (ag : Bool) (size off : Nat) (cs : List D) : Option D :=
  bif ag then (bif Nat.ble (off + size) cs.length then some (.agg ((cs.drop off).take size)) else none)
  else match cs[off]? with
    | some d => bif d.one then some d else none
    | none => none
def chkD (ag : Bool) (size : Nat) (d : D) : Option D :=
  bif ag then (match d with | .agg cs => bif Nat.beq cs.length size then some d else none | _ => none)
  else bif d.one && Nat.beq size 1 then some d else none
def natD : D → Option Nat
  | .leaf (.int _ (.ofNat n)) => some n
  | _ => none
def elemD (d i : D) : Option D := match natD i with
  | some n => d.es[n]?
  | none => none
def leafD (v : Option Value) : Option D := match v with
  | some v => bif dleaf v then some (.leaf v) else none
  | none => none
def convA (E : Env) (s d : TypeId) (v : Value) : Option Value := match v with
  | .string b => match E.types.get s, E.types.get d with
    | some { desc := .string, .. }, some { desc := .slice _, .. } => none
    | _, _ => flat? (pureRun E.prog (Go.convert s d (.string b)))
  | .pointer _ => none
  | v => bif flatV v then flat? (pureRun E.prog (Go.convert s d v)) else none
def boundD (b : Bool) (d : Nat) : List D → Option (Nat × List D)
  | l => bif b then (match l with
    | x :: r => (natD x).map fun n => (n, r)
    | [] => none) else some (d, l)
def strSize : D → Option Nat
  | .leaf (.string s) => some s.size
  | .sl _ _ es => some es.length
  | .nil => some 0
  | _ => none
def zD (ag : Bool) (z : List Value) : D := bif ag then .agg (z.map ofV) else match z with
  | v :: _ => ofV v
  | [] => .nil
def splD (cs : List D) (off : Nat) (xs : List D) : List D := cs.take off ++ (xs ++ cs.drop (off + xs.length))
def setP (e : D) (off : Nat) (xs : List D) : D := match e with
  | .agg cs => .agg (splD cs off xs)
  | _ => match xs with
    | [x] => x
    | _ => e
def bytesD : List D → Option (List UInt8)
  | [] => some []
  | .leaf (.int .u8 b) :: r => (bytesD r).map (UInt8.ofNat b.toNat :: ·)
  | _ => none
def mmV (mx : Bool) : Value → Value → Option Value
  | .int k x, .int _ y => some (.int k (bif mx then (if x < y then y else x) else (if y < x then y else x)))
  | _, _ => none
def TOp.eval (E : Env) : TOp → List D → Option D
  | .mm mx, [.leaf u, .leaf v] => leafD (mmV mx u v)
  | .bin op t x y, [a, b] => match a.toV, b.toV with
    | some u, some v => leafD (binA E op t x y u v)
    | _, _ => none
  | .isNil neg, [d] => match d with
    | .nil => some (.leaf (.bool !neg))
    | .sl _ _ _ => some (.leaf (.bool neg))
    | _ => none
  | .un op _, [.leaf v] => bif flatV v then leafD (flat? (pureRun E.prog (Op.unary op v))) else none
  | .conv s d, [.leaf v] => leafD (convA E s d v)
  | .chk ag size, [d] => chkD ag size d
  | .fld ag size off, [d] => partD ag size off d.cells
  | .inr, [d, i] => (elemD d i).map fun _ => .leaf (.bool true)
  | .elem sz ag size off, [d, i] => match elemD d i with
    | some e => bif Nat.beq d.szD sz && Nat.ble (off + (bif ag then size else 1)) sz then (bif ag && Nat.beq off 0 && Nat.beq size sz then chkD true size e else partD ag size off e.cells) else none
    | none => none
  | .len str, [d] => match str, d with
    | true, .leaf (.string s) => some (.leaf (goInt s.size))
    | false, .sl _ _ es => some (.leaf (goInt es.length))
    | false, .nil => some (.leaf (goInt 0))
    | _, _ => none
  | .slc el sz lo hi, d :: r => match d with
    | .sl el' sz' es => match boundD lo 0 r with
      | some (l, r) => match boundD hi es.length r with
        | some (h, []) => bif Nat.beq el' el && Nat.beq sz' sz && Nat.ble l h && Nat.ble h es.length then some (.sl el sz ((es.drop l).take (h - l))) else none
        | _ => none
      | none => none
    | .nil => match boundD lo 0 r with
      | some (0, r) => match boundD hi 0 r with
        | some (0, []) => some .nil
        | _ => none
      | _ => none
    | _ => none
  | .sub lo hi, .leaf (.string s) :: r => match boundD lo 0 r with
    | some (l, r) => match boundD hi s.size r with
      | some (h, []) => bif Nat.ble l h && Nat.ble h s.size then some (.leaf (.string (s.extract l h))) else none
      | _ => none
    | none => none
  | .chr, [.leaf (.string s), i] => match natD i with
    | some n => (s.data.toList[n]?).map fun b => .leaf (.int .u8 b.toNat)
    | none => none
  | .ext i, [.tup ds] => ds[i]?
  | .app el sz bytes, [a, b] => match strSize a, b with
    | some n, .nil => bif Nat.ble (Nat.mul (Nat.add (Nat.mul 4 n) 4000) (Nat.succ bytes)) 100000000000 then some a else none
    | some n, .sl _ sz' es =>
      bif Nat.ble (Nat.mul (Nat.add (Nat.mul 4 (Nat.add n es.length)) 4000) (Nat.succ bytes)) 100000000000 && Nat.beq sz' sz &&
        (match a with | .sl el' sz' _ => Nat.beq el' el && Nat.beq sz' sz | .nil => true | _ => false) then
        (bif Nat.beq es.length 0 then some a else some (.sl el sz (a.es ++ es))) else none
    | _, _ => none
  | .lit el sz, ds => bif ds.all (fun e => Nat.beq e.cells.length sz) && Nat.ble (Nat.mul ds.length (Nat.succ sz)) 1000000 then some (.sl el sz ds) else none
  | .loadp ag size, [.ptr cs off] => partD ag size off cs
  | .box, ds => some (.ptr ds 0)
  | .boxw, [.agg cs] => some (.ptr cs 0)
  | .nn, [d] => match d with
    | .clo (.func _) _ _ => some d
    | .ptr _ _ => some d
    | .iface _ _ => some d
    | _ => none
  | .pchk, [d] => match d with
    | .ptr _ _ => some d
    | _ => none
  | .mk el sz bytes ag z, [d] => match natD d with
    | some n => bif Nat.beq z.length sz && z.all (fun v => flatV v && oneCell v) && (ag || Nat.beq sz 1) && Nat.ble (Nat.mul n (Nat.succ (Nat.add bytes sz))) 1000000000 then some (.sl el sz (List.replicate n (zD ag z))) else none
    | none => none
  | .set sz ag size off, [d, i, x] => match d, natD i, chkD ag size x with
    | .sl el sz' es, some n, some _ => match es[n]? with
      | some e => bif Nat.beq sz' sz && Nat.ble (off + size) sz then some (.sl el sz (es.set n (setP e off x.cells))) else none
      | none => none
    | _, _, _ => none
  | .bstr, [d] => match d with
    | .sl _ sz es => bif Nat.beq sz 1 then (bytesD es).map fun l => .leaf (.string ⟨⟨l⟩⟩) else none
    | _ => none
  | .slc0 el sz, [d] => match d with
    | .nil => some .nil
    | .sl el' sz' _ => bif Nat.beq el' el && Nat.beq sz' sz then some (.sl el sz []) else none
    | _ => none
  | .byt el, [d] => match d with
    | .leaf (.string s) => bif Nat.ble s.data.toList.length 1000000000 then some (.sl el 1 (s.data.toList.map fun b => .leaf (.int .u8 b.toNat))) else none
    | _ => none
  | _, _ => none
section
variable {E : Env}
theorem ev_bin {op : BinOp} {t : TypeId} {x y : Operand} {a b : D} : TOp.eval E (.bin op t x y) [a, b] = (match a.toV, b.toV with
    | some u, some v => leafD (binA E op t x y u v)
    | _, _ => none) := rfl
theorem ev_isNil {neg : Bool} {d : D} : TOp.eval E (.isNil neg) [d] = (match d with
    | .nil => some (.leaf (.bool !neg))
    | .sl _ _ _ => some (.leaf (.bool neg))
    | _ => none) := rfl
theorem ev_un {op : UnOp} {t : TypeId} {v : Value} : TOp.eval E (.un op t) [.leaf v] = (bif flatV v then leafD (flat? (pureRun E.prog (Op.unary op v))) else none) := rfl
theorem ev_mm {mx : Bool} {u v : Value} : TOp.eval E (.mm mx) [.leaf u, .leaf v] = leafD (mmV mx u v) := rfl
theorem ev_conv {s d : TypeId} {v : Value} : TOp.eval E (.conv s d) [.leaf v] = leafD (convA E s d v) := rfl
theorem ev_chk {ag : Bool} {size : Nat} {d : D} : TOp.eval E (.chk ag size) [d] = chkD ag size d := rfl
theorem ev_fld {ag : Bool} {size off : Nat} {d : D} : TOp.eval E (.fld ag size off) [d] = partD ag size off d.cells := rfl
theorem ev_inr {d i : D} : TOp.eval E .inr [d, i] = (elemD d i).map fun _ => .leaf (.bool true) := rfl
theorem ev_elem {sz : Nat} {ag : Bool} {size off : Nat} {d i : D} : TOp.eval E (.elem sz ag size off) [d, i] = (match elemD d i with
    | some e => bif Nat.beq d.szD sz && Nat.ble (off + (bif ag then size else 1)) sz then (bif ag && Nat.beq off 0 && Nat.beq size sz then chkD true size e else partD ag size off e.cells) else none
    | none => none) := rfl
theorem ev_len {str : Bool} {d : D} : TOp.eval E (.len str) [d] = (match str, d with
    | true, .leaf (.string s) => some (.leaf (goInt s.size))
    | false, .sl _ _ es => some (.leaf (goInt es.length))
    | false, .nil => some (.leaf (goInt 0))
    | _, _ => none) := rfl
theorem ev_slc {el sz : Nat} {lo hi : Bool} {d : D} {r : List D} : TOp.eval E (.slc el sz lo hi) (d :: r) = (match d with
    | .sl el' sz' es => match boundD lo 0 r with
      | some (l, r) => match boundD hi es.length r with
        | some (h, []) => bif Nat.beq el' el && Nat.beq sz' sz && Nat.ble l h && Nat.ble h es.length then some (.sl el sz ((es.drop l).take (h - l))) else none
        | _ => none
      | none => none
    | .nil => match boundD lo 0 r with
      | some (0, r) => match boundD hi 0 r with
        | some (0, []) => some .nil
        | _ => none
      | _ => none
    | _ => none) := rfl
theorem ev_sub {lo hi : Bool} {s : ByteArray} {r : List D} : TOp.eval E (.sub lo hi) (.leaf (.string s) :: r) = (match boundD lo 0 r with
    | some (l, r) => match boundD hi s.size r with
      | some (h, []) => bif Nat.ble l h && Nat.ble h s.size then some (.leaf (.string (s.extract l h))) else none
      | _ => none
    | none => none) := rfl
theorem ev_chr {s : ByteArray} {i : D} : TOp.eval E .chr [.leaf (.string s), i] = (match natD i with
    | some n => (s.data.toList[n]?).map fun b => .leaf (.int .u8 b.toNat)
    | none => none) := rfl
theorem ev_ext {i : Nat} {ds : List D} : TOp.eval E (.ext i) [.tup ds] = ds[i]? := rfl
theorem ev_lit {el sz : Nat} {ds : List D} : TOp.eval E (.lit el sz) ds = (bif ds.all (fun e => Nat.beq e.cells.length sz) && Nat.ble (Nat.mul ds.length (Nat.succ sz)) 1000000 then some (.sl el sz ds) else none) := by
  cases ds with
  | nil => rfl
  | cons a l => cases l with
    | nil => cases a <;> rfl
    | cons b l => cases l <;> rfl
theorem ev_app {el sz bytes : Nat} {a b : D} : TOp.eval E (.app el sz bytes) [a, b] = (match strSize a, b with
    | some n, .nil => bif Nat.ble (Nat.mul (Nat.add (Nat.mul 4 n) 4000) (Nat.succ bytes)) 100000000000 then some a else none
    | some n, .sl _ sz' es =>
      bif Nat.ble (Nat.mul (Nat.add (Nat.mul 4 (Nat.add n es.length)) 4000) (Nat.succ bytes)) 100000000000 && Nat.beq sz' sz &&
        (match a with | .sl el' sz' _ => Nat.beq el' el && Nat.beq sz' sz | .nil => true | _ => false) then
        (bif Nat.beq es.length 0 then some a else some (.sl el sz (a.es ++ es))) else none
    | _, _ => none) := rfl
theorem ev_loadp {ag : Bool} {size off : Nat} {cs : List D} : TOp.eval E (.loadp ag size) [.ptr cs off] = partD ag size off cs := rfl
theorem ev_box {ds : List D} : TOp.eval E .box ds = some (.ptr ds 0) := by
  cases ds with
  | nil => rfl
  | cons a l => cases l with
    | nil => cases a <;> rfl
    | cons b l => cases l <;> rfl
theorem ev_boxw {cs : List D} : TOp.eval E .boxw [.agg cs] = some (.ptr cs 0) := rfl
theorem ev_nn {d : D} : TOp.eval E .nn [d] = (match d with
    | .clo (.func _) _ _ => some d
    | .ptr _ _ => some d
    | .iface _ _ => some d
    | _ => none) := rfl
theorem ev_mk {el sz bytes : Nat} {ag : Bool} {z : List Value} {d : D} : TOp.eval E (.mk el sz bytes ag z) [d] = (match natD d with
    | some n => bif Nat.beq z.length sz && z.all (fun v => flatV v && oneCell v) && (ag || Nat.beq sz 1) && Nat.ble (Nat.mul n (Nat.succ (Nat.add bytes sz))) 1000000000 then some (.sl el sz (List.replicate n (zD ag z))) else none
    | none => none) := rfl
theorem ev_set {sz size off : Nat} {ag : Bool} {d i x : D} : TOp.eval E (.set sz ag size off) [d, i, x] = (match d, natD i, chkD ag size x with
    | .sl el sz' es, some n, some _ => match es[n]? with
      | some e => bif Nat.beq sz' sz && Nat.ble (off + size) sz then some (.sl el sz (es.set n (setP e off x.cells))) else none
      | none => none
    | _, _, _ => none) := rfl
theorem ev_str {d : D} : TOp.eval E .bstr [d] = (match d with
    | .sl _ sz es => bif Nat.beq sz 1 then (bytesD es).map fun l => .leaf (.string ⟨⟨l⟩⟩) else none
    | _ => none) := rfl
theorem ev_slc0 {el sz : Nat} {d : D} : TOp.eval E (.slc0 el sz) [d] = (match d with
    | .nil => some .nil
    | .sl el' sz' _ => bif Nat.beq el' el && Nat.beq sz' sz then some (.sl el sz []) else none
    | _ => none) := rfl
theorem ev_bytes {el : Nat} {d : D} : TOp.eval E (.byt el) [d] = (match d with
    | .leaf (.string s) => bif Nat.ble s.data.toList.length 1000000000 then some (.sl el 1 (s.data.toList.map fun b => .leaf (.int .u8 b.toNat))) else none
    | _ => none) := rfl
theorem ev_pchk {d : D} : TOp.eval E .pchk [d] = (match d with
    | .ptr _ _ => some d
    | _ => none) := rfl
end
structure St where
  sts : List VSt
  slots : T SV
  blks : List (Option Blk)
  sz : Nat
def St.n (S : St) : Nat := S.sts.length
def St.pureV (S : St) (i : Nat) : Bool := match S.sts[i]? with
  | some ⟨.pure, _⟩ => true
  | some ⟨.full, _⟩ => true
  | some ⟨.ptr, _⟩ => true
  | _ => false
def St.isPtr (S : St) (i : Nat) : Bool := match S.sts[i]? with
  | some ⟨.ptr, _⟩ => true
  | _ => false
def St.readV (S : St) (i : Nat) : Bool := match S.sts[i]? with
  | some ⟨.dead, _⟩ => false
  | some _ => true
  | none => false
def St.freshV (S : St) (i : Nat) : Bool := match S.sts[i]? with
  | some ⟨.fresh, _⟩ => true
  | _ => false
def St.oneV (S : St) (i : Nat) : Bool := match S.sts[i]? with
  | some ⟨_, o⟩ => o
  | none => false
def oneS (S : St) : SV → Bool
  | .v i => S.oneV i
  | .c x => oneCell x
  | .agg _ | .tup _ => false
  | _ => true
mutual
def pureB (S : St) : SV → Bool
  | .v i => S.pureV i
  | .c x => flatV x
  | .loc _ _ => false
  | .ptr _ _ _ _ => false
  | .pp i _ => S.isPtr i
  | .agg cs => pureBs S cs && cs.all (oneS S)
  | .tup cs => pureBs S cs
  | .fn f a b => fnPlain f && pureBs S a && pureBs S b
  | .ifc _ x => pureB S x
def pureBs (S : St) : List SV → Bool
  | [] => true
  | x :: xs => pureB S x && pureBs S xs
end
def readB (S : St) : SV → Bool
  | .v i => S.readV i
  | x => pureB S x
def freezeSt : VSt → VSt
  | ⟨.fresh, o⟩ => ⟨.pure, o⟩
  | s => s
def St.freeze (S : St) (i : Nat) : St := { S with sts := S.sts.modify i freezeSt }
def St.kill (S : St) (i : Nat) : St := { S with sts := S.sts.modify i fun s => ⟨.dead, s.one⟩ }
mutual
def freezeV (S : St) : SV → St
  | .v i => S.freeze i
  | .agg cs => freezeVs S cs
  | .tup cs => freezeVs S cs
  | .fn _ a b => freezeVs (freezeVs S a) b
  | .ifc _ x => freezeV S x
  | _ => S
def freezeVs (S : St) : List SV → St
  | [] => S
  | x :: xs => freezeVs (freezeV S x) xs
end
def St.put (S : St) (dst : Option Tmp) (x : SV) : Option St := match dst with
  | some d => bif Nat.ble (d + 1) S.sz then some { S with slots := S.slots.put d (some x) } else none
  | none => some S
def St.new (S : St) (k : VK) (one : Bool) : St := { S with sts := S.sts ++ [⟨k, one⟩] }
def SV.known (i : Nat) (b : Bool) : SV → SV
  | .v j => bif Nat.beq j i then .c (.bool b) else .v j
  | x => x
def St.known (S : St) (i : Nat) (b : Bool) : St := { S with slots := S.slots.map (SV.known i b) }
inductive Tgt where
  | fn (f : FuncId)
  | val (x : SV)
  | meth (x : SV) (name : String)
inductive Tree where
  | fail
  | stop (k : Nat) (S : St)
  | ret (xs : List SV)
  | jump (k : Nat) (args : List SV)
  | bind (o : TOp) (args : List SV) (rest : Tree)
  | call (tg : Tgt) (args : List SV) (flat : Nat) (rest : Tree)
  | callM (f : FuncId) (m : Mode) (args : List SV) (rest : Tree)
  | ite (c : SV) (a b : Tree)
abbrev K1 := SV → St → Tree
def evS (S : St) : Operand → Option SV
  | .tmp t => S.slots.get t
  | .const v => bif flatV v then some (.c v) else none
  | .global _ => none
  | .func f => some (.fn (.func f) [] [])
def evSs (S : St) : List Operand → Option (List SV)
  | [] => some []
  | x :: xs => match evS S x, evSs S xs with
    | some a, some l => some (a :: l)
    | _, _ => none
def bindR (o : TOp) (args : List SV) (k : VK) (one : Bool) (S : St) (κ : K1) : Tree :=
  bif args.all (readB S) then .bind o args (κ (.v S.n) (S.new k one)) else .fail
def bindP (o : TOp) (args : List SV) (k : VK) (one : Bool) (S : St) (κ : K1) : Tree :=
  let S := freezeVs S args
  bif args.all (pureB S) then .bind o args (κ (.v S.n) (S.new k one)) else .fail
def fldsS (i : Nat) : Nat → Nat → List SV → St → (List SV → St → Tree) → Tree
  | 0, _, acc, S, κ => κ acc S
  | n + 1, k, acc, S, κ => bindR (.fld false 1 k) [.v i] .pure true S fun y S => fldsS i n (k + 1) (acc ++ [y]) S κ
def constCells (ag : Bool) (size : Nat) (x : Value) : Option (List SV) :=
  let l := x.cells.toList
  bif flatV x && Nat.beq l.length size && (match x with | .agg _ => ag | .tuple _ => false | _ => !ag) then some (l.map .c) else none
def decomp (x : SV) (ag : Bool) (size : Nat) (S : St) (κ : List SV → St → Tree) : Tree := match x with
  | .agg cs => bif ag && Nat.beq cs.length size && cs.all (oneS S) then κ cs S else .fail
  | .c v => match constCells ag size v with
    | some l => κ l S
    | none => .fail
  | .v i => bif ag then bindR (.chk true size) [.v i] .pure false S fun y S => match y with
        | .v j => fldsS j size 0 [] S κ
        | _ => .fail
      else bif Nat.beq size 1 then (bif S.oneV i && S.readV i then κ [.v i] S else bindP (.chk false 1) [.v i] .pure true S fun y S => κ [y] S) else .fail
  | .tup _ => .fail
  | x => bif !ag && Nat.beq size 1 then κ [x] S else .fail
def spliceS : List SV → Nat → List SV → Option (List SV)
  | cs, 0, [] => some cs
  | [], 0, _ :: _ => none
  | _ :: cs, 0, v :: vs => (spliceS cs 0 vs).map (v :: ·)
  | [], _ + 1, _ => none
  | c :: cs, i + 1, vs => (spliceS cs i vs).map (c :: ·)
def partS (ag : Bool) (size off : Nat) (cs : List SV) : Option SV :=
  bif ag then (bif Nat.ble (off + size) cs.length then some (.agg ((cs.drop off).take size)) else none)
  else cs[off]?
def buildS (E : Env) (S : St) (place : Nat → Option (Nat × Nat × Bool)) (cs : List SV) : List (Nat × Operand) → (List SV → St → Tree) → Tree
  | [], κ => κ cs S
  | (i, x) :: r, κ => match place i, evS S x with
    | some (off, size, ag), some y => decomp y ag size S fun l S => match spliceS cs off l with
      | some cs' => buildS E S place cs' r κ
      | none => .fail
    | _, _ => .fail
def elemsS (size : Nat) (ag : Bool) (acc : List SV) (S : St) : List (Nat × Operand) → (List SV → St → Tree) → Tree
  | [], κ => κ acc S
  | (i, x) :: r, κ => match evS S x with
    | some y => bif Nat.beq i acc.length then (bif readB S y then .bind (.chk ag size) [y] (elemsS size ag (acc ++ [y]) (S.new .dead false) r κ) else
        bif readB (freezeV S y) y then .bind (.chk ag size) [y] (elemsS size ag (acc ++ [y]) ((freezeV S y).new .dead false) r κ) else .fail) else .fail
    | none => .fail
def basicT (E : Env) (t : TypeId) : Bool := match E.types.get t with
  | some { desc := .bool, .. } | some { desc := .int _, .. } | some { desc := .string, .. } => true
  | _ => false
def flatness (E : Env) (f : FuncId) : Nat := match E.prog.funcs[f]? with
  | some fn => match fn.resultTypes.toList with
    | [t] => bif basicT E t then 1 else 0
    | ts => bif ts.all (basicT E) then 2 else 0
  | none => 0
def callS (E : Env) (tg : Tgt) (args : List SV) (flat : Nat) (S : St) (κ : K1) : Tree :=
  match flat with
  | 0 =>
    let S := freezeVs S args
    bif args.all (pureB S) then .call tg args 0 (κ (.v S.n) (S.new .pure false)) else .fail
  | fl =>
    bif args.all (pureB (freezeVs S args)) then .call tg args fl (κ (.v S.n) (S.new .pure (Nat.beq fl 1))) else .fail
def St.boxed (S : St) (b : Nat) : St := { S.new .ptr true with blks := S.blks.set b none, slots := S.slots.map fun x => match x with | .loc b' off => bif Nat.beq b' b then .pp S.n off else .loc b' off | x => x }
def boxS : List SV → List SV → St → (List SV → St → Tree) → Tree
  | [], acc, S, κ => κ acc S
  | .loc b 0 :: r, acc, S, κ => match S.blks[b]? with
    | some (some (.cells cs)) =>
      let S := freezeVs S cs
      bif cs.all (pureB S) && cs.all (oneS S) then .bind .box cs (boxS r (acc ++ [.pp S.n 0]) (S.boxed b) κ) else .fail
    | some (some (.whole x _)) => bif pureB S x then .bind .boxw [x] (boxS r (acc ++ [.pp S.n 0]) (S.boxed b) κ) else .fail
    | _ => .fail
  | x :: r, acc, S, κ => boxS r (acc ++ [x]) S κ
def Pat.st (p : Pat) (sz : Nat) : St := { sts := p.sts, slots := p.slots.foldl (fun t (k, x) => t.put k (some x)) .leaf, blks := p.blks, sz := sz }
def sameC : Value → Value → Bool
  | .bool a, .bool b => a == b
  | .int k m, .int k' n => decide (k = k') && decide (m = n)
  | .string a, .string b => decide (a = b)
  | .slice none 0 0, .slice none 0 0 => true
  | .pointer none, .pointer none => true
  | .nilFunc, .nilFunc => true
  | .nilIface, .nilIface => true
  | _, _ => false
def findV (i : Nat) : List (Nat × SV) → Option Nat
  | [] => none
  | (t, .v j) :: r => bif Nat.beq i j then some t else findV i r
  | _ :: r => findV i r
def cellsOf : Option Blk → List SV
  | some (.cells cs) => cs
  | some (.whole x _) => [x]
  | none => []
def findB (i : Nat) : List (Option Blk) → List (Option Blk) → Option SV
  | some (.cells cs) :: r, some (.cells cs') :: r' => match (cs.zip cs').find? (fun p => match p.1 with | .v j => Nat.beq i j | _ => false) with
    | some p => some p.2
    | none => findB i r r'
  | some (.whole x _) :: r, some (.whole y _) :: r' => match x with
    | .v j => bif Nat.beq i j then some y else findB i r r'
    | _ => findB i r r'
  | some (.whole x n) :: r, some (.cells cs) :: r' => match x with
    | .v j => bif Nat.beq i j && Nat.beq n cs.length then some (.agg cs) else findB i r r'
    | _ => findB i r r'
  | _ :: r, _ :: r' => findB i r r'
  | _, _ => none
def argOf (p : Pat) (S : St) (i : Nat) : Option SV := match findV i p.slots with
  | some t => S.slots.get t
  | none => findB i p.blks S.blks
def argsOf (p : Pat) (S : St) : Nat → Nat → Option (List SV)
  | 0, _ => some []
  | n + 1, i => match argOf p S i, argsOf p S n (i + 1) with
    | some x, some l => some (x :: l)
    | _, _ => none
mutual
def fits (as : List SV) : SV → SV → Bool
  | .v i, y => match as[i]? with
    | some x => sameS x y
    | none => false
  | .c x, .c y => sameC x y
  | .loc b o, .loc b' o' => Nat.beq b b' && Nat.beq o o'
  | .pp i o, .pp j o' => Nat.beq o o' && (match as[i]? with | some (.v k) => Nat.beq k j | _ => false)
  | .agg cs, .agg cs' => fitsL as cs cs'
  | .tup cs, .tup cs' => fitsL as cs cs'
  | .fn (.func f) a b, .fn (.func f') a' b' => Nat.beq f f' && fitsL as a a' && fitsL as b b'
  | .ifc t x, .ifc t' y => Nat.beq t t' && fits as x y
  | _, _ => false
def fitsL (as : List SV) : List SV → List SV → Bool
  | [], [] => true
  | x :: xs, y :: ys => fits as x y && fitsL as xs ys
  | _, _ => false
def sameS : SV → SV → Bool
  | .v i, .v j => Nat.beq i j
  | .c x, .c y => sameC x y
  | .loc b o, .loc b' o' => Nat.beq b b' && Nat.beq o o'
  | .pp i o, .pp j o' => Nat.beq i j && Nat.beq o o'
  | .agg cs, .agg cs' => sameSs cs cs'
  | .tup cs, .tup cs' => sameSs cs cs'
  | .fn (.func f) a b, .fn (.func f') a' b' => Nat.beq f f' && sameSs a a' && sameSs b b'
  | .ifc t x, .ifc t' y => Nat.beq t t' && sameS x y
  | _, _ => false
def sameSs : List SV → List SV → Bool
  | [], [] => true
  | x :: xs, y :: ys => sameS x y && sameSs xs ys
  | _, _ => false
end
def fitBlk (as : List SV) : Option Blk → Option Blk → Bool
  | none, _ => true
  | some (.cells cs), some (.cells cs') => fitsL as cs cs'
  | some (.whole x n), some (.whole y m) => Nat.beq n m && fits as x y
  | some (.whole x n), some (.cells cs) => Nat.beq n cs.length && fits as x (.agg cs)
  | _, _ => false
def fitBlks (as : List SV) : List (Option Blk) → List (Option Blk) → Bool
  | [], _ => true
  | b :: bs, c :: cs => fitBlk as b c && fitBlks as bs cs
  | _ :: _, [] => false
def pureArgs : List VSt → List SV → List SV
  | ⟨.pure, _⟩ :: r, x :: xs => x :: pureArgs r xs
  | ⟨.full, _⟩ :: r, x :: xs => x :: pureArgs r xs
  | ⟨.ptr, _⟩ :: r, x :: xs => x :: pureArgs r xs
  | _ :: r, _ :: xs => pureArgs r xs
  | _, _ => []
def St.fullV (S : St) (i : Nat) : Bool := match S.sts[i]? with
  | some ⟨.full, _⟩ => true
  | _ => false
def freshS (S : St) : SV → Bool
  | .c (.slice none 0 0) => true
  | .v i => S.freshV i || S.fullV i
  | _ => false
def dist2 (sts : List VSt) (as : List SV) (i j : Nat) : Bool := match sts[i]?, sts[j]?, as[i]?, as[j]? with
  | some ⟨.fresh, _⟩, some ⟨.fresh, _⟩, some (.v a), some (.v b) => Nat.beq i j || !(Nat.beq a b)
  | _, _, _, _ => true
def distinctF (sts : List VSt) (as : List SV) : Bool := (List.range sts.length).all fun i => (List.range sts.length).all fun j => dist2 sts as i j
mutual
def bdB (n m : Nat) : SV → Bool
  | .v i => Nat.blt i n
  | .c _ => true
  | .loc b _ => Nat.blt b m
  | .ptr s i _ _ => bdB n m s && bdB n m i
  | .pp i _ => Nat.blt i n
  | .agg cs => bdBs n m cs
  | .tup cs => bdBs n m cs
  | .fn _ a b => bdBs n m a && bdBs n m b
  | .ifc _ x => bdB n m x
def bdBs (n m : Nat) : List SV → Bool
  | [] => true
  | x :: xs => bdB n m x && bdBs n m xs
end
def bdBlk (n m : Nat) : Option Blk → Bool
  | none => true
  | some (.cells cs) => bdBs n m cs
  | some (.whole x _) => bdB n m x
def stFits (S : St) : List VSt → List SV → Bool
  | [], [] => true
  | ⟨k, o⟩ :: r, x :: xs => (match k with
      | .pure => pureB S x
      | .full => (match x with | .v i => (match S.sts[i]? with | some ⟨.full, _⟩ => true | _ => false) | _ => false)
      | .ptr => (match x with | .v i => S.isPtr i | _ => false)
      | .fresh => freshS S x
      | .dead => !o) && (!o || oneS S x) && stFits S r xs
  | _, _ => false
def coreS (sz : Nat) (p : Pat) (as : List SV) (S : St) : Bool :=
  Nat.beq S.sz sz && p.slots.all (fun (t, x) => bdB p.sts.length p.blks.length x && (match S.slots.get t with | some y => fits as x y | none => false)) && p.blks.all (bdBlk p.sts.length p.blks.length) &&
      fitBlks as p.blks S.blks && stFits S p.sts as && distinctF p.sts as
def jumpG (fin : List SV → Tree) (sz : Nat) (p : Pat) (S : St) : Tree := match argsOf p S p.sts.length 0 with
  | none => .fail
  | some as =>
    let S := freezeVs S (pureArgs p.sts as)
    bif coreS sz p as S then fin as else .fail
def jumpS (sz : Nat) (p : Pat) (k : Nat) (S : St) : Tree := jumpG (.jump k) sz p S
mutual
def hasLoc : SV → Bool
  | .loc _ _ => true
  | .ptr _ _ _ _ => true
  | .agg cs => hasLocs cs
  | .tup cs => hasLocs cs
  | .fn _ a b => hasLocs a || hasLocs b
  | .ifc _ x => hasLoc x
  | _ => false
def hasLocs : List SV → Bool
  | [] => false
  | x :: xs => hasLoc x || hasLocs xs
end
mutual
def locsOf : SV → List Nat
  | .loc b _ => [b]
  | .agg cs => locsOfs cs
  | .tup cs => locsOfs cs
  | .fn _ a b => locsOfs a ++ locsOfs b
  | .ifc _ x => locsOf x
  | _ => []
def locsOfs : List SV → List Nat
  | [] => []
  | x :: xs => locsOf x ++ locsOfs xs
end
def addN (l : List Nat) (n : Nat) : List Nat := bif l.any (Nat.beq n) then l else l ++ [n]
def blkSVs : Option Blk → List SV
  | some (.cells cs) => cs
  | some (.whole x _) => [x]
  | none => []
def closeL (S : St) : Nat → List Nat → List Nat
  | 0, l => l
  | n + 1, l => closeL S n (l.foldl (fun l b => (locsOfs (blkSVs (S.blks[b]?.getD none))).foldl addN l) l)
def idxN (b : Nat) : List Nat → Nat → Option Nat
  | [], _ => none
  | c :: r, i => bif Nat.beq c b then some i else idxN b r (i + 1)
mutual
def SV.toC (bm : List Nat) : SV → Option SV
  | .v i => some (.v i)
  | .c x => some (.c x)
  | .loc b o => match idxN b bm 0 with
    | some k => some (.loc k o)
    | none => none
  | .ptr _ _ _ _ => none
  | .pp i o => some (.pp i o)
  | .agg cs => match SV.toCs bm cs with
    | some l => some (.agg l)
    | none => none
  | .tup cs => match SV.toCs bm cs with
    | some l => some (.tup l)
    | none => none
  | .fn f a b => match SV.toCs bm a, SV.toCs bm b with
    | some a, some b => some (.fn f a b)
    | _, _ => none
  | .ifc t x => match SV.toC bm x with
    | some x => some (.ifc t x)
    | none => none
def SV.toCs (bm : List Nat) : List SV → Option (List SV)
  | [] => some []
  | x :: xs => match SV.toC bm x, SV.toCs bm xs with
    | some y, some l => some (y :: l)
    | _, _ => none
end
def Blk.toC (bm : List Nat) : Blk → Option Blk
  | .cells cs => match SV.toCs bm cs with
    | some l => some (.cells l)
    | none => none
  | .whole x n => match SV.toC bm x with
    | some y => some (.whole y n)
    | none => none
def blksC (S : St) (bm : List Nat) : List Nat → Option (List (Option Blk))
  | [] => some []
  | b :: r => match S.blks[b]?, blksC S bm r with
    | some (some x), some l => match x.toC bm with
      | some y => some (some y :: l)
      | none => none
    | _, _ => none
def St.forC (S : St) (l : List SV) (bs : List (Option Blk)) : St := { sts := S.sts, slots := T.ofList .leaf 0 l, blks := bs, sz := l.length }
mutual
def SV.ofC (n : Nat) (bm : List Nat) : SV → SV
  | .v i => .v (Nat.add n i)
  | .c x => .c x
  | .loc k o => .loc (bm.getD k 0) o
  | .ptr s i sz off => .ptr (SV.ofC n bm s) (SV.ofC n bm i) sz off
  | .pp i o => .pp (Nat.add n i) o
  | .agg cs => .agg (SV.ofCs n bm cs)
  | .tup cs => .tup (SV.ofCs n bm cs)
  | .fn f a b => .fn f (SV.ofCs n bm a) (SV.ofCs n bm b)
  | .ifc t x => .ifc t (SV.ofC n bm x)
def SV.ofCs (n : Nat) (bm : List Nat) : List SV → List SV
  | [] => []
  | x :: xs => SV.ofC n bm x :: SV.ofCs n bm xs
end
def Blk.ofC (n : Nat) (bm : List Nat) : Blk → Blk
  | .cells cs => .cells (SV.ofCs n bm cs)
  | .whole x k => .whole (SV.ofC n bm x) k
def setBs (n : Nat) (bm : List Nat) : List Nat → List (Option Blk) → List (Option Blk) → List (Option Blk)
  | b :: bs, x :: xs, l => setBs n bm bs xs (l.set b (x.map (Blk.ofC n bm)))
  | b :: bs, [], l => setBs n bm bs [] (l.set b none)
  | [], _, l => l
def killV (l : List VSt) : SV → List VSt
  | .v i => l.modify i fun s => match s with | ⟨.fresh, o⟩ => ⟨.dead, o⟩ | s => s
  | _ => l
def St.after (S : St) (m : Mode) (bm : List Nat) (as : List SV) : St :=
  { sts := as.foldl killV S.sts ++ m.out.sts, slots := S.slots, blks := setBs S.n bm bm m.out.blks S.blks, sz := S.sz }
def resSV (m : Mode) (n : Nat) (bm : List Nat) : SV := match m.out.slots with
  | [(_, x)] => SV.ofC n bm x
  | l => .tup (SV.ofCs n bm (l.map Prod.snd))
structure Hint where
  name : String
  fresh : List Nat
  spec : List Nat
  res : Bool
def hints : List Hint := [
  ⟨"slices.Clone[[]uint8,uint8]", [], [], true⟩,
  ⟨"langdoc/wire.varint", [0], [], true⟩,
  ⟨"langdoc/wire.put[uint8]", [0], [2], true⟩,
  ⟨"langdoc/wire.put[int]", [0], [2], true⟩,
  ⟨"langdoc/wire.PutText$1", [0], [], true⟩]
def hintOf (E : Env) (f : FuncId) : Option Hint := match E.prog.funcs[f]? with
  | some fn => hints.find? fun h => h.name == fn.name
  | none => none
def useM (E : Env) (f : FuncId) (l : List SV) : Bool := hasLocs l || (hintOf E f).isSome
def memN (n : Nat) (l : List Nat) : Bool := l.any (Nat.beq n)
mutual
def canS (S : St) : SV → List SV → List VSt → SV × List SV × List VSt
  | .loc k o, as, sts => (.loc k o, as, sts)
  | .fn f a b, as, sts => bif hasLocs a || hasLocs b then
      (match canSs S a as sts with
      | (a, as, sts) => match canSs S b as sts with
        | (b, as, sts) => (.fn f a b, as, sts))
    else (.v as.length, as ++ [.fn f a b], sts ++ [⟨.pure, false⟩])
  | x, as, sts => (.v as.length, as ++ [x], sts ++ [⟨.pure, false⟩])
def canSs (S : St) : List SV → List SV → List VSt → List SV × List SV × List VSt
  | [], as, sts => ([], as, sts)
  | x :: xs, as, sts => match canS S x as sts with
    | (x, as, sts) => match canSs S xs as sts with
      | (xs, as, sts) => (x :: xs, as, sts)
end
def canAs (S : St) (fr sp : List Nat) : Nat → List SV → List SV → List VSt → List SV × List SV × List VSt
  | _, [], as, sts => ([], as, sts)
  | n, x :: xs, as, sts => match (bif memN n fr && freshS S x then (.v as.length, as ++ [x], sts ++ [⟨.fresh, true⟩]) else
      bif memN n sp then (match x with
        | .fn f a b => (match canSs S a as sts with
          | (a, as, sts) => match canSs S b as sts with
            | (b, as, sts) => (.fn f a b, as, sts))
        | x => canS S x as sts)
      else canS S x as sts : SV × List SV × List VSt) with
    | (x, as, sts) => match canAs S fr sp (n + 1) xs as sts with
      | (xs, as, sts) => (x :: xs, as, sts)
def canCs (S : St) : List SV → List SV → List VSt → List SV × List SV × List VSt
  | [], as, sts => ([], as, sts)
  | x :: xs, as, sts => match (bif freshS S x then (.v as.length, as ++ [x], sts ++ [⟨.fresh, true⟩]) else canS S x as sts : SV × List SV × List VSt) with
    | (x, as, sts) => match canCs S xs as sts with
      | (xs, as, sts) => (x :: xs, as, sts)
def canBs (S : St) : List (Option Blk) → List SV → List VSt → List (Option Blk) × List SV × List VSt
  | [], as, sts => ([], as, sts)
  | b :: bs, as, sts => match (match b with
      | some (.cells cs) => (match canCs S cs as sts with | (cs, as, sts) => (some (.cells cs), as, sts))
      | some (.whole x n) => (some (.whole (.v as.length) n), as ++ [x], sts ++ [⟨.pure, false⟩])
      | none => (none, as, sts) : Option Blk × List SV × List VSt) with
    | (b, as, sts) => match canBs S bs as sts with
      | (bs, as, sts) => (b :: bs, as, sts)
def outCs (sts : List VSt) : List SV → List VSt → List SV × List VSt
  | [], o => ([], o)
  | x :: xs, o => match (match x with
      | .v i => (.v o.length, o ++ [sts.getD i ⟨.pure, false⟩])
      | x => (x, o) : SV × List VSt) with
    | (x, o) => match outCs sts xs o with
      | (xs, o) => (x :: xs, o)
def outBs (sts : List VSt) : List (Option Blk) → List VSt → List (Option Blk) × List VSt
  | [], o => ([], o)
  | b :: bs, o => match (match b with
      | some (.cells cs) => (match outCs sts cs o with | (cs, o) => (some (.cells cs), o))
      | some (.whole _ n) => (some (.whole (.v o.length) n), o ++ [⟨.pure, false⟩])
      | none => (none, o) : Option Blk × List VSt) with
    | (b, o) => match outBs sts bs o with
      | (bs, o) => (b :: bs, o)
def idxL (l : List SV) : List (Nat × SV) := (List.range l.length).zip l
def inferM (S : St) (h : Option Hint) (nres : Nat) (l : List SV) (bs : List (Option Blk)) : Mode × List SV :=
  match canAs S (match h with | some h => h.fresh | none => []) (match h with | some h => h.spec | none => []) 0 l [] [] with
  | (l', as, sts) => match canBs S bs as sts with
    | (bs', as, sts) =>
      let r := (List.range nres).map SV.v
      match outBs sts bs' (r.map fun _ => match h with | some h => bif h.res then ⟨.fresh, true⟩ else ⟨.pure, false⟩ | none => ⟨.pure, false⟩) with
      | (ob, ost) => (⟨⟨sts, idxL l', bs'⟩, l.length, ⟨ost, idxL r, ob⟩⟩, as)
def nodupN : List Nat → Bool
  | [] => true
  | b :: r => !(r.any (Nat.beq b)) && nodupN r
def callMS (E : Env) (f : FuncId) (l : List SV) (S : St) (κ : K1) : Tree :=
  let bm := closeL S 3 ((locsOfs l).foldl addN [])
  match E.prog.funcs[f]?, SV.toCs bm l, blksC S bm bm with
  | some fn, some l', some bs =>
    match inferM (S.forC l' bs) (hintOf E f) fn.resultTypes.size l' bs with
    | (m, as) =>
      let S2 := freezeVs S (pureArgs m.inp.sts as)
      bif nodupN bm && coreS l'.length m.inp as (S2.forC l' bs) && Nat.beq m.n l'.length && m.out.slots.all (fun (_, x) => bdB m.out.sts.length bm.length x) && m.out.blks.all (bdBlk m.out.sts.length bm.length) && Nat.ble m.out.blks.length bm.length then
        .callM f m as (κ (resSV m S2.n bm) (S2.after m bm as)) else .fail
  | _, _, _ => .fail
def derefS (a : SV) (S : St) (κ : K1) : Tree := match a with
  | .v i => bindR .pchk [.v i] .ptr true S fun y S => match y with
    | .v j => κ (.pp j 0) S
    | _ => .fail
  | a => κ a S
def loadS (E : Env) (t : TypeId) (a : SV) (S : St) (κ : K1) : Tree := derefS a S fun a S => match E.types.get t with
  | none => .fail
  | some ti => match a with
    | .loc b off => match S.blks[b]? with
      | some (some (.cells cs)) => match partS ti.agg ti.size off cs with
        | some x => κ x S
        | none => .fail
      | some (some (.whole x n)) => bif Nat.beq off 0 && Nat.beq ti.size n && ti.agg then (bif readB S x then κ x S else .fail)
          else bindR (.fld ti.agg ti.size off) [x] .pure (!ti.agg) S κ
      | _ => .fail
    | .ptr s i sz off => bindR (.elem sz ti.agg ti.size off) [s, i] .pure (!ti.agg) S κ
    | .pp i off => bindR (.loadp ti.agg ti.size) [.pp i off] .pure (!ti.agg) S κ
    | _ => .fail
def St.setBlk (S : St) (b : Nat) (x : Blk) : St := { S with blks := S.blks.set b (some x) }
def storeW (ti : TI) (b : Nat) (x : SV) (S : St) (κ : K1) : Tree := match x with
  | .v i => bindR (.chk true ti.size) [.v i] .pure false S fun y S => κ (.tup []) (S.setBlk b (.whole y ti.size))
  | x => decomp x ti.agg ti.size S fun l S => κ (.tup []) (S.setBlk b (.cells l))
def storeS (E : Env) (t : TypeId) (a x : SV) (S : St) (κ : K1) : Tree := match E.types.get t with
  | none => .fail
  | some ti => match a with
    | .loc b off => match S.blks[b]? with
      | some (some (.cells cs)) =>
        bif ti.agg && Nat.beq off 0 && Nat.beq cs.length ti.size then
          storeW ti b x S κ
        else decomp x ti.agg ti.size S fun l S => match spliceS cs off l with
          | some cs' => κ (.tup []) (S.setBlk b (.cells cs'))
          | none => .fail
      | some (some (.whole y n)) =>
        bif ti.agg && Nat.beq off 0 && Nat.beq n ti.size && readB S y then
          storeW ti b x S κ
        else decomp y true n S fun cs S => decomp x ti.agg ti.size S fun l S => match spliceS cs off l with
          | some cs' => κ (.tup []) (S.setBlk b (.cells cs'))
          | none => .fail
      | _ => .fail
    | _ => .fail
def SV.ren (i n : Nat) : SV → SV
  | .v j => bif Nat.beq j i then .v n else .v j
  | .ptr (.v j) k sz off => bif Nat.beq j i then .ptr (.v n) k sz off else .ptr (.v j) k sz off
  | x => x
def St.setted (S : St) (i : Nat) : St := { (S.kill i).new .fresh true with slots := S.slots.map (SV.ren i S.n) }
def setS (E : Env) (t : TypeId) (i : Nat) (j : SV) (sz off : Nat) (x : SV) (S : St) (κ : K1) : Tree := match E.types.get t with
  | none => .fail
  | some ti =>
    let S := freezeV S x
    bif pureB S x && readB S j && S.freshV i then .bind (.set sz ti.agg ti.size off) [.v i, j, x] (κ (.tup []) (S.setted i)) else .fail
def sameOp : Operand → Operand → Bool
  | .tmp a, .tmp b => Nat.beq a b
  | .const (.int k a), .const (.int k' b) => decide (k = k') && decide (a = b)
  | _, _ => false
def isSlice (E : Env) (t : TypeId) : Option TypeId := match E.types.get t with
  | some { desc := .slice e, .. } => some e
  | _ => none
def bytesOk (E : Env) (s d : TypeId) : Bool := match isSlice E s with
  | some el => match E.types.get el, E.types.get d with
    | some { desc := .int .u8, .. }, some { desc := .string, .. } => true
    | _, _ => false
  | none => false
def bytesIn (E : Env) (s d : TypeId) : Option TypeId := match E.types.get s, isSlice E d with
  | some { desc := .string, .. }, some el => match E.types.get el with
    | some { desc := .int .u8, size := sz, .. } => bif Nat.beq sz 1 then some el else none
    | _ => none
  | _, _ => none
def zeroO : Option Operand → Bool
  | some (.const (.int _ (.ofNat 0))) => true
  | _ => false
def nilOk (E : Env) (op : BinOp) (t : TypeId) (x y : Operand) (neg : Bool) : Bool :=
  (isSlice E t).isSome && (match binA E op t x y (.slice none 0 0) (.slice none 0 0) with | some (.bool b) => b == !neg | _ => false) &&
    (match op with | .eql => !neg | .neq => neg | _ => false)
def isNeq : BinOp → Bool
  | .neq => true
  | _ => false
def isNilC : SV → Bool
  | .c (.slice none 0 0) => true
  | _ => false
def appS (E : Env) (ts : List TypeId) (s x : SV) (S : St) (κ : K1) : Tree := match ts with
  | t :: xt :: _ => match isSlice E t, E.types.get xt with
    | some el, some xi => match E.types.get el, xi.desc with
      | some e, .slice _ => match e.zero with
        | some _ =>
          let go := fun (S' : St) => bif readB S x && Nat.ble 1 e.size then Tree.bind (.app el e.size e.bytes) [s, x] (κ (.v S.n) (S'.new .fresh true)) else .fail
          match s with
          | .c (.slice none 0 0) => go S
          | .v i => match S.sts[i]? with
            | some ⟨.full, _⟩ => go S
            | some ⟨.fresh, _⟩ => (match x with
              | .v j => bif Nat.beq i j then .fail else go (S.kill i)
              | _ => go (S.kill i))
            | _ => .fail
          | _ => .fail
        | none => .fail
      | _, _ => .fail
    | _, _ => .fail
  | _ => .fail
def fieldOf (E : Env) (t : TypeId) (f : Nat) : Option (Nat × TI) := match E.types.get t with
  | some { desc := .struct fs, .. } => match fs[f]? with
    | some fd => match E.types.get fd.type with
      | some ti => some (fd.offset, ti)
      | none => none
    | none => none
  | _ => none
def builtinS (E : Env) (b : Builtin) (ts : List TypeId) (args : List SV) (S : St) (κ : K1) : Tree := match b with
  | .len => match ts, args with
    | t :: _, [x] => match E.types.get t with
      | some { desc := .string, .. } => bindR (.len true) [x] .pure true S κ
      | some { desc := .slice _, .. } => bindR (.len false) [x] .pure true S κ
      | _ => .fail
    | _, _ => .fail
  | .append => match args with
    | [s, x] => appS E ts s x S κ
    | _ => .fail
  | .min => match args with
    | [x, y] => bindR (.mm false) [x, y] .pure true S κ
    | _ => .fail
  | .max => match args with
    | [x, y] => bindR (.mm true) [x, y] .pure true S κ
    | _ => .fail
  | _ => .fail
def constB : SV → Option Bool
  | .c (.bool b) => some b
  | _ => none
def sxOp (E : Env) (o : Oper) (S : St) (κ : K1) : Tree := match o.op with
  | .move x | .assign x => match evS S x with
    | some y => κ y S
    | none => .fail
  | .pick c a b => match evS S c with
    | some (.c (.bool true)) => match evS S a with | some y => κ y S | none => .fail
    | some (.c (.bool false)) => match evS S b with | some y => κ y S | none => .fail
    | some (.v i) => bif S.pureV i then
        .ite (.v i) (match evS (S.known i true) a with | some y => κ y (S.known i true) | none => .fail) (match evS (S.known i false) b with | some y => κ y (S.known i false) | none => .fail)
      else .fail
    | _ => .fail
  | .alloc t => match E.types.get t with
    | some { zero := some z, .. } => bif z.all (fun v => flatV v && oneCell v) then κ (.loc S.blks.length 0) { S with blks := S.blks ++ [some (.cells (z.map .c))] } else .fail
    | _ => .fail
  | .box t x => match evS S x, E.types.get t with
    | some y, some ti => match y, ti.agg with
      | .v i, true => bindR (.chk true ti.size) [.v i] .pure false S fun y S => κ (.loc S.blks.length 0) { S with blks := S.blks ++ [some (.whole y ti.size)] }
      | y, ag => decomp y ag ti.size S fun l S => κ (.loc S.blks.length 0) { S with blks := S.blks ++ [some (.cells l)] }
    | _, _ => .fail
  | .build t ps => match E.types.get t with
    | some { desc := .struct fs, zero := some z, agg := true, .. } => bif z.all (fun v => flatV v && oneCell v) then
        buildS E S (fun i => match fs[i]? with | some f => (E.types.get f.type).map fun t => (f.offset, t.size, t.agg) | none => none) (z.map .c) ps.toList fun cs S => κ (.agg cs) S else .fail
    | some { desc := .array _ elem, zero := some z, agg := true, .. } => bif (E.types.get elem).isSome && z.all (fun v => flatV v && oneCell v) then
        buildS E S (fun i => (E.types.get elem).map fun e => (Nat.mul i e.size, e.size, e.agg)) (z.map .c) ps.toList fun cs S => κ (.agg cs) S else .fail
    | _ => .fail
  | .buildSlice t n ps => match isSlice E t with
    | some el => match E.types.get el with
      | some e => match e.zero with
        | some z => bif Nat.beq z.length e.size && Nat.beq n ps.toList.length then
            elemsS e.size e.agg [] S ps.toList fun l S => bindP (.lit el e.size) l (bif Nat.beq n 0 then .full else .fresh) true S κ
          else .fail
        | none => .fail
      | none => .fail
    | none => .fail
  | .load t a => match evS S a with
    | some a => loadS E t a S κ
    | none => .fail
  | .store t a x => match evS S a, evS S x with
    | some (.ptr (.v i) j sz off), some x => setS E t i j sz off x S κ
    | some a, some x => storeS E t a x S κ
    | _, _ => .fail
  | .makeSlice t l c => match isSlice E t, evS S l with
    | some el, some x => match E.types.get el with
      | some e => match e.zero with
        | some z => bif sameOp l c && readB S x then .bind (.mk el e.size e.bytes e.agg z) [x] (κ (.v S.n) (S.new .fresh true)) else .fail
        | none => .fail
      | none => .fail
    | _, _ => .fail
  | .nilCheck x => match evS S x with
    | some (.loc b o) => κ (.loc b o) S
    | some (.fn (.func f) a b) => κ (.fn (.func f) a b) S
    | some (.ifc t x) => κ (.ifc t x) S
    | some (.v i) => bindR .nn [.v i] .pure true S κ
    | _ => .fail
  | .binOp op t x y _ => match evS S x, evS S y with
    | some a, some b =>
      bif isNilC b && (nilOk E op t x y true || nilOk E op t x y false) then bindR (.isNil (isNeq op)) [a] .pure true S κ
      else bif pureB S a && pureB S b then .bind (.bin op t x y) [a, b] (κ (.v S.n) (S.new .pure true)) else .fail
    | _, _ => .fail
  | .unOp op t x => match evS S x with
    | some y => match op, constB y with
      | .not, some b => κ (.c (.bool !b)) S
      | _, _ => bindR (.un op t) [y] .pure true S κ
    | none => .fail
  | .convert s d x => match evS S x with
    | some y => match bytesIn E s d with
      | some el => bif readB S y then .bind (.byt el) [y] (κ (.v S.n) (S.new .fresh true)) else .fail
      | none => bif bytesOk E s d then bindR .bstr [y] .pure true S κ else bindR (.conv s d) [y] .pure true S κ
    | none => .fail
  | .makeInterface t x => match E.types.get t, evS S x with
    | some { desc := .interface _, .. }, _ => .fail
    | some _, some y => κ (.ifc t y) S
    | _, _ => .fail
  | .makeFunc fn first cap => match evSs S first.toList, evSs S cap.toList with
    | some a, some b => bif fnPlain fn then boxS b [] S fun b S => κ (.fn fn a b) S else .fail
    | _, _ => .fail
  | .slice t x lo hi mx => bif (lo.isNone || zeroO lo) && zeroO hi && zeroO mx then (match evS S x, isSlice E t with
      | some y, some el => match E.types.get el with
        | some e => bindP (.slc0 el e.size) [y] .full true S κ
        | none => .fail
      | _, _ => .fail) else match evS S x, evSs S lo.toList, evSs S hi.toList, mx with
    | some y, some l, some h, none => match E.types.get t with
      | some { desc := .slice el, .. } => match E.types.get el with
        | some e => bindP (.slc el e.size lo.isSome hi.isSome) (y :: (l ++ h)) .pure true S κ
        | none => .fail
      | some { desc := .string, .. } => bindR (.sub lo.isSome hi.isSome) (y :: (l ++ h)) .pure true S κ
      | _ => .fail
    | _, _, _, _ => .fail
  | .fieldAddr s x f => match evS S x, fieldOf E s f with
    | some y, some (off, ti) => bif Nat.beq ti.size 0 then .fail else derefS y S fun y S => match y with
      | .loc b o => κ (.loc b (Nat.add o off)) S
      | .ptr s i sz o => κ (.ptr s i sz (Nat.add o off)) S
      | .pp i o => κ (.pp i (Nat.add o off)) S
      | _ => .fail
    | _, _ => .fail
  | .field t x f => match evS S x, fieldOf E t f with
    | some (.agg cs), some (off, ti) => match partS ti.agg ti.size off cs with
      | some y => κ y S
      | none => .fail
    | some (.v i), some (off, ti) => bindR (.chk true (match E.types.get t with | some ti => ti.size | none => 0)) [.v i] .pure false S fun y S => bindR (.fld ti.agg ti.size off) [y] .pure (!ti.agg) S κ
    | _, _ => .fail
  | .indexAddr t x i => match evS S x, evS S i, isSlice E t with
    | some y, some j, some el => match E.types.get el with
      | some e => bif readB S y && readB S j then bindR .inr [y, j] .pure true S fun _ S => κ (.ptr y j e.size 0) S else .fail
      | none => .fail
    | _, _, _ => .fail
  | .index t x i => match evS S x, evS S i, E.types.get t with
    | some y, some j, some { desc := .string, .. } => bindR .chr [y, j] .pure true S κ
    | _, _, _ => .fail
  | .extract x i => match evS S x with
    | some (.tup cs) => match cs[i]? with
      | some y => κ y S
      | none => .fail
    | some (.v j) => bindR (.ext i) [.v j] .pure false S κ
    | _ => .fail
  | .call c => match evSs S c.args.toList with
    | none => .fail
    | some args => match c.callee with
      | .builtin b => builtinS E b c.argTypes.toList args S κ
      | .invoke r name => match evS S r with
        | some y => callS E (.meth y name) (y :: args) 0 S κ
        | none => .fail
      | .value f => match evS S f with
        | some (.fn (.func g) first cap) => bif useM E g (first ++ args ++ cap) then callMS E g (first ++ args ++ cap) S κ else callS E (.fn g) (first ++ args ++ cap) (flatness E g) S κ
        | some (.v i) => callS E (.val (.v i)) (.v i :: args) (match E.types.get o.type with | some { desc := .bool, .. } => 1 | some { desc := .int _, .. } => 1 | some { desc := .string, .. } => 1 | _ => 0) S κ
        | _ => .fail
  | _ => .fail
def writesS (o : Oper) : Bool := match o.op with
  | .store _ _ _ => true
  | _ => false
def appW (S : St) : List SV → Bool
  | [.v i, _] => S.freshV i
  | _ => false
def writesM (E : Env) (S : St) (o : Oper) : Bool := writesS o || match o.op with
  | .call c => match c.callee, evSs S c.args.toList with
    | .builtin .append, some args => appW S args
    | .value f, some args => match evS S f with
      | some (.fn (.func g) first cap) => useM E g (first ++ args ++ cap)
      | _ => false
    | _, _ => false
  | _ => false
def guardS (all : Array Oper) (o : Oper) (S : St) (yes no : St → Tree) : Tree := match o.guard with
  | none => yes S
  | some (j, want) => match all.toList[j]? with
    | some { dst := some d, .. } => match S.slots.get d with
      | some (.c (.bool b)) => bif b == want then yes S else no S
      | some (.tup []) => no S
      | some (.v i) => bif S.pureV i then .ite (.v i) (bif want then yes (S.known i true) else no (S.known i true)) (bif want then no (S.known i false) else yes (S.known i false)) else .fail
      | _ => .fail
    | _ => .fail
def opsS (E : Env) (all : Array Oper) (draw : Bool) : List Oper → Nat → St → (St → Tree) → Tree
  | [], _, S, κ => κ S
  | o :: os, i, S, κ =>
    guardS all o S
      (fun S => bif draw && writesM E S o && !(fences all.toList i) then .fail else
        sxOp E o S fun y S => match S.put o.dst y with
          | some S => opsS E all draw os (i + 1) S κ
          | none => .fail)
      (fun S => match S.put o.dst (.tup []) with
        | some S => opsS E all draw os (i + 1) S κ
        | none => .fail)
def pureK : Op → Bool
  | .move _ | .assign _ | .pick _ _ _ | .nilCheck _ | .binOp _ _ _ _ _ | .unOp _ _ _ | .fieldAddr _ _ _ | .indexAddr _ _ _ | .extract _ _ => true
  | _ => false
def tgtS (S : St) : List Oper → Nat → List (Nat × Nat)
  | [], _ => []
  | o :: os, i => match o.op with
    | .store _ (.tmp a) _ => match S.slots.get a with
      | some (.loc b _) => (i, b) :: tgtS S os (i + 1)
      | _ => tgtS S os (i + 1)
    | _ => tgtS S os (i + 1)
def tameOp (S : St) (o : Oper) (os : List Oper) (bs : List Nat) : Bool := match o.op with
  | .load _ (.tmp a) => (o :: os).all (noDst a) && match S.slots.get a with
    | some (.loc b _) => bs.all (fun c => !(Nat.beq c b)) && (S.blks[b]?.getD none).isSome
    | some (.ptr (.v k) _ _ _) => S.pureV k
    | _ => false
  | .alloc _ => match o.dst with
    | some d => os.all (noDst d) && match S.slots.get d with
      | some (.loc b _) => bs.all (fun c => !(Nat.beq c b)) && (S.blks[b]?.getD none).isSome
      | _ => false
    | none => false
  | .store _ (.tmp a) _ => bs.isEmpty && (o :: os).all (noDst a) && match S.slots.get a with
    | some (.loc b _) => (S.blks[b]?.getD none).isSome
    | _ => false
  | op => pureK op
def tameAll (S : St) (all : List Oper) : List Oper → Nat → Bool
  | [], _ => true
  | o :: os, i => tameOp S o os (hidden all i (tgtS S all 0)) && tameAll S all os (i + 1)
def ptrsS (S : St) : List Oper → List (SV × SV)
  | [] => []
  | o :: os => match o.op with
    | .load _ (.tmp a) => match S.slots.get a with
      | some (.ptr (.v k) i _ _) => (.v k, i) :: ptrsS S os
      | _ => ptrsS S os
    | _ => ptrsS S os
def chkPS : List (SV × SV) → St → (St → Tree) → Tree
  | [], S, κ => κ S
  | (s, i) :: r, S, κ => bif pureB S s && pureB S i then .bind .inr [s, i] (chkPS r (S.new .pure true) κ) else .fail
def loose (ops : List Oper) : Bool := ops.zipIdx.any fun (o, i) => writesS o && !(fences ops i)
def nl : Code → Nat
  | .seq a b => nl a + nl b
  | .cond _ a b => nl a + nl b
  | .block _ b => nl b
  | .loop b => nl b + 1
  | .scope b => nl b
  | _ => 0
abbrev KC := AExit → St → Tree
def seqK (k : St → Tree) (κ : KC) : KC := fun e S => match e with
  | .normal => k S
  | e => κ e S
def blockK (id : Nat) (κ : KC) : KC := fun e S => match e with
  | .exit id' => bif Nat.beq id' id then κ .normal S else κ (.exit id') S
  | e => κ e S
def sx (E : Env) (J : Nat → St → Tree) : Nat → Code → St → KC → Tree
  | at_, .seq a b, S, κ => sx E J at_ a S (seqK (fun S => sx E J (at_ + nl a) b S κ) κ)
  | at_, .cond c a b, S, κ => match evS S c with
    | some (.c (.bool true)) => sx E J at_ a S κ
    | some (.c (.bool false)) => sx E J (at_ + nl a) b S κ
    | some (.v i) => bif S.pureV i then .ite (.v i) (sx E J at_ a (S.known i true) κ) (sx E J (at_ + nl a) b (S.known i false) κ) else .fail
    | _ => .fail
  | at_, .block id b, S, κ => sx E J at_ b S (blockK id κ)
  | at_, .loop _, S, _ => J at_ S
  | at_, .scope b, S, κ => sx E J at_ b S κ
  | _, .region _ ops draw, S, κ => bif draw && loose ops.toList then opsS E ops false ops.toList 0 S (fun S => bif tameAll S ops.toList ops.toList 0 then chkPS (ptrsS S ops.toList) S (κ .normal) else .fail) else opsS E ops draw ops.toList 0 S (κ .normal)
  | _, .skip, S, κ => κ .normal S
  | _, .label _, S, κ => κ .normal S
  | _, .ret, S, κ => κ .ret S
  | _, .exit id, S, κ => κ (.exit id) S
  | _, _, _, _ => .fail
def resS (E : Env) (S : St) (acc : List SV) : List ResultVar → Tree
  | [] =>
    let S := freezeVs S acc
    bif acc.all (pureB S) then .ret acc else .fail
  | .tmp t :: r => match S.slots.get t with
    | some x => resS E S (acc ++ [x]) r
    | none => .fail
  | .cell a t :: r => match S.slots.get a with
    | some p => loadS E t p S fun x S => resS E S (acc ++ [x]) r
    | none => .fail
def endK (E : Env) (rs : List ResultVar) : KC := fun e S => match e with
  | .normal => resS E S [] rs
  | .ret => resS E S [] rs
  | .exit _ => .fail
def startS (n sz : Nat) : St := { sts := List.replicate n ⟨.pure, false⟩, slots := T.ofList .leaf 0 ((List.range n).map .v), blks := [], sz := sz }
def rootT (E : Env) (J : Nat → St → Tree) (fn : Func) (n : Nat) : Tree := match fn.body with
  | some c => sx E J 1 c (startS n (Nat.max fn.ntmps n)) (endK E fn.results.toList)
  | none => .fail
def loopK (J : Nat → St → Tree) (at_ : Nat) (κ : KC) : KC := fun e S => match e with
  | .normal => J at_ S
  | e => κ e S
def headsT (E : Env) (P : Nat → St) (J : Nat → St → Tree) : Nat → Code → KC → List (Nat × Tree)
  | at_, .seq a b, κ => headsT E P J at_ a (seqK (fun S => sx E J (at_ + nl a) b S κ) κ) ++ headsT E P J (at_ + nl a) b κ
  | at_, .cond _ a b, κ => headsT E P J at_ a κ ++ headsT E P J (at_ + nl a) b κ
  | at_, .block id b, κ => headsT E P J at_ b (blockK id κ)
  | at_, .loop b, κ => (at_, sx E J (at_ + 1) b (P at_) (loopK J at_ κ)) :: headsT E P J (at_ + 1) b (loopK J at_ κ)
  | at_, .scope b, κ => headsT E P J at_ b κ
  | _, _, _ => []
inductive Res1 where
  | ret (d : D)
  | jump (k : Nat) (ds : List D)
def retD : List D → D
  | [d] => d
  | l => .tup l
def allLeaf : List D → Bool
  | [] => true
  | .leaf _ :: r => allLeaf r
  | _ :: _ => false
def flatD : Nat → D → Bool
  | 0, _ => true
  | 1, .leaf _ => true
  | 1, _ => false
  | _, .tup l => allLeaf l
  | _, _ => false
def bigN : Nat := 1000000000000
def tgtD (E : Env) (tg : Tgt) (ds : List D) : Option (FuncId × List D) := match tg with
  | .fn f => some (f, ds)
  | .val _ => match ds with
    | .clo (.func g) first cap :: r => some (g, first ++ r ++ cap)
    | _ => none
  | .meth _ name => match ds with
    | .iface t d :: r => match E.prog.info? t, E.types.get t with
      | some i, some ti => match i.methods.find? (·.name == name) with
        | some { path := p, func := some (f, ptr), .. } => bif Nat.beq p.toList.length 0 && ptrFits ti.desc ptr then some (f, d :: r) else none
        | _ => none
      | _, _ => none
    | _ => none
def getD (ρ : List D) (i : Nat) : D := ρ.getD i .nil
def wp (E : Env) (HS : FuncId → List D → D → Prop) (Q : Res1 → Prop) : Tree → List D → Prop
  | .fail, _ => False
  | .stop _ _, _ => False
  | .ret xs, ρ => Q (.ret (retD (SV.ds (getD ρ) xs)))
  | .jump k xs, ρ => Q (.jump k (SV.ds (getD ρ) xs))
  | .bind o xs r, ρ => match o.eval E (SV.ds (getD ρ) xs) with
    | some d => wp E HS Q r (ρ ++ [d])
    | none => False
  | .call tg xs fl r, ρ => match tgtD E tg (SV.ds (getD ρ) xs) with
    | some (f, ds) => ∃ d, HS f ds d ∧ flatD fl d = true ∧ wp E HS Q r (ρ ++ [d])
    | none => False
  | .callM f m xs r, ρ => ∃ ds, HS (Nat.add bigN f) (.mode m :: SV.ds (getD ρ) xs) (retD ds) ∧ ds.length = m.out.sts.length ∧ wp E HS Q r (ρ ++ ds)
  | .ite c a b, ρ => match c.d (getD ρ) with
    | .leaf (.bool true) => wp E HS Q a ρ
    | .leaf (.bool false) => wp E HS Q b ρ
    | _ => False
def goN (E : Env) (HS : FuncId → List D → D → Prop) (Ts : Nat → Tree) : Nat → Nat → List D → D → Prop
  | 0, _, _, _ => False
  | n + 1, k, ρ, d => wp E HS (fun r => match r with | .ret d' => d' = d | .jump k' ds => goN E HS Ts n k' ds d) (Ts k) ρ
def Goes (E : Env) (HS : FuncId → List D → D → Prop) (Ts : Nat → Tree) (k : Nat) (ρ : List D) (d : D) : Prop := ∃ n, goN E HS Ts n k ρ d
end Go.Am
