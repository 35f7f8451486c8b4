/- The seat's program for symbolic runs. Conditions: none. -/
import Derived.Test.YtbmjdlgfnoaocaaGreatChecked
import Derived.Test.YtbmjdlgfnoaocaaGreatUn
import Derived.KernelRfl
set_option linter.unusedVariables false
set_option linter.unusedSimpArgs false
namespace Go.Proofs.YtbmjdlgfnoaocaaGreat
open Go Go.Am Go.Proofs
noncomputable def EE : Env := envOf Tryz.prog
def bodyOf (fn : Func) : Code := fn.body.getD .skip
theorem good : envGood Tryz.prog = true := by kernel_rfl
theorem he : EOk EE := env_ok good
theorem tabN {Ts : Nat → Tree} : ∀ x ∈ ([] : List (Nat × Tree)), Ts x.1 = x.2 := fun _ h => by cases h
theorem tabC {Ts : Nat → Tree} {k : Nat} {t : Tree} {r : List (Nat × Tree)} (h : Ts k = t) (hr : ∀ x ∈ r, Ts x.1 = x.2) : ∀ x ∈ (k, t) :: r, Ts x.1 = x.2 := by
  intro x hx
  rcases List.mem_cons.1 hx with rfl | hx
  · exact h
  · exact hr x hx
abbrev k' (n : Int) : SV := .c (.int .i64 n)
abbrev K' (n : Int) : Operand := .const (.int .i64 n)
abbrev fl' (o i : Nat) (r : Tree) : Tree := .bind (.fld false 1 o) [.v i] r
abbrev ln' (i : Nat) (r : Tree) : Tree := .bind (.len false) [.v i] r
abbrev ir' (a b : Nat) (r : Tree) : Tree := .bind .inr [.v a, .v b] r
theorem nx1 {t0 : Type} {t1 : Type} {x0 y0 : t0} {x1 y1 : t1} (h : (x0, x1) = (y0, y1)) : x1 = y1 := (Prod.mk.inj h).2
theorem nx4 {t0 : Type} {t1 : Type} {t2 : Type} {t3 : Type} {t4 : Type} {x0 y0 : t0} {x1 y1 : t1} {x2 y2 : t2} {x3 y3 : t3} {x4 y4 : t4} (h : (x0, x1, x2, x3, x4) = (y0, y1, y2, y3, y4)) : x4 = y4 := (Prod.mk.inj (Prod.mk.inj (Prod.mk.inj (Prod.mk.inj h).2).2).2).2
theorem nx16 {t0 : Type} {t1 : Type} {t2 : Type} {t3 : Type} {t4 : Type} {t5 : Type} {t6 : Type} {t7 : Type} {t8 : Type} {t9 : Type} {t10 : Type} {t11 : Type} {t12 : Type} {t13 : Type} {t14 : Type} {t15 : Type} {t16 : Type} {x0 y0 : t0} {x1 y1 : t1} {x2 y2 : t2} {x3 y3 : t3} {x4 y4 : t4} {x5 y5 : t5} {x6 y6 : t6} {x7 y7 : t7} {x8 y8 : t8} {x9 y9 : t9} {x10 y10 : t10} {x11 y11 : t11} {x12 y12 : t12} {x13 y13 : t13} {x14 y14 : t14} {x15 y15 : t15} {x16 y16 : t16} (h : (x0, x1, x2, x3, x4, x5, x6, x7, x8, x9, x10, x11, x12, x13, x14, x15, x16) = (y0, y1, y2, y3, y4, y5, y6, y7, y8, y9, y10, y11, y12, y13, y14, y15, y16)) : x16 = y16 := (Prod.mk.inj (Prod.mk.inj (Prod.mk.inj (Prod.mk.inj (Prod.mk.inj (Prod.mk.inj (Prod.mk.inj (Prod.mk.inj (Prod.mk.inj (Prod.mk.inj (Prod.mk.inj (Prod.mk.inj (Prod.mk.inj (Prod.mk.inj (Prod.mk.inj (Prod.mk.inj h).2).2).2).2).2).2).2).2).2).2).2).2).2).2).2).2
end Go.Proofs.YtbmjdlgfnoaocaaGreat
namespace Go.Proofs.YtbmjdlgfnoaocaaGreat
open Go Go.Am Go.Proofs
abbrev Pr := Int × Int
def cel1 (p : Pr) : List Value := [.int .i64 p.1, .int .i64 p.2]
def cel (l : List Pr) : List Value := l.flatMap cel1
theorem cel_len : ∀ l : List Pr, (cel l).length = l.length * 2
  | [] => rfl
  | p :: r => by
    have := cel_len r
    show (cel1 p ++ cel r).length = _
    rw [List.length_append, this, List.length_cons]
    show 2 + _ = _
    omega
theorem cel_app (a b : List Pr) : cel (a ++ b) = cel a ++ cel b := List.flatMap_append
theorem cel_take (l : List Pr) (k : Nat) : (cel l).take (k * 2) = cel (l.take k) := by
  induction l generalizing k with
  | nil => simp [cel]
  | cons p r ih =>
    cases k with
    | zero => simp [cel]
    | succ k =>
      show (cel1 p ++ cel r).take ((k + 1) * 2) = cel1 p ++ cel (r.take k)
      rw [show (k + 1) * 2 = (cel1 p).length + k * 2 by show _ = 2 + _; omega, List.take_length_add_append, ih]
theorem cel_drop (l : List Pr) (k : Nat) : (cel l).drop (k * 2) = cel (l.drop k) := by
  induction l generalizing k with
  | nil => simp [cel]
  | cons p r ih =>
    cases k with
    | zero => simp [cel]
    | succ k =>
      show (cel1 p ++ cel r).drop ((k + 1) * 2) = cel (r.drop k)
      rw [show (k + 1) * 2 = (cel1 p).length + k * 2 by show _ = 2 + _; omega, List.drop_length_add_append, ih]
theorem cel_at {m : List Pr} {k : Nat} {p : Pr} {rest : List Value} {q : Nat} (h : m[k]? = some p) (hq : q = k * 2) : take? ((cel m ++ rest).drop q) 2 = some (cel1 p) := by
  subst hq
  have hk : k < m.length := (List.getElem?_eq_some_iff.1 h).1
  have e : m.drop k = p :: m.drop (k + 1) := by rw [List.drop_eq_getElem_cons hk]; congr 1; exact (List.getElem?_eq_some_iff.1 h).2
  rw [List.drop_append_of_le_length (by rw [cel_len]; omega), cel_drop, e]
  have h2 : cel (p :: m.drop (k + 1)) = cel1 p ++ cel (m.drop (k + 1)) := rfl
  rw [h2, List.append_assoc, take_of (by rw [List.length_append]; exact Nat.le_add_right 2 _), List.take_append_of_le_length (Nat.le_refl 2)]
  rfl
theorem cel_set {m : List Pr} {k : Nat} {p : Pr} {rest : List Value} {q : Nat} (hk : k < m.length) (hq : q = k * 2) : splice (cel m ++ rest) q (cel1 p) = some (cel (m.set k p) ++ rest) := by
  subst hq
  have hl : (cel1 p).length = 2 := rfl
  rw [splice_some (by rw [hl, List.length_append, cel_len]; omega)]
  unfold spl
  rw [hl, List.take_append_of_le_length (by rw [cel_len]; omega), cel_take, show k * 2 + 2 = (k + 1) * 2 by omega, List.drop_append_of_le_length (by rw [cel_len]; omega), cel_drop, List.set_eq_take_append_cons_drop, if_pos hk, cel_app]
  show some (cel (m.take k) ++ (cel1 p ++ (cel (m.drop (k + 1)) ++ rest))) = some (cel (m.take k) ++ (cel1 p ++ cel (m.drop (k + 1))) ++ rest)
  simp only [List.append_assoc]
def cpN (l : List Pr) : Nat → List Pr
  | 0 => []
  | i + 1 => if i ≠ 0 ∧ l[i]? = l[i - 1]? then cpN l i else cpN l i ++ (l[i]?).toList
def cpt (l : List Pr) : List Pr := cpN l l.length
theorem cpN_len (l : List Pr) : ∀ k, (cpN l k).length ≤ k
  | 0 => Nat.le_refl _
  | k + 1 => by
    have := cpN_len l k
    unfold cpN
    split
    · omega
    · rw [List.length_append]
      have : (l[k]?).toList.length ≤ 1 := by cases l[k]? <;> simp
      omega
theorem sl25 : isSlice EE 25 = some 50 := by kernel_rfl
theorem te50 : (EE.types.get 50).map (fun e => (e.size, e.agg, e.zero)) = some (2, true, some [.int .i64 0, .int .i64 0]) := by kernel_rfl
theorem ti50 : ∃ e, EE.types.get 50 = some e ∧ e.size = 2 ∧ e.agg = true ∧ e.zero = some [.int .i64 0, .int .i64 0] := by
  have h := te50
  cases e : EE.types.get 50 with
  | none => rw [e] at h; cases h
  | some ti =>
    rw [e] at h
    have h := Option.some.inj h
    exact ⟨ti, rfl, (Prod.mk.inj h).1, (Prod.mk.inj (Prod.mk.inj h).2).1, (Prod.mk.inj (Prod.mk.inj h).2).2⟩
theorem el25 : ElT EE 25 50 2 [.int .i64 0, .int .i64 0] := ⟨sl25, by obtain ⟨e, h1, h2, _, h4⟩ := ti50; exact ⟨e, h1, h2, h4⟩⟩
theorem ld50 {fr : Fr} {o : Oper} {H : AH} {x : Operand} {b p rt el : Nat} {own : Bool} {cs vs : List Value} (ho : o.op = .load 50 x) (hv : ev EE fr x = some (.pointer (some ⟨b, p, none⟩)))
    (hb : H.blocks.get b = some ⟨.cells cs el, rt, own⟩) (hc : take? (cs.drop p) 2 = some vs) : aop EE fr o H = some (.val (.agg ⟨vs⟩), H) := by
  obtain ⟨e, h1, h2, h3, _⟩ := ti50
  exact ax_ldA h1 h3 ho hv hb (by rw [h2]; exact hc)
theorem st50' {fr : Fr} {o : Oper} {H : AH} {a x : Operand} {b p rt el : Nat} {cs cs' vs : List Value} (hs : vs.length = 2) (ho : o.op = .store 50 a x) (ha : ev EE fr a = some (.pointer (some ⟨b, p, none⟩))) (hv : ev EE fr x = some (.agg ⟨vs⟩))
    (hb : H.blocks.get b = some ⟨.cells cs el, rt, true⟩) (hc : splice cs p vs = some cs') : aop EE fr o H = some (.skip, H.write b ⟨.cells cs el, rt, true⟩ (.cells cs' el)) := by
  obtain ⟨e, h1, h2, h3, _⟩ := ti50
  exact ax_stA h1 (by rw [h2]; exact hs) ho ha hv hb hc
theorem ty50 : eqTy EE.prog 4 50 = some [.int .i64, .int .i64] := by kernel_rfl
theorem st50 : isSt EE.prog 50 = true := by kernel_rfl
theorem gu50 : EE.prog.eqGuardType EE.prog.depth 50 = false := by kernel_rfl
theorem eq50 {x y : Operand} (p q : Pr) : binA EE .eql 50 x y (.agg ⟨cel1 p⟩) (.agg ⟨cel1 q⟩) = some (.bool (deqs [dI p.1, dI p.2] [dI q.1, dI q.2])) :=
  leafD_inv (sh_cmpS .eql (.inr rfl) ty50 st50 (by decide : 4 ≤ 10000) gu50 rfl (azq := [dI p.1, dI p.2]) (bs := [dI q.1, dI q.2]) (x := x) (y := y) (shs_cons sh_int (shs_cons sh_int shs_nil)) (shs_cons sh_int (shs_cons sh_int shs_nil)))
theorem ne50 {x y : Operand} (p q : Pr) : binA EE .neq 50 x y (.agg ⟨cel1 p⟩) (.agg ⟨cel1 q⟩) = some (.bool (!(deqs [dI p.1, dI p.2] [dI q.1, dI q.2]))) :=
  leafD_inv (sh_cmpS .neq (.inl rfl) ty50 st50 (by decide : 4 ≤ 10000) gu50 rfl (azq := [dI p.1, dI p.2]) (bs := [dI q.1, dI q.2]) (x := x) (y := y) (shs_cons sh_int (shs_cons sh_int shs_nil)) (shs_cons sh_int (shs_cons sh_int shs_nil)))
theorem dq {p q : Pr} : deqs [dI p.1, dI p.2] [dI q.1, dI q.2] = decide (p = q) := by
  obtain ⟨a, b⟩ := p
  obtain ⟨c, d⟩ := q
  simp only [deqs_cons, deq_leaf, veq_int, deqs_nil, Bool.and_true, Prod.mk.injEq, Bool.decide_and]
theorem eqT {x y : Operand} {p q : Pr} (h : p = q) : binA EE .eql 50 x y (.agg ⟨cel1 p⟩) (.agg ⟨cel1 q⟩) = some (.bool true) := by rw [eq50, dq, decide_eq_true h]
theorem eqF {x y : Operand} {p q : Pr} (h : ¬ p = q) : binA EE .eql 50 x y (.agg ⟨cel1 p⟩) (.agg ⟨cel1 q⟩) = some (.bool false) := by rw [eq50, dq, decide_eq_false h]
theorem neT {x y : Operand} {p q : Pr} (h : ¬ p = q) : binA EE .neq 50 x y (.agg ⟨cel1 p⟩) (.agg ⟨cel1 q⟩) = some (.bool true) := by rw [ne50, dq, decide_eq_false h]; rfl
theorem neF {x y : Operand} {p q : Pr} (h : p = q) : binA EE .neq 50 x y (.agg ⟨cel1 p⟩) (.agg ⟨cel1 q⟩) = some (.bool false) := by rw [ne50, dq, decide_eq_true h]; rfl
theorem re24 : (Tryz.f24.name == "runtime.NumGoroutine" || !regsOk (bodyOf Tryz.f24)) = false := by kernel_rfl
theorem x24 : EE.funcs.get 24 = some Tryz.f24 := envFunc (c := bodyOf Tryz.f24) Tryz.func24 rfl re24
noncomputable def L24 : Code := cs_b (cs_b (cs_r (cs_l (cs_r (cs_r (bodyOf Tryz.f24))))))
noncomputable def F24 : Code := cs_t (cs_r (cs_b (cs_l (cs_r L24))))
noncomputable def M24 : Code := cs_b (cs_b (cs_r (cs_l (cs_r F24))))
structure HI (H0 H : AH) (B rt : Nat) (cs : List Value) : Prop where
  b : H.blocks.get B = some ⟨.cells cs 50, rt, true⟩
  o : ∀ c, c ≠ B → H.blocks.get c = H0.blocks.get c
  n : H.next = H0.next
  l : Nat.min (Nat.min H0.low H0.next) rt ≤ H.low
theorem HI.it {H0 H : AH} {B rt : Nat} {cs : List Value} (h : HI H0 H B rt cs) (k : Nat) : HI H0 (itK H k) B rt cs where
  b := by rw [itK_b]; exact h.b
  o c hc := by rw [itK_b]; exact h.o c hc
  n := by rw [itK_n]; exact h.n
  l := Nat.le_trans (Nat.le_min.2 ⟨h.l, by rw [h.n]; exact Nat.le_trans (Nat.min_le_left _ _) (Nat.min_le_right _ _)⟩) (itK_l H k)
theorem HI.wr {H0 H : AH} {B rt : Nat} {cs cs' : List Value} (h : HI H0 H B rt cs) : HI H0 (H.write B ⟨.cells cs 50, rt, true⟩ (.cells cs' 50)) B rt cs' where
  b := by rw [AH.get_write, if_pos rfl]
  o c hc := by rw [AH.get_write, if_neg hc]; exact h.o c hc
  n := h.n
  l := by show _ ≤ Nat.min H.low rt; exact Nat.le_min.2 ⟨h.l, Nat.min_le_right _ _⟩
section
variable {H0 H : AH} {B rt n k k0 k2 : Nat} {t : T Value} {m : List Pr} {rest : List Value}
abbrev slB (B p n : Nat) : Value := .slice (some ⟨B, p, none⟩) n capX
abbrev FR (t : T Value) : Fr := ⟨61, false, t⟩
theorem m_exit (h4 : ev EE (FR t) (.tmp 4) = some (slB B (0 + k0 * 2) n)) (h5 : ev EE (FR t) (.tmp 5) = some (goInt k2)) (hk : n ≤ k2) (h0 : ev EE (FR t) (.tmp 0) = some (slB B 0 k)) (h3 : ev EE (FR t) (.tmp 3) = some (goInt m.length)) :
    ∃ t', CodeX EE M24 (FR t) H (.exit 2) (FR t') H ∧ ev EE (FR t') (.tmp 0) = some (slB B 0 k) ∧ ev EE (FR t') (.tmp 3) = some (goInt m.length) := by
  refine ⟨?tt, CodeX.seqOut (CodeX.seq (fr1 := FR ?f) (H1 := H) ?a ?b) (by simp), ?e0, ?e3⟩
  case a =>
    refine CodeX.region he ?_
    refine kk_op (.of_val (Nat.le_refl _) (ax_move rfl (h5))) rfl rfl rfl ?_
    refine kk_op (.of_val (Nat.le_refl _) (ax_move rfl (ax_ge (by decide) (h4)))) rfl rfl rfl ?_
    refine kk_op (.of_val (Nat.le_refl _) (ax_sln sl25 rfl rfl rfl (evs1 (ax_gs)))) rfl rfl rfl ?_
    refine kk_op (.of_val (Nat.le_refl _) (ax_bin rfl (ax_ge (by decide) (ax_ge (by decide) (ax_gs))) (ax_gs) (bi_ltF hk))) rfl rfl rfl ?_
    exact .nil
  case b =>
    refine CodeX.condF he (ax_gs) ?_
    exact CodeX.exit
  case e0 => exact ax_ge (by decide) (ax_ge (by decide) (ax_ge (by decide) (ax_ge (by decide) (h0))))
  case e3 => exact ax_ge (by decide) (ax_ge (by decide) (ax_ge (by decide) (ax_ge (by decide) (h3))))
theorem m_eq {p q : Pr} (hH : HI H0 H B rt (cel m ++ rest)) (h0 : ev EE (FR t) (.tmp 0) = some (slB B 0 m.length)) (h3 : ev EE (FR t) (.tmp 3) = some (goInt k)) (h4 : ev EE (FR t) (.tmp 4) = some (slB B (0 + k0 * 2) n)) (h5 : ev EE (FR t) (.tmp 5) = some (goInt k2))
    (h1 : 1 ≤ k2) (hk2 : k2 < n) (hn : k0 + n = m.length) (hc : m.length < capX) (hkk : k < m.length) (ep : m[k0 + k2]? = some p) (eq : m[k0 + (k2 - 1)]? = some q) (hpq : p = q) :
    ∃ t' H', CodeX EE M24 (FR t) H .normal (FR t') H' ∧ HI H0 H' B rt (cel m ++ rest) ∧ ev EE (FR t') (.tmp 0) = some (slB B 0 m.length) ∧ ev EE (FR t') (.tmp 3) = some (goInt (k : Nat)) ∧ ev EE (FR t') (.tmp 4) = some (slB B (0 + k0 * 2) n) ∧ ev EE (FR t') (.tmp 5) = some (goInt (k2 + 1 : Nat)) := by
  refine ⟨?tt, ?HH, CodeX.seq (fr1 := FR ?f1) (H1 := H) (CodeX.seq (fr1 := FR ?f0) (H1 := H) ?a ?b) (CodeX.seq (fr1 := FR ?f2) (H1 := ?H2) (CodeX.block ?c (by simp)) ?d), ?hh, ?e0, ?e3, ?e4, ?e5⟩
  case a =>
    refine CodeX.region he ?_
    refine kk_op (.of_val (Nat.le_refl _) (ax_move rfl (h5))) rfl rfl rfl ?_
    refine kk_op (.of_val (Nat.le_refl _) (ax_move rfl (ax_ge (by decide) (h4)))) rfl rfl rfl ?_
    refine kk_op (.of_val (Nat.le_refl _) (ax_sln sl25 rfl rfl rfl (evs1 (ax_gs)))) rfl rfl rfl ?_
    refine kk_op (.of_val (Nat.le_refl _) (ax_bin rfl (ax_ge (by decide) (ax_ge (by decide) (ax_gs))) (ax_gs) (bi_ltT hk2))) rfl rfl rfl ?_
    exact .nil
  case b =>
    refine CodeX.condT he (ax_gs) ?_
    exact CodeX.skip
  case c =>
    refine CodeX.seq (fr1 := FR ?g1) (H1 := itK H 10) ?x ?y
    case x =>
      refine CodeX.region he ?_
      refine kk_dr (H := H) (k := 0) (ax_move rfl (ax_ge (by decide) (ax_ge (by decide) (ax_ge (by decide) (ax_ge (by decide) (h4)))))) rfl rfl rfl ?_
      refine kk_dr (H := H) (k := 1) (ax_move rfl (ax_ge (by decide) (ax_ge (by decide) (ax_ge (by decide) (ax_ge (by decide) (ax_ge (by decide) (h5))))))) rfl rfl rfl ?_
      refine kk_dr (H := H) (k := 2) (ax_idx el25 rfl (ax_ge (by decide) (ax_gs)) (ax_gs) hk2) rfl rfl rfl ?_
      refine kk_dr (H := H) (k := 3) (ld50 rfl (ax_gs) (gK (k := 3) hH.b) (cel_at ep (by omega))) rfl rfl rfl ?_
      refine kk_dr (H := H) (k := 4) (ax_move rfl (ax_ge (by decide) (ax_ge (by decide) (ax_ge (by decide) (ax_ge (by decide) (ax_ge (by decide) (ax_ge (by decide) (ax_ge (by decide) (ax_ge (by decide) (h4)))))))))) rfl rfl rfl ?_
      refine kk_dr (H := H) (k := 5) (ax_move rfl (ax_ge (by decide) (ax_ge (by decide) (ax_ge (by decide) (ax_ge (by decide) (ax_ge (by decide) (ax_ge (by decide) (ax_ge (by decide) (ax_ge (by decide) (ax_ge (by decide) (h5))))))))))) rfl rfl rfl ?_
      refine kk_dr (H := H) (k := 6) (ax_bin rfl (ax_gs) rfl (bi_sub (b := 1) h1 (by omega))) rfl rfl rfl ?_
      refine kk_dr (H := H) (k := 7) (ax_idx el25 rfl (ax_ge (by decide) (ax_ge (by decide) (ax_gs))) (ax_gs) (by omega)) rfl rfl rfl ?_
      refine kk_dr (H := H) (k := 8) (ld50 rfl (ax_gs) (gK (k := 8) hH.b) (cel_at eq (by omega))) rfl rfl rfl ?_
      refine kk_dr (H := H) (k := 9) (ax_bin rfl (ax_ge (by decide) (ax_ge (by decide) (ax_ge (by decide) (ax_ge (by decide) (ax_ge (by decide) (ax_gs)))))) (ax_gs) (neF hpq)) rfl rfl rfl ?_
      exact .nil
    case y =>
      refine CodeX.condF he (ax_gs) ?_
      exact CodeX.skip
  case d =>
    refine CodeX.region he ?_
    refine kk_op (.of_val (Nat.le_refl _) (ax_move rfl (ax_ge (by decide) (ax_ge (by decide) (ax_ge (by decide) (ax_ge (by decide) (ax_ge (by decide) (ax_ge (by decide) (ax_ge (by decide) (ax_ge (by decide) (ax_ge (by decide) (ax_ge (by decide) (ax_ge (by decide) (ax_ge (by decide) (ax_ge (by decide) (ax_ge (by decide) (h5))))))))))))))))) rfl rfl rfl ?_
    refine kk_op (.of_val (Nat.le_refl _) (ax_bin rfl (ax_gs) rfl (bi_add (by omega)))) rfl rfl rfl ?_
    refine kk_op (.of_val (Nat.le_refl _) (ax_assign rfl (ax_gs))) rfl rfl rfl ?_
    exact .nil
  case hh => exact hH.it 10
  case e0 => exact ax_ge (by decide) (ax_ge (by decide) (ax_ge (by decide) (ax_ge (by decide) (ax_ge (by decide) (ax_ge (by decide) (ax_ge (by decide) (ax_ge (by decide) (ax_ge (by decide) (ax_ge (by decide) (ax_ge (by decide) (ax_ge (by decide) (ax_ge (by decide) (ax_ge (by decide) (ax_ge (by decide) (ax_ge (by decide) (ax_ge (by decide) (h0)))))))))))))))))
  case e3 => exact ax_ge (by decide) (ax_ge (by decide) (ax_ge (by decide) (ax_ge (by decide) (ax_ge (by decide) (ax_ge (by decide) (ax_ge (by decide) (ax_ge (by decide) (ax_ge (by decide) (ax_ge (by decide) (ax_ge (by decide) (ax_ge (by decide) (ax_ge (by decide) (ax_ge (by decide) (ax_ge (by decide) (ax_ge (by decide) (ax_ge (by decide) (h3)))))))))))))))))
  case e4 => exact ax_ge (by decide) (ax_ge (by decide) (ax_ge (by decide) (ax_ge (by decide) (ax_ge (by decide) (ax_ge (by decide) (ax_ge (by decide) (ax_ge (by decide) (ax_ge (by decide) (ax_ge (by decide) (ax_ge (by decide) (ax_ge (by decide) (ax_ge (by decide) (ax_ge (by decide) (ax_ge (by decide) (ax_ge (by decide) (ax_ge (by decide) (h4)))))))))))))))))
  case e5 => exact ax_gs
theorem m_ne {p q : Pr} (hH : HI H0 H B rt (cel m ++ rest)) (h0 : ev EE (FR t) (.tmp 0) = some (slB B 0 m.length)) (h3 : ev EE (FR t) (.tmp 3) = some (goInt k)) (h4 : ev EE (FR t) (.tmp 4) = some (slB B (0 + k0 * 2) n)) (h5 : ev EE (FR t) (.tmp 5) = some (goInt k2))
    (h1 : 1 ≤ k2) (hk2 : k2 < n) (hn : k0 + n = m.length) (hc : m.length < capX) (hkk : k < m.length) (ep : m[k0 + k2]? = some p) (eq : m[k0 + (k2 - 1)]? = some q) (hpq : ¬ p = q) :
    ∃ t' H', CodeX EE M24 (FR t) H .normal (FR t') H' ∧ HI H0 H' B rt (cel (m.set k p) ++ rest) ∧ ev EE (FR t') (.tmp 0) = some (slB B 0 m.length) ∧ ev EE (FR t') (.tmp 3) = some (goInt (k + 1 : Nat)) ∧ ev EE (FR t') (.tmp 4) = some (slB B (0 + k0 * 2) n) ∧ ev EE (FR t') (.tmp 5) = some (goInt (k2 + 1 : Nat)) := by
  refine ⟨?tt, ?HH, CodeX.seq (fr1 := FR ?f1) (H1 := H) (CodeX.seq (fr1 := FR ?f0) (H1 := H) ?a ?b) (CodeX.seq (fr1 := FR ?f2) (H1 := ?H2) (CodeX.block ?c (by simp)) ?d), ?hh, ?e0, ?e3, ?e4, ?e5⟩
  case a =>
    refine CodeX.region he ?_
    refine kk_op (.of_val (Nat.le_refl _) (ax_move rfl (h5))) rfl rfl rfl ?_
    refine kk_op (.of_val (Nat.le_refl _) (ax_move rfl (ax_ge (by decide) (h4)))) rfl rfl rfl ?_
    refine kk_op (.of_val (Nat.le_refl _) (ax_sln sl25 rfl rfl rfl (evs1 (ax_gs)))) rfl rfl rfl ?_
    refine kk_op (.of_val (Nat.le_refl _) (ax_bin rfl (ax_ge (by decide) (ax_ge (by decide) (ax_gs))) (ax_gs) (bi_ltT hk2))) rfl rfl rfl ?_
    exact .nil
  case b =>
    refine CodeX.condT he (ax_gs) ?_
    exact CodeX.skip
  case c =>
    refine CodeX.seq (fr1 := FR ?g1) (H1 := itK H 10) ?x ?y
    case x =>
      refine CodeX.region he ?_
      refine kk_dr (H := H) (k := 0) (ax_move rfl (ax_ge (by decide) (ax_ge (by decide) (ax_ge (by decide) (ax_ge (by decide) (h4)))))) rfl rfl rfl ?_
      refine kk_dr (H := H) (k := 1) (ax_move rfl (ax_ge (by decide) (ax_ge (by decide) (ax_ge (by decide) (ax_ge (by decide) (ax_ge (by decide) (h5))))))) rfl rfl rfl ?_
      refine kk_dr (H := H) (k := 2) (ax_idx el25 rfl (ax_ge (by decide) (ax_gs)) (ax_gs) hk2) rfl rfl rfl ?_
      refine kk_dr (H := H) (k := 3) (ld50 rfl (ax_gs) (gK (k := 3) hH.b) (cel_at ep (by omega))) rfl rfl rfl ?_
      refine kk_dr (H := H) (k := 4) (ax_move rfl (ax_ge (by decide) (ax_ge (by decide) (ax_ge (by decide) (ax_ge (by decide) (ax_ge (by decide) (ax_ge (by decide) (ax_ge (by decide) (ax_ge (by decide) (h4)))))))))) rfl rfl rfl ?_
      refine kk_dr (H := H) (k := 5) (ax_move rfl (ax_ge (by decide) (ax_ge (by decide) (ax_ge (by decide) (ax_ge (by decide) (ax_ge (by decide) (ax_ge (by decide) (ax_ge (by decide) (ax_ge (by decide) (ax_ge (by decide) (h5))))))))))) rfl rfl rfl ?_
      refine kk_dr (H := H) (k := 6) (ax_bin rfl (ax_gs) rfl (bi_sub (b := 1) h1 (by omega))) rfl rfl rfl ?_
      refine kk_dr (H := H) (k := 7) (ax_idx el25 rfl (ax_ge (by decide) (ax_ge (by decide) (ax_gs))) (ax_gs) (by omega)) rfl rfl rfl ?_
      refine kk_dr (H := H) (k := 8) (ld50 rfl (ax_gs) (gK (k := 8) hH.b) (cel_at eq (by omega))) rfl rfl rfl ?_
      refine kk_dr (H := H) (k := 9) (ax_bin rfl (ax_ge (by decide) (ax_ge (by decide) (ax_ge (by decide) (ax_ge (by decide) (ax_ge (by decide) (ax_gs)))))) (ax_gs) (neT hpq)) rfl rfl rfl ?_
      exact .nil
    case y =>
      refine CodeX.condT he (ax_gs) ?_
      refine CodeX.seq (fr1 := FR ?g2) (H1 := ?H3) ?u ?v
      case u =>
        refine CodeX.region he ?_
        refine kk_op (.of_val (Nat.le_refl _) (ax_move rfl (ax_ge (by decide) (ax_ge (by decide) (ax_ge (by decide) (ax_ge (by decide) (ax_ge (by decide) (ax_ge (by decide) (ax_ge (by decide) (ax_ge (by decide) (ax_ge (by decide) (ax_ge (by decide) (ax_ge (by decide) (ax_ge (by decide) (ax_ge (by decide) (ax_ge (by decide) (h0))))))))))))))))) rfl rfl rfl ?_
        refine kk_op (.of_val (Nat.le_refl _) (ax_move rfl (ax_ge (by decide) (ax_ge (by decide) (ax_ge (by decide) (ax_ge (by decide) (ax_ge (by decide) (ax_ge (by decide) (ax_ge (by decide) (ax_ge (by decide) (ax_ge (by decide) (ax_ge (by decide) (ax_ge (by decide) (ax_ge (by decide) (ax_ge (by decide) (ax_ge (by decide) (ax_ge (by decide) (h3)))))))))))))))))) rfl rfl rfl ?_
        refine kk_op (.of_val (Nat.le_refl _) (ax_move rfl (ax_ge (by decide) (ax_ge (by decide) (ax_ge (by decide) (ax_ge (by decide) (ax_ge (by decide) (ax_ge (by decide) (ax_ge (by decide) (ax_ge (by decide) (ax_ge (by decide) (ax_ge (by decide) (ax_ge (by decide) (ax_ge (by decide) (ax_ge (by decide) (ax_ge (by decide) (ax_ge (by decide) (ax_ge (by decide) (h4))))))))))))))))))) rfl rfl rfl ?_
        refine kk_op (.of_val (Nat.le_refl _) (ax_move rfl (ax_ge (by decide) (ax_ge (by decide) (ax_ge (by decide) (ax_ge (by decide) (ax_ge (by decide) (ax_ge (by decide) (ax_ge (by decide) (ax_ge (by decide) (ax_ge (by decide) (ax_ge (by decide) (ax_ge (by decide) (ax_ge (by decide) (ax_ge (by decide) (ax_ge (by decide) (ax_ge (by decide) (ax_ge (by decide) (ax_ge (by decide) (h5)))))))))))))))))))) rfl rfl rfl ?_
        refine kk_op (.of_val (Nat.le_refl _) (ax_idx el25 rfl (ax_ge (by decide) (ax_gs)) (ax_gs) hk2)) rfl rfl rfl ?_
        refine kk_op (.of_val (Nat.le_refl _) (ld50 rfl (ax_gs) (hH.it 10).b (cel_at ep (by omega)))) rfl rfl rfl ?_
        refine kk_op (.of_val (Nat.le_refl _) (ax_idx el25 rfl (ax_ge (by decide) (ax_ge (by decide) (ax_ge (by decide) (ax_ge (by decide) (ax_ge (by decide) (ax_gs)))))) (ax_ge (by decide) (ax_ge (by decide) (ax_ge (by decide) (ax_ge (by decide) (ax_gs))))) hkk)) rfl rfl rfl ?_
        refine kk_st (kof_write (st50' (rfl : (cel1 p).length = 2) rfl (ax_gs) (ax_ge (by decide) (ax_gs)) (hH.it 10).b (cel_set hkk (by omega)))) rfl rfl ?_
        exact .nil
      case v =>
        refine CodeX.region he ?_
        refine kk_op (.of_val (Nat.le_refl _) (ax_move rfl (ax_ge (by decide) (ax_ge (by decide) (ax_ge (by decide) (ax_ge (by decide) (ax_ge (by decide) (ax_ge (by decide) (ax_ge (by decide) (ax_ge (by decide) (ax_ge (by decide) (ax_ge (by decide) (ax_ge (by decide) (ax_ge (by decide) (ax_ge (by decide) (ax_ge (by decide) (ax_ge (by decide) (ax_ge (by decide) (ax_ge (by decide) (ax_ge (by decide) (ax_ge (by decide) (ax_ge (by decide) (ax_ge (by decide) (h3)))))))))))))))))))))))) rfl rfl rfl ?_
        refine kk_op (.of_val (Nat.le_refl _) (ax_bin rfl (ax_gs) rfl (bi_add (by omega)))) rfl rfl rfl ?_
        refine kk_op (.of_val (Nat.le_refl _) (ax_assign rfl (ax_gs))) rfl rfl rfl ?_
        exact .nil
  case d =>
    refine CodeX.region he ?_
    refine kk_op (.of_val (Nat.le_refl _) (ax_move rfl (ax_ge (by decide) (ax_ge (by decide) (ax_ge (by decide) (ax_ge (by decide) (ax_ge (by decide) (ax_ge (by decide) (ax_ge (by decide) (ax_ge (by decide) (ax_ge (by decide) (ax_ge (by decide) (ax_ge (by decide) (ax_ge (by decide) (ax_ge (by decide) (ax_ge (by decide) (ax_ge (by decide) (ax_ge (by decide) (ax_ge (by decide) (ax_ge (by decide) (ax_ge (by decide) (ax_ge (by decide) (ax_ge (by decide) (ax_ge (by decide) (ax_ge (by decide) (ax_ge (by decide) (h5))))))))))))))))))))))))))) rfl rfl rfl ?_
    refine kk_op (.of_val (Nat.le_refl _) (ax_bin rfl (ax_gs) rfl (bi_add (by omega)))) rfl rfl rfl ?_
    refine kk_op (.of_val (Nat.le_refl _) (ax_assign rfl (ax_gs))) rfl rfl rfl ?_
    exact .nil
  case hh => exact (hH.it 10).wr
  case e0 => exact ax_ge (by decide) (ax_ge (by decide) (ax_ge (by decide) (ax_ge (by decide) (ax_ge (by decide) (ax_ge (by decide) (ax_ge (by decide) (ax_ge (by decide) (ax_ge (by decide) (ax_ge (by decide) (ax_ge (by decide) (ax_ge (by decide) (ax_ge (by decide) (ax_ge (by decide) (ax_ge (by decide) (ax_ge (by decide) (ax_ge (by decide) (ax_ge (by decide) (ax_ge (by decide) (ax_ge (by decide) (ax_ge (by decide) (ax_ge (by decide) (ax_ge (by decide) (ax_ge (by decide) (ax_ge (by decide) (ax_ge (by decide) (ax_ge (by decide) (h0)))))))))))))))))))))))))))
  case e3 => exact ax_ge (by decide) (ax_ge (by decide) (ax_ge (by decide) (ax_gs)))
  case e4 => exact ax_ge (by decide) (ax_ge (by decide) (ax_ge (by decide) (ax_ge (by decide) (ax_ge (by decide) (ax_ge (by decide) (ax_ge (by decide) (ax_ge (by decide) (ax_ge (by decide) (ax_ge (by decide) (ax_ge (by decide) (ax_ge (by decide) (ax_ge (by decide) (ax_ge (by decide) (ax_ge (by decide) (ax_ge (by decide) (ax_ge (by decide) (ax_ge (by decide) (ax_ge (by decide) (ax_ge (by decide) (ax_ge (by decide) (ax_ge (by decide) (ax_ge (by decide) (ax_ge (by decide) (ax_ge (by decide) (ax_ge (by decide) (ax_ge (by decide) (h4)))))))))))))))))))))))))))
  case e5 => exact ax_gs
theorem l_exit (h0 : ev EE (FR t) (.tmp 0) = some (slB B 0 n)) (h3 : ev EE (FR t) (.tmp 3) = some (goInt k)) (hk : n ≤ k) : ∃ t', CodeX EE L24 (FR t) H (.exit 0) (FR t') H ∧ ev EE (FR t') (.tmp 0) = some (slB B 0 n) := by
  refine ⟨?tt, CodeX.seqOut (CodeX.seq (fr1 := FR ?f) (H1 := H) ?a ?b) (by simp), ?e0⟩
  case a =>
    refine CodeX.region he ?_
    refine kk_op (.of_val (Nat.le_refl _) (ax_move rfl (h3))) rfl rfl rfl ?_
    refine kk_op (.of_val (Nat.le_refl _) (ax_move rfl (ax_ge (by decide) (h0)))) rfl rfl rfl ?_
    refine kk_op (.of_val (Nat.le_refl _) (ax_sln sl25 rfl rfl rfl (evs1 (ax_gs)))) rfl rfl rfl ?_
    refine kk_op (.of_val (Nat.le_refl _) (ax_bin rfl (ax_ge (by decide) (ax_ge (by decide) (ax_gs))) (ax_gs) (bi_ltF hk))) rfl rfl rfl ?_
    exact .nil
  case b =>
    refine CodeX.condF he (ax_gs) ?_
    exact CodeX.exit
  case e0 => exact ax_ge (by decide) (ax_ge (by decide) (ax_ge (by decide) (ax_ge (by decide) (h0))))
theorem l_ne {p q : Pr} (hH : HI H0 H B rt (cel m ++ rest)) (h0 : ev EE (FR t) (.tmp 0) = some (slB B 0 m.length)) (h3 : ev EE (FR t) (.tmp 3) = some (goInt k)) (h1 : 1 ≤ k) (hk : k < m.length) (hc : m.length < capX) (ep : m[k]? = some p) (eq : m[k - 1]? = some q) (hpq : ¬ p = q) :
    ∃ t' H', CodeX EE L24 (FR t) H .normal (FR t') H' ∧ HI H0 H' B rt (cel m ++ rest) ∧ ev EE (FR t') (.tmp 0) = some (slB B 0 m.length) ∧ ev EE (FR t') (.tmp 3) = some (goInt (k + 1 : Nat)) := by
  refine ⟨?tt, ?HH, CodeX.seq (fr1 := FR ?f1) (H1 := H) (CodeX.seq (fr1 := FR ?f0) (H1 := H) ?a ?b) (CodeX.seq (fr1 := FR ?f2) (H1 := itK H 10) (CodeX.block ?c (by simp)) ?d), ?hh, ?e0, ?e3⟩
  case a =>
    refine CodeX.region he ?_
    refine kk_op (.of_val (Nat.le_refl _) (ax_move rfl (h3))) rfl rfl rfl ?_
    refine kk_op (.of_val (Nat.le_refl _) (ax_move rfl (ax_ge (by decide) (h0)))) rfl rfl rfl ?_
    refine kk_op (.of_val (Nat.le_refl _) (ax_sln sl25 rfl rfl rfl (evs1 (ax_gs)))) rfl rfl rfl ?_
    refine kk_op (.of_val (Nat.le_refl _) (ax_bin rfl (ax_ge (by decide) (ax_ge (by decide) (ax_gs))) (ax_gs) (bi_ltT hk))) rfl rfl rfl ?_
    exact .nil
  case b =>
    refine CodeX.condT he (ax_gs) ?_
    exact CodeX.skip
  case c =>
    refine CodeX.seq (fr1 := FR ?g1) (H1 := itK H 10) ?x ?y
    case x =>
      refine CodeX.region he ?_
      refine kk_dr (H := H) (k := 0) (ax_move rfl (ax_ge (by decide) (ax_ge (by decide) (ax_ge (by decide) (ax_ge (by decide) (h0)))))) rfl rfl rfl ?_
      refine kk_dr (H := H) (k := 1) (ax_move rfl (ax_ge (by decide) (ax_ge (by decide) (ax_ge (by decide) (ax_ge (by decide) (ax_ge (by decide) (h3))))))) rfl rfl rfl ?_
      refine kk_dr (H := H) (k := 2) (ax_idx el25 rfl (ax_ge (by decide) (ax_gs)) (ax_gs) hk) rfl rfl rfl ?_
      refine kk_dr (H := H) (k := 3) (ld50 rfl (ax_gs) (gK (k := 3) hH.b) (cel_at ep (by omega))) rfl rfl rfl ?_
      refine kk_dr (H := H) (k := 4) (ax_move rfl (ax_ge (by decide) (ax_ge (by decide) (ax_ge (by decide) (ax_ge (by decide) (ax_ge (by decide) (ax_ge (by decide) (ax_ge (by decide) (ax_ge (by decide) (h0)))))))))) rfl rfl rfl ?_
      refine kk_dr (H := H) (k := 5) (ax_move rfl (ax_ge (by decide) (ax_ge (by decide) (ax_ge (by decide) (ax_ge (by decide) (ax_ge (by decide) (ax_ge (by decide) (ax_ge (by decide) (ax_ge (by decide) (ax_ge (by decide) (h3))))))))))) rfl rfl rfl ?_
      refine kk_dr (H := H) (k := 6) (ax_bin rfl (ax_gs) rfl (bi_sub (b := 1) h1 (by omega))) rfl rfl rfl ?_
      refine kk_dr (H := H) (k := 7) (ax_idx el25 rfl (ax_ge (by decide) (ax_ge (by decide) (ax_gs))) (ax_gs) (by omega)) rfl rfl rfl ?_
      refine kk_dr (H := H) (k := 8) (ld50 rfl (ax_gs) (gK (k := 8) hH.b) (cel_at eq (by omega))) rfl rfl rfl ?_
      refine kk_dr (H := H) (k := 9) (ax_bin rfl (ax_ge (by decide) (ax_ge (by decide) (ax_ge (by decide) (ax_ge (by decide) (ax_ge (by decide) (ax_gs)))))) (ax_gs) (eqF hpq)) rfl rfl rfl ?_
      exact .nil
    case y =>
      refine CodeX.condF he (ax_gs) ?_
      exact CodeX.skip
  case d =>
    refine CodeX.region he ?_
    refine kk_op (.of_val (Nat.le_refl _) (ax_move rfl (ax_ge (by decide) (ax_ge (by decide) (ax_ge (by decide) (ax_ge (by decide) (ax_ge (by decide) (ax_ge (by decide) (ax_ge (by decide) (ax_ge (by decide) (ax_ge (by decide) (ax_ge (by decide) (ax_ge (by decide) (ax_ge (by decide) (ax_ge (by decide) (ax_ge (by decide) (h3))))))))))))))))) rfl rfl rfl ?_
    refine kk_op (.of_val (Nat.le_refl _) (ax_bin rfl (ax_gs) rfl (bi_add (by omega)))) rfl rfl rfl ?_
    refine kk_op (.of_val (Nat.le_refl _) (ax_assign rfl (ax_gs))) rfl rfl rfl ?_
    exact .nil
  case hh => exact hH.it 10
  case e0 => exact ax_ge (by decide) (ax_ge (by decide) (ax_ge (by decide) (ax_ge (by decide) (ax_ge (by decide) (ax_ge (by decide) (ax_ge (by decide) (ax_ge (by decide) (ax_ge (by decide) (ax_ge (by decide) (ax_ge (by decide) (ax_ge (by decide) (ax_ge (by decide) (ax_ge (by decide) (ax_ge (by decide) (ax_ge (by decide) (ax_ge (by decide) (h0)))))))))))))))))
  case e3 => exact ax_gs
theorem l_up {p q : Pr} (hH : HI H0 H B rt (cel m ++ rest)) (h0 : ev EE (FR t) (.tmp 0) = some (slB B 0 m.length)) (h3 : ev EE (FR t) (.tmp 3) = some (goInt k)) (h1 : 1 ≤ k) (hk : k < m.length) (hc : m.length < capX) (ep : m[k]? = some p) (eq : m[k - 1]? = some q) (hpq : p = q) :
    ∃ t1, ev EE (FR t1) (.tmp 0) = some (slB B 0 m.length) ∧ ev EE (FR t1) (.tmp 3) = some (goInt k) ∧ ∀ t' H', CodeX EE F24 (FR t1) (itK H 10) .ret (FR t') H' → CodeX EE L24 (FR t) H .ret (FR t') H' := by
  refine ⟨?tt, ?e0, ?e3, fun t' H' hF => CodeX.seq (fr1 := FR ?f1) (H1 := H) (CodeX.seq (fr1 := FR ?f0) (H1 := H) ?a ?b) (CodeX.seqOut (CodeX.block (CodeX.seq (fr1 := FR ?f2) (H1 := itK H 10) ?x ?y) (by simp)) (by simp))⟩
  case a =>
    refine CodeX.region he ?_
    refine kk_op (.of_val (Nat.le_refl _) (ax_move rfl (h3))) rfl rfl rfl ?_
    refine kk_op (.of_val (Nat.le_refl _) (ax_move rfl (ax_ge (by decide) (h0)))) rfl rfl rfl ?_
    refine kk_op (.of_val (Nat.le_refl _) (ax_sln sl25 rfl rfl rfl (evs1 (ax_gs)))) rfl rfl rfl ?_
    refine kk_op (.of_val (Nat.le_refl _) (ax_bin rfl (ax_ge (by decide) (ax_ge (by decide) (ax_gs))) (ax_gs) (bi_ltT hk))) rfl rfl rfl ?_
    exact .nil
  case b =>
    refine CodeX.condT he (ax_gs) ?_
    exact CodeX.skip
  case x =>
    refine CodeX.region he ?_
    refine kk_dr (H := H) (k := 0) (ax_move rfl (ax_ge (by decide) (ax_ge (by decide) (ax_ge (by decide) (ax_ge (by decide) (h0)))))) rfl rfl rfl ?_
    refine kk_dr (H := H) (k := 1) (ax_move rfl (ax_ge (by decide) (ax_ge (by decide) (ax_ge (by decide) (ax_ge (by decide) (ax_ge (by decide) (h3))))))) rfl rfl rfl ?_
    refine kk_dr (H := H) (k := 2) (ax_idx el25 rfl (ax_ge (by decide) (ax_gs)) (ax_gs) hk) rfl rfl rfl ?_
    refine kk_dr (H := H) (k := 3) (ld50 rfl (ax_gs) (gK (k := 3) hH.b) (cel_at ep (by omega))) rfl rfl rfl ?_
    refine kk_dr (H := H) (k := 4) (ax_move rfl (ax_ge (by decide) (ax_ge (by decide) (ax_ge (by decide) (ax_ge (by decide) (ax_ge (by decide) (ax_ge (by decide) (ax_ge (by decide) (ax_ge (by decide) (h0)))))))))) rfl rfl rfl ?_
    refine kk_dr (H := H) (k := 5) (ax_move rfl (ax_ge (by decide) (ax_ge (by decide) (ax_ge (by decide) (ax_ge (by decide) (ax_ge (by decide) (ax_ge (by decide) (ax_ge (by decide) (ax_ge (by decide) (ax_ge (by decide) (h3))))))))))) rfl rfl rfl ?_
    refine kk_dr (H := H) (k := 6) (ax_bin rfl (ax_gs) rfl (bi_sub (b := 1) h1 (by omega))) rfl rfl rfl ?_
    refine kk_dr (H := H) (k := 7) (ax_idx el25 rfl (ax_ge (by decide) (ax_ge (by decide) (ax_gs))) (ax_gs) (by omega)) rfl rfl rfl ?_
    refine kk_dr (H := H) (k := 8) (ld50 rfl (ax_gs) (gK (k := 8) hH.b) (cel_at eq (by omega))) rfl rfl rfl ?_
    refine kk_dr (H := H) (k := 9) (ax_bin rfl (ax_ge (by decide) (ax_ge (by decide) (ax_ge (by decide) (ax_ge (by decide) (ax_ge (by decide) (ax_gs)))))) (ax_gs) (eqT hpq)) rfl rfl rfl ?_
    exact .nil
  case y =>
    refine CodeX.condT he (ax_gs) ?_
    exact hF
  case e0 => exact ax_ge (by decide) (ax_ge (by decide) (ax_ge (by decide) (ax_ge (by decide) (ax_ge (by decide) (ax_ge (by decide) (ax_ge (by decide) (ax_ge (by decide) (ax_ge (by decide) (ax_ge (by decide) (ax_ge (by decide) (ax_ge (by decide) (ax_ge (by decide) (ax_ge (by decide) (h0))))))))))))))
  case e3 => exact ax_ge (by decide) (ax_ge (by decide) (ax_ge (by decide) (ax_ge (by decide) (ax_ge (by decide) (ax_ge (by decide) (ax_ge (by decide) (ax_ge (by decide) (ax_ge (by decide) (ax_ge (by decide) (ax_ge (by decide) (ax_ge (by decide) (ax_ge (by decide) (ax_ge (by decide) (h3))))))))))))))
noncomputable def P24 : Code := cs_r (cs_r F24)
theorem kof_wv {fr : Fr} {o : Oper} {v : Value} {b : Nat} {kb : ABlk} {x : AObj} (h : aop EE fr o H = some (.val v, H.write b kb x)) : ExecX EE fr o H v (H.write b kb x) := .of_val (Nat.le_refl _) h
theorem z0 {x : Operand} {p : Nat} {fr : Fr} (h : ev EE fr x = some (slB B p n)) (hn : n = 0) : ev EE fr x = some (slB B p 0) := by rw [h, hn]
theorem f_pre (hH : HI H0 H B rt (cel m ++ rest)) (h0 : ev EE (FR t) (.tmp 0) = some (slB B 0 m.length)) (h3 : ev EE (FR t) (.tmp 3) = some (goInt k)) (hk : k ≤ m.length) :
    ∃ t1, ev EE (FR t1) (.tmp 0) = some (slB B 0 m.length) ∧ ev EE (FR t1) (.tmp 3) = some (goInt k) ∧ ev EE (FR t1) (.tmp 4) = some (slB B (0 + k * 2) (m.length - k)) ∧ ev EE (FR t1) (.tmp 5) = some (goInt (1 : Nat)) ∧
      ∀ t2 H2 t3 H3, CodeX EE (.loop M24) (FR t1) H (.exit 2) (FR t2) H2 → CodeX EE P24 (FR t2) H2 .ret (FR t3) H3 → CodeX EE F24 (FR t) H .ret (FR t3) H3 := by
  refine ⟨?tt, ?e0, ?e3, ?e4, ?e5, fun t2 H2 t3 H3 hl hp => CodeX.seq (fr1 := FR ?f1) (H1 := H) ?a (CodeX.seq (fr1 := FR t2) (H1 := H2) (CodeX.seq (fr1 := FR ?f2) (H1 := H) ?b (CodeX.blockExit ?l)) hp)⟩
  case a =>
    refine CodeX.region he ?_
    refine kk_op (.of_val (Nat.le_refl _) (ax_move rfl (h0))) rfl rfl rfl ?_
    refine kk_op (.of_val (Nat.le_refl _) (ax_move rfl (ax_ge (by decide) (h3)))) rfl rfl rfl ?_
    refine kk_op (.of_val (Nat.le_refl _) (ax_slLo el25 rfl (ax_ge (by decide) (ax_gs)) (ax_gs) hk hH.b)) rfl rfl rfl ?_
    refine kk_op (.of_val (Nat.le_refl _) (ax_assign rfl (ax_gs))) rfl rfl rfl ?_
    exact .nil
  case b =>
    refine CodeX.region he ?_
    refine kk_op (.of_val (Nat.le_refl _) (ax_assign rfl rfl)) rfl rfl rfl ?_
    exact .nil
  case l => exact hl
  case e0 => exact ax_ge (by decide) (ax_ge (by decide) (ax_ge (by decide) (ax_ge (by decide) (ax_ge (by decide) (h0)))))
  case e3 => exact ax_ge (by decide) (ax_ge (by decide) (ax_ge (by decide) (ax_ge (by decide) (ax_ge (by decide) (h3)))))
  case e4 => exact ax_ge (by decide) (ax_gs)
  case e5 => exact ax_gs
theorem f_post {kk : Nat} (hH : HI H0 H B rt (cel m ++ rest)) (h0 : ev EE (FR t) (.tmp 0) = some (slB B 0 m.length)) (h3 : ev EE (FR t) (.tmp 3) = some (goInt kk)) (hk : kk ≤ m.length) :
    ∃ t' H' r, CodeX EE P24 (FR t) H .ret (FR t') H' ∧ HI H0 H' B rt r ∧ take? r (kk * 2) = some (cel (m.take kk)) ∧ ev EE (FR t') (.tmp 2) = some (slB B 0 kk) := by
  have hz : (reps [.int .i64 0, .int .i64 0] (m.length - kk) : List Value).length = (m.length - kk) * 2 := by
    generalize m.length - kk = j
    induction j with
    | zero => rfl
    | succ j ih => rw [reps, List.length_append, ih]; show 2 + _ = _; omega
  have hlen : (cel m ++ rest).length = m.length * 2 + rest.length := by rw [List.length_append, cel_len]
  have htk : ∀ {cs : List Value}, (cs.take (kk * 2) = cel (m.take kk)) → kk * 2 ≤ cs.length → take? cs (kk * 2) = some (cel (m.take kk)) := fun h1 h2 => by rw [take_of h2, h1]
  by_cases hn : m.length - kk = 0
  · refine ⟨?tt, H, cel m ++ rest, CodeX.seq (fr1 := FR ?f1) (H1 := H) ?a (CodeX.seq (fr1 := FR ?f2) (H1 := H) ?b ?c), hH, htk ?q1 ?q2, ?e2⟩
    case a =>
      refine CodeX.region he ?_
      refine kk_op (.of_val (Nat.le_refl _) (ax_move rfl (h0))) rfl rfl rfl ?_
      refine kk_op (.of_val (Nat.le_refl _) (ax_move rfl (ax_ge (by decide) (h3)))) rfl rfl rfl ?_
      refine kk_op (.of_val (Nat.le_refl _) (ax_slLo el25 rfl (ax_ge (by decide) (ax_gs)) (ax_gs) hk hH.b)) rfl rfl rfl ?_
      refine kk_st (.of_val (Nat.le_refl _) (ax_clr0 el25 rfl rfl rfl (evs1 (z0 ax_gs hn)))) rfl rfl ?_
      exact .nil
    case b =>
      refine CodeX.region he ?_
      refine kk_op (.of_val (Nat.le_refl _) (ax_move rfl (ax_ge (by decide) (ax_ge (by decide) (ax_ge (by decide) (h0)))))) rfl rfl rfl ?_
      refine kk_op (.of_val (Nat.le_refl _) (ax_move rfl (ax_ge (by decide) (ax_ge (by decide) (ax_ge (by decide) (ax_ge (by decide) (h3))))))) rfl rfl rfl ?_
      refine kk_op (.of_val (Nat.le_refl _) (ax_slHi el25 rfl (ax_ge (by decide) (ax_gs)) (ax_gs) hk hH.b)) rfl rfl rfl ?_
      refine kk_op (.of_val (Nat.le_refl _) (ax_assign rfl (ax_gs))) rfl rfl rfl ?_
      exact .nil
    case c => exact CodeX.ret
    case e2 => exact ax_gs
    case q1 => rw [List.take_append_of_le_length (by rw [cel_len]; omega), cel_take]
    case q2 => rw [hlen]; omega
  · have hsp := splice_some (cs := cel m ++ rest) (xs := reps [.int .i64 0, .int .i64 0] (m.length - kk)) (i := 0 + kk * 2) (by rw [hz, hlen]; omega)
    refine ⟨?tu, ?HH, spl (cel m ++ rest) (0 + kk * 2) (reps [.int .i64 0, .int .i64 0] (m.length - kk)), CodeX.seq (fr1 := FR ?f3) (H1 := ?H1) ?a' (CodeX.seq (fr1 := FR ?f4) (H1 := ?H2) ?b' ?c'), ?hh, htk ?q1' ?q2', ?e2'⟩
    case a' =>
      refine CodeX.region he ?_
      refine kk_op (.of_val (Nat.le_refl _) (ax_move rfl (h0))) rfl rfl rfl ?_
      refine kk_op (.of_val (Nat.le_refl _) (ax_move rfl (ax_ge (by decide) (h3)))) rfl rfl rfl ?_
      refine kk_op (.of_val (Nat.le_refl _) (ax_slLo el25 rfl (ax_ge (by decide) (ax_gs)) (ax_gs) hk hH.b)) rfl rfl rfl ?_
      refine kk_st (kof_wv (ax_clr el25 rfl rfl rfl (evs1 (ax_gs)) hn hH.b hsp)) rfl rfl ?_
      exact .nil
    case b' =>
      refine CodeX.region he ?_
      refine kk_op (.of_val (Nat.le_refl _) (ax_move rfl (ax_ge (by decide) (ax_ge (by decide) (ax_ge (by decide) (h0)))))) rfl rfl rfl ?_
      refine kk_op (.of_val (Nat.le_refl _) (ax_move rfl (ax_ge (by decide) (ax_ge (by decide) (ax_ge (by decide) (ax_ge (by decide) (h3))))))) rfl rfl rfl ?_
      refine kk_op (.of_val (Nat.le_refl _) (ax_slHi el25 rfl (ax_ge (by decide) (ax_gs)) (ax_gs) hk hH.wr.b)) rfl rfl rfl ?_
      refine kk_op (.of_val (Nat.le_refl _) (ax_assign rfl (ax_gs))) rfl rfl rfl ?_
      exact .nil
    case c' => exact CodeX.ret
    case e2' => exact ax_gs
    case hh => exact hH.wr
    case q1' =>
      unfold spl
      rw [Nat.zero_add, List.take_append_of_le_length (by rw [List.length_take, hlen]; omega), List.take_take, Nat.min_self, List.take_append_of_le_length (by rw [cel_len]; omega), cel_take]
    case q2' => unfold spl; rw [List.length_append, List.length_take, hlen]; omega
theorem cpN_eq {l : List Pr} {i : Nat} (h : l[i]? = l[i - 1]?) (h0 : i ≠ 0) : cpN l (i + 1) = cpN l i := by rw [cpN, if_pos ⟨h0, h⟩]
theorem cpN_ne {l : List Pr} {i : Nat} {p : Pr} (hp : l[i]? = some p) (h : ¬ l[i]? = l[i - 1]?) : cpN l (i + 1) = cpN l i ++ [p] := by rw [cpN, if_neg (fun q => h q.2), hp]; rfl
theorem m_loop {l : List Pr} : ∀ (d k2 k : Nat) (m : List Pr) (t : T Value) (H : AH), k0 + k2 + d = l.length → 1 ≤ k2 → 1 ≤ k0 → m.length = l.length → l.length < capX → m.drop (k0 + (k2 - 1)) = l.drop (k0 + (k2 - 1)) → m.take k = cpN l (k0 + k2) → k = (cpN l (k0 + k2)).length → k ≤ k0 + (k2 - 1) →
    HI H0 H B rt (cel m ++ rest) → ev EE (FR t) (.tmp 0) = some (slB B 0 m.length) → ev EE (FR t) (.tmp 3) = some (goInt k) → ev EE (FR t) (.tmp 4) = some (slB B (0 + k0 * 2) (l.length - k0)) → ev EE (FR t) (.tmp 5) = some (goInt k2) →
    ∃ t' H' m', CodeX EE (.loop M24) (FR t) H (.exit 2) (FR t') H' ∧ HI H0 H' B rt (cel m' ++ rest) ∧ m'.length = l.length ∧ m'.take (cpt l).length = cpt l ∧ ev EE (FR t') (.tmp 0) = some (slB B 0 m'.length) ∧ ev EE (FR t') (.tmp 3) = some (goInt (cpt l).length)
  | 0, k2, k, m, t, H, hd, h1, h10, hm, hc, hdr, htk, hkk, hkl, hH, g0, g3, g4, g5 => by
    have e : k0 + k2 = l.length := hd
    have hcp : cpN l (k0 + k2) = cpt l := by rw [e]; rfl
    rw [hcp] at htk hkk
    subst hkk
    obtain ⟨t', c1, c0, c3⟩ := m_exit (m := cpt l) (H := H) g4 g5 (by omega) g0 g3
    exact ⟨t', H, m, CodeX.loopOut c1 (by simp), hH, hm, htk, c0, c3⟩
  | d + 1, k2, k, m, t, H, hd, h1, h10, hm, hc, hdr, htk, hkk, hkl, hH, g0, g3, g4, g5 => by
    have hat : ∀ j, k0 + (k2 - 1) ≤ j → m[j]? = l[j]? := fun j hj => by
      have := congrArg (fun x : List Pr => x[j - (k0 + (k2 - 1))]?) hdr
      simp only [List.getElem?_drop] at this
      rwa [show k0 + (k2 - 1) + (j - (k0 + (k2 - 1))) = j by omega] at this
    obtain ⟨p, ep⟩ : ∃ p, l[k0 + k2]? = some p := ⟨_, List.getElem?_eq_getElem (by omega)⟩
    obtain ⟨q, eq⟩ : ∃ q, l[k0 + (k2 - 1)]? = some q := ⟨_, List.getElem?_eq_getElem (by omega)⟩
    have ep' := (hat (k0 + k2) (by omega)).trans ep
    have eq' := (hat (k0 + (k2 - 1)) (Nat.le_refl _)).trans eq
    have hprev : k0 + k2 - 1 = k0 + (k2 - 1) := by omega
    by_cases hpq : p = q
    · obtain ⟨t1, H1, c1, hH1, b0, b3, b4, b5⟩ := m_eq hH g0 g3 g4 g5 h1 (by omega) (by omega) (by omega) (by omega) ep' eq' hpq
      have hs : cpN l (k0 + (k2 + 1)) = cpN l (k0 + k2) := cpN_eq (i := k0 + k2) (by rw [ep, hprev, eq, hpq]) (by omega)
      obtain ⟨t', H', m', c2, r⟩ := m_loop d (k2 + 1) k m t1 H1 (by omega) (by omega) h10 hm hc (by
          have := congrArg (List.drop 1) hdr
          simp only [List.drop_drop] at this
          rwa [show k0 + (k2 - 1) + 1 = k0 + (k2 + 1 - 1) by omega] at this) (by rw [hs]; exact htk) (by rw [hs]; exact hkk) (by omega) hH1 b0 b3 b4 b5
      exact ⟨t', H', m', CodeX.loop c1 c2, r⟩
    · obtain ⟨t1, H1, c1, hH1, b0, b3, b4, b5⟩ := m_ne hH g0 g3 g4 g5 h1 (by omega) (by omega) (by omega) (by omega) ep' eq' hpq
      have hs : cpN l (k0 + (k2 + 1)) = cpN l (k0 + k2) ++ [p] := cpN_ne (i := k0 + k2) ep (by rw [ep, hprev, eq]; exact fun e => hpq (Option.some.inj e))
      have hkm : k < m.length := by omega
      obtain ⟨t', H', m', c2, r⟩ := m_loop d (k2 + 1) (k + 1) (m.set k p) t1 H1 (by omega) (by omega) h10 (by rw [List.length_set]; exact hm) hc (by
          have := congrArg (List.drop 1) hdr
          simp only [List.drop_drop] at this
          rw [show k0 + (k2 - 1) + 1 = k0 + (k2 + 1 - 1) by omega] at this
          rw [List.drop_set_of_lt (by omega)]
          exact this) (by
          rw [hs, ← htk, List.take_add_one, List.getElem?_set_self hkm, List.take_set_of_le (Nat.le_refl _)]; rfl) (by rw [hs, List.length_append, ← hkk]; rfl) (by omega) hH1 (by rw [List.length_set]; exact b0) b3 b4 b5
      exact ⟨t', H', m', CodeX.loop c1 c2, r⟩
theorem cp_full {l : List Pr} : ∀ k, (∀ j, 1 ≤ j → j < k → ¬ l[j]? = l[j - 1]?) → k ≤ l.length → cpN l k = l.take k
  | 0, _, _ => by rw [List.take_zero]; rfl
  | k + 1, h, hk => by
    have ih := cp_full k (fun j h1 h2 => h j h1 (by omega)) (by omega)
    obtain ⟨p, ep⟩ : ∃ p, l[k]? = some p := ⟨_, List.getElem?_eq_getElem (by omega)⟩
    rw [List.take_add_one, ep, ← ih]
    by_cases h0 : k = 0
    · subst h0; simp [cpN, ep]
    · exact cpN_ne ep (h k (by omega) (Nat.lt_succ_self _))
theorem l_loop {l : List Pr} : ∀ (d k : Nat) (t : T Value) (H : AH), k + d = l.length → 1 ≤ k → l.length < capX → (∀ j, 1 ≤ j → j < k → ¬ l[j]? = l[j - 1]?) → HI H0 H B rt (cel l ++ rest) → ev EE (FR t) (.tmp 0) = some (slB B 0 l.length) → ev EE (FR t) (.tmp 3) = some (goInt k) →
    (∃ t' H', CodeX EE (.loop L24) (FR t) H (.exit 0) (FR t') H' ∧ HI H0 H' B rt (cel l ++ rest) ∧ cpt l = l ∧ ev EE (FR t') (.tmp 0) = some (slB B 0 l.length)) ∨
    ∃ t' H' r, CodeX EE (.loop L24) (FR t) H .ret (FR t') H' ∧ HI H0 H' B rt r ∧ take? r ((cpt l).length * 2) = some (cel (cpt l)) ∧ ev EE (FR t') (.tmp 2) = some (slB B 0 (cpt l).length)
  | 0, k, t, H, hd, h1, hc, hadj, hH, g0, g3 => by
    have e : k = l.length := hd
    obtain ⟨t', c1, c0⟩ := l_exit (H := H) g0 g3 (by omega)
    refine .inl ⟨t', H, CodeX.loopOut c1 (by simp), hH, ?_, c0⟩
    have := cp_full l.length (fun j a b => hadj j a (by omega)) (Nat.le_refl _)
    rw [List.take_length] at this
    exact this
  | d + 1, k, t, H, hd, h1, hc, hadj, hH, g0, g3 => by
    obtain ⟨p, ep⟩ : ∃ p, l[k]? = some p := ⟨_, List.getElem?_eq_getElem (by omega)⟩
    obtain ⟨q, eq⟩ : ∃ q, l[k - 1]? = some q := ⟨_, List.getElem?_eq_getElem (by omega)⟩
    by_cases hpq : p = q
    · right
      obtain ⟨t1, a0, a3, ha⟩ := l_up hH g0 g3 h1 (by omega) hc ep eq hpq
      obtain ⟨t2, b0, b3, b4, b5, hb⟩ := f_pre (hH.it 10) a0 a3 (by omega)
      have hcp : cpN l (k + 1) = l.take k := by
        rw [cpN_eq (by rw [ep, eq, hpq]) (by omega)]
        exact cp_full k hadj (by omega)
      obtain ⟨t3, H3, m', c3, hH3, d1, d2, d0, d3⟩ := m_loop (k0 := k) (l := l) (l.length - (k + 1)) 1 k l t2 (itK H 10) (by omega) (Nat.le_refl _) h1 rfl hc rfl hcp.symm (by rw [hcp, List.length_take]; omega) (by omega) (hH.it 10) b0 b3 b4 b5
      have hle : (cpt l).length ≤ m'.length := by rw [d1]; exact cpN_len l _
      obtain ⟨t4, H4, r, c4, hH4, e1, e2⟩ := f_post hH3 d0 d3 hle
      rw [d2] at e1
      exact ⟨t4, H4, r, CodeX.loopOut (ha _ _ (hb _ _ _ _ c3 c4)) (by simp), hH4, e1, e2⟩
    · obtain ⟨t1, H1, c1, hH1, b0, b3⟩ := l_ne hH g0 g3 h1 (by omega) hc ep eq hpq
      have hadj' : ∀ j, 1 ≤ j → j < k + 1 → ¬ l[j]? = l[j - 1]? := fun j a b => by
        by_cases hj : j = k
        · subst hj; rw [ep, eq]; exact fun e => hpq (Option.some.inj e)
        · exact hadj j a (by omega)
      rcases l_loop d (k + 1) t1 H1 (by omega) (by omega) hc hadj' hH1 b0 b3 with ⟨t', H', c2, r⟩ | ⟨t', H', r0, c2, r⟩
      · exact .inl ⟨t', H', CodeX.loop c1 c2, r⟩
      · exact .inr ⟨t', H', r0, CodeX.loop c1 c2, r⟩
end
end Go.Proofs.YtbmjdlgfnoaocaaGreat
