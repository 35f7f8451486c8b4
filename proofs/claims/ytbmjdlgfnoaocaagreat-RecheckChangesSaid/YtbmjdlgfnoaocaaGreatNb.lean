/- slices.Compact and slices.Grow, in the seat's program: what they make of lists. Conditions: none. -/
import Derived.Test.YtbmjdlgfnoaocaaGreatNa
set_option linter.unusedVariables false
set_option linter.unusedSimpArgs false
namespace Go.Proofs.YtbmjdlgfnoaocaaGreat
open Go Go.Am Go.Proofs
def P50 : D → Bool
  | .agg [.leaf (.int .i64 _), .leaf (.int .i64 _)] => true
  | _ => false
def prs : D → Pr
  | .agg [.leaf (.int .i64 a), .leaf (.int .i64 b)] => (a, b)
  | _ => (0, 0)
def toP (p : Pr) : D := .agg [dI p.1, dI p.2]
theorem P50_to {e : D} (h : P50 e = true) : e = toP (prs e) := by
  unfold P50 at h
  split at h
  · rfl
  · cases h
theorem flat50 {e : D} (h : P50 e = true) : FlatE 2 e := by
  rw [P50_to h]
  exact ⟨cel1 (prs e), rfl, rfl, fun w hw => by
    rcases List.mem_cons.1 hw with rfl | hw
    · exact ⟨rfl, rfl⟩
    · rw [List.mem_singleton.1 hw]; exact ⟨rfl, rfl⟩⟩
theorem lvs_p : ∀ l : List Pr, lvs (l.map toP) = cel l
  | [] => rfl
  | p :: r => by
    show lvE (toP p) ++ lvs (r.map toP) = cel1 p ++ cel r
    rw [lvs_p r]; rfl
theorem map_p : ∀ {es : List D}, (∀ e ∈ es, P50 e = true) → es = (es.map prs).map toP
  | [], _ => rfl
  | e :: r, h => by
    rw [List.map_cons, List.map_cons, ← map_p fun x hx => h x (List.mem_cons_of_mem _ hx), ← P50_to (h e List.mem_cons_self)]
theorem lvs_es {es : List D} (h : ∀ e ∈ es, P50 e = true) : lvs es = cel (es.map prs) := by
  have := map_p h
  conv => lhs; rw [this]
  exact lvs_p _
def pF (F : List Pr → List Pr) (es : List D) : List D := (F (es.map prs)).map toP
theorem pF_P {F : List Pr → List Pr} {es : List D} : ∀ e ∈ pF F es, P50 e = true := fun e he => by
  obtain ⟨p, _, rfl⟩ := List.mem_map.1 he
  rfl
def C50 : List D → Option D := lstF 50 2 P50 (pF cpt)
section
variable {H : AH} {B rt n : Nat}
theorem c24s {a : Option Addr} {c : Nat} (hn : n < 2) : CallOK EE 24 [.slice a n c] H (.slice a n c) H := by
  refine CodeX.call (fn := Tryz.f24) (c := bodyOf Tryz.f24) (e := .ret) (fr' := ?fr) he x24 rfl ?h (.inr rfl) ?r
  case h =>
    show CodeX EE _ (FR (T.ofList .leaf 0 [.slice a n c])) H _ _ _
    refine CodeX.seq (fr1 := FR ?f1) (H1 := H) ?r0 ?x
    case r0 =>
      refine CodeX.region he ?_
      refine kk_op (.of_val (Nat.le_refl _) (ax_assign rfl rfl)) rfl rfl rfl ?_
      exact .nil
    case x =>
      refine CodeX.seqOut ?y (by simp)
      refine CodeX.seq (fr1 := FR ?f2) (H1 := H) ?r1 ?z
      case r1 =>
        refine CodeX.region he ?_
        refine kk_op (.of_val (Nat.le_refl _) (ax_move rfl (ax_ge (by decide) ((rfl : ev EE (FR (T.ofList .leaf 0 [.slice a n c])) (.tmp 0) = some (.slice a n c)))))) rfl rfl rfl ?_
        refine kk_op (.of_val (Nat.le_refl _) (ax_sln sl25 rfl rfl rfl (evs1 (ax_gs)))) rfl rfl rfl ?_
        refine kk_op (.of_val (Nat.le_refl _) (ax_bin rfl (ax_gs) rfl (bi_ltT (b := 2) hn))) rfl rfl rfl ?_
        exact .nil
      case z =>
        refine CodeX.condT he (ax_gs) ?_
        refine CodeX.seq (fr1 := FR ?f3) (H1 := H) ?r2 ?q
        case r2 =>
          refine CodeX.region he ?_
          refine kk_op (.of_val (Nat.le_refl _) (ax_move rfl (ax_ge (by decide) (ax_ge (by decide) (ax_ge (by decide) (ax_ge (by decide) ((rfl : ev EE (FR (T.ofList .leaf 0 [.slice a n c])) (.tmp 0) = some (.slice a n c))))))))) rfl rfl rfl ?_
          refine kk_op (.of_val (Nat.le_refl _) (ax_assign rfl (ax_gs))) rfl rfl rfl ?_
          exact .nil
        case q => exact CodeX.ret
  case r => rfl
theorem c24l {l : List Pr} {cs : List Value} (hb : H.blocks.get B = some ⟨.cells cs 50, rt, true⟩) (ht : take? cs (l.length * 2) = some (cel l)) (hn : 2 ≤ l.length) (hc : l.length < capX) :
    ∃ r H', CallOK EE 24 [slB B 0 l.length] H (slB B 0 (cpt l).length) H' ∧ HI H H' B rt r ∧ take? r ((cpt l).length * 2) = some (cel (cpt l)) := by
  obtain ⟨t1, t2⟩ := take_some ht
  obtain ⟨rest, rfl⟩ : ∃ rest, cs = cel l ++ rest := ⟨cs.drop (l.length * 2), by rw [t1, List.take_append_drop]⟩
  have hH : HI H H B rt (cel l ++ rest) := ⟨hb, fun _ _ => rfl, rfl, Nat.le_trans (Nat.min_le_left _ _) (Nat.min_le_left _ _)⟩
  obtain ⟨t3, g0, g3, hway⟩ : ∃ t3, ev EE (FR t3) (.tmp 0) = some (slB B 0 l.length) ∧ ev EE (FR t3) (.tmp 3) = some (goInt (1 : Nat)) ∧
      ((∀ t' H', CodeX EE (.loop L24) (FR t3) H .ret (FR t') H' → CodeX EE (bodyOf Tryz.f24) (FR (T.ofList .leaf 0 [slB B 0 l.length])) H .ret (FR t') H') ∧
       (∀ t1 H1 t' H', CodeX EE (.loop L24) (FR t3) H (.exit 0) (FR t1) H1 → CodeX EE (cs_r (cs_r (cs_r (bodyOf Tryz.f24)))) (FR t1) H1 .ret (FR t') H' → CodeX EE (bodyOf Tryz.f24) (FR (T.ofList .leaf 0 [slB B 0 l.length])) H .ret (FR t') H')) := by
    have key : ∃ t3, ev EE (FR t3) (.tmp 0) = some (slB B 0 l.length) ∧ ev EE (FR t3) (.tmp 3) = some (goInt (1 : Nat)) ∧ ∃ t2, CodeX EE (cs_l (bodyOf Tryz.f24)) (FR (T.ofList .leaf 0 [slB B 0 l.length])) H .normal (FR t2) H ∧ ∃ t2', CodeX EE (cs_l (cs_r (bodyOf Tryz.f24))) (FR t2) H .normal (FR t2') H ∧ CodeX EE (cs_l (cs_l (cs_r (cs_r (bodyOf Tryz.f24))))) (FR t2') H .normal (FR t3) H := by
      refine ⟨?tt, ?e0, ?e3, ?t2, ?r0, ?t2', CodeX.seq (fr1 := FR ?f2) (H1 := H) ?r1 ?z, ?r3⟩
      case r0 =>
        refine CodeX.region he ?_
        refine kk_op (.of_val (Nat.le_refl _) (ax_assign rfl rfl)) rfl rfl rfl ?_
        exact .nil
      case r1 =>
        refine CodeX.region he ?_
        refine kk_op (.of_val (Nat.le_refl _) (ax_move rfl (ax_ge (by decide) ((rfl : ev EE (FR (T.ofList .leaf 0 [slB B 0 l.length])) (.tmp 0) = some (slB B 0 l.length)))))) rfl rfl rfl ?_
        refine kk_op (.of_val (Nat.le_refl _) (ax_sln sl25 rfl rfl rfl (evs1 (ax_gs)))) rfl rfl rfl ?_
        refine kk_op (.of_val (Nat.le_refl _) (ax_bin rfl (ax_gs) rfl (bi_ltF (b := 2) hn))) rfl rfl rfl ?_
        exact .nil
      case z =>
        refine CodeX.condF he (ax_gs) ?_
        exact CodeX.skip
      case r3 =>
        refine CodeX.region he ?_
        refine kk_op (.of_val (Nat.le_refl _) (ax_assign rfl rfl)) rfl rfl rfl ?_
        exact .nil
      case e0 => exact ax_ge (by decide) (ax_ge (by decide) (ax_ge (by decide) (ax_ge (by decide) (ax_ge (by decide) ((rfl : ev EE (FR (T.ofList .leaf 0 [slB B 0 l.length])) (.tmp 0) = some (slB B 0 l.length)))))))
      case e3 => exact ax_gs
    obtain ⟨t3, g0, g3, t2, c1, t2', c2, c3⟩ := key
    exact ⟨t3, g0, g3, fun t' H' hl => CodeX.seq c1 (CodeX.seq c2 (CodeX.seqOut (CodeX.seq c3 (CodeX.block hl (by simp))) (by simp))),
      fun t1 H1 t' H' hl hp => CodeX.seq c1 (CodeX.seq c2 (CodeX.seq (CodeX.seq c3 (CodeX.blockExit hl)) hp))⟩
  have hres : ∀ {t' : T Value} {H' : AH} {k : Nat}, ev EE (FR t') (.tmp 2) = some (slB B 0 k) → (match resultA EE (FR t') H' Tryz.f24.results.toList with | some [v] => some v | some vs => some (.tuple ⟨vs⟩) | none => none) = some (slB B 0 k) := by
    intro t' H' k h
    have h' : t'.get 2 = some (slB B 0 k) := h
    show (match resultA EE (FR t') H' [.tmp 2] with | some [v] => some v | some vs => some (.tuple ⟨vs⟩) | none => none) = some (slB B 0 k)
    simp only [resultA, h', Option.map_some]
  rcases l_loop (l := l) (l.length - 1) 1 t3 H (by omega) (Nat.le_refl _) hc (fun j a b => by omega) hH g0 g3 with ⟨t', H', k1, k2, k3, k4⟩ | ⟨t', H', r, k1, k2, k3, k4⟩
  · obtain ⟨t5, c5, e5⟩ : ∃ t5, CodeX EE (cs_r (cs_r (cs_r (bodyOf Tryz.f24)))) (FR t') H' .ret (FR t5) H' ∧ ev EE (FR t5) (.tmp 2) = some (slB B 0 l.length) := by
      refine ⟨?tt9, CodeX.seq (fr1 := FR ?f9) (H1 := H') ?r16 ?q9, ?e9⟩
      case r16 =>
        refine CodeX.region he ?_
        refine kk_op (.of_val (Nat.le_refl _) (ax_move rfl (k4))) rfl rfl rfl ?_
        refine kk_op (.of_val (Nat.le_refl _) (ax_assign rfl (ax_gs))) rfl rfl rfl ?_
        exact .nil
      case q9 => exact CodeX.ret
      case e9 => exact ax_gs
    refine ⟨_, H', CodeX.call (fn := Tryz.f24) (c := bodyOf Tryz.f24) he x24 rfl (hway.2 _ _ _ _ k1 c5) (.inr rfl) (hres (by rw [k3]; exact e5)), k2, ?_⟩
    rw [k3, take_of (by rw [List.length_append, cel_len]; omega), List.take_append_of_le_length (by rw [cel_len]; omega), ← cel_len, List.take_length]
  · exact ⟨r, H', CodeX.call (fn := Tryz.f24) (c := bodyOf Tryz.f24) he x24 rfl (hway.1 _ _ k1) (.inr rfl) (hres k4), k2, k3⟩
end
theorem cpt_short {l : List Pr} (h : l.length < 2) : cpt l = l := by
  match l, h with
  | [], _ => rfl
  | [p], _ => rfl
theorem ok24 : LstOK EE ⟨24, none, true, C50⟩ 50 2 P50 (pF cpt) where
  ff := ⟨_, x24⟩
  G := rfl
  flat e := flat50
  mem es _ := pF_P
  len es _ := by
    refine ⟨?_, fun h => by cases h⟩
    unfold pF
    rw [List.length_map]
    exact Nat.le_trans (cpN_len (es.map prs) (es.map prs).length) (Nat.le_of_eq (by rw [List.length_map]))
  no := by
    rintro H v (rfl | ⟨a, rfl⟩)
    · exact c24s (by omega)
    · exact c24s (by omega)
  ok := by
    intro H B rt cs es hb ht hP hx
    have hl := lvs_es hP
    have hlen : es.length = (es.map prs).length := by rw [List.length_map]
    have hF : lvs (pF cpt es) = cel (cpt (es.map prs)) := lvs_p _
    have hFl : (pF cpt es).length = (cpt (es.map prs)).length := by unfold pF; rw [List.length_map]
    rw [hl, hlen] at ht
    rw [hF, hFl, hlen]
    rw [hlen] at hx
    have hx : (es.map prs).length < capX := by unfold capX; omega
    generalize es.map prs = l at ht hx
    by_cases h2 : l.length < 2
    · refine ⟨cs, H, ?_, ?_, hb, fun _ _ => rfl, rfl, Nat.le_trans (Nat.min_le_left _ _) (Nat.min_le_left _ _)⟩
      · rw [cpt_short h2]; exact c24s h2
      · rw [cpt_short h2]; exact ht
    · obtain ⟨r, H', k1, k2, k3⟩ := c24l hb ht (by omega) hx
      exact ⟨r, H', k1, k3, k2.b, k2.o, k2.n, k2.l⟩
end Go.Proofs.YtbmjdlgfnoaocaaGreat
namespace Go.Proofs.YtbmjdlgfnoaocaaGreat
open Go Go.Am Go.Proofs
theorem sl22 : isSlice EE 22 = some 60 := by kernel_rfl
theorem te60 : (EE.types.get 60).map (fun e => (e.size, e.bytes, e.zero)) = some (4, 48, some [.int .i64 0, .int .i64 0, .int .i64 0, .slice none 0 0]) := by kernel_rfl
theorem te3 : (EE.types.get 3).map (fun e => e.desc) = some (.int .i64) := by kernel_rfl
theorem ti60 : ∃ e, EE.types.get 60 = some e ∧ e.size = 4 ∧ e.bytes = 48 ∧ e.zero = some [.int .i64 0, .int .i64 0, .int .i64 0, .slice none 0 0] := by
  have h := te60
  cases e : EE.types.get 60 with
  | none => rw [e] at h; cases h
  | some ti =>
    rw [e] at h
    have h := Option.some.inj h
    exact ⟨ti, rfl, (Prod.mk.inj h).1, (Prod.mk.inj (Prod.mk.inj h).2).1, (Prod.mk.inj (Prod.mk.inj h).2).2⟩
theorem ti3 : ∃ e, EE.types.get 3 = some e ∧ e.desc = .int .i64 := by
  have h := te3
  cases e : EE.types.get 3 with
  | none => rw [e] at h; cases h
  | some ti => rw [e] at h; exact ⟨ti, rfl, Option.some.inj h⟩
theorem el22 : ElT EE 22 60 4 [.int .i64 0, .int .i64 0, .int .i64 0, .slice none 0 0] := ⟨sl22, by obtain ⟨e, h1, h2, _, h4⟩ := ti60; exact ⟨e, h1, h2, h4⟩⟩
theorem ap22 {H : AH} {n : Nat} (hn : n ≠ 0) (hle : n * 53 ≤ 100000000) : appendA EE H [22, 3] (.slice none 0 0) (goInt n) = some (.val (.slice (some ⟨H.next, 0, none⟩) n capX), H.new (.cells (reps [.int .i64 0, .int .i64 0, .int .i64 0, .slice none 0 0] n) 60)) := by
  obtain ⟨sz0, bt0, z0, ag0, h1⟩ := isSlice_inv sl22
  obtain ⟨e, h2, h3, h4, h5⟩ := ti60
  obtain ⟨xi, h6, h7⟩ := ti3
  have hnc : newCellsA H xi e (goInt n) = some (n, reps [.int .i64 0, .int .i64 0, .int .i64 0, .slice none 0 0] n) := by
    unfold newCellsA
    rw [h7]
    have : goInt (n : Int) = .int .i64 (.ofNat n) := rfl
    simp only [this, h5]
  have hb : Nat.ble (Nat.mul (Nat.add (Nat.mul 4 (Nat.add 0 n)) 4000) (Nat.succ e.bytes)) 100000000000 = true := by
    rw [h4]
    refine Nat.ble_eq_true_of_le ?_
    show (4 * (0 + n) + 4000) * 49 ≤ _
    omega
  have h0 : Nat.beq n 0 = false := by
    cases q : Nat.beq n 0 with
    | false => rfl
    | true => exact absurd (Nat.eq_of_beq_eq_true q) hn
  simp only [appendA, h1, h2, h6, h5, hnc, hb, cond_true, h0, cond_false]
  rw [show Nat.add 0 n = n from Nat.zero_add n]
theorem re31 : (Tryz.f31.name == "runtime.NumGoroutine" || !regsOk (bodyOf Tryz.f31)) = false := by kernel_rfl
theorem x31 : EE.funcs.get 31 = some Tryz.f31 := envFunc (c := bodyOf Tryz.f31) Tryz.func31 rfl re31
abbrev FG (t : T Value) : Fr := ⟨27, false, t⟩
section
variable {H : AH} {n : Nat}
theorem ax_sl0 {fr : Fr} {o : Oper} {x l : Operand} (ho : o.op = .slice 22 x none (some l) none) (hx : ev EE fr x = some (.slice none 0 0)) (hl : ev EE fr l = some (goInt (0 : Nat))) : aop EE fr o H = some (.val (.slice none 0 0), H) := by
  obtain ⟨sz0, bt0, z0, ag0, h1⟩ := isSlice_inv sl22
  obtain ⟨e, h2, _⟩ := ti60
  have hn : nat? (goInt ((0 : Nat) : Int)) = some 0 := rfl
  have h3 : Nat.beq 0 0 = true := rfl
  unfold aop; rw [ho]
  simp only [hx, Option.toList, evs, hl, Option.map_some, List.head?_cons, List.head?_nil, sliceA, h1, boundA, hn, h2, h3, Option.isNone_none, Bool.true_or, Bool.and_self, cond_true, one]
theorem g31z (hn : n = 0) : CallOK EE 31 [.slice none 0 0, goInt n] H (.slice none 0 0) H := by
  refine CodeX.call (fn := Tryz.f31) (c := bodyOf Tryz.f31) (e := .ret) (fr' := ?fr) he x31 rfl ?h (.inr rfl) ?r
  case h =>
    show CodeX EE _ (FG (T.ofList .leaf 0 [.slice none 0 0, goInt n])) H _ _ _
    refine CodeX.seq (fr1 := FG ?f1) (H1 := H) ?r0 (CodeX.seq (fr1 := FG ?f3) (H1 := H) (CodeX.seq (fr1 := FG ?f2) (H1 := H) ?r1 ?z) (CodeX.seq (fr1 := FG ?f6) (H1 := H) (CodeX.seq (fr1 := FG ?f4) (H1 := H) ?r3 (CodeX.seq (fr1 := FG ?f5) (H1 := H) ?r4 ?y)) (CodeX.seq (fr1 := FG ?f7) (H1 := H) ?r6 ?q)))
    case r0 =>
      refine CodeX.region he ?_
      refine kk_op (.of_val (Nat.le_refl _) (ax_assign rfl rfl)) rfl rfl rfl ?_
      exact .nil
    case r1 =>
      refine CodeX.region he ?_
      refine kk_op (.of_val (Nat.le_refl _) (ax_move rfl (ax_ge (by decide) ((rfl : ev EE (FG (T.ofList .leaf 0 [.slice none 0 0, goInt n])) (.tmp 1) = some (goInt n)))))) rfl rfl rfl ?_
      refine kk_op (.of_val (Nat.le_refl _) (ax_bin rfl (ax_gs) rfl (bi_ltF (b := 0) (Nat.zero_le _)))) rfl rfl rfl ?_
      exact .nil
    case z =>
      refine CodeX.condF he (ax_gs) ?_
      exact CodeX.skip
    case r3 =>
      refine CodeX.region he ?_
      refine kk_op (.of_val (Nat.le_refl _) (ax_move rfl (ax_ge (by decide) (ax_ge (by decide) (ax_ge (by decide) ((rfl : ev EE (FG (T.ofList .leaf 0 [.slice none 0 0, goInt n])) (.tmp 1) = some (goInt n)))))))) rfl rfl rfl ?_
      refine kk_op (.of_val (Nat.le_refl _) (ax_move rfl (ax_ge (by decide) (ax_ge (by decide) (ax_ge (by decide) (ax_ge (by decide) ((rfl : ev EE (FG (T.ofList .leaf 0 [.slice none 0 0, goInt n])) (.tmp 0) = some (.slice none 0 0))))))))) rfl rfl rfl ?_
      refine kk_op (.of_val (Nat.le_refl _) (ax_scp sl22 rfl rfl rfl (evs1 (ax_gs)) (by unfold capX; omega))) rfl rfl rfl ?_
      refine kk_op (.of_val (Nat.le_refl _) (ax_move rfl (ax_ge (by decide) (ax_ge (by decide) (ax_ge (by decide) (ax_ge (by decide) (ax_ge (by decide) (ax_ge (by decide) ((rfl : ev EE (FG (T.ofList .leaf 0 [.slice none 0 0, goInt n])) (.tmp 0) = some (.slice none 0 0))))))))))) rfl rfl rfl ?_
      refine kk_op (.of_val (Nat.le_refl _) (ax_sln sl22 rfl rfl rfl (evs1 (ax_gs)))) rfl rfl rfl ?_
      refine kk_op (.of_val (Nat.le_refl _) (ax_bin rfl (ax_ge (by decide) (ax_ge (by decide) (ax_gs))) (ax_gs) (bi_sub (Nat.le_refl 0) (by unfold capX; omega)))) rfl rfl rfl ?_
      refine kk_op (.of_val (Nat.le_refl _) (ax_bin rfl (ax_ge (by decide) (ax_ge (by decide) (ax_ge (by decide) (ax_ge (by decide) (ax_ge (by decide) (ax_gs)))))) (ax_gs) (bi_sub (b := 0) (Nat.zero_le _) (by unfold capX; omega)))) rfl rfl rfl ?_
      refine kk_op (.of_val (Nat.le_refl _) (ax_assign rfl (ax_gs))) rfl rfl rfl ?_
      exact .nil
    case r4 =>
      refine CodeX.region he ?_
      refine kk_op (.of_val (Nat.le_refl _) (ax_move rfl (ax_gs))) rfl rfl rfl ?_
      refine kk_op (.of_val (Nat.le_refl _) (ax_bin rfl (ax_gs) rfl (bi_gtF (b := 0) (by omega)))) rfl rfl rfl ?_
      exact .nil
    case y =>
      refine CodeX.condF he (ax_gs) ?_
      exact CodeX.skip
    case r6 =>
      refine CodeX.region he ?_
      refine kk_op (.of_val (Nat.le_refl _) (ax_move rfl (ax_ge (by decide) (ax_ge (by decide) (ax_ge (by decide) (ax_ge (by decide) (ax_ge (by decide) (ax_ge (by decide) (ax_ge (by decide) (ax_ge (by decide) (ax_ge (by decide) (ax_ge (by decide) (ax_ge (by decide) (ax_ge (by decide) (ax_ge (by decide) ((rfl : ev EE (FG (T.ofList .leaf 0 [.slice none 0 0, goInt n])) (.tmp 0) = some (.slice none 0 0)))))))))))))))))) rfl rfl rfl ?_
      refine kk_op (.of_val (Nat.le_refl _) (ax_assign rfl (ax_gs))) rfl rfl rfl ?_
      exact .nil
    case q => exact CodeX.ret
  case r => rfl
theorem evs2 {fr : Fr} {x y : Operand} {u v : Value} (h : ev EE fr x = some u) (k : ev EE fr y = some v) : evs EE fr [x, y] = some [u, v] := by simp only [evs, h, k, Option.map_some]
theorem hnew {x : List Value} : (H.new (.cells x 60)).blocks.get H.next = some ⟨.cells x 60, H.next, true⟩ := by rw [AH.get_new, if_pos rfl]
theorem g31n (hn : n ≠ 0) (hle : n * 53 ≤ 100000000) : CallOK EE 31 [.slice none 0 0, goInt n] H (.slice (some ⟨H.next, 0, none⟩) 0 capX) (H.new (.cells (reps [.int .i64 0, .int .i64 0, .int .i64 0, .slice none 0 0] n) 60)) := by
  refine CodeX.call (fn := Tryz.f31) (c := bodyOf Tryz.f31) (e := .ret) (fr' := ?fr) he x31 rfl ?h (.inr rfl) ?r
  case h =>
    show CodeX EE _ (FG (T.ofList .leaf 0 [.slice none 0 0, goInt n])) H _ _ _
    refine CodeX.seq (fr1 := FG ?f1) (H1 := H) ?r0 (CodeX.seq (fr1 := FG ?f3) (H1 := H) (CodeX.seq (fr1 := FG ?f2) (H1 := H) ?r1 ?z) (CodeX.seq (fr1 := FG ?f6) (H1 := H.new (.cells (reps [.int .i64 0, .int .i64 0, .int .i64 0, .slice none 0 0] n) 60)) (CodeX.seq (fr1 := FG ?f4) (H1 := H) ?r3 (CodeX.seq (fr1 := FG ?f5) (H1 := H) ?r4 ?y)) (CodeX.seq (fr1 := FG ?f7) (H1 := H.new (.cells (reps [.int .i64 0, .int .i64 0, .int .i64 0, .slice none 0 0] n) 60)) ?r6 ?q)))
    case r0 =>
      refine CodeX.region he ?_
      refine kk_op (.of_val (Nat.le_refl _) (ax_assign rfl rfl)) rfl rfl rfl ?_
      exact .nil
    case r1 =>
      refine CodeX.region he ?_
      refine kk_op (.of_val (Nat.le_refl _) (ax_move rfl (ax_ge (by decide) ((rfl : ev EE (FG (T.ofList .leaf 0 [.slice none 0 0, goInt n])) (.tmp 1) = some (goInt n)))))) rfl rfl rfl ?_
      refine kk_op (.of_val (Nat.le_refl _) (ax_bin rfl (ax_gs) rfl (bi_ltF (b := 0) (Nat.zero_le _)))) rfl rfl rfl ?_
      exact .nil
    case z =>
      refine CodeX.condF he (ax_gs) ?_
      exact CodeX.skip
    case r3 =>
      refine CodeX.region he ?_
      refine kk_op (.of_val (Nat.le_refl _) (ax_move rfl (ax_ge (by decide) (ax_ge (by decide) (ax_ge (by decide) ((rfl : ev EE (FG (T.ofList .leaf 0 [.slice none 0 0, goInt n])) (.tmp 1) = some (goInt n)))))))) rfl rfl rfl ?_
      refine kk_op (.of_val (Nat.le_refl _) (ax_move rfl (ax_ge (by decide) (ax_ge (by decide) (ax_ge (by decide) (ax_ge (by decide) ((rfl : ev EE (FG (T.ofList .leaf 0 [.slice none 0 0, goInt n])) (.tmp 0) = some (.slice none 0 0))))))))) rfl rfl rfl ?_
      refine kk_op (.of_val (Nat.le_refl _) (ax_scp sl22 rfl rfl rfl (evs1 (ax_gs)) (by unfold capX; omega))) rfl rfl rfl ?_
      refine kk_op (.of_val (Nat.le_refl _) (ax_move rfl (ax_ge (by decide) (ax_ge (by decide) (ax_ge (by decide) (ax_ge (by decide) (ax_ge (by decide) (ax_ge (by decide) ((rfl : ev EE (FG (T.ofList .leaf 0 [.slice none 0 0, goInt n])) (.tmp 0) = some (.slice none 0 0))))))))))) rfl rfl rfl ?_
      refine kk_op (.of_val (Nat.le_refl _) (ax_sln sl22 rfl rfl rfl (evs1 (ax_gs)))) rfl rfl rfl ?_
      refine kk_op (.of_val (Nat.le_refl _) (ax_bin rfl (ax_ge (by decide) (ax_ge (by decide) (ax_gs))) (ax_gs) (bi_sub (Nat.le_refl 0) (by unfold capX; omega)))) rfl rfl rfl ?_
      refine kk_op (.of_val (Nat.le_refl _) (ax_bin rfl (ax_ge (by decide) (ax_ge (by decide) (ax_ge (by decide) (ax_ge (by decide) (ax_ge (by decide) (ax_gs)))))) (ax_gs) (bi_sub (b := 0) (Nat.zero_le _) (by unfold capX; omega)))) rfl rfl rfl ?_
      refine kk_op (.of_val (Nat.le_refl _) (ax_assign rfl (ax_gs))) rfl rfl rfl ?_
      exact .nil
    case r4 =>
      refine CodeX.region he ?_
      refine kk_op (.of_val (Nat.le_refl _) (ax_move rfl (ax_gs))) rfl rfl rfl ?_
      refine kk_op (.of_val (Nat.le_refl _) (ax_bin rfl (ax_gs) rfl (bi_gtT (b := 0) (by omega)))) rfl rfl rfl ?_
      exact .nil
    case y =>
      refine CodeX.condT he (ax_gs) ?_
      refine CodeX.region he ?_
      refine kk_op (.of_val (Nat.le_refl _) (ax_move rfl (ax_ge (by decide) (ax_ge (by decide) (ax_ge (by decide) (ax_ge (by decide) (ax_ge (by decide) (ax_ge (by decide) (ax_ge (by decide) (ax_ge (by decide) (ax_ge (by decide) (ax_ge (by decide) (ax_ge (by decide) (ax_ge (by decide) (ax_ge (by decide) ((rfl : ev EE (FG (T.ofList .leaf 0 [.slice none 0 0, goInt n])) (.tmp 0) = some (.slice none 0 0)))))))))))))))))) rfl rfl rfl ?_
      refine kk_op (.of_val (Nat.le_refl _) (ax_move rfl (ax_ge (by decide) (ax_ge (by decide) (ax_ge (by decide) (ax_ge (by decide) (ax_ge (by decide) (ax_ge (by decide) (ax_ge (by decide) (ax_ge (by decide) (ax_ge (by decide) (ax_ge (by decide) (ax_ge (by decide) (ax_ge (by decide) (ax_ge (by decide) (ax_ge (by decide) ((rfl : ev EE (FG (T.ofList .leaf 0 [.slice none 0 0, goInt n])) (.tmp 0) = some (.slice none 0 0))))))))))))))))))) rfl rfl rfl ?_
      refine kk_op (.of_val (Nat.le_refl _) (ax_scp sl22 rfl rfl rfl (evs1 (ax_gs)) (by unfold capX; omega))) rfl rfl rfl ?_
      refine kk_op (.of_val (Nat.le_refl _) (ax_sl0 rfl (ax_ge (by decide) (ax_ge (by decide) (ax_gs))) (ax_gs))) rfl rfl rfl ?_
      refine kk_op (.of_val (Nat.le_refl _) (ax_move rfl (ax_ge (by decide) (ax_ge (by decide) (ax_ge (by decide) (ax_ge (by decide) (ax_ge (by decide) (ax_ge (by decide) (ax_gs))))))))) rfl rfl rfl ?_
      refine kk_op (.of_val (Nat.le_succ _) (ax_app rfl rfl rfl (evs2 (ax_ge (by decide) (ax_gs)) (ax_gs)) (ap22 hn hle))) rfl rfl rfl ?_
      refine kk_op (.of_val (Nat.le_refl _) (ax_move rfl (ax_ge (by decide) (ax_ge (by decide) (ax_ge (by decide) (ax_ge (by decide) (ax_ge (by decide) (ax_ge (by decide) (ax_ge (by decide) (ax_ge (by decide) (ax_ge (by decide) (ax_ge (by decide) (ax_ge (by decide) (ax_ge (by decide) (ax_ge (by decide) (ax_ge (by decide) (ax_ge (by decide) (ax_ge (by decide) (ax_ge (by decide) (ax_ge (by decide) (ax_ge (by decide) ((rfl : ev EE (FG (T.ofList .leaf 0 [.slice none 0 0, goInt n])) (.tmp 0) = some (.slice none 0 0)))))))))))))))))))))))) rfl rfl rfl ?_
      refine kk_op (.of_val (Nat.le_refl _) (ax_sln sl22 rfl rfl rfl (evs1 (ax_gs)))) rfl rfl rfl ?_
      refine kk_op (.of_val (Nat.le_refl _) (ax_slHi el22 rfl (ax_ge (by decide) (ax_ge (by decide) (ax_gs))) (ax_gs) (Nat.zero_le _) (hnew))) rfl rfl rfl ?_
      refine kk_op (.of_val (Nat.le_refl _) (ax_assign rfl (ax_gs))) rfl rfl rfl ?_
      exact .nil
    case r6 =>
      refine CodeX.region he ?_
      refine kk_op (.of_val (Nat.le_refl _) (ax_move rfl (ax_gs))) rfl rfl rfl ?_
      refine kk_op (.of_val (Nat.le_refl _) (ax_assign rfl (ax_gs))) rfl rfl rfl ?_
      exact .nil
    case q => exact CodeX.ret
  case r => rfl
end
def G22 : List D → Option D := groF 60 4 48
theorem ok31 : GroOK EE ⟨31, G22⟩ 60 4 48 where
  ff := ⟨_, x31⟩
  G := rfl
  ok := by
    intro H n hle
    by_cases hn : n = 0
    · exact ⟨_, H, g31z hn, Nat.le_refl _, fun _ _ => rfl, fun h => h, Nat.min_le_left _ _, .inl ⟨hn, rfl⟩⟩
    · refine ⟨_, _, g31n hn (by omega), Nat.le_succ _, new_old, fun h => h.new _, ?_, .inr ⟨hn, H.next, H.next, _, Nat.le_refl _, Nat.le_refl _, rfl, hnew⟩⟩
      exact Nat.min_le_left _ _
end Go.Proofs.YtbmjdlgfnoaocaaGreat
