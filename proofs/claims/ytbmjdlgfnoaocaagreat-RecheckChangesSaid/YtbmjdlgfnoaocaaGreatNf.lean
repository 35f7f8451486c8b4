/- slices.SortFunc over references, in the seat's program: by the library's contract. Conditions: none. -/
import Derived.Test.YtbmjdlgfnoaocaaGreatNd
import Derived.Test.YtbmjdlgfnoaocaaGreatSp
import Derived.Shelf.SlSortCmp.NoneTotal
set_option linter.unusedVariables false
set_option linter.unusedSimpArgs false
namespace Go.Proofs.YtbmjdlgfnoaocaaGreat
open Go Go.Am Go.Proofs
def lay20_ren : Go.Shelf.Ren := ⟨fun | 6 => 20 | 15 => 36 | 14 => 35 | 28 => 55 | 29 => 56 | 20 => 47 | 21 => 48 | 22 => 49 | 23 => 50 | 24 => 51 | 25 => 52 | 26 => 53 | 27 => 54 | 46 => 64 | 47 => 65 | 48 => 66 | 49 => 67 | 50 => 68 | 57 => 80 | n => n, fun | 22 => 25 | 24 => 50 | 25 => 68 | 3 => 3 | 39 => 116 | 0 => 0 | 53 => 136 | 55 => 138 | 4 => 4 | 46 => 129 | 45 => 128 | 50 => 133 | 5 => 5 | 9 => 9 | 66 => 150 | 70 => 154 | 76 => 168 | 77 => 169 | n => n, fun n => n⟩
theorem lay20 : SlLaysF0.n6 Tryz.prog lay20_ren := {
  mixed := by kernel_rfl,
  f6 := ⟨Tryz.f20.name, by decide, Tryz.func20.trans (congrArg some (by kernel_rfl))⟩,
  f14 := ⟨Tryz.f35.name, by decide, Tryz.func35.trans (congrArg some (by kernel_rfl))⟩,
  f15 := Tryz.func36.trans (congrArg some (by kernel_rfl)),
  f20 := ⟨Tryz.f47.name, by decide, Tryz.func47.trans (congrArg some (by kernel_rfl))⟩,
  f21 := ⟨Tryz.f48.name, by decide, Tryz.func48.trans (congrArg some (by kernel_rfl))⟩,
  f22 := ⟨Tryz.f49.name, by decide, Tryz.func49.trans (congrArg some (by kernel_rfl))⟩,
  f23 := ⟨Tryz.f50.name, by decide, Tryz.func50.trans (congrArg some (by kernel_rfl))⟩,
  f24 := ⟨Tryz.f51.name, by decide, Tryz.func51.trans (congrArg some (by kernel_rfl))⟩,
  f25 := ⟨Tryz.f52.name, by decide, Tryz.func52.trans (congrArg some (by kernel_rfl))⟩,
  f26 := ⟨Tryz.f53.name, by decide, Tryz.func53.trans (congrArg some (by kernel_rfl))⟩,
  f27 := ⟨Tryz.f54.name, by decide, Tryz.func54.trans (congrArg some (by kernel_rfl))⟩,
  f28 := Tryz.func55.trans (congrArg some (by kernel_rfl)),
  f29 := Tryz.func56.trans (congrArg some (by kernel_rfl)),
  f46 := ⟨Tryz.f64.name, by decide, Tryz.func64.trans (congrArg some (by kernel_rfl))⟩,
  f47 := Tryz.func65.trans (congrArg some (by kernel_rfl)),
  f48 := Tryz.func66.trans (congrArg some (by kernel_rfl)),
  f49 := ⟨Tryz.f67.name, by decide, Tryz.func67.trans (congrArg some (by kernel_rfl))⟩,
  f50 := ⟨Tryz.f68.name, by decide, Tryz.func68.trans (congrArg some (by kernel_rfl))⟩,
  f57 := ⟨Tryz.f80.name, by decide, Tryz.func80.trans (congrArg some (by kernel_rfl))⟩,
  t0 := Tryz.underlying0,
  a0 := Tryz.isAgg0,
  z0 := Tryz.sizeOf0,
  v0 := Tryz.zeroValue0,
  t3 := Tryz.underlying3,
  a3 := Tryz.isAgg3,
  z3 := Tryz.sizeOf3,
  v3 := Tryz.zeroValue3,
  t4 := Tryz.underlying4,
  a4 := Tryz.isAgg4,
  z4 := Tryz.sizeOf4,
  v4 := Tryz.zeroValue4,
  t5 := Tryz.underlying5,
  a5 := Tryz.isAgg5,
  z5 := Tryz.sizeOf5,
  v5 := Tryz.zeroValue5,
  t9 := Tryz.underlying9,
  a9 := Tryz.isAgg9,
  z9 := Tryz.sizeOf9,
  v9 := Tryz.zeroValue9,
  t22 := Tryz.underlying25,
  a22 := Tryz.isAgg25,
  z22 := Tryz.sizeOf25,
  v22 := Tryz.zeroValue25,
  t25 := Tryz.underlying68,
  a25 := Tryz.isAgg68,
  z25 := Tryz.sizeOf68,
  v25 := Tryz.zeroValue68,
  t39 := Tryz.underlying116,
  a39 := Tryz.isAgg116,
  z39 := Tryz.sizeOf116,
  v39 := Tryz.zeroValue116,
  t45 := Tryz.underlying128,
  a45 := Tryz.isAgg128,
  z45 := Tryz.sizeOf128,
  v45 := Tryz.zeroValue128,
  t46 := Tryz.underlying129,
  a46 := Tryz.isAgg129,
  z46 := Tryz.sizeOf129,
  v46 := Tryz.zeroValue129,
  t50 := Tryz.underlying133,
  a50 := Tryz.isAgg133,
  z50 := Tryz.sizeOf133,
  v50 := Tryz.zeroValue133,
  t53 := Tryz.underlying136,
  a53 := Tryz.isAgg136,
  z53 := Tryz.sizeOf136,
  v53 := Tryz.zeroValue136,
  t55 := Tryz.underlying138,
  a55 := Tryz.isAgg138,
  z55 := Tryz.sizeOf138,
  v55 := Tryz.zeroValue138,
  t66 := Tryz.underlying150,
  a66 := Tryz.isAgg150,
  z66 := Tryz.sizeOf150,
  v66 := Tryz.zeroValue150,
  t70 := Tryz.underlying154,
  a70 := Tryz.isAgg154,
  z70 := Tryz.sizeOf154,
  v70 := Tryz.zeroValue154,
  t76 := Tryz.underlying168,
  a76 := Tryz.isAgg168,
  z76 := Tryz.sizeOf168,
  v76 := Tryz.zeroValue168,
  t77 := Tryz.underlying169,
  a77 := Tryz.isAgg169,
  z77 := Tryz.sizeOf169,
  v77 := Tryz.zeroValue169 }
def ltP (p q : Pr) : Prop := p.1 < q.1 ∨ (p.1 = q.1 ∧ p.2 < q.2)
instance (p q : Pr) : Decidable (ltP p q) := inferInstanceAs (Decidable (_ ∨ _))
theorem lt_cf (p q : Pr) : ltOf cfP p q = decide (ltP p q) := by
  unfold ltOf
  refine decide_eq_decide.2 ?_
  unfold cfP orI cmpI ltP
  by_cases h1 : p.1 < q.1
  · simp [h1]
  · by_cases h2 : q.1 < p.1
    · simp [h1, h2]; omega
    · have h3 : p.1 = q.1 := by omega
      by_cases h4 : p.2 < q.2
      · simp [h3, h4]
      · by_cases h5 : q.2 < p.2 <;> simp [h3, h4, h5]
theorem ltP_irr (p : Pr) : ¬ ltP p p := by unfold ltP; omega
theorem ltP_trans {p q r : Pr} (h : ltP p q) (k : ltP q r) : ltP p r := by unfold ltP at *; omega
theorem ltP_tri (p q : Pr) : ltP p q ∨ p = q ∨ ltP q p := by
  obtain ⟨a, b⟩ := p
  obtain ⟨c, d⟩ := q
  unfold ltP
  simp only [Prod.mk.injEq]
  omega
theorem swo : Go.Sort.SWO (ltOf cfP) where
  irrefl p := by rw [lt_cf]; exact decide_eq_false (ltP_irr p)
  trans p q r h k := by
    rw [lt_cf] at *
    exact decide_eq_true (ltP_trans (of_decide_eq_true h) (of_decide_eq_true k))
  ntrans p q r h k := by
    rw [lt_cf] at *
    have h := of_decide_eq_false h
    have k := of_decide_eq_false k
    refine decide_eq_false fun e => ?_
    unfold ltP at *
    omega
def srt (l : List Pr) : List Pr := l.mergeSort fun x y => !(ltOf cfP y x)
def S50 : List D → Option D := lstF 50 2 P50 (pF srt)
theorem srt_len (l : List Pr) : (srt l).length = l.length := List.length_mergeSort l
theorem cel_get : ∀ (l : List Pr) (t : Nat), t < l.length * 2 → (cel l)[t]? = some ((cel1 (l[t / 2]!))[t % 2]!)
  | [], t, h => by simp at h
  | p :: r, 0, _ => rfl
  | p :: r, 1, _ => rfl
  | p :: r, t + 2, h => by
    have ih := cel_get r t (by rw [List.length_cons] at h; omega)
    have e1 : (cel (p :: r))[t + 2]? = (cel r)[t]? := rfl
    have e2 : (t + 2) / 2 = t / 2 + 1 := by omega
    have e3 : (t + 2) % 2 = t % 2 := by omega
    rw [e1, ih, e2, e3]
    rfl
theorem flat_cel (l : List Pr) : (Go.Sort.flatK cel1 2 l.toArray).toList = cel l := by
  apply List.ext_getElem?
  intro t
  rw [Array.getElem?_toList]
  by_cases h : t < l.length * 2
  · rw [cel_get l t h]
    have h' : t < (Go.Sort.flatK cel1 2 l.toArray).size := by rw [Go.Sort.size_flatK]; simpa using h
    rw [Array.getElem?_eq_getElem h', ← getElem!_pos _ t h', Go.Sort.get_flatK _ _ _ _ (by simpa using h)]
    simp
  · rw [Array.getElem?_eq_none (by rw [Go.Sort.size_flatK]; simpa using h), List.getElem?_eq_none (by rw [cel_len]; omega)]
theorem flat_size (l : List Pr) : (Go.Sort.flatK cel1 2 l.toArray).size = l.length * 2 := by rw [Go.Sort.size_flatK]; simp
theorem cel_leaf {l : List Pr} : ∀ v ∈ cel l, dleaf v = true ∧ oneCell v = true := by
  intro v hv
  obtain ⟨p, _, hp⟩ := List.mem_flatMap.1 hv
  rcases List.mem_cons.1 hp with rfl | hp
  · exact ⟨rfl, rfl⟩
  · rw [List.mem_singleton.1 hp]; exact ⟨rfl, rfl⟩
theorem cmp21 (blk off size : Nat) (w : World) : CmpLays Tryz.prog 21 #[] cel1 2 cfP blk off size w := by
  intro m os dk _ x y
  have h := holds_pure (E := EE) (h21 (p := x) (q := y)) (azq := [.agg ⟨cel1 x⟩, .agg ⟨cel1 y⟩])
    (fun g => .cons (.agg (.cons (.leaf rfl) (.cons (.leaf rfl) .nil)) rfl) (.cons (.agg (.cons (.leaf rfl) (.cons (.leaf rfl) .nil)) rfl) .nil))
    (fun σ => .cons (.agg (.cons (.leaf rfl) (.cons (.leaf rfl) .nil)) rfl) (.cons (.agg (.cons (.leaf rfl) (.cons (.leaf rfl) .nil)) rfl) .nil)) rfl
    (Go.Proofs.sortWorldK cel1 2 w blk off m dk os)
  exact h.mono fun e w' ⟨h1, h2⟩ => ⟨h1, kept_grow h2⟩
theorem en21 : ∀ args w, (callFunc 21 args).run Tryz.prog w = .ok (.enter 21 args) w := enters_of Tryz.func21 (by kernel_rfl) rfl
theorem x20 : EE.funcs.get 20 = some Tryz.f20 := envFunc (c := bodyOf Tryz.f20) Tryz.func20 rfl (by kernel_rfl)
theorem vr_clo {σ : Sig} {r : List Value} (h : VRs σ [.func (.func 21) #[] #[]] r) : r = [.func (.func 21) #[] #[]] := by
  cases h with
  | cons h hs =>
    cases hs
    cases h with
    | leaf h => simp [leafV] at h
    | func h hf hc => cases hf; cases hc; rfl
theorem s20z {H : AH} {a : Option Addr} {c : Nat} : CallOK EE 20 [.slice a 0 c, .func (.func 21) #[] #[]] H (.tuple #[]) H := by
  intro σ w args' hr hv _
  cases hv with
  | cons h hs =>
    obtain rfl := vr_clo hs
    have key : ∀ p cap, Calls EE.prog 20 ⟨[.slice p 0 cap, .func (.func 21) #[] #[]]⟩ w fun e w' => ∃ σ' v', e = .returned v' ∧ VR σ' (.tuple #[]) v' ∧ Step EE σ H w σ' H w' := fun p cap =>
      (AnyF.slices_SortFunc_none lay20 p cap (.func (.func 21) #[] #[]) w).mono fun e w' ⟨h1, h2⟩ => ⟨σ, _, h1, .tuple .nil, by rw [h2]; exact Step.refl hr⟩
    cases h <;> exact key _ _
theorem vr_sl {σ : Sig} {B n : Nat} {v : Value} (h : VR σ (slB B 0 n) v) (hn : 0 < n) : ∃ (L : Go.Am.Loc) (c : Nat), σ B = some L ∧ v = .slice (some ⟨L.blk, L.off + 0, none⟩) n c := by
  cases h with
  | leaf h => simp [leafV] at h
  | sliceE h1 _ h3 => exact (Nat.lt_irrefl capX h3).elim
  | sliceX h1 _ _ _ => exact ⟨_, _, h1, rfl⟩
  | sliceZ h1 => exact (Nat.lt_irrefl 0 hn).elim
theorem s20 {H : AH} {B rt : Nat} {cs : List Value} {l : List Pr} (hb : H.blocks.get B = some ⟨.cells cs 50, rt, true⟩) (ht : take? cs (l.length * 2) = some (cel l)) (h0 : l ≠ []) (hc : l.length < 4611686018427387904) :
    CallOK EE 20 [slB B 0 l.length, .func (.func 21) #[] #[]] H (.tuple #[]) (H.write B ⟨.cells cs 50, rt, true⟩ (.cells (cel (srt l) ++ cs.drop (l.length * 2)) 50)) := by
  intro σ w args' hr hv _
  have hpos : 0 < l.length := List.length_pos_iff.2 h0
  cases hv with
  | cons h hs =>
    obtain rfl := vr_clo hs
    have main : ∀ (L : Go.Am.Loc) (c : Nat), σ B = some L → Calls EE.prog 20 ⟨[.slice (some ⟨L.blk, L.off + 0, none⟩) l.length c, .func (.func 21) #[] #[]]⟩ w fun e w' => ∃ σ' v', e = .returned v' ∧ VR σ' (.tuple #[]) v' ∧ Step EE σ H w σ' (H.write B ⟨.cells cs 50, rt, true⟩ (.cells (cel (srt l) ++ cs.drop (l.length * 2)) 50)) w' := by
      intro L c hL
      have hrow : Go.Sort.Holds id w L.blk L.off (Go.Sort.flatK cel1 2 l.toArray) := holds_of_row hr hb hL (by rw [flat_size, flat_cel]; exact ht) (by rw [flat_cel]; exact fun v hv => (cel_leaf v hv).1)
      obtain ⟨_, _, _, hw, _⟩ := row_obj hr hb hL
      have hblk : L.blk < w.heap.size := (Array.getElem?_eq_some_iff.1 hw).1
      have hcon := AnyQ.slices_SortFunc_total lay20 2 Tryz.isAgg50 Tryz.sizeOf50 cel1 (fun _ => rfl) (fun x v hv => by
          rcases List.mem_cons.1 hv with rfl | hv
          · rfl
          · rw [List.mem_singleton.1 hv]; rfl) cfP swo 21 #[] L.blk L.off c l.toArray w en21 (cmp21 _ _ _ w) hrow hblk (by simpa using hc)
        (fun x y h1 h2 => by
          rw [lt_cf] at h1 h2
          rcases ltP_tri x y with h | h | h
          · exact absurd h (of_decide_eq_false h1)
          · exact h
          · exact absurd h (of_decide_eq_false h2))
      refine Go.Calls.mono (P := Tryz.prog) (f := 20) hcon fun e w' ⟨h1, n, os, h2⟩ => ⟨σ, _, h1, .tuple .nil, ?_⟩
      have hst := step_put hr hb hL (F' := Go.Sort.flatK cel1 2 (srt l).toArray) (by rw [flat_size, srt_len]; exact (take_some ht).2) (by rw [flat_cel]; exact cel_leaf) n os
      rw [flat_cel, flat_size, srt_len] at hst
      rw [h2]
      exact hst
    obtain ⟨L, c, h1, rfl⟩ := vr_sl h hpos
    exact main L c h1
theorem ok20 : LstOK EE ⟨20, some 21, false, S50⟩ 50 2 P50 (pF srt) where
  ff := ⟨_, x20⟩
  G := rfl
  flat e := flat50
  mem es _ := pF_P
  len es _ := by
    have : (pF srt es).length = es.length := by unfold pF; rw [List.length_map, srt_len, List.length_map]
    exact ⟨Nat.le_of_eq this, fun _ => this⟩
  no := by
    rintro H v (rfl | ⟨a, rfl⟩)
    · exact s20z
    · exact s20z
  ok := by
    intro H B rt cs es hb ht hP hx
    have hl := lvs_es hP
    have hlen : es.length = (es.map prs).length := by rw [List.length_map]
    have hF : lvs (pF srt es) = cel (srt (es.map prs)) := lvs_p _
    have hFl : (pF srt es).length = (es.map prs).length := by unfold pF; rw [List.length_map, srt_len]
    rw [hl, hlen] at ht
    rw [hF, hFl, hlen]
    rw [hlen] at hx
    generalize es.map prs = l at ht hx
    by_cases h0 : l = []
    · subst h0
      refine ⟨cs, H, s20z, ?_, hb, fun _ _ => rfl, rfl, Nat.le_trans (Nat.min_le_left _ _) (Nat.min_le_left _ _)⟩
      have e : srt [] = [] := List.length_eq_zero_iff.1 (srt_len [])
      rw [e]; exact ht
    · refine ⟨_, _, s20 hb ht h0 (by omega), ?_, by rw [AH.get_write, if_pos rfl], fun b hb' => by rw [AH.get_write, if_neg hb'], rfl, ?_⟩
      · rw [take_of (by rw [List.length_append, cel_len, srt_len]; omega), List.take_append_of_le_length (by rw [cel_len, srt_len]; omega), ← srt_len, ← cel_len, List.take_length]
      · exact Nat.le_min.2 ⟨Nat.le_trans (Nat.min_le_left _ _) (Nat.min_le_left _ _), Nat.min_le_right _ _⟩
end Go.Proofs.YtbmjdlgfnoaocaaGreat
namespace Go.Proofs.YtbmjdlgfnoaocaaGreat
open Go Go.Am Go.Proofs
def LL : List Lst := [⟨20, some 21, false, S50⟩, ⟨24, none, true, C50⟩]
def GG : List Gro := [⟨31, G22⟩]
theorem hL : LsOK EE LL GG := by
  refine ⟨fun Y h => ?_, fun Y h => ?_⟩
  · rcases List.mem_cons.1 h with rfl | h
    · exact ⟨_, _, _, _, ok20⟩
    · rw [List.mem_singleton.1 h]; exact ⟨_, _, _, _, ok24⟩
  · rw [List.mem_singleton.1 h]; exact ⟨_, _, _, ok31⟩
def u6P : Nat → Pat
  | 1 => ⟨[⟨.pure, false⟩, ⟨.pure, false⟩, ⟨.fresh, true⟩, ⟨.pure, false⟩, ⟨.pure, true⟩, ⟨.pure, true⟩], [(0, .v 0), (1, .v 1), (5, .v 2), (15, .v 3), (16, .v 4), (17, .v 5)], [], []⟩
  | _ => ⟨[], [], [], []⟩
def u6T0 : Tree :=
  .bind (.chk false 1) [.v 0] <|
  .bind (.chk false 1) [.v 1] <|
  .bind (.lit 22 1) [.v 0, .v 1] <|
  .call (.fn 17) [.v 4] 0 <|
  ln' 5 <|
  .jump 1 [.v 0, .v 1, .c (.slice none 0 0), .v 5, .v 6, k' 0]
def u6T1 : Tree :=
  .bind (.bin .lss 3 (.tmp 17) (.tmp 16)) [.v 5, .v 4] <|
  .ite (.v 6) (
    ir' 3 5 <|
    .bind (.elem 4 true 4 0) [.v 3, .v 5] <|
    .bind (.chk true 4) [.v 8] <|
    .bind (.fld true 2 0) [.v 9] <|
    .call (.fn 18) [.v 0, .v 10] 0 <|
    .bind (.ext 0) [.v 11] <|
    .bind (.ext 1) [.v 11] <|
    .bind (.chk true 4) [.v 12] <|
    .bind (.fld true 2 0) [.v 9] <|
    .call (.fn 18) [.v 1, .v 15] 0 <|
    .bind (.ext 0) [.v 16] <|
    .bind (.ext 1) [.v 16] <|
    .bind (.chk true 4) [.v 17] <|
    .bind (.un .not 4) [.v 13] <|
    .ite (.v 20) (
      .bind (.fld true 2 0) [.v 9] <|
      .bind (.chk true 2) [.v 21] <|
      .bind (.lit 50 2) [.v 21] <|
      .bind (.app 50 2 16) [.v 2, .v 23] <|
      .bind (.bin .add 3 (.tmp 17) (K' 1)) [.v 5, k' 1] <|
      .jump 1 [.v 0, .v 1, .v 24, .v 3, .v 4, .v 25]) (
      .bind (.un .not 4) [.v 18] <|
      .ite (.v 21) (
        .bind (.fld true 2 0) [.v 9] <|
        .bind (.chk true 2) [.v 22] <|
        .bind (.lit 50 2) [.v 22] <|
        .bind (.app 50 2 16) [.v 2, .v 24] <|
        .bind (.bin .add 3 (.tmp 17) (K' 1)) [.v 5, k' 1] <|
        .jump 1 [.v 0, .v 1, .v 25, .v 3, .v 4, .v 26]) (
        .call (.fn 19) [.v 14, .v 19] 1 <|
        .bind (.un .not 4) [.v 22] <|
        .ite (.v 23) (
          .bind (.fld true 2 0) [.v 9] <|
          .bind (.chk true 2) [.v 24] <|
          .bind (.lit 50 2) [.v 24] <|
          .bind (.app 50 2 16) [.v 2, .v 26] <|
          .bind (.bin .add 3 (.tmp 17) (K' 1)) [.v 5, k' 1] <|
          .jump 1 [.v 0, .v 1, .v 27, .v 3, .v 4, .v 28]) (
          .bind (.bin .add 3 (.tmp 17) (K' 1)) [.v 5, k' 1] <|
          .jump 1 [.v 0, .v 1, .v 2, .v 3, .v 4, .v 24])))) (
    .bind (.lib S50) [.v 2] <|
    .bind (.lib C50) [.v 7] <|
    .ret [.v 8])
def u6Ts : Nat → Tree
  | 0 => u6T0
  | 1 => u6T1
  | _ => .fail
noncomputable def u6Z : Nat → Nat := fun _ => Nat.max Tryz.f6.ntmps 2
def u17P : Nat → Pat
  | 1 => ⟨[⟨.pure, false⟩, ⟨.pure, true⟩, ⟨.pure, true⟩, ⟨.pure, true⟩], [(0, .v 0), (3, .v 1), (9, .v 0), (10, .v 2), (11, .v 3)], [], []⟩
  | 2 => ⟨[⟨.fresh, true⟩, ⟨.pure, false⟩, ⟨.pure, true⟩, ⟨.pure, true⟩], [(6, .v 0), (25, .v 1), (26, .v 2), (27, .v 3)], [], []⟩
  | _ => ⟨[], [], [], []⟩
def u17T0 : Tree :=
  ln' 0 <|
  .jump 1 [.v 0, k' 0, .v 1, k' 0]
def u17T1 : Tree :=
  .bind (.bin .lss 3 (.tmp 11) (.tmp 10)) [.v 3, .v 2] <|
  .ite (.v 4) (
    ir' 0 3 <|
    .bind (.elem 1 false 1 0) [.v 0, .v 3] <|
    ln' 6 <|
    .bind (.bin .add 3 (.tmp 15) (.tmp 17)) [.v 1, .v 7] <|
    .bind (.bin .lss 3 (.tmp 19) (K' 0)) [.v 8, k' 0] <|
    .ite (.v 9) (
      .fail) (
      .bind (.bin .add 3 (.tmp 11) (K' 1)) [.v 3, k' 1] <|
      .jump 1 [.v 0, .v 8, .v 2, .v 10])) (
    .bind (.lib G22) [.v 1] <|
    ln' 0 <|
    .jump 2 [.v 5, .v 0, .v 6, k' 0])
def u17T2 : Tree :=
  .bind (.bin .lss 3 (.tmp 27) (.tmp 26)) [.v 3, .v 2] <|
  .ite (.v 4) (
    ir' 1 3 <|
    .bind (.elem 1 false 1 0) [.v 1, .v 3] <|
    .bind (.app 60 4 48) [.v 0, .v 6] <|
    .bind (.bin .add 3 (.tmp 27) (K' 1)) [.v 3, k' 1] <|
    .jump 2 [.v 7, .v 1, .v 2, .v 8]) (
    .ret [.v 0])
def u17Ts : Nat → Tree
  | 0 => u17T0
  | 1 => u17T1
  | 2 => u17T2
  | _ => .fail
noncomputable def u17Z : Nat → Nat := fun _ => Nat.max Tryz.f17.ntmps 1
theorem alln6 : (sxH EE (fun k S => jumpS (u6Z k) (u6P k) k S) (opL EE LL GG) noRG 1 (bodyOf Tryz.f6) (startS 2 (Nat.max Tryz.f6.ntmps 2)) (endK EE Tryz.f6.results.toList),
  headsH EE (fun k => (u6P k).st (u6Z k)) (fun k S => jumpS (u6Z k) (u6P k) k S) (opL EE LL GG) noRG (fun _ _ _ _ => []) 1 (bodyOf Tryz.f6) (endK EE Tryz.f6.results.toList),
  (Tryz.f6.name == "runtime.NumGoroutine" || !regsOk (bodyOf Tryz.f6)),
  sxH EE (fun k S => jumpS (u17Z k) (u17P k) k S) (opL EE LL GG) noRG 1 (bodyOf Tryz.f17) (startS 1 (Nat.max Tryz.f17.ntmps 1)) (endK EE Tryz.f17.results.toList),
  headsH EE (fun k => (u17P k).st (u17Z k)) (fun k S => jumpS (u17Z k) (u17P k) k S) (opL EE LL GG) noRG (fun _ _ _ _ => []) 1 (bodyOf Tryz.f17) (endK EE Tryz.f17.results.toList),
  (Tryz.f17.name == "runtime.NumGoroutine" || !regsOk (bodyOf Tryz.f17))) =
  (u6T0, [(1, u6T1)], false, u17T0, [(1, u17T1), (2, u17T2)], false) := by kernel_rfl
theorem u6 {ds : List D} {d : D} (hn : ds.length = 2) (h : Goes EE (Holds EE) u6Ts 0 ds d) : Holds EE 6 ds d :=
  holdsL_of (Ls := LL) (Gs := GG) (pats := u6P) (szs := u6Z) he hL (envFunc (c := bodyOf Tryz.f6) Tryz.func6 rfl ((Prod.mk.inj (nx1 (nx1 alln6))).1)) (c := bodyOf Tryz.f6) rfl hn ((Prod.mk.inj alln6).1) (by rw [(Prod.mk.inj (nx1 alln6)).1]; exact tabC rfl <| tabN) h
theorem u17 {ds : List D} {d : D} (hn : ds.length = 1) (h : Goes EE (Holds EE) u17Ts 0 ds d) : Holds EE 17 ds d :=
  holdsL_of (Ls := LL) (Gs := GG) (pats := u17P) (szs := u17Z) he hL (envFunc (c := bodyOf Tryz.f17) Tryz.func17 rfl ((nx1 (nx4 alln6)))) (c := bodyOf Tryz.f17) rfl hn ((Prod.mk.inj (nx1 (nx1 (nx1 alln6)))).1) (by rw [(Prod.mk.inj (nx4 alln6)).1]; exact tabC rfl <| tabC rfl <| tabN) h
end Go.Proofs.YtbmjdlgfnoaocaaGreat
