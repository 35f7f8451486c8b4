/- The law of SurfaceShort over data of bounded length. Conditions: none. -/
import Derived.Test.YtnemldklhelbeaaGreatJi
import Derived.Test.YtnemldklhelbeaaGreatOr
import Derived.Test.YtnemldklhelbeaaGreatRows
import Derived.ProofKit
import Derived.OpenShut
import Derived.JoinedCond
set_option linter.unusedVariables false
set_option linter.unusedSimpArgs false
namespace Go.Proofs.YtnemldklhelbeaaGreat
open Go Go.Am Go.Proofs
attribute [local irreducible] Go.Am.wp Go.Am.TOp.eval
abbrev ShL : Sh := .st [ShG, .str, ShU, ShT, ShRs, .int .i64, ShW, ShI, ShLe]
theorem g13 {ps : D} (hp : HasB 300000000 ShP ps) : Holds EE 13 [.agg [ps]] (dB (decide (ps.es.length ≤ 20))) := by
 have i_ps := isSl_ofB hp
 refine u13 rfl (Goes.step' ?_)
 show wp _ _ _ u13T0 _
 refine bS (d := .agg [ps]) (sh_chkW rfl) ?_
 refine bS (d := ps) (sh_fld1 rfl i_ps.one) ?_
 refine bS (d := dI ((ps.es.length : Nat) : Int)) (sh_len i_ps) ?_
 refine bS (d := dB (decide (((ps.es.length : Nat) : Int) ≤ 20))) sk_leq ?_
 refine wp_retTo rfl (congrArg (fun b => dB b) ?_)
 rw [decide_eq_decide]; omega
theorem law5 {g a : D} (h_g : HasB 1048576 ShL g) (h_a : HasB 1048576 (.st [ShP]) a) (hw : Holds EE 9 [] (dB true)) : Holds EE 5 [g, a] (dB true) := by
 obtain ⟨ps, rfl, hp⟩ : ∃ ps, a = .agg [ps] ∧ HasB 300000000 ShP ps := by
  obtain ⟨_, rfl, ps, _, rfl, hp, rfl⟩ := hasB_mono (B' := 300000000) (by decide) h_a
  exact ⟨ps, rfl, hp⟩
 obtain ⟨_, rfl, gs, _, rfl, hg, nm, _, rfl, hnm, us, _, rfl, hus, lt, _, rfl, hlt, rs, _, rfl, hr, _, _, rfl, ⟨n, rfl⟩, ws, _, rfl, hws, fs, _, rfl, hfs, l, _, rfl, hl, rfl⟩ := h_g
 have hnm1 : nm.one = true := by obtain ⟨s, rfl, _⟩ := hnm; rfl
 have i_l := isSl_ofB hl
 have i_ps := isSl_ofB hp
 obtain ⟨q1, k1⟩ := k31 hg
 obtain ⟨q2, k2⟩ := k32 hg hnm hus hlt
 obtain ⟨q3, k3, f3⟩ := g33 (nm := nm) (us := us) (lt := lt) (n := dI n) (ws := ws) (fs := fs) (l := l) hg hr
 obtain ⟨q4, k4⟩ := k34 (n := dI n) ⟨n, rfl⟩ hws hfs
 obtain ⟨q5, k5⟩ := k35 hg hl
 obtain ⟨q6, k6⟩ := k36 hl
 obtain ⟨q7, k7⟩ := k37 hl
 obtain ⟨b, kL, hb⟩ := g12 (n := n) hg hnm1 hus hr hws hfs hl (g11 i_l.one k1 k2 k3 k4 k5 k6 k7)
 have kF := g13 hp
 refine u5 rfl (Goes.step' ?_)
 show wp _ _ _ u5T0 _
 refine bS (d := .agg [gs, nm, us, lt, rs, dI (n), ws, fs, l]) (sh_chkW rfl) ?_
 refine bS (d := .agg [ps]) (sh_chkW rfl) ?_
 refine cS (d := dB (b)) kL ?_
 refine bS (d := dB (!(b))) sh_not ?_
 refine wp_iteC rfl (fun c1 => ?_) (fun c1 => ?_)
 ·
  skip
  refine cS (d := dB (true)) hw ?_
  exact wp_retTo rfl rfl
 have hbt : b = true := by simpa using c1
 have hall := chk_zero (hb hbt).1
 have hok := f3 hall.2.2.1
 refine cS (d := dB (decide (ps.es.length ≤ 20))) kF ?_
 refine bS (d := dB (!(decide (ps.es.length ≤ 20)))) sh_not ?_
 refine wp_iteC rfl (fun c2 => ?_) (fun c2 => ?_)
 ·
  skip
  refine cS (d := dB (true)) hw ?_
  exact wp_retTo rfl rfl
 have hn : ps.es.length ≤ 20 := by
  have : decide (ps.es.length ≤ 20) = true := by simpa using c2
  exact of_decide_eq_true this
 have hg3 := hasB_mono (B' := 300000000) (by decide) hg
 have hr3 := hasB_mono (B' := 300000000) (by decide) hr
 have hw3 := hasB_mono (B' := 300000000) (by decide) hws
 have hf3 := hasB_mono (B' := 300000000) (by decide) hfs
 have hB := base_hb hl hn
 have hlas := las_ok (gs := gs) rs.es hB
 have i_base := isSl_ofB hB
 have kR := g18 (c0 := gs) (c1 := nm) (c2 := us) (c3 := lt) (c4 := rs) (n := dI n) rfl hw3 hf3 hl hp hn
 have kFm := g14 (gs := gs) (c1 := nm) (c2 := us) (c3 := lt) (n := dI n) hg3 hr3 hok rfl hw3 hf3 hl hp hn
 have hcl : (ps.es.flatMap (FC l)).length ≤ ps.es.length * 1 := flat_len_le fun y _ => fc_len
 have hC : HasB 300000000 ShI (mkOut 3 1 (ps.es.flatMap (FC l))) := mkOut_hb (by omega) (all_flat fun x => fc_int hl)
 have i_C := isSl_ofB hC
 have i_fm : IsSl 3 1 (frmV gs rs l ws fs ps).1 := by
  unfold frmV
  split
  ·
   exact .inl rfl
  ·
   split
   ·
    exact .inl rfl
   ·
    exact isSl_ofB hlas.1
 have hcases : (rgtV l ws fs ps ≠ 0 ∧ (frmV gs rs l ws fs ps).1 = .nil ∧ (frmV gs rs l ws fs ps).2 = rgtV l ws fs ps) ∨
   (rgtV l ws fs ps = 0 ∧ (frmV gs rs l ws fs ps).1 = .nil ∧ (frmV gs rs l ws fs ps).2 = 23) ∨
   (rgtV l ws fs ps = 0 ∧ (frmV gs rs l ws fs ps).1 = lasV gs rs (baseV l ps) ∧ (frmV gs rs l ws fs ps).2 = 0 ∧ (lasV gs rs (baseV l ps)).es.length ≠ 0) := by
  unfold frmV
  by_cases h0 : rgtV l ws fs ps = 0
  ·
   rw [if_neg (fun h => h h0)]
   by_cases h1 : (lasV gs rs (baseV l ps)).es.length = 0
   ·
    rw [if_pos h1]; exact .inr (.inl ⟨h0, rfl, rfl⟩)
   ·
    rw [if_neg h1]; exact .inr (.inr ⟨h0, rfl, rfl, h1⟩)
  ·
   rw [if_pos h0]; exact .inl ⟨h0, rfl, rfl⟩
 generalize hF1 : (frmV gs rs l ws fs ps).1 = fm at *
 generalize hF2 : (frmV gs rs l ws fs ps).2 = fe at *
 refine cS (d := .tup [fm, dI (fe)]) kFm ?_
 refine bS (d := fm) (te_ext rfl) ?_
 refine bS (d := dI (fe)) (te_ext rfl) ?_
 refine cS (d := dI (rgtV l ws fs ps)) kR ?_
 refine bS (d := dB (decide (¬ rgtV l ws fs ps = 0))) sk_neq ?_
 refine wp_iteC rfl (fun c3 => ?_) (fun c3 => ?_)
 ·
  have hne := nz c3
  have hx : fm = .nil ∧ fe = rgtV l ws fs ps := by
   rcases hcases with ⟨_, h1, h2⟩ | ⟨h0, _⟩ | ⟨h0, _⟩
   ·
    exact ⟨h1, h2⟩
   ·
    exact absurd h0 hne
   ·
    exact absurd h0 hne
  refine bS (d := dB (decide (fe = rgtV l ws fs ps))) sk_eql ?_
  refine wp_iteC rfl (fun c4 => ?_) (fun c4 => ?_)
  ·
   skip
   refine bS (d := dI ((fm.es.length : Nat) : Int)) (sh_len i_fm) ?_
   refine bS (d := dB (decide (((fm.es.length : Nat) : Int) = 0))) sk_eql ?_
   refine wp_iteC rfl (fun c5 => ?_) (fun c5 => ?_)
   ·
    skip
    refine cS (d := dB (true)) hw ?_
    exact wp_retTo rfl rfl
   ·
    have := of_decide_eq_false c5
    rw [hx.1] at this
    exact absurd rfl this
  ·
   exact absurd hx.2 (of_decide_eq_false c4)
 have hz := zz c3
 refine bS (d := dB (decide (¬ fe = 0))) sk_neq ?_
 refine wp_iteC rfl (fun c4 => ?_) (fun c4 => ?_)
 ·
  have hne := nz c4
  have hx : fm = .nil ∧ fe = 23 := by
   rcases hcases with ⟨h0, _⟩ | ⟨_, h1, h2⟩ | ⟨_, _, h2, _⟩
   ·
    exact absurd hz h0
   ·
    exact ⟨h1, h2⟩
   ·
    exact absurd h2 hne
  refine bS (d := dB (decide (fe = 23))) sk_eql ?_
  refine wp_iteC rfl (fun c5 => ?_) (fun c5 => ?_)
  ·
   skip
   refine bS (d := dI ((fm.es.length : Nat) : Int)) (sh_len i_fm) ?_
   refine bS (d := dB (decide (((fm.es.length : Nat) : Int) = 0))) sk_eql ?_
   refine wp_iteC rfl (fun c6 => ?_) (fun c6 => ?_)
   ·
    skip
    refine cS (d := dB (true)) hw ?_
    exact wp_retTo rfl rfl
   ·
    have := of_decide_eq_false c6
    rw [hx.1] at this
    exact absurd rfl this
  ·
   exact absurd hx.2 (of_decide_eq_false c5)
 have hz2 := zz c4
 have hx : fm = lasV gs rs (baseV l ps) ∧ (lasV gs rs (baseV l ps)).es.length ≠ 0 := by
  rcases hcases with ⟨h0, _⟩ | ⟨_, _, h2⟩ | ⟨_, h1, _, h3⟩
  ·
   exact absurd hz h0
  ·
   rw [h2] at hz2; cases hz2
  ·
   exact ⟨h1, h3⟩
 obtain ⟨r1, r2, r3, r4⟩ := rgt_zero hz
 have hlen : (mkOut 3 1 (ps.es.flatMap (FC l))).es.length = ps.es.length := by
  rw [mkOut_es]
  refine cls_len (fun x hx => ?_) r3
  obtain ⟨i, hi⟩ := List.getElem?_of_mem hx
  obtain ⟨_, rfl, _, _, rfl, ⟨p0, rfl⟩, _, _, rfl, ⟨p1, rfl⟩, _, _, rfl, ⟨p2, rfl⟩, rfl⟩ := elem_ofB hp hi
  exact ⟨p0, p1, p2, rfl⟩
 have hle : fm.es.length ≤ (baseV l ps).es.length := by rw [hx.1]; exact hlas.2
 have hge : fm.es.length ≠ 0 := by rw [hx.1]; exact hx.2
 refine cS (d := mkOut 3 1 (ps.es.flatMap (FC l))) (g21 (l := l) rfl rfl hl hp hn) ?_
 refine bS (d := dI (((mkOut 3 1 (ps.es.flatMap (FC l))).es.length : Nat) : Int)) (sh_len i_C) ?_
 refine bS (d := ps) (sh_fld1 rfl i_ps.one) ?_
 refine bS (d := dI ((ps.es.length : Nat) : Int)) (sh_len i_ps) ?_
 refine bS (d := dB (decide ((((mkOut 3 1 (ps.es.flatMap (FC l))).es.length : Nat) : Int) = ((ps.es.length : Nat) : Int)))) sk_eql ?_
 refine wp_iteC rfl (fun c5 => ?_) (fun c5 => ?_)
 ·
  skip
  refine bS (d := ps) (sh_fld1 rfl i_ps.one) ?_
  refine bS (d := dI ((ps.es.length : Nat) : Int)) (sh_len i_ps) ?_
  refine bS (d := dB (decide (((ps.es.length : Nat) : Int) ≥ 1))) sk_geq ?_
  refine wp_iteC rfl (fun c6 => ?_) (fun c6 => ?_)
  ·
   skip
   refine bS (d := ps) (sh_fld1 rfl i_ps.one) ?_
   refine bS (d := dI ((ps.es.length : Nat) : Int)) (sh_len i_ps) ?_
   refine bS (d := dB (decide (((ps.es.length : Nat) : Int) ≤ 4))) sk_leq ?_
   refine wp_iteC rfl (fun c7 => ?_) (fun c7 => ?_)
   ·
    skip
    refine bS (d := dI ((fm.es.length : Nat) : Int)) (sh_len i_fm) ?_
    refine bS (d := dB (decide (((fm.es.length : Nat) : Int) ≥ 1))) sk_geq ?_
    refine wp_iteC rfl (fun c8 => ?_) (fun c8 => ?_)
    ·
     skip
     refine bS (d := dI ((fm.es.length : Nat) : Int)) (sh_len i_fm) ?_
     refine cS (d := baseV l ps) (g22 (l := l) rfl rfl hl hp hn) ?_
     refine bS (d := dI (((baseV l ps).es.length : Nat) : Int)) (sh_len i_base) ?_
     refine bS (d := dB (decide (((fm.es.length : Nat) : Int) ≤ (((baseV l ps).es.length : Nat) : Int)))) sk_leq ?_
     refine wp_iteC rfl (fun c9 => ?_) (fun c9 => ?_)
     ·
      skip
      refine cS (d := dB (true)) hw ?_
      exact wp_retTo rfl rfl
     ·
      have h9 : ¬ ((fm.es.length : Nat) : Int) ≤ (((baseV l ps).es.length : Nat) : Int) := of_decide_eq_false c9
      omega
    ·
     have := of_decide_eq_false c8; omega
   ·
    have := of_decide_eq_false c7; omega
  ·
   have := of_decide_eq_false c6; omega
 ·
  have := of_decide_eq_false c5; omega
end Go.Proofs.YtnemldklhelbeaaGreat
namespace Go.Proofs.YtnemldklhelbeaaGreat
open Go Go.Am Go.Proofs
namespace surfaceShort
mutual
theorem bulk_le {H : Type} : ∀ d : DataW H, wBulk d ≤ Rows.uptoBulk d
 | .lit l => by cases l <;> simp [wBulk, Rows.uptoBulk]
 | .nil => by simp [wBulk, Rows.uptoBulk]
 | .ptr d => by have := bulk_le d; simp only [wBulk, Rows.uptoBulk]; omega
 | .slice a b => by have := bulks_le a; have := bulks_le b; simp only [wBulk, Rows.uptoBulk]; omega
 | .agg a => by have := bulks_le a; simp only [wBulk, Rows.uptoBulk]; omega
 | .iface _ d => by have := bulk_le d; simp only [wBulk, Rows.uptoBulk]; omega
 | .map _ => by simp only [wBulk, Rows.uptoBulk]; omega
 | .held _ => by simp [wBulk, Rows.uptoBulk]
theorem bulks_le {H : Type} : ∀ l : List (DataW H), wBulks l ≤ Rows.uptoBulkAll l
 | [] => Nat.le_refl _
 | d :: l => by have := bulk_le d; have := bulks_le l; simp only [wBulks, Rows.uptoBulkAll]; omega
end
theorem shapes : argShs Tryz.prog 100 Tryz.f5.params.toList = some [ShL, .st [ShP]] := by kernel_rfl
theorem law_all (ds : List D) (h : HasBs 1048576 [ShL, .st [ShP]] ds) : Holds EE 5 ds (dB true) := by
 simp only [HasBs] at h
 obtain ⟨p, r, rfl, hp, q, r', rfl, hq, rfl⟩ := h
 exact law5 (by simpa only [HasB, HasBs] using hp) (by simpa only [HasB, HasBs] using hq) awake
theorem prog_eq : EE.prog = Tryz.prog := rfl
theorem sizes (t : TypeId) (ti : TI) (h : EE.types.get t = some ti) : ti.size = Tryz.prog.cellsOf t := size_cells he h
theorem law_run {H : Type} {enc : TypeId × Value → H} {W : World} {args : List Value} {ds : List (DataW H)} {p : List MemPlace}
  (hA : DataW.TrodAll enc Tryz.prog W 0 (fun _ => true) true Tryz.f5.params.toList args ds p)
  (hok : ∀ (j : Nat) t v, Tryz.f5.params.toList[j]? = some t → args[j]? = some v → Value.okWide Tryz.prog W .any 0 t v) (hB : wBulks ds ≤ 1048576) :
  Calls Tryz.prog 5 ⟨args⟩ W fun e w' => e = .returned (.bool true) ∧ Kept W w' := by
 have h1 := shapes
 have h2 := sizes
 have h3 := prog_eq
 have h4 := law_all
 generalize hts : Tryz.f5.params.toList = ts at *
 generalize hP : Tryz.prog = P at *
 exact lawB_calls (E := EE) h3 h2 h1 h4 hA hok hB
open Go.ChangeShapes Go.WideShapes Go.ChangeAt Go.RowKit
theorem own : ownKnob Tryz.prog.godebug = none := by kernel_rfl
theorem laid : laidOutB Tryz.prog = true := by kernel_rfl
theorem maps : mapsRowed Tryz.prog = true := by kernel_rfl
theorem full : ∀ t e, t < Tryz.prog.types.size → Tryz.prog.underlying t = some (.slice e) → 0 < Tryz.prog.cellsOf e := slices_full_of Tryz.prog (by kernel_rfl)
theorem ps5 : ∀ t ∈ Tryz.f5.params.toList, t < Tryz.prog.types.size := by
 have h : (Tryz.f5.params.toList.all fun t => Nat.blt t Tryz.prog.types.size) = true := by kernel_rfl
 intro t ht
 exact Nat.le_of_ble_eq_true (List.all_eq_true.1 h t ht)
def emptyL : Value := .agg #[.slice none 0 0, .string ⟨#[]⟩, .slice none 0 0, .slice none 0 0, .slice none 0 0, .int .i64 0, .slice none 0 0, .slice none 0 0, .slice none 0 0]
def emptyLD {H : Type} : DataW H := .agg [.agg [.nil], .agg [.lit (.string []), .nil, .nil], .nil, .agg [.lit (.int .i64 0), .nil, .nil], .nil]
set_option maxRecDepth 100000 in
theorem lifted (os : Os) (started : os.Started) (H : Type) (enc : TypeId × Value → H) (F : Stop.Interp) :
  ReturnsInHanded {} Tryz.checked os 5 .any ((Rows.OpenSpec.upto Rows.surfaceShortSpec).pre6 enc Tryz.prog Tryz.f5 Rows.surfaceShortUptoRow.domain false) (((Rows.OpenSpec.upto Rows.surfaceShortSpec).at F).post enc Tryz.prog Tryz.f5 false true false false) := by
 refine returnsInHanded_of_cond (C := Tryz.checked) (s := Rows.OpenSpec.upto Rows.surfaceShortSpec) (k := Rows.uptoSmall) rfl own started (by kernel_rfl) Tryz.func5
  (OpenSpec.witness (enc := enc) (C := Tryz.checked) (s := Rows.OpenSpec.upto Rows.surfaceShortSpec) (k := Rows.uptoSmall) rfl false ⟨#[], #[emptyL, .agg #[.slice none 0 0]], []⟩ 8 (by kernel_rfl) (by kernel_rfl) (by kernel_rfl)
   (x := ([emptyLD, .agg [.nil]], [], [])) (by kernel_rfl) rfl (by kernel_rfl)) ?_
 intro W base args ds gs before hval0 hW _ hk0 _
 have hval : ∀ (j : Nat) t v, Tryz.f5.params[j]? = some t → args[j]? = some v → Value.okWide Tryz.prog W .any base t v := hval0
 have hW' := hW
 obtain ⟨p, q, hA0, hV, rfl, hfz, hnd⟩ := hW
 have hA : DataW.TrodAll enc Tryz.prog W 0 (fun _ => true) true Tryz.f5.params.toList args.toList ds p := hA0
 have hAll := hA
 rw [Tryz.params5] at hA
 obtain ⟨v0, vs0, d0, ds0, p0, q0, hargs, rfl, rfl, h0, r0⟩ := trodAll_cons hA
 obtain ⟨v1, vs1, d1, ds1, p1, q1, rfl, rfl, rfl, h1, r1⟩ := trodAll_cons r0
 obtain ⟨rfl, rfl, rfl⟩ := trodAll_nil r1
 obtain rfl : args = #[v0, v1] := by cases args; simp_all
 obtain ⟨rfl, rfl⟩ := trodVars_none hV
 have hB : wBulks [d0, d1] ≤ 1048576 := Nat.le_trans (bulks_le _) (of_decide_eq_true hk0)
 have hcall : Calls Tryz.prog 5 #[v0, v1] W fun e w' => e = .returned (.bool true) ∧ Kept W w' :=
  law_run hAll (fun j t v e1 e2 => show Value.okWide Tryz.prog W .any 0 t v from hval j t v (by simpa using e1) (by simpa using e2)) hB
 refine hcall.mono fun e W' ⟨he, hk⟩ => ?_
 subst he
 exact ⟨_, rfl, post_of_kept (pv := []) hW' (fun _ _ _ => trodAll_cons_mk (shut_bool Tryz.underlying4 _) trodAll_mk0) (fun sp hsp => trodAll_again laid maps full ps5 hAll hk (fun p hp => hsp p (List.mem_append_left _ hp))) (fun _ _ => rfl) rfl hk
  (ok_one (by kernel_rfl) rfl (okWide_bool_mk Tryz.underlying4 _))⟩
end surfaceShort
end Go.Proofs.YtnemldklhelbeaaGreat
