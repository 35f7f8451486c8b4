/- RecheckChanges: for every input it returns true, and each argument reads afterwards as before. Conditions: none. -/
import Derived.Test.YtbmjdlgfnoaocaaGreatNi
import Derived.Test.YtbmjdlgfnoaocaaGreatRows
import Derived.ProofKit
import Derived.LaidMore
import Derived.Lay
set_option linter.unusedVariables false
set_option linter.unusedSimpArgs false
namespace Go.Proofs.YtbmjdlgfnoaocaaGreat
open Go Go.Am Go.Proofs
open Go.ChangeShapes Go.WideShapes Go.ChangeAt Go.RowKit
def shs3 : List Sh := [ShL, ShL, .int .i64]
theorem shapes : argShs Tryz.prog 40 Tryz.f3.params.toList = some shs3 := by kernel_rfl
theorem law_all (ds : List D) (h : HasShs shs3 ds) : Holds EE 3 ds (dB true) := by
  unfold shs3 at h
  simp only [HasShs] at h
  obtain ⟨a, _, rfl, ha, b, _, rfl, hb, c, _, rfl, hc, rfl⟩ := h
  simp only [HasSh] at hc
  obtain ⟨k, rfl⟩ := hc
  exact law3 ha hb
theorem prog_eq : EE.prog = Tryz.prog := rfl
theorem sizes (t : TypeId) (ti : TI) (h : EE.types.get t = some ti) : ti.size = Tryz.prog.cellsOf t := size_cells he h
theorem law_run {H : Type} {enc : TypeId × Value → H} {W : World} {args : List Value} {ds : List (DataW H)} {p : List MemPlace}
    (hA : DataW.TrodAll enc Tryz.prog W 0 (fun _ => true) true Tryz.f3.params.toList args ds p)
    (hok : ∀ (j : Nat) t v, Tryz.f3.params.toList[j]? = some t → args[j]? = some v → Value.okWide Tryz.prog W .any 0 t v) :
    Calls Tryz.prog 3 ⟨args⟩ W fun e w' => e = .returned (.bool true) ∧ Kept W w' := by
  have h1 := shapes
  have h2 := sizes
  have h3 := prog_eq
  have h4 := law_all
  generalize hts : Tryz.f3.params.toList = ts at *
  generalize hP : Tryz.prog = P at *
  exact law_calls (E := EE) h3 h2 h1 h4 hA hok
namespace recheckChanges
theorem own : ownKnob Tryz.prog.godebug = none := by kernel_rfl
theorem laid : laidOutB Tryz.prog = true := by kernel_rfl
theorem maps : mapsRowed Tryz.prog = true := by kernel_rfl
theorem full : ∀ t e, t < Tryz.prog.types.size → Tryz.prog.underlying t = some (.slice e) → 0 < Tryz.prog.cellsOf e := slices_full_of Tryz.prog (by kernel_rfl)
theorem ps3 : ∀ t ∈ Tryz.f3.params.toList, t < Tryz.prog.types.size := by
  have h : (Tryz.f3.params.toList.all fun t => Nat.blt t Tryz.prog.types.size) = true := by kernel_rfl
  intro t ht
  exact Nat.le_of_ble_eq_true (List.all_eq_true.1 h t ht)
set_option maxRecDepth 100000 in
theorem lifted (os : Os) (started : os.Started) (H : Type) (enc : TypeId × Value → H) :
    ReturnsInHanded {} Tryz.checked os 3 .any (Rows.recheckChangesSpec.pre6 enc Tryz.prog Tryz.f3 Rows.recheckChangesRow.domain false) (Rows.recheckChangesSpec.post enc Tryz.prog Tryz.f3 false true false false) := by
  refine returnsInHanded_of_change (C := Tryz.checked) own started (by kernel_rfl) Tryz.func3
    (ChangeSpec.witness6 (enc := enc) (C := Tryz.checked) false ⟨#[], #[.slice none 0 0, .slice none 0 0, .int .i64 0], []⟩ 8 (by kernel_rfl) (by kernel_rfl) (by kernel_rfl) (by kernel_rfl)) ?_
  intro W base args ds gs before hval0 hW hcnd _
  have hval : ∀ (j : Nat) t v, Tryz.f3.params[j]? = some t → args[j]? = some v → Value.okWide Tryz.prog W .any base t v := hval0
  have hW' := hW
  obtain ⟨p, q, hA0, hV, rfl, hfz, hnd⟩ := hW
  have hA : DataW.TrodAll enc Tryz.prog W 0 (fun _ => true) true Tryz.f3.params.toList args.toList ds p := hA0
  have hAll := hA
  rw [Tryz.params3] at hA
  obtain ⟨v0, vs0, d0, ds0, p0, q0, hargs, rfl, rfl, h0, r0⟩ := trodAll_cons hA
  obtain ⟨v1, vs1, d1, ds1, p1, q1, rfl, rfl, rfl, h1, r1⟩ := trodAll_cons r0
  obtain ⟨v2, vs2, d2, ds2, p2, q2, rfl, rfl, rfl, h2, r2⟩ := trodAll_cons r1
  obtain ⟨rfl, rfl, rfl⟩ := trodAll_nil r2
  obtain rfl : args = #[v0, v1, v2] := by cases args; simp_all
  obtain ⟨rfl, rfl⟩ := trodVars_none hV
  have hcall : Calls Tryz.prog 3 #[v0, v1, v2] W fun e w' => e = .returned (.bool true) ∧ Kept W w' :=
    law_run hAll fun j t v e1 e2 => show Value.okWide Tryz.prog W .any 0 t v from hval j t v (by simpa using e1) (by simpa using e2)
  refine hcall.mono fun e W' ⟨he, hk⟩ => ?_
  subst he
  exact ⟨_, rfl, post_of_kept (pv := []) hW' (fun _ _ _ => trodAll_cons_mk (shut_bool Tryz.underlying4 _) trodAll_mk0) (fun sp hsp => trodAll_again laid maps full ps3 hAll hk (fun p hp => hsp p (List.mem_append_left _ hp))) (fun _ _ => rfl) rfl hk
    (ok_one (by kernel_rfl) rfl (okWide_bool_mk Tryz.underlying4 _))⟩
theorem proved : Rows.RecheckChangesSaid :=
  OpenClaim.holds_of_wide 3 Tryz.f3 rfl rfl rfl rfl rfl rfl rfl ⟨rfl, rfl, rfl, rfl, rfl⟩ rfl rfl rfl rfl rfl (by kernel_rfl) Tryz.func3 (by kernel_rfl)
    (of_decide_eq_true (by kernel_rfl)) (by unfold Func.isWrapper; first | (rw [if_pos (by decide +kernel)]; kernel_rfl) | (rw [if_neg (by decide +kernel)]; exact ⟨rfl, rfl⟩))
    (fun os started H enc _ => lifted os started H enc)
end recheckChanges
#print axioms recheckChanges.proved
end Go.Proofs.YtbmjdlgfnoaocaaGreat
