/- EditionChecks: what the call does in any world with small arguments, in the form's words. Conditions: none. -/
import Derived.Test.YtbkinfgpcjjaaaaGreatDoorEr
import Derived.Test.YtbkinfgpcjjaaaaGreatDoorOr
import Derived.Test.YtbkinfgpcjjaaaaGreatDoorTie
import Derived.Test.YtbkinfgpcjjaaaaGreatDoorCards
import Derived.ProofKit
import Derived.LaidMore
import Derived.Lay
import Derived.SevenTiedAt
import Derived.OpenShut
import Derived.JoinedCond
import Derived.Stop.Joined
import Derived.Deep.DeepHandedRow
set_option linter.all false
namespace Go.Proofs.YtbkinfgpcjjaaaaGreatDoor
open Go Go.Am Go.Proofs
mutual
theorem bulk_le {H : Type} : ∀ d : DataW H, wBulk d ≤ Rows.uptoBulk d
  | .lit l => by cases l <;> simp [wBulk, Rows.uptoBulk]
  | .nil => by simp [wBulk, Rows.uptoBulk]
  | .ptr d => by have := bulk_le d; simp only [wBulk, Rows.uptoBulk]; omega
  | .slice a b => by have := bulks_le a; have := bulks_le b; simp only [wBulk, Rows.uptoBulk]; omega
  | .agg a => by have := bulks_le a; simp only [wBulk, Rows.uptoBulk]; omega
  | .iface _ d => by have := bulk_le d; simp only [wBulk, Rows.uptoBulk]; omega
  | .map _ => by simp only [wBulk, Rows.uptoBulk]; omega
  | .held _ => by simp [wBulk, Rows.uptoBulk]
theorem bulks_le {H : Type} : ∀ l : List (DataW H), wBulks l ≤ Rows.uptoBulkAll l
  | [] => Nat.le_refl _
  | d :: l => by have := bulk_le d; have := bulks_le l; simp only [wBulks, Rows.uptoBulkAll]; omega
end
theorem shapes : argShs Tryz.prog 100 Tryz.f3.params.toList = some [ShP, ShPl] := by kernel_rfl
theorem prog_eq : EE.prog = Tryz.prog := rfl
theorem sizes (t : TypeId) (ti : TI) (h : EE.types.get t = some ti) : ti.size = Tryz.prog.cellsOf t := size_cells he h
theorem law_run {H : Type} {enc : TypeId × Value → H} {W : World} {args : List Value} {ds : List (DataW H)} {p : List MemPlace}
    (hA : DataW.TrodAll enc Tryz.prog W 0 (fun _ => true) true Tryz.f3.params.toList args ds p)
    (hok : ∀ (j : Nat) t v, Tryz.f3.params.toList[j]? = some t → args[j]? = some v → Value.okWide Tryz.prog W .any 0 t v) (hB : wBulks ds ≤ 1048576) :
    Calls Tryz.prog 3 ⟨args⟩ W fun e w' => e = .returned (.bool true) ∧ Kept W w' := by
  have h1 := shapes
  have h2 := sizes
  have h3 := prog_eq
  have h4 := law_all
  generalize hts : Tryz.f3.params.toList = ts at *
  generalize hP : Tryz.prog = P at *
  exact lawB_calls (E := EE) h3 h2 h1 h4 hA hok hB
open Go.ChangeShapes Go.WideShapes Go.ChangeAt Go.RowKit
namespace editionChecks
theorem own : ownKnob Tryz.prog.godebug = none := by kernel_rfl
theorem laid : laidOutB Tryz.prog = true := by kernel_rfl
theorem maps : mapsRowed Tryz.prog = true := by kernel_rfl
theorem full : ∀ t e, t < Tryz.prog.types.size → Tryz.prog.underlying t = some (.slice e) → 0 < Tryz.prog.cellsOf e := slices_full_of Tryz.prog (by kernel_rfl)
theorem ps3 : ∀ t ∈ Tryz.f3.params.toList, t < Tryz.prog.types.size := by
  have h : (Tryz.f3.params.toList.all fun t => Nat.blt t Tryz.prog.types.size) = true := by kernel_rfl
  intro t ht
  exact Nat.le_of_ble_eq_true (List.all_eq_true.1 h t ht)
def empty : Value := .agg #[.slice none 0 0, .string ⟨#[]⟩, .slice none 0 0, .slice none 0 0, .slice none 0 0, .int .i64 0, .slice none 0 0, .slice none 0 0, .slice none 0 0, .slice none 0 0, .slice none 0 0, .slice none 0 0, .slice none 0 0, .slice none 0 0, .slice none 0 0, .slice none 0 0]
def emptyD {H : Type} : DataW H := .agg [.agg [.agg [.nil], .agg [.lit (.string []), .nil, .nil], .nil, .agg [.lit (.int .i64 0), .nil, .nil], .nil], .nil, .nil, .nil, .agg [.nil, .nil, .nil, .nil]]
def empty2 : Value := .agg #[.int .i64 0, .int .i64 0, .int .i64 0, .slice none 0 0, .int .i64 0]
def empty2D {H : Type} : DataW H := .agg [.lit (.int .i64 0), .agg [.lit (.int .i64 0), .lit (.int .i64 0)], .nil, .lit (.int .i64 0)]
abbrev lv : List (String × DataW Unit) := [("math/bits.deBruijn32tab", Rows.laid_math_bits_deBruijn32tab), ("math/bits.deBruijn64tab", Rows.laid_math_bits_deBruijn64tab), ("internal/strconv.uint64pow10", Rows.laid_internal_strconv_uint64pow10), ("unicode/utf8.acceptRanges", Rows.laid_unicode_utf8_acceptRanges), ("unicode/utf8.first", Rows.laid_unicode_utf8_first)]
theorem laid_met (os : Os) : laidMet Tryz.prog Rows.editionChecksUptoRow.laid ((World.laidAll Tryz.prog os lv).forCall (fun _ _ => 0) ⟨#[], #[empty, empty2], []⟩).memory :=
  laidMet_laidAll (laid := lv) _ (by kernel_rfl) (by kernel_rfl)
theorem reads (os : Os) {H : Type} (enc : TypeId × Value → H) : ∃ places, DataW.whole enc Tryz.prog ((World.laidAll Tryz.prog os lv).forCall (fun _ _ => 0) ⟨#[], #[empty, empty2], []⟩).memory Tryz.f3.params.toList Rows.editionChecksSpec.vars false #[empty, empty2].toList 8 = some ([emptyD, empty2D], [], places) :=
  ⟨[], by kernel_rfl⟩
set_option maxRecDepth 100000 in
theorem lifted (os : Os) (started : os.Started) (H : Type) (enc : TypeId × Value → H) (F : Stop.Interp) :
    ReturnsInHanded {} Tryz.checked os 3 .any ((Rows.OpenSpec.upto Rows.editionChecksSpec).preRow enc Tryz.prog Tryz.f3 Rows.editionChecksUptoRow.domain false Rows.editionChecksUptoRow.laid) (((Rows.OpenSpec.upto Rows.editionChecksSpec).at F).post enc Tryz.prog Tryz.f3 false true false false) := by
  obtain ⟨places, hx⟩ := reads os enc
  refine returnsInHanded_of_row (C := Tryz.checked) (s := Rows.OpenSpec.upto Rows.editionChecksSpec) own started (by kernel_rfl) Tryz.func3
    (witness_row_at (enc := enc) (C := Tryz.checked) false (World.laidAll Tryz.prog os lv) #[empty, empty2] (World.laidAll_os _ _ _) (by kernel_rfl) (by kernel_rfl) (by kernel_rfl)
      (OpenSpec.preRow_of_cond 8 hx (by kernel_rfl) (fun k hk => by cases hk; kernel_rfl) (by kernel_rfl) (laid_met os))) ?_
  intro W base args ds gs before hval0 hW _ hk0 _ _ _ _
  have hval : ∀ (j : Nat) t v, Tryz.f3.params[j]? = some t → args[j]? = some v → Value.okWide Tryz.prog W .any base t v := hval0
  have hW' := hW
  obtain ⟨p, q, hA0, hV, rfl, hfz, hnd⟩ := hW
  have hA : DataW.TrodAll enc Tryz.prog W 0 (fun _ => true) true Tryz.f3.params.toList args.toList ds p := hA0
  have hAll := hA
  rw [Tryz.params3] at hA
  obtain ⟨v0, vs0, d0, ds0, p0, q0, hargs, rfl, rfl, h0, r0⟩ := trodAll_cons hA
  obtain ⟨v1, vs1, d1, ds1, p1, q1, rfl, rfl, rfl, h1, r1⟩ := trodAll_cons r0
  obtain ⟨rfl, rfl, rfl⟩ := trodAll_nil r1
  obtain rfl : args = #[v0, v1] := by cases args; simp_all
  obtain ⟨rfl, rfl⟩ := trodVars_none hV
  have hk1 := hk0 _ rfl
  have hB : wBulks [d0, d1] ≤ 1048576 := Nat.le_trans (bulks_le _) (of_decide_eq_true hk1)
  have hcall : Calls Tryz.prog 3 #[v0, v1] W fun e w' => e = .returned (.bool true) ∧ Kept W w' :=
    law_run hAll (fun j t v e1 e2 => show Value.okWide Tryz.prog W .any 0 t v from hval j t v (by simpa using e1) (by simpa using e2)) hB
  refine hcall.mono fun e W' ⟨he, hk⟩ => ?_
  subst he
  exact ⟨_, rfl, post_of_kept (pv := []) hW' (fun _ _ _ => trodAll_cons_mk (shut_bool Tryz.underlying4 _) trodAll_mk0) (fun sp hsp => trodAll_again laid maps full ps3 hAll hk (fun p hp => hsp p (List.mem_append_left _ hp))) (fun _ _ => rfl) rfl hk
    (ok_one (by kernel_rfl) rfl (okWide_bool_mk Tryz.underlying4 _))⟩
end editionChecks
end Go.Proofs.YtbkinfgpcjjaaaaGreatDoor
