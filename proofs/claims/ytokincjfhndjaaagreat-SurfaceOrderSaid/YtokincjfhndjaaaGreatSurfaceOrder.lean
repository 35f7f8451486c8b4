/- SurfaceOrder: for every input it returns true, and each argument reads afterwards as before. Conditions: none. -/
import Derived.Test.YtokincjfhndjaaaGreatRu8
namespace Go.Proofs.YtokincjfhndjaaaGreat
open Go Go.Am Go.Proofs
open Go.ChangeShapes Go.WideShapes Go.ChangeAt Go.RowKit

namespace surfaceOrder
theorem own : ownKnob Tryz.prog.godebug = none := by kernel_rfl
theorem laid : laidOutB Tryz.prog = true := by kernel_rfl
theorem maps : mapsRowed Tryz.prog = true := by kernel_rfl
theorem full : ∀ t e, t < Tryz.prog.types.size → Tryz.prog.underlying t = some (.slice e) → 0 < Tryz.prog.cellsOf e := slices_full_of Tryz.prog (by kernel_rfl)
theorem ps4 : ∀ t ∈ Tryz.f4.params.toList, t < Tryz.prog.types.size := by
  have h : (Tryz.f4.params.toList.all fun t => Nat.blt t Tryz.prog.types.size) = true := by kernel_rfl
  intro t ht
  exact Nat.le_of_ble_eq_true (List.all_eq_true.1 h t ht)

theorem agg_one {σ : Sig} {na : Bool} {b l c : Nat} {s' : Value} (h : VR σ (sv na b l c) s') : VR σ (an (sv na b l c)) (an s') :=
  .agg (.cons h .nil) (by cases na <;> rfl)

set_option maxRecDepth 100000 in
theorem lifted (os : Os) (started : os.Started) (H : Type) (enc : TypeId × Value → H) :
    ReturnsInHanded {} Tryz.checked os 4 .any (Rows.surfaceOrderSpec.pre6 enc Tryz.prog Tryz.f4 Rows.surfaceOrderRow.domain false) (Rows.surfaceOrderSpec.post enc Tryz.prog Tryz.f4 false true false false) := by
  refine returnsInHanded_of_change (C := Tryz.checked) own started (by kernel_rfl) Tryz.func4
    (ChangeSpec.witness6 (enc := enc) (C := Tryz.checked) false ⟨#[], #[.agg #[.slice none 0 0], .agg #[.slice none 0 0], .agg #[.slice none 0 0]], []⟩ 8 (by kernel_rfl) (by kernel_rfl) (by kernel_rfl) (by kernel_rfl)) ?_
  intro W base args ds gs before hval0 hW hcnd _
  have hval : ∀ (j : Nat) t v, Tryz.f4.params[j]? = some t → args[j]? = some v → Value.okWide Tryz.prog W .any base t v := hval0
  have hW' := hW
  obtain ⟨p, q, hA0, hV, rfl, hfz, hnd⟩ := hW
  have hA : DataW.TrodAll enc Tryz.prog W 0 (fun _ => true) true Tryz.f4.params.toList args.toList ds p := hA0
  have hAll := hA
  rw [Tryz.params4] at hA hval
  obtain ⟨v0, vs0, d0, ds0, p0, q0, hargs, rfl, rfl, h0, r0⟩ := trodAll_cons hA
  obtain ⟨v1, vs1, d1, ds1, p1, q1, rfl, rfl, rfl, h1, r1⟩ := trodAll_cons r0
  obtain ⟨v2, vs2, d2, ds2, p2, q2, rfl, rfl, rfl, h2, r2⟩ := trodAll_cons r1
  obtain ⟨rfl, rfl, rfl⟩ := trodAll_nil r2
  obtain rfl : args = #[v0, v1, v2] := by cases args; simp_all
  obtain ⟨rfl, rfl⟩ := trodVars_none hV
  obtain ⟨us, na, ca, oA, sa, rfl, a1, a2, a3⟩ := openA (hval 0 24 v0 rfl rfl) h0
  obtain ⟨vs, nb, cb, oB, sb, rfl, b1, b2, b3⟩ := openA (hval 1 24 v1 rfl rfl) h1
  obtain ⟨ws, nc, cc, oC, sc, rfl, c1, c2, c3⟩ := openA (hval 2 24 v2 rfl rfl) h2
  clear hA0 hval0
  obtain ⟨H', hrun⟩ := run4 us vs ws na nb nc ca cb cc a1 b1 c1
  have hcall : Calls Tryz.prog 4 #[an sa, an sb, an sc] W fun e w' => e = .returned (.bool true) ∧ Kept W w' :=
    in_calls he c6_ok hm (bl := [(flat us, 46), (flat vs, 46), (flat ws, 46)]) (ls := [oA, oB, oC]) (Nat.le_refl _) (three_locs a2 b2 c2) hrun rfl
      (.cons (agg_one (a3 _ _ fun L e => inS_at (i := 0) hm (by rw [e]; rfl))) (.cons (agg_one (b3 _ _ fun L e => inS_at (i := 1) hm (by rw [e]; rfl)))
        (.cons (agg_one (c3 _ _ fun L e => inS_at (i := 2) hm (by rw [e]; rfl))) .nil)))
  refine hcall.mono fun e W' ⟨he, hk⟩ => ?_
  subst he
  exact ⟨_, rfl, post_of_kept (pv := []) hW' (fun _ _ _ => trodAll_cons_mk (shut_bool Tryz.underlying4 _) trodAll_mk0) (fun sp hsp => trodAll_again laid maps full ps4 hAll hk (fun p hp => hsp p (List.mem_append_left _ hp))) (fun _ _ => rfl) rfl hk
    (ok_one (by kernel_rfl) rfl (okWide_bool_mk Tryz.underlying4 _))⟩

theorem proved : Rows.SurfaceOrderSaid :=
  OpenClaim.holds_of_wide 4 Tryz.f4 rfl rfl rfl rfl rfl rfl rfl ⟨rfl, rfl, rfl, rfl, rfl⟩ rfl rfl rfl rfl rfl (by kernel_rfl) Tryz.func4 (by kernel_rfl)
    (of_decide_eq_true (by kernel_rfl)) (by unfold Func.isWrapper; first | (rw [if_pos (by decide +kernel)]; kernel_rfl) | (rw [if_neg (by decide +kernel)]; exact ⟨rfl, rfl⟩))
    (fun os started H enc _ => lifted os started H enc)
end surfaceOrder
#print axioms surfaceOrder.proved
end Go.Proofs.YtokincjfhndjaaaGreat
