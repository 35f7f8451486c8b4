/- The library's words on rows of cells, in the abstract heap's words. Conditions: none. -/
import Derived.Test.YtbmjdlgfnoaocaaGreatUn
import Derived.Test.YtbmjdlgfnoaocaaGreatAm6
import Derived.Sort.Row
import Derived.Sort.Grow
import Derived.Deep.Draws
set_option linter.unusedVariables false
set_option linter.unusedSimpArgs false
namespace Go.Am
open Go
section
variable {E : Env} {σ : Sig} {H : AH} {w : World} {b rt el : Nat} {cs : List Value} {L : Loc} {F : Array Value}
theorem leaf_eq {v v' : Value} (h : VR σ v v') (hl : dleaf v = true) : v' = v := by
  cases h <;> first | rfl | simp [dleaf] at hl
theorem row_obj (hr : HR E σ H w) (hb : H.blocks.get b = some ⟨.cells cs el, rt, true⟩) (hs : σ b = some L) : ∃ ccs cel fz, w.heap[L.blk]? = some (.cells ccs cel fz) ∧ OwnC L el cel ccs.size fz ∧ L.off + L.ext ≤ ccs.size ∧ cs.length ≤ L.ext ∧
    (∀ ti, E.types.get el = some ti → L.sz = ti.size) ∧ ∀ i v, cs[i]? = some v → oneCell v = true ∧ ∃ v', ccs[L.off + i]? = some v' ∧ VR σ v v' := by
  obtain ⟨o, h1, h2⟩ := hr.objs b _ L hb hs
  cases o with
  | cells ccs cel fz =>
    simp only [ObjR] at h2
    exact ⟨ccs, cel, fz, h1, h2.1 trivial, h2.2.1, h2.2.2.1, h2.2.2.2.1, h2.2.2.2.2⟩
  | _ => simp only [ObjR] at h2
theorem row_at (ht : take? cs F.size = some F.toList) {j : Nat} (hj : j < F.size) : cs[j]? = some F[j]! := by
  obtain ⟨t1, t2⟩ := take_some ht
  have h1 : F.toList[j]? = some F[j]! := by rw [Array.getElem?_toList, getElem!_pos F j hj, Array.getElem?_eq_getElem hj]
  rw [t1, List.getElem?_take, if_pos hj] at h1
  exact h1
theorem holds_of_row (hr : HR E σ H w) (hb : H.blocks.get b = some ⟨.cells cs el, rt, true⟩) (hs : σ b = some L) (ht : take? cs F.size = some F.toList) (hf : ∀ v ∈ F.toList, dleaf v = true) : Sort.Holds id w L.blk L.off F := by
  obtain ⟨ccs, cel, fz, h1, h2, h3, h4, h5, h6⟩ := row_obj hr hb hs
  intro j hj
  obtain ⟨_, v', e1, e2⟩ := h6 j _ (row_at ht hj)
  have hv := leaf_eq e2 (hf _ (by rw [getElem!_pos F j hj]; exact Array.getElem_mem_toList hj))
  subst hv
  refine ⟨by simp only [World.cell?, h1]; exact e1, ?_⟩
  have hlt : L.off + j < ccs.size := (Array.getElem?_eq_some_iff.1 e1).1
  simp only [World.frozen?, h1]
  rcases h2.1 with hz | hz
  · rw [hz]; simp
  · have : ¬ fz.1 ≤ L.off + j := by omega
    simp [this]
theorem step_put (hr : HR E σ H w) (hb : H.blocks.get b = some ⟨.cells cs el, rt, true⟩) (hs : σ b = some L) {F' : Array Value} (ht : F'.size ≤ cs.length) (hf : ∀ v ∈ F'.toList, dleaf v = true ∧ oneCell v = true) (m : Nat) (os : Array Obj) :
    Step E σ H w σ (H.write b ⟨.cells cs el, rt, true⟩ (.cells (F'.toList ++ cs.drop F'.size) el)) (Sort.grow (Sort.putRow id (Sort.ahead w m) L.blk L.off F') os) := by
  obtain ⟨ccs, cel, fz, h1, h2, h3, h4, h5, h6⟩ := row_obj hr hb hs
  have hps : (Sort.putCells id L.off F' ccs).size = ccs.size := by simp [Sort.putCells]
  have hset : WSet w (Sort.putRow id (Sort.ahead w m) L.blk L.off F') L.blk (.cells (Sort.putCells id L.off F' ccs) cel fz) := by
    refine ⟨by rw [Sort.size_putRow]; rfl, ?_, ?_, rfl, rfl, rfl, Nat.le_add_right _ _⟩
    · show ((Sort.ahead w m).heap.modify L.blk (Sort.onCells _))[L.blk]? = _
      have h1' : (Sort.ahead w m).heap[L.blk]? = some (.cells ccs cel fz) := h1
      rw [Array.getElem?_modify, if_pos rfl, h1']
      rfl
    · intro B hB
      show ((Sort.ahead w m).heap.modify L.blk (Sort.onCells _))[B]? = _
      rw [Array.getElem?_modify, if_neg (fun e => hB e.symm)]
      rfl
  have hobj : ObjR E σ L true (.cells (F'.toList ++ cs.drop F'.size) el) (.cells (Sort.putCells id L.off F' ccs) cel fz) := by
    simp only [ObjR]
    refine ⟨fun _ => by rw [hps]; exact h2, by rw [hps]; exact h3, ?_, h5, ?_⟩
    · rw [List.length_append, List.length_drop, Array.length_toList]; omega
    · intro i v hi
      by_cases hlt : i < F'.size
      · rw [List.getElem?_append_left (by rw [Array.length_toList]; exact hlt)] at hi
        have hm := List.mem_of_getElem? hi
        refine ⟨(hf v hm).2, v, ?_, .leaf (by have := (hf v hm).1; cases v <;> simp_all [dleaf, leafV])⟩
        have hb' : L.off + i < ccs.size := by omega
        rw [Array.getElem?_toList] at hi
        simp only [Sort.putCells, Array.getElem?_mapIdx, Array.getElem?_eq_getElem hb', Option.map_some]
        rw [if_pos ⟨Nat.le_add_right _ _, by omega⟩, Nat.add_sub_cancel_left, getElem!_pos F' i hlt]
        rw [Array.getElem?_eq_getElem hlt] at hi
        exact hi
      · rw [List.getElem?_append_right (by rw [Array.length_toList]; omega), Array.length_toList, List.getElem?_drop, show F'.size + (i - F'.size) = i by omega] at hi
        obtain ⟨q1, v', q2, q3⟩ := h6 i v hi
        refine ⟨q1, v', ?_, q3⟩
        simp only [Sort.putCells, Array.getElem?_mapIdx, q2, Option.map_some]
        rw [if_neg (by omega)]
  have s1 := Step.write hr hb rfl hs hset hobj
  refine s1.trans (Step.kept s1.hr ⟨?_, ?_, rfl, rfl, rfl, Nat.le_refl _⟩)
  · simp [Sort.grow]
  · intro B hB
    show ((Sort.putRow id (Sort.ahead w m) L.blk L.off F').heap ++ os)[B]? = _
    rw [Array.getElem?_append_left hB]
theorem holds_pure {f : FuncId} {ds : List D} {v : Value} (h : Holds E f ds (.leaf v)) {azq : List Value} (hd : ∀ g, DRs g ds azq) (hv : ∀ σ, VRs σ azq azq) (hl : leafV v = true) (W : World) :
    Calls E.prog f ⟨azq⟩ W fun e w' => e = .returned v ∧ Kept W w' := by
  have h : Holds0 E f ds (.leaf v) := by
    rcases h with ⟨_, h⟩ | ⟨_, _, _, _, rfl, _⟩
    · exact h
    · cases hd (fun _ => none) with
      | cons h1 _ => cases h1
  let m := E.prog.globals.size
  let σ : Sig := fun b => if b < m then some ⟨b, 0, 0, 0⟩ else none
  have h0 : HR E σ (heap0 m) W := ⟨fun b k L hb => by simp [heap0, T.get] at hb, fun b₁ b₂ k₁ k₂ L₁ L₂ hb => by simp [heap0, T.get] at hb,
    fun g hg => ⟨⟨g, 0, 0, 0⟩, if_pos hg, rfl, rfl⟩, fun b k hb => by simp [heap0, T.get] at hb⟩
  obtain ⟨v', H', g', h1, h2, h3, h4, h5, h6, h7, h8, h9⟩ := h.2 (heap0 m) (heap0 m).blocks.get azq (fun b k hb => h0.wf b k hb) (Mem.le_refl _) (hd _)
  have hfree : Free σ (heap0 m).next H'.next := fun b hb _ => by
    have : m ≤ b := hb
    simp only [σ]; rw [if_neg (by omega)]
  refine (h1 σ W azq h0 (hv σ) hfree).mono fun e w' ⟨σ', u, e1, e2, st⟩ => ?_
  have hvv : v' = v := h9.leaf_inv.1
  subst hvv
  have hu : u = v' := by cases e2 <;> first | rfl | simp [leafV] at hl
  subst hu
  exact ⟨e1, st.size, fun B hB => st.frame B hB (fun b k l hb ho => by simp [heap0, T.get] at hb), st.tape, st.os, st.output⟩
theorem kept_grow {W w' : World} (k : Kept W w') : ∃ q os, w' = Sort.grow (W.drewN q) os := by
  refine ⟨w'.drawn - W.drawn, w'.heap.extract W.heap.size w'.heap.size, ?_⟩
  obtain ⟨h1, h2, h3, h4, h5, h6⟩ := k
  cases w' with
  | mk heap tape drawn os output =>
    simp only [Sort.grow, World.drewN] at *
    subst h3 h4 h5
    congr 1
    · apply Array.ext_getElem?
      intro i
      by_cases hi : i < W.heap.size
      · rw [Array.getElem?_append_left hi]; exact h2 i hi
      · rw [Array.getElem?_append_right (by omega), Array.getElem?_extract]
        by_cases hj : i < heap.size
        · rw [if_pos (by omega), show W.heap.size + (i - W.heap.size) = i by omega]
        · rw [if_neg (by omega), Array.getElem?_eq_none (by omega)]
    · omega
end
end Go.Am
