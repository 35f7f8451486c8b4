/- An analysis that came in, opened. Conditions: none. -/
import Derived.Test.YtokincjfhndjaaaGreatRu6
import Derived.Test.YtokincjfhndjaaaGreatAm7
import Derived.Test.YtokincjfhndjaaaGreatRows
import Derived.WalkKit
import Derived.OpenShut
import Derived.Deep.Slices
import Derived.Deep.Strs
namespace Go.Proofs.YtokincjfhndjaaaGreat
open Go Go.Am Go.Proofs
open Go.ChangeShapes Go.WideShapes Go.ChangeAt Go.RowKit

theorem cells22 : Tryz.prog.cellsOf 22 = 1 := by kernel_rfl
theorem cells46 : Tryz.prog.cellsOf 46 = 3 := by kernel_rfl
theorem cells24 : Tryz.prog.cellsOf 24 = 1 := by kernel_rfl
theorem cells3 : Tryz.prog.cellsOf 3 = 1 := by kernel_rfl

theorem fd24 : ∃ f0 : Field, Tryz.prog.underlying 24 = some (.struct #[f0]) ∧ f0.type = 22 ∧ f0.offset = 0 := by
  have h : (match Tryz.prog.underlying 24 with | some (.struct fs) => (fs.toList.length, fs.toList.map fun f => (f.type, f.offset)) | _ => (0, [])) = (1, [(22, 0)]) := by kernel_rfl
  split at h
  · rename_i fs hu
    simp only [Prod.mk.injEq] at h
    obtain ⟨h1, h2⟩ := h
    obtain ⟨l⟩ := fs
    match l, h1 with
    | [f0], _ =>
      simp only [List.map_cons, List.map_nil, List.cons.injEq, Prod.mk.injEq, and_true] at h2
      exact ⟨f0, hu, h2.1, h2.2⟩
  · simp at h

theorem fd46' : ∃ f0 f1 f2 : Field, Tryz.prog.underlying 46 = some (.struct #[f0, f1, f2]) ∧ (f0.type = 3 ∧ f0.offset = 0) ∧ (f1.type = 3 ∧ f1.offset = 1) ∧ (f2.type = 3 ∧ f2.offset = 2) := by
  have h : (match Tryz.prog.underlying 46 with | some (.struct fs) => (fs.toList.length, fs.toList.map fun f => (f.type, f.offset)) | _ => (0, [])) = (3, [(3, 0), (3, 1), (3, 2)]) := by kernel_rfl
  split at h
  · rename_i fs hu
    simp only [Prod.mk.injEq] at h
    obtain ⟨h1, h2⟩ := h
    obtain ⟨l⟩ := fs
    match l, h1 with
    | [f0, f1, f2], _ =>
      simp only [List.map_cons, List.map_nil, List.cons.injEq, Prod.mk.injEq, and_true] at h2
      exact ⟨f0, f1, f2, hu, h2.1, h2.2.1, h2.2.2⟩
  · simp at h

theorem und22 : Tryz.prog.underlying 22 = some (.slice 46) := by kernel_rfl
theorem und3 : Tryz.prog.underlying 3 = some (.int .i64) := by kernel_rfl

section
variable {H : Type} {enc : TypeId × Value → H} {W : World}

theorem open_tri {n : Nat} {cs : List Value} {x : DataW H × List MemPlace} (h : DataW.trod enc Tryz.prog W 0 (fun _ => true) true n 46 cs = some x) : ∃ p : Tri, cs = triL p := by
  obtain ⟨f0, f1, f2, hu, ⟨t0, o0⟩, ⟨t1, o1⟩, ⟨t2, o2⟩⟩ := fd46'
  obtain ⟨y0, y1, y2, m, _, hl, h0, h1, h2⟩ := Deep.trod_struct3 hu h
  rw [cells46] at hl
  rw [t0, o0, cells3] at h0
  rw [t1, o1, cells3] at h1
  rw [t2, o2, cells3] at h2
  match cs, hl with
  | [a, b, c], _ =>
    obtain ⟨i, hi, _⟩ := DataW.trod_int und3 h0
    obtain ⟨j, hj, _⟩ := DataW.trod_int und3 h1
    obtain ⟨k, hk, _⟩ := DataW.trod_int und3 h2
    simp at hi hj hk
    subst hi hj hk
    exact ⟨(i, j, k), rfl⟩

theorem flat_range (n : Nat) (f : Nat → Tri) : ∀ (i : Nat) (v : Value), (flat ((List.range n).map f))[i]? = some v → i / 3 < n ∧ (triL (f (i / 3)))[i % 3]? = some v := by
  have key : ∀ (l : List Tri) (i : Nat) (v : Value), (flat l)[i]? = some v → ∃ p, l[i / 3]? = some p ∧ (triL p)[i % 3]? = some v := by
    intro l
    induction l with
    | nil => intro i v h; simp [flat] at h
    | cons a l ih =>
      intro i v h
      match i with
      | 0 => exact ⟨a, rfl, h⟩
      | 1 => exact ⟨a, rfl, h⟩
      | 2 => exact ⟨a, rfl, h⟩
      | i + 3 =>
        have h' : (flat l)[i]? = some v := h
        obtain ⟨p, h1, h2⟩ := ih i v h'
        refine ⟨p, ?_, ?_⟩
        · rw [show (i + 3) / 3 = i / 3 + 1 by omega]; simpa using h1
        · rw [show (i + 3) % 3 = i % 3 by omega]; exact h2
  intro i v h
  obtain ⟨p, h1, h2⟩ := key _ i v h
  simp only [List.getElem?_map, Option.map_eq_some_iff] at h1
  obtain ⟨j, h3, rfl⟩ := h1
  obtain ⟨h4, h5⟩ := List.getElem?_eq_some_iff.1 h3
  simp only [List.length_range] at h4
  simp only [List.getElem_range] at h5
  subst h5
  exact ⟨h4, h2⟩

set_option maxRecDepth 100000 in
theorem openA {base : Nat} {v : Value} {d : DataW H} {p : List MemPlace} (hv : Value.okWide Tryz.prog W .any base 24 v) (h : DataW.Trod enc Tryz.prog W 0 (fun _ => true) true 24 v d p) :
    ∃ (us : List Tri) (na : Bool) (c : Nat) (oL : Option Am.Loc) (s' : Value), v = .agg ⟨[s']⟩ ∧ (na = true → us = []) ∧ (∀ L, oL = some L → LocOK EE W (flat us) 46 L) ∧
      ∀ (σ' : Sig) (b0 : Nat), (∀ L, oL = some L → σ' b0 = some L) → VR σ' (sv na b0 us.length c) s' := by
  obtain ⟨f0, hu, t0, o0⟩ := fd24
  obtain ⟨cs, rfl, hsz⟩ := okWide_struct (P := Tryz.prog) hu hv
  rw [cells24] at hsz
  obtain ⟨n, hn⟩ := h
  have hn' : DataW.trod enc Tryz.prog W 0 (fun _ => true) true n 24 cs.toList = some (d, p) := hn
  obtain ⟨y0, m, _, _, h0⟩ := trod_struct1 hu hn'
  rw [t0, o0, cells22] at h0
  obtain ⟨l⟩ := cs
  match l, hsz with
  | [s'], _ =>
  have e1 : List.take 1 (List.drop 0 (⟨[s']⟩ : Array Value).toList) = [s'] := rfl
  rw [e1] at h0
  have h0' : DataW.trod enc Tryz.prog W 0 (fun _ => true) true m 22 [s'] = some y0 := h0
  rcases Deep.open_slice und22 h0' with ⟨hs, _⟩ | ⟨a, len, cap, mm, nn, D, Pl, hs, _, hlc, hcap, hmm, _, hx⟩
  · simp at hs
    subst hs
    exact ⟨[], true, 0, none, _, rfl, (fun _ => rfl), (fun L e => by cases e), (fun σ' b0 _ => VR.leaf rfl)⟩
  · simp at hs
    subst hs
    simp only [if_true] at hmm
    subst hmm
    rw [cells46] at hx
    obtain ⟨f, hf⟩ := Deep.choose_lt (α := Tri) (p := fun i t => W.cells? 0 (a.add (i * 3)) 3 = some (triL t)) (fun i hi => by
      obtain ⟨cs', h1, h2⟩ := hx i hi
      obtain ⟨t, rfl⟩ := open_tri h2
      exact ⟨t, h1⟩)
    have hcell : ∀ i j, i < mm → j < 3 → W.cell? ((a.add (i * 3)).add j) = (triL (f i))[j]? := fun i j hi hj => (World.cells?_some (hf i hi)).2.2 j hj
    have hlen : ((List.range len).map f).length = len := by simp
    by_cases hc0 : mm = 0
    · have hl0 : len = 0 := by omega
      subst hl0 hc0
      refine ⟨[], false, 0, none, _, rfl, (fun e => by cases e), (fun L e => by cases e), (fun σ' b0 _ => VR.sliceZ (.inl rfl))⟩
    · have h00 := hcell 0 0 (by omega) (by omega)
      have hadd0 : ((a.add (0 * 3)).add 0) = a := by simp [Addr.add]
      rw [hadd0] at h00
      obtain ⟨blk, off, spot⟩ := a
      have hspot : spot = none ∧ ∃ ccs cel fz, W.heap[blk]? = some (.cells ccs cel fz) := by
        unfold World.cell? at h00
        split at h00
        · rename_i ccs cel fz hb
          refine ⟨?_, ccs, cel, fz, hb⟩
          cases spot with
          | none => rfl
          | some s => simp [triL] at h00
        · simp [triL] at h00
      obtain ⟨rfl, ccs, cel, fz, hb⟩ := hspot
      have haddr : ∀ i j, ((⟨blk, off, none⟩ : Addr).add (i * 3)).add j = ⟨blk, off + (i * 3 + j), none⟩ := by
        intro i j
        unfold Addr.add
        by_cases h1 : i * 3 = 0 <;> by_cases h2 : j = 0 <;> simp [h1, h2, Nat.add_assoc]
      have hget : ∀ i j, i < mm → j < 3 → ccs[off + (i * 3 + j)]? = (triL (f i))[j]? := by
        intro i j hi hj
        rw [← hcell i j hi hj, haddr]
        simp [World.cell?, hb]
      have hsize : off + mm * 3 ≤ ccs.size := by
        have h1 := hget (mm - 1) 2 (by omega) (by omega)
        have h2 : (triL (f (mm - 1)))[2]? = some (i64 (f (mm - 1)).2.2) := rfl
        rw [h2] at h1
        have := (Array.getElem?_eq_some_iff.1 h1).1
        omega
      have hcapX : mm < capX := by
        have : maxLen < capX := by unfold maxLen capX; decide
        omega
      refine ⟨(List.range len).map f, false, mm, some ⟨blk, off, mm * 3, 3⟩, _, rfl, (fun e => by cases e), (fun L e => ?_), (fun σ' b0 h0 => ?_)⟩
      · cases e
        refine ⟨flat_leaf _, ⟨ccs, cel, fz, hb, hsize, fun i v hi => ?_⟩, by rw [flat_len, hlen]; show 3 * len ≤ mm * 3; omega, fun ti hti => ?_⟩
        · obtain ⟨h1, h2⟩ := flat_range len f i v hi
          have := hget (i / 3) (i % 3) (by omega) (by omega)
          rw [show i / 3 * 3 + i % 3 = i by omega, h2] at this
          exact this
        · obtain ⟨ti', g1, _, g3⟩ := ty46
          rw [g1] at hti; cases hti
          exact g3.symm
      · rw [hlen]
        have := VR.sliceE (σ := σ') (b := b0) (i := 0) (l := len) (c := mm) (L := ⟨blk, off, mm * 3, 3⟩) (h0 _ rfl) hlc hcapX
        simpa [sv] using this
end
end Go.Proofs.YtokincjfhndjaaaGreat
