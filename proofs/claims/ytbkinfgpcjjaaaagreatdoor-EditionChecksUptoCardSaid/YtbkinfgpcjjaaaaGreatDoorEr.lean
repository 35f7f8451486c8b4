/- EditionChecks: the law over data of bounded length. Conditions: none. -/
import Derived.Test.YtbkinfgpcjjaaaaGreatDoorEj
import Derived.Test.YtbkinfgpcjjaaaaGreatDoorEl
import Derived.Test.YtbkinfgpcjjaaaaGreatDoorEq
set_option linter.all false
namespace Go.Proofs.YtbkinfgpcjjaaaaGreatDoor
open Go Go.Am Go.Proofs Go.Am.Tt
attribute [local irreducible] Go.Am.wp Go.Am.TOp.eval
abbrev ShP : Sh := (.st [(.sl 92 2 (.st [.str, (.int .i64)])), .str, (.sl 94 2 (.st [.str, (.sl 3 1 (.int .i64))])), (.sl 71 1 (.sl 9 1 .str)), (.sl 90 6 (.st [(.sl 3 1 (.int .i64)), (.sl 3 1 (.int .i64)), (.sl 358 2 (.st [(.int .i64), (.int .i64)])), (.sl 358 2 (.st [(.int .i64), (.int .i64)])), .bool, .bool])), (.int .i64), (.sl 96 3 (.st [(.int .i64), (.int .i64), (.int .i64)])), (.sl 3 1 (.int .i64)), (.sl 106 8 (.st [(.int .i64), (.sl 3 1 (.int .i64)), (.int .i64), (.sl 31 1 (.sl 3 1 (.int .i64))), (.int .i64), (.sl 98 2 (.st [.str, .str])), (.sl 204 2 (.st [(.int .i64), (.int .i64)])), (.sl 101 2 (.st [(.int .i64), (.int .i64)]))])), (.sl 68 7 (.st [(.int .i64), .str, (.int .i64), (.int .i64), (.sl 3 1 (.int .i64)), (.sl 112 4 (.st [.str, (.int .i64), (.int .i64), (.int .i64)])), (.sl 116 7 (.st [(.int .i64), (.int .i64), (.int .i64), (.int .i64), (.int .i64), (.int .i64), .str]))])), (.sl 140 4 (.st [(.int .i64), (.int .i64), .bool, (.sl 254 3 (.st [(.int .i64), (.int .i64), (.int .i64)]))])), (.sl 144 5 (.st [(.int .i64), .str, .str, (.sl 3 1 (.int .i64)), (.sl 101 2 (.st [(.int .i64), (.int .i64)]))])), (.sl 108 3 (.st [(.int .i64), .str, .bool])), (.sl 223 4 (.st [(.int .i64), .str, (.sl 3 1 (.int .i64)), (.sl 3 1 (.int .i64))])), (.sl 110 4 (.st [(.int .i64), (.int .i64), (.int .i64), (.int .i64)])), (.sl 154 6 (.st [(.int .i64), (.int .i64), (.int .i64), (.int .i64), (.sl 3 1 (.int .i64)), (.int .i64)]))])
abbrev ShPl : Sh := .st [.int .i64, .int .i64, .int .i64, .sl 3 1 (.int .i64), .int .i64]
theorem isDocs_of {d : D} (h : HasB 1048576 (.sl 68 7 (.st [.int .i64, .str, .int .i64, .int .i64, .sl 3 1 (.int .i64), .sl 112 4 (.st [.str, .int .i64, .int .i64, .int .i64]), .sl 116 7 (.st [.int .i64, .int .i64, .int .i64, .int .i64, .int .i64, .int .i64, .str])])) d) : IsDocs d := by
  refine ⟨isSl_ofB h, Nat.le_trans (len_leB h) (by decide), fun x hx => ?_⟩
  obtain ⟨i, hi⟩ := List.mem_iff_getElem?.1 hx
  obtain ⟨_, rfl, _, _, rfl, ⟨n, rfl⟩, x1, _, rfl, _, x2, _, rfl, _, x3, _, rfl, _, x4, _, rfl, _, x5, _, rfl, _, x6, _, rfl, _, rfl⟩ := elem_ofB h hi
  exact ⟨n, _, rfl, rfl⟩
theorem isInts_of {d : D} (h : HasB 1048576 (.sl 3 1 (.int .i64)) d) : IsInts d := by
  refine ⟨isSl_ofB h, Nat.le_trans (len_leB h) (by decide), fun x hx => ?_⟩
  obtain ⟨i, hi⟩ := List.mem_iff_getElem?.1 hx
  exact elem_ofB h hi
theorem sl_valB {B el sz : Nat} {e : Sh} {d : D} (h : HasB B (.sl el sz e) d) : valD d = (d.es.length : Int) := by
  simp only [HasB] at h
  rcases h with rfl | ⟨es, rfl, _⟩ <;> rfl
theorem pr_of {p : D} (h : HasB 1048576 ShP p) : ∃ ps docs, p = .agg ps ∧ IsPr ps docs ∧ ∃ t, Holds EE 4 [.agg ps] (dB t) := by
  have h0 := h
  obtain ⟨_, rfl, x0, _, rfl, h_0, x1, _, rfl, h_1, x2, _, rfl, h_2, x3, _, rfl, h_3, x4, _, rfl, h_4, x5, _, rfl, h_5, x6, _, rfl, h_6, x7, _, rfl, h_7, x8, _, rfl, h_8, x9, _, rfl, h_9, x10, _, rfl, h_10, x11, _, rfl, h_11, x12, _, rfl, h_12, x13, _, rfl, h_13, x14, _, rfl, h_14, x15, _, rfl, h_15, rfl⟩ := h
  refine ⟨_, x9, rfl, ⟨rfl, rfl, isDocs_of h_9⟩, ?_⟩
  have hv : valD x8 = (x8.es.length : Int) := sl_valB h_8
  have hl := len_leB h_8
  obtain ⟨rs, h1, _, h2⟩ := light [_] (hasBs_least (B := 1048576) (ss := e4.S.ss) rfl (hbs_cons h0 hbs_nil)) (by
    intro q hq
    rcases List.mem_cons.1 hq with rfl | hq
    · show valD x8 ≤ (0 : Int) + 299999999; omega
    · cases hq)
  have h1 : HasNs [.bool] rs := h1
  simp only [HasNs, HasN] at h1
  obtain ⟨d, _, rfl, ⟨t, rfl⟩, rfl⟩ := h1
  exact ⟨t, h2⟩
theorem law_all (ds : List D) (h : HasBs 1048576 [ShP, ShPl] ds) : Holds EE 3 ds (dB true) := by
  simp only [HasBs] at h
  obtain ⟨p, r, rfl, hp, l, r', rfl, hl, rfl⟩ := h
  obtain ⟨ps, docs, rfl, hpr, ht⟩ := pr_of (by simpa only [HasB, HasBs] using hp)
  obtain ⟨_, rfl, _, _, rfl, ⟨k, rfl⟩, _, _, rfl, ⟨a, rfl⟩, _, _, rfl, ⟨b, rfl⟩, recs, _, rfl, hr, _, _, rfl, ⟨w, rfl⟩, rfl⟩ := hl
  exact h3 hpr (isInts_of (by simpa only [HasB] using hr)) ht awake
end Go.Proofs.YtbkinfgpcjjaaaaGreatDoor
