/- The example of chapter 48 by the machine; the law's call in a world with the row's arguments. Conditions: none. -/
import Derived.Test.YtindbmgnapmdmaaGreatDoorWe
import Derived.Test.YtindbmgnapmdmaaGreatDoorOp
import Derived.Test.YtindbmgnapmdmaaGreatDoorWg
import Derived.Test.YtindbmgnapmdmaaGreatDoorWh
namespace Go.Proofs.YtindbmgnapmdmaaGreatDoor
open Go Go.Am Go.Proofs
theorem globs : Nat.ble Tryz.prog.globals.size 1000 = true := by kernel_rfl
theorem regs : regsAll Tryz.prog = true := by kernel_rfl
theorem heK : EOk (envK Tryz.prog) := envK_ok good regs
theorem there5 : (envK Tryz.prog).funcs.get 5 = some Tryz.f5 := by kernel_rfl
theorem body5 : Tryz.f5.body = some (bodyOf Tryz.f5) := by kernel_rfl
theorem shape5 : seqs (pieces 4 (bodyOf Tryz.f5)) (seqs (pieces 2 (after 4 (bodyOf Tryz.f5))) (after 6 (bodyOf Tryz.f5))) = bodyOf Tryz.f5 := by kernel_rfl
theorem awake_there : ((envOf Tryz.prog).funcs.get 5).isSome = true := by kernel_rfl
theorem awake : Holds EE 5 [] (dB true) := by
  refine holds_closed (Option.isSome_iff_exists.1 awake_there) fun w => ?_
  obtain ⟨fr2, H2, s3, n3, r3⟩ := last_ok heK seg3
  obtain ⟨s2, n2⟩ := segment heK seg2 s3 n3
  obtain ⟨s1, n1⟩ := segment heK seg1 s2 n2
  rw [shape5] at s1
  exact closed_call (E := envK Tryz.prog) rfl globs (parts_call heK there5 body5 s1 n1 r3) w
theorem shapes : argShs Tryz.prog 100 Tryz.f3.params.toList = some [ShPr, ShPr] := by kernel_rfl
theorem law_all (ds : List D) (h : HasShs [ShPr, ShPr] ds) : Holds EE 3 ds (dB true) := by
  simp only [HasShs] at h
  obtain ⟨p, r, rfl, hp, q, r', rfl, hq, rfl⟩ := h
  exact h3 hp hq awake
end Go.Proofs.YtindbmgnapmdmaaGreatDoor
