/- surface.Less, surface.Same, the reference's Same, few: as contracts. Conditions: none. -/
import Derived.Test.YtokincjfhndjaaaGreatRu4
namespace Go.Proofs.YtokincjfhndjaaaGreat
open Go Go.Am Go.Proofs

noncomputable def c8 : Con := conF 8 (gA fun us vs => .bool (ltL us vs)) c21
theorem c8_ok : ConOK EE c8 := gA_ok c21_ok c21_ok (fun _ _ => rfl) fun us vs na nb ca cb a b l _ => ⟨_, run8 us vs na nb ca cb a b l⟩
noncomputable def c19 : Con := conF 19 (gF fun us vs => i64 (cmpL us vs)) c8
theorem c19_ok : ConOK EE c19 := gF_ok c21_ok c8_ok (fun _ _ => rfl) fun us vs na nb ca cb a b l _ => ⟨_, run19 us vs na nb ca cb a b l⟩
noncomputable def c22 : Con := conF 22 (gS fun us vs => .bool (decide (us = vs))) c19
theorem c22_ok : ConOK EE c22 := gS_ok c21_ok c19_ok (fun _ _ => rfl) fun us vs na nb ca cb a b l _ => ⟨_, run22 us vs na nb ca cb a b l⟩

theorem runC_con {E : Env} {con : Con} {n : Nat} {f : FuncId} {args : List Value} {H : AH} {v : Value} (h : con f args H = some v) : runC E con (n + 1) (.call f args) H = some (.val v, H) := by
  show stepC E con (runC E con n) (.call f args) H = _
  simp only [stepC, h]

theorem parts8a {us vs : List Tri} {na : Bool} {ca : Nat} {sa sb : Value} (hna : na = true → us = []) : partsOf (H8 us vs sa sb) (sv na 1000 us.length ca) = some us := partsOf_sv (H8_get0 us vs sa sb) hna
theorem parts8b {us vs : List Tri} {nb : Bool} {cb : Nat} {sa sb : Value} (hnb : nb = true → vs = []) : partsOf (H8 us vs sa sb) (sv nb 1001 vs.length cb) = some vs := partsOf_sv (H8_get1 us vs sa sb) hnb

theorem fn7 : EE.funcs.get 7 = some Tryz.f7 := envFunc (c := bodyOf Tryz.f7) Tryz.func7 rfl (by kernel_rfl)
theorem run7 (us vs : List Tri) (na nb : Bool) (ca cb : Nat) (hna : na = true → us = []) (hnb : nb = true → vs = []) (l1 : us.length < 1000) (l2 : vs.length < 1000) :
    ∃ H', runC EE c22 40 (.call 7 [.agg ⟨[sv na 1000 us.length ca]⟩, .agg ⟨[sv nb 1001 vs.length cb]⟩]) (in2 us vs) = some (.val (.bool (decide (cmpL us vs < 0))), H') := by
  have hcon : c22 19 [sv na 1000 us.length ca, sv nb 1001 vs.length cb, fn20v] (H8 us vs (sv na 1000 us.length ca) (sv nb 1001 vs.length cb)) = some (i64 (cmpL us vs)) :=
    two_some (res := fun us vs => i64 (cmpL us vs)) (parts8a hna) (parts8b hnb) l1 l2
  refine follow_call (n := 39) (tp := [.val 9 (i64 (cmpL us vs))]) (P := [runC EE c22 36 (.call 19 [sv na 1000 us.length ca, sv nb 1001 vs.length cb, fn20v]) (H8 us vs (sv na 1000 us.length ca) (sv nb 1001 vs.length cb)) =
    some (.val (i64 (cmpL us vs)), H8 us vs (sv na 1000 us.length ca) (sv nb 1001 vs.length cb))]) rfl fn7 (c := bodyOf Tryz.f7) rfl ?_ ⟨runC_con hcon, trivial⟩
  clear hcon
  generalize us.length = la
  generalize vs.length = lb
  cases na <;> cases nb
  all_goals kernel_rfl

theorem fn9 : EE.funcs.get 9 = some Tryz.f9 := envFunc (c := bodyOf Tryz.f9) Tryz.func9 rfl (by kernel_rfl)
theorem run9 (us vs : List Tri) (na nb : Bool) (ca cb : Nat) (hna : na = true → us = []) (hnb : nb = true → vs = []) (l1 : us.length < 1000) (l2 : vs.length < 1000) :
    ∃ H', runC EE c22 40 (.call 9 [.agg ⟨[sv na 1000 us.length ca]⟩, .agg ⟨[sv nb 1001 vs.length cb]⟩]) (in2 us vs) = some (.val (.bool (decide (us = vs))), H') := by
  have hcon : c22 22 [sv na 1000 us.length ca, sv nb 1001 vs.length cb] (H8 us vs (sv na 1000 us.length ca) (sv nb 1001 vs.length cb)) = some (.bool (decide (us = vs))) :=
    two_some (res := fun us vs => .bool (decide (us = vs))) (parts8a hna) (parts8b hnb) l1 l2
  refine follow_call (n := 39) (tp := [.val 9 (.bool (decide (us = vs)))]) (P := [runC EE c22 36 (.call 22 [sv na 1000 us.length ca, sv nb 1001 vs.length cb]) (H8 us vs (sv na 1000 us.length ca) (sv nb 1001 vs.length cb)) =
    some (.val (.bool (decide (us = vs))), H8 us vs (sv na 1000 us.length ca) (sv nb 1001 vs.length cb))]) rfl fn9 (c := bodyOf Tryz.f9) rfl ?_ ⟨runC_con hcon, trivial⟩
  clear hcon
  generalize decide (us = vs) = e
  generalize us.length = la
  generalize vs.length = lb
  cases na <;> cases nb
  all_goals kernel_rfl

theorem fn10 : EE.funcs.get 10 = some Tryz.f10 := envFunc (c := bodyOf Tryz.f10) Tryz.func10 rfl (by kernel_rfl)
theorem path10 (us vs : List Tri) (na nb : Bool) (la lb ca cb : Nat) (b1 b2 : Bool) :
    outV EE Tryz.f10.results.toList (followA EE c22 39 (bodyOf Tryz.f10) ⟨Nat.max Tryz.f10.ntmps 2, false, T.ofList .leaf 0 [.agg ⟨[sv na 1000 la ca]⟩, .agg ⟨[sv nb 1001 lb cb]⟩]⟩ (in2 us vs)
      (.val 7 (.bool b1) :: (bif b1 then [] else [.val 12 (.bool b2)]))) =
    some (.bool (!b1 && !b2), (runC EE c22 36 (.call 8 [.agg ⟨[sv na 1000 la ca]⟩, .agg ⟨[sv nb 1001 lb cb]⟩]) (H8 us vs (sv na 1000 la ca) (sv nb 1001 lb cb)) = some (.val (.bool b1), H8 us vs (sv na 1000 la ca) (sv nb 1001 lb cb))) ::
      (bif b1 then [] else [runC EE c22 36 (.call 8 [.agg ⟨[sv nb 1001 lb cb]⟩, .agg ⟨[sv na 1000 la ca]⟩]) (H8 us vs (sv na 1000 la ca) (sv nb 1001 lb cb)) = some (.val (.bool b2), H8 us vs (sv na 1000 la ca) (sv nb 1001 lb cb))])) := by
  cases b1 <;> cases b2 <;> cases na <;> cases nb
  all_goals kernel_rfl

theorem run10 (us vs : List Tri) (na nb : Bool) (ca cb : Nat) (hna : na = true → us = []) (hnb : nb = true → vs = []) (l1 : us.length < 1000) (l2 : vs.length < 1000) :
    ∃ H', runC EE c22 40 (.call 10 [.agg ⟨[sv na 1000 us.length ca]⟩, .agg ⟨[sv nb 1001 vs.length cb]⟩]) (in2 us vs) = some (.val (.bool (!ltL us vs && !ltL vs us)), H') := by
  have h1 : c22 8 [.agg ⟨[sv na 1000 us.length ca]⟩, .agg ⟨[sv nb 1001 vs.length cb]⟩] (H8 us vs (sv na 1000 us.length ca) (sv nb 1001 vs.length cb)) = some (.bool (ltL us vs)) :=
    two_some (res := fun us vs => .bool (ltL us vs)) (parts8a hna) (parts8b hnb) l1 l2
  have h2 : c22 8 [.agg ⟨[sv nb 1001 vs.length cb]⟩, .agg ⟨[sv na 1000 us.length ca]⟩] (H8 us vs (sv na 1000 us.length ca) (sv nb 1001 vs.length cb)) = some (.bool (ltL vs us)) :=
    two_some (res := fun us vs => .bool (ltL us vs)) (parts8b hnb) (parts8a hna) l2 l1
  refine follow_call (n := 39) rfl fn10 (c := bodyOf Tryz.f10) rfl (path10 us vs na nb us.length vs.length ca cb (ltL us vs) (ltL vs us)) ⟨runC_con h1, ?_⟩
  cases hb : ltL us vs with
  | true => exact trivial
  | false => exact ⟨runC_con h2, trivial⟩

theorem fn5 : EE.funcs.get 5 = some Tryz.f5 := envFunc (c := bodyOf Tryz.f5) Tryz.func5 rfl (by kernel_rfl)
theorem run5 (us : List Tri) (na : Bool) (ca : Nat) (hna : na = true → us = []) :
    ∃ H', runC EE c22 40 (.call 5 [.agg ⟨[sv na 1000 us.length ca]⟩]) (in2 us []) = some (.val (.bool (decide (us.length ≤ 20))), H') := by
  have hd : decide (us.length ≤ 20) = decide (((ln na us.length : Nat) : Int) ≤ 20) := by rw [ln_len hna]; congr 1; exact propext ⟨fun h => by omega, fun h => by omega⟩
  rw [hd]
  refine follow_call (n := 39) (tp := []) (P := []) rfl fn5 (c := bodyOf Tryz.f5) rfl ?_ trivial
  generalize us.length = la
  cases na
  all_goals kernel_rfl

noncomputable def c7 : Con := conF 7 (gA fun us vs => .bool (decide (cmpL us vs < 0))) c22
theorem c7_ok : ConOK EE c7 := gA_ok c22_ok c22_ok (fun _ _ => rfl) fun us vs na nb ca cb a b l m => ⟨_, run7 us vs na nb ca cb a b l m⟩
noncomputable def c9 : Con := conF 9 (gA fun us vs => .bool (decide (us = vs))) c7
theorem c9_ok : ConOK EE c9 := gA_ok c22_ok c7_ok (fun _ _ => rfl) fun us vs na nb ca cb a b l m => ⟨_, run9 us vs na nb ca cb a b l m⟩
noncomputable def c10 : Con := conF 10 (gA fun us vs => .bool (!ltL us vs && !ltL vs us)) c9
theorem c10_ok : ConOK EE c10 := gA_ok c22_ok c9_ok (fun _ _ => rfl) fun us vs na nb ca cb a b l m => ⟨_, run10 us vs na nb ca cb a b l m⟩
noncomputable def c5 : Con := conF 5 (gO fun us => .bool (decide (us.length ≤ 20))) c10
theorem c5_ok : ConOK EE c5 := gO_ok c22_ok c10_ok (fun _ => rfl) fun us na ca a => ⟨_, run5 us na ca a⟩

end Go.Proofs.YtokincjfhndjaaaGreat
