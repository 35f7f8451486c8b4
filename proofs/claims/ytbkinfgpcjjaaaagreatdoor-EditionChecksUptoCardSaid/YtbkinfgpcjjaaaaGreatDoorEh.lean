/- The other functions. Conditions: none. -/
import Derived.Test.YtbkinfgpcjjaaaaGreatDoorEg
import Derived.Test.YtbkinfgpcjjaaaaGreatDoorEf
set_option linter.all false
namespace Go.Proofs.YtbkinfgpcjjaaaaGreatDoor
open Go Go.Am Go.Proofs Go.Am.Tt
theorem sl_val {el sz : Nat} {e : Sh} {d : D} (h : HasB 300000000 (.sl el sz e) d) : valD d = (d.es.length : Int) := by
  simp only [HasB] at h
  rcases h with rfl | ⟨es, rfl, _⟩ <;> rfl
def s232 : Tt.Spec := ⟨[(.str BG), (.int .i64)], [(.int .i64), (.int .i64)], [(.z, aA 1, 0), (aA 1, aA 0, -1)], [(.z, aA 3, 0), (aA 3, .z, 4)]⟩
def s233 : Tt.Spec := ⟨[n0, (.int .i64)], [n0], [(aA 0, .z, 299999999)], [(aA 2, aA 0, 1)]⟩
def s101 : Tt.Spec := ⟨[n14, (.int .i64), (.int .i64)], [n0], [], []⟩
def s111 : Tt.Spec := ⟨[n21, n12], [.bool], [], []⟩
def s122 : Tt.Spec := ⟨[n32, (.int .i64)], [n0], [(aA 0, .z, 256)], []⟩
theorem h232 : SpOk (Holds EE) 232 s232 := by
  intro ds hd hp
  simp only [s232, HasNs] at hd hp
  obtain ⟨a, _, rfl, ha, b, _, rfl, hb, rfl⟩ := hd
  have q1 := hp _ List.mem_cons_self
  have q2 := hp _ (List.mem_cons_of_mem _ List.mem_cons_self)
  obtain ⟨_, ⟨p, n, rfl, h1, h2⟩, h3⟩ := t232 (hasN_B rfl ha) (hasN_B rfl hb) (fun n hn => by subst hn; have : (0 : Int) ≤ n + 0 := q1; omega) (fun s n hs hn => by subst hs hn; have : n ≤ (s.size : Int) + -1 := q2; omega)
  refine ⟨[dI p, dI n], ?_, fun q hq => ?_, h3⟩
  · simp only [s232, HasNs]
    exact ⟨_, _, rfl, by simp only [HasN]; exact ⟨_, rfl⟩, _, _, rfl, by simp only [HasN]; exact ⟨_, rfl⟩, rfl⟩
  · rcases List.mem_cons.1 hq with rfl | hq
    · show (0 : Int) ≤ n + 0; omega
    · rcases List.mem_cons.1 hq with rfl | hq
      · show n ≤ (0 : Int) + 4; omega
      · cases hq
theorem h233 : SpOk (Holds EE) 233 s233 := by
  intro ds hd hp
  simp only [s233, HasNs] at hd hp
  obtain ⟨a, _, rfl, ha, b, _, rfl, hb, rfl⟩ := hd
  have q1 := hp _ List.mem_cons_self
  have ha' := hasN_B rfl ha
  have hv := sl_val ha'
  obtain ⟨d, ⟨h1, h2⟩, h3⟩ := t233 ha' (hasN_B rfl hb) (by have : valD a ≤ (0 : Int) + 299999999 := q1; omega)
  have hv' := sl_val h1
  refine ⟨[d], by simp only [s233, HasNs]; exact ⟨_, _, rfl, hasB_N rfl h1, rfl⟩, fun q hq => ?_, h3⟩
  rcases List.mem_cons.1 hq with rfl | hq
  · show valD d ≤ valD a + 1; omega
  · cases hq
theorem h101 : SpOk (Holds EE) 101 s101 := by
  intro ds hd _
  simp only [s101, HasNs] at hd
  obtain ⟨a, _, rfl, ha, b, _, rfl, hb, c, _, rfl, hc, rfl⟩ := hd
  obtain ⟨d, h1, h2⟩ := t101 (hasN_B rfl ha) (hasN_B rfl hb) (hasN_B rfl hc)
  exact ⟨[d], by simp only [s101, HasNs]; exact ⟨_, _, rfl, hasB_N rfl h1, rfl⟩, fun q hq => (by cases hq), h2⟩
theorem h111 : SpOk (Holds EE) 111 s111 := by
  intro ds hd _
  simp only [s111, HasNs] at hd
  obtain ⟨a, _, rfl, ha, b, _, rfl, hb, rfl⟩ := hd
  obtain ⟨d, h1, h2⟩ := t111 (hasN_B rfl ha) (hasN_B rfl hb)
  exact ⟨[d], by simp only [s111, HasNs]; exact ⟨_, _, rfl, hasB_N rfl h1, rfl⟩, fun q hq => (by cases hq), h2⟩
theorem h122 : SpOk (Holds EE) 122 s122 := by
  intro ds hd hp
  simp only [s122, HasNs] at hd hp
  obtain ⟨a, _, rfl, ha, b, _, rfl, hb, rfl⟩ := hd
  have ha : HasN (.sl 223 4 300000000 ShG) a := ha
  have hv : valD a = (a.es.length : Int) := by
    have h2 := ha
    simp only [HasN] at h2
    rcases h2 with rfl | ⟨es, rfl, _⟩ <;> rfl
  have q1 : valD a ≤ (0 : Int) + 256 := hp _ List.mem_cons_self
  simp only [HasN] at hb
  obtain ⟨x, rfl⟩ := hb
  obtain ⟨d, ⟨l, g1, g2, g3⟩, k⟩ := below_ok (x := x) ha (by omega)
  have hl := sub_len g2 g3
  have hU : (allSubs a).length ≤ 300000000 := by
    have h1 := subs_len (sl_iff.1 ha).2.2
    unfold allSubs
    have h2 : a.es.length * 1048576 ≤ 256 * 1048576 := Nat.mul_le_mul_right _ (by omega)
    omega
  exact ⟨[d], by simp only [s122, HasNs]; exact ⟨_, _, rfl, (show HasN (.sl 3 1 300000000 (.int .i64)) d from g1.has (by omega)), rfl⟩, fun q hq => (by cases hq), k⟩
def tab1 : List (FuncId × Tt.Spec) := (232, s232) :: (233, s233) :: (101, s101) :: (111, s111) :: (122, s122) :: tabOf [] ensA
theorem tab1_ok : ∀ p ∈ tab1, SpOk (Holds EE) p.1 p.2 := allC h232 <| allC h233 <| allC h101 <| allC h111 <| allC h122 <| tabA
end Go.Proofs.YtbkinfgpcjjaaaaGreatDoor
namespace Go.Proofs.YtbkinfgpcjjaaaaGreatDoor
open Go Go.Am Go.Proofs Go.Am.Tt
theorem okB : allOk EE Tryz.prog TT tab1 ensB = true := by kernel_rfl
theorem tabB : ∀ p ∈ tabOf tab1 ensB, SpOk (Holds EE) p.1 p.2 := allOk_ok good regs TT_ok tab1_ok okB
end Go.Proofs.YtbkinfgpcjjaaaaGreatDoor
