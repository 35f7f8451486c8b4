/- The abstract machine once more, with small definitions: what the kernel runs. Conditions: none. -/
import Derived.Test.YtnemldklhelbeaaGreatAm6
set_option linter.unusedVariables false
set_option linter.unusedSimpArgs false
namespace Go.Am
open Go
end Go.Am
namespace Go.Am
open Go
end Go.Am
namespace Go.Am
open Go
end Go.Am
namespace Go.Am
open Go
def regsAll (P:Program):Bool:=Nat.ble P.types.size 4000 && P.funcs.toList.all fun f=>match f.body with
 | some c => !(f.name == "runtime.NumGoroutine") && regsOk c
 | none=>true
section
variable {E:Env} {σ σ':Sig} {H H':AH} {w w':World}
theorem Step.cut {H1:AH} (hr:HR E σ H w) (hb:∀ b k,H1.blocks.get b=some k→H.blocks.get b=some k) (hn:H1.next=H.next) (hl:H1.low=0):Step E σ H w σ H1 w where
 hr:=⟨fun b k L h1 h2=>hr.objs b k L (hb b k h1) h2,fun b₁ b₂ k₁ k₂ L₁ L₂ h1 h2=>hr.sep b₁ b₂ k₁ k₂ L₁ L₂ (hb _ _ h1) (hb _ _ h2),hr.glob,fun b k h1=>by rw [hn]; exact hr.wf b k (hb b k h1)⟩
 next:=by rw [hn]; exact Nat.le_refl _
 ext _ _:=rfl
 size:=Nat.le_refl _
 low:=by rw [hl]; exact Nat.zero_le _
 tape:=rfl
 os:=rfl
 output:=rfl
 frame _ _ _:=rfl
 origin b k L h1 h2 h3:=.inr ⟨b,k,L,hb b k h1,h2,h3,rfl,rfl⟩
 old b k h1 _:=⟨k,hb b k h1,rfl,rfl⟩
 keep b k _ h2:=by rw [hl] at h2; exact absurd h2 (Nat.not_lt_zero _)
 born b k h1 h2:=absurd (hr.wf b k (hb b k h1)).2 (Nat.not_lt.2 h2)
theorem CodeOK.cut {c:Code} {fr1 fr2 fr':Fr} {e:AExit} {H1 H2:AH} (h:CodeOK E c fr2 H2 e fr' H') (hb:∀ b k,H2.blocks.get b=some k→H1.blocks.get b=some k) (hn:H2.next=H1.next) (hl:H2.low=0)
  (hs:fr2.sz=fr1.sz) (hd:fr2.rd=fr1.rd) (ht:∀ t v,fr2.t.get t=some v→fr1.t.get t=some v):CodeOK E c fr1 H1 e fr' H':=by
 intro hr0 σ w tmps n0 B0 hr hf hfree hn0 b ds k cs hk hro hds
 have s1:=Step.cut hr hb hn hl
 obtain ⟨σ',w',tmps',ds',s2,f2,rd2,d2,e2⟩:=h hr0 σ w tmps n0 B0 s1.hr ⟨by rw [hs]; exact hf.1,fun t v hv=>hf.2 t v (ht t v hv)⟩ (by rw [hn]; exact hfree) hn0 b ds k cs hk (by rw [hd]; exact hro) (hds.step hr s1)
 exact ⟨σ',w',tmps',ds',s1.trans s2,f2,by rw [rd2,hd],d2,e2⟩
end
end Go.Am
