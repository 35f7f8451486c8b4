/- Where a scalar lies, and whether a text is right, by the program. Conditions: none. -/
import Derived.Test.YtminhjecpnpaeaaGreatDoorBc
import Derived.Lib.IndexLaws
set_option linter.unusedVariables false
set_option linter.unusedSimpArgs false
namespace Go.Proofs.YtminhjecpnpaeaaGreatDoor
open Go Go.Am Go.Proofs Go.Am.Tu
attribute [local irreducible] Go.Am.wp Go.Am.TOp.eval
end Go.Proofs.YtminhjecpnpaeaaGreatDoor
namespace Go.Proofs.YtminhjecpnpaeaaGreatDoor
open Go Go.Am Go.Proofs Go.Am.Tu
attribute [local irreducible] Go.Am.wp Go.Am.TOp.eval
end Go.Proofs.YtminhjecpnpaeaaGreatDoor
namespace Go.Proofs.YtminhjecpnpaeaaGreatDoor
open Go Go.Am Go.Proofs Go.Am.Tu
abbrev aV:Sh:=.sl 3 1 (.int .i64)
theorem qNe{el sz:Nat}{w:D}{b:Nat}(x:xA el sz w)(h:b<=w.es.length):∃d,TOp.eval EE (.slc el sz false true) [w,dI ((b:Nat):Int)]=some d/\xA el sz d/\d.es=w.es.take b:=by
 rcases x with rfl|⟨es,rfl,g⟩
 ·have y:b=0:=by simpa[D.es]using h
  subst y;exact⟨.nil,by rw[mH];rfl,.inl rfl,rfl⟩
 have h:b<=es.length:=h;refine⟨.sl el sz (es.take b),?_,.inr ⟨_,rfl,by rw[List.length_take];omega⟩,rfl⟩;rw[mH];have e:vS false 0 [dI ((b:Nat):Int)]=some (0,[dI ((b:Nat):Int)]):=rfl;have c:vS true es.length [dI ((b:Nat):Int)]=some (b,[]):=rfl;simp only[e,c,Nat.beq_refl,bL h,bL (Nat.zero_le b),Bool.and_self,cond_true,List.drop_zero,Nat.sub_zero]
theorem qSg{α:Type}{p:α->Bool}{l:List α}{i:Nat}(h:l.length<=i):(l.drop i).any p=false:=by rw[List.drop_of_length_le h];rfl
theorem qH4{α:Type}{p:α->Bool}{l:List α}{i:Nat}{x:α}(h:l[i]? = some x):(l.drop i).any p=(p x||(l.drop (i+1)).any p):=by have y:i<l.length:=(gI h).1;rw[List.drop_eq_getElem_cons y,List.any_cons,(gI h).2]
theorem qSf{α:Type}{p:α->Bool}{l:List α}{i:Nat}{x:α}(h:l[i]? = some x)(e:p x=true):(l.drop i).any p=true:=by rw[qH4 h,e];rfl
theorem qV9{α:Type}{p:α->Bool}{l:List α}{i:Nat}{x:α}(h:l[i]? = some x)(e:p x=false):(l.drop i).any p=(l.drop (i+1)).any p:=by rw[qH4 h,e];rfl
attribute [local irreducible] Go.Am.wp Go.Am.TOp.eval
end Go.Proofs.YtminhjecpnpaeaaGreatDoor
