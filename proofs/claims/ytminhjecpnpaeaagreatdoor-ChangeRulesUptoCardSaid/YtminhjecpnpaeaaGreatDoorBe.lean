/- The check of an orthography: what both give. Conditions: none. -/
import Derived.Test.YtminhjecpnpaeaaGreatDoorBd
set_option linter.unusedVariables false
set_option linter.unusedSimpArgs false
namespace Go.Proofs.YtminhjecpnpaeaaGreatDoor
open Go Go.Am Go.Proofs Go.Am.Tu
attribute [local irreducible] Go.Am.wp Go.Am.TOp.eval
section
variable{nS:Nat}{us sg:D}{g:ByteArray}{i:Nat}{R:Int}
end
end Go.Proofs.YtminhjecpnpaeaaGreatDoor
namespace Go.Proofs.YtminhjecpnpaeaaGreatDoor
open Go Go.Am Go.Proofs Go.Am.Tu
attribute [local irreducible] Go.Am.wp Go.Am.TOp.eval
end Go.Proofs.YtminhjecpnpaeaaGreatDoor
namespace Go.Proofs.YtminhjecpnpaeaaGreatDoor
open Go Go.Am Go.Proofs Go.Am.Tu
theorem yP{E:Env}{cs:List D}{off:Nat}{x:D}(h:cs[off]? = some x)(y:x.one=true):TOp.eval E (.loadp false 1) [.ptr cs off]=some x:=by have e:TOp.eval E (.loadp false 1) [.ptr cs off]=TOp.eval E (.fld false 1 off) [.agg cs]:=rfl;rw[e];exact qA h y
attribute [local irreducible] Go.Am.wp Go.Am.TOp.eval
section
variable{st:Int}{xs fs:D}{a b c:Int}{i:Nat}{R:Int}
end
end Go.Proofs.YtminhjecpnpaeaaGreatDoor
namespace Go.Proofs.YtminhjecpnpaeaaGreatDoor
open Go Go.Am Go.Proofs Go.Am.Tu
theorem kK{E:Env}{y:FuncId->List D->D->Prop}{Q:Res1->Prop}{ρ':List D}{f:FuncId}{m:Go.Am.Mode}{xs:List SV}{r:Tree}{ρ e ds:List D}(h:y (Nat.add gM f) (.mode m::e) (xN ds))(j:SV.ds (getD ρ) xs=e)(l:ds.length=m.out.sts.length)(x:ρ++ds=ρ')(k:wp E y Q r ρ'):wp E y Q (.callM f m xs r) ρ:=by simp only[wp];exact⟨ds,by rw[j];exact h,l,by rw[x];exact k⟩
attribute [local irreducible] Go.Am.wp Go.Am.TOp.eval
def zL:D:=.agg [.nil,.leaf (.string ⟨#[]⟩),.nil,.nil,.nil,dI 0,.nil,.nil,.nil]
def pick(e:Int)(l:D):D:=if e=0 then l else zL
def qGw(e:Int)(l:D):D:=.tup [pick e l,dI e]
theorem qTf{l:D}:qGw 0 l=.tup [l,dI 0]:=by unfold qGw pick;rw[if_pos rfl]
theorem qDW{e:Int}{l:D}(h:¬e=0):qGw e l=.tup [zL,dI e]:=by unfold qGw pick;rw[if_neg h]
section
variable{x0 x1 x2 x3 x4 x5 x6 x7 x8 xs fs:D}{st:Int}
end
section
variable{x0 x1 x2 x3 x4 x5 x6 x7 x8 nm us ls:D}
end
end Go.Proofs.YtminhjecpnpaeaaGreatDoor
