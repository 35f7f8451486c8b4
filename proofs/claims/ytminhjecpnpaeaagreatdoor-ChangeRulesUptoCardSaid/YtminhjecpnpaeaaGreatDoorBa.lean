/- The seat's program for symbolic runs. Conditions: none. -/
import Derived.Test.YtminhjecpnpaeaaGreatDoorUn
import Derived.Test.YtminhjecpnpaeaaGreatDoorChecked
import Derived.Test.YtminhjecpnpaeaaGreatDoorTu
import Derived.Test.YtminhjecpnpaeaaGreatDoorSx6
import Derived.KernelRfl
import Derived.Lib.DecodeN
import Derived.Test.YtminhjecpnpaeaaGreatDoorOp
set_option linter.unusedVariables false
set_option linter.unusedSimpArgs false
namespace Go.Proofs.YtminhjecpnpaeaaGreatDoor
open Go Go.Am Go.Proofs Go.Am.Tt
def qYp:List Value:=(List.range 256).map λc=>.int .u8 (Go.Lib.firstT c:Int)
def qYZ:List Value:=(List.range 32).map λc=>.int .u8 ((if c%2=0 then Go.Lib.accLo (c/2)else Go.Lib.accHi (c/2):Nat):Int)
def qE7:List (Nat×ABlk):=[(0,⟨.cells qYp 5,0,false⟩),(1,⟨.cells qYZ 5,0,false⟩)]
noncomputable def EE:Env:={qHD Tryz.prog with laid:=qE7}
def vB(fn:Func):Code:=fn.body.getD .skip
theorem qYh:cP Tryz.prog=true:=by kernel_rfl
theorem he:EOk EE:=(qVu qYh).laid qE7
theorem qXH:lA Tryz.prog=true:=by kernel_rfl
theorem qHf{E:Env}{P:Program}(l:List (Nat×ABlk))(h:qAF E P):qAF {E with laid:=l} P:=h
theorem qZ1:qAF EE Tryz.prog:=by unfold EE;exact qHf qE7 (qL6 qXH)
theorem qOA{E:Env}{f:FuncId}{fn:Func}(l:List (Nat×ABlk))(h:E.funcs.get f=some fn):({E with laid:=l}:Env).funcs.get f=some fn:=h
theorem xD{f : FuncId}{fn : Func}{c : Code}(h : Tryz.prog.funcs[f]? = some fn)(y : fn.body = some c)(x : (fn.name == "runtime.NumGoroutine" || !zP c) = false): EE.funcs.get f = some fn := by unfold EE;exact qOA qE7 (qKP h y x)
theorem kC{y:Nat->Tree}:∀x∈([]:List (Nat×Tree)),y x.1=x.2:=λ_ h=>by cases h
theorem kY{b:Nat->Tree}{k:Nat}{t:Tree}{r:List (Nat×Tree)}(h:b k=t)(c:∀x∈r,b x.1=x.2):∀x∈(k,t)::r,b x.1=x.2:=by
 intro x y;rcases List.mem_cons.1 y with rfl|y
 ·exact h
 exact c x y
abbrev k'(n:Int):SV:=.c (.int .i64 n)
abbrev K'(n:Int):Operand:=.const (.int .i64 n)
abbrev vA(o i:Nat)(r:Tree):Tree:=.bind (.fld false 1 o) [.v i] r
abbrev xV(i:Nat)(r:Tree):Tree:=.bind (.len false) [.v i] r
abbrev gA(a b:Nat)(r:Tree):Tree:=.bind .inr [.v a,.v b] r
theorem wZ{t0:Type}{c:Type}{b y:t0}{x1 x:c}(h:(b,x1)=(y,x)):x1=x:=(pI h).2
theorem kU{t0:Type}{j:Type}{t2:Type}{t3:Type}{t4:Type}{i c:t0}{x1 b:j}{g y:t2}{e y3:t3}{x y4:t4}(h:(i,x1,g,e,x)=(c,b,y,y3,y4)):x=y4:=(pI (pI (pI (pI h).2).2).2).2
theorem vK{t0:Type}{W:Type}{t2:Type}{t3:Type}{t4:Type}{t5:Type}{V:Type}{U:Type}{S:Type}{t9:Type}{B:Type}{A:Type}{t12:Type}{z:Type}{w:Type}{u:Type}{t:Type}{R J:t0}{x1 I:W}{Q H:t2}{P y3:t3}{O y4:t4}{x5 G:t5}{N y6:V}{M F:U}{L E:S}{K C:t9}{r j:B}{q i:A}{p g:t12}{o e:z}{l c:w}{k b:u}{y x:t}(h:(R,x1,Q,P,O,x5,N,M,L,K,r,q,p,o,l,k,y)=(J,I,H,y3,y4,G,y6,F,E,C,j,i,g,e,c,b,x)):y=x:=(pI (pI (pI (pI (pI (pI (pI (pI (pI (pI (pI (pI (pI (pI (pI (pI h).2).2).2).2).2).2).2).2).2).2).2).2).2).2).2).2
abbrev zS(s o i j:Nat)(r:Tree):Tree:=.bind (.elem s false 1 o) [.v i,.v j] r
abbrev yE(op:BinOp)(a b x y:Nat)(r:Tree):Tree:=.bind (.bin op 3 (.tmp a) (.tmp b)) [.v x,.v y] r
abbrev yF(op:BinOp)(a:Nat)(k:Int)(x:Nat)(r:Tree):Tree:=.bind (.bin op 3 (.tmp a) (K' k)) [.v x,k' k] r
abbrev kX(n i:Nat)(r:Tree):Tree:=.bind (.chk true n) [.v i] r
abbrev qId(i:Nat)(r:Tree):Tree:=.bind (.chk false 1) [.v i] r
abbrev qTx(n i:Nat)(r:Tree):Tree:=.bind (.ext n) [.v i] r
abbrev lZ(f:Nat)(l:List SV)(k:Nat)(r:Tree):Tree:=.call (.fn f) l k r
abbrev vW(i:Nat)(a b:Tree):Tree:=.ite (.v i) a b
abbrev pC(b:Bool):Tree:=.ret [.c (.bool b)]
abbrev qB3(n:Int):Tree:=.ret [k' n]
def JJ(fn:Func)(n:Nat)(P:Nat->Pat):Nat->St->Tree:=λk S=>jN (Nat.max fn.ntmps n) (P k) k S
noncomputable def aS(fn:Func)(n:Nat)(P:Nat->Pat):Tree:=qGB EE (JJ fn n P) fn n
noncomputable def hd(fn:Func)(n:Nat)(P:Nat->Pat):List (Nat×Tree):=jR EE (λk=>(P k).st (Nat.max fn.ntmps n)) (JJ fn n P) 1 (vB fn) (uD EE fn.results.toList)
def nr(fn : Func): Bool := fn.name == "runtime.NumGoroutine" || !zP (vB fn)
theorem hu{f:FuncId}{fn:Func}(o:Tryz.prog.funcs[f]? = some fn){b:Nat->Tree}{P:Nat->Pat}{n:Nat}{l:List (Nat×Tree)}(c:fn.body=some (vB fn))(h3:aS fn n P=b 0)(j:hd fn n P=l)(i:nr fn=false)(g:∀x∈l,b x.1=x.2){ds:List D}{d:D}(e:ds.length=n)(h:qX EE (Holds EE) b 0 ds d)(y:f<gM:=by decide):Holds EE f ds d:=
 qHc he (xD o c i) c e h3 (by rw[show jR EE (λk=>(P k).st (Nat.max fn.ntmps n)) (λk S=>jN (Nat.max fn.ntmps n) (P k) k S) 1 (vB fn) (uD EE fn.results.toList)=l from j];exact g) h y
theorem hv{f:FuncId}{fn:Func}(j:Tryz.prog.funcs[f]? = some fn){b:Nat->Tree}{P:Nat->Pat}{n:Nat}{l:List (Nat×Tree)}{ρ:Type}{r c:ρ}(i:fn.body=some (vB fn))(h3:(aS fn n P,hd fn n P,nr fn,r)=(b 0,l,false,c))(g:∀x∈l,b x.1=x.2){ds:List D}{d:D}(e:ds.length=n)(h:qX EE (Holds EE) b 0 ds d)(y:f<gM:=by decide):Holds EE f ds d:=
 hu j i (pI h3).1 (pI (pI h3).2).1 (pI (pI (pI h3).2).2).1 g e h y
end Go.Proofs.YtminhjecpnpaeaaGreatDoor
