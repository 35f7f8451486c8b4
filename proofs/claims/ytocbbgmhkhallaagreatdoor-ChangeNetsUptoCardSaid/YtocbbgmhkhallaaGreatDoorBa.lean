/- The seat's program for symbolic runs. Conditions: none. -/
import Derived.Test.YtocbbgmhkhallaaGreatDoorUn
import Derived.Test.YtocbbgmhkhallaaGreatDoorChecked
import Derived.Test.YtocbbgmhkhallaaGreatDoorTu
import Derived.Test.YtocbbgmhkhallaaGreatDoorSx6
import Derived.KernelRfl
set_option linter.unusedVariables false
set_option linter.unusedSimpArgs false
namespace Go.Proofs.YtocbbgmhkhallaaGreatDoor
open Go Go.Am Go.Proofs
noncomputable def EE:Env:=iW Tryz.prog
def wK(fn:Func):Code:=fn.body.getD .skip
theorem qPr:l5 Tryz.prog=true:=by kernel_rfl
theorem he:EOk EE:=qPT qPr
theorem qIP:nM Tryz.prog=true:=by kernel_rfl
variable{Ts:LV}
theorem jU:∀x∈([]:LW),Ts x.1=x.2:=λ_ h=>by cases h
theorem j9{k:Nat}{t:Tree}{r:LW}(h:Ts k=t)(b:∀x∈r,Ts x.1=x.2):∀x∈(k,t)::r,Ts x.1=x.2:=by
 intro x y;rcases bl.1 y with rfl|y
 ·exact h
 exact b x y
abbrev k'(n:Int):SV:=.c (.int .i64 n)
abbrev K'(n:Int):Operand:=.const (.int .i64 n)
abbrev vA(o i:Nat)(r:Tree):Tree:=.bind (.mq false 1 o) [.v i] r
abbrev jT(i:Nat)(r:Tree):Tree:=.bind (.len false) [.v i] r
abbrev wG(a b:Nat)(r:Tree):Tree:=.bind .inr [.v a,.v b] r
theorem xE{c:Type}{b:Type}{x0 y:c}{x1 x:b}(h:(x0,x1)=(y,x)):x1=x:=(pI h).2
theorem xQ{o:Type}{k:Type}{j:Type}{i:Type}{g:Type}{x0 e:o}{x1 c:k}{x2 b:j}{x3 y:i}{x4 x:g}(h:(x0,x1,x2,x3,x4)=(e,c,b,y,x)):x4=x:=(pI (pI (pI (pI h).2).2).2).2
theorem zA{t0:Type}{t1:Type}{t2:Type}{Z:Type}{X:Type}{W:Type}{V:Type}{U:Type}{S:Type}{R:Type}{E:Type}{C:Type}{B:Type}{A:Type}{z:Type}{w:Type}{u:Type}{x0 O:t0}{x1 N:t1}{x2 M:t2}{x3 L:Z}{x4 K:X}{x5 J:W}{x6 I:V}{x7 H:U}{x8 G:S}{Q F:R}{t j:E}{r i:C}{q g:B}{p e:A}{o c:z}{k b:w}{y x:u}(h:(x0,x1,x2,x3,x4,x5,x6,x7,x8,Q,t,r,q,p,o,k,y)=(O,N,M,L,K,J,I,H,G,F,j,i,g,e,c,b,x)):y=x:=(pI (pI (pI (pI (pI (pI (pI (pI (pI (pI (pI (pI (pI (pI (pI (pI h).2).2).2).2).2).2).2).2).2).2).2).2).2).2).2).2
abbrev vC(s o i j:Nat)(r:Tree):Tree:=.bind (.elem s false 1 o) [.v i,.v j] r
abbrev j4(op:BinOp)(a b x y:Nat)(r:Tree):Tree:=.bind (.bin op 3 (.tmp a) (.tmp b)) [.v x,.v y] r
abbrev jP(op:BinOp)(a:Nat)(k:Int)(x:Nat)(r:Tree):Tree:=.bind (.bin op 3 (.tmp a) (K' k)) [.v x,k' k] r
abbrev xV(n i:Nat)(r:Tree):Tree:=.bind (.mz true n) [.v i] r
abbrev qGE(i:Nat)(r:Tree):Tree:=.bind (.mz false 1) [.v i] r
abbrev qDZ(n i:Nat)(r:Tree):Tree:=.bind (.ext n) [.v i] r
abbrev wM(f:Nat)(l:List SV)(k:Nat)(r:Tree):Tree:=.call (.fn f) l k r
abbrev zO(i:Nat)(a b:Tree):Tree:=.ite (.v i) a b
abbrev xP(b:Bool):Tree:=.ret [.c (.bool b)]
abbrev lD(n:Int):Tree:=.ret [k' n]
def JJ(fn:Func)(n:Nat)(P:Nat->Pat):Nat->St->Tree:=λk S=>wN (Nat.max fn.ntmps n) (P k) k S
noncomputable def kY(fn:Func)(n:Nat)(P:Nat->Pat):Tree:=qGU EE (JJ fn n P) fn n
noncomputable def hd(fn:Func)(n:Nat)(P:Nat->Pat):LW:=xH EE (λk=>(P k).st (Nat.max fn.ntmps n)) (JJ fn n P) 1 (wK fn) (qAF EE fn.results.toList)
def nr(fn : Func): Bool := fn.name == "runtime.NumGoroutine" || !vJ (wK fn)
variable{P:Nat->Pat}{f:LO}{l:LW}
theorem hu{fn:Func}(i:Tryz.prog.funcs[f]? = some fn){n:Nat}(b:fn.body=some (wK fn))(h3:kY fn n P=Ts 0)(g:hd fn n P=l)(h5:nr fn=false)(e:∀x∈l,Ts x.1=x.2){ds:LR}{d:D}(c:ds.length=n)(h:qP EE (qA EE) Ts 0 ds d)(y:f<dU:=by decide):qA EE f ds d:=
 qCG he (dC i b h5) b c h3 (by rw[show xH EE (λk=>(P k).st (Nat.max fn.ntmps n)) (λk S=>wN (Nat.max fn.ntmps n) (P k) k S) 1 (wK fn) (qAF EE fn.results.toList)=l from g];exact e) h y
theorem hv{fn:Func}(i:Tryz.prog.funcs[f]? = some fn){n:Nat}{ρ:Type}{r b:ρ}(g:fn.body=some (wK fn))(h3:(kY fn n P,hd fn n P,nr fn,r)=(Ts 0,l,false,b))(e:∀x∈l,Ts x.1=x.2){ds:LR}{d:D}(c:ds.length=n)(h:qP EE (qA EE) Ts 0 ds d)(y:f<dU:=by decide):qA EE f ds d:=
 hu i g (pI h3).1 (pI (pI h3).2).1 (pI (pI (pI h3).2).2).1 e c h y
end Go.Proofs.YtocbbgmhkhallaaGreatDoor
