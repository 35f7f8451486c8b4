/- The seat's program for symbolic runs. Conditions: none. -/
import Derived.Test.YtnemldklhelbeaaGreatUn
import Derived.Test.YtnemldklhelbeaaGreatChecked
import Derived.Test.YtnemldklhelbeaaGreatTu
import Derived.Test.YtnemldklhelbeaaGreatSx6
import Derived.KernelRfl
set_option linter.unusedVariables false
set_option linter.unusedSimpArgs false
namespace Go.Proofs.YtnemldklhelbeaaGreat
open Go Go.Am Go.Proofs
noncomputable def EE:Env:=wN Tryz.prog
def vP (fn:Func):Code:=fn.body.getD .skip
theorem qLn:rD Tryz.prog=true:=by kernel_rfl
theorem he:EOk EE:=qGh qLn
theorem qRR:eJ Tryz.prog=true:=by kernel_rfl
theorem vO {Ts:Nat->Tree}:∀ x∈([]:List (Nat × Tree)),Ts x.1=x.2:=fun _ h=>by cases h
theorem jG {Ts:Nat->Tree} {k:Nat} {t:Tree} {r:List (Nat × Tree)} (h:Ts k=t) (hr:∀ x∈r,Ts x.1=x.2):∀ x∈(k,t)::r,Ts x.1=x.2:=by
 intro x hx
 rcases List.mem_cons.1 hx with rfl | hx
 ·exact h
 exact hr x hx
abbrev k' (n:Int):SV:=.c (.int .i64 n)
abbrev K' (n:Int):Operand:=.const (.int .i64 n)
abbrev zK (o i:Nat) (r:Tree):Tree:=.bind (.fld false 1 o) [.v i] r
abbrev v4 (i:Nat) (r:Tree):Tree:=.bind (.len false) [.v i] r
abbrev jQ (a b:Nat) (r:Tree):Tree:=.bind .inr [.v a,.v b] r
theorem vS {t0:Type} {t1:Type} {x0 y0:t0} {x1 y1:t1} (h:(x0,x1)=(y0,y1)):x1=y1:=(pI h).2
theorem jC {t0:Type} {t1:Type} {t2:Type} {t3:Type} {t4:Type} {x0 y0:t0} {x1 y1:t1} {x2 y2:t2} {x3 y3:t3} {x4 y4:t4} (h:(x0,x1,x2,x3,x4)=(y0,y1,y2,y3,y4)):x4=y4:=(pI (pI (pI (pI h).2).2).2).2
theorem qX {t0:Type} {t1:Type} {t2:Type} {t3:Type} {t4:Type} {t5:Type} {t6:Type} {t7:Type} {t8:Type} {t9:Type} {t10:Type} {t11:Type} {t12:Type} {t13:Type} {t14:Type} {t15:Type} {t16:Type} {x0 y0:t0} {x1 y1:t1} {x2 y2:t2} {x3 y3:t3} {x4 y4:t4} {x5 y5:t5} {x6 y6:t6} {x7 y7:t7} {x8 y8:t8} {x9 y9:t9} {x10 y10:t10} {x11 y11:t11} {x12 y12:t12} {x13 y13:t13} {x14 y14:t14} {x15 y15:t15} {x16 y16:t16} (h:(x0,x1,x2,x3,x4,x5,x6,x7,x8,x9,x10,x11,x12,x13,x14,x15,x16)=(y0,y1,y2,y3,y4,y5,y6,y7,y8,y9,y10,y11,y12,y13,y14,y15,y16)):x16=y16:=(pI (pI (pI (pI (pI (pI (pI (pI (pI (pI (pI (pI (pI (pI (pI (pI h).2).2).2).2).2).2).2).2).2).2).2).2).2).2).2).2
abbrev vL (s o i j:Nat) (r:Tree):Tree:=.bind (.elem s false 1 o) [.v i,.v j] r
abbrev jF (op:BinOp) (a b x y:Nat) (r:Tree):Tree:=.bind (.bin op 3 (.tmp a) (.tmp b)) [.v x,.v y] r
abbrev vC (op:BinOp) (a:Nat) (k:Int) (x:Nat) (r:Tree):Tree:=.bind (.bin op 3 (.tmp a) (K' k)) [.v x,k' k] r
abbrev jN (n i : Nat) (r : Tree) : Tree := .bind (.chk true n) [.v i] r
abbrev qBr (i : Nat) (r : Tree) : Tree := .bind (.chk false 1) [.v i] r
abbrev mR (n i : Nat) (r : Tree) : Tree := .bind (.ext n) [.v i] r
abbrev jM (f : Nat) (l : List SV) (k : Nat) (r : Tree) : Tree := .call (.fn f) l k r
abbrev qZ (i:Nat) (a b:Tree):Tree:=.ite (.v i) a b
abbrev gM (b:Bool):Tree:=.ret [.c (.bool b)]
abbrev wP (n:Int):Tree:=.ret [k' n]
def JJ (fn:Func) (n:Nat) (P:Nat->Pat):Nat->St->Tree:=fun k S=>j6 (Nat.max fn.ntmps n) (P k) k S
noncomputable def rt (fn:Func) (n:Nat) (P:Nat->Pat):Tree:=qDJ EE (JJ fn n P) fn n
noncomputable def hd (fn:Func) (n:Nat) (P:Nat->Pat):List (Nat × Tree):=xB EE (fun k=>(P k).st (Nat.max fn.ntmps n)) (JJ fn n P) 1 (vP fn) (nP EE fn.results.toList)
def nr (fn : Func) : Bool := fn.name == "runtime.NumGoroutine" || !zM (vP fn)
theorem hu {f:FuncId} {fn:Func} (h1:Tryz.prog.funcs[f]? = some fn) {Ts:Nat->Tree} {P:Nat->Pat} {n:Nat} {l:List (Nat × Tree)} (h2:fn.body=some (vP fn)) (h3:rt fn n P=Ts 0) (h4:hd fn n P=l) (h5:nr fn=false) (h6:∀ x∈l,Ts x.1=x.2) {ds:List D} {d:D} (hn:ds.length=n) (h:qG EE (qA EE) Ts 0 ds d) (hlt:f < qBf:=by decide):qA EE f ds d :=
 qEe he (yI h1 h2 h5) h2 hn h3 (by rw [show xB EE (fun k=>(P k).st (Nat.max fn.ntmps n)) (fun k S=>j6 (Nat.max fn.ntmps n) (P k) k S) 1 (vP fn) (nP EE fn.results.toList)=l from h4]; exact h6) h hlt
theorem hv {f : FuncId} {fn : Func} (h1 : Tryz.prog.funcs[f]? = some fn) {Ts : Nat -> Tree} {P : Nat -> Pat} {n : Nat} {l : List (Nat × Tree)} {ρ : Type} {r r' : ρ} (h2 : fn.body = some (vP fn)) (h3 : (rt fn n P, hd fn n P, nr fn, r) = (Ts 0, l, false, r')) (h6 : ∀ x ∈ l, Ts x.1 = x.2) {ds : List D} {d : D} (hn : ds.length = n) (h : qG EE (qA EE) Ts 0 ds d) (hlt : f < qBf := by decide) : qA EE f ds d :=
 hu h1 h2 (pI h3).1 (pI (pI h3).2).1 (pI (pI (pI h3).2).2).1 h6 hn h hlt
end Go.Proofs.YtnemldklhelbeaaGreat
