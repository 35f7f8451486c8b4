/- The seat's program for symbolic runs. Conditions: none. -/
import Derived.Test.YtminhjecpnpaeaaGreatDoorUn
import Derived.Test.YtminhjecpnpaeaaGreatDoorChecked
import Derived.Test.YtminhjecpnpaeaaGreatDoorTu
import Derived.Test.YtminhjecpnpaeaaGreatDoorSx6
import Derived.KernelRfl
import Derived.Lib.DecodeN
import Derived.Test.YtminhjecpnpaeaaGreatDoorOp
set_option linter.unusedVariables false
set_option linter.unusedSimpArgs false
namespace Go.Proofs.YtminhjecpnpaeaaGreatDoor
open Go Go.Am Go.Proofs Go.Am.Tt
def qSN:List Value:=(List.range 256).map fun c=>.int .u8 (Go.Lib.firstT c:Int)
def qQW:List Value:=(List.range 32).map fun c=>.int .u8 ((if c % 2=0 then Go.Lib.accLo (c / 2) else Go.Lib.accHi (c / 2):Nat):Int)
def qD8:List (Nat × ABlk):=[(0,⟨.cells qSN 5,0,false⟩),(1,⟨.cells qQW 5,0,false⟩)]
noncomputable def EE:Env:={ qGr Tryz.prog with laid:=qD8 }
def jG (fn:Func):Code:=fn.body.getD .skip
theorem qWS:bO Tryz.prog=true:=by kernel_rfl
theorem he:EOk EE:=(qUq qWS).laid qD8
theorem qWo:nX Tryz.prog=true:=by kernel_rfl
theorem qFZ {E:Env} {P:Program} (l:List (Nat × ABlk)) (h:uN E P):uN { E with laid:=l } P:=h
theorem qYM:uN EE Tryz.prog:=by
 unfold EE
 exact qFZ qD8 (qKH qWo)
theorem qNl {E:Env} {f:FuncId} {fn:Func} (l:List (Nat × ABlk)) (h:E.funcs.get f=some fn):({ E with laid:=l }:Env).funcs.get f=some fn:=h
theorem yW {f : FuncId} {fn : Func} {c : Code} (h : Tryz.prog.funcs[f]? = some fn) (hb : fn.body = some c) (hc : (fn.name == "runtime.NumGoroutine" || !zT c) = false) : EE.funcs.get f = some fn := by
 unfold EE
 exact qNl qD8 (qJr h hb hc)
theorem xC {Ts:Nat->Tree}:∀ x∈([]:List (Nat × Tree)),Ts x.1=x.2:=fun _ h=>by cases h
theorem j4 {Ts:Nat->Tree} {k:Nat} {t:Tree} {r:List (Nat × Tree)} (h:Ts k=t) (hr:∀ x∈r,Ts x.1=x.2):∀ x∈(k,t)::r,Ts x.1=x.2:=by
 intro x hx
 rcases List.mem_cons.1 hx with rfl | hx
 ·exact h
 exact hr x hx
abbrev k' (n:Int):SV:=.c (.int .i64 n)
abbrev K' (n:Int):Operand:=.const (.int .i64 n)
abbrev zN (o i:Nat) (r:Tree):Tree:=.bind (.fld false 1 o) [.v i] r
abbrev xE (i:Nat) (r:Tree):Tree:=.bind (.len false) [.v i] r
abbrev wP (a b:Nat) (r:Tree):Tree:=.bind .inr [.v a,.v b] r
theorem xN {t0:Type} {t1:Type} {x0 y0:t0} {x1 y1:t1} (h:(x0,x1)=(y0,y1)):x1=y1:=(pI h).2
theorem xM {t0:Type} {t1:Type} {t2:Type} {t3:Type} {t4:Type} {x0 y0:t0} {x1 y1:t1} {x2 y2:t2} {x3 y3:t3} {x4 y4:t4} (h:(x0,x1,x2,x3,x4)=(y0,y1,y2,y3,y4)):x4=y4:=(pI (pI (pI (pI h).2).2).2).2
theorem qG {t0:Type} {t1:Type} {t2:Type} {t3:Type} {t4:Type} {t5:Type} {t6:Type} {t7:Type} {t8:Type} {t9:Type} {t10:Type} {t11:Type} {t12:Type} {t13:Type} {t14:Type} {t15:Type} {t16:Type} {x0 y0:t0} {x1 y1:t1} {x2 y2:t2} {x3 y3:t3} {x4 y4:t4} {x5 y5:t5} {x6 y6:t6} {x7 y7:t7} {x8 y8:t8} {x9 y9:t9} {x10 y10:t10} {x11 y11:t11} {x12 y12:t12} {x13 y13:t13} {x14 y14:t14} {x15 y15:t15} {x16 y16:t16} (h:(x0,x1,x2,x3,x4,x5,x6,x7,x8,x9,x10,x11,x12,x13,x14,x15,x16)=(y0,y1,y2,y3,y4,y5,y6,y7,y8,y9,y10,y11,y12,y13,y14,y15,y16)):x16=y16:=(pI (pI (pI (pI (pI (pI (pI (pI (pI (pI (pI (pI (pI (pI (pI (pI h).2).2).2).2).2).2).2).2).2).2).2).2).2).2).2).2
abbrev jA (s o i j:Nat) (r:Tree):Tree:=.bind (.elem s false 1 o) [.v i,.v j] r
abbrev xF (op:BinOp) (a b x y:Nat) (r:Tree):Tree:=.bind (.bin op 3 (.tmp a) (.tmp b)) [.v x,.v y] r
abbrev vQ (op:BinOp) (a:Nat) (k:Int) (x:Nat) (r:Tree):Tree:=.bind (.bin op 3 (.tmp a) (K' k)) [.v x,k' k] r
abbrev wU (n i : Nat) (r : Tree) : Tree := .bind (.chk true n) [.v i] r
abbrev qCj (i : Nat) (r : Tree) : Tree := .bind (.chk false 1) [.v i] r
abbrev qJl (n i : Nat) (r : Tree) : Tree := .bind (.ext n) [.v i] r
abbrev yZ (f : Nat) (l : List SV) (k : Nat) (r : Tree) : Tree := .call (.fn f) l k r
abbrev zF (i:Nat) (a b:Tree):Tree:=.ite (.v i) a b
abbrev wG (b:Bool):Tree:=.ret [.c (.bool b)]
abbrev gN (n:Int):Tree:=.ret [k' n]
def JJ (fn:Func) (n:Nat) (P:Nat->Pat):Nat->St->Tree:=fun k S=>xK (Nat.max fn.ntmps n) (P k) k S
noncomputable def rA (fn:Func) (n:Nat) (P:Nat->Pat):Tree:=qFl EE (JJ fn n P) fn n
noncomputable def hd (fn:Func) (n:Nat) (P:Nat->Pat):List (Nat × Tree):=jU EE (fun k=>(P k).st (Nat.max fn.ntmps n)) (JJ fn n P) 1 (jG fn) (uB EE fn.results.toList)
def nr (fn : Func) : Bool := fn.name == "runtime.NumGoroutine" || !zT (jG fn)
theorem hu {f:FuncId} {fn:Func} (h1:Tryz.prog.funcs[f]? = some fn) {Ts:Nat->Tree} {P:Nat->Pat} {n:Nat} {l:List (Nat × Tree)} (h2:fn.body=some (jG fn)) (h3:rA fn n P=Ts 0) (h4:hd fn n P=l) (h5:nr fn=false) (h6:∀ x∈l,Ts x.1=x.2) {ds:List D} {d:D} (hn:ds.length=n) (h:qK EE (qB EE) Ts 0 ds d) (hlt:f < nK:=by decide):qB EE f ds d :=
 qFW he (yW h1 h2 h5) h2 hn h3 (by rw [show jU EE (fun k=>(P k).st (Nat.max fn.ntmps n)) (fun k S=>xK (Nat.max fn.ntmps n) (P k) k S) 1 (jG fn) (uB EE fn.results.toList)=l from h4]; exact h6) h hlt
theorem hv {f : FuncId} {fn : Func} (h1 : Tryz.prog.funcs[f]? = some fn) {Ts : Nat -> Tree} {P : Nat -> Pat} {n : Nat} {l : List (Nat × Tree)} {ρ : Type} {r r' : ρ} (h2 : fn.body = some (jG fn)) (h3 : (rA fn n P, hd fn n P, nr fn, r) = (Ts 0, l, false, r')) (h6 : ∀ x ∈ l, Ts x.1 = x.2) {ds : List D} {d : D} (hn : ds.length = n) (h : qK EE (qB EE) Ts 0 ds d) (hlt : f < nK := by decide) : qB EE f ds d :=
 hu h1 h2 (pI h3).1 (pI (pI h3).2).1 (pI (pI (pI h3).2).2).1 h6 hn h hlt
end Go.Proofs.YtminhjecpnpaeaaGreatDoor
