/- The seat's program for symbolic runs. Conditions: none. -/
import Derived.Test.YtnemldklhelbeaaGreatUn
import Derived.Test.YtnemldklhelbeaaGreatChecked
import Derived.Test.YtnemldklhelbeaaGreatTu
import Derived.Test.YtnemldklhelbeaaGreatSx6
import Derived.KernelRfl
set_option linter.unusedVariables false
set_option linter.unusedSimpArgs false
namespace Go.Proofs.YtnemldklhelbeaaGreat
open Go Go.Am Go.Proofs
noncomputable def EE:Env:=envOf Tryz.prog
def bodyOf (fn:Func):Code:=fn.body.getD .skip
theorem good:envGood Tryz.prog=true:=by kernel_rfl
theorem he:EOk EE:=env_ok good
theorem regs:regsAll Tryz.prog=true:=by kernel_rfl
theorem tabN {Ts:Nat→Tree}:∀ x∈([]:List (Nat × Tree)),Ts x.1=x.2:=fun _ h=>by cases h
theorem tabC {Ts:Nat→Tree} {k:Nat} {t:Tree} {r:List (Nat × Tree)} (h:Ts k=t) (hr:∀ x∈r,Ts x.1=x.2):∀ x∈(k,t)::r,Ts x.1=x.2:=by
 intro x hx
 rcases List.mem_cons.1 hx with rfl | hx
 ·
  exact h
 ·
  exact hr x hx
abbrev k' (n:Int):SV:=.c (.int .i64 n)
abbrev K' (n:Int):Operand:=.const (.int .i64 n)
abbrev fl' (o i:Nat) (r:Tree):Tree:=.bind (.fld false 1 o) [.v i] r
abbrev ln' (i:Nat) (r:Tree):Tree:=.bind (.len false) [.v i] r
abbrev ir' (a b:Nat) (r:Tree):Tree:=.bind .inr [.v a,.v b] r
theorem nx1 {t0:Type} {t1:Type} {x0 y0:t0} {x1 y1:t1} (h:(x0,x1)=(y0,y1)):x1=y1:=(Prod.mk.inj h).2
theorem nx4 {t0:Type} {t1:Type} {t2:Type} {t3:Type} {t4:Type} {x0 y0:t0} {x1 y1:t1} {x2 y2:t2} {x3 y3:t3} {x4 y4:t4} (h:(x0,x1,x2,x3,x4)=(y0,y1,y2,y3,y4)):x4=y4:=(Prod.mk.inj (Prod.mk.inj (Prod.mk.inj (Prod.mk.inj h).2).2).2).2
theorem nx16 {t0:Type} {t1:Type} {t2:Type} {t3:Type} {t4:Type} {t5:Type} {t6:Type} {t7:Type} {t8:Type} {t9:Type} {t10:Type} {t11:Type} {t12:Type} {t13:Type} {t14:Type} {t15:Type} {t16:Type} {x0 y0:t0} {x1 y1:t1} {x2 y2:t2} {x3 y3:t3} {x4 y4:t4} {x5 y5:t5} {x6 y6:t6} {x7 y7:t7} {x8 y8:t8} {x9 y9:t9} {x10 y10:t10} {x11 y11:t11} {x12 y12:t12} {x13 y13:t13} {x14 y14:t14} {x15 y15:t15} {x16 y16:t16} (h:(x0,x1,x2,x3,x4,x5,x6,x7,x8,x9,x10,x11,x12,x13,x14,x15,x16)=(y0,y1,y2,y3,y4,y5,y6,y7,y8,y9,y10,y11,y12,y13,y14,y15,y16)):x16=y16:=(Prod.mk.inj (Prod.mk.inj (Prod.mk.inj (Prod.mk.inj (Prod.mk.inj (Prod.mk.inj (Prod.mk.inj (Prod.mk.inj (Prod.mk.inj (Prod.mk.inj (Prod.mk.inj (Prod.mk.inj (Prod.mk.inj (Prod.mk.inj (Prod.mk.inj (Prod.mk.inj h).2).2).2).2).2).2).2).2).2).2).2).2).2).2).2).2
abbrev el' (s o i j:Nat) (r:Tree):Tree:=.bind (.elem s false 1 o) [.v i,.v j] r
abbrev bt' (op:BinOp) (a b x y:Nat) (r:Tree):Tree:=.bind (.bin op 3 (.tmp a) (.tmp b)) [.v x,.v y] r
abbrev bk' (op:BinOp) (a:Nat) (k:Int) (x:Nat) (r:Tree):Tree:=.bind (.bin op 3 (.tmp a) (K' k)) [.v x,k' k] r
abbrev it' (i:Nat) (a b:Tree):Tree:=.ite (.v i) a b
abbrev rb' (b:Bool):Tree:=.ret [.c (.bool b)]
abbrev rk' (n:Int):Tree:=.ret [k' n]
def JJ (fn:Func) (n:Nat) (P:Nat→Pat):Nat→St→Tree:=fun k S=>jumpS (Nat.max fn.ntmps n) (P k) k S
noncomputable def rt (fn:Func) (n:Nat) (P:Nat→Pat):Tree:=rootT EE (JJ fn n P) fn n
noncomputable def hd (fn:Func) (n:Nat) (P:Nat→Pat):List (Nat × Tree):=headsT EE (fun k=>(P k).st (Nat.max fn.ntmps n)) (JJ fn n P) 1 (bodyOf fn) (endK EE fn.results.toList)
def nr (fn : Func) : Bool := fn.name == "runtime.NumGoroutine" || !regsOk (bodyOf fn)
theorem hu {f:FuncId} {fn:Func} (h1:Tryz.prog.funcs[f]? = some fn) {Ts:Nat→Tree} {P:Nat→Pat} {n:Nat} {l:List (Nat × Tree)} (h2:fn.body=some (bodyOf fn)) (h3:rt fn n P=Ts 0) (h4:hd fn n P=l) (h5:nr fn=false) (h6:∀ x∈l,Ts x.1=x.2) {ds:List D} {d:D} (hn:ds.length=n) (h:Goes EE (Holds EE) Ts 0 ds d) (hlt:f < bigN:=by decide):Holds EE f ds d :=
 holds_of he (envFunc h1 h2 h5) h2 hn h3 (by rw [show headsT EE (fun k=>(P k).st (Nat.max fn.ntmps n)) (fun k S=>jumpS (Nat.max fn.ntmps n) (P k) k S) 1 (bodyOf fn) (endK EE fn.results.toList)=l from h4]; exact h6) h hlt
theorem nx64 {t0:Type} {t1:Type} {t2:Type} {t3:Type} {t4:Type} {t5:Type} {t6:Type} {t7:Type} {t8:Type} {t9:Type} {t10:Type} {t11:Type} {t12:Type} {t13:Type} {t14:Type} {t15:Type} {t16:Type} {t17:Type} {t18:Type} {t19:Type} {t20:Type} {t21:Type} {t22:Type} {t23:Type} {t24:Type} {t25:Type} {t26:Type} {t27:Type} {t28:Type} {t29:Type} {t30:Type} {t31:Type} {t32:Type} {t33:Type} {t34:Type} {t35:Type} {t36:Type} {t37:Type} {t38:Type} {t39:Type} {t40:Type} {t41:Type} {t42:Type} {t43:Type} {t44:Type} {t45:Type} {t46:Type} {t47:Type} {t48:Type} {t49:Type} {t50:Type} {t51:Type} {t52:Type} {t53:Type} {t54:Type} {t55:Type} {t56:Type} {t57:Type} {t58:Type} {t59:Type} {t60:Type} {t61:Type} {t62:Type} {t63:Type} {t64:Type} {x0 y0:t0} {x1 y1:t1} {x2 y2:t2} {x3 y3:t3} {x4 y4:t4} {x5 y5:t5} {x6 y6:t6} {x7 y7:t7} {x8 y8:t8} {x9 y9:t9} {x10 y10:t10} {x11 y11:t11} {x12 y12:t12} {x13 y13:t13} {x14 y14:t14} {x15 y15:t15} {x16 y16:t16} {x17 y17:t17} {x18 y18:t18} {x19 y19:t19} {x20 y20:t20} {x21 y21:t21} {x22 y22:t22} {x23 y23:t23} {x24 y24:t24} {x25 y25:t25} {x26 y26:t26} {x27 y27:t27} {x28 y28:t28} {x29 y29:t29} {x30 y30:t30} {x31 y31:t31} {x32 y32:t32} {x33 y33:t33} {x34 y34:t34} {x35 y35:t35} {x36 y36:t36} {x37 y37:t37} {x38 y38:t38} {x39 y39:t39} {x40 y40:t40} {x41 y41:t41} {x42 y42:t42} {x43 y43:t43} {x44 y44:t44} {x45 y45:t45} {x46 y46:t46} {x47 y47:t47} {x48 y48:t48} {x49 y49:t49} {x50 y50:t50} {x51 y51:t51} {x52 y52:t52} {x53 y53:t53} {x54 y54:t54} {x55 y55:t55} {x56 y56:t56} {x57 y57:t57} {x58 y58:t58} {x59 y59:t59} {x60 y60:t60} {x61 y61:t61} {x62 y62:t62} {x63 y63:t63} {x64 y64:t64} (h:(x0,x1,x2,x3,x4,x5,x6,x7,x8,x9,x10,x11,x12,x13,x14,x15,x16,x17,x18,x19,x20,x21,x22,x23,x24,x25,x26,x27,x28,x29,x30,x31,x32,x33,x34,x35,x36,x37,x38,x39,x40,x41,x42,x43,x44,x45,x46,x47,x48,x49,x50,x51,x52,x53,x54,x55,x56,x57,x58,x59,x60,x61,x62,x63,x64)=(y0,y1,y2,y3,y4,y5,y6,y7,y8,y9,y10,y11,y12,y13,y14,y15,y16,y17,y18,y19,y20,y21,y22,y23,y24,y25,y26,y27,y28,y29,y30,y31,y32,y33,y34,y35,y36,y37,y38,y39,y40,y41,y42,y43,y44,y45,y46,y47,y48,y49,y50,y51,y52,y53,y54,y55,y56,y57,y58,y59,y60,y61,y62,y63,y64)):x64=y64:=nx16 (nx16 (nx16 (nx16 h)))
end Go.Proofs.YtnemldklhelbeaaGreat
