/- Roles and notes by their numbers. Conditions: none. -/
import Derived.Test.YtpbmnkajhedaiaaGreatHa
set_option linter.all false
namespace Go.Proofs.YtpbmnkajhedaiaaGreat
open Go Go.Am Go.Proofs Go.Am.Tr
def f9(ts:List Tr)(r:Int)(i:Nat):Int:=match (ts.drop i).findIdx? λt=>decide (t.rl=r)with
 |some k=>((i+k:Nat):Int)
 |none=>-1
theorem qRn(ts:List Tr)(r:Int):f9 ts r 0=mU ts r:=by unfold f9 mU;grind
theorem qLg{ts:List Tr}{r:Int}{i:Nat}(h:ts.length<=i):f9 ts r i = -1:=by unfold f9;rw[List.drop_of_length_le h];rfl
theorem kL{α:Type}{l:List α}{i:Nat}{x:α}(h:l[i]? = some x):l.drop i=x::l.drop (i+1):=by have y:i<l.length:=(gI h).1;rw[List.drop_eq_getElem_cons y];congr 1;exact(gI h).2
theorem qLf{ts:List Tr}{r:Int}{i:Nat}{t:Tr}(h:ts[i]? = some t)(e:t.rl=r):f9 ts r i=(i:Int):=by unfold f9;rw[kL h,List.findIdx?_cons,tD e];rfl
theorem qOf{ts:List Tr}{r:Int}{i:Nat}{t:Tr}(h:ts[i]? = some t)(e:¬t.rl=r):f9 ts r i=f9 ts r (i+1):=by unfold f9;rw[kL h,List.findIdx?_cons,fD e];grind
theorem eJ{α:Type}{f:α->D}{l:List α}{d:D}{i:Nat}(hd:d.es=l.map f)(h:i<l.length):∃x,l[i]? = some x/\d.es[i]? = some (f x):=
 ⟨l[i],List.getElem?_eq_getElem h,by rw[hd,List.getElem?_map,List.getElem?_eq_getElem h];rfl⟩
theorem qPv{ns:List Nt}{r:Int}{i:Nat}{n:Nt}(h:ns[i]? = some n)(e:n.id=r):getN (ns.drop i) r=some n:=by unfold getN;rw[kL h,List.find?_cons,tD e]
theorem qSt{ns:List Nt}{r:Int}{i:Nat}{n:Nt}(h:ns[i]? = some n)(e:¬n.id=r):getN (ns.drop i) r=getN (ns.drop (i+1)) r:=by unfold getN;rw[kL h,List.find?_cons,fD e]
def qIL(ns:List Nt)(r:Int):D:=.tup [mO ((getN ns r).getD zN),dB (getN ns r).isSome]
attribute [local irreducible] Go.Am.wp Go.Am.TOp.eval
theorem zGv{T:D}{ts:List Tr}{r:Int}(y:xU 102 4 T)(e:T.es=ts.map qMx)(j:r≠0)(k:ts.length<=1000):Holds EE 48 [T,dI r] (dI (mU ts r)):=by
 have l:T.es.length=ts.length:=by rw[e,List.length_map]
 rw[←qRn];refine zFD rfl (qE.step' ?_);refine bS (qI y) ?_;refine qS rfl (vD (P:=λi:Nat=>i<=ts.length->qE EE (Holds EE) qTR 1 [dI r,T,dI ((T.es.length:Nat):Int),dI ((i:Nat):Int)] (dI (f9 ts r i))) ts.length (λi g=>?_) 0 (Nat.zero_le _));intro o;refine qE.step' ?_;refine bS qP ?_;refine iC (λc=>?_) λc=>?_
 ·have x:i<ts.length:=by have:=xN c;omega
  obtain⟨t,b,h⟩:=eJ e x;obtain⟨nm,kd,rl,pa⟩:=t;have h:T.es[i]? = some (.agg [.leaf (.string nm),dI kd,dI rl,dI pa]):=h;refine bS (qV (s:=((i:Nat):Int)) (by omega) h) ?_;refine bS (zU (s:=((i:Nat):Int)) y (by omega) h rfl) ?_;refine bS (qD rfl) ?_;refine bS jW ?_;refine iC (λd=>?_) λd=>?_
  ·skip;refine bS (qB (off:=2) rfl rfl) ?_;refine bS jO ?_;refine iC (λf=>?_) λf=>?_
   ·rw[qLf b (dT f)];exact qF rfl rfl
   rw[qOf b (dF f)];refine bS (d:=dI ((i+1:Nat):Int)) (qY (qN (by omega))) ?_;exact qS rfl (g x x)
  grind
 have:=wJ c;rw[qLg (by omega)];exact qF rfl rfl
theorem zGu{di ln dy r:Int}{nm sp T M:D}{ns:List Nt}(j:nm.one=true)(g:sp.one=true)(A:T.one=true)(x:xU 106 7 M)(k:M.es=ns.map mO)(B:ns.length<=1000):Holds EE 49 [.agg [dI di,nm,dI ln,dI dy,sp,T,M],dI r] (qIL ns r):=by
 have C:M.es.length=ns.length:=by rw[k,List.length_map]
 refine zFC rfl (qE.step' ?_);refine bS (qD rfl) ?_;refine bS (qB (off:=6) rfl x.one) ?_;refine bS (qI x) ?_;refine qS rfl (vD (P:=λi:Nat=>i<=ns.length->qE EE (Holds EE) qTO 1 [dI r,M,dI ((M.es.length:Nat):Int),dI ((i:Nat):Int)] (qIL (ns.drop i) r)) ns.length (λi z=>?_) 0 (Nat.zero_le _));intro E;refine qE.step' ?_;refine bS qP ?_;refine iC (λc=>?_) λc=>?_
 ·have y:i<ns.length:=by have:=xN c;omega
  obtain⟨t,b,h⟩:=eJ k y;obtain⟨u,xt,p,w,q,o,l⟩:=t;have h:M.es[i]? = some (.agg [dI u,dI xt,dI p,dI w,dI q,dI o,.leaf (.string l)]):=h;refine bS (qV (s:=((i:Nat):Int)) (by omega) h) ?_;refine bS (zU (s:=((i:Nat):Int)) x (by omega) h rfl) ?_;refine bS (qD rfl) ?_;refine bS (qB (off:=0) rfl rfl) ?_;refine bS jO ?_;refine iC (λf=>?_) λf=>?_
  ·have e:=qPv b (dT f);unfold qIL;rw[e];refine bS (qD rfl) ?_;exact rN rfl rfl
  have e:=qSt b (dF f);have hv:qIL (ns.drop i) r=qIL (ns.drop (i+1)) r:=by unfold qIL;rw[e]
  rw[hv];refine bS (d:=dI ((i+1:Nat):Int)) (qY (qN (by omega))) ?_;exact qS rfl (z y y)
 have:=wJ c;have hd:ns.drop i=[]:=List.drop_of_length_le (by omega);rw[hd];exact rN rfl rfl
end Go.Proofs.YtpbmnkajhedaiaaGreat
