/- Functions that hold two data against each other. Conditions: none. -/
import Derived.Test.YtocbbgmhkhallaaGreatDoorBh
import Derived.Test.YtocbbgmhkhallaaGreatDoorUn
set_option linter.unusedVariables false
set_option linter.unusedSimpArgs false
namespace Go.Proofs.YtocbbgmhkhallaaGreatDoor
open Go Go.Am Go.Proofs
attribute [local irreducible] Go.Am.wp Go.Am.TOp.eval
theorem zCM:mV EE.prog 4 85=some [.str,.int .i64]:=by kernel_rfl
theorem zCY:pD EE.prog 85=true:=by kernel_rfl
theorem zDQ:EE.prog.eqGuardType EE.prog.depth 85=false:=by kernel_rfl
theorem zCO:mV EE.prog 4 65=some [.int .i64,.int .i64]:=by kernel_rfl
theorem zC0:pD EE.prog 65=true:=by kernel_rfl
theorem zDS:EE.prog.eqGuardType EE.prog.depth 65=false:=by kernel_rfl
theorem zCP:mV EE.prog 4 55=some [.int .i64,.int .i64,.int .i64]:=by kernel_rfl
theorem zC1:pD EE.prog 55=true:=by kernel_rfl
theorem zDT:EE.prog.eqGuardType EE.prog.depth 55=false:=by kernel_rfl
theorem zAr:mV EE.prog 4 105=some [.str,.str]:=by kernel_rfl
theorem zAB:pD EE.prog 105=true:=by kernel_rfl
theorem zBo:EE.prog.eqGuardType EE.prog.depth 105=false:=by kernel_rfl
theorem zCN:mV EE.prog 4 73=some [.int .i64,.int .i64]:=by kernel_rfl
theorem zCZ:pD EE.prog 73=true:=by kernel_rfl
theorem zDR:EE.prog.eqGuardType EE.prog.depth 73=false:=by kernel_rfl
theorem zAq:mV EE.prog 4 163=some [.int .i64,.int .i64]:=by kernel_rfl
theorem zAA:pD EE.prog 163=true:=by kernel_rfl
theorem zBn:EE.prog.eqGuardType EE.prog.depth 163=false:=by kernel_rfl
theorem zE0:mV EE.prog 1 4=some [.bool]:=by kernel_rfl
theorem zFn:pD EE.prog 4=false:=by kernel_rfl
theorem qUR:mV EE.prog 4 127=some [.int .i64,.int .i64,.int .i64]:=by kernel_rfl
theorem qUW:pD EE.prog 127=true:=by kernel_rfl
theorem qVf:EE.prog.eqGuardType EE.prog.depth 127=false:=by kernel_rfl
variable{b:D}
theorem zHj{a:D}(l:zE (.sl 3 1 (.int .i64)) a)(k:zE (.sl 3 1 (.int .i64)) b):qA EE 10 [a,b] (dB (deq a b)):=by
 refine zEZ rfl (qP.a9 ?_);have h:=qM l;have c:=qM k;refine bS (qO h) ?_;refine bS (qO c) ?_;refine bS xZ ?_;refine iC (λc0=>?_) λc0=>?_
 ·have t:=wV h c (kU c0);refine qE (d':=dB (false)) rfl (qX ?_)
  ((try simp only[qH,qJ,qG,qD,qK,qI,qL]at t ⊢);grind)
 have e:=kT c0;refine bS (qO h) ?_;refine qY rfl ?_;refine xS (ρ:=λp=>[a,b,dI ((a.es.length:Nat):Int),dI ((p:Nat):Int)]) h c e (λo=>?_) ?_ (λo=>?_)
 ·((try simp only[qH,qJ,qG,qD,qK,qI,qL]at o ⊢);grind)
 ·intro p x1 r y x j i;obtain⟨x1,rfl⟩:=vN l y;obtain⟨r,rfl⟩:=vN k x;refine bS jE ?_;refine zV rfl ?_;rw[wU (show p<a.es.length by omega)];refine oB ?_;refine bS (vY y) ?_;refine bS (yH h y rfl) ?_;refine bS (vY x) ?_;refine bS (yH c x rfl) ?_;refine bS xZ ?_;refine iC (λq=>?_) λq=>?_
  ·skip;refine wQ rfl ?_;clear j i;((try simp only[qH,qJ,qG,qD,qK,qI,qL]at q ⊢);grind)
  refine bS (zF i) ?_;refine xN rfl ?_;clear j i;((try simp only[qH,qJ,qG,qD,qK,qI,qL]at q ⊢);grind)
 refine bS jE ?_;refine zV rfl ?_;rw[xR];refine yJ ?_;refine qE (d':=dB (true)) rfl (qX ?_)
 ((try simp only[qH,qJ,qG,qD,qK,qI,qL]at o ⊢);grind)
theorem zHe{a:D}(l:zE (.sl 85 2 (.st [.str,.int .i64])) a)(k:zE (.sl 85 2 (.st [.str,.int .i64])) b):qA EE 28 [a,b] (dB (deq a b)):=by
 refine zGj rfl (qP.a9 ?_);have h:=qM l;have c:=qM k;refine bS (qO h) ?_;refine bS (qO c) ?_;refine bS xZ ?_;refine iC (λc0=>?_) λc0=>?_
 ·have z:=wV h c (kU c0);refine qE (d':=dB (false)) rfl (qX ?_)
  ((try simp only[qH,qJ,qG,qD,qK,qI,qL]at z ⊢);grind)
 have e:=kT c0;refine bS (qO h) ?_;refine qY rfl ?_;refine xS (ρ:=λp=>[a,b,dI ((a.es.length:Nat):Int),dI ((p:Nat):Int)]) h c e (λo=>?_) ?_ (λo=>?_)
 ·((try simp only[qH,qJ,qG,qD,qK,qI,qL]at o ⊢);grind)
 ·intro p x1 A y x j i;obtain⟨_,rfl,_,_,rfl,⟨w,rfl⟩,_,_,rfl,⟨u,rfl⟩,rfl⟩:=vN l y;obtain⟨_,rfl,_,_,rfl,⟨t,rfl⟩,_,_,rfl,⟨r,rfl⟩,rfl⟩:=vN k x;refine bS jE ?_;refine zV rfl ?_;rw[wU (show p<a.es.length by omega)];refine oB ?_;refine bS (vY y) ?_;refine bS (vZ h y rfl) ?_;refine bS (vY x) ?_;refine bS (vZ c x rfl) ?_;refine bS (oP .neq (.inl rfl) zCM zCY qU9 zDQ rfl (qN bD (qN vR v9)) (qN bD (qN vR v9))) ?_;refine iC (λq=>?_) λq=>?_
  ·skip;refine wQ rfl ?_;clear j i;((try simp only[qH,qJ,qG,qD,qK,qI,qL]at q ⊢);grind)
  refine bS (zF i) ?_;refine xN rfl ?_;clear j i;((try simp only[qH,qJ,qG,qD,qK,qI,qL]at q ⊢);grind)
 refine bS jE ?_;refine zV rfl ?_;rw[xR];refine yJ ?_;refine qE (d':=dB (true)) rfl (qX ?_)
 ((try simp only[qH,qJ,qG,qD,qK,qI,qL]at o ⊢);grind)
theorem qYG{a:D}(l:zE (.sl 3 1 (.int .i64)) a)(k:zE (.sl 3 1 (.int .i64)) b):qA EE 60 [a,b] (dB (deq a b)):=by
 refine zF7 rfl (qP.a9 ?_);have h:=qM l;have c:=qM k;refine bS (qO h) ?_;refine bS (qO c) ?_;refine bS xZ ?_;refine iC (λc0=>?_) λc0=>?_
 ·have t:=wV h c (kU c0);refine qE (d':=dB (false)) rfl (qX ?_)
  ((try simp only[qH,qJ,qG,qD,qK,qI,qL]at t ⊢);grind)
 have e:=kT c0;refine bS (qO h) ?_;refine qY rfl ?_;refine xS (ρ:=λp=>[a,b,dI ((a.es.length:Nat):Int),dI ((p:Nat):Int)]) h c e (λo=>?_) ?_ (λo=>?_)
 ·((try simp only[qH,qJ,qG,qD,qK,qI,qL]at o ⊢);grind)
 ·intro p x1 r y x j i;obtain⟨x1,rfl⟩:=vN l y;obtain⟨r,rfl⟩:=vN k x;refine bS jE ?_;refine zV rfl ?_;rw[wU (show p<a.es.length by omega)];refine oB ?_;refine bS (vY y) ?_;refine bS (yH h y rfl) ?_;refine bS (vY x) ?_;refine bS (yH c x rfl) ?_;refine bS xZ ?_;refine iC (λq=>?_) λq=>?_
  ·skip;refine wQ rfl ?_;clear j i;((try simp only[qH,qJ,qG,qD,qK,qI,qL]at q ⊢);grind)
  refine bS (zF i) ?_;refine xN rfl ?_;clear j i;((try simp only[qH,qJ,qG,qD,qK,qI,qL]at q ⊢);grind)
 refine bS jE ?_;refine zV rfl ?_;rw[xR];refine yJ ?_;refine qE (d':=dB (true)) rfl (qX ?_)
 ((try simp only[qH,qJ,qG,qD,qK,qI,qL]at o ⊢);grind)
theorem zG1{a:D}(l:zE (.sl 9 1 (.str)) a)(k:zE (.sl 9 1 (.str)) b):qA EE 62 [a,b] (dB (deq a b)):=by
 refine zF5 rfl (qP.a9 ?_);have h:=qM l;have c:=qM k;refine bS (qO h) ?_;refine bS (qO c) ?_;refine bS xZ ?_;refine iC (λc0=>?_) λc0=>?_
 ·have t:=wV h c (kU c0);refine qE (d':=dB (false)) rfl (qX ?_)
  ((try simp only[qH,qJ,qG,qD,qK,qI,qL]at t ⊢);grind)
 have e:=kT c0;refine bS (qO h) ?_;refine qY rfl ?_;refine xS (ρ:=λp=>[a,b,dI ((a.es.length:Nat):Int),dI ((p:Nat):Int)]) h c e (λo=>?_) ?_ (λo=>?_)
 ·((try simp only[qH,qJ,qG,qD,qK,qI,qL]at o ⊢);grind)
 ·intro p x1 r y x j i;obtain⟨x1,rfl⟩:=vN l y;obtain⟨r,rfl⟩:=vN k x;refine bS jE ?_;refine zV rfl ?_;rw[wU (show p<a.es.length by omega)];refine oB ?_;refine bS (vY y) ?_;refine bS (yH h y rfl) ?_;refine bS (vY x) ?_;refine bS (yH c x rfl) ?_;refine bS fK ?_;refine iC (λq=>?_) λq=>?_
  ·skip;refine wQ rfl ?_;clear j i;((try simp only[qH,qJ,qG,qD,qK,qI,qL]at q ⊢);grind)
  refine bS (zF i) ?_;refine xN rfl ?_;clear j i;((try simp only[qH,qJ,qG,qD,qK,qI,qL]at q ⊢);grind)
 refine bS jE ?_;refine zV rfl ?_;rw[xR];refine yJ ?_;refine qE (d':=dB (true)) rfl (qX ?_)
 ((try simp only[qH,qJ,qG,qD,qK,qI,qL]at o ⊢);grind)
theorem zFz{a:D}(l:zE (.sl 65 2 (.st [.int .i64,.int .i64])) a)(k:zE (.sl 65 2 (.st [.int .i64,.int .i64])) b):qA EE 65 [a,b] (dB (deq a b)):=by
 refine zF2 rfl (qP.a9 ?_);have h:=qM l;have c:=qM k;refine bS (qO h) ?_;refine bS (qO c) ?_;refine bS xZ ?_;refine iC (λc0=>?_) λc0=>?_
 ·have z:=wV h c (kU c0);refine qE (d':=dB (false)) rfl (qX ?_)
  ((try simp only[qH,qJ,qG,qD,qK,qI,qL]at z ⊢);grind)
 have e:=kT c0;refine bS (qO h) ?_;refine qY rfl ?_;refine xS (ρ:=λp=>[a,b,dI ((a.es.length:Nat):Int),dI ((p:Nat):Int)]) h c e (λo=>?_) ?_ (λo=>?_)
 ·((try simp only[qH,qJ,qG,qD,qK,qI,qL]at o ⊢);grind)
 ·intro p x1 A y x j i;obtain⟨_,rfl,_,_,rfl,⟨w,rfl⟩,_,_,rfl,⟨u,rfl⟩,rfl⟩:=vN l y;obtain⟨_,rfl,_,_,rfl,⟨t,rfl⟩,_,_,rfl,⟨r,rfl⟩,rfl⟩:=vN k x;refine bS jE ?_;refine zV rfl ?_;rw[wU (show p<a.es.length by omega)];refine oB ?_;refine bS (vY y) ?_;refine bS (vZ h y rfl) ?_;refine bS (vY x) ?_;refine bS (vZ c x rfl) ?_;refine bS (oP .neq (.inl rfl) zCO zC0 qU9 zDS rfl (qN vR (qN vR v9)) (qN vR (qN vR v9))) ?_;refine iC (λq=>?_) λq=>?_
  ·skip;refine wQ rfl ?_;clear j i;((try simp only[qH,qJ,qG,qD,qK,qI,qL]at q ⊢);grind)
  refine bS (zF i) ?_;refine xN rfl ?_;clear j i;((try simp only[qH,qJ,qG,qD,qK,qI,qL]at q ⊢);grind)
 refine bS jE ?_;refine zV rfl ?_;rw[xR];refine yJ ?_;refine qE (d':=dB (true)) rfl (qX ?_)
 ((try simp only[qH,qJ,qG,qD,qK,qI,qL]at o ⊢);grind)
theorem zGY{a:D}(l:zE (.sl 55 3 (.st [.int .i64,.int .i64,.int .i64])) a)(k:zE (.sl 55 3 (.st [.int .i64,.int .i64,.int .i64])) b):qA EE 66 [a,b] (dB (deq a b)):=by
 refine zF1 rfl (qP.a9 ?_);have h:=qM l;have c:=qM k;refine bS (qO h) ?_;refine bS (qO c) ?_;refine bS xZ ?_;refine iC (λc0=>?_) λc0=>?_
 ·have B:=wV h c (kU c0);refine qE (d':=dB (false)) rfl (qX ?_)
  ((try simp only[qH,qJ,qG,qD,qK,qI,qL]at B ⊢);grind)
 have e:=kT c0;refine bS (qO h) ?_;refine qY rfl ?_;refine xS (ρ:=λp=>[a,b,dI ((a.es.length:Nat):Int),dI ((p:Nat):Int)]) h c e (λo=>?_) ?_ (λo=>?_)
 ·((try simp only[qH,qJ,qG,qD,qK,qI,qL]at o ⊢);grind)
 ·intro p x1 C y x j i;obtain⟨_,rfl,_,_,rfl,⟨A,rfl⟩,_,_,rfl,⟨z,rfl⟩,_,_,rfl,⟨w,rfl⟩,rfl⟩:=vN l y;obtain⟨_,rfl,_,_,rfl,⟨u,rfl⟩,_,_,rfl,⟨t,rfl⟩,_,_,rfl,⟨r,rfl⟩,rfl⟩:=vN k x;refine bS jE ?_;refine zV rfl ?_;rw[wU (show p<a.es.length by omega)];refine oB ?_;refine bS (vY y) ?_;refine bS (vZ h y rfl) ?_;refine bS (vY x) ?_;refine bS (vZ c x rfl) ?_;refine bS (oP .neq (.inl rfl) zCP zC1 qU9 zDT rfl (qN vR (qN vR (qN vR v9))) (qN vR (qN vR (qN vR v9)))) ?_;refine iC (λq=>?_) λq=>?_
  ·skip;refine wQ rfl ?_;clear j i;((try simp only[qH,qJ,qG,qD,qK,qI,qL]at q ⊢);grind)
  refine bS (zF i) ?_;refine xN rfl ?_;clear j i;((try simp only[qH,qJ,qG,qD,qK,qI,qL]at q ⊢);grind)
 refine bS jE ?_;refine zV rfl ?_;rw[xR];refine yJ ?_;refine qE (d':=dB (true)) rfl (qX ?_)
 ((try simp only[qH,qJ,qG,qD,qK,qI,qL]at o ⊢);grind)
theorem zDN{a:D}(l:zE (.sl 105 2 (.st [.str,.str])) a)(k:zE (.sl 105 2 (.st [.str,.str])) b):qA EE 112 [a,b] (dB (deq a b)):=by
 refine zCJ rfl (qP.a9 ?_);have h:=qM l;have c:=qM k;refine bS (qO h) ?_;refine bS (qO c) ?_;refine bS xZ ?_;refine iC (λc0=>?_) λc0=>?_
 ·have z:=wV h c (kU c0);refine qE (d':=dB (false)) rfl (qX ?_)
  ((try simp only[qH,qJ,qG,qD,qK,qI,qL]at z ⊢);grind)
 have e:=kT c0;refine bS (qO h) ?_;refine qY rfl ?_;refine xS (ρ:=λp=>[a,b,dI ((a.es.length:Nat):Int),dI ((p:Nat):Int)]) h c e (λo=>?_) ?_ (λo=>?_)
 ·((try simp only[qH,qJ,qG,qD,qK,qI,qL]at o ⊢);grind)
 ·intro p x1 A y x j i;obtain⟨_,rfl,_,_,rfl,⟨w,rfl⟩,_,_,rfl,⟨u,rfl⟩,rfl⟩:=vN l y;obtain⟨_,rfl,_,_,rfl,⟨t,rfl⟩,_,_,rfl,⟨r,rfl⟩,rfl⟩:=vN k x;refine bS jE ?_;refine zV rfl ?_;rw[wU (show p<a.es.length by omega)];refine oB ?_;refine bS (vY y) ?_;refine bS (vZ h y rfl) ?_;refine bS (vY x) ?_;refine bS (vZ c x rfl) ?_;refine bS (oP .neq (.inl rfl) zAr zAB qU9 zBo rfl (qN bD (qN bD v9)) (qN bD (qN bD v9))) ?_;refine iC (λq=>?_) λq=>?_
  ·skip;refine wQ rfl ?_;clear j i;((try simp only[qH,qJ,qG,qD,qK,qI,qL]at q ⊢);grind)
  refine bS (zF i) ?_;refine xN rfl ?_;clear j i;((try simp only[qH,qJ,qG,qD,qK,qI,qL]at q ⊢);grind)
 refine bS jE ?_;refine zV rfl ?_;rw[xR];refine yJ ?_;refine qE (d':=dB (true)) rfl (qX ?_)
 ((try simp only[qH,qJ,qG,qD,qK,qI,qL]at o ⊢);grind)
theorem zDM{a:D}(l:zE (.sl 73 2 (.st [.int .i64,.int .i64])) a)(k:zE (.sl 73 2 (.st [.int .i64,.int .i64])) b):qA EE 113 [a,b] (dB (deq a b)):=by
 refine zCI rfl (qP.a9 ?_);have h:=qM l;have c:=qM k;refine bS (qO h) ?_;refine bS (qO c) ?_;refine bS xZ ?_;refine iC (λc0=>?_) λc0=>?_
 ·have z:=wV h c (kU c0);refine qE (d':=dB (false)) rfl (qX ?_)
  ((try simp only[qH,qJ,qG,qD,qK,qI,qL]at z ⊢);grind)
 have e:=kT c0;refine bS (qO h) ?_;refine qY rfl ?_;refine xS (ρ:=λp=>[a,b,dI ((a.es.length:Nat):Int),dI ((p:Nat):Int)]) h c e (λo=>?_) ?_ (λo=>?_)
 ·((try simp only[qH,qJ,qG,qD,qK,qI,qL]at o ⊢);grind)
 ·intro p x1 A y x j i;obtain⟨_,rfl,_,_,rfl,⟨w,rfl⟩,_,_,rfl,⟨u,rfl⟩,rfl⟩:=vN l y;obtain⟨_,rfl,_,_,rfl,⟨t,rfl⟩,_,_,rfl,⟨r,rfl⟩,rfl⟩:=vN k x;refine bS jE ?_;refine zV rfl ?_;rw[wU (show p<a.es.length by omega)];refine oB ?_;refine bS (vY y) ?_;refine bS (vZ h y rfl) ?_;refine bS (vY x) ?_;refine bS (vZ c x rfl) ?_;refine bS (oP .neq (.inl rfl) zCN zCZ qU9 zDR rfl (qN vR (qN vR v9)) (qN vR (qN vR v9))) ?_;refine iC (λq=>?_) λq=>?_
  ·skip;refine wQ rfl ?_;clear j i;((try simp only[qH,qJ,qG,qD,qK,qI,qL]at q ⊢);grind)
  refine bS (zF i) ?_;refine xN rfl ?_;clear j i;((try simp only[qH,qJ,qG,qD,qK,qI,qL]at q ⊢);grind)
 refine bS jE ?_;refine zV rfl ?_;rw[xR];refine yJ ?_;refine qE (d':=dB (true)) rfl (qX ?_)
 ((try simp only[qH,qJ,qG,qD,qK,qI,qL]at o ⊢);grind)
theorem zDL{a:D}(l:zE (.sl 163 2 (.st [.int .i64,.int .i64])) a)(k:zE (.sl 163 2 (.st [.int .i64,.int .i64])) b):qA EE 114 [a,b] (dB (deq a b)):=by
 refine zCH rfl (qP.a9 ?_);have h:=qM l;have c:=qM k;refine bS (qO h) ?_;refine bS (qO c) ?_;refine bS xZ ?_;refine iC (λc0=>?_) λc0=>?_
 ·have z:=wV h c (kU c0);refine qE (d':=dB (false)) rfl (qX ?_)
  ((try simp only[qH,qJ,qG,qD,qK,qI,qL]at z ⊢);grind)
 have e:=kT c0;refine bS (qO h) ?_;refine qY rfl ?_;refine xS (ρ:=λp=>[a,b,dI ((a.es.length:Nat):Int),dI ((p:Nat):Int)]) h c e (λo=>?_) ?_ (λo=>?_)
 ·((try simp only[qH,qJ,qG,qD,qK,qI,qL]at o ⊢);grind)
 ·intro p x1 A y x j i;obtain⟨_,rfl,_,_,rfl,⟨w,rfl⟩,_,_,rfl,⟨u,rfl⟩,rfl⟩:=vN l y;obtain⟨_,rfl,_,_,rfl,⟨t,rfl⟩,_,_,rfl,⟨r,rfl⟩,rfl⟩:=vN k x;refine bS jE ?_;refine zV rfl ?_;rw[wU (show p<a.es.length by omega)];refine oB ?_;refine bS (vY y) ?_;refine bS (vZ h y rfl) ?_;refine bS (vY x) ?_;refine bS (vZ c x rfl) ?_;refine bS (oP .neq (.inl rfl) zAq zAA qU9 zBn rfl (qN vR (qN vR v9)) (qN vR (qN vR v9))) ?_;refine iC (λq=>?_) λq=>?_
  ·skip;refine wQ rfl ?_;clear j i;((try simp only[qH,qJ,qG,qD,qK,qI,qL]at q ⊢);grind)
  refine bS (zF i) ?_;refine xN rfl ?_;clear j i;((try simp only[qH,qJ,qG,qD,qK,qI,qL]at q ⊢);grind)
 refine bS jE ?_;refine zV rfl ?_;rw[xR];refine yJ ?_;refine qE (d':=dB (true)) rfl (qX ?_)
 ((try simp only[qH,qJ,qG,qD,qK,qI,qL]at o ⊢);grind)
variable{g:Nat}
theorem zDO{a:D}(u:zE (.sl 31 1 (.sl 3 1 (.int .i64))) a)(t:zE (.sl 31 1 (.sl 3 1 (.int .i64))) b)(C:∀x y,zE (.sl 3 1 (.int .i64)) x->zE (.sl 3 1 (.int .i64)) y->qA EE g [x,y] (dB (deq x y))):qA EE 111 [a,b,.kr (.func g) [] []] (dB (deq a b)):=by
 refine zCK rfl (qP.a9 ?_);have h:=qM u;have i:=qM t;refine bS (qO h) ?_;refine bS (qO i) ?_;refine bS xZ ?_;refine iC (λc0=>?_) λc0=>?_
 ·have B:=wV h i (kU c0);refine qE (d':=dB (false)) rfl (qX ?_)
  ((try simp only[qH,qJ,qG,qD,qK,qI,qL]at B ⊢);grind)
 have l:=kT c0;refine bS (qO h) ?_;refine qY rfl ?_;refine xS (ρ:=λz=>[b,(.kr (.func g) [] []),a,dI ((a.es.length:Nat):Int),dI ((z:Nat):Int)]) h i l (λw=>?_) ?_ (λw=>?_)
 ·((try simp only[qH,qJ,qG,qD,qK,qI,qL]at w ⊢);grind)
 ·intro z x1 E e c r o;have k:=vN u e;have q:=qM k;have j:=vN t c;have p:=qM j;refine bS jE ?_;refine zV rfl ?_;rw[wU (show z<a.es.length by omega)];refine oB ?_;refine bS (vY e) ?_;refine bS (yH h e q.one) ?_;refine bS (vY c) ?_;refine bS (yH i c p.one) ?_;refine cS (C _ _ k j) ?_;refine bS jJ ?_;refine iC (λA=>?_) λA=>?_
  ·skip;refine wQ rfl ?_;clear r o;((try simp only[qH,qJ,qG,qD,qK,qI,qL]at A ⊢);grind)
  refine bS (zF o) ?_;refine xN rfl ?_;clear r o;((try simp only[qH,qJ,qG,qD,qK,qI,qL]at A ⊢);grind)
 refine bS jE ?_;refine zV rfl ?_;rw[xR];refine yJ ?_;refine qE (d':=dB (true)) rfl (qX ?_)
 ((try simp only[qH,qJ,qG,qD,qK,qI,qL]at w ⊢);grind)
theorem zG3{a:D}(i:zE (.st [.str,.sl 3 1 (.int .i64)]) a)(e:zE (.st [.str,.sl 3 1 (.int .i64)]) b):qA EE 59 [a,b] (dB (deq a b)):=by
 refine zF8 rfl (qP.a9 ?_);obtain⟨_,rfl,_,_,rfl,⟨o,rfl⟩,k,_,rfl,x,rfl⟩:=i;have c:=qM x;obtain⟨_,rfl,_,_,rfl,⟨l,rfl⟩,j,_,rfl,h,rfl⟩:=e;have y:=qM h;refine bS (qS rfl) ?_;refine bS (qS rfl) ?_;refine bS (qB (off:=0) rfl rfl) ?_;refine bS (qB (off:=0) rfl rfl) ?_;refine bS fL ?_;refine iC (λc0=>?_) λc0=>?_
 ·skip;refine bS (qB (off:=1) rfl c.one) ?_;refine bS (qB (off:=1) rfl y.one) ?_;refine cS (qYG x h) ?_;refine qE (d':=dB (deq (k) (j))) rfl (qX ?_)
  ((try simp only[qH,qJ,qG,qD,qK,qI,qL]at c0 ⊢);grind)
 refine qE (d':=dB (false)) rfl (qX ?_)
 ((try simp only[qH,qJ,qG,qD,qK,qI,qL]at c0 ⊢);grind)
theorem zG2{a:D}(x:zE (.sl 9 1 (.str)) a)(h:zE (.sl 9 1 (.str)) b):qA EE 61 [a,b] (dB (deq a b)):=by
 refine zF6 rfl (qP.a9 ?_);have c:=qM x;have y:=qM h;refine cS (zG1 x h) ?_;refine qE (d':=dB (deq (a) (b))) rfl (qX ?_)
 (first|rfl|((try simp only[qH,qJ,qG,qD,qK,qI,qL]);first|rfl|grind))
theorem zG0{a:D}(r:zE (.sl 81 2 (.st [.str,.sl 3 1 (.int .i64)])) a)(q:zE (.sl 81 2 (.st [.str,.sl 3 1 (.int .i64)])) b)(H:∀x y,zE (.st [.str,.sl 3 1 (.int .i64)]) x->zE (.st [.str,.sl 3 1 (.int .i64)]) y->qA EE g [x,y] (dB (deq x y))):qA EE 63 [a,b,.kr (.func g) [] []] (dB (deq a b)):=by
 refine zF4 rfl (qP.a9 ?_);have e:=qM r;have k:=qM q;refine bS (qO e) ?_;refine bS (qO k) ?_;refine bS xZ ?_;refine iC (λc0=>?_) λc0=>?_
 ·have G:=wV e k (kU c0);refine qE (d':=dB (false)) rfl (qX ?_)
  ((try simp only[qH,qJ,qG,qD,qK,qI,qL]at G ⊢);grind)
 have l:=kT c0;refine bS (qO e) ?_;refine qY rfl ?_;refine xS (ρ:=λz=>[b,(.kr (.func g) [] []),a,dI ((a.es.length:Nat):Int),dI ((z:Nat):Int)]) e k l (λw=>?_) ?_ (λw=>?_)
 ·((try simp only[qH,qJ,qG,qD,qK,qI,qL]at w ⊢);grind)
 ·intro z x1 I j i p o;obtain⟨_,rfl,_,_,rfl,⟨F,rfl⟩,E,_,rfl,c,rfl⟩:=vN r j;have u:=qM c;obtain⟨_,rfl,_,_,rfl,⟨C,rfl⟩,B,_,rfl,h,rfl⟩:=vN q i;have t:=qM h;refine bS jE ?_;refine zV rfl ?_;rw[wU (show z<a.es.length by omega)];refine oB ?_;refine bS (vY j) ?_;refine bS (vZ e j rfl) ?_;refine bS (qS rfl) ?_;refine bS (vY i) ?_;refine bS (vZ k i rfl) ?_;refine bS (qS rfl) ?_;refine cS (H _ _ (lK (qN bD (qN c v9))) (lK (qN bD (qN h v9)))) ?_;refine bS jJ ?_;refine iC (λA=>?_) λA=>?_
  ·skip;refine wQ rfl ?_;clear p o;((try simp only[qH,qJ,qG,qD,qK,qI,qL]at A ⊢);grind)
  refine bS (zF o) ?_;refine xN rfl ?_;clear p o;((try simp only[qH,qJ,qG,qD,qK,qI,qL]at A ⊢);grind)
 refine bS jE ?_;refine zV rfl ?_;rw[xR];refine yJ ?_;refine qE (d':=dB (true)) rfl (qX ?_)
 ((try simp only[qH,qJ,qG,qD,qK,qI,qL]at w ⊢);grind)
theorem zGZ{a:D}(u:zE (.sl 37 1 (.sl 9 1 (.str))) a)(t:zE (.sl 37 1 (.sl 9 1 (.str))) b)(C:∀x y,zE (.sl 9 1 (.str)) x->zE (.sl 9 1 (.str)) y->qA EE g [x,y] (dB (deq x y))):qA EE 64 [a,b,.kr (.func g) [] []] (dB (deq a b)):=by
 refine zF3 rfl (qP.a9 ?_);have h:=qM u;have i:=qM t;refine bS (qO h) ?_;refine bS (qO i) ?_;refine bS xZ ?_;refine iC (λc0=>?_) λc0=>?_
 ·have B:=wV h i (kU c0);refine qE (d':=dB (false)) rfl (qX ?_)
  ((try simp only[qH,qJ,qG,qD,qK,qI,qL]at B ⊢);grind)
 have l:=kT c0;refine bS (qO h) ?_;refine qY rfl ?_;refine xS (ρ:=λz=>[b,(.kr (.func g) [] []),a,dI ((a.es.length:Nat):Int),dI ((z:Nat):Int)]) h i l (λw=>?_) ?_ (λw=>?_)
 ·((try simp only[qH,qJ,qG,qD,qK,qI,qL]at w ⊢);grind)
 ·intro z x1 E e c r o;have k:=vN u e;have q:=qM k;have j:=vN t c;have p:=qM j;refine bS jE ?_;refine zV rfl ?_;rw[wU (show z<a.es.length by omega)];refine oB ?_;refine bS (vY e) ?_;refine bS (yH h e q.one) ?_;refine bS (vY c) ?_;refine bS (yH i c p.one) ?_;refine cS (C _ _ k j) ?_;refine bS jJ ?_;refine iC (λA=>?_) λA=>?_
  ·skip;refine wQ rfl ?_;clear r o;((try simp only[qH,qJ,qG,qD,qK,qI,qL]at A ⊢);grind)
  refine bS (zF o) ?_;refine xN rfl ?_;clear r o;((try simp only[qH,qJ,qG,qD,qK,qI,qL]at A ⊢);grind)
 refine bS jE ?_;refine zV rfl ?_;rw[xR];refine yJ ?_;refine qE (d':=dB (true)) rfl (qX ?_)
 ((try simp only[qH,qJ,qG,qD,qK,qI,qL]at w ⊢);grind)
theorem zHd{a:D}(t:zE (.st [.str,.sl 81 2 (.st [.str,.sl 3 1 (.int .i64)]),.sl 37 1 (.sl 9 1 (.str))]) a)(r:zE (.st [.str,.sl 81 2 (.st [.str,.sl 3 1 (.int .i64)]),.sl 37 1 (.sl 9 1 (.str))]) b):qA EE 29 [a,b] (dB (deq a b)):=by
 refine zGi rfl (qP.a9 ?_);obtain⟨_,rfl,_,_,rfl,⟨C,rfl⟩,B,_,rfl,i,w,_,rfl,e,rfl⟩:=t;have o:=qM i;have l:=qM e;obtain⟨_,rfl,_,_,rfl,⟨A,rfl⟩,z,_,rfl,c,u,_,rfl,h,rfl⟩:=r;have k:=qM c;have j:=qM h;refine bS (qS rfl) ?_;refine bS (qS rfl) ?_;refine bS (qB (off:=0) rfl rfl) ?_;refine bS (qB (off:=0) rfl rfl) ?_;refine bS fL ?_;refine iC (λc0=>?_) λc0=>?_
 ·skip;refine bS (qB (off:=1) rfl o.one) ?_;refine bS (qB (off:=1) rfl k.one) ?_;refine cS (zG0 i c (λx y q p=>zG3 q p)) ?_;refine iC (λc1=>?_) λc1=>?_
  ·skip;refine bS (qB (off:=2) rfl l.one) ?_;refine bS (qB (off:=2) rfl j.one) ?_;refine cS (zGZ e h (λx y q p=>zG2 q p)) ?_;refine qE (d':=dB (deq (w) (u))) rfl (qX ?_)
   ((try simp only[qH,qJ,qG,qD,qK,qI,qL]at c1 c0 ⊢);grind)
  refine qE (d':=dB (false)) rfl (qX ?_)
  ((try simp only[qH,qJ,qG,qD,qK,qI,qL]at c1 c0 ⊢);grind)
 refine qE (d':=dB (false)) rfl (qX ?_)
 ((try simp only[qH,qJ,qG,qD,qK,qI,qL]at c0 ⊢);grind)
theorem zHb{a:D}(C:zE (.st [.sl 3 1 (.int .i64),.sl 3 1 (.int .i64),.sl 65 2 (.st [.int .i64,.int .i64]),.sl 65 2 (.st [.int .i64,.int .i64]),.bool,.bool]) a)(B:zE (.st [.sl 3 1 (.int .i64),.sl 3 1 (.int .i64),.sl 65 2 (.st [.int .i64,.int .i64]),.sl 65 2 (.st [.int .i64,.int .i64]),.bool,.bool]) b):qA EE 31 [a,b] (dB (deq a b)):=by
 refine zGg rfl (qP.a9 ?_);obtain⟨_,rfl,Q,_,rfl,k,P,_,rfl,j,O,_,rfl,i,N,_,rfl,e,_,_,rfl,⟨M,rfl⟩,_,_,rfl,⟨G,rfl⟩,rfl⟩:=C;have w:=qM k;have u:=qM j;have t:=qM i;have r:=qM e;obtain⟨_,rfl,L,_,rfl,c,K,_,rfl,y,J,_,rfl,x,I,_,rfl,h,_,_,rfl,⟨H,rfl⟩,_,_,rfl,⟨F,rfl⟩,rfl⟩:=B;have q:=qM c;have p:=qM y;have o:=qM x;have l:=qM h;refine bS (qS rfl) ?_;refine bS (qS rfl) ?_;refine bS (qB (off:=0) rfl w.one) ?_;refine bS (qB (off:=0) rfl q.one) ?_;refine cS (qYG k c) ?_;refine iC (λc0=>?_) λc0=>?_
 ·skip;refine bS (qB (off:=1) rfl u.one) ?_;refine bS (qB (off:=1) rfl p.one) ?_;refine cS (qYG j y) ?_;refine iC (λc1=>?_) λc1=>?_
  ·skip;refine bS (qB (off:=2) rfl t.one) ?_;refine bS (qB (off:=2) rfl o.one) ?_;refine cS (zFz i x) ?_;refine iC (λz=>?_) λz=>?_
   ·skip;refine bS (qB (off:=3) rfl r.one) ?_;refine bS (qB (off:=3) rfl l.one) ?_;refine cS (zFz e h) ?_;refine iC (λA=>?_) λA=>?_
    ·skip;refine bS (qB (off:=4) rfl rfl) ?_;refine bS (qB (off:=4) rfl rfl) ?_;refine bS (qKb .eql (.inr rfl) zE0 zFn) ?_;refine iC (λE=>?_) λE=>?_
     ·skip;refine bS (qB (off:=5) rfl rfl) ?_;refine bS (qB (off:=5) rfl rfl) ?_;refine bS (qKb .eql (.inr rfl) zE0 zFn) ?_;refine qE (d':=dB (decide (G=F))) rfl (qX ?_)
      ((try simp only[qH,qJ,qG,qD,qK,qI,qL]at E A z c1 c0 ⊢);grind)
     refine qE (d':=dB (false)) rfl (qX ?_)
     ((try simp only[qH,qJ,qG,qD,qK,qI,qL]at E A z c1 c0 ⊢);grind)
    refine qE (d':=dB (false)) rfl (qX ?_)
    ((try simp only[qH,qJ,qG,qD,qK,qI,qL]at A z c1 c0 ⊢);grind)
   refine qE (d':=dB (false)) rfl (qX ?_)
   ((try simp only[qH,qJ,qG,qD,qK,qI,qL]at z c1 c0 ⊢);grind)
  refine qE (d':=dB (false)) rfl (qX ?_)
  ((try simp only[qH,qJ,qG,qD,qK,qI,qL]at c1 c0 ⊢);grind)
 refine qE (d':=dB (false)) rfl (qX ?_)
 ((try simp only[qH,qJ,qG,qD,qK,qI,qL]at c0 ⊢);grind)
theorem zHc{a:D}(B:zE (.sl 60 6 (.st [.sl 3 1 (.int .i64),.sl 3 1 (.int .i64),.sl 65 2 (.st [.int .i64,.int .i64]),.sl 65 2 (.st [.int .i64,.int .i64]),.bool,.bool])) a)(A:zE (.sl 60 6 (.st [.sl 3 1 (.int .i64),.sl 3 1 (.int .i64),.sl 65 2 (.st [.int .i64,.int .i64]),.sl 65 2 (.st [.int .i64,.int .i64]),.bool,.bool])) b)(hp:∀x y,zE (.st [.sl 3 1 (.int .i64),.sl 3 1 (.int .i64),.sl 65 2 (.st [.int .i64,.int .i64]),.sl 65 2 (.st [.int .i64,.int .i64]),.bool,.bool]) x->zE (.st [.sl 3 1 (.int .i64),.sl 3 1 (.int .i64),.sl 65 2 (.st [.int .i64,.int .i64]),.sl 65 2 (.st [.int .i64,.int .i64]),.bool,.bool]) y->qA EE g [x,y] (dB (deq x y))):qA EE 30 [a,b,.kr (.func g) [] []] (dB (deq a b)):=by
 refine zGh rfl (qP.a9 ?_);have p:=qM B;have t:=qM A;refine bS (qO p) ?_;refine bS (qO t) ?_;refine bS xZ ?_;refine iC (λc0=>?_) λc0=>?_
 ·have q0:=wV p t (kU c0);refine qE (d':=dB (false)) rfl (qX ?_)
  ((try simp only[qH,qJ,qG,qD,qK,qI,qL]at q0 ⊢);grind)
 have u:=kT c0;refine bS (qO p) ?_;refine qY rfl ?_;refine xS (ρ:=λM=>[b,(.kr (.func g) [] []),a,dI ((a.es.length:Nat):Int),dI ((M:Nat):Int)]) p t u (λL=>?_) ?_ (λL=>?_)
 ·((try simp only[qH,qJ,qG,qD,qK,qI,qL]at L ⊢);grind)
 ·intro M x1 y1 r q z w;obtain⟨_,rfl,x1_0,_,rfl,o,x1_1,_,rfl,l,Z,_,rfl,k,X,_,rfl,j,_,_,rfl,⟨W,rfl⟩,_,_,rfl,⟨V,rfl⟩,rfl⟩:=vN B r;have K:=qM o;have J:=qM l;have I:=qM k;have H:=qM j;obtain⟨_,rfl,U,_,rfl,i,S,_,rfl,e,R,_,rfl,c,Q,_,rfl,h,_,_,rfl,⟨P,rfl⟩,_,_,rfl,⟨O,rfl⟩,rfl⟩:=vN A q;have G:=qM i;have F:=qM e;have E:=qM c;have C:=qM h;refine bS jE ?_;refine zV rfl ?_;rw[wU (show M<a.es.length by omega)];refine oB ?_;refine bS (vY r) ?_;refine bS (vZ p r rfl) ?_;refine bS (qS rfl) ?_;refine bS (vY q) ?_;refine bS (vZ t q rfl) ?_;refine bS (qS rfl) ?_;refine cS (hp _ _ (lK (qN o (qN l (qN k (qN j (qN qBx (qN qBx v9))))))) (lK (qN i (qN e (qN c (qN h (qN qBx (qN qBx v9)))))))) ?_;refine bS jJ ?_;refine iC (λN=>?_) λN=>?_
  ·skip;refine wQ rfl ?_;clear z w;((try simp only[qH,qJ,qG,qD,qK,qI,qL]at N ⊢);grind)
  refine bS (zF w) ?_;refine xN rfl ?_;clear z w;((try simp only[qH,qJ,qG,qD,qK,qI,qL]at N ⊢);grind)
 refine bS jE ?_;refine zV rfl ?_;rw[xR];refine yJ ?_;refine qE (d':=dB (true)) rfl (qX ?_)
 ((try simp only[qH,qJ,qG,qD,qK,qI,qL]at L ⊢);grind)
theorem zHa{a:D}(o:zE (.st [.int .i64,.sl 55 3 (.st [.int .i64,.int .i64,.int .i64]),.sl 3 1 (.int .i64)]) a)(l:zE (.st [.int .i64,.sl 55 3 (.st [.int .i64,.int .i64,.int .i64]),.sl 3 1 (.int .i64)]) b):qA EE 32 [a,b] (dB (deq a b)):=by
 refine u32 rfl (qP.a9 ?_);obtain⟨_,rfl,_,_,rfl,⟨w,rfl⟩,u,_,rfl,c,q,_,rfl,y,rfl⟩:=o;have k:=qM c;have j:=qM y;obtain⟨_,rfl,_,_,rfl,⟨t,rfl⟩,r,_,rfl,x,p,_,rfl,h,rfl⟩:=l;have i:=qM x;have e:=qM h;refine bS (qS rfl) ?_;refine bS (qS rfl) ?_;refine bS (qB (off:=0) rfl rfl) ?_;refine bS (qB (off:=0) rfl rfl) ?_;refine bS qV0 ?_;refine iC (λc0=>?_) λc0=>?_
 ·skip;refine bS (qB (off:=1) rfl k.one) ?_;refine bS (qB (off:=1) rfl i.one) ?_;refine cS (zGY c x) ?_;refine iC (λc1=>?_) λc1=>?_
  ·skip;refine bS (qB (off:=2) rfl j.one) ?_;refine bS (qB (off:=2) rfl e.one) ?_;refine cS (qYG y h) ?_;refine qE (d':=dB (deq (q) (p))) rfl (qX ?_)
   ((try simp only[qH,qJ,qG,qD,qK,qI,qL]at c1 c0 ⊢);grind)
  refine qE (d':=dB (false)) rfl (qX ?_)
  ((try simp only[qH,qJ,qG,qD,qK,qI,qL]at c1 c0 ⊢);grind)
 refine qE (d':=dB (false)) rfl (qX ?_)
 ((try simp only[qH,qJ,qG,qD,qK,qI,qL]at c0 ⊢);grind)
theorem zGW{a:D}(L:zE (.st [.int .i64,.sl 3 1 (.int .i64),.int .i64,.sl 31 1 (.sl 3 1 (.int .i64)),.int .i64,.sl 105 2 (.st [.str,.str]),.sl 73 2 (.st [.int .i64,.int .i64]),.sl 163 2 (.st [.int .i64,.int .i64])]) a)(K:zE (.st [.int .i64,.sl 3 1 (.int .i64),.int .i64,.sl 31 1 (.sl 3 1 (.int .i64)),.int .i64,.sl 105 2 (.st [.str,.str]),.sl 73 2 (.st [.int .i64,.int .i64]),.sl 163 2 (.st [.int .i64,.int .i64])]) b):qA EE 68 [a,b] (dB (deq a b)):=by
 refine zFZ rfl (qP.a9 ?_);obtain⟨_,rfl,_,_,rfl,⟨a_0,rfl⟩,a_1,_,rfl,q,_,_,rfl,⟨a_2,rfl⟩,a_3,_,rfl,p,_,_,rfl,⟨a_4,rfl⟩,a_5,_,rfl,o,a_6,_,rfl,l,O,_,rfl,k,rfl⟩:=L;have F:=qM q;have E:=qM p;have C:=qM o;have B:=qM l;have A:=qM k;obtain⟨_,rfl,_,_,rfl,⟨Z,rfl⟩,X,_,rfl,j,_,_,rfl,⟨W,rfl⟩,V,_,rfl,i,_,_,rfl,⟨U,rfl⟩,S,_,rfl,e,R,_,rfl,c,N,_,rfl,h,rfl⟩:=K;have z:=qM j;have w:=qM i;have u:=qM e;have t:=qM c;have r:=qM h;refine bS (qS rfl) ?_;refine bS (qS rfl) ?_;refine bS (qB (off:=0) rfl rfl) ?_;refine bS (qB (off:=0) rfl rfl) ?_;refine bS xZ ?_;refine iC (λc0=>?_) λc0=>?_
 ·skip;refine qE (d':=dB (false)) rfl (qX ?_)
  ((try simp only[qH,qJ,qG,qD,qK,qI,qL]at c0 ⊢);grind)
 refine bS (qB (off:=2) rfl rfl) ?_;refine bS (qB (off:=2) rfl rfl) ?_;refine bS xZ ?_;refine iC (λc1=>?_) λc1=>?_
 ·skip;refine qE (d':=dB (false)) rfl (qX ?_)
  ((try simp only[qH,qJ,qG,qD,qK,qI,qL]at c1 c0 ⊢);grind)
 refine bS (qB (off:=4) rfl rfl) ?_;refine bS (qB (off:=4) rfl rfl) ?_;refine bS xZ ?_;refine iC (λG=>?_) λG=>?_
 ·skip;refine qE (d':=dB (false)) rfl (qX ?_)
  ((try simp only[qH,qJ,qG,qD,qK,qI,qL]at G c1 c0 ⊢);grind)
 refine bS (qB (off:=1) rfl F.one) ?_;refine bS (qB (off:=1) rfl z.one) ?_;refine cS (qYG q j) ?_;refine bS jJ ?_;refine iC (λH=>?_) λH=>?_
 ·skip;refine qE (d':=dB (false)) rfl (qX ?_)
  ((try simp only[qH,qJ,qG,qD,qK,qI,qL]at H G c1 c0 ⊢);grind)
 refine bS (qB (off:=3) rfl E.one) ?_;refine bS (qB (off:=3) rfl w.one) ?_;refine cS (zDO p i (λx y Q P=>qYG Q P)) ?_;refine iC (λI=>?_) λI=>?_
 ·skip;refine bS (qB (off:=5) rfl C.one) ?_;refine bS (qB (off:=5) rfl u.one) ?_;refine cS (zDN o e) ?_;refine iC (λJ=>?_) λJ=>?_
  ·skip;refine bS (qB (off:=6) rfl B.one) ?_;refine bS (qB (off:=6) rfl t.one) ?_;refine cS (zDM l c) ?_;refine iC (λM=>?_) λM=>?_
   ·skip;refine bS (qB (off:=7) rfl A.one) ?_;refine bS (qB (off:=7) rfl r.one) ?_;refine cS (zDL k h) ?_;refine qE (d':=dB (deq (O) (N))) rfl (qX ?_)
    ((try simp only[qH,qJ,qG,qD,qK,qI,qL]at M J I H G c1 c0 ⊢);grind)
   refine qE (d':=dB (false)) rfl (qX ?_)
   ((try simp only[qH,qJ,qG,qD,qK,qI,qL]at M J I H G c1 c0 ⊢);grind)
  refine qE (d':=dB (false)) rfl (qX ?_)
  ((try simp only[qH,qJ,qG,qD,qK,qI,qL]at J I H G c1 c0 ⊢);grind)
 refine qE (d':=dB (false)) rfl (qX ?_)
 ((try simp only[qH,qJ,qG,qD,qK,qI,qL]at I H G c1 c0 ⊢);grind)
theorem zGX{a:D}(E:zE (.sl 71 8 (.st [.int .i64,.sl 3 1 (.int .i64),.int .i64,.sl 31 1 (.sl 3 1 (.int .i64)),.int .i64,.sl 105 2 (.st [.str,.str]),.sl 73 2 (.st [.int .i64,.int .i64]),.sl 163 2 (.st [.int .i64,.int .i64])])) a)(C:zE (.sl 71 8 (.st [.int .i64,.sl 3 1 (.int .i64),.int .i64,.sl 31 1 (.sl 3 1 (.int .i64)),.int .i64,.sl 105 2 (.st [.str,.str]),.sl 73 2 (.st [.int .i64,.int .i64]),.sl 163 2 (.st [.int .i64,.int .i64])])) b)(hp:∀x y,zE (.st [.int .i64,.sl 3 1 (.int .i64),.int .i64,.sl 31 1 (.sl 3 1 (.int .i64)),.int .i64,.sl 105 2 (.st [.str,.str]),.sl 73 2 (.st [.int .i64,.int .i64]),.sl 163 2 (.st [.int .i64,.int .i64])]) x->zE (.st [.int .i64,.sl 3 1 (.int .i64),.int .i64,.sl 31 1 (.sl 3 1 (.int .i64)),.int .i64,.sl 105 2 (.st [.str,.str]),.sl 73 2 (.st [.int .i64,.int .i64]),.sl 163 2 (.st [.int .i64,.int .i64])]) y->qA EE g [x,y] (dB (deq x y))):qA EE 67 [a,b,.kr (.func g) [] []] (dB (deq a b)):=by
 refine zF0 rfl (qP.a9 ?_);have r:=qM E;have w:=qM C;refine bS (qO r) ?_;refine bS (qO w) ?_;refine bS xZ ?_;refine iC (λc0=>?_) λc0=>?_
 ·have q0:=wV r w (kU c0);refine qE (d':=dB (false)) rfl (qX ?_)
  ((try simp only[qH,qJ,qG,qD,qK,qI,qL]at q0 ⊢);grind)
 have z:=kT c0;refine bS (qO r) ?_;refine qY rfl ?_;refine xS (ρ:=λQ=>[b,(.kr (.func g) [] []),a,dI ((a.es.length:Nat):Int),dI ((Q:Nat):Int)]) r w z (λP=>?_) ?_ (λP=>?_)
 ·((try simp only[qH,qJ,qG,qD,qK,qI,qL]at P ⊢);grind)
 ·intro Q x1 y1 u t B A;obtain⟨_,rfl,_,_,rfl,⟨x1_0,rfl⟩,x1_1,_,rfl,q,_,_,rfl,⟨x1_2,rfl⟩,x1_3,_,rfl,p,_,_,rfl,⟨x1_4,rfl⟩,x1_5,_,rfl,o,x1_6,_,rfl,l,x1_7,_,rfl,k,rfl⟩:=vN E u;have O:=qM q;have N:=qM p;have M:=qM o;have L:=qM l;have K:=qM k;obtain⟨_,rfl,_,_,rfl,⟨y1_0,rfl⟩,y1_1,_,rfl,j,_,_,rfl,⟨Z,rfl⟩,X,_,rfl,i,_,_,rfl,⟨W,rfl⟩,V,_,rfl,e,U,_,rfl,c,S,_,rfl,h,rfl⟩:=vN C t;have J:=qM j;have I:=qM i;have H:=qM e;have G:=qM c;have F:=qM h;refine bS jE ?_;refine zV rfl ?_;rw[wU (show Q<a.es.length by omega)];refine oB ?_;refine bS (vY u) ?_;refine bS (vZ r u rfl) ?_;refine bS (qS rfl) ?_;refine bS (vY t) ?_;refine bS (vZ w t rfl) ?_;refine bS (qS rfl) ?_;refine cS (hp _ _ (lK (qN vR (qN q (qN vR (qN p (qN vR (qN o (qN l (qN k v9))))))))) (lK (qN vR (qN j (qN vR (qN i (qN vR (qN e (qN c (qN h v9)))))))))) ?_;refine bS jJ ?_;refine iC (λR=>?_) λR=>?_
  ·skip;refine wQ rfl ?_;clear B A;((try simp only[qH,qJ,qG,qD,qK,qI,qL]at R ⊢);grind)
  refine bS (zF A) ?_;refine xN rfl ?_;clear B A;((try simp only[qH,qJ,qG,qD,qK,qI,qL]at R ⊢);grind)
 refine bS jE ?_;refine zV rfl ?_;rw[xR];refine yJ ?_;refine qE (d':=dB (true)) rfl (qX ?_)
 ((try simp only[qH,qJ,qG,qD,qK,qI,qL]at P ⊢);grind)
theorem zG9{a:D}(c:zE (.sl 71 8 (.st [.int .i64,.sl 3 1 (.int .i64),.int .i64,.sl 31 1 (.sl 3 1 (.int .i64)),.int .i64,.sl 105 2 (.st [.str,.str]),.sl 73 2 (.st [.int .i64,.int .i64]),.sl 163 2 (.st [.int .i64,.int .i64])])) a)(h:zE (.sl 71 8 (.st [.int .i64,.sl 3 1 (.int .i64),.int .i64,.sl 31 1 (.sl 3 1 (.int .i64)),.int .i64,.sl 105 2 (.st [.str,.str]),.sl 73 2 (.st [.int .i64,.int .i64]),.sl 163 2 (.st [.int .i64,.int .i64])])) b):qA EE 33 [a,b] (dB (deq a b)):=by
 refine zGf rfl (qP.a9 ?_);have i:=qM c;have e:=qM h;refine cS (zGX c h (λx y k j=>zGW k j)) ?_;refine qE (d':=dB (deq (a) (b))) rfl (qX ?_)
 (first|rfl|((try simp only[qH,qJ,qG,qD,qK,qI,qL]);first|rfl|grind))
theorem zHi{a:D}(Q:zE (.st [.sl 85 2 (.st [.str,.int .i64]),.str,.sl 81 2 (.st [.str,.sl 3 1 (.int .i64)]),.sl 37 1 (.sl 9 1 (.str)),.sl 60 6 (.st [.sl 3 1 (.int .i64),.sl 3 1 (.int .i64),.sl 65 2 (.st [.int .i64,.int .i64]),.sl 65 2 (.st [.int .i64,.int .i64]),.bool,.bool]),.int .i64,.sl 55 3 (.st [.int .i64,.int .i64,.int .i64]),.sl 3 1 (.int .i64),.sl 71 8 (.st [.int .i64,.sl 3 1 (.int .i64),.int .i64,.sl 31 1 (.sl 3 1 (.int .i64)),.int .i64,.sl 105 2 (.st [.str,.str]),.sl 73 2 (.st [.int .i64,.int .i64]),.sl 163 2 (.st [.int .i64,.int .i64])])]) a)(P:zE (.st [.sl 85 2 (.st [.str,.int .i64]),.str,.sl 81 2 (.st [.str,.sl 3 1 (.int .i64)]),.sl 37 1 (.sl 9 1 (.str)),.sl 60 6 (.st [.sl 3 1 (.int .i64),.sl 3 1 (.int .i64),.sl 65 2 (.st [.int .i64,.int .i64]),.sl 65 2 (.st [.int .i64,.int .i64]),.bool,.bool]),.int .i64,.sl 55 3 (.st [.int .i64,.int .i64,.int .i64]),.sl 3 1 (.int .i64),.sl 71 8 (.st [.int .i64,.sl 3 1 (.int .i64),.int .i64,.sl 31 1 (.sl 3 1 (.int .i64)),.int .i64,.sl 105 2 (.st [.str,.str]),.sl 73 2 (.st [.int .i64,.int .i64]),.sl 163 2 (.st [.int .i64,.int .i64])])]) b):qA EE 11 [a,b] (dB (deq a b)):=by
 refine zGq rfl (qP.a9 ?_);obtain⟨_,rfl,a_0,_,rfl,w,_,_,rfl,⟨a_1,rfl⟩,a_2,_,rfl,u,a_3,_,rfl,t,a_4,_,rfl,r,_,_,rfl,⟨a_5,rfl⟩,a_6,_,rfl,q,a_7,_,rfl,p,U,_,rfl,o,rfl⟩:=Q;have F:=qM w;have O:=qM u;have N:=qM t;have E:=qM r;have M:=qM q;have L:=qM p;have C:=qM o;obtain⟨_,rfl,b_0,_,rfl,l,_,_,rfl,⟨b_1,rfl⟩,b_2,_,rfl,k,b_3,_,rfl,j,b_4,_,rfl,i,_,_,rfl,⟨b_5,rfl⟩,Z,_,rfl,e,X,_,rfl,c,S,_,rfl,h,rfl⟩:=P;have B:=qM l;have K:=qM k;have J:=qM j;have A:=qM i;have I:=qM e;have H:=qM c;have z:=qM h;refine bS (qS rfl) ?_;refine bS (qS rfl) ?_;refine bS (qB (off:=0) rfl F.one) ?_;refine bS (qB (off:=0) rfl B.one) ?_;refine cS (zHe w l) ?_;refine iC (λc0=>?_) λc0=>?_
 ·skip;refine bS (kI rfl) ?_;refine bS (kI rfl) ?_;refine cS (zHd (lK (qN bD (qN u (qN t v9)))) (lK (qN bD (qN k (qN j v9))))) ?_;refine iC (λc1=>?_) λc1=>?_
  ·skip;refine bS (qB (off:=4) rfl E.one) ?_;refine bS (qB (off:=4) rfl A.one) ?_;refine cS (zHc r i (λx y W V=>zHb W V)) ?_;refine iC (λG=>?_) λG=>?_
   ·skip;refine bS (kI rfl) ?_;refine bS (kI rfl) ?_;refine cS (zHa (lK (qN vR (qN q (qN p v9)))) (lK (qN vR (qN e (qN c v9))))) ?_;refine iC (λR=>?_) λR=>?_
    ·skip;refine bS (qB (off:=8) rfl C.one) ?_;refine bS (qB (off:=8) rfl z.one) ?_;refine cS (zG9 o h) ?_;refine qE (d':=dB (deq (U) (S))) rfl (qX ?_)
     ((try simp only[qH,qJ,qG,qD,qK,qI,qL]at R G c1 c0 ⊢);grind)
    refine qE (d':=dB (false)) rfl (qX ?_)
    ((try simp only[qH,qJ,qG,qD,qK,qI,qL]at R G c1 c0 ⊢);grind)
   refine qE (d':=dB (false)) rfl (qX ?_)
   ((try simp only[qH,qJ,qG,qD,qK,qI,qL]at G c1 c0 ⊢);grind)
  refine qE (d':=dB (false)) rfl (qX ?_)
  ((try simp only[qH,qJ,qG,qD,qK,qI,qL]at c1 c0 ⊢);grind)
 refine qE (d':=dB (false)) rfl (qX ?_)
 ((try simp only[qH,qJ,qG,qD,qK,qI,qL]at c0 ⊢);grind)
theorem zGV{a:D}(l:zE (.sl 127 3 (.st [.int .i64,.int .i64,.int .i64])) a)(k:zE (.sl 127 3 (.st [.int .i64,.int .i64,.int .i64])) b):qA EE 70 [a,b] (dB (deq a b)):=by
 refine zFY rfl (qP.a9 ?_);have h:=qM l;have c:=qM k;refine bS (qO h) ?_;refine bS (qO c) ?_;refine bS xZ ?_;refine iC (λc0=>?_) λc0=>?_
 ·have B:=wV h c (kU c0);refine qE (d':=dB (false)) rfl (qX ?_)
  ((try simp only[qH,qJ,qG,qD,qK,qI,qL]at B ⊢);grind)
 have e:=kT c0;refine bS (qO h) ?_;refine qY rfl ?_;refine xS (ρ:=λp=>[a,b,dI ((a.es.length:Nat):Int),dI ((p:Nat):Int)]) h c e (λo=>?_) ?_ (λo=>?_)
 ·((try simp only[qH,qJ,qG,qD,qK,qI,qL]at o ⊢);grind)
 ·intro p x1 C y x j i;obtain⟨_,rfl,_,_,rfl,⟨A,rfl⟩,_,_,rfl,⟨z,rfl⟩,_,_,rfl,⟨w,rfl⟩,rfl⟩:=vN l y;obtain⟨_,rfl,_,_,rfl,⟨u,rfl⟩,_,_,rfl,⟨t,rfl⟩,_,_,rfl,⟨r,rfl⟩,rfl⟩:=vN k x;refine bS jE ?_;refine zV rfl ?_;rw[wU (show p<a.es.length by omega)];refine oB ?_;refine bS (vY y) ?_;refine bS (vZ h y rfl) ?_;refine bS (vY x) ?_;refine bS (vZ c x rfl) ?_;refine bS (oP .neq (.inl rfl) qUR qUW qU9 qVf rfl (qN vR (qN vR (qN vR v9))) (qN vR (qN vR (qN vR v9)))) ?_;refine iC (λq=>?_) λq=>?_
  ·skip;refine wQ rfl ?_;clear j i;((try simp only[qH,qJ,qG,qD,qK,qI,qL]at q ⊢);grind)
  refine bS (zF i) ?_;refine xN rfl ?_;clear j i;((try simp only[qH,qJ,qG,qD,qK,qI,qL]at q ⊢);grind)
 refine bS jE ?_;refine zV rfl ?_;rw[xR];refine yJ ?_;refine qE (d':=dB (true)) rfl (qX ?_)
 ((try simp only[qH,qJ,qG,qD,qK,qI,qL]at o ⊢);grind)
theorem zG7{a:D}(i:zE (.st [.sl 127 3 (.st [.int .i64,.int .i64,.int .i64])]) a)(e:zE (.st [.sl 127 3 (.st [.int .i64,.int .i64,.int .i64])]) b):qA EE 36 [a,b] (dB (deq a b)):=by
 refine zGd rfl (qP.a9 ?_);obtain⟨_,rfl,k,_,rfl,x,rfl⟩:=i;have c:=qM x;obtain⟨_,rfl,j,_,rfl,h,rfl⟩:=e;have y:=qM h;refine bS (qS rfl) ?_;refine bS (qS rfl) ?_;refine bS (qB (off:=0) rfl c.one) ?_;refine bS (qB (off:=0) rfl y.one) ?_;refine cS (zGV x h) ?_;refine qE (d':=dB (deq (k) (j))) rfl (qX ?_)
 (first|rfl|((try simp only[qH,qJ,qG,qD,qK,qI,qL]);first|rfl|grind))
theorem zG8{a:D}(r:zE (.sl 95 1 (.st [.sl 127 3 (.st [.int .i64,.int .i64,.int .i64])])) a)(q:zE (.sl 95 1 (.st [.sl 127 3 (.st [.int .i64,.int .i64,.int .i64])])) b)(F:∀x y,zE (.st [.sl 127 3 (.st [.int .i64,.int .i64,.int .i64])]) x->zE (.st [.sl 127 3 (.st [.int .i64,.int .i64,.int .i64])]) y->qA EE g [x,y] (dB (deq x y))):qA EE 35 [a,b,.kr (.func g) [] []] (dB (deq a b)):=by
 refine zGe rfl (qP.a9 ?_);have e:=qM r;have k:=qM q;refine bS (qO e) ?_;refine bS (qO k) ?_;refine bS xZ ?_;refine iC (λc0=>?_) λc0=>?_
 ·have E:=wV e k (kU c0);refine qE (d':=dB (false)) rfl (qX ?_)
  ((try simp only[qH,qJ,qG,qD,qK,qI,qL]at E ⊢);grind)
 have l:=kT c0;refine bS (qO e) ?_;refine qY rfl ?_;refine xS (ρ:=λz=>[b,(.kr (.func g) [] []),a,dI ((a.es.length:Nat):Int),dI ((z:Nat):Int)]) e k l (λw=>?_) ?_ (λw=>?_)
 ·((try simp only[qH,qJ,qG,qD,qK,qI,qL]at w ⊢);grind)
 ·intro z x1 G j i p o;obtain⟨_,rfl,C,_,rfl,c,rfl⟩:=vN r j;have u:=qM c;obtain⟨_,rfl,B,_,rfl,h,rfl⟩:=vN q i;have t:=qM h;refine bS jE ?_;refine zV rfl ?_;rw[wU (show z<a.es.length by omega)];refine oB ?_;refine bS (vY j) ?_;refine bS (vZ e j rfl) ?_;refine bS (qS rfl) ?_;refine bS (vY i) ?_;refine bS (vZ k i rfl) ?_;refine bS (qS rfl) ?_;refine cS (F _ _ (lK (qN c v9)) (lK (qN h v9))) ?_;refine bS jJ ?_;refine iC (λA=>?_) λA=>?_
  ·skip;refine wQ rfl ?_;clear p o;((try simp only[qH,qJ,qG,qD,qK,qI,qL]at A ⊢);grind)
  refine bS (zF o) ?_;refine xN rfl ?_;clear p o;((try simp only[qH,qJ,qG,qD,qK,qI,qL]at A ⊢);grind)
 refine bS jE ?_;refine zV rfl ?_;rw[xR];refine yJ ?_;refine qE (d':=dB (true)) rfl (qX ?_)
 ((try simp only[qH,qJ,qG,qD,qK,qI,qL]at w ⊢);grind)
end Go.Proofs.YtocbbgmhkhallaaGreatDoor
