/- Functions that hold two data against each other. Conditions: none. -/
import Derived.Test.YtminhjecpnpaeaaGreatDoorBb
import Derived.Test.YtminhjecpnpaeaaGreatDoorUn
set_option linter.unusedVariables false
set_option linter.unusedSimpArgs false
namespace Go.Proofs.YtminhjecpnpaeaaGreatDoor
open Go Go.Am Go.Proofs
attribute [local irreducible] Go.Am.wp Go.Am.TOp.eval
theorem qYz:lW EE.prog 4 58=some [.int .i64,.int .i64]:=by kernel_rfl
theorem qYF:rM EE.prog 58=true:=by kernel_rfl
theorem qYO:EE.prog.eqGuardType EE.prog.depth 58=false:=by kernel_rfl
theorem qYA:lW EE.prog 1 4=some [.bool]:=by kernel_rfl
theorem qYG:rM EE.prog 4=false:=by kernel_rfl
theorem qYw:lW EE.prog 4 92=some [.int .i64,.int .i64,.int .i64]:=by kernel_rfl
theorem qYC:rM EE.prog 92=true:=by kernel_rfl
theorem qYL:EE.prog.eqGuardType EE.prog.depth 92=false:=by kernel_rfl
theorem qYv:lW EE.prog 4 94=some [.str,.str]:=by kernel_rfl
theorem qYB:rM EE.prog 94=true:=by kernel_rfl
theorem qYK:EE.prog.eqGuardType EE.prog.depth 94=false:=by kernel_rfl
theorem qYy:lW EE.prog 4 66=some [.int .i64,.int .i64]:=by kernel_rfl
theorem qYE:rM EE.prog 66=true:=by kernel_rfl
theorem qYN:EE.prog.eqGuardType EE.prog.depth 66=false:=by kernel_rfl
theorem qVs:lW EE.prog 4 120=some [.int .i64,.int .i64]:=by kernel_rfl
theorem qVt:rM EE.prog 120=true:=by kernel_rfl
theorem qVC:EE.prog.eqGuardType EE.prog.depth 120=false:=by kernel_rfl
theorem qYx:lW EE.prog 4 81=some [.str,.int .i64]:=by kernel_rfl
theorem qYD:rM EE.prog 81=true:=by kernel_rfl
theorem qYM:EE.prog.eqGuardType EE.prog.depth 81=false:=by kernel_rfl
theorem qWs{a b:D}(k:vF (.sl 3 1 (.int .i64)) a)(j:vF (.sl 3 1 (.int .i64)) b):Holds EE 73 [a,b] (dB (gL a b)):=by
 refine zBd rfl (qX.step' ?_);have h:=qV k;have c:=qV j;refine bS (qM h) ?_;refine bS (qM c) ?_;refine bS yQ ?_;refine iC (λc0=>?_) λc0=>?_
 ·have r:=kQ h c (pM c0);refine qO (d':=dB (false)) rfl (vD ?_)
  ((try simp only[qI,qP,qH,qD,qR,qG,qQ]at r ⊢);grind)
 have e:=pL c0;refine bS (qM h) ?_;refine zG rfl ?_;refine yK (ρ:=λo=>[a,b,dI ((a.es.length:Nat):Int),dI ((o:Nat):Int)]) h c e (λl=>?_) ?_ (λl=>?_)
 ·((try simp only[qI,qP,qH,qD,qR,qG,qQ]at l ⊢);grind)
 ·intro o x1 q y x i g;obtain⟨x1,rfl⟩:=jI k y;obtain⟨q,rfl⟩:=jI j x;refine bS xB ?_;refine vO rfl ?_;rw[kN (show o<a.es.length by omega)];refine rL ?_;refine bS (vJ y) ?_;refine bS (xP h y rfl) ?_;refine bS (vJ x) ?_;refine bS (xP c x rfl) ?_;refine bS yQ ?_;refine iC (λp=>?_) λp=>?_
  ·skip;refine xS rfl ?_;clear i g;((try simp only[qI,qP,qH,qD,qR,qG,qQ]at p ⊢);grind)
  refine bS (vC g) ?_;refine yG rfl ?_;clear i g;((try simp only[qI,qP,qH,qD,qR,qG,qQ]at p ⊢);grind)
 refine bS xB ?_;refine vO rfl ?_;rw[wS];refine lJ ?_;refine qO (d':=dB (true)) rfl (vD ?_)
 ((try simp only[qI,qP,qH,qD,qR,qG,qQ]at l ⊢);grind)
theorem zAQ{a b:D}(k:vF (.sl 58 2 (.st [.int .i64,.int .i64])) a)(j:vF (.sl 58 2 (.st [.int .i64,.int .i64])) b):Holds EE 74 [a,b] (dB (gL a b)):=by
 refine zBc rfl (qX.step' ?_);have h:=qV k;have c:=qV j;refine bS (qM h) ?_;refine bS (qM c) ?_;refine bS yQ ?_;refine iC (λc0=>?_) λc0=>?_
 ·have w:=kQ h c (pM c0);refine qO (d':=dB (false)) rfl (vD ?_)
  ((try simp only[qI,qP,qH,qD,qR,qG,qQ]at w ⊢);grind)
 have e:=pL c0;refine zG rfl ?_;refine yK (ρ:=λo=>[a,b,dI ((o:Nat):Int)]) h c e (λl=>?_) ?_ (λl=>?_)
 ·((try simp only[qI,qP,qH,qD,qR,qG,qQ]at l ⊢);grind)
 ·intro o x1 z y x i g;obtain⟨_,rfl,_,_,rfl,⟨u,rfl⟩,_,_,rfl,⟨t,rfl⟩,rfl⟩:=jI k y;obtain⟨_,rfl,_,_,rfl,⟨r,rfl⟩,_,_,rfl,⟨q,rfl⟩,rfl⟩:=jI j x;refine bS (qM h) ?_;refine bS xB ?_;refine vO rfl ?_;rw[kN (show o<a.es.length by omega)];refine rL ?_;refine bS (vJ y) ?_;refine bS (jP h y rfl) ?_;refine bS (vJ x) ?_;refine bS (jP c x rfl) ?_;refine bS (cD .neq (.inl rfl) qYz qYF qWr qYO rfl (qU jT (qU jT xT)) (qU jT (qU jT xT))) ?_;refine iC (λp=>?_) λp=>?_
  ·skip;refine xS rfl ?_;clear i g;((try simp only[qI,qP,qH,qD,qR,qG,qQ]at p ⊢);grind)
  refine bS (vC g) ?_;refine yG rfl ?_;clear i g;((try simp only[qI,qP,qH,qD,qR,qG,qQ]at p ⊢);grind)
 refine bS (qM h) ?_;refine bS xB ?_;refine vO rfl ?_;rw[wS];refine lJ ?_;refine qO (d':=dB (true)) rfl (vD ?_)
 ((try simp only[qI,qP,qH,qD,qR,qG,qQ]at l ⊢);grind)
theorem zBN{a b:D}(h_a:vF (.st [.str,.sl 77 2 (.st [.str,.sl 3 1 (.int .i64)]),.sl 50 1 (.sl 9 1 (.str))]) a)(h_b:vF (.st [.str,.sl 77 2 (.st [.str,.sl 3 1 (.int .i64)]),.sl 50 1 (.sl 9 1 (.str))]) b):Holds EE 36 [a,b] (dB (gL a b)):=by
 refine zBn rfl (qX.step' ?_);obtain⟨_,rfl,_,_,rfl,⟨X,rfl⟩,N,_,rfl,F,M,_,rfl,E,rfl⟩:=h_a;have x:=qV F;have h:=qV E;obtain⟨_,rfl,_,_,rfl,⟨W,rfl⟩,V,_,rfl,C,U,_,rfl,B,rfl⟩:=h_b;have c:=qV C;have y:=qV B;refine bS (zH rfl) ?_;refine bS (zH rfl) ?_;refine bS (qA (off:=0) rfl rfl) ?_;refine bS (qA (off:=0) rfl rfl) ?_;refine bS m8 ?_;refine iC (λc0=>?_) λc0=>?_
 ·skip;refine qO (d':=dB (false)) rfl (vD ?_)
  ((try simp only[qI,qP,qH,qD,qR,qG,qQ]at c0 ⊢);grind)
 refine bS (qA (off:=1) rfl x.one) ?_;refine bS (qM x) ?_;refine bS (qA (off:=1) rfl c.one) ?_;refine bS (qM c) ?_;refine bS yQ ?_;refine iC (λc1=>?_) λc1=>?_
 ·have q1:=kQ x c (pM c1);refine qO (d':=dB (false)) rfl (vD ?_)
  ((try simp only[qI,qP,qH,qD,qR,qG,qQ]at q1 c0 ⊢);grind)
 have p:=pL c1;refine bS (qA (off:=2) rfl h.one) ?_;refine bS (qM h) ?_;refine bS (qA (off:=2) rfl y.one) ?_;refine bS (qM y) ?_;refine bS yQ ?_;refine iC (λc2=>?_) λc2=>?_
 ·have q2:=kQ h y (pM c2);refine qO (d':=dB (false)) rfl (vD ?_)
  ((try simp only[qI,qP,qH,qD,qR,qG,qQ]at q2 c0 ⊢);grind)
 have o:=pL c2;refine zG rfl ?_;refine yK (ρ:=λi3=>[dI ((i3:Nat):Int),.agg [.leaf (.string X),N,M],.agg [.leaf (.string W),V,U]]) x c p (λI=>?_) ?_ (λI=>?_)
 ·((try simp only[qI,qP,qH,qD,qR,qG,qQ]at I c0 ⊢);grind)
 ·intro i3 x3 y3 l k R L;obtain⟨_,rfl,_,_,rfl,⟨x3_0,rfl⟩,x3_1,_,rfl,r,rfl⟩:=jI F l;have K:=qV r;obtain⟨_,rfl,_,_,rfl,⟨y3_0,rfl⟩,Z,_,rfl,q,rfl⟩:=jI C k;have J:=qV q;refine bS (qA (off:=1) rfl x.one) ?_;refine bS (qM x) ?_;refine bS xB ?_;refine vO rfl ?_;rw[kN (show i3<N.es.length by omega)];refine rL ?_;refine bS (qA (off:=1) rfl x.one) ?_;refine bS (vJ l) ?_;refine bS (d:=.leaf (.string x3_0)) (nX (off:=0) x l rfl rfl (by decide)) ?_;refine bS (qA (off:=1) rfl c.one) ?_;refine bS (vJ k) ?_;refine bS (d:=.leaf (.string y3_0)) (nX (off:=0) c k rfl rfl (by decide)) ?_;refine bS m8 ?_;refine iC (λc4=>?_) λc4=>?_
  ·skip;refine xS rfl ?_;clear R L;((try simp only[qI,qP,qH,qD,qR,qG,qQ]at c4 c0 ⊢);grind)
  refine bS (qA (off:=1) rfl x.one) ?_;refine bS (vJ l) ?_;refine bS (d:=x3_1) (nX (off:=1) x l rfl K.one (by decide)) ?_;refine bS (qA (off:=1) rfl c.one) ?_;refine bS (vJ k) ?_;refine bS (d:=Z) (nX (off:=1) c k rfl J.one (by decide)) ?_;refine cS (qWs r q) ?_;refine bS wG ?_;refine iC (λS=>?_) λS=>?_
  ·skip;refine xS rfl ?_;clear R L;((try simp only[qI,qP,qH,qD,qR,qG,qQ]at S c4 c0 ⊢);grind)
  refine bS (vC L) ?_;refine yG rfl ?_;clear R L;((try simp only[qI,qP,qH,qD,qR,qG,qQ]at S c4 c0 ⊢);grind)
 refine bS (qA (off:=1) rfl x.one) ?_;refine bS (qM x) ?_;refine bS xB ?_;refine vO rfl ?_;rw[wS];refine lJ ?_;refine zG rfl ?_;refine qN8 (ρ:=λi4=>[dI ((i4:Nat):Int),.agg [.leaf (.string X),N,M],.agg [.leaf (.string W),V,U]]) h y o (λq4=>?_) ?_ (λq4=>?_)
 ·((try simp only[qI,qP,qH,qD,qR,qG,qQ]at q4 I c0 ⊢);grind)
 ·intro i4 x4 y4 g j z u t A;have P:=jI E g;have e:=qV P;have O:=jI B j;have i:=qV O;refine bS (qA (off:=2) rfl h.one) ?_;refine bS (qM h) ?_;refine bS xB ?_;refine vO rfl ?_;rw[kN (show i4<M.es.length by omega)];refine rL ?_;refine bS (qA (off:=2) rfl h.one) ?_;refine bS (vJ g) ?_;refine bS (xP h g e.one) ?_;refine bS (qM e) ?_;refine bS (qA (off:=2) rfl y.one) ?_;refine bS (vJ j) ?_;refine bS (xP y j i.one) ?_;refine bS (qM i) ?_;refine bS yQ ?_;refine iC (λS=>?_) λS=>?_
  ·have q5:=kQ e i (pM S);refine qO (d':=dB (false)) rfl (vD ?_);clear z u t;((try simp only[qI,qP,qH,qD,qR,qG,qQ]at q5 A I c0 ⊢);grind)
  have w:=pL S;refine zG rfl ?_;refine yK (ρ:=λi6=>[dI ((i4:Nat):Int),dI ((i6:Nat):Int),.agg [.leaf (.string X),N,M],.agg [.leaf (.string W),V,U]]) e i w (λq6=>?_) ?_ (λq6=>?_)
  ·clear z u t;((try simp only[qI,qP,qH,qD,qR,qG,qQ]at q6 A I c0 ⊢);grind)
  ·intro i6 x6 y6 H G hi6 Q;obtain⟨x6,rfl⟩:=jI P H;obtain⟨y6,rfl⟩:=jI O G;refine bS (qA (off:=2) rfl h.one) ?_;refine bS (vJ g) ?_;refine bS (xP h g e.one) ?_;refine bS (qM e) ?_;refine bS xB ?_;refine vO rfl ?_;rw[kN (show i6<x4.es.length by omega)];refine rL ?_;refine bS (qA (off:=2) rfl h.one) ?_;refine bS (vJ g) ?_;refine bS (xP h g e.one) ?_;refine bS (vJ H) ?_;refine bS (xP e H rfl) ?_;refine bS (qA (off:=2) rfl y.one) ?_;refine bS (vJ j) ?_;refine bS (xP y j i.one) ?_;refine bS (vJ G) ?_;refine bS (xP i G rfl) ?_;refine bS m8 ?_;refine iC (λc7=>?_) λc7=>?_
   ·skip;refine xS rfl ?_;clear hi6 Q z u t;((try simp only[qI,qP,qH,qD,qR,qG,qQ]at c7 A I c0 ⊢);grind)
   refine bS (vC Q) ?_;refine yG rfl ?_;clear hi6 Q z u t;((try simp only[qI,qP,qH,qD,qR,qG,qQ]at c7 A I c0 ⊢);grind)
  refine bS (qA (off:=2) rfl h.one) ?_;refine bS (vJ g) ?_;refine bS (xP h g e.one) ?_;refine bS (qM e) ?_;refine bS xB ?_;refine vO rfl ?_;rw[wS];refine lJ ?_;refine bS (vC u) ?_;refine zG rfl (t ?_);clear z u t;((try simp only[qI,qP,qH,qD,qR,qG,qQ]at q6 A I c0 ⊢);grind)
 refine bS (qA (off:=2) rfl h.one) ?_;refine bS (qM h) ?_;refine bS xB ?_;refine vO rfl ?_;rw[wS];refine lJ ?_;refine qO (d':=dB (true)) rfl (vD ?_)
 ((try simp only[qI,qP,qH,qD,qR,qG,qQ]at q4 I c0 ⊢);grind)
theorem zBM{a b:D}(K:vF (.sl 39 6 (.st [.sl 3 1 (.int .i64),.sl 3 1 (.int .i64),.sl 58 2 (.st [.int .i64,.int .i64]),.sl 58 2 (.st [.int .i64,.int .i64]),.bool,.bool])) a)(J:vF (.sl 39 6 (.st [.sl 3 1 (.int .i64),.sl 3 1 (.int .i64),.sl 58 2 (.st [.int .i64,.int .i64]),.sl 58 2 (.st [.int .i64,.int .i64]),.bool,.bool])) b):Holds EE 37 [a,b] (dB (gL a b)):=by
 refine zBm rfl (qX.step' ?_);have q:=qV K;have E:=qV J;refine bS (qM q) ?_;refine bS (qM E) ?_;refine bS yQ ?_;refine iC (λc0=>?_) λc0=>?_
 ·have q0:=kQ q E (pM c0);refine qO (d':=dB (false)) rfl (vD ?_)
  ((try simp only[qI,qP,qH,qD,qR,qG,qQ]at q0 ⊢);grind)
 have G:=pL c0;refine zG rfl ?_;refine yK (ρ:=λO=>[a,b,dI ((O:Nat):Int)]) q E G (λN=>?_) ?_ (λN=>?_)
 ·((try simp only[qI,qP,qH,qD,qR,qG,qQ]at N ⊢);grind)
 ·intro O x1 y1 p o x h;obtain⟨_,rfl,x1_0,_,rfl,l,x1_1,_,rfl,k,x1_2,_,rfl,j,x1_3,_,rfl,i,_,_,rfl,⟨Z,rfl⟩,_,_,rfl,⟨X,rfl⟩,rfl⟩:=jI K p;have C:=qV l;have B:=qV k;have A:=qV j;have z:=qV i;obtain⟨_,rfl,W,_,rfl,g,V,_,rfl,e,U,_,rfl,c,S,_,rfl,y,_,_,rfl,⟨R,rfl⟩,_,_,rfl,⟨Q,rfl⟩,rfl⟩:=jI J o;have w:=qV g;have u:=qV e;have t:=qV c;have r:=qV y;refine bS (qM q) ?_;refine bS xB ?_;refine vO rfl ?_;rw[kN (show O<a.es.length by omega)];refine rL ?_;refine bS (vJ p) ?_;refine bS (jP q p rfl) ?_;refine bS (vJ o) ?_;refine bS (jP E o rfl) ?_;refine bS (zH rfl) ?_;refine bS (zH rfl) ?_;refine bS (vJ p) ?_;refine bS (vJ o) ?_;refine bS (qA (off:=4) rfl rfl) ?_;refine bS (qA (off:=4) rfl rfl) ?_;refine bS (qJT .neq (.inl rfl) qYA qYG) ?_;refine iC (λF=>?_) λF=>?_
  ·skip;refine xS rfl ?_;clear x h;((try simp only[qI,qP,qH,qD,qR,qG,qQ]at F ⊢);grind)
  refine bS (qA (off:=5) rfl rfl) ?_;refine bS (qA (off:=5) rfl rfl) ?_;refine bS (qJT .neq (.inl rfl) qYA qYG) ?_;refine iC (λH=>?_) λH=>?_
  ·skip;refine xS rfl ?_;clear x h;((try simp only[qI,qP,qH,qD,qR,qG,qQ]at H F ⊢);grind)
  refine bS (qA (off:=0) rfl C.one) ?_;refine bS (qA (off:=0) rfl w.one) ?_;refine cS (qWs l g) ?_;refine bS wG ?_;refine iC (λI=>?_) λI=>?_
  ·skip;refine xS rfl ?_;clear x h;((try simp only[qI,qP,qH,qD,qR,qG,qQ]at I H F ⊢);grind)
  refine bS (qA (off:=1) rfl B.one) ?_;refine bS (qA (off:=1) rfl u.one) ?_;refine cS (qWs k e) ?_;refine bS wG ?_;refine iC (λL=>?_) λL=>?_
  ·skip;refine xS rfl ?_;clear x h;((try simp only[qI,qP,qH,qD,qR,qG,qQ]at L I H F ⊢);grind)
  refine bS (qA (off:=2) rfl A.one) ?_;refine bS (qA (off:=2) rfl t.one) ?_;refine cS (zAQ j c) ?_;refine bS wG ?_;refine iC (λM=>?_) λM=>?_
  ·skip;refine xS rfl ?_;clear x h;((try simp only[qI,qP,qH,qD,qR,qG,qQ]at M L I H F ⊢);grind)
  refine bS (qA (off:=3) rfl z.one) ?_;refine bS (qA (off:=3) rfl r.one) ?_;refine cS (zAQ i y) ?_;refine bS wG ?_;refine iC (λP=>?_) λP=>?_
  ·skip;refine xS rfl ?_;clear x h;((try simp only[qI,qP,qH,qD,qR,qG,qQ]at P M L I H F ⊢);grind)
  refine bS (vC h) ?_;refine yG rfl ?_;clear x h;((try simp only[qI,qP,qH,qD,qR,qG,qQ]at P M L I H F ⊢);grind)
 refine bS (qM q) ?_;refine bS xB ?_;refine vO rfl ?_;rw[wS];refine lJ ?_;refine qO (d':=dB (true)) rfl (vD ?_)
 ((try simp only[qI,qP,qH,qD,qR,qG,qQ]at N ⊢);grind)
theorem zBL{a b:D}(A:vF (.st [.int .i64,.sl 92 3 (.st [.int .i64,.int .i64,.int .i64]),.sl 3 1 (.int .i64)]) a)(z:vF (.st [.int .i64,.sl 92 3 (.st [.int .i64,.int .i64,.int .i64]),.sl 3 1 (.int .i64)]) b):Holds EE 38 [a,b] (dB (gL a b)):=by
 refine zBl rfl (qX.step' ?_);obtain⟨_,rfl,_,_,rfl,⟨H,rfl⟩,t,_,rfl,i,G,_,rfl,g,rfl⟩:=A;have h:=qV i;have o:=qV g;obtain⟨_,rfl,_,_,rfl,⟨F,rfl⟩,E,_,rfl,e,C,_,rfl,c,rfl⟩:=z;have x:=qV e;have l:=qV c;refine bS (zH rfl) ?_;refine bS (zH rfl) ?_;refine bS (qA (off:=0) rfl rfl) ?_;refine bS (qA (off:=0) rfl rfl) ?_;refine bS yQ ?_;refine iC (λc0=>?_) λc0=>?_
 ·skip;refine qO (d':=dB (false)) rfl (vD ?_)
  ((try simp only[qI,qP,qH,qD,qR,qG,qQ]at c0 ⊢);grind)
 refine bS (qA (off:=1) rfl h.one) ?_;refine bS (qM h) ?_;refine bS (qA (off:=1) rfl x.one) ?_;refine bS (qM x) ?_;refine bS yQ ?_;refine iC (λc1=>?_) λc1=>?_
 ·have O:=kQ h x (pM c1);refine qO (d':=dB (false)) rfl (vD ?_)
  ((try simp only[qI,qP,qH,qD,qR,qG,qQ]at O c0 ⊢);grind)
 have y:=pL c1;refine bS (qA (off:=2) rfl o.one) ?_;refine bS (qA (off:=2) rfl l.one) ?_;refine cS (qWs g c) ?_;refine bS wG ?_;refine iC (λq=>?_) λq=>?_
 ·skip;refine qO (d':=dB (false)) rfl (vD ?_)
  ((try simp only[qI,qP,qH,qD,qR,qG,qQ]at q c0 ⊢);grind)
 refine zG rfl ?_;refine yK (ρ:=λw=>[dI ((w:Nat):Int),.agg [dI H,t,G],.agg [dI F,E,C]]) h x y (λu=>?_) ?_ (λu=>?_)
 ·((try simp only[qI,qP,qH,qD,qR,qG,qQ]at u q c0 ⊢);grind)
 ·intro w Q P k j r p;obtain⟨_,rfl,_,_,rfl,⟨N,rfl⟩,_,_,rfl,⟨M,rfl⟩,_,_,rfl,⟨L,rfl⟩,rfl⟩:=jI i k;obtain⟨_,rfl,_,_,rfl,⟨K,rfl⟩,_,_,rfl,⟨J,rfl⟩,_,_,rfl,⟨I,rfl⟩,rfl⟩:=jI e j;refine bS (qA (off:=1) rfl h.one) ?_;refine bS (qM h) ?_;refine bS xB ?_;refine vO rfl ?_;rw[kN (show w<t.es.length by omega)];refine rL ?_;refine bS (qA (off:=1) rfl h.one) ?_;refine bS (vJ k) ?_;refine bS (jP h k rfl) ?_;refine bS (qA (off:=1) rfl x.one) ?_;refine bS (vJ j) ?_;refine bS (jP x j rfl) ?_;refine bS (cD .neq (.inl rfl) qYw qYC qWr qYL rfl (qU jT (qU jT (qU jT xT))) (qU jT (qU jT (qU jT xT)))) ?_;refine iC (λB=>?_) λB=>?_
  ·skip;refine xS rfl ?_;clear r p;((try simp only[qI,qP,qH,qD,qR,qG,qQ]at B q c0 ⊢);grind)
  refine bS (vC p) ?_;refine yG rfl ?_;clear r p;((try simp only[qI,qP,qH,qD,qR,qG,qQ]at B q c0 ⊢);grind)
 refine bS (qA (off:=1) rfl h.one) ?_;refine bS (qM h) ?_;refine bS xB ?_;refine vO rfl ?_;rw[wS];refine lJ ?_;refine qO (d':=dB (true)) rfl (vD ?_)
 ((try simp only[qI,qP,qH,qD,qR,qG,qQ]at u q c0 ⊢);grind)
theorem zBO{a b:D}(h_a:vF (.st [.int .i64,.sl 3 1 (.int .i64),.int .i64,.sl 31 1 (.sl 3 1 (.int .i64)),.int .i64,.sl 94 2 (.st [.str,.str]),.sl 66 2 (.st [.int .i64,.int .i64]),.sl 120 2 (.st [.int .i64,.int .i64])]) a)(h_b:vF (.st [.int .i64,.sl 3 1 (.int .i64),.int .i64,.sl 31 1 (.sl 3 1 (.int .i64)),.int .i64,.sl 94 2 (.st [.str,.str]),.sl 66 2 (.st [.int .i64,.int .i64]),.sl 120 2 (.st [.int .i64,.int .i64])]) b):Holds EE 35 [a,b] (dB (gL a b)):=by
 refine zBo rfl (qX.step' ?_);obtain⟨_,rfl,_,_,rfl,⟨a_0,rfl⟩,a_1,_,rfl,O,_,_,rfl,⟨a_2,rfl⟩,X,_,rfl,N,_,_,rfl,⟨a_4,rfl⟩,W,_,rfl,M,V,_,rfl,L,U,_,rfl,K,rfl⟩:=h_a;have i_a_1:=qV O;have c:=qV N;have y:=qV M;have x:=qV L;have h:=qV K;obtain⟨_,rfl,_,_,rfl,⟨b_0,rfl⟩,b_1,_,rfl,J,_,_,rfl,⟨b_2,rfl⟩,b_3,_,rfl,I,_,_,rfl,⟨b_4,rfl⟩,b_5,_,rfl,H,b_6,_,rfl,G,b_7,_,rfl,F,rfl⟩:=h_b;have i_b_1:=qV J;have j:=qV I;have i:=qV H;have g:=qV G;have e:=qV F;refine bS (zH rfl) ?_;refine bS (zH rfl) ?_;refine bS (qA (off:=0) rfl rfl) ?_;refine bS (qA (off:=0) rfl rfl) ?_;refine bS yQ ?_;refine iC (λc0=>?_) λc0=>?_
 ·skip;refine qO (d':=dB (false)) rfl (vD ?_)
  ((try simp only[qI,qP,qH,qD,qR,qG,qQ]at c0 ⊢);grind)
 refine bS (qA (off:=2) rfl rfl) ?_;refine bS (qA (off:=2) rfl rfl) ?_;refine bS yQ ?_;refine iC (λc1=>?_) λc1=>?_
 ·skip;refine qO (d':=dB (false)) rfl (vD ?_)
  ((try simp only[qI,qP,qH,qD,qR,qG,qQ]at c1 c0 ⊢);grind)
 refine bS (qA (off:=4) rfl rfl) ?_;refine bS (qA (off:=4) rfl rfl) ?_;refine bS yQ ?_;refine iC (λk=>?_) λk=>?_
 ·skip;refine qO (d':=dB (false)) rfl (vD ?_)
  ((try simp only[qI,qP,qH,qD,qR,qG,qQ]at k c1 c0 ⊢);grind)
 refine bS (qA (off:=1) rfl i_a_1.one) ?_;refine bS (qA (off:=1) rfl i_b_1.one) ?_;refine cS (qWs O J) ?_;refine bS wG ?_;refine iC (λl=>?_) λl=>?_
 ·skip;refine qO (d':=dB (false)) rfl (vD ?_)
  ((try simp only[qI,qP,qH,qD,qR,qG,qQ]at l k c1 c0 ⊢);grind)
 refine bS (qA (off:=3) rfl c.one) ?_;refine bS (qM c) ?_;refine bS (qA (off:=3) rfl j.one) ?_;refine bS (qM j) ?_;refine bS yQ ?_;refine iC (λc4=>?_) λc4=>?_
 ·have q4:=kQ c j (pM c4);refine qO (d':=dB (false)) rfl (vD ?_)
  ((try simp only[qI,qP,qH,qD,qR,qG,qQ]at q4 l k c1 c0 ⊢);grind)
 have r:=pL c4;refine bS (qA (off:=5) rfl y.one) ?_;refine bS (qM y) ?_;refine bS (qA (off:=5) rfl i.one) ?_;refine bS (qM i) ?_;refine bS yQ ?_;refine iC (λc5=>?_) λc5=>?_
 ·have q5:=kQ y i (pM c5);refine qO (d':=dB (false)) rfl (vD ?_)
  ((try simp only[qI,qP,qH,qD,qR,qG,qQ]at q5 l k c1 c0 ⊢);grind)
 have q:=pL c5;refine bS (qA (off:=6) rfl x.one) ?_;refine bS (qM x) ?_;refine bS (qA (off:=6) rfl g.one) ?_;refine bS (qM g) ?_;refine bS yQ ?_;refine iC (λc6=>?_) λc6=>?_
 ·have q6:=kQ x g (pM c6);refine qO (d':=dB (false)) rfl (vD ?_)
  ((try simp only[qI,qP,qH,qD,qR,qG,qQ]at q6 l k c1 c0 ⊢);grind)
 have p:=pL c6;refine bS (qA (off:=7) rfl h.one) ?_;refine bS (qM h) ?_;refine bS (qA (off:=7) rfl e.one) ?_;refine bS (qM e) ?_;refine bS yQ ?_;refine iC (λc7=>?_) λc7=>?_
 ·have q7:=kQ h e (pM c7);refine qO (d':=dB (false)) rfl (vD ?_)
  ((try simp only[qI,qP,qH,qD,qR,qG,qQ]at q7 l k c1 c0 ⊢);grind)
 have o:=pL c7;refine zG rfl ?_;refine yK (ρ:=λi8=>[dI ((i8:Nat):Int),.agg [dI a_0,a_1,dI a_2,X,dI a_4,W,V,U],.agg [dI b_0,b_1,dI b_2,b_3,dI b_4,b_5,b_6,b_7]]) c j r (λB=>?_) ?_ (λB=>?_)
 ·((try simp only[qI,qP,qH,qD,qR,qG,qQ]at B l k c1 c0 ⊢);grind)
 ·intro i8 x8 y8 S Q hi8 hj8;have h_x8:=jI N S;have i_x8:=qV h_x8;have h_y8:=jI I Q;have i_y8:=qV h_y8;refine bS (qA (off:=3) rfl c.one) ?_;refine bS (qM c) ?_;refine bS xB ?_;refine vO rfl ?_;rw[kN (show i8<X.es.length by omega)];refine rL ?_;refine bS (qA (off:=3) rfl c.one) ?_;refine bS (vJ S) ?_;refine bS (xP c S i_x8.one) ?_;refine bS (qA (off:=3) rfl j.one) ?_;refine bS (vJ Q) ?_;refine bS (xP j Q i_y8.one) ?_;refine cS (qWs h_x8 h_y8) ?_;refine bS wG ?_;refine iC (λc9=>?_) λc9=>?_
  ·skip;refine xS rfl ?_;clear hi8 hj8;((try simp only[qI,qP,qH,qD,qR,qG,qQ]at c9 l k c1 c0 ⊢);grind)
  refine bS (vC hj8) ?_;refine yG rfl ?_;clear hi8 hj8;((try simp only[qI,qP,qH,qD,qR,qG,qQ]at c9 l k c1 c0 ⊢);grind)
 refine bS (qA (off:=3) rfl c.one) ?_;refine bS (qM c) ?_;refine bS xB ?_;refine vO rfl ?_;rw[wS];refine lJ ?_;refine zG rfl ?_;refine yK (ρ:=λi9=>[dI ((i9:Nat):Int),.agg [dI a_0,a_1,dI a_2,X,dI a_4,W,V,U],.agg [dI b_0,b_1,dI b_2,b_3,dI b_4,b_5,b_6,b_7]]) y i q (λZ=>?_) ?_ (λZ=>?_)
 ·((try simp only[qI,qP,qH,qD,qR,qG,qQ]at Z B l k c1 c0 ⊢);grind)
 ·intro i9 x9 y9 R P hi9 hj9;obtain⟨_,rfl,_,_,rfl,⟨x9_0,rfl⟩,_,_,rfl,⟨x9_1,rfl⟩,rfl⟩:=jI M R;obtain⟨_,rfl,_,_,rfl,⟨y9_0,rfl⟩,_,_,rfl,⟨y9_1,rfl⟩,rfl⟩:=jI H P;refine bS (qA (off:=5) rfl y.one) ?_;refine bS (qM y) ?_;refine bS xB ?_;refine vO rfl ?_;rw[kN (show i9<W.es.length by omega)];refine rL ?_;refine bS (qA (off:=5) rfl y.one) ?_;refine bS (vJ R) ?_;refine bS (jP y R rfl) ?_;refine bS (qA (off:=5) rfl i.one) ?_;refine bS (vJ P) ?_;refine bS (jP i P rfl) ?_;refine bS (cD .neq (.inl rfl) qYv qYB qWr qYK rfl (qU dO (qU dO xT)) (qU dO (qU dO xT))) ?_;refine iC (λc10=>?_) λc10=>?_
  ·skip;refine xS rfl ?_;clear hi9 hj9;((try simp only[qI,qP,qH,qD,qR,qG,qQ]at c10 B l k c1 c0 ⊢);grind)
  refine bS (vC hj9) ?_;refine yG rfl ?_;clear hi9 hj9;((try simp only[qI,qP,qH,qD,qR,qG,qQ]at c10 B l k c1 c0 ⊢);grind)
 refine bS (qA (off:=5) rfl y.one) ?_;refine bS (qM y) ?_;refine bS xB ?_;refine vO rfl ?_;rw[wS];refine lJ ?_;refine zG rfl ?_;refine yK (ρ:=λi10=>[dI ((i10:Nat):Int),.agg [dI a_0,a_1,dI a_2,X,dI a_4,W,V,U],.agg [dI b_0,b_1,dI b_2,b_3,dI b_4,b_5,b_6,b_7]]) x g p (λA=>?_) ?_ (λA=>?_)
 ·((try simp only[qI,qP,qH,qD,qR,qG,qQ]at A Z B l k c1 c0 ⊢);grind)
 ·intro i10 x10 y10 z u hi10 E;obtain⟨_,rfl,_,_,rfl,⟨x10_0,rfl⟩,_,_,rfl,⟨x10_1,rfl⟩,rfl⟩:=jI L z;obtain⟨_,rfl,_,_,rfl,⟨y10_0,rfl⟩,_,_,rfl,⟨y10_1,rfl⟩,rfl⟩:=jI G u;refine bS (qA (off:=6) rfl x.one) ?_;refine bS (qM x) ?_;refine bS xB ?_;refine vO rfl ?_;rw[kN (show i10<V.es.length by omega)];refine rL ?_;refine bS (qA (off:=6) rfl x.one) ?_;refine bS (vJ z) ?_;refine bS (jP x z rfl) ?_;refine bS (qA (off:=6) rfl g.one) ?_;refine bS (vJ u) ?_;refine bS (jP g u rfl) ?_;refine bS (cD .neq (.inl rfl) qYy qYE qWr qYN rfl (qU jT (qU jT xT)) (qU jT (qU jT xT))) ?_;refine iC (λc11=>?_) λc11=>?_
  ·skip;refine xS rfl ?_;clear hi10 E;((try simp only[qI,qP,qH,qD,qR,qG,qQ]at c11 Z B l k c1 c0 ⊢);grind)
  refine bS (vC E) ?_;refine yG rfl ?_;clear hi10 E;((try simp only[qI,qP,qH,qD,qR,qG,qQ]at c11 Z B l k c1 c0 ⊢);grind)
 refine bS (qA (off:=6) rfl x.one) ?_;refine bS (qM x) ?_;refine bS xB ?_;refine vO rfl ?_;rw[wS];refine lJ ?_;refine zG rfl ?_;refine yK (ρ:=λi11=>[dI ((i11:Nat):Int),.agg [dI a_0,a_1,dI a_2,X,dI a_4,W,V,U],.agg [dI b_0,b_1,dI b_2,b_3,dI b_4,b_5,b_6,b_7]]) h e o (λq11=>?_) ?_ (λq11=>?_)
 ·((try simp only[qI,qP,qH,qD,qR,qG,qQ]at q11 A Z B l k c1 c0 ⊢);grind)
 ·intro i11 x11 y11 w t hi11 C;obtain⟨_,rfl,_,_,rfl,⟨x11_0,rfl⟩,_,_,rfl,⟨x11_1,rfl⟩,rfl⟩:=jI K w;obtain⟨_,rfl,_,_,rfl,⟨y11_0,rfl⟩,_,_,rfl,⟨y11_1,rfl⟩,rfl⟩:=jI F t;refine bS (qA (off:=7) rfl h.one) ?_;refine bS (qM h) ?_;refine bS xB ?_;refine vO rfl ?_;rw[kN (show i11<U.es.length by omega)];refine rL ?_;refine bS (qA (off:=7) rfl h.one) ?_;refine bS (vJ w) ?_;refine bS (jP h w rfl) ?_;refine bS (qA (off:=7) rfl e.one) ?_;refine bS (vJ t) ?_;refine bS (jP e t rfl) ?_;refine bS (cD .neq (.inl rfl) qVs qVt qWr qVC rfl (qU jT (qU jT xT)) (qU jT (qU jT xT))) ?_;refine iC (λc12=>?_) λc12=>?_
  ·skip;refine xS rfl ?_;clear hi11 C;((try simp only[qI,qP,qH,qD,qR,qG,qQ]at c12 A Z B l k c1 c0 ⊢);grind)
  refine bS (vC C) ?_;refine yG rfl ?_;clear hi11 C;((try simp only[qI,qP,qH,qD,qR,qG,qQ]at c12 A Z B l k c1 c0 ⊢);grind)
 refine bS (qA (off:=7) rfl h.one) ?_;refine bS (qM h) ?_;refine bS xB ?_;refine vO rfl ?_;rw[wS];refine lJ ?_;refine qO (d':=dB (true)) rfl (vD ?_)
 ((try simp only[qI,qP,qH,qD,qR,qG,qQ]at q11 A Z B l k c1 c0 ⊢);grind)
theorem zBP{a b:D}(h_a:vF (.st [.sl 81 2 (.st [.str,.int .i64]),.str,.sl 77 2 (.st [.str,.sl 3 1 (.int .i64)]),.sl 50 1 (.sl 9 1 (.str)),.sl 39 6 (.st [.sl 3 1 (.int .i64),.sl 3 1 (.int .i64),.sl 58 2 (.st [.int .i64,.int .i64]),.sl 58 2 (.st [.int .i64,.int .i64]),.bool,.bool]),.int .i64,.sl 92 3 (.st [.int .i64,.int .i64,.int .i64]),.sl 3 1 (.int .i64),.sl 64 8 (.st [.int .i64,.sl 3 1 (.int .i64),.int .i64,.sl 31 1 (.sl 3 1 (.int .i64)),.int .i64,.sl 94 2 (.st [.str,.str]),.sl 66 2 (.st [.int .i64,.int .i64]),.sl 120 2 (.st [.int .i64,.int .i64])])]) a)(h_b:vF (.st [.sl 81 2 (.st [.str,.int .i64]),.str,.sl 77 2 (.st [.str,.sl 3 1 (.int .i64)]),.sl 50 1 (.sl 9 1 (.str)),.sl 39 6 (.st [.sl 3 1 (.int .i64),.sl 3 1 (.int .i64),.sl 58 2 (.st [.int .i64,.int .i64]),.sl 58 2 (.st [.int .i64,.int .i64]),.bool,.bool]),.int .i64,.sl 92 3 (.st [.int .i64,.int .i64,.int .i64]),.sl 3 1 (.int .i64),.sl 64 8 (.st [.int .i64,.sl 3 1 (.int .i64),.int .i64,.sl 31 1 (.sl 3 1 (.int .i64)),.int .i64,.sl 94 2 (.st [.str,.str]),.sl 66 2 (.st [.int .i64,.int .i64]),.sl 120 2 (.st [.int .i64,.int .i64])])]) b):Holds EE 13 [a,b] (dB (gL a b)):=by
 refine zBs rfl (qX.step' ?_);obtain⟨_,rfl,a_0,_,rfl,M,_,_,rfl,⟨a_1,rfl⟩,a_2,_,rfl,L,a_3,_,rfl,K,a_4,_,rfl,J,_,_,rfl,⟨a_5,rfl⟩,a_6,_,rfl,I,a_7,_,rfl,H,a_8,_,rfl,G,rfl⟩:=h_a;have x:=qV M;have i_a_2:=qV L;have i_a_3:=qV K;have V:=qV J;have i_a_6:=qV I;have i_a_7:=qV H;have h:=qV G;obtain⟨_,rfl,b_0,_,rfl,F,_,_,rfl,⟨b_1,rfl⟩,b_2,_,rfl,E,b_3,_,rfl,C,b_4,_,rfl,B,_,_,rfl,⟨b_5,rfl⟩,b_6,_,rfl,A,Z,_,rfl,z,b_8,_,rfl,w,rfl⟩:=h_b;have c:=qV F;have i_b_2:=qV E;have i_b_3:=qV C;have U:=qV B;have i_b_6:=qV A;have i_b_7:=qV z;have y:=qV w;refine bS (zH rfl) ?_;refine bS (zH rfl) ?_;refine bS (qA (off:=0) rfl x.one) ?_;refine bS (qM x) ?_;refine bS (qA (off:=0) rfl c.one) ?_;refine bS (qM c) ?_;refine bS yQ ?_;refine iC (λc0=>?_) λc0=>?_
 ·have q0:=kQ x c (pM c0);refine qO (d':=dB (false)) rfl (vD ?_)
  ((try simp only[qI,qP,qH,qD,qR,qG,qQ]at q0 ⊢);grind)
 have g:=pL c0;refine bS (qA (off:=8) rfl h.one) ?_;refine bS (qM h) ?_;refine bS (qA (off:=8) rfl y.one) ?_;refine bS (qM y) ?_;refine bS yQ ?_;refine iC (λc1=>?_) λc1=>?_
 ·have q1:=kQ h y (pM c1);refine qO (d':=dB (false)) rfl (vD ?_)
  ((try simp only[qI,qP,qH,qD,qR,qG,qQ]at q1 ⊢);grind)
 have e:=pL c1;refine zG rfl ?_;refine yK (ρ:=λi2=>[dI ((i2:Nat):Int),.agg [a_0,.leaf (.string a_1),a_2,a_3,a_4,dI a_5,a_6,a_7,a_8],.agg [b_0,.leaf (.string b_1),b_2,b_3,b_4,dI b_5,b_6,Z,b_8]]) x c g (λR=>?_) ?_ (λR=>?_)
 ·((try simp only[qI,qP,qH,qD,qR,qG,qQ]at R ⊢);grind)
 ·intro i2 x2 y2 Q O hi2 X;obtain⟨_,rfl,_,_,rfl,⟨x2_0,rfl⟩,_,_,rfl,⟨x2_1,rfl⟩,rfl⟩:=jI M Q;obtain⟨_,rfl,_,_,rfl,⟨y2_0,rfl⟩,_,_,rfl,⟨y2_1,rfl⟩,rfl⟩:=jI F O;refine bS (qA (off:=0) rfl x.one) ?_;refine bS (qM x) ?_;refine bS xB ?_;refine vO rfl ?_;rw[kN (show i2<a_0.es.length by omega)];refine rL ?_;refine bS (qA (off:=0) rfl x.one) ?_;refine bS (vJ Q) ?_;refine bS (jP x Q rfl) ?_;refine bS (qA (off:=0) rfl c.one) ?_;refine bS (vJ O) ?_;refine bS (jP c O rfl) ?_;refine bS (cD .neq (.inl rfl) qYx qYD qWr qYM rfl (qU dO (qU jT xT)) (qU dO (qU jT xT))) ?_;refine iC (λc3=>?_) λc3=>?_
  ·skip;refine xS rfl ?_;clear hi2 X;((try simp only[qI,qP,qH,qD,qR,qG,qQ]at c3 ⊢);grind)
  refine bS (vC X) ?_;refine yG rfl ?_;clear hi2 X;((try simp only[qI,qP,qH,qD,qR,qG,qQ]at c3 ⊢);grind)
 refine bS (qA (off:=0) rfl x.one) ?_;refine bS (qM x) ?_;refine bS xB ?_;refine vO rfl ?_;rw[wS];refine lJ ?_;refine zG rfl ?_;refine yK (ρ:=λi3=>[dI ((i3:Nat):Int),.agg [a_0,.leaf (.string a_1),a_2,a_3,a_4,dI a_5,a_6,a_7,a_8],.agg [b_0,.leaf (.string b_1),b_2,b_3,b_4,dI b_5,b_6,Z,b_8]]) h y e (λq3=>?_) ?_ (λq3=>?_)
 ·((try simp only[qI,qP,qH,qD,qR,qG,qQ]at q3 R ⊢);grind)
 ·intro i3 x3 y3 P N hi3 W;obtain⟨_,rfl,_,_,rfl,⟨x3_0,rfl⟩,x3_1,_,rfl,u,_,_,rfl,⟨x3_2,rfl⟩,x3_3,_,rfl,t,_,_,rfl,⟨x3_4,rfl⟩,x3_5,_,rfl,r,x3_6,_,rfl,q,x3_7,_,rfl,p,rfl⟩:=jI G P;have i_x3_1:=qV u;have i_x3_3:=qV t;have i_x3_5:=qV r;have i_x3_6:=qV q;have i_x3_7:=qV p;obtain⟨_,rfl,_,_,rfl,⟨y3_0,rfl⟩,y3_1,_,rfl,o,_,_,rfl,⟨y3_2,rfl⟩,y3_3,_,rfl,l,_,_,rfl,⟨y3_4,rfl⟩,y3_5,_,rfl,k,y3_6,_,rfl,j,y3_7,_,rfl,i,rfl⟩:=jI w N;have i_y3_1:=qV o;have i_y3_3:=qV l;have i_y3_5:=qV k;have i_y3_6:=qV j;have i_y3_7:=qV i;refine bS (qA (off:=8) rfl h.one) ?_;refine bS (qM h) ?_;refine bS xB ?_;refine vO rfl ?_;rw[kN (show i3<a_8.es.length by omega)];refine rL ?_;refine bS (qA (off:=8) rfl h.one) ?_;refine bS (vJ P) ?_;refine bS (jP h P rfl) ?_;refine bS (qA (off:=8) rfl y.one) ?_;refine bS (vJ N) ?_;refine bS (jP y N rfl) ?_;refine cS (zBO (qDV (qU jT (qU u (qU jT (qU t (qU jT (qU r (qU q (qU p xT))))))))) (qDV (qU jT (qU o (qU jT (qU l (qU jT (qU k (qU j (qU i xT)))))))))) ?_;refine bS wG ?_;refine iC (λS=>?_) λS=>?_
  ·skip;refine xS rfl ?_;clear hi3 W;((try simp only[qI,qP,qH,qD,qR,qG,qQ]at S R ⊢);grind)
  refine bS (vC W) ?_;refine yG rfl ?_;clear hi3 W;((try simp only[qI,qP,qH,qD,qR,qG,qQ]at S R ⊢);grind)
 refine bS (qA (off:=8) rfl h.one) ?_;refine bS (qM h) ?_;refine bS xB ?_;refine vO rfl ?_;rw[wS];refine lJ ?_;refine bS (cB rfl) ?_;refine bS (cB rfl) ?_;refine cS (zBN (qDV (qU dO (qU L (qU K xT)))) (qDV (qU dO (qU E (qU C xT))))) ?_;refine iC (λS=>?_) λS=>?_
 ·skip;refine bS (qA (off:=4) rfl V.one) ?_;refine bS (qA (off:=4) rfl U.one) ?_;refine cS (zBM J B) ?_;refine iC (λc5=>?_) λc5=>?_
  ·skip;refine bS (cB rfl) ?_;refine bS (cB rfl) ?_;refine cS (zBL (qDV (qU jT (qU I (qU H xT)))) (qDV (qU jT (qU A (qU z xT))))) ?_;refine qO (d':=dB (gL (.agg [dI a_5,a_6,a_7]) (.agg [dI b_5,b_6,Z]))) rfl (vD ?_)
   ((try simp only[qI,qP,qH,qD,qR,qG,qQ]at c5 S q3 R ⊢);grind)
  refine qO (d':=dB (false)) rfl (vD ?_)
  ((try simp only[qI,qP,qH,qD,qR,qG,qQ]at c5 S q3 R ⊢);grind)
 refine qO (d':=dB (false)) rfl (vD ?_)
 ((try simp only[qI,qP,qH,qD,qR,qG,qQ]at S q3 R ⊢);grind)
end Go.Proofs.YtminhjecpnpaeaaGreatDoor
