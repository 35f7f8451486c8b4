/- An order of lists of parts, and what is the same by it. Conditions: none. -/
import Derived.Test.YtocbbgmhkhallaaGreatDoorBq
import Derived.Test.YtocbbgmhkhallaaGreatDoorBg
import Derived.Test.YtocbbgmhkhallaaGreatDoorBh
import Derived.Test.YtocbbgmhkhallaaGreatDoorMo
set_option linter.unusedVariables false
set_option linter.unusedSimpArgs false
namespace Go.Proofs.YtocbbgmhkhallaaGreatDoor
open Go Go.Am Go.Proofs Go.Am.Tt
attribute [local irreducible] Go.Am.wp Go.Am.TOp.eval
def qVp(b a1 g y h c:Int):Bool:=if b=y then(if a1=h then decide (g<c)else decide (a1<h))else decide (b<y)
theorem zDK{b a1 g y h c:Int}:qA EE 122 [.agg [dI b,dI a1,dI g],.agg [dI y,dI h,dI c]] (dB (qVp b a1 g y h c)):=by
 refine zCE rfl (qP.a9 ?_);refine xB (qS rfl) rfl ?_;refine xB (qS rfl) rfl ?_;refine xB (qB (off:=0) rfl rfl) rfl ?_;refine xB (qB (off:=0) rfl rfl) rfl ?_;refine xB xZ rfl ?_;refine iC (λc0=>?_) λc0=>?_
 ·refine xB (qB (off:=0) rfl rfl) rfl ?_;refine xB (qB (off:=0) rfl rfl) rfl ?_;refine xB jE rfl ?_;refine qE (d':=dB (decide (b<y))) rfl (qX ?_);unfold qVp;rw[bf (by simpa using c0)]
 have i:b=y:=by simpa using c0
 refine xB (qB (off:=1) rfl rfl) rfl ?_;refine xB (qB (off:=1) rfl rfl) rfl ?_;refine xB xZ rfl ?_;refine iC (λc1=>?_) λc1=>?_
 ·refine xB (qB (off:=1) rfl rfl) rfl ?_;refine xB (qB (off:=1) rfl rfl) rfl ?_;refine xB jE rfl ?_;refine qE (d':=dB (decide (a1<h))) rfl (qX ?_);unfold qVp;rw[bo i,bf (by simpa using c1)]
 have j:a1=h:=by simpa using c1
 refine xB (qB (off:=2) rfl rfl) rfl ?_;refine xB (qB (off:=2) rfl rfl) rfl ?_;refine xB jE rfl ?_;refine qE (d':=dB (decide (g<c))) rfl (qX ?_);unfold qVp;rw[bo i,bo j]
def qYq(x y:D):Bool:=match x,y with
 |.agg [.leaf (.int _ i),.leaf (.int _ a1),.leaf (.int _ g)],.agg [.leaf (.int _ c),.leaf (.int _ b),.leaf (.int _ h)]=>qVp i a1 g c b h
 |_,_=>false
def qHi:LR->LR->Bool
 | [],[]=>false
 | [],_::_=>true
 |_::_,[]=>false
 |x::us,y::vs=>if deq x y then qHi us vs else qYq x y
abbrev qQw:Sh:=.st [.int .i64,.int .i64,.int .i64]
theorem qBA{x:D}(h:zE qQw x):∃y a1 a2,x=.agg [dI y,dI a1,dI a2]:=by obtain⟨_,rfl,_,_,rfl,⟨y,rfl⟩,_,_,rfl,⟨a1,rfl⟩,_,_,rfl,⟨a2,rfl⟩,rfl⟩:=h;exact⟨y,a1,a2,rfl⟩
theorem qHY{g a1 c b y h:Int}:deq (.agg [dI g,dI a1,dI c]) (.agg [dI b,dI y,dI h])=(decide (g=b)&&(decide (a1=y)&&(decide (c=h)&&true))):=by simp only[qJ,qD,qG,qH,qK]
theorem qKA:∀{us vs:LR},(∀x∈us,zE qQw x)->(∀x∈vs,zE qQw x)->(!(qHi us vs)&& !(qHi vs us))=deqs us vs
 | [],[],_,_=>by simp[qHi,deqs]
 | [],_::_,_,_=>by simp[qHi,deqs]
 |_::_,[],_,_=>by simp[qHi,deqs]
 | x::us,y::vs,p,o=>by
  have ih:=qKA (us:=us) (vs:=vs) (λx h=>p x (mC _ h)) (λx h=>o x (mC _ h));obtain⟨k,a1,a2,rfl⟩:=qBA (p x aq);obtain⟨j,i,g,rfl⟩:=qBA (o y aq);rw[qD];simp only[qHi,qYq];rw[qHY,qHY];by_cases b:k=j
  ·by_cases c:a1=i
   ·by_cases l:a2=g
    ·subst b;subst c;subst l;simp only[decide_true,cj,dn,ep];exact ih
    have h3:¬g=a2:=λe=>l e.symm;subst b;subst c;simp only[qVp,l,h3,decide_true,decide_false,er,Bool.and_false,gw,ep,dn,gl,cz];by_cases h:a2<g
    ·simp[h]
    have:g<a2:=by omega
    simp[this]
   have h3:¬i=a1:=λe=>c e.symm;subst b;simp only[qVp,c,h3,decide_true,decide_false,er,Bool.and_false,gw,ep,dn,gl,cz];by_cases h:a1<i
   ·simp[h]
   have:i<a1:=by omega
   simp[this]
  have h3:¬j=k:=λe=>b e.symm;simp only[qVp,b,h3,decide_false,gw,gl,cz];by_cases h:k<j
  ·simp[h]
  have:j<k:=by omega
  simp[this]
theorem zAN{x y:LM}{i a1 g c b h:Int}:TOp.eval EE (.bin .neq 127 x y) [.agg [dI i,dI a1,dI g],.agg [dI c,dI b,dI h]]=some (dB (!(deq (.agg [dI i,dI a1,dI g]) (.agg [dI c,dI b,dI h])))):=by rw[oP .neq (.inl rfl) qUR qUW qU9 qVf rfl (qN vR (qN vR (qN vR v9))) (qN vR (qN vR (qN vR v9))),qJ]
theorem zFy{a b:D}(p:zE (.sl 127 3 qQw) a)(o:zE (.sl 127 3 qQw) b):qA EE 78 [.agg [a],.agg [b]] (dB (qHi a.es b.es)):=by
 have h:=qM p;have c:=qM o;have L:∀m i,i+m=a.es.length->i<=b.es.length->qP EE (qA EE) qTt 1 [dI ((i:Nat):Int),.agg [a],.agg [b]] (dB (qHi (a.es.drop i) (b.es.drop i))):=by
  intro m;induction m with
  | zero=>
   intro i r K;have r:i=a.es.length:=r;have u:qHi (a.es.drop i) (b.es.drop i)=decide (((a.es.length:Nat):Int)<((b.es.length:Nat):Int)):=by
    subst r;rw[List.drop_length];cases hd:b.es.drop a.es.length with
    |nil=>
     have:b.es.length<=a.es.length:=by simpa using hd
     simp only[qHi];exact(fD (by omega)).symm
    |cons y ys=>
     have:(b.es.drop a.es.length).length≠0:=by rw[hd];simp
     simp only[qHi];rw[dh]at this;exact(ic (by omega)).symm
   rw[u];refine qP.a9 ?_;refine bS (qB (off:=0) rfl h.one) ?_;refine bS (qO h) ?_;refine bS zN ?_;refine zV (t:=false) (congrArg (λq=>dB q) (fD (by omega))) ?_;refine yJ ?_;refine bS (qB (off:=0) rfl h.one) ?_;refine bS (qO h) ?_;refine bS (qB (off:=0) rfl c.one) ?_;refine bS (qO c) ?_;refine bS zN ?_;exact qE rfl rfl
  | succ m ih=>
   intro i r K;have l:i<a.es.length:=by omega
   have J:i+1<zX:=by have:=qN6 h;omega
   have k:a.es[i]? = some a.es[i]:=ak l;have E:a.es.drop i=a.es[i]::a.es.drop (i+1):=ew l;refine qP.a9 ?_;refine bS (qB (off:=0) rfl h.one) ?_;refine bS (qO h) ?_;refine bS zN ?_;refine zV (t:=true) (congrArg (λq=>dB q) (ic (by omega))) ?_;refine oB ?_;refine bS (qB (off:=0) rfl c.one) ?_;refine bS (qO c) ?_;refine bS zN ?_;refine iC (λc0=>?_) λc0=>?_
   ·have g:i<b.es.length:=by have:=dT c0;omega
    have j:b.es[i]? = some b.es[i]:=ak g;have z:b.es.drop i=b.es[i]::b.es.drop (i+1):=ew g;obtain⟨I,a1,a2,C⟩:=qBA (vN p k);obtain⟨H,G,F,A⟩:=qBA (vN o j);have nx:=ih (i+1) (by omega) g;rw[E,z,C,A];rw[C]at k;rw[A]at j;refine bS (qB (off:=0) rfl h.one) ?_;refine bS (vD (s:=((i:Nat):Int)) (by omega) k) ?_;refine bS (xO (s:=((i:Nat):Int)) h (by omega) k rfl) ?_;refine bS (qB (off:=0) rfl c.one) ?_;refine bS (vD (s:=((i:Nat):Int)) (by omega) j) ?_;refine bS (xO (s:=((i:Nat):Int)) c (by omega) j rfl) ?_;refine bS zAN ?_;refine iC (λc1=>?_) λc1=>?_
    ·have w:deq (.agg [dI I,dI a1,dI a2]) (.agg [dI H,dI G,dI F])=false:=by simpa using c1
     refine bS (qB (off:=0) rfl h.one) ?_;refine bS (vD (s:=((i:Nat):Int)) (by omega) k) ?_;refine bS (xO (s:=((i:Nat):Int)) h (by omega) k rfl) ?_;refine bS (qB (off:=0) rfl c.one) ?_;refine bS (vD (s:=((i:Nat):Int)) (by omega) j) ?_;refine bS (xO (s:=((i:Nat):Int)) c (by omega) j rfl) ?_;refine cS zDK ?_;exact qE rfl (qX (by simp only[qHi,w,cz,gl,qYq]))
    have heq:deq (.agg [dI I,dI a1,dI a2]) (.agg [dI H,dI G,dI F])=true:=by simpa using c1
    refine bS (zF J) ?_;refine qY rfl ?_;simp only[qHi,heq,dn];exact nx
   have g:b.es.length=i:=by have:=dF c0;omega
   have z:b.es.drop i=[]:=by rw[List.drop_eq_nil_iff];omega
   have u:qHi (a.es.drop i) (b.es.drop i)=decide (((a.es.length:Nat):Int)<((b.es.length:Nat):Int)):=by rw[E,z];simp only[qHi];exact(fD (by omega)).symm
   rw[u];refine bS (qB (off:=0) rfl h.one) ?_;refine bS (qO h) ?_;refine bS (qB (off:=0) rfl c.one) ?_;refine bS (qO c) ?_;refine bS zN ?_;exact qE rfl rfl
 refine zFW rfl (qP.a9 ?_);refine bS (qS rfl) ?_;refine bS (qS rfl) ?_;exact qY rfl (L _ 0 (fc _) (cq _))
theorem qN3{el sz:Nat}{e:Sh}{d:D}(h:zE (.sl el sz e) d):∀x∈d.es,zE e x:=by intro x y;obtain⟨i,b⟩:=List.getElem?_of_mem y;exact vN h b
theorem zG6{a b:D}(k:zE (.st [.sl 127 3 (.st [.int .i64,.int .i64,.int .i64])]) a)(j:zE (.st [.sl 127 3 (.st [.int .i64,.int .i64,.int .i64])]) b):qA EE 39 [a,b] (dB (deq a b)):=by
 refine zGb rfl (qP.a9 ?_);obtain⟨_,rfl,g,_,rfl,y,rfl⟩:=k;obtain⟨_,rfl,c,_,rfl,h,rfl⟩:=j;have i:=qKA (qN3 y) (qN3 h);have hd:deq (.agg [g]) (.agg [c])=deqs g.es c.es:=by rw[qJ,qD,qG,er,qGl (qM y) (qM h)]
 rw[hd];refine xB (qS rfl) rfl ?_;refine xB (qS rfl) rfl ?_;refine qFa (zFy y h) rfl rfl rfl ?_;refine xB jJ rfl ?_;refine iC (λc0=>?_) λc0=>?_
 ·refine qFa (zFy h y) rfl rfl rfl ?_;refine xB jJ rfl ?_;refine qE (d':=dB (!(qHi c.es g.es))) rfl (qX ?_);rw[c0,ep]at i;exact i
 refine qE (d':=dB false) rfl (qX ?_);rw[c0,gw]at i;exact i
theorem zHh{a b:D}(q:zE (.sl 95 1 (.st [.sl 127 3 (.st [.int .i64,.int .i64,.int .i64])])) a)(p:zE (.sl 95 1 (.st [.sl 127 3 (.st [.int .i64,.int .i64,.int .i64])])) b):qA EE 14 [a,b] (dB (deq a b)):=by
 refine zGo rfl (qP.a9 ?_);have c:=qM q;have j:=qM p;refine bS (qO c) ?_;refine bS (qO j) ?_;refine bS xZ ?_;refine iC (λc0=>?_) λc0=>?_
 ·have E:=wV c j (kU c0);refine qE (d':=dB (false)) rfl (qX ?_)
  ((try simp only[qH,qJ,qG,qD,qK,qI,qL]at E ⊢);grind)
 have k:=kT c0;refine qY rfl ?_;refine xS (ρ:=λw=>[a,b,dI ((w:Nat):Int)]) c j k (λu=>?_) ?_ (λu=>?_)
 ·((try simp only[qH,qJ,qG,qD,qK,qI,qL]at u ⊢);grind)
 ·intro w x1 F i g o l;obtain⟨_,rfl,C,_,rfl,y,rfl⟩:=vN q i;have t:=qM y;obtain⟨_,rfl,A,_,rfl,h,rfl⟩:=vN p g;have r:=qM h;refine bS (qO c) ?_;refine bS jE ?_;refine zV rfl ?_;rw[wU (show w<a.es.length by omega)];refine oB ?_;refine bS (vY i) ?_;refine bS (vZ c i rfl) ?_;refine bS (vY g) ?_;refine bS (vZ j g rfl) ?_;refine cS (zG6 (lK (qN y v9)) (lK (qN h v9))) ?_;refine bS jJ ?_;refine iC (λz=>?_) λz=>?_
  ·skip;refine wQ rfl ?_;clear o l;((try simp only[qH,qJ,qG,qD,qK,qI,qL]at z ⊢);grind)
  refine bS (zF l) ?_;refine xN rfl ?_;clear o l;((try simp only[qH,qJ,qG,qD,qK,qI,qL]at z ⊢);grind)
 refine bS (qO c) ?_;refine bS jE ?_;refine zV rfl ?_;rw[xR];refine yJ ?_;refine qE (d':=dB (true)) rfl (qX ?_)
 ((try simp only[qH,qJ,qG,qD,qK,qI,qL]at u ⊢);grind)
abbrev zBZ:Sh:=.st [.int .i64,.int .i64]
abbrev qYJ:Sh:=qQx
abbrev qQu:Sh:=.st [.str,nS]
def qBr:D->D
 |.agg [x0,x1,x2,x3,x4,x5,x6,x7]=>.agg [x0,xL 3 1 x1,x2,.sl 31 1 (x3.es.map (xL 3 1)),x4,xL 105 2 x5,xL 73 2 x6,xL 163 2 x7]
 |d=>d
def uX:D->D
 |.agg [x0,x1]=>.agg [x0,xL 3 1 x1]
 |d=>d
def qBq:D->D
 |.agg [x0,x1,x2,x3,x4,x5]=>.agg [xL 3 1 x0,xL 3 1 x1,xL 65 2 x2,xL 65 2 x3,x4,x5]
 |d=>d
def zCc:D->D
 |.agg [x0,x1,x2,x3,x4,x5,x6,x7,x8]=>.agg [xL 85 2 x0,x1,.sl 81 2 (x2.es.map uX),.sl 37 1 (x3.es.map (xL 9 1)),.sl 60 6 (x4.es.map qBq),x5,xL 55 3 x6,xL 3 1 x7,.sl 71 8 (x8.es.map qBr)]
 |d=>d
variable{B:Nat}
theorem zHq{x0 x2 x4:Int}{x1 x3 x5 x6 x7:D}(o:qF 1048576 nS x1)(h3:qF 1048576 (.sl 31 1 nS) x3)(h5:qF 1048576 (.sl 105 2 (.st [.str,.str])) x5)(l:qF 1048576 (.sl 73 2 zBZ) x6)(k:qF 1048576 (.sl 163 2 zBZ) x7):qA EE 27 [.agg [dI x0,x1,dI x2,x3,dI x4,x5,x6,x7]] (qBr (.agg [dI x0,x1,dI x2,x3,dI x4,x5,x6,x7])):=by
 refine zGk rfl (qP.a9 ?_);have p:=qC o;have c:=qC h3;have u:=qC h5;have t:=qC l;have r:=qC k;have H:=qR o;have G:=qR h3;have F:=qR h5;have E:=qR l;have C:=qR k;refine bS (qS rfl) ?_;refine bS cX ?_;refine bS (qB (off:=1) rfl p.one) ?_;refine bS (d:=xL 3 1 x1) (yT o (by decide) (by omega)) ?_;refine bS (qS rfl) ?_;refine bS (qB (off:=0) rfl rfl) ?_;refine bS (qB (off:=1) rfl p.one) ?_;refine bS (qB (off:=2) rfl rfl) ?_;refine bS (qB (off:=3) rfl c.one) ?_;refine bS (qB (off:=4) rfl rfl) ?_;refine bS (qB (off:=5) rfl u.one) ?_;refine bS (qB (off:=6) rfl t.one) ?_;refine bS (qB (off:=7) rfl r.one) ?_;refine bS cX ?_;refine qY rfl (vQ (P:=λ(i:Nat)=>∀out:LR,out=(x3.es.take i).map (xL 3 1)->i<=x3.es.length->qP EE (qA EE) qUg 1 [.sl 31 1 out,dI ((i:Nat):Int),dI x0,xL 3 1 x1,dI x2,x3,dI x4,x5,x6,x7] (qBr (.agg [dI x0,x1,dI x2,x3,dI x4,x5,x6,x7]))) x3.es.length (λi ih=>?_) 0 [] (by simp) (cq _));intro out j z;refine qP.a9 ?_;have w:out.length<=x3.es.length:=by rw[j];exact d8
 refine bS (qO c) ?_;refine bS zN ?_;refine iC (λc0=>?_) λc0=>?_
 ·replace c0:=dT c0;have h:i<x3.es.length:=by omega
  have he:x3.es[i]? = some x3.es[i]:=ak h;generalize x3.es[i]=y at he;have g:=zG h3 he;have q:=qC g;have A:=qR g;refine bS cX ?_;refine bS (vY he) ?_;refine bS (yH c he q.one) ?_;refine bS (d:=xL 3 1 y) (yT g (by decide) (by omega)) ?_;refine bS (wB rfl) ?_;refine bS (d:=.sl 31 1 [xL 3 1 y]) (qO5 rfl (by decide)) ?_;refine bS (d:=.sl 31 1 (out++[xL 3 1 y])) (fB (by decide) (by omega)) ?_;refine bS (d:=dI ((i+1:Nat):Int)) (zF (zH (by omega))) ?_;exact qY rfl (ih h _ (by rw[j,dZ he]) h)
 replace c0:=dF c0;refine bS cX ?_;refine bS (d:=xL 105 2 x5) (yT h5 (by decide) (by omega)) ?_;refine bS cX ?_;refine bS (d:=xL 73 2 x6) (yT l (by decide) (by omega)) ?_;refine bS cX ?_;refine bS (d:=xL 163 2 x7) (yT k (by decide) (by omega)) ?_;have b:out=x3.es.map (xL 3 1):=by rw[j,oL (by omega)]
 subst b;exact qE rfl rfl
end Go.Proofs.YtocbbgmhkhallaaGreatDoor
namespace Go.Proofs.YtocbbgmhkhallaaGreatDoor
open Go Go.Am Go.Proofs Go.Am.Tt
attribute [local irreducible] Go.Am.wp Go.Am.TOp.eval
theorem g9{x5:Int}{s1:LJ}{x0 x2 x3 x4 x6 x7 x8:D}(O:qF 1048576 (.sl 85 2 (.st [.str,.int .i64])) x0)(N:qF 1048576 (.sl 81 2 qQu) x2)(h3:qF 1048576 (.sl 37 1 (.sl 9 1 .str)) x3)(M:qF 1048576 (.sl 60 6 qS8) x4)(L:qF 1048576 (.sl 55 3 (.st [.int .i64,.int .i64,.int .i64])) x6)(K:qF 1048576 nS x7)(h8:qF 1048576 (.sl 71 8 qYK) x8):qA EE 9 [.agg [x0,.leaf (.string s1),x2,x3,x4,dI x5,x6,x7,x8]] (zCc (.agg [x0,.leaf (.string s1),x2,x3,x4,dI x5,x6,x7,x8])):=by
 refine u9 rfl (qP.a9 ?_);have U:=qC O;have z:=qC N;have H:=qC h3;have G:=qC M;have i6:=qC L;have i7:=qC K;have F:=qC h8;have b0:=qR O;have b2:=qR N;have b3:=qR h3;have b4:=qR M;have b6:=qR L;have b7:=qR K;have b8:=qR h8;generalize p:zCc (.agg [x0,.leaf (.string s1),x2,x3,x4,dI x5,x6,x7,x8])=c;have p:c=.agg [xL 85 2 x0,.leaf (.string s1),.sl 81 2 (x2.es.map uX),.sl 37 1 (x3.es.map (xL 9 1)),.sl 60 6 (x4.es.map qBq),dI x5,xL 55 3 x6,xL 3 1 x7,.sl 71 8 (x8.es.map qBr)]:=p.symm;have V:qP EE (qA EE) qGJ 4 [.sl 71 8 [],dI ((0:Nat):Int),xL 85 2 x0,.leaf (.string s1),.sl 81 2 (x2.es.map uX),.sl 37 1 (x3.es.map (xL 9 1)),.sl 60 6 (x4.es.map qBq),dI x5,xL 55 3 x6,xL 3 1 x7,x8] c:=by
  refine vQ (P:=λ(i:Nat)=>∀out:LR,out=(x8.es.take i).map qBr->i<=x8.es.length->qP EE (qA EE) qGJ 4 [.sl 71 8 out,dI ((i:Nat):Int),xL 85 2 x0,.leaf (.string s1),.sl 81 2 (x2.es.map uX),.sl 37 1 (x3.es.map (xL 9 1)),.sl 60 6 (x4.es.map qBq),dI x5,xL 55 3 x6,xL 3 1 x7,x8] c) x8.es.length (λi ih=>?_) 0 [] (by simp) (cq _);intro out g J;refine qP.a9 ?_;have o:out.length<=x8.es.length:=by rw[g];exact d8
  refine bS (qO F) ?_;refine bS zN ?_;refine iC (λc0=>?_) λc0=>?_
  ·replace c0:=dT c0;have h:i<x8.es.length:=by omega
   have he:x8.es[i]? = some x8.es[i]:=ak h;generalize x8.es[i]=y at he;obtain⟨_,rfl,_,_,rfl,⟨k,rfl⟩,j,_,rfl,l,_,_,rfl,⟨r,rfl⟩,q,_,rfl,w,_,_,rfl,⟨u,rfl⟩,t,_,rfl,k5,S,_,rfl,k6,R,_,rfl,Z,rfl⟩:=zG h8 he;refine bS (vY he) ?_;refine bS (vZ F he rfl) ?_;refine cS (zHq l w k5 k6 Z) ?_;refine bS (qS rfl) ?_;refine bS (d:=.sl 71 8 [qBr (.agg [dI k,j,dI r,q,dI u,t,S,R])]) (qO5 rfl (by decide)) ?_;refine bS (d:=.sl 71 8 (out++[qBr (.agg [dI k,j,dI r,q,dI u,t,S,R])])) (fB (by decide) (by omega)) ?_;refine bS (d:=dI ((i+1:Nat):Int)) (zF (zH (by omega))) ?_;exact qY rfl (ih h _ (by rw[g,dZ he]) h)
  replace c0:=dF c0;have b:out=x8.es.map qBr:=by rw[g,oL (by omega)]
  subst b;exact qE rfl p.symm
 have W:qP EE (qA EE) qGJ 3 [.sl 60 6 [],dI ((0:Nat):Int),xL 85 2 x0,.leaf (.string s1),.sl 81 2 (x2.es.map uX),.sl 37 1 (x3.es.map (xL 9 1)),x4,dI x5,x6,x7,x8] c:=by
  refine vQ (P:=λ(i:Nat)=>∀out:LR,out=(x4.es.take i).map qBq->i<=x4.es.length->qP EE (qA EE) qGJ 3 [.sl 60 6 out,dI ((i:Nat):Int),xL 85 2 x0,.leaf (.string s1),.sl 81 2 (x2.es.map uX),.sl 37 1 (x3.es.map (xL 9 1)),x4,dI x5,x6,x7,x8] c) x4.es.length (λi ih=>?_) 0 [] (by simp) (cq _);intro out g J;refine qP.a9 ?_;have o:out.length<=x4.es.length:=by rw[g];exact d8
  refine bS (qO G) ?_;refine bS zN ?_;refine iC (λc0=>?_) λc0=>?_
  ·replace c0:=dT c0;have h:i<x4.es.length:=by omega
   have he:x4.es[i]? = some x4.es[i]:=ak h;generalize x4.es[i]=y at he;obtain⟨_,rfl,k,_,rfl,C,j,_,rfl,l,r,_,rfl,A,q,_,rfl,w,_,_,rfl,⟨u,rfl⟩,_,_,rfl,⟨t,rfl⟩,rfl⟩:=zG M he;have j0:=qC C;have E:=qC l;have j2:=qC A;have j3:=qC w;have c_0:=qR C;have Q:=qR l;have c_2:=qR A;have c_3:=qR w;refine bS (vY he) ?_;refine bS (vZ G he rfl) ?_;refine bS (qS rfl) ?_;refine bS cX ?_;refine bS (qB (off:=0) rfl j0.one) ?_;refine bS (d:=xL 3 1 k) (yT C (by decide) (by omega)) ?_;refine bS cX ?_;refine bS (qB (off:=1) rfl E.one) ?_;refine bS (d:=xL 3 1 j) (yT l (by decide) (by omega)) ?_;refine bS cX ?_;refine bS (qB (off:=2) rfl j2.one) ?_;refine bS (d:=xL 65 2 r) (yT A (by decide) (by omega)) ?_;refine bS cX ?_;refine bS (qB (off:=3) rfl j3.one) ?_;refine bS (d:=xL 65 2 q) (yT w (by decide) (by omega)) ?_;refine bS (qB (off:=4) rfl rfl) ?_;refine bS (qB (off:=5) rfl rfl) ?_;refine bS (qS rfl) ?_;refine bS (d:=.sl 60 6 [.agg [xL 3 1 k,xL 3 1 j,xL 65 2 r,xL 65 2 q,dB u,dB t]]) (qO5 rfl (by decide)) ?_;refine bS (d:=.sl 60 6 (out++[.agg [xL 3 1 k,xL 3 1 j,xL 65 2 r,xL 65 2 q,dB u,dB t]])) (fB (by decide) (by omega)) ?_;refine bS (d:=dI ((i+1:Nat):Int)) (zF (zH (by omega))) ?_;exact qY rfl (ih h _ (by rw[g,dZ he];rfl) h)
  replace c0:=dF c0;have b:out=x4.es.map qBq:=by rw[g,oL (by omega)]
  subst b;refine bS cX ?_;refine bS (d:=xL 55 3 x6) (yT L (by decide) (by omega)) ?_;refine bS cX ?_;refine bS (d:=xL 3 1 x7) (yT K (by decide) (by omega)) ?_;refine bS cX ?_;exact qY rfl V
 have X:qP EE (qA EE) qGJ 2 [.sl 81 2 (x2.es.map uX),.sl 37 1 [],dI ((0:Nat):Int),xL 85 2 x0,.leaf (.string s1),x2,x3,x4,dI x5,x6,x7,x8] c:=by
  refine vQ (P:=λ(i:Nat)=>∀out:LR,out=(x3.es.take i).map (xL 9 1)->i<=x3.es.length->qP EE (qA EE) qGJ 2 [.sl 81 2 (x2.es.map uX),.sl 37 1 out,dI ((i:Nat):Int),xL 85 2 x0,.leaf (.string s1),x2,x3,x4,dI x5,x6,x7,x8] c) x3.es.length (λi ih=>?_) 0 [] (by simp) (cq _);intro out g J;refine qP.a9 ?_;have o:out.length<=x3.es.length:=by rw[g];exact d8
  refine bS (qO H) ?_;refine bS zN ?_;refine iC (λc0=>?_) λc0=>?_
  ·replace c0:=dT c0;have h:i<x3.es.length:=by omega
   have he:x3.es[i]? = some x3.es[i]:=ak h;generalize x3.es[i]=y at he;have I:=zG h3 he;have iy:=qC I;have bY:=qR I;refine bS cX ?_;refine bS (vY he) ?_;refine bS (yH H he iy.one) ?_;refine bS (d:=xL 9 1 y) (yT I (by decide) (by omega)) ?_;refine bS (wB rfl) ?_;refine bS (d:=.sl 37 1 [xL 9 1 y]) (qO5 rfl (by decide)) ?_;refine bS (d:=.sl 37 1 (out++[xL 9 1 y])) (fB (by decide) (by omega)) ?_;refine bS (d:=dI ((i+1:Nat):Int)) (zF (zH (by omega))) ?_;exact qY rfl (ih h _ (by rw[g,dZ he]) h)
  replace c0:=dF c0;have b:out=x3.es.map (xL 9 1):=by rw[g,oL (by omega)]
  subst b;refine bS cX ?_;exact qY rfl W
 refine bS (qS rfl) ?_;refine bS cX ?_;refine bS (qB (off:=0) rfl U.one) ?_;refine bS (d:=xL 85 2 x0) (yT O (by decide) (by omega)) ?_;refine bS (qS rfl) ?_;refine bS (qB (off:=0) rfl U.one) ?_;refine bS (qB (off:=1) rfl rfl) ?_;refine bS (qB (off:=2) rfl z.one) ?_;refine bS (qB (off:=3) rfl H.one) ?_;refine bS (qB (off:=4) rfl G.one) ?_;refine bS (qB (off:=5) rfl rfl) ?_;refine bS (qB (off:=6) rfl i6.one) ?_;refine bS (qB (off:=7) rfl i7.one) ?_;refine bS (qB (off:=8) rfl F.one) ?_;refine bS cX ?_;refine qY rfl (vQ (P:=λ(i:Nat)=>∀out:LR,out=(x2.es.take i).map uX->i<=x2.es.length->qP EE (qA EE) qGJ 1 [.sl 81 2 out,dI ((i:Nat):Int),xL 85 2 x0,.leaf (.string s1),x2,x3,x4,dI x5,x6,x7,x8] c) x2.es.length (λi ih=>?_) 0 [] (by simp) (cq _));intro out g J;refine qP.a9 ?_;have o:out.length<=x2.es.length:=by rw[g];exact d8
 refine bS (qO z) ?_;refine bS zN ?_;refine iC (λc0=>?_) λc0=>?_
 ·replace c0:=dT c0;have h:i<x2.es.length:=by omega
  have he:x2.es[i]? = some x2.es[i]:=ak h;generalize x2.es[i]=y at he;obtain⟨_,rfl,_,_,rfl,⟨k,rfl,_⟩,j,_,rfl,l,rfl⟩:=zG N he;have E:=qC l;have Q:=qR l;refine bS (vY he) ?_;refine bS (d:=.leaf (.string k)) (qB6 (off:=0) z he rfl rfl (by decide)) ?_;refine bS cX ?_;refine bS (vY he) ?_;refine bS (d:=j) (qB6 (off:=1) z he rfl E.one (by decide)) ?_;refine bS (d:=xL 3 1 j) (yT l (by decide) (by omega)) ?_;refine bS (qS rfl) ?_;refine bS (d:=.sl 81 2 [.agg [.leaf (.string k),xL 3 1 j]]) (qO5 rfl (by decide)) ?_;refine bS (d:=.sl 81 2 (out++[.agg [.leaf (.string k),xL 3 1 j]])) (fB (by decide) (by omega)) ?_;refine bS (d:=dI ((i+1:Nat):Int)) (zF (zH (by omega))) ?_;exact qY rfl (ih h _ (by rw[g,dZ he];rfl) h)
 replace c0:=dF c0;have b:out=x2.es.map uX:=by rw[g,oL (by omega)]
 subst b;refine bS cX ?_;exact qY rfl X
variable{B:Nat}
variable{e:Sh}
theorem wX{el sz vC y:Nat}{d:D}(h:qF B (.sl el sz e) d):qF B (.sl vC y e) (xL vC y d):=
 mP (qR h) λx b=>by obtain⟨i,c⟩:=List.mem_iff_getElem?.1 b;exact zG h c
theorem pU{el sz vC b:Nat}{e':Sh}{d:D}{f:D->D}(h:qF B (.sl el sz e) d)(k:∀x,qF B e x->qF B e' (f x)):qF B (.sl vC b e') (.sl vC b (d.es.map f)):=
 mP (by rw[bk];exact qR h) λx g=>by obtain⟨y,c,rfl⟩:=dy.1 g;obtain⟨i,j⟩:=List.mem_iff_getElem?.1 c;exact k y (zG h j)
theorem qC4{el sz vC y:Nat}{d:D}{f:D->D}(h:qF 1048576 (.sl el sz e) d)(g:∀x,qF 1048576 e x->qDL x (f x)):qDL d (.sl vC y (d.es.map f)):=
 qSy (qC h) λx b=>by obtain⟨i,c⟩:=List.mem_iff_getElem?.1 b;exact g x (zG h c)
theorem oZ{el sz vC y:Nat}{d:D}(h:qF 1048576 (.sl el sz e) d):qDL d (xL vC y d):=qSz (qC h)
variable{x:D}
theorem qGp(h:qF 1048576 qYK x):qF 1048576 qYK (qBr x)/\qDL x (qBr x):=by obtain⟨_,rfl,_,_,rfl,⟨u,rfl⟩,t,_,rfl,j,_,_,rfl,⟨r,rfl⟩,q,_,rfl,i,_,_,rfl,⟨p,rfl⟩,o,_,rfl,g,l,_,rfl,c,k,_,rfl,b,rfl⟩:=h;exact⟨nK (qQ jB (qQ (wX j) (qQ jB (qQ (pU i λx y=>wX y) (qQ jB (qQ (wX g) (qQ (wX c) (qQ (wX b) jN)))))))),.agg ⟨.refl _,oZ j,.refl _,qC4 i λx y=>oZ y,.refl _,oZ g,oZ c,oZ b,trivial⟩⟩
theorem qGn(h:qF 1048576 qQu x):qF 1048576 qQu (uX x)/\qDL x (uX x):=by obtain⟨_,rfl,_,_,rfl,⟨g,rfl,b⟩,c,_,rfl,y,rfl⟩:=h;exact⟨nK (qQ (rZ b) (qQ (wX y) jN)),.agg ⟨.refl _,oZ y,trivial⟩⟩
theorem qGo(h:qF 1048576 qS8 x):qF 1048576 qS8 (qBq x)/\qDL x (qBq x):=by obtain⟨_,rfl,p,_,rfl,g,o,_,rfl,c,l,_,rfl,b,k,_,rfl,y,_,_,rfl,⟨j,rfl⟩,_,_,rfl,⟨i,rfl⟩,rfl⟩:=h;exact⟨nK (qQ (wX g) (qQ (wX c) (qQ (wX b) (qQ (wX y) (qQ fZ (qQ fZ jN)))))),.agg ⟨oZ g,oZ c,oZ b,oZ y,.refl _,.refl _,trivial⟩⟩
theorem qYw{g:D}(h:qF 1048576 qYJ g):∃cs,g=.agg cs/\cs.length=9:=by obtain⟨_,rfl,x0,_,rfl,h_0,x1,_,rfl,h_1,x2,_,rfl,h_2,x3,_,rfl,h_3,x4,_,rfl,h_4,x5,_,rfl,h_5,x6,_,rfl,h_6,x7,_,rfl,h_7,x8,_,rfl,h_8,rfl⟩:=h;exact⟨_,rfl,rfl⟩
end Go.Proofs.YtocbbgmhkhallaaGreatDoor
