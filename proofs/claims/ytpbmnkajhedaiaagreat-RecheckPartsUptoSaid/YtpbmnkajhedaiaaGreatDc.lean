/- The check of orthographies, by hand. Conditions: none. -/
import Derived.Test.YtpbmnkajhedaiaaGreatDb
set_option linter.all false
namespace Go.Proofs.YtpbmnkajhedaiaaGreat
open Go Go.Am Go.Proofs Go.Am.Tt
def zBA(i:Nat):Nat:=i*1048576
theorem qQw(i:Nat):zBA i=i*1048576:=rfl
attribute [local irreducible] Go.Am.wp Go.Am.TOp.eval zBA
theorem zEO{a:D}(h:qC 300000000 (.str) a):∃d,qC 300000000 (.bool) d/\Holds EE 92 [a] d:=
 qZz (S:=zDl.S) (k9 qNV (by kernel_rfl)) rfl rfl rfl rfl (qW h jY)
theorem zEM{a:D}(h:qC 300000000 (.str) a):∃d,qC 300000000 (.bool) d/\Holds EE 94 [a] d:=
 qZz (S:=zE7.S) (k9 qNV (by kernel_rfl)) rfl rfl rfl rfl (qW h jY)
theorem zFK{a b:D}(x:qC 300000000 (.sl 9 1 (.str)) a)(h:qC 300000000 (.str) b):∃d,qC 300000000 (.bool) d/\Holds EE 95 [a,b] d:=
 qZz (S:=zE6.S) (k9 qNV (by kernel_rfl)) rfl rfl rfl rfl (qW x (qW h jY))
theorem zEN{a b c:D}(j:qC 300000000 (.st [.sl 108 2 (.st [.str,.int .i64])]) a)(e:qC 300000000 (.st [.str,.sl 110 2 (.st [.str,.sl 3 1 (.int .i64)]),.sl 172 1 (.sl 9 1 (.str))]) b)(y:qC 300000000 (.int .i64) c)(p0:∀n:Int,c=dI n->0<=n)(p1:∀cs x n,b=.agg cs->cs[1]? = some x->c=dI n->n<(x.es.length:Int)):∃d,qC 300000000 (.int .i64) d/\Holds EE 93 [a,b,c] d:=by
 obtain⟨l,i,_,p⟩:=(k9 qNV (f:=93) (S:=zE8.S) (by kernel_rfl)) [a,b,c] (tB rfl (qW j (qW e (qW y jY)))) (by
  obtain⟨n,rfl⟩:=y;obtain⟨_,rfl,t,_,rfl,_,g,_,rfl,k,r,_,rfl,_,rfl⟩:=e;have w:=p0 _ rfl;have u:=p1 _ g _ rfl rfl rfl;have z:kF g=(g.es.length:Int):=by simp only[qC]at k;rcases k with rfl|⟨es,rfl,_⟩<;>rfl
  intro q h;rcases List.mem_cons.1 h with rfl|h
  ·show(0:Int)<=n+0;omega
  rcases List.mem_cons.1 h with rfl|h
  ·show n<=kF g + -1;omega
  cases h)
 have i:qU [.int .i64] l:=i;simp only[qU]at i;obtain⟨d,_,rfl,o,rfl⟩:=i;exact⟨d,kW rfl o,p⟩
theorem zFL{a b:D}(h_a:qC 300000000 (.st [.sl 108 2 (.st [.str,.int .i64])]) a)(h_b:qC 300000000 (.st [.str,.sl 110 2 (.st [.str,.sl 3 1 (.int .i64)]),.sl 172 1 (.sl 9 1 (.str))]) b)(hq:∀cs,b=.agg cs->∀x,cs[2]? = some x->∀y∈x.es,y.es.length<=1048576):∃d,(qC 300000000 (.int .i64)) d/\Holds EE 62 [a,b] d:=by
 suffices h:∃d,(qC 300000000 (.int .i64)) d/\qE EE (Holds EE) qBx 0 [a,b] d by obtain⟨d,hd,hg⟩:=h;exact⟨d,hd,zEp rfl hg⟩
 obtain⟨_,rfl,a_0,_,rfl,A,rfl⟩:=h_a;have i_a_0:=qA A;have b_a_0:=qO A;obtain⟨_,rfl,_,_,rfl,⟨M,rfl,G⟩,I,_,rfl,z,F,_,rfl,r,rfl⟩:=h_b;have o:=qA z;have b_b_1:=qO z;have g:=qA r;have b_b_2:=qO r;replace hq:=hq _ rfl _ rfl;refine zS (R:=(qC 300000000 (.int .i64))) ?_;refine bS (qD rfl) ?_;refine bS (qD rfl) ?_;refine bS (qB (off:=0) rfl rfl) ?_;obtain⟨_,⟨r0,rfl⟩,k_r0⟩:=zEO (a:=.leaf (.string M)) (cH G);refine cS k_r0 ?_;refine bS jU ?_;refine iC (λc1=>?_) λc1=>?_
 ·clear c1;exact qR rfl vO
 clear c1;refine bS (qB (off:=1) rfl o.one) ?_;refine bS (qI o) ?_;refine bS zW ?_;refine iC (λc2=>?_) λc2=>?_
 ·replace c2:=dT c2;exact qR rfl vO
 replace c2:=dF c2;refine qQ rfl (vD (P:=λi3=>i3<=I.es.length->∃d,(qC 300000000 (.int .i64)) d/\qE EE (Holds EE) qBx 1 [dI ((i3:Nat):Int),.agg [a_0],.agg [.leaf (.string M),I,F]] d) (I.es.length) (λi3 ih3=>?_) 0 (by omega));intro hn3;refine zS (R:=(qC 300000000 (.int .i64))) ?_;refine bS (qB (off:=1) rfl o.one) ?_;refine bS (qI o) ?_;refine bS qP ?_;refine iC (λc4=>?_) λc4=>?_
 ·replace c4:=dT c4;obtain⟨_,⟨r5,rfl⟩,k_r5⟩:=zEN (a:=.agg [a_0]) (b:=.agg [.leaf (.string M),I,F]) (c:=dI ((i3:Nat):Int)) (lH (qW A jY)) (lH (qW (cH G) (qW z (qW r jY)))) vO (by intro n hn;cases hn;omega) (by intro cs x n hcs hx hn;cases hcs;cases hx;cases hn;omega);refine cS k_r5 ?_;refine bS jW ?_;refine iC (λc6=>?_) λc6=>?_
  ·replace c6:=dT c6;exact qR rfl vO
  replace c6:=dF c6;refine bS (d:=dI ((i3+1:Nat):Int)) (qY (qN (by omega))) ?_;exact qQ rfl (ih3 (by omega) (by omega))
 replace c4:=dF c4;refine bS (qB (off:=2) rfl g.one) ?_;refine bS (qI g) ?_;refine bS zW ?_;refine iC (λc5=>?_) λc5=>?_
 ·replace c5:=dT c5;exact qR rfl vO
 replace c5:=dF c5;refine qQ rfl (vD (P:=λN=>N<=F.es.length->∀t:D,qC 300000000 (.sl 9 1 .str) t->t.es.length<=zBA N->∃d,(qC 300000000 (.int .i64)) d/\qE EE (Holds EE) qBx 2 [t,dI ((N:Nat):Int),.agg [.leaf (.string M),I,F]] d) (F.es.length) (λN ih6=>?_) 0 (by omega) .nil xR (by simp[D.es]));intro hn6 t q z_v6_0;have r_b:=qQw N;have s_b:=qQw (N+1);have i_v6_0:=qA q;have b_v6_0:=qO q;refine zS (R:=(qC 300000000 (.int .i64))) ?_;refine bS (qB (off:=2) rfl g.one) ?_;refine bS (qI g) ?_;refine bS qP ?_;refine iC (λc7=>?_) λc7=>?_
 ·replace c7:=dT c7;refine bS (qB (off:=2) rfl g.one) ?_;obtain⟨Z,k⟩:=nS (d:=F) (s:=((N:Nat):Int)) (by omega) (by omega);have bb_x8:=hq _ (List.mem_of_getElem? k);have K:=(zO r k);have l:=qA K;have b_x8:=qO K;refine bS (d:=dB (true)) (qV (by omega) k) ?_;refine bS (d:=Z) (jJ g (by omega) k l.one) ?_;refine bS (qI l) ?_;refine bS jO ?_;refine iC (λc9=>?_) λc9=>?_
  ·replace c9:=dT c9;exact qR rfl vO
  replace c9:=dF c9;refine qQ rfl (vD (P:=λH=>H<=Z.es.length->∀j:D,qC 300000000 (.sl 9 1 .str) j->j.es.length<=zBA N+H->∃d,(qC 300000000 (.int .i64)) d/\qE EE (Holds EE) qBx 3 [j,dI ((N:Nat):Int),dI ((H:Nat):Int),.agg [.leaf (.string M),I,F]] d) (Z.es.length) (λH ih10=>?_) 0 (by omega) t q (by omega));intro hn10 j i z_v10_0;have i_v10_0:=qA i;have b_v10_0:=qO i;refine zS (R:=(qC 300000000 (.int .i64))) ?_;refine bS (qB (off:=2) rfl g.one) ?_;refine bS (d:=dB (true)) (qV (by omega) k) ?_;refine bS (d:=Z) (jJ g (by omega) k l.one) ?_;refine bS (qI l) ?_;refine bS qP ?_;refine iC (λL=>?_) λL=>?_
  ·replace L:=dT L;refine bS (qB (off:=2) rfl g.one) ?_;refine bS (d:=dB (true)) (qV (by omega) k) ?_;refine bS (d:=Z) (jJ g (by omega) k l.one) ?_;obtain⟨J,C⟩:=nS (d:=Z) (s:=((H:Nat):Int)) (by omega) (by omega);obtain⟨J,rfl,p⟩:=(zO K C);refine bS (d:=dB (true)) (qV (by omega) C) ?_;refine bS (d:=.leaf (.string J)) (jJ l (by omega) C rfl) ?_;obtain⟨_,⟨r13,rfl⟩,V⟩:=zEM (a:=.leaf (.string J)) (cH p);refine cS V ?_;refine bS jU ?_;refine iC (λX=>?_) λX=>?_
   ·clear X;exact qR rfl vO
   clear X;obtain⟨_,⟨r15,rfl⟩,U⟩:=zFK (a:=j) (b:=.leaf (.string J)) i (cH p);refine cS U ?_;refine iC (λW=>?_) λW=>?_
   ·clear W;exact qR rfl vO
   clear W;refine bS (xI rfl) ?_;obtain⟨y17,Q,S,w,n_y17⟩:=iF (E:=EE) (B:=300000000) (el:=9) (sz:=1) (xs:=[.leaf (.string J)]) (e:=.str) rfl (qDg (cH p) qDf) rfl rfl;simp only[List.length_cons,List.length_nil]at S;have i_y17:=qA w;have b_y17:=qO w;refine bS Q ?_;obtain⟨y18,O,l_y18,u⟩:=lO (E:=EE) (el:=9) (sz:=1) (bytes:=16) i w (by decide) (by omega);have i_y18:=qA u;have b_y18:=qO u;refine bS O ?_;refine bS (d:=dI ((H+1:Nat):Int)) (qY (qN (by omega))) ?_;exact qQ rfl (ih10 (by omega) (by omega) y18 u (by omega))
  replace L:=dF L;refine bS (d:=dI ((N+1:Nat):Int)) (qY (qN (by omega))) ?_;exact qQ rfl (ih6 (by omega) (by omega) j i (by omega))
 replace c7:=dF c7;exact qR rfl vO
def qZD:Tt.Spec:=⟨[n3,(.st [(.str BG),(.sl 110 2 BG (.st [(.str BG),(.sl 3 1 1048576 (.int .i64))])),(.sl 172 1 BG (.sl 9 1 1048576 (.str BG)))])],[(.int .i64)],[],[]⟩
theorem zGt:xZ (Holds EE) 62 qZD:=by
 intro ds hd _;simp only[qZD,qU]at hd;obtain⟨a,_,rfl,p,b,_,rfl,g,rfl⟩:=hd;obtain⟨d,t,r⟩:=zFL (kW rfl p) (kW rfl g) (by
  intro cs c x j y i;subst c;simp only[qM,qU]at g;obtain⟨_,e,_,_,rfl,_,_,_,rfl,_,l,_,rfl,o,rfl⟩:=g;cases e;cases j;rcases o with rfl|⟨es,rfl,_,h⟩
  ·cases i
  rcases h y i with rfl|⟨es',rfl,u,_⟩
  ·exact Nat.zero_le _
  exact u)
 exact⟨[d],by simp only[qZD,qU];exact⟨_,_,rfl,oZ rfl t,rfl⟩,λq k=>(by cases k),r⟩
def qVH:List (FuncId×Tt.Spec):=(62,qZD)::aV qQ6 qXo
theorem qQ4:∀p∈qVH,xZ (Holds EE) p.1 p.2:=oM zGt qNV
end Go.Proofs.YtpbmnkajhedaiaaGreat
namespace Go.Proofs.YtpbmnkajhedaiaaGreat
open Go Go.Am Go.Proofs Go.Am.Tt
theorem zFZ:qDi EE Tryz.prog TT qVH zAv=true:=by kernel_rfl
theorem f6:∀p∈aV qVH zAv,xZ (Holds EE) p.1 p.2:=qDh qPl qIf TT_ok qQ4 zFZ
end Go.Proofs.YtpbmnkajhedaiaaGreat
