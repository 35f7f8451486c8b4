/- The check of orthographies, by hand. Conditions: none. -/
import Derived.Test.YtocbbgmhkhallaaGreatDoorBc
set_option linter.unusedVariables false
set_option linter.unusedSimpArgs false
namespace Go.Proofs.YtocbbgmhkhallaaGreatDoor
open Go Go.Am Go.Proofs Go.Am.Tt
def zCd(i:Nat):Nat:=i*1048576
theorem qQj(i:Nat):zCd i=i*1048576:=rfl
attribute [local irreducible] Go.Am.wp Go.Am.TOp.eval zCd
theorem zFm{a:D}(h:qF 300000000 (.str) a):∃d,qF 300000000 (.bool) d/\qA EE 80 [a] d:=
 zAC (S:=zFG.S) (pF qNU (by kernel_rfl)) rfl rfl rfl rfl (qQ h jN)
theorem zFk{a:D}(h:qF 300000000 (.str) a):∃d,qF 300000000 (.bool) d/\qA EE 82 [a] d:=
 zAC (S:=zFE.S) (pF qNU (by kernel_rfl)) rfl rfl rfl rfl (qQ h jN)
theorem zGs{a b:D}(x:qF 300000000 (.sl 9 1 (.str)) a)(h:qF 300000000 (.str) b):∃d,qF 300000000 (.bool) d/\qA EE 83 [a,b] d:=
 zAC (S:=zFD.S) (pF qNU (by kernel_rfl)) rfl rfl rfl rfl (qQ x (qQ h jN))
theorem zFl{a b c:D}(j:qF 300000000 (.st [.sl 85 2 (.st [.str,.int .i64])]) a)(e:qF 300000000 (.st [.str,.sl 81 2 (.st [.str,.sl 3 1 (.int .i64)]),.sl 37 1 (.sl 9 1 (.str))]) b)(y:qF 300000000 (.int .i64) c)(p0:∀n:Int,c=dI n->0<=n)(p1:∀cs x n,b=.agg cs->cs[1]? = some x->c=dI n->n<(x.es.length:Int)):∃d,qF 300000000 (.int .i64) d/\qA EE 81 [a,b,c] d:=by
 obtain⟨l,i,_,o⟩:=(pF qNU (f:=81) (S:=zFF.S) (by kernel_rfl)) [a,b,c] (tZ rfl (qQ j (qQ e (qQ y jN)))) (by
  obtain⟨n,rfl⟩:=y;obtain⟨_,rfl,r,_,rfl,_,g,_,rfl,k,p,_,rfl,_,rfl⟩:=e;have u:=p0 _ rfl;have t:=p1 _ g _ rfl rfl rfl;have w:oK g=(g.es.length:Int):=by simp only[qF]at k;rcases k with rfl|⟨es,rfl,_⟩<;>rfl
  intro q h;rcases bl.1 h with rfl|h
  ·show(0:Int)<=n+0;omega
  rcases bl.1 h with rfl|h
  ·show n<=oK g + -1;omega
  cases h)
 have i:zS [.int .i64] l:=i;simp only[zS]at i;obtain⟨d,_,rfl,h3,rfl⟩:=i;exact⟨d,oW rfl h3,o⟩
theorem zGt{a b:D}(h_a:qF 300000000 (.st [.sl 85 2 (.st [.str,.int .i64])]) a)(h_b:qF 300000000 (.st [.str,.sl 81 2 (.st [.str,.sl 3 1 (.int .i64)]),.sl 37 1 (.sl 9 1 (.str))]) b)(hq:∀cs,b=.agg cs->∀x,cs[2]? = some x->∀y∈x.es,y.es.length<=1048576):∃d,(qF 300000000 (.int .i64)) d/\qA EE 41 [a,b] d:=by
 suffices h:∃d,(qF 300000000 (.int .i64)) d/\qP EE (qA EE) qBU 0 [a,b] d by obtain⟨d,hd,hg⟩:=h;exact⟨d,hd,zEX rfl hg⟩
 obtain⟨_,rfl,a_0,_,rfl,A,rfl⟩:=h_a;have i_a_0:=qC A;have b_a_0:=qR A;obtain⟨_,rfl,_,_,rfl,⟨M,rfl,G⟩,I,_,rfl,z,F,_,rfl,r,rfl⟩:=h_b;have o:=qC z;have b_b_1:=qR z;have g:=qC r;have b_b_2:=qR r;replace hq:=hq _ rfl _ rfl;refine jF (R:=(qF 300000000 (.int .i64))) ?_;refine bS (qS rfl) ?_;refine bS (qS rfl) ?_;refine bS (qB (off:=0) rfl rfl) ?_;obtain⟨_,⟨r0,rfl⟩,k_r0⟩:=zFm (a:=.leaf (.string M)) (rZ G);refine cS k_r0 ?_;refine bS jJ ?_;refine iC (λc1=>?_) λc1=>?_
 ·clear c1;exact zJ rfl jB
 clear c1;refine bS (qB (off:=1) rfl o.one) ?_;refine bS (qO o) ?_;refine bS jS ?_;refine iC (λc2=>?_) λc2=>?_
 ·replace c2:=dT c2;exact zJ rfl jB
 replace c2:=dF c2;refine zK rfl (vQ (P:=λi3=>i3<=I.es.length->∃d,(qF 300000000 (.int .i64)) d/\qP EE (qA EE) qBU 1 [dI ((i3:Nat):Int),.agg [a_0],.agg [.leaf (.string M),I,F]] d) (I.es.length) (λi3 ih3=>?_) 0 (by omega));intro hn3;refine jF (R:=(qF 300000000 (.int .i64))) ?_;refine bS (qB (off:=1) rfl o.one) ?_;refine bS (qO o) ?_;refine bS zN ?_;refine iC (λc4=>?_) λc4=>?_
 ·replace c4:=dT c4;obtain⟨_,⟨r5,rfl⟩,k_r5⟩:=zFl (a:=.agg [a_0]) (b:=.agg [.leaf (.string M),I,F]) (c:=dI ((i3:Nat):Int)) (nK (qQ A jN)) (nK (qQ (rZ G) (qQ z (qQ r jN)))) jB (by intro n hn;cases hn;omega) (by intro cs x n hcs hx hn;cases hcs;cases hx;cases hn;omega);refine cS k_r5 ?_;refine bS yQ ?_;refine iC (λc6=>?_) λc6=>?_
  ·replace c6:=dT c6;exact zJ rfl jB
  replace c6:=dF c6;refine bS (d:=dI ((i3+1:Nat):Int)) (zF (zH (by omega))) ?_;exact zK rfl (ih3 (by omega) (by omega))
 replace c4:=dF c4;refine bS (qB (off:=2) rfl g.one) ?_;refine bS (qO g) ?_;refine bS jS ?_;refine iC (λc5=>?_) λc5=>?_
 ·replace c5:=dT c5;exact zJ rfl jB
 replace c5:=dF c5;refine zK rfl (vQ (P:=λN=>N<=F.es.length->∀t:D,qF 300000000 (.sl 9 1 .str) t->t.es.length<=zCd N->∃d,(qF 300000000 (.int .i64)) d/\qP EE (qA EE) qBU 2 [t,dI ((N:Nat):Int),.agg [.leaf (.string M),I,F]] d) (F.es.length) (λN ih6=>?_) 0 (by omega) .nil yR (by simp[D.es]));intro hn6 t q z_v6_0;have r_b:=qQj N;have s_b:=qQj (N+1);have i_v6_0:=qC q;have b_v6_0:=qR q;refine jF (R:=(qF 300000000 (.int .i64))) ?_;refine bS (qB (off:=2) rfl g.one) ?_;refine bS (qO g) ?_;refine bS zN ?_;refine iC (λc7=>?_) λc7=>?_
 ·replace c7:=dT c7;refine bS (qB (off:=2) rfl g.one) ?_;obtain⟨x8,k⟩:=mQ (d:=F) (s:=((N:Nat):Int)) (by omega) (by omega);have bb_x8:=hq _ (be k);have K:=(zG r k);have l:=qC K;have b_x8:=qR K;refine bS (d:=dB (true)) (vD (by omega) k) ?_;refine bS (d:=x8) (vX g (by omega) k l.one) ?_;refine bS (qO l) ?_;refine bS bC ?_;refine iC (λc9=>?_) λc9=>?_
  ·replace c9:=dT c9;exact zJ rfl jB
  replace c9:=dF c9;refine zK rfl (vQ (P:=λH=>H<=x8.es.length->∀j:D,qF 300000000 (.sl 9 1 .str) j->j.es.length<=zCd N+H->∃d,(qF 300000000 (.int .i64)) d/\qP EE (qA EE) qBU 3 [j,dI ((N:Nat):Int),dI ((H:Nat):Int),.agg [.leaf (.string M),I,F]] d) (x8.es.length) (λH ih10=>?_) 0 (by omega) t q (by omega));intro hn10 j i Z;have i_v10_0:=qC i;have b_v10_0:=qR i;refine jF (R:=(qF 300000000 (.int .i64))) ?_;refine bS (qB (off:=2) rfl g.one) ?_;refine bS (d:=dB (true)) (vD (by omega) k) ?_;refine bS (d:=x8) (vX g (by omega) k l.one) ?_;refine bS (qO l) ?_;refine bS zN ?_;refine iC (λL=>?_) λL=>?_
  ·replace L:=dT L;refine bS (qB (off:=2) rfl g.one) ?_;refine bS (d:=dB (true)) (vD (by omega) k) ?_;refine bS (d:=x8) (vX g (by omega) k l.one) ?_;obtain⟨J,C⟩:=mQ (d:=x8) (s:=((H:Nat):Int)) (by omega) (by omega);obtain⟨J,rfl,p⟩:=(zG K C);refine bS (d:=dB (true)) (vD (by omega) C) ?_;refine bS (d:=.leaf (.string J)) (vX l (by omega) C rfl) ?_;obtain⟨_,⟨r13,rfl⟩,V⟩:=zFk (a:=.leaf (.string J)) (rZ p);refine cS V ?_;refine bS jJ ?_;refine iC (λX=>?_) λX=>?_
   ·clear X;exact zJ rfl jB
   clear X;obtain⟨_,⟨r15,rfl⟩,U⟩:=zGs (a:=j) (b:=.leaf (.string J)) i (rZ p);refine cS U ?_;refine iC (λW=>?_) λW=>?_
   ·clear W;exact zJ rfl jB
   clear W;refine bS (wB rfl) ?_;obtain⟨y17,Q,S,w,n_y17⟩:=iZ (E:=EE) (B:=300000000) (el:=9) (sz:=1) (xs:=[.leaf (.string J)]) (e:=.str) rfl (qDD (rZ p) qDC) rfl rfl;simp only[dj,dg]at S;have i_y17:=qC w;have b_y17:=qR w;refine bS Q ?_;obtain⟨y18,O,l_y18,u⟩:=pM (E:=EE) (el:=9) (sz:=1) (bytes:=16) i w (by decide) (by omega);have i_y18:=qC u;have b_y18:=qR u;refine bS O ?_;refine bS (d:=dI ((H+1:Nat):Int)) (zF (zH (by omega))) ?_;exact zK rfl (ih10 (by omega) (by omega) y18 u (by omega))
  replace L:=dF L;refine bS (d:=dI ((N+1:Nat):Int)) (zF (zH (by omega))) ?_;exact zK rfl (ih6 (by omega) (by omega) j i (by omega))
 replace c7:=dF c7;exact zJ rfl jB
def zAE:Tt.Spec:=⟨[n3,(.st [(.str BG),(.sl 81 2 BG (.st [(.str BG),(.sl 3 1 1048576 (.int .i64))])),(.sl 37 1 BG (.sl 9 1 1048576 (.str BG)))])],[(.int .i64)],[],[]⟩
theorem zG5:yA (qA EE) 41 zAE:=by
 intro ds hd _;simp only[zAE,zS]at hd;obtain⟨a,_,rfl,p,b,_,rfl,g,rfl⟩:=hd;obtain⟨d,t,r⟩:=zGt (oW rfl p) (oW rfl g) (by
  intro cs c x j y i;subst c;simp only[zC,zS]at g;obtain⟨_,e,_,_,rfl,_,_,_,rfl,_,l,_,rfl,o,rfl⟩:=g;cases e;cases j;rcases o with rfl|⟨es,rfl,_,h⟩
  ·cases i
  rcases h y i with rfl|⟨es',rfl,u,_⟩
  ·exact cq _
  exact u)
 exact⟨[d],by simp only[zAE,zS];exact⟨_,_,rfl,eR rfl t,rfl⟩,λq k=>(by cases k),r⟩
def qVQ:List (LO×Tt.Spec):=(41,zAE)::s6 qQW qXH
theorem qQU:∀p∈qVQ,yA (qA EE) p.1 p.2:=sK zG5 qNU
end Go.Proofs.YtocbbgmhkhallaaGreatDoor
namespace Go.Proofs.YtocbbgmhkhallaaGreatDoor
open Go Go.Am Go.Proofs Go.Am.Tt
theorem zGx:qDF EE Tryz.prog TT qVQ zBv=true:=by kernel_rfl
theorem qB0:∀p∈s6 qVQ zBv,yA (qA EE) p.1 p.2:=qDE qPr qIP uT qQU zGx
end Go.Proofs.YtocbbgmhkhallaaGreatDoor
