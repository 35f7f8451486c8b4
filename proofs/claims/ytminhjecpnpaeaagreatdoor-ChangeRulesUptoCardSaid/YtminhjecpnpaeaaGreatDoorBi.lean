/- The check of orthographies, by hand. Conditions: none. -/
import Derived.Test.YtminhjecpnpaeaaGreatDoorBh
set_option linter.unusedVariables false
set_option linter.unusedSimpArgs false
namespace Go.Proofs.YtminhjecpnpaeaaGreatDoor.Lt
open Go Go.Am Go.Proofs Go.Am.Tt
def qZh(i:Nat):Nat:=i*1048576
theorem qPz(i:Nat):qZh i=i*1048576:=rfl
attribute [local irreducible] Go.Am.wp Go.Am.TOp.eval qZh
theorem zBz{a:D}(h:qC 300000000 (.str) a):∃d,qC 300000000 (.bool) d/\Holds EE 82 [a] d:=
 qXA (S:=zA0.S) (qAL qM3 (by kernel_rfl)) rfl rfl rfl rfl (qN h wE)
theorem zBx{a:D}(h:qC 300000000 (.str) a):∃d,qC 300000000 (.bool) d/\Holds EE 84 [a] d:=
 qXA (S:=zAY.S) (qAL qM3 (by kernel_rfl)) rfl rfl rfl rfl (qN h wE)
theorem zBw{a b:D}(x:qC 300000000 (.sl 9 1 (.str)) a)(h:qC 300000000 (.str) b):∃d,qC 300000000 (.bool) d/\Holds EE 85 [a,b] d:=
 qXA (S:=zAX.S) (qAL qM3 (by kernel_rfl)) rfl rfl rfl rfl (qN x (qN h wE))
theorem zBy{a b c:D}(j:qC 300000000 (.st [.sl 81 2 (.st [.str,.int .i64])]) a)(e:qC 300000000 (.st [.str,.sl 77 2 (.st [.str,.sl 3 1 (.int .i64)]),.sl 50 1 (.sl 9 1 (.str))]) b)(y:qC 300000000 (.int .i64) c)(l:∀n:Int,c=dI n->0<=n)(p1:∀cs x n,b=.agg cs->cs[1]? = some x->c=dI n->n<(x.es.length:Int)):∃d,qC 300000000 (.int .i64) d/\Holds EE 83 [a,b,c] d:=by
 obtain⟨rs,i,_,o⟩:=(qAL qM3 (f:=83) (S:=zAZ.S) (by kernel_rfl)) [a,b,c] (tR rfl (qN j (qN e (qN y wE)))) (by
  obtain⟨n,rfl⟩:=y;obtain⟨_,rfl,r,_,rfl,_,g,_,rfl,k,p,_,rfl,_,rfl⟩:=e;have u:=l _ rfl;have t:=p1 _ g _ rfl rfl rfl;have w:iJ g=(g.es.length:Int):=by simp only[qC]at k;rcases k with rfl|⟨es,rfl,_⟩<;>rfl
  intro q h;rcases List.mem_cons.1 h with rfl|h
  ·show(0:Int)<=n+0;omega
  rcases List.mem_cons.1 h with rfl|h
  ·show n<=iJ g + -1;omega
  cases h)
 have i:zZ [.int .i64] rs:=i;simp only[zZ]at i;obtain⟨d,_,rfl,h3,rfl⟩:=i;exact⟨d,oQ rfl h3,o⟩
theorem zBA{a b:D}(h_a:qC 300000000 (.st [.sl 81 2 (.st [.str,.int .i64])]) a)(h_b:qC 300000000 (.st [.str,.sl 77 2 (.st [.str,.sl 3 1 (.int .i64)]),.sl 50 1 (.sl 9 1 (.str))]) b)(hq:∀cs,b=.agg cs->∀x,cs[2]? = some x->∀y∈x.es,y.es.length<=1048576):∃d,(qC 300000000 (.int .i64)) d/\Holds EE 44 [a,b] d:=by
 suffices h:∃d,(qC 300000000 (.int .i64)) d/\qX EE (Holds EE) qGi 0 [a,b] d by obtain⟨d,hd,hg⟩:=h;exact⟨d,hd,zBk rfl hg⟩
 obtain⟨_,rfl,a_0,_,rfl,A,rfl⟩:=h_a;have i_a_0:=qB A;have b_a_0:=qK A;obtain⟨_,rfl,_,_,rfl,⟨M,rfl,G⟩,I,_,rfl,z,F,_,rfl,r,rfl⟩:=h_b;have o:=qB z;have b_b_1:=qK z;have g:=qB r;have b_b_2:=qK r;replace hq:=hq _ rfl _ rfl;refine yS (R:=(qC 300000000 (.int .i64))) ?_;refine bS (zH rfl) ?_;refine bS (zH rfl) ?_;refine bS (qA (off:=0) rfl rfl) ?_;obtain⟨_,⟨r0,rfl⟩,k_r0⟩:=zBz (a:=.leaf (.string M)) (cL G);refine cS k_r0 ?_;refine bS wG ?_;refine iC (λc1=>?_) λc1=>?_
 ·clear c1;exact vX rfl jH
 clear c1;refine bS (qA (off:=1) rfl o.one) ?_;refine bS (qM o) ?_;refine bS oF ?_;refine iC (λc2=>?_) λc2=>?_
 ·replace c2:=yB c2;exact vX rfl jH
 replace c2:=dF c2;refine vV rfl (xK (P:=λi3=>i3<=I.es.length->∃d,(qC 300000000 (.int .i64)) d/\qX EE (Holds EE) qGi 1 [dI ((i3:Nat):Int),.agg [a_0],.agg [.leaf (.string M),I,F]] d) (I.es.length) (λi3 ih3=>?_) 0 (by omega));intro hn3;refine yS (R:=(qC 300000000 (.int .i64))) ?_;refine bS (qA (off:=1) rfl o.one) ?_;refine bS (qM o) ?_;refine bS vY ?_;refine iC (λc4=>?_) λc4=>?_
 ·replace c4:=yB c4;obtain⟨_,⟨r5,rfl⟩,k_r5⟩:=zBy (a:=.agg [a_0]) (b:=.agg [.leaf (.string M),I,F]) (c:=dI ((i3:Nat):Int)) (tQ (qN A wE)) (tQ (qN (cL G) (qN z (qN r wE)))) jH (by intro n hn;cases hn;omega) (by intro cs x n hcs hx hn;cases hcs;cases hx;cases hn;omega);refine cS k_r5 ?_;refine bS nW ?_;refine iC (λc6=>?_) λc6=>?_
  ·replace c6:=yB c6;exact vX rfl jH
  replace c6:=dF c6;refine bS (d:=dI ((i3+1:Nat):Int)) (vC (vP (by omega))) ?_;exact vV rfl (ih3 (by omega) (by omega))
 replace c4:=dF c4;refine bS (qA (off:=2) rfl g.one) ?_;refine bS (qM g) ?_;refine bS oF ?_;refine iC (λc5=>?_) λc5=>?_
 ·replace c5:=yB c5;exact vX rfl jH
 replace c5:=dF c5;refine vV rfl (xK (P:=λN=>N<=F.es.length->∀t:D,qC 300000000 (.sl 9 1 .str) t->t.es.length<=qZh N->∃d,(qC 300000000 (.int .i64)) d/\qX EE (Holds EE) qGi 2 [t,dI ((N:Nat):Int),.agg [.leaf (.string M),I,F]] d) (F.es.length) (λN ih6=>?_) 0 (by omega) .nil oP (by simp[D.es]));intro hn6 t q z_v6_0;have r_b:=qPz N;have s_b:=qPz (N+1);have i_v6_0:=qB q;have b_v6_0:=qK q;refine yS (R:=(qC 300000000 (.int .i64))) ?_;refine bS (qA (off:=2) rfl g.one) ?_;refine bS (qM g) ?_;refine bS vY ?_;refine iC (λc7=>?_) λc7=>?_
 ·replace c7:=yB c7;refine bS (qA (off:=2) rfl g.one) ?_;obtain⟨Z,k⟩:=Go.Am.get_at (d:=F) (s:=((N:Nat):Int)) (by omega) (by omega);have bb_x8:=hq _ (List.mem_of_getElem? k);have K:=(jG r k);have l:=qB K;have b_x8:=qK K;refine bS (d:=dB (true)) (j5 (by omega) k) ?_;refine bS (d:=Z) (jJ g (by omega) k l.one) ?_;refine bS (qM l) ?_;refine bS cA ?_;refine iC (λc9=>?_) λc9=>?_
  ·replace c9:=yB c9;exact vX rfl jH
  replace c9:=dF c9;refine vV rfl (xK (P:=λH=>H<=Z.es.length->∀j:D,qC 300000000 (.sl 9 1 .str) j->j.es.length<=qZh N+H->∃d,(qC 300000000 (.int .i64)) d/\qX EE (Holds EE) qGi 3 [j,dI ((N:Nat):Int),dI ((H:Nat):Int),.agg [.leaf (.string M),I,F]] d) (Z.es.length) (λH ih10=>?_) 0 (by omega) t q (by omega));intro hn10 j i z_v10_0;have i_v10_0:=qB i;have b_v10_0:=qK i;refine yS (R:=(qC 300000000 (.int .i64))) ?_;refine bS (qA (off:=2) rfl g.one) ?_;refine bS (d:=dB (true)) (j5 (by omega) k) ?_;refine bS (d:=Z) (jJ g (by omega) k l.one) ?_;refine bS (qM l) ?_;refine bS vY ?_;refine iC (λL=>?_) λL=>?_
  ·replace L:=yB L;refine bS (qA (off:=2) rfl g.one) ?_;refine bS (d:=dB (true)) (j5 (by omega) k) ?_;refine bS (d:=Z) (jJ g (by omega) k l.one) ?_;obtain⟨J,C⟩:=Go.Am.get_at (d:=Z) (s:=((H:Nat):Int)) (by omega) (by omega);obtain⟨J,rfl,p⟩:=(jG K C);refine bS (d:=dB (true)) (j5 (by omega) C) ?_;refine bS (d:=.leaf (.string J)) (jJ l (by omega) C rfl) ?_;obtain⟨_,⟨r13,rfl⟩,V⟩:=zBx (a:=.leaf (.string J)) (cL p);refine cS V ?_;refine bS wG ?_;refine iC (λX=>?_) λX=>?_
   ·clear X;exact vX rfl jH
   clear X;obtain⟨_,⟨r15,rfl⟩,U⟩:=zBw (a:=j) (b:=.leaf (.string J)) i (cL p);refine cS U ?_;refine iC (λW=>?_) λW=>?_
   ·clear W;exact vX rfl jH
   clear W;refine bS (xY rfl) ?_;obtain⟨y17,Q,S,w,n_y17⟩:=iI (E:=EE) (B:=300000000) (el:=9) (sz:=1) (xs:=[.leaf (.string J)]) (e:=.str) rfl (qDt (cL p) qDs) rfl rfl;simp only[List.length_cons,List.length_nil]at S;have i_y17:=qB w;have b_y17:=qK w;refine bS Q ?_;obtain⟨y18,O,l_y18,u⟩:=rU (E:=EE) (el:=9) (sz:=1) (bytes:=16) i w (by decide) (by omega);have i_y18:=qB u;have b_y18:=qK u;refine bS O ?_;refine bS (d:=dI ((H+1:Nat):Int)) (vC (vP (by omega))) ?_;exact vV rfl (ih10 (by omega) (by omega) y18 u (by omega))
  replace L:=dF L;refine bS (d:=dI ((N+1:Nat):Int)) (vC (vP (by omega))) ?_;exact vV rfl (ih6 (by omega) (by omega) j i (by omega))
 replace c7:=dF c7;exact vX rfl jH
def qZa:Tt.Spec:=⟨[n3,(.st [(.str BG),(.sl 77 2 BG (.st [(.str BG),(.sl 3 1 1048576 (.int .i64))])),(.sl 50 1 BG (.sl 9 1 1048576 (.str BG)))])],[(.int .i64)],[],[]⟩
theorem zBK:mT (Holds EE) 44 qZa:=by
 intro ds hd _;simp only[qZa,zZ]at hd;obtain⟨a,_,rfl,p,b,_,rfl,g,rfl⟩:=hd;obtain⟨d,t,r⟩:=zBA (oQ rfl p) (oQ rfl g) (by
  intro cs c x j y i;subst c;simp only[qZ,zZ]at g;obtain⟨_,e,_,_,rfl,_,_,_,rfl,_,l,_,rfl,o,rfl⟩:=g;cases e;cases j;rcases o with rfl|⟨es,rfl,_,h⟩
  ·cases i
  rcases h y i with rfl|⟨es',rfl,u,_⟩
  ·exact Nat.zero_le _
  exact u)
 exact⟨[d],by simp only[qZa,zZ];exact⟨_,_,rfl,qCF rfl t,rfl⟩,λq k=>(by cases k),r⟩
def qTX:List (FuncId×Tt.Spec):=(44,qZa)::qAJ qQd qVv
theorem qQb:∀p∈qTX,mT (Holds EE) p.1 p.2:=qDv zBK qM3
end Go.Proofs.YtminhjecpnpaeaaGreatDoor.Lt
namespace Go.Proofs.YtminhjecpnpaeaaGreatDoor.Lt
open Go Go.Am Go.Proofs Go.Am.Tt
theorem zBD:qEL EE Tryz.prog TT qTX qYH=true:=by kernel_rfl
theorem qXv:∀p∈qAJ qTX qYH,mT (Holds EE) p.1 p.2:=fU he qZ1 qPH qQb zBD
theorem qX3:mT (Holds EE) 6 e6.S:=qAL qXv (by kernel_rfl)
end Go.Proofs.YtminhjecpnpaeaaGreatDoor.Lt
