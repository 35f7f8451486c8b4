/- Functions that always give something, by hand. Conditions: none. -/
import Derived.Test.YtpbmnkajhedaiaaGreatDa
import Derived.Test.YtpbmnkajhedaiaaGreatUv
import Derived.Test.YtpbmnkajhedaiaaGreatTt
set_option linter.all false
namespace Go.Proofs.YtpbmnkajhedaiaaGreat
open Go Go.Am Go.Proofs Go.Am.Tt
attribute [local irreducible] Go.Am.wp Go.Am.TOp.eval
theorem qFG(m:Int):∃n:Int,TOp.eval EE (.conv 5 3) [.leaf (.int .u8 m)]=some (dI n):=⟨IntKind.i64.wrap m,by kernel_rfl⟩
theorem dO(m:Int){x y:Operand}:∃n:Int,TOp.eval EE (.bin .rem 3 x y) [dI m,dI ((64:Nat):Int)]=some (dI n):=⟨m.tmod 64,by kernel_rfl⟩
theorem qQ8{a:D}(h:qC 300000000 (.int .i64) a):∃d,qC 300000000 (.bool) d/\Holds EE 210 [a] d:=
 qZz (S:=zAL.S) (k9 qQ3 (by kernel_rfl)) rfl rfl rfl rfl (qW h jY)
theorem qQ7{a:D}(h:qC 300000000 (.int .i64) a):∃d,qC 300000000 (.str) d/\Holds EE 211 [a] d:=
 qZz (S:=zAK.S) (k9 qQ3 (by kernel_rfl)) rfl rfl rfl rfl (qW h jY)
theorem qZr{a b:D}(h:qC 300000000 (.sl 119 8 (.st [.int .i64,.sl 3 1 (.int .i64),.int .i64,.sl 31 1 (.sl 3 1 (.int .i64)),.int .i64,.sl 114 2 (.st [.str,.str]),.sl 179 2 (.st [.int .i64,.int .i64]),.sl 50 2 (.st [.int .i64,.int .i64])])) a)(y:qC 300000000 (.int .i64) b):∃d,(∃n:Int,d=dI n/\ -1<=n/\n<(a.es.length:Int))/\Holds EE 101 [a,b] d:=by
 obtain⟨e,x,c,i⟩:=(k9 qQ3 (f:=101) (S:=zA2.S) (by kernel_rfl)) [a,b] (tB rfl (qW h (qW y jY))) (λq g=>by cases g);have x:qU [.int .i64] e:=x;simp only[qU]at x;obtain⟨d,_,rfl,⟨n,rfl⟩,rfl⟩:=x;have l:kF a=(a.es.length:Int):=by simp only[qC]at h;rcases h with rfl|⟨es,rfl,_⟩<;>rfl
 have k:(0:Int)<=n+1:=c _ List.mem_cons_self;have j:n<=kF a + -1:=c _ (mC _ List.mem_cons_self);exact⟨_,⟨n,rfl,by omega,by omega⟩,i⟩
theorem zCo{a b:D}(h_a:qC 300000000 (.str) a)(h_b:qC 300000000 (.int .i64) b)(p0:∀n:Int,b=dI n->0<=n)(p1:∀(s:ByteArray) (n:Int),a=.leaf (.string s)->b=dI n->n<(s.size:Int)):∃d,(λd=>∃p n:Int,d=.tup [dI p,dI n]/\0<=n/\n<=4) d/\Holds EE 181 [a,b] d:=by
 suffices h:∃d,(λd=>∃p n:Int,d=.tup [dI p,dI n]/\0<=n/\n<=4) d/\qE EE (Holds EE) uD 0 [a,b] d by obtain⟨d,hd,hg⟩:=h;exact⟨d,hd,zB2 rfl hg⟩
 obtain⟨a,rfl,hs_a⟩:=h_a;obtain⟨b,rfl⟩:=h_b;replace p0:=p0 _ rfl;replace p1:=p1 _ _ rfl rfl;refine zS (R:=(λd=>∃p n:Int,d=.tup [dI p,dI n]/\0<=n/\n<=4)) ?_;obtain⟨w0,p0,q0,ew0⟩:=qBH (E:=EE) (s:=a) (i:=(b)) (by omega) (by omega);refine bS ew0 ?_;obtain⟨w1,ew1⟩:=qFG (w0);refine bS ew1 ?_;refine bS kT ?_;refine iC (λc2=>?_) λc2=>?_
 ·replace c2:=dT c2;obtain⟨w3,ew3⟩:∃w:Int,IntKind.i64.wrap ((w1)-((240:Nat):Int))=w:=⟨_,rfl⟩;refine bS (d:=dI (w3)) (by rw[←ew3];exact qA6) ?_;refine bS (d:=dI ((b)+((4:Nat):Int))) (yT (by omega)) ?_;refine bS bW ?_;refine bS zW ?_;refine iC (λF=>?_) λF=>?_
  ·replace F:=dT F;exact qR rfl ⟨_,_,rfl,by omega,by omega⟩
  ·replace F:=dF F;refine qQ rfl (vD (P:=λZ=>1<=Z->∀c:Int,∃d,(λd=>∃p n:Int,d=.tup [dI p,dI n]/\0<=n/\n<=4) d/\qE EE (Holds EE) uD 1 [.leaf (.string a),dI (b),dI (c),dI ((4:Nat):Int),dI ((Z:Nat):Int)] d) (4) (λZ ih5=>?_) 1 (by omega) _);intro hn5 c;refine zS (R:=(λd=>∃p n:Int,d=.tup [dI p,dI n]/\0<=n/\n<=4)) ?_;refine bS qP ?_;refine iC (λC=>?_) λC=>?_
   ·replace C:=dT C;obtain⟨w7,ew7⟩:∃w:Int,IntKind.i64.wrap ((c)*((64:Nat):Int))=w:=⟨_,rfl⟩;refine bS (d:=dI (w7)) (by rw[←ew7];exact qA7) ?_;refine bS (d:=dI ((b)+((Z:Nat):Int))) (yT (by omega)) ?_;obtain⟨w8,p8,q8,O⟩:=qBH (E:=EE) (s:=a) (i:=((b)+((Z:Nat):Int))) (by omega) (by omega);refine bS O ?_;obtain⟨W,u⟩:=qFG (w8);refine bS u ?_;obtain⟨q,g⟩:=dO (W);refine bS g ?_;obtain⟨o,e⟩:∃w:Int,IntKind.i64.wrap ((w7)+(q))=w:=⟨_,rfl⟩;refine bS (d:=dI (o)) (by rw[←e];exact qA8) ?_;refine bS (d:=dI ((Z+1:Nat):Int)) (qY (qN (by omega))) ?_;exact qQ rfl (ih5 (by omega) (by omega) _)
   ·replace C:=dF C;obtain⟨_,⟨r7,rfl⟩,k_r7⟩:=qQ8 (a:=dI (c)) vO;refine cS k_r7 ?_;refine bS jU ?_;refine iC (λJ=>?_) λJ=>?_
    ·clear J;exact qR rfl ⟨_,_,rfl,by omega,by omega⟩
    ·clear J;obtain⟨_,⟨r9,rfl,hs_r9⟩,r⟩:=qQ7 (a:=dI (c)) vO;refine cS r ?_;refine bS (d:=dI ((b)+((4:Nat):Int))) (yT (by omega)) ?_;obtain⟨zES,hs_s10,ev10⟩:=qBv (E:=EE) (B:=300000000) (s:=a) (i:=(b)) (j:=((b)+((4:Nat):Int))) (by omega) (by omega) (by omega) (by omega);refine bS ev10 ?_;refine bS sB ?_;refine iC (λU=>?_) λU=>?_
     ·clear U;exact qR rfl ⟨_,_,rfl,by omega,by omega⟩
     ·clear U;exact qR rfl ⟨_,_,rfl,by omega,by omega⟩
 ·replace c2:=dF c2;refine bS kT ?_;refine iC (λc3=>?_) λc3=>?_
  ·replace c3:=dT c3;obtain⟨w4,ew4⟩:∃w:Int,IntKind.i64.wrap ((w1)-((224:Nat):Int))=w:=⟨_,rfl⟩;refine bS (d:=dI (w4)) (by rw[←ew4];exact qA6) ?_;refine bS (d:=dI ((b)+((3:Nat):Int))) (yT (by omega)) ?_;refine bS bW ?_;refine bS zW ?_;refine iC (λL=>?_) λL=>?_
   ·replace L:=dT L;exact qR rfl ⟨_,_,rfl,by omega,by omega⟩
   ·replace L:=dF L;refine qQ rfl (vD (P:=λG=>1<=G->∀x:Int,∃d,(λd=>∃p n:Int,d=.tup [dI p,dI n]/\0<=n/\n<=4) d/\qE EE (Holds EE) uD 1 [.leaf (.string a),dI (b),dI (x),dI ((3:Nat):Int),dI ((G:Nat):Int)] d) (3) (λG ih6=>?_) 1 (by omega) _);intro hn6 x;refine zS (R:=(λd=>∃p n:Int,d=.tup [dI p,dI n]/\0<=n/\n<=4)) ?_;refine bS qP ?_;refine iC (λK=>?_) λK=>?_
    ·replace K:=dT K;obtain⟨w8,O⟩:∃w:Int,IntKind.i64.wrap ((x)*((64:Nat):Int))=w:=⟨_,rfl⟩;refine bS (d:=dI (w8)) (by rw[←O];exact qA7) ?_;refine bS (d:=dI ((b)+((G:Nat):Int))) (yT (by omega)) ?_;obtain⟨W,p9,q9,u⟩:=qBH (E:=EE) (s:=a) (i:=((b)+((G:Nat):Int))) (by omega) (by omega);refine bS u ?_;obtain⟨q,g⟩:=qFG (W);refine bS g ?_;obtain⟨o,e⟩:=dO (q);refine bS e ?_;obtain⟨M,z⟩:∃w:Int,IntKind.i64.wrap ((w8)+(o))=w:=⟨_,rfl⟩;refine bS (d:=dI (M)) (by rw[←z];exact qA8) ?_;refine bS (d:=dI ((G+1:Nat):Int)) (qY (qN (by omega))) ?_;exact qQ rfl (ih6 (by omega) (by omega) _)
    ·replace K:=dF K;obtain⟨_,⟨r8,rfl⟩,t⟩:=qQ8 (a:=dI (x)) vO;refine cS t ?_;refine bS jU ?_;refine iC (λQ=>?_) λQ=>?_
     ·clear Q;exact qR rfl ⟨_,_,rfl,by omega,by omega⟩
     ·clear Q;obtain⟨_,⟨r10,rfl,I⟩,k⟩:=qQ7 (a:=dI (x)) vO;refine cS k ?_;refine bS (d:=dI ((b)+((3:Nat):Int))) (yT (by omega)) ?_;obtain⟨s11,H,A⟩:=qBv (E:=EE) (B:=300000000) (s:=a) (i:=(b)) (j:=((b)+((3:Nat):Int))) (by omega) (by omega) (by omega) (by omega);refine bS A ?_;refine bS sB ?_;refine iC (λl=>?_) λl=>?_
      ·clear l;exact qR rfl ⟨_,_,rfl,by omega,by omega⟩
      ·clear l;exact qR rfl ⟨_,_,rfl,by omega,by omega⟩
  ·replace c3:=dF c3;refine bS kT ?_;refine iC (λF=>?_) λF=>?_
   ·replace F:=dT F;obtain⟨w5,ew5⟩:∃w:Int,IntKind.i64.wrap ((w1)-((192:Nat):Int))=w:=⟨_,rfl⟩;refine bS (d:=dI (w5)) (by rw[←ew5];exact qA6) ?_;refine bS (d:=dI ((b)+((2:Nat):Int))) (yT (by omega)) ?_;refine bS bW ?_;refine bS zW ?_;refine iC (λC=>?_) λC=>?_
    ·replace C:=dT C;exact qR rfl ⟨_,_,rfl,by omega,by omega⟩
    ·replace C:=dF C;refine qQ rfl (vD (P:=λX=>1<=X->∀y:Int,∃d,(λd=>∃p n:Int,d=.tup [dI p,dI n]/\0<=n/\n<=4) d/\qE EE (Holds EE) uD 1 [.leaf (.string a),dI (b),dI (y),dI ((2:Nat):Int),dI ((X:Nat):Int)] d) (2) (λX ih7=>?_) 1 (by omega) _);intro hn7 y;refine zS (R:=(λd=>∃p n:Int,d=.tup [dI p,dI n]/\0<=n/\n<=4)) ?_;refine bS qP ?_;refine iC (λJ=>?_) λJ=>?_
     ·replace J:=dT J;obtain⟨W,u⟩:∃w:Int,IntKind.i64.wrap ((y)*((64:Nat):Int))=w:=⟨_,rfl⟩;refine bS (d:=dI (W)) (by rw[←u];exact qA7) ?_;refine bS (d:=dI ((b)+((X:Nat):Int))) (yT (by omega)) ?_;obtain⟨q,qOs,q10,g⟩:=qBH (E:=EE) (s:=a) (i:=((b)+((X:Nat):Int))) (by omega) (by omega);refine bS g ?_;obtain⟨o,e⟩:=qFG (q);refine bS e ?_;obtain⟨M,z⟩:=dO (o);refine bS z ?_;obtain⟨w13,ew13⟩:∃w:Int,IntKind.i64.wrap ((W)+(M))=w:=⟨_,rfl⟩;refine bS (d:=dI (w13)) (by rw[←ew13];exact qA8) ?_;refine bS (d:=dI ((X+1:Nat):Int)) (qY (qN (by omega))) ?_;exact qQ rfl (ih7 (by omega) (by omega) _)
     ·replace J:=dF J;obtain⟨_,⟨r9,rfl⟩,r⟩:=qQ8 (a:=dI (y)) vO;refine cS r ?_;refine bS jU ?_;refine iC (λV=>?_) λV=>?_
      ·clear V;exact qR rfl ⟨_,_,rfl,by omega,by omega⟩
      ·clear V;obtain⟨_,⟨r11,rfl,hs_r11⟩,N⟩:=qQ7 (a:=dI (y)) vO;refine cS N ?_;refine bS (d:=dI ((b)+((2:Nat):Int))) (yT (by omega)) ?_;obtain⟨s12,hs_s12,ev12⟩:=qBv (E:=EE) (B:=300000000) (s:=a) (i:=(b)) (j:=((b)+((2:Nat):Int))) (by omega) (by omega) (by omega) (by omega);refine bS ev12 ?_;refine bS sB ?_;refine iC (λS=>?_) λS=>?_
       ·clear S;exact qR rfl ⟨_,_,rfl,by omega,by omega⟩
       ·clear S;exact qR rfl ⟨_,_,rfl,by omega,by omega⟩
   ·replace F:=dF F;refine bS (d:=dI ((b)+((1:Nat):Int))) (yT (by omega)) ?_;refine bS bW ?_;refine bS zW ?_;refine iC (λL=>?_) λL=>?_
    ·grind
    ·replace L:=dF L;refine qQ rfl (vD (P:=λG=>1<=G->∀x:Int,∃d,(λd=>∃p n:Int,d=.tup [dI p,dI n]/\0<=n/\n<=4) d/\qE EE (Holds EE) uD 1 [.leaf (.string a),dI (b),dI (x),dI ((1:Nat):Int),dI ((G:Nat):Int)] d) (1) (λG ih6=>?_) 1 (by omega) _);intro hn6 x;refine zS (R:=(λd=>∃p n:Int,d=.tup [dI p,dI n]/\0<=n/\n<=4)) ?_;refine bS qP ?_;refine iC (λK=>?_) λK=>?_
     ·grind
     ·replace K:=dF K;obtain⟨_,⟨r8,rfl⟩,t⟩:=qQ8 (a:=dI (x)) vO;refine cS t ?_;refine bS jU ?_;refine iC (λQ=>?_) λQ=>?_
      ·clear Q;exact qR rfl ⟨_,_,rfl,by omega,by omega⟩
      ·clear Q;obtain⟨_,⟨r10,rfl,I⟩,k⟩:=qQ7 (a:=dI (x)) vO;refine cS k ?_;refine bS (d:=dI ((b)+((1:Nat):Int))) (yT (by omega)) ?_;obtain⟨s11,H,A⟩:=qBv (E:=EE) (B:=300000000) (s:=a) (i:=(b)) (j:=((b)+((1:Nat):Int))) (by omega) (by omega) (by omega) (by omega);refine bS A ?_;refine bS sB ?_;refine iC (λl=>?_) λl=>?_
       ·clear l;exact qR rfl ⟨_,_,rfl,by omega,by omega⟩
       ·clear l;exact qR rfl ⟨_,_,rfl,by omega,by omega⟩
theorem zCn{a b:D}(u:qC 300000000 (.sl 3 1 (.int .i64)) a)(h_b:qC 300000000 (.int .i64) b)(hp:a.es.length<300000000):∃d,(λd=>qC 300000000 (.sl 3 1 (.int .i64)) d/\d.es.length<=a.es.length+1) d/\Holds EE 182 [a,b] d:=by
 suffices h:∃d,(λd=>qC 300000000 (.sl 3 1 (.int .i64)) d/\d.es.length<=a.es.length+1) d/\qE EE (Holds EE) qHW 0 [a,b] d by obtain⟨d,hd,hg⟩:=h;exact⟨d,hd,zB1 rfl hg⟩
 have t:=qA u;have b_a:=qO u;obtain⟨b,rfl⟩:=h_b;refine zS (R:=(λd=>qC 300000000 (.sl 3 1 (.int .i64)) d/\d.es.length<=a.es.length+1)) ?_;refine qQ rfl (vD (P:=λF=>F<=a.es.length->∀r:D,qC 300000000 (.sl 3 1 (.int .i64)) r->r.es.length<=F->∃d,(λd=>qC 300000000 (.sl 3 1 (.int .i64)) d/\d.es.length<=a.es.length+1) d/\qE EE (Holds EE) qHW 1 [a,dI (b),r,dI ((F:Nat):Int)] d) (a.es.length) (λF ih0=>?_) 0 (by omega) .nil xR (by simp[D.es]));intro hn0 r y z_v0_2;have i_v0_2:=qA y;have b_v0_2:=qO y;refine zS (R:=(λd=>qC 300000000 (.sl 3 1 (.int .i64)) d/\d.es.length<=a.es.length+1)) ?_;refine bS (qI t) ?_;refine bS qP ?_;refine iC (λc1=>?_) λc1=>?_
 ·replace c1:=dT c1;obtain⟨N,l⟩:=nS (d:=a) (s:=((F:Nat):Int)) (by omega) (by omega);obtain⟨N,rfl⟩:=(zO u l);refine bS (d:=dB (true)) (qV (by omega) l) ?_;refine bS (d:=dI (N)) (jJ t (by omega) l rfl) ?_;refine bS qP ?_;refine iC (λc3=>?_) λc3=>?_
  ·replace c3:=dT c3;refine bS (d:=dB (true)) (qV (by omega) l) ?_;refine bS (d:=dI (N)) (jJ t (by omega) l rfl) ?_;refine bS (xI rfl) ?_;obtain⟨y4,q,w,i,O⟩:=iF (E:=EE) (B:=300000000) (el:=3) (sz:=1) (xs:=[dI (N)]) (e:=.int .i64) rfl (qDg vO qDf) rfl rfl;simp only[List.length_cons,List.length_nil]at w;have X:=qA i;have b_y4:=qO i;refine bS q ?_;obtain⟨y5,k,G,x⟩:=lO (E:=EE) (el:=3) (sz:=1) (bytes:=8) y i (by decide) (by omega);have H:=qA x;have I:=qO x;refine bS k ?_;refine bS (d:=dI ((F+1:Nat):Int)) (qY (qN (by omega))) ?_;exact qQ rfl (ih0 (by omega) (by omega) y5 x (by omega))
  replace c3:=dF c3;refine bS (xI rfl) ?_;obtain⟨y4,q,w,i,O⟩:=iF (E:=EE) (B:=300000000) (el:=3) (sz:=1) (xs:=[dI (b)]) (e:=.int .i64) rfl (qDg vO qDf) rfl rfl;simp only[List.length_cons,List.length_nil]at w;have X:=qA i;have b_y4:=qO i;refine bS q ?_;obtain⟨y5,k,G,x⟩:=lO (E:=EE) (el:=3) (sz:=1) (bytes:=8) y i (by decide) (by omega);have H:=qA x;have I:=qO x;refine bS k ?_;refine bS (qI t) ?_;refine bS qP ?_;refine iC (λc6=>?_) λc6=>?_
  ·replace c6:=dT c6;refine bS (d:=dB (true)) (qV (by omega) l) ?_;refine bS (d:=dI (N)) (jJ t (by omega) l rfl) ?_;refine bS jO ?_;refine iC (λZ=>?_) λZ=>?_
   ·replace Z:=dT Z;refine bS (d:=dI ((F+1:Nat):Int)) (qY (qN (by omega))) ?_;obtain⟨y8,p,S,g⟩:=qMJ (E:=EE) (j:=((F+1:Nat):Int)) u (by omega) (by omega);have W:=qA g;have b_y8:=qO g;refine bS p ?_;obtain⟨M,o,Q,c⟩:=lO (E:=EE) (el:=3) (sz:=1) (bytes:=8) x g (by decide) (by omega);have V:=qA c;have b_y9:=qO c;refine bS o ?_;exact qR (ds:=[M]) rfl ⟨c,by show M.es.length<=_;omega⟩
   replace Z:=dF Z;obtain⟨y8,p,S,g⟩:=qMJ (E:=EE) (j:=((F:Nat):Int)) u (by omega) (by omega);have W:=qA g;have b_y8:=qO g;refine bS p ?_;obtain⟨M,o,Q,c⟩:=lO (E:=EE) (el:=3) (sz:=1) (bytes:=8) x g (by decide) (by omega);have V:=qA c;have b_y9:=qO c;refine bS o ?_;exact qR (ds:=[M]) rfl ⟨c,by show M.es.length<=_;omega⟩
  grind
 replace c1:=dF c1;refine bS (xI rfl) ?_;obtain⟨y2,L,U,C,n_y2⟩:=iF (E:=EE) (B:=300000000) (el:=3) (sz:=1) (xs:=[dI (b)]) (e:=.int .i64) rfl (qDg vO qDf) rfl rfl;simp only[List.length_cons,List.length_nil]at U;have i_y2:=qA C;have b_y2:=qO C;refine bS L ?_;obtain⟨y3,K,l_y3,A⟩:=lO (E:=EE) (el:=3) (sz:=1) (bytes:=8) y C (by decide) (by omega);have i_y3:=qA A;have b_y3:=qO A;refine bS K ?_;refine bS (qI t) ?_;refine bS qP ?_;refine iC (λc4=>?_) λc4=>?_
 ·grind
 replace c4:=dF c4;obtain⟨y5,k,G,x⟩:=qMJ (E:=EE) (j:=((F:Nat):Int)) u (by omega) (by omega);have H:=qA x;have I:=qO x;refine bS k ?_;obtain⟨y6,J,l_y6,z⟩:=lO (E:=EE) (el:=3) (sz:=1) (bytes:=8) A x (by decide) (by omega);have i_y6:=qA z;have b_y6:=qO z;refine bS J ?_;exact qR (ds:=[y6]) rfl ⟨z,by show y6.es.length<=_;omega⟩
theorem zCr{a b c:D}(h_a:qC 300000000 (.sl 119 8 (.st [.int .i64,.sl 3 1 (.int .i64),.int .i64,.sl 31 1 (.sl 3 1 (.int .i64)),.int .i64,.sl 114 2 (.st [.str,.str]),.sl 179 2 (.st [.int .i64,.int .i64]),.sl 50 2 (.st [.int .i64,.int .i64])])) a)(h_b:qC 300000000 (.int .i64) b)(h_c:qC 300000000 (.int .i64) c):∃d,(qC 300000000 (.sl 3 1 (.int .i64))) d/\Holds EE 104 [a,b,c] d:=by
 suffices h:∃d,(qC 300000000 (.sl 3 1 (.int .i64))) d/\qE EE (Holds EE) uF 0 [a,b,c] d by obtain⟨d,hd,hg⟩:=h;exact⟨d,hd,zCd rfl hg⟩
 have i_a:=qA h_a;have b_a:=qO h_a;obtain⟨b,rfl⟩:=h_b;obtain⟨c,rfl⟩:=h_c;refine zS (R:=(qC 300000000 (.sl 3 1 (.int .i64)))) ?_;refine bS (qI i_a) ?_;obtain⟨y0,ev_y0,l_y0,h_y0⟩:=qYo (E:=EE) (B:=300000000) (el:=4) (sz:=1) (bytes:=1) (ag:=false) (z:=[(.bool false)]) (n:=((a.es.length:Nat):Int)) (e:=.bool) (by omega) (by omega) rfl (by decide) fL;have i_y0:=qA h_y0;have b_y0:=qO h_y0;refine bS ev_y0 ?_;refine bS (xI rfl) ?_;obtain⟨y1,ev_y1,l_y1,h_y1,n_y1⟩:=iF (E:=EE) (B:=300000000) (el:=3) (sz:=1) (xs:=[dI (b)]) (e:=.int .i64) rfl (qDg vO qDf) rfl rfl;simp only[List.length_cons,List.length_nil]at l_y1;have i_y1:=qA h_y1;have b_y1:=qO h_y1;refine bS ev_y1 ?_;refine qQ rfl (vD (P:=λi2=>i2<=a.es.length+1->∀o:D,qC 300000000 (.sl 4 1 (.bool)) o->o.es.length=a.es.length->∀q:D,qC 300000000 (.sl 3 1 (.int .i64)) q->True->∃d,(qC 300000000 (.sl 3 1 (.int .i64))) d/\qE EE (Holds EE) uF 1 [a,dI (c),o,q,dI ((i2:Nat):Int)] d) (a.es.length+1) (λi2 ih2=>?_) 0 (by omega) y0 h_y0 (by omega) y1 h_y1 trivial);intro hn2 o t z_v2_2 q G z_v2_3;have i_v2_2:=qA t;have b_v2_2:=qO t;have W:=qA G;have b_v2_3:=qO G;refine zS (R:=(qC 300000000 (.sl 3 1 (.int .i64)))) ?_;refine bS (qI i_a) ?_;refine bS kS ?_;refine iC (λc3=>?_) λc3=>?_
 ·replace c3:=dT c3;refine qQ rfl (vD (P:=λL=>L<=q.es.length->∀j:D,qC 300000000 (.sl 4 1 (.bool)) j->j.es.length=a.es.length->∀F:D,qC 300000000 (.sl 3 1 (.int .i64)) F->F.es.length+qMc j<=a.es.length->∃d,(qC 300000000 (.sl 3 1 (.int .i64))) d/\qE EE (Holds EE) uF 2 [a,dI (c),j,q,dI ((i2:Nat):Int),F,dI ((L:Nat):Int)] d) (q.es.length) (λL ih4=>?_) 0 (by omega) o t (by omega) .nil xR (by have:=qSL o;show 0+qMc o<=_;omega));intro hn4 j x z_v4_2 F r z_v4_5;have i_v4_2:=qA x;have b_v4_2:=qO x;have i_v4_5:=qA r;have b_v4_5:=qO r;refine zS (R:=(qC 300000000 (.sl 3 1 (.int .i64)))) ?_;refine bS (qI W) ?_;refine bS qP ?_;refine iC (λc5=>?_) λc5=>?_
  ·replace c5:=dT c5;obtain⟨x6,w⟩:=nS (d:=q) (s:=((L:Nat):Int)) (by omega) (by omega);obtain⟨x6,rfl⟩:=(zO G w);refine bS (d:=dB (true)) (qV (by omega) w) ?_;refine bS (d:=dI (x6)) (jJ W (by omega) w rfl) ?_;obtain⟨_,⟨r7,rfl,pa_r7,pb_r7⟩,k_r7⟩:=qZr (a:=a) (b:=dI (x6)) h_a vO;refine cS k_r7 ?_;refine qQ rfl (vD (P:=λi8=>∀k:D,qC 300000000 (.sl 4 1 (.bool)) k->k.es.length=a.es.length->∀l:D,qC 300000000 (.sl 3 1 (.int .i64)) l->l.es.length+qMc k<=a.es.length->∃d,(qC 300000000 (.sl 3 1 (.int .i64))) d/\qE EE (Holds EE) uF 3 [a,dI (c),k,q,dI ((i2:Nat):Int),l,dI ((L:Nat):Int),dI (r7),dI ((i8:Nat):Int)] d) (300000000) (λi8 ih8=>?_) 0 j x (by omega) F r (by omega));intro k y z_v8_2 l g z_v8_5;have i_v8_2:=qA y;have b_v8_2:=qO y;have i_v8_5:=qA g;have b_v8_5:=qO g;refine zS (R:=(qC 300000000 (.sl 3 1 (.int .i64)))) ?_;refine bS kT ?_;refine iC (λc9=>?_) λc9=>?_
   ·replace c9:=dT c9;obtain⟨x10,C⟩:=nS (d:=a) (s:=(r7)) (by omega) (by omega);obtain⟨_,rfl,_,_,rfl,⟨x10_0,rfl⟩,x10_1,_,rfl,K,_,_,rfl,⟨x10_2,rfl⟩,x10_3,_,rfl,J,_,_,rfl,⟨x10_4,rfl⟩,x10_5,_,rfl,I,N,_,rfl,u,x10_7,_,rfl,H,rfl⟩:=(zO h_a C);have i_x10_1:=qA K;have b_x10_1:=qO K;have i_x10_3:=qA J;have b_x10_3:=qO J;have i_x10_5:=qA I;have b_x10_5:=qO I;have p:=qA u;have b_x10_6:=qO u;have i_x10_7:=qA H;have b_x10_7:=qO H;refine bS (d:=dB (true)) (qV (by omega) C) ?_;refine bS (d:=N) (jD (off:=6) i_a (by omega) C rfl p.one (by decide)) ?_;refine bS (qI p) ?_;refine bS qP ?_;refine iC (λc11=>?_) λc11=>?_
    ·replace c11:=dT c11;refine bS (d:=dB (true)) (qV (by omega) C) ?_;refine bS (d:=N) (jD (off:=6) i_a (by omega) C rfl p.one (by decide)) ?_;obtain⟨x12,V⟩:=nS (d:=N) (s:=((i8:Nat):Int)) (by omega) (by omega);obtain⟨_,rfl,_,_,rfl,⟨x12_0,rfl⟩,_,_,rfl,⟨M,rfl⟩,rfl⟩:=(zO u V);refine bS (d:=dB (true)) (qV (by omega) V) ?_;refine bS (d:=.agg [dI (x12_0),dI (M)]) (zU p (by omega) V rfl) ?_;refine bS (qD rfl) ?_;refine bS (qB (off:=1) rfl rfl) ?_;obtain⟨_,⟨r13,rfl,pa_r13,pb_r13⟩,k_r13⟩:=qZr (a:=a) (b:=dI (M)) h_a vO;refine cS k_r13 ?_;refine bS (qB (off:=0) rfl rfl) ?_;refine bS jO ?_;refine iC (λc14=>?_) λc14=>?_
     ·replace c14:=dT c14;refine bS kT ?_;refine iC (λc15=>?_) λc15=>?_
      ·replace c15:=dT c15;obtain⟨x16,A⟩:=nS (d:=k) (s:=(r13)) (by omega) (by omega);obtain⟨x16,rfl⟩:=(zO y A);refine bS (d:=dB (true)) (qV (by omega) A) ?_;refine bS (d:=dB (x16)) (jJ i_v8_2 (by omega) A rfl) ?_;refine bS jU ?_;refine iC (λc17=>?_) λc17=>?_
       · have cf:x16=false:=by
           cases x16 with
           |false=>rfl
           |true=>exact absurd c17 (by decide)
         subst cf
         refine bS (d:=dB (true)) (qV (by omega) A) ?_
         obtain⟨y18,ev_y18,l_y18,S,q_y18⟩:=qQV (E:=EE) (i:=(r13)) y (by omega) (by omega) A
         have i_y18:=qA S
         have b_y18:=qO S
         refine bS ev_y18 ?_
         refine bS (qB (off:=1) rfl rfl) ?_
         refine bS (xI rfl) ?_
         obtain⟨y19,ev_y19,l_y19,Q,n_y19⟩:=iF (E:=EE) (B:=300000000) (el:=3) (sz:=1) (xs:=[dI (M)]) (e:=.int .i64) rfl (qDg vO qDf) rfl rfl
         simp only[List.length_cons,List.length_nil]at l_y19
         have i_y19:=qA Q
         have b_y19:=qO Q
         refine bS ev_y19 ?_
         obtain⟨y20,ev_y20,l_y20,O⟩:=lO (E:=EE) (el:=3) (sz:=1) (bytes:=8) g Q (by decide) (by omega)
         have i_y20:=qA O
         have b_y20:=qO O
         refine bS ev_y20 ?_
         refine bS (d:=dI ((i8+1:Nat):Int)) (qY (qN (by omega))) ?_
         exact qQ rfl (ih8 (by omega) y18 S (by omega) y20 O (by omega))
       ·clear c17;refine bS (d:=dI ((i8+1:Nat):Int)) (qY (qN (by omega))) ?_;exact qQ rfl (ih8 (by omega) k y (by omega) l g (by omega))
      ·replace c15:=dF c15;refine bS (d:=dI ((i8+1:Nat):Int)) (qY (qN (by omega))) ?_;exact qQ rfl (ih8 (by omega) k y (by omega) l g (by omega))
     ·replace c14:=dF c14;refine bS (d:=dI ((i8+1:Nat):Int)) (qY (qN (by omega))) ?_;exact qQ rfl (ih8 (by omega) k y (by omega) l g (by omega))
    ·replace c11:=dF c11;refine bS (d:=dI ((L+1:Nat):Int)) (qY (qN (by omega))) ?_;exact qQ rfl (ih4 (by omega) (by omega) k y (by omega) l g (by omega))
   ·replace c9:=dF c9;refine bS (d:=dI ((L+1:Nat):Int)) (qY (qN (by omega))) ?_;exact qQ rfl (ih4 (by omega) (by omega) k y (by omega) l g (by omega))
  ·replace c5:=dF c5;refine bS (d:=dI ((i2+1:Nat):Int)) (qY (qN (by omega))) ?_;exact qQ rfl (ih2 (by omega) (by omega) j x (by omega) F r trivial)
 ·replace c3:=dF c3;refine qQ rfl (vD (P:=λL=>L<=a.es.length->∀j:D,qC 300000000 (.sl 3 1 (.int .i64)) j->j.es.length<=L->∃d,(qC 300000000 (.sl 3 1 (.int .i64))) d/\qE EE (Holds EE) uF 4 [a,o,j,dI ((L:Nat):Int)] d) (a.es.length) (λL ih4=>?_) 0 (by omega) .nil xR (by simp[D.es]));intro hn4 j x z_v4_2;have i_v4_2:=qA x;have b_v4_2:=qO x;refine zS (R:=(qC 300000000 (.sl 3 1 (.int .i64)))) ?_;refine bS (qI i_a) ?_;refine bS qP ?_;refine iC (λc5=>?_) λc5=>?_
  ·replace c5:=dT c5;obtain⟨x6,w⟩:=nS (d:=o) (s:=((L:Nat):Int)) (by omega) (by omega);obtain⟨x6,rfl⟩:=(zO t w);refine bS (d:=dB (true)) (qV (by omega) w) ?_;refine bS (d:=dB (x6)) (jJ i_v2_2 (by omega) w rfl) ?_;refine iC (λc7=>?_) λc7=>?_
   ·clear c7;obtain⟨x8,e_x8⟩:=nS (d:=a) (s:=((L:Nat):Int)) (by omega) (by omega);obtain⟨_,rfl,_,_,rfl,⟨x8_0,rfl⟩,x8_1,_,rfl,h_x8_1,_,_,rfl,⟨x8_2,rfl⟩,x8_3,_,rfl,h_x8_3,_,_,rfl,⟨x8_4,rfl⟩,x8_5,_,rfl,h_x8_5,x8_6,_,rfl,Z,x8_7,_,rfl,X,rfl⟩:=(zO h_a e_x8);have i_x8_1:=qA h_x8_1;have b_x8_1:=qO h_x8_1;have i_x8_3:=qA h_x8_3;have b_x8_3:=qO h_x8_3;have i_x8_5:=qA h_x8_5;have b_x8_5:=qO h_x8_5;have i_x8_6:=qA Z;have b_x8_6:=qO Z;have i_x8_7:=qA X;have b_x8_7:=qO X;refine bS (d:=dB (true)) (qV (by omega) e_x8) ?_;refine bS (d:=dI (x8_0)) (jD (off:=0) i_a (by omega) e_x8 rfl rfl (by decide)) ?_;refine bS (xI rfl) ?_;obtain⟨y9,ev_y9,l_y9,h_y9,n_y9⟩:=iF (E:=EE) (B:=300000000) (el:=3) (sz:=1) (xs:=[dI (x8_0)]) (e:=.int .i64) rfl (qDg vO qDf) rfl rfl;simp only[List.length_cons,List.length_nil]at l_y9;have i_y9:=qA h_y9;have b_y9:=qO h_y9;refine bS ev_y9 ?_;obtain⟨y10,ev_y10,l_y10,U⟩:=lO (E:=EE) (el:=3) (sz:=1) (bytes:=8) x h_y9 (by decide) (by omega);have i_y10:=qA U;have b_y10:=qO U;refine bS ev_y10 ?_;refine bS (d:=dI ((L+1:Nat):Int)) (qY (qN (by omega))) ?_;exact qQ rfl (ih4 (by omega) (by omega) y10 U (by omega))
   ·clear c7;refine bS (d:=dI ((L+1:Nat):Int)) (qY (qN (by omega))) ?_;exact qQ rfl (ih4 (by omega) (by omega) j x (by omega))
  ·replace c5:=dF c5;exact qR rfl x
end Go.Proofs.YtpbmnkajhedaiaaGreat
namespace Go.Proofs.YtpbmnkajhedaiaaGreat
open Go Go.Am Go.Proofs
attribute [local irreducible] Go.Am.wp Go.Am.TOp.eval
theorem qDO(x y:Int):Holds EE 158 [.agg [dI x,dI y]] (dB (rt x y)):=by
 suffices h:∃d,(λd=>d=dB (rt x y)) d/\qE EE (Holds EE) qNx 0 [.agg [dI x,dI y]] d by obtain⟨d,hd,e⟩:=h;cases hd;exact zB8 rfl e
 refine zS ?_;refine bS (qD rfl) ?_;refine bS (qB (off:=0) rfl rfl) ?_;refine bS kT ?_;refine iC (λc=>?_) λc=>?_
 ·refine bS (qB (off:=0) rfl rfl) ?_;refine bS (qB (off:=1) rfl rfl) ?_;refine bS qP ?_;refine aM rfl (λb=>?_) (λb=>?_)
  ·refine bS (qB (off:=1) rfl rfl) ?_;refine bS kS ?_;exact qR rfl (by show dB (decide (y<=86400000))=dB (rt x y);unfold rt;rw[c,b];rfl)
  exact qR rfl (by show dB false=dB (rt x y);unfold rt;rw[c,b];rfl)
 exact qR rfl (by show dB false=dB (rt x y);unfold rt;rw[c];rfl)
theorem qJv{s p:Int×Int}{a b:Bool}(x:rt p.1 (mn p.2 s.1)=a)(h:rt (mx p.1 s.2) p.2=b):wo s p=(bif a then[(p.1,mn p.2 s.1)]else[])++(bif b then[(mx p.1 s.2,p.2)]else[]):=by unfold wo;rw[x,h];cases a<;>cases b<;>rfl
theorem zCl{l:List (Int×Int)}{s0 s1:Int}(w:qVc l)(u:s0<s1)(E:l.length<=300000001):Holds EE 187 [sp 104 l,.agg [dI s0,dI s1]] (sp 104 (l.flatMap (wo (s0,s1)))):=by
 suffices h:∃d,(λd=>d=sp 104 (l.flatMap (wo (s0,s1)))) d/\qE EE (Holds EE) qHU 0 [sp 104 l,.agg [dI s0,dI s1]] d by obtain⟨d,hd,C⟩:=h;cases hd;exact zBZ rfl C
 have g:xU 104 2 (sp 104 l):=qUK (by omega);refine zS ?_;refine bS (qD rfl) ?_;refine bS (d:=sp 104 []) qFn ?_;refine qQ rfl (vD (P:=λi=>i<=l.length->∃d,(λd=>d=sp 104 (l.flatMap (wo (s0,s1)))) d/\qE EE (Holds EE) qHU 1 [sp 104 l,sp 104 ((l.take i).flatMap (wo (s0,s1))),dI ((i:Nat):Int),.agg [dI s0,dI s1]] d) l.length (λi A=>?_) 0 (by omega));intro F;refine zS ?_;refine bS qBJ ?_;refine bS qP ?_;refine iC (λr=>?_) λr=>?_
 ·replace r:=dT r;have t:i<l.length:=by omega
  obtain⟨⟨y,x⟩,z⟩:∃p,l[i]? = some p:=⟨_,List.getElem?_eq_getElem t⟩;have b:(sp 104 l).es[((i:Nat):Int).toNat]? = some (.agg [dI y,dI x]):=qZy z;have e:(l.take (i+1)).flatMap (wo (s0,s1))=(l.take i).flatMap (wo (s0,s1))++wo (s0,s1) (y,x):=by rw[List.take_add_one,z,List.flatMap_append];simp
  have j:((l.take (i+1)).flatMap (wo (s0,s1))).length<=300000002:=by have G:=qHQ (s:=(s0,s1)) u (l:=l.take (i+1)) ⟨w.1.sublist (List.take_sublist _ _),λq B=>w.2 q (List.mem_of_mem_take B)⟩;grind
  have nx:=A t (by omega);rw[e]at nx;rw[e,List.length_append]at j;generalize (l.take i).flatMap (wo (s0,s1))=L at j nx ⊢;refine bS (d:=dB true) (qV (by omega) b) ?_;refine bS (d:=dI y) (jD (off:=0) g (by omega) b rfl rfl (by decide)) ?_;refine bS (d:=dB true) (qV (by omega) b) ?_;refine bS (d:=dI x) (jD (off:=1) g (by omega) b rfl rfl (by decide)) ?_;refine bS (qB (off:=0) rfl rfl) ?_;refine bS qUW ?_;refine bS (d:=dB true) (qV (by omega) b) ?_;refine bS (d:=dI y) (jD (off:=0) g (by omega) b rfl rfl (by decide)) ?_;refine bS (qB (off:=1) rfl rfl) ?_;refine bS qUV ?_;refine bS (d:=dB true) (qV (by omega) b) ?_;refine bS (d:=dI x) (jD (off:=1) g (by omega) b rfl rfl (by decide)) ?_;refine cS (qDO y (mn x s0)) ?_;refine iC (λo=>?_) λo=>?_
  ·refine bS (qD rfl) ?_;refine bS (d:=.sl 104 2 [pd (y,mn x s0)]) qCc ?_;refine bS (d:=sp 104 (L++[(y,mn x s0)])) (qET (by omega)) ?_;refine cS (qDO (mx y s1) x) ?_;refine iC (λc=>?_) λc=>?_
   ·have k:=qJv (s:=(s0,s1)) (p:=(y,x)) o c;rw[k]at nx;refine bS (qD rfl) ?_;refine bS (d:=.sl 104 2 [pd (mx y s1,x)]) qCc ?_;refine bS (d:=sp 104 ((L++[(y,mn x s0)])++[(mx y s1,x)])) (qET (by rw[List.length_append];show L.length+1<=_;omega)) ?_;refine bS (d:=dI ((i+1:Nat):Int)) (qY (qN (by omega))) ?_;rw[List.append_assoc];exact qQ rfl nx
   have k:=qJv (s:=(s0,s1)) (p:=(y,x)) o c;rw[k]at nx;refine bS (d:=dI ((i+1:Nat):Int)) (qY (qN (by omega))) ?_;exact qQ rfl nx
  refine cS (qDO (mx y s1) x) ?_;refine iC (λc=>?_) λc=>?_
  ·have k:=qJv (s:=(s0,s1)) (p:=(y,x)) o c;rw[k]at nx;refine bS (qD rfl) ?_;refine bS (d:=.sl 104 2 [pd (mx y s1,x)]) qCc ?_;refine bS (d:=sp 104 (L++[(mx y s1,x)])) (qET (by omega)) ?_;refine bS (d:=dI ((i+1:Nat):Int)) (qY (qN (by omega))) ?_;exact qQ rfl nx
  have k:=qJv (s:=(s0,s1)) (p:=(y,x)) o c;rw[k]at nx;refine bS (d:=dI ((i+1:Nat):Int)) (qY (qN (by omega))) ?_;simp only[cond_false,List.append_nil]at nx;exact qQ rfl nx
 replace r:=dF r;have t:i=l.length:=by omega
 subst t;exact qR rfl (by show sp 104 ((l.take l.length).flatMap (wo (s0,s1)))=_;rw[List.take_length])
theorem zCk(x y:Int):Holds EE 214 [sp 104 [],.agg [dI x,dI y]] (sp 104 [(x,y)]):=by
 suffices h:∃d,(λd=>d=sp 104 [(x,y)]) d/\qE EE (Holds EE) qM7 0 [sp 104 [],.agg [dI x,dI y]] d by obtain⟨d,hd,b⟩:=h;cases hd;exact zBW rfl b
 refine zS ?_;refine bS (qD rfl) ?_;refine bS (d:=sp 104 []) qFn ?_;refine bS (d:=sp 104 []) qFn ?_;refine qQ rfl (zS ?_);refine qBt (ρ':=[_,_,_,_,_,dI ((([]:List (Int×Int)).length:Nat):Int)]) qBJ rfl rfl  ?_;refine bS qP ?_;refine aM rfl (λc=>by cases c) (λ_=>?_);refine bS (qD rfl) ?_;refine bS (d:=.sl 104 2 [pd (x,y)]) qCc ?_;refine bS (d:=sp 104 [(x,y)]) (qET (l:=[]) (by decide)) ?_;refine bS qXV ?_;exact qR rfl rfl
theorem zCm(x y:Int):Holds EE 186 [sp 104 [(x,y)]] (sp 104 (bif rt x y then[(x,y)]else[])):=by
 suffices h:∃d,(λd=>d=sp 104 (bif rt x y then[(x,y)]else[])) d/\qE EE (Holds EE) qHV 0 [sp 104 [(x,y)]] d by obtain⟨d,hd,j⟩:=h;cases hd;exact zB0 rfl j
 have g:xU 104 2 (sp 104 [(x,y)]):=qUK (by simp);have b:(sp 104 [(x,y)]).es[((0:Nat):Int).toNat]? = some (.agg [dI x,dI y]):=rfl;have e:∀l,(λd=>d=sp 104 (bif rt x y then[(x,y)]else[])) (sp 104 l)->∃d,(λd=>d=sp 104 (bif rt x y then[(x,y)]else[])) d/\qE EE (Holds EE) qHV 1 [sp 104 [(x,y)],sp 104 l,dI ((1:Nat):Int)] d:=by intro l i;refine zS ?_;refine bS qBJ ?_;refine bS qP ?_;refine aM rfl (λc=>by cases c) (λ_=>?_);exact qR rfl i
 refine zS ?_;refine bS (d:=sp 104 []) qFn ?_;refine qQ rfl (zS ?_);refine qBt (ρ':=[_,_,_,dI (([(x,y)].length:Nat):Int)]) qBJ rfl rfl  ?_;refine bS qP ?_;refine aM rfl (λ_=>?_) (λc=>by cases c);refine bS (d:=dB true) (qV (by omega) b) ?_;refine bS (d:=.agg [dI x,dI y]) (zU g (by omega) b rfl) ?_;refine cS (qDO x y) ?_;refine iC (λc=>?_) λc=>?_
 ·refine bS (d:=dB true) (qV (by omega) b) ?_;refine bS (d:=.agg [dI x,dI y]) (zU g (by omega) b rfl) ?_;refine cS (zCk x y) ?_;refine bS (d:=dI ((0+1:Nat):Int)) (qY (qN (n:=0+1) (by decide))) ?_;exact qQ rfl (e _ (by show _=sp 104 _;rw[c];rfl))
 refine bS (d:=dI ((0+1:Nat):Int)) (qY (qN (n:=0+1) (by decide))) ?_;exact qQ rfl (e _ (by show _=sp 104 _;rw[c];rfl))
theorem zCp{b:D}(x y:Int)(k:qC 300000000 (.sl 104 2 (.st [.int .i64,.int .i64])) b):∃d,(∃l:List (Int×Int),d=sp 104 l/\l.length<=300000001)/\Holds EE 159 [sp 104 [(x,y)],b] d:=by
 suffices h:∃d,(λd=>∃l:List (Int×Int),d=sp 104 l/\l.length<=300000001) d/\qE EE (Holds EE) qHZ 0 [sp 104 [(x,y)],b] d by obtain⟨d,hd,z⟩:=h;exact⟨d,hd,zB7 rfl z⟩
 have j:=qA k;have A:=qO k;refine zS ?_;refine cS (zCm x y) ?_;have t:qVc (bif rt x y then[(x,y)]else[])/\(bif rt x y then[(x,y)]else[]).length<=1:=by
  cases w:rt x y
  ·exact⟨qRc,Nat.zero_le _⟩
  exact⟨qRb (qDR w),vE _⟩
 refine qQ rfl (vD (P:=λi=>i<=b.es.length->∀l,qVc l->l.length<=i+1->∃d,(λd=>∃l:List (Int×Int),d=sp 104 l/\l.length<=300000001) d/\qE EE (Holds EE) qHZ 1 [b,sp 104 l,dI ((i:Nat):Int)] d) b.es.length (λi r=>?_) 0 (by omega) _ t.1 t.2);intro E l p C;refine zS ?_;refine bS (qI j) ?_;refine bS qP ?_;refine iC (λq=>?_) λq=>?_
 ·replace q:=dT q;obtain⟨B,c⟩:=nS (d:=b) (s:=((i:Nat):Int)) (by omega) (by omega);obtain⟨_,rfl,_,_,rfl,⟨g,rfl⟩,_,_,rfl,⟨e,rfl⟩,rfl⟩:=(zO k c);refine bS (d:=dB true) (qV (by omega) c) ?_;refine bS (d:=.agg [dI g,dI e]) (zU j (by omega) c rfl) ?_;refine cS (qDO g e) ?_;refine iC (λu=>?_) λu=>?_
  ·have o:=qDR u;refine bS (d:=dB true) (qV (by omega) c) ?_;refine bS (d:=.agg [dI g,dI e]) (zU j (by omega) c rfl) ?_;refine cS (zCl p o (by omega)) ?_;refine bS (d:=dI ((i+1:Nat):Int)) (qY (qN (by omega))) ?_;have:=qHQ (s:=(g,e)) o p;exact qQ rfl (r (by omega) (by omega) _ (qVg o p) (by omega))
  refine bS (d:=dI ((i+1:Nat):Int)) (qY (qN (by omega))) ?_;exact qQ rfl (r (by omega) (by omega) l p (by omega))
 exact qR rfl ⟨l,rfl,by omega⟩
theorem zCq{a b:D}(e:qC 300000000 (.sl 104 2 (.st [.int .i64,.int .i64])) a)(c:qC 300000000 (.st [.int .i64,.int .i64]) b):∃d,(qC 300000000 (.bool)) d/\Holds EE 115 [a,b] d:=by
 suffices h:∃d,(qC 300000000 (.bool)) d/\qE EE (Holds EE) qNI 0 [a,b] d by obtain⟨d,hd,g⟩:=h;exact⟨d,hd,zCb rfl g⟩
 obtain⟨_,rfl,_,_,rfl,⟨y,rfl⟩,_,_,rfl,⟨x,rfl⟩,rfl⟩:=c;refine zS (R:=(qC 300000000 (.bool))) ?_;refine bS (qD rfl) ?_;refine cS (qDO y x) ?_;refine iC (λ_=>?_) λ_=>?_
 ·refine bS (qD rfl) ?_;refine bS (d:=sp 104 [(y,x)]) qCc ?_;obtain⟨_,⟨l,rfl,i⟩,k⟩:=zCp y x e;refine cS k ?_;refine bS qBJ ?_;refine bS jO ?_;exact qR rfl fL
 exact qR rfl fL
end Go.Proofs.YtpbmnkajhedaiaaGreat
namespace Go.Proofs.YtpbmnkajhedaiaaGreat
open Go Go.Am Go.Proofs Go.Am.Tt
theorem qIb{el sz:Nat}{e:Sh}{d:D}(h:qC 300000000 (.sl el sz e) d):kF d=(d.es.length:Int):=by simp only[qC]at h;rcases h with rfl|⟨es,rfl,_⟩<;>rfl
def qRj:Tt.Spec:=⟨[(.str BG),(.int .i64)],[(.int .i64),(.int .i64)],[(.z,aA 1,0),(aA 1,aA 0,-1)],[(.z,aA 3,0),(aA 3,.z,4)]⟩
def qRi:Tt.Spec:=⟨[n2,(.int .i64)],[n2],[(aA 0,.z,299999999)],[(aA 2,aA 0,1)]⟩
def qRl:Tt.Spec:=⟨[n0,(.int .i64),(.int .i64)],[n2],[],[]⟩
def qRk:Tt.Spec:=⟨[qUS,xD],[.bool],[],[]⟩
theorem zC5:xZ (Holds EE) 181 qRj:=by
 intro ds hd x;simp only[qRj,qU]at hd x;obtain⟨a,_,rfl,j,b,_,rfl,i,rfl⟩:=hd;have e:=x _ List.mem_cons_self;have c:=x _ (mC _ List.mem_cons_self);obtain⟨_,⟨p,n,rfl,o,l⟩,k⟩:=zCo (kW rfl j) (kW rfl i) (λn y=>by subst y;have:(0:Int)<=n+0:=e;omega) (λs n g y=>by subst g y;have:n<=(s.size:Int) + -1:=c;omega);refine⟨[dI p,dI n],?_,λq h=>?_,k⟩
 ·simp only[qRj,qU];exact⟨_,_,rfl,by simp only[qM];exact⟨_,rfl⟩,_,_,rfl,by simp only[qM];exact⟨_,rfl⟩,rfl⟩
 rcases List.mem_cons.1 h with rfl|h
 ·show(0:Int)<=n+0;omega
 rcases List.mem_cons.1 h with rfl|h
 ·show n<=(0:Int)+4;omega
 cases h
theorem zC4:xZ (Holds EE) 182 qRi:=by
 intro ds hd y;simp only[qRi,qU]at hd y;obtain⟨a,_,rfl,j,b,_,rfl,i,rfl⟩:=hd;have e:=y _ List.mem_cons_self;have h:=kW rfl j;have hv:=qIb h;obtain⟨d,⟨c,l⟩,k⟩:=zCn h (kW rfl i) (by have:kF a<=(0:Int)+299999999:=e;omega);have g:=qIb c;refine⟨[d],by simp only[qRi,qU];exact⟨_,_,rfl,oZ rfl c,rfl⟩,λq x=>?_,k⟩;rcases List.mem_cons.1 x with rfl|x
 ·show kF d<=kF a+1;omega
 cases x
theorem zC8:xZ (Holds EE) 104 qRl:=by intro ds hd _;simp only[qRl,qU]at hd;obtain⟨a,_,rfl,e,b,_,rfl,y,c,_,rfl,x,rfl⟩:=hd;obtain⟨d,i,g⟩:=zCr (kW rfl e) (kW rfl y) (kW rfl x);exact⟨[d],by simp only[qRl,qU];exact⟨_,_,rfl,oZ rfl i,rfl⟩,λq h=>(by cases h),g⟩
theorem zC7:xZ (Holds EE) 115 qRk:=by intro ds hd _;simp only[qRk,qU]at hd;obtain⟨a,_,rfl,y,b,_,rfl,x,rfl⟩:=hd;obtain⟨d,e,c⟩:=zCq (kW rfl y) (kW rfl x);exact⟨[d],by simp only[qRk,qU];exact⟨_,_,rfl,oZ rfl e,rfl⟩,λq h=>(by cases h),c⟩
def qQ6:List (FuncId×Tt.Spec):=(181,qRj)::(182,qRi)::(104,qRl)::(115,qRk)::aV [] qXp
theorem qQ5:∀p∈qQ6,xZ (Holds EE) p.1 p.2:=oM zC5<|oM zC4<|oM zC8<|oM zC7<|qQ3
theorem zF0:qDi EE Tryz.prog TT qQ6 qXo=true:=by kernel_rfl
theorem qNV:∀p∈aV qQ6 qXo,xZ (Holds EE) p.1 p.2:=qDh qPl qIf TT_ok qQ5 zF0
end Go.Proofs.YtpbmnkajhedaiaaGreat
