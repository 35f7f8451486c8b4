/- Functions that always give something, by hand. Conditions: none. -/
import Derived.Test.YtocbbgmhkhallaaGreatDoorBb
import Derived.Test.YtocbbgmhkhallaaGreatDoorUv
set_option linter.unusedVariables false
set_option linter.unusedSimpArgs false
namespace Go.Proofs.YtocbbgmhkhallaaGreatDoor
open Go Go.Am Go.Proofs Go.Am.Tt
attribute [local irreducible] Go.Am.wp Go.Am.TOp.eval
theorem qDg(m:Int):∃n:Int,TOp.eval EE (.conv 5 3) [.leaf (.int .u8 m)]=some (dI n):=⟨IntKind.i64.wrap m,by kernel_rfl⟩
theorem lM(m:Int){x y:LM}:∃n:Int,TOp.eval EE (.bin .rem 3 x y) [dI m,dI ((64:Nat):Int)]=some (dI n):=⟨m.tmod 64,by kernel_rfl⟩
theorem qQY{a:D}(h:qF 300000000 (.int .i64) a):∃d,qF 300000000 (.bool) d/\qA EE 174 [a] d:=
 zAC (S:=zBK.S) (pF qQT (by kernel_rfl)) rfl rfl rfl rfl (qQ h jN)
theorem qQX{a:D}(h:qF 300000000 (.int .i64) a):∃d,qF 300000000 (.str) d/\qA EE 175 [a] d:=
 zAC (S:=zBJ.S) (pF qQT (by kernel_rfl)) rfl rfl rfl rfl (qQ h jN)
theorem zFj{a b:D}(h:qF 300000000 (.sl 71 8 (.st [.int .i64,.sl 3 1 (.int .i64),.int .i64,.sl 31 1 (.sl 3 1 (.int .i64)),.int .i64,.sl 105 2 (.st [.str,.str]),.sl 73 2 (.st [.int .i64,.int .i64]),.sl 163 2 (.st [.int .i64,.int .i64])])) a)(y:qF 300000000 (.int .i64) b):∃d,(∃n:Int,d=dI n/\ -1<=n/\n<(a.es.length:Int))/\qA EE 88 [a,b] d:=by
 obtain⟨e,x,c,i⟩:=(pF qQT (f:=88) (S:=zFB.S) (by kernel_rfl)) [a,b] (tZ rfl (qQ h (qQ y jN))) (λq g=>by cases g);have x:zS [.int .i64] e:=x;simp only[zS]at x;obtain⟨d,_,rfl,⟨n,rfl⟩,rfl⟩:=x;have l:oK a=(a.es.length:Int):=by simp only[qF]at h;rcases h with rfl|⟨es,rfl,_⟩<;>rfl
 have k:(0:Int)<=n+1:=c _ aq;have j:n<=oK a + -1:=c _ (mC _ aq);exact⟨_,⟨n,rfl,by omega,by omega⟩,i⟩
theorem zCV{a b:D}(h_a:qF 300000000 (.str) a)(h_b:qF 300000000 (.int .i64) b)(p0:∀n:Int,b=dI n->0<=n)(p1:∀(s:LJ) (n:Int),a=.leaf (.string s)->b=dI n->n<(s.size:Int)):∃d,(λd=>∃p n:Int,d=.gd [dI p,dI n]/\0<=n/\n<=4) d/\qA EE 150 [a,b] d:=by
 suffices h:∃d,(λd=>∃p n:Int,d=.gd [dI p,dI n]/\0<=n/\n<=4) d/\qP EE (qA EE) qAc 0 [a,b] d by obtain⟨d,hd,hg⟩:=h;exact⟨d,hd,zCD rfl hg⟩
 obtain⟨a,rfl,hs_a⟩:=h_a;obtain⟨b,rfl⟩:=h_b;replace p0:=p0 _ rfl;replace p1:=p1 _ _ rfl rfl;refine jF (R:=(λd=>∃p n:Int,d=.gd [dI p,dI n]/\0<=n/\n<=4)) ?_;obtain⟨w0,p0,q0,ew0⟩:=qAd (E:=EE) (s:=a) (i:=(b)) (by omega) (by omega);refine bS ew0 ?_;obtain⟨w1,ew1⟩:=qDg (w0);refine bS ew1 ?_;refine bS rY ?_;refine iC (λc2=>?_) λc2=>?_
 ·replace c2:=dT c2;obtain⟨w3,ew3⟩:∃w:Int,IntKind.i64.wrap ((w1)-((240:Nat):Int))=w:=⟨_,rfl⟩;refine bS (d:=dI (w3)) (by rw[←ew3];exact qBw) ?_;refine bS (d:=dI ((b)+((4:Nat):Int))) (kB (by omega)) ?_;refine bS cM ?_;refine bS jS ?_;refine iC (λK=>?_) λK=>?_
  ·replace K:=dT K;exact zJ rfl ⟨_,_,rfl,by omega,by omega⟩
  ·replace K:=dF K;refine zK rfl (vQ (P:=λi5=>1<=i5->∀g:Int,∃d,(λd=>∃p n:Int,d=.gd [dI p,dI n]/\0<=n/\n<=4) d/\qP EE (qA EE) qAc 1 [.leaf (.string a),dI (b),dI (g),dI ((4:Nat):Int),dI ((i5:Nat):Int)] d) (4) (λi5 ih5=>?_) 1 (by omega) _);intro hn5 g;refine jF (R:=(λd=>∃p n:Int,d=.gd [dI p,dI n]/\0<=n/\n<=4)) ?_;refine bS zN ?_;refine iC (λI=>?_) λI=>?_
   ·replace I:=dT I;obtain⟨w7,ew7⟩:∃w:Int,IntKind.i64.wrap ((g)*((64:Nat):Int))=w:=⟨_,rfl⟩;refine bS (d:=dI (w7)) (by rw[←ew7];exact s8) ?_;refine bS (d:=dI ((b)+((i5:Nat):Int))) (kB (by omega)) ?_;obtain⟨Q,p8,q8,F⟩:=qAd (E:=EE) (s:=a) (i:=((b)+((i5:Nat):Int))) (by omega) (by omega);refine bS F ?_;obtain⟨O,r⟩:=qDg (Q);refine bS r ?_;obtain⟨o,c⟩:=lM (O);refine bS c ?_;obtain⟨l,y⟩:∃w:Int,IntKind.i64.wrap ((w7)+(o))=w:=⟨_,rfl⟩;refine bS (d:=dI (l)) (by rw[←y];exact s9) ?_;refine bS (d:=dI ((i5+1:Nat):Int)) (zF (zH (by omega))) ?_;exact zK rfl (ih5 (by omega) (by omega) _)
   ·replace I:=dF I;obtain⟨_,⟨r7,rfl⟩,k_r7⟩:=qQY (a:=dI (g)) jB;refine cS k_r7 ?_;refine bS jJ ?_;refine iC (λN=>?_) λN=>?_
    ·clear N;exact zJ rfl ⟨_,_,rfl,by omega,by omega⟩
    ·clear N;obtain⟨_,⟨r9,rfl,hs_r9⟩,A⟩:=qQX (a:=dI (g)) jB;refine cS A ?_;refine bS (d:=dI ((b)+((4:Nat):Int))) (kB (by omega)) ?_;obtain⟨s10,hs_s10,ev10⟩:=qBS (E:=EE) (B:=300000000) (s:=a) (i:=(b)) (j:=((b)+((4:Nat):Int))) (by omega) (by omega) (by omega) (by omega);refine bS ev10 ?_;refine bS fK ?_;refine iC (λX=>?_) λX=>?_
     ·clear X;exact zJ rfl ⟨_,_,rfl,by omega,by omega⟩
     ·clear X;exact zJ rfl ⟨_,_,rfl,by omega,by omega⟩
 ·replace c2:=dF c2;refine bS rY ?_;refine iC (λc3=>?_) λc3=>?_
  ·replace c3:=dT c3;obtain⟨w4,ew4⟩:∃w:Int,IntKind.i64.wrap ((w1)-((224:Nat):Int))=w:=⟨_,rfl⟩;refine bS (d:=dI (w4)) (by rw[←ew4];exact qBw) ?_;refine bS (d:=dI ((b)+((3:Nat):Int))) (kB (by omega)) ?_;refine bS cM ?_;refine bS jS ?_;refine iC (λJ=>?_) λJ=>?_
   ·replace J:=dT J;exact zJ rfl ⟨_,_,rfl,by omega,by omega⟩
   ·replace J:=dF J;refine zK rfl (vQ (P:=λu=>1<=u->∀x:Int,∃d,(λd=>∃p n:Int,d=.gd [dI p,dI n]/\0<=n/\n<=4) d/\qP EE (qA EE) qAc 1 [.leaf (.string a),dI (b),dI (x),dI ((3:Nat):Int),dI ((u:Nat):Int)] d) (3) (λu U=>?_) 1 (by omega) _);intro hn6 x;refine jF (R:=(λd=>∃p n:Int,d=.gd [dI p,dI n]/\0<=n/\n<=4)) ?_;refine bS zN ?_;refine iC (λH=>?_) λH=>?_
    ·replace H:=dT H;obtain⟨Q,F⟩:∃w:Int,IntKind.i64.wrap ((x)*((64:Nat):Int))=w:=⟨_,rfl⟩;refine bS (d:=dI (Q)) (by rw[←F];exact s8) ?_;refine bS (d:=dI ((b)+((u:Nat):Int))) (kB (by omega)) ?_;obtain⟨O,p9,q9,r⟩:=qAd (E:=EE) (s:=a) (i:=((b)+((u:Nat):Int))) (by omega) (by omega);refine bS r ?_;obtain⟨o,c⟩:=qDg (O);refine bS c ?_;obtain⟨l,y⟩:=lM (o);refine bS y ?_;obtain⟨z,k⟩:∃w:Int,IntKind.i64.wrap ((Q)+(l))=w:=⟨_,rfl⟩;refine bS (d:=dI (z)) (by rw[←k];exact s9) ?_;refine bS (d:=dI ((u+1:Nat):Int)) (zF (zH (by omega))) ?_;exact zK rfl (U (by omega) (by omega) _)
    ·replace H:=dF H;obtain⟨_,⟨r8,rfl⟩,C⟩:=qQY (a:=dI (x)) jB;refine cS C ?_;refine bS jJ ?_;refine iC (λV=>?_) λV=>?_
     ·clear V;exact zJ rfl ⟨_,_,rfl,by omega,by omega⟩
     ·clear V;obtain⟨_,⟨r10,rfl,M⟩,q⟩:=qQX (a:=dI (x)) jB;refine cS q ?_;refine bS (d:=dI ((b)+((3:Nat):Int))) (kB (by omega)) ?_;obtain⟨zC7,L,G⟩:=qBS (E:=EE) (B:=300000000) (s:=a) (i:=(b)) (j:=((b)+((3:Nat):Int))) (by omega) (by omega) (by omega) (by omega);refine bS G ?_;refine bS fK ?_;refine iC (λt=>?_) λt=>?_
      ·clear t;exact zJ rfl ⟨_,_,rfl,by omega,by omega⟩
      ·clear t;exact zJ rfl ⟨_,_,rfl,by omega,by omega⟩
  ·replace c3:=dF c3;refine bS rY ?_;refine iC (λK=>?_) λK=>?_
   ·replace K:=dT K;obtain⟨w5,ew5⟩:∃w:Int,IntKind.i64.wrap ((w1)-((192:Nat):Int))=w:=⟨_,rfl⟩;refine bS (d:=dI (w5)) (by rw[←ew5];exact qBw) ?_;refine bS (d:=dI ((b)+((2:Nat):Int))) (kB (by omega)) ?_;refine bS cM ?_;refine bS jS ?_;refine iC (λI=>?_) λI=>?_
    ·replace I:=dT I;exact zJ rfl ⟨_,_,rfl,by omega,by omega⟩
    ·replace I:=dF I;refine zK rfl (vQ (P:=λi7=>1<=i7->∀e:Int,∃d,(λd=>∃p n:Int,d=.gd [dI p,dI n]/\0<=n/\n<=4) d/\qP EE (qA EE) qAc 1 [.leaf (.string a),dI (b),dI (e),dI ((2:Nat):Int),dI ((i7:Nat):Int)] d) (2) (λi7 ih7=>?_) 1 (by omega) _);intro hn7 e;refine jF (R:=(λd=>∃p n:Int,d=.gd [dI p,dI n]/\0<=n/\n<=4)) ?_;refine bS zN ?_;refine iC (λN=>?_) λN=>?_
     ·replace N:=dT N;obtain⟨O,r⟩:∃w:Int,IntKind.i64.wrap ((e)*((64:Nat):Int))=w:=⟨_,rfl⟩;refine bS (d:=dI (O)) (by rw[←r];exact s8) ?_;refine bS (d:=dI ((b)+((i7:Nat):Int))) (kB (by omega)) ?_;obtain⟨o,qQH,q10,c⟩:=qAd (E:=EE) (s:=a) (i:=((b)+((i7:Nat):Int))) (by omega) (by omega);refine bS c ?_;obtain⟨l,y⟩:=qDg (o);refine bS y ?_;obtain⟨z,k⟩:=lM (l);refine bS k ?_;obtain⟨w13,ew13⟩:∃w:Int,IntKind.i64.wrap ((O)+(z))=w:=⟨_,rfl⟩;refine bS (d:=dI (w13)) (by rw[←ew13];exact s9) ?_;refine bS (d:=dI ((i7+1:Nat):Int)) (zF (zH (by omega))) ?_;exact zK rfl (ih7 (by omega) (by omega) _)
     ·replace N:=dF N;obtain⟨_,⟨r9,rfl⟩,A⟩:=qQY (a:=dI (e)) jB;refine cS A ?_;refine bS jJ ?_;refine iC (λZ=>?_) λZ=>?_
      ·clear Z;exact zJ rfl ⟨_,_,rfl,by omega,by omega⟩
      ·clear Z;obtain⟨_,⟨r11,rfl,hs_r11⟩,S⟩:=qQX (a:=dI (e)) jB;refine cS S ?_;refine bS (d:=dI ((b)+((2:Nat):Int))) (kB (by omega)) ?_;obtain⟨s12,hs_s12,ev12⟩:=qBS (E:=EE) (B:=300000000) (s:=a) (i:=(b)) (j:=((b)+((2:Nat):Int))) (by omega) (by omega) (by omega) (by omega);refine bS ev12 ?_;refine bS fK ?_;refine iC (λW=>?_) λW=>?_
       ·clear W;exact zJ rfl ⟨_,_,rfl,by omega,by omega⟩
       ·clear W;exact zJ rfl ⟨_,_,rfl,by omega,by omega⟩
   ·replace K:=dF K;refine bS (d:=dI ((b)+((1:Nat):Int))) (kB (by omega)) ?_;refine bS cM ?_;refine bS jS ?_;refine iC (λJ=>?_) λJ=>?_
    ·replace J:=dT J;exact zJ rfl ⟨_,_,rfl,by omega,by omega⟩
    ·replace J:=dF J;refine zK rfl (vQ (P:=λu=>1<=u->∀x:Int,∃d,(λd=>∃p n:Int,d=.gd [dI p,dI n]/\0<=n/\n<=4) d/\qP EE (qA EE) qAc 1 [.leaf (.string a),dI (b),dI (x),dI ((1:Nat):Int),dI ((u:Nat):Int)] d) (1) (λu U=>?_) 1 (by omega) _);intro hn6 x;refine jF (R:=(λd=>∃p n:Int,d=.gd [dI p,dI n]/\0<=n/\n<=4)) ?_;refine bS zN ?_;refine iC (λH=>?_) λH=>?_
     ·replace H:=dT H;obtain⟨Q,F⟩:∃w:Int,IntKind.i64.wrap ((x)*((64:Nat):Int))=w:=⟨_,rfl⟩;refine bS (d:=dI (Q)) (by rw[←F];exact s8) ?_;refine bS (d:=dI ((b)+((u:Nat):Int))) (kB (by omega)) ?_;obtain⟨O,p9,q9,r⟩:=qAd (E:=EE) (s:=a) (i:=((b)+((u:Nat):Int))) (by omega) (by omega);refine bS r ?_;obtain⟨o,c⟩:=qDg (O);refine bS c ?_;obtain⟨l,y⟩:=lM (o);refine bS y ?_;obtain⟨z,k⟩:∃w:Int,IntKind.i64.wrap ((Q)+(l))=w:=⟨_,rfl⟩;refine bS (d:=dI (z)) (by rw[←k];exact s9) ?_;refine bS (d:=dI ((u+1:Nat):Int)) (zF (zH (by omega))) ?_;exact zK rfl (U (by omega) (by omega) _)
     ·replace H:=dF H;obtain⟨_,⟨r8,rfl⟩,C⟩:=qQY (a:=dI (x)) jB;refine cS C ?_;refine bS jJ ?_;refine iC (λV=>?_) λV=>?_
      ·clear V;exact zJ rfl ⟨_,_,rfl,by omega,by omega⟩
      ·clear V;obtain⟨_,⟨r10,rfl,M⟩,q⟩:=qQX (a:=dI (x)) jB;refine cS q ?_;refine bS (d:=dI ((b)+((1:Nat):Int))) (kB (by omega)) ?_;obtain⟨zC7,L,G⟩:=qBS (E:=EE) (B:=300000000) (s:=a) (i:=(b)) (j:=((b)+((1:Nat):Int))) (by omega) (by omega) (by omega) (by omega);refine bS G ?_;refine bS fK ?_;refine iC (λt=>?_) λt=>?_
       ·clear t;exact zJ rfl ⟨_,_,rfl,by omega,by omega⟩
       ·clear t;exact zJ rfl ⟨_,_,rfl,by omega,by omega⟩
theorem zCU{a b:D}(r:qF 300000000 (.sl 3 1 (.int .i64)) a)(h_b:qF 300000000 (.int .i64) b)(hp:a.es.length<300000000):∃d,(λd=>qF 300000000 (.sl 3 1 (.int .i64)) d/\d.es.length<=a.es.length+1) d/\qA EE 151 [a,b] d:=by
 suffices h:∃d,(λd=>qF 300000000 (.sl 3 1 (.int .i64)) d/\d.es.length<=a.es.length+1) d/\qP EE (qA EE) qIy 0 [a,b] d by obtain⟨d,hd,hg⟩:=h;exact⟨d,hd,zCC rfl hg⟩
 have u:=qC r;have b_a:=qR r;obtain⟨b,rfl⟩:=h_b;refine jF (R:=(λd=>qF 300000000 (.sl 3 1 (.int .i64)) d/\d.es.length<=a.es.length+1)) ?_;refine zK rfl (vQ (P:=λw=>w<=a.es.length->∀C:D,qF 300000000 (.sl 3 1 (.int .i64)) C->C.es.length<=w->∃d,(λd=>qF 300000000 (.sl 3 1 (.int .i64)) d/\d.es.length<=a.es.length+1) d/\qP EE (qA EE) qIy 1 [a,dI (b),C,dI ((w:Nat):Int)] d) (a.es.length) (λw ih0=>?_) 0 (by omega) .nil yR (by simp[D.es]));intro hn0 C i z_v0_2;have i_v0_2:=qC i;have b_v0_2:=qR i;refine jF (R:=(λd=>qF 300000000 (.sl 3 1 (.int .i64)) d/\d.es.length<=a.es.length+1)) ?_;refine bS (qO u) ?_;refine bS zN ?_;refine iC (λc1=>?_) λc1=>?_
 ·replace c1:=dT c1;obtain⟨x2,q⟩:=mQ (d:=a) (s:=((w:Nat):Int)) (by omega) (by omega);obtain⟨x2,rfl⟩:=(zG r q);refine bS (d:=dB (true)) (vD (by omega) q) ?_;refine bS (d:=dI (x2)) (vX u (by omega) q rfl) ?_;refine bS zN ?_;refine iC (λc3=>?_) λc3=>?_
  ·replace c3:=dT c3;refine bS (d:=dB (true)) (vD (by omega) q) ?_;refine bS (d:=dI (x2)) (vX u (by omega) q rfl) ?_;refine bS (wB rfl) ?_;obtain⟨y4,A,I,l,n_y4⟩:=iZ (E:=EE) (B:=300000000) (el:=3) (sz:=1) (xs:=[dI (x2)]) (e:=.int .i64) rfl (qDD jB qDC) rfl rfl;simp only[dj,dg]at I;have i_y4:=qC l;have b_y4:=qR l;refine bS A ?_;obtain⟨y5,p,Q,y⟩:=pM (E:=EE) (el:=3) (sz:=1) (bytes:=8) i l (by decide) (by omega);have U:=qC y;have W:=qR y;refine bS p ?_;refine bS (d:=dI ((w+1:Nat):Int)) (zF (zH (by omega))) ?_;exact zK rfl (ih0 (by omega) (by omega) y5 y (by omega))
  replace c3:=dF c3;refine bS (wB rfl) ?_;obtain⟨y4,A,I,l,n_y4⟩:=iZ (E:=EE) (B:=300000000) (el:=3) (sz:=1) (xs:=[dI (b)]) (e:=.int .i64) rfl (qDD jB qDC) rfl rfl;simp only[dj,dg]at I;have i_y4:=qC l;have b_y4:=qR l;refine bS A ?_;obtain⟨y5,p,Q,y⟩:=pM (E:=EE) (el:=3) (sz:=1) (bytes:=8) i l (by decide) (by omega);have U:=qC y;have W:=qR y;refine bS p ?_;refine bS (qO u) ?_;refine bS zN ?_;refine iC (λM=>?_) λM=>?_
  ·replace M:=dT M;refine bS (d:=dB (true)) (vD (by omega) q) ?_;refine bS (d:=dI (x2)) (vX u (by omega) q rfl) ?_;refine bS bC ?_;refine iC (λc7=>?_) λc7=>?_
   ·replace c7:=dT c7;refine bS (d:=dI ((w+1:Nat):Int)) (zF (zH (by omega))) ?_;obtain⟨N,c,F,x⟩:=qD9 (E:=EE) (j:=((w+1:Nat):Int)) r (by omega) (by omega);have G:=qC x;have H:=qR x;refine bS c ?_;obtain⟨y9,z,l_y9,k⟩:=pM (E:=EE) (el:=3) (sz:=1) (bytes:=8) y x (by decide) (by omega);have i_y9:=qC k;have b_y9:=qR k;refine bS z ?_;exact zJ (ds:=[y9]) rfl ⟨k,by show y9.es.length<=_;omega⟩
   replace c7:=dF c7;obtain⟨N,c,F,x⟩:=qD9 (E:=EE) (j:=((w:Nat):Int)) r (by omega) (by omega);have G:=qC x;have H:=qR x;refine bS c ?_;obtain⟨y9,z,l_y9,k⟩:=pM (E:=EE) (el:=3) (sz:=1) (bytes:=8) y x (by decide) (by omega);have i_y9:=qC k;have b_y9:=qR k;refine bS z ?_;exact zJ (ds:=[y9]) rfl ⟨k,by show y9.es.length<=_;omega⟩
  replace M:=dF M;obtain⟨y7,o,O,g⟩:=qD9 (E:=EE) (j:=((w:Nat):Int)) r (by omega) (by omega);have S:=qC g;have V:=qR g;refine bS o ?_;obtain⟨N,c,F,x⟩:=pM (E:=EE) (el:=3) (sz:=1) (bytes:=8) y g (by decide) (by omega);have G:=qC x;have H:=qR x;refine bS c ?_;exact zJ (ds:=[N]) rfl ⟨x,by show N.es.length<=_;omega⟩
 replace c1:=dF c1;refine bS (wB rfl) ?_;obtain⟨y2,ev_y2,l_y2,K,n_y2⟩:=iZ (E:=EE) (B:=300000000) (el:=3) (sz:=1) (xs:=[dI (b)]) (e:=.int .i64) rfl (qDD jB qDC) rfl rfl;simp only[dj,dg]at l_y2;have i_y2:=qC K;have b_y2:=qR K;refine bS ev_y2 ?_;obtain⟨y3,Z,l_y3,t⟩:=pM (E:=EE) (el:=3) (sz:=1) (bytes:=8) i K (by decide) (by omega);have i_y3:=qC t;have b_y3:=qR t;refine bS Z ?_;refine bS (qO u) ?_;refine bS zN ?_;refine iC (λc4=>?_) λc4=>?_
 ·replace c4:=dT c4;obtain⟨x5,L⟩:=mQ (d:=a) (s:=((w:Nat):Int)) (by omega) (by omega);obtain⟨x5,rfl⟩:=(zG r L);refine bS (d:=dB (true)) (vD (by omega) L) ?_;refine bS (d:=dI (x5)) (vX u (by omega) L rfl) ?_;refine bS bC ?_;refine iC (λM=>?_) λM=>?_
  ·replace M:=dT M;refine bS (d:=dI ((w+1:Nat):Int)) (zF (zH (by omega))) ?_;obtain⟨y7,o,O,g⟩:=qD9 (E:=EE) (j:=((w+1:Nat):Int)) r (by omega) (by omega);have S:=qC g;have V:=qR g;refine bS o ?_;obtain⟨N,c,F,x⟩:=pM (E:=EE) (el:=3) (sz:=1) (bytes:=8) t g (by decide) (by omega);have G:=qC x;have H:=qR x;refine bS c ?_;exact zJ (ds:=[N]) rfl ⟨x,by show N.es.length<=_;omega⟩
  replace M:=dF M;obtain⟨y7,o,O,g⟩:=qD9 (E:=EE) (j:=((w:Nat):Int)) r (by omega) (by omega);have S:=qC g;have V:=qR g;refine bS o ?_;obtain⟨N,c,F,x⟩:=pM (E:=EE) (el:=3) (sz:=1) (bytes:=8) t g (by decide) (by omega);have G:=qC x;have H:=qR x;refine bS c ?_;exact zJ (ds:=[N]) rfl ⟨x,by show N.es.length<=_;omega⟩
 replace c4:=dF c4;obtain⟨y5,p,Q,y⟩:=qD9 (E:=EE) (j:=((w:Nat):Int)) r (by omega) (by omega);have U:=qC y;have W:=qR y;refine bS p ?_;obtain⟨y6,X,l_y6,J⟩:=pM (E:=EE) (el:=3) (sz:=1) (bytes:=8) t y (by decide) (by omega);have i_y6:=qC J;have b_y6:=qR J;refine bS X ?_;exact zJ (ds:=[y6]) rfl ⟨J,by show y6.es.length<=_;omega⟩
theorem zGr{a b c:D}(h_a:qF 300000000 (.sl 71 8 (.st [.int .i64,.sl 3 1 (.int .i64),.int .i64,.sl 31 1 (.sl 3 1 (.int .i64)),.int .i64,.sl 105 2 (.st [.str,.str]),.sl 73 2 (.st [.int .i64,.int .i64]),.sl 163 2 (.st [.int .i64,.int .i64])])) a)(h_b:qF 300000000 (.int .i64) b)(h_c:qF 300000000 (.int .i64) c):∃d,(qF 300000000 (.sl 3 1 (.int .i64))) d/\qA EE 91 [a,b,c] d:=by
 suffices h:∃d,(qF 300000000 (.sl 3 1 (.int .i64))) d/\qP EE (qA EE) qEb 0 [a,b,c] d by obtain⟨d,hd,hg⟩:=h;exact⟨d,hd,zFT rfl hg⟩
 have i_a:=qC h_a;have b_a:=qR h_a;obtain⟨b,rfl⟩:=h_b;obtain⟨c,rfl⟩:=h_c;refine jF (R:=(qF 300000000 (.sl 3 1 (.int .i64)))) ?_;refine bS (qO i_a) ?_;obtain⟨y0,ev_y0,l_y0,h_y0⟩:=qYT (E:=EE) (B:=300000000) (el:=4) (sz:=1) (bytes:=1) (ag:=false) (z:=[(.bool false)]) (n:=((a.es.length:Nat):Int)) (e:=.bool) (by omega) (by omega) rfl (by decide) fZ;have i_y0:=qC h_y0;have b_y0:=qR h_y0;refine bS ev_y0 ?_;refine bS (wB rfl) ?_;obtain⟨y1,ev_y1,l_y1,h_y1,n_y1⟩:=iZ (E:=EE) (B:=300000000) (el:=3) (sz:=1) (xs:=[dI (b)]) (e:=.int .i64) rfl (qDD jB qDC) rfl rfl;simp only[dj,dg]at l_y1;have i_y1:=qC h_y1;have b_y1:=qR h_y1;refine bS ev_y1 ?_;refine zK rfl (vQ (P:=λi2=>i2<=a.es.length+1->∀o:D,qF 300000000 (.sl 4 1 (.bool)) o->o.es.length=a.es.length->∀q:D,qF 300000000 (.sl 3 1 (.int .i64)) q->True->∃d,(qF 300000000 (.sl 3 1 (.int .i64))) d/\qP EE (qA EE) qEb 1 [a,dI (c),o,q,dI ((i2:Nat):Int)] d) (a.es.length+1) (λi2 ih2=>?_) 0 (by omega) y0 h_y0 (by omega) y1 h_y1 trivial);intro hn2 o t z_v2_2 q G z_v2_3;have i_v2_2:=qC t;have b_v2_2:=qR t;have W:=qC G;have b_v2_3:=qR G;refine jF (R:=(qF 300000000 (.sl 3 1 (.int .i64)))) ?_;refine bS (qO i_a) ?_;refine bS qFs ?_;refine iC (λc3=>?_) λc3=>?_
 ·replace c3:=dT c3;refine zK rfl (vQ (P:=λL=>L<=q.es.length->∀j:D,qF 300000000 (.sl 4 1 (.bool)) j->j.es.length=a.es.length->∀F:D,qF 300000000 (.sl 3 1 (.int .i64)) F->F.es.length+qMI j<=a.es.length->∃d,(qF 300000000 (.sl 3 1 (.int .i64))) d/\qP EE (qA EE) qEb 2 [a,dI (c),j,q,dI ((i2:Nat):Int),F,dI ((L:Nat):Int)] d) (q.es.length) (λL ih4=>?_) 0 (by omega) o t (by omega) .nil yR (by have:=qSL o;show 0+qMI o<=_;omega));intro hn4 j x z_v4_2 F r z_v4_5;have i_v4_2:=qC x;have b_v4_2:=qR x;have i_v4_5:=qC r;have b_v4_5:=qR r;refine jF (R:=(qF 300000000 (.sl 3 1 (.int .i64)))) ?_;refine bS (qO W) ?_;refine bS zN ?_;refine iC (λc5=>?_) λc5=>?_
  ·replace c5:=dT c5;obtain⟨x6,w⟩:=mQ (d:=q) (s:=((L:Nat):Int)) (by omega) (by omega);obtain⟨x6,rfl⟩:=(zG G w);refine bS (d:=dB (true)) (vD (by omega) w) ?_;refine bS (d:=dI (x6)) (vX W (by omega) w rfl) ?_;obtain⟨_,⟨r7,rfl,pa_r7,pb_r7⟩,k_r7⟩:=zFj (a:=a) (b:=dI (x6)) h_a jB;refine cS k_r7 ?_;refine zK rfl (vQ (P:=λi8=>∀k:D,qF 300000000 (.sl 4 1 (.bool)) k->k.es.length=a.es.length->∀l:D,qF 300000000 (.sl 3 1 (.int .i64)) l->l.es.length+qMI k<=a.es.length->∃d,(qF 300000000 (.sl 3 1 (.int .i64))) d/\qP EE (qA EE) qEb 3 [a,dI (c),k,q,dI ((i2:Nat):Int),l,dI ((L:Nat):Int),dI (r7),dI ((i8:Nat):Int)] d) (300000000) (λi8 ih8=>?_) 0 j x (by omega) F r (by omega));intro k y z_v8_2 l g z_v8_5;have i_v8_2:=qC y;have b_v8_2:=qR y;have i_v8_5:=qC g;have b_v8_5:=qR g;refine jF (R:=(qF 300000000 (.sl 3 1 (.int .i64)))) ?_;refine bS rY ?_;refine iC (λc9=>?_) λc9=>?_
   ·replace c9:=dT c9;obtain⟨x10,C⟩:=mQ (d:=a) (s:=(r7)) (by omega) (by omega);obtain⟨_,rfl,_,_,rfl,⟨x10_0,rfl⟩,x10_1,_,rfl,K,_,_,rfl,⟨x10_2,rfl⟩,x10_3,_,rfl,J,_,_,rfl,⟨x10_4,rfl⟩,x10_5,_,rfl,I,N,_,rfl,u,x10_7,_,rfl,H,rfl⟩:=(zG h_a C);have i_x10_1:=qC K;have b_x10_1:=qR K;have i_x10_3:=qC J;have b_x10_3:=qR J;have i_x10_5:=qC I;have b_x10_5:=qR I;have p:=qC u;have b_x10_6:=qR u;have i_x10_7:=qC H;have b_x10_7:=qR H;refine bS (d:=dB (true)) (vD (by omega) C) ?_;refine bS (d:=N) (oO (off:=6) i_a (by omega) C rfl p.one (by decide)) ?_;refine bS (qO p) ?_;refine bS zN ?_;refine iC (λc11=>?_) λc11=>?_
    ·replace c11:=dT c11;refine bS (d:=dB (true)) (vD (by omega) C) ?_;refine bS (d:=N) (oO (off:=6) i_a (by omega) C rfl p.one (by decide)) ?_;obtain⟨x12,V⟩:=mQ (d:=N) (s:=((i8:Nat):Int)) (by omega) (by omega);obtain⟨_,rfl,_,_,rfl,⟨x12_0,rfl⟩,_,_,rfl,⟨M,rfl⟩,rfl⟩:=(zG u V);refine bS (d:=dB (true)) (vD (by omega) V) ?_;refine bS (d:=.agg [dI (x12_0),dI (M)]) (xO p (by omega) V rfl) ?_;refine bS (qS rfl) ?_;refine bS (qB (off:=1) rfl rfl) ?_;obtain⟨_,⟨r13,rfl,pa_r13,pb_r13⟩,k_r13⟩:=zFj (a:=a) (b:=dI (M)) h_a jB;refine cS k_r13 ?_;refine bS (qB (off:=0) rfl rfl) ?_;refine bS bC ?_;refine iC (λc14=>?_) λc14=>?_
     ·replace c14:=dT c14;refine bS rY ?_;refine iC (λc15=>?_) λc15=>?_
      ·replace c15:=dT c15;obtain⟨x16,A⟩:=mQ (d:=k) (s:=(r13)) (by omega) (by omega);obtain⟨x16,rfl⟩:=(zG y A);refine bS (d:=dB (true)) (vD (by omega) A) ?_;refine bS (d:=dB (x16)) (vX i_v8_2 (by omega) A rfl) ?_;refine bS jJ ?_;refine iC (λc17=>?_) λc17=>?_
       ·have cf:x16=false:=by
         cases x16 with
         |false=>rfl
         |true=>exact absurd c17 (by decide)
        subst cf
        refine bS (d:=dB (true)) (vD (by omega) A) ?_
        obtain⟨y18,ev_y18,l_y18,S,q_y18⟩:=qQQ (E:=EE) (i:=(r13)) y (by omega) (by omega) A
        have i_y18:=qC S
        have b_y18:=qR S
        refine bS ev_y18 ?_
        refine bS (qB (off:=1) rfl rfl) ?_
        refine bS (wB rfl) ?_
        obtain⟨y19,ev_y19,l_y19,Q,n_y19⟩:=iZ (E:=EE) (B:=300000000) (el:=3) (sz:=1) (xs:=[dI (M)]) (e:=.int .i64) rfl (qDD jB qDC) rfl rfl
        simp only[dj,dg]at l_y19
        have i_y19:=qC Q
        have b_y19:=qR Q
        refine bS ev_y19 ?_
        obtain⟨y20,ev_y20,l_y20,O⟩:=pM (E:=EE) (el:=3) (sz:=1) (bytes:=8) g Q (by decide) (by omega)
        have i_y20:=qC O
        have b_y20:=qR O
        refine bS ev_y20 ?_
        refine bS (d:=dI ((i8+1:Nat):Int)) (zF (zH (by omega))) ?_
        exact zK rfl (ih8 (by omega) y18 S (by omega) y20 O (by omega))
       clear c17;refine bS (d:=dI ((i8+1:Nat):Int)) (zF (zH (by omega))) ?_;exact zK rfl (ih8 (by omega) k y (by omega) l g (by omega))
      replace c15:=dF c15;refine bS (d:=dI ((i8+1:Nat):Int)) (zF (zH (by omega))) ?_;exact zK rfl (ih8 (by omega) k y (by omega) l g (by omega))
     replace c14:=dF c14;refine bS (d:=dI ((i8+1:Nat):Int)) (zF (zH (by omega))) ?_;exact zK rfl (ih8 (by omega) k y (by omega) l g (by omega))
    replace c11:=dF c11;refine bS (d:=dI ((L+1:Nat):Int)) (zF (zH (by omega))) ?_;exact zK rfl (ih4 (by omega) (by omega) k y (by omega) l g (by omega))
   replace c9:=dF c9;refine bS (d:=dI ((L+1:Nat):Int)) (zF (zH (by omega))) ?_;exact zK rfl (ih4 (by omega) (by omega) k y (by omega) l g (by omega))
  replace c5:=dF c5;refine bS (d:=dI ((i2+1:Nat):Int)) (zF (zH (by omega))) ?_;exact zK rfl (ih2 (by omega) (by omega) j x (by omega) F r trivial)
 replace c3:=dF c3;refine zK rfl (vQ (P:=λL=>L<=a.es.length->∀j:D,qF 300000000 (.sl 3 1 (.int .i64)) j->j.es.length<=L->∃d,(qF 300000000 (.sl 3 1 (.int .i64))) d/\qP EE (qA EE) qEb 4 [a,o,j,dI ((L:Nat):Int)] d) (a.es.length) (λL ih4=>?_) 0 (by omega) .nil yR (by simp[D.es]));intro hn4 j x z_v4_2;have i_v4_2:=qC x;have b_v4_2:=qR x;refine jF (R:=(qF 300000000 (.sl 3 1 (.int .i64)))) ?_;refine bS (qO i_a) ?_;refine bS zN ?_;refine iC (λc5=>?_) λc5=>?_
 ·replace c5:=dT c5;obtain⟨x6,w⟩:=mQ (d:=o) (s:=((L:Nat):Int)) (by omega) (by omega);obtain⟨x6,rfl⟩:=(zG t w);refine bS (d:=dB (true)) (vD (by omega) w) ?_;refine bS (d:=dB (x6)) (vX i_v2_2 (by omega) w rfl) ?_;refine iC (λc7=>?_) λc7=>?_
  ·clear c7;obtain⟨x8,e_x8⟩:=mQ (d:=a) (s:=((L:Nat):Int)) (by omega) (by omega);obtain⟨_,rfl,_,_,rfl,⟨x8_0,rfl⟩,x8_1,_,rfl,h_x8_1,_,_,rfl,⟨x8_2,rfl⟩,x8_3,_,rfl,h_x8_3,_,_,rfl,⟨x8_4,rfl⟩,x8_5,_,rfl,h_x8_5,x8_6,_,rfl,Z,x8_7,_,rfl,X,rfl⟩:=(zG h_a e_x8);have i_x8_1:=qC h_x8_1;have b_x8_1:=qR h_x8_1;have i_x8_3:=qC h_x8_3;have b_x8_3:=qR h_x8_3;have i_x8_5:=qC h_x8_5;have b_x8_5:=qR h_x8_5;have i_x8_6:=qC Z;have b_x8_6:=qR Z;have i_x8_7:=qC X;have b_x8_7:=qR X;refine bS (d:=dB (true)) (vD (by omega) e_x8) ?_;refine bS (d:=dI (x8_0)) (oO (off:=0) i_a (by omega) e_x8 rfl rfl (by decide)) ?_;refine bS (wB rfl) ?_;obtain⟨y9,ev_y9,l_y9,h_y9,n_y9⟩:=iZ (E:=EE) (B:=300000000) (el:=3) (sz:=1) (xs:=[dI (x8_0)]) (e:=.int .i64) rfl (qDD jB qDC) rfl rfl;simp only[dj,dg]at l_y9;have i_y9:=qC h_y9;have b_y9:=qR h_y9;refine bS ev_y9 ?_;obtain⟨y10,ev_y10,l_y10,U⟩:=pM (E:=EE) (el:=3) (sz:=1) (bytes:=8) x h_y9 (by decide) (by omega);have i_y10:=qC U;have b_y10:=qR U;refine bS ev_y10 ?_;refine bS (d:=dI ((L+1:Nat):Int)) (zF (zH (by omega))) ?_;exact zK rfl (ih4 (by omega) (by omega) y10 U (by omega))
  clear c7;refine bS (d:=dI ((L+1:Nat):Int)) (zF (zH (by omega))) ?_;exact zK rfl (ih4 (by omega) (by omega) j x (by omega))
 replace c5:=dF c5;exact zJ rfl x
end Go.Proofs.YtocbbgmhkhallaaGreatDoor
namespace Go.Proofs.YtocbbgmhkhallaaGreatDoor
open Go Go.Am Go.Proofs Go.Am.Tt
theorem qIL{el sz:Nat}{e:Sh}{d:D}(h:qF 300000000 (.sl el sz e) d):oK d=(d.es.length:Int):=by simp only[qF]at h;rcases h with rfl|⟨es,rfl,_⟩<;>rfl
def qQ6:Tt.Spec:=⟨[(.str BG),(.int .i64)],[(.int .i64),(.int .i64)],[(.z,aA 1,0),(aA 1,aA 0,-1)],[(.z,aA 3,0),(aA 3,.z,4)]⟩
def qQ5:Tt.Spec:=⟨[n2,(.int .i64)],[n2],[(aA 0,.z,299999999)],[(aA 2,aA 0,1)]⟩
def zB5:Tt.Spec:=⟨[n0,(.int .i64),(.int .i64)],[n2],[],[]⟩
theorem zDI:yA (qA EE) 150 qQ6:=by
 intro ds hd x;simp only[qQ6,zS]at hd x;obtain⟨a,_,rfl,j,b,_,rfl,i,rfl⟩:=hd;have e:=x _ aq;have c:=x _ (mC _ aq);obtain⟨_,⟨p,n,rfl,l,k⟩,h3⟩:=zCV (oW rfl j) (oW rfl i) (λn y=>by subst y;have:(0:Int)<=n+0:=e;omega) (λs n g y=>by subst g y;have:n<=(s.size:Int) + -1:=c;omega);refine⟨[dI p,dI n],?_,λq h=>?_,h3⟩
 ·simp only[qQ6,zS];exact⟨_,_,rfl,by simp only[zC];exact⟨_,rfl⟩,_,_,rfl,by simp only[zC];exact⟨_,rfl⟩,rfl⟩
 rcases bl.1 h with rfl|h
 ·show(0:Int)<=n+0;omega
 rcases bl.1 h with rfl|h
 ·show n<=(0:Int)+4;omega
 cases h
theorem zDH:yA (qA EE) 151 qQ5:=by
 intro ds hd y;simp only[qQ5,zS]at hd y;obtain⟨a,_,rfl,j,b,_,rfl,i,rfl⟩:=hd;have e:=y _ aq;have h:=oW rfl j;have hv:=qIL h;obtain⟨d,⟨c,k⟩,h3⟩:=zCU h (oW rfl i) (by have:oK a<=(0:Int)+299999999:=e;omega);have g:=qIL c;refine⟨[d],by simp only[qQ5,zS];exact⟨_,_,rfl,eR rfl c,rfl⟩,λq x=>?_,h3⟩;rcases bl.1 x with rfl|x
 ·show oK d<=oK a+1;omega
 cases x
theorem zGU:yA (qA EE) 91 zB5:=by intro ds hd _;simp only[zB5,zS]at hd;obtain⟨a,_,rfl,e,b,_,rfl,y,c,_,rfl,x,rfl⟩:=hd;obtain⟨d,i,g⟩:=zGr (oW rfl e) (oW rfl y) (oW rfl x);exact⟨[d],by simp only[zB5,zS];exact⟨_,_,rfl,eR rfl i,rfl⟩,λq h=>(by cases h),g⟩
def qQW:List (LO×Tt.Spec):=(150,qQ6)::(151,qQ5)::(91,zB5)::s6 [] qXI
theorem qQV:∀p∈qQW,yA (qA EE) p.1 p.2:=sK zDI<|sK zDH<|sK zGU<|qQT
theorem zGy:qDF EE Tryz.prog TT qQW qXH=true:=by kernel_rfl
theorem qNU:∀p∈s6 qQW qXH,yA (qA EE) p.1 p.2:=qDE qPr qIP uT qQV zGy
end Go.Proofs.YtocbbgmhkhallaaGreatDoor
