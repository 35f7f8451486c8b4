/- Functions that always give something, by hand. Conditions: none. -/
import Derived.Test.YtminhjecpnpaeaaGreatDoorBg
import Derived.Test.YtminhjecpnpaeaaGreatDoorUv
set_option linter.unusedVariables false
set_option linter.unusedSimpArgs false
namespace Go.Proofs.YtminhjecpnpaeaaGreatDoor.Lt
open Go Go.Am Go.Proofs Go.Am.Tt
attribute [local irreducible] Go.Am.wp Go.Am.TOp.eval
theorem qC7(m:Int):∃n:Int,TOp.eval EE (.conv 5 3) [.leaf (.int .u8 m)]=some (dI n):=⟨IntKind.i64.wrap m,by kernel_rfl⟩
theorem lD(m:Int){x y:Operand}:∃n:Int,TOp.eval EE (.bin .rem 3 x y) [dI m,dI ((64:Nat):Int)]=some (dI n):=⟨m.tmod 64,by kernel_rfl⟩
theorem qQf{a:D}(h:qC 300000000 (.int .i64) a):∃d,qC 300000000 (.bool) d/\Holds EE 185 [a] d:=
 qXA (S:=qYQ.S) (qAL qQa (by kernel_rfl)) rfl rfl rfl rfl (qN h wE)
theorem qQe{a:D}(h:qC 300000000 (.int .i64) a):∃d,qC 300000000 (.str) d/\Holds EE 186 [a] d:=
 qXA (S:=qYP.S) (qAL qQa (by kernel_rfl)) rfl rfl rfl rfl (qN h wE)
theorem zAD{a b:D}(h:qC 300000000 (.sl 64 8 (.st [.int .i64,.sl 3 1 (.int .i64),.int .i64,.sl 31 1 (.sl 3 1 (.int .i64)),.int .i64,.sl 94 2 (.st [.str,.str]),.sl 66 2 (.st [.int .i64,.int .i64]),.sl 120 2 (.st [.int .i64,.int .i64])])) a)(y:qC 300000000 (.int .i64) b):∃d,(∃n:Int,d=dI n/\ -1<=n/\n<(a.es.length:Int))/\Holds EE 90 [a,b] d:=by
 obtain⟨rs,x,c,g⟩:=(qAL qQa (f:=90) (S:=zAW.S) (by kernel_rfl)) [a,b] (tR rfl (qN h (qN y wE))) (λq e=>by cases e);have x:zZ [.int .i64] rs:=x;simp only[zZ]at x;obtain⟨d,_,rfl,⟨n,rfl⟩,rfl⟩:=x;have k:iJ a=(a.es.length:Int):=by simp only[qC]at h;rcases h with rfl|⟨es,rfl,_⟩<;>rfl
 have j:(0:Int)<=n+1:=c _ List.mem_cons_self;have i:n<=iJ a + -1:=c _ (mC _ List.mem_cons_self);exact⟨_,⟨n,rfl,by omega,by omega⟩,g⟩
theorem qZv{a b:D}(h_a:qC 300000000 (.str) a)(h_b:qC 300000000 (.int .i64) b)(p0:∀n:Int,b=dI n->0<=n)(p1:∀(s:ByteArray) (n:Int),a=.leaf (.string s)->b=dI n->n<(s.size:Int)):∃d,(λd=>∃p n:Int,d=.tup [dI p,dI n]/\0<=n/\n<=4) d/\Holds EE 161 [a,b] d:=by
 suffices h:∃d,(λd=>∃p n:Int,d=.tup [dI p,dI n]/\0<=n/\n<=4) d/\qX EE (Holds EE) uS 0 [a,b] d by obtain⟨d,hd,hg⟩:=h;exact⟨d,hd,qZt rfl hg⟩
 obtain⟨a,rfl,hs_a⟩:=h_a;obtain⟨b,rfl⟩:=h_b;replace p0:=p0 _ rfl;replace p1:=p1 _ _ rfl rfl;refine yS (R:=(λd=>∃p n:Int,d=.tup [dI p,dI n]/\0<=n/\n<=4)) ?_;obtain⟨w0,p0,q0,ew0⟩:=uT (E:=EE) (s:=a) (i:=(b)) (by omega) (by omega);refine bS ew0 ?_;obtain⟨w1,ew1⟩:=qC7 (w0);refine bS ew1 ?_;refine bS rW ?_;refine iC (λc2=>?_) λc2=>?_
 ·replace c2:=yB c2;obtain⟨w3,ew3⟩:∃w:Int,IntKind.i64.wrap ((w1)-((240:Nat):Int))=w:=⟨_,rfl⟩;refine bS (d:=dI (w3)) (by rw[←ew3];exact qBg) ?_;refine bS (d:=dI ((b)+((4:Nat):Int))) (kE (by omega)) ?_;refine bS qE9 ?_;refine bS oF ?_;refine iC (λK=>?_) λK=>?_
  ·replace K:=yB K;exact vX rfl ⟨_,_,rfl,by omega,by omega⟩
  ·replace K:=dF K;refine vV rfl (xK (P:=λi5=>1<=i5->∀g:Int,∃d,(λd=>∃p n:Int,d=.tup [dI p,dI n]/\0<=n/\n<=4) d/\qX EE (Holds EE) uS 1 [.leaf (.string a),dI (b),dI (g),dI ((4:Nat):Int),dI ((i5:Nat):Int)] d) (4) (λi5 ih5=>?_) 1 (by omega) _);intro hn5 g;refine yS (R:=(λd=>∃p n:Int,d=.tup [dI p,dI n]/\0<=n/\n<=4)) ?_;refine bS vY ?_;refine iC (λI=>?_) λI=>?_
   ·replace I:=yB I;obtain⟨w7,ew7⟩:∃w:Int,IntKind.i64.wrap ((g)*((64:Nat):Int))=w:=⟨_,rfl⟩;refine bS (d:=dI (w7)) (by rw[←ew7];exact sM) ?_;refine bS (d:=dI ((b)+((i5:Nat):Int))) (kE (by omega)) ?_;obtain⟨Q,p8,q8,F⟩:=uT (E:=EE) (s:=a) (i:=((b)+((i5:Nat):Int))) (by omega) (by omega);refine bS F ?_;obtain⟨O,r⟩:=qC7 (Q);refine bS r ?_;obtain⟨o,c⟩:=lD (O);refine bS c ?_;obtain⟨l,y⟩:∃w:Int,IntKind.i64.wrap ((w7)+(o))=w:=⟨_,rfl⟩;refine bS (d:=dI (l)) (by rw[←y];exact sO) ?_;refine bS (d:=dI ((i5+1:Nat):Int)) (vC (vP (by omega))) ?_;exact vV rfl (ih5 (by omega) (by omega) _)
   ·replace I:=dF I;obtain⟨_,⟨r7,rfl⟩,k_r7⟩:=qQf (a:=dI (g)) jH;refine cS k_r7 ?_;refine bS wG ?_;refine iC (λN=>?_) λN=>?_
    ·clear N;exact vX rfl ⟨_,_,rfl,by omega,by omega⟩
    ·clear N;obtain⟨_,⟨r9,rfl,hs_r9⟩,A⟩:=qQe (a:=dI (g)) jH;refine cS A ?_;refine bS (d:=dI ((b)+((4:Nat):Int))) (kE (by omega)) ?_;obtain⟨s10,hs_s10,ev10⟩:=qBI (E:=EE) (B:=300000000) (s:=a) (i:=(b)) (j:=((b)+((4:Nat):Int))) (by omega) (by omega) (by omega) (by omega);refine bS ev10 ?_;refine bS m8 ?_;refine iC (λX=>?_) λX=>?_
     ·clear X;exact vX rfl ⟨_,_,rfl,by omega,by omega⟩
     ·clear X;exact vX rfl ⟨_,_,rfl,by omega,by omega⟩
 ·replace c2:=dF c2;refine bS rW ?_;refine iC (λc3=>?_) λc3=>?_
  ·replace c3:=yB c3;obtain⟨w4,ew4⟩:∃w:Int,IntKind.i64.wrap ((w1)-((224:Nat):Int))=w:=⟨_,rfl⟩;refine bS (d:=dI (w4)) (by rw[←ew4];exact qBg) ?_;refine bS (d:=dI ((b)+((3:Nat):Int))) (kE (by omega)) ?_;refine bS qE9 ?_;refine bS oF ?_;refine iC (λJ=>?_) λJ=>?_
   ·replace J:=yB J;exact vX rfl ⟨_,_,rfl,by omega,by omega⟩
   ·replace J:=dF J;refine vV rfl (xK (P:=λu=>1<=u->∀x:Int,∃d,(λd=>∃p n:Int,d=.tup [dI p,dI n]/\0<=n/\n<=4) d/\qX EE (Holds EE) uS 1 [.leaf (.string a),dI (b),dI (x),dI ((3:Nat):Int),dI ((u:Nat):Int)] d) (3) (λu U=>?_) 1 (by omega) _);intro hn6 x;refine yS (R:=(λd=>∃p n:Int,d=.tup [dI p,dI n]/\0<=n/\n<=4)) ?_;refine bS vY ?_;refine iC (λH=>?_) λH=>?_
    ·replace H:=yB H;obtain⟨Q,F⟩:∃w:Int,IntKind.i64.wrap ((x)*((64:Nat):Int))=w:=⟨_,rfl⟩;refine bS (d:=dI (Q)) (by rw[←F];exact sM) ?_;refine bS (d:=dI ((b)+((u:Nat):Int))) (kE (by omega)) ?_;obtain⟨O,p9,q9,r⟩:=uT (E:=EE) (s:=a) (i:=((b)+((u:Nat):Int))) (by omega) (by omega);refine bS r ?_;obtain⟨o,c⟩:=qC7 (O);refine bS c ?_;obtain⟨l,y⟩:=lD (o);refine bS y ?_;obtain⟨z,k⟩:∃w:Int,IntKind.i64.wrap ((Q)+(l))=w:=⟨_,rfl⟩;refine bS (d:=dI (z)) (by rw[←k];exact sO) ?_;refine bS (d:=dI ((u+1:Nat):Int)) (vC (vP (by omega))) ?_;exact vV rfl (U (by omega) (by omega) _)
    ·replace H:=dF H;obtain⟨_,⟨r8,rfl⟩,C⟩:=qQf (a:=dI (x)) jH;refine cS C ?_;refine bS wG ?_;refine iC (λV=>?_) λV=>?_
     ·clear V;exact vX rfl ⟨_,_,rfl,by omega,by omega⟩
     ·clear V;obtain⟨_,⟨r10,rfl,M⟩,q⟩:=qQe (a:=dI (x)) jH;refine cS q ?_;refine bS (d:=dI ((b)+((3:Nat):Int))) (kE (by omega)) ?_;obtain⟨s11,L,G⟩:=qBI (E:=EE) (B:=300000000) (s:=a) (i:=(b)) (j:=((b)+((3:Nat):Int))) (by omega) (by omega) (by omega) (by omega);refine bS G ?_;refine bS m8 ?_;refine iC (λt=>?_) λt=>?_
      ·clear t;exact vX rfl ⟨_,_,rfl,by omega,by omega⟩
      ·clear t;exact vX rfl ⟨_,_,rfl,by omega,by omega⟩
  ·replace c3:=dF c3;refine bS rW ?_;refine iC (λK=>?_) λK=>?_
   ·replace K:=yB K;obtain⟨w5,ew5⟩:∃w:Int,IntKind.i64.wrap ((w1)-((192:Nat):Int))=w:=⟨_,rfl⟩;refine bS (d:=dI (w5)) (by rw[←ew5];exact qBg) ?_;refine bS (d:=dI ((b)+((2:Nat):Int))) (kE (by omega)) ?_;refine bS qE9 ?_;refine bS oF ?_;refine iC (λI=>?_) λI=>?_
    ·replace I:=yB I;exact vX rfl ⟨_,_,rfl,by omega,by omega⟩
    ·replace I:=dF I;refine vV rfl (xK (P:=λi7=>1<=i7->∀e:Int,∃d,(λd=>∃p n:Int,d=.tup [dI p,dI n]/\0<=n/\n<=4) d/\qX EE (Holds EE) uS 1 [.leaf (.string a),dI (b),dI (e),dI ((2:Nat):Int),dI ((i7:Nat):Int)] d) (2) (λi7 ih7=>?_) 1 (by omega) _);intro hn7 e;refine yS (R:=(λd=>∃p n:Int,d=.tup [dI p,dI n]/\0<=n/\n<=4)) ?_;refine bS vY ?_;refine iC (λN=>?_) λN=>?_
     ·replace N:=yB N;obtain⟨O,r⟩:∃w:Int,IntKind.i64.wrap ((e)*((64:Nat):Int))=w:=⟨_,rfl⟩;refine bS (d:=dI (O)) (by rw[←r];exact sM) ?_;refine bS (d:=dI ((b)+((i7:Nat):Int))) (kE (by omega)) ?_;obtain⟨o,p10,q10,c⟩:=uT (E:=EE) (s:=a) (i:=((b)+((i7:Nat):Int))) (by omega) (by omega);refine bS c ?_;obtain⟨l,y⟩:=qC7 (o);refine bS y ?_;obtain⟨z,k⟩:=lD (l);refine bS k ?_;obtain⟨w13,ew13⟩:∃w:Int,IntKind.i64.wrap ((O)+(z))=w:=⟨_,rfl⟩;refine bS (d:=dI (w13)) (by rw[←ew13];exact sO) ?_;refine bS (d:=dI ((i7+1:Nat):Int)) (vC (vP (by omega))) ?_;exact vV rfl (ih7 (by omega) (by omega) _)
     ·replace N:=dF N;obtain⟨_,⟨r9,rfl⟩,A⟩:=qQf (a:=dI (e)) jH;refine cS A ?_;refine bS wG ?_;refine iC (λZ=>?_) λZ=>?_
      ·clear Z;exact vX rfl ⟨_,_,rfl,by omega,by omega⟩
      ·clear Z;obtain⟨_,⟨r11,rfl,hs_r11⟩,S⟩:=qQe (a:=dI (e)) jH;refine cS S ?_;refine bS (d:=dI ((b)+((2:Nat):Int))) (kE (by omega)) ?_;obtain⟨s12,hs_s12,ev12⟩:=qBI (E:=EE) (B:=300000000) (s:=a) (i:=(b)) (j:=((b)+((2:Nat):Int))) (by omega) (by omega) (by omega) (by omega);refine bS ev12 ?_;refine bS m8 ?_;refine iC (λW=>?_) λW=>?_
       ·clear W;exact vX rfl ⟨_,_,rfl,by omega,by omega⟩
       ·clear W;exact vX rfl ⟨_,_,rfl,by omega,by omega⟩
   ·replace K:=dF K;refine bS (d:=dI ((b)+((1:Nat):Int))) (kE (by omega)) ?_;refine bS qE9 ?_;refine bS oF ?_;refine iC (λJ=>?_) λJ=>?_
    ·replace J:=yB J;exact vX rfl ⟨_,_,rfl,by omega,by omega⟩
    ·replace J:=dF J;refine vV rfl (xK (P:=λu=>1<=u->∀x:Int,∃d,(λd=>∃p n:Int,d=.tup [dI p,dI n]/\0<=n/\n<=4) d/\qX EE (Holds EE) uS 1 [.leaf (.string a),dI (b),dI (x),dI ((1:Nat):Int),dI ((u:Nat):Int)] d) (1) (λu U=>?_) 1 (by omega) _);intro hn6 x;refine yS (R:=(λd=>∃p n:Int,d=.tup [dI p,dI n]/\0<=n/\n<=4)) ?_;refine bS vY ?_;refine iC (λH=>?_) λH=>?_
     ·replace H:=yB H;obtain⟨Q,F⟩:∃w:Int,IntKind.i64.wrap ((x)*((64:Nat):Int))=w:=⟨_,rfl⟩;refine bS (d:=dI (Q)) (by rw[←F];exact sM) ?_;refine bS (d:=dI ((b)+((u:Nat):Int))) (kE (by omega)) ?_;obtain⟨O,p9,q9,r⟩:=uT (E:=EE) (s:=a) (i:=((b)+((u:Nat):Int))) (by omega) (by omega);refine bS r ?_;obtain⟨o,c⟩:=qC7 (O);refine bS c ?_;obtain⟨l,y⟩:=lD (o);refine bS y ?_;obtain⟨z,k⟩:∃w:Int,IntKind.i64.wrap ((Q)+(l))=w:=⟨_,rfl⟩;refine bS (d:=dI (z)) (by rw[←k];exact sO) ?_;refine bS (d:=dI ((u+1:Nat):Int)) (vC (vP (by omega))) ?_;exact vV rfl (U (by omega) (by omega) _)
     ·replace H:=dF H;obtain⟨_,⟨r8,rfl⟩,C⟩:=qQf (a:=dI (x)) jH;refine cS C ?_;refine bS wG ?_;refine iC (λV=>?_) λV=>?_
      ·clear V;exact vX rfl ⟨_,_,rfl,by omega,by omega⟩
      ·clear V;obtain⟨_,⟨r10,rfl,M⟩,q⟩:=qQe (a:=dI (x)) jH;refine cS q ?_;refine bS (d:=dI ((b)+((1:Nat):Int))) (kE (by omega)) ?_;obtain⟨s11,L,G⟩:=qBI (E:=EE) (B:=300000000) (s:=a) (i:=(b)) (j:=((b)+((1:Nat):Int))) (by omega) (by omega) (by omega) (by omega);refine bS G ?_;refine bS m8 ?_;refine iC (λt=>?_) λt=>?_
       ·clear t;exact vX rfl ⟨_,_,rfl,by omega,by omega⟩
       ·clear t;exact vX rfl ⟨_,_,rfl,by omega,by omega⟩
theorem qZw{a b:D}(r:qC 300000000 (.sl 3 1 (.int .i64)) a)(h_b:qC 300000000 (.int .i64) b)(hp:a.es.length<300000000):∃d,(λd=>qC 300000000 (.sl 3 1 (.int .i64)) d/\d.es.length<=a.es.length+1) d/\Holds EE 125 [a,b] d:=by
 suffices h:∃d,(λd=>qC 300000000 (.sl 3 1 (.int .i64)) d/\d.es.length<=a.es.length+1) d/\qX EE (Holds EE) iL 0 [a,b] d by obtain⟨d,hd,hg⟩:=h;exact⟨d,hd,qTR rfl hg⟩
 have u:=qB r;have b_a:=qK r;obtain⟨b,rfl⟩:=h_b;refine yS (R:=(λd=>qC 300000000 (.sl 3 1 (.int .i64)) d/\d.es.length<=a.es.length+1)) ?_;refine vV rfl (xK (P:=λw=>w<=a.es.length->∀C:D,qC 300000000 (.sl 3 1 (.int .i64)) C->C.es.length<=w->∃d,(λd=>qC 300000000 (.sl 3 1 (.int .i64)) d/\d.es.length<=a.es.length+1) d/\qX EE (Holds EE) iL 1 [a,dI (b),C,dI ((w:Nat):Int)] d) (a.es.length) (λw ih0=>?_) 0 (by omega) .nil oP (by simp[D.es]));intro hn0 C i z_v0_2;have i_v0_2:=qB i;have b_v0_2:=qK i;refine yS (R:=(λd=>qC 300000000 (.sl 3 1 (.int .i64)) d/\d.es.length<=a.es.length+1)) ?_;refine bS (qM u) ?_;refine bS vY ?_;refine iC (λc1=>?_) λc1=>?_
 ·replace c1:=yB c1;obtain⟨x2,q⟩:=Go.Am.get_at (d:=a) (s:=((w:Nat):Int)) (by omega) (by omega);obtain⟨x2,rfl⟩:=(jG r q);refine bS (d:=dB (true)) (j5 (by omega) q) ?_;refine bS (d:=dI (x2)) (jJ u (by omega) q rfl) ?_;refine bS vY ?_;refine iC (λc3=>?_) λc3=>?_
  ·replace c3:=yB c3;refine bS (d:=dB (true)) (j5 (by omega) q) ?_;refine bS (d:=dI (x2)) (jJ u (by omega) q rfl) ?_;refine bS (xY rfl) ?_;obtain⟨y4,A,I,l,n_y4⟩:=iI (E:=EE) (B:=300000000) (el:=3) (sz:=1) (xs:=[dI (x2)]) (e:=.int .i64) rfl (qDt jH qDs) rfl rfl;simp only[List.length_cons,List.length_nil]at I;have i_y4:=qB l;have b_y4:=qK l;refine bS A ?_;obtain⟨y5,p,Q,y⟩:=rU (E:=EE) (el:=3) (sz:=1) (bytes:=8) i l (by decide) (by omega);have U:=qB y;have W:=qK y;refine bS p ?_;refine bS (d:=dI ((w+1:Nat):Int)) (vC (vP (by omega))) ?_;exact vV rfl (ih0 (by omega) (by omega) y5 y (by omega))
  replace c3:=dF c3;refine bS (xY rfl) ?_;obtain⟨y4,A,I,l,n_y4⟩:=iI (E:=EE) (B:=300000000) (el:=3) (sz:=1) (xs:=[dI (b)]) (e:=.int .i64) rfl (qDt jH qDs) rfl rfl;simp only[List.length_cons,List.length_nil]at I;have i_y4:=qB l;have b_y4:=qK l;refine bS A ?_;obtain⟨y5,p,Q,y⟩:=rU (E:=EE) (el:=3) (sz:=1) (bytes:=8) i l (by decide) (by omega);have U:=qB y;have W:=qK y;refine bS p ?_;refine bS (qM u) ?_;refine bS vY ?_;refine iC (λM=>?_) λM=>?_
  ·replace M:=yB M;refine bS (d:=dB (true)) (j5 (by omega) q) ?_;refine bS (d:=dI (x2)) (jJ u (by omega) q rfl) ?_;refine bS cA ?_;refine iC (λc7=>?_) λc7=>?_
   ·replace c7:=yB c7;refine bS (d:=dI ((w+1:Nat):Int)) (vC (vP (by omega))) ?_;obtain⟨N,c,F,x⟩:=qDO (E:=EE) (j:=((w+1:Nat):Int)) r (by omega) (by omega);have G:=qB x;have H:=qK x;refine bS c ?_;obtain⟨y9,z,l_y9,k⟩:=rU (E:=EE) (el:=3) (sz:=1) (bytes:=8) y x (by decide) (by omega);have i_y9:=qB k;have b_y9:=qK k;refine bS z ?_;exact vX (ds:=[y9]) rfl ⟨k,by show y9.es.length<=_;omega⟩
   replace c7:=dF c7;obtain⟨N,c,F,x⟩:=qDO (E:=EE) (j:=((w:Nat):Int)) r (by omega) (by omega);have G:=qB x;have H:=qK x;refine bS c ?_;obtain⟨y9,z,l_y9,k⟩:=rU (E:=EE) (el:=3) (sz:=1) (bytes:=8) y x (by decide) (by omega);have i_y9:=qB k;have b_y9:=qK k;refine bS z ?_;exact vX (ds:=[y9]) rfl ⟨k,by show y9.es.length<=_;omega⟩
  replace M:=dF M;obtain⟨y7,o,O,g⟩:=qDO (E:=EE) (j:=((w:Nat):Int)) r (by omega) (by omega);have S:=qB g;have V:=qK g;refine bS o ?_;obtain⟨N,c,F,x⟩:=rU (E:=EE) (el:=3) (sz:=1) (bytes:=8) y g (by decide) (by omega);have G:=qB x;have H:=qK x;refine bS c ?_;exact vX (ds:=[N]) rfl ⟨x,by show N.es.length<=_;omega⟩
 replace c1:=dF c1;refine bS (xY rfl) ?_;obtain⟨y2,ev_y2,l_y2,K,n_y2⟩:=iI (E:=EE) (B:=300000000) (el:=3) (sz:=1) (xs:=[dI (b)]) (e:=.int .i64) rfl (qDt jH qDs) rfl rfl;simp only[List.length_cons,List.length_nil]at l_y2;have i_y2:=qB K;have b_y2:=qK K;refine bS ev_y2 ?_;obtain⟨y3,Z,l_y3,t⟩:=rU (E:=EE) (el:=3) (sz:=1) (bytes:=8) i K (by decide) (by omega);have i_y3:=qB t;have b_y3:=qK t;refine bS Z ?_;refine bS (qM u) ?_;refine bS vY ?_;refine iC (λc4=>?_) λc4=>?_
 ·replace c4:=yB c4;obtain⟨x5,L⟩:=Go.Am.get_at (d:=a) (s:=((w:Nat):Int)) (by omega) (by omega);obtain⟨x5,rfl⟩:=(jG r L);refine bS (d:=dB (true)) (j5 (by omega) L) ?_;refine bS (d:=dI (x5)) (jJ u (by omega) L rfl) ?_;refine bS cA ?_;refine iC (λM=>?_) λM=>?_
  ·replace M:=yB M;refine bS (d:=dI ((w+1:Nat):Int)) (vC (vP (by omega))) ?_;obtain⟨y7,o,O,g⟩:=qDO (E:=EE) (j:=((w+1:Nat):Int)) r (by omega) (by omega);have S:=qB g;have V:=qK g;refine bS o ?_;obtain⟨N,c,F,x⟩:=rU (E:=EE) (el:=3) (sz:=1) (bytes:=8) t g (by decide) (by omega);have G:=qB x;have H:=qK x;refine bS c ?_;exact vX (ds:=[N]) rfl ⟨x,by show N.es.length<=_;omega⟩
  replace M:=dF M;obtain⟨y7,o,O,g⟩:=qDO (E:=EE) (j:=((w:Nat):Int)) r (by omega) (by omega);have S:=qB g;have V:=qK g;refine bS o ?_;obtain⟨N,c,F,x⟩:=rU (E:=EE) (el:=3) (sz:=1) (bytes:=8) t g (by decide) (by omega);have G:=qB x;have H:=qK x;refine bS c ?_;exact vX (ds:=[N]) rfl ⟨x,by show N.es.length<=_;omega⟩
 replace c4:=dF c4;obtain⟨y5,p,Q,y⟩:=qDO (E:=EE) (j:=((w:Nat):Int)) r (by omega) (by omega);have U:=qB y;have W:=qK y;refine bS p ?_;obtain⟨y6,X,l_y6,J⟩:=rU (E:=EE) (el:=3) (sz:=1) (bytes:=8) t y (by decide) (by omega);have i_y6:=qB J;have b_y6:=qK J;refine bS X ?_;exact vX (ds:=[y6]) rfl ⟨J,by show y6.es.length<=_;omega⟩
theorem zBv{a b c:D}(h_a:qC 300000000 (.sl 64 8 (.st [.int .i64,.sl 3 1 (.int .i64),.int .i64,.sl 31 1 (.sl 3 1 (.int .i64)),.int .i64,.sl 94 2 (.st [.str,.str]),.sl 66 2 (.st [.int .i64,.int .i64]),.sl 120 2 (.st [.int .i64,.int .i64])])) a)(h_b:qC 300000000 (.int .i64) b)(h_c:qC 300000000 (.int .i64) c):∃d,(qC 300000000 (.sl 3 1 (.int .i64))) d/\Holds EE 93 [a,b,c] d:=by
 suffices h:∃d,(qC 300000000 (.sl 3 1 (.int .i64))) d/\qX EE (Holds EE) qDQ 0 [a,b,c] d by obtain⟨d,hd,hg⟩:=h;exact⟨d,hd,zBb rfl hg⟩
 have i_a:=qB h_a;have b_a:=qK h_a;obtain⟨b,rfl⟩:=h_b;obtain⟨c,rfl⟩:=h_c;refine yS (R:=(qC 300000000 (.sl 3 1 (.int .i64)))) ?_;refine bS (qM i_a) ?_;obtain⟨y0,ev_y0,l_y0,h_y0⟩:=qWG (E:=EE) (B:=300000000) (el:=4) (sz:=1) (bytes:=1) (ag:=false) (z:=[(.bool false)]) (n:=((a.es.length:Nat):Int)) (e:=.bool) (by omega) (by omega) rfl (by decide) fK;have i_y0:=qB h_y0;have b_y0:=qK h_y0;refine bS ev_y0 ?_;refine bS (xY rfl) ?_;obtain⟨y1,ev_y1,l_y1,h_y1,n_y1⟩:=iI (E:=EE) (B:=300000000) (el:=3) (sz:=1) (xs:=[dI (b)]) (e:=.int .i64) rfl (qDt jH qDs) rfl rfl;simp only[List.length_cons,List.length_nil]at l_y1;have i_y1:=qB h_y1;have b_y1:=qK h_y1;refine bS ev_y1 ?_;refine vV rfl (xK (P:=λi2=>i2<=a.es.length+1->∀o:D,qC 300000000 (.sl 4 1 (.bool)) o->o.es.length=a.es.length->∀q:D,qC 300000000 (.sl 3 1 (.int .i64)) q->True->∃d,(qC 300000000 (.sl 3 1 (.int .i64))) d/\qX EE (Holds EE) qDQ 1 [a,dI (c),o,q,dI ((i2:Nat):Int)] d) (a.es.length+1) (λi2 ih2=>?_) 0 (by omega) y0 h_y0 (by omega) y1 h_y1 trivial);intro hn2 o t z_v2_2 q G z_v2_3;have i_v2_2:=qB t;have b_v2_2:=qK t;have W:=qB G;have b_v2_3:=qK G;refine yS (R:=(qC 300000000 (.sl 3 1 (.int .i64)))) ?_;refine bS (qM i_a) ?_;refine bS iO ?_;refine iC (λc3=>?_) λc3=>?_
 ·replace c3:=yB c3;refine vV rfl (xK (P:=λL=>L<=q.es.length->∀j:D,qC 300000000 (.sl 4 1 (.bool)) j->j.es.length=a.es.length->∀F:D,qC 300000000 (.sl 3 1 (.int .i64)) F->F.es.length+qMt j<=a.es.length->∃d,(qC 300000000 (.sl 3 1 (.int .i64))) d/\qX EE (Holds EE) qDQ 2 [a,dI (c),j,q,dI ((i2:Nat):Int),F,dI ((L:Nat):Int)] d) (q.es.length) (λL ih4=>?_) 0 (by omega) o t (by omega) .nil oP (by have:=qRY o;show 0+qMt o<=_;omega));intro hn4 j x z_v4_2 F r z_v4_5;have i_v4_2:=qB x;have b_v4_2:=qK x;have i_v4_5:=qB r;have b_v4_5:=qK r;refine yS (R:=(qC 300000000 (.sl 3 1 (.int .i64)))) ?_;refine bS (qM W) ?_;refine bS vY ?_;refine iC (λc5=>?_) λc5=>?_
  ·replace c5:=yB c5;obtain⟨x6,w⟩:=Go.Am.get_at (d:=q) (s:=((L:Nat):Int)) (by omega) (by omega);obtain⟨x6,rfl⟩:=(jG G w);refine bS (d:=dB (true)) (j5 (by omega) w) ?_;refine bS (d:=dI (x6)) (jJ W (by omega) w rfl) ?_;obtain⟨_,⟨r7,rfl,pa_r7,pb_r7⟩,k_r7⟩:=zAD (a:=a) (b:=dI (x6)) h_a jH;refine cS k_r7 ?_;refine vV rfl (xK (P:=λi8=>∀k:D,qC 300000000 (.sl 4 1 (.bool)) k->k.es.length=a.es.length->∀l:D,qC 300000000 (.sl 3 1 (.int .i64)) l->l.es.length+qMt k<=a.es.length->∃d,(qC 300000000 (.sl 3 1 (.int .i64))) d/\qX EE (Holds EE) qDQ 3 [a,dI (c),k,q,dI ((i2:Nat):Int),l,dI ((L:Nat):Int),dI (r7),dI ((i8:Nat):Int)] d) (300000000) (λi8 ih8=>?_) 0 j x (by omega) F r (by omega));intro k y z_v8_2 l g z_v8_5;have i_v8_2:=qB y;have b_v8_2:=qK y;have i_v8_5:=qB g;have b_v8_5:=qK g;refine yS (R:=(qC 300000000 (.sl 3 1 (.int .i64)))) ?_;refine bS rW ?_;refine iC (λc9=>?_) λc9=>?_
   ·replace c9:=yB c9;obtain⟨x10,C⟩:=Go.Am.get_at (d:=a) (s:=(r7)) (by omega) (by omega);obtain⟨_,rfl,_,_,rfl,⟨x10_0,rfl⟩,x10_1,_,rfl,K,_,_,rfl,⟨x10_2,rfl⟩,x10_3,_,rfl,J,_,_,rfl,⟨x10_4,rfl⟩,x10_5,_,rfl,I,N,_,rfl,u,x10_7,_,rfl,H,rfl⟩:=(jG h_a C);have i_x10_1:=qB K;have b_x10_1:=qK K;have i_x10_3:=qB J;have b_x10_3:=qK J;have i_x10_5:=qB I;have b_x10_5:=qK I;have p:=qB u;have b_x10_6:=qK u;have i_x10_7:=qB H;have b_x10_7:=qK H;refine bS (d:=dB (true)) (j5 (by omega) C) ?_;refine bS (d:=N) (sN (off:=6) i_a (by omega) C rfl p.one (by decide)) ?_;refine bS (qM p) ?_;refine bS vY ?_;refine iC (λc11=>?_) λc11=>?_
    ·replace c11:=yB c11;refine bS (d:=dB (true)) (j5 (by omega) C) ?_;refine bS (d:=N) (sN (off:=6) i_a (by omega) C rfl p.one (by decide)) ?_;obtain⟨x12,V⟩:=Go.Am.get_at (d:=N) (s:=((i8:Nat):Int)) (by omega) (by omega);obtain⟨_,rfl,_,_,rfl,⟨x12_0,rfl⟩,_,_,rfl,⟨M,rfl⟩,rfl⟩:=(jG u V);refine bS (d:=dB (true)) (j5 (by omega) V) ?_;refine bS (d:=.agg [dI (x12_0),dI (M)]) (qGv p (by omega) V rfl) ?_;refine bS (zH rfl) ?_;refine bS (qA (off:=1) rfl rfl) ?_;obtain⟨_,⟨r13,rfl,pa_r13,pb_r13⟩,k_r13⟩:=zAD (a:=a) (b:=dI (M)) h_a jH;refine cS k_r13 ?_;refine bS (qA (off:=0) rfl rfl) ?_;refine bS cA ?_;refine iC (λc14=>?_) λc14=>?_
     ·replace c14:=yB c14;refine bS rW ?_;refine iC (λc15=>?_) λc15=>?_
      ·replace c15:=yB c15;obtain⟨x16,A⟩:=Go.Am.get_at (d:=k) (s:=(r13)) (by omega) (by omega);obtain⟨x16,rfl⟩:=(jG y A);refine bS (d:=dB (true)) (j5 (by omega) A) ?_;refine bS (d:=dB (x16)) (jJ i_v8_2 (by omega) A rfl) ?_;refine bS wG ?_;refine iC (λc17=>?_) λc17=>?_
       ·have cf:x16=false:=by
         cases x16 with
         |false=>rfl
         |true=>exact absurd c17 (by decide)
        subst cf
        refine bS (d:=dB (true)) (j5 (by omega) A) ?_
        obtain⟨y18,ev_y18,l_y18,S,q_y18⟩:=qP4 (E:=EE) (i:=(r13)) y (by omega) (by omega) A
        have i_y18:=qB S
        have b_y18:=qK S
        refine bS ev_y18 ?_
        refine bS (qA (off:=1) rfl rfl) ?_
        refine bS (xY rfl) ?_
        obtain⟨y19,ev_y19,l_y19,Q,n_y19⟩:=iI (E:=EE) (B:=300000000) (el:=3) (sz:=1) (xs:=[dI (M)]) (e:=.int .i64) rfl (qDt jH qDs) rfl rfl
        simp only[List.length_cons,List.length_nil]at l_y19
        have i_y19:=qB Q
        have b_y19:=qK Q
        refine bS ev_y19 ?_
        obtain⟨y20,ev_y20,l_y20,O⟩:=rU (E:=EE) (el:=3) (sz:=1) (bytes:=8) g Q (by decide) (by omega)
        have i_y20:=qB O
        have b_y20:=qK O
        refine bS ev_y20 ?_
        refine bS (d:=dI ((i8+1:Nat):Int)) (vC (vP (by omega))) ?_
        exact vV rfl (ih8 (by omega) y18 S (by omega) y20 O (by omega))
       clear c17;refine bS (d:=dI ((i8+1:Nat):Int)) (vC (vP (by omega))) ?_;exact vV rfl (ih8 (by omega) k y (by omega) l g (by omega))
      replace c15:=dF c15;refine bS (d:=dI ((i8+1:Nat):Int)) (vC (vP (by omega))) ?_;exact vV rfl (ih8 (by omega) k y (by omega) l g (by omega))
     replace c14:=dF c14;refine bS (d:=dI ((i8+1:Nat):Int)) (vC (vP (by omega))) ?_;exact vV rfl (ih8 (by omega) k y (by omega) l g (by omega))
    replace c11:=dF c11;refine bS (d:=dI ((L+1:Nat):Int)) (vC (vP (by omega))) ?_;exact vV rfl (ih4 (by omega) (by omega) k y (by omega) l g (by omega))
   replace c9:=dF c9;refine bS (d:=dI ((L+1:Nat):Int)) (vC (vP (by omega))) ?_;exact vV rfl (ih4 (by omega) (by omega) k y (by omega) l g (by omega))
  replace c5:=dF c5;refine bS (d:=dI ((i2+1:Nat):Int)) (vC (vP (by omega))) ?_;exact vV rfl (ih2 (by omega) (by omega) j x (by omega) F r trivial)
 replace c3:=dF c3;refine vV rfl (xK (P:=λL=>L<=a.es.length->∀j:D,qC 300000000 (.sl 3 1 (.int .i64)) j->j.es.length<=L->∃d,(qC 300000000 (.sl 3 1 (.int .i64))) d/\qX EE (Holds EE) qDQ 4 [a,o,j,dI ((L:Nat):Int)] d) (a.es.length) (λL ih4=>?_) 0 (by omega) .nil oP (by simp[D.es]));intro hn4 j x z_v4_2;have i_v4_2:=qB x;have b_v4_2:=qK x;refine yS (R:=(qC 300000000 (.sl 3 1 (.int .i64)))) ?_;refine bS (qM i_a) ?_;refine bS vY ?_;refine iC (λc5=>?_) λc5=>?_
 ·replace c5:=yB c5;obtain⟨x6,w⟩:=Go.Am.get_at (d:=o) (s:=((L:Nat):Int)) (by omega) (by omega);obtain⟨x6,rfl⟩:=(jG t w);refine bS (d:=dB (true)) (j5 (by omega) w) ?_;refine bS (d:=dB (x6)) (jJ i_v2_2 (by omega) w rfl) ?_;refine iC (λc7=>?_) λc7=>?_
  ·clear c7;obtain⟨x8,e_x8⟩:=Go.Am.get_at (d:=a) (s:=((L:Nat):Int)) (by omega) (by omega);obtain⟨_,rfl,_,_,rfl,⟨x8_0,rfl⟩,x8_1,_,rfl,h_x8_1,_,_,rfl,⟨x8_2,rfl⟩,x8_3,_,rfl,h_x8_3,_,_,rfl,⟨x8_4,rfl⟩,x8_5,_,rfl,h_x8_5,x8_6,_,rfl,Z,x8_7,_,rfl,X,rfl⟩:=(jG h_a e_x8);have i_x8_1:=qB h_x8_1;have b_x8_1:=qK h_x8_1;have i_x8_3:=qB h_x8_3;have b_x8_3:=qK h_x8_3;have i_x8_5:=qB h_x8_5;have b_x8_5:=qK h_x8_5;have i_x8_6:=qB Z;have b_x8_6:=qK Z;have i_x8_7:=qB X;have b_x8_7:=qK X;refine bS (d:=dB (true)) (j5 (by omega) e_x8) ?_;refine bS (d:=dI (x8_0)) (sN (off:=0) i_a (by omega) e_x8 rfl rfl (by decide)) ?_;refine bS (xY rfl) ?_;obtain⟨y9,ev_y9,l_y9,h_y9,n_y9⟩:=iI (E:=EE) (B:=300000000) (el:=3) (sz:=1) (xs:=[dI (x8_0)]) (e:=.int .i64) rfl (qDt jH qDs) rfl rfl;simp only[List.length_cons,List.length_nil]at l_y9;have i_y9:=qB h_y9;have b_y9:=qK h_y9;refine bS ev_y9 ?_;obtain⟨y10,ev_y10,l_y10,U⟩:=rU (E:=EE) (el:=3) (sz:=1) (bytes:=8) x h_y9 (by decide) (by omega);have i_y10:=qB U;have b_y10:=qK U;refine bS ev_y10 ?_;refine bS (d:=dI ((L+1:Nat):Int)) (vC (vP (by omega))) ?_;exact vV rfl (ih4 (by omega) (by omega) y10 U (by omega))
  clear c7;refine bS (d:=dI ((L+1:Nat):Int)) (vC (vP (by omega))) ?_;exact vV rfl (ih4 (by omega) (by omega) j x (by omega))
 replace c5:=dF c5;exact vX rfl x
end Go.Proofs.YtminhjecpnpaeaaGreatDoor.Lt
namespace Go.Proofs.YtminhjecpnpaeaaGreatDoor.Lt
open Go Go.Am Go.Proofs Go.Am.Tt
theorem qNg{el sz:Nat}{e:Sh}{d:D}(h:qC 300000000 (.sl el sz e) d):iJ d=(d.es.length:Int):=by simp only[qC]at h;rcases h with rfl|⟨es,rfl,_⟩<;>rfl
def qQm:Tt.Spec:=⟨[(.str BG),(.int .i64)],[(.int .i64),(.int .i64)],[(.z,aA 1,0),(aA 1,aA 0,-1)],[(.z,aA 3,0),(aA 3,.z,4)]⟩
def qQn:Tt.Spec:=⟨[n2,(.int .i64)],[n2],[(aA 0,.z,299999999)],[(aA 2,aA 0,1)]⟩
def qY9:Tt.Spec:=⟨[n0,(.int .i64),(.int .i64)],[n2],[],[]⟩
theorem qZX:mT (Holds EE) 161 qQm:=by
 intro ds hd x;simp only[qQm,zZ]at hd x;obtain⟨a,_,rfl,j,b,_,rfl,i,rfl⟩:=hd;have e:=x _ List.mem_cons_self;have c:=x _ (mC _ List.mem_cons_self);obtain⟨_,⟨p,n,rfl,l,k⟩,h3⟩:=qZv (oQ rfl j) (oQ rfl i) (λn y=>by subst y;have:(0:Int)<=n+0:=e;omega) (λs n g y=>by subst g y;have:n<=(s.size:Int) + -1:=c;omega);refine⟨[dI p,dI n],?_,λq h=>?_,h3⟩
 ·simp only[qQm,zZ];exact⟨_,_,rfl,by simp only[qZ];exact⟨_,rfl⟩,_,_,rfl,by simp only[qZ];exact⟨_,rfl⟩,rfl⟩
 rcases List.mem_cons.1 h with rfl|h
 ·show(0:Int)<=n+0;omega
 rcases List.mem_cons.1 h with rfl|h
 ·show n<=(0:Int)+4;omega
 cases h
theorem qZY:mT (Holds EE) 125 qQn:=by
 intro ds hd y;simp only[qQn,zZ]at hd y;obtain⟨a,_,rfl,j,b,_,rfl,i,rfl⟩:=hd;have e:=y _ List.mem_cons_self;have h:=oQ rfl j;have hv:=qNg h;obtain⟨d,⟨c,k⟩,h3⟩:=qZw h (oQ rfl i) (by have:iJ a<=(0:Int)+299999999:=e;omega);have g:=qNg c;refine⟨[d],by simp only[qQn,zZ];exact⟨_,_,rfl,qCF rfl c,rfl⟩,λq x=>?_,h3⟩;rcases List.mem_cons.1 x with rfl|x
 ·show iJ d<=iJ a+1;omega
 cases x
theorem zBJ:mT (Holds EE) 93 qY9:=by intro ds hd _;simp only[qY9,zZ]at hd;obtain⟨a,_,rfl,e,b,_,rfl,y,c,_,rfl,x,rfl⟩:=hd;obtain⟨d,i,g⟩:=zBv (oQ rfl e) (oQ rfl y) (oQ rfl x);exact⟨[d],by simp only[qY9,zZ];exact⟨_,_,rfl,qCF rfl i,rfl⟩,λq h=>(by cases h),g⟩
def qQd:List (FuncId×Tt.Spec):=(161,qQm)::(125,qQn)::(93,qY9)::qAJ [] qVw
theorem qQc:∀p∈qQd,mT (Holds EE) p.1 p.2:=qDv qZX<|qDv qZY<|qDv zBJ<|qQa
end Go.Proofs.YtminhjecpnpaeaaGreatDoor.Lt
namespace Go.Proofs.YtminhjecpnpaeaaGreatDoor.Lt
open Go Go.Am Go.Proofs Go.Am.Tt
theorem zBE:qEL EE Tryz.prog TT qQd qVv=true:=by kernel_rfl
theorem qM3:∀p∈qAJ qQd qVv,mT (Holds EE) p.1 p.2:=fU he qZ1 qPH qQc zBE
end Go.Proofs.YtminhjecpnpaeaaGreatDoor.Lt
