/- What Light says of the rules; the law of SurfaceShort over data of bounded length. Conditions: none. -/
import Derived.Test.YtpbmnkajhedaiaaGreatDg
import Derived.Test.YtpbmnkajhedaiaaGreatDe
import Derived.Test.YtpbmnkajhedaiaaGreatDc
set_option linter.all false
namespace Go.Proofs.YtpbmnkajhedaiaaGreat
open Go Go.Am Go.Proofs Go.Am.Tt
theorem iA{l:D}{i:Nat}(h:i<l.es.length):∃x,l.es[i]? = some x:=⟨_,List.getElem?_eq_getElem h⟩
theorem cG{P:Nat->Prop}(N:Nat)(h:P N)(step:∀i,i<N->P (i+1)->P i):P 0:=by
 have x:∀m i,i+m=N->P i:=by
  intro m;induction m with
  |zero=>grind
  |succ m y=>grind
 exact x N 0 (by omega)
theorem qSF{l:List D}{i:Nat}{x:D}(h:l[i]? = some x):l.drop i=x::l.drop (i+1):=by obtain⟨y,rfl⟩:=gI h;simp_all
attribute [local irreducible] Go.Am.wp Go.Am.TOp.eval
theorem qNU{f:FuncId}{S:Tt.Spec}(h:xZ (Holds EE) f S)(y:S.rs=[.int .i64])(c:S.pre=[])(e:Sn.leasts 1048576 S.ss=true){ds:List D}(hd:j4 1048576 (Sn.shs S.ss) ds):∃n:Int,Holds EE f ds (dI n):=by obtain⟨i,x,_,g⟩:=h ds (yY e hd) (by rw[c];intro q b;cases b);rw[y]at x;simp only[qU,qM]at x;obtain⟨d,_,rfl,⟨n,rfl⟩,rfl⟩:=x;exact⟨n,g⟩
theorem zCf{f:FuncId}{S:Tt.Spec}(h:xZ (Holds EE) f S)(y:S.rs=[.bool])(e:S.pre=[])(g:Sn.leasts 1048576 S.ss=true){ds:List D}(hd:j4 1048576 (Sn.shs S.ss) ds):∃b:Bool,Holds EE f ds (dB b):=by obtain⟨j,x,_,i⟩:=h ds (yY g hd) (by rw[e];intro q c;cases c);rw[y]at x;simp only[qU,qM]at x;obtain⟨d,_,rfl,⟨n,rfl⟩,rfl⟩:=x;exact⟨n,i⟩
abbrev qLS{s:Sh}{d:D}(h:qC 1048576 s d):j4 1048576 [s] [d]:=qW h jY
abbrev qIK{s t:Sh}{d e:D}(h:qC 1048576 s d)(k:qC 1048576 t e):j4 1048576 [s,t] [d,e]:=qW h (qW k jY)
theorem zGz{gs fr to i g:D}{bg en:Bool}(o:qC 1048576 qDE gs)(e:qC 1048576 mL fr)(b:qC 1048576 mL to)(k:qC 1048576 qTa i)(j:qC 1048576 qTa g):∃n:Int,Holds EE 96 [.agg [gs],.agg [fr,to,i,g,dB bg,dB en]] (dI n)/\(n=0->to.es.length=fr.es.length):=by
 by_cases l:to.es.length=fr.es.length
 ·obtain⟨n,h⟩:=qNU (k9 f6 (f:=96) (S:=zE5.S) (by kernel_rfl)) rfl rfl (by decide) (ds:=[.agg [gs],.agg [fr,to,i,g,dB bg,dB en]]) (qIK (lH (qW o jY)) (lH (qW e (qW b (qW k (qW j (qW fL (qW fL jY))))))));exact⟨n,h,λ_=>l⟩
 refine⟨1,?_,λh=>by cases h⟩;have x:=qA e;have y:=qA b;refine zFv rfl (qE.step' ?_);refine bS (qD rfl) ?_;refine bS (qD rfl) ?_;refine bS (qB (off:=0) rfl x.one) ?_;refine bS (qI x) ?_;refine bS jO ?_;refine iC (λc=>?_) λc=>?_
 ·exact qF rfl rfl
 refine bS (qB (off:=1) rfl y.one) ?_;refine bS (qI y) ?_;refine bS (qB (off:=0) rfl x.one) ?_;refine bS (qI x) ?_;refine bS jW ?_;refine iC (λd=>?_) λd=>?_
 ·exact qF rfl rfl
 have:=dF d;omega
theorem zGE{gs nm us lt rs n ws fs l:D}(G:qC 1048576 qDE gs)(g:qC 1048576 qHG rs):∃e:Int,Holds EE 63 [.agg [gs,nm,us,lt,rs,n,ws,fs,l]] (dI e)/\(e=0->∀r∈rs.es,qUQ r):=by
 have y:=qA g;have C:=qO g;have j:∃e:Int,qE EE (Holds EE) qMT 1 [dI ((0:Nat):Int),.agg [gs,nm,us,lt,rs,n,ws,fs,l]] (dI e)/\(e=0->∀r∈rs.es.drop 0,qUQ r):=by
  refine cG (P:=λi=>∃e:Int,qE EE (Holds EE) qMT 1 [dI ((i:Nat):Int),.agg [gs,nm,us,lt,rs,n,ws,fs,l]] (dI e)/\(e=0->∀r∈rs.es.drop i,qUQ r)) rs.es.length ?_ ?_
  ·refine⟨0,qE.step' ?_,λ_ r g=>by rw[List.drop_length]at g;cases g⟩;refine bS (qB (off:=4) rfl y.one) ?_;refine bS (qI y) ?_;refine bS qP ?_;refine iC (λc=>?_) λc=>?_
   ·have:=xN c;omega
   exact qF rfl rfl
  intro i F ⟨e,E,u⟩;obtain⟨x,b⟩:=iA F;obtain⟨_,rfl,fr,_,rfl,z,to,_,rfl,k,J,_,rfl,t,I,_,rfl,o,_,_,rfl,⟨bg,rfl⟩,_,_,rfl,⟨en,rfl⟩,rfl⟩:=zO g b;obtain⟨q,B,p⟩:=zGz (bg:=bg) (en:=en) G z k t o;by_cases A:q=0
  ·refine⟨e,qE.step' ?_,λhe r g=>?_⟩
   ·refine bS (qB (off:=4) rfl y.one) ?_;refine bS (qI y) ?_;refine bS qP ?_;refine iC (λc=>?_) λc=>?_
    ·skip;refine bS (yB (off:=0) (size:=1) rfl) ?_;refine bS (qB (off:=4) rfl y.one) ?_;refine bS (qV (s:=((i:Nat):Int)) (by omega) b) ?_;refine bS (zU (s:=((i:Nat):Int)) y (by omega) b rfl) ?_;refine cS B ?_;refine bS jW ?_;refine iC (λd=>?_) λd=>?_
     ·grind
     refine bS (d:=dI ((i+1:Nat):Int)) (qY (qN (by omega))) ?_;exact qS rfl E
    have:=wJ c;omega
   rw[qSF b]at g;rcases List.mem_cons.1 g with rfl|g
   ·exact p A
   exact u he r g
  refine⟨q,qE.step' ?_,λhe=>absurd he A⟩;refine bS (qB (off:=4) rfl y.one) ?_;refine bS (qI y) ?_;refine bS qP ?_;refine iC (λc=>?_) λc=>?_
  ·skip;refine bS (yB (off:=0) (size:=1) rfl) ?_;refine bS (qB (off:=4) rfl y.one) ?_;refine bS (qV (s:=((i:Nat):Int)) (by omega) b) ?_;refine bS (zU (s:=((i:Nat):Int)) y (by omega) b rfl) ?_;refine cS B ?_;refine bS jW ?_;refine iC (λd=>?_) λd=>?_
   ·exact qF rfl rfl
   grind
  have:=wJ c;omega
 obtain⟨e,w,he⟩:=j;by_cases H:rs.es.length>12
 ·refine⟨11,zEo rfl (qE.step' ?_),λh=>by cases h⟩;refine bS (qD rfl) ?_;refine bS (qB (off:=4) rfl y.one) ?_;refine bS (qI y) ?_;refine bS zW ?_;refine iC (λc=>?_) λc=>?_
  ·exact qF rfl rfl
  have:=dF c;omega
 refine⟨e,zEo rfl (qE.step' ?_),λh=>by simpa using he h⟩;refine bS (qD rfl) ?_;refine bS (qB (off:=4) rfl y.one) ?_;refine bS (qI y) ?_;refine bS zW ?_;refine iC (λc=>?_) λc=>?_
 ·have:=dT c;omega
 exact qS rfl w
theorem nz{q:Int}(d:decide (¬q=0)=true):q≠0:=dT d
theorem zz{q:Int}(d:decide (¬q=0)=false):q=0:=Decidable.not_not.1 (dF d)
def qSO(e c b y x h g:Int):Int:=if e≠0 then e else if c≠0 then c else if b≠0 then b else if y≠0 then y else if x≠0 then x else if h≠0 then h else g
theorem qQs{i g e c b y x:Int}(h:qSO i g e c b y x=0):i=0/\g=0/\e=0/\c=0/\b=0/\y=0/\x=0:=by
 unfold qSO at h
 repeat' split at h
 all_goals omega
theorem zGH{gs nm us lt rs n ws fs l:D}{r q p o k j i:Int}(x:l.one=true)(C:Holds EE 61 [.agg [gs]] (dI r))(B:Holds EE 62 [.agg [gs],.agg [nm,us,lt]] (dI q))(A:Holds EE 63 [.agg [gs,nm,us,lt,rs,n,ws,fs,l]] (dI p))(z:Holds EE 64 [.agg [n,ws,fs]] (dI o))(w:Holds EE 65 [.agg [gs],l] (dI k))(u:Holds EE 66 [l] (dI j))(t:Holds EE 67 [l] (dI i)):Holds EE 31 [.agg [gs,nm,us,lt,rs,n,ws,fs,l]] (dI (qSO r q p o k j i)):=by
 unfold qSO;refine zFG rfl (qE.step' ?_);refine bS (qD rfl) ?_;refine bS (yB (off:=0) (size:=1) rfl) ?_;refine cS C ?_;refine bS jW ?_;refine iC (λc1=>?_) λc1=>?_
 ·rw[if_pos (nz c1)];exact qF rfl rfl
 rw[if_neg (λh=>h (zz c1))];refine bS (yB (off:=0) (size:=1) rfl) ?_;refine bS (yB (off:=1) (size:=3) rfl) ?_;refine cS B ?_;refine bS jW ?_;refine iC (λg=>?_) λg=>?_
 ·rw[if_pos (nz g)];exact qF rfl rfl
 rw[if_neg (λh=>h (zz g))];refine cS A ?_;refine bS jW ?_;refine iC (λe=>?_) λe=>?_
 ·rw[if_pos (nz e)];exact qF rfl rfl
 rw[if_neg (λh=>h (zz e))];refine bS (yB (off:=5) (size:=3) rfl) ?_;refine cS z ?_;refine bS jW ?_;refine iC (λc=>?_) λc=>?_
 ·rw[if_pos (nz c)];exact qF rfl rfl
 rw[if_neg (λh=>h (zz c))];refine bS (yB (off:=0) (size:=1) rfl) ?_;refine bS (qB (off:=8) rfl x) ?_;refine cS w ?_;refine bS jW ?_;refine iC (λb=>?_) λb=>?_
 ·rw[if_pos (nz b)];exact qF rfl rfl
 rw[if_neg (λh=>h (zz b))];refine bS (qB (off:=8) rfl x) ?_;refine cS u ?_;refine bS jW ?_;refine iC (λy=>?_) λy=>?_
 ·rw[if_pos (nz y)];exact qF rfl rfl
 rw[if_neg (λh=>h (zz y))];refine bS (qB (off:=8) rfl x) ?_;refine cS t ?_;exact qF rfl rfl
theorem zGq{gs:D}(h:qC 1048576 qDE gs):∃q:Int,Holds EE 61 [.agg [gs]] (dI q):=qNU (k9 f6 (f:=61) (S:=zFi.S) (by kernel_rfl)) rfl rfl (by decide) (qLS (lH (qW h jY)))
theorem zGp{gs nm us lt:D}(b:qC 1048576 qDE gs)(x:qC 1048576 .str nm)(h:qC 1048576 qQQ us)(y:qC 1048576 qS9 lt):∃q:Int,Holds EE 62 [.agg [gs],.agg [nm,us,lt]] (dI q):=
 qNU (k9 f6 (f:=62) (S:=qZD) (by kernel_rfl)) rfl rfl (by decide) (qIK (lH (qW b jY)) (lH (qW x (qW h (qW y jY)))))
theorem zGo{gs l:D}(x:qC 1048576 qDE gs)(h:qC 1048576 qAs l):∃q:Int,Holds EE 65 [.agg [gs],l] (dI q):=
 qNU (k9 f6 (f:=65) (S:=zFh.S) (by kernel_rfl)) rfl rfl (by decide) (qIK (lH (qW x jY)) h)
theorem zGn{l:D}(h:qC 1048576 qAs l):∃q:Int,Holds EE 66 [l] (dI q):=qNU (k9 f6 (f:=66) (S:=zFg.S) (by kernel_rfl)) rfl rfl (by decide) (qLS h)
theorem zBt{l:D}(y:qC 1048576 qAs l):∃q:Int,Holds EE 67 [l] (dI q):=by
 obtain⟨b,h,_,c⟩:=(k9 f6 (f:=67) (S:=zFf.S) (by kernel_rfl)) [l] (yY (B:=1048576) (by decide) (qLS y)) (by
  intro q x;rcases List.mem_cons.1 x with rfl|x
  ·have g:=qIb (rS (B':=300000000) (by decide) y);have e:=qO y;show kF l<=(0:Int)+299999999;omega
  cases x)
 have h:qU [.int .i64] b:=h;simp only[qU,qM]at h;obtain⟨d,_,rfl,⟨n,rfl⟩,rfl⟩:=h;exact⟨n,c⟩
theorem qZ3{l:D}(h:qC 1048576 qAs l):∃b:Bool,Holds EE 30 [l] (dB b):=zCf (k9 f6 (f:=30) (S:=zFq.S) (by kernel_rfl)) rfl rfl (by decide) (qLS h)
theorem zGJ{gs nm us lt rs ws fs l:D}{n e:Int}(Z:qC 1048576 qDE gs)(V:nm.one=true)(A:qC 1048576 qQQ us)(B:qC 1048576 qHG rs)(R:qC 1048576 qS8 ws)(hf:qC 1048576 mL fs)(N:qC 1048576 qAs l)(k:Holds EE 31 [.agg [gs,nm,us,lt,rs,dI n,ws,fs,l]] (dI e)):∃b:Bool,Holds EE 12 [.agg [gs,nm,us,lt,rs,dI n,ws,fs,l]] (dB b)/\(b=true->e=0/\n<=3/\us.es.length<=10):=by
 have q:=qA Z;have p:=qA A;have y:=qA B;have o:=qA R;have r:=qA hf;have z:=qA N;have O:=qO B;obtain⟨u,w⟩:=qZ3 N;have t:∃b:Bool,qE EE (Holds EE) qNH 1 [dI ((0:Nat):Int),.agg [gs,nm,us,lt,rs,dI n,ws,fs,l]] (dB b)/\(b=true->e=0):=by
  refine cG (P:=λi=>∃b:Bool,qE EE (Holds EE) qNH 1 [dI ((i:Nat):Int),.agg [gs,nm,us,lt,rs,dI n,ws,fs,l]] (dB b)/\(b=true->e=0)) rs.es.length ?_ ?_
  ·refine⟨decide (e=0),qE.step' ?_,λh=>dT h⟩;refine bS (qB (off:=4) rfl y.one) ?_;refine bS (qI y) ?_;refine bS qP ?_;refine iC (λc=>?_) λc=>?_
   ·have:=xN c;omega
   refine cS k ?_;refine bS jO ?_;exact qF rfl rfl
  intro i X ⟨b,Q,F⟩;obtain⟨x,j⟩:=iA X;obtain⟨_,rfl,fr,_,rfl,E,to,_,rfl,S,lf,_,rfl,W,rg,_,rfl,U,_,_,rfl,⟨bg,rfl⟩,_,_,rfl,⟨en,rfl⟩,rfl⟩:=zO B j;have g:=qA E;by_cases h8:fr.es.length>8
  ·refine⟨false,qE.step' ?_,λh=>by cases h⟩;refine bS (qB (off:=4) rfl y.one) ?_;refine bS (qI y) ?_;refine bS qP ?_;refine iC (λc=>?_) λc=>?_
   ·skip;refine bS (qB (off:=4) rfl y.one) ?_;refine bS (qV (s:=((i:Nat):Int)) (by omega) j) ?_;refine bS (jD (s:=((i:Nat):Int)) (off:=0) y (by omega) j rfl g.one (by decide)) ?_;refine bS (qI g) ?_;refine bS zW ?_;refine iC (λd=>?_) λd=>?_
    ·exact qF rfl rfl
    grind
   have:=wJ c;omega
  refine⟨b,qE.step' ?_,F⟩;refine bS (qB (off:=4) rfl y.one) ?_;refine bS (qI y) ?_;refine bS qP ?_;refine iC (λc=>?_) λc=>?_
  ·skip;refine bS (qB (off:=4) rfl y.one) ?_;refine bS (qV (s:=((i:Nat):Int)) (by omega) j) ?_;refine bS (jD (s:=((i:Nat):Int)) (off:=0) y (by omega) j rfl g.one (by decide)) ?_;refine bS (qI g) ?_;refine bS zW ?_;refine iC (λd=>?_) λd=>?_
   ·grind
   refine bS (d:=dI ((i+1:Nat):Int)) (qY (qN (by omega))) ?_;exact qS rfl Q
  have:=wJ c;omega
 obtain⟨b,C,F⟩:=t;refine⟨if gs.es.length>8∨us.es.length>10∨rs.es.length>2∨n>3∨ws.es.length>6∨fs.es.length>3∨u=false then false else b,zFJ rfl (qE.step' ?_),λh=>?_⟩
 ·refine bS (qD rfl) ?_;refine bS (qB (off:=0) rfl q.one) ?_;refine bS (qI q) ?_;refine bS zW ?_;refine iC (λc1=>?_) λc1=>?_
  ·have:=dT c1;rw[if_pos (by omega)];exact qF rfl rfl
  have h1:=dF c1;refine bS (qB (off:=2) rfl p.one) ?_;refine bS (qI p) ?_;refine bS zW ?_;refine iC (λM=>?_) λM=>?_
  ·have:=dT M;rw[if_pos (by omega)];exact qF rfl rfl
  have h2:=dF M;refine bS (qB (off:=4) rfl y.one) ?_;refine bS (qI y) ?_;refine bS zW ?_;refine iC (λL=>?_) λL=>?_
  ·have:=dT L;rw[if_pos (by omega)];exact qF rfl rfl
  have h3:=dF L;refine bS (qB (off:=5) rfl rfl) ?_;refine bS zW ?_;refine iC (λK=>?_) λK=>?_
  ·have:=dT K;rw[if_pos (by omega)];exact qF rfl rfl
  have h4:=dF K;refine bS (qB (off:=6) rfl o.one) ?_;refine bS (qI o) ?_;refine bS zW ?_;refine iC (λJ=>?_) λJ=>?_
  ·have:=dT J;rw[if_pos (by omega)];exact qF rfl rfl
  have h5:=dF J;refine bS (qB (off:=7) rfl r.one) ?_;refine bS (qI r) ?_;refine bS zW ?_;refine iC (λI=>?_) λI=>?_
  ·have:=dT I;rw[if_pos (by omega)];exact qF rfl rfl
  have h6:=dF I;refine bS (qB (off:=8) rfl z.one) ?_;refine cS w ?_;refine bS jU ?_;refine iC (λH=>?_) λH=>?_
  ·have G:u=false:=by simpa using H
   rw[if_pos (by simp[G])];exact qF rfl rfl
  have G:u=true:=by simpa using H
  subst G;rw[if_neg (by simp;omega)];exact qS rfl C
 split at h
 ·cases h
 rename_i hc;exact⟨F h,by omega,by omega⟩
end Go.Proofs.YtpbmnkajhedaiaaGreat
namespace Go.Proofs.YtpbmnkajhedaiaaGreat
open Go Go.Am Go.Proofs
attribute [local irreducible] Go.Am.wp Go.Am.TOp.eval
def qRP:D->Prop
 |.agg [_,s]=>1<=s.es.length/\s.es.length<=3
 |_=>False
abbrev qVd(d:D):Prop:=∃n:Int,d=dI n/\n≠0
theorem zGA{gs nm us lt x:D}{i:Nat}(H:qC 300000000 qDE gs)(p:qC 300000000 .str nm)(hu:qC 300000000 qQQ us)(G:qC 300000000 qS9 lt)(he:us.es[i]? = some x):∃n:Int,Holds EE 93 [.agg [gs],.agg [nm,us,lt],dI ((i:Nat):Int)] (dI n)/\(n=0->qRP x):=by
 have W:=(gI he).1;have F:=qA H;have e:=qA hu;have I:=qO hu;have E:=qA G;obtain⟨_,rfl,_,_,rfl,⟨s0,rfl,w⟩,r,_,rfl,u,rfl⟩:=zO hu he;have k:=qA u;by_cases N:1<=r.es.length/\r.es.length<=3
 ·obtain⟨_,⟨n,rfl⟩,h⟩:=zEN (a:=.agg [gs]) (b:=.agg [nm,us,lt]) (c:=dI ((i:Nat):Int)) (lH (qW H jY)) (lH (qW p (qW hu (qW G jY)))) vO (by intro n p;cases p;omega) (by intro cs x n C K p;cases C;cases K;cases p;omega);exact⟨n,h,λ_=>N⟩
 obtain⟨q,rfl,O⟩:=p;suffices h:∃d,qVd d/\qE EE (Holds EE) qMO 0 [.agg [gs],.agg [.leaf (.string q),us,lt],dI ((i:Nat):Int)] d by obtain⟨_,⟨n,rfl,z⟩,B⟩:=h;exact⟨n,zFw rfl B,λQ=>absurd Q z⟩
 obtain⟨_,⟨U,rfl⟩,t⟩:=zEM (a:=.leaf (.string s0)) (cH w);refine zS (R:=qVd) ?_;refine bS (qD rfl) ?_;refine bS (qD rfl) ?_;refine bS (qB (off:=1) rfl e.one) ?_;refine bS (qV (s:=((i:Nat):Int)) (by omega) he) ?_;refine bS (zU (s:=((i:Nat):Int)) e (by omega) he rfl) ?_;refine bS (qD rfl) ?_;refine bS (qB (off:=0) rfl rfl) ?_;refine cS t ?_;refine bS jU ?_;refine iC (λc=>?_) λc=>?_
 ·exact qR rfl ⟨3,rfl,by decide⟩
 refine qQ rfl (vD (P:=λj=>j<=i->∃d,qVd d/\qE EE (Holds EE) qMO 1 [dI ((i:Nat):Int),dI ((j:Nat):Int),.agg [gs],.agg [.leaf (.string q),us,lt],.agg [.leaf (.string s0),r]] d) i (λj J=>?_) 0 (by omega));intro V;refine zS (R:=qVd) ?_;refine bS qP ?_;refine iC (λd=>?_) λd=>?_
 ·have A:=xN d;obtain⟨y,o⟩:=iA (l:=us) (i:=j) (by omega);obtain⟨_,rfl,_,_,rfl,⟨S,rfl,M⟩,sh,_,rfl,L,rfl⟩:=zO hu o;refine bS (qB (off:=1) rfl e.one) ?_;refine bS (qV (s:=((j:Nat):Int)) (by omega) o) ?_;refine bS (jD (s:=((j:Nat):Int)) (off:=0) e (by omega) o rfl rfl (by decide)) ?_;refine bS (qB (off:=0) rfl rfl) ?_;refine bS e7 ?_;refine iC (λf=>?_) λf=>?_
  ·exact qR rfl ⟨8,rfl,by decide⟩
  refine bS (d:=dI ((j+1:Nat):Int)) (qY (qN (by omega))) ?_;exact qQ rfl (J A (by omega))
 refine bS (qB (off:=1) rfl k.one) ?_;refine bS (qI k) ?_;refine bS qP ?_;refine iC (λf=>?_) λf=>?_
 ·exact qR rfl ⟨19,rfl,by decide⟩
 have Z:=dF f;refine bS (qB (off:=1) rfl k.one) ?_;refine bS (qI k) ?_;refine bS zW ?_;refine iC (λg=>?_) λg=>?_
 ·exact qR rfl ⟨19,rfl,by decide⟩
 have X:=dF g;omega
theorem zGF{gs nm us lt:D}(K:qC 1048576 qDE gs)(p:qC 1048576 .str nm)(o:qC 1048576 qQQ us)(t:qC 1048576 qS9 lt):∃q:Int,Holds EE 62 [.agg [gs],.agg [nm,us,lt]] (dI q)/\(q=0->∀x∈us.es,qRP x):=by
 by_cases r:∀x∈us.es,qRP x
 ·obtain⟨q,h⟩:=zGp K p o t;exact⟨q,h,λ_=>r⟩
 have b:=qA o;have O:=qO o;have M:=qA K;have L:=qA t;have z:∃(k:Nat) (x:D),us.es[k]? = some x/\¬qRP x:=by
  false_or_by_contra
  rename_i G
  refine r λx U=>?_
  obtain⟨k,N⟩:=List.getElem?_of_mem U
  false_or_by_contra
  rename_i E
  exact G ⟨k,x,N,E⟩
 obtain⟨k,xk,A,I⟩:=z;have N:=(gI A).1;have mo:∀{s:Sh} {d:D},qC 1048576 s d->qC 300000000 s d:=λh=>rS (by decide) h;obtain⟨_,⟨b59,rfl⟩,C⟩:=zEO (mo p);have B:∀{j:Nat} {x:D},us.es[j]? = some x->∃n:Int,Holds EE 93 [.agg [gs],.agg [nm,us,lt],dI ((j:Nat):Int)] (dI n)/\(n=0->qRP x):=λe=>zGA (mo K) (mo p) (mo o) (mo t) e;obtain⟨w,rfl,W⟩:=p;suffices h:∃d,qVd d/\qE EE (Holds EE) qBx 0 [.agg [gs],.agg [.leaf (.string w),us,lt]] d by obtain⟨_,⟨n,rfl,H⟩,J⟩:=h;exact⟨n,zEp rfl J,λZ=>absurd Z H⟩
 refine zS (R:=qVd) ?_;refine bS (qD rfl) ?_;refine bS (qD rfl) ?_;refine bS (qB (off:=0) rfl rfl) ?_;refine cS C ?_;refine bS jU ?_;refine iC (λc=>?_) λc=>?_
 ·exact qR rfl ⟨7,rfl,by decide⟩
 refine bS (qB (off:=1) rfl b.one) ?_;refine bS (qI b) ?_;refine bS zW ?_;refine iC (λd=>?_) λd=>?_
 ·exact qR rfl ⟨11,rfl,by decide⟩
 refine qQ rfl (vD (P:=λj=>j<=k->∃d,qVd d/\qE EE (Holds EE) qBx 1 [dI ((j:Nat):Int),.agg [gs],.agg [.leaf (.string w),us,lt]] d) k (λj Q=>?_) 0 (by omega));intro hj;obtain⟨y,u⟩:=iA (l:=us) (i:=j) (by omega);obtain⟨q,V,F⟩:=B u;refine zS (R:=qVd) ?_;refine bS (qB (off:=1) rfl b.one) ?_;refine bS (qI b) ?_;refine bS qP ?_;refine iC (λf=>?_) λf=>?_
 ·skip;refine cS V ?_;refine bS jW ?_;refine iC (λg=>?_) λg=>?_
  ·exact qR rfl ⟨q,rfl,dT g⟩
  have S:q=0:=Decidable.not_not.1 (dF g);have X:j≠k:=by rintro rfl;rw[A]at u;cases u;exact I (F S)
  refine bS (d:=dI ((j+1:Nat):Int)) (qY (qN (by omega))) ?_;exact qQ rfl (Q (by omega) (by omega))
 have:=wJ f;omega
end Go.Proofs.YtpbmnkajhedaiaaGreat
