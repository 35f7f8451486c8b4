/- All functions of the search give something. Conditions: none. -/
import Derived.Test.YtpbmnkajhedaiaaGreatHj
import Derived.Test.YtpbmnkajhedaiaaGreatH0
import Derived.Test.YtpbmnkajhedaiaaGreatH1
import Derived.Test.YtpbmnkajhedaiaaGreatH2
import Derived.Test.YtpbmnkajhedaiaaGreatH3
import Derived.Test.YtpbmnkajhedaiaaGreatH4
import Derived.Test.YtpbmnkajhedaiaaGreatH5
import Derived.Test.YtpbmnkajhedaiaaGreatH6
import Derived.Test.YtpbmnkajhedaiaaGreatH7
import Derived.Test.YtpbmnkajhedaiaaGreatH8
import Derived.Test.YtpbmnkajhedaiaaGreatH9
set_option linter.all false
namespace Go.Proofs.YtpbmnkajhedaiaaGreat.Ht
open Go Go.Am Go.Proofs Go.Am.Tt
abbrev zBC(t:aG):Prop:=∀p∈t,xZ (Holds EE) p.1 p.2
abbrev zBD(t:pU):Prop:=∀p∈t,tY (Holds EE) p.1 p.2.1 p.2.2
theorem s0:zBC zCi/\zBD zCh:=⟨qSi,λ_ h=>by cases h⟩
theorem nx{t:aG}{m:pU}{l:List It}(h:zBC t/\zBD m)(k:oJ EE Tryz.prog TT t m l=true):zBC (gO t l)/\zBD (lF m l):=bP he (bK qIf) TT_ok h.1 h.2 k
theorem zES:zBC qZq/\zBD zCg:=nx (nx (nx (nx (nx (nx (nx (nx (nx (nx s0 zGa) zF9) zF8) zF7) zF6) zF5) zF4) zF3) zF2) zF1
theorem sp{f:FuncId}{S:Tt.Spec}(h:gB qZq f=some S):xZ (Holds EE) f S:=k9 zES.1 h
theorem sp52:xZ (Holds EE) 52 e52.S:=sp (by kernel_rfl)
theorem sp133:xZ (Holds EE) 133 e133.S:=sp (by kernel_rfl)
theorem sp17:xZ (Holds EE) 17 e17.S:=sp (by kernel_rfl)
end Go.Proofs.YtpbmnkajhedaiaaGreat.Ht
namespace Go.Proofs.YtpbmnkajhedaiaaGreat
open Go Go.Am Go.Proofs Go.Am.Tt
def RI(F:Prop)(d:D):Prop:=∃e:Int,d=dI e/\(e=0->F)
def qZK:D->Prop
 |.leaf (.int .i64 n)=>0<=n
 |_=>False
abbrev AN(fs:D)(i:Nat):Prop:=∀(j:Nat) (y:D),i<=j->fs.es[j]? = some y->qZK y
def qZJ:D->Prop
 |.agg [.leaf (.int .i64 f),_,.leaf (.int .i64 t)]=>0<=f/\0<=t
 |_=>False
abbrev AW(ws fs:D)(i:Nat):Prop:=(∀(j:Nat) (y:D),i<=j->ws.es[j]? = some y->qZJ y)/\AN fs 0
theorem qZm:fU EE.prog 4 112=some [.int .i64,.int .i64,.int .i64]:=by kernel_rfl
theorem qZx:lQ EE.prog 112=true:=by kernel_rfl
theorem zAj:EE.prog.eqGuardType EE.prog.depth 112=false:=by kernel_rfl
theorem zGK{x y:Operand}{a b c d e f:Int}:∃t:Bool,TOp.eval EE (.bin .eql 112 x y) [.agg [dI a,dI b,dI c],.agg [dI d,dI e,dI f]]=some (dB t):=
 ⟨_,sE .eql (.inr rfl) qZm qZx (by decide:4<=10000) zAj rfl (x:=x) (y:=y) (jS wT (jS wT (jS wT mT))) (jS wT (jS wT (jS wT mT)))⟩
theorem qOM{b:Bool}(h:(!b)=false):b=true:=by cases b with
 |false=>cases h
 |true=>rfl
attribute [local irreducible] Go.Am.wp Go.Am.TOp.eval
section
variable{n:Int}{ws fs:D}
theorem zGy{q:Int}(x:ws.one=true)(y:fs.one=true):∃b:Bool,Holds EE 97 [.agg [dI n,ws,fs],dI q] (dB b)/\(b=true->0<=q):=by
 by_cases h:q≥0
 ·refine⟨decide (q<n),zEj rfl (qE.step' ?_),λ_=>h⟩;refine bS (qD rfl) ?_;refine bS kT ?_;refine qL (t:=true) (congrArg (λq=>dB q) (tD h)) ?_;refine xJ ?_;refine bS (qB (off:=0) rfl rfl) ?_;refine bS qP ?_;exact qF rfl rfl
 refine⟨false,zEj rfl (qE.step' ?_),λh=>by cases h⟩;refine bS (qD rfl) ?_;refine bS kT ?_;refine qL (t:=false) (congrArg (λq=>dB q) (fD h)) ?_;refine jH ?_;exact qF rfl rfl
theorem zGD(J:qC 1048576 qS8 ws)(H:qC 1048576 mL fs):∃e:Int,Holds EE 64 [.agg [dI n,ws,fs]] (dI e)/\(e=0->(∀x∈ws.es,qZJ x)/\∀x∈fs.es,qZK x):=by
 have p:=qA J;have o:=qA H;have b_ws:ws.es.length<=1048576:=qO J;have b_fs:fs.es.length<=1048576:=qO H;have B:=λq:Int=>zGy (n:=n) (q:=q) p.one o.one;have l4:∀i:Nat,∃d,RI (AN fs i) d/\qE EE (Holds EE) fY 4 [dI ((i:Nat):Int),.agg [dI n,ws,fs]] d:=by
  refine vD (P:=λi:Nat=>∃d,RI (AN fs i) d/\qE EE (Holds EE) fY 4 [dI ((i:Nat):Int),.agg [dI n,ws,fs]] d) fs.es.length (λi G=>zS (R:=RI (AN fs i)) ?_);refine bS (qB (off:=2) rfl o.one) ?_;refine bS (qI o) ?_;refine bS qP ?_;refine iC (λc=>?_) λc=>?_
  ·have A:=xN c;have r:=List.getElem?_eq_getElem A;obtain⟨s,hs⟩:=zO H r;rw[hs]at r;obtain⟨b,M,fb⟩:=B s;refine bS (qB (off:=2) rfl o.one) ?_;refine bS (qV (s:=((i:Nat):Int)) (by omega) r) ?_;refine bS (jJ (s:=((i:Nat):Int)) o (by omega) r rfl) ?_;refine cS M ?_;refine bS jU ?_;refine iC (λd=>?_) λd=>?_
   ·exact qR rfl ⟨2,rfl,λh=>by cases h⟩
   have X:=qOM d;refine bS (d:=dI ((i+1:Nat):Int)) (qY (qN (by omega))) ?_;refine qQ rfl ?_;obtain⟨K,⟨e,rfl,he⟩,z⟩:=G A;refine⟨_,⟨e,rfl,λh j y E u=>?_⟩,z⟩;by_cases F:j=i
   ·subst F;rw[r]at u;cases u;exact fb X
   exact he h j y (by omega) u
  have A:=wJ c;refine qR rfl ⟨0,rfl,λ_ j y E u=>?_⟩;grind
 have l3:∀i:Nat,1<=i->∃d,RI (AN fs 0) d/\qE EE (Holds EE) fY 3 [dI ((i:Nat):Int),.agg [dI n,ws,fs]] d:=by
  refine vD (P:=λi:Nat=>1<=i->∃d,RI (AN fs 0) d/\qE EE (Holds EE) fY 3 [dI ((i:Nat):Int),.agg [dI n,ws,fs]] d) fs.es.length (λi G h1=>zS (R:=RI (AN fs 0)) ?_);refine bS (qB (off:=2) rfl o.one) ?_;refine bS (qI o) ?_;refine bS qP ?_;refine iC (λc=>?_) λc=>?_
  ·have A:=xN c;have r:=List.getElem?_eq_getElem A;obtain⟨s,hs⟩:=zO H r;rw[hs]at r;have U:(((i:Nat):Int)-1).toNat<fs.es.length:=by omega
   have u:=List.getElem?_eq_getElem U;obtain⟨s2,Q⟩:=zO H u;rw[Q]at u;refine bS (qB (off:=2) rfl o.one) ?_;refine bS (qV (s:=((i:Nat):Int)) (by omega) r) ?_;refine bS (jJ (s:=((i:Nat):Int)) o (by omega) r rfl) ?_;refine bS (qB (off:=2) rfl o.one) ?_;refine bS (d:=dI (((i:Nat):Int)-1)) (iK (by omega)) ?_;refine bS (qV (s:=((i:Nat):Int)-1) (by omega) u) ?_;refine bS (jJ (s:=((i:Nat):Int)-1) o (by omega) u rfl) ?_;refine bS kS ?_;refine iC (λd=>?_) λd=>?_
   ·exact qR rfl ⟨10,rfl,λh=>by cases h⟩
   refine bS (d:=dI ((i+1:Nat):Int)) (qY (qN (by omega))) ?_;exact qQ rfl (G A (by omega))
  refine qQ rfl ?_;obtain⟨K,⟨e,rfl,he⟩,z⟩:=l4 0;exact⟨_,⟨e,rfl,he⟩,z⟩
 have l1:∀i:Nat,∃d,RI (AW ws fs i) d/\qE EE (Holds EE) fY 1 [dI ((i:Nat):Int),.agg [dI n,ws,fs]] d:=by
  refine vD (P:=λi:Nat=>∃d,RI (AW ws fs i) d/\qE EE (Holds EE) fY 1 [dI ((i:Nat):Int),.agg [dI n,ws,fs]] d) ws.es.length (λi G=>zS (R:=RI (AW ws fs i)) ?_);refine bS (qB (off:=1) rfl p.one) ?_;refine bS (qI p) ?_;refine bS qP ?_;refine iC (λc=>?_) λc=>?_
  ·have A:=xN c;have r:=List.getElem?_eq_getElem A;obtain⟨_,hs,_,_,rfl,⟨f,rfl⟩,_,_,rfl,⟨k,rfl⟩,_,_,rfl,⟨t,rfl⟩,rfl⟩:=zO J r;rw[hs]at r;obtain⟨b,M,fb⟩:=B f;obtain⟨b2,L,Z⟩:=B t;obtain⟨K,⟨e,rfl,he⟩,z⟩:=G A;have C:0<=f->0<=t->∀j:Nat,∃d,RI (AW ws fs i) d/\qE EE (Holds EE) fY 2 [dI ((i:Nat):Int),dI ((j:Nat):Int),.agg [dI n,ws,fs],dI t,dB b2,dI k,.agg [dI f,dI k,dI t]] d:=by
    intro V O;refine vD (P:=λj:Nat=>∃d,RI (AW ws fs i) d/\qE EE (Holds EE) fY 2 [dI ((i:Nat):Int),dI ((j:Nat):Int),.agg [dI n,ws,fs],dI t,dB b2,dI k,.agg [dI f,dI k,dI t]] d) i (λj N=>zS (R:=RI (AW ws fs i)) ?_);refine bS qP ?_;refine iC (λg=>?_) λg=>?_
    ·have E:=xN g;have I:=List.getElem?_eq_getElem (show j<ws.es.length by omega);obtain⟨_,S,_,_,rfl,⟨f',rfl⟩,_,_,rfl,⟨k',rfl⟩,_,_,rfl,⟨t',rfl⟩,rfl⟩:=zO J I;rw[S]at I;obtain⟨q,hq⟩:=zGK (x:=.tmp 61) (y:=.tmp 62) (a:=f') (b:=k') (c:=t') (d:=f) (e:=k) (f:=t);refine bS (qB (off:=1) rfl p.one) ?_;refine bS (qV (s:=((j:Nat):Int)) (by omega) I) ?_;refine bS (zU (s:=((j:Nat):Int)) p (by omega) I rfl) ?_;refine bS hq ?_;refine iC (λm=>?_) λm=>?_
     ·exact qR rfl ⟨8,rfl,λh=>by cases h⟩
     refine bS (d:=dI ((j+1:Nat):Int)) (qY (qN (by omega))) ?_;exact qQ rfl (N E)
    refine bS (d:=dI ((i+1:Nat):Int)) (qY (qN (by omega))) ?_;refine qQ rfl ⟨_,⟨e,rfl,λh=>⟨λj y E u=>?_,(he h).2⟩⟩,z⟩;by_cases F:j=i
    ·subst F;rw[r]at u;cases u;exact⟨V,O⟩
    grind
   refine bS (qB (off:=1) rfl p.one) ?_;refine bS (qV (s:=((i:Nat):Int)) (by omega) r) ?_;refine bS (zU (s:=((i:Nat):Int)) p (by omega) r rfl) ?_;refine bS (qD rfl) ?_;refine bS (qB (off:=0) rfl rfl) ?_;refine cS M ?_;refine bS jU ?_;refine iC (λd1=>?_) λd1=>?_
   ·exact qR rfl ⟨2,rfl,λh=>by cases h⟩
   have X:=qOM d1;refine bS (qB (off:=2) rfl rfl) ?_;refine cS L ?_;refine bS jU ?_;refine iC (λd2=>?_) λd2=>?_
   ·exact qR rfl ⟨2,rfl,λh=>by cases h⟩
   have W:=qOM d2;refine bS (qB (off:=1) rfl rfl) ?_;refine bS qP ?_;refine iC (λd3=>?_) λd3=>?_
   ·exact qR rfl ⟨21,rfl,λh=>by cases h⟩
   refine bS (qB (off:=1) rfl rfl) ?_;refine bS zW ?_;refine iC (λd4=>?_) λd4=>?_
   ·exact qR rfl ⟨21,rfl,λh=>by cases h⟩
   exact qQ rfl (C (fb X) (Z W) 0)
  refine qQ rfl ?_;obtain⟨K,⟨e,rfl,he⟩,z⟩:=l3 1 (vE 1);refine⟨_,⟨e,rfl,λh=>⟨λj y E u=>?_,he h⟩⟩,z⟩;grind
 suffices hh:∃d,RI ((∀x∈ws.es,qZJ x)/\∀x∈fs.es,qZK x) d/\qE EE (Holds EE) fY 0 [.agg [dI n,ws,fs]] d by obtain⟨_,⟨e,rfl,he⟩,z⟩:=hh;exact⟨e,u64 rfl z,he⟩
 refine zS (R:=RI ((∀x∈ws.es,qZJ x)/\∀x∈fs.es,qZK x)) ?_;refine bS (qD rfl) ?_;refine bS (qB (off:=0) rfl rfl) ?_;refine bS qP ?_;refine iC (λc1=>?_) λc1=>?_
 ·exact qR rfl ⟨2,rfl,λh=>by cases h⟩
 refine bS (qB (off:=0) rfl rfl) ?_;refine bS zW ?_;refine iC (λc2=>?_) λc2=>?_
 ·exact qR rfl ⟨2,rfl,λh=>by cases h⟩
 refine bS (qB (off:=1) rfl p.one) ?_;refine bS (qI p) ?_;refine bS zW ?_;refine iC (λc3=>?_) λc3=>?_
 ·exact qR rfl ⟨11,rfl,λh=>by cases h⟩
 refine qQ rfl ?_;obtain⟨K,⟨e,rfl,he⟩,z⟩:=l1 0;refine⟨_,⟨e,rfl,λh=>⟨λx r=>?_,λx r=>?_⟩⟩,z⟩
 ·obtain⟨j,E⟩:=List.getElem?_of_mem r;grind
 obtain⟨j,E⟩:=List.getElem?_of_mem r;grind
end
end Go.Proofs.YtpbmnkajhedaiaaGreat
namespace Go.Proofs.YtpbmnkajhedaiaaGreat
open Go Go.Am Go.Proofs Go.Am.Tt
theorem qRe{el sz n:Nat}{e:Sn}{d:D}{s:Sh}(h:qC n (.sl el sz s) d)(he:∀x∈d.es,qC n s x->qM e x):qM (.sl el sz n e) d:=by
 simp only[qC]at h;simp only[qM];rcases h with h|⟨es,rfl,b,c⟩
 ·exact .inl h
 exact .inr ⟨es,rfl,b,λx y=>he x y (c x y)⟩
theorem zCD{a b:Cn}{P:Cn->Prop}(y:P a)(x:P b):∀c∈[a,b],P c:=λc h=>by
 grind
theorem zGl{a:Cn}{P:Cn->Prop}(x:P a):∀c∈[a],P c:=λc h=>by
 grind
theorem qWY{gs nm us lt rs n ws fs l:D}(J:qC 1048576 qDE gs)(o:qC 1048576 .str nm)(i:qC 1048576 qQQ us)(p:qC 1048576 qS9 lt)(j:qC 1048576 qHG rs)(G:qC 1048576 (.int .i64) n)(E:qC 1048576 qS8 ws)(K:qC 1048576 mL fs)(I:qC 1048576 qAs l)(C:∀r∈rs.es,qUQ r)(A:∀r∈us.es,qRP r)(z:∀x∈ws.es,qZJ x)(u:∀x∈fs.es,qZK x):qM Ht.n13 (.agg [gs,nm,us,lt,rs,n,ws,fs,l]):=by
 have O:qM Ht.n7 us:=qRe (s:=.st [.str,mL]) i λx b y=>by
  have q:=A x b;have e:qM (.st [.str 1048576,.sl 3 1 1048576 (.int .i64)]) x:=vY (B:=1048576) rfl y;obtain⟨_,rfl,fr,_,rfl,c,to,_,rfl,h,rfl⟩:=y;have q:1<=to.es.length/\to.es.length<=3:=q;simp only[qM];refine⟨e,zCD ?_ ?_⟩
  ·show(0:Int)<=kF to + -1;rw[qH8 h];omega
  show kF to<=(0:Int)+3;rw[qH8 h];omega
 have P:qM Ht.n5 rs:=qRe (s:=zBf) j λx b y=>by
  have q:=C x b;have e:qM (.st [(.sl 3 1 1048576 (.int .i64)),(.sl 3 1 1048576 (.int .i64)),(.sl 295 2 1048576 (.st [(.int .i64),(.int .i64)])),(.sl 295 2 1048576 (.st [(.int .i64),(.int .i64)])),.bool,.bool]) x:=vY (B:=1048576) rfl y;obtain⟨_,rfl,fr,_,rfl,c,to,_,rfl,h,S,_,rfl,H,R,_,rfl,F,V,_,rfl,M,U,_,rfl,L,rfl⟩:=y;have q:to.es.length=fr.es.length:=q;simp only[qM];refine⟨e,zCD ?_ ?_⟩
  ·show kF fr<=kF to+0;rw[qH8 h,qH8 c];omega
  show kF to<=kF fr+0;rw[qH8 h,qH8 c];omega
 have N:qM Ht.n9 ws:=qRe (s:=.st [.int .i64,.int .i64,.int .i64]) E λx b y=>by
  have q:=z x b;have e:qM (.st [.int .i64,.int .i64,.int .i64]) x:=vY (B:=1048576) rfl y;obtain⟨_,rfl,_,_,rfl,⟨f,rfl⟩,_,_,rfl,⟨k,rfl⟩,_,_,rfl,⟨t,rfl⟩,rfl⟩:=y;have q:0<=f/\0<=t:=q;simp only[qM];refine⟨e,zCD ?_ ?_⟩
  ·show(0:Int)<=f+0;omega
  show(0:Int)<=t+0;omega
 have Q:qM Ht.n10 fs:=qRe (s:=.int .i64) K λx b y=>by have q:=u x b;have e:qM (.int .i64) x:=vY (B:=1048576) rfl y;obtain⟨f,rfl⟩:=y;have q:0<=f:=q;simp only[qM];refine⟨e,zGl ?_⟩;show(0:Int)<=f+0;omega
 exact⟨_,rfl,_,_,rfl,vY (B:=1048576) rfl J,_,_,rfl,vY (B:=1048576) rfl o,_,_,rfl,O,_,_,rfl,vY (B:=1048576) rfl p,_,_,rfl,P,_,_,rfl,vY (B:=1048576) rfl G,_,_,rfl,N,_,_,rfl,Q,_,_,rfl,vY (B:=1048576) rfl I,rfl⟩
theorem qR3{gs nm us lt rs ws fs l:D}{n:Int}(i:qC 1048576 qDE gs)(c:qC 1048576 .str nm)(x:qC 1048576 qQQ us)(j:qC 1048576 qS9 lt)(y:qC 1048576 qHG rs)(k:qC 1048576 qS8 ws)(o:qC 1048576 mL fs)(e:qC 1048576 qAs l):∃b:Bool,Holds EE 12 [.agg [gs,nm,us,lt,rs,dI n,ws,fs,l]] (dB b)/\(b=true->qM Ht.n13 (.agg [gs,nm,us,lt,rs,dI n,ws,fs,l])):=by obtain⟨N,C⟩:=zGq i;obtain⟨M,B,f2⟩:=zGF i c x j;obtain⟨L,A,F⟩:=zGE (nm:=nm) (us:=us) (lt:=lt) (n:=dI n) (ws:=ws) (fs:=fs) (l:=l) i y;obtain⟨K,z,p⟩:=zGD (n:=n) k o;obtain⟨J,u⟩:=zGo i e;obtain⟨I,t⟩:=zGn e;obtain⟨H,r⟩:=zBt e;obtain⟨b,q,E⟩:=zGJ i (by obtain⟨_,h,_⟩:=c;rw[h];rfl) x y k o e (zGH (qA e).one C B A z u t r);refine⟨b,q,λh=>?_⟩;have G:=(E h).1;obtain⟨_,z2,z3,z4,_⟩:=qQs G;exact qWY i c x j y ⟨_,rfl⟩ k o e (F z3) (f2 z2) (p z4).1 (p z4).2
theorem qSW:TOp.eval EE .box [D.nil]=some (.ptr [.nil] 0):=rfl
attribute [local irreducible] Go.Am.wp Go.Am.TOp.eval
section
variable{g:List D}{s:ByteArray}
theorem qZM(h:qM Ht.n13 (.agg g))(hs:s.size<=1048576):∃L,∃e:Int,qC BN qJn L/\Holds EE 133 [.agg g,.leaf (.string s)] (.tup [L,dI e]):=by obtain⟨c,x,_,b⟩:=Ht.sp133 [.agg g,.leaf (.string s)] (by simp only[Ht.e133,qU];exact⟨_,_,rfl,h,_,_,rfl,⟨_,rfl,hs⟩,rfl⟩) (λq y=>by cases y);simp only[Ht.e133,qU]at x;obtain⟨L,_,rfl,hL,_,_,rfl,⟨e,rfl⟩,rfl⟩:=x;exact⟨L,e,zA (B:=300000000) rfl hL,b⟩
theorem zGc(c:g.length=9)(h:qM Ht.n13 (.agg g))(p:s.size<=1048576):∃C,∃e:Int,qC BN qJn C/\∀a b:Int,Holds EE 84 [.agg g,.agg [dI a,dI b],.leaf (.string s),.nil] (.tup [C,dI e]):=by
 obtain⟨L,e,hL,k⟩:=qZM h p;have j:=qA hL;obtain⟨K,x,i⟩:=zCI hL;have o:=qA x;by_cases y:e=0
 ·refine⟨K,0,x,λa b=>zEk rfl (qE.step' ?_)⟩;refine bS (qD c) ?_;refine bS (qD rfl) ?_;refine bS (xI rfl) ?_;refine cS k ?_;refine bS (vV rfl) ?_;refine bS (vV rfl) ?_;refine bS jW ?_;refine qL (t:=false) (congrArg (λq=>dB q) (fD (λh=>h y))) ?_;refine jH ?_;refine qDG (ρ':=[_,_,_,_,_,_,_,_,_,_,_,K]) i rfl rfl rfl ?_;refine bS qSW ?_;refine bS tN ?_;refine qDG (ρ':=[_,_,_,_,_,_,_,_,_,_,_,_,_,_,K]) (zCJ x) rfl rfl rfl ?_;exact rN rfl rfl
 refine⟨.nil,e,xR,λa b=>zEk rfl (qE.step' ?_)⟩;refine bS (qD c) ?_;refine bS (qD rfl) ?_;refine bS (xI rfl) ?_;refine cS k ?_;refine bS (vV rfl) ?_;refine bS (vV rfl) ?_;refine bS jW ?_;refine qL (t:=true) (congrArg (λq=>dB q) (tD y)) ?_;refine xJ ?_;exact rN rfl rfl
theorem zGe(y:g.length=9)(h:qM Ht.n13 (.agg g))(E:s.size<=1048576):∃k:Int,∃p:D,qC BN qBr p/\∀a b:Int,Holds EE 52 [.agg g,.agg [dI a,dI b],.leaf (.string s),.nil] (.agg [dI a,dI b,dI k,p]):=by
 obtain⟨C,e,A,k⟩:=zGc y h E;have x:=qA A;by_cases c:e=11
 ·skip;refine⟨3,.nil,xR,λa b=>qYS rfl (qE.step' ?_)⟩;refine bS (qD y) ?_;refine bS (qD rfl) ?_;refine cS qZP ?_;refine bS (vV rfl) ?_;refine bS (vV rfl) ?_;refine bS (qD rfl) ?_;refine qL (t:=false) rfl ?_;refine jH ?_;refine cS (k a b) ?_;refine bS (vV rfl) ?_;refine bS (vV rfl) ?_;refine bS jO ?_;refine qL (t:=true) (congrArg (λq=>dB q) (tD c)) ?_;refine xJ ?_;refine bS (qD rfl) ?_;refine bS (qB (off:=0) rfl rfl) ?_;refine bS (qB (off:=1) rfl rfl) ?_;exact qF rfl rfl
 by_cases o:((C.es.length:Nat):Int)>1
 ·skip;refine⟨3,.nil,xR,λa b=>qYS rfl (qE.step' ?_)⟩;refine bS (qD y) ?_;refine bS (qD rfl) ?_;refine cS qZP ?_;refine bS (vV rfl) ?_;refine bS (vV rfl) ?_;refine bS (qD rfl) ?_;refine qL (t:=false) rfl ?_;refine jH ?_;refine cS (k a b) ?_;refine bS (vV rfl) ?_;refine bS (vV rfl) ?_;refine bS jO ?_;refine qL (t:=false) (congrArg (λq=>dB q) (fD c)) ?_;refine jH ?_;refine bS (qI x) ?_;refine bS zW ?_;refine qL (t:=true) (congrArg (λq=>dB q) (tD o)) ?_;refine xJ ?_;refine bS (qD rfl) ?_;refine bS (qB (off:=0) rfl rfl) ?_;refine bS (qB (off:=1) rfl rfl) ?_;exact qF rfl rfl
 by_cases u:e=0
 ·by_cases B:((C.es.length:Nat):Int)=1
  ·obtain⟨p,j,z⟩:=qVa A (i:=0) (by omega);have r:=qA z;refine⟨2,p,z,λa b=>qYS rfl (qE.step' ?_)⟩;refine bS (qD y) ?_;refine bS (qD rfl) ?_;refine cS qZP ?_;refine bS (vV rfl) ?_;refine bS (vV rfl) ?_;refine bS (qD rfl) ?_;refine qL (t:=false) rfl ?_;refine jH ?_;refine cS (k a b) ?_;refine bS (vV rfl) ?_;refine bS (vV rfl) ?_;refine bS jO ?_;refine qL (t:=false) (congrArg (λq=>dB q) (fD c)) ?_;refine jH ?_;refine bS (qI x) ?_;refine bS zW ?_;refine qL (t:=false) (congrArg (λq=>dB q) (fD o)) ?_;refine jH ?_;refine bS jW ?_;refine qL (t:=false) (congrArg (λq=>dB q) (fD (λh=>h u))) ?_;refine jH ?_;refine bS (qI x) ?_;refine bS jO ?_;refine qL (t:=true) (congrArg (λq=>dB q) (tD B)) ?_;refine xJ ?_;refine bS (qV (s:=0) (by omega) j) ?_;refine bS (zU (s:=0) x (by omega) j rfl) ?_;refine bS (qD rfl) ?_;refine bS (qB (off:=0) rfl rfl) ?_;refine bS (qB (off:=1) rfl rfl) ?_;refine bS (qD rfl) ?_;refine bS (qB (off:=0) rfl r.one) ?_;exact qF rfl rfl
  refine⟨1,.nil,xR,λa b=>qYS rfl (qE.step' ?_)⟩;refine bS (qD y) ?_;refine bS (qD rfl) ?_;refine cS qZP ?_;refine bS (vV rfl) ?_;refine bS (vV rfl) ?_;refine bS (qD rfl) ?_;refine qL (t:=false) rfl ?_;refine jH ?_;refine cS (k a b) ?_;refine bS (vV rfl) ?_;refine bS (vV rfl) ?_;refine bS jO ?_;refine qL (t:=false) (congrArg (λq=>dB q) (fD c)) ?_;refine jH ?_;refine bS (qI x) ?_;refine bS zW ?_;refine qL (t:=false) (congrArg (λq=>dB q) (fD o)) ?_;refine jH ?_;refine bS jW ?_;refine qL (t:=false) (congrArg (λq=>dB q) (fD (λh=>h u))) ?_;refine jH ?_;refine bS (qI x) ?_;refine bS jO ?_;refine qL (t:=false) (congrArg (λq=>dB q) (fD B)) ?_;refine jH ?_;refine bS (qD rfl) ?_;refine bS (qB (off:=0) rfl rfl) ?_;refine bS (qB (off:=1) rfl rfl) ?_;exact qF rfl rfl
 refine⟨0,.nil,xR,λa b=>qYS rfl (qE.step' ?_)⟩;refine bS (qD y) ?_;refine bS (qD rfl) ?_;refine cS qZP ?_;refine bS (vV rfl) ?_;refine bS (vV rfl) ?_;refine bS (qD rfl) ?_;refine qL (t:=false) rfl ?_;refine jH ?_;refine cS (k a b) ?_;refine bS (vV rfl) ?_;refine bS (vV rfl) ?_;refine bS jO ?_;refine qL (t:=false) (congrArg (λq=>dB q) (fD c)) ?_;refine jH ?_;refine bS (qI x) ?_;refine bS zW ?_;refine qL (t:=false) (congrArg (λq=>dB q) (fD o)) ?_;refine jH ?_;refine bS jW ?_;refine qL (t:=true) (congrArg (λq=>dB q) (tD u)) ?_;refine xJ ?_;refine bS (qD rfl) ?_;refine bS (qB (off:=0) rfl rfl) ?_;refine bS (qB (off:=1) rfl rfl) ?_;exact qF rfl rfl
end
end Go.Proofs.YtpbmnkajhedaiaaGreat
namespace Go.Proofs.YtpbmnkajhedaiaaGreat
open Go Go.Am Go.Proofs Go.Am.Tt
abbrev zBe:Sh:=.st [.int .i64,.int .i64,.int .i64,qBr]
abbrev qMt:Sh:=.sl 97 4 (.st [.int .i64,.int .i64,.bool,qBr])
def qRu(w:Tr.Wd):D:=.agg [dI w.1.1,dI w.1.2]
def qQr(w:Tr.Wd):D:=.clo (.func 51) [] [.ptr [dI w.1.1,dI w.1.2,.leaf (.string w.2)] 0]
noncomputable def bV(l:D)(w:Tr.Wd):Bool:=Classical.epsilon λb=>Holds EE 50 [l,qQr w] (dB b)
noncomputable def zAo(g:List D)(l:D)(w:Tr.Wd):D:=@Classical.epsilon D ⟨.nil⟩ λd=>qM Ht.n32 d/\Holds EE 52 [.agg g,qRu w,.leaf (.string w.2),l] d
noncomputable def kV(g:List D)(s:ByteArray):Int:=Classical.epsilon λk=>∃p:D,qC BN qBr p/\∀a b:Int,Holds EE 52 [.agg g,.agg [dI a,dI b],.leaf (.string s),.nil] (.agg [dI a,dI b,dI k,p])
noncomputable def pV(g:List D)(s:ByteArray):D:=@Classical.epsilon D ⟨.nil⟩ λp=>qC BN qBr p/\∀a b:Int,Holds EE 52 [.agg g,.agg [dI a,dI b],.leaf (.string s),.nil] (.agg [dI a,dI b,dI (kV g s),p])
noncomputable def qDt(g:List D)(l:D)(w:Tr.Wd):D:=bif bV l w then zAo g l w else .agg [dI w.1.1,dI w.1.2,dI (kV g w.2),pV g w.2]
noncomputable def qMM(g:List D)(m:ByteArray×(Int×Int)):D:=.agg [dI m.2.1,dI m.2.2,dI (kV g m.1),pV g m.1]
abbrev uW(m:ByteArray×(Int×Int)):ByteArray:=m.1
noncomputable def qA0(g:List D)(h:List (ByteArray×(Int×Int))):D:=.mp ((h.map uW).map λs=>Value.string s) (h.map (qMM g))
theorem qOX:qGB EE 77=some (.string,true,[.int .i64 0,.int .i64 0,.int .i64 0,.slice none 0 0]):=by kernel_rfl
theorem s9{s:ByteArray}:∀(seen:List ByteArray) (i:Nat),dW .string (.string s) (seen.map λs=>Value.string s) i=some (match seen.findIdx? λt=>s==t with
  |some k=>some (i+k)
  |none=>none)
 | [],i=>rfl
 |t::r,i=>by
  have h:=s9 (s:=s) r (i+1)
  have e:Instr.sameNow .string (.string s) (.string t)=some (s==t):=rfl
  show dW .string (.string s) (.string t::r.map λs=>Value.string s) i=_
  unfold dW
  grind
theorem qEu{g:List D}{ms:List (ByteArray×(Int×Int))}{s:ByteArray}:TOp.eval EE (.mget 77 true) [qA0 g ms,.leaf (.string s)]=(match dW .string (.string s) ((ms.map uW).map λs=>Value.string s) 0 with
  |some (some i)=>((ms.map (qMM g))[i]?).map λd=>.tup [d,dB true]
  |some none=>some (.tup [.agg [dI 0,dI 0,dI 0,.nil],dB false])
  |none=>none):=by
 rw[qBn]
 unfold qD7
 rw[qOX]
 rfl
theorem qOV{g:List D}{ms:List (ByteArray×(Int×Int))}{s:ByteArray}{k:Nat}(h:(ms.map uW).findIdx? (λt=>s==t)=some k):∃a b:Int,TOp.eval EE (.mget 77 true) [qA0 g ms,.leaf (.string s)]=some (.tup [.agg [dI a,dI b,dI (kV g s),pV g s],dB true]):=by
 obtain⟨y,hs,_⟩:=List.findIdx?_eq_some_iff_getElem.1 h;have x:k<ms.length:=by rw[List.length_map]at y;exact y
 have e:(ms.map uW)[k]=ms[k].1:=List.getElem_map _;rw[e]at hs;have hs:=qJe.1 hs;refine⟨ms[k].2.1,ms[k].2.2,?_⟩;rw[qEu,s9,h];show((ms.map (qMM g))[0+k]?).map (λd=>D.tup [d,dB true])=_;rw[Nat.zero_add,List.getElem?_map,List.getElem?_eq_getElem x,hs];rfl
theorem qLC{g:List D}{ms:List (ByteArray×(Int×Int))}{s:ByteArray}(h:(ms.map uW).findIdx? (λt=>s==t)=none):TOp.eval EE (.mget 77 true) [qA0 g ms,.leaf (.string s)]=some (.tup [.agg [dI 0,dI 0,dI 0,.nil],dB false]):=by rw[qEu,s9,h]
theorem qLB{g:List D}{ms:List (ByteArray×(Int×Int))}{s:ByteArray}{a b:Int}(h:(ms.map uW).findIdx? (λt=>s==t)=none):TOp.eval EE (.mset 77) [qA0 g ms,.leaf (.string s),.agg [dI a,dI b,dI (kV g s),pV g s]]=some (qA0 g (ms++[(s,(a,b))])):=by
 rw[qBm];unfold qD6;rw[qOX];show(match dW .string (.string s) ((ms.map uW).map λs=>Value.string s) 0 with
  |some (some i)=>some (D.mp (((ms.map uW).map λs=>Value.string s).set i (Value.string s)) ((ms.map (qMM g)).set i (D.agg [dI a,dI b,dI (kV g s),pV g s])))
  |some none=>some (D.mp (((ms.map uW).map λs=>Value.string s)++[Value.string s]) ((ms.map (qMM g))++[D.agg [dI a,dI b,dI (kV g s),pV g s]]))
  |none=>none)=_
 rw[s9,h];unfold qA0;rw[List.map_append,List.map_append,List.map_append];rfl
theorem qO5{x y z:D}:TOp.eval EE (.loadp true 2) [.ptr [x,y,z] 0]=some (.agg [x,y]):=rfl
theorem qWS{x y z p:D}:TOp.eval EE (.lit 73 4) [.agg [x,y,z,p]]=some (.sl 73 4 [.agg [x,y,z,p]]):=rfl
theorem qMq{l:List D}{a b k:Int}{p:D}(c:qC BN qBr p)(h:l.length+1<=100000000):TOp.eval EE (.app 73 4 48) [zF 73 4 l,.sl 73 4 [.agg [dI a,dI b,dI k,p]]]=some (zF 73 4 (l++[.agg [dI a,dI b,dI k,p]])):=
 eK (B:=BN) (e:=zBe) (rD (show 1<=BN by decide) λx y=>by rw[List.mem_singleton.1 y];exact lH (qW vO (qW vO (qW vO (qW c jY))))) (by decide) (by show _+1<=_;omega)
attribute [local irreducible] Go.Am.wp Go.Am.TOp.eval
theorem zDh{x y a b:Int}{t:Bool}{p:D}{s:ByteArray}(h:p.one=true):∃q:Bool,Holds EE 51 [.agg [dI x,dI y,dB t,p],.ptr [dI a,dI b,.leaf (.string s)] 0] (dB q):=by refine⟨decide (((x,y):Pr)=(a,b)),zFB rfl (qE.step' ?_)⟩;refine bS (qD rfl) ?_;refine bS (yB (off:=0) (size:=2) rfl) ?_;refine bS qBl ?_;refine bS qO5 ?_;refine bS zE3 ?_;exact qF rfl rfl
theorem zDg{l:D}{w:Tr.Wd}(o:qC BN qMt l):∃n:Int,Holds EE 80 [l,qQr w] (dI n):=by
 have e:=qA o;have C:l.es.length<=300000000:=qO o;obtain⟨⟨a,b⟩,s⟩:=w;show∃n:Int,Holds EE 80 [l,.clo (.func 51) [] [.ptr [dI a,dI b,.leaf (.string s)] 0]] (dI n);have h:∃d,(∃n:Int,d=dI n)/\qE EE (Holds EE) qMR 1 [l,.clo (.func 51) [] [.ptr [dI a,dI b,.leaf (.string s)] 0],dI ((l.es.length:Nat):Int),dI ((0:Nat):Int)] d:=by
  refine vD (P:=λi:Nat=>∃d,(∃n:Int,d=dI n)/\qE EE (Holds EE) qMR 1 [l,.clo (.func 51) [] [.ptr [dI a,dI b,.leaf (.string s)] 0],dI ((l.es.length:Nat):Int),dI ((i:Nat):Int)] d) l.es.length (λi u=>zS (R:=λd=>∃n:Int,d=dI n) ?_) 0;refine bS qP ?_;refine iC (λc=>?_) λc=>?_
  ·have r:=xN c;have j:=List.getElem?_eq_getElem r;obtain⟨_,hs,_,_,rfl,⟨x,rfl⟩,_,_,rfl,⟨y,rfl⟩,_,_,rfl,⟨t,rfl⟩,p,_,rfl,A,rfl⟩:=zO o j;rw[hs]at j;have k:=qA A;obtain⟨q,z⟩:=zDh (x:=x) (y:=y) (a:=a) (b:=b) (t:=t) (s:=s) k.one;refine bS (qV (s:=((i:Nat):Int)) (by omega) j) ?_;refine bS (zU (s:=((i:Nat):Int)) e (by omega) j rfl) ?_;refine cS z ?_;refine iC (λd=>?_) λd=>?_
   ·exact qR rfl ⟨_,rfl⟩
   refine bS (d:=dI ((i+1:Nat):Int)) (qY (qN (by omega))) ?_;exact qQ rfl (u r)
  exact qR rfl ⟨_,rfl⟩
 obtain⟨_,⟨n,rfl⟩,B⟩:=h;refine⟨n,zEl rfl (qE.step' ?_)⟩;refine bS (qI e) ?_;exact qS rfl B
theorem zDi{l:D}{w:Tr.Wd}(x:qC BN qMt l):Holds EE 50 [l,qQr w] (dB (bV l w)):=by
 have y:=qA x;obtain⟨n,hn⟩:=zDg (w:=w) x;have h:∃b:Bool,Holds EE 50 [l,qQr w] (dB b):=by refine⟨decide (n≥0),zEr rfl (qE.step' ?_)⟩;refine cS hn ?_;refine bS kT ?_;exact qF rfl rfl
 exact Classical.epsilon_spec (p:=λb=>Holds EE 50 [l,qQr w] (dB b)) h
section
variable{g:List D}{l:D}{w:Tr.Wd}
theorem qKq(h:qM Ht.n13 (.agg g))(b:qM Ht.n23 l)(hs:w.2.size<=1048576):qM Ht.n32 (zAo g l w)/\Holds EE 52 [.agg g,qRu w,.leaf (.string w.2),l] (zAo g l w):=by refine Classical.epsilon_spec_aux ⟨.nil⟩ (λd=>qM Ht.n32 d/\Holds EE 52 [.agg g,qRu w,.leaf (.string w.2),l] d) ?_;obtain⟨e,x,_,c⟩:=Ht.sp52 [.agg g,qRu w,.leaf (.string w.2),l] (by simp only[Ht.e52,qU];exact⟨_,_,rfl,h,_,_,rfl,⟨_,rfl,_,_,rfl,⟨_,rfl⟩,_,_,rfl,⟨_,rfl⟩,rfl⟩,_,_,rfl,⟨_,rfl,hs⟩,_,_,rfl,b,rfl⟩) (λq y=>by cases y);simp only[Ht.e52,qU]at x;obtain⟨d,_,rfl,hd,rfl⟩:=x;exact⟨d,hd,c⟩
theorem qO8(y:g.length=9)(h:qM Ht.n13 (.agg g)){s:ByteArray}(x:s.size<=1048576):qC BN qBr (pV g s)/\∀a b:Int,Holds EE 52 [.agg g,.agg [dI a,dI b],.leaf (.string s),.nil] (.agg [dI a,dI b,dI (kV g s),pV g s]):=by refine Classical.epsilon_spec_aux ⟨.nil⟩ (λp=>qC BN qBr p/\∀a b:Int,Holds EE 52 [.agg g,.agg [dI a,dI b],.leaf (.string s),.nil] (.agg [dI a,dI b,dI (kV g s),p])) ?_;exact Classical.epsilon_spec (p:=λk=>∃p:D,qC BN qBr p/\∀a b:Int,Holds EE 52 [.agg g,.agg [dI a,dI b],.leaf (.string s),.nil] (.agg [dI a,dI b,dI k,p])) (zGe y h x)
theorem qG7(h:qM Ht.n13 (.agg g))(c:qM Ht.n23 l)(x:w.2.size<=1048576):∃a b k:Int,∃p,zAo g l w=.agg [dI a,dI b,dI k,p]/\qC BN qBr p:=by obtain⟨_,e,_,_,rfl,⟨a,rfl⟩,_,_,rfl,⟨b,rfl⟩,_,_,rfl,⟨k,rfl⟩,p,_,rfl,y,rfl⟩:=(qKq h c x).1;exact⟨a,b,k,p,e,zA (B:=300000000) rfl y⟩
theorem qN2(c:g.length=9)(h:qM Ht.n13 (.agg g))(y:qM Ht.n23 l)(x:w.2.size<=1048576):∃a b k:Int,∃p,qDt g l w=.agg [dI a,dI b,dI k,p]/\qC BN qBr p:=by
 unfold qDt;cases bV l w with
 |true=>exact qG7 h y x
 |false=>exact⟨_,_,_,_,rfl,(qO8 c h x).1⟩
end
end Go.Proofs.YtpbmnkajhedaiaaGreat
