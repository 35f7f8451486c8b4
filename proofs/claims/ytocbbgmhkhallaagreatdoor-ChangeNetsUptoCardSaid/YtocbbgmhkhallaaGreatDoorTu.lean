/- Data checked symbolically: the arguments of a step. Conditions: none. -/
import Derived.Test.YtocbbgmhkhallaaGreatDoorTt
import Derived.Test.YtocbbgmhkhallaaGreatDoorAm7
set_option linter.unusedVariables false
set_option linter.unusedSimpArgs false
namespace Go.Am.Tt
open Go Go.Am
def qD3(σ:Wd)(r:LY)(d:D):Prop:=∃τ,COk (σ++τ) r.1/\qW (σ++τ) r.2 d
def qQE(σ:Wd)(r:Cx×LU)(ds:LR):Prop:=∃τ,COk (σ++τ) r.1/\qT (σ++τ) r.2 ds
variable{C:Cx}{y:Y}{σ:Wd}
theorem qD3.here{d:D}(x:COk σ C)(h:qW σ y d):qD3 σ (C,y) d:=⟨[],gB x,by rw[cr];exact h⟩
theorem qD3.st{r:Cx×LU}{ds:LR}(h:qQE σ r ds):qD3 σ (r.1,.st r.2) (.agg ds):=by obtain⟨τ,b,x⟩:=h;exact⟨τ,b,by simp only[qW];exact⟨ds,rfl,x⟩⟩
def qN9{α:Type}(f:Cx->α->Option (LY)):Cx->List α->Option (Cx×LU)
 |C,[]=>some (C,[])
 | C,x::r=>match f C x with
  |some (b,y)=>(match qN9 f b r with
   |some (h,ys)=>some (h,y::ys)
   |none=>none)
  |none=>none
theorem qKd{α:Type}{f:Cx->α->Option (LY)}{g:α->D}{P:Wd->Prop}(k:∀{σ τ},P σ->P (σ++τ)):
  ∀(l:List α),(∀x∈l,∀{σ C r},P σ->COk σ C->f C x=some r->qD3 σ r (g x))->∀{σ C r},P σ->COk σ C->qN9 f C l=some r->qQE σ r (l.map g)
 | [],_,σ,C,r,_,e,h=>by
  simp only[qN9]at h;cases h
  exact⟨[],gB e,by simp only[List.map_nil,qT]⟩
 | x::l,j,σ,C,r,i,e,h=>by
  simp only[qN9]at h
  split at h
  ·rename_i A y p
   split at h
   ·rename_i w ys c
    cases h
    obtain⟨τ,t,q⟩:=j x aq i e p
    obtain⟨b,h3,u⟩:=qKd k l (λz o=>j z (mC _ o)) (k i) t c
    refine⟨τ++b,by rw[←ay];exact h3,?_⟩
    simp only[fa,qT]
    refine⟨_,_,rfl,?_,?_⟩
    ·rw[←ay];exact mL q
    grind
   cases h
  cases h
def qSK(C:Cx):LQ->Option (LY)
 |.int k n=>some (C,.int k 0 n)
 |.bool b=>some (C,.bool (bif b then[]else[qF6]) (bif b then[qF6]else[]))
 |.slice none _ _=>some (C,.nil)
 |.string s=>some (C.add [(C.nx,0,(s.size:Int)),(0,C.nx,-(s.size:Int))] [(C.nx,s.size)] [] 1,.str C.nx s.size)
 |_=>none
def qSI:Nat->Cx->LQ->Option (LY)
 |0,C,v=>qSK C v
 | n+1,C,v=>match v with
  |.agg cs=>(match qN9 (qSI n) C cs.toList with
   |some (h,ys)=>some (h,.st ys)
   |none=>none)
  |v=>qSK C v
theorem qLf(c:COk σ C){v:LQ}{r:LY}(h:qSK C v=some r)(n:Nat):qD3 σ r (qAi n v):=by
 obtain⟨z,e⟩:=c.s.z;unfold qSK at h;split at h
 ·cases h;have:∀n (k:IntKind) (x:Int),qAi n (.int k x)=.leaf (.int k x):=λn k x=>by cases n<;>rfl
  rw[this];refine .here c ?_;simp only[qW];exact⟨_,e,by simp⟩
 ·rename_i b;cases h;have:∀n (b:Bool),qAi n (.bool b)=.leaf (.bool b):=λn b=>by cases n<;>rfl
  rw[this];refine .here c ?_;simp only[qW];simp_all
 ·cases h;have:∀n (a b:Nat),qAi n (.slice none a b)=.nil:=λn a b=>by cases n<;>rfl
  rw[this];refine .here c ?_;simp only[qW]
 ·rename_i s;cases h;have:∀n (s:LJ),qAi n (.string s)=.leaf (.string s):=λn s=>by cases n<;>rfl
  rw[this];refine⟨[((s.size:Int),.nil)],c.ext (f2 ⟨_,_,get_new c _,zU e,by simp only;omega⟩ ⟨_,_,zU e,get_new c _,by simp only;omega⟩) (λq g=>?_) (by simp) rfl,?_⟩
  ·rw[aw]at g;subst g;exact⟨_,get_new c _,by simp,by simp⟩
  simp only[qW];exact⟨s,_,rfl,get_new c _,rfl,vP _⟩
 cases h
theorem qGq:∀(n:Nat) {σ:Wd} {C:Cx} {v:LQ} {r:LY},COk σ C->qSI n C v=some r->qD3 σ r (qAi n v)
 |0,σ,C,v,r,b,h=>qLf b h 0
 | n+1,σ,C,v,r,b,h=>by
  simp only[qSI]at h;split at h
  ·rename_i cs;split at h
   ·rename_i e ys hs;cases h;have:=qKd (g:=qAi n) (P:=λ_=>True) (λh=>h) cs.toList (λx _ {σ C r} _ b c=>qGq n b c) trivial b hs;exact qD3.st this
   cases h
  exact qLf b h _
mutual
def qBs(h:LU):Cx->SV->Option (LY)
 |C,.v i=>match h[i]? with
  |some y=>some (C,y)
  |none=>none
 |C,.c v=>qSI 6 C v
 |C,.agg cs=>match dO h C cs with
  |some (e,ys)=>some (e,.st ys)
  |none=>none
 | C,.fn f a b=>match f with
  | .func f=>match dO h C a with
   |some (c,az)=>match dO h c b with
    |some (x,cs)=>some (x,.kr f az cs)
    |none=>none
   |none=>none
  |_=>none
 |C,.pp i off=>match h[i]? with
  |some (.ptr cs o)=>some (C,.ptr cs (o+off))
  |_=>none
 |C,.gd _=>some (C,.any)
 |_,_=>none
def dO(h:LU):Cx->LS->Option (Cx×LU)
 |C,[]=>some (C,[])
 | C,x::r=>match qBs h C x with
  |some (c,y)=>(match dO h c r with
   |some (b,ys)=>some (b,y::ys)
   |none=>none)
  |none=>none
end
mutual
theorem qLp{env:LU}{ρ:LR}:∀{x:SV} {σ:Wd} {C:Cx} {r:LY},COk σ C->qT σ env ρ->qBs env C x=some r->qD3 σ r (x.d (getD ρ))
 |.v i,σ,C,r,c,he,h=>by
  simp only[qBs]at h;split at h
  ·rename_i y k;cases h;obtain⟨d,g,e⟩:=gX he k;simp only[SV.d,getD_some g];exact .here c e
  cases h
 |.c v,σ,C,r,c,he,h=>by simp only[qBs]at h;simp only[SV.d];exact qGq 6 c h
 |.agg cs,σ,C,r,c,he,h=>by
  simp only[qBs]at h;split at h
  ·rename_i w ys hs;cases h;simp only[SV.d];exact qD3.st (pB c he hs)
  cases h
 | .fn f a b,σ,C,r,c,he,h=>by
  simp only[qBs]at h;split at h
  ·split at h
   ·rename_i u az p;split at h
    ·rename_i t cs l;cases h;obtain⟨τ,g,e⟩:=pB c he p;obtain⟨j,h3,q⟩:=pB g (zM he) l;refine⟨τ++j,by rw[←ay];exact h3,?_⟩;simp only[SV.d,qW];refine⟨_,_,rfl,?_,?_⟩
     ·rw[←ay];exact zM e
     grind
    cases h
   cases h
  cases h
 |.pp i off,σ,C,r,c,he,h=>by
  simp only[qBs]at h;split at h
  ·rename_i cs o k;cases h;obtain⟨d,g,e⟩:=gX he k;refine .here c ?_;simp only[qW]at e ⊢;obtain⟨ds,rfl,e⟩:=e;simp only[SV.d,getD_some g];exact⟨ds,rfl,e⟩
  cases h
 |.loc _ _,_,_,_,_,_,h=>by simp only[qBs]at h;cases h
 |.ptr _ _ _ _,_,_,_,_,_,h=>by simp only[qBs]at h;cases h
 |.gd _,σ,C,r,c,he,h=>by simp only[qBs]at h;cases h;exact .here c (by simp only[qW])
 |.ll _ _,_,_,_,_,_,h=>by simp only[qBs]at h;cases h
theorem pB{env:LU}{ρ:LR}:∀{xs:LS} {σ:Wd} {C:Cx} {r:Cx×LU},COk σ C->qT σ env ρ->dO env C xs=some r->qQE σ r (SV.ds (getD ρ) xs)
 | [],σ,C,r,e,he,h=>by simp only[dO]at h;cases h;exact⟨[],gB e,by simp only[SV.ds,qT]⟩
 | x::l,σ,C,r,e,he,h=>by
  simp only[dO]at h;split at h
  ·rename_i p y g;split at h
   ·rename_i o ys c;cases h;obtain⟨τ,j,i⟩:=qLp e he g;obtain⟨b,h3,k⟩:=pB j (zM he) c;refine⟨τ++b,by rw[←ay];exact h3,?_⟩;simp only[SV.ds,qT];refine⟨_,_,rfl,?_,?_⟩
    ·rw[←ay];exact mL i
    grind
   cases h
  cases h
end
def qJq(f:Nat):Y->Option Y
 |.st cs=>cs[f]?
 |.sl n el sz b e=>some (.sl n el sz b e)
 |.str n b=>some (.str n b)
 |.int k v c=>some (.int k v c)
 |_=>none
theorem qMp{f:Nat}{c:Y}{d:D}(hd:qW σ y d)(h:qJq f y=some c):qW σ c (qJs f d):=by
 cases y<;>simp only[qJq]at h<;>first|(cases h;done)|skip
 ·cases h;have b:=hd;simp only[qW]at hd;obtain⟨x,_,rfl⟩:=hd;exact b
 ·cases h;have b:=hd;simp only[qW]at hd;obtain⟨s,x,rfl,_⟩:=hd;exact b
 ·cases h;have b:=hd;simp only[qW,zC]at hd;rcases hd.2 with rfl|⟨es,rfl,_⟩<;>exact b
 simp only[qW]at hd;obtain⟨ds,rfl,hs⟩:=hd;obtain⟨e,he,hr⟩:=gX hs h;simp only[qJs,getD_some he];exact hr
def zBw(C:Cx)(f:Nat):Option Y->Option Y->Option (Nat×Int)
 | some (.sl n _ _ _ _),some (.int .i64 v c)=>match qER C.qe n v c with
  |some y=>(match qJq f y with
   |some z=>qNg z
   |none=>none)
  |none=>none
 |_,_=>none
def tB(C:Cx)(ys:LU):Pt->Option (Nat×Int)
 |.z=>some (0,0)
 |.aT p=>match iP p (.st ys)with
  |some y=>qNg y
  |none=>none
 |.el p q f=>zBw C f (iP p (.st ys)) (iP q (.st ys))
variable{ys:LU}
theorem rF(e:COk σ C){ds:LR}{p:Pt}{v:Nat}{c:Int}(hd:qT σ ys ds)(h:tB C ys p=some (v,c)):∃x,σ[v]? = some x/\qFu ds p=x.1+c:=by
 obtain⟨z,u⟩:=e.s.z;have b:qW σ (.st ys) (.agg ds):=by simp only[qW];exact⟨ds,rfl,hd⟩
 cases p with
 |z=>simp only[tB]at h;cases h;exact⟨_,u,by simp[qFu]⟩
 |aT p=>
  simp only[tB]at h;split at h
  ·rename_i y g;exact qFg e (mD b g) h
  cases h
 | el p q f=>
  simp only[tB]at h;unfold zBw at h;split at h
  ·rename_i n _ _ _ _ i L G F;split at h
   ·rename_i y g;split at h
    ·rename_i w A;have a1:=mD b G;have t:=mD b F;simp only[qW]at a1 t;obtain⟨k,B,K⟩:=t;obtain⟨x,d,M,o,l,j,I,H,r⟩:=uH e.e g;simp only at l j I H r;rw[a1.1]at l;cases l;rw[B]at j;cases j;have J:qJD (sT p (.agg ds)) (sT q (.agg ds))=o:=by unfold qJD;rw[K];show(sT p (.agg ds)).es.getD (k.1+L).toNat .nil=o;grind
     simp only[qFu,J];exact qFg e (qMp r A) h
    cases h
   cases h
  cases h
def qQI(C:Cx)(ys:LU)(q:Cn):Bool:=match tB C ys q.1,tB C ys q.2.1 with
 |some (v,c),some (w,e)=>kE C.F C.L v c w (e+q.2.2)
 |_,_=>false
theorem qGr(b:COk σ C){ds:LR}{q:Cn}(hd:qT σ ys ds)(h:qQI C ys q=true):qBM ds q:=by
 unfold qQI at h;split at h
 ·rename_i v c w e k j;obtain⟨x,i,o⟩:=rF b hd k;obtain⟨y,g,l⟩:=rF b hd j;have:=vM b.s h i g;unfold qBM;omega
 cases h
def qYH(C:Cx)(ys:LU)(q:Cn):List jX:=match tB C ys q.1,tB C ys q.2.1 with
 |some (v,c),some (w,e)=>[(v,w,e+q.2.2-c)]
 |_,_=>[]
theorem qQc(b:COk σ C){ds:LR}{q:Cn}(hd:qT σ ys ds)(h:qBM ds q):∀f∈qYH C ys q,sN σ f:=by
 unfold qYH;split
 ·rename_i v c w e l k;obtain⟨x,i,p⟩:=rF b hd l;obtain⟨y,g,o⟩:=rF b hd k;unfold qBM at h;exact f1 i g (by omega)
 intro f j;cases j
def qU3(C:Cx):Option Y->Option Y->Cx
 |some (.sl n _ _ _ e),some (.int .i64 v c)=>match qR3 C n e v c with
  |some (h,_)=>h
  |none=>C
 |_,_=>C
def qKs(C:Cx)(ys:LU):Pt->Cx
 |.el p q _=>qU3 C (iP p (.st ys)) (iP q (.st ys))
 |_=>C
theorem qG9(E:Env)(b:COk σ C){ds:LR}(hd:qT σ ys ds)(p:Pt):∃τ,COk (σ++τ) (qKs C ys p):=by
 have x:qW σ (.st ys) (.agg ds):=by simp only[qW];exact⟨ds,rfl,hd⟩
 cases p with
 |z=>exact⟨[],gB b⟩
 |aT p=>exact⟨[],gB b⟩
 | el p q f=>
  simp only[qKs];unfold qU3;split
  ·rename_i g e;split
   ·rename_i i y c;obtain⟨d,τ,_,h,_⟩:=qPi (E:=E) b (mD x g) (mD x e) c;exact⟨τ,h⟩
   exact⟨[],gB b⟩
  exact⟨[],gB b⟩
def qR2(ys:LU):List Cn->Cx->Cx
 | [],C=>C
 |q::r,C=>let h:=qKs (qKs C ys q.1) ys q.2.1;qR2 ys r (h.add (qYH h ys q) [] [] 0)
theorem qFZ(E:Env){ys:LU}{ds:LR}:∀{l:List Cn} {σ:Wd} {C:Cx},COk σ C->qT σ ys ds->(∀q∈l,qBM ds q)->∃τ,COk (σ++τ) (qR2 ys l C)
 | [],σ,C,g,_,_=>⟨[],gB g⟩
 |q::r,σ,C,g,hd,h=>by obtain⟨e,p⟩:=qG9 E g hd q.1;obtain⟨c,i⟩:=qG9 E p (zM hd) q.2.1;rw[ay]at i;have b:=zM (τ:=e++c) hd;have h3:=i.facts (qQc i b (h q aq));obtain⟨k,j⟩:=qFZ E h3 b λx o=>h x (mC _ o);rw[ay]at j;exact⟨_,j⟩
structure Spec where
 ss:LZ
 rs:LZ
 pre:List Cn
 post:List Cn
def yA(HS:LO->LR->La)(f:LO)(S:Spec):Prop:=
 ∀ds,zS S.ss ds->(∀q∈S.pre,qBM ds q)->∃h,zS S.rs h/\(∀q∈S.post,qBM (ds++h) q)/\HS f ds (kC h)
abbrev Ms:=Pt×Pt×Int
def qYF(ds:LR)(m:Ms):Int:=qFu ds m.1-qFu ds m.2.1+m.2.2
def qI9:LC->LC->Prop
 |a::az,b::h=>a<b∨(a<=b/\qI9 az h)
 |_,_=>False
def qCz(ds:LR)(h:List Ms):LC:=h.map λm=>(qYF ds m).toNat
def zB9(C:Cx)(h ys:LU)(m' m:Ms)(k:Int):Bool:=match tB C h m'.1,tB C h m'.2.1,tB C ys m.1,tB C ys m.2.1 with
 |some (v',x),some (w',e'),some (v,c),some (w,e)=>
  (kE C.F C.L v' x v (c+(m.2.2-m'.2.2-k))&&kE C.F C.L w e w' e')||(kE C.F C.L v' x v c&&kE C.F C.L w e w' (e'+(m.2.2-m'.2.2-k)))
 |_,_,_,_=>false
def qWk(C:Cx)(ys:LU)(m:Ms):Bool:=match tB C ys m.1,tB C ys m.2.1 with
 |some (v,c),some (w,e)=>kE C.F C.L w (e+1) v (c+m.2.2)
 |_,_=>false
def qMd(C:Cx)(h ys:LU):List Ms->List Ms->Bool
 |m'::x,m::r=>(zB9 C h ys m' m 1&&qWk C ys m)||(zB9 C h ys m' m 0&&qMd C h ys x r)
 |_,_=>false
section
variable{σ:Wd}{C:Cx}
theorem qO9(x:COk σ C){g:LU}{j ds:LR}{m' m:Ms}{k:Int}(i:qT σ g j)(hd:qT σ ys ds)(h:zB9 C g ys m' m k=true):qYF j m'+k<=qYF ds m:=by
 unfold zB9 at h;split at h
 ·rename_i v' G w' e' v c w e u t h3 r;obtain⟨x1,q,F⟩:=rF x i u;obtain⟨x2,p,B⟩:=rF x i t;obtain⟨x3,o,A⟩:=rF x hd h3;obtain⟨x4,l,z⟩:=rF x hd r;unfold qYF;rcases eg.1 h with h|h<;>rw[aE]at h
  ·have a:=vM x.s h.1 q o;have b:=vM x.s h.2 l p;omega
  have a:=vM x.s h.1 q o;have b:=vM x.s h.2 l p;omega
 cases h
theorem qRi(x:COk σ C){ds:LR}{m:Ms}(hd:qT σ ys ds)(h:qWk C ys m=true):1<=qYF ds m:=by
 unfold qWk at h;split at h
 ·rename_i v c w e h3 b;obtain⟨x3,i,k⟩:=rF x hd h3;obtain⟨x4,g,j⟩:=rF x hd b;unfold qYF;have a:=vM x.s h g i;omega
 cases h
theorem qKE(g:COk σ C){c ys:LU}{e ds:LR}(x:qT σ c e)(hd:qT σ ys ds):∀{i l:List Ms},qMd C c ys i l=true->qI9 (qCz e i) (qCz ds l)
 | [],_,h=>by simp only[qMd]at h;cases h
 |_::_,[],h=>by simp only[qMd]at h;cases h
 |m'::j,m::r,h=>by
  simp only[qMd]at h;simp only[qCz,fa,qI9];rcases eg.1 h with h|h<;>rw[aE]at h
  ·have a:=qO9 g x hd h.1;have b:=qRi g hd h.2;left;omega
  have a:=qO9 g x hd h.1;right;exact⟨by omega,qKE g x hd h.2⟩
end
theorem qO6:∀(n:Nat) (l:LC),l.length=n->Acc (λa b:LC=>a.length=b.length/\qI9 a b) l
 |0,l,h=>by
  have:l=[]:=cy.1 h;subst this;refine⟨_,λy x=>?_⟩;cases y with
  |nil=>exact(x.2:False).elim
  |cons _ _=>cases x.1
 | n+1,l,h=>by
  have e:∀(a:Nat),∀(r:LC),r.length=n->Acc (λa b:LC=>a.length=b.length/\qI9 a b) (a::r):=by
   intro a;induction a using Nat.strongRecOn with
   | _ a i=>
    intro r j;have c:=qO6 n r j;induction c with
    | intro r _ g=>
     refine⟨_,λy x=>?_⟩;cases y with
     |nil=>cases x.1
     |cons b s=>
      have p:s.length=n:=by have:=x.1;simp only[dj]at this;omega
      rcases x.2 with k|⟨o,hs⟩;all_goals grind
  cases l with
  |nil=>cases h
  |cons a r=>exact e a r (by simpa using h)
structure Hd where
 ss:LZ
 inv:List Cn
 ms:List Ms
structure Fx where
 T:Tb
 sp:LO->Cx->LU->Option Spec
 md:LO->Mode->Cx->LU->Option Spec
 S:Spec
 hd:Nat->Option Hd
def qOg:LU->Y
 | [y]=>y
 |l=>.gd l
def qHo:Y->Bool
 |.int _ _ _=>true
 |.bool _ _=>true
 |.str _ _=>true
 |_=>false
def qKV:Nat->Y->Bool
 |0,_=>true
 |1,y=>qHo y
 |_,.gd l=>l.all qHo
 |_,_=>false
def qVP(h:Tgt)(ys:LU):Option (LO×LU):=match h with
 |.fn f=>some (f,ys)
 |.val _=>(match ys with
  |.kr g a c::r=>some (g,a++r++c)
  |_=>none)
 |.rb _ _=>none
def dead(C:Cx)(t:List jX):Bool:=t.any λq=>kE C.F C.L q.2.1 0 q.1 (-q.2.2-1)
def ck(X:Fx)(e x:LU)(g:List Ms):Tree->LU->Cx->Bool
 |.ret xs,env,C=>match dO env C xs with
  |some (C,ys)=>oE C ys X.S.rs&&X.S.post.all (qQI C (e++ys))
  |none=>false
 | .jump k xs,env,C=>match X.hd k with
  |some h=>(match dO env C xs with
   |some (C,ys)=>oE C ys h.ss&&h.inv.all (qQI C (e++ys))&&qMd C (e++ys) x h.ms g
   |none=>false)
  |none=>false
 | .bind o xs r,env,C=>match dO env C xs with
  |some (C,ys)=>(match zC9 X.T C o ys with
   |some (C,y)=>ck X e x g r (env++[y]) C
   |none=>false)
  |none=>false
 | .call i xs j r,env,C=>match dO env C xs with
  | some (C,ys)=>(match qVP i ys with
   | some (f,ys)=>(match X.sp f C ys with
    |some S=>oE C ys S.ss&&S.pre.all (qQI C ys)&&(match wY S.rs C with
     |(C,rs)=>qKV j (qOg rs)&&ck X e x g r (env++[qOg rs]) (C.add (S.post.flatMap (qYH C (ys++rs))) [] [] 0))
    |none=>false)
   |none=>false)
  |none=>false
 | .l4 f m xs r,env,C=>match dO env C xs with
  | some (C,ys)=>(match X.md f m C ys with
   |some S=>oE C ys S.ss&&S.pre.all (qQI C ys)&&Nat.beq S.rs.length m.out.db.length&&(match wY S.rs C with
    |(C,rs)=>ck X e x g r (env++rs) (C.add (S.post.flatMap (qYH C (ys++rs))) [] [] 0))
   |none=>false)
  |none=>false
 |.ite c a b,env,C=>match qBs env C c with
  |some (C,.bool t f)=>(ck X e x g a env (C.add t [] [] 0)||dead C t)&&(ck X e x g b env (C.add f [] [] 0)||dead C f)
  |_=>false
 |_,_,_=>false
theorem jY{σ:Wd}:∀{a b:LU} {x y:LR},qT σ a x->qT σ b y->qT σ (a++b) (x++y)
 | [],b,x,y,h,c=>by simp only[qT]at h;subst h;simpa using c
 |u::a,b,x,y,h,c=>by simp only[qT]at h;obtain⟨d,ds,rfl,g,e⟩:=h;simp only[ej,qT];exact⟨_,_,rfl,g,jY e c⟩
theorem qQ8{ds:LR}(h:qT σ ys ds):qW σ (qOg ys) (kC ds):=by
 cases ys with
 |nil=>simp only[qT]at h;subst h;simp only[qOg,kC,qW];exact⟨_,rfl,by simp only[qT]⟩
 |cons y r=>
  have e:=h;simp only[qT]at h;obtain⟨d,g,rfl,c,x⟩:=h;cases r with
  |nil=>simp only[qT]at x;subst x;exact c
  |cons z r=>have h3:=x;simp only[qT]at x;obtain⟨d',b,rfl,_,_⟩:=x;simp only[qOg,kC,qW];exact⟨_,rfl,e⟩
theorem qHn{d:D}(hd:qW σ y d)(h:qHo y=true):∃v,d=.leaf v:=by
 cases y<;>simp only[qHo]at h<;>first|(cases h;done)|simp only[qW]at hd
 all_goals grind
theorem qEC{σ:Wd}:∀{ys:LU} {ds:LR},qT σ ys ds->ys.all qHo=true->iK ds=true
 | [],ds,h,_=>by simp only[qT]at h;subst h;rfl
 |y::ys,ds,h,x=>by simp only[qT]at h;obtain⟨d,r,rfl,c,b⟩:=h;simp only[eo,aE]at x;obtain⟨v,rfl⟩:=qHn c x.1;have:=qEC b x.2;simpa only[iK]using this
theorem qPB{n:Nat}{d:D}(hd:qW σ y d)(h:qKV n y=true):uD n d=true:=by
 match n with
 |0=>rfl
 |1=>simp only[qKV]at h;obtain⟨v,rfl⟩:=qHn hd h;rfl
 |n+2=>
  cases y<;>simp only[qKV]at h<;>first|(cases h;done)|skip
  simp only[qW]at hd;obtain⟨ds,rfl,hs⟩:=hd;exact qEC hs h
def zEO(X:Fx)(b:LR)(M:LC):Res1->Prop
 |.ret d=>∃x,d=kC x/\zS X.S.rs x/\∀q∈X.S.post,qBM (b++x) q
 |.jump k ds=>∃h,X.hd k=some h/\zS h.ss ds/\(∀q∈h.inv,qBM (b++ds) q)/\qI9 (qCz (b++ds) h.ms) M
variable{E:Env}{f:LO}
theorem qQS{c:Tgt}{x:LU}{ds:LR}(hd:qT σ ys ds)(h:qVP c ys=some (f,x)):∃b,aB E c ds=some (f,b)/\qT σ x b:=by
 unfold qVP at h;split at h
 ·cases h;exact⟨_,rfl,hd⟩
 ·split at h
  ·cases h;simp only[qT]at hd;obtain⟨d,r,rfl,e,j⟩:=hd;simp only[qW]at e;obtain⟨az,cs,rfl,i,g⟩:=e;exact⟨az++r++cs,by simp only[aB],jY (jY i j) g⟩
  cases h
 cases h
theorem qLi(c:COk σ C){ds:LR}{l:List Cn}(hd:qT σ ys ds)(h:∀q∈l,qBM ds q):∀f∈l.flatMap (qYH C ys),sN σ f:=by intro f x;obtain⟨q,b,x⟩:=List.mem_flatMap.1 x;exact qQc c hd (h q b) f x
theorem qLa(e:COk σ C){t:List jX}(h:dead C t=true):¬∀q∈t,sN σ q:=by intro c;unfold dead at h;obtain⟨q,b,h⟩:=ke.1 h;obtain⟨x,y,i,g,h3⟩:=c q b;have:=vM e.s h g i;omega
section
variable{E:Env}{HS:LO->LR->La}{X:Fx}
def bA(HS:LO->LR->La)(f:LO)(m:Mode)(S:Spec):Prop:=
 ∀ds,zS S.ss ds->(∀q∈S.pre,qBM ds q)->∃h,zS S.rs h/\(∀q∈S.post,qBM (ds++h) q)/\HS (Nat.add dU f) (.mode m::ds) (kC h)
theorem qDk(F:TbOk E X.T)(bO:∀f C ys S,X.sp f C ys=some S->yA HS f S)(g:∀f m C ys S,X.md f m C ys=some S->bA HS f m S){V H:LU}{ms:List Ms}{d0 z:LR}:
  ∀(t:Tree) {env:LU} {C:Cx} {ρ:LR} {σ:Wd},COk σ C->qT σ env ρ->qT σ V d0->qT σ H z->ck X V H ms t env C=true->wp E HS (zEO X d0 (qCz z ms)) t ρ
 |.fail,_,_,_,_,_,_,_,_,h=>by simp only[ck]at h;cases h
 |.stop _ _,_,_,_,_,_,_,_,_,h=>by simp only[ck]at h;cases h
 | .l4 f m xs r,env,C,ρ,σ,u,he,i,l,h=>by
  simp only[ck]at h
  split at h
  ·rename_i w ys j
   split at h
   ·rename_i S N
    obtain⟨τ,x,e⟩:=pB u he j
    generalize hr:wY S.rs w=p at h
    obtain⟨C2,rs⟩:=p
    simp only[aE]at h
    obtain⟨⟨⟨a1,a2⟩,a3⟩,U⟩:=h
    obtain⟨W,K,R,Q⟩:=g f m w ys S N _ (kV x a1 e) λq B=>qGr x e (al.1 a2 q B)
    obtain⟨G,c1,A⟩:=gA K x
    rw[hr]at c1 A
    simp only[wp]
    refine⟨W,Q,by rw[pV K];exact vW a3,?_⟩
    have I:=c1.facts (qLi c1 (jY (zM e) A) R)
    rw[ay]at I A
    exact qDk F bO g r I (jY (zM he) A) (zM i) (zM l) U
   cases h
  cases h
 | .ret xs,env,C,ρ,σ,u,he,i,l,h=>by
  simp only[ck]at h
  split at h
  ·rename_i w ys j
   obtain⟨τ,x,e⟩:=pB u he j
   rw[aE]at h
   simp only[wp]
   exact⟨_,rfl,kV x h.1 e,λq B=>qGr x (jY (zM i) e) (al.1 h.2 q B)⟩
  cases h
 | .jump k xs,env,C,ρ,σ,u,he,i,l,h=>by
  simp only[ck]at h
  split at h
  ·rename_i hh hk
   split at h
   ·rename_i w ys j
    obtain⟨τ,x,e⟩:=pB u he j
    simp only[aE]at h
    simp only[wp]
    exact⟨hh,hk,kV x h.1.1 e,λq B=>qGr x (jY (zM i) e) (al.1 h.1.2 q B),qKE x (jY (zM i) e) (zM l) h.2⟩
   cases h
  cases h
 | .bind o xs r,env,C,ρ,σ,u,he,i,l,h=>by
  simp only[ck]at h
  split at h
  ·rename_i w ys j
   split at h
   ·rename_i C2 y ho
    obtain⟨τ,x,e⟩:=pB u he j
    obtain⟨d,G,e1,e2,e3⟩:=qWu F x e ho
    simp only[wp,e1]
    rw[ay]at e2 e3
    exact qDk F bO g r e2 (jY (zM he) (by simp only[qT];exact⟨_,_,rfl,e3,rfl⟩)) (zM i) (zM l) h
   cases h
  cases h
 | .call tg xs fl r,env,C,ρ,σ,u,he,i,l,h=>by
  simp only[ck]at h
  split at h
  ·rename_i w ys j
   split at h
   ·rename_i f L J
    split at h
    ·rename_i S N
     obtain⟨τ,x,e⟩:=pB u he j
     obtain⟨O,t1,M⟩:=qQS (E:=E) e J
     generalize hr:wY S.rs w=p at h
     obtain⟨C2,rs⟩:=p
     simp only[aE]at h
     obtain⟨⟨a1,a2⟩,a3,U⟩:=h
     obtain⟨W,K,R,Q⟩:=bO f w L S N O (kV x a1 M) λq B=>qGr x M (al.1 a2 q B)
     obtain⟨G,c1,A⟩:=gA K x
     rw[hr]at c1 A
     simp only[wp,t1]
     have hr:=qQ8 A
     refine⟨_,Q,qPB hr a3,?_⟩
     have I:=c1.facts (qLi c1 (jY (zM M) A) R)
     have hr:=hr
     rw[ay]at I hr
     exact qDk F bO g r I (jY (zM he) (by simp only[qT];exact⟨_,_,rfl,hr,rfl⟩)) (zM i) (zM l) U
    cases h
   cases h
  cases h
 | .ite c a b,env,C,ρ,σ,u,he,i,l,h=>by
  simp only[ck]at h
  split at h
  ·rename_i w t f j
   obtain⟨τ,x,e⟩:=qLp u he j
   simp only[qW]at e
   obtain⟨v,hv,J,Z⟩:=e
   rw[aE]at h
   simp only[wp,hv]
   cases v with
   |true=>
    rcases eg.1 h.1 with h|h
    ·exact qDk F bO g a (x.facts (J rfl)) (zM he) (zM i) (zM l) h
    exact absurd (J rfl) (qLa x h)
   |false=>
    rcases eg.1 h.2 with h|h
    ·exact qDk F bO g b (x.facts (Z rfl)) (zM he) (zM i) (zM l) h
    exact absurd (Z rfl) (qLa x h)
  cases h
end
def gC{α:Type}:List (Nat×α)->Nat->Option α
 | [],_=>none
 |(k,x)::r,n=>bif Nat.beq k n then some x else gC r n
theorem g8{α:Type}{l:List (Nat×α)}{n:Nat}{x:α}(h:gC l n=some x):(n,x)∈l:=by
 induction l with
 |nil=>cases h
 |cons p r ih=>
  obtain⟨k,y⟩:=p;simp only[gC]at h;cases b:Nat.beq k n with
  |true=>rw[b]at h;have:=vW b;subst this;cases h;exact aq
  |false=>rw[b]at h;exact mC _ (ih h)
def qK9{α:Type}:List (Nat×α)->Bool
 | []=>true
 |(k,_)::r=>(match gC r k with
  |some _=>false
  |none=>true)&&qK9 r
theorem qP1{α:Type}{l:List (Nat×α)}(h:qK9 l=true):∀x∈l,gC l x.1=some x.2:=by
 induction l with
 |nil=>intro x c;cases c
 |cons p r ih=>
  obtain⟨k,y⟩:=p;simp only[qK9,aE]at h;intro x c;rcases bl.1 c with rfl|b
  ·simp only[gC,bj,ai]
  have h3:=ih h.2 x b;simp only[gC];cases e:Nat.beq k x.1 with
  |false=>simpa using h3
  |true=>simp_all
def qBX(l:LW)(k:Nat):Tree:=(gC l k).getD .fail
def C0:Cx:=⟨[],[],[],1⟩
theorem zB1:COk [(0,.nil)] C0:={s:={z:=⟨_,rfl⟩,f:=λq h=>(by cases h),l:=λq h=>(by cases h)},e:=λe h=>(by cases h),n:=rfl}
def qM4(S:Spec):Cx×LU:=match wY S.ss C0 with
 |(C,h)=>(qR2 h S.pre C,h)
variable{S:Spec}
theorem qYp(E:Env){ds:LR}(h:zS S.ss ds)(g:∀q∈S.pre,qBM ds q):∃σ,COk σ (qM4 S).1/\qT σ (qM4 S).2 ds:=by obtain⟨τ,b,x⟩:=gA h zB1;unfold qM4;split;rename_i C i e;rw[e]at b x;obtain⟨c,h3⟩:=qFZ E b x g;exact⟨_,h3,zM x⟩
def qJI(X:Fx)(C:Cx)(x:LU)(h:Hd)(t:Tree):Bool:=match wY h.ss C with
 |(C,ys)=>ck X x (x++ys) h.ms t ys (qR2 (x++ys) h.inv C)
def uO(X:Fx)(C:Cx)(x:LU)(ts:LW)(n:Nat):List (Nat×Hd)->Bool
 | []=>true
 |(k,h)::r=>Nat.beq h.ms.length n&&qJI X C x h (qBX ts k)&&uO X C x ts n r
theorem qDl{X:Fx}{C:Cx}{b:LU}{ts:LW}{n:Nat}:∀{l:List (Nat×Hd)},uO X C b ts n l=true->∀p∈l,p.2.ms.length=n/\qJI X C b p.2 (qBX ts p.1)=true
 | [],_,p,x=>by cases x
 |(k,h)::r,c,p,x=>by
  simp only[uO,aE]at c;rcases bl.1 x with rfl|x
  ·simp_all
  exact qDl c.2 p x
variable{hs:List (Nat×Hd)}{rm:List Ms}{ts:LW}
section
variable{E:Env}{HS:LO->LR->La}
theorem qR7{T:Tb}{sp:LO->Cx->LU->Option Spec}{md:LO->Mode->Cx->LU->Option Spec}(N:TbOk E T)(bO:∀f C ys S,sp f C ys=some S->yA HS f S)(o:∀f m C ys S,md f m C ys=some S->bA HS f m S)(U:ck ⟨T,sp,md,S,gC hs⟩ (qM4 S).2 (qM4 S).2 rm (qBX ts 0) (qM4 S).2 (qM4 S).1=true)(Z:uO ⟨T,sp,md,S,gC hs⟩ (qM4 S).1 (qM4 S).2 ts rm.length hs=true){ds:LR}(H:zS S.ss ds)(V:∀q∈S.pre,qBM ds q):∃x,zS S.rs x/\(∀q∈S.post,qBM (ds++x) q)/\qP E HS (qBX ts) 0 ds (kC x):=by
 obtain⟨σ,O,A⟩:=qYp E H V;have c:=qDl Z
 have B:∀M:LC,Acc (λa b:LC=>a.length=b.length/\qI9 a b) M->∀k h es,gC hs k=some h->zS h.ss es->(∀q∈h.inv,qBM (ds++es) q)->qCz (ds++es) h.ms=M->
   ∃x,zS S.rs x/\(∀q∈S.post,qBM (ds++x) q)/\qP E HS (qBX ts) k es (kC x):=by
  intro M hM
  induction hM with
  | intro M _ ih=>
   intro k h es W G p u
   obtain⟨hlen,j⟩:=c _ (g8 W)
   unfold qJI at j
   split at j
   rename_i C' ys F
   obtain⟨τ,a1,a2⟩:=gA G O
   rw[F]at a1 a2
   have t:=zM (τ:=τ) A
   have e:=jY t a2
   obtain⟨R,a3⟩:=qFZ E a1 e p
   have:=qDk N bO o _ a3 (zM a2) (zM t) (zM e) j
   obtain⟨r,z,w⟩:=pL _ _ this
   cases r with
   |ret d=>
    obtain⟨x,rfl,g,l⟩:=z
    exact⟨x,g,l,qP.step (w _ rfl)⟩
   |jump k' es'=>
    obtain⟨I,g,l,L,Q⟩:=z
    obtain⟨i,_⟩:=c _ (g8 g)
    obtain⟨x,c1,K,J⟩:=ih _ ⟨by rw[←u];simp only[qCz,bk];rw[i,hlen],by rw[←u];exact Q⟩ k' I es' g l L rfl
    exact⟨x,c1,K,qP.step (w _ J)⟩
 have:=qDk N bO o _ O A A A U;obtain⟨r,z,w⟩:=pL _ _ this;cases r with
 |ret d=>obtain⟨x,rfl,g,l⟩:=z;exact⟨x,g,l,qP.step (w _ rfl)⟩
 |jump k' es'=>obtain⟨I,g,l,L,Q⟩:=z;obtain⟨x,c1,K,J⟩:=B _ (qO6 _ _ rfl) k' I es' g l L rfl;exact⟨x,c1,K,qP.step (w _ J)⟩
end
structure En where
 f:LO
 hV:List (Nat×Pat)
 S:Spec
 hs:List (Nat×Hd)
 rm:List Ms
def qOt(l:List (Nat×Pat))(k:Nat):Pat:=(gC l k).getD ⟨[],[],[],[]⟩
def qFm(E:Env)(fn:Func)(c:Code)(l:List (Nat×Pat))(n:Nat):LW:=
 (0,qGU E (λk S=>wN (Nat.max fn.ntmps n) (qOt l k) k S) fn n)::xH E (λk=>(qOt l k).st (Nat.max fn.ntmps n)) (λk S=>wN (Nat.max fn.ntmps n) (qOt l k) k S) 1 c (qAF E fn.results.toList)
abbrev dW:=List (FuncId×Spec)
abbrev gJ:=List (FuncId×(Mode×Spec))
def qKC(tab:dW)(f:LO)(C:Cx)(ys:LU):Option Spec:=match tab with
 | []=>none
 |(g,S)::r=>bif Nat.beq g f&&(oE C ys S.ss&&S.pre.all (qQI C ys))then some S else qKC r f C ys
theorem qL8{tab:dW}(h:qKC tab f C ys=some S):(f,S)∈tab:=by
 induction tab with
 |nil=>cases h
 |cons p r ih=>
  obtain⟨g,S'⟩:=p;simp only[qKC]at h;cases x:(Nat.beq g f&&(oE C ys S'.ss&&S'.pre.all (qQI C ys)))with
  |true=>simp_all
  |false=>rw[x]at h;exact mC _ (ih h)
def qX6:LQ->LQ->Bool
 |.int k a,.int k' b=>decide (k=k')&&decide (a=b)
 |.bool a,.bool b=>bif a then b else !b
 |.slice none a b,.slice none c d=>Nat.beq a c&&Nat.beq b d
 |.pointer none,.pointer none=>true
 |.map none,.map none=>true
 |.nilFunc,.nilFunc=>true
 |_,_=>false
theorem qSJ{a b:LQ}(h:qX6 a b=true):a=b:=by
 unfold qX6 at h;split at h
 ·grind
 ·grind
 ·simp_all
 ·rfl
 ·rfl
 ·rfl
 cases h
def zDU:Fn->Fn->Bool
 |.func a,.func b=>Nat.beq a b
 |_,_=>false
theorem qXn{a b:Fn}(h:zDU a b=true):a=b:=by
 unfold zDU at h;split at h
 ·rw[vW h]
 cases h
mutual
def qNV:SV->SV->Bool
 |.v i,.v j=>Nat.beq i j
 |.c x,.c y=>qX6 x y
 |.loc a b,.loc c d=>Nat.beq a c&&Nat.beq b d
 |.pp a b,.pp c d=>Nat.beq a c&&Nat.beq b d
 |.agg l,.agg m=>qGO l m
 |.gd l,.gd m=>qGO l m
 |.fn f a c,.fn g b d=>zDU f g&&(qGO a b&&qGO c d)
 |_,_=>false
def qGO:LS->LS->Bool
 | [],[]=>true
 |a::l,b::m=>qNV a b&&qGO l m
 |_,_=>false
end
mutual
theorem qIG:∀{a b:SV},qNV a b=true->a=b
 |.v i,b,h=>by cases b<;>simp only[qNV]at h<;>first|(cases h;done)|rw[vW h]
 |.c x,b,h=>by cases b<;>simp only[qNV]at h<;>first|(cases h;done)|rw[qSJ h]
 |.loc x y,b,h=>by
  cases b<;>simp only[qNV]at h<;>first|(cases h;done)|skip
  simp_all
 |.pp x y,b,h=>by
  cases b<;>simp only[qNV]at h<;>first|(cases h;done)|skip
  simp_all
 |.agg l,b,h=>by cases b<;>simp only[qNV]at h<;>first|(cases h;done)|rw[fI h]
 |.gd l,b,h=>by cases b<;>simp only[qNV]at h<;>first|(cases h;done)|rw[fI h]
 |.fn f a c,b,h=>by
  cases b<;>simp only[qNV]at h<;>first|(cases h;done)|skip
  simp only[aE]at h;rw[qXn h.1,fI h.2.1,fI h.2.2]
 |.ptr _ _ _ _,b,h=>by cases b<;>cases h
 |.ll _ _,b,h=>by cases b<;>cases h
 |.lk _,b,h=>by cases b<;>cases h
theorem fI:∀{a b:LS},qGO a b=true->a=b
 | [],[],_=>rfl
 | [],_::_,h=>by cases h
 |_::_,[],h=>by cases h
 |a::l,b::m,h=>by simp only[qGO,aE]at h;rw[qIG h.1,fI h.2]
end
def lB{α:Type}(f:α->α->Bool):List α->List α->Bool
 | [],[]=>true
 |a::l,b::m=>f a b&&lB f l m
 |_,_=>false
theorem qEE{α:Type}{f:α->α->Bool}(x:∀{a b},f a b=true->a=b):∀{a b:List α},lB f a b=true->a=b
 | [],[],_=>rfl
 | [],_::_,h=>by cases h
 |_::_,[],h=>by cases h
 |a::l,b::m,h=>by simp only[lB,aE]at h;rw[x h.1,qEE x h.2]
def zEQ:VK->VK->Bool
 |.pure,.pure=>true
 |.full,.full=>true
 |.fresh,.fresh=>true
 |.dead,.dead=>true
 |.ptr,.ptr=>true
 |_,_=>false
theorem qVy{a b:VK}(h:zEQ a b=true):a=b:=by cases a<;>cases b<;>first|rfl|(cases h;done)
def zCq(a b:VSt):Bool:=zEQ a.k b.k&&(bif a.one then b.one else !b.one)
theorem qVw{a b:VSt}(h:zCq a b=true):a=b:=by obtain⟨k,o⟩:=a;obtain⟨k',x⟩:=b;simp only[zCq,aE]at h;rw[qVy h.1];grind
def zEL:Option Blk->Option Blk->Bool
 |none,none=>true
 |some (.cells l),some (.cells m)=>qGO l m
 |some (.whole x n),some (.whole y k)=>qNV x y&&Nat.beq n k
 |_,_=>false
theorem qYm{a b:Option Blk}(h:zEL a b=true):a=b:=by
 unfold zEL at h;split at h
 ·rfl
 ·rw[fI h]
 ·rw[aE]at h;rw[qIG h.1,vW h.2]
 cases h
def zB4(a b:Nat×SV):Bool:=Nat.beq a.1 b.1&&qNV a.2 b.2
theorem qN4{a b:Nat×SV}(h:zB4 a b=true):a=b:=by obtain⟨n,x⟩:=a;obtain⟨m,y⟩:=b;simp only[zB4,aE]at h;rw[vW h.1,qIG h.2]
def qRk(a b:Pat):Bool:=lB zCq a.db b.db&&(lB zB4 a.af b.af&&(lB zEL a.ae b.ae&&lB (lB zB4) a.kh b.kh))
theorem qKp{a b:Pat}(h:qRk a b=true):a=b:=by obtain⟨a1,a2,a3,i⟩:=a;obtain⟨g,e,c,x⟩:=b;simp only[qRk,aE]at h;rw[qEE qVw h.1,qEE qN4 h.2.1,qEE qYm h.2.2.1,qEE (λh=>qEE qN4 h) h.2.2.2]
def qKx(a b:Mode):Bool:=qRk a.ly b.ly&&(Nat.beq a.n b.n&&qRk a.out b.out)
theorem qOW{a b:Mode}(h:qKx a b=true):a=b:=by obtain⟨a1,a2,a3⟩:=a;obtain⟨e,c,x⟩:=b;simp only[qKx,aE]at h;rw[qKp h.1,vW h.2.1,qKp h.2.2]
def qKD(tab:gJ)(f:LO)(m:Mode)(C:Cx)(ys:LU):Option Spec:=match tab with
 | []=>none
 |(g,m',S)::r=>bif Nat.beq g f&&(qKx m m'&&(oE C ys S.ss&&S.pre.all (qQI C ys)))then some S else qKD r f m C ys
theorem qL9{tab:gJ}{m:Mode}(h:qKD tab f m C ys=some S):(f,m,S)∈tab:=by
 induction tab with
 |nil=>cases h
 |cons p r ih=>
  obtain⟨g,m',S'⟩:=p;simp only[qKD]at h;cases x:(Nat.beq g f&&(qKx m m'&&(oE C ys S'.ss&&S'.pre.all (qQI C ys))))with
  |true=>rw[x]at h;cases h;simp only[aE]at x;have c:=vW x.1;have b:=qOW x.2.1;grind
  |false=>rw[x]at h;exact mC _ (ih h)
def zFA(T:Tb)(tab:dW)(tabM:gJ)(S:Spec)(hs:List (Nat×Hd)):Fx:=⟨T,qKC tab,qKD tabM,S,gC hs⟩
def qMA(T:Tb)(tab:dW)(tabM:gJ)(S:Spec)(hs:List (Nat×Hd))(rm:List Ms)(ts:LW):Bool:=
 qK9 ts&&(match qM4 S with
  |(C,h)=>ck (zFA T tab tabM S hs) h h rm (qBX ts 0) h C&&uO (zFA T tab tabM S hs) C h ts rm.length hs)
variable{tabM:gJ}
theorem qBJ{HS:LO->LR->La}{T:Tb}(u:TbOk E T){tab:dW}(b:∀p∈tab,yA HS p.1 p.2)(w:∀p∈tabM,bA HS p.1 p.2.1 p.2.2)(h:qMA T tab tabM S hs rm ts=true):(∀x∈ts,qBX ts x.1=x.2)/\∀ds,zS S.ss ds->(∀q∈S.pre,qBM ds q)->∃e,zS S.rs e/\(∀q∈S.post,qBM (ds++e) q)/\qP E HS (qBX ts) 0 ds (kC e):=by
 unfold qMA at h;rw[aE]at h;obtain⟨h3,c⟩:=h;have hd:=qP1 h3;split at c;rename_i C o l;rw[aE]at c;have k:C=(qM4 S).1:=by rw[l]
 have j:o=(qM4 S).2:=by rw[l]
 subst k j;refine⟨λx r=>by unfold qBX;rw[hd x r];rfl,λds i t=>?_⟩;exact qR7 u (λf C ys S g=>b (f,S) (qL8 g)) (λf m C ys S g=>w (f,m,S) (qL9 g)) c.1 c.2 i t
variable{P:LK}
theorem qRc(h : nM P = true){fn : Func}{c : Code}(x : fn ∈ P.funcs.toList)(b : fn.body = some c): (fn.name == "runtime.NumGoroutine" || !vJ c) = false := by unfold nM at h;grind
def qFT:List Func->Nat->Option Func
 | [],_=>none
 |f::_,0=>some f
 |_::r,n+1=>qFT r n
theorem tP:∀{l:List Func} {n:Nat},qFT l n=l[n]?
 | [],n=>by simp[qFT]
 |f::_,0=>by simp[qFT]
 |_::r,n+1=>by simp[qFT,tP (l:=r)]
def qSC(E:Env)(P:LK)(T:Tb)(tab:dW)(tabM:gJ)(e:En):Bool:=Nat.blt e.f dU&&(match qFT P.funcs.toList e.f with
 |some fn=>(match fn.body with
  |some c=>qMA T tab tabM e.S e.hs e.rm (qFm E fn c e.hV e.S.ss.length)
  |none=>false)
 |none=>false)
def fC(E:Env)(P:LK):Prop:=∀(f:LO) (fn:Func) (c:Code),P.funcs.toList[f]? = some fn->fn.body=some c->E.funcs.get f=some fn
theorem hD(b:nM P=true):fC (iW P) P:=λ_ _ _ h x=>dC (by simpa using h) x (qRc b (be h) x)
section
variable{E:Env}{P:LK}
theorem qK7(he:EOk E)(A:fC E P){T:Tb}(G:TbOk E T){tab:dW}(g:∀p∈tab,yA (qA E) p.1 p.2)(H:∀p∈tabM,bA (qA E) p.1 p.2.1 p.2.2){e:En}(h:qSC E P T tab tabM e=true):yA (qA E) e.f e.S:=by
 unfold qSC at h;rw[aE]at h;obtain⟨I,l⟩:=h;split at l
 ·rename_i fn j;rw[tP]at j;split at l
  ·rename_i c q;have i:E.funcs.get e.f=some fn:=A e.f fn c j q;obtain⟨b,o⟩:=qBJ G g H l;intro ds k B;obtain⟨r,w,u,t⟩:=o ds k B;refine⟨r,w,u,?_⟩;have F:ds.length=e.S.ss.length:=pV k;exact qCG he i q (hV:=qOt e.hV) F (b _ aq).symm (λx z=>b x (mC _ z)) t (oA I)
  cases l
 cases l
structure EnM where
 f:LO
 m:Mode
 hV:List (Nat×Pat)
 S:Spec
 hs:List (Nat×Hd)
 rm:List Ms
def qIW(m:Mode)(l:List (Nat×Pat))(k:Nat):Pat:=(gC l k).getD m.ly
def qIA(E:Env)(fn:Func)(c:Code)(m:Mode)(l:List (Nat×Pat)):LW:=
 (0,qGV E (λk S=>wN (Nat.max fn.ntmps m.n) (qIW m l k) k S) fn m)::xH E (λk=>(qIW m l k).st (Nat.max fn.ntmps m.n)) (λk S=>wN (Nat.max fn.ntmps m.n) (qIW m l k) k S) 1 c (qHT E m fn.results.toList)
def qWM(E:Env)(P:LK)(T:Tb)(tab:dW)(tabM:gJ)(e:EnM):Bool:=e.hV.all (λp=>Nat.ble e.m.ly.ae.length p.2.ae.length)&&(Nat.beq e.S.rs.length e.m.out.db.length&&(match qFT P.funcs.toList e.f with
 |some fn=>qFW e.m fn.results.toList.length&&(match fn.body with
  |some c=>qMA T tab tabM e.S e.hs e.rm (qIA E fn c e.m e.hV)
  |none=>false)
 |none=>false))
theorem qRF(he:EOk E)(B:fC E P){T:Tb}(J:TbOk E T){tab:dW}(i:∀p∈tab,yA (qA E) p.1 p.2)(K:∀p∈tabM,bA (qA E) p.1 p.2.1 p.2.2){e:EnM}(h:qWM E P T tab tabM e=true):bA (qA E) e.f e.m e.S:=by
 unfold qWM at h;simp only[aE]at h;obtain⟨L,h3,b⟩:=h;split at b
 ·rename_i fn l;rw[tP]at l;rw[aE]at b;obtain⟨G,b⟩:=b;split at b
  ·rename_i c u;have j:E.funcs.get e.f=some fn:=B e.f fn c l u;obtain⟨g,q⟩:=qBJ J i K b;intro ds r F;obtain⟨o,t,z,w⟩:=q ds r F;refine⟨o,t,z,?_⟩;have H:o.length=e.S.rs.length:=pV t;refine fY he j u (hV:=qIW e.m e.hV) G (λk=>?_) (g _ aq).symm (λx A=>g x (mC _ A)) w ⟨o,rfl,by rw[H];exact vW h3⟩;unfold qIW;cases I:gC e.hV k with
   |none=>exact vP _
   |some p=>exact oA (al.1 L _ (g8 I))
  cases b
 cases b
inductive It where
 |fn (e:En)
 |md (e:EnM)
def qE7(E:Env)(P:LK)(T:Tb):dW->gJ->List It->Bool
 |_,_,[]=>true
 |tab,tabM,.fn e::r=>qSC E P T tab tabM e&&qE7 E P T ((e.f,e.S)::tab) tabM r
 |tab,tabM,.md e::r=>qWM E P T tab tabM e&&qE7 E P T tab ((e.f,e.m,e.S)::tabM) r
def oV:dW->List It->dW
 |tab,[]=>tab
 |tab,.fn e::r=>oV ((e.f,e.S)::tab) r
 |tab,.md _::r=>oV tab r
def nJ:gJ->List It->gJ
 |tabM,[]=>tabM
 |tabM,.fn _::r=>nJ tabM r
 |tabM,.md e::r=>nJ ((e.f,e.m,e.S)::tabM) r
theorem qDI(he:EOk E)(g:fC E P){T:Tb}(i:TbOk E T):∀{l:List It} {tab:dW} {tabM:gJ},(∀p∈tab,yA (qA E) p.1 p.2)->(∀p∈tabM,bA (qA E) p.1 p.2.1 p.2.2)->qE7 E P T tab tabM l=true->
  (∀p∈oV tab l,yA (qA E) p.1 p.2)/\∀p∈nJ tabM l,bA (qA E) p.1 p.2.1 p.2.2
 | [],tab,tabM,c,b,_=>⟨c,b⟩
 |.fn e::r,tab,tabM,c,b,h=>by
  rw[qE7,aE]at h
  refine qDI he g i (l:=r) (λp x=>?_) b h.2
  rcases bl.1 x with rfl|x
  ·exact qK7 he g i c b h.1
  exact c p x
 |.md e::r,tab,tabM,c,b,h=>by
  rw[qE7,aE]at h
  refine qDI he g i (l:=r) c (λp x=>?_) h.2
  rcases bl.1 x with rfl|x
  ·exact qRF he g i c b h.1
  exact b p x
def qDF(E:Env)(P:LK)(T:Tb):List (LO×Spec)->List En->Bool
 |_,[]=>true
 |tab,e::r=>qSC E P T tab [] e&&qDF E P T ((e.f,e.S)::tab) r
def s6:List (LO×Spec)->List En->List (LO×Spec)
 |tab,[]=>tab
 |tab,e::r=>s6 ((e.f,e.S)::tab) r
theorem qE6(he:EOk E)(c:fC E P){T:Tb}(g:TbOk E T):∀{l:List En} {tab:List (LO×Spec)},(∀p∈tab,yA (qA E) p.1 p.2)->qDF E P T tab l=true->∀p∈s6 tab l,yA (qA E) p.1 p.2
 | [],tab,x,_=>x
 | e::r,tab,x,h=>by
  rw[qDF,aE]at h;have i:∀p∈(e.f,e.S)::tab,yA (qA E) p.1 p.2:=by
   intro p b;rcases bl.1 b with rfl|b
   ·exact qK7 he c g x (λ_ h=>by cases h) h.1
   exact x p b
  show∀p∈s6 ((e.f,e.S)::tab) r,yA (qA E) p.1 p.2;exact qE6 he c g i h.2
end
theorem qDE(c:l5 P=true)(b:nM P=true){T:Tb}(e:TbOk (iW P) T){l:List En}{tab:List (LO×Spec)}(x:∀p∈tab,yA (qA (iW P)) p.1 p.2)(h:qDF (iW P) P T tab l=true):∀p∈s6 tab l,yA (qA (iW P)) p.1 p.2:=
 qE6 (qPT c) (hD b) e x h
def zCb:List (LN×LN×IntKind×IntKind)->LN->LN->IntKind->Option IntKind
 | [],_,_,_=>none
 |(a,b,k,k')::r,s,d,q=>bif Nat.beq a s&&Nat.beq b d&&decide (k=q)then some k' else zCb r s d q
def zAG:List (Bool×LN×Int)->Bool->LN->Int->Bool
 | [],_,_,_=>false
 |(m,t,c)::r,m',h,x=>(bif (bif m then m' else !m')&&Nat.beq t h&&decide (c=x)then true else zAG r m' h x)
def qOv(cv:List (LN×LN×IntKind×IntKind))(qr:List (Bool×LN×Int))(o:TOp)(ys:LU):Option IntKind:=match o,ys with
 |.conv s d,[.int k _ _]=>zCb cv s d k
 |.bin .quo t _ _,[.int .i64 _ _,.int .i64 v c]=>bif Nat.beq v 0&&zAG qr false t c then some .i64 else none
 |.bin .rem t _ _,[.int .i64 _ _,.int .i64 v c]=>bif Nat.beq v 0&&zAG qr true t c then some .i64 else none
 |_,_=>none
def qMZ(E:Env)(x:LN×LN×IntKind×IntKind):Prop:=∀m:Int,∃n:Int,TOp.eval E (.conv x.1 x.2.1) [.leaf (.int x.2.2.1 m)]=some (.leaf (.int x.2.2.2 n))
def qMW(E:Env)(x:Bool×LN×Int):Prop:=∀(m:Int) (o p:LM),∃n:Int,TOp.eval E (.bin (bif x.1 then .rem else .quo) x.2.1 o p) [dI m,dI x.2.2]=some (dI n)
def qIo(E:Env)(x:Nat×(Nat×LZ)):Prop:=(mV E.prog x.2.1 x.1,pD E.prog x.1,Nat.ble x.2.1 10000,E.prog.eqGuardType E.prog.depth x.1,(Sn.nd x.2.2).all qEP,Sn.o8 x.2.2)=(some (Sn.nd x.2.2),true,true,false,true,true)
theorem qP6:∀{l:List (LN×LN×IntKind×IntKind)} {s d:LN} {q k:IntKind},zCb l s d q=some k->(s,d,q,k)∈l
 | [],_,_,_,_,h=>by cases h
 |(a,b,k,k')::r,s,d,q,z,h=>by
  simp only[zCb]at h;cases x:(Nat.beq a s&&Nat.beq b d&&decide (k=q))with
  |true=>simp_all
  |false=>rw[x]at h;exact mC _ (qP6 h)
theorem qIU:∀{l:List (Bool×LN×Int)} {m:Bool} {t:LN} {c:Int},zAG l m t c=true->(m,t,c)∈l
 | [],_,_,_,h=>by cases h
 |(a,b,e)::r,m,t,c,h=>by
  simp only[zAG]at h;cases x:((bif a then m else !m)&&Nat.beq b t&&decide (e=c))with
  |true=>simp only[aE]at x;have g:=vW x.1.2;grind
  |false=>rw[x]at h;exact mC _ (qIU h)
def zAv(sh:List (Nat×Sn))(cv:List (LN×LN×IntKind×IntKind))(qr:List (Bool×LN×Int))(st:List (Nat×(Nat×LZ)))(mp:List (Nat×(Option IntKind×Sn))):Tb:=⟨gC sh,qOv cv qr,gC st,gC mp⟩
def zAu(sh:List (Nat×Sn))(cv:List (LN×LN×IntKind×IntKind))(qr:List (Bool×LN×Int))(st:List (Nat×(Nat×LZ))):Tb:=zAv sh cv qr st []
theorem zBe(x:COk σ C){k:IntKind}{v:Nat}{c:Int}{d:D}(hv:Nat.beq v 0=true)(h:qW σ (.int k v c) d):d=.leaf (.int k c):=by have hv:=vW hv;subst hv;obtain⟨z,b⟩:=x.s.z;simp only[qW]at h;grind
variable{cv:List (LN×LN×IntKind×IntKind)}{qr:List (Bool×LN×Int)}
theorem qFq{sh:List (Nat×Sn)}{st:List (Nat×(Nat×LZ))}{mp:List (Nat×(Option IntKind×Sn))}(j:∀x∈cv,qMZ E x)(g:∀x∈qr,qMW E x)(h3:∀x∈st,qIo E x)(i:mp.all (λx=>qWE E x.1 x.2.1 x.2.2)=true):TbOk E (zAv sh cv qr st mp) where
 m:=λt k e h=>al.1 i (t,k,e) (g8 h)
 o:=by
  intro o ys k h σ C ds c hd
  have h:qOv cv qr o ys=some k:=h
  unfold qOv at h
  split at h
  ·simp only[qT]at hd
   obtain⟨d,_,rfl,hd,rfl⟩:=hd
   simp only[qW]at hd
   obtain⟨x,_,rfl⟩:=hd
   exact j _ (qP6 h) _
  ·simp only[qT]at hd
   obtain⟨d,_,rfl,hd,e,_,rfl,he,rfl⟩:=hd
   obtain⟨b,h⟩:=qZ h
   cases h
   rw[aE]at b
   rw[zBe c b.1 he]
   simp only[qW]at hd
   obtain⟨x,_,rfl⟩:=hd
   exact g _ (qIU b.2) _ _ _
  ·simp only[qT]at hd
   obtain⟨d,_,rfl,hd,e,_,rfl,he,rfl⟩:=hd
   obtain⟨b,h⟩:=qZ h
   cases h
   rw[aE]at b
   rw[zBe c b.1 he]
   simp only[qW]at hd
   obtain⟨x,_,rfl⟩:=hd
   exact g _ (qIU b.2) _ _ _
  cases h
 s:=by
  intro t k ss h
  have:=h3 _ (g8 h)
  unfold qIo at this
  simp_all
theorem zAt{sh:List (Nat×Sn)}{st:List (Nat×(Nat×LZ))}(b:∀x∈cv,qMZ E x)(h:∀x∈qr,qMW E x)(h3:∀x∈st,qIo E x):TbOk E (zAu sh cv qr st):=qFq b h h3 rfl
theorem qAO{α:Type}{P:α->Prop}:∀x∈([]:List α),P x:=λ_ h=>by cases h
theorem sK{α:Type}{P:α->Prop}{a:α}{r:List α}(h:P a)(b:∀x∈r,P x):∀x∈a::r,P x:=by grind
mutual
def Sn.sq:Sn->Bool
 |.int _=>true
 |.bool=>true
 |.str n=>Nat.beq n 300000000
 |.st fs=>Sn.qw fs
 |.sl _ _ n e=>Nat.beq n 300000000&&Sn.sq e
 |_=>false
def Sn.qw:LZ->Bool
 | []=>true
 |s::r=>Sn.sq s&&Sn.qw r
end
mutual
theorem eR:∀{s:Sn} {d:D},Sn.sq s=true->qF 300000000 s.sh d->zC s d
 |.int k,d,_,h=>by simp only[Sn.sh,qF]at h;simp only[zC];exact h
 |.bool,d,_,h=>by simp only[Sn.sh,qF]at h;simp only[zC];exact h
 |.str n,d,b,h=>by have:=vW b;subst this;simp only[Sn.sh,qF]at h;simp only[zC];exact h
 |.st fs,d,b,h=>by simp only[Sn.sh,qF]at h;simp only[zC];obtain⟨cs,hd,h⟩:=h;exact⟨cs,hd,tZ b h⟩
 |.sl el sz n e,d,b,h=>by
  simp only[Sn.sq,aE]at b;have:=vW b.1;subst this;simp only[Sn.sh,qF]at h;simp only[zC];rcases h with h|⟨es,hd,g,i⟩
  ·exact .inl h
  exact .inr ⟨es,hd,g,λx c=>eR b.2 (i x c)⟩
 |.any,d,b,h=>by cases b
 |.ptr _,d,b,h=>by cases b
 |.kr _ _ _,d,b,h=>by cases b
 |.mp _ _,d,b,h=>by cases b
 |.wh _ _,d,b,h=>by cases b
theorem tZ:∀{ss:LZ} {ds:LR},Sn.qw ss=true->jL 300000000 (Sn.nd ss) ds->zS ss ds
 | [],ds,_,h=>by simp only[Sn.nd,jL]at h;simp only[zS];exact h
 |s::r,ds,x,h=>by simp only[Sn.qw,aE]at x;simp only[Sn.nd,jL]at h;simp only[zS];obtain⟨d,b,hd,e,c⟩:=h;exact⟨d,b,hd,eR x.1 e,tZ x.2 c⟩
end
mutual
def Sn.least(B:Nat):Sn->Bool
 |.int _=>true
 |.bool=>true
 |.str n=>Nat.ble B n
 |.st fs=>Sn.mu B fs
 |.sl _ _ n e=>Nat.ble B n&&Sn.least B e
 |_=>false
def Sn.mu(B:Nat):LZ->Bool
 | []=>true
 |s::r=>Sn.least B s&&Sn.mu B r
end
mutual
theorem xI{B:Nat}:∀{s:Sn} {d:D},Sn.least B s=true->qF B s.sh d->zC s d
 |.int k,d,_,h=>by simp only[Sn.sh,qF]at h;simp only[zC];exact h
 |.bool,d,_,h=>by simp only[Sn.sh,qF]at h;simp only[zC];exact h
 |.str n,d,b,h=>by have:=oA b;simp only[Sn.sh,qF]at h;simp only[zC];grind
 |.st fs,d,b,h=>by simp only[Sn.sh,qF]at h;simp only[zC];obtain⟨cs,hd,h⟩:=h;exact⟨cs,hd,rQ b h⟩
 |.sl el sz n e,d,b,h=>by
  simp only[Sn.least,aE]at b;have:=oA b.1;simp only[Sn.sh,qF]at h;simp only[zC];rcases h with h|⟨es,hd,g,i⟩
  ·exact .inl h
  exact .inr ⟨es,hd,lT g this,λx c=>xI b.2 (i x c)⟩
 |.any,d,b,h=>by cases b
 |.ptr _,d,b,h=>by cases b
 |.kr _ _ _,d,b,h=>by cases b
 |.mp _ _,d,b,h=>by cases b
 |.wh _ _,d,b,h=>by cases b
theorem rQ{B:Nat}:∀{ss:LZ} {ds:LR},Sn.mu B ss=true->jL B (Sn.nd ss) ds->zS ss ds
 | [],ds,_,h=>by simp only[Sn.nd,jL]at h;simp only[zS];exact h
 |s::r,ds,x,h=>by simp only[Sn.mu,aE]at x;simp only[Sn.nd,jL]at h;simp only[zS];obtain⟨d,b,hd,e,c⟩:=h;exact⟨d,b,hd,xI x.1 e,rQ x.2 c⟩
end
theorem qJ8{x:Nat×(Nat×LZ)}(h:(mV E.prog x.2.1 x.1,pD E.prog x.1,Nat.ble x.2.1 10000,E.prog.eqGuardType E.prog.depth x.1,(Sn.nd x.2.2).all qEP,Sn.o8 x.2.2)=(some (Sn.nd x.2.2),true,true,false,true,true)):qIo E x:=h
section
variable{HS:LO->LR->La}
theorem pF{tab:List (LO×Spec)}(h:∀p∈tab,yA HS p.1 p.2)(x:gC tab f=some S):yA HS f S:=h (f,S) (g8 x)
theorem zAC{r:Sn}(h:yA HS f S)(b:S.rs=[r])(e:S.pre=[])(i:Sn.qw S.ss=true)(g:Sn.low r=true){ds:LR}(hd:jL 300000000 (Sn.nd S.ss) ds):∃d,qF 300000000 r.sh d/\HS f ds d:=by obtain⟨k,x,_,j⟩:=h ds (tZ i hd) (by rw[e];intro q c;cases c);rw[b]at x;simp only[zS]at x;obtain⟨d,_,rfl,h3,rfl⟩:=x;exact⟨d,oW g h3,j⟩
end
end Go.Am.Tt
