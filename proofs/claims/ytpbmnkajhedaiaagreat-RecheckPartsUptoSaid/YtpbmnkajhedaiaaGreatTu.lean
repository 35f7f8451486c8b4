/- Data checked symbolically: the arguments of a step. Conditions: none. -/
import Derived.Test.YtpbmnkajhedaiaaGreatTt
import Derived.Test.YtpbmnkajhedaiaaGreatAm7
set_option linter.all false
namespace Go.Am.Tt
open Go Go.Am
def Grow(σ:Wd)(r:Cx×Y)(d:D):Prop:=∃τ,COk (σ++τ) r.1/\qK (σ++τ) r.2 d
def qQH(σ:Wd)(r:Cx×List Y)(ds:List D):Prop:=∃τ,COk (σ++τ) r.1/\qG (σ++τ) r.2 ds
theorem Grow.here{σ:Wd}{C:Cx}{y:Y}{d:D}(x:COk σ C)(h:qK σ y d):Grow σ (C,y) d:=⟨[],kM x,by rw[List.append_nil];exact h⟩
theorem Grow.st{σ:Wd}{r:Cx×List Y}{ds:List D}(h:qQH σ r ds):Grow σ (r.1,.st r.2) (.agg ds):=by obtain⟨τ,y,x⟩:=h;exact⟨τ,y,by simp only[qK];exact⟨ds,rfl,x⟩⟩
def qOc{α:Type}(f:Cx->α->Option (Cx×Y)):Cx->List α->Option (Cx×List Y)
 |C,[]=>some (C,[])
 | C,x::r=>match f C x with
  |some (b,y)=>(match qOc f b r with
   |some (h,ys)=>some (h,y::ys)
   |none=>none)
  |none=>none
theorem qJH{α:Type}{f:Cx->α->Option (Cx×Y)}{g:α->D}{P:Wd->Prop}(k:∀{σ τ},P σ->P (σ++τ)):
  ∀(l:List α),(∀x∈l,∀{σ C r},P σ->COk σ C->f C x=some r->Grow σ r (g x))->∀{σ C r},P σ->COk σ C->qOc f C l=some r->qQH σ r (l.map g)
 | [],_,σ,C,r,_,e,h=>by
  simp only[qOc]at h;cases h
  exact⟨[],kM e,by simp only[List.map_nil,qG]⟩
 | x::l,j,σ,C,r,i,e,h=>by
  simp only[qOc]at h
  split at h
  ·rename_i B y p
   split at h
   ·rename_i A ys c
    cases h
    obtain⟨τ,u,t⟩:=j x List.mem_cons_self i e p
    obtain⟨b,q,w⟩:=qJH k l (λz o=>j z (mC _ o)) (k i) u c
    refine⟨τ++b,by rw[←List.append_assoc];exact q,?_⟩
    simp only[List.map_cons,qG]
    refine⟨_,_,rfl,?_,?_⟩
    ·rw[←List.append_assoc];exact nK t
    grind
   cases h
  cases h
def qSK(C:Cx):Value->Option (Cx×Y)
 |.int k n=>some (C,.int k 0 n)
 |.bool b=>some (C,.bool (bif b then[]else[qFx]) (bif b then[qFx]else[]))
 |.slice none _ _=>some (C,.nil)
 |.string s=>some (C.add [(C.nx,0,(s.size:Int)),(0,C.nx,-(s.size:Int))] [(C.nx,s.size)] [] 1,.str C.nx s.size)
 |_=>none
def qSI:Nat->Cx->Value->Option (Cx×Y)
 |0,C,v=>qSK C v
 | n+1,C,v=>match v with
  |.agg cs=>(match qOc (qSI n) C cs.toList with
   |some (h,ys)=>some (h,.st ys)
   |none=>none)
  |v=>qSK C v
theorem qKI{σ:Wd}{C:Cx}(y:COk σ C){v:Value}{r:Cx×Y}(h:qSK C v=some r)(n:Nat):Grow σ r (uM n v):=by
 obtain⟨z,c⟩:=y.s.z;unfold qSK at h;split at h
 ·cases h;have:∀n (k:IntKind) (x:Int),uM n (.int k x)=.leaf (.int k x):=λn k x=>by cases n<;>rfl
  rw[this];refine .here y ?_;simp only[qK];exact⟨_,c,by simp⟩
 ·rename_i b;cases h;have:∀n (b:Bool),uM n (.bool b)=.leaf (.bool b):=λn b=>by cases n<;>rfl
  rw[this];refine .here y ?_;simp only[qK];simp_all
 ·cases h;have:∀n (a b:Nat),uM n (.slice none a b)=.nil:=λn a b=>by cases n<;>rfl
  rw[this];refine .here y ?_;simp only[qK]
 ·rename_i s;cases h;have:∀n (s:ByteArray),uM n (.string s)=.leaf (.string s):=λn s=>by cases n<;>rfl
  rw[this];refine⟨[((s.size:Int),.nil)],y.ext (f2 ⟨_,_,get_new y _,zJ c,by simp only;omega⟩ ⟨_,_,zJ c,get_new y _,by simp only;omega⟩) (λq e=>?_) (by simp) rfl,?_⟩
  ·rw[List.mem_singleton]at e;subst e;exact⟨_,get_new y _,by simp,by simp⟩
  simp only[qK];exact⟨s,_,rfl,get_new y _,rfl,vE _⟩
 cases h
theorem qFH:∀(n:Nat) {σ:Wd} {C:Cx} {v:Value} {r:Cx×Y},COk σ C->qSI n C v=some r->Grow σ r (uM n v)
 |0,σ,C,v,r,y,h=>qKI y h 0
 | n+1,σ,C,v,r,y,h=>by
  simp only[qSI]at h;split at h
  ·rename_i cs;split at h
   ·rename_i e ys c;cases h;have:=qJH (g:=uM n) (P:=λ_=>True) (λh=>h) cs.toList (λx _ {σ C r} _ y b=>qFH n y b) trivial y c;exact Grow.st this
   cases h
  exact qKI y h _
mutual
def qA1(h:List Y):Cx->SV->Option (Cx×Y)
 |C,.v i=>match h[i]? with
  |some y=>some (C,y)
  |none=>none
 |C,.c v=>qSI 6 C v
 |C,.agg cs=>match cX h C cs with
  |some (e,ys)=>some (e,.st ys)
  |none=>none
 | C,.fn f a b=>match f with
  | .func f=>match cX h C a with
   |some (c,azq)=>match cX h c b with
    |some (x,cs)=>some (x,.clo f azq cs)
    |none=>none
   |none=>none
  |_=>none
 |C,.pp i off=>match h[i]? with
  |some (.ptr cs o)=>some (C,.ptr cs (o+off))
  |_=>none
 |C,.tup _=>some (C,.any)
 |_,_=>none
def cX(h:List Y):Cx->List SV->Option (Cx×List Y)
 |C,[]=>some (C,[])
 | C,x::r=>match qA1 h C x with
  |some (c,y)=>(match cX h c r with
   |some (b,ys)=>some (b,y::ys)
   |none=>none)
  |none=>none
end
mutual
theorem qKS{env:List Y}{ρ:List D}:∀{x:SV} {σ:Wd} {C:Cx} {r:Cx×Y},COk σ C->qG σ env ρ->qA1 env C x=some r->Grow σ r (x.d (getD ρ))
 |.v i,σ,C,r,c,he,h=>by
  simp only[qA1]at h;split at h
  ·rename_i y k;cases h;obtain⟨d,g,e⟩:=gL he k;simp only[SV.d,getD_some g];exact .here c e
  cases h
 |.c v,σ,C,r,c,he,h=>by simp only[qA1]at h;simp only[SV.d];exact qFH 6 c h
 |.agg cs,σ,C,r,c,he,h=>by
  simp only[qA1]at h;split at h
  ·rename_i A ys l;cases h;simp only[SV.d];exact Grow.st (oH c he l)
  cases h
 | .fn f a b,σ,C,r,c,he,h=>by
  simp only[qA1]at h;split at h
  ·split at h
   ·rename_i z azq q;split at h
    ·rename_i w cs p;cases h;obtain⟨τ,g,e⟩:=oH c he q;obtain⟨j,t,u⟩:=oH g (zB he) p;refine⟨τ++j,by rw[←List.append_assoc];exact t,?_⟩;simp only[SV.d,qK];refine⟨_,_,rfl,?_,?_⟩
     ·rw[←List.append_assoc];exact zB e
     grind
    cases h
   cases h
  cases h
 |.pp i off,σ,C,r,c,he,h=>by
  simp only[qA1]at h;split at h
  ·rename_i cs o k;cases h;obtain⟨d,g,e⟩:=gL he k;refine .here c ?_;simp only[qK]at e ⊢;obtain⟨ds,rfl,e⟩:=e;simp only[SV.d,getD_some g];exact⟨ds,rfl,e⟩
  cases h
 |.loc _ _,_,_,_,_,_,h=>by simp only[qA1]at h;cases h
 |.ptr _ _ _ _,_,_,_,_,_,h=>by simp only[qA1]at h;cases h
 |.tup _,σ,C,r,c,he,h=>by simp only[qA1]at h;cases h;exact .here c (by simp only[qK])
 |.ifc _ _,_,_,_,_,_,h=>by simp only[qA1]at h;cases h
theorem oH{env:List Y}{ρ:List D}:∀{xs:List SV} {σ:Wd} {C:Cx} {r:Cx×List Y},COk σ C->qG σ env ρ->cX env C xs=some r->qQH σ r (SV.ds (getD ρ) xs)
 | [],σ,C,r,e,he,h=>by simp only[cX]at h;cases h;exact⟨[],kM e,by simp only[SV.ds,qG]⟩
 | x::l,σ,C,r,e,he,h=>by
  simp only[cX]at h;split at h
  ·rename_i q y g;split at h
   ·rename_i p ys c;cases h;obtain⟨τ,k,j⟩:=qKS e he g;obtain⟨b,i,o⟩:=oH k (zB he) c;refine⟨τ++b,by rw[←List.append_assoc];exact i,?_⟩;simp only[SV.ds,qG];refine⟨_,_,rfl,?_,?_⟩
    ·rw[←List.append_assoc];exact nK j
    grind
   cases h
  cases h
end
def qIP(f:Nat):Y->Option Y
 |.st cs=>cs[f]?
 |.sl n el sz b e=>some (.sl n el sz b e)
 |.str n b=>some (.str n b)
 |.int k v c=>some (.int k v c)
 |_=>none
theorem qLY{σ:Wd}{f:Nat}{y c:Y}{d:D}(hd:qK σ y d)(h:qIP f y=some c):qK σ c (qIR f d):=by
 cases y<;>simp only[qIP]at h<;>first|(cases h;done)|skip
 ·cases h;have b:=hd;simp only[qK]at hd;obtain⟨x,_,rfl⟩:=hd;exact b
 ·cases h;have b:=hd;simp only[qK]at hd;obtain⟨s,x,rfl,_⟩:=hd;exact b
 ·cases h;have b:=hd;simp only[qK,qM]at hd;rcases hd.2 with rfl|⟨es,rfl,_⟩<;>exact b
 simp only[qK]at hd;obtain⟨ds,rfl,hs⟩:=hd;obtain⟨e,he,hr⟩:=gL hs h;simp only[qIR,getD_some he];exact hr
def zAx(C:Cx)(f:Nat):Option Y->Option Y->Option (Nat×Int)
 | some (.sl n _ _ _ _),some (.int .i64 v c)=>match qEr C.els n v c with
  |some y=>(match qIP f y with
   |some z=>qML z
   |none=>none)
  |none=>none
 |_,_=>none
def sG(C:Cx)(ys:List Y):Pt->Option (Nat×Int)
 |.z=>some (0,0)
 |.aT p=>match fW p (.st ys)with
  |some y=>qML y
  |none=>none
 |.el p q f=>zAx C f (fW p (.st ys)) (fW q (.st ys))
theorem pE{σ:Wd}{C:Cx}(e:COk σ C){ys:List Y}{ds:List D}{p:Pt}{v:Nat}{c:Int}(hd:qG σ ys ds)(h:sG C ys p=some (v,c)):∃x,σ[v]? = some x/\qEW ds p=x.1+c:=by
 obtain⟨z,o⟩:=e.s.z;have b:qK σ (.st ys) (.agg ds):=by simp only[qK];exact⟨ds,rfl,hd⟩
 cases p with
 |z=>simp only[sG]at h;cases h;exact⟨_,o,by simp[qEW]⟩
 | aT p=>
  simp only[sG]at h;split at h
  ·rename_i y g;exact qEM e (nD b g) h
  cases h
 | el p q f=>
  simp only[sG]at h;unfold zAx at h;split at h
  ·rename_i n _ _ _ _ i G A u;split at h
   ·rename_i y g;split at h
    ·rename_i w r;have a1:=nD b A;have l:=nD b u;simp only[qK]at a1 l;obtain⟨k,t,F⟩:=l;obtain⟨x,d,H,j,g1,g2,g3,g4,g5⟩:=tK e.e g;simp only at g1 g2 g3 g4 g5;rw[a1.1]at g1;cases g1;rw[t]at g2;cases g2;have B:qI2 (aN p (.agg ds)) (aN q (.agg ds))=j:=by unfold qI2;rw[F];show(aN p (.agg ds)).es.getD (k.1+G).toNat .nil=j;grind
     simp only[qEW,B];exact qEM e (qLY g5 r) h
    cases h
   cases h
  cases h
def qQP(C:Cx)(ys:List Y)(q:Cn):Bool:=match sG C ys q.1,sG C ys q.2.1 with
 |some (v,c),some (w,e)=>yN C.F C.L v c w (e+q.2.2)
 |_,_=>false
theorem qFI{σ:Wd}{C:Cx}(b:COk σ C){ys:List Y}{ds:List D}{q:Cn}(hd:qG σ ys ds)(h:qQP C ys q=true):qAS ds q:=by
 unfold qQP at h;split at h
 ·rename_i v c w e k j;obtain⟨x,i,o⟩:=pE b hd k;obtain⟨y,g,l⟩:=pE b hd j;have:=vI b.s h i g;unfold qAS;omega
 cases h
def qYd(C:Cx)(ys:List Y)(q:Cn):List jL:=match sG C ys q.1,sG C ys q.2.1 with
 |some (v,c),some (w,e)=>[(v,w,e+q.2.2-c)]
 |_,_=>[]
theorem qQq{σ:Wd}{C:Cx}(b:COk σ C){ys:List Y}{ds:List D}{q:Cn}(hd:qG σ ys ds)(h:qAS ds q):∀f∈qYd C ys q,aF σ f:=by
 unfold qYd;split
 ·rename_i v c w e l k;obtain⟨x,i,p⟩:=pE b hd l;obtain⟨y,g,o⟩:=pE b hd k;unfold qAS at h;exact f1 i g (by omega)
 intro f j;cases j
def qUN(C:Cx):Option Y->Option Y->Cx
 |some (.sl n _ _ _ e),some (.int .i64 v c)=>match qSf C n e v c with
  |some (h,_)=>h
  |none=>C
 |_,_=>C
def qJX(C:Cx)(ys:List Y):Pt->Cx
 |.el p q _=>qUN C (fW p (.st ys)) (fW q (.st ys))
 |_=>C
theorem qGq(E:Env){σ:Wd}{C:Cx}(b:COk σ C){ys:List Y}{ds:List D}(hd:qG σ ys ds)(p:Pt):∃τ,COk (σ++τ) (qJX C ys p):=by
 have x:qK σ (.st ys) (.agg ds):=by simp only[qK];exact⟨ds,rfl,hd⟩
 cases p with
 |z=>exact⟨[],kM b⟩
 | aT p=>exact⟨[],kM b⟩
 | el p q f=>
  simp only[qJX];unfold qUN;split
  ·rename_i g e;split
   ·rename_i i y c;obtain⟨d,τ,_,h,_⟩:=qPd (E:=E) b (nD x g) (nD x e) c;exact⟨τ,h⟩
   exact⟨[],kM b⟩
  exact⟨[],kM b⟩
def qSe(ys:List Y):List Cn->Cx->Cx
 | [],C=>C
 |q::r,C=>let h:=qJX (qJX C ys q.1) ys q.2.1;qSe ys r (h.add (qYd h ys q) [] [] 0)
theorem qFq(E:Env){ys:List Y}{ds:List D}:∀{l:List Cn} {σ:Wd} {C:Cx},COk σ C->qG σ ys ds->(∀q∈l,qAS ds q)->∃τ,COk (σ++τ) (qSe ys l C)
 | [],σ,C,e,_,_=>⟨[],kM e⟩
 |q::r,σ,C,e,hd,h=>by obtain⟨c,p⟩:=qGq E e hd q.1;obtain⟨b,g⟩:=qGq E p (zB hd) q.2.1;rw[List.append_assoc]at g;have y:=zB (τ:=c++b) hd;have o:=g.facts (qQq g y (h q List.mem_cons_self));obtain⟨j,i⟩:=qFq E o y λx k=>h x (mC _ k);rw[List.append_assoc]at i;exact⟨_,i⟩
structure Spec where
 ss:List Sn
 rs:List Sn
 pre:List Cn
 post:List Cn
def xZ(HS:FuncId->List D->D->Prop)(f:FuncId)(S:Spec):Prop:=
 ∀ds,qU S.ss ds->(∀q∈S.pre,qAS ds q)->∃h,qU S.rs h/\(∀q∈S.post,qAS (ds++h) q)/\HS f ds (gZ h)
abbrev Ms:=Pt×Pt×Int
def qYb(ds:List D)(m:Ms):Int:=qEW ds m.1-qEW ds m.2.1+m.2.2
def qIA:List Nat->List Nat->Prop
 |a::azq,b::h=>a<b∨(a<=b/\qIA azq h)
 |_,_=>False
def qCd(ds:List D)(h:List Ms):List Nat:=h.map λm=>(qYb ds m).toNat
def zBs(C:Cx)(h ys:List Y)(m' m:Ms)(k:Int):Bool:=match sG C h m'.1,sG C h m'.2.1,sG C ys m.1,sG C ys m.2.1 with
 |some (v',x),some (w',e'),some (v,c),some (w,e)=>
  (yN C.F C.L v' x v (c+(m.2.2-m'.2.2-k))&&yN C.F C.L w e w' e')||(yN C.F C.L v' x v c&&yN C.F C.L w e w' (e'+(m.2.2-m'.2.2-k)))
 |_,_,_,_=>false
def qWh(C:Cx)(ys:List Y)(m:Ms):Bool:=match sG C ys m.1,sG C ys m.2.1 with
 |some (v,c),some (w,e)=>yN C.F C.L w (e+1) v (c+m.2.2)
 |_,_=>false
def qLJ(C:Cx)(h ys:List Y):List Ms->List Ms->Bool
 |m'::x,m::r=>(zBs C h ys m' m 1&&qWh C ys m)||(zBs C h ys m' m 0&&qLJ C h ys x r)
 |_,_=>false
section
variable{σ:Wd}{C:Cx}
theorem qO4(x:COk σ C){y ys:List Y}{i ds:List D}{m' m:Ms}{k:Int}(g:qG σ y i)(hd:qG σ ys ds)(h:zBs C y ys m' m k=true):qYb i m'+k<=qYb ds m:=by
 unfold zBs at h;split at h
 ·rename_i v' G w' e' v c w e p o l j;obtain⟨u,g1,F⟩:=pE x g p;obtain⟨t,g2,B⟩:=pE x g o;obtain⟨r,g3,A⟩:=pE x hd l;obtain⟨q,g4,z⟩:=pE x hd j;unfold qYb;rcases Bool.or_eq_true_iff.1 h with h|h<;>rw[zR]at h
  ·have a:=vI x.s h.1 g1 g3;have b:=vI x.s h.2 g4 g2;omega
  have a:=vI x.s h.1 g1 g3;have b:=vI x.s h.2 g4 g2;omega
 cases h
theorem qRz(x:COk σ C){ys:List Y}{ds:List D}{m:Ms}(hd:qG σ ys ds)(h:qWh C ys m=true):1<=qYb ds m:=by
 unfold qWh at h;split at h
 ·rename_i v c w e b y;obtain⟨i,g3,k⟩:=pE x hd b;obtain⟨g,g4,j⟩:=pE x hd y;unfold qYb;have a:=vI x.s h g4 g3;omega
 cases h
theorem qJ4(e:COk σ C){y ys:List Y}{c ds:List D}(x:qG σ y c)(hd:qG σ ys ds):∀{g l:List Ms},qLJ C y ys g l=true->qIA (qCd c g) (qCd ds l)
 | [],_,h=>by simp only[qLJ]at h;cases h
 |_::_,[],h=>by simp only[qLJ]at h;cases h
 |m'::i,m::r,h=>by
  simp only[qLJ]at h;simp only[qCd,List.map_cons,qIA];rcases Bool.or_eq_true_iff.1 h with h|h<;>rw[zR]at h
  ·have a:=qO4 e x hd h.1;have b:=qRz e hd h.2;left;omega
  have a:=qO4 e x hd h.1;right;exact⟨by omega,qJ4 e x hd h.2⟩
end
theorem qO2:∀(n:Nat) (l:List Nat),l.length=n->Acc (λa b:List Nat=>a.length=b.length/\qIA a b) l
 |0,l,h=>by
  have:l=[]:=List.length_eq_zero_iff.1 h;subst this;refine⟨_,λy x=>?_⟩;cases y with
  |nil=>exact(x.2:False).elim
  |cons _ _=>cases x.1
 | n+1,l,h=>by
  have key:∀(a:Nat),∀(r:List Nat),r.length=n->Acc (λa b:List Nat=>a.length=b.length/\qIA a b) (a::r):=by
   intro a;induction a using Nat.strongRecOn with
   | _ a g=>
    intro r i;have c:=qO2 n r i;induction c with
    | intro r _ e=>
     refine⟨_,λy x=>?_⟩;cases y with
     |nil=>cases x.1
     |cons b s=>
      have o:s.length=n:=by have:=x.1;simp only[List.length_cons]at this;omega
      rcases x.2 with j|⟨k,hs⟩;all_goals grind
  cases l with
  |nil=>cases h
  |cons a r=>exact key a r (by simpa using h)
structure Hd where
 ss:List Sn
 inv:List Cn
 ms:List Ms
structure Fx where
 T:Tb
 sp:FuncId->Cx->List Y->Option Spec
 md:FuncId->Mode->Cx->List Y->Option Spec
 S:Spec
 hd:Nat->Option Hd
def qOg:List Y->Y
 | [y]=>y
 |l=>.tup l
def qGI:Y->Bool
 |.int _ _ _=>true
 |.bool _ _=>true
 |.str _ _=>true
 |_=>false
def qKl:Nat->Y->Bool
 |0,_=>true
 |1,y=>qGI y
 |_,.tup l=>l.all qGI
 |_,_=>false
def qVG(h:Tgt)(ys:List Y):Option (FuncId×List Y):=match h with
 |.fn f=>some (f,ys)
 |.val _=>(match ys with
  |.clo g a c::r=>some (g,a++r++c)
  |_=>none)
 |.meth _ _=>none
def dead(C:Cx)(t:List jL):Bool:=t.any λq=>yN C.F C.L q.2.1 0 q.1 (-q.2.2-1)
def ck(X:Fx)(e x:List Y)(g:List Ms):Tree->List Y->Cx->Bool
 |.ret xs,env,C=>match cX env C xs with
  |some (C,ys)=>gS C ys X.S.rs&&X.S.post.all (qQP C (e++ys))
  |none=>false
 | .jump k xs,env,C=>match X.hd k with
  |some h=>(match cX env C xs with
   |some (C,ys)=>gS C ys h.ss&&h.inv.all (qQP C (e++ys))&&qLJ C (e++ys) x h.ms g
   |none=>false)
  |none=>false
 | .bind o xs r,env,C=>match cX env C xs with
  |some (C,ys)=>(match zCB X.T C o ys with
   |some (C,y)=>ck X e x g r (env++[y]) C
   |none=>false)
  |none=>false
 | .call i xs j r,env,C=>match cX env C xs with
  | some (C,ys)=>(match qVG i ys with
   | some (f,ys)=>(match X.sp f C ys with
    |some S=>gS C ys S.ss&&S.pre.all (qQP C ys)&&(match wK S.rs C with
     |(C,rs)=>qKl j (qOg rs)&&ck X e x g r (env++[qOg rs]) (C.add (S.post.flatMap (qYd C (ys++rs))) [] [] 0))
    |none=>false)
   |none=>false)
  |none=>false
 | .callM f m xs r,env,C=>match cX env C xs with
  | some (C,ys)=>(match X.md f m C ys with
   |some S=>gS C ys S.ss&&S.pre.all (qQP C ys)&&Nat.beq S.rs.length m.out.sts.length&&(match wK S.rs C with
    |(C,rs)=>ck X e x g r (env++rs) (C.add (S.post.flatMap (qYd C (ys++rs))) [] [] 0))
   |none=>false)
  |none=>false
 |.ite c a b,env,C=>match qA1 env C c with
  |some (C,.bool t f)=>(ck X e x g a env (C.add t [] [] 0)||dead C t)&&(ck X e x g b env (C.add f [] [] 0)||dead C f)
  |_=>false
 |_,_,_=>false
theorem jM{σ:Wd}:∀{a b:List Y} {x y:List D},qG σ a x->qG σ b y->qG σ (a++b) (x++y)
 | [],b,x,y,h,c=>by simp only[qG]at h;subst h;simpa using c
 |u::a,b,x,y,h,c=>by simp only[qG]at h;obtain⟨d,ds,rfl,g,e⟩:=h;simp only[List.cons_append,qG];exact⟨_,_,rfl,g,jM e c⟩
theorem qRo{σ:Wd}{ys:List Y}{ds:List D}(h:qG σ ys ds):qK σ (qOg ys) (gZ ds):=by
 cases ys with
 |nil=>simp only[qG]at h;subst h;simp only[qOg,gZ,qK];exact⟨_,rfl,by simp only[qG]⟩
 |cons y r=>
  have e:=h;simp only[qG]at h;obtain⟨d,g,rfl,c,x⟩:=h;cases r with
  |nil=>simp only[qG]at x;subst x;exact c
  |cons z r=>have i:=x;simp only[qG]at x;obtain⟨j,b,rfl,_,_⟩:=x;simp only[qOg,gZ,qK];exact⟨_,rfl,e⟩
theorem qGH{σ:Wd}{y:Y}{d:D}(hd:qK σ y d)(h:qGI y=true):∃v,d=.leaf v:=by
 cases y<;>simp only[qGI]at h<;>first|(cases h;done)|simp only[qK]at hd
 all_goals grind
theorem qEb{σ:Wd}:∀{ys:List Y} {ds:List D},qG σ ys ds->ys.all qGI=true->tX ds=true
 | [],ds,h,_=>by simp only[qG]at h;subst h;rfl
 |y::ys,ds,h,x=>by simp only[qG]at h;obtain⟨d,r,rfl,c,b⟩:=h;simp only[List.all_cons,zR]at x;obtain⟨v,rfl⟩:=qGH c x.1;have:=qEb b x.2;simpa only[tX]using this
theorem qPu{σ:Wd}{n:Nat}{y:Y}{d:D}(hd:qK σ y d)(h:qKl n y=true):qEp n d=true:=by
 match n with
 |0=>rfl
 |1=>simp only[qKl]at h;obtain⟨v,rfl⟩:=qGH hd h;rfl
 |n+2=>
  cases y<;>simp only[qKl]at h<;>first|(cases h;done)|skip
  simp only[qK]at hd;obtain⟨ds,rfl,hs⟩:=hd;exact qEb hs h
def zEf(X:Fx)(y:List D)(M:List Nat):Res1->Prop
 |.ret d=>∃x,d=gZ x/\qU X.S.rs x/\∀q∈X.S.post,qAS (y++x) q
 |.jump k ds=>∃h,X.hd k=some h/\qU h.ss ds/\(∀q∈h.inv,qAS (y++ds) q)/\qIA (qCd (y++ds) h.ms) M
theorem qQ2{E:Env}{σ:Wd}{b:Tgt}{ys x:List Y}{ds:List D}{f:FuncId}(hd:qG σ ys ds)(h:qVG b ys=some (f,x)):∃y,qBA E b ds=some (f,y)/\qG σ x y:=by
 unfold qVG at h;split at h
 ·cases h;exact⟨_,rfl,hd⟩
 ·split at h
  ·cases h;simp only[qG]at hd;obtain⟨d,r,rfl,c,i⟩:=hd;simp only[qK]at c;obtain⟨azq,cs,rfl,g,e⟩:=c;exact⟨azq++r++cs,by simp only[qBA],jM (jM g i) e⟩
  cases h
 cases h
theorem qKL{σ:Wd}{C:Cx}(b:COk σ C){ys:List Y}{ds:List D}{l:List Cn}(hd:qG σ ys ds)(h:∀q∈l,qAS ds q):∀f∈l.flatMap (qYd C ys),aF σ f:=by intro f x;obtain⟨q,y,x⟩:=List.mem_flatMap.1 x;exact qQq b hd (h q y) f x
theorem qKC{σ:Wd}{C:Cx}(e:COk σ C){t:List jL}(h:dead C t=true):¬∀q∈t,aF σ q:=by intro c;unfold dead at h;obtain⟨q,b,h⟩:=List.any_eq_true.1 h;obtain⟨x,y,i,g,j⟩:=c q b;have:=vI e.s h g i;omega
section
variable{E:Env}{HS:FuncId->List D->D->Prop}{X:Fx}
def tY(HS:FuncId->List D->D->Prop)(f:FuncId)(m:Mode)(S:Spec):Prop:=
 ∀ds,qU S.ss ds->(∀q∈S.pre,qAS ds q)->∃h,qU S.rs h/\(∀q∈S.post,qAS (ds++h) q)/\HS (Nat.add cQ f) (.mode m::ds) (gZ h)
theorem qCZ(F:TbOk E X.T)(mJ:∀f C ys S,X.sp f C ys=some S->xZ HS f S)(g:∀f m C ys S,X.md f m C ys=some S->tY HS f m S){Q H:List Y}{ms:List Ms}{Z z:List D}:
  ∀(t:Tree) {env:List Y} {C:Cx} {ρ:List D} {σ:Wd},COk σ C->qG σ env ρ->qG σ Q Z->qG σ H z->ck X Q H ms t env C=true->wp E HS (zEf X Z (qCd z ms)) t ρ
 |.fail,_,_,_,_,_,_,_,_,h=>by simp only[ck]at h;cases h
 |.stop _ _,_,_,_,_,_,_,_,_,h=>by simp only[ck]at h;cases h
 | .callM f m xs r,env,C,ρ,σ,u,he,i,l,h=>by
  simp only[ck]at h
  split at h
  ·rename_i w ys j
   split at h
   ·rename_i S L
    obtain⟨τ,x,e⟩:=oH u he j
    generalize hr:wK S.rs w=p at h
    obtain⟨C2,rs⟩:=p
    simp only[zR]at h
    obtain⟨⟨⟨a1,a2⟩,a3⟩,a4⟩:=h
    obtain⟨R,J,O,N⟩:=g f m w ys S L _ (yZ x a1 e) λq B=>qFI x e (List.all_eq_true.1 a2 q B)
    obtain⟨G,c1,A⟩:=kJ J x
    rw[hr]at c1 A
    simp only[wp]
    refine⟨R,N,by rw[bJ J];exact vP a3,?_⟩
    have I:=c1.facts (qKL c1 (jM (zB e) A) O)
    rw[List.append_assoc]at I A
    exact qCZ F mJ g r I (jM (zB he) A) (zB i) (zB l) a4
   cases h
  cases h
 | .ret xs,env,C,ρ,σ,u,he,i,l,h=>by
  simp only[ck]at h
  split at h
  ·rename_i w ys j
   obtain⟨τ,x,e⟩:=oH u he j
   rw[zR]at h
   simp only[wp]
   exact⟨_,rfl,yZ x h.1 e,λq B=>qFI x (jM (zB i) e) (List.all_eq_true.1 h.2 q B)⟩
  cases h
 | .jump k xs,env,C,ρ,σ,u,he,i,l,h=>by
  simp only[ck]at h
  split at h
  ·rename_i hh hk
   split at h
   ·rename_i w ys j
    obtain⟨τ,x,e⟩:=oH u he j
    simp only[zR]at h
    simp only[wp]
    exact⟨hh,hk,yZ x h.1.1 e,λq B=>qFI x (jM (zB i) e) (List.all_eq_true.1 h.1.2 q B),qJ4 x (jM (zB i) e) (zB l) h.2⟩
   cases h
  cases h
 | .bind o xs r,env,C,ρ,σ,u,he,i,l,h=>by
  simp only[ck]at h
  split at h
  ·rename_i w ys j
   split at h
   ·rename_i C2 y ho
    obtain⟨τ,x,e⟩:=oH u he j
    obtain⟨d,G,e1,W,V⟩:=qWr F x e ho
    simp only[wp,e1]
    rw[List.append_assoc]at W V
    exact qCZ F mJ g r W (jM (zB he) (by simp only[qG];exact⟨_,_,rfl,V,rfl⟩)) (zB i) (zB l) h
   cases h
  cases h
 | .call tg xs fl r,env,C,ρ,σ,u,he,i,l,h=>by
  simp only[ck]at h
  split at h
  ·rename_i w ys j
   split at h
   ·rename_i f K ht
    split at h
    ·rename_i S L
     obtain⟨τ,x,e⟩:=oH u he j
     obtain⟨M,t1,t2⟩:=qQ2 (E:=E) e ht
     generalize hr:wK S.rs w=p at h
     obtain⟨C2,rs⟩:=p
     simp only[zR]at h
     obtain⟨⟨a1,a2⟩,a3,a4⟩:=h
     obtain⟨R,J,O,N⟩:=mJ f w K S L M (yZ x a1 t2) λq B=>qFI x t2 (List.all_eq_true.1 a2 q B)
     obtain⟨G,c1,A⟩:=kJ J x
     rw[hr]at c1 A
     simp only[wp,t1]
     have hr:=qRo A
     refine⟨_,N,qPu hr a3,?_⟩
     have I:=c1.facts (qKL c1 (jM (zB t2) A) O)
     have hr:=hr
     rw[List.append_assoc]at I hr
     exact qCZ F mJ g r I (jM (zB he) (by simp only[qG];exact⟨_,_,rfl,hr,rfl⟩)) (zB i) (zB l) a4
    cases h
   cases h
  cases h
 | .ite c a b,env,C,ρ,σ,u,he,i,l,h=>by
  simp only[ck]at h
  split at h
  ·rename_i w t f j
   obtain⟨τ,x,e⟩:=qKS u he j
   simp only[qK]at e
   obtain⟨v,hv,ht,U⟩:=e
   rw[zR]at h
   simp only[wp,hv]
   cases v with
   |true=>
    rcases Bool.or_eq_true_iff.1 h.1 with h|h
    ·exact qCZ F mJ g a (x.facts (ht rfl)) (zB he) (zB i) (zB l) h
    exact absurd (ht rfl) (qKC x h)
   |false=>
    rcases Bool.or_eq_true_iff.1 h.2 with h|h
    ·exact qCZ F mJ g b (x.facts (U rfl)) (zB he) (zB i) (zB l) h
    exact absurd (U rfl) (qKC x h)
  cases h
end
def gB{α:Type}:List (Nat×α)->Nat->Option α
 | [],_=>none
 |(k,x)::r,n=>bif Nat.beq k n then some x else gB r n
theorem rR{α:Type}{l:List (Nat×α)}{n:Nat}{x:α}(h:gB l n=some x):(n,x)∈l:=by
 induction l with
 |nil=>cases h
 |cons p r c=>
  obtain⟨k,y⟩:=p;simp only[gB]at h;cases b:Nat.beq k n with
  |true=>rw[b]at h;have:=vP b;subst this;cases h;exact List.mem_cons_self
  |false=>rw[b]at h;exact mC _ (c h)
def qKB{α:Type}:List (Nat×α)->Bool
 | []=>true
 |(k,_)::r=>(match gB r k with
  |some _=>false
  |none=>true)&&qKB r
theorem qQe{α:Type}{l:List (Nat×α)}(h:qKB l=true):∀x∈l,gB l x.1=some x.2:=by
 induction l with
 |nil=>intro x c;cases c
 |cons p r e=>
  obtain⟨k,y⟩:=p;simp only[qKB,zR]at h;intro x c;rcases List.mem_cons.1 c with rfl|b
  ·simp only[gB,Nat.beq_refl,cond_true]
  have g:=e h.2 x b;simp only[gB];cases i:Nat.beq k x.1 with
  |false=>simpa using g
  |true=>simp_all
def qEP(l:List (Nat×Tree))(k:Nat):Tree:=(gB l k).getD .fail
def C0:Cx:=⟨[],[],[],1⟩
theorem zBh:COk [(0,.nil)] C0:={s:={z:=⟨_,rfl⟩,f:=λq h=>(by cases h),l:=λq h=>(by cases h)},e:=λe h=>(by cases h),n:=rfl}
def qMy(S:Spec):Cx×List Y:=match wK S.ss C0 with
 |(C,h)=>(qSe h S.pre C,h)
theorem qXT(E:Env){S:Spec}{ds:List D}(h:qU S.ss ds)(e:∀q∈S.pre,qAS ds q):∃σ,COk σ (qMy S).1/\qG σ (qMy S).2 ds:=by obtain⟨τ,y,x⟩:=kJ h zBh;unfold qMy;split;rename_i C i c;rw[c]at y x;obtain⟨b,g⟩:=qFq E y x e;exact⟨_,g,zB x⟩
def qI8(X:Fx)(C:Cx)(x:List Y)(h:Hd)(t:Tree):Bool:=match wK h.ss C with
 |(C,ys)=>ck X x (x++ys) h.ms t ys (qSe (x++ys) h.inv C)
def tS(X:Fx)(C:Cx)(x:List Y)(ts:List (Nat×Tree))(n:Nat):List (Nat×Hd)->Bool
 | []=>true
 |(k,h)::r=>Nat.beq h.ms.length n&&qI8 X C x h (qEP ts k)&&tS X C x ts n r
theorem qC0{X:Fx}{C:Cx}{y:List Y}{ts:List (Nat×Tree)}{n:Nat}:∀{l:List (Nat×Hd)},tS X C y ts n l=true->∀p∈l,p.2.ms.length=n/\qI8 X C y p.2 (qEP ts p.1)=true
 | [],_,p,x=>by cases x
 |(k,h)::r,b,p,x=>by
  simp only[tS,zR]at b;rcases List.mem_cons.1 x with rfl|x
  ·simp_all
  exact qC0 b.2 p x
section
variable{E:Env}{HS:FuncId->List D->D->Prop}
theorem qSj{T:Tb}{sp:FuncId->Cx->List Y->Option Spec}{md:FuncId->Mode->Cx->List Y->Option Spec}{S:Spec}{hs:List (Nat×Hd)}{rm:List Ms}{ts:List (Nat×Tree)}(K:TbOk E T)(mJ:∀f C ys S,sp f C ys=some S->xZ HS f S)(l:∀f m C ys S,md f m C ys=some S->tY HS f m S)(R:ck ⟨T,sp,md,S,gB hs⟩ (qMy S).2 (qMy S).2 rm (qEP ts 0) (qMy S).2 (qMy S).1=true)(W:tS ⟨T,sp,md,S,gB hs⟩ (qMy S).1 (qMy S).2 ts rm.length hs=true){ds:List D}(F:qU S.ss ds)(U:∀q∈S.pre,qAS ds q):∃x,qU S.rs x/\(∀q∈S.post,qAS (ds++x) q)/\qE E HS (qEP ts) 0 ds (gZ x):=by
 obtain⟨σ,L,z⟩:=qXT E F U;have y:=qC0 W
 have key:∀M:List Nat,Acc (λa b:List Nat=>a.length=b.length/\qIA a b) M->∀k h es,gB hs k=some h->qU h.ss es->(∀q∈h.inv,qAS (ds++es) q)->qCd (ds++es) h.ms=M->
   ∃x,qU S.rs x/\(∀q∈S.post,qAS (ds++x) q)/\qE E HS (qEP ts) k es (gZ x):=by
  intro M Z
  induction Z with
  | intro M _ Q=>
   intro k h es V B o t
   obtain⟨hlen,i⟩:=y _ (rR V)
   unfold qI8 at i
   split at i
   rename_i C' ys A
   obtain⟨τ,a1,a2⟩:=kJ B L
   rw[A]at a1 a2
   have p:=zB (τ:=τ) z
   have c:=jM p a2
   obtain⟨O,a3⟩:=qFq E a1 c o
   have:=qCZ K mJ l _ a3 (zB a2) (zB p) (zB c) i
   obtain⟨r,w,u⟩:=lN _ _ this
   cases r with
   |ret d=>
    obtain⟨x,rfl,e,j⟩:=w
    exact⟨x,e,j,qE.step (u _ rfl)⟩
   |jump k' es'=>
    obtain⟨G,e,j,J,N⟩:=w
    obtain⟨g,_⟩:=y _ (rR e)
    obtain⟨x,c1,I,H⟩:=Q _ ⟨by rw[←t];simp only[qCd,List.length_map];rw[g,hlen],by rw[←t];exact N⟩ k' G es' e j J rfl
    exact⟨x,c1,I,qE.step (u _ H)⟩
 have:=qCZ K mJ l _ L z z z R;obtain⟨r,w,u⟩:=lN _ _ this;cases r with
 |ret d=>obtain⟨x,rfl,e,j⟩:=w;exact⟨x,e,j,qE.step (u _ rfl)⟩
 |jump k' es'=>obtain⟨G,e,j,J,N⟩:=w;obtain⟨x,c1,I,H⟩:=key _ (qO2 _ _ rfl) k' G es' e j J rfl;exact⟨x,c1,I,qE.step (u _ H)⟩
end
structure En where
 f:FuncId
 pats:List (Nat×Pat)
 S:Spec
 hs:List (Nat×Hd)
 rm:List Ms
def qRB(l:List (Nat×Pat))(k:Nat):Pat:=(gB l k).getD ⟨[],[],[],[]⟩
def qQZ(E:Env)(fn:Func)(c:Code)(l:List (Nat×Pat))(n:Nat):List (Nat×Tree):=
 (0,qGc E (λk S=>jI (Nat.max fn.ntmps n) (qRB l k) k S) fn n)::xB E (λk=>(qRB l k).st (Nat.max fn.ntmps n)) (λk S=>jI (Nat.max fn.ntmps n) (qRB l k) k S) 1 c (mK E fn.results.toList)
abbrev aG:=List (FuncId×Spec)
abbrev pU:=List (FuncId×(Mode×Spec))
def qJ2(tab:aG)(f:FuncId)(C:Cx)(ys:List Y):Option Spec:=match tab with
 | []=>none
 |(g,S)::r=>bif Nat.beq g f&&(gS C ys S.ss&&S.pre.all (qQP C ys))then some S else qJ2 r f C ys
theorem qLF{tab:aG}{f:FuncId}{C:Cx}{ys:List Y}{S:Spec}(h:qJ2 tab f C ys=some S):(f,S)∈tab:=by
 induction tab with
 |nil=>cases h
 |cons p r x=>
  obtain⟨g,S'⟩:=p;simp only[qJ2]at h;cases y:(Nat.beq g f&&(gS C ys S'.ss&&S'.pre.all (qQP C ys)))with
  |true=>simp_all
  |false=>rw[y]at h;exact mC _ (x h)
def qXz:Value->Value->Bool
 |.int k a,.int k' b=>decide (k=k')&&decide (a=b)
 |.bool a,.bool b=>bif a then b else !b
 |.slice none a b,.slice none c d=>Nat.beq a c&&Nat.beq b d
 |.pointer none,.pointer none=>true
 |.map none,.map none=>true
 |.nilFunc,.nilFunc=>true
 |_,_=>false
theorem qSJ{a b:Value}(h:qXz a b=true):a=b:=by
 unfold qXz at h;split at h
 ·grind
 ·grind
 ·simp_all
 ·rfl
 ·rfl
 ·rfl
 cases h
def zDf:Fn->Fn->Bool
 |.func a,.func b=>Nat.beq a b
 |_,_=>false
theorem qW9{a b:Fn}(h:zDf a b=true):a=b:=by
 unfold zDf at h;split at h
 ·rw[vP h]
 cases h
mutual
def qNX:SV->SV->Bool
 |.v i,.v j=>Nat.beq i j
 |.c x,.c y=>qXz x y
 |.loc a b,.loc c d=>Nat.beq a c&&Nat.beq b d
 |.pp a b,.pp c d=>Nat.beq a c&&Nat.beq b d
 |.agg l,.agg m=>qF6 l m
 |.tup l,.tup m=>qF6 l m
 |.fn f a c,.fn g b d=>zDf f g&&(qF6 a b&&qF6 c d)
 |_,_=>false
def qF6:List SV->List SV->Bool
 | [],[]=>true
 |a::l,b::m=>qNX a b&&qF6 l m
 |_,_=>false
end
mutual
theorem qH6:∀{a b:SV},qNX a b=true->a=b
 |.v i,b,h=>by cases b<;>simp only[qNX]at h<;>first|(cases h;done)|rw[vP h]
 |.c x,b,h=>by cases b<;>simp only[qNX]at h<;>first|(cases h;done)|rw[qSJ h]
 |.loc x y,b,h=>by
  cases b<;>simp only[qNX]at h<;>first|(cases h;done)|skip
  simp_all
 |.pp x y,b,h=>by
  cases b<;>simp only[qNX]at h<;>first|(cases h;done)|skip
  simp_all
 |.agg l,b,h=>by cases b<;>simp only[qNX]at h<;>first|(cases h;done)|rw[eW h]
 |.tup l,b,h=>by cases b<;>simp only[qNX]at h<;>first|(cases h;done)|rw[eW h]
 |.fn f a c,b,h=>by
  cases b<;>simp only[qNX]at h<;>first|(cases h;done)|skip
  simp only[zR]at h;rw[qW9 h.1,eW h.2.1,eW h.2.2]
 |.ptr _ _ _ _,b,h=>by cases b<;>cases h
 |.ifc _ _,b,h=>by cases b<;>cases h
 |.yld _,b,h=>by cases b<;>cases h
theorem eW:∀{a b:List SV},qF6 a b=true->a=b
 | [],[],_=>rfl
 | [],_::_,h=>by cases h
 |_::_,[],h=>by cases h
 |a::l,b::m,h=>by simp only[qF6,zR]at h;rw[qH6 h.1,eW h.2]
end
def lB{α:Type}(f:α->α->Bool):List α->List α->Bool
 | [],[]=>true
 |a::l,b::m=>f a b&&lB f l m
 |_,_=>false
theorem qEd{α:Type}{f:α->α->Bool}(x:∀{a b},f a b=true->a=b):∀{a b:List α},lB f a b=true->a=b
 | [],[],_=>rfl
 | [],_::_,h=>by cases h
 |_::_,[],h=>by cases h
 |a::l,b::m,h=>by simp only[lB,zR]at h;rw[x h.1,qEd x h.2]
def zEi:VK->VK->Bool
 |.pure,.pure=>true
 |.full,.full=>true
 |.fresh,.fresh=>true
 |.dead,.dead=>true
 |.ptr,.ptr=>true
 |_,_=>false
theorem qVn{a b:VK}(h:zEi a b=true):a=b:=by cases a<;>cases b<;>first|rfl|(cases h;done)
def zBL(a b:VSt):Bool:=zEi a.k b.k&&(bif a.one then b.one else !b.one)
theorem qVk{a b:VSt}(h:zBL a b=true):a=b:=by obtain⟨k,o⟩:=a;obtain⟨k',x⟩:=b;simp only[zBL,zR]at h;rw[qVn h.1];grind
def zD7:Option Blk->Option Blk->Bool
 |none,none=>true
 |some (.cells l),some (.cells m)=>qF6 l m
 |some (.whole x n),some (.whole y k)=>qNX x y&&Nat.beq n k
 |_,_=>false
theorem qXQ{a b:Option Blk}(h:zD7 a b=true):a=b:=by
 unfold zD7 at h;split at h
 ·rfl
 ·rw[eW h]
 ·rw[zR]at h;rw[qH6 h.1,vP h.2]
 cases h
def zBm(a b:Nat×SV):Bool:=Nat.beq a.1 b.1&&qNX a.2 b.2
theorem qN5{a b:Nat×SV}(h:zBm a b=true):a=b:=by obtain⟨n,x⟩:=a;obtain⟨m,y⟩:=b;simp only[zBm,zR]at h;rw[vP h.1,qH6 h.2]
def qRC(a b:Pat):Bool:=lB zBL a.sts b.sts&&(lB zBm a.slots b.slots&&(lB zD7 a.blks b.blks&&lB (lB zBm) a.sav b.sav))
theorem qJU{a b:Pat}(h:qRC a b=true):a=b:=by obtain⟨a1,a2,a3,a4⟩:=a;obtain⟨e,c,y,x⟩:=b;simp only[qRC,zR]at h;rw[qEd qVk h.1,qEd qN5 h.2.1,qEd qXQ h.2.2.1,qEd (λh=>qEd qN5 h) h.2.2.2]
def qJ0(a b:Mode):Bool:=qRC a.inp b.inp&&(Nat.beq a.n b.n&&qRC a.out b.out)
theorem qOS{a b:Mode}(h:qJ0 a b=true):a=b:=by obtain⟨a1,a2,a3⟩:=a;obtain⟨c,y,x⟩:=b;simp only[qJ0,zR]at h;rw[qJU h.1,vP h.2.1,qJU h.2.2]
def qJ3(tab:pU)(f:FuncId)(m:Mode)(C:Cx)(ys:List Y):Option Spec:=match tab with
 | []=>none
 |(g,m',S)::r=>bif Nat.beq g f&&(qJ0 m m'&&(gS C ys S.ss&&S.pre.all (qQP C ys)))then some S else qJ3 r f m C ys
theorem qLG{tab:pU}{f:FuncId}{m:Mode}{C:Cx}{ys:List Y}{S:Spec}(h:qJ3 tab f m C ys=some S):(f,m,S)∈tab:=by
 induction tab with
 |nil=>cases h
 |cons p r y=>
  obtain⟨g,m',S'⟩:=p;simp only[qJ3]at h;cases x:(Nat.beq g f&&(qJ0 m m'&&(gS C ys S'.ss&&S'.pre.all (qQP C ys))))with
  |true=>rw[x]at h;cases h;simp only[zR]at x;have c:=vP x.1;have b:=qOS x.2.1;grind
  |false=>rw[x]at h;exact mC _ (y h)
def zE4(T:Tb)(tab:aG)(h:pU)(S:Spec)(x:List (Nat×Hd)):Fx:=⟨T,qJ2 tab,qJ3 h,S,gB x⟩
def qSz(T:Tb)(tab:aG)(h:pU)(S:Spec)(y:List (Nat×Hd))(b:List Ms)(ts:List (Nat×Tree)):Bool:=
 qKB ts&&(match qMy S with
  |(C,x)=>ck (zE4 T tab h S y) x x b (qEP ts 0) x C&&tS (zE4 T tab h S y) C x ts b.length y)
theorem qKv{E:Env}{HS:FuncId->List D->D->Prop}{T:Tb}(u:TbOk E T){tab:aG}{y:pU}(b:∀p∈tab,xZ HS p.1 p.2)(w:∀p∈y,tY HS p.1 p.2.1 p.2.2){S:Spec}{hs:List (Nat×Hd)}{rm:List Ms}{ts:List (Nat×Tree)}(h:qSz T tab y S hs rm ts=true):(∀x∈ts,qEP ts x.1=x.2)/\∀ds,qU S.ss ds->(∀q∈S.pre,qAS ds q)->∃e,qU S.rs e/\(∀q∈S.post,qAS (ds++e) q)/\qE E HS (qEP ts) 0 ds (gZ e):=by
 unfold qSz at h;rw[zR]at h;obtain⟨z,c⟩:=h;have hd:=qQe z;split at c;rename_i C o l;rw[zR]at c;have k:C=(qMy S).1:=by rw[l]
 have j:o=(qMy S).2:=by rw[l]
 subst k j;refine⟨λx r=>by unfold qEP;rw[hd x r];rfl,λds i t=>?_⟩;exact qSj u (λf C ys S g=>b (f,S) (qLF g)) (λf m C ys S g=>w (f,m,S) (qLG g)) c.1 c.2 i t
theorem qRt{P : Program}(h : sK P = true){fn : Func}{c : Code}(x : fn ∈ P.funcs.toList)(y : fn.body = some c): (fn.name == "runtime.NumGoroutine" || !vB c) = false := by unfold sK at h;grind
def qIo:List Func->Nat->Option Func
 | [],_=>none
 |f::_,0=>some f
 |_::r,n+1=>qIo r n
theorem qFj:∀{l:List Func} {n:Nat},qIo l n=l[n]?
 | [],n=>by simp[qIo]
 |f::_,0=>by simp[qIo]
 |_::r,n+1=>by simp[qIo,qFj (l:=r)]
def qSA(E:Env)(P:Program)(T:Tb)(tab:aG)(h:pU)(e:En):Bool:=Nat.blt e.f cQ&&(match qIo P.funcs.toList e.f with
 |some fn=>(match fn.body with
  |some c=>qSz T tab h e.S e.hs e.rm (qQZ E fn c e.pats e.S.ss.length)
  |none=>false)
 |none=>false)
def qDm(E:Env)(P:Program):Prop:=∀(f:FuncId) (fn:Func) (c:Code),P.funcs.toList[f]? = some fn->fn.body=some c->E.funcs.get f=some fn
theorem bK{P:Program}(y:sK P=true):qDm (pP P) P:=λ_ _ _ h x=>yE (by simpa using h) x (qRt y (List.mem_of_getElem? h) x)
section
variable{E:Env}{P:Program}
theorem qKw(he:EOk E)(A:qDm E P){T:Tb}(G:TbOk E T){tab:aG}{y:pU}(g:∀p∈tab,xZ (Holds E) p.1 p.2)(H:∀p∈y,tY (Holds E) p.1 p.2.1 p.2.2){e:En}(h:qSA E P T tab y e=true):xZ (Holds E) e.f e.S:=by
 unfold qSA at h;rw[zR]at h;obtain⟨I,l⟩:=h;split at l
 ·rename_i fn j;rw[qFj]at j;split at l
  ·rename_i c q;have i:E.funcs.get e.f=some fn:=A e.f fn c j q;obtain⟨b,o⟩:=qKv G g H l;intro ds k B;obtain⟨r,w,u,t⟩:=o ds k B;refine⟨r,w,u,?_⟩;have F:ds.length=e.S.ss.length:=bJ k;exact qGO he i q (pats:=qRB e.pats) F (b _ List.mem_cons_self).symm (λx z=>b x (mC _ z)) t (oK I)
  cases l
 cases l
structure EnM where
 f:FuncId
 m:Mode
 pats:List (Nat×Pat)
 S:Spec
 hs:List (Nat×Hd)
 rm:List Ms
def qOr(m:Mode)(l:List (Nat×Pat))(k:Nat):Pat:=(gB l k).getD m.inp
def qVF(E:Env)(fn:Func)(c:Code)(m:Mode)(l:List (Nat×Pat)):List (Nat×Tree):=
 (0,qGd E (λk S=>jI (Nat.max fn.ntmps m.n) (qOr m l k) k S) fn m)::xB E (λk=>(qOr m l k).st (Nat.max fn.ntmps m.n)) (λk S=>jI (Nat.max fn.ntmps m.n) (qOr m l k) k S) 1 c (qHc E m fn.results.toList)
def qWJ(E:Env)(P:Program)(T:Tb)(tab:aG)(h:pU)(e:EnM):Bool:=e.pats.all (λp=>Nat.ble e.m.inp.blks.length p.2.blks.length)&&(Nat.beq e.S.rs.length e.m.out.sts.length&&(match qIo P.funcs.toList e.f with
 |some fn=>qIs e.m fn.results.toList.length&&(match fn.body with
  |some c=>qSz T tab h e.S e.hs e.rm (qVF E fn c e.m e.pats)
  |none=>false)
 |none=>false))
theorem qR0(he:EOk E)(B:qDm E P){T:Tb}(J:TbOk E T){tab:aG}{y:pU}(i:∀p∈tab,xZ (Holds E) p.1 p.2)(K:∀p∈y,tY (Holds E) p.1 p.2.1 p.2.2){e:EnM}(h:qWJ E P T tab y e=true):tY (Holds E) e.f e.m e.S:=by
 unfold qWJ at h;simp only[zR]at h;obtain⟨M,L,b⟩:=h;split at b
 ·rename_i fn l;rw[qFj]at l;rw[zR]at b;obtain⟨G,b⟩:=b;split at b
  ·rename_i c u;have j:E.funcs.get e.f=some fn:=B e.f fn c l u;obtain⟨g,q⟩:=qKv J i K b;intro ds r F;obtain⟨o,t,z,w⟩:=q ds r F;refine⟨o,t,z,?_⟩;have H:o.length=e.S.rs.length:=bJ t;refine uY he j u (pats:=qOr e.m e.pats) G (λk=>?_) (g _ List.mem_cons_self).symm (λx A=>g x (mC _ A)) w ⟨o,rfl,by rw[H];exact vP L⟩;unfold qOr;cases I:gB e.pats k with
   |none=>exact vE _
   |some p=>exact oK (List.all_eq_true.1 M _ (rR I))
  cases b
 cases b
inductive It where
 |fn (e:En)
 |md (e:EnM)
def oJ(E:Env)(P:Program)(T:Tb):aG->pU->List It->Bool
 |_,_,[]=>true
 |tab,h,.fn e::r=>qSA E P T tab h e&&oJ E P T ((e.f,e.S)::tab) h r
 |tab,h,.md e::r=>qWJ E P T tab h e&&oJ E P T tab ((e.f,e.m,e.S)::h) r
def gO:aG->List It->aG
 |tab,[]=>tab
 |tab,.fn e::r=>gO ((e.f,e.S)::tab) r
 |tab,.md _::r=>gO tab r
def lF:pU->List It->pU
 |h,[]=>h
 |h,.fn _::r=>lF h r
 |h,.md e::r=>lF ((e.f,e.m,e.S)::h) r
theorem bP(he:EOk E)(g:qDm E P){T:Tb}(i:TbOk E T):∀{l:List It} {tab:aG} {x:pU},(∀p∈tab,xZ (Holds E) p.1 p.2)->(∀p∈x,tY (Holds E) p.1 p.2.1 p.2.2)->oJ E P T tab x l=true->
  (∀p∈gO tab l,xZ (Holds E) p.1 p.2)/\∀p∈lF x l,tY (Holds E) p.1 p.2.1 p.2.2
 | [],tab,x,c,b,_=>⟨c,b⟩
 |.fn e::r,tab,x,c,b,h=>by
  rw[oJ,zR]at h
  refine bP he g i (l:=r) (λp y=>?_) b h.2
  rcases List.mem_cons.1 y with rfl|y
  ·exact qKw he g i c b h.1
  exact c p y
 |.md e::r,tab,x,c,b,h=>by
  rw[oJ,zR]at h
  refine bP he g i (l:=r) c (λp y=>?_) h.2
  rcases List.mem_cons.1 y with rfl|y
  ·exact qR0 he g i c b h.1
  exact b p y
def qDi(E:Env)(P:Program)(T:Tb):List (FuncId×Spec)->List En->Bool
 |_,[]=>true
 |tab,e::r=>qSA E P T tab [] e&&qDi E P T ((e.f,e.S)::tab) r
def aV:List (FuncId×Spec)->List En->List (FuncId×Spec)
 |tab,[]=>tab
 |tab,e::r=>aV ((e.f,e.S)::tab) r
theorem qEG(he:EOk E)(y:qDm E P){T:Tb}(b:TbOk E T):∀{l:List En} {tab:List (FuncId×Spec)},(∀p∈tab,xZ (Holds E) p.1 p.2)->qDi E P T tab l=true->∀p∈aV tab l,xZ (Holds E) p.1 p.2
 | [],tab,ht,_=>ht
 | e::r,tab,ht,h=>by
  rw[qDi,zR]at h;have c:∀p∈(e.f,e.S)::tab,xZ (Holds E) p.1 p.2:=by
   intro p x;rcases List.mem_cons.1 x with rfl|x
   ·exact qKw he y b ht (λ_ h=>by cases h) h.1
   exact ht p x
  show∀p∈aV ((e.f,e.S)::tab) r,xZ (Holds E) p.1 p.2;exact qEG he y b c h.2
end
theorem qDh{P:Program}(b:cM P=true)(y:sK P=true){T:Tb}(c:TbOk (pP P) T){l:List En}{tab:List (FuncId×Spec)}(x:∀p∈tab,xZ (Holds (pP P)) p.1 p.2)(h:qDi (pP P) P T tab l=true):∀p∈aV tab l,xZ (Holds (pP P)) p.1 p.2:=
 qEG (qIZ b) (bK y) c x h
def zBz:List (TypeId×TypeId×IntKind×IntKind)->TypeId->TypeId->IntKind->Option IntKind
 | [],_,_,_=>none
 |(a,b,k,k')::r,s,d,q=>bif Nat.beq a s&&Nat.beq b d&&decide (k=q)then some k' else zBz r s d q
def qZE:List (Bool×TypeId×Int)->Bool->TypeId->Int->Bool
 | [],_,_,_=>false
 |(m,t,c)::r,m',h,x=>(bif (bif m then m' else !m')&&Nat.beq t h&&decide (c=x)then true else qZE r m' h x)
def qOu(x:List (TypeId×TypeId×IntKind×IntKind))(h:List (Bool×TypeId×Int))(o:TOp)(ys:List Y):Option IntKind:=match o,ys with
 |.conv s d,[.int k _ _]=>zBz x s d k
 |.bin .quo t _ _,[.int .i64 _ _,.int .i64 v c]=>bif Nat.beq v 0&&qZE h false t c then some .i64 else none
 |.bin .rem t _ _,[.int .i64 _ _,.int .i64 v c]=>bif Nat.beq v 0&&qZE h true t c then some .i64 else none
 |_,_=>none
def qJs(E:Env)(x:TypeId×TypeId×IntKind×IntKind):Prop:=∀m:Int,∃n:Int,TOp.eval E (.conv x.1 x.2.1) [.leaf (.int x.2.2.1 m)]=some (.leaf (.int x.2.2.2 n))
def qJo(E:Env)(x:Bool×TypeId×Int):Prop:=∀(m:Int) (o p:Operand),∃n:Int,TOp.eval E (.bin (bif x.1 then .rem else .quo) x.2.1 o p) [dI m,dI x.2.2]=some (dI n)
def qFP(E:Env)(x:Nat×(Nat×List Sn)):Prop:=(fU E.prog x.2.1 x.1,lQ E.prog x.1,Nat.ble x.2.1 10000,E.prog.eqGuardType E.prog.depth x.1,(Sn.shs x.2.2).all qEo,Sn.lows x.2.2)=(some (Sn.shs x.2.2),true,true,false,true,true)
theorem qQj:∀{l:List (TypeId×TypeId×IntKind×IntKind)} {s d:TypeId} {q k:IntKind},zBz l s d q=some k->(s,d,q,k)∈l
 | [],_,_,_,_,h=>by cases h
 |(a,b,k,k')::r,s,d,q,z,h=>by
  simp only[zBz]at h;cases x:(Nat.beq a s&&Nat.beq b d&&decide (k=q))with
  |true=>simp_all
  |false=>rw[x]at h;exact mC _ (qQj h)
theorem qIj:∀{l:List (Bool×TypeId×Int)} {m:Bool} {t:TypeId} {c:Int},qZE l m t c=true->(m,t,c)∈l
 | [],_,_,_,h=>by cases h
 |(a,b,e)::r,m,t,c,h=>by
  simp only[qZE]at h;cases x:((bif a then m else !m)&&Nat.beq b t&&decide (e=c))with
  |true=>simp only[zR]at x;have y:=vP x.1.2;grind
  |false=>rw[x]at h;exact mC _ (qIj h)
def qX7(sh:List (Nat×Sn))(x:List (TypeId×TypeId×IntKind×IntKind))(h:List (Bool×TypeId×Int))(st:List (Nat×(Nat×List Sn)))(mp:List (Nat×(Option IntKind×Sn))):Tb:=⟨gB sh,qOu x h,gB st,gB mp⟩
def qZp(sh:List (Nat×Sn))(x:List (TypeId×TypeId×IntKind×IntKind))(h:List (Bool×TypeId×Int))(st:List (Nat×(Nat×List Sn))):Tb:=qX7 sh x h st []
theorem qZ8{σ:Wd}{C:Cx}(x:COk σ C){k:IntKind}{v:Nat}{c:Int}{d:D}(hv:Nat.beq v 0=true)(h:qK σ (.int k v c) d):d=.leaf (.int k c):=by have hv:=vP hv;subst hv;obtain⟨z,y⟩:=x.s.z;simp only[qK]at h;grind
theorem qBB{E:Env}{sh:List (Nat×Sn)}{c:List (TypeId×TypeId×IntKind×IntKind)}{b:List (Bool×TypeId×Int)}{st:List (Nat×(Nat×List Sn))}{mp:List (Nat×(Option IntKind×Sn))}(p:∀x∈c,qJs E x)(i:∀x∈b,qJo E x)(l:∀x∈st,qFP E x)(j:mp.all (λx=>qWD E x.1 x.2.1 x.2.2)=true):TbOk E (qX7 sh c b st mp) where
 m:=λt k e h=>List.all_eq_true.1 j (t,k,e) (rR h)
 o:=by
  intro o ys k h σ C ds g hd
  have h:qOu c b o ys=some k:=h
  unfold qOu at h
  split at h
  ·simp only[qG]at hd
   obtain⟨d,_,rfl,hd,rfl⟩:=hd
   simp only[qK]at hd
   obtain⟨x,_,rfl⟩:=hd
   exact p _ (qQj h) _
  ·simp only[qG]at hd
   obtain⟨d,_,rfl,hd,e,_,rfl,he,rfl⟩:=hd
   obtain⟨y,h⟩:=qX h
   cases h
   rw[zR]at y
   rw[qZ8 g y.1 he]
   simp only[qK]at hd
   obtain⟨x,_,rfl⟩:=hd
   exact i _ (qIj y.2) _ _ _
  ·simp only[qG]at hd
   obtain⟨d,_,rfl,hd,e,_,rfl,he,rfl⟩:=hd
   obtain⟨y,h⟩:=qX h
   cases h
   rw[zR]at y
   rw[qZ8 g y.1 he]
   simp only[qK]at hd
   obtain⟨x,_,rfl⟩:=hd
   exact i _ (qIj y.2) _ _ _
  cases h
 s:=by
  intro t k ss h
  have:=l _ (rR h)
  unfold qFP at this
  simp_all
theorem qZo{E:Env}{sh:List (Nat×Sn)}{y:List (TypeId×TypeId×IntKind×IntKind)}{h:List (Bool×TypeId×Int)}{st:List (Nat×(Nat×List Sn))}(e:∀x∈y,qJs E x)(c:∀x∈h,qJo E x)(b:∀x∈st,qFP E x):TbOk E (qZp sh y h st):=qBB e c b rfl
theorem eL{α:Type}{P:α->Prop}:∀x∈([]:List α),P x:=λ_ h=>by cases h
theorem oM{α:Type}{P:α->Prop}{a:α}{r:List α}(h:P a)(y:∀x∈r,P x):∀x∈a::r,P x:=by grind
mutual
def Sn.big:Sn->Bool
 |.int _=>true
 |.bool=>true
 |.str n=>Nat.beq n 300000000
 |.st fs=>Sn.bigs fs
 |.sl _ _ n e=>Nat.beq n 300000000&&Sn.big e
 |_=>false
def Sn.bigs:List Sn->Bool
 | []=>true
 |s::r=>Sn.big s&&Sn.bigs r
end
mutual
theorem oZ:∀{s:Sn} {d:D},Sn.big s=true->qC 300000000 s.sh d->qM s d
 |.int k,d,_,h=>by simp only[Sn.sh,qC]at h;simp only[qM];exact h
 |.bool,d,_,h=>by simp only[Sn.sh,qC]at h;simp only[qM];exact h
 |.str n,d,y,h=>by have:=vP y;subst this;simp only[Sn.sh,qC]at h;simp only[qM];exact h
 |.st fs,d,y,h=>by simp only[Sn.sh,qC]at h;simp only[qM];obtain⟨cs,hd,h⟩:=h;exact⟨cs,hd,tB y h⟩
 |.sl el sz n e,d,y,h=>by
  simp only[Sn.big,zR]at y;have:=vP y.1;subst this;simp only[Sn.sh,qC]at h;simp only[qM];rcases h with h|⟨es,hd,hn,c⟩
  ·exact .inl h
  exact .inr ⟨es,hd,hn,λx b=>oZ y.2 (c x b)⟩
 |.any,d,y,h=>by cases y
 |.ptr _,d,y,h=>by cases y
 |.clo _ _ _,d,y,h=>by cases y
 |.mp _ _,d,y,h=>by cases y
 |.wh _ _,d,y,h=>by cases y
theorem tB:∀{ss:List Sn} {ds:List D},Sn.bigs ss=true->j4 300000000 (Sn.shs ss) ds->qU ss ds
 | [],ds,_,h=>by simp only[Sn.shs,j4]at h;simp only[qU];exact h
 |s::r,ds,x,h=>by simp only[Sn.bigs,zR]at x;simp only[Sn.shs,j4]at h;simp only[qU];obtain⟨d,y,hd,c,b⟩:=h;exact⟨d,y,hd,oZ x.1 c,tB x.2 b⟩
end
mutual
def Sn.least(B:Nat):Sn->Bool
 |.int _=>true
 |.bool=>true
 |.str n=>Nat.ble B n
 |.st fs=>Sn.leasts B fs
 |.sl _ _ n e=>Nat.ble B n&&Sn.least B e
 |_=>false
def Sn.leasts(B:Nat):List Sn->Bool
 | []=>true
 |s::r=>Sn.least B s&&Sn.leasts B r
end
mutual
theorem vY{B:Nat}:∀{s:Sn} {d:D},Sn.least B s=true->qC B s.sh d->qM s d
 |.int k,d,_,h=>by simp only[Sn.sh,qC]at h;simp only[qM];exact h
 |.bool,d,_,h=>by simp only[Sn.sh,qC]at h;simp only[qM];exact h
 |.str n,d,y,h=>by have:=oK y;simp only[Sn.sh,qC]at h;simp only[qM];grind
 |.st fs,d,y,h=>by simp only[Sn.sh,qC]at h;simp only[qM];obtain⟨cs,hd,h⟩:=h;exact⟨cs,hd,yY y h⟩
 |.sl el sz n e,d,y,h=>by
  simp only[Sn.least,zR]at y;have:=oK y.1;simp only[Sn.sh,qC]at h;simp only[qM];rcases h with h|⟨es,hd,hn,c⟩
  ·exact .inl h
  exact .inr ⟨es,hd,lT hn this,λx b=>vY y.2 (c x b)⟩
 |.any,d,y,h=>by cases y
 |.ptr _,d,y,h=>by cases y
 |.clo _ _ _,d,y,h=>by cases y
 |.mp _ _,d,y,h=>by cases y
 |.wh _ _,d,y,h=>by cases y
theorem yY{B:Nat}:∀{ss:List Sn} {ds:List D},Sn.leasts B ss=true->j4 B (Sn.shs ss) ds->qU ss ds
 | [],ds,_,h=>by simp only[Sn.shs,j4]at h;simp only[qU];exact h
 |s::r,ds,x,h=>by simp only[Sn.leasts,zR]at x;simp only[Sn.shs,j4]at h;simp only[qU];obtain⟨d,y,hd,c,b⟩:=h;exact⟨d,y,hd,vY x.1 c,yY x.2 b⟩
end
theorem sA{E:Env}{x:Nat×(Nat×List Sn)}(h:(fU E.prog x.2.1 x.1,lQ E.prog x.1,Nat.ble x.2.1 10000,E.prog.eqGuardType E.prog.depth x.1,(Sn.shs x.2.2).all qEo,Sn.lows x.2.2)=(some (Sn.shs x.2.2),true,true,false,true,true)):qFP E x:=h
section
variable{HS:FuncId->List D->D->Prop}
theorem k9{tab:List (FuncId×Spec)}(h:∀p∈tab,xZ HS p.1 p.2){f:FuncId}{S:Spec}(x:gB tab f=some S):xZ HS f S:=h (f,S) (rR x)
theorem qZz{f:FuncId}{S:Spec}{r:Sn}(h:xZ HS f S)(y:S.rs=[r])(c:S.pre=[])(g:Sn.bigs S.ss=true)(e:Sn.low r=true){ds:List D}(hd:j4 300000000 (Sn.shs S.ss) ds):∃d,qC 300000000 r.sh d/\HS f ds d:=by obtain⟨k,x,_,j⟩:=h ds (tB g hd) (by rw[c];intro q b;cases b);rw[y]at x;simp only[qU]at x;obtain⟨d,_,rfl,i,rfl⟩:=x;exact⟨d,kW e i,j⟩
end
end Go.Am.Tt
