/- Data checked symbolically: the arguments of a step. Conditions: none. -/
import Derived.Test.YtminhjecpnpaeaaGreatDoorTt
import Derived.Test.YtminhjecpnpaeaaGreatDoorAm7
set_option linter.unusedVariables false
set_option linter.unusedSimpArgs false
namespace Go.Am.Tt
open Go Go.Am
def Grow(σ:Wd)(r:Cx×Y)(d:D):Prop:=∃τ,COk (σ++τ) r.1/\qL (σ++τ) r.2 d
def qPO(σ:Wd)(r:Cx×List Y)(ds:List D):Prop:=∃τ,COk (σ++τ) r.1/\qF (σ++τ) r.2 ds
theorem Grow.here{σ:Wd}{C:Cx}{y:Y}{d:D}(x:COk σ C)(h:qL σ y d):Grow σ (C,y) d:=⟨[],kR x,by rw[List.append_nil];exact h⟩
theorem Grow.st{σ:Wd}{r:Cx×List Y}{ds:List D}(h:qPO σ r ds):Grow σ (r.1,.st r.2) (.agg ds):=by obtain⟨τ,y,x⟩:=h;exact⟨τ,y,by simp only[qL];exact⟨ds,rfl,x⟩⟩
def qNn{α:Type}(f:Cx->α->Option (Cx×Y)):Cx->List α->Option (Cx×List Y)
 |C,[]=>some (C,[])
 | C,x::r=>match f C x with
  |some (b,y)=>(match qNn f b r with
   |some (h,ys)=>some (h,y::ys)
   |none=>none)
  |none=>none
theorem qJV{α:Type}{f:Cx->α->Option (Cx×Y)}{g:α->D}{P:Wd->Prop}(k:∀{σ τ},P σ->P (σ++τ)):
  ∀(l:List α),(∀x∈l,∀{σ C r},P σ->COk σ C->f C x=some r->Grow σ r (g x))->∀{σ C r},P σ->COk σ C->qNn f C l=some r->qPO σ r (l.map g)
 | [],_,σ,C,r,_,e,h=>by
  simp only[qNn]at h;cases h
  exact⟨[],kR e,by simp only[List.map_nil,qF]⟩
 | x::l,j,σ,C,r,i,e,h=>by
  simp only[qNn]at h
  split at h
  ·rename_i A y p
   split at h
   ·rename_i w ys c
    cases h
    obtain⟨τ,t,q⟩:=j x List.mem_cons_self i e p
    obtain⟨b,h3,u⟩:=qJV k l (λz o=>j z (mC _ o)) (k i) t c
    refine⟨τ++b,by rw[←List.append_assoc];exact h3,?_⟩
    simp only[List.map_cons,qF]
    refine⟨_,_,rfl,?_,?_⟩
    ·rw[←List.append_assoc];exact nZ q
    grind
   cases h
  cases h
def qRX(C:Cx):Value->Option (Cx×Y)
 |.int k n=>some (C,.int k 0 n)
 |.bool b=>some (C,.bool (bif b then[]else[qFM]) (bif b then[qFM]else[]))
 |.slice none _ _=>some (C,.nil)
 |.string s=>some (C.add [(C.nx,0,(s.size:Int)),(0,C.nx,-(s.size:Int))] [(C.nx,s.size)] [] 1,.str C.nx s.size)
 |_=>none
def qRV:Nat->Cx->Value->Option (Cx×Y)
 |0,C,v=>qRX C v
 | n+1,C,v=>match v with
  |.agg cs=>(match qNn (qRV n) C cs.toList with
   |some (h,ys)=>some (h,.st ys)
   |none=>none)
  |v=>qRX C v
theorem qK2{σ:Wd}{C:Cx}(y:COk σ C){v:Value}{r:Cx×Y}(h:qRX C v=some r)(n:Nat):Grow σ r (qAa n v):=by
 obtain⟨z,c⟩:=y.s.z;unfold qRX at h;split at h
 ·cases h;have:∀n (k:IntKind) (x:Int),qAa n (.int k x)=.leaf (.int k x):=λn k x=>by cases n<;>rfl
  rw[this];refine .here y ?_;simp only[qL];exact⟨_,c,by simp⟩
 ·rename_i b;cases h;have:∀n (b:Bool),qAa n (.bool b)=.leaf (.bool b):=λn b=>by cases n<;>rfl
  rw[this];refine .here y ?_;simp only[qL];simp_all
 ·cases h;have:∀n (a b:Nat),qAa n (.slice none a b)=.nil:=λn a b=>by cases n<;>rfl
  rw[this];refine .here y ?_;simp only[qL]
 ·rename_i s;cases h;have:∀n (s:ByteArray),qAa n (.string s)=.leaf (.string s):=λn s=>by cases n<;>rfl
  rw[this];refine⟨[((s.size:Int),.nil)],y.ext (f2 ⟨_,_,get_new y _,zI c,by simp only;omega⟩ ⟨_,_,zI c,get_new y _,by simp only;omega⟩) (λq e=>?_) (by simp) rfl,?_⟩
  ·rw[List.mem_singleton]at e;subst e;exact⟨_,get_new y _,by simp,by simp⟩
  simp only[qL];exact⟨s,_,rfl,get_new y _,rfl,lR _⟩
 cases h
theorem qK1:∀(n:Nat) {σ:Wd} {C:Cx} {v:Value} {r:Cx×Y},COk σ C->qRV n C v=some r->Grow σ r (qAa n v)
 |0,σ,C,v,r,y,h=>qK2 y h 0
 | n+1,σ,C,v,r,y,h=>by
  simp only[qRV]at h;split at h
  ·rename_i cs;split at h
   ·rename_i e ys c;cases h;have:=qJV (g:=qAa n) (P:=λ_=>True) (λh=>h) cs.toList (λx _ {σ C r} _ y b=>qK1 n y b) trivial y c;exact Grow.st this
   cases h
  exact qK2 y h _
mutual
def qBe(h:List Y):Cx->SV->Option (Cx×Y)
 |C,.v i=>match h[i]? with
  |some y=>some (C,y)
  |none=>none
 |C,.c v=>qRV 6 C v
 |C,.agg cs=>match dA h C cs with
  |some (e,ys)=>some (e,.st ys)
  |none=>none
 | C,.fn f a b=>match f with
  | .func f=>match dA h C a with
   |some (c,az)=>match dA h c b with
    |some (x,cs)=>some (x,.clo f az cs)
    |none=>none
   |none=>none
  |_=>none
 |C,.pp i off=>match h[i]? with
  |some (.ptr cs o)=>some (C,.ptr cs (o+off))
  |_=>none
 |C,.tup _=>some (C,.any)
 |_,_=>none
def dA(h:List Y):Cx->List SV->Option (Cx×List Y)
 |C,[]=>some (C,[])
 | C,x::r=>match qBe h C x with
  |some (c,y)=>(match dA h c r with
   |some (b,ys)=>some (b,y::ys)
   |none=>none)
  |none=>none
end
mutual
theorem qLd{env:List Y}{ρ:List D}:∀{x:SV} {σ:Wd} {C:Cx} {r:Cx×Y},COk σ C->qF σ env ρ->qBe env C x=some r->Grow σ r (x.d (getD ρ))
 |.v i,σ,C,r,c,he,h=>by
  simp only[qBe]at h;split at h
  ·rename_i y k;cases h;obtain⟨d,g,e⟩:=gO he k;simp only[SV.d,getD_some g];exact .here c e
  cases h
 |.c v,σ,C,r,c,he,h=>by simp only[qBe]at h;simp only[SV.d];exact qK1 6 c h
 |.agg cs,σ,C,r,c,he,h=>by
  simp only[qBe]at h;split at h
  ·rename_i z ys l;cases h;simp only[SV.d];exact Grow.st (oX c he l)
  cases h
 | .fn f a b,σ,C,r,c,he,h=>by
  simp only[qBe]at h;split at h
  ·split at h
   ·rename_i w az q;split at h
    ·rename_i u cs p;cases h;obtain⟨τ,g,e⟩:=oX c he q;obtain⟨j,h3,t⟩:=oX g (zA he) p;refine⟨τ++j,by rw[←List.append_assoc];exact h3,?_⟩;simp only[SV.d,qL];refine⟨_,_,rfl,?_,?_⟩
     ·rw[←List.append_assoc];exact zA e
     grind
    cases h
   cases h
  cases h
 |.pp i off,σ,C,r,c,he,h=>by
  simp only[qBe]at h;split at h
  ·rename_i cs o k;cases h;obtain⟨d,g,e⟩:=gO he k;refine .here c ?_;simp only[qL]at e ⊢;obtain⟨ds,rfl,e⟩:=e;simp only[SV.d,getD_some g];exact⟨ds,rfl,e⟩
  cases h
 |.loc _ _,_,_,_,_,_,h=>by simp only[qBe]at h;cases h
 |.ptr _ _ _ _,_,_,_,_,_,h=>by simp only[qBe]at h;cases h
 |.tup _,σ,C,r,c,he,h=>by simp only[qBe]at h;cases h;exact .here c (by simp only[qL])
 |.ifc _ _,_,_,_,_,_,h=>by simp only[qBe]at h;cases h
theorem oX{env:List Y}{ρ:List D}:∀{xs:List SV} {σ:Wd} {C:Cx} {r:Cx×List Y},COk σ C->qF σ env ρ->dA env C xs=some r->qPO σ r (SV.ds (getD ρ) xs)
 | [],σ,C,r,e,he,h=>by simp only[dA]at h;cases h;exact⟨[],kR e,by simp only[SV.ds,qF]⟩
 | x::l,σ,C,r,e,he,h=>by
  simp only[dA]at h;split at h
  ·rename_i p y g;split at h
   ·rename_i o ys c;cases h;obtain⟨τ,j,i⟩:=qLd e he g;obtain⟨b,h3,k⟩:=oX j (zA he) c;refine⟨τ++b,by rw[←List.append_assoc];exact h3,?_⟩;simp only[SV.ds,qF];refine⟨_,_,rfl,?_,?_⟩
    ·rw[←List.append_assoc];exact nZ i
    grind
   cases h
  cases h
end
end Go.Am.Tt
namespace Go.Am.Tt
open Go Go.Am
def qI9(f:Nat):Y->Option Y
 |.st cs=>cs[f]?
 |.sl n el sz b e=>some (.sl n el sz b e)
 |.str n b=>some (.str n b)
 |.int k v c=>some (.int k v c)
 |_=>none
theorem qMa{σ:Wd}{f:Nat}{y c:Y}{d:D}(hd:qL σ y d)(h:qI9 f y=some c):qL σ c (qJb f d):=by
 cases y<;>simp only[qI9]at h<;>first|(cases h;done)|skip
 ·cases h;have b:=hd;simp only[qL]at hd;obtain⟨x,_,rfl⟩:=hd;exact b
 ·cases h;have b:=hd;simp only[qL]at hd;obtain⟨s,x,rfl,_⟩:=hd;exact b
 ·cases h;have b:=hd;simp only[qL,qZ]at hd;rcases hd.2 with rfl|⟨es,rfl,_⟩<;>exact b
 simp only[qL]at hd;obtain⟨ds,rfl,hs⟩:=hd;obtain⟨e,he,hr⟩:=gO hs h;simp only[qJb,getD_some he];exact hr
def qYI(C:Cx)(f:Nat):Option Y->Option Y->Option (Nat×Int)
 | some (.sl n _ _ _ _),some (.int .i64 v c)=>match qEy C.els n v c with
  |some y=>(match qI9 f y with
   |some z=>qMV z
   |none=>none)
  |none=>none
 |_,_=>none
def sQ(C:Cx)(ys:List Y):Pt->Option (Nat×Int)
 |.z=>some (0,0)
 |.aT p=>match fY p (.st ys)with
  |some y=>qMV y
  |none=>none
 |.el p q f=>qYI C f (fY p (.st ys)) (fY q (.st ys))
theorem pY{σ:Wd}{C:Cx}(e:COk σ C){ys:List Y}{ds:List D}{p:Pt}{v:Nat}{c:Int}(hd:qF σ ys ds)(h:sQ C ys p=some (v,c)):∃x,σ[v]? = some x/\qFb ds p=x.1+c:=by
 obtain⟨z,o⟩:=e.s.z;have b:qL σ (.st ys) (.agg ds):=by simp only[qL];exact⟨ds,rfl,hd⟩
 cases p with
 |z=>simp only[sQ]at h;cases h;exact⟨_,o,by simp[qFb]⟩
 |aT p=>
  simp only[sQ]at h;split at h
  ·rename_i y g;exact qE2 e (nP b g) h
  cases h
 | el p q f=>
  simp only[sQ]at h;unfold qYI at h;split at h
  ·rename_i n _ _ _ _ i G A u;split at h
   ·rename_i y g;split at h
    ·rename_i w r;have a1:=nP b A;have l:=nP b u;simp only[qL]at a1 l;obtain⟨k,t,F⟩:=l;obtain⟨x,d,H,j,g1,g2,g3,g4,g5⟩:=tZ e.e g;simp only at g1 g2 g3 g4 g5;rw[a1.1]at g1;cases g1;rw[t]at g2;cases g2;have B:qJm (sB p (.agg ds)) (sB q (.agg ds))=j:=by unfold qJm;rw[F];show(sB p (.agg ds)).es.getD (k.1+G).toNat .nil=j;grind
     simp only[qFb,B];exact qE2 e (qMa g5 r) h
    cases h
   cases h
  cases h
def qPT(C:Cx)(ys:List Y)(q:Cn):Bool:=match sQ C ys q.1,sQ C ys q.2.1 with
 |some (v,c),some (w,e)=>yV C.F C.L v c w (e+q.2.2)
 |_,_=>false
theorem qF1{σ:Wd}{C:Cx}(b:COk σ C){ys:List Y}{ds:List D}{q:Cn}(hd:qF σ ys ds)(h:qPT C ys q=true):qBx ds q:=by
 unfold qPT at h;split at h
 ·rename_i v c w e k j;obtain⟨x,i,o⟩:=pY b hd k;obtain⟨y,g,l⟩:=pY b hd j;have:=zY b.s h i g;unfold qBx;omega
 cases h
def qWu(C:Cx)(ys:List Y)(q:Cn):List jL:=match sQ C ys q.1,sQ C ys q.2.1 with
 |some (v,c),some (w,e)=>[(v,w,e+q.2.2-c)]
 |_,_=>[]
theorem qPt{σ:Wd}{C:Cx}(b:COk σ C){ys:List Y}{ds:List D}{q:Cn}(hd:qF σ ys ds)(h:qBx ds q):∀f∈qWu C ys q,aU σ f:=by
 unfold qWu;split
 ·rename_i v c w e l k;obtain⟨x,i,p⟩:=pY b hd l;obtain⟨y,g,o⟩:=pY b hd k;unfold qBx at h;exact f1 i g (by omega)
 intro f j;cases j
def qTk(C:Cx):Option Y->Option Y->Cx
 |some (.sl n _ _ _ e),some (.int .i64 v c)=>match qRe C n e v c with
  |some (h,_)=>h
  |none=>C
 |_,_=>C
def qKf(C:Cx)(ys:List Y):Pt->Cx
 |.el p q _=>qTk C (fY p (.st ys)) (fY q (.st ys))
 |_=>C
theorem qGN(E:Env){σ:Wd}{C:Cx}(b:COk σ C){ys:List Y}{ds:List D}(hd:qF σ ys ds)(p:Pt):∃τ,COk (σ++τ) (qKf C ys p):=by
 have x:qL σ (.st ys) (.agg ds):=by simp only[qL];exact⟨ds,rfl,hd⟩
 cases p with
 |z=>exact⟨[],kR b⟩
 |aT p=>exact⟨[],kR b⟩
 | el p q f=>
  simp only[qKf];unfold qTk;split
  ·rename_i g e;split
   ·rename_i i y c;obtain⟨d,τ,_,h,_⟩:=qOr (E:=E) b (nP x g) (nP x e) c;exact⟨τ,h⟩
   exact⟨[],kR b⟩
  exact⟨[],kR b⟩
def qRc(ys:List Y):List Cn->Cx->Cx
 | [],C=>C
 |q::r,C=>let h:=qKf (qKf C ys q.1) ys q.2.1;qRc ys r (h.add (qWu h ys q) [] [] 0)
theorem qFE(E:Env){ys:List Y}{ds:List D}:∀{l:List Cn} {σ:Wd} {C:Cx},COk σ C->qF σ ys ds->(∀q∈l,qBx ds q)->∃τ,COk (σ++τ) (qRc ys l C)
 | [],σ,C,e,_,_=>⟨[],kR e⟩
 |q::r,σ,C,e,hd,h=>by obtain⟨c,o⟩:=qGN E e hd q.1;obtain⟨b,g⟩:=qGN E o (zA hd) q.2.1;rw[List.append_assoc]at g;have y:=zA (τ:=c++b) hd;have h3:=g.facts (qPt g y (h q List.mem_cons_self));obtain⟨j,i⟩:=qFE E h3 y λx k=>h x (mC _ k);rw[List.append_assoc]at i;exact⟨_,i⟩
structure Spec where
 ss:List Sn
 rs:List Sn
 pre:List Cn
 post:List Cn
def mT(HS:FuncId->List D->D->Prop)(f:FuncId)(S:Spec):Prop:=
 ∀ds,zZ S.ss ds->(∀q∈S.pre,qBx ds q)->∃rs,zZ S.rs rs/\(∀q∈S.post,qBx (ds++rs) q)/\HS f ds (xN rs)
end Go.Am.Tt
namespace Go.Am.Tt
open Go Go.Am
abbrev Ms:=Pt×Pt×Int
def qWq(ds:List D)(m:Ms):Int:=qFb ds m.1-qFb ds m.2.1+m.2.2
def qIT:List Nat->List Nat->Prop
 |a::az,b::h=>a<b∨(a<=b/\qIT az h)
 |_,_=>False
def qCq(ds:List D)(h:List Ms):List Nat:=h.map λm=>(qWq ds m).toNat
def qZd(C:Cx)(h ys:List Y)(x m:Ms)(k:Int):Bool:=match sQ C h x.1,sQ C h x.2.1,sQ C ys m.1,sQ C ys m.2.1 with
 |some (v',y),some (w',e'),some (v,c),some (w,e)=>
  (yV C.F C.L v' y v (c+(m.2.2-x.2.2-k))&&yV C.F C.L w e w' e')||(yV C.F C.L v' y v c&&yV C.F C.L w e w' (e'+(m.2.2-x.2.2-k)))
 |_,_,_,_=>false
def qUn(C:Cx)(ys:List Y)(m:Ms):Bool:=match sQ C ys m.1,sQ C ys m.2.1 with
 |some (v,c),some (w,e)=>yV C.F C.L w (e+1) v (c+m.2.2)
 |_,_=>false
def qL0(C:Cx)(h ys:List Y):List Ms->List Ms->Bool
 |x::y,m::r=>(qZd C h ys x m 1&&qUn C ys m)||(qZd C h ys x m 0&&qL0 C h ys y r)
 |_,_=>false
section
variable{σ:Wd}{C:Cx}
theorem qOd(x:COk σ C){y ys:List Y}{i ds:List D}{j m:Ms}{k:Int}(g:qF σ y i)(hd:qF σ ys ds)(h:qZd C y ys j m k=true):qWq i j+k<=qWq ds m:=by
 unfold qZd at h;split at h
 ·rename_i v' F w' e' v c w e p o h3 l;obtain⟨x1,g1,B⟩:=pY x g p;obtain⟨t,g2,A⟩:=pY x g o;obtain⟨r,g3,z⟩:=pY x hd h3;obtain⟨q,g4,u⟩:=pY x hd l;unfold qWq;rcases Bool.or_eq_true_iff.1 h with h|h<;>rw[aE]at h
  ·have a:=zY x.s h.1 g1 g3;have b:=zY x.s h.2 g4 g2;omega
  have a:=zY x.s h.1 g1 g3;have b:=zY x.s h.2 g4 g2;omega
 cases h
theorem qQA(x:COk σ C){ys:List Y}{ds:List D}{m:Ms}(hd:qF σ ys ds)(h:qUn C ys m=true):1<=qWq ds m:=by
 unfold qUn at h;split at h
 ·rename_i v c w e h3 y;obtain⟨g,g3,j⟩:=pY x hd h3;obtain⟨b,g4,i⟩:=pY x hd y;unfold qWq;have a:=zY x.s h g4 g3;omega
 cases h
theorem qKp(e:COk σ C){y ys:List Y}{c ds:List D}(x:qF σ y c)(hd:qF σ ys ds):∀{g l:List Ms},qL0 C y ys g l=true->qIT (qCq c g) (qCq ds l)
 | [],_,h=>by simp only[qL0]at h;cases h
 |_::_,[],h=>by simp only[qL0]at h;cases h
 |j::i,m::r,h=>by
  simp only[qL0]at h;simp only[qCq,List.map_cons,qIT];rcases Bool.or_eq_true_iff.1 h with h|h<;>rw[aE]at h
  ·have a:=qOd e x hd h.1;have b:=qQA e hd h.2;left;omega
  have a:=qOd e x hd h.1;right;exact⟨by omega,qKp e x hd h.2⟩
end
theorem qOc:∀(n:Nat) (l:List Nat),l.length=n->Acc (λa b:List Nat=>a.length=b.length/\qIT a b) l
 |0,l,h=>by
  have:l=[]:=List.length_eq_zero_iff.1 h;subst this;refine⟨_,λy x=>?_⟩;cases y with
  |nil=>exact(x.2:False).elim
  |cons _ _=>cases x.1
 | n+1,l,h=>by
  have e:∀(a:Nat),∀(r:List Nat),r.length=n->Acc (λa b:List Nat=>a.length=b.length/\qIT a b) (a::r):=by
   intro a;induction a using Nat.strongRecOn with
   | _ a i=>
    intro r j;have c:=qOc n r j;induction c with
    | intro r _ g=>
     refine⟨_,λy x=>?_⟩;cases y with
     |nil=>cases x.1
     |cons b s=>
      have p:s.length=n:=by have:=x.1;simp only[List.length_cons]at this;omega
      rcases x.2 with k|⟨o,hs⟩;all_goals grind
  cases l with
  |nil=>cases h
  |cons a r=>exact e a r (by simpa using h)
structure Hd where
 ss:List Sn
 inv:List Cn
 ms:List Ms
structure Fx where
 T:Tb
 sp:FuncId->Cx->List Y->Option Spec
 md:FuncId->Mode->Cx->List Y->Option Spec
 S:Spec
 hd:Nat->Option Hd
def qNr:List Y->Y
 | [y]=>y
 |l=>.tup l
def qG5:Y->Bool
 |.int _ _ _=>true
 |.bool _ _=>true
 |.str _ _=>true
 |_=>false
def qKF:Nat->Y->Bool
 |0,_=>true
 |1,y=>qG5 y
 |_,.tup l=>l.all qG5
 |_,_=>false
def qTT(h:Tgt)(ys:List Y):Option (FuncId×List Y):=match h with
 |.fn f=>some (f,ys)
 |.val _=>(match ys with
  |.clo g a c::r=>some (g,a++r++c)
  |_=>none)
 |.meth _ _=>none
def dead(C:Cx)(t:List jL):Bool:=t.any λq=>yV C.F C.L q.2.1 0 q.1 (-q.2.2-1)
def ck(X:Fx)(x cur:List Y)(e:List Ms):Tree->List Y->Cx->Bool
 |.ret xs,env,C=>match dA env C xs with
  |some (C,ys)=>gX C ys X.S.rs&&X.S.post.all (qPT C (x++ys))
  |none=>false
 | .jump k xs,env,C=>match X.hd k with
  |some h=>(match dA env C xs with
   |some (C,ys)=>gX C ys h.ss&&h.inv.all (qPT C (x++ys))&&qL0 C (x++ys) cur h.ms e
   |none=>false)
  |none=>false
 | .bind o xs r,env,C=>match dA env C xs with
  |some (C,ys)=>(match qZH X.T C o ys with
   |some (C,y)=>ck X x cur e r (env++[y]) C
   |none=>false)
  |none=>false
 | .call g xs i r,env,C=>match dA env C xs with
  | some (C,ys)=>(match qTT g ys with
   | some (f,ys)=>(match X.sp f C ys with
    |some S=>gX C ys S.ss&&S.pre.all (qPT C ys)&&(match wH S.rs C with
     |(C,rs)=>qKF i (qNr rs)&&ck X x cur e r (env++[qNr rs]) (C.add (S.post.flatMap (qWu C (ys++rs))) [] [] 0))
    |none=>false)
   |none=>false)
  |none=>false
 | .callM f m xs r,env,C=>match dA env C xs with
  | some (C,ys)=>(match X.md f m C ys with
   |some S=>gX C ys S.ss&&S.pre.all (qPT C ys)&&Nat.beq S.rs.length m.out.sts.length&&(match wH S.rs C with
    |(C,rs)=>ck X x cur e r (env++rs) (C.add (S.post.flatMap (qWu C (ys++rs))) [] [] 0))
   |none=>false)
  |none=>false
 |.ite c a b,env,C=>match qBe env C c with
  |some (C,.bool t f)=>(ck X x cur e a env (C.add t [] [] 0)||dead C t)&&(ck X x cur e b env (C.add f [] [] 0)||dead C f)
  |_=>false
 |_,_,_=>false
theorem jM{σ:Wd}:∀{a b:List Y} {x y:List D},qF σ a x->qF σ b y->qF σ (a++b) (x++y)
 | [],b,x,y,h,c=>by simp only[qF]at h;subst h;simpa using c
 |u::a,b,x,y,h,c=>by simp only[qF]at h;obtain⟨d,ds,rfl,g,e⟩:=h;simp only[List.cons_append,qF];exact⟨_,_,rfl,g,jM e c⟩
theorem qQp{σ:Wd}{ys:List Y}{ds:List D}(h:qF σ ys ds):qL σ (qNr ys) (xN ds):=by
 cases ys with
 |nil=>simp only[qF]at h;subst h;simp only[qNr,xN,qL];exact⟨_,rfl,by simp only[qF]⟩
 |cons y r=>
  have e:=h;simp only[qF]at h;obtain⟨d,g,rfl,c,x⟩:=h;cases r with
  |nil=>simp only[qF]at x;subst x;exact c
  |cons z r=>have h3:=x;simp only[qF]at x;obtain⟨d',b,rfl,_,_⟩:=x;simp only[qNr,xN,qL];exact⟨_,rfl,e⟩
theorem qG4{σ:Wd}{y:Y}{d:D}(hd:qL σ y d)(h:qG5 y=true):∃v,d=.leaf v:=by
 cases y<;>simp only[qG5]at h<;>first|(cases h;done)|simp only[qL]at hd
 all_goals grind
theorem qEg{σ:Wd}:∀{ys:List Y} {ds:List D},qF σ ys ds->ys.all qG5=true->uN ds=true
 | [],ds,h,_=>by simp only[qF]at h;subst h;rfl
 |y::ys,ds,h,x=>by simp only[qF]at h;obtain⟨d,r,rfl,c,b⟩:=h;simp only[List.all_cons,aE]at x;obtain⟨v,rfl⟩:=qG4 c x.1;have:=qEg b x.2;simpa only[uN]using this
theorem qOL{σ:Wd}{n:Nat}{y:Y}{d:D}(hd:qL σ y d)(h:qKF n y=true):qEw n d=true:=by
 match n with
 |0=>rfl
 |1=>simp only[qKF]at h;obtain⟨v,rfl⟩:=qG4 hd h;rfl
 |n+2=>
  cases y<;>simp only[qKF]at h<;>first|(cases h;done)|skip
  simp only[qL]at hd;obtain⟨ds,rfl,hs⟩:=hd;exact qEg hs h
def zAu(X:Fx)(x:List D)(M:List Nat):Res1->Prop
 |.ret d=>∃rs,d=xN rs/\zZ X.S.rs rs/\∀q∈X.S.post,qBx (x++rs) q
 |.jump k ds=>∃h,X.hd k=some h/\zZ h.ss ds/\(∀q∈h.inv,qBx (x++ds) q)/\qIT (qCq (x++ds) h.ms) M
theorem qP9{E:Env}{σ:Wd}{b:Tgt}{ys x:List Y}{ds:List D}{f:FuncId}(hd:qF σ ys ds)(h:qTT b ys=some (f,x)):∃y,qBN E b ds=some (f,y)/\qF σ x y:=by
 unfold qTT at h;split at h
 ·cases h;exact⟨_,rfl,hd⟩
 ·split at h
  ·cases h;simp only[qF]at hd;obtain⟨d,r,rfl,c,i⟩:=hd;simp only[qL]at c;obtain⟨az,cs,rfl,g,e⟩:=c;exact⟨az++r++cs,by simp only[qBN],jM (jM g i) e⟩
  cases h
 cases h
theorem qK5{σ:Wd}{C:Cx}(b:COk σ C){ys:List Y}{ds:List D}{l:List Cn}(hd:qF σ ys ds)(h:∀q∈l,qBx ds q):∀f∈l.flatMap (qWu C ys),aU σ f:=by intro f x;obtain⟨q,y,x⟩:=List.mem_flatMap.1 x;exact qPt b hd (h q y) f x
theorem qKV{σ:Wd}{C:Cx}(e:COk σ C){t:List jL}(h:dead C t=true):¬∀q∈t,aU σ q:=by intro c;unfold dead at h;obtain⟨q,b,h⟩:=List.any_eq_true.1 h;obtain⟨x,y,i,g,h3⟩:=c q b;have:=zY e.s h g i;omega
section
variable{E:Env}{HS:FuncId->List D->D->Prop}{X:Fx}
def qLg(HS:FuncId->List D->D->Prop)(f:FuncId)(m:Mode)(S:Spec):Prop:=
 ∀ds,zZ S.ss ds->(∀q∈S.pre,qBx ds q)->∃rs,zZ S.rs rs/\(∀q∈S.post,qBx (ds++rs) q)/\HS (Nat.add gM f) (.mode m::ds) (xN rs)
theorem qDb(G:TbOk E X.T)(g:∀f C ys S,X.sp f C ys=some S->mT HS f S)(i:∀f m C ys S,X.md f m C ys=some S->qLg HS f m S){R cur:List Y}{ms:List Ms}{Z A:List D}:
  ∀(t:Tree) {env:List Y} {C:Cx} {ρ:List D} {σ:Wd},COk σ C->qF σ env ρ->qF σ R Z->qF σ cur A->ck X R cur ms t env C=true->wp E HS (zAu X Z (qCq A ms)) t ρ
 |.fail,_,_,_,_,_,_,_,_,h=>by simp only[ck]at h;cases h
 |.stop _ _,_,_,_,_,_,_,_,_,h=>by simp only[ck]at h;cases h
 | .callM f m xs r,env,C,ρ,σ,w,he,j,u,h=>by
  simp only[ck]at h
  split at h
  ·rename_i z ys l
   split at h
   ·rename_i S M
    obtain⟨τ,x,e⟩:=oX w he l
    generalize hr:wH S.rs z=p at h
    obtain⟨C2,rs⟩:=p
    simp only[aE]at h
    obtain⟨⟨⟨a1,a2⟩,a3⟩,a4⟩:=h
    obtain⟨rd,K,Q,O⟩:=i f m z ys S M _ (kJ x a1 e) λq F=>qF1 x e (List.all_eq_true.1 a2 q F)
    obtain⟨H,c1,B⟩:=kO K x
    rw[hr]at c1 B
    simp only[wp]
    refine⟨rd,O,by rw[fL K];exact vE a3,?_⟩
    have I:=c1.facts (qK5 c1 (jM (zA e) B) Q)
    rw[List.append_assoc]at I B
    exact qDb G g i r I (jM (zA he) B) (zA j) (zA u) a4
   cases h
  cases h
 | .ret xs,env,C,ρ,σ,w,he,j,u,h=>by
  simp only[ck]at h
  split at h
  ·rename_i z ys l
   obtain⟨τ,x,e⟩:=oX w he l
   rw[aE]at h
   simp only[wp]
   exact⟨_,rfl,kJ x h.1 e,λq F=>qF1 x (jM (zA j) e) (List.all_eq_true.1 h.2 q F)⟩
  cases h
 | .jump k xs,env,C,ρ,σ,w,he,j,u,h=>by
  simp only[ck]at h
  split at h
  ·rename_i hh hk
   split at h
   ·rename_i z ys l
    obtain⟨τ,x,e⟩:=oX w he l
    simp only[aE]at h
    simp only[wp]
    exact⟨hh,hk,kJ x h.1.1 e,λq F=>qF1 x (jM (zA j) e) (List.all_eq_true.1 h.1.2 q F),qKp x (jM (zA j) e) (zA u) h.2⟩
   cases h
  cases h
 | .bind o xs r,env,C,ρ,σ,w,he,j,u,h=>by
  simp only[ck]at h
  split at h
  ·rename_i z ys l
   split at h
   ·rename_i C2 y ho
    obtain⟨τ,x,e⟩:=oX w he l
    obtain⟨d,H,e1,W,V⟩:=qUx G x e ho
    simp only[wp,e1]
    rw[List.append_assoc]at W V
    exact qDb G g i r W (jM (zA he) (by simp only[qF];exact⟨_,_,rfl,V,rfl⟩)) (zA j) (zA u) h
   cases h
  cases h
 | .call tg xs fl r,env,C,ρ,σ,w,he,j,u,h=>by
  simp only[ck]at h
  split at h
  ·rename_i z ys l
   split at h
   ·rename_i f L J
    split at h
    ·rename_i S M
     obtain⟨τ,x,e⟩:=oX w he l
     obtain⟨N,t1,t2⟩:=qP9 (E:=E) e J
     generalize hr:wH S.rs z=p at h
     obtain⟨C2,rs⟩:=p
     simp only[aE]at h
     obtain⟨⟨a1,a2⟩,a3,a4⟩:=h
     obtain⟨rd,K,Q,O⟩:=g f z L S M N (kJ x a1 t2) λq F=>qF1 x t2 (List.all_eq_true.1 a2 q F)
     obtain⟨H,c1,B⟩:=kO K x
     rw[hr]at c1 B
     simp only[wp,t1]
     have hr:=qQp B
     refine⟨_,O,qOL hr a3,?_⟩
     have I:=c1.facts (qK5 c1 (jM (zA t2) B) Q)
     have hr:=hr
     rw[List.append_assoc]at I hr
     exact qDb G g i r I (jM (zA he) (by simp only[qF];exact⟨_,_,rfl,hr,rfl⟩)) (zA j) (zA u) a4
    cases h
   cases h
  cases h
 | .ite c a b,env,C,ρ,σ,w,he,j,u,h=>by
  simp only[ck]at h
  split at h
  ·rename_i z t f l
   obtain⟨τ,x,e⟩:=qLd w he l
   simp only[qL]at e
   obtain⟨v,hv,J,U⟩:=e
   rw[aE]at h
   simp only[wp,hv]
   cases v with
   |true=>
    rcases Bool.or_eq_true_iff.1 h.1 with h|h
    ·exact qDb G g i a (x.facts (J rfl)) (zA he) (zA j) (zA u) h
    exact absurd (J rfl) (qKV x h)
   |false=>
    rcases Bool.or_eq_true_iff.1 h.2 with h|h
    ·exact qDb G g i b (x.facts (U rfl)) (zA he) (zA j) (zA u) h
    exact absurd (U rfl) (qKV x h)
  cases h
end
end Go.Am.Tt
namespace Go.Am.Tt
open Go Go.Am
def rJ{α:Type}:List (Nat×α)->Nat->Option α
 | [],_=>none
 |(k,x)::r,n=>bif Nat.beq k n then some x else rJ r n
theorem bI{α:Type}{l:List (Nat×α)}{n:Nat}{x:α}(h:rJ l n=some x):(n,x)∈l:=by
 induction l with
 |nil=>cases h
 |cons p r ih=>
  obtain⟨k,y⟩:=p;simp only[rJ]at h;cases b:Nat.beq k n with
  |true=>rw[b]at h;have:=vE b;subst this;cases h;exact List.mem_cons_self
  |false=>rw[b]at h;exact mC _ (ih h)
def qKU{α:Type}:List (Nat×α)->Bool
 | []=>true
 |(k,_)::r=>(match rJ r k with
  |some _=>false
  |none=>true)&&qKU r
theorem qPh{α:Type}{l:List (Nat×α)}(h:qKU l=true):∀x∈l,rJ l x.1=some x.2:=by
 induction l with
 |nil=>intro x c;cases c
 |cons p r ih=>
  obtain⟨k,y⟩:=p;simp only[qKU,aE]at h;intro x c;rcases List.mem_cons.1 c with rfl|b
  ·simp only[rJ,Nat.beq_refl,cond_true]
  have h3:=ih h.2 x b;simp only[rJ];cases e:Nat.beq k x.1 with
  |false=>simpa using h3
  |true=>simp_all
def qE3(l:List (Nat×Tree))(k:Nat):Tree:=(rJ l k).getD .fail
def C0:Cx:=⟨[],[],[],1⟩
theorem qY5:COk [(0,.nil)] C0:={s:={z:=⟨_,rfl⟩,f:=λq h=>(by cases h),l:=λq h=>(by cases h)},e:=λe h=>(by cases h),n:=rfl}
def qML(S:Spec):Cx×List Y:=match wH S.ss C0 with
 |(C,h)=>(qRc h S.pre C,h)
theorem qV4(E:Env){S:Spec}{ds:List D}(h:zZ S.ss ds)(e:∀q∈S.pre,qBx ds q):∃σ,COk σ (qML S).1/\qF σ (qML S).2 ds:=by obtain⟨τ,y,x⟩:=kO h qY5;unfold qML;split;rename_i C g c;rw[c]at y x;obtain⟨b,h3⟩:=qFE E y x e;exact⟨_,h3,zA x⟩
def qJt(X:Fx)(C:Cx)(x:List Y)(h:Hd)(t:Tree):Bool:=match wH h.ss C with
 |(C,ys)=>ck X x (x++ys) h.ms t ys (qRc (x++ys) h.inv C)
def uI(X:Fx)(C:Cx)(x:List Y)(ts:List (Nat×Tree))(n:Nat):List (Nat×Hd)->Bool
 | []=>true
 |(k,h)::r=>Nat.beq h.ms.length n&&qJt X C x h (qE3 ts k)&&uI X C x ts n r
theorem qDc{X:Fx}{C:Cx}{y:List Y}{ts:List (Nat×Tree)}{n:Nat}:∀{l:List (Nat×Hd)},uI X C y ts n l=true->∀p∈l,p.2.ms.length=n/\qJt X C y p.2 (qE3 ts p.1)=true
 | [],_,p,x=>by cases x
 |(k,h)::r,b,p,x=>by
  simp only[uI,aE]at b;rcases List.mem_cons.1 x with rfl|x
  ·simp_all
  exact qDc b.2 p x
section
variable{E:Env}{HS:FuncId->List D->D->Prop}
theorem qRi{T:Tb}{sp:FuncId->Cx->List Y->Option Spec}{md:FuncId->Mode->Cx->List Y->Option Spec}{S:Spec}{hs:List (Nat×Hd)}{rm:List Ms}{ts:List (Nat×Tree)}(K:TbOk E T)(j:∀f C ys S,sp f C ys=some S->mT HS f S)(l:∀f m C ys S,md f m C ys=some S->qLg HS f m S)(Q:ck ⟨T,sp,md,S,rJ hs⟩ (qML S).2 (qML S).2 rm (qE3 ts 0) (qML S).2 (qML S).1=true)(V:uI ⟨T,sp,md,S,rJ hs⟩ (qML S).1 (qML S).2 ts rm.length hs=true){ds:List D}(G:zZ S.ss ds)(R:∀q∈S.pre,qBx ds q):∃rs,zZ S.rs rs/\(∀q∈S.post,qBx (ds++rs) q)/\qX E HS (qE3 ts) 0 ds (xN rs):=by
 obtain⟨σ,L,z⟩:=qV4 E G R;have x:=qDc V
 have A:∀M:List Nat,Acc (λa b:List Nat=>a.length=b.length/\qIT a b) M->∀k h es,rJ hs k=some h->zZ h.ss es->(∀q∈h.inv,qBx (ds++es) q)->qCq (ds++es) h.ms=M->
   ∃rs,zZ S.rs rs/\(∀q∈S.post,qBx (ds++rs) q)/\qX E HS (qE3 ts) k es (xN rs):=by
  intro M W
  induction W with
  | intro M _ ih=>
   intro k h es U F o t
   obtain⟨hlen,g⟩:=x _ (bI U)
   unfold qJt at g
   split at g
   rename_i Z ys B
   obtain⟨τ,a1,a2⟩:=kO F L
   rw[B]at a1 a2
   have p:=zA (τ:=τ) z
   have y:=jM p a2
   obtain⟨O,a3⟩:=qFE E a1 y o
   have:=qDb K j l _ a3 (zA a2) (zA p) (zA y) g
   obtain⟨r,w,u⟩:=rT _ _ this
   cases r with
   |ret d=>
    obtain⟨rs,rfl,c,i⟩:=w
    exact⟨rs,c,i,qX.step (u _ rfl)⟩
   |jump k' es'=>
    obtain⟨H,c,i,J,N⟩:=w
    obtain⟨e,_⟩:=x _ (bI c)
    obtain⟨rs,c1,I,c3⟩:=ih _ ⟨by rw[←t];simp only[qCq,List.length_map];rw[e,hlen],by rw[←t];exact N⟩ k' H es' c i J rfl
    exact⟨rs,c1,I,qX.step (u _ c3)⟩
 have:=qDb K j l _ L z z z Q;obtain⟨r,w,u⟩:=rT _ _ this;cases r with
 |ret d=>obtain⟨rs,rfl,c,i⟩:=w;exact⟨rs,c,i,qX.step (u _ rfl)⟩
 |jump k' es'=>obtain⟨H,c,i,J,N⟩:=w;obtain⟨rs,c1,I,c3⟩:=A _ (qOc _ _ rfl) k' H es' c i J rfl;exact⟨rs,c1,I,qX.step (u _ c3)⟩
end
structure En where
 f:FuncId
 pats:List (Nat×Pat)
 S:Spec
 hs:List (Nat×Hd)
 rm:List Ms
def qQC(l:List (Nat×Pat))(k:Nat):Pat:=(rJ l k).getD ⟨[],[],[],[]⟩
def qP8(E:Env)(fn:Func)(c:Code)(l:List (Nat×Pat))(n:Nat):List (Nat×Tree):=
 (0,qGB E (λk S=>jN (Nat.max fn.ntmps n) (qQC l k) k S) fn n)::jR E (λk=>(qQC l k).st (Nat.max fn.ntmps n)) (λk S=>jN (Nat.max fn.ntmps n) (qQC l k) k S) 1 c (uD E fn.results.toList)
abbrev qWi:=List (FuncId×Spec)
abbrev qJD:=List (FuncId×(Mode×Spec))
def qKn(h:qWi)(f:FuncId)(C:Cx)(ys:List Y):Option Spec:=match h with
 | []=>none
 |(g,S)::r=>bif Nat.beq g f&&(gX C ys S.ss&&S.pre.all (qPT C ys))then some S else qKn r f C ys
theorem qLV{tab:qWi}{f:FuncId}{C:Cx}{ys:List Y}{S:Spec}(h:qKn tab f C ys=some S):(f,S)∈tab:=by
 induction tab with
 |nil=>cases h
 |cons p r ih=>
  obtain⟨g,S'⟩:=p;simp only[qKn]at h;cases x:(Nat.beq g f&&(gX C ys S'.ss&&S'.pre.all (qPT C ys)))with
  |true=>simp_all
  |false=>rw[x]at h;exact mC _ (ih h)
def qVK:Value->Value->Bool
 |.int k a,.int k' b=>decide (k=k')&&decide (a=b)
 |.bool a,.bool b=>bif a then b else !b
 |.slice none a b,.slice none c d=>Nat.beq a c&&Nat.beq b d
 |.pointer none,.pointer none=>true
 |.map none,.map none=>true
 |.nilFunc,.nilFunc=>true
 |_,_=>false
theorem qRW{a b:Value}(h:qVK a b=true):a=b:=by
 unfold qVK at h;split at h
 ·grind
 ·grind
 ·simp_all
 ·rfl
 ·rfl
 ·rfl
 cases h
def qZ2:Fn->Fn->Bool
 |.func a,.func b=>Nat.beq a b
 |_,_=>false
theorem qU9{a b:Fn}(h:qZ2 a b=true):a=b:=by
 unfold qZ2 at h;split at h
 ·rw[vE h]
 cases h
mutual
def qM4:SV->SV->Bool
 |.v i,.v j=>Nat.beq i j
 |.c x,.c y=>qVK x y
 |.loc a b,.loc c d=>Nat.beq a c&&Nat.beq b d
 |.pp a b,.pp c d=>Nat.beq a c&&Nat.beq b d
 |.agg l,.agg m=>qGo l m
 |.tup l,.tup m=>qGo l m
 |.fn f a c,.fn g b d=>qZ2 f g&&(qGo a b&&qGo c d)
 |_,_=>false
def qGo:List SV->List SV->Bool
 | [],[]=>true
 |a::l,b::m=>qM4 a b&&qGo l m
 |_,_=>false
end
mutual
theorem qIn:∀{a b:SV},qM4 a b=true->a=b
 |.v i,b,h=>by cases b<;>simp only[qM4]at h<;>first|(cases h;done)|rw[vE h]
 |.c x,b,h=>by cases b<;>simp only[qM4]at h<;>first|(cases h;done)|rw[qRW h]
 |.loc x y,b,h=>by
  cases b<;>simp only[qM4]at h<;>first|(cases h;done)|skip
  simp_all
 |.pp x y,b,h=>by
  cases b<;>simp only[qM4]at h<;>first|(cases h;done)|skip
  simp_all
 |.agg l,b,h=>by cases b<;>simp only[qM4]at h<;>first|(cases h;done)|rw[eW h]
 |.tup l,b,h=>by cases b<;>simp only[qM4]at h<;>first|(cases h;done)|rw[eW h]
 |.fn f a c,b,h=>by
  cases b<;>simp only[qM4]at h<;>first|(cases h;done)|skip
  simp only[aE]at h;rw[qU9 h.1,eW h.2.1,eW h.2.2]
 |.ptr _ _ _ _,b,h=>by cases b<;>cases h
 |.ifc _ _,b,h=>by cases b<;>cases h
 |.yld _,b,h=>by cases b<;>cases h
theorem eW:∀{a b:List SV},qGo a b=true->a=b
 | [],[],_=>rfl
 | [],_::_,h=>by cases h
 |_::_,[],h=>by cases h
 |a::l,b::m,h=>by simp only[qGo,aE]at h;rw[qIn h.1,eW h.2]
end
def lB{α:Type}(f:α->α->Bool):List α->List α->Bool
 | [],[]=>true
 |a::l,b::m=>f a b&&lB f l m
 |_,_=>false
theorem qEi{α:Type}{f:α->α->Bool}(x:∀{a b},f a b=true->a=b):∀{a b:List α},lB f a b=true->a=b
 | [],[],_=>rfl
 | [],_::_,h=>by cases h
 |_::_,[],h=>by cases h
 |a::l,b::m,h=>by simp only[lB,aE]at h;rw[x h.1,qEi x h.2]
def zAw:VK->VK->Bool
 |.pure,.pure=>true
 |.full,.full=>true
 |.fresh,.fresh=>true
 |.dead,.dead=>true
 |.ptr,.ptr=>true
 |_,_=>false
theorem qTQ{a b:VK}(h:zAw a b=true):a=b:=by cases a<;>cases b<;>first|rfl|(cases h;done)
def qZq(a b:VSt):Bool:=zAw a.k b.k&&(bif a.one then b.one else !b.one)
theorem qTM{a b:VSt}(h:qZq a b=true):a=b:=by obtain⟨k,o⟩:=a;obtain⟨k',x⟩:=b;simp only[qZq,aE]at h;rw[qTQ h.1];grind
def zAs:Option Blk->Option Blk->Bool
 |none,none=>true
 |some (.cells l),some (.cells m)=>qGo l m
 |some (.whole x n),some (.whole y k)=>qM4 x y&&Nat.beq n k
 |_,_=>false
theorem qV1{a b:Option Blk}(h:zAs a b=true):a=b:=by
 unfold zAs at h;split at h
 ·rfl
 ·rw[eW h]
 ·rw[aE]at h;rw[qIn h.1,vE h.2]
 cases h
def qY8(a b:Nat×SV):Bool:=Nat.beq a.1 b.1&&qM4 a.2 b.2
theorem qNh{a b:Nat×SV}(h:qY8 a b=true):a=b:=by obtain⟨n,x⟩:=a;obtain⟨m,y⟩:=b;simp only[qY8,aE]at h;rw[vE h.1,qIn h.2]
def qQD(a b:Pat):Bool:=lB qZq a.sts b.sts&&(lB qY8 a.slots b.slots&&(lB zAs a.blks b.blks&&lB (lB qY8) a.sav b.sav))
theorem qKc{a b:Pat}(h:qQD a b=true):a=b:=by obtain⟨a1,a2,a3,a4⟩:=a;obtain⟨e,c,y,x⟩:=b;simp only[qQD,aE]at h;rw[qEi qTM h.1,qEi qNh h.2.1,qEi qV1 h.2.2.1,qEi (λh=>qEi qNh h) h.2.2.2]
def qKk(a b:Mode):Bool:=qQD a.inp b.inp&&(Nat.beq a.n b.n&&qQD a.out b.out)
theorem qN1{a b:Mode}(h:qKk a b=true):a=b:=by obtain⟨a1,a2,a3⟩:=a;obtain⟨c,y,x⟩:=b;simp only[qKk,aE]at h;rw[qKc h.1,vE h.2.1,qKc h.2.2]
def qKo(h:qJD)(f:FuncId)(m:Mode)(C:Cx)(ys:List Y):Option Spec:=match h with
 | []=>none
 |(g,x,S)::r=>bif Nat.beq g f&&(qKk m x&&(gX C ys S.ss&&S.pre.all (qPT C ys)))then some S else qKo r f m C ys
theorem qLW{tab:qJD}{f:FuncId}{m:Mode}{C:Cx}{ys:List Y}{S:Spec}(h:qKo tab f m C ys=some S):(f,m,S)∈tab:=by
 induction tab with
 |nil=>cases h
 |cons p r ih=>
  obtain⟨g,y,S'⟩:=p;simp only[qKo]at h;cases x:(Nat.beq g f&&(qKk m y&&(gX C ys S'.ss&&S'.pre.all (qPT C ys))))with
  |true=>rw[x]at h;cases h;simp only[aE]at x;have c:=vE x.1;have b:=qN1 x.2.1;grind
  |false=>rw[x]at h;exact mC _ (ih h)
def zAV(T:Tb)(x:qWi)(h:qJD)(S:Spec)(y:List (Nat×Hd)):Fx:=⟨T,qKn x,qKo h,S,rJ y⟩
def qVx(T:Tb)(x:qWi)(h:qJD)(S:Spec)(b:List (Nat×Hd))(c:List Ms)(ts:List (Nat×Tree)):Bool:=
 qKU ts&&(match qML S with
  |(C,y)=>ck (zAV T x h S b) y y c (qE3 ts 0) y C&&uI (zAV T x h S b) C y ts c.length b)
theorem qRN{E:Env}{HS:FuncId->List D->D->Prop}{T:Tb}(t:TbOk E T){tab:qWi}{y:qJD}(b:∀p∈tab,mT HS p.1 p.2)(u:∀p∈y,qLg HS p.1 p.2.1 p.2.2){S:Spec}{hs:List (Nat×Hd)}{rm:List Ms}{ts:List (Nat×Tree)}(h:qVx T tab y S hs rm ts=true):(∀x∈ts,qE3 ts x.1=x.2)/\∀ds,zZ S.ss ds->(∀q∈S.pre,qBx ds q)->∃rs,zZ S.rs rs/\(∀q∈S.post,qBx (ds++rs) q)/\qX E HS (qE3 ts) 0 ds (xN rs):=by
 unfold qVx at h;rw[aE]at h;obtain⟨h3,c⟩:=h;have hd:=qPh h3;split at c;rename_i C l k;rw[aE]at c;have j:C=(qML S).1:=by rw[k]
 have i:l=(qML S).2:=by rw[k]
 subst j i;refine⟨λx o=>by unfold qE3;rw[hd x o];rfl,λds g r=>?_⟩;exact qRi t (λf C ys S e=>b (f,S) (qLV e)) (λf m C ys S e=>u (f,m,S) (qLW e)) c.1 c.2 g r
theorem qQt{P : Program}(h : lA P = true){fn : Func}{c : Code}(x : fn ∈ P.funcs.toList)(y : fn.body = some c): (fn.name == "runtime.NumGoroutine" || !zP c) = false := by unfold lA at h;grind
def qLN:List Func->Nat->Option Func
 | [],_=>none
 |f::_,0=>some f
 |_::r,n+1=>qLN r n
theorem qKj:∀{l:List Func} {n:Nat},qLN l n=l[n]?
 | [],n=>by simp[qLN]
 |f::_,0=>by simp[qLN]
 |_::r,n+1=>by simp[qLN,qKj (l:=r)]
def qVy(E:Env)(P:Program)(T:Tb)(x:qWi)(h:qJD)(e:En):Bool:=Nat.blt e.f gM&&(match qLN P.funcs.toList e.f with
 |some fn=>(match fn.body with
  |some c=>qVx T x h e.S e.hs e.rm (qP8 E fn c e.pats e.S.ss.length)
  |none=>false)
 |none=>false)
def qAF(E:Env)(P:Program):Prop:=∀(f:FuncId) (fn:Func) (c:Code),P.funcs.toList[f]? = some fn->fn.body=some c->E.funcs.get f=some fn
theorem qL6{P:Program}(y:lA P=true):qAF (qHD P) P:=λ_ _ _ h x=>qKP (by simpa using h) x (qQt y (List.mem_of_getElem? h) x)
section
variable{E:Env}{P:Program}
theorem qRO(he:EOk E)(z:qAF E P){T:Tb}(F:TbOk E T){tab:qWi}{y:qJD}(g:∀p∈tab,mT (Holds E) p.1 p.2)(G:∀p∈y,qLg (Holds E) p.1 p.2.1 p.2.2){e:En}(h:qVy E P T tab y e=true):mT (Holds E) e.f e.S:=by
 unfold qVy at h;rw[aE]at h;obtain⟨H,l⟩:=h;split at l
 ·rename_i fn j;rw[qKj]at j;split at l
  ·rename_i c q;have i:E.funcs.get e.f=some fn:=z e.f fn c j q;obtain⟨b,o⟩:=qRN F g G l;intro ds k A;obtain⟨rs,u,t,r⟩:=o ds k A;refine⟨rs,u,t,?_⟩;have B:ds.length=e.S.ss.length:=fL k;exact qHc he i q (pats:=qQC e.pats) B (b _ List.mem_cons_self).symm (λx w=>b x (mC _ w)) r (o9 H)
  cases l
 cases l
structure EnM where
 f:FuncId
 m:Mode
 pats:List (Nat×Pat)
 S:Spec
 hs:List (Nat×Hd)
 rm:List Ms
inductive It where
 |fn (e:En)
 |md (e:EnM)
def qEL(E:Env)(P:Program)(T:Tb):List (FuncId×Spec)->List En->Bool
 |_,[]=>true
 |h,e::r=>qVy E P T h [] e&&qEL E P T ((e.f,e.S)::h) r
def qAJ:List (FuncId×Spec)->List En->List (FuncId×Spec)
 |h,[]=>h
 |h,e::r=>qAJ ((e.f,e.S)::h) r
theorem fU(he:EOk E)(b:qAF E P){T:Tb}(c:TbOk E T):∀{l:List En} {tab:List (FuncId×Spec)},(∀p∈tab,mT (Holds E) p.1 p.2)->qEL E P T tab l=true->∀p∈qAJ tab l,mT (Holds E) p.1 p.2
 | [],tab,x,_=>x
 | e::r,tab,x,h=>by
  rw[qEL,aE]at h;have g:∀p∈(e.f,e.S)::tab,mT (Holds E) p.1 p.2:=by
   intro p y;rcases List.mem_cons.1 y with rfl|y
   ·exact qRO he b c x (λ_ h=>by cases h) h.1
   exact x p y
  show∀p∈qAJ ((e.f,e.S)::tab) r,mT (Holds E) p.1 p.2;exact fU he b c g h.2
end
def qZf:List (TypeId×TypeId×IntKind×IntKind)->TypeId->TypeId->IntKind->Option IntKind
 | [],_,_,_=>none
 |(a,b,k,k')::r,s,d,q=>bif Nat.beq a s&&Nat.beq b d&&decide (k=q)then some k' else qZf r s d q
def qXJ:List (Bool×TypeId×Int)->Bool->TypeId->Int->Bool
 | [],_,_,_=>false
 |(m,t,c)::r,h,x,y=>(bif (bif m then h else !h)&&Nat.beq t x&&decide (c=y)then true else qXJ r h x y)
def qNF(x:List (TypeId×TypeId×IntKind×IntKind))(h:List (Bool×TypeId×Int))(o:TOp)(ys:List Y):Option IntKind:=match o,ys with
 |.conv s d,[.int k _ _]=>qZf x s d k
 |.bin .quo t _ _,[.int .i64 _ _,.int .i64 v c]=>bif Nat.beq v 0&&qXJ h false t c then some .i64 else none
 |.bin .rem t _ _,[.int .i64 _ _,.int .i64 v c]=>bif Nat.beq v 0&&qXJ h true t c then some .i64 else none
 |_,_=>none
def qWn(E:Env)(x:TypeId×TypeId×IntKind×IntKind):Prop:=∀m:Int,∃n:Int,TOp.eval E (.conv x.1 x.2.1) [.leaf (.int x.2.2.1 m)]=some (.leaf (.int x.2.2.2 n))
def qWj(E:Env)(x:Bool×TypeId×Int):Prop:=∀(m:Int) (o p:Operand),∃n:Int,TOp.eval E (.bin (bif x.1 then .rem else .quo) x.2.1 o p) [dI m,dI x.2.2]=some (dI n)
def qPI(E:Env)(x:Nat×(Nat×List Sn)):Prop:=(lW E.prog x.2.1 x.1,rM E.prog x.1,Nat.ble x.2.1 10000,E.prog.eqGuardType E.prog.depth x.1,(Sn.shs x.2.2).all qEu,Sn.lows x.2.2)=(some (Sn.shs x.2.2),true,true,false,true,true)
theorem qPn:∀{l:List (TypeId×TypeId×IntKind×IntKind)} {s d:TypeId} {q k:IntKind},qZf l s d q=some k->(s,d,q,k)∈l
 | [],_,_,_,_,h=>by cases h
 |(a,b,k,k')::r,s,d,q,z,h=>by
  simp only[qZf]at h;cases x:(Nat.beq a s&&Nat.beq b d&&decide (k=q))with
  |true=>simp_all
  |false=>rw[x]at h;exact mC _ (qPn h)
theorem qIA:∀{l:List (Bool×TypeId×Int)} {m:Bool} {t:TypeId} {c:Int},qXJ l m t c=true->(m,t,c)∈l
 | [],_,_,_,h=>by cases h
 |(a,b,e)::r,m,t,c,h=>by
  simp only[qXJ]at h;cases x:((bif a then m else !m)&&Nat.beq b t&&decide (e=c))with
  |true=>simp only[aE]at x;have y:=vE x.1.2;grind
  |false=>rw[x]at h;exact mC _ (qIA h)
def zAC(sh:List (Nat×Sn))(x:List (TypeId×TypeId×IntKind×IntKind))(h:List (Bool×TypeId×Int))(st:List (Nat×(Nat×List Sn)))(mp:List (Nat×(Option IntKind×Sn))):Tb:=⟨rJ sh,qNF x h,rJ st,rJ mp⟩
def qXt(sh:List (Nat×Sn))(x:List (TypeId×TypeId×IntKind×IntKind))(h:List (Bool×TypeId×Int))(st:List (Nat×(Nat×List Sn))):Tb:=zAC sh x h st []
theorem qYa{σ:Wd}{C:Cx}(x:COk σ C){k:IntKind}{v:Nat}{c:Int}{d:D}(hv:Nat.beq v 0=true)(h:qL σ (.int k v c) d):d=.leaf (.int k c):=by have hv:=vE hv;subst hv;obtain⟨z,y⟩:=x.s.z;simp only[qL]at h;grind
theorem qTU{E:Env}{sh:List (Nat×Sn)}{c:List (TypeId×TypeId×IntKind×IntKind)}{b:List (Bool×TypeId×Int)}{st:List (Nat×(Nat×List Sn))}{mp:List (Nat×(Option IntKind×Sn))}(l:∀x∈c,qWn E x)(i:∀x∈b,qWj E x)(h3:∀x∈st,qPI E x)(j:mp.all (λx=>qUJ E x.1 x.2.1 x.2.2)=true):TbOk E (zAC sh c b st mp) where
 m:=λt k e h=>List.all_eq_true.1 j (t,k,e) (bI h)
 o:=by
  intro o ys k h σ C ds g hd
  have h:qNF c b o ys=some k:=h
  unfold qNF at h
  split at h
  ·simp only[qF]at hd
   obtain⟨d,_,rfl,hd,rfl⟩:=hd
   simp only[qL]at hd
   obtain⟨x,_,rfl⟩:=hd
   exact l _ (qPn h) _
  ·simp only[qF]at hd
   obtain⟨d,_,rfl,hd,e,_,rfl,he,rfl⟩:=hd
   obtain⟨y,h⟩:=qW h
   cases h
   rw[aE]at y
   rw[qYa g y.1 he]
   simp only[qL]at hd
   obtain⟨x,_,rfl⟩:=hd
   exact i _ (qIA y.2) _ _ _
  ·simp only[qF]at hd
   obtain⟨d,_,rfl,hd,e,_,rfl,he,rfl⟩:=hd
   obtain⟨y,h⟩:=qW h
   cases h
   rw[aE]at y
   rw[qYa g y.1 he]
   simp only[qL]at hd
   obtain⟨x,_,rfl⟩:=hd
   exact i _ (qIA y.2) _ _ _
  cases h
 s:=by
  intro t k ss h
  have:=h3 _ (bI h)
  unfold qPI at this
  simp_all
theorem qXs{E:Env}{sh:List (Nat×Sn)}{y:List (TypeId×TypeId×IntKind×IntKind)}{h:List (Bool×TypeId×Int)}{st:List (Nat×(Nat×List Sn))}(c:∀x∈y,qWn E x)(b:∀x∈h,qWj E x)(h3:∀x∈st,qPI E x):TbOk E (qXt sh y h st):=qTU c b h3 rfl
theorem qWa{α:Type}{P:α->Prop}:∀x∈([]:List α),P x:=λ_ h=>by cases h
theorem qDv{α:Type}{P:α->Prop}{a:α}{r:List α}(h:P a)(y:∀x∈r,P x):∀x∈a::r,P x:=by grind
end Go.Am.Tt
namespace Go.Am.Tt
open Go Go.Am
mutual
def Sn.big:Sn->Bool
 |.int _=>true
 |.bool=>true
 |.str n=>Nat.beq n 300000000
 |.st h=>Sn.bigs h
 |.sl _ _ n e=>Nat.beq n 300000000&&Sn.big e
 |_=>false
def Sn.bigs:List Sn->Bool
 | []=>true
 |s::r=>Sn.big s&&Sn.bigs r
end
mutual
theorem qCF:∀{s:Sn} {d:D},Sn.big s=true->qC 300000000 s.sh d->qZ s d
 |.int k,d,_,h=>by simp only[Sn.sh,qC]at h;simp only[qZ];exact h
 |.bool,d,_,h=>by simp only[Sn.sh,qC]at h;simp only[qZ];exact h
 |.str n,d,y,h=>by have:=vE y;subst this;simp only[Sn.sh,qC]at h;simp only[qZ];exact h
 |.st i,d,y,h=>by simp only[Sn.sh,qC]at h;simp only[qZ];obtain⟨cs,hd,h⟩:=h;exact⟨cs,hd,tR y h⟩
 |.sl el sz n e,d,y,h=>by
  simp only[Sn.big,aE]at y;have:=vE y.1;subst this;simp only[Sn.sh,qC]at h;simp only[qZ];rcases h with h|⟨es,hd,c,g⟩
  ·exact .inl h
  exact .inr ⟨es,hd,c,λx b=>qCF y.2 (g x b)⟩
 |.any,d,y,h=>by cases y
 |.ptr _,d,y,h=>by cases y
 |.clo _ _ _,d,y,h=>by cases y
 |.mp _ _,d,y,h=>by cases y
 |.wh _ _,d,y,h=>by cases y
theorem tR:∀{ss:List Sn} {ds:List D},Sn.bigs ss=true->j8 300000000 (Sn.shs ss) ds->zZ ss ds
 | [],ds,_,h=>by simp only[Sn.shs,j8]at h;simp only[zZ];exact h
 |s::r,ds,x,h=>by simp only[Sn.bigs,aE]at x;simp only[Sn.shs,j8]at h;simp only[zZ];obtain⟨d,y,hd,c,b⟩:=h;exact⟨d,y,hd,qCF x.1 c,tR x.2 b⟩
end
mutual
def Sn.least(B:Nat):Sn->Bool
 |.int _=>true
 |.bool=>true
 |.str n=>Nat.ble B n
 |.st h=>Sn.leasts B h
 |.sl _ _ n e=>Nat.ble B n&&Sn.least B e
 |_=>false
def Sn.leasts(B:Nat):List Sn->Bool
 | []=>true
 |s::r=>Sn.least B s&&Sn.leasts B r
end
mutual
theorem qCE{B:Nat}:∀{s:Sn} {d:D},Sn.least B s=true->qC B s.sh d->qZ s d
 |.int k,d,_,h=>by simp only[Sn.sh,qC]at h;simp only[qZ];exact h
 |.bool,d,_,h=>by simp only[Sn.sh,qC]at h;simp only[qZ];exact h
 |.str n,d,y,h=>by have:=o9 y;simp only[Sn.sh,qC]at h;simp only[qZ];grind
 |.st i,d,y,h=>by simp only[Sn.sh,qC]at h;simp only[qZ];obtain⟨cs,hd,h⟩:=h;exact⟨cs,hd,d8 y h⟩
 |.sl el sz n e,d,y,h=>by
  simp only[Sn.least,aE]at y;have:=o9 y.1;simp only[Sn.sh,qC]at h;simp only[qZ];rcases h with h|⟨es,hd,c,g⟩
  ·exact .inl h
  exact .inr ⟨es,hd,lT c this,λx b=>qCE y.2 (g x b)⟩
 |.any,d,y,h=>by cases y
 |.ptr _,d,y,h=>by cases y
 |.clo _ _ _,d,y,h=>by cases y
 |.mp _ _,d,y,h=>by cases y
 |.wh _ _,d,y,h=>by cases y
theorem d8{B:Nat}:∀{ss:List Sn} {ds:List D},Sn.leasts B ss=true->j8 B (Sn.shs ss) ds->zZ ss ds
 | [],ds,_,h=>by simp only[Sn.shs,j8]at h;simp only[zZ];exact h
 |s::r,ds,x,h=>by simp only[Sn.leasts,aE]at x;simp only[Sn.shs,j8]at h;simp only[zZ];obtain⟨d,y,hd,c,b⟩:=h;exact⟨d,y,hd,qCE x.1 c,d8 x.2 b⟩
end
theorem qJR{E:Env}{x:Nat×(Nat×List Sn)}(h:(lW E.prog x.2.1 x.1,rM E.prog x.1,Nat.ble x.2.1 10000,E.prog.eqGuardType E.prog.depth x.1,(Sn.shs x.2.2).all qEu,Sn.lows x.2.2)=(some (Sn.shs x.2.2),true,true,false,true,true)):qPI E x:=h
section
variable{HS:FuncId->List D->D->Prop}
theorem qAL{tab:List (FuncId×Spec)}(h:∀p∈tab,mT HS p.1 p.2){f:FuncId}{S:Spec}(x:rJ tab f=some S):mT HS f S:=h (f,S) (bI x)
theorem qXA{f:FuncId}{S:Spec}{r:Sn}(h:mT HS f S)(y:S.rs=[r])(c:S.pre=[])(g:Sn.bigs S.ss=true)(e:Sn.low r=true){ds:List D}(hd:j8 300000000 (Sn.shs S.ss) ds):∃d,qC 300000000 r.sh d/\HS f ds d:=by obtain⟨rs,x,_,i⟩:=h ds (tR g hd) (by rw[c];intro q b;cases b);rw[y]at x;simp only[zZ]at x;obtain⟨d,_,rfl,h3,rfl⟩:=x;exact⟨d,oQ e h3,i⟩
end
end Go.Am.Tt
