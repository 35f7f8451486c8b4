/- Spans that are taken out of spans: what is left, and how many. Conditions: none. -/
import Derived.Test.YtocbbgmhkhallaaGreatDoorUv
set_option linter.unusedVariables false
set_option linter.unusedSimpArgs false
namespace Go.Am
open Go
abbrev eg:=@Bool.or_eq_true_iff
def pd(p:Int×Int):D:=.agg [dI p.1,dI p.2]
def mn(x y:Int):Int:=if y<x then y else x
def mx(x y:Int):Int:=if x<y then y else x
def rt(x y:Int):Bool:=decide (x≥0)&&(decide (x<y)&&decide (y<=86400000))
section
variable{E:Env}
theorem zAU{x y:Int}:TOp.eval E (.mm false) [dI x,dI y]=some (dI (mn x y)):=rfl
theorem zAT{x y:Int}:TOp.eval E (.mm true) [dI x,dI y]=some (dI (mx x y)):=rfl
theorem zAV(m:Bool)(x y:Int):∃w:Int,TOp.eval E (.mm m) [dI x,dI y]=some (dI w):=by
 cases m
 ·exact⟨_,zAU⟩
 exact⟨_,zAT⟩
def sp(el:Nat)(l:List (Int×Int)):D:=.sl el 2 (l.map pd)
end
end Go.Am
namespace Go.Am.Tt
open Go Go.Am
def oK:D->Int
 |.leaf (.int _ n)=>n
 |.leaf (.string s)=>(s.size:Int)
 |d=>(d.es.length:Int)
def sT:LC->D->D
 | [],d=>d
 |i::r,d=>sT r (match d with|.agg cs=>getD cs i|_=>.nil)
inductive Pt where
 |z
 |aT (p:LC)
 |el (p q:LC) (f:Nat)
def qJs(f:Nat):D->D
 |.agg cs=>getD cs f
 |d=>d
def qJD(d i:D):D:=d.es.getD (oK i).toNat .nil
def qFu(ds:LR):Pt->Int
 |.z=>0
 |.aT p=>oK (sT p (.agg ds))
 |.el p q f=>oK (qJs f (qJD (sT p (.agg ds)) (sT q (.agg ds))))
abbrev Cn:=Pt×Pt×Int
def qBM(ds:LR)(q:Cn):Prop:=qFu ds q.1<=qFu ds q.2.1+q.2.2
def qEy:LC->LC->Bool
 | [],[]=>true
 |a::r,b::s=>Nat.beq a b&&qEy r s
 |_,_=>false
theorem tR:∀{a b:LC},qEy a b=true->a=b
 | [],[],_=>rfl
 | [],_::_,h=>by cases h
 |_::_,[],h=>by cases h
 |a::r,b::s,h=>by simp only[qEy,aE]at h;rw[vW h.1,tR h.2]
def Pt.sn:Pt->Pt->Bool
 |.z,.z=>true
 |.aT p,.aT q=>qEy p q
 |.el p q f,.el h q' g=>qEy p h&&(qEy q q'&&Nat.beq f g)
 |_,_=>false
theorem Pt.qq{a b:Pt}(h:a.sn b=true):a=b:=by
 cases a<;>cases b<;>simp only[Pt.sn]at h<;>first|rfl|(cases h;done)|skip
 ·rw[tR h]
 simp only[aE]at h;rw[tR h.1,tR h.2.1,vW h.2.2]
def zEv(a b:Cn):Bool:=a.1.sn b.1&&(a.2.1.sn b.2.1&&decide (a.2.2=b.2.2))
theorem qX7{a b:Cn}(h:zEv a b=true):a=b:=by obtain⟨p,q,c⟩:=a;obtain⟨g,q',j⟩:=b;simp only[zEv,aE,fk]at h;rw[Pt.qq h.1,Pt.qq h.2.1,h.2.2]
inductive Sn where
 |int (k:IntKind)
 |bool
 |str (n:Nat)
 |st (fs:List Sn)
 |sl (el sz n:Nat) (e:Sn)
 |any
 |ptr (fs:List Sn)
 |kr (f:Nat) (a c:List Sn)
 |mp (k:Option IntKind) (e:Sn)
 |wh (s:Sn) (q:List Cn)
abbrev LZ:=List Sn
def qMf:Option IntKind->LQ->Prop
 |none,v=>∃s,v=.string s
 |some k,v=>∃n,v=.int k n
mutual
def zC:Sn->La
 |.int k,d=>∃n,d=.leaf (.int k n)
 |.bool,d=>∃b,d=.leaf (.bool b)
 |.str n,d=>∃s,d=.leaf (.string s)/\s.size<=n
 |.st fs,d=>∃cs,d=.agg cs/\zS fs cs
 |.sl el sz n e,d=>d=.nil∨∃es,d=.sl el sz es/\es.length<=n/\∀x∈es,zC e x
 |.any,_=>True
 |.ptr fs,d=>∃cs,d=.ptr cs 0/\zS fs cs
 |.kr f a c,d=>∃az cs,d=.kr (.func f) az cs/\zS a az/\zS c cs
 |.mp k e,d=>∃h ds,d=.mp h ds/\h.length=ds.length/\(∀v∈h,qMf k v)/\∀x∈ds,zC e x
 |.wh s q,d=>zC s d/\∀c∈q,qBM [d] c
def zS:LZ->LR->Prop
 | [],l=>l=[]
 |s::ss,l=>∃d ds,l=d::ds/\zC s d/\zS ss ds
end
mutual
def Sn.fits:Sn->Sn->Bool
 |.int k,.int k'=>decide (k=k')
 |.bool,.bool=>true
 |.str n,.str m=>Nat.ble n m
 |.st fs,.st g=>Sn.my fs g
 |.sl el sz n e,.sl vC h m e'=>Nat.beq el vC&&Nat.beq sz h&&Nat.ble n m&&Sn.fits e e'
 |.ptr fs,.ptr g=>Sn.my fs g
 |.kr f a c,.kr j p l=>Nat.beq f j&&(Sn.my a p&&Sn.my c l)
 |.mp k e,.mp k' e'=>decide (k=k')&&Sn.fits e e'
 |.wh s q,.wh t q'=>Sn.fits s t&&q'.all λc=>q.any (zEv c)
 |.wh s _,t=>Sn.fits s t
 |_,_=>false
def Sn.my:LZ->LZ->Bool
 | [],[]=>true
 |a::l,b::m=>Sn.fits a b&&Sn.my l m
 |_,_=>false
end
mutual
theorem yS:∀{s t:Sn} {d:D},Sn.fits s t=true->zC s d->zC t d
 |.int k,t,d,h,hd=>by
  cases t<;>simp only[Sn.fits]at h<;>first|(cases h;done)|skip
  grind
 |.bool,t,d,h,hd=>by
  cases t<;>simp only[Sn.fits]at h<;>first|(cases h;done)|skip
  exact hd
 |.str n,t,d,h,hd=>by
  cases t<;>simp only[Sn.fits]at h<;>first|(cases h;done)|skip
  simp only[zC]at hd ⊢;obtain⟨s,rfl,hs⟩:=hd;exact⟨s,rfl,lT hs (oA h)⟩
 |.st fs,t,d,h,hd=>by
  cases t<;>simp only[Sn.fits]at h<;>first|(cases h;done)|skip
  simp only[zC]at hd ⊢;obtain⟨cs,rfl,hs⟩:=hd;exact⟨cs,rfl,eW h hs⟩
 |.sl el sz n e,t,d,h,hd=>by
  cases t<;>simp only[Sn.fits]at h<;>first|(cases h;done)|skip
  simp only[aE]at h;obtain⟨⟨⟨l,j⟩,h3⟩,H⟩:=h;have l:=vW l;have j:=vW j;subst l j;simp only[zC]at hd ⊢;rcases hd with rfl|⟨es,rfl,u,g⟩
  ·exact .inl rfl
  exact .inr ⟨es,rfl,lT u (oA h3),λx p=>yS H (g x p)⟩
 |.any,t,d,h,hd=>by cases t<;>simp only[Sn.fits]at h<;>cases h
 |.ptr fs,t,d,h,hd=>by
  cases t<;>simp only[Sn.fits]at h<;>first|(cases h;done)|skip
  simp only[zC]at hd ⊢;obtain⟨cs,rfl,hs⟩:=hd;exact⟨cs,rfl,eW h hs⟩
 |.kr f a c,t,d,h,hd=>by
  cases t<;>simp only[Sn.fits]at h<;>first|(cases h;done)|skip
  simp only[aE]at h;have l:=vW h.1;subst l;simp only[zC]at hd ⊢;obtain⟨az,cs,rfl,g,A⟩:=hd;exact⟨az,cs,rfl,eW h.2.1 g,eW h.2.2 A⟩
 |.mp k e,t,d,h,hd=>by
  cases t<;>simp only[Sn.fits]at h<;>first|(cases h;done)|skip
  simp only[aE,fk]at h;obtain⟨rfl,j⟩:=h;simp only[zC]at hd ⊢;obtain⟨B,ds,rfl,u,G,g⟩:=hd;exact⟨B,ds,rfl,u,G,λx p=>yS j (g x p)⟩
 |.wh s q,t,d,h,hd=>by
  simp only[zC]at hd;cases t;case wh t q'=>simp only[Sn.fits,aE]at h;simp only[zC];refine⟨yS h.1 hd.1,λc A=>?_⟩;obtain⟨I,z,e⟩:=ke.1 (al.1 h.2 c A);rw[qX7 e];exact hd.2 I z
  all_goals simp only[Sn.fits]at h;exact yS h hd.1
theorem eW:∀{ss ts:LZ} {ds:LR},Sn.my ss ts=true->zS ss ds->zS ts ds
 | [],ts,ds,h,hd=>by
  cases ts<;>simp only[Sn.my]at h<;>first|(cases h;done)|skip
  exact hd
 |s::ss,ts,ds,h,hd=>by
  cases ts<;>simp only[Sn.my]at h<;>first|(cases h;done)|skip
  simp only[aE]at h;simp only[zS]at hd ⊢;obtain⟨d,r,rfl,j,g⟩:=hd;exact⟨d,r,rfl,yS h.1 j,eW h.2 g⟩
end
abbrev Wd:=List (Int×D)
abbrev jX:=Nat×Nat×Int
def sN(σ:Wd)(q:jX):Prop:=∃x y,σ[q.1]? = some x/\σ[q.2.1]? = some y/\x.1<=y.1+q.2.2
def zCe(σ:Wd)(q:Nat×Nat):Prop:=∃x,σ[q.1]? = some x/\0<=x.1/\x.1<=(q.2:Int)
inductive Y where
 |int (k:IntKind) (v:Nat) (c:Int)
 |bool (t f:List jX)
 |str (n b:Nat)
 |sl (n el sz b:Nat) (e:Sn)
 |st (cs:List Y)
 |nil
 |kr (f:Nat) (a c:List Y)
 |gd (cs:List Y)
 |any
 |ptr (cs:List Y) (off:Nat)
 |mp (k:Option IntKind) (e:Sn)
 |sa
abbrev LU:=List Y
mutual
def qW(σ:Wd):Y->La
 |.int k v c,d=>∃x,σ[v]? = some x/\d=.leaf (.int k (x.1+c))
 |.bool t f,d=>∃b,d=.leaf (.bool b)/\(b=true->∀q∈t,sN σ q)/\(b=false->∀q∈f,sN σ q)
 |.str n b,d=>∃s x,d=.leaf (.string s)/\σ[n]? = some x/\x.1=(s.size:Int)/\s.size<=b
 |.sl n el sz b e,d=>σ[n]? = some ((d.es.length:Int),d)/\zC (.sl el sz b e) d
 |.st cs,d=>∃ds,d=.agg ds/\qT σ cs ds
 |.nil,d=>d=.nil
 |.kr f a c,d=>∃az cs,d=.kr (.func f) az cs/\qT σ a az/\qT σ c cs
 |.gd cs,d=>∃ds,d=.gd ds/\qT σ cs ds
 |.any,_=>True
 |.ptr cs off,d=>∃ds,d=.ptr ds off/\qT σ cs ds
 |.mp k e,d=>zC (.mp k e) d
 |.sa,d=>d=.mp [] []
def qT(σ:Wd):LU->LR->Prop
 | [],l=>l=[]
 |y::ys,l=>∃d ds,l=d::ds/\qW σ y d/\qT σ ys ds
end
variable{x:Int×D}{σ τ:Wd}
theorem zU{n:Nat}(h:σ[n]? = some x):(σ++τ)[n]? = some x:=by grind
theorem qGa{q:jX}(h:sN σ q):sN (σ++τ) q:=by obtain⟨x,y,j,g,h3⟩:=h;exact⟨x,y,zU j,zU g,h3⟩
theorem qS0{q:Nat×Nat}(h:zCe σ q):zCe (σ++τ) q:=by obtain⟨x,j,g⟩:=h;exact⟨x,zU j,g⟩
mutual
theorem mL{σ τ:Wd}:∀{y:Y} {d:D},qW σ y d->qW (σ++τ) y d
 |.int k v c,d,h=>by simp only[qW]at h ⊢;grind
 |.bool t f,d,h=>by simp only[qW]at h ⊢;obtain⟨b,j,g,h3⟩:=h;exact⟨b,j,λp q l=>qGa (g p q l),λp q l=>qGa (h3 p q l)⟩
 |.str n b,d,h=>by simp only[qW]at h ⊢;grind
 |.sl n el sz b e,d,h=>by simp only[qW]at h ⊢;exact⟨zU h.1,h.2⟩
 |.st cs,d,h=>by simp only[qW]at h ⊢;obtain⟨ds,j,g⟩:=h;exact⟨ds,j,zM g⟩
 |.nil,d,h=>by simp only[qW]at h ⊢;exact h
 |.kr f a c,d,h=>by simp only[qW]at h ⊢;obtain⟨az,cs,j,g,h3⟩:=h;exact⟨az,cs,j,zM g,zM h3⟩
 |.ptr cs off,d,h=>by simp only[qW]at h ⊢;obtain⟨ds,j,g⟩:=h;exact⟨ds,j,zM g⟩
 |.mp k e,d,h=>by simp only[qW]at h ⊢;exact h
 |.sa,d,h=>by simp only[qW]at h ⊢;exact h
 |.gd cs,d,h=>by simp only[qW]at h ⊢;obtain⟨ds,j,g⟩:=h;exact⟨ds,j,zM g⟩
 |.any,d,h=>by simp only[qW]
theorem zM{σ τ:Wd}:∀{ys:LU} {ds:LR},qT σ ys ds->qT (σ++τ) ys ds
 | [],ds,h=>by simp only[qT]at h ⊢;exact h
 |y::ys,ds,h=>by simp only[qT]at h ⊢;obtain⟨d,r,j,g,h3⟩:=h;exact⟨d,r,j,mL g,zM h3⟩
end
def zA8:Int->Int->Bool
 |.ofNat a,.ofNat b=>Nat.ble a b
 |.negSucc a,.negSucc b=>Nat.ble b a
 |.negSucc _,.ofNat _=>true
 |.ofNat _,.negSucc _=>false
theorem qJb:∀{a b:Int},zA8 a b=true->a<=b
 |.ofNat a,.ofNat b,h=>by have:=oA h;show(a:Int)<=(b:Int);omega
 |.negSucc a,.negSucc b,h=>by have:=oA h;omega
 |.negSucc a,.ofNat b,_=>by show Int.negSucc a<=(b:Int);omega
 |.ofNat _,.negSucc _,h=>by cases h
def dK:List (Nat×Int)->Nat->Option Int
 | [],_=>none
 |(w,d)::r,u=>bif Nat.beq w u then some d else dK r u
def qYz(acc:List (Nat×Int))(w:Nat)(d:Int):List (Nat×Int):=match dK acc w with
 |some d'=>bif zA8 d' d then acc else(w,d)::acc
 |none=>(w,d)::acc
def qNX(q:jX)(acc:List (Nat×Int)):List (Nat×Int):=match dK acc q.1 with
 |some d=>qYz acc q.2.1 (Int.add d q.2.2)
 |none=>acc
def gU:List jX->List (Nat×Int)->List (Nat×Int)
 | [],acc=>acc
 |q::r,acc=>gU r (qNX q acc)
def qJH(F:List jX):Nat->List (Nat×Int)->List (Nat×Int)
 |0,acc=>acc
 |n+1,acc=>qJH F n (gU F acc)
def qQK(σ:Wd)(a:Nat)(acc:List (Nat×Int)):Prop:=∀p∈acc,sN σ (a,p.1,p.2)
variable{acc:List (Nat×Int)}
theorem qAn{u:Nat}{d:Int}(h:dK acc u=some d):(u,d)∈acc:=by
 induction acc with
 |nil=>cases h
 |cons p r ih=>
  obtain⟨w,e⟩:=p;simp only[dK]at h;cases g:Nat.beq w u with
  |true=>rw[g]at h;have:=vW g;subst this;cases h;exact aq
  |false=>rw[g]at h;exact mC _ (ih h)
variable{w:Nat}
theorem qS7{a:Nat}{d:Int}(h:qQK σ a acc)(hd:sN σ (a,w,d)):qQK σ a (qYz acc w d):=by
 have j:qQK σ a ((w,d)::acc):=λp g=>by
  rcases bl.1 g with rfl|g
  ·exact hd
  exact h p g
 unfold qYz;grind
variable{c:Int}{v:Nat}
theorem qMt{a u:Nat}{d:Int}(q:sN σ (a,u,d))(p:sN σ (u,v,c)):sN σ (a,v,d+c):=by obtain⟨x,y,g,hu,l⟩:=q;obtain⟨A,z,h,hv,j⟩:=p;simp only at g hu l h hv j;rw[hu]at h;cases h;exact⟨x,z,g,hv,by simp only;omega⟩
theorem qNW{a:Nat}{q:jX}(g:sN σ q)(h:qQK σ a acc):qQK σ a (qNX q acc):=by
 unfold qNX;split
 ·rename_i d hd;exact qS7 h (qMt (h _ (qAn hd)) g)
 exact h
theorem qEl{σ:Wd}{a:Nat}:∀(F:List jX) (acc:List (Nat×Int)),(∀q∈F,sN σ q)->qQK σ a acc->qQK σ a (gU F acc)
 | [],_,_,h=>h
 |q::r,acc,g,h=>by unfold gU;exact qEl r _ (λx j=>g x (mC _ j)) (qNW (g q aq) h)
def qS4(acc:List (Nat×Int))(h:Int):List (Nat×Nat)->Bool
 | []=>false
 |(w,m)::r=>(match dK acc w with
  |some d=>zA8 (Int.add d (Int.ofNat m)) h
  |none=>false)||qS4 acc h r
def qYE(L:List (Nat×Nat))(acc:List (Nat×Int))(b:Nat)(h:Int):Bool:=
 (match dK acc b with
 |some d=>zA8 d h
 |none=>false)||(Nat.beq b 0&&qS4 acc h L)
def qKf(F:List jX)(L:List (Nat×Nat))(b:Nat)(h:Int):Nat->List (Nat×Int)->Bool
 |0,acc=>qYE L acc b h
 |n+1,acc=>qYE L acc b h||qKf F L b h n (gU F acc)
def qGF:List (Nat×Nat)->List (Nat×Int)
 | []=>[]
 |(w,_)::r=>(w,0)::qGF r
def qJC(n:Nat)(F:List jX)(L:List (Nat×Nat))(a:Nat)(g:Int)(b:Nat)(h:Int):Bool:=
 bif Nat.beq a b then zA8 g h else qKf F L b (Int.sub h g) n (bif Nat.beq a 0 then(0,0)::qGF L else[(a,0)])
abbrev kE:=qJC 4
structure SOk (σ:Wd) (F:List jX) (L:List (Nat×Nat)):Prop where
 z:∃d,σ[0]? = some (0,d)
 f:∀q∈F,sN σ q
 l:∀q∈L,zCe σ q
theorem qLt{acc:List (Nat×Int)}{g:Int}:∀{L:List (Nat×Nat)},qS4 acc g L=true->∃p∈L,∃d,dK acc p.1=some d/\d+(p.2:Int)<=g
 | [],h=>by cases h
 | (w,m)::r,h=>by
  simp only[qS4]at h;rcases eg.1 h with h|h
  ·split at h
   ·rename_i d hd;exact⟨_,aq,d,hd,qJb h⟩
   cases h
  obtain⟨p,j,q⟩:=qLt h;grind
theorem qD4{p:Nat×Int}:∀{L:List (Nat×Nat)},p∈qGF L->∃q∈L,p=(q.1,0)
 | [],h=>by cases h
 |(w,m)::r,h=>by
  simp only[qGF]at h;rcases bl.1 h with rfl|h
  ·simp_all
  obtain⟨q,g,e⟩:=qD4 h;grind
variable{F:List jX}{L:List (Nat×Nat)}{b:Nat}
theorem qOc(u:SOk σ F L){a:Nat}{j:Int}{y:Int×D}(I:σ[a]? = some x)(H:σ[b]? = some y):∀(n:Nat) (acc:List (Nat×Int)),qQK σ a acc->qKf F L b j n acc=true->x.1<=y.1+j:=by
 have one:∀acc,qQK σ a acc->qYE L acc b j=true->x.1<=y.1+j:=by
  intro acc g h;unfold qYE at h;rcases eg.1 h with h|h
  ·split at h
   ·rename_i d hd;obtain⟨B,A,q,l,h3⟩:=g _ (qAn hd);simp only at q l h3;rw[I]at q;rw[H]at l;cases q;cases l;have:=qJb h;omega
   cases h
  rw[aE]at h;have J:=vW h.1;subst J;obtain⟨p,G,d,hd,hle⟩:=qLt h.2;obtain⟨B,A,q,l,h3⟩:=g _ (qAn hd);obtain⟨z,M,_,h5⟩:=u.l p G;obtain⟨e,K⟩:=u.z;grind
 intro n;induction n with
 |zero=>intro acc g h;exact one acc g h
 |succ n ih=>
  intro acc g h;simp only[qKf]at h;rcases eg.1 h with h|h
  ·exact one acc g h
  exact ih _ (qEl F acc u.f g) h
theorem qGi{n:Nat}(u:SOk σ F L){a:Nat}{G B:Int}(h:qJC n F L a G b B=true){y:Int×D}(l:σ[a]? = some x)(A:σ[b]? = some y):x.1+G<=y.1+B:=by
 unfold qJC at h;cases g:Nat.beq a b with
 |true=>rw[g]at h;have:=vW g;subst this;rw[l]at A;cases A;have:=qJb h;omega
 | false=>
  rw[g]at h;simp only[bc]at h;have I:qQK σ a (bif Nat.beq a 0 then(0,0)::qGF L else[(a,0)]):=by
   cases K:Nat.beq a 0 with
   |true=>
    have:=vW K;subst this;obtain⟨d,hd⟩:=u.z;intro p j;rcases bl.1 j with rfl|j
    ·exact⟨_,_,hd,hd,by simp⟩
    obtain⟨q,H,rfl⟩:=qD4 j;obtain⟨z,J,M,_⟩:=u.l q H;exact⟨_,_,hd,J,by simp only;omega⟩
   |false=>intro p j;rw[bc,aw]at j;subst j;exact⟨_,_,l,l,by simp⟩
  have:=qOc u l A n _ I h;grind
theorem vM(l:SOk σ F L){a:Nat}{j g:Int}(h:kE F L a j b g=true){y:Int×D}(q:σ[a]? = some x)(p:σ[b]? = some y):x.1+j<=y.1+g:=qGi l h q p
structure El where
 n:Nat
 v:Nat
 c:Int
 y:Y
structure Cx where
 F:List jX
 L:List (Nat×Nat)
 qe:List El
 nx:Nat
abbrev LY:=Cx×Y
def Cx.add(C:Cx)(F:List jX)(L:List (Nat×Nat))(qe:List El)(k:Nat):Cx:=⟨F++C.F,L++C.L,qe++C.qe,Nat.add C.nx k⟩
def qMB(σ:Wd)(e:El):Prop:=∃x d i z,σ[e.n]? = some (x,d)/\σ[e.v]? = some i/\0<=i.1+e.c/\d.es[(i.1+e.c).toNat]? = some z/\qW σ e.y z
theorem qPX{e:El}(h:qMB σ e):qMB (σ++τ) e:=by obtain⟨x,d,i,z,l,j,h3,g,h5⟩:=h;exact⟨x,d,i,z,zU l,zU j,h3,g,mL h5⟩
structure COk (σ:Wd) (C:Cx):Prop where
 s:SOk σ C.F C.L
 e:∀e∈C.qe,qMB σ e
 n:σ.length=C.nx
variable{C:Cx}
theorem COk.ext(h:COk σ C){qe:List El}{k:Nat}(p:∀q∈F,sN (σ++τ) q)(l:∀q∈L,zCe (σ++τ) q)(u:∀q∈qe,qMB (σ++τ) q)(j:τ.length=k):COk (σ++τ) (C.add F L qe k):=by
 refine⟨⟨?_,λq g=>?_,λq g=>?_⟩,λq g=>?_,?_⟩
 ·obtain⟨d,hd⟩:=h.s.z;exact⟨d,zU hd⟩
 ·rcases bh.1 g with g|g
  ·exact p q g
  exact qGa (h.s.f q g)
 ·rcases bh.1 g with g|g
  ·exact l q g
  exact qS0 (h.s.l q g)
 ·rcases bh.1 g with g|g
  ·exact u q g
  exact qPX (h.e q g)
 show(σ++τ).length=C.nx+k;rw[bx,h.n,j]
theorem COk.facts(h:COk σ C)(g:∀q∈F,sN σ q):COk σ (C.add F [] [] 0):=by have:=h.ext (τ:=[]) (F:=F) (L:=[]) (qe:=[]) (k:=0) (by simpa using g) (by simp) (by simp) rfl;simpa using this
theorem get_new(h:COk σ C)(x:Int×D):(σ++[x])[C.nx]? = some x:=by rw[←h.n];simp
variable{i:Nat}
theorem getD_some{ρ:LR}{d:D}(h:ρ[i]? = some d):getD ρ i=d:=by unfold getD;grind
theorem gX{σ:Wd}:∀{ys:LU} {ds:LR} {i:Nat} {y:Y},qT σ ys ds->ys[i]? = some y->∃d,ds[i]? = some d/\qW σ y d
 | [],ds,i,y,h,g=>by simp at g
 |z::ys,ds,i,y,h,g=>by
  simp only[qT]at h;obtain⟨d,r,rfl,l,j⟩:=h;cases i with
  |zero=>simp only[dq,oI]at g;subst g;exact⟨d,by simp,l⟩
  |succ i=>simp only[ix]at g ⊢;exact gX j g
def qNg:Y->Option (Nat×Int)
 |.int _ v c=>some (v,c)
 |.sl n _ _ _ _=>some (n,0)
 |.str n _=>some (n,0)
 |.nil=>some (0,0)
 |_=>none
variable{y:Y}
theorem qFg(p:COk σ C){d:D}(hd:qW σ y d)(h:qNg y=some (v,c)):∃x,σ[v]? = some x/\oK d=x.1+c:=by
 obtain⟨z,l⟩:=p.s.z;cases y<;>simp only[qNg]at h<;>first|(cases h;done)|cases h
 ·simp only[qW]at hd;obtain⟨x,g,rfl⟩:=hd;exact⟨x,g,rfl⟩
 ·simp only[qW]at hd;obtain⟨s,x,rfl,g,hs,_⟩:=hd;exact⟨x,g,by show(s.size:Int)=_;omega⟩
 ·simp only[qW]at hd;refine⟨_,hd.1,?_⟩;have j:=hd.2;simp only[zC]at j;rcases j with rfl|⟨es,rfl,_⟩
  ·show(0:Int)=_;simp[D.es]
  show((es.length:Nat):Int)=_;simp[D.es]
 simp only[qW]at hd;subst hd;exact⟨_,l,by show((D.nil.es.length:Nat):Int)=_;simp[D.es]⟩
def iP:LC->Y->Option Y
 | [],y=>some y
 |i::r,.st cs=>match cs[i]? with
  |some y=>iP r y
  |none=>none
 |_::_,_=>none
theorem mD{σ:Wd}:∀{p:LC} {y g:Y} {d:D},qW σ y d->iP p y=some g->qW σ g (sT p d)
 | [],y,g,d,hd,h=>by simp only[iP]at h;cases h;exact hd
 |i::r,y,g,d,hd,h=>by
  cases y<;>simp only[iP]at h<;>first|(cases h;done)|skip
  simp only[qW]at hd;obtain⟨ds,rfl,hs⟩:=hd;split at h
  ·rename_i q j;obtain⟨e,he,hr⟩:=gX hs j;simp only[sT,getD_some he];exact mD hr h
  cases h
def qIN(ys:LU):Pt->Option (Nat×Int)
 |.z=>some (0,0)
 |.aT p=>match iP p (.st ys)with
  |some y=>qNg y
  |none=>none
 |.el _ _ _=>none
variable{ys:LU}
theorem qBy(j:COk σ C){ds:LR}{p:Pt}(hd:qT σ ys ds)(h:qIN ys p=some (v,c)):∃x,σ[v]? = some x/\qFu ds p=x.1+c:=by
 obtain⟨z,l⟩:=j.s.z;have g:qW σ (.st ys) (.agg ds):=by simp only[qW];exact⟨ds,rfl,hd⟩
 cases p with
 |z=>simp only[qIN]at h;cases h;exact⟨_,l,by simp[qFu]⟩
 |aT p=>
  simp only[qIN]at h;split at h
  ·rename_i y u;exact qFg j (mD g u) h
  cases h
 |el p q f=>cases h
def qPE(ys:LU)(q:Cn):List jX:=match qIN ys q.1,qIN ys q.2.1 with
 |some (v,c),some (w,e)=>[(v,w,e+q.2.2-c)]
 |_,_=>[]
theorem qPD(j:COk σ C){ds:LR}{l:List Cn}(hd:qT σ ys ds)(h:∀q∈l,qBM ds q):∀f∈l.flatMap (qPE ys),sN σ f:=by
 intro f g;obtain⟨q,z,g⟩:=List.mem_flatMap.1 g;unfold qPE at g;split at g
 ·rename_i v c w e B A;obtain⟨x,u,H⟩:=qBy j hd B;obtain⟨y,p,G⟩:=qBy j hd A;have:=h q z;unfold qBM at this;rw[aw]at g;subst g;exact⟨x,y,u,p,by simp only;omega⟩
 cases g
def qLe(C:Cx)(ys:LU)(q:Cn):Bool:=match qIN ys q.1,qIN ys q.2.1 with
 |some (v,c),some (w,e)=>kE C.F C.L v c w (e+q.2.2)
 |_,_=>false
theorem qP9(g:COk σ C){ds:LR}{q:Cn}(hd:qT σ ys ds)(h:qLe C ys q=true):qBM ds q:=by
 unfold qLe at h;split at h
 ·rename_i v c w e u p;obtain⟨x,l,A⟩:=qBy g hd u;obtain⟨y,j,z⟩:=qBy g hd p;have:=vM g.s h l j;unfold qBM;omega
 cases h
mutual
def fresh:Sn->Cx->LY
 |.int k,C=>(C.add [] [] [] 1,.int k C.nx 0)
 |.bool,C=>(C,.bool [] [])
 |.str b,C=>(C.add [] [(C.nx,b)] [] 1,.str C.nx b)
 |.st fs,C=>((wY fs C).1,.st (wY fs C).2)
 |.sl el sz b e,C=>(C.add [] [(C.nx,b)] [] 1,.sl C.nx el sz b e)
 |.any,C=>(C,.any)
 |.ptr fs,C=>((wY fs C).1,.ptr (wY fs C).2 0)
 |.kr f a c,C=>((wY c (wY a C).1).1,.kr f (wY a C).2 (wY c (wY a C).1).2)
 |.mp k e,C=>(C,.mp k e)
 |.wh s q,C=>((fresh s C).1.add (q.flatMap (qPE [(fresh s C).2])) [] [] 0,(fresh s C).2)
def wY:LZ->Cx->Cx×LU
 | [],C=>(C,[])
 |s::r,C=>((wY r (fresh s C).1).1,(fresh s C).2::(wY r (fresh s C).1).2)
end
theorem gB(h:COk σ C):COk (σ++[]) C:=by rw[cr];exact h
mutual
theorem eT:∀{s:Sn} {d:D} {σ:Wd} {C:Cx},zC s d->COk σ C->∃τ,COk (σ++τ) (fresh s C).1/\qW (σ++τ) (fresh s C).2 d
 |.int k,d,σ,C,h,g=>by simp only[zC]at h;obtain⟨n,rfl⟩:=h;refine⟨[(n,.nil)],g.ext (by simp) (by simp) (by simp) rfl,?_⟩;simp only[fresh,qW];exact⟨_,get_new g _,by simp⟩
 |.bool,d,σ,C,h,g=>by simp only[zC]at h;obtain⟨b,rfl⟩:=h;refine⟨[],gB g,?_⟩;simp only[fresh,qW];simp_all
 |.str b,d,σ,C,h,g=>by
  simp only[zC]at h;obtain⟨s,rfl,hs⟩:=h;refine⟨[((s.size:Int),.nil)],g.ext (by simp) (λq p=>?_) (by simp) rfl,?_⟩
  ·rw[aw]at p;subst p;exact⟨_,get_new g _,by simp,by simp;omega⟩
  simp only[fresh,qW];exact⟨s,_,rfl,get_new g _,rfl,hs⟩
 |.st fs,d,σ,C,h,g=>by simp only[zC]at h;obtain⟨cs,rfl,hs⟩:=h;obtain⟨τ,l,j⟩:=gA hs g;refine⟨τ,l,?_⟩;simp only[fresh,qW];exact⟨cs,rfl,j⟩
 | .sl el sz b e,d,σ,C,h,g=>by
  have G:d.es.length<=b:=by
   simp only[zC]at h;rcases h with rfl|⟨es,rfl,h,_⟩
   ·exact cq _
   exact h
  refine⟨[((d.es.length:Int),d)],g.ext (by simp) (λq p=>?_) (by simp) rfl,?_⟩
  ·rw[aw]at p;subst p;exact⟨_,get_new g _,by simp,by simp;omega⟩
  simp only[fresh,qW];exact⟨get_new g _,h⟩
 |.any,d,σ,C,h,g=>by refine⟨[],gB g,?_⟩;simp only[fresh,qW]
 |.ptr fs,d,σ,C,h,g=>by simp only[zC]at h;obtain⟨cs,rfl,hs⟩:=h;obtain⟨τ,l,j⟩:=gA hs g;refine⟨τ,l,?_⟩;simp only[fresh,qW];exact⟨cs,rfl,j⟩
 |.kr f a c,d,σ,C,h,g=>by simp only[zC]at h;obtain⟨az,cs,rfl,A,z⟩:=h;obtain⟨τ,l,j⟩:=gA A g;obtain⟨u,h3,B⟩:=gA z l;refine⟨τ++u,by rw[←ay];exact h3,?_⟩;simp only[fresh,qW];exact⟨az,cs,rfl,by rw[←ay];exact zM j,by rw[←ay];exact B⟩
 |.mp k e,d,σ,C,h,g=>by refine⟨[],gB g,?_⟩;simp only[fresh,qW];exact h
 |.wh s q,d,σ,C,h,g=>by simp only[zC]at h;obtain⟨τ,l,j⟩:=eT h.1 g;exact⟨τ,l.facts (qPD l (by simp only[qT];exact⟨d,[],rfl,j,rfl⟩) h.2),j⟩
theorem gA:∀{ss:LZ} {ds:LR} {σ:Wd} {C:Cx},zS ss ds->COk σ C->∃τ,COk (σ++τ) (wY ss C).1/\qT (σ++τ) (wY ss C).2 ds
 | [],ds,σ,C,h,j=>by simp only[zS]at h;refine⟨[],gB j,?_⟩;simp only[wY,qT];exact h
 |s::r,ds,σ,C,h,j=>by simp only[zS]at h;obtain⟨d,l,rfl,q,p⟩:=h;obtain⟨τ,a1,a2⟩:=eT q j;obtain⟨g,z,u⟩:=gA p a1;refine⟨τ++g,by rw[←ay];exact z,?_⟩;simp only[wY,qT];exact⟨d,l,rfl,by rw[←ay];exact mL a2,by rw[←ay];exact u⟩
end
mutual
def mT(C:Cx):Y->Sn->Bool
 |_,.any=>true
 |y,.wh s q=>mT C y s&&q.all (qLe C [y])
 |.int k _ _,.int k'=>decide (k=k')
 |.bool _ _,.bool=>true
 |.str n b,.str m=>Nat.ble b m||kE C.F C.L n 0 0 m
 |.st cs,.st fs=>oE C cs fs
 |.sl n el sz b e,.sl vC h m e'=>Nat.beq el vC&&Nat.beq sz h&&e.fits e'&&(Nat.ble b m||kE C.F C.L n 0 0 m)
 |.nil,.sl _ _ _ _=>true
 |.ptr cs off,.ptr fs=>Nat.beq off 0&&oE C cs fs
 |.kr f a c,.kr g l j=>Nat.beq f g&&(oE C a l&&oE C c j)
 |.mp k e,.mp k' e'=>decide (k=k')&&e.fits e'
 |.sa,.mp _ _=>true
 |_,_=>false
def oE(C:Cx):LU->LZ->Bool
 | [],[]=>true
 |y::ys,s::ss=>mT C y s&&oE C ys ss
 |_,_=>false
end
theorem uK(g:COk σ C){n m:Nat}(l:σ[n]? = some x)(h:kE C.F C.L n 0 0 (m:Int)=true):x.1<=(m:Int):=by obtain⟨z,j⟩:=g.s.z;have:=vM g.s h l j;simpa using this
mutual
theorem rN{σ:Wd}{C:Cx}(j:COk σ C):∀{s:Sn} {y:Y} {d:D},mT C y s=true->qW σ y d->zC s d
 |.any,y,d,h,hd=>by simp only[zC]
 |.wh s q,y,d,h,hd=>by
  have h:(mT C y s&&q.all (qLe C [y]))=true:=by cases y<;>simpa only[mT]using h
  rw[aE]at h;simp only[zC];exact⟨rN j h.1 hd,λc J=>qP9 j (by simp only[qT];exact⟨d,[],rfl,hd,rfl⟩) (al.1 h.2 c J)⟩
 |.int k',y,d,h,hd=>by
  cases y<;>simp only[mT]at h<;>first|(cases h;done)|skip
  rw[fk]at h;subst h;simp only[qW]at hd;obtain⟨x,_,rfl⟩:=hd;simp only[zC];exact⟨_,rfl⟩
 |.bool,y,d,h,hd=>by
  cases y<;>simp only[mT]at h<;>first|(cases h;done)|skip
  simp only[qW]at hd;obtain⟨b,rfl,_⟩:=hd;simp only[zC];exact⟨_,rfl⟩
 |.str m,y,d,h,hd=>by
  cases y<;>simp only[mT]at h<;>first|(cases h;done)|skip
  simp only[qW]at hd;obtain⟨t,x,rfl,g,l,h3⟩:=hd;simp only[zC];refine⟨_,rfl,?_⟩;rcases eg.1 h with h|h
  ·exact lT h3 (oA h)
  have:=uK j g h;omega
 |.st fs,y,d,h,hd=>by
  cases y<;>simp only[mT]at h<;>first|(cases h;done)|skip
  simp only[qW]at hd;obtain⟨ds,rfl,g⟩:=hd;simp only[zC];exact⟨_,rfl,kV j h g⟩
 | .sl vC B m e',y,d,h,hd=>by
  cases y<;>simp only[mT]at h<;>first|(cases h;done)|skip
  ·rename_i n el sz b e;simp only[aE]at h;obtain⟨⟨⟨g,l⟩,h3⟩,K⟩:=h;have g:=vW g;have l:=vW l;subst g l;simp only[qW]at hd;obtain⟨H,hd⟩:=hd;simp only[zC]at hd ⊢;rcases hd with rfl|⟨es,rfl,u,z⟩
   ·exact .inl rfl
   refine .inr ⟨es,rfl,?_,λx p=>yS h3 (z x p)⟩;rcases eg.1 K with h|h
   ·exact lT u (oA h)
   have:=uK j H h;have e:(D.sl el sz es).es.length=es.length:=rfl;simp only[e]at this;omega
  simp only[qW]at hd;subst hd;simp only[zC];exact .inl trivial
 |.ptr fs,y,d,h,hd=>by
  cases y<;>simp only[mT]at h<;>first|(cases h;done)|skip
  rw[aE]at h;have A:=vW h.1;subst A;simp only[qW]at hd;obtain⟨ds,rfl,g⟩:=hd;simp only[zC];exact⟨_,rfl,kV j h.2 g⟩
 |.kr f a c,y,d,h,hd=>by
  cases y<;>simp only[mT]at h<;>first|(cases h;done)|skip
  simp only[aE]at h;have A:=vW h.1;subst A;simp only[qW]at hd;obtain⟨az,cs,rfl,g,l⟩:=hd;simp only[zC];exact⟨_,_,rfl,kV j h.2.1 g,kV j h.2.2 l⟩
 |.mp k e,y,d,h,hd=>by
  cases y<;>simp only[mT]at h<;>first|(cases h;done)|skip
  ·simp only[aE,fk]at h;obtain⟨rfl,l⟩:=h;simp only[qW,zC]at hd;simp only[zC];obtain⟨G,ds,rfl,u,I,z⟩:=hd;exact⟨G,ds,rfl,u,I,λx p=>yS l (z x p)⟩
  simp only[qW]at hd;subst hd;simp only[zC];grind
theorem kV{σ:Wd}{C:Cx}(g:COk σ C):∀{ss:LZ} {ys:LU} {ds:LR},oE C ys ss=true->qT σ ys ds->zS ss ds
 | [],ys,ds,h,hd=>by
  cases ys<;>simp only[oE]at h<;>first|(cases h;done)|skip
  simp only[qT]at hd;simp only[zS];exact hd
 |s::ss,ys,ds,h,hd=>by
  cases ys<;>simp only[oE]at h<;>first|(cases h;done)|skip
  simp only[aE]at h;simp only[qT]at hd;obtain⟨d,r,rfl,l,j⟩:=hd;simp only[zS];exact⟨d,r,rfl,rN g h.1 l,kV g h.2 j⟩
end
def yX(E:Env)(σ:Wd)(o:TOp)(ds:LR)(r:LY):Prop:=∃d τ,TOp.eval E o ds=some d/\COk (σ++τ) r.1/\qW (σ++τ) r.2 d
variable{e:Sn}{el:Nat}{k:IntKind}
section
variable{E:Env}{σ:Wd}{C:Cx}{o:TOp}{ds:LR}{d:D}
theorem yX.same(g:COk σ C)(he:TOp.eval E o ds=some d)(h:qW σ y d):yX E σ o ds (C,y):=
 ⟨d,[],he,gB g,by rw[cr];exact h⟩
theorem yX.fresh(g:COk σ C){s:Sn}(he:TOp.eval E o ds=some d)(h:zC s d):yX E σ o ds (fresh s C):=by obtain⟨τ,l,j⟩:=eT h g;exact⟨d,τ,he,l,j⟩
theorem yX.list(j:COk σ C){sz:Nat}(he:TOp.eval E o ds=some d)(g:zC (.sl el sz b e) d)(p:∀q∈F,sN (σ++[((d.es.length:Int),d)]) q):yX E σ o ds (C.add F [(C.nx,b)] [] 1,.sl C.nx el sz b e):=by
 have u:d.es.length<=b:=by
  simp only[zC]at g;rcases g with rfl|⟨es,rfl,h,_⟩
  ·exact cq _
  exact h
 refine⟨d,[((d.es.length:Int),d)],he,j.ext p (λq l=>?_) (by simp) rfl,?_⟩
 ·rw[aw]at l;subst l;exact⟨_,get_new j _,by simp,by simp;omega⟩
 simp only[qW];exact⟨get_new j _,g⟩
theorem yX.num(h:COk σ C){n:Int}(he:TOp.eval E o ds=some (.leaf (.int k n)))(g:∀q∈F,sN (σ++[(n,D.nil)]) q):yX E σ o ds (C.add F [] [] 1,.int k C.nx 0):=by refine⟨_,[(n,.nil)],he,h.ext g (by simp) (by simp) rfl,?_⟩;simp only[qW];exact⟨_,get_new h _,by simp⟩
end
def zB6(C:Cx)(v:Nat)(c:Int)(w:Nat)(e:Int):List jX:=
 (bif qJC 1 C.F C.L w e v c then[(w,v,c-e-1)]else[])++(bif qJC 1 C.F C.L v c w e then[(v,w,e-c-1)]else[])
def qX9(op:BinOp)(C:Cx)(v:Nat)(c:Int)(w:Nat)(e:Int):Option (List jX×List jX):=match op with
 |.lss=>some ([(v,w,e-c-1)],[(w,v,c-e)])
 |.leq=>some ([(v,w,e-c)],[(w,v,c-e-1)])
 |.gtr=>some ([(w,v,c-e-1)],[(v,w,e-c)])
 |.geq=>some ([(w,v,c-e)],[(v,w,e-c-1)])
 |.eql=>some ([(v,w,e-c),(w,v,c-e)],zB6 C v c w e)
 |.neq=>some (zB6 C v c w e,[(v,w,e-c),(w,v,c-e)])
 |_=>none
theorem qU5(p:COk σ C){e:Int}{y:Int×D}(hv:σ[v]? = some x)(l:σ[w]? = some y)(h:¬x.1+c=y.1+e):∀q∈zB6 C v c w e,sN σ q:=by
 intro q g;unfold zB6 at g;rcases bh.1 g with g|g
 ·cases j:qJC 1 C.F C.L w e v c with
  |false=>rw[j]at g;cases g
  |true=>rw[j,ai,aw]at g;subst g;have:=qGi p.s j l hv;exact⟨y,x,l,hv,by simp only;omega⟩
 cases j:qJC 1 C.F C.L v c w e with
 |false=>rw[j]at g;cases g
 |true=>rw[j,ai,aw]at g;subst g;have:=qGi p.s j hv l;exact⟨x,y,hv,l,by simp only;omega⟩
theorem f1{y:Int×D}(hv:σ[v]? = some x)(j:σ[w]? = some y)(h:x.1<=y.1+c):∀q∈[(v,w,c)],sN σ q:=by intro q g;rw[aw]at g;subst g;exact⟨x,y,hv,j,h⟩
theorem f2{p q:jX}(g:sN σ p)(h:sN σ q):∀r∈[p,q],sN σ r:=by grind
variable{op:BinOp}{ty:LN}
theorem qX8{E:Env}(p:COk σ C){a b:LM}{e:Int}{t f:List jX}{y:Int×D}(h:qX9 op C v c w e=some (t,f))(hv:σ[v]? = some x)(j:σ[w]? = some y):yX E σ (.bin op ty a b) [.leaf (.int k (x.1+c)),.leaf (.int k (y.1+e))] (C,.bool t f):=by
 have l:∀r:Bool,TOp.eval E (.bin op ty a b) [.leaf (.int k (x.1+c)),.leaf (.int k (y.1+e))]=some (dB r)->(r=true->∀q∈t,sN σ q)->(r=false->∀q∈f,sN σ q)->yX E σ (.bin op ty a b) [.leaf (.int k (x.1+c)),.leaf (.int k (y.1+e))] (C,.bool t f):=by intro r he u z;refine .same p he ?_;simp only[qW];exact⟨r,rfl,u,z⟩
 cases op<;>simp only[qX9]at h<;>first|(cases h;done)|(cases h)
 ·exact l _ bC (λg=>f2 ⟨x,y,hv,j,by have:=dT g;simp only;omega⟩ ⟨y,x,j,hv,by have:=dT g;simp only;omega⟩) (λg=>qU5 p hv j (dF g))
 ·exact l _ yQ (λg=>qU5 p hv j (dT g)) (λg=>f2 ⟨x,y,hv,j,by have:=dF g;simp only;omega⟩ ⟨y,x,j,hv,by have:=dF g;simp only;omega⟩)
 ·exact l _ zN (λg=>f1 hv j (by have:=dT g;omega)) (λg=>f1 j hv (by have:=dF g;omega))
 ·exact l _ qFs (λg=>f1 hv j (by have:=dT g;omega)) (λg=>f1 j hv (by have:=dF g;omega))
 ·exact l _ jS (λg=>f1 j hv (by have:=dT g;omega)) (λg=>f1 hv j (by have:=dF g;omega))
 exact l _ rY (λg=>f1 j hv (by have:=dT g;omega)) (λg=>f1 hv j (by have:=dF g;omega))
variable{r:LY}
section
variable{E:Env}{σ:Wd}{C:Cx}
def Sn.small(n:Nat):Bool:=Nat.ble n 300000000
theorem qXi{sz:Nat}{d:D}(h:zC (.sl el sz b e) d)(g:Nat.ble b 300000000=true):oH el sz d:=by
 simp only[zC]at h;rcases h with rfl|⟨es,rfl,h,_⟩
 ·exact .inl rfl
 exact .inr ⟨es,rfl,qJK (lT h (oA g))⟩
theorem qXK{sz:Nat}{d x:D}(h:zC (.sl el sz b e) d)(g:d.es[i]? = some x):zC e x:=by
 simp only[zC]at h;rcases h with rfl|⟨es,rfl,_,h⟩
 ·simp[D.es]at g
 exact h x (be g)
theorem qWU(j:COk σ C){n sz:Nat}{d:D}(h:qW σ (.sl n el sz b e) d):yX E σ (.len false) [d] (C,.int .i64 n 0):=by
 simp only[qW]at h;refine .same j (d:=dI (d.es.length:Int)) ?_ ?_
 ·have g:=h.2;simp only[zC]at g;rcases g with rfl|⟨es,rfl,_,_⟩<;>rfl
 simp only[qW];exact⟨_,h.1,by simp⟩
theorem qRL(h:COk σ C):yX E σ (.len false) [.nil] (C,.int .i64 0 0):=by obtain⟨z,g⟩:=h.s.z;refine .same h (d:=dI ((0:Nat):Int)) rfl ?_;simp only[qW];exact⟨_,g,by simp⟩
theorem qRK(g:COk σ C){n:Nat}{d:D}(h:qW σ (.str n b) d):yX E σ (.len true) [d] (C,.int .i64 n 0):=by simp only[qW]at h;obtain⟨s,x,rfl,l,j,_⟩:=h;refine .same g (d:=dI (s.size:Int)) rfl ?_;simp only[qW];exact⟨_,l,by rw[j];simp⟩
def qER:List El->Nat->Nat->Int->Option Y
 | [],_,_,_=>none
 |e::r,n,v,c=>bif Nat.beq e.n n&&Nat.beq e.v v&&decide (e.c=c)then some e.y else qER r n v c
theorem uH{l:List El}(j:∀e∈l,qMB σ e){n:Nat}(h:qER l n v c=some y):qMB σ ⟨n,v,c,y⟩:=by
 induction l with
 |nil=>cases h
 |cons e r ih=>
  simp only[qER]at h;cases g:(Nat.beq e.n n&&Nat.beq e.v v&&decide (e.c=c))with
  |true=>rw[g,ai]at h;simp only[aE,fk]at g;have q:=vW g.1.1;have p:=vW g.1.2;cases h;have:=j e aq;obtain⟨en,ev,z,u⟩:=e;grind
  |false=>rw[g,bc]at h;exact ih (λe he=>j e (mC _ he)) h
def qR3(C:Cx)(n:Nat)(e:Sn)(v:Nat)(c:Int):Option (LY):=
 match qER C.qe n v c with
 |some _=>some (C,.bool [] [])
 |none=>bif kE C.F C.L 0 0 v c&&kE C.F C.L v (c+1) n 0 then some ((fresh e C).1.add [] [] [⟨n,v,c,(fresh e C).2⟩] 0,.bool [] [])else none
theorem qPi(g:COk σ C){n sz:Nat}{d i:D}(hd:qW σ (.sl n el sz b e) d)(H:qW σ (.int .i64 v c) i)(h:qR3 C n e v c=some r):yX E σ .inr [d,i] r:=by
 simp only[qW]at hd H;obtain⟨x,j,rfl⟩:=H;unfold qR3 at h;split at h
 ·rename_i y N;cases h;obtain⟨O,d',P,z,B,A,h3,I,_⟩:=uH g.e N;simp only at B A h3 I;rw[hd.1]at B;rw[j]at A;cases B;cases A;refine .same g (vD h3 I) ?_;simp only[qW];grind
 obtain⟨u,h⟩:=qZ h;cases h;rw[aE]at u;obtain⟨z,M⟩:=g.s.z;have K:=vM g.s u.1 M j;have J:=vM g.s u.2 j hd.1;simp only at K J;obtain⟨q,l⟩:=mQ (d:=d) (s:=x.1+c) (by omega) (by omega);obtain⟨τ,a1,a2⟩:=eT (qXK hd.2 l) g;refine⟨dB true,τ,vD (by omega) l,?_,?_⟩
 ·have:=a1.ext (τ:=[]) (F:=[]) (L:=[]) (qe:=[⟨n,v,c,(fresh e C).2⟩]) (k:=0) (by simp) (by simp) ?_ rfl
  ·simpa using this
  intro p G;rw[aw]at G;subst G;rw[cr];exact⟨_,d,x,q,zU hd.1,zU j,by simp only;omega,l,a2⟩
 simp only[qW];grind
end
theorem nT{σ:Wd}:∀{ys:LU} {ds:LR},qT σ ys ds->ys.length=ds.length
 | [],ds,h=>by simp only[qT]at h;subst h;rfl
 |y::ys,ds,h=>by simp only[qT]at h;obtain⟨d,r,rfl,_,g⟩:=h;simp[nT g]
theorem aM{σ:Wd}:∀{n:Nat} {ys:LU} {ds:LR},qT σ ys ds->qT σ (ys.drop n) (ds.drop n)
 |0,ys,ds,h=>by simpa using h
 |n+1,[],ds,h=>by simp only[qT]at h;subst h;simp[qT]
 |n+1,y::ys,ds,h=>by simp only[qT]at h;obtain⟨d,r,rfl,_,g⟩:=h;simpa using aM (n:=n) g
theorem aL{σ:Wd}:∀{n:Nat} {ys:LU} {ds:LR},qT σ ys ds->qT σ (ys.take n) (ds.take n)
 |0,ys,ds,h=>by simp[qT]
 |n+1,[],ds,h=>by simp only[qT]at h;subst h;simp[qT]
 |n+1,y::ys,ds,h=>by simp only[qT]at h;obtain⟨d,r,rfl,j,g⟩:=h;simp only[ji,qT];exact⟨d,_,rfl,j,aL (n:=n) g⟩
def qFO:Y->Bool
 |.int _ _ _=>true
 |.bool _ _=>true
 |.str _ _=>true
 |.sl _ _ _ _ _=>true
 |.nil=>true
 |.ptr _ _=>true
 |.kr _ _ _=>true
 |.mp _ _=>true
 |.sa=>true
 |_=>false
theorem tO{d:D}(h:qFO y=true)(hd:qW σ y d):d.one=true:=by
 cases y<;>simp only[qFO]at h<;>first|(cases h;done)|simp only[qW]at hd
 ·obtain⟨_,_,rfl⟩:=hd;rfl
 ·obtain⟨_,rfl,_⟩:=hd;rfl
 ·obtain⟨_,_,rfl,_⟩:=hd;rfl
 ·have:=hd.2;simp only[zC]at this;rcases this with rfl|⟨es,rfl,_⟩<;>rfl
 ·subst hd;rfl
 ·obtain⟨_,_,rfl,_⟩:=hd;rfl
 ·obtain⟨_,rfl,_⟩:=hd;rfl
 ·simp only[zC]at hd;obtain⟨_,_,rfl,_⟩:=hd;rfl
 subst hd;rfl
variable{ag:Bool}{cs:LU}{d':D}{off size:Nat}
section
variable{E:Env}{σ:Wd}{C:Cx}
def qKq(ag:Bool)(size off:Nat)(cs:LU):Option Y:=match ag with
 |true=>bif Nat.ble (off+size) cs.length then some (.st ((cs.drop off).take size))else none
 |false=>match cs[off]? with
  |some y=>bif qFO y&&Nat.beq size 1 then some y else none
  |none=>none
theorem qPx(l:COk σ C){d:D}(hd:qW σ (.st cs) d)(h:qKq ag size off cs=some y):yX E σ (.mq ag size off) [d] (C,y):=by
 simp only[qW]at hd;obtain⟨es,rfl,hs⟩:=hd;unfold qKq at h;split at h
 ·obtain⟨g,h⟩:=qZ h;cases h;refine .same l (kI (by rw[←nT hs];exact g)) ?_;simp only[qW];exact⟨_,rfl,aL (aM hs)⟩
 split at h
 ·rename_i q p;obtain⟨g,h⟩:=qZ h;cases h;rw[aE]at g;have j:=vW g.2;subst j;obtain⟨e,he,hr⟩:=gX hs p;exact .same l (qB he (tO g.1 hr)) hr
 cases h
def qOr(cs:LU)(off:Nat):Option Y:=match cs[off]? with
 |some y=>bif qFO y then some y else none
 |none=>none
theorem qOq(h:qOr cs off=some y):cs[off]? = some y/\qFO y=true:=by unfold qOr at h;grind
def qPW(C:Cx)(n v:Nat)(c:Int)(sz:Nat)(ag:Bool)(size off:Nat):Option Y:=match qER C.qe n v c with
 |some (.st cs)=>bif Nat.beq cs.length sz then(match ag with
  |true=>bif Nat.beq off 0&&Nat.beq size sz then some (.st cs)else bif Nat.ble (off+size) sz then some (.st ((cs.drop off).take size))else none
  |false=>bif Nat.beq size 1&&Nat.blt off sz then qOr cs off else none)else none
 |some y=>bif !ag&&qFO y&&Nat.beq sz 1&&Nat.beq size 1&&Nat.beq off 0 then some y else none
 |none=>none
theorem qBK(G:COk σ C){n sz l:Nat}{d i:D}(hd:qW σ (.sl n el sz b e) d)(O:qW σ (.int .i64 v c) i)(X:Nat.ble b 300000000=true)(H:Nat.beq sz l=true)(h:qPW C n v c l ag size off=some y):yX E σ (.elem l ag size off) [d,i] (C,y):=by
 have H:=vW H;subst H;simp only[qW]at hd O;obtain⟨x,M,rfl⟩:=O;have j:=qXi hd.2 X;unfold qPW at h;split at h
 ·rename_i cs I;obtain⟨P,d',Q,z,B,A,h3,u,h5⟩:=uH G.e I;simp only at B A h3 u h5;rw[hd.1]at B;rw[M]at A;cases B;cases A;simp only[qW]at h5;obtain⟨es,rfl,hs⟩:=h5;obtain⟨N,h⟩:=qZ h;have N:=vW N;have W:=nT hs;split at h
  ·cases p:(Nat.beq off 0&&Nat.beq size sz)with
   |true=>rw[p,ai]at h;cases h;rw[aE]at p;have a1:=vW p.1;have a2:=vW p.2;subst a1 a2;refine .same G (xO j h3 u (by omega)) ?_;simp only[qW];exact⟨_,rfl,hs⟩
   |false=>
    rw[p,bc]at h;obtain⟨g,h⟩:=qZ h;cases h;refine .same G (qN5 (size:=size) (off:=off) j h3 u (by omega) (oA g) ?_) ?_
    ·rintro⟨rfl,rfl⟩;rw[bj,bj]at p;cases p
    simp only[qW];exact⟨_,rfl,aL (aM hs)⟩
  obtain⟨g,Z⟩:=qZ h;rw[aE]at g;have a1:=vW g.1;subst a1;obtain⟨R,U⟩:=qOq Z;obtain⟨q,S,hr⟩:=gX hs R;exact .same G (oO (off:=off) j h3 u S (tO U hr) (Nat.lt_of_succ_le (oA g.2))) hr
 ·rename_i y' V I;obtain⟨g,h⟩:=qZ h;cases h;simp only[aE]at g;obtain⟨⟨⟨⟨K,a1⟩,a2⟩,a3⟩,J⟩:=g;have a2:=vW a2;have a3:=vW a3;have J:=vW J;subst a2 a3 J;have K:ag=false:=by simpa using K
  subst K;obtain⟨P,d',Q,z,B,A,h3,u,h5⟩:=uH G.e I;simp only at B A h3 u h5;rw[hd.1]at B;rw[M]at A;cases B;cases A;exact .same G (vX j h3 u (tO a1 h5)) h5
 cases h
theorem qWv(g:COk σ C){t f:List jX}{d:D}(hd:qW σ (.bool t f) d):yX E σ (.un .not ty) [d] (C,.bool f t):=by simp only[qW]at hd;obtain⟨b,rfl,l,j⟩:=hd;refine .same g jJ ?_;simp only[qW];exact⟨!b,rfl,λh=>j (by simpa using h),λh=>l (by simpa using h)⟩
theorem qSN(j:COk σ C){n:Nat}{d:D}(hd:qW σ (.st cs) d)(h:Nat.beq cs.length n=true):yX E σ (.mz true n) [d] (C,.st cs):=by have g:=hd;simp only[qW]at g;obtain⟨es,rfl,hs⟩:=g;exact .same j (qS (by rw[←nT hs];exact vW h)) hd
theorem qSP(g:COk σ C){d:D}(hd:qW σ y d)(h:qFO y=true):yX E σ (.mz false 1) [d] (C,y):=
 .same g (wB (tO h hd)) hd
theorem qXA(j:COk σ C){d:D}(hd:qW σ (.gd cs) d)(h:cs[i]? = some y):yX E σ (.ext i) [d] (C,y):=by simp only[qW]at hd;obtain⟨es,rfl,hs⟩:=hd;obtain⟨q,g,hr⟩:=gX hs h;exact .same j (kM g) hr
def iO(C:Cx)(v:Nat)(c:Int):Bool:=kE C.F C.L v c 0 4000000000000000000&&kE C.F C.L 0 (-4000000000000000000) v c
theorem dJ(g:COk σ C)(hv:σ[v]? = some x)(h:iO C v c=true): -4000000000000000000<=x.1+c/\x.1+c<=4000000000000000000:=by unfold iO at h;rw[aE]at h;obtain⟨z,j⟩:=g.s.z;have p:=vM g.s h.1 hv j;have l:=vM g.s h.2 j hv;simp only at p l;omega
def zFS(C:Cx)(w:Nat)(e:Int):Option Int:=
 let acc:=qJH C.F 4 [(w,0)]
 C.L.foldl (λm p=>match dK acc p.1 with
  |some d=>(match m with
   |some u=>some (bif decide (d+p.2+e<=u)then d+p.2+e else u)
   |none=>some (d+p.2+e))
  |none=>m) (match dK acc 0 with|some d=>some (d+e)|none=>none)
def zB8(C:Cx)(v:Nat)(c:Int)(w:Nat)(e:Int):List jX:=
 bif kE C.F C.L 0 1 w e then[(v,C.nx,-c-1)]else bif kE C.F C.L 0 0 w e then[(v,C.nx,-c)]else[]
def zCa(C:Cx)(v:Nat)(c:Int)(w:Nat)(e:Int):List jX:=match zFS C w e with
 |some u=>bif kE C.F C.L w e 0 u then[(C.nx,v,c+u)]else[]
 |none=>[]
def zBX(C:Cx)(v:Nat)(c:Int)(w:Nat)(e:Int):List jX:=zB8 C v c w e++zCa C v c w e++zB8 C w e v c++zCa C w e v c
def qYy(C:Cx)(v:Nat)(c:Int)(w:Nat)(e:Int):LY:=
 bif Nat.beq w 0&&iO C v (c+e)then(C,.int .i64 v (c+e))else
 bif Nat.beq v 0&&iO C w (e+c)then(C,.int .i64 w (e+c))else
 bif iO C v c&&iO C w e then(C.add (zBX C v c w e) [] [] 1,.int .i64 C.nx 0)else(C.add [] [] [] 1,.int .i64 C.nx 0)
theorem qO4(g:COk σ C){e:Int}{y:Int×D}(A:σ[v]? = some x)(u:σ[w]? = some y){n:Int}(B:n=x.1+c+(y.1+e)):∀q∈zB8 C v c w e,sN (σ++[(n,D.nil)]) q:=by
 obtain⟨z,p⟩:=g.s.z;intro q h;unfold zB8 at h;cases j:kE C.F C.L 0 1 w e with
 |true=>rw[j,ai,aw]at h;subst h;have:=vM g.s j p u;exact⟨_,_,zU A,get_new g _,by simp only at this ⊢;omega⟩
 |false=>
  rw[j,bc]at h;cases l:kE C.F C.L 0 0 w e with
  |true=>rw[l,ai,aw]at h;subst h;have:=vM g.s l p u;exact⟨_,_,zU A,get_new g _,by simp only at this ⊢;omega⟩
  |false=>rw[l]at h;cases h
theorem qPn(g:COk σ C){e:Int}{y:Int×D}(A:σ[v]? = some x)(p:σ[w]? = some y){n:Int}(B:n=x.1+c+(y.1+e)):∀q∈zCa C v c w e,sN (σ++[(n,D.nil)]) q:=by
 obtain⟨z,l⟩:=g.s.z;intro q h;unfold zCa at h;split at h
 ·rename_i u _;cases j:kE C.F C.L w e 0 u with
  |true=>rw[j,ai,aw]at h;subst h;have:=vM g.s j p l;exact⟨_,_,get_new g _,zU A,by simp only at this ⊢;omega⟩
  |false=>rw[j]at h;cases h
 cases h
theorem qYx(g:COk σ C){a b:LM}{e:Int}{d:D}(hd:qW σ (.int .i64 v c) d)(u:qW σ (.int .i64 w e) d'):yX E σ (.bin .add ty a b) [d,d'] (qYy C v c w e):=by
 simp only[qW]at hd u;obtain⟨x,p,rfl⟩:=hd;obtain⟨y,l,rfl⟩:=u;obtain⟨z,B⟩:=g.s.z;unfold qYy;cases j:(Nat.beq w 0&&iO C v (c+e))with
 |true=>rw[aE]at j;have A:=vW j.1;subst A;rw[B]at l;cases l;have:=dJ g p j.2;refine .same g (kB (by omega)) ?_;simp only[qW];exact⟨x,p,by show dI (x.1+c+(0+e))=dI (x.1+(c+e));rw[show x.1+c+(0+e)=x.1+(c+e) by omega]⟩
 | false=>
  rw[bc];cases j:(Nat.beq v 0&&iO C w (e+c))with
  |true=>rw[aE]at j;have A:=vW j.1;subst A;rw[B]at p;cases p;have:=dJ g l j.2;refine .same g (kB (by omega)) ?_;simp only[qW];exact⟨y,l,by show dI (0+c+(y.1+e))=dI (y.1+(e+c));rw[show 0+c+(y.1+e)=y.1+(e+c) by omega]⟩
  | false=>
   rw[bc];cases j:(iO C v c&&iO C w e)with
   |false=>exact .num g s9 (by simp)
   | true=>
    rw[aE]at j;have H:=dJ g p j.1;have G:=dJ g l j.2;refine .num g (kB (by omega)) λq h=>?_;unfold zBX at h;rcases bh.1 h with h|h
    ·rcases bh.1 h with h|h
     ·rcases bh.1 h with h|h
      ·exact qO4 g p l rfl q h
      exact qPn g p l rfl q h
     exact qO4 g l p (by omega) q h
    exact qPn g l p (by omega) q h
def zAy(C:Cx)(v:Nat)(c:Int)(w:Nat)(e:Int):List jX:=
 (bif kE C.F C.L w e v c then[(0,C.nx,0)]else[])++(bif kE C.F C.L 0 0 w e then[(C.nx,v,c)]else[])
def qVU(C:Cx)(v:Nat)(c:Int)(w:Nat)(e:Int):LY:=
 bif Nat.beq w 0&&iO C v (c-e)then(C,.int .i64 v (c-e))else
 bif iO C v c&&iO C w e then(C.add (zAy C v c w e) [] [] 1,.int .i64 C.nx 0)else(C.add [] [] [] 1,.int .i64 C.nx 0)
theorem qVS(j:COk σ C){a b:LM}{e:Int}{d:D}(hd:qW σ (.int .i64 v c) d)(A:qW σ (.int .i64 w e) d'):yX E σ (.bin .sub ty a b) [d,d'] (qVU C v c w e):=by
 simp only[qW]at hd A;obtain⟨x,u,rfl⟩:=hd;obtain⟨y,p,rfl⟩:=A;obtain⟨z,B⟩:=j.s.z;unfold qVU;cases l:(Nat.beq w 0&&iO C v (c-e))with
 |true=>rw[aE]at l;have G:=vW l.1;subst G;rw[B]at p;cases p;have:=dJ j u l.2;refine .same j (eD (by omega)) ?_;simp only[qW];exact⟨x,u,by show dI (x.1+c-(0+e))=dI (x.1+(c-e));rw[show x.1+c-(0+e)=x.1+(c-e) by omega]⟩
 | false=>
  rw[bc];cases l:(iO C v c&&iO C w e)with
  |false=>exact .num j qBw (by simp)
  | true=>
   rw[aE]at l;have I:=dJ j u l.1;have H:=dJ j p l.2;refine .num j (eD (by omega)) λq g=>?_;unfold zAy at g;rcases bh.1 g with g|g
   ·cases h:kE C.F C.L w e v c with
    |false=>rw[h]at g;cases g
    |true=>rw[h,ai,aw]at g;subst g;have:=vM j.s h p u;exact⟨_,_,zU B,get_new j _,by simp only;omega⟩
   cases h:kE C.F C.L 0 0 w e with
   |false=>rw[h]at g;cases g
   |true=>rw[h,ai,aw]at g;subst g;have:=vM j.s h B p;exact⟨_,_,get_new j _,zU u,by simp only at this ⊢;omega⟩
theorem qWB(g:COk σ C){a b:LM}{e:Int}{d:D}(hd:qW σ (.int .i64 v c) d)(h:qW σ (.int .i64 w e) d'):yX E σ (.bin .mul ty a b) [d,d'] (C.add [] [] [] 1,.int .i64 C.nx 0):=by simp only[qW]at hd h;obtain⟨x,l,rfl⟩:=hd;obtain⟨y,j,rfl⟩:=h;exact .num g s8 (by simp)
theorem zAS(j:COk σ C){m:Bool}{e:Int}{d:D}(hd:qW σ (.int .i64 v c) d)(h:qW σ (.int .i64 w e) d'):yX E σ (.mm m) [d,d'] (C.add [] [] [] 1,.int .i64 C.nx 0):=by simp only[qW]at hd h;obtain⟨x,p,rfl⟩:=hd;obtain⟨y,l,rfl⟩:=h;obtain⟨n,g⟩:=zAV (E:=E) m (x.1+c) (y.1+e);exact .num j g (by simp)
end
mutual
def Sn.sh:Sn->Sh
 |.int k=>.int k
 |.bool=>.bool
 |.str _=>.str
 |.st fs=>.st (Sn.nd fs)
 |.sl el sz _ e=>.sl el sz (Sn.sh e)
 |.wh s _=>Sn.sh s
 |.any|.ptr _|.kr _ _ _|.mp _ _=>.bool
def Sn.nd:LZ->List Sh
 | []=>[]
 |s::r=>Sn.sh s::Sn.nd r
end
mutual
def Sn.low:Sn->Bool
 |.int _=>true
 |.bool=>true
 |.str n=>Nat.ble n 300000000
 |.st fs=>Sn.o8 fs
 |.sl _ _ n e=>Nat.ble n 300000000&&Sn.low e
 |.wh s _=>Sn.low s
 |.any|.ptr _|.kr _ _ _|.mp _ _=>false
def Sn.o8:LZ->Bool
 | []=>true
 |s::r=>Sn.low s&&Sn.o8 r
end
mutual
theorem oW:∀{s:Sn} {d:D},Sn.low s=true->zC s d->qF 300000000 s.sh d
 |.int k,d,_,h=>by simp only[zC]at h;simp only[Sn.sh,qF];exact h
 |.bool,d,_,h=>by simp only[zC]at h;simp only[Sn.sh,qF];exact h
 |.str n,d,g,h=>by simp only[zC]at h;simp only[Sn.sh,qF];obtain⟨s,hs,j⟩:=h;exact⟨s,hs,lT j (oA g)⟩
 |.st fs,d,g,h=>by simp only[zC]at h;simp only[Sn.sh,qF];obtain⟨cs,hd,h⟩:=h;exact⟨cs,hd,qBH g h⟩
 |.sl el sz n e,d,g,h=>by
  simp only[Sn.low,aE]at g;simp only[zC]at h;simp only[Sn.sh,qF];rcases h with h|⟨es,hd,j,p⟩
  ·exact .inl h
  exact .inr ⟨es,hd,lT j (oA g.1),λx l=>oW g.2 (p x l)⟩
 |.wh s q,d,g,h=>by simp only[zC]at h;simp only[Sn.low]at g;simp only[Sn.sh];exact oW g h.1
 |.any,d,g,h=>by cases g
 |.ptr _,d,g,h=>by cases g
 |.kr _ _ _,d,g,h=>by cases g
 |.mp _ _,d,g,h=>by cases g
theorem qBH:∀{ss:LZ} {ds:LR},Sn.o8 ss=true->zS ss ds->jL 300000000 (Sn.nd ss) ds
 | [],ds,_,h=>by simp only[zS]at h;simp only[Sn.nd,jL];exact h
 |s::r,ds,g,h=>by simp only[Sn.o8,aE]at g;simp only[zS]at h;simp only[Sn.nd,jL];obtain⟨d,j,hd,p,l⟩:=h;exact⟨d,j,hd,oW g.1 p,qBH g.2 l⟩
end
section
variable{E:Env}{σ:Wd}{C:Cx}
theorem pV:∀{fs:LZ} {cs:LR},zS fs cs->cs.length=fs.length
 | [],cs,h=>by simp only[zS]at h;subst h;rfl
 |f::fs,cs,h=>by simp only[zS]at h;obtain⟨d,r,rfl,_,h⟩:=h;simp[pV h]
def qDm:Sn->Nat
 |.st fs=>fs.length
 |.wh s _=>qDm s
 |_=>1
def qKl:Sn->Bool
 |.any|.ptr _|.kr _ _ _|.mp _ _=>false
 |.wh s _=>qKl s
 |_=>true
theorem qGt:∀{s:Sn} {d:D},qKl s=true->zC s d->d.cells.length=qDm s
 |.int _,d,_,h=>by simp only[zC]at h;obtain⟨_,rfl⟩:=h;rfl
 |.bool,d,_,h=>by simp only[zC]at h;obtain⟨_,rfl⟩:=h;rfl
 |.str _,d,_,h=>by simp only[zC]at h;obtain⟨_,rfl,_⟩:=h;rfl
 |.st _,d,_,h=>by simp only[zC]at h;obtain⟨cs,rfl,h⟩:=h;show cs.length=_;simp only[qDm];exact pV h
 |.sl _ _ _ _,d,_,h=>by simp only[zC]at h;rcases h with rfl|⟨es,rfl,_⟩<;>rfl
 |.wh s q,d,hr,h=>by simp only[zC]at h;exact qGt (s:=s) hr h.1
theorem qHF{C:Cx}(l:COk σ C){e:Sn}:∀{ys:LU} {ds:LR},ys.all (λy=>mT C y e)=true->qT σ ys ds->∀x∈ds,zC e x
 | [],ds,_,h=>by simp only[qT]at h;subst h;intro x g;cases g
 |y::ys,ds,j,h=>by
  simp only[qT]at h;obtain⟨d,r,rfl,q,p⟩:=h;simp only[eo,aE]at j;intro x g;rcases bl.1 g with rfl|g
  ·exact rN l j.1 q
  exact qHF l j.2 p x g
def qWR(C:Cx)(el sz:Nat)(e:Sn)(ys:LU):Option (LY):=
 bif qKl e&&ys.all (λy=>mT C y e)&&Nat.beq (qDm e) sz&&Nat.ble (Nat.mul ys.length (Nat.succ sz)) 1000000 then some (C.add [(C.nx,0,ys.length),(0,C.nx,-(ys.length:Int))] [(C.nx,ys.length)] [] 1,.sl C.nx el sz ys.length e)else none
theorem qWQ(j:COk σ C){sz:Nat}{ds:LR}(hd:qT σ ys ds)(h:qWR C el sz e ys=some r):yX E σ (.lit el sz) ds r:=by
 unfold qWR at h;obtain⟨u,h⟩:=qZ h;cases h;simp only[aE]at u;obtain⟨⟨⟨H,G⟩,p⟩,h3⟩:=u;have B:=nT hd;have g:=qHF j G hd;have p:=vW p;have l:TOp.eval E (.lit el sz) ds=some (.sl el sz ds):=by rw[eZ];refine mE ?_;rw[aE];refine⟨al.2 λx A=>?_,by rw[←B];exact h3⟩;rw[qGt H (g x A),p];exact bj _
 obtain⟨z,q⟩:=j.s.z;refine .list j l ?_ (f2 ⟨_,_,get_new j _,zU q,?_⟩ ⟨_,_,zU q,get_new j _,?_⟩)
 ·simp only[zC];grind
 ·show((ds.length:Nat):Int)<=0+(ys.length:Int);omega
 show(0:Int)<=((ds.length:Nat):Int) + -(ys.length:Int);omega
def qYe(C:Cx)(n v:Nat)(c:Int):Bool:=kE C.F C.L 0 0 v c&&kE C.F C.L v (c+1) n 0
theorem qYd(g:COk σ C){n:Nat}{d i:D}(hd:qW σ (.str n b) d)(p:qW σ (.int .i64 v c) i)(h:qYe C n v c=true):yX E σ .qf [d,i] (C.add [(0,C.nx,0),(C.nx,0,255)] [] [] 1,.int .u8 C.nx 0):=by simp only[qW]at hd p;obtain⟨s,x,rfl,u,H,_⟩:=hd;obtain⟨y,l,rfl⟩:=p;unfold qYe at h;rw[aE]at h;obtain⟨z,j⟩:=g.s.z;have q:=vM g.s h.1 j l;have G:=vM g.s h.2 l u;simp only at q;obtain⟨m,B,A,he⟩:=qAd (E:=E) (s:=s) (i:=y.1+c) (by omega) (by omega);exact .num g he (f2 ⟨_,_,zU j,get_new g _,by simp only;omega⟩ ⟨_,_,get_new g _,zU j,by simp only;omega⟩)
end
def Ls(el sz:Nat)(d:D):Prop:=d=.nil∨∃es,d=.sl el sz es
theorem qB5{sz:Nat}{d:D}:zC (.sl el sz b e) d↔Ls el sz d/\d.es.length<=b/\∀x∈d.es,zC e x:=by
 constructor
 ·intro h;simp only[zC]at h;rcases h with rfl|⟨es,rfl,g,j⟩
  ·exact⟨.inl rfl,cq _,λx l=>by cases l⟩
  exact⟨.inr ⟨es,rfl⟩,g,j⟩
 rintro⟨h,g,j⟩;simp only[zC];rcases h with rfl|⟨es,rfl⟩
 ·exact .inl rfl
 exact .inr ⟨es,rfl,g,j⟩
section
variable{E:Env}{σ:Wd}{C:Cx}
theorem qS1{sz bytes:Nat}{a b:D}(p:Ls el sz a)(g:Ls el sz b)(h:bytes<=80)(A:a.es.length+b.es.length<=300000000):∃y,TOp.eval E (.app el sz bytes) [a,b]=some y/\Ls el sz y/\y.es=a.es++b.es:=by
 have l:yO a=some a.es.length:=by rcases p with rfl|⟨es,rfl⟩<;>rfl
 rw[bI,l];rcases g with rfl|⟨es,rfl⟩
 ·refine⟨a,?_,p,by simp[D.es]⟩;have j:Nat.ble (Nat.mul (Nat.add (Nat.mul 4 a.es.length) 4000) (Nat.succ bytes)) 100000000000=true:=iJ (by have:(D.nil).es.length=0:=rfl;omega) h;have B:∀(b:Bool) (x:LX),b=true->(bif b then x else none)=x:=λb x g=>by rw[g];rfl
  exact B _ _ j
 have j:Nat.ble (Nat.mul (Nat.add (Nat.mul 4 (Nat.add a.es.length es.length)) 4000) (Nat.succ bytes)) 100000000000=true:=iJ A h;have z:Nat.beq sz sz=true:=bj _;have u:∀(b:Bool) (x y:LX),b=true->(bif b then x else y)=x:=λb x y g=>by rw[g];rfl
 rcases p with rfl|⟨es',rfl⟩
 ·refine⟨if es.length=0 then .nil else .sl el sz ([]++es),(u _ _ _ (by rw[j,z];rfl)).trans ?_,?_,?_⟩
  ·rw[zI];split<;>rfl
  ·split
   ·exact .inl rfl
   exact .inr ⟨_,rfl⟩
  split
  ·rename_i q;have:=List.eq_nil_of_length_eq_zero q;subst this;rfl
  rfl
 refine⟨if es.length=0 then .sl el sz es' else .sl el sz (es'++es),(u _ _ _ (by rw[j,z];show(true&&true&&(Nat.beq el el&&Nat.beq sz sz))=true;rw[bj,bj];rfl)).trans ?_,?_,?_⟩
 ·rw[zI];split<;>rfl
 ·split
  ·exact .inr ⟨_,rfl⟩
  exact .inr ⟨_,rfl⟩
 split
 ·rename_i q;have:=List.eq_nil_of_length_eq_zero q;subst this;show es'=es'++[];simp
 rfl
theorem qYr(h:COk σ C){sz bytes n1 b1 n2 Z:Nat}{a c:D}(N:qW σ (.sl n1 el sz b1 e) a)(M:qW σ (.sl n2 el sz Z e) c)(j:Nat.ble bytes 80=true){m k m' k':Nat}(U:kE C.F C.L n1 0 0 m=true)(V:kE C.F C.L n2 0 0 k=true)(G:kE C.F C.L 0 m' n1 0=true)(H:kE C.F C.L 0 k' n2 0=true)(B:Nat.ble (m+k) 300000000=true):yX E σ (.app el sz bytes) [a,c] (C.add [(n1,C.nx,-(k':Int)),(C.nx,n1,(k:Int)),(n2,C.nx,-(m':Int)),(C.nx,n2,(m:Int))] [(C.nx,m+k)] [] 1,.sl C.nx el sz (m+k) e):=by
 simp only[qW]at N M;obtain⟨l,u⟩:=N;obtain⟨g,p⟩:=M;have S:=uK h l U;have R:=uK h g V;obtain⟨z,I⟩:=h.s.z;have Q:=vM h.s G I l;have P:=vM h.s H I g;simp only at S R Q P;have B:=oA B;rw[qB5]at u p;obtain⟨y,X,W,O⟩:=qS1 (E:=E) u.1 p.1 (oA j) (by omega);have K:y.es.length=a.es.length+c.es.length:=by rw[O,bx]
 refine .list h X (qB5.2 ⟨W,by omega,λx A=>?_⟩) ?_
 ·rw[O]at A;rcases bh.1 A with A|A
  ·exact u.2.2 x A
  exact p.2.2 x A
 intro q J;simp only[bl,List.not_mem_nil,or_false]at J;rcases J with rfl|rfl|rfl|rfl
 ·exact⟨_,_,zU l,get_new h _,by simp only;omega⟩
 ·exact⟨_,_,get_new h _,zU l,by simp only;omega⟩
 ·exact⟨_,_,zU g,get_new h _,by simp only;omega⟩
 exact⟨_,_,get_new h _,zU g,by simp only;omega⟩
theorem zBj(h:COk σ C){sz n:Nat}{l i:D}(J:qW σ (.sl n el sz b e) l)(K:qW σ (.int .i64 v c) i)(V:Nat.ble b 300000000=true)(U:kE C.F C.L 0 0 v c=true)(S:kE C.F C.L v c n 0=true):yX E σ (.lu el sz false true) [l,i] (C.add [(C.nx,v,c),(v,C.nx,-c)] [(C.nx,b)] [] 1,.sl C.nx el sz b e):=by
 simp only[qW]at J K;obtain⟨x,p,rfl⟩:=K;obtain⟨j,A⟩:=J;obtain⟨z,N⟩:=h.s.z;have M:=vM h.s U N p;have B:=vM h.s S p j;simp only at M B;have u:=A;simp only[zC]at u;rcases u with rfl|⟨es,rfl,hlen,R⟩
 ·have g:(D.nil).es.length=0:=rfl;rw[g]at B j;have Q:x.1+c=0:=by omega
  refine .list h (d:=.nil) ?_ A (f2 ⟨_,_,get_new h _,zU p,by simp only[g];omega⟩ ⟨_,_,zU p,get_new h _,by simp only[g];omega⟩);show TOp.eval E (.lu el sz false true) [.nil,dI (x.1+c)]=_;rw[Q];rfl
 have he:(D.sl el sz es).es.length=es.length:=rfl;rw[he]at B j;have G:TOp.eval E (.lu el sz false true) [.sl el sz es,dI (x.1+c)]=some (.sl el sz (es.take (x.1+c).toNat)):=by
  rw[pZ];have H:vT false 0 [dI (x.1+c)]=some (0,[dI (x.1+c)]):=rfl;have I:vT true es.length [dI (x.1+c)]=some ((x.1+c).toNat,[]):=by simp only[vT,ai,kJ (by omega:0<=x.1+c),aj]
  simp only[H,I];refine(mE ?_).trans ?_
  ·rw[bj,bj,bL (cq _),bL (by omega)];rfl
  simp
 have P:((es.take (x.1+c).toNat).length:Int)=x.1+c:=by rw[cg];omega
 have q:((D.sl el sz (es.take (x.1+c).toNat)).es.length:Int)=x.1+c:=P;refine .list h G (by simp only[zC];exact .inr ⟨_,rfl,by rw[cg];omega,λy O=>R y (dm O)⟩) (f2 ⟨_,_,get_new h _,zU p,by simp only[q];omega⟩ ⟨_,_,zU p,get_new h _,by simp only[q];omega⟩)
end
variable{o:TOp}
section
variable{E:Env}{σ:Wd}{C:Cx}
theorem zA2(g:COk σ C){sz n:Nat}{l i:D}(J:qW σ (.sl n el sz b e) l)(K:qW σ (.int .i64 v c) i)(S:kE C.F C.L 0 0 v c=true)(R:kE C.F C.L v c n 0=true):yX E σ (.lu el sz true false) [l,i] (C.add [(C.nx,n,0)] [(C.nx,b)] [] 1,.sl C.nx el sz b e):=by
 simp only[qW]at J K;obtain⟨x,I,rfl⟩:=K;obtain⟨h,q⟩:=J;obtain⟨z,N⟩:=g.s.z;have M:=vM g.s S N I;have u:=vM g.s R I h;simp only at M u;have p:=q;simp only[zC]at p;rcases p with rfl|⟨es,rfl,hlen,Q⟩
 ·have j:(D.nil).es.length=0:=rfl;rw[j]at u h;have P:x.1+c=0:=by omega
  refine .list g (d:=.nil) ?_ q (f1 (get_new g _) (zU h) (by simp only[j];omega));show TOp.eval E (.lu el sz true false) [.nil,dI (x.1+c)]=_;rw[P];rfl
 have he:(D.sl el sz es).es.length=es.length:=rfl;rw[he]at u h;have B:TOp.eval E (.lu el sz true false) [.sl el sz es,dI (x.1+c)]=some (.sl el sz (es.drop (x.1+c).toNat)):=by
  rw[pZ];have G:vT true 0 [dI (x.1+c)]=some ((x.1+c).toNat,[]):=by simp only[vT,ai,kJ (by omega:0<=x.1+c),aj]
  have H:vT false es.length ([]:LR)=some (es.length,[]):=rfl;simp only[G,H];refine(mE ?_).trans ?_
  ·rw[bj,bj,bL (by omega),bL (vP _)];rfl
  rw[dc (by rw[dh];omega)]
 have A:(D.sl el sz (es.drop (x.1+c).toNat)).es.length=es.length-(x.1+c).toNat:=dh;exact .list g B (by simp only[zC];exact .inr ⟨_,rfl,by rw[dh];omega,λy O=>Q y (dx O)⟩) (f1 (get_new g _) (zU h) (by simp only[A];omega))
theorem yX.text(h:COk σ C){ds:LR}{s:LJ}(he:TOp.eval E o ds=some (.leaf (.string s)))(hs:s.size<=b)(j:∀q∈F,sN (σ++[((s.size:Int),D.nil)]) q):yX E σ o ds (C.add F [(C.nx,b)] [] 1,.str C.nx b):=by
 refine⟨_,[((s.size:Int),.nil)],he,h.ext j (λq g=>?_) (by simp) rfl,?_⟩
 ·rw[aw]at g;subst g;exact⟨_,get_new h _,by simp,by simp;omega⟩
 simp only[qW];exact⟨s,_,rfl,get_new h _,rfl,hs⟩
theorem qQZ(h:COk σ C){n:Nat}{e:Int}{d i j:D}(hd:qW σ (.str n b) d)(p:qW σ (.int .i64 v c) i)(l:qW σ (.int .i64 w e) j)(M:kE C.F C.L 0 0 v c=true)(K:kE C.F C.L v c w e=true)(J:kE C.F C.L w e n 0=true):yX E σ (.sub true true) [d,i,j] (C.add [] [(C.nx,b)] [] 1,.str C.nx b):=by simp only[qW]at hd p l;obtain⟨s,y,rfl,G,hs,I⟩:=hd;obtain⟨x,g,rfl⟩:=p;obtain⟨u,hu,rfl⟩:=l;obtain⟨z,A⟩:=h.s.z;have q:=vM h.s M A g;have O:=vM h.s K g hu;have N:=vM h.s J hu G;simp only at q;obtain⟨t,H,he⟩:=qBS (E:=E) (B:=b) (s:=s) (i:=x.1+c) (j:=u.1+e) (by omega) (by omega) (by omega) I;exact .text h he H (by simp)
theorem qSS(j:COk σ C){n:Nat}{d:D}(hd:qW σ (.sl n el 1 b (.int .u8)) d)(B:kE C.F C.L 0 1 n 0=true):yX E σ .ns [d] (C.add [] [(C.nx,b)] [] 1,.str C.nx b):=by
 simp only[qW]at hd;obtain⟨g,h⟩:=hd;obtain⟨z,p⟩:=j.s.z;have l:=vM j.s B p g;simp only at l;have A:qF b (.sl el 1 (.int .u8)) d:=by simp only[zC]at h;simp only[qF];exact h
 have u:∃es,d=.sl el 1 es:=by
  simp only[zC]at h;rcases h with rfl|⟨es,rfl,_⟩
  ·have:(D.nil).es.length=0:=rfl;omega
  exact⟨es,rfl⟩
 obtain⟨t,q,he⟩:=qQR (E:=E) A u;exact .text j he q (by simp)
end
variable{zs:LA}
section
variable{E:Env}{σ:Wd}{C:Cx}
def qJZ(e:Sn)(z:D):Bool:=match e,z with
 |.bool,.leaf (.bool _)=>true
 |.int k,.leaf (.int k' _)=>decide (k=k')
 |_,_=>false
theorem qM8{z:D}(h:qJZ e z=true):zC e z:=by
 unfold qJZ at h;split at h
 ·simp only[zC];exact⟨_,rfl⟩
 ·rw[fk]at h;subst h;simp only[zC];exact⟨_,rfl⟩
 cases h
theorem zAW(h:COk σ C){sz bytes:Nat}{i:D}(u:qW σ (.int .i64 v c) i)(N:kE C.F C.L 0 0 v c=true)(M:kE C.F C.L v c 0 b=true)(K:Nat.ble b 300000000=true)(G:(Nat.beq zs.length sz&&zs.all (λv=>zP v&&qU v)&&(ag||Nat.beq sz 1))=true)(I:Nat.ble (bytes+sz) 2=true)(he:qJZ e (zD ag zs)=true):yX E σ (.mk el sz bytes ag zs) [i] (C.add [(C.nx,v,c),(v,C.nx,-c)] [(C.nx,b)] [] 1,.sl C.nx el sz b e):=by
 simp only[qW]at u;obtain⟨x,j,rfl⟩:=u;obtain⟨z,g⟩:=h.s.z;have B:=vM h.s N g j;have A:=vM h.s M j g;simp only at B A;have J:=oA K;have p:TOp.eval E (.mk el sz bytes ag zs) [dI (x.1+c)]=some (.sl el sz (List.replicate (x.1+c).toNat (zD ag zs))):=by
  rw[qK1,kJ (by omega)];have l:(x.1+c).toNat*(bytes+sz+1)<=1000000000:=by have:(x.1+c).toNat*(bytes+sz+1)<=300000000*3:=Nat.mul_le_mul (by omega) (by have:=oA I;omega);omega
  exact mE (by rw[G];exact bL l)
 have q:((D.sl el sz (List.replicate (x.1+c).toNat (zD ag zs))).es.length:Int)=x.1+c:=by show((List.replicate (x.1+c).toNat (zD ag zs)).length:Int)=_;grind
 refine .list h p ?_ (f2 ⟨_,_,get_new h _,zU j,by simp only[q];omega⟩ ⟨_,_,zU j,get_new h _,by simp only[q];omega⟩);simp only[zC];exact .inr ⟨_,rfl,by rw[gi];omega,λy H=>by rw[gp H];exact qM8 he⟩
theorem qLA(p:COk σ C){a b:LM}(l:op=.eql∨op=.neq){n z m u:Nat}{d:D}(hd:qW σ (.str n z) d)(h:qW σ (.str m u) d'):yX E σ (.bin op ty a b) [d,d'] (C,.bool [] []):=by
 simp only[qW]at hd h;obtain⟨s,_,rfl,_⟩:=hd;obtain⟨t,_,rfl,_⟩:=h;have g:∀r:Bool,qW σ (.bool [] []) (dB r):=by intro r;simp only[qW];exact⟨r,rfl,λ_ q j=>(by cases j),λ_ q j=>(by cases j)⟩
 rcases l with rfl|rfl
 ·exact .same p fL (g _)
 exact .same p fK (g _)
theorem qNY(u:COk σ C){a b:LM}(p:op=.neq∨op=.eql){ss:LZ}{cs':LU}{d:D}{k:Nat}{sh:List Sh}(hd:qW σ (.st cs) d)(h:qW σ (.st cs') d')(M:oE C cs ss=true)(K:oE C cs' ss=true)(z:Sn.o8 ss=true)(A:mV E.prog k ty=some sh)(j:sh=Sn.nd ss)(g:pD E.prog ty=true)(B:k<=10000)(G:E.prog.eqGuardType E.prog.depth ty=false)(H:(Sn.nd ss).all qEP=true):yX E σ (.bin op ty a b) [d,d'] (C,.bool [] []):=by subst j;simp only[qW]at hd h;obtain⟨az,rfl,J⟩:=hd;obtain⟨N,rfl,I⟩:=h;refine .same u (oP op p A g B G H (tY (qBH z (kV u M J))) (tY (qBH z (kV u K I)))) ?_;simp only[qW];exact⟨_,rfl,λ_ q l=>(by cases l),λ_ q l=>(by cases l)⟩
end
section
variable{E:Env}{σ:Wd}{C:Cx}
theorem yX.after{ds:LR}(h:yX E (σ++τ) o ds r):yX E σ o ds r:=by obtain⟨d,g,l,j,h3⟩:=h;exact⟨d,τ++g,l,by rw[←ay];exact j,by rw[←ay];exact h3⟩
def qYV(C:Cx)(n:Nat):Nat:=
 let acc:=qJH C.F 4 [(n,0)]
 C.L.foldl (λm p=>match dK acc p.1 with|some d=>Nat.min m (d+p.2).toNat|none=>m) (match dK acc 0 with|some d=>d.toNat|none=>300000001)
def fU(C:Cx)(n:Nat):Nat:=C.F.foldl (λm q=>bif Nat.beq q.1 0&&Nat.beq q.2.1 n then Nat.max m (-q.2.2).toNat else m) 0
def qQp(C:Cx)(el sz bytes:Nat)(n1 l g:Nat)(p:Sn)(n2 j h:Nat)(q:Sn):Option (LY):=
 let m:=qYV C n1
 let k:=qYV C n2
 let m':=fU C n1
 let k':=fU C n2
 bif Nat.beq l el&&Nat.beq g sz&&Nat.beq j el&&Nat.beq h sz&&q.fits p&&Nat.ble bytes 80&&kE C.F C.L n1 0 0 m&&kE C.F C.L n2 0 0 k&&kE C.F C.L 0 m' n1 0&&kE C.F C.L 0 k' n2 0&&Nat.ble (m+k) 300000000 then some (C.add [(n1,C.nx,-(k':Int)),(C.nx,n1,(k:Int)),(n2,C.nx,-(m':Int)),(C.nx,n2,(m:Int))] [(C.nx,m+k)] [] 1,.sl C.nx el sz (m+k) p)else none
theorem qGy(N:COk σ C){sz bytes n1 p l O n2 j g J:Nat}{z I:Sn}{a c:D}(M:qW σ (.sl n1 p l O z) a)(u:qW σ (.sl n2 j g J I) c)(h:qQp C el sz bytes n1 p l z n2 j g I=some r):yX E σ (.app el sz bytes) [a,c] r:=by
 unfold qQp at h;obtain⟨H,h⟩:=qZ h;cases h;simp only[aE]at H;obtain⟨⟨⟨⟨⟨⟨⟨⟨⟨⟨a1,a2⟩,a3⟩,A⟩,U⟩,S⟩,R⟩,Q⟩,P⟩,G⟩,B⟩:=H;have a1:=vW a1;have a2:=vW a2;have a3:=vW a3;have A:=vW A;subst a1 a2 a3 A;have q:qW σ (.sl n2 j g J z) c:=by simp only[qW]at u ⊢;refine⟨u.1,?_⟩;have:=qB5.1 u.2;exact qB5.2 ⟨this.1,this.2.1,λx K=>yS U (this.2.2 x K)⟩
 exact qYr N M q S R Q P G B
def qWz(C:Cx):Cx:=C.add [(C.nx,0,0)] [(C.nx,0)] [] 1
theorem qOS(h:COk σ C)(el sz:Nat)(e:Sn):COk (σ++[(0,D.nil)]) (qWz C)/\qW (σ++[(0,D.nil)]) (.sl C.nx el sz 0 e) .nil:=by
 obtain⟨z,j⟩:=h.s.z;refine⟨h.ext (f1 (get_new h _) (zU j) (by simp)) (λq g=>?_) (by simp) rfl,?_⟩
 ·rw[aw]at g;subst g;exact⟨_,get_new h _,by simp,by simp⟩
 simp only[qW];exact⟨get_new h _,qB5.2 ⟨.inl rfl,cq _,λx l=>by cases l⟩⟩
def qYs(C:Cx)(el sz bytes:Nat):Y->Y->Option (LY)
 |.sl n1 l g _ q,.sl n2 j h _ p=>qQp C el sz bytes n1 l g q n2 j h p
 |.nil,.sl n2 j h _ p=>qQp (qWz C) el sz bytes C.nx el sz p n2 j h p
 |.sl n1 l g _ q,.nil=>qQp (qWz C) el sz bytes n1 l g q C.nx el sz q
 |_,_=>none
theorem qS2(q:COk σ C){sz bytes:Nat}{B A:Y}{a c:D}(p:qW σ B a)(j:qW σ A c)(h:qYs C el sz bytes B A=some r):yX E σ (.app el sz bytes) [a,c] r:=by
 unfold qYs at h;split at h
 ·exact qGy q p j h
 ·rename_i n2 I G N K;have l:a=.nil:=by simpa only[qW]using p
  subst l;obtain⟨z,u⟩:=qOS q el sz K;exact .after (qGy z u (mL j) h)
 ·rename_i n1 J H O M;have g:c=.nil:=by simpa only[qW]using j
  subst g;obtain⟨z,u⟩:=qOS q el sz M;exact .after (qGy z (mL p) u h)
 cases h
end
section
variable{E:Env}{σ:Wd}{C:Cx}
abbrev Rs:=Option (Cx×Y)
def qWV(C:Cx)(h:Bool):LU->Rs
 | [.sl n _ _ _ _]=>bif h then none else some (C,.int .i64 n 0)
 | [.nil]=>bif h then none else some (C,.int .i64 0 0)
 | [.str n _]=>bif h then some (C,.int .i64 n 0)else none
 |_=>none
theorem qRM(g:COk σ C){str:Bool}{ds:LR}(hd:qT σ ys ds)(h:qWV C str ys=some r):yX E σ (.len str) ds r:=by
 unfold qWV at h;split at h
 ·simp only[qT]at hd;obtain⟨d,_,rfl,j,rfl⟩:=hd;cases str with
  |true=>cases h
  |false=>cases h;exact qWU g j
 ·simp only[qT,qW]at hd;obtain⟨d,_,rfl,rfl,rfl⟩:=hd;cases str with
  |true=>cases h
  |false=>cases h;exact qRL g
 ·simp only[qT]at hd;obtain⟨d,_,rfl,j,rfl⟩:=hd;cases str with
  |true=>cases h;exact qRK g j
  |false=>cases h
 cases h
def zDF(C:Cx):LU->Rs
 | [.sl n _ _ _ e,.int .i64 v c]=>qR3 C n e v c
 |_=>none
theorem qXm(g:COk σ C){ds:LR}(hd:qT σ ys ds)(h:zDF C ys=some r):yX E σ .inr ds r:=by
 unfold zDF at h;split at h
 ·simp only[qT]at hd;obtain⟨d,_,rfl,l,i,_,rfl,j,rfl⟩:=hd;exact qPi g l j h
 cases h
def zDW(C:Cx)(sz:Nat)(ag:Bool)(size off:Nat):LU->Rs
 | [.sl n _ h b _,.int .i64 v c]=>bif Nat.ble b 300000000&&Nat.beq h sz then(qPW C n v c sz ag size off).map (λy=>(C,y))else none
 |_=>none
theorem qXL(l:COk σ C){sz:Nat}{ds:LR}(hd:qT σ ys ds)(h:zDW C sz ag size off ys=some r):yX E σ (.elem sz ag size off) ds r:=by
 unfold zDW at h;split at h
 ·simp only[qT]at hd;obtain⟨d,_,rfl,q,i,_,rfl,p,rfl⟩:=hd;obtain⟨g,h⟩:=qZ h;rw[aE]at g;obtain⟨y,j,rfl⟩:=aa.1 h;exact qBK l q p g.1 g.2 j
 cases h
def qVW(C:Cx)(ag:Bool)(n:Nat):LU->Rs
 | [.st cs]=>bif ag&&Nat.beq cs.length n then some (C,.st cs)else none
 | [y]=>bif !ag&&Nat.beq n 1&&qFO y then some (C,y)else none
 |_=>none
theorem qQ0(l:COk σ C){n:Nat}{ds:LR}(hd:qT σ ys ds)(h:qVW C ag n ys=some r):yX E σ (.mz ag n) ds r:=by
 unfold qVW at h;split at h
 ·simp only[qT]at hd;obtain⟨d,_,rfl,j,rfl⟩:=hd;obtain⟨g,h⟩:=qZ h;cases h;rw[aE]at g;obtain⟨rfl,g⟩:=g;exact qSN l j g
 ·simp only[qT]at hd;obtain⟨d,_,rfl,j,rfl⟩:=hd;obtain⟨g,h⟩:=qZ h;cases h;simp only[aE]at g;obtain⟨⟨a,b⟩,c⟩:=g;have b:=vW b;subst b;cases ag with
  |true=>cases a
  |false=>exact qSP l j c
 cases h
end
section
variable{E:Env}{σ:Wd}{C:Cx}
def qXr(C:Cx)(ag:Bool)(size off:Nat):LU->Rs
 | [.st cs]=>(qKq ag size off cs).map λy=>(C,y)
 |_=>none
theorem qSd(j:COk σ C){ds:LR}(hd:qT σ ys ds)(h:qXr C ag size off ys=some r):yX E σ (.mq ag size off) ds r:=by
 unfold qXr at h;split at h
 ·simp only[qT]at hd;obtain⟨d,_,rfl,l,rfl⟩:=hd;obtain⟨y,g,rfl⟩:=aa.1 h;exact qPx j l g
 cases h
def qXB(C:Cx)(i:Nat):LU->Rs
 | [.gd cs]=>(cs[i]?).map λy=>(C,y)
 |_=>none
theorem qSv(j:COk σ C){ds:LR}(hd:qT σ ys ds)(h:qXB C i ys=some r):yX E σ (.ext i) ds r:=by
 unfold qXB at h;split at h
 ·simp only[qT]at hd;obtain⟨d,_,rfl,l,rfl⟩:=hd;obtain⟨y,g,rfl⟩:=aa.1 h;exact qXA j l g
 cases h
def qWw(C:Cx):LU->Rs
 | [.bool t f]=>some (C,.bool f t)
 |_=>none
theorem qRx(g:COk σ C){ds:LR}(hd:qT σ ys ds)(h:qWw C ys=some r):yX E σ (.un .not ty) ds r:=by
 unfold qWw at h;split at h
 ·simp only[qT]at hd;obtain⟨d,_,rfl,j,rfl⟩:=hd;cases h;exact qWv g j
 cases h
def zEx(C:Cx):LU->Rs
 | [.str n _,.int .i64 v c]=>bif qYe C n v c then some (C.add [(0,C.nx,0),(C.nx,0,255)] [] [] 1,.int .u8 C.nx 0)else none
 |_=>none
theorem qYf(j:COk σ C){ds:LR}(hd:qT σ ys ds)(h:zEx C ys=some r):yX E σ .qf ds r:=by
 unfold zEx at h;split at h
 ·simp only[qT]at hd;obtain⟨d,_,rfl,p,i,_,rfl,l,rfl⟩:=hd;obtain⟨g,h⟩:=qZ h;cases h;exact qYd j p l g
 cases h
def zC2(C:Cx)(el sz:Nat)(lo g:Bool):LU->Rs
 | [.sl n vC h b e,.int .i64 v c]=>
  bif Nat.beq vC el&&Nat.beq h sz&&Nat.ble b 300000000&&kE C.F C.L 0 0 v c&&kE C.F C.L v c n 0 then
   (match lo,g with
   |false,true=>some (C.add [(C.nx,v,c),(v,C.nx,-c)] [(C.nx,b)] [] 1,.sl C.nx el sz b e)
   |true,false=>some (C.add [(C.nx,n,0)] [(C.nx,b)] [] 1,.sl C.nx el sz b e)
   |_,_=>none)else none
 | [.sl n vC h b e,.int .i64 v c,.int .i64 w k]=>
  bif lo&&g&&Nat.beq vC el&&Nat.beq h sz&&kE C.F C.L 0 0 v c&&kE C.F C.L v c w k&&kE C.F C.L w k n 0 then some (C.add [(C.nx,w,k),(C.nx,n,0)] [(C.nx,b)] [] 1,.sl C.nx el sz b e)else none
 |_=>none
theorem qVY(l:COk σ C){sz:Nat}{lo S:Bool}{ds:LR}(hd:qT σ ys ds)(h:zC2 C el sz lo S ys=some r):yX E σ (.lu el sz lo S) ds r:=by
 unfold zC2 at h;split at h
 ·simp only[qT]at hd;obtain⟨d,_,rfl,H,i,_,rfl,G,rfl⟩:=hd;obtain⟨B,h⟩:=qZ h;simp only[aE]at B;obtain⟨⟨⟨⟨a1,a2⟩,a3⟩,K⟩,J⟩:=B;have a1:=vW a1;have a2:=vW a2;subst a1 a2;split at h
  ·cases h;exact zBj l H G a3 K J
  ·cases h;exact zA2 l H G K J
  cases h
 ·rename_i n vC g b e v c w k;simp only[qT]at hd;obtain⟨d,_,rfl,H,i,_,rfl,G,j,_,rfl,h3,rfl⟩:=hd;obtain⟨B,h⟩:=qZ h;cases h;simp only[aE]at B;obtain⟨⟨⟨⟨⟨⟨rfl,rfl⟩,a1⟩,a2⟩,a3⟩,K⟩,J⟩:=B;have a1:=vW a1;have a2:=vW a2;subst a1 a2;simp only[qW]at H G h3;obtain⟨x,R,rfl⟩:=G;obtain⟨y,I,rfl⟩:=h3;obtain⟨p,A⟩:=H;obtain⟨z,W⟩:=l.s.z;have V:=vM l.s a3 W R;have U:=vM l.s K R I;have M:=vM l.s J I p;simp only at V U M;have u:=A;simp only[zC]at u;rcases u with rfl|⟨es,rfl,hlen,ha⟩
  ·have q:(D.nil).es.length=0:=rfl;rw[q]at M p;have hj:y.1+k=0:=by omega
   have N:x.1+c=0:=by omega
   refine .list l (d:=.nil) ?_ A (f2 ⟨_,_,get_new l _,zU I,by simp only[q];omega⟩ ⟨_,_,get_new l _,zU p,by simp only[q];omega⟩);show TOp.eval E (.lu vC g true true) [.nil,dI (x.1+c),dI (y.1+k)]=_;rw[hj,N];rfl
  have he:(D.sl vC g es).es.length=es.length:=rfl;rw[he]at M p;have O:TOp.eval E (.lu vC g true true) [.sl vC g es,dI (x.1+c),dI (y.1+k)]=some (.sl vC g ((es.drop (x.1+c).toNat).take ((y.1+k).toNat-(x.1+c).toNat))):=by
   rw[pZ];have P:vT true 0 [dI (x.1+c),dI (y.1+k)]=some ((x.1+c).toNat,[dI (y.1+k)]):=by simp only[vT,ai,kJ (by omega:0<=x.1+c),aj]
   have Q:vT true es.length [dI (y.1+k)]=some ((y.1+k).toNat,[]):=by simp only[vT,ai,kJ (by omega:0<=y.1+k),aj]
   simp only[P,Q];refine mE ?_;rw[bj,bj,bL (by omega),bL (by omega)];rfl
  have Z:(D.sl vC g ((es.drop (x.1+c).toNat).take ((y.1+k).toNat-(x.1+c).toNat))).es.length<=(y.1+k).toNat-(x.1+c).toNat:=by show(List.take _ _).length<=_;rw[cg];omega
  refine .list l O (by simp only[zC];exact .inr ⟨_,rfl,by rw[cg,dh];omega,λw X=>ha w (dx (dm X))⟩) (f2 ⟨_,_,get_new l _,zU I,?_⟩ ⟨_,_,get_new l _,zU p,?_⟩);all_goals grind
 cases h
def zCW(C:Cx)(lo h:Bool):LU->Rs
 | [.str n b,.int .i64 v c,.int .i64 w e]=>bif lo&&h&&kE C.F C.L 0 0 v c&&kE C.F C.L v c w e&&kE C.F C.L w e n 0 then some (C.add [] [(C.nx,b)] [] 1,.str C.nx b)else none
 |_=>none
theorem qVV(p:COk σ C){lo g:Bool}{ds:LR}(hd:qT σ ys ds)(h:zCW C lo g ys=some r):yX E σ (.sub lo g) ds r:=by
 unfold zCW at h;split at h
 ·simp only[qT]at hd;obtain⟨d,_,rfl,u,i,_,rfl,q,j,_,rfl,h3,rfl⟩:=hd;obtain⟨l,h⟩:=qZ h;cases h;simp only[aE]at l;obtain⟨⟨⟨⟨rfl,rfl⟩,a3⟩,A⟩,z⟩:=l;exact qQZ p u q h3 a3 A z
 cases h
def zDg(C:Cx):LU->Rs
 | [.int .i64 _ _,.int .i64 _ _]=>some (C.add [] [] [] 1,.int .i64 C.nx 0)
 |_=>none
theorem qWG(g:COk σ C){m:Bool}{ds:LR}(hd:qT σ ys ds)(h:zDg C ys=some r):yX E σ (.mm m) ds r:=by
 unfold zDg at h;split at h
 ·simp only[qT]at hd;obtain⟨d,_,rfl,l,i,_,rfl,j,rfl⟩:=hd;cases h;exact zAS g l j
 cases h
end
section
variable{E:Env}{σ:Wd}{C:Cx}
def zEK(C:Cx):LU->Rs
 | [.sl n _ sz b (.int .u8)]=>bif Nat.beq sz 1&&kE C.F C.L 0 1 n 0 then some (C.add [] [(C.nx,b)] [] 1,.str C.nx b)else none
 |_=>none
theorem qYj(j:COk σ C){ds:LR}(hd:qT σ ys ds)(h:zEK C ys=some r):yX E σ .ns ds r:=by
 unfold zEK at h;split at h
 ·simp only[qT]at hd;obtain⟨d,_,rfl,l,rfl⟩:=hd;obtain⟨g,h⟩:=qZ h;cases h;rw[aE]at g;have:=vW g.1;subst this;exact qSS j l g.2
 cases h
def qR1:BinOp->Bool
 |.eql|.neq=>true
 |_=>false
theorem qKN(h:qR1 op=true):op=.neq∨op=.eql:=by cases op<;>simp only[qR1]at h<;>first|(cases h;done)|exact .inl rfl|exact .inr rfl
def zAM(C:Cx)(op:BinOp)(v:Nat)(c:Int)(w:Nat)(e:Int):Rs:=match op with
 |.add=>some (qYy C v c w e)
 |.sub=>some (qVU C v c w e)
 |.mul=>some (C.add [] [] [] 1,.int .i64 C.nx 0)
 |_=>none
def qYo(C:Cx)(op:BinOp):LU->Rs
 | [.int k v c,.int k' w e]=>bif decide (k=k')then(match qX9 op C v c w e with
  |some (t,f)=>some (C,.bool t f)
  |none=>bif decide (k=.i64)then zAM C op v c w e else none)else none
 | [.str _ _,.str _ _]=>bif qR1 op then some (C,.bool [] [])else none
 |_=>none
theorem qSZ(q:COk σ C){a b:LM}{ds:LR}(hd:qT σ ys ds)(h:qYo C op ys=some r):yX E σ (.bin op ty a b) ds r:=by
 unfold qYo at h;split at h
 ·simp only[qT]at hd;obtain⟨d,_,rfl,p,i,_,rfl,l,rfl⟩:=hd;obtain⟨j,u⟩:=qZ h;clear h;have g:=dT j;clear j;subst g;split at u
  ·rename_i t f B;cases u;simp only[qW]at p l;obtain⟨x,A,rfl⟩:=p;obtain⟨y,z,rfl⟩:=l;exact qX8 q B A z
  obtain⟨j,h⟩:=qZ u;clear u;have g:=dT j;clear j;subst g;unfold zAM at h;split at h
  ·cases h;exact qYx q p l
  ·cases h;exact qVS q p l
  ·cases h;exact qWB q p l
  cases h
 ·simp only[qT]at hd;obtain⟨d,_,rfl,p,i,_,rfl,l,rfl⟩:=hd;obtain⟨j,h⟩:=qZ h;cases h;exact qLA q (qKN j).symm p l
 cases h
end
def qF6:jX:=(0,0,-1)
variable{kk:Option IntKind}{t:LN}
section
variable{E:Env}{σ:Wd}{C:Cx}
def zC8(C:Cx):LU->Rs
 | [.ptr cs o]=>some (C,.ptr cs o)
 |_=>none
theorem qWl(j:COk σ C){ds:LR}(hd:qT σ ys ds)(h:zC8 C ys=some r):yX E σ .nh ds r:=by
 unfold zC8 at h;split at h
 ·simp only[qT]at hd;obtain⟨d,_,rfl,g,rfl⟩:=hd;cases h;have l:=g;simp only[qW]at g;obtain⟨es,rfl,_⟩:=g;exact .same j iD l
 cases h
def zDz(C:Cx)(ag:Bool)(size:Nat):LU->Rs
 | [.ptr cs o]=>(qKq ag size o cs).map λy=>(C,y)
 |_=>none
theorem qXe(l:COk σ C){ds:LR}(hd:qT σ ys ds)(h:zDz C ag size ys=some r):yX E σ (.k8 ag size) ds r:=by
 unfold zDz at h;split at h
 ·simp only[qT]at hd;obtain⟨d,_,rfl,g,rfl⟩:=hd;simp only[qW]at g;obtain⟨es,rfl,g⟩:=g;obtain⟨y,j,rfl⟩:=aa.1 h;obtain⟨d',τ,u,q,p⟩:=qPx (E:=E) l (d:=.agg es) (by simp only[qW];exact⟨es,rfl,g⟩) j;exact⟨d',τ,u,q,p⟩
 cases h
def zFN(C:Cx)(ys:LU):Rs:=some (C,.ptr ys 0)
theorem qYk(g:COk σ C){ds:LR}(hd:qT σ ys ds)(h:zFN C ys=some r):yX E σ .box ds r:=by cases h;exact .same g qGf (by simp only[qW];exact⟨ds,rfl,hd⟩)
def zEI(C:Cx):LU->Rs
 | [.st cs]=>some (C,.ptr cs 0)
 |_=>none
theorem qYh(j:COk σ C){ds:LR}(hd:qT σ ys ds)(h:zEI C ys=some r):yX E σ .ny ds r:=by
 unfold zEI at h;split at h
 ·simp only[qT]at hd;obtain⟨d,_,rfl,g,rfl⟩:=hd;cases h;simp only[qW]at g;obtain⟨es,rfl,g⟩:=g;exact .same j iE (by simp only[qW];exact⟨es,rfl,g⟩)
 cases h
def zDc(C:Cx)(h:Bool):LU->Rs
 | [.nil]=>some (C,bif h then .bool [qF6] []else .bool [] [qF6])
 | [.sl _ _ _ _ _]=>some (C,.bool [] [])
 |_=>none
theorem qWA(j:COk σ C){neg:Bool}{ds:LR}(hd:qT σ ys ds)(h:zDc C neg ys=some r):yX E σ (.isNil neg) ds r:=by
 unfold zDc at h;split at h
 ·simp only[qT,qW]at hd;obtain⟨d,_,rfl,rfl,rfl⟩:=hd;cases h;cases neg with
  |true=>exact .same j e7 (by simp only[ai,qW];exact⟨false,rfl,λe=>(by cases e),λ_ q g=>(by cases g)⟩)
  |false=>exact .same j e7 (by simp only[bc,qW];exact⟨true,rfl,λ_ q g=>(by cases g),λe=>(by cases e)⟩)
 ·simp only[qT]at hd;obtain⟨d,_,rfl,p,rfl⟩:=hd;cases h;have l:∀b:Bool,qW σ (.bool [] []) (dB b):=λb=>by simp only[qW];exact⟨b,rfl,λ_ q g=>(by cases g),λ_ q g=>(by cases g)⟩
  simp only[qW,zC]at p;rcases p.2 with rfl|⟨es,rfl,_⟩
  ·exact .same j e7 (l _)
  exact .same j e7 (l _)
 cases h
theorem qYn{x y:LM}(h:op=.and∨op=.or∨op=.xor∨op=.andNot)(m n:Int):∃r:Int,TOp.eval E (.bin op t x y) [.leaf (.int k m),.leaf (.int k n)]=some (.leaf (.int k r)):=by rcases h with rfl|rfl|rfl|rfl<;>cases k<;>exact⟨_,rfl⟩
theorem qV2{x y:LM}{k':IntKind}(h:op=.shl∨op=.shr)(m:Int){n:Int}(j:0<=n):∃r:Int,TOp.eval E (.bin op t x y) [.leaf (.int k m),.leaf (.int k' n)]=some (.leaf (.int k r)):=by
 have g:¬n<0:=by omega
 rcases h with rfl|rfl
 ·have e:pA E .shl t x y (.int k m) (.int k' n)=flat? (zB E.prog (Op.shift .shl k m k' n)):=rfl;rw[bH];show∃r,dL (pA E .shl t x y (.int k m) (.int k' n))=_;rw[e,Op.shift,bf g];exact⟨_,rfl⟩
 have e:pA E .shr t x y (.int k m) (.int k' n)=flat? (zB E.prog (Op.shift .shr k m k' n)):=rfl;rw[bH];show∃r,dL (pA E .shr t x y (.int k m) (.int k' n))=_;rw[e,Op.shift,bf g];exact⟨_,rfl⟩
def qVd:BinOp->Bool
 |.and|.or|.xor|.andNot=>true
 |_=>false
def qVb:BinOp->Bool
 |.shl|.shr=>true
 |_=>false
theorem qPh(h:qVd op=true):op=.and∨op=.or∨op=.xor∨op=.andNot:=by cases op<;>first|(cases h;done)|exact .inl rfl|exact .inr (.inl rfl)|exact .inr (.inr (.inl rfl))|exact .inr (.inr (.inr rfl))
theorem qPg(h:qVb op=true):op=.shl∨op=.shr:=by cases op<;>first|(cases h;done)|exact .inl rfl|exact .inr rfl
def zEJ(C:Cx)(op:BinOp):LU->Rs
 | [.int k _ _,.int k' w e]=>bif (qVd op&&decide (k=k'))||(qVb op&&kE C.F C.L 0 0 w e)then some (C.add [] [] [] 1,.int k C.nx 0)else none
 |_=>none
theorem qYi(j:COk σ C){a b:LM}{ds:LR}(hd:qT σ ys ds)(h:zEJ C op ys=some r):yX E σ (.bin op ty a b) ds r:=by
 unfold zEJ at h;split at h
 ·rename_i k v c k' w e;simp only[qT]at hd;obtain⟨d,_,rfl,q,i,_,rfl,p,rfl⟩:=hd;simp only[qW]at q p;obtain⟨x,H,rfl⟩:=q;obtain⟨y,B,rfl⟩:=p;obtain⟨z,A⟩:=j.s.z;obtain⟨g,h⟩:=qZ h;cases h;rcases eg.1 g with g|g<;>rw[aE]at g
  ·have G:=dT g.2;subst G;obtain⟨n,l⟩:=qYn (E:=E) (t:=ty) (x:=a) (y:=b) (qPh g.1) _ _;exact .num j l (by simp)
  have u:=vM j.s g.2 A B;simp only at u;obtain⟨n,l⟩:=qV2 (E:=E) (t:=ty) (x:=a) (y:=b) (qPg g.1) (x.1+c) (n:=y.1+e) (by omega);exact .num j l (by simp)
 cases h
mutual
def xU:Sn->D->Bool
 |.bool,.leaf (.bool _)=>true
 |.int k,.leaf (.int k' _)=>decide (k=k')
 |.str n,.leaf (.string s)=>Nat.ble s.size n
 |.sl _ _ _ _,.nil=>true
 |.st fs,.agg cs=>sR fs cs
 |_,_=>false
def sR:LZ->LR->Bool
 | [],[]=>true
 |s::ss,d::ds=>xU s d&&sR ss ds
 |_,_=>false
end
mutual
theorem iY:∀{s:Sn} {d:D},xU s d=true->zC s d
 |.bool,d,h=>by
  cases d with
  |leaf v=>cases v<;>first|(simp[xU]at h;done)|(simp only[zC];exact⟨_,rfl⟩)
  |_=>simp[xU]at h
 |.int k,d,h=>by
  cases d with
  |leaf v=>cases v<;>first|(simp[xU]at h;done)|(simp only[xU,fk]at h;subst h;simp only[zC];exact⟨_,rfl⟩)
  |_=>simp[xU]at h
 |.str n,d,h=>by
  cases d with
  |leaf v=>cases v<;>first|(simp[xU]at h;done)|(simp only[xU]at h;simp only[zC];exact⟨_,rfl,oA h⟩)
  |_=>simp[xU]at h
 |.sl _ _ _ _,d,h=>by cases d<;>first|(simp[xU]at h;done)|(simp only[zC];exact .inl trivial)
 |.st fs,d,h=>by cases d<;>first|(simp only[xU]at h;simp only[zC];exact⟨_,rfl,qAQ h⟩)|(simp[xU]at h;done)
 |.any,d,h=>by cases d<;>simp[xU]at h
 |.ptr _,d,h=>by cases d<;>simp[xU]at h
 |.kr _ _ _,d,h=>by cases d<;>simp[xU]at h
 |.mp _ _,d,h=>by cases d<;>simp[xU]at h
 |.wh _ _,d,h=>by cases d<;>simp[xU]at h
theorem qAQ:∀{ss:LZ} {ds:LR},sR ss ds=true->zS ss ds
 | [],[],_=>by simp only[zS]
 | [],_::_,h=>by cases h
 |_::_,[],h=>by cases h
 |s::ss,d::ds,h=>by simp only[sR,aE]at h;simp only[zS];exact⟨d,ds,rfl,iY h.1,qAQ h.2⟩
end
def qPe:TypeDesc->Option IntKind->Bool
 |.string,none=>true
 |.int k,some k'=>decide (k=k')
 |_,_=>false
theorem qEF{kd:TypeDesc}{kk:Option IntKind}(g:qPe kd kk=true){k:LQ}(h:qMf kk k):∀{l:LA} (i:Nat),(∀v∈l,qMf kk v)->∃o,qBo kd k l i=some o/\∀j,o=some j->j<i+l.length
 | [],i,_=>⟨none,rfl,λj e=>by cases e⟩
 | x::r,i,q=>by
  obtain⟨b,u⟩:∃b,Instr.sameNow kd k x=some b:=by
   have p:=q x aq;unfold qPe at g;split at g
   ·obtain⟨s,rfl⟩:=h;obtain⟨t,rfl⟩:=p;exact⟨_,rfl⟩
   ·have g:=dT g;subst g;obtain⟨m,rfl⟩:=h;obtain⟨n,rfl⟩:=p;exact⟨m==n,by simp[Instr.sameNow]⟩
   cases g
  simp only[qBo,u];cases b with
  |true=>exact⟨_,rfl,λj e=>by cases e;simp⟩
  |false=>obtain⟨o,A,z⟩:=qEF g h (i+1) (λv hv=>q v (mC _ hv));grind
def qWE(E:Env)(t:LN)(k:Option IntKind)(e:Sn):Bool:=match qI6 E t with
 |some (kd,ag,z)=>qPe kd k&&(match rD ag z with
  |some v=>zP v&&xU e (qIu v)
  |none=>false)
 |none=>false
theorem qFU{k:Option IntKind}(h:qWE E t k e=true):∃kd ag z v,qI6 E t=some (kd,ag,z)/\qPe kd k=true/\rD ag z=some v/\zP v=true/\zC e (qIu v):=by
 unfold qWE at h;split at h
 ·rename_i kd ag z hm;rw[aE]at h;obtain⟨g,h⟩:=h;split at h
  ·rename_i v hv;rw[aE]at h;exact⟨kd,ag,z,v,hm,g,hv,h.1,iY h.2⟩
  cases h
 cases h
def qPd:Option IntKind->Y->Bool
 |none,.str _ _=>true
 |some k,.int k' _ _=>decide (k=k')
 |_,_=>false
theorem qFX{d:D}(hd:qW σ y d)(h:qPd kk y=true):∃v,d=.leaf v/\qMf kk v:=by
 unfold qPd at h;split at h
 ·simp only[qW]at hd;obtain⟨s,_,rfl,_⟩:=hd;exact⟨_,rfl,s,rfl⟩
 ·have h:=dT h;subst h;simp only[qW]at hd;obtain⟨x,_,rfl⟩:=hd;exact⟨_,rfl,_,rfl⟩
 cases h
abbrev qYB:=TypeId->Option (Option IntKind×Sn)
def zDj(M:qYB)(C:Cx)(t:LN)(ok:Bool):LU->Rs
 | [m,k]=>match M t with
  |some (kk,e)=>bif mT C m (.mp kk e)&&qPd kk k then some (bif ok then((fresh e C).1,.gd [(fresh e C).2,.bool [] []])else fresh e C)else none
  |none=>none
 |_=>none
def zDf(M:qYB)(C:Cx)(t:LN):LU->Rs
 | [m,k,x]=>match M t with
  |some (kk,e)=>bif mT C m (.mp kk e)&&qPd kk k&&mT C x e then some (C,.mp kk e)else none
  |none=>none
 |_=>none
def zDk(M:qYB)(C:Cx)(t:LN):LU->Rs
 | [m,k]=>match M t with
  |some (kk,e)=>bif mT C m (.mp kk e)&&qPd kk k then some (C,.mp kk e)else none
  |none=>none
 |_=>none
theorem qCP{kd:TypeDesc}(q:qPe kd kk=true){k:LQ}(h:qMf kk k){g:LA}{ds:LR}(A:g.length=ds.length)(u:∀v∈g,qMf kk v)(p:∀x∈ds,zC e x):(∃i d,qBo kd k g 0=some (some i)/\ds[i]? = some d/\zC e d)∨qBo kd k g 0=some none:=by
 obtain⟨o,l,z⟩:=qEF q h 0 u;cases o with
 |none=>exact .inr l
 |some i=>
  have:=z i rfl;have j:i<ds.length:=by omega
  exact .inl ⟨i,ds[i],l,ak j,p _ (gh j)⟩
theorem qWK{M:qYB}(R:∀t k e,M t=some (k,e)->qWE E t k e=true)(J:COk σ C){ok:Bool}{ds:LR}(hd:qT σ ys ds)(h:zDj M C t ok ys=some r):yX E σ (.nw t ok) ds r:=by
 unfold zDj at h;split at h;case h_2=>cases h
 simp only[qT]at hd;obtain⟨m,_,rfl,U,k,_,rfl,S,rfl⟩:=hd;split at h;case h_2=>cases h
 rename_i kk e O;obtain⟨B,h⟩:=qZ h;rw[aE]at B;have g:=rN J B.1 U;simp only[zC]at g;obtain⟨I,es,rfl,P,Q,N⟩:=g;obtain⟨H,rfl,u⟩:=qFX S B.2;obtain⟨kd,ag,z,v,K,Z,X,e4,e5⟩:=qFU (R _ _ _ O);have l:∀(d:D) (b:Bool),zC e d->TOp.eval E (.nw t ok) [.mp I es,.leaf H]=some (bif ok then .gd [d,dB b]else d)->yX E σ (.nw t ok) [.mp I es,.leaf H] r:=by
  intro d b A j;obtain⟨τ,f1,f2⟩:=eT A J;cases ok with
  |true=>cases h;refine⟨_,τ,j,f1,?_⟩;simp only[ai,qW];refine⟨_,rfl,?_⟩;simp only[qT,qW];exact⟨d,_,rfl,f2,_,_,rfl,⟨b,rfl,λ_ q p=>(by cases p),λ_ q p=>(by cases p)⟩,rfl⟩
  |false=>cases h;exact⟨_,τ,j,f1,f2⟩
 rcases qCP Z u P Q N with⟨i,d,G,W,V⟩|G
 ·refine l d true V ?_;rw[qGd];unfold qA3;simp only[K,keysD,G,W,aj]
 refine l (qIu v) false e5 ?_;rw[qGd];unfold qA3;simp only[K,keysD,G,X,e4,ai]
theorem qWD{M:qYB}(N:∀t k e,M t=some (k,e)->qWE E t k e=true)(l:COk σ C){ds:LR}(hd:qT σ ys ds)(h:zDf M C t ys=some r):yX E σ (.ow t) ds r:=by
 unfold zDf at h;split at h;case h_2=>cases h
 simp only[qT]at hd;obtain⟨m,_,rfl,P,k,_,rfl,O,x,_,rfl,h3,rfl⟩:=hd;split at h;case h_2=>cases h
 rename_i kk e I;obtain⟨j,h⟩:=qZ h;cases h;simp only[aE]at j;have g:=rN l j.1.1 P;have G:=rN l j.2 h3;simp only[zC]at g;obtain⟨A,es,rfl,J,K,H⟩:=g;obtain⟨u,rfl,p⟩:=qFX O j.1.2;obtain⟨kd,ag,z,v,B,Q,U,e4,e5⟩:=qFU (N _ _ _ I);rcases qCP Q p J K H with⟨i,d,q,S,R⟩|q
 ·refine .same l (d:=.mp (A.set i u) (es.set i x)) ?_ ?_
  ·rw[qGb];unfold qA2;simp only[B,q]
  simp only[qW,zC];grind
 refine .same l (d:=.mp (A++[u]) (es++[x])) ?_ ?_
 ·rw[qGb];unfold qA2;simp only[B,q]
 simp only[qW,zC];grind
theorem qWL{M:qYB}(K:∀t k e,M t=some (k,e)->qWE E t k e=true)(q:COk σ C){ds:LR}(hd:qT σ ys ds)(h:zDk M C t ys=some r):yX E σ (.qm t) ds r:=by
 unfold zDk at h;split at h;case h_2=>cases h
 simp only[qT]at hd;obtain⟨m,_,rfl,O,k,_,rfl,N,rfl⟩:=hd;split at h;case h_2=>cases h
 rename_i kk e J;obtain⟨p,h⟩:=qZ h;cases h;rw[aE]at p;have g:=rN q p.1 O;simp only[zC]at g;obtain⟨A,es,rfl,G,H,B⟩:=g;obtain⟨R,rfl,l⟩:=qFX N p.2;obtain⟨kd,ag,z,v,I,Q,V,e4,e5⟩:=qFU (K _ _ _ J);rcases qCP Q l G H B with⟨i,d,u,P,U⟩|u
 ·refine .same q (d:=.mp (A.eraseIdx i) (es.eraseIdx i)) ?_ ?_
  ·rw[qK2];unfold qKy;simp only[I,u]
  simp only[qW,zC];have S:i<es.length:=(gI P).1;refine⟨_,_,rfl,by rw[List.length_eraseIdx,List.length_eraseIdx,G],λw j=>H w (List.mem_of_mem_eraseIdx j),λw j=>B w (List.mem_of_mem_eraseIdx j)⟩
 refine .same q (d:=.mp A es) ?_ ?_
 ·rw[qK2];unfold qKy;simp only[I,u]
 simp only[qW,zC];grind
end
section
variable{E:Env}{σ:Wd}{C:Cx}
def zDh(C:Cx):LU->Rs
 | [.mp _ _]=>some (C.add [(0,C.nx,0)] [] [] 1,.int .i64 C.nx 0)
 | [.sa]=>some (C.add [(0,C.nx,0)] [] [] 1,.int .i64 C.nx 0)
 |_=>none
theorem qWH(j:COk σ C){ds:LR}(hd:qT σ ys ds)(h:zDh C ys=some r):yX E σ .ox ds r:=by
 obtain⟨z,l⟩:=j.s.z;have q:∀g es,yX E σ .ox [.mp g es] (C.add [(0,C.nx,0)] [] [] 1,.int .i64 C.nx 0):=λg es=>
  .num j (n:=(g.length:Int)) qK0 (f1 (zU l) (get_new j _) (by simp only;omega))
 unfold zDh at h;split at h
 ·simp only[qT]at hd;obtain⟨d,_,rfl,p,rfl⟩:=hd;cases h;simp only[qW,zC]at p;grind
 ·simp only[qT,qW]at hd;grind
 cases h
def zDw(C:Cx)(el sz bytes:Nat)(ag:Bool)(zs:LA)(e:Sn):LU->Rs
 | [.int .i64 w c,.int .i64 v k]=>
  bif Nat.beq w 0&&decide (c=0)&&kE C.F C.L 0 0 v k&&kE C.F C.L v k 0 ((qYV C v:Int)+k).toNat&&(Nat.beq zs.length sz&&zs.all (λv=>zP v&&qU v)&&(ag||Nat.beq sz 1))&&Nat.ble (Nat.mul ((qYV C v:Int)+k).toNat (Nat.succ (Nat.add bytes sz))) 1000000000 then some (C.add [(C.nx,0,0),(0,C.nx,0)] [(C.nx,0)] [] 1,.sl C.nx el sz 0 e)else none
 |_=>none
theorem qWP(g:COk σ C){sz bytes:Nat}{ds:LR}(hd:qT σ ys ds)(h:zDw C el sz bytes ag zs e ys=some r):yX E σ (.mk el sz bytes ag zs) ds r:=by
 unfold zDw at h;split at h
 ·rename_i w c v k;simp only[qT]at hd;obtain⟨d,_,rfl,B,i,_,rfl,A,rfl⟩:=hd;obtain⟨u,h⟩:=qZ h;cases h;simp only[aE,fk]at u;obtain⟨⟨⟨⟨⟨a1,a2⟩,a3⟩,K⟩,N⟩,J⟩:=u;have a1:=vW a1;subst a1 a2;simp only[qW]at B A;obtain⟨x,l,rfl⟩:=B;obtain⟨y,q,rfl⟩:=A;obtain⟨z,j⟩:=g.s.z;rw[j]at l;cases l;have H:=vM g.s a3 j q;have G:=vM g.s K q j;simp only at H G;have I:natD (dI (y.1+k))=some (y.1+k).toNat:=kJ (by omega);have p:TOp.eval E (.mk el sz bytes ag zs) [dI (0+0),dI (y.1+k)]=some (.sl el sz []):=by rw[qGc,I];show(bif Nat.beq zs.length sz&&zs.all (λv=>zP v&&qU v)&&(ag||Nat.beq sz 1)&&Nat.ble (Nat.mul (y.1+k).toNat (Nat.succ (Nat.add bytes sz))) 1000000000 then some (D.sl el sz [])else none)=_;have M:Nat.ble (Nat.mul (y.1+k).toNat (Nat.succ (Nat.add bytes sz))) 1000000000=true:=bL (lT (eu _ (by omega)) (oA J));grind
  refine .list g p (by simp only[zC];exact .inr ⟨[],rfl,cq _,λx l=>by cases l⟩) (f2 ⟨_,_,get_new g _,zU j,by simp[D.es]⟩ ⟨_,_,zU j,get_new g _,by simp[D.es]⟩)
 cases h
def zEu(C:Cx)(el sz:Nat):LU->Rs
 | [.sl n vC h b e,.int .i64 v c]=>bif Nat.beq vC el&&Nat.beq h sz&&kE C.F C.L 0 0 v c&&kE C.F C.L v (c+1) n 0 then some (C.add [(C.nx,n,0),(n,C.nx,0)] [(C.nx,b)] [] 1,.sl C.nx el sz b e)else none
 |_=>none
theorem qX4(l:COk σ C){sz:Nat}{ds:LR}(hd:qT σ ys ds)(h:zEu C el sz ys=some r):yX E σ (.ot el sz) ds r:=by
 unfold zEu at h;split at h
 ·rename_i n vC g b e v c;simp only[qT]at hd;obtain⟨d,_,rfl,I,i,_,rfl,H,rfl⟩:=hd;obtain⟨G,h⟩:=qZ h;cases h;simp only[aE]at G;obtain⟨⟨⟨a1,a2⟩,a3⟩,N⟩:=G;have a1:=vW a1;have a2:=vW a2;subst a1 a2;simp only[qW]at I H;obtain⟨x,A,rfl⟩:=H;obtain⟨j,B⟩:=I;obtain⟨z,K⟩:=l.s.z;have J:=vM l.s a3 K A;have u:=vM l.s N A j;simp only at J u;simp only[zC]at B;rcases B with rfl|⟨es,rfl,hlen,O⟩
  ·have:(D.nil).es.length=0:=rfl;omega
  have he:(D.sl vC g es).es.length=es.length:=rfl;rw[he]at u j;obtain⟨m,hm⟩:∃m:Nat,x.1+c=(m:Int):=⟨(x.1+c).toNat,by omega⟩;have q:TOp.eval E (.ot vC g) [.sl vC g es,dI (x.1+c)]=some (.sl vC g (dD es m)):=by rw[hm,qPO];show(bif Nat.beq vC vC&&Nat.beq g g&&Nat.ble (m+1) es.length then some (D.sl vC g (dD es m))else none)=_;rw[bj,bj,bL (by omega)];rfl
  have p:(D.sl vC g (dD es m)).es.length=es.length:=by show(dD es m).length=_;unfold dD;grind
  refine .list l q ?_ (f2 ⟨_,_,get_new l _,zU j,by simp only[p];omega⟩ ⟨_,_,zU j,get_new l _,by simp only[p];omega⟩);simp only[zC];refine .inr ⟨_,rfl,by rw[show(dD es m).length=es.length from p];exact hlen,λw M=>?_⟩;unfold dD at M;grind
 cases h
def zEw(C:Cx)(el sz:Nat)(ag:Bool)(zs:LA):LU->Rs
 | [.sl n vC h b e,.int .i64 v c]=>bif Nat.beq vC el&&Nat.beq h sz&&kE C.F C.L 0 0 v c&&kE C.F C.L v c n 0&&kE C.F C.L 0 1 n 0&&(Nat.beq zs.length sz&&zs.all (λv=>zP v&&qU v)&&(ag||Nat.beq sz 1))&&xU e (zD ag zs)then some (C.add [(C.nx,n,0),(n,C.nx,0)] [(C.nx,b)] [] 1,.sl C.nx el sz b e)else none
 |_=>none
theorem qYc(l:COk σ C){sz:Nat}{ds:LR}(hd:qT σ ys ds)(h:zEw C el sz ag zs ys=some r):yX E σ (.pz el sz ag zs) ds r:=by
 unfold zEw at h;split at h
 ·rename_i n vC g b e v c;simp only[qT]at hd;obtain⟨d,_,rfl,M,i,_,rfl,K,rfl⟩:=hd;obtain⟨J,h⟩:=qZ h;cases h;simp only[aE]at J;obtain⟨⟨⟨⟨⟨⟨a1,a2⟩,a3⟩,R⟩,Q⟩,U⟩,P⟩:=J;have a1:=vW a1;have a2:=vW a2;subst a1 a2;simp only[qW]at M K;obtain⟨x,H,rfl⟩:=K;obtain⟨j,I⟩:=M;obtain⟨z,G⟩:=l.s.z;have N:=vM l.s a3 G H;have B:=vM l.s R H j;have A:=vM l.s Q G j;simp only at N B A;simp only[zC]at I;rcases I with rfl|⟨es,rfl,hlen,S⟩
  ·have:(D.nil).es.length=0:=rfl;omega
  have he:(D.sl vC g es).es.length=es.length:=rfl;rw[he]at B A j;obtain⟨m,hm⟩:∃m:Nat,x.1+c=(m:Int):=⟨(x.1+c).toNat,by omega⟩;have O:(Nat.beq zs.length g&&zs.all (λv=>zP v&&qU v)&&(ag||Nat.beq g 1))=true:=by grind
  have u:TOp.eval E (.pz vC g ag zs) [.sl vC g es,dI (x.1+c)]=some (.sl vC g (es.take m++List.replicate (es.length-m) (zD ag zs))):=by rw[hm,qPP];show(bif Nat.beq vC vC&&Nat.beq g g&&(Nat.ble m es.length&&Nat.ble 1 es.length)&&(Nat.beq zs.length g&&zs.all (λv=>zP v&&qU v)&&(ag||Nat.beq g 1))then some (D.sl vC g (es.take m++List.replicate (es.length-m) (zD ag zs)))else none)=_;rw[bj,bj,bL (show m<=es.length by omega),bL (show 1<=es.length by omega),O];rfl
  have q:(D.sl vC g (es.take m++List.replicate (es.length-m) (zD ag zs))).es.length=es.length:=by show(es.take m++List.replicate (es.length-m) (zD ag zs)).length=_;grind
  refine .list l u ?_ (f2 ⟨_,_,get_new l _,zU j,by simp only[q];omega⟩ ⟨_,_,zU j,get_new l _,by simp only[q];omega⟩);simp only[zC];refine .inr ⟨_,rfl,by rw[show(es.take m++List.replicate (es.length-m) (zD ag zs)).length=es.length from q];exact hlen,λw p=>?_⟩;rcases bh.1 p with p|p
  ·grind
  rw[gp p];exact iY P
 cases h
theorem qEH:∀{fs:LZ} {cs:LR} {i:Nat} {f:Sn} {x:D},zS fs cs->fs[i]? = some f->zC f x->zS fs (cs.take i++([x]++cs.drop (i+1)))
 | [],cs,i,f,x,h,g,j=>by simp at g
 |s::ss,cs,i,f,x,h,g,j=>by
  simp only[zS]at h;obtain⟨d,r,rfl,p,l⟩:=h;cases i with
  |zero=>simp only[dq,oI]at g;subst g;simp only[List.take_zero,df,ej,fc,List.drop_succ_cons,jr,zS];exact⟨x,r,rfl,j,l⟩
  |succ i=>simp only[ix]at g;simp only[ji,ej,List.drop_succ_cons,zS];exact⟨d,_,rfl,p,qEH l g j⟩
theorem qKc(j:COk σ C){n sz:Nat}{l i x:D}(u:qW σ (.sl n el sz b e) l)(M:qW σ (.int .i64 v c) i)(S:kE C.F C.L 0 0 v c=true)(R:kE C.F C.L v (c+1) n 0=true)(H:cI ag size x=some x)(hle:Nat.ble (off+size) sz=true)(P:∀q,zC e q->zC e (aG q off x.cells)):yX E σ (.set sz ag size off) [l,i,x] (C.add [(C.nx,n,0),(n,C.nx,0)] [(C.nx,b)] [] 1,.sl C.nx el sz b e):=by
 simp only[qW]at u M;obtain⟨k,K,rfl⟩:=M;obtain⟨z,A⟩:=j.s.z;obtain⟨h,u⟩:=u;have O:=vM j.s S A K;have I:=vM j.s R K h;simp only at O I;simp only[zC]at u;rcases u with rfl|⟨es,rfl,hlen,N⟩
 ·have:(D.nil).es.length=0:=rfl;omega
 have G:(D.sl el sz es).es=es:=rfl;rw[G]at I h;have p:(k.1+c).toNat<es.length:=by omega
 have Q:es[(k.1+c).toNat]? = some es[(k.1+c).toNat]:=ak p;have B:TOp.eval E (.set sz ag size off) [.sl el sz es,dI (k.1+c),x]=some (.sl el sz (es.set (k.1+c).toNat (aG es[(k.1+c).toNat] off x.cells))):=by rw[aZ,kJ (by omega)];simp only[H,Q];exact mE (by rw[bj,hle];rfl)
 have J:(D.sl el sz (es.set (k.1+c).toNat (aG es[(k.1+c).toNat] off x.cells))).es.length=es.length:=by show(es.set _ _).length=_;rw[ef]
 refine .list j B ?_ (f2 ⟨_,_,get_new j _,zU h,by simp only[J];omega⟩ ⟨_,_,zU h,get_new j _,by simp only[J];omega⟩);simp only[zC];refine .inr ⟨_,rfl,by rw[ef];exact hlen,λw g=>?_⟩;rcases ij g with g|rfl
 ·exact N w g
 exact P _ (N _ (gh p))
def zB3:Sn->Bool
 |.st _=>true
 |.wh s _=>zB3 s
 |_=>false
theorem qJ9:∀{e:Sn} {q:D},zB3 e=true->zC e q->∃cs,q=.agg cs
 |.st _,q,_,h=>by simp only[zC]at h;obtain⟨cs,rfl,_⟩:=h;exact⟨cs,rfl⟩
 |.wh s _,q,hs,h=>by simp only[zC]at h;exact qJ9 (e:=s) hs h.1
 |.int _,_,hs,_=>by cases hs
 |.bool,_,hs,_=>by cases hs
 |.str _,_,hs,_=>by cases hs
 |.sl _ _ _ _,_,hs,_=>by cases hs
 |.any,_,hs,_=>by cases hs
 |.ptr _,_,hs,_=>by cases hs
 |.kr _ _ _,_,hs,_=>by cases hs
 |.mp _ _,_,hs,_=>by cases hs
theorem qGR:∀{e:Sn},zB3 e=true->qKl e=true
 |.st _,_=>rfl
 |.wh s _,h=>qGR (e:=s) h
 |.int _,h=>by cases h
 |.bool,h=>by cases h
 |.str _,h=>by cases h
 |.sl _ _ _ _,h=>by cases h
 |.any,h=>by cases h
 |.ptr _,h=>by cases h
 |.kr _ _ _,h=>by cases h
 |.mp _ _,h=>by cases h
def zFo(C:Cx)(sz size off:Nat)(n el h b:Nat)(e:Sn)(v:Nat)(c:Int)(y:Y)(k:Nat):Rs:=
 bif Nat.beq h sz&&Nat.beq size sz&&Nat.beq off 0&&Nat.beq k size&&mT C y e&&zB3 e&&Nat.beq (qDm e) sz&&kE C.F C.L 0 0 v c&&kE C.F C.L v (c+1) n 0 then some (C.add [(C.nx,n,0),(n,C.nx,0)] [(C.nx,b)] [] 1,.sl C.nx el sz b e)else none
def zFp(C:Cx)(sz size off:Nat)(n el h b:Nat)(fs:LZ)(v:Nat)(c:Int)(y:Y):Rs:=match fs[off]? with
 |some f=>bif Nat.beq h sz&&Nat.beq size 1&&Nat.ble (off+1) sz&&mT C y f&&qFO y&&kE C.F C.L 0 0 v c&&kE C.F C.L v (c+1) n 0 then some (C.add [(C.nx,n,0),(n,C.nx,0)] [(C.nx,b)] [] 1,.sl C.nx el sz b (.st fs))else none
 |none=>none
def zC6(C:Cx)(sz:Nat)(ag:Bool)(size off:Nat):LU->Rs
 | [.sl n el h b e,.int .i64 v c,y]=>match ag,y,e with
  |true,.st cs,e=>zFo C sz size off n el h b e v c (.st cs) cs.length
  |false,y,.st fs=>zFp C sz size off n el h b fs v c y
  |_,_,_=>none
 |_=>none
theorem qWh(A:COk σ C){sz:Nat}{ds:LR}(hd:qT σ ys ds)(h:zC6 C sz ag size off ys=some r):yX E σ (.set sz ag size off) ds r:=by
 unfold zC6 at h;split at h
 ·rename_i n el P b e v c y;simp only[qT]at hd;obtain⟨d,_,rfl,O,i,_,rfl,N,x,_,rfl,h3,rfl⟩:=hd;split at h
  ·rename_i e cs;unfold zFo at h;obtain⟨p,h⟩:=qZ h;cases h;simp only[aE]at p;obtain⟨⟨⟨⟨⟨⟨⟨⟨a1,a2⟩,a3⟩,z⟩,M⟩,B⟩,u⟩,U⟩,S⟩:=p;have a1:=vW a1;have a2:=vW a2;have a3:=vW a3;have z:=vW z;have u:=vW u;subst a1 a2 a3;have g:=rN A M h3;simp only[qW]at h3;obtain⟨xs,rfl,H⟩:=h3;have I:xs.length=size:=by rw[←nT H];exact z
   refine qKc A O N U S ?_ (bL (by omega)) λq l=>?_
   ·show(bif Nat.beq xs.length size then some (D.agg xs)else none)=_;rw[I,bj];rfl
   obtain⟨G,rfl⟩:=qJ9 B l;have Q:G.length=size:=by rw[←u];exact qGt (qGR B) l
   show zC _ (.agg (iM G 0 xs));have:iM G 0 xs=xs:=by unfold iM;grind
   rw[this];exact g
  ·rename_i y fs;unfold zFp at h;split at h;case h_2=>cases h
   rename_i f R;obtain⟨p,h⟩:=qZ h;cases h;simp only[aE]at p;obtain⟨⟨⟨⟨⟨⟨a1,a2⟩,a3⟩,z⟩,M⟩,B⟩,u⟩:=p;have a1:=vW a1;have a2:=vW a2;subst a1 a2;have j:=tO M h3;have g:=rN A z h3;have J:x.cells=[x]:=by cases x<;>first|rfl|(simp[D.one]at j)
   refine qKc A O N B u ?_ a3 λq l=>?_
   ·show(bif x.one&&Nat.beq 1 1 then some x else none)=some x;rw[j];rfl
   rw[J];simp only[zC]at l ⊢;obtain⟨cs,rfl,K⟩:=l;exact⟨_,rfl,qEH K R g⟩
  cases h
 cases h
end
section
variable{E:Env}{σ:Wd}{C:Cx}
structure Tb where
 sh:Nat->Option Sn
 oth:TOp->LU->Option IntKind
 st:LN->Option (Nat×LZ)
 mp:qYB:=λ_=>none
structure TbOk (E:Env) (T:Tb):Prop where
 o:∀{o ys k},T.oth o ys=some k->∀{σ C ds},COk σ C->qT σ ys ds->∃n,TOp.eval E o ds=some (.leaf (.int k n))
 s:∀{t k ss},T.st t=some (k,ss)->mV E.prog k t=some (Sn.nd ss)/\pD E.prog t=true/\k<=10000/\E.prog.eqGuardType E.prog.depth t=false/\(Sn.nd ss).all qEP=true/\Sn.o8 ss=true
 m:∀t k e,T.mp t=some (k,e)->qWE E t k e=true
def qRm(T:Tb)(C:Cx)(o:TOp)(ys:LU):Rs:=match T.oth o ys with
 |some k=>some (C.add [] [] [] 1,.int k C.nx 0)
 |none=>none
theorem qKr{T:Tb}(p:TbOk E T)(g:COk σ C){ds:LR}(hd:qT σ ys ds)(h:qRm T C o ys=some r):yX E σ o ds r:=by
 unfold qRm at h;split at h
 ·rename_i k l;cases h;obtain⟨n,j⟩:=p.o l g hd;exact .num g j (by simp)
 cases h
def zCX(T:Tb)(C:Cx)(op:BinOp)(ty:LN):LU->Rs
 | [.st cs,.st cs']=>match T.st ty with
  |some (_,ss)=>bif qR1 op&&oE C cs ss&&oE C cs' ss then some (C,.bool [] [])else none
  |none=>none
 |_=>none
theorem qVX{T:Tb}(B:TbOk E T)(G:COk σ C){a b:LM}{ds:LR}(hd:qT σ ys ds)(h:zCX T C op ty ys=some r):yX E σ (.bin op ty a b) ds r:=by
 unfold zCX at h;split at h
 ·simp only[qT]at hd;obtain⟨d,_,rfl,I,i,_,rfl,H,rfl⟩:=hd;split at h
  ·rename_i k ss A;obtain⟨g,h⟩:=qZ h;cases h;simp only[aE]at g;obtain⟨z,u,q,p,l,j⟩:=B.s A;exact qNY G (qKN g.1.1) I H g.1.2 g.2 j z rfl u q p l
  cases h
 cases h
end
section
variable{E:Env}{σ:Wd}{C:Cx}
def zFu(C:Cx)(el sz bytes:Nat)(ag:Bool)(zs:LA)(e:Sn)(v:Nat)(c:Int)(b:Nat):Rs:=
 bif kE C.F C.L 0 0 v c&&kE C.F C.L v c 0 b&&Nat.ble b 300000000&&(Nat.beq zs.length sz&&zs.all (λv=>zP v&&qU v)&&(ag||Nat.beq sz 1))&&Nat.ble (bytes+sz) 2&&qJZ e (zD ag zs)then some (C.add [(C.nx,v,c),(v,C.nx,-c)] [(C.nx,b)] [] 1,.sl C.nx el sz b e)else none
def zDi(T:Tb)(C:Cx)(el sz bytes:Nat)(ag:Bool)(zs:LA):LU->Rs
 | [.int .i64 v c]=>(match T.sh el with
  |some e=>zFu C el sz bytes ag zs e v c ((qYV C v:Int)+c).toNat
  |none=>none)
 |_=>none
theorem qWJ(A:COk σ C){T:Tb}{sz bytes:Nat}{ds:LR}(hd:qT σ ys ds)(h:zDi T C el sz bytes ag zs ys=some r):yX E σ (.mk el sz bytes ag zs) ds r:=by
 unfold zDi at h;split at h
 ·simp only[qT]at hd;obtain⟨d,_,rfl,B,rfl⟩:=hd;split at h
  ·unfold zFu at h;obtain⟨g,h⟩:=qZ h;cases h;simp only[aE]at g;obtain⟨⟨⟨⟨⟨z,u⟩,q⟩,p⟩,l⟩,j⟩:=g;exact zAW A B z u q (by simp only[aE];exact p) l j
  cases h
 cases h
def qRv:Sn->Bool
 |.st _|.any|.ptr _|.kr _ _ _|.mp _ _=>false
 |.wh s _=>qRv s
 |_=>true
theorem qFP:∀{e:Sn},qRv e=true->∀{d:D},zC e d->d.one=true
 |.int _,_,d,hd=>by simp only[zC]at hd;obtain⟨_,rfl⟩:=hd;rfl
 |.bool,_,d,hd=>by simp only[zC]at hd;obtain⟨_,rfl⟩:=hd;rfl
 |.str _,_,d,hd=>by simp only[zC]at hd;obtain⟨_,rfl,_⟩:=hd;rfl
 |.sl _ _ _ _,_,d,hd=>by simp only[zC]at hd;rcases hd with rfl|⟨_,rfl,_⟩<;>rfl
 |.wh s _,h,d,hd=>by simp only[zC]at hd;exact qFP (e:=s) h hd.1
theorem qV3(g:COk σ C){n:Nat}{l i x:D}(A:qW σ (.sl n el 1 b e) l)(R:qW σ (.int .i64 v c) i)(V:qW σ y x)(X:mT C y e=true)(O:qRv e=true)(h0:kE C.F C.L 0 0 v c=true)(Z:kE C.F C.L v (c+1) n 0=true):yX E σ (.set 1 false 1 0) [l,i,x] (C.add [(C.nx,n,0),(n,C.nx,0)] [(C.nx,b)] [] 1,.sl C.nx el 1 b e):=by
 have j:=rN g X V;simp only[qW]at A R;obtain⟨k,Q,rfl⟩:=R;obtain⟨z,G⟩:=g.s.z;obtain⟨h,A⟩:=A;have U:=vM g.s h0 G Q;have N:=vM g.s Z Q h;simp only at U N;simp only[zC]at A;rcases A with rfl|⟨es,rfl,hlen,S⟩
 ·have:(D.nil).es.length=0:=rfl;omega
 have K:(D.sl el 1 es).es=es:=rfl;rw[K]at N h;have u:(k.1+c).toNat<es.length:=by omega
 have W:es[(k.1+c).toNat]? = some es[(k.1+c).toNat]:=ak u;have B:=qFP O (S _ (gh u));have p:=qFP O j;have H:x.cells=[x]:=by cases x<;>first|rfl|(simp[D.one]at p)
 have J:TOp.eval E (.set 1 false 1 0) [.sl el 1 es,dI (k.1+c),x]=some (.sl el 1 (es.set (k.1+c).toNat x)):=by
  rw[aZ,kJ (by omega)];have M:cI false 1 x=some x:=by show(bif x.one&&Nat.beq 1 1 then some x else none)=some x;rw[p];rfl
  simp only[M,W];refine(mE (by rfl)).trans ?_;rw[H];have:aG es[(k.1+c).toNat] 0 [x]=x:=by generalize es[(k.1+c).toNat]=q at B;cases q<;>first|rfl|(simp[D.one]at B)
  rw[this]
 have P:(D.sl el 1 (es.set (k.1+c).toNat x)).es.length=es.length:=by show(es.set (k.1+c).toNat x).length=_;rw[ef]
 refine .list g J ?_ (f2 ⟨_,_,get_new g _,zU h,by simp only[P];omega⟩ ⟨_,_,zU h,get_new g _,by simp only[P];omega⟩);simp only[zC];refine .inr ⟨_,rfl,by rw[ef];exact hlen,λw I=>?_⟩;rcases ij I with I|rfl
 ·exact S w I
 exact j
def zC4(C:Cx)(sz:Nat)(ag:Bool)(size off:Nat):LU->Rs
 | [.sl n el h b e,.int .i64 v c,y]=>
  bif Nat.beq sz 1&&Nat.beq h 1&& !ag&&Nat.beq size 1&&Nat.beq off 0&&mT C y e&&qRv e&&kE C.F C.L 0 0 v c&&kE C.F C.L v (c+1) n 0 then some (C.add [(C.nx,n,0),(n,C.nx,0)] [(C.nx,b)] [] 1,.sl C.nx el 1 b e)else none
 |_=>none
theorem qWg(p:COk σ C){sz:Nat}{ds:LR}(hd:qT σ ys ds)(h:zC4 C sz ag size off ys=some r):yX E σ (.set sz ag size off) ds r:=by
 unfold zC4 at h;split at h
 ·simp only[qT]at hd;obtain⟨d,_,rfl,u,i,_,rfl,q,x,_,rfl,h3,rfl⟩:=hd;obtain⟨l,h⟩:=qZ h;cases h;simp only[aE,fy]at l;obtain⟨⟨⟨⟨⟨⟨⟨⟨a1,a2⟩,a3⟩,j⟩,g⟩,G⟩,B⟩,A⟩,z⟩:=l;have a1:=vW a1;have a2:=vW a2;have j:=vW j;have g:=vW g;subst a1 a2 a3 j g;exact qV3 p u q h3 G B A z
 cases h
end
section
variable{E:Env}{σ:Wd}{C:Cx}
def zFO(C:Cx)(el sz bytes:Nat):LU->Rs
 | [a,b]=>qYs C el sz bytes a b
 |_=>none
def zFw(T:Tb)(C:Cx)(el sz:Nat)(ys:LU):Rs:=match T.sh el with
 |some e=>qWR C el sz e ys
 |none=>none
def qWm(a b:Rs):Rs:=match a with
 |some r=>some r
 |none=>b
theorem qCn{a b:Rs}(h:qWm a b=some r):a=some r∨b=some r:=by unfold qWm at h;grind
def zFv(T:Tb)(C:Cx)(el sz bytes:Nat)(ag:Bool)(zs:LA)(ys:LU):Rs:=match T.sh el with
 |some e=>zDw C el sz bytes ag zs e ys
 |none=>none
def zFt(C:Cx):LU->Rs
 | []=>some (C,.sa)
 |_=>none
def zC9(T:Tb)(C:Cx)(o:TOp)(ys:LU):Rs:=match o with
 |.len s=>qWV C s ys
 |.inr=>zDF C ys
 |.elem sz ag size off=>zDW C sz ag size off ys
 |.mz ag n=>qVW C ag n ys
 |.mq ag size off=>qXr C ag size off ys
 |.ext i=>qXB C i ys
 |.un .not _=>qWw C ys
 |.qf=>zEx C ys
 |.lu el sz lo g=>zC2 C el sz lo g ys
 |.sub lo g=>zCW C lo g ys
 |.ns=>zEK C ys
 |.mm _=>zDg C ys
 |.lit el sz=>zFw T C el sz ys
 |.app el sz bytes=>zFO C el sz bytes ys
 |.mk el sz bytes ag zs=>qWm (zDi T C el sz bytes ag zs ys) (zFv T C el sz bytes ag zs ys)
 |.set sz ag size off=>qWm (zC4 C sz ag size off ys) (zC6 C sz ag size off ys)
 |.nh=>zC8 C ys
 |.k8 ag size=>zDz C ag size ys
 |.box=>zFN C ys
 |.ny=>zEI C ys
 |.isNil h=>zDc C h ys
 |.pg=>zFt C ys
 |.nw t ok=>zDj T.mp C t ok ys
 |.ow t=>zDf T.mp C t ys
 |.qm t=>zDk T.mp C t ys
 |.ox=>zDh C ys
 |.ot el sz=>zEu C el sz ys
 |.pz el sz ag zs=>zEw C el sz ag zs ys
 |.bin op ty a b=>qWm (zCX T C op ty ys) (qWm (qYo C op ys) (qWm (qRm T C (.bin op ty a b) ys) (zEJ C op ys)))
 |o=>qRm T C o ys
theorem qWu{T:Tb}(j:TbOk E T)(g:COk σ C){ds:LR}(hd:qT σ ys ds)(h:zC9 T C o ys=some r):yX E σ o ds r:=by
 unfold zC9 at h;split at h
 ·exact qRM g hd h
 ·exact qXm g hd h
 ·exact qXL g hd h
 ·exact qQ0 g hd h
 ·exact qSd g hd h
 ·exact qSv g hd h
 ·exact qRx g hd h
 ·exact qYf g hd h
 ·exact qVY g hd h
 ·exact qVV g hd h
 ·exact qYj g hd h
 ·exact qWG g hd h
 ·unfold zFw at h;split at h
  ·exact qWQ g hd h
  cases h
 ·unfold zFO at h;split at h
  ·simp only[qT]at hd;obtain⟨d,_,rfl,p,i,_,rfl,l,rfl⟩:=hd;exact qS2 g p l h
  cases h
 ·rcases qCn h with h|h
  ·exact qWJ g hd h
  unfold zFv at h;split at h
  ·exact qWP g hd h
  cases h
 ·rcases qCn h with h|h
  ·exact qWg g hd h
  exact qWh g hd h
 ·exact qWl g hd h
 ·exact qXe g hd h
 ·exact qYk g hd h
 ·exact qYh g hd h
 ·exact qWA g hd h
 ·unfold zFt at h;split at h
  ·simp only[qT]at hd;subst hd;cases h;exact .same g qKZ (by simp only[qW])
  cases h
 ·exact qWK j.m g hd h
 ·exact qWD j.m g hd h
 ·exact qWL j.m g hd h
 ·exact qWH g hd h
 ·exact qX4 g hd h
 ·exact qYc g hd h
 ·rcases qCn h with h|h
  ·exact qVX j g hd h
  rcases qCn h with h|h
  ·exact qSZ g hd h
  rcases qCn h with h|h
  ·exact qKr j g hd h
  exact qYi g hd h
 exact qKr j g hd h
end
end Go.Am.Tt
