/- Spans that are taken out of spans: what is left, and how many. Conditions: none. -/
import Derived.Test.YtminhjecpnpaeaaGreatDoorUv
set_option linter.unusedVariables false
set_option linter.unusedSimpArgs false
namespace Go.Am
open Go
def mn(x y:Int):Int:=if y<x then y else x
def mx(x y:Int):Int:=if x<y then y else x
section
variable{E:Env}
theorem qXS{x y:Int}:TOp.eval E (.mm false) [dI x,dI y]=some (dI (mn x y)):=rfl
theorem qXR{x y:Int}:TOp.eval E (.mm true) [dI x,dI y]=some (dI (mx x y)):=rfl
theorem qXT(m:Bool)(x y:Int):∃w:Int,TOp.eval E (.mm m) [dI x,dI y]=some (dI w):=by
 cases m
 ·exact⟨_,qXS⟩
 exact⟨_,qXR⟩
end
end Go.Am
namespace Go.Am.Tt
open Go Go.Am
def iJ:D->Int
 |.leaf (.int _ n)=>n
 |.leaf (.string s)=>(s.size:Int)
 |d=>(d.es.length:Int)
def sB:List Nat->D->D
 | [],d=>d
 |i::r,d=>sB r (match d with|.agg cs=>getD cs i|_=>.nil)
inductive Pt where
 |z
 |aT (p:List Nat)
 |el (p q:List Nat) (f:Nat)
def qJb(f:Nat):D->D
 |.agg cs=>getD cs f
 |d=>d
def qJm(d i:D):D:=d.es.getD (iJ i).toNat .nil
def qFb(ds:List D):Pt->Int
 |.z=>0
 |.aT p=>iJ (sB p (.agg ds))
 |.el p q f=>iJ (qJb f (qJm (sB p (.agg ds)) (sB q (.agg ds))))
abbrev Cn:=Pt×Pt×Int
def qBx(ds:List D)(q:Cn):Prop:=qFb ds q.1<=qFb ds q.2.1+q.2.2
def qEc:List Nat->List Nat->Bool
 | [],[]=>true
 |a::r,b::s=>Nat.beq a b&&qEc r s
 |_,_=>false
theorem tG:∀{a b:List Nat},qEc a b=true->a=b
 | [],[],_=>rfl
 | [],_::_,h=>by cases h
 |_::_,[],h=>by cases h
 |a::r,b::s,h=>by simp only[qEc,aE]at h;rw[vE h.1,tG h.2]
def Pt.eqb:Pt->Pt->Bool
 |.z,.z=>true
 |.aT p,.aT q=>qEc p q
 |.el p q f,.el h q' x=>qEc p h&&(qEc q q'&&Nat.beq f x)
 |_,_=>false
theorem Pt.eqb_ok{a b:Pt}(h:a.eqb b=true):a=b:=by
 cases a<;>cases b<;>simp only[Pt.eqb]at h<;>first|rfl|(cases h;done)|skip
 ·rw[tG h]
 simp only[aE]at h;rw[tG h.1,tG h.2.1,vE h.2.2]
def zAl(a b:Cn):Bool:=a.1.eqb b.1&&(a.2.1.eqb b.2.1&&decide (a.2.2=b.2.2))
theorem qVL{a b:Cn}(h:zAl a b=true):a=b:=by obtain⟨p,q,c⟩:=a;obtain⟨x,q',y⟩:=b;simp only[zAl,aE,decide_eq_true_eq]at h;rw[Pt.eqb_ok h.1,Pt.eqb_ok h.2.1,h.2.2]
inductive Sn where
 |int (k:IntKind)
 |bool
 |str (n:Nat)
 |st (fs:List Sn)
 |sl (el sz n:Nat) (e:Sn)
 |any
 |ptr (fs:List Sn)
 |clo (f:Nat) (a c:List Sn)
 |mp (k:Option IntKind) (e:Sn)
 |wh (s:Sn) (q:List Cn)
def qL2:Option IntKind->Value->Prop
 |none,v=>∃s,v=.string s
 |some k,v=>∃n,v=.int k n
mutual
def qZ:Sn->D->Prop
 |.int k,d=>∃n,d=.leaf (.int k n)
 |.bool,d=>∃b,d=.leaf (.bool b)
 |.str n,d=>∃s,d=.leaf (.string s)/\s.size<=n
 |.st y,d=>∃cs,d=.agg cs/\zZ y cs
 |.sl el sz n e,d=>d=.nil∨∃es,d=.sl el sz es/\es.length<=n/\∀x∈es,qZ e x
 |.any,_=>True
 |.ptr y,d=>∃cs,d=.ptr cs 0/\zZ y cs
 |.clo f a c,d=>∃az cs,d=.clo (.func f) az cs/\zZ a az/\zZ c cs
 |.mp k e,d=>∃h ds,d=.mp h ds/\h.length=ds.length/\(∀v∈h,qL2 k v)/\∀x∈ds,qZ e x
 |.wh s q,d=>qZ s d/\∀c∈q,qBx [d] c
def zZ:List Sn->List D->Prop
 | [],l=>l=[]
 |s::ss,l=>∃d ds,l=d::ds/\qZ s d/\zZ ss ds
end
mutual
def Sn.fits:Sn->Sn->Bool
 |.int k,.int k'=>decide (k=k')
 |.bool,.bool=>true
 |.str n,.str m=>Nat.ble n m
 |.st y,.st x=>Sn.fitss y x
 |.sl el sz n e,.sl zS h m e'=>Nat.beq el zS&&Nat.beq sz h&&Nat.ble n m&&Sn.fits e e'
 |.ptr y,.ptr x=>Sn.fitss y x
 |.clo f a c,.clo b i g=>Nat.beq f b&&(Sn.fitss a i&&Sn.fitss c g)
 |.mp k e,.mp k' e'=>decide (k=k')&&Sn.fits e e'
 |.wh s q,.wh t q'=>Sn.fits s t&&q'.all λc=>q.any (zAl c)
 |.wh s _,t=>Sn.fits s t
 |_,_=>false
def Sn.fitss:List Sn->List Sn->Bool
 | [],[]=>true
 |a::l,b::m=>Sn.fits a b&&Sn.fitss l m
 |_,_=>false
end
mutual
theorem yA:∀{s t:Sn} {d:D},Sn.fits s t=true->qZ s d->qZ t d
 |.int k,t,d,h,hd=>by
  cases t<;>simp only[Sn.fits]at h<;>first|(cases h;done)|skip
  grind
 |.bool,t,d,h,hd=>by
  cases t<;>simp only[Sn.fits]at h<;>first|(cases h;done)|skip
  exact hd
 |.str n,t,d,h,hd=>by
  cases t<;>simp only[Sn.fits]at h<;>first|(cases h;done)|skip
  simp only[qZ]at hd ⊢;obtain⟨s,rfl,hs⟩:=hd;exact⟨s,rfl,lT hs (o9 h)⟩
 |.st z,t,d,h,hd=>by
  cases t<;>simp only[Sn.fits]at h<;>first|(cases h;done)|skip
  simp only[qZ]at hd ⊢;obtain⟨cs,rfl,hs⟩:=hd;exact⟨cs,rfl,eD h hs⟩
 |.sl el sz n e,t,d,h,hd=>by
  cases t<;>simp only[Sn.fits]at h<;>first|(cases h;done)|skip
  simp only[aE]at h;obtain⟨⟨⟨g,b⟩,h3⟩,w⟩:=h;have g:=vE g;have b:=vE b;subst g b;simp only[qZ]at hd ⊢;rcases hd with rfl|⟨es,rfl,j,y⟩
  ·exact .inl rfl
  exact .inr ⟨es,rfl,lT j (o9 h3),λx i=>yA w (y x i)⟩
 |.any,t,d,h,hd=>by cases t<;>simp only[Sn.fits]at h<;>cases h
 |.ptr z,t,d,h,hd=>by
  cases t<;>simp only[Sn.fits]at h<;>first|(cases h;done)|skip
  simp only[qZ]at hd ⊢;obtain⟨cs,rfl,hs⟩:=hd;exact⟨cs,rfl,eD h hs⟩
 |.clo f a c,t,d,h,hd=>by
  cases t<;>simp only[Sn.fits]at h<;>first|(cases h;done)|skip
  simp only[aE]at h;have g:=vE h.1;subst g;simp only[qZ]at hd ⊢;obtain⟨az,cs,rfl,y,p⟩:=hd;exact⟨az,cs,rfl,eD h.2.1 y,eD h.2.2 p⟩
 |.mp k e,t,d,h,hd=>by
  cases t<;>simp only[Sn.fits]at h<;>first|(cases h;done)|skip
  simp only[aE,decide_eq_true_eq]at h;obtain⟨rfl,b⟩:=h;simp only[qZ]at hd ⊢;obtain⟨r,ds,rfl,j,u,y⟩:=hd;exact⟨r,ds,rfl,j,u,λx i=>yA b (y x i)⟩
 |.wh s q,t,d,h,hd=>by
  simp only[qZ]at hd;cases t;case wh t q'=>simp only[Sn.fits,aE]at h;simp only[qZ];refine⟨yA h.1 hd.1,λc p=>?_⟩;obtain⟨A,l,e⟩:=List.any_eq_true.1 (List.all_eq_true.1 h.2 c p);rw[qVL e];exact hd.2 A l
  all_goals simp only[Sn.fits]at h;exact yA h hd.1
theorem eD:∀{ss ts:List Sn} {ds:List D},Sn.fitss ss ts=true->zZ ss ds->zZ ts ds
 | [],ts,ds,h,hd=>by
  cases ts<;>simp only[Sn.fitss]at h<;>first|(cases h;done)|skip
  exact hd
 |s::ss,ts,ds,h,hd=>by
  cases ts<;>simp only[Sn.fitss]at h<;>first|(cases h;done)|skip
  simp only[aE]at h;simp only[zZ]at hd ⊢;obtain⟨d,r,rfl,y,x⟩:=hd;exact⟨d,r,rfl,yA h.1 y,eD h.2 x⟩
end
abbrev Wd:=List (Int×D)
abbrev jL:=Nat×Nat×Int
def aU(σ:Wd)(q:jL):Prop:=∃x y,σ[q.1]? = some x/\σ[q.2.1]? = some y/\x.1<=y.1+q.2.2
def qZi(σ:Wd)(q:Nat×Nat):Prop:=∃x,σ[q.1]? = some x/\0<=x.1/\x.1<=(q.2:Int)
inductive Y where
 |int (k:IntKind) (v:Nat) (c:Int)
 |bool (t f:List jL)
 |str (n b:Nat)
 |sl (n el sz b:Nat) (e:Sn)
 |st (cs:List Y)
 |nil
 |clo (f:Nat) (a c:List Y)
 |tup (cs:List Y)
 |any
 |ptr (cs:List Y) (off:Nat)
 |mp (k:Option IntKind) (e:Sn)
 |mp0
mutual
def qL(σ:Wd):Y->D->Prop
 |.int k v c,d=>∃x,σ[v]? = some x/\d=.leaf (.int k (x.1+c))
 |.bool t f,d=>∃b,d=.leaf (.bool b)/\(b=true->∀q∈t,aU σ q)/\(b=false->∀q∈f,aU σ q)
 |.str n b,d=>∃s x,d=.leaf (.string s)/\σ[n]? = some x/\x.1=(s.size:Int)/\s.size<=b
 |.sl n el sz b e,d=>σ[n]? = some ((d.es.length:Int),d)/\qZ (.sl el sz b e) d
 |.st cs,d=>∃ds,d=.agg ds/\qF σ cs ds
 |.nil,d=>d=.nil
 |.clo f a c,d=>∃az cs,d=.clo (.func f) az cs/\qF σ a az/\qF σ c cs
 |.tup cs,d=>∃ds,d=.tup ds/\qF σ cs ds
 |.any,_=>True
 |.ptr cs off,d=>∃ds,d=.ptr ds off/\qF σ cs ds
 |.mp k e,d=>qZ (.mp k e) d
 |.mp0,d=>d=.mp [] []
def qF(σ:Wd):List Y->List D->Prop
 | [],l=>l=[]
 |y::ys,l=>∃d ds,l=d::ds/\qL σ y d/\qF σ ys ds
end
theorem zI{σ τ:Wd}{n:Nat}{x:Int×D}(h:σ[n]? = some x):(σ++τ)[n]? = some x:=by grind
theorem qFQ{σ τ:Wd}{q:jL}(h:aU σ q):aU (σ++τ) q:=by obtain⟨x,y,c,b,h3⟩:=h;exact⟨x,y,zI c,zI b,h3⟩
theorem qSb{σ τ:Wd}{q:Nat×Nat}(h:qZi σ q):qZi (σ++τ) q:=by obtain⟨x,b,y⟩:=h;exact⟨x,zI b,y⟩
mutual
theorem nZ{σ τ:Wd}:∀{y:Y} {d:D},qL σ y d->qL (σ++τ) y d
 |.int k v c,d,h=>by simp only[qL]at h ⊢;grind
 |.bool t f,d,h=>by simp only[qL]at h ⊢;obtain⟨b,g,x,h3⟩:=h;exact⟨b,g,λj q i=>qFQ (x j q i),λj q i=>qFQ (h3 j q i)⟩
 |.str n b,d,h=>by simp only[qL]at h ⊢;grind
 |.sl n el sz b e,d,h=>by simp only[qL]at h ⊢;exact⟨zI h.1,h.2⟩
 |.st cs,d,h=>by simp only[qL]at h ⊢;obtain⟨ds,g,x⟩:=h;exact⟨ds,g,zA x⟩
 |.nil,d,h=>by simp only[qL]at h ⊢;exact h
 |.clo f a c,d,h=>by simp only[qL]at h ⊢;obtain⟨az,cs,g,x,h3⟩:=h;exact⟨az,cs,g,zA x,zA h3⟩
 |.ptr cs off,d,h=>by simp only[qL]at h ⊢;obtain⟨ds,g,x⟩:=h;exact⟨ds,g,zA x⟩
 |.mp k e,d,h=>by simp only[qL]at h ⊢;exact h
 |.mp0,d,h=>by simp only[qL]at h ⊢;exact h
 |.tup cs,d,h=>by simp only[qL]at h ⊢;obtain⟨ds,g,x⟩:=h;exact⟨ds,g,zA x⟩
 |.any,d,h=>by simp only[qL]
theorem zA{σ τ:Wd}:∀{ys:List Y} {ds:List D},qF σ ys ds->qF (σ++τ) ys ds
 | [],ds,h=>by simp only[qF]at h ⊢;exact h
 |y::ys,ds,h=>by simp only[qF]at h ⊢;obtain⟨d,r,b,x,h3⟩:=h;exact⟨d,r,b,nZ x,zA h3⟩
end
def qX6:Int->Int->Bool
 |.ofNat a,.ofNat b=>Nat.ble a b
 |.negSucc a,.negSucc b=>Nat.ble b a
 |.negSucc _,.ofNat _=>true
 |.ofNat _,.negSucc _=>false
theorem qIU:∀{a b:Int},qX6 a b=true->a<=b
 |.ofNat a,.ofNat b,h=>by have:=o9 h;show(a:Int)<=(b:Int);omega
 |.negSucc a,.negSucc b,h=>by have:=o9 h;omega
 |.negSucc a,.ofNat b,_=>by show Int.negSucc a<=(b:Int);omega
 |.ofNat _,.negSucc _,h=>by cases h
def cW:List (Nat×Int)->Nat->Option Int
 | [],_=>none
 |(w,d)::r,u=>bif Nat.beq w u then some d else cW r u
def qWe(acc:List (Nat×Int))(w:Nat)(d:Int):List (Nat×Int):=match cW acc w with
 |some d'=>bif qX6 d' d then acc else(w,d)::acc
 |none=>(w,d)::acc
def qM7(q:jL)(acc:List (Nat×Int)):List (Nat×Int):=match cW acc q.1 with
 |some d=>qWe acc q.2.1 (Int.add d q.2.2)
 |none=>acc
def gJ:List jL->List (Nat×Int)->List (Nat×Int)
 | [],acc=>acc
 |q::r,acc=>gJ r (qM7 q acc)
def qJs(F:List jL):Nat->List (Nat×Int)->List (Nat×Int)
 |0,acc=>acc
 |n+1,acc=>qJs F n (gJ F acc)
def qPU(σ:Wd)(a:Nat)(acc:List (Nat×Int)):Prop:=∀p∈acc,aU σ (a,p.1,p.2)
theorem qAe{acc:List (Nat×Int)}{u:Nat}{d:Int}(h:cW acc u=some d):(u,d)∈acc:=by
 induction acc with
 |nil=>cases h
 |cons p r ih=>
  obtain⟨w,e⟩:=p;simp only[cW]at h;cases x:Nat.beq w u with
  |true=>rw[x]at h;have:=vE x;subst this;cases h;exact List.mem_cons_self
  |false=>rw[x]at h;exact mC _ (ih h)
theorem qSj{σ:Wd}{a w:Nat}{d:Int}{acc:List (Nat×Int)}(h:qPU σ a acc)(hd:aU σ (a,w,d)):qPU σ a (qWe acc w d):=by
 have y:qPU σ a ((w,d)::acc):=λp x=>by
  rcases List.mem_cons.1 x with rfl|x
  ·exact hd
  exact h p x
 unfold qWe;grind
theorem qMe{σ:Wd}{a u v:Nat}{c d:Int}(j:aU σ (a,u,d))(i:aU σ (u,v,c)):aU σ (a,v,d+c):=by obtain⟨x,y,b,hu,g⟩:=j;obtain⟨k,z,h,hv,e⟩:=i;simp only at b hu g h hv e;rw[hu]at h;cases h;exact⟨x,z,b,hv,by simp only;omega⟩
theorem qM6{σ:Wd}{a:Nat}{q:jL}{acc:List (Nat×Int)}(x:aU σ q)(h:qPU σ a acc):qPU σ a (qM7 q acc):=by
 unfold qM7;split
 ·rename_i d hd;exact qSj h (qMe (h _ (qAe hd)) x)
 exact h
theorem qDZ{σ:Wd}{a:Nat}:∀(F:List jL) (acc:List (Nat×Int)),(∀q∈F,aU σ q)->qPU σ a acc->qPU σ a (gJ F acc)
 | [],_,_,h=>h
 |q::r,acc,y,h=>by unfold gJ;exact qDZ r _ (λx b=>y x (mC _ b)) (qM6 (y q List.mem_cons_self) h)
def qSh(acc:List (Nat×Int))(h:Int):List (Nat×Nat)->Bool
 | []=>false
 |(w,m)::r=>(match cW acc w with
  |some d=>qX6 (Int.add d (Int.ofNat m)) h
  |none=>false)||qSh acc h r
def qWp(L:List (Nat×Nat))(acc:List (Nat×Int))(b:Nat)(h:Int):Bool:=
 (match cW acc b with
 |some d=>qX6 d h
 |none=>false)||(Nat.beq b 0&&qSh acc h L)
def qJX(F:List jL)(L:List (Nat×Nat))(b:Nat)(h:Int):Nat->List (Nat×Int)->Bool
 |0,acc=>qWp L acc b h
 |n+1,acc=>qWp L acc b h||qJX F L b h n (gJ F acc)
def qGd:List (Nat×Nat)->List (Nat×Int)
 | []=>[]
 |(w,_)::r=>(w,0)::qGd r
def qJl(n:Nat)(F:List jL)(L:List (Nat×Nat))(a:Nat)(x:Int)(b:Nat)(h:Int):Bool:=
 bif Nat.beq a b then qX6 x h else qJX F L b (Int.sub h x) n (bif Nat.beq a 0 then(0,0)::qGd L else[(a,0)])
abbrev yV:=qJl 4
structure SOk (σ:Wd) (F:List jL) (L:List (Nat×Nat)):Prop where
 z:∃d,σ[0]? = some (0,d)
 f:∀q∈F,aU σ q
 l:∀q∈L,qZi σ q
theorem qLf{acc:List (Nat×Int)}{lim:Int}:∀{L:List (Nat×Nat)},qSh acc lim L=true->∃p∈L,∃d,cW acc p.1=some d/\d+(p.2:Int)<=lim
 | [],h=>by cases h
 | (w,m)::r,h=>by
  simp only[qSh]at h;rcases Bool.or_eq_true_iff.1 h with h|h
  ·split at h
   ·rename_i d hd;exact⟨_,List.mem_cons_self,d,hd,qIU h⟩
   cases h
  obtain⟨p,x,q⟩:=qLf h;grind
theorem qDM{p:Nat×Int}:∀{L:List (Nat×Nat)},p∈qGd L->∃q∈L,p=(q.1,0)
 | [],h=>by cases h
 |(w,m)::r,h=>by
  simp only[qGd]at h;rcases List.mem_cons.1 h with rfl|h
  ·simp_all
  obtain⟨q,x,e⟩:=qDM h;grind
theorem qNp{σ:Wd}{F:List jL}{L:List (Nat×Nat)}(j:SOk σ F L){a b:Nat}{lim:Int}{x y:Int×D}(t:σ[a]? = some x)(r:σ[b]? = some y):∀(n:Nat) (acc:List (Nat×Int)),qPU σ a acc->qJX F L b lim n acc=true->x.1<=y.1+lim:=by
 have one:∀acc,qPU σ a acc->qWp L acc b lim=true->x.1<=y.1+lim:=by
  intro acc c h;unfold qWp at h;rcases Bool.or_eq_true_iff.1 h with h|h
  ·split at h
   ·rename_i d hd;obtain⟨l,k,i,g,h3⟩:=c _ (qAe hd);simp only at i g h3;rw[t]at i;rw[r]at g;cases i;cases g;have:=qIU h;omega
   cases h
  rw[aE]at h;have u:=vE h.1;subst u;obtain⟨p,q,d,hd,hle⟩:=qLf h.2;obtain⟨l,k,i,g,h3⟩:=c _ (qAe hd);obtain⟨z,B,_,A⟩:=j.l p q;obtain⟨e,w⟩:=j.z;grind
 intro n;induction n with
 |zero=>intro acc c h;exact one acc c h
 |succ n ih=>
  intro acc c h;simp only[qJX]at h;rcases Bool.or_eq_true_iff.1 h with h|h
  ·exact one acc c h
  exact ih _ (qDZ F acc j.f c) h
theorem qFU{n:Nat}{σ:Wd}{F:List jL}{L:List (Nat×Nat)}(i:SOk σ F L){a b:Nat}{l k:Int}(h:qJl n F L a l b k=true){x y:Int×D}(g:σ[a]? = some x)(j:σ[b]? = some y):x.1+l<=y.1+k:=by
 unfold qJl at h;cases c:Nat.beq a b with
 |true=>rw[c]at h;have:=vE c;subst this;rw[g]at j;cases j;have:=qIU h;omega
 | false=>
  rw[c]at h;simp only[cond_false]at h;have t:qPU σ a (bif Nat.beq a 0 then(0,0)::qGd L else[(a,0)]):=by
   cases w:Nat.beq a 0 with
   |true=>
    have:=vE w;subst this;obtain⟨d,hd⟩:=i.z;intro p e;rcases List.mem_cons.1 e with rfl|e
    ·exact⟨_,_,hd,hd,by simp⟩
    obtain⟨q,r,rfl⟩:=qDM e;obtain⟨z,u,A,_⟩:=i.l q r;exact⟨_,_,hd,u,by simp only;omega⟩
   |false=>intro p e;rw[cond_false,List.mem_singleton]at e;subst e;exact⟨_,_,g,g,by simp⟩
  have:=qNp i g j n _ t h;grind
theorem zY{σ:Wd}{F:List jL}{L:List (Nat×Nat)}(g:SOk σ F L){a b:Nat}{e c:Int}(h:yV F L a e b c=true){x y:Int×D}(j:σ[a]? = some x)(i:σ[b]? = some y):x.1+e<=y.1+c:=qFU g h j i
end Go.Am.Tt
namespace Go.Am.Tt
open Go Go.Am
structure El where
 n:Nat
 v:Nat
 c:Int
 y:Y
structure Cx where
 F:List jL
 L:List (Nat×Nat)
 els:List El
 nx:Nat
def Cx.add(C:Cx)(F:List jL)(L:List (Nat×Nat))(els:List El)(k:Nat):Cx:=⟨F++C.F,L++C.L,els++C.els,Nat.add C.nx k⟩
def qMl(σ:Wd)(e:El):Prop:=∃x d i z,σ[e.n]? = some (x,d)/\σ[e.v]? = some i/\0<=i.1+e.c/\d.es[(i.1+e.c).toNat]? = some z/\qL σ e.y z
theorem qPd{σ τ:Wd}{e:El}(h:qMl σ e):qMl (σ++τ) e:=by obtain⟨x,d,i,z,g,c,h3,b,y⟩:=h;exact⟨x,d,i,z,zI g,zI c,h3,b,nZ y⟩
structure COk (σ:Wd) (C:Cx):Prop where
 s:SOk σ C.F C.L
 e:∀e∈C.els,qMl σ e
 n:σ.length=C.nx
theorem COk.ext{σ τ:Wd}{C:Cx}(h:COk σ C){F:List jL}{L:List (Nat×Nat)}{els:List El}{k:Nat}(b:∀q∈F,aU (σ++τ) q)(hL:∀q∈L,qZi (σ++τ) q)(c:∀q∈els,qMl (σ++τ) q)(y:τ.length=k):COk (σ++τ) (C.add F L els k):=by
 refine⟨⟨?_,λq x=>?_,λq x=>?_⟩,λq x=>?_,?_⟩
 ·obtain⟨d,hd⟩:=h.s.z;exact⟨d,zI hd⟩
 ·rcases List.mem_append.1 x with x|x
  ·exact b q x
  exact qFQ (h.s.f q x)
 ·rcases List.mem_append.1 x with x|x
  ·exact hL q x
  exact qSb (h.s.l q x)
 ·rcases List.mem_append.1 x with x|x
  ·exact c q x
  exact qPd (h.e q x)
 show(σ++τ).length=C.nx+k;rw[List.length_append,h.n,y]
theorem COk.facts{σ:Wd}{C:Cx}(h:COk σ C){F:List jL}(x:∀q∈F,aU σ q):COk σ (C.add F [] [] 0):=by have:=h.ext (τ:=[]) (F:=F) (L:=[]) (els:=[]) (k:=0) (by simpa using x) (by simp) (by simp) rfl;simpa using this
theorem get_new{σ:Wd}{C:Cx}(h:COk σ C)(x:Int×D):(σ++[x])[C.nx]? = some x:=by rw[←h.n];simp
theorem getD_some{ρ:List D}{i:Nat}{d:D}(h:ρ[i]? = some d):getD ρ i=d:=by unfold getD;grind
theorem gO{σ:Wd}:∀{ys:List Y} {ds:List D} {i:Nat} {y:Y},qF σ ys ds->ys[i]? = some y->∃d,ds[i]? = some d/\qL σ y d
 | [],ds,i,y,h,x=>by simp at x
 |z::ys,ds,i,y,h,x=>by
  simp only[qF]at h;obtain⟨d,r,rfl,c,b⟩:=h;cases i with
  |zero=>simp only[List.getElem?_cons_zero,oI]at x;subst x;exact⟨d,by simp,c⟩
  |succ i=>simp only[List.getElem?_cons_succ]at x ⊢;exact gO b x
def qMV:Y->Option (Nat×Int)
 |.int _ v c=>some (v,c)
 |.sl n _ _ _ _=>some (n,0)
 |.str n _=>some (n,0)
 |.nil=>some (0,0)
 |_=>none
theorem qE2{σ:Wd}{C:Cx}(i:COk σ C){y:Y}{d:D}{v:Nat}{c:Int}(hd:qL σ y d)(h:qMV y=some (v,c)):∃x,σ[v]? = some x/\iJ d=x.1+c:=by
 obtain⟨z,g⟩:=i.s.z;cases y<;>simp only[qMV]at h<;>first|(cases h;done)|cases h
 ·simp only[qL]at hd;obtain⟨x,b,rfl⟩:=hd;exact⟨x,b,rfl⟩
 ·simp only[qL]at hd;obtain⟨s,x,rfl,b,hs,_⟩:=hd;exact⟨x,b,by show(s.size:Int)=_;omega⟩
 ·simp only[qL]at hd;refine⟨_,hd.1,?_⟩;have e:=hd.2;simp only[qZ]at e;rcases e with rfl|⟨es,rfl,_⟩
  ·show(0:Int)=_;simp[D.es]
  show((es.length:Nat):Int)=_;simp[D.es]
 simp only[qL]at hd;subst hd;exact⟨_,g,by show((D.nil.es.length:Nat):Int)=_;simp[D.es]⟩
def fY:List Nat->Y->Option Y
 | [],y=>some y
 |i::r,.st cs=>match cs[i]? with
  |some y=>fY r y
  |none=>none
 |_::_,_=>none
theorem nP{σ:Wd}:∀{p:List Nat} {y x:Y} {d:D},qL σ y d->fY p y=some x->qL σ x (sB p d)
 | [],y,x,d,hd,h=>by simp only[fY]at h;cases h;exact hd
 |i::r,y,x,d,hd,h=>by
  cases y<;>simp only[fY]at h<;>first|(cases h;done)|skip
  simp only[qL]at hd;obtain⟨ds,rfl,hs⟩:=hd;split at h
  ·rename_i q b;obtain⟨e,he,hr⟩:=gO hs b;simp only[sB,getD_some he];exact nP hr h
  cases h
def qIt(ys:List Y):Pt->Option (Nat×Int)
 |.z=>some (0,0)
 |.aT p=>match fY p (.st ys)with
  |some y=>qMV y
  |none=>none
 |.el _ _ _=>none
theorem qBh{σ:Wd}{C:Cx}(e:COk σ C){ys:List Y}{ds:List D}{p:Pt}{v:Nat}{c:Int}(hd:qF σ ys ds)(h:qIt ys p=some (v,c)):∃x,σ[v]? = some x/\qFb ds p=x.1+c:=by
 obtain⟨z,g⟩:=e.s.z;have b:qL σ (.st ys) (.agg ds):=by simp only[qL];exact⟨ds,rfl,hd⟩
 cases p with
 |z=>simp only[qIt]at h;cases h;exact⟨_,g,by simp[qFb]⟩
 |aT p=>
  simp only[qIt]at h;split at h
  ·rename_i y i;exact qE2 e (nP b i) h
  cases h
 |el p q f=>cases h
def qOR(ys:List Y)(q:Cn):List jL:=match qIt ys q.1,qIt ys q.2.1 with
 |some (v,c),some (w,e)=>[(v,w,e+q.2.2-c)]
 |_,_=>[]
theorem qOQ{σ:Wd}{C:Cx}(g:COk σ C){ys:List Y}{ds:List D}{l:List Cn}(hd:qF σ ys ds)(h:∀q∈l,qBx ds q):∀f∈l.flatMap (qOR ys),aU σ f:=by
 intro f b;obtain⟨q,k,b⟩:=List.mem_flatMap.1 b;unfold qOR at b;split at b
 ·rename_i v c w e r p;obtain⟨x,j,u⟩:=qBh g hd r;obtain⟨y,i,t⟩:=qBh g hd p;have:=h q k;unfold qBx at this;rw[List.mem_singleton]at b;subst b;exact⟨x,y,j,i,by simp only;omega⟩
 cases b
def qK0(C:Cx)(ys:List Y)(q:Cn):Bool:=match qIt ys q.1,qIt ys q.2.1 with
 |some (v,c),some (w,e)=>yV C.F C.L v c w (e+q.2.2)
 |_,_=>false
theorem qPq{σ:Wd}{C:Cx}(b:COk σ C){ys:List Y}{ds:List D}{q:Cn}(hd:qF σ ys ds)(h:qK0 C ys q=true):qBx ds q:=by
 unfold qK0 at h;split at h
 ·rename_i v c w e k j;obtain⟨x,i,p⟩:=qBh b hd k;obtain⟨y,g,l⟩:=qBh b hd j;have:=zY b.s h i g;unfold qBx;omega
 cases h
mutual
def fresh:Sn->Cx->Cx×Y
 |.int k,C=>(C.add [] [] [] 1,.int k C.nx 0)
 |.bool,C=>(C,.bool [] [])
 |.str b,C=>(C.add [] [(C.nx,b)] [] 1,.str C.nx b)
 |.st h,C=>((wH h C).1,.st (wH h C).2)
 |.sl el sz b e,C=>(C.add [] [(C.nx,b)] [] 1,.sl C.nx el sz b e)
 |.any,C=>(C,.any)
 |.ptr h,C=>((wH h C).1,.ptr (wH h C).2 0)
 |.clo f a c,C=>((wH c (wH a C).1).1,.clo f (wH a C).2 (wH c (wH a C).1).2)
 |.mp k e,C=>(C,.mp k e)
 |.wh s q,C=>((fresh s C).1.add (q.flatMap (qOR [(fresh s C).2])) [] [] 0,(fresh s C).2)
def wH:List Sn->Cx->Cx×List Y
 | [],C=>(C,[])
 |s::r,C=>((wH r (fresh s C).1).1,(fresh s C).2::(wH r (fresh s C).1).2)
end
theorem kR{σ:Wd}{C:Cx}(h:COk σ C):COk (σ++[]) C:=by rw[List.append_nil];exact h
mutual
theorem eA:∀{s:Sn} {d:D} {σ:Wd} {C:Cx},qZ s d->COk σ C->∃τ,COk (σ++τ) (fresh s C).1/\qL (σ++τ) (fresh s C).2 d
 |.int k,d,σ,C,h,x=>by simp only[qZ]at h;obtain⟨n,rfl⟩:=h;refine⟨[(n,.nil)],x.ext (by simp) (by simp) (by simp) rfl,?_⟩;simp only[fresh,qL];exact⟨_,get_new x _,by simp⟩
 |.bool,d,σ,C,h,x=>by simp only[qZ]at h;obtain⟨b,rfl⟩:=h;refine⟨[],kR x,?_⟩;simp only[fresh,qL];simp_all
 |.str b,d,σ,C,h,x=>by
  simp only[qZ]at h;obtain⟨s,rfl,hs⟩:=h;refine⟨[((s.size:Int),.nil)],x.ext (by simp) (λq i=>?_) (by simp) rfl,?_⟩
  ·rw[List.mem_singleton]at i;subst i;exact⟨_,get_new x _,by simp,by simp;omega⟩
  simp only[fresh,qL];exact⟨s,_,rfl,get_new x _,rfl,hs⟩
 |.st t,d,σ,C,h,x=>by simp only[qZ]at h;obtain⟨cs,rfl,hs⟩:=h;obtain⟨τ,g,y⟩:=kO hs x;refine⟨τ,g,?_⟩;simp only[fresh,qL];exact⟨cs,rfl,y⟩
 | .sl el sz b e,d,σ,C,h,x=>by
  have u:d.es.length<=b:=by
   simp only[qZ]at h;rcases h with rfl|⟨es,rfl,h,_⟩
   ·exact Nat.zero_le _
   exact h
  refine⟨[((d.es.length:Int),d)],x.ext (by simp) (λq i=>?_) (by simp) rfl,?_⟩
  ·rw[List.mem_singleton]at i;subst i;exact⟨_,get_new x _,by simp,by simp;omega⟩
  simp only[fresh,qL];exact⟨get_new x _,h⟩
 |.any,d,σ,C,h,x=>by refine⟨[],kR x,?_⟩;simp only[fresh,qL]
 |.ptr t,d,σ,C,h,x=>by simp only[qZ]at h;obtain⟨cs,rfl,hs⟩:=h;obtain⟨τ,g,y⟩:=kO hs x;refine⟨τ,g,?_⟩;simp only[fresh,qL];exact⟨cs,rfl,y⟩
 |.clo f a c,d,σ,C,h,x=>by simp only[qZ]at h;obtain⟨az,cs,rfl,p,l⟩:=h;obtain⟨τ,g,y⟩:=kO p x;obtain⟨j,h3,r⟩:=kO l g;refine⟨τ++j,by rw[←List.append_assoc];exact h3,?_⟩;simp only[fresh,qL];exact⟨az,cs,rfl,by rw[←List.append_assoc];exact zA y,by rw[←List.append_assoc];exact r⟩
 |.mp k e,d,σ,C,h,x=>by refine⟨[],kR x,?_⟩;simp only[fresh,qL];exact h
 |.wh s q,d,σ,C,h,x=>by simp only[qZ]at h;obtain⟨τ,g,y⟩:=eA h.1 x;exact⟨τ,g.facts (qOQ g (by simp only[qF];exact⟨d,[],rfl,y,rfl⟩) h.2),y⟩
theorem kO:∀{ss:List Sn} {ds:List D} {σ:Wd} {C:Cx},zZ ss ds->COk σ C->∃τ,COk (σ++τ) (wH ss C).1/\qF (σ++τ) (wH ss C).2 ds
 | [],ds,σ,C,h,y=>by simp only[zZ]at h;refine⟨[],kR y,?_⟩;simp only[wH,qF];exact h
 |s::r,ds,σ,C,h,y=>by simp only[zZ]at h;obtain⟨d,b,rfl,e,c⟩:=h;obtain⟨τ,a1,a2⟩:=eA e y;obtain⟨x,i,g⟩:=kO c a1;refine⟨τ++x,by rw[←List.append_assoc];exact i,?_⟩;simp only[wH,qF];exact⟨d,b,rfl,by rw[←List.append_assoc];exact nZ a2,by rw[←List.append_assoc];exact g⟩
end
mutual
def mF(C:Cx):Y->Sn->Bool
 |_,.any=>true
 |y,.wh s q=>mF C y s&&q.all (qK0 C [y])
 |.int k _ _,.int k'=>decide (k=k')
 |.bool _ _,.bool=>true
 |.str n b,.str m=>Nat.ble b m||yV C.F C.L n 0 0 m
 |.st cs,.st x=>gX C cs x
 |.sl n el sz b e,.sl zS h m e'=>Nat.beq el zS&&Nat.beq sz h&&e.fits e'&&(Nat.ble b m||yV C.F C.L n 0 0 m)
 |.nil,.sl _ _ _ _=>true
 |.ptr cs off,.ptr x=>Nat.beq off 0&&gX C cs x
 |.clo f a c,.clo g j i=>Nat.beq f g&&(gX C a j&&gX C c i)
 |.mp k e,.mp k' e'=>decide (k=k')&&e.fits e'
 |.mp0,.mp _ _=>true
 |_,_=>false
def gX(C:Cx):List Y->List Sn->Bool
 | [],[]=>true
 |y::ys,s::ss=>mF C y s&&gX C ys ss
 |_,_=>false
end
theorem uC{σ:Wd}{C:Cx}(y:COk σ C){n m:Nat}{x:Int×D}(c:σ[n]? = some x)(h:yV C.F C.L n 0 0 (m:Int)=true):x.1<=(m:Int):=by obtain⟨z,b⟩:=y.s.z;have:=zY y.s h c b;simpa using this
mutual
theorem rE{σ:Wd}{C:Cx}(i:COk σ C):∀{s:Sn} {y:Y} {d:D},mF C y s=true->qL σ y d->qZ s d
 |.any,y,d,h,hd=>by simp only[qZ]
 |.wh s q,y,d,h,hd=>by
  have h:(mF C y s&&q.all (qK0 C [y]))=true:=by cases y<;>simpa only[mF]using h
  rw[aE]at h;simp only[qZ];exact⟨rE i h.1 hd,λc F=>qPq i (by simp only[qF];exact⟨d,[],rfl,hd,rfl⟩) (List.all_eq_true.1 h.2 c F)⟩
 |.int k',y,d,h,hd=>by
  cases y<;>simp only[mF]at h<;>first|(cases h;done)|skip
  rw[decide_eq_true_eq]at h;subst h;simp only[qL]at hd;obtain⟨x,_,rfl⟩:=hd;simp only[qZ];exact⟨_,rfl⟩
 |.bool,y,d,h,hd=>by
  cases y<;>simp only[mF]at h<;>first|(cases h;done)|skip
  simp only[qL]at hd;obtain⟨b,rfl,_⟩:=hd;simp only[qZ];exact⟨_,rfl⟩
 |.str m,y,d,h,hd=>by
  cases y<;>simp only[mF]at h<;>first|(cases h;done)|skip
  simp only[qL]at hd;obtain⟨t,x,rfl,g,j,h3⟩:=hd;simp only[qZ];refine⟨_,rfl,?_⟩;rcases Bool.or_eq_true_iff.1 h with h|h
  ·exact lT h3 (o9 h)
  have:=uC i g h;omega
 |.st H,y,d,h,hd=>by
  cases y<;>simp only[mF]at h<;>first|(cases h;done)|skip
  simp only[qL]at hd;obtain⟨ds,rfl,g⟩:=hd;simp only[qZ];exact⟨_,rfl,kJ i h g⟩
 | .sl zS w m e',y,d,h,hd=>by
  cases y<;>simp only[mF]at h<;>first|(cases h;done)|skip
  ·rename_i n el sz b e;simp only[aE]at h;obtain⟨⟨⟨g,j⟩,h3⟩,G⟩:=h;have g:=vE g;have j:=vE j;subst g j;simp only[qL]at hd;obtain⟨A,hd⟩:=hd;simp only[qZ]at hd ⊢;rcases hd with rfl|⟨es,rfl,p,r⟩
   ·exact .inl rfl
   refine .inr ⟨es,rfl,?_,λx l=>yA h3 (r x l)⟩;rcases Bool.or_eq_true_iff.1 G with h|h
   ·exact lT p (o9 h)
   have:=uC i A h;have e:(D.sl el sz es).es.length=es.length:=rfl;simp only[e]at this;omega
  simp only[qL]at hd;subst hd;simp only[qZ];exact .inl trivial
 |.ptr H,y,d,h,hd=>by
  cases y<;>simp only[mF]at h<;>first|(cases h;done)|skip
  rw[aE]at h;have u:=vE h.1;subst u;simp only[qL]at hd;obtain⟨ds,rfl,g⟩:=hd;simp only[qZ];exact⟨_,rfl,kJ i h.2 g⟩
 |.clo f a c,y,d,h,hd=>by
  cases y<;>simp only[mF]at h<;>first|(cases h;done)|skip
  simp only[aE]at h;have u:=vE h.1;subst u;simp only[qL]at hd;obtain⟨az,cs,rfl,g,j⟩:=hd;simp only[qZ];exact⟨_,_,rfl,kJ i h.2.1 g,kJ i h.2.2 j⟩
 |.mp k e,y,d,h,hd=>by
  cases y<;>simp only[mF]at h<;>first|(cases h;done)|skip
  ·simp only[aE,decide_eq_true_eq]at h;obtain⟨rfl,j⟩:=h;simp only[qL,qZ]at hd;simp only[qZ];obtain⟨z,ds,rfl,p,B,r⟩:=hd;exact⟨z,ds,rfl,p,B,λx l=>yA j (r x l)⟩
  simp only[qL]at hd;subst hd;simp only[qZ];grind
theorem kJ{σ:Wd}{C:Cx}(x:COk σ C):∀{ss:List Sn} {ys:List Y} {ds:List D},gX C ys ss=true->qF σ ys ds->zZ ss ds
 | [],ys,ds,h,hd=>by
  cases ys<;>simp only[gX]at h<;>first|(cases h;done)|skip
  simp only[qF]at hd;simp only[zZ];exact hd
 |s::ss,ys,ds,h,hd=>by
  cases ys<;>simp only[gX]at h<;>first|(cases h;done)|skip
  simp only[aE]at h;simp only[qF]at hd;obtain⟨d,r,rfl,b,y⟩:=hd;simp only[zZ];exact⟨d,r,rfl,rE x h.1 b,kJ x h.2 y⟩
end
end Go.Am.Tt
namespace Go.Am.Tt
open Go Go.Am
def yM(E:Env)(σ:Wd)(o:TOp)(ds:List D)(r:Cx×Y):Prop:=∃d τ,TOp.eval E o ds=some d/\COk (σ++τ) r.1/\qL (σ++τ) r.2 d
section
variable{E:Env}{σ:Wd}{C:Cx}{o:TOp}{ds:List D}{d:D}
theorem yM.same(x:COk σ C){y:Y}(he:TOp.eval E o ds=some d)(h:qL σ y d):yM E σ o ds (C,y):=
 ⟨d,[],he,kR x,by rw[List.append_nil];exact h⟩
theorem yM.fresh(x:COk σ C){s:Sn}(he:TOp.eval E o ds=some d)(h:qZ s d):yM E σ o ds (fresh s C):=by obtain⟨τ,b,y⟩:=eA h x;exact⟨d,τ,he,b,y⟩
theorem yM.list(y:COk σ C){el sz b:Nat}{e:Sn}{F:List jL}(he:TOp.eval E o ds=some d)(x:qZ (.sl el sz b e) d)(g:∀q∈F,aU (σ++[((d.es.length:Int),d)]) q):yM E σ o ds (C.add F [(C.nx,b)] [] 1,.sl C.nx el sz b e):=by
 have i:d.es.length<=b:=by
  simp only[qZ]at x;rcases x with rfl|⟨es,rfl,h,_⟩
  ·exact Nat.zero_le _
  exact h
 refine⟨d,[((d.es.length:Int),d)],he,y.ext g (λq c=>?_) (by simp) rfl,?_⟩
 ·rw[List.mem_singleton]at c;subst c;exact⟨_,get_new y _,by simp,by simp;omega⟩
 simp only[qL];exact⟨get_new y _,x⟩
theorem yM.num(h:COk σ C){k:IntKind}{n:Int}{F:List jL}(he:TOp.eval E o ds=some (.leaf (.int k n)))(x:∀q∈F,aU (σ++[(n,D.nil)]) q):yM E σ o ds (C.add F [] [] 1,.int k C.nx 0):=by refine⟨_,[(n,.nil)],he,h.ext x (by simp) (by simp) rfl,?_⟩;simp only[qL];exact⟨_,get_new h _,by simp⟩
end
def qZb(C:Cx)(v:Nat)(c:Int)(w:Nat)(e:Int):List jL:=
 (bif qJl 1 C.F C.L w e v c then[(w,v,c-e-1)]else[])++(bif qJl 1 C.F C.L v c w e then[(v,w,e-c-1)]else[])
def qVO(h:BinOp)(C:Cx)(v:Nat)(c:Int)(w:Nat)(e:Int):Option (List jL×List jL):=match h with
 |.lss=>some ([(v,w,e-c-1)],[(w,v,c-e)])
 |.leq=>some ([(v,w,e-c)],[(w,v,c-e-1)])
 |.gtr=>some ([(w,v,c-e-1)],[(v,w,e-c)])
 |.geq=>some ([(w,v,c-e)],[(v,w,e-c-1)])
 |.eql=>some ([(v,w,e-c),(w,v,c-e)],qZb C v c w e)
 |.neq=>some (qZb C v c w e,[(v,w,e-c),(w,v,c-e)])
 |_=>none
theorem qTm{σ:Wd}{C:Cx}(j:COk σ C){v w:Nat}{c e:Int}{x y:Int×D}(hv:σ[v]? = some x)(i:σ[w]? = some y)(h:¬x.1+c=y.1+e):∀q∈qZb C v c w e,aU σ q:=by
 intro q b;unfold qZb at b;rcases List.mem_append.1 b with b|b
 ·cases g:qJl 1 C.F C.L w e v c with
  |false=>rw[g]at b;cases b
  |true=>rw[g,cond_true,List.mem_singleton]at b;subst b;have:=qFU j.s g i hv;exact⟨y,x,i,hv,by simp only;omega⟩
 cases g:qJl 1 C.F C.L v c w e with
 |false=>rw[g]at b;cases b
 |true=>rw[g,cond_true,List.mem_singleton]at b;subst b;have:=qFU j.s g hv i;exact⟨x,y,hv,i,by simp only;omega⟩
theorem f1{σ:Wd}{v w:Nat}{c:Int}{x y:Int×D}(hv:σ[v]? = some x)(e:σ[w]? = some y)(h:x.1<=y.1+c):∀q∈[(v,w,c)],aU σ q:=by intro q b;rw[List.mem_singleton]at b;subst b;exact⟨x,y,hv,e,h⟩
theorem f2{σ:Wd}{p q:jL}(x:aU σ p)(h:aU σ q):∀r∈[p,q],aU σ r:=by grind
theorem qVM{E:Env}{σ:Wd}{C:Cx}(l:COk σ C){op:BinOp}{ty:TypeId}{a b:Operand}{k:IntKind}{v w:Nat}{c e:Int}{t f:List jL}{x y:Int×D}(h:qVO op C v c w e=some (t,f))(hv:σ[v]? = some x)(i:σ[w]? = some y):yM E σ (.bin op ty a b) [.leaf (.int k (x.1+c)),.leaf (.int k (y.1+e))] (C,.bool t f):=by
 have j:∀r:Bool,TOp.eval E (.bin op ty a b) [.leaf (.int k (x.1+c)),.leaf (.int k (y.1+e))]=some (dB r)->(r=true->∀q∈t,aU σ q)->(r=false->∀q∈f,aU σ q)->yM E σ (.bin op ty a b) [.leaf (.int k (x.1+c)),.leaf (.int k (y.1+e))] (C,.bool t f):=by intro r he p u;refine .same l he ?_;simp only[qL];exact⟨r,rfl,p,u⟩
 cases op<;>simp only[qVO]at h<;>first|(cases h;done)|(cases h)
 ·exact j _ cA (λg=>f2 ⟨x,y,hv,i,by have:=yB g;simp only;omega⟩ ⟨y,x,i,hv,by have:=yB g;simp only;omega⟩) (λg=>qTm l hv i (dF g))
 ·exact j _ nW (λg=>qTm l hv i (yB g)) (λg=>f2 ⟨x,y,hv,i,by have:=dF g;simp only;omega⟩ ⟨y,x,i,hv,by have:=dF g;simp only;omega⟩)
 ·exact j _ vY (λg=>f1 hv i (by have:=yB g;omega)) (λg=>f1 i hv (by have:=dF g;omega))
 ·exact j _ iO (λg=>f1 hv i (by have:=yB g;omega)) (λg=>f1 i hv (by have:=dF g;omega))
 ·exact j _ oF (λg=>f1 i hv (by have:=yB g;omega)) (λg=>f1 hv i (by have:=dF g;omega))
 exact j _ rW (λg=>f1 i hv (by have:=yB g;omega)) (λg=>f1 hv i (by have:=dF g;omega))
end Go.Am.Tt
namespace Go.Am.Tt
open Go Go.Am
section
variable{E:Env}{σ:Wd}{C:Cx}
def Sn.small(n:Nat):Bool:=Nat.ble n 300000000
theorem qUZ{el sz b:Nat}{e:Sn}{d:D}(h:qZ (.sl el sz b e) d)(x:Nat.ble b 300000000=true):xA el sz d:=by
 simp only[qZ]at h;rcases h with rfl|⟨es,rfl,h,_⟩
 ·exact .inl rfl
 exact .inr ⟨es,rfl,qJu (lT h (o9 x))⟩
theorem qVA{el sz b:Nat}{e:Sn}{d x:D}{i:Nat}(h:qZ (.sl el sz b e) d)(y:d.es[i]? = some x):qZ e x:=by
 simp only[qZ]at h;rcases h with rfl|⟨es,rfl,_,h⟩
 ·simp[D.es]at y
 exact h x (List.mem_of_getElem? y)
theorem qUV(y:COk σ C){n el sz b:Nat}{e:Sn}{d:D}(h:qL σ (.sl n el sz b e) d):yM E σ (.len false) [d] (C,.int .i64 n 0):=by
 simp only[qL]at h;refine .same y (d:=dI (d.es.length:Int)) ?_ ?_
 ·have x:=h.2;simp only[qZ]at x;rcases x with rfl|⟨es,rfl,_,_⟩<;>rfl
 simp only[qL];exact⟨_,h.1,by simp⟩
theorem qQ1(h:COk σ C):yM E σ (.len false) [.nil] (C,.int .i64 0 0):=by obtain⟨z,x⟩:=h.s.z;refine .same h (d:=dI ((0:Nat):Int)) rfl ?_;simp only[qL];exact⟨_,x,by simp⟩
theorem qQ0(y:COk σ C){n b:Nat}{d:D}(h:qL σ (.str n b) d):yM E σ (.len true) [d] (C,.int .i64 n 0):=by simp only[qL]at h;obtain⟨s,x,rfl,e,c,_⟩:=h;refine .same y (d:=dI (s.size:Int)) rfl ?_;simp only[qL];exact⟨_,e,by rw[c];simp⟩
def qEy:List El->Nat->Nat->Int->Option Y
 | [],_,_,_=>none
 |e::r,n,v,c=>bif Nat.beq e.n n&&Nat.beq e.v v&&decide (e.c=c)then some e.y else qEy r n v c
theorem tZ{l:List El}(b:∀e∈l,qMl σ e){n v:Nat}{c:Int}{y:Y}(h:qEy l n v c=some y):qMl σ ⟨n,v,c,y⟩:=by
 induction l with
 |nil=>cases h
 |cons e r ih=>
  simp only[qEy]at h;cases x:(Nat.beq e.n n&&Nat.beq e.v v&&decide (e.c=c))with
  |true=>rw[x,cond_true]at h;simp only[aE,decide_eq_true_eq]at x;have i:=vE x.1.1;have g:=vE x.1.2;cases h;have:=b e List.mem_cons_self;obtain⟨k,ev,p,j⟩:=e;grind
  |false=>rw[x,cond_false]at h;exact ih (λe he=>b e (mC _ he)) h
def qRe(C:Cx)(n:Nat)(e:Sn)(v:Nat)(c:Int):Option (Cx×Y):=
 match qEy C.els n v c with
 |some _=>some (C,.bool [] [])
 |none=>bif yV C.F C.L 0 0 v c&&yV C.F C.L v (c+1) n 0 then some ((fresh e C).1.add [] [] [⟨n,v,c,(fresh e C).2⟩] 0,.bool [] [])else none
theorem qOr(g:COk σ C){n el sz b v:Nat}{e:Sn}{c:Int}{d i:D}{r:Cx×Y}(hd:qL σ (.sl n el sz b e) d)(B:qL σ (.int .i64 v c) i)(h:qRe C n e v c=some r):yM E σ .inr [d,i] r:=by
 simp only[qL]at hd B;obtain⟨x,j,rfl⟩:=B;unfold qRe at h;split at h
 ·rename_i y K;cases h;obtain⟨M,d',N,z,w,u,h3,G,_⟩:=tZ g.e K;simp only at w u h3 G;rw[hd.1]at w;rw[j]at u;cases w;cases u;refine .same g (j5 h3 G) ?_;simp only[qL];grind
 obtain⟨t,h⟩:=qW h;cases h;rw[aE]at t;obtain⟨z,J⟩:=g.s.z;have I:=zY g.s t.1 J j;have H:=zY g.s t.2 j hd.1;simp only at I H;obtain⟨q,l⟩:=get_at (d:=d) (s:=x.1+c) (by omega) (by omega);obtain⟨τ,a1,a2⟩:=eA (qVA hd.2 l) g;refine⟨dB true,τ,j5 (by omega) l,?_,?_⟩
 ·have:=a1.ext (τ:=[]) (F:=[]) (L:=[]) (els:=[⟨n,v,c,(fresh e C).2⟩]) (k:=0) (by simp) (by simp) ?_ rfl
  ·simpa using this
  intro p A;rw[List.mem_singleton]at A;subst A;rw[List.append_nil];exact⟨_,d,x,q,zI hd.1,zI j,by simp only;omega,l,a2⟩
 simp only[qL];grind
end
end Go.Am.Tt
namespace Go.Am.Tt
open Go Go.Am
theorem nH{σ:Wd}:∀{ys:List Y} {ds:List D},qF σ ys ds->ys.length=ds.length
 | [],ds,h=>by simp only[qF]at h;subst h;rfl
 |y::ys,ds,h=>by simp only[qF]at h;obtain⟨d,r,rfl,_,x⟩:=h;simp[nH x]
theorem iU{σ:Wd}:∀{n:Nat} {ys:List Y} {ds:List D},qF σ ys ds->qF σ (ys.drop n) (ds.drop n)
 |0,ys,ds,h=>by simpa using h
 |n+1,[],ds,h=>by simp only[qF]at h;subst h;simp[qF]
 |n+1,y::ys,ds,h=>by simp only[qF]at h;obtain⟨d,r,rfl,_,x⟩:=h;simpa using iU (n:=n) x
theorem iT{σ:Wd}:∀{n:Nat} {ys:List Y} {ds:List D},qF σ ys ds->qF σ (ys.take n) (ds.take n)
 |0,ys,ds,h=>by simp[qF]
 |n+1,[],ds,h=>by simp only[qF]at h;subst h;simp[qF]
 |n+1,y::ys,ds,h=>by simp only[qF]at h;obtain⟨d,r,rfl,b,x⟩:=h;simp only[List.take_succ_cons,qF];exact⟨d,_,rfl,b,iT (n:=n) x⟩
def qFu:Y->Bool
 |.int _ _ _=>true
 |.bool _ _=>true
 |.str _ _=>true
 |.sl _ _ _ _ _=>true
 |.nil=>true
 |.ptr _ _=>true
 |.clo _ _ _=>true
 |.mp _ _=>true
 |.mp0=>true
 |_=>false
theorem tE{σ:Wd}{y:Y}{d:D}(h:qFu y=true)(hd:qL σ y d):d.one=true:=by
 cases y<;>simp only[qFu]at h<;>first|(cases h;done)|simp only[qL]at hd
 ·obtain⟨_,_,rfl⟩:=hd;rfl
 ·obtain⟨_,rfl,_⟩:=hd;rfl
 ·obtain⟨_,_,rfl,_⟩:=hd;rfl
 ·have:=hd.2;simp only[qZ]at this;rcases this with rfl|⟨es,rfl,_⟩<;>rfl
 ·subst hd;rfl
 ·obtain⟨_,_,rfl,_⟩:=hd;rfl
 ·obtain⟨_,rfl,_⟩:=hd;rfl
 ·simp only[qZ]at hd;obtain⟨_,_,rfl,_⟩:=hd;rfl
 subst hd;rfl
section
variable{E:Env}{σ:Wd}{C:Cx}
def qKd(ag:Bool)(size off:Nat)(cs:List Y):Option Y:=match ag with
 |true=>bif Nat.ble (off+size) cs.length then some (.st ((cs.drop off).take size))else none
 |false=>match cs[off]? with
  |some y=>bif qFu y&&Nat.beq size 1 then some y else none
  |none=>none
theorem qOH(c:COk σ C){ag:Bool}{size off:Nat}{cs:List Y}{d:D}{y:Y}(hd:qL σ (.st cs) d)(h:qKd ag size off cs=some y):yM E σ (.fld ag size off) [d] (C,y):=by
 simp only[qL]at hd;obtain⟨es,rfl,hs⟩:=hd;unfold qKd at h;split at h
 ·obtain⟨x,h⟩:=qW h;cases h;refine .same c (cB (by rw[←nH hs];exact x)) ?_;simp only[qL];exact⟨_,rfl,iT (iU hs)⟩
 split at h
 ·rename_i i g;obtain⟨x,h⟩:=qW h;cases h;rw[aE]at x;have b:=vE x.2;subst b;obtain⟨e,he,hr⟩:=gO hs g;exact .same c (qA he (tE x.1 hr)) hr
 cases h
def qNC(cs:List Y)(off:Nat):Option Y:=match cs[off]? with
 |some y=>bif qFu y then some y else none
 |none=>none
theorem qNB{cs:List Y}{off:Nat}{y:Y}(h:qNC cs off=some y):cs[off]? = some y/\qFu y=true:=by unfold qNC at h;grind
def qPc(C:Cx)(n v:Nat)(c:Int)(sz:Nat)(ag:Bool)(size off:Nat):Option Y:=match qEy C.els n v c with
 |some (.st cs)=>bif Nat.beq cs.length sz then(match ag with
  |true=>bif Nat.beq off 0&&Nat.beq size sz then some (.st cs)else bif Nat.ble (off+size) sz then some (.st ((cs.drop off).take size))else none
  |false=>bif Nat.beq size 1&&Nat.blt off sz then qNC cs off else none)else none
 |some y=>bif !ag&&qFu y&&Nat.beq sz 1&&Nat.beq size 1&&Nat.beq off 0 then some y else none
 |none=>none
theorem qBv(w:COk σ C){n el sz k b v size off:Nat}{ag:Bool}{e:Sn}{c:Int}{d i:D}{y:Y}(hd:qL σ (.sl n el sz b e) d)(I:qL σ (.int .i64 v c) i)(Q:Nat.ble b 300000000=true)(A:Nat.beq sz k=true)(h:qPc C n v c k ag size off=some y):yM E σ (.elem k ag size off) [d,i] (C,y):=by
 have A:=vE A;subst A;simp only[qL]at hd I;obtain⟨x,G,rfl⟩:=I;have j:=qUZ hd.2 Q;unfold qPc at h;split at h
 ·rename_i cs B;obtain⟨J,d',K,z,u,t,h3,r,p⟩:=tZ w.e B;simp only at u t h3 r p;rw[hd.1]at u;rw[G]at t;cases u;cases t;simp only[qL]at p;obtain⟨es,rfl,hs⟩:=p;obtain⟨H,h⟩:=qW h;have H:=vE H;have P:=nH hs;split at h
  ·cases l:(Nat.beq off 0&&Nat.beq size sz)with
   |true=>rw[l,cond_true]at h;cases h;rw[aE]at l;have a1:=vE l.1;have a2:=vE l.2;subst a1 a2;refine .same w (qGv j h3 r (by omega)) ?_;simp only[qL];exact⟨_,rfl,hs⟩
   |false=>
    rw[l,cond_false]at h;obtain⟨g,h⟩:=qW h;cases h;refine .same w (qNj (size:=size) (off:=off) j h3 r (by omega) (o9 g) ?_) ?_
    ·rintro⟨rfl,rfl⟩;rw[Nat.beq_refl,Nat.beq_refl]at l;cases l
    simp only[qL];exact⟨_,rfl,iT (iU hs)⟩
  obtain⟨g,R⟩:=qW h;rw[aE]at g;have a1:=vE g.1;subst a1;obtain⟨L,N⟩:=qNB R;obtain⟨q,M,hr⟩:=gO hs L;exact .same w (sN (off:=off) j h3 r M (tE N hr) (Nat.lt_of_succ_le (o9 g.2))) hr
 ·rename_i S O B;obtain⟨g,h⟩:=qW h;cases h;simp only[aE]at g;obtain⟨⟨⟨⟨F,a1⟩,a2⟩,a3⟩,a4⟩:=g;have a2:=vE a2;have a3:=vE a3;have a4:=vE a4;subst a2 a3 a4;have F:ag=false:=by simpa using F
  subst F;obtain⟨J,d',K,z,u,t,h3,r,p⟩:=tZ w.e B;simp only at u t h3 r p;rw[hd.1]at u;rw[G]at t;cases u;cases t;exact .same w (jJ j h3 r (tE a1 p)) p
 cases h
theorem qUB(x:COk σ C){ty:TypeId}{t f:List jL}{d:D}(hd:qL σ (.bool t f) d):yM E σ (.un .not ty) [d] (C,.bool f t):=by simp only[qL]at hd;obtain⟨b,rfl,c,y⟩:=hd;refine .same x wG ?_;simp only[qL];exact⟨!b,rfl,λh=>y (by simpa using h),λh=>c (by simpa using h)⟩
theorem qR0(y:COk σ C){n:Nat}{cs:List Y}{d:D}(hd:qL σ (.st cs) d)(h:Nat.beq cs.length n=true):yM E σ (.chk true n) [d] (C,.st cs):=by have x:=hd;simp only[qL]at x;obtain⟨es,rfl,hs⟩:=x;exact .same y (zH (by rw[←nH hs];exact vE h)) hd
theorem qR1(x:COk σ C){y:Y}{d:D}(hd:qL σ y d)(h:qFu y=true):yM E σ (.chk false 1) [d] (C,y):=
 .same x (xY (tE h hd)) hd
theorem qVn(b:COk σ C){i:Nat}{cs:List Y}{y:Y}{d:D}(hd:qL σ (.tup cs) d)(h:cs[i]? = some y):yM E σ (.ext i) [d] (C,y):=by simp only[qL]at hd;obtain⟨es,rfl,hs⟩:=hd;obtain⟨q,x,hr⟩:=gO hs h;exact .same b (bV x) hr
def fX(C:Cx)(v:Nat)(c:Int):Bool:=yV C.F C.L v c 0 4000000000000000000&&yV C.F C.L 0 (-4000000000000000000) v c
theorem cV(y:COk σ C){v:Nat}{c:Int}{x:Int×D}(hv:σ[v]? = some x)(h:fX C v c=true): -4000000000000000000<=x.1+c/\x.1+c<=4000000000000000000:=by unfold fX at h;rw[aE]at h;obtain⟨z,b⟩:=y.s.z;have g:=zY y.s h.1 hv b;have e:=zY y.s h.2 b hv;simp only at g e;omega
def zBa(C:Cx)(w:Nat)(e:Int):Option Int:=
 let acc:=qJs C.F 4 [(w,0)]
 C.L.foldl (λm p=>match cW acc p.1 with
  |some d=>(match m with
   |some u=>some (bif decide (d+p.2+e<=u)then d+p.2+e else u)
   |none=>some (d+p.2+e))
  |none=>m) (match cW acc 0 with|some d=>some (d+e)|none=>none)
def qZc(C:Cx)(v:Nat)(c:Int)(w:Nat)(e:Int):List jL:=
 bif yV C.F C.L 0 1 w e then[(v,C.nx,-c-1)]else bif yV C.F C.L 0 0 w e then[(v,C.nx,-c)]else[]
def qZe(C:Cx)(v:Nat)(c:Int)(w:Nat)(e:Int):List jL:=match zBa C w e with
 |some u=>bif yV C.F C.L w e 0 u then[(C.nx,v,c+u)]else[]
 |none=>[]
def qYY(C:Cx)(v:Nat)(c:Int)(w:Nat)(e:Int):List jL:=qZc C v c w e++qZe C v c w e++qZc C w e v c++qZe C w e v c
def qWd(C:Cx)(v:Nat)(c:Int)(w:Nat)(e:Int):Cx×Y:=
 bif Nat.beq w 0&&fX C v (c+e)then(C,.int .i64 v (c+e))else
 bif Nat.beq v 0&&fX C w (e+c)then(C,.int .i64 w (e+c))else
 bif fX C v c&&fX C w e then(C.add (qYY C v c w e) [] [] 1,.int .i64 C.nx 0)else(C.add [] [] [] 1,.int .i64 C.nx 0)
theorem qOa(b:COk σ C){v w:Nat}{c e:Int}{x y:Int×D}(l:σ[v]? = some x)(k:σ[w]? = some y){n:Int}(p:n=x.1+c+(y.1+e)):∀q∈qZc C v c w e,aU (σ++[(n,D.nil)]) q:=by
 obtain⟨z,j⟩:=b.s.z;intro q h;unfold qZc at h;cases g:yV C.F C.L 0 1 w e with
 |true=>rw[g,cond_true,List.mem_singleton]at h;subst h;have:=zY b.s g j k;exact⟨_,_,zI l,get_new b _,by simp only at this ⊢;omega⟩
 |false=>
  rw[g,cond_false]at h;cases i:yV C.F C.L 0 0 w e with
  |true=>rw[i,cond_true,List.mem_singleton]at h;subst h;have:=zY b.s i j k;exact⟨_,_,zI l,get_new b _,by simp only at this ⊢;omega⟩
  |false=>rw[i]at h;cases h
theorem qOx(b:COk σ C){v w:Nat}{c e:Int}{x y:Int×D}(k:σ[v]? = some x)(j:σ[w]? = some y){n:Int}(l:n=x.1+c+(y.1+e)):∀q∈qZe C v c w e,aU (σ++[(n,D.nil)]) q:=by
 obtain⟨z,i⟩:=b.s.z;intro q h;unfold qZe at h;split at h
 ·rename_i u _;cases g:yV C.F C.L w e 0 u with
  |true=>rw[g,cond_true,List.mem_singleton]at h;subst h;have:=zY b.s g j i;exact⟨_,_,get_new b _,zI k,by simp only at this ⊢;omega⟩
  |false=>rw[g]at h;cases h
 cases h
theorem qWc(g:COk σ C){ty:TypeId}{a b:Operand}{v w:Nat}{c e:Int}{d d':D}(hd:qL σ (.int .i64 v c) d)(l:qL σ (.int .i64 w e) d'):yM E σ (.bin .add ty a b) [d,d'] (qWd C v c w e):=by
 simp only[qL]at hd l;obtain⟨x,k,rfl⟩:=hd;obtain⟨y,j,rfl⟩:=l;obtain⟨z,r⟩:=g.s.z;unfold qWd;cases i:(Nat.beq w 0&&fX C v (c+e))with
 |true=>rw[aE]at i;have p:=vE i.1;subst p;rw[r]at j;cases j;have:=cV g k i.2;refine .same g (kE (by omega)) ?_;simp only[qL];exact⟨x,k,by show dI (x.1+c+(0+e))=dI (x.1+(c+e));rw[show x.1+c+(0+e)=x.1+(c+e) by omega]⟩
 | false=>
  rw[cond_false];cases i:(Nat.beq v 0&&fX C w (e+c))with
  |true=>rw[aE]at i;have p:=vE i.1;subst p;rw[r]at k;cases k;have:=cV g j i.2;refine .same g (kE (by omega)) ?_;simp only[qL];exact⟨y,j,by show dI (0+c+(y.1+e))=dI (y.1+(e+c));rw[show 0+c+(y.1+e)=y.1+(e+c) by omega]⟩
  | false=>
   rw[cond_false];cases i:(fX C v c&&fX C w e)with
   |false=>exact .num g sO (by simp)
   | true=>
    rw[aE]at i;have u:=cV g k i.1;have t:=cV g j i.2;refine .num g (kE (by omega)) λq h=>?_;unfold qYY at h;rcases List.mem_append.1 h with h|h
    ·rcases List.mem_append.1 h with h|h
     ·rcases List.mem_append.1 h with h|h
      ·exact qOa g k j rfl q h
      exact qOx g k j rfl q h
     exact qOa g j k (by omega) q h
    exact qOx g j k (by omega) q h
def qXw(C:Cx)(v:Nat)(c:Int)(w:Nat)(e:Int):List jL:=
 (bif yV C.F C.L w e v c then[(0,C.nx,0)]else[])++(bif yV C.F C.L 0 0 w e then[(C.nx,v,c)]else[])
def qT1(C:Cx)(v:Nat)(c:Int)(w:Nat)(e:Int):Cx×Y:=
 bif Nat.beq w 0&&fX C v (c-e)then(C,.int .i64 v (c-e))else
 bif fX C v c&&fX C w e then(C.add (qXw C v c w e) [] [] 1,.int .i64 C.nx 0)else(C.add [] [] [] 1,.int .i64 C.nx 0)
theorem qT0(i:COk σ C){ty:TypeId}{a b:Operand}{v w:Nat}{c e:Int}{d d':D}(hd:qL σ (.int .i64 v c) d)(p:qL σ (.int .i64 w e) d'):yM E σ (.bin .sub ty a b) [d,d'] (qT1 C v c w e):=by
 simp only[qL]at hd p;obtain⟨x,l,rfl⟩:=hd;obtain⟨y,k,rfl⟩:=p;obtain⟨z,r⟩:=i.s.z;unfold qT1;cases j:(Nat.beq w 0&&fX C v (c-e))with
 |true=>rw[aE]at j;have t:=vE j.1;subst t;rw[r]at k;cases k;have:=cV i l j.2;refine .same i (qNi (by omega)) ?_;simp only[qL];exact⟨x,l,by show dI (x.1+c-(0+e))=dI (x.1+(c-e));rw[show x.1+c-(0+e)=x.1+(c-e) by omega]⟩
 | false=>
  rw[cond_false];cases j:(fX C v c&&fX C w e)with
  |false=>exact .num i qBg (by simp)
  | true=>
   rw[aE]at j;have A:=cV i l j.1;have u:=cV i k j.2;refine .num i (qNi (by omega)) λq g=>?_;unfold qXw at g;rcases List.mem_append.1 g with g|g
   ·cases h:yV C.F C.L w e v c with
    |false=>rw[h]at g;cases g
    |true=>rw[h,cond_true,List.mem_singleton]at g;subst g;have:=zY i.s h k l;exact⟨_,_,zI r,get_new i _,by simp only;omega⟩
   cases h:yV C.F C.L 0 0 w e with
   |false=>rw[h]at g;cases g
   |true=>rw[h,cond_true,List.mem_singleton]at g;subst g;have:=zY i.s h r k;exact⟨_,_,get_new i _,zI l,by simp only at this ⊢;omega⟩
theorem qUG(g:COk σ C){ty:TypeId}{a b:Operand}{v w:Nat}{c e:Int}{d d':D}(hd:qL σ (.int .i64 v c) d)(h:qL σ (.int .i64 w e) d'):yM E σ (.bin .mul ty a b) [d,d'] (C.add [] [] [] 1,.int .i64 C.nx 0):=by simp only[qL]at hd h;obtain⟨x,j,rfl⟩:=hd;obtain⟨y,i,rfl⟩:=h;exact .num g sM (by simp)
theorem qXQ(g:COk σ C){m:Bool}{v w:Nat}{c e:Int}{d d':D}(hd:qL σ (.int .i64 v c) d)(h:qL σ (.int .i64 w e) d'):yM E σ (.mm m) [d,d'] (C.add [] [] [] 1,.int .i64 C.nx 0):=by simp only[qL]at hd h;obtain⟨x,j,rfl⟩:=hd;obtain⟨y,i,rfl⟩:=h;obtain⟨n,b⟩:=qXT (E:=E) m (x.1+c) (y.1+e);exact .num g b (by simp)
end
end Go.Am.Tt
namespace Go.Am.Tt
open Go Go.Am
mutual
def Sn.sh:Sn->Sh
 |.int k=>.int k
 |.bool=>.bool
 |.str _=>.str
 |.st h=>.st (Sn.shs h)
 |.sl el sz _ e=>.sl el sz (Sn.sh e)
 |.wh s _=>Sn.sh s
 |.any|.ptr _|.clo _ _ _|.mp _ _=>.bool
def Sn.shs:List Sn->List Sh
 | []=>[]
 |s::r=>Sn.sh s::Sn.shs r
end
mutual
def Sn.low:Sn->Bool
 |.int _=>true
 |.bool=>true
 |.str n=>Nat.ble n 300000000
 |.st h=>Sn.lows h
 |.sl _ _ n e=>Nat.ble n 300000000&&Sn.low e
 |.wh s _=>Sn.low s
 |.any|.ptr _|.clo _ _ _|.mp _ _=>false
def Sn.lows:List Sn->Bool
 | []=>true
 |s::r=>Sn.low s&&Sn.lows r
end
mutual
theorem oQ:∀{s:Sn} {d:D},Sn.low s=true->qZ s d->qC 300000000 s.sh d
 |.int k,d,_,h=>by simp only[qZ]at h;simp only[Sn.sh,qC];exact h
 |.bool,d,_,h=>by simp only[qZ]at h;simp only[Sn.sh,qC];exact h
 |.str n,d,y,h=>by simp only[qZ]at h;simp only[Sn.sh,qC];obtain⟨s,hs,b⟩:=h;exact⟨s,hs,lT b (o9 y)⟩
 |.st i,d,y,h=>by simp only[qZ]at h;simp only[Sn.sh,qC];obtain⟨cs,hd,h⟩:=h;exact⟨cs,hd,qBs y h⟩
 |.sl el sz n e,d,y,h=>by
  simp only[Sn.low,aE]at y;simp only[qZ]at h;simp only[Sn.sh,qC];rcases h with h|⟨es,hd,b,g⟩
  ·exact .inl h
  exact .inr ⟨es,hd,lT b (o9 y.1),λx c=>oQ y.2 (g x c)⟩
 |.wh s q,d,y,h=>by simp only[qZ]at h;simp only[Sn.low]at y;simp only[Sn.sh];exact oQ y h.1
 |.any,d,y,h=>by cases y
 |.ptr _,d,y,h=>by cases y
 |.clo _ _ _,d,y,h=>by cases y
 |.mp _ _,d,y,h=>by cases y
theorem qBs:∀{ss:List Sn} {ds:List D},Sn.lows ss=true->zZ ss ds->j8 300000000 (Sn.shs ss) ds
 | [],ds,_,h=>by simp only[zZ]at h;simp only[Sn.shs,j8];exact h
 |s::r,ds,x,h=>by simp only[Sn.lows,aE]at x;simp only[zZ]at h;simp only[Sn.shs,j8];obtain⟨d,y,hd,c,b⟩:=h;exact⟨d,y,hd,oQ x.1 c,qBs x.2 b⟩
end
section
variable{E:Env}{σ:Wd}{C:Cx}
theorem fL:∀{x:List Sn} {cs:List D},zZ x cs->cs.length=x.length
 | [],cs,h=>by simp only[zZ]at h;subst h;rfl
 |f::x,cs,h=>by simp only[zZ]at h;obtain⟨d,r,rfl,_,h⟩:=h;simp[fL h]
def qDd:Sn->Nat
 |.st h=>h.length
 |.wh s _=>qDd s
 |_=>1
def qJ4:Sn->Bool
 |.any|.ptr _|.clo _ _ _|.mp _ _=>false
 |.wh s _=>qJ4 s
 |_=>true
theorem qF3:∀{s:Sn} {d:D},qJ4 s=true->qZ s d->d.cells.length=qDd s
 |.int _,d,_,h=>by simp only[qZ]at h;obtain⟨_,rfl⟩:=h;rfl
 |.bool,d,_,h=>by simp only[qZ]at h;obtain⟨_,rfl⟩:=h;rfl
 |.str _,d,_,h=>by simp only[qZ]at h;obtain⟨_,rfl,_⟩:=h;rfl
 |.st _,d,_,h=>by simp only[qZ]at h;obtain⟨cs,rfl,h⟩:=h;show cs.length=_;simp only[qDd];exact fL h
 |.sl _ _ _ _,d,_,h=>by simp only[qZ]at h;rcases h with rfl|⟨es,rfl,_⟩<;>rfl
 |.wh s q,d,hr,h=>by simp only[qZ]at h;exact qF3 (s:=s) hr h.1
theorem qHr{C:Cx}(g:COk σ C){e:Sn}:∀{ys:List Y} {ds:List D},ys.all (λy=>mF C y e)=true->qF σ ys ds->∀x∈ds,qZ e x
 | [],ds,_,h=>by simp only[qF]at h;subst h;intro x b;cases b
 |y::ys,ds,c,h=>by
  simp only[qF]at h;obtain⟨d,r,rfl,j,i⟩:=h;simp only[List.all_cons,aE]at c;intro x b;rcases List.mem_cons.1 b with rfl|b
  ·exact rE g c.1 j
  exact qHr g c.2 i x b
def qUT(C:Cx)(el sz:Nat)(e:Sn)(ys:List Y):Option (Cx×Y):=
 bif qJ4 e&&ys.all (λy=>mF C y e)&&Nat.beq (qDd e) sz&&Nat.ble (Nat.mul ys.length (Nat.succ sz)) 1000000 then some (C.add [(C.nx,0,ys.length),(0,C.nx,-(ys.length:Int))] [(C.nx,ys.length)] [] 1,.sl C.nx el sz ys.length e)else none
theorem qUS(b:COk σ C){el sz:Nat}{e:Sn}{ys:List Y}{ds:List D}{r:Cx×Y}(hd:qF σ ys ds)(h:qUT C el sz e ys=some r):yM E σ (.lit el sz) ds r:=by
 unfold qUT at h;obtain⟨j,h⟩:=qW h;cases h;simp only[aE]at j;obtain⟨⟨⟨q,p⟩,g⟩,h3⟩:=j;have l:=nH hd;have y:=qHr b p hd;have g:=vE g;have c:TOp.eval E (.lit el sz) ds=some (.sl el sz ds):=by rw[qAt];refine nQ ?_;rw[aE];refine⟨List.all_eq_true.2 λx k=>?_,by rw[←l];exact h3⟩;rw[qF3 q (y x k),g];exact Nat.beq_refl _
 obtain⟨z,i⟩:=b.s.z;refine .list b c ?_ (f2 ⟨_,_,get_new b _,zI i,?_⟩ ⟨_,_,zI i,get_new b _,?_⟩)
 ·simp only[qZ];grind
 ·show((ds.length:Nat):Int)<=0+(ys.length:Int);omega
 show(0:Int)<=((ds.length:Nat):Int) + -(ys.length:Int);omega
def qVT(C:Cx)(n v:Nat)(c:Int):Bool:=yV C.F C.L 0 0 v c&&yV C.F C.L v (c+1) n 0
theorem qVS(e:COk σ C){n b v:Nat}{c:Int}{d i:D}(hd:qL σ (.str n b) d)(k:qL σ (.int .i64 v c) i)(h:qVT C n v c=true):yM E σ .chr [d,i] (C.add [(0,C.nx,0),(C.nx,0,255)] [] [] 1,.int .u8 C.nx 0):=by simp only[qL]at hd k;obtain⟨s,x,rfl,p,r,_⟩:=hd;obtain⟨y,j,rfl⟩:=k;unfold qVT at h;rw[aE]at h;obtain⟨z,g⟩:=e.s.z;have l:=zY e.s h.1 g j;have q:=zY e.s h.2 j p;simp only at l;obtain⟨m,m0,m1,he⟩:=uT (E:=E) (s:=s) (i:=y.1+c) (by omega) (by omega);exact .num e he (f2 ⟨_,_,zI g,get_new e _,by simp only;omega⟩ ⟨_,_,get_new e _,zI g,by simp only;omega⟩)
end
end Go.Am.Tt
namespace Go.Am.Tt
open Go Go.Am
def Ls(el sz:Nat)(d:D):Prop:=d=.nil∨∃es,d=.sl el sz es
theorem qBU{el sz b:Nat}{e:Sn}{d:D}:qZ (.sl el sz b e) d↔Ls el sz d/\d.es.length<=b/\∀x∈d.es,qZ e x:=by
 constructor
 ·intro h;simp only[qZ]at h;rcases h with rfl|⟨es,rfl,y,c⟩
  ·exact⟨.inl rfl,Nat.zero_le _,λx g=>by cases g⟩
  exact⟨.inr ⟨es,rfl⟩,y,c⟩
 rintro⟨h,y,c⟩;simp only[qZ];rcases h with rfl|⟨es,rfl⟩
 ·exact .inl rfl
 exact .inr ⟨es,rfl,y,c⟩
section
variable{E:Env}{σ:Wd}{C:Cx}
theorem qSc{el sz bytes:Nat}{a b:D}(i:Ls el sz a)(c:Ls el sz b)(h:bytes<=80)(p:a.es.length+b.es.length<=300000000):∃y,TOp.eval E (.app el sz bytes) [a,b]=some y/\Ls el sz y/\y.es=a.es++b.es:=by
 have g:pX a=some a.es.length:=by rcases i with rfl|⟨es,rfl⟩<;>rfl
 rw[aJ,g];rcases c with rfl|⟨es,rfl⟩
 ·refine⟨a,?_,i,by simp[D.es]⟩;have e:Nat.ble (Nat.mul (Nat.add (Nat.mul 4 a.es.length) 4000) (Nat.succ bytes)) 100000000000=true:=fT (by have:(D.nil).es.length=0:=rfl;omega) h;have q:∀(b:Bool) (x:Option D),b=true->(bif b then x else none)=x:=λb x c=>by rw[c];rfl
  exact q _ _ e
 have e:Nat.ble (Nat.mul (Nat.add (Nat.mul 4 (Nat.add a.es.length es.length)) 4000) (Nat.succ bytes)) 100000000000=true:=fT p h;have l:Nat.beq sz sz=true:=Nat.beq_refl _;have k:∀(b:Bool) (x y:Option D),b=true->(bif b then x else y)=x:=λb x y c=>by rw[c];rfl
 rcases i with rfl|⟨es',rfl⟩
 ·refine⟨if es.length=0 then .nil else .sl el sz ([]++es),(k _ _ _ (by rw[e,l];rfl)).trans ?_,?_,?_⟩
  ·rw[qY];split<;>rfl
  ·split
   ·exact .inl rfl
   exact .inr ⟨_,rfl⟩
  split
  ·rename_i j;have:=List.eq_nil_of_length_eq_zero j;subst this;rfl
  rfl
 refine⟨if es.length=0 then .sl el sz es' else .sl el sz (es'++es),(k _ _ _ (by rw[e,l];show(true&&true&&(Nat.beq el el&&Nat.beq sz sz))=true;rw[Nat.beq_refl,Nat.beq_refl];rfl)).trans ?_,?_,?_⟩
 ·rw[qY];split<;>rfl
 ·split
  ·exact .inr ⟨_,rfl⟩
  exact .inr ⟨_,rfl⟩
 split
 ·rename_i j;have:=List.eq_nil_of_length_eq_zero j;subst this;show es'=es'++[];simp
 rfl
theorem qV5(h:COk σ C){el sz bytes n1 S n2 R:Nat}{e:Sn}{a c:D}(H:qL σ (.sl n1 el sz S e) a)(G:qL σ (.sl n2 el sz R e) c)(g:Nat.ble bytes 80=true){m k w k':Nat}(N:yV C.F C.L n1 0 0 m=true)(O:yV C.F C.L n2 0 0 k=true)(t:yV C.F C.L 0 w n1 0=true)(u:yV C.F C.L 0 k' n2 0=true)(r:Nat.ble (m+k) 300000000=true):yM E σ (.app el sz bytes) [a,c] (C.add [(n1,C.nx,-(k':Int)),(C.nx,n1,(k:Int)),(n2,C.nx,-(w:Int)),(C.nx,n2,(m:Int))] [(C.nx,m+k)] [] 1,.sl C.nx el sz (m+k) e):=by
 simp only[qL]at H G;obtain⟨i,l⟩:=H;obtain⟨b,j⟩:=G;have M:=uC h i N;have L:=uC h b O;obtain⟨z,A⟩:=h.s.z;have K:=zY h.s t A i;have J:=zY h.s u A b;simp only at M L K J;have r:=o9 r;rw[qBU]at l j;obtain⟨y,Q,P,I⟩:=qSc (E:=E) l.1 j.1 (o9 g) (by omega);have F:y.es.length=a.es.length+c.es.length:=by rw[I,List.length_append]
 refine .list h Q (qBU.2 ⟨P,by omega,λx p=>?_⟩) ?_
 ·rw[I]at p;rcases List.mem_append.1 p with p|p
  ·exact l.2.2 x p
  exact j.2.2 x p
 intro q B;simp only[List.mem_cons,List.not_mem_nil,or_false]at B;rcases B with rfl|rfl|rfl|rfl
 ·exact⟨_,_,zI i,get_new h _,by simp only;omega⟩
 ·exact⟨_,_,get_new h _,zI i,by simp only;omega⟩
 ·exact⟨_,_,zI b,get_new h _,by simp only;omega⟩
 exact⟨_,_,get_new h _,zI b,by simp only;omega⟩
theorem qYf(h:COk σ C){el sz n b v:Nat}{c:Int}{e:Sn}{l i:D}(B:qL σ (.sl n el sz b e) l)(F:qL σ (.int .i64 v c) i)(O:Nat.ble b 300000000=true)(N:yV C.F C.L 0 0 v c=true)(M:yV C.F C.L v c n 0=true):yM E σ (.slc el sz false true) [l,i] (C.add [(C.nx,v,c),(v,C.nx,-c)] [(C.nx,b)] [] 1,.sl C.nx el sz b e):=by
 simp only[qL]at B F;obtain⟨x,k,rfl⟩:=F;obtain⟨j,r⟩:=B;obtain⟨z,H⟩:=h.s.z;have G:=zY h.s N H k;have t:=zY h.s M k j;simp only at G t;have q:=r;simp only[qZ]at q;rcases q with rfl|⟨es,rfl,hlen,L⟩
 ·have g:(D.nil).es.length=0:=rfl;rw[g]at t j;have K:x.1+c=0:=by omega
  refine .list h (d:=.nil) ?_ r (f2 ⟨_,_,get_new h _,zI k,by simp only[g];omega⟩ ⟨_,_,zI k,get_new h _,by simp only[g];omega⟩);show TOp.eval E (.slc el sz false true) [.nil,dI (x.1+c)]=_;rw[K];rfl
 have he:(D.sl el sz es).es.length=es.length:=rfl;rw[he]at t j;have u:TOp.eval E (.slc el sz false true) [.sl el sz es,dI (x.1+c)]=some (.sl el sz (es.take (x.1+c).toNat)):=by
  rw[mH];have w:vS false 0 [dI (x.1+c)]=some (0,[dI (x.1+c)]):=rfl;have A:vS true es.length [dI (x.1+c)]=some ((x.1+c).toNat,[]):=by simp only[vS,cond_true,yX (by omega:0<=x.1+c),Option.map_some]
  simp only[w,A];refine(nQ ?_).trans ?_
  ·rw[Nat.beq_refl,Nat.beq_refl,bL (Nat.zero_le _),bL (by omega)];rfl
  simp
 have J:((es.take (x.1+c).toNat).length:Int)=x.1+c:=by rw[List.length_take];omega
 have p:((D.sl el sz (es.take (x.1+c).toNat)).es.length:Int)=x.1+c:=J;refine .list h u (by simp only[qZ];exact .inr ⟨_,rfl,by rw[List.length_take];omega,λy I=>L y (List.mem_of_mem_take I)⟩) (f2 ⟨_,_,get_new h _,zI k,by simp only[p];omega⟩ ⟨_,_,zI k,get_new h _,by simp only[p];omega⟩)
end
end Go.Am.Tt
namespace Go.Am.Tt
open Go Go.Am
section
variable{E:Env}{σ:Wd}{C:Cx}
theorem qX2(g:COk σ C){el sz n b v:Nat}{c:Int}{e:Sn}{l i:D}(B:qL σ (.sl n el sz b e) l)(F:qL σ (.int .i64 v c) i)(M:yV C.F C.L 0 0 v c=true)(L:yV C.F C.L v c n 0=true):yM E σ (.slc el sz true false) [l,i] (C.add [(C.nx,n,0)] [(C.nx,b)] [] 1,.sl C.nx el sz b e):=by
 simp only[qL]at B F;obtain⟨x,A,rfl⟩:=F;obtain⟨h,p⟩:=B;obtain⟨z,H⟩:=g.s.z;have G:=zY g.s M H A;have q:=zY g.s L A h;simp only at G q;have k:=p;simp only[qZ]at k;rcases k with rfl|⟨es,rfl,hlen,K⟩
 ·have j:(D.nil).es.length=0:=rfl;rw[j]at q h;have J:x.1+c=0:=by omega
  refine .list g (d:=.nil) ?_ p (f1 (get_new g _) (zI h) (by simp only[j];omega));show TOp.eval E (.slc el sz true false) [.nil,dI (x.1+c)]=_;rw[J];rfl
 have he:(D.sl el sz es).es.length=es.length:=rfl;rw[he]at q h;have t:TOp.eval E (.slc el sz true false) [.sl el sz es,dI (x.1+c)]=some (.sl el sz (es.drop (x.1+c).toNat)):=by
  rw[mH];have u:vS true 0 [dI (x.1+c)]=some ((x.1+c).toNat,[]):=by simp only[vS,cond_true,yX (by omega:0<=x.1+c),Option.map_some]
  have w:vS false es.length ([]:List D)=some (es.length,[]):=rfl;simp only[u,w];refine(nQ ?_).trans ?_
  ·rw[Nat.beq_refl,Nat.beq_refl,bL (by omega),bL (lR _)];rfl
  rw[List.take_of_length_le (by rw[List.length_drop];omega)]
 have r:(D.sl el sz (es.drop (x.1+c).toNat)).es.length=es.length-(x.1+c).toNat:=List.length_drop;exact .list g t (by simp only[qZ];exact .inr ⟨_,rfl,by rw[List.length_drop];omega,λy I=>K y (List.mem_of_mem_drop I)⟩) (f1 (get_new g _) (zI h) (by simp only[r];omega))
theorem yM.text(h:COk σ C){o:TOp}{ds:List D}{s:ByteArray}{b:Nat}(he:TOp.eval E o ds=some (.leaf (.string s)))(hs:s.size<=b){F:List jL}(y:∀q∈F,aU (σ++[((s.size:Int),D.nil)]) q):yM E σ o ds (C.add F [(C.nx,b)] [] 1,.str C.nx b):=by
 refine⟨_,[((s.size:Int),.nil)],he,h.ext y (λq x=>?_) (by simp) rfl,?_⟩
 ·rw[List.mem_singleton]at x;subst x;exact⟨_,get_new h _,by simp,by simp;omega⟩
 simp only[qL];exact⟨s,_,rfl,get_new h _,rfl,hs⟩
theorem qQg(h:COk σ C){n b v w:Nat}{c e:Int}{d i j:D}(hd:qL σ (.str n b) d)(l:qL σ (.int .i64 v c) i)(k:qL σ (.int .i64 w e) j)(I:yV C.F C.L 0 0 v c=true)(H:yV C.F C.L v c w e=true)(G:yV C.F C.L w e n 0=true):yM E σ (.sub true true) [d,i,j] (C.add [] [(C.nx,b)] [] 1,.str C.nx b):=by simp only[qL]at hd l k;obtain⟨s,y,rfl,r,hs,F⟩:=hd;obtain⟨x,g,rfl⟩:=l;obtain⟨u,hu,rfl⟩:=k;obtain⟨z,q⟩:=h.s.z;have p:=zY h.s I q g;have K:=zY h.s H g hu;have J:=zY h.s G hu r;simp only at p;obtain⟨t,A,he⟩:=qBI (E:=E) (B:=b) (s:=s) (i:=x.1+c) (j:=u.1+e) (by omega) (by omega) (by omega) F;exact .text h he A (by simp)
theorem qR4(y:COk σ C){n el b:Nat}{d:D}(hd:qL σ (.sl n el 1 b (.int .u8)) d)(k:yV C.F C.L 0 1 n 0=true):yM E σ .bstr [d] (C.add [] [(C.nx,b)] [] 1,.str C.nx b):=by
 simp only[qL]at hd;obtain⟨x,h⟩:=hd;obtain⟨z,e⟩:=y.s.z;have c:=zY y.s k e x;simp only at c;have j:qC b (.sl el 1 (.int .u8)) d:=by simp only[qZ]at h;simp only[qC];exact h
 have i:∃es,d=.sl el 1 es:=by
  simp only[qZ]at h;rcases h with rfl|⟨es,rfl,_⟩
  ·have:(D.nil).es.length=0:=rfl;omega
  exact⟨es,rfl⟩
 obtain⟨t,g,he⟩:=qP5 (E:=E) j i;exact .text y he g (by simp)
end
end Go.Am.Tt
namespace Go.Am.Tt
open Go Go.Am
section
variable{E:Env}{σ:Wd}{C:Cx}
def qJI(e:Sn)(z:D):Bool:=match e,z with
 |.bool,.leaf (.bool _)=>true
 |.int k,.leaf (.int k' _)=>decide (k=k')
 |_,_=>false
theorem qMN{e:Sn}{z:D}(h:qJI e z=true):qZ e z:=by
 unfold qJI at h;split at h
 ·simp only[qZ];exact⟨_,rfl⟩
 ·rw[decide_eq_true_eq]at h;subst h;simp only[qZ];exact⟨_,rfl⟩
 cases h
theorem qXU(g:COk σ C){el sz bytes v b:Nat}{ag:Bool}{h:List Value}{c:Int}{e:Sn}{i:D}(r:qL σ (.int .i64 v c) i)(I:yV C.F C.L 0 0 v c=true)(H:yV C.F C.L v c 0 b=true)(G:Nat.ble b 300000000=true)(w:(Nat.beq h.length sz&&h.all (λv=>zF v&&qE v)&&(ag||Nat.beq sz 1))=true)(B:Nat.ble (bytes+sz) 2=true)(he:qJI e (zD ag h)=true):yM E σ (.mk el sz bytes ag h) [i] (C.add [(C.nx,v,c),(v,C.nx,-c)] [(C.nx,b)] [] 1,.sl C.nx el sz b e):=by
 simp only[qL]at r;obtain⟨x,k,rfl⟩:=r;obtain⟨z,j⟩:=g.s.z;have u:=zY g.s I j k;have t:=zY g.s H k j;simp only at u t;have F:=o9 G;have p:TOp.eval E (.mk el sz bytes ag h) [dI (x.1+c)]=some (.sl el sz (List.replicate (x.1+c).toNat (zD ag h))):=by
  rw[qO2,yX (by omega)];have l:(x.1+c).toNat*(bytes+sz+1)<=1000000000:=by have:(x.1+c).toNat*(bytes+sz+1)<=300000000*3:=Nat.mul_le_mul (by omega) (by have:=o9 B;omega);omega
  exact nQ (by rw[w];exact bL l)
 have q:((D.sl el sz (List.replicate (x.1+c).toNat (zD ag h))).es.length:Int)=x.1+c:=by show((List.replicate (x.1+c).toNat (zD ag h)).length:Int)=_;grind
 refine .list g p ?_ (f2 ⟨_,_,get_new g _,zI k,by simp only[q];omega⟩ ⟨_,_,zI k,get_new g _,by simp only[q];omega⟩);simp only[qZ];exact .inr ⟨_,rfl,by rw[List.length_replicate];omega,λy A=>by rw[List.eq_of_mem_replicate A];exact qMN he⟩
theorem qLn(e:COk σ C){ty:TypeId}{a b:Operand}{op:BinOp}(c:op=.eql∨op=.neq){n i m g:Nat}{d d':D}(hd:qL σ (.str n i) d)(h:qL σ (.str m g) d'):yM E σ (.bin op ty a b) [d,d'] (C,.bool [] []):=by
 simp only[qL]at hd h;obtain⟨s,_,rfl,_⟩:=hd;obtain⟨t,_,rfl,_⟩:=h;have x:∀r:Bool,qL σ (.bool [] []) (dB r):=by intro r;simp only[qL];exact⟨r,rfl,λ_ q y=>(by cases y),λ_ q y=>(by cases y)⟩
 rcases c with rfl|rfl
 ·exact .same e qQk (x _)
 exact .same e m8 (x _)
theorem qM8(g:COk σ C){ty:TypeId}{a b:Operand}{op:BinOp}(e:op=.neq∨op=.eql){ss:List Sn}{cs cs':List Y}{d d':D}{k:Nat}{sh:List Sh}(hd:qL σ (.st cs) d)(h:qL σ (.st cs') d')(z:gX C cs ss=true)(w:gX C cs' ss=true)(i:Sn.lows ss=true)(j:lW E.prog k ty=some sh)(y:sh=Sn.shs ss)(x:rM E.prog ty=true)(l:k<=10000)(p:E.prog.eqGuardType E.prog.depth ty=false)(r:(Sn.shs ss).all qEu=true):yM E σ (.bin op ty a b) [d,d'] (C,.bool [] []):=by subst y;simp only[qL]at hd h;obtain⟨az,rfl,u⟩:=hd;obtain⟨A,rfl,t⟩:=h;refine .same g (cD op e j x l p r (qHg (qBs i (kJ g z u))) (qHg (qBs i (kJ g w t)))) ?_;simp only[qL];exact⟨_,rfl,λ_ q c=>(by cases c),λ_ q c=>(by cases c)⟩
end
end Go.Am.Tt
namespace Go.Am.Tt
open Go Go.Am
section
variable{E:Env}{σ:Wd}{C:Cx}
theorem yM.after{τ:Wd}{o:TOp}{ds:List D}{r:Cx×Y}(h:yM E (σ++τ) o ds r):yM E σ o ds r:=by obtain⟨d,x,b,y,h3⟩:=h;exact⟨d,τ++x,b,by rw[←List.append_assoc];exact y,by rw[←List.append_assoc];exact h3⟩
def qWI(C:Cx)(n:Nat):Nat:=
 let acc:=qJs C.F 4 [(n,0)]
 C.L.foldl (λm p=>match cW acc p.1 with|some d=>Nat.min m (d+p.2).toNat|none=>m) (match cW acc 0 with|some d=>d.toNat|none=>300000001)
def fF(C:Cx)(n:Nat):Nat:=C.F.foldl (λm q=>bif Nat.beq q.1 0&&Nat.beq q.2.1 n then Nat.max m (-q.2.2).toNat else m) 0
def qPE(C:Cx)(el sz bytes:Nat)(n1 b x:Nat)(e:Sn)(n2 y h:Nat)(g:Sn):Option (Cx×Y):=
 let m:=qWI C n1
 let k:=qWI C n2
 let c:=fF C n1
 let k':=fF C n2
 bif Nat.beq b el&&Nat.beq x sz&&Nat.beq y el&&Nat.beq h sz&&g.fits e&&Nat.ble bytes 80&&yV C.F C.L n1 0 0 m&&yV C.F C.L n2 0 0 k&&yV C.F C.L 0 c n1 0&&yV C.F C.L 0 k' n2 0&&Nat.ble (m+k) 300000000 then some (C.add [(n1,C.nx,-(k':Int)),(C.nx,n1,(k:Int)),(n2,C.nx,-(c:Int)),(C.nx,n2,(m:Int))] [(C.nx,m+k)] [] 1,.sl C.nx el sz (m+k) e)else none
theorem qF9(A:COk σ C){el sz bytes n1 g e B n2 b y u:Nat}{k t:Sn}{a c:D}{r:Cx×Y}(z:qL σ (.sl n1 g e B k) a)(j:qL σ (.sl n2 b y u t) c)(h:qPE C el sz bytes n1 g e k n2 b y t=some r):yM E σ (.app el sz bytes) [a,c] r:=by
 unfold qPE at h;obtain⟨q,h⟩:=qW h;cases h;simp only[aE]at q;obtain⟨⟨⟨⟨⟨⟨⟨⟨⟨⟨a1,a2⟩,a3⟩,a4⟩,a5⟩,H⟩,G⟩,F⟩,a9⟩,p⟩,l⟩:=q;have a1:=vE a1;have a2:=vE a2;have a3:=vE a3;have a4:=vE a4;subst a1 a2 a3 a4;have i:qL σ (.sl n2 b y u k) c:=by simp only[qL]at j ⊢;refine⟨j.1,?_⟩;have:=qBU.1 j.2;exact qBU.2 ⟨this.1,this.2.1,λx w=>yA a5 (this.2.2 x w)⟩
 exact qV5 A z i H G F a9 p l
def qUE(C:Cx):Cx:=C.add [(C.nx,0,0)] [(C.nx,0)] [] 1
theorem qNW(h:COk σ C)(el sz:Nat)(e:Sn):COk (σ++[(0,D.nil)]) (qUE C)/\qL (σ++[(0,D.nil)]) (.sl C.nx el sz 0 e) .nil:=by
 obtain⟨z,b⟩:=h.s.z;refine⟨h.ext (f1 (get_new h _) (zI b) (by simp)) (λq y=>?_) (by simp) rfl,?_⟩
 ·rw[List.mem_singleton]at y;subst y;exact⟨_,get_new h _,by simp,by simp⟩
 simp only[qL];exact⟨get_new h _,qBU.2 ⟨.inl rfl,Nat.zero_le _,λx c=>by cases c⟩⟩
def qV6(C:Cx)(el sz bytes:Nat):Y->Y->Option (Cx×Y)
 |.sl n1 b x _ e,.sl n2 y h _ c=>qPE C el sz bytes n1 b x e n2 y h c
 |.nil,.sl n2 y h _ c=>qPE (qUE C) el sz bytes C.nx el sz c n2 y h c
 |.sl n1 b x _ e,.nil=>qPE (qUE C) el sz bytes n1 b x e C.nx el sz e
 |_,_=>none
theorem qSd(g:COk σ C){el sz bytes:Nat}{l k:Y}{a c:D}{r:Cx×Y}(e:qL σ l a)(y:qL σ k c)(h:qV6 C el sz bytes l k=some r):yM E σ (.app el sz bytes) [a,c] r:=by
 unfold qV6 at h;split at h
 ·exact qF9 g e y h
 ·rename_i n2 t p A w;have b:a=.nil:=by simpa only[qL]using e
  subst b;obtain⟨j,i⟩:=qNW g el sz w;exact .after (qF9 j i (nZ y) h)
 ·rename_i n1 u q B z;have x:c=.nil:=by simpa only[qL]using y
  subst x;obtain⟨j,i⟩:=qNW g el sz z;exact .after (qF9 j (nZ e) i h)
 cases h
end
end Go.Am.Tt
namespace Go.Am.Tt
open Go Go.Am
section
variable{E:Env}{σ:Wd}{C:Cx}
abbrev Rs:=Option (Cx×Y)
def qUW(C:Cx)(h:Bool):List Y->Rs
 | [.sl n _ _ _ _]=>bif h then none else some (C,.int .i64 n 0)
 | [.nil]=>bif h then none else some (C,.int .i64 0 0)
 | [.str n _]=>bif h then some (C,.int .i64 n 0)else none
 |_=>none
theorem qQ2(x:COk σ C){str:Bool}{ys:List Y}{ds:List D}{r:Cx×Y}(hd:qF σ ys ds)(h:qUW C str ys=some r):yM E σ (.len str) ds r:=by
 unfold qUW at h;split at h
 ·simp only[qF]at hd;obtain⟨d,_,rfl,y,rfl⟩:=hd;cases str with
  |true=>cases h
  |false=>cases h;exact qUV x y
 ·simp only[qF,qL]at hd;obtain⟨d,_,rfl,rfl,rfl⟩:=hd;cases str with
  |true=>cases h
  |false=>cases h;exact qQ1 x
 ·simp only[qF]at hd;obtain⟨d,_,rfl,y,rfl⟩:=hd;cases str with
  |true=>cases h;exact qQ0 x y
  |false=>cases h
 cases h
def qZW(C:Cx):List Y->Rs
 | [.sl n _ _ _ e,.int .i64 v c]=>qRe C n e v c
 |_=>none
theorem qU4(x:COk σ C){ys:List Y}{ds:List D}{r:Cx×Y}(hd:qF σ ys ds)(h:qZW C ys=some r):yM E σ .inr ds r:=by
 unfold qZW at h;split at h
 ·simp only[qF]at hd;obtain⟨d,_,rfl,b,i,_,rfl,y,rfl⟩:=hd;exact qOr x b y h
 cases h
def qZ4(C:Cx)(sz:Nat)(ag:Bool)(size off:Nat):List Y->Rs
 | [.sl n _ h b _,.int .i64 v c]=>bif Nat.ble b 300000000&&Nat.beq h sz then(qPc C n v c sz ag size off).map (λy=>(C,y))else none
 |_=>none
theorem qVB(c:COk σ C){sz size off:Nat}{ag:Bool}{ys:List Y}{ds:List D}{r:Cx×Y}(hd:qF σ ys ds)(h:qZ4 C sz ag size off ys=some r):yM E σ (.elem sz ag size off) ds r:=by
 unfold qZ4 at h;split at h
 ·simp only[qF]at hd;obtain⟨d,_,rfl,g,i,_,rfl,e,rfl⟩:=hd;obtain⟨x,h⟩:=qW h;rw[aE]at x;obtain⟨y,b,rfl⟩:=Option.map_eq_some_iff.1 h;exact qBv c g e x.1 x.2 b
 cases h
def qT3(C:Cx)(ag:Bool)(n:Nat):List Y->Rs
 | [.st cs]=>bif ag&&Nat.beq cs.length n then some (C,.st cs)else none
 | [y]=>bif !ag&&Nat.beq n 1&&qFu y then some (C,y)else none
 |_=>none
theorem qQh(e:COk σ C){n:Nat}{ag:Bool}{ys:List Y}{ds:List D}{r:Cx×Y}(hd:qF σ ys ds)(h:qT3 C ag n ys=some r):yM E σ (.chk ag n) ds r:=by
 unfold qT3 at h;split at h
 ·simp only[qF]at hd;obtain⟨d,_,rfl,y,rfl⟩:=hd;obtain⟨x,h⟩:=qW h;cases h;rw[aE]at x;obtain⟨rfl,x⟩:=x;exact qR0 e y x
 ·simp only[qF]at hd;obtain⟨d,_,rfl,y,rfl⟩:=hd;obtain⟨x,h⟩:=qW h;cases h;simp only[aE]at x;obtain⟨⟨a,b⟩,c⟩:=x;have b:=vE b;subst b;cases ag with
  |true=>cases a
  |false=>exact qR1 e y c
 cases h
end
end Go.Am.Tt
namespace Go.Am.Tt
open Go Go.Am
section
variable{E:Env}{σ:Wd}{C:Cx}
def qVd(C:Cx)(ag:Bool)(size off:Nat):List Y->Rs
 | [.st cs]=>(qKd ag size off cs).map λy=>(C,y)
 |_=>none
theorem qRp(b:COk σ C){size off:Nat}{ag:Bool}{ys:List Y}{ds:List D}{r:Cx×Y}(hd:qF σ ys ds)(h:qVd C ag size off ys=some r):yM E σ (.fld ag size off) ds r:=by
 unfold qVd at h;split at h
 ·simp only[qF]at hd;obtain⟨d,_,rfl,c,rfl⟩:=hd;obtain⟨y,x,rfl⟩:=Option.map_eq_some_iff.1 h;exact qOH b c x
 cases h
def qVo(C:Cx)(i:Nat):List Y->Rs
 | [.tup cs]=>(cs[i]?).map λy=>(C,y)
 |_=>none
theorem qRG(b:COk σ C){i:Nat}{ys:List Y}{ds:List D}{r:Cx×Y}(hd:qF σ ys ds)(h:qVo C i ys=some r):yM E σ (.ext i) ds r:=by
 unfold qVo at h;split at h
 ·simp only[qF]at hd;obtain⟨d,_,rfl,c,rfl⟩:=hd;obtain⟨y,x,rfl⟩:=Option.map_eq_some_iff.1 h;exact qVn b c x
 cases h
def qUC(C:Cx):List Y->Rs
 | [.bool t f]=>some (C,.bool f t)
 |_=>none
theorem qQQ(x:COk σ C){ty:TypeId}{ys:List Y}{ds:List D}{r:Cx×Y}(hd:qF σ ys ds)(h:qUC C ys=some r):yM E σ (.un .not ty) ds r:=by
 unfold qUC at h;split at h
 ·simp only[qF]at hd;obtain⟨d,_,rfl,y,rfl⟩:=hd;cases h;exact qUB x y
 cases h
def zAn(C:Cx):List Y->Rs
 | [.str n _,.int .i64 v c]=>bif qVT C n v c then some (C.add [(0,C.nx,0),(C.nx,0,255)] [] [] 1,.int .u8 C.nx 0)else none
 |_=>none
theorem qVU(y:COk σ C){ys:List Y}{ds:List D}{r:Cx×Y}(hd:qF σ ys ds)(h:zAn C ys=some r):yM E σ .chr ds r:=by
 unfold zAn at h;split at h
 ·simp only[qF]at hd;obtain⟨d,_,rfl,c,i,_,rfl,b,rfl⟩:=hd;obtain⟨x,h⟩:=qW h;cases h;exact qVS y c b x
 cases h
def qZA(C:Cx)(el sz:Nat)(lo x:Bool):List Y->Rs
 | [.sl n zS h b e,.int .i64 v c]=>
  bif Nat.beq zS el&&Nat.beq h sz&&Nat.ble b 300000000&&yV C.F C.L 0 0 v c&&yV C.F C.L v c n 0 then
   (match lo,x with
   |false,true=>some (C.add [(C.nx,v,c),(v,C.nx,-c)] [(C.nx,b)] [] 1,.sl C.nx el sz b e)
   |true,false=>some (C.add [(C.nx,n,0)] [(C.nx,b)] [] 1,.sl C.nx el sz b e)
   |_,_=>none)else none
 | [.sl n zS h b e,.int .i64 v c,.int .i64 w k]=>
  bif lo&&x&&Nat.beq zS el&&Nat.beq h sz&&yV C.F C.L 0 0 v c&&yV C.F C.L v c w k&&yV C.F C.L w k n 0 then some (C.add [(C.nx,w,k),(C.nx,n,0)] [(C.nx,b)] [] 1,.sl C.nx el sz b e)else none
 |_=>none
theorem qT9(l:COk σ C){el sz:Nat}{lo N:Bool}{ys:List Y}{ds:List D}{r:Cx×Y}(hd:qF σ ys ds)(h:qZA C el sz lo N ys=some r):yM E σ (.slc el sz lo N) ds r:=by
 unfold qZA at h;split at h
 ·simp only[qF]at hd;obtain⟨d,_,rfl,F,i,_,rfl,B,rfl⟩:=hd;obtain⟨A,h⟩:=qW h;simp only[aE]at A;obtain⟨⟨⟨⟨a1,a2⟩,a3⟩,a4⟩,a5⟩:=A;have a1:=vE a1;have a2:=vE a2;subst a1 a2;split at h
  ·cases h;exact qYf l F B a3 a4 a5
  ·cases h;exact qX2 l F B a4 a5
  cases h
 ·rename_i n zS g b e v c w k;simp only[qF]at hd;obtain⟨d,_,rfl,F,i,_,rfl,B,j,_,rfl,h3,rfl⟩:=hd;obtain⟨A,h⟩:=qW h;cases h;simp only[aE]at A;obtain⟨⟨⟨⟨⟨⟨rfl,rfl⟩,a1⟩,a2⟩,a3⟩,a4⟩,a5⟩:=A;have a1:=vE a1;have a2:=vE a2;subst a1 a2;simp only[qL]at F B h3;obtain⟨x,M,rfl⟩:=B;obtain⟨y,G,rfl⟩:=h3;obtain⟨p,u⟩:=F;obtain⟨z,Q⟩:=l.s.z;have P:=zY l.s a3 Q M;have O:=zY l.s a4 M G;have H:=zY l.s a5 G p;simp only at P O H;have t:=u;simp only[qZ]at t;rcases t with rfl|⟨es,rfl,hlen,V⟩
  ·have q:(D.nil).es.length=0:=rfl;rw[q]at H p;have U:y.1+k=0:=by omega
   have I:x.1+c=0:=by omega
   refine .list l (d:=.nil) ?_ u (f2 ⟨_,_,get_new l _,zI G,by simp only[q];omega⟩ ⟨_,_,get_new l _,zI p,by simp only[q];omega⟩);show TOp.eval E (.slc zS g true true) [.nil,dI (x.1+c),dI (y.1+k)]=_;rw[U,I];rfl
  have he:(D.sl zS g es).es.length=es.length:=rfl;rw[he]at H p;have J:TOp.eval E (.slc zS g true true) [.sl zS g es,dI (x.1+c),dI (y.1+k)]=some (.sl zS g ((es.drop (x.1+c).toNat).take ((y.1+k).toNat-(x.1+c).toNat))):=by
   rw[mH];have K:vS true 0 [dI (x.1+c),dI (y.1+k)]=some ((x.1+c).toNat,[dI (y.1+k)]):=by simp only[vS,cond_true,yX (by omega:0<=x.1+c),Option.map_some]
   have L:vS true es.length [dI (y.1+k)]=some ((y.1+k).toNat,[]):=by simp only[vS,cond_true,yX (by omega:0<=y.1+k),Option.map_some]
   simp only[K,L];refine nQ ?_;rw[Nat.beq_refl,Nat.beq_refl,bL (by omega),bL (by omega)];rfl
  have S:(D.sl zS g ((es.drop (x.1+c).toNat).take ((y.1+k).toNat-(x.1+c).toNat))).es.length<=(y.1+k).toNat-(x.1+c).toNat:=by show(List.take _ _).length<=_;rw[List.length_take];omega
  refine .list l J (by simp only[qZ];exact .inr ⟨_,rfl,by rw[List.length_take,List.length_drop];omega,λw R=>V w (List.mem_of_mem_drop (List.mem_of_mem_take R))⟩) (f2 ⟨_,_,get_new l _,zI G,?_⟩ ⟨_,_,get_new l _,zI p,?_⟩);all_goals grind
 cases h
def qZx(C:Cx)(lo h:Bool):List Y->Rs
 | [.str n b,.int .i64 v c,.int .i64 w e]=>bif lo&&h&&yV C.F C.L 0 0 v c&&yV C.F C.L v c w e&&yV C.F C.L w e n 0 then some (C.add [] [(C.nx,b)] [] 1,.str C.nx b)else none
 |_=>none
theorem qT2(b:COk σ C){lo x:Bool}{ys:List Y}{ds:List D}{r:Cx×Y}(hd:qF σ ys ds)(h:qZx C lo x ys=some r):yM E σ (.sub lo x) ds r:=by
 unfold qZx at h;split at h
 ·simp only[qF]at hd;obtain⟨d,_,rfl,e,i,_,rfl,c,j,_,rfl,h3,rfl⟩:=hd;obtain⟨y,h⟩:=qW h;cases h;simp only[aE]at y;obtain⟨⟨⟨⟨rfl,rfl⟩,a3⟩,a4⟩,a5⟩:=y;exact qQg b e c h3 a3 a4 a5
 cases h
def qZN(C:Cx):List Y->Rs
 | [.int .i64 _ _,.int .i64 _ _]=>some (C.add [] [] [] 1,.int .i64 C.nx 0)
 |_=>none
theorem qUK(x:COk σ C){m:Bool}{ys:List Y}{ds:List D}{r:Cx×Y}(hd:qF σ ys ds)(h:qZN C ys=some r):yM E σ (.mm m) ds r:=by
 unfold qZN at h;split at h
 ·simp only[qF]at hd;obtain⟨d,_,rfl,b,i,_,rfl,y,rfl⟩:=hd;cases h;exact qXQ x b y
 cases h
end
end Go.Am.Tt
namespace Go.Am.Tt
open Go Go.Am
section
variable{E:Env}{σ:Wd}{C:Cx}
def zAr(C:Cx):List Y->Rs
 | [.sl n _ sz b (.int .u8)]=>bif Nat.beq sz 1&&yV C.F C.L 0 1 n 0 then some (C.add [] [(C.nx,b)] [] 1,.str C.nx b)else none
 |_=>none
theorem qVY(y:COk σ C){ys:List Y}{ds:List D}{r:Cx×Y}(hd:qF σ ys ds)(h:zAr C ys=some r):yM E σ .bstr ds r:=by
 unfold zAr at h;split at h
 ·simp only[qF]at hd;obtain⟨d,_,rfl,b,rfl⟩:=hd;obtain⟨x,h⟩:=qW h;cases h;rw[aE]at x;have:=vE x.1;subst this;exact qR4 y b x.2
 cases h
def qRb:BinOp->Bool
 |.eql|.neq=>true
 |_=>false
theorem qKx{op:BinOp}(h:qRb op=true):op=.neq∨op=.eql:=by cases op<;>simp only[qRb]at h<;>first|(cases h;done)|exact .inl rfl|exact .inr rfl
def qXO(C:Cx)(h:BinOp)(v:Nat)(c:Int)(w:Nat)(e:Int):Rs:=match h with
 |.add=>some (qWd C v c w e)
 |.sub=>some (qT1 C v c w e)
 |.mul=>some (C.add [] [] [] 1,.int .i64 C.nx 0)
 |_=>none
def qV3(C:Cx)(h:BinOp):List Y->Rs
 | [.int k v c,.int k' w e]=>bif decide (k=k')then(match qVO h C v c w e with
  |some (t,f)=>some (C,.bool t f)
  |none=>bif decide (k=.i64)then qXO C h v c w e else none)else none
 | [.str _ _,.str _ _]=>bif qRb h then some (C,.bool [] [])else none
 |_=>none
theorem qSa(k:COk σ C){op:BinOp}{ty:TypeId}{a b:Operand}{ys:List Y}{ds:List D}{r:Cx×Y}(hd:qF σ ys ds)(h:qV3 C op ys=some r):yM E σ (.bin op ty a b) ds r:=by
 unfold qV3 at h;split at h
 ·simp only[qF]at hd;obtain⟨d,_,rfl,j,i,_,rfl,g,rfl⟩:=hd;obtain⟨e,l⟩:=qW h;clear h;have c:=yB e;clear e;subst c;split at l
  ·rename_i t f u;cases l;simp only[qL]at j g;obtain⟨x,q,rfl⟩:=j;obtain⟨y,p,rfl⟩:=g;exact qVM k u q p
  obtain⟨e,h⟩:=qW l;clear l;have c:=yB e;clear e;subst c;unfold qXO at h;split at h
  ·cases h;exact qWc k j g
  ·cases h;exact qT0 k j g
  ·cases h;exact qUG k j g
  cases h
 ·simp only[qF]at hd;obtain⟨d,_,rfl,j,i,_,rfl,g,rfl⟩:=hd;obtain⟨e,h⟩:=qW h;cases h;exact qLn k (qKx e).symm j g
 cases h
end
end Go.Am.Tt
namespace Go.Am.Tt
open Go Go.Am
def qFM:jL:=(0,0,-1)
section
variable{E:Env}{σ:Wd}{C:Cx}
def qZG(C:Cx):List Y->Rs
 | [.ptr cs o]=>some (C,.ptr cs o)
 |_=>none
theorem qUo(y:COk σ C){ys:List Y}{ds:List D}{r:Cx×Y}(hd:qF σ ys ds)(h:qZG C ys=some r):yM E σ .pchk ds r:=by
 unfold qZG at h;split at h
 ·simp only[qF]at hd;obtain⟨d,_,rfl,x,rfl⟩:=hd;cases h;have b:=x;simp only[qL]at x;obtain⟨es,rfl,_⟩:=x;exact .same y yZ b
 cases h
def qZU(C:Cx)(ag:Bool)(size:Nat):List Y->Rs
 | [.ptr cs o]=>(qKd ag size o cs).map λy=>(C,y)
 |_=>none
theorem qUX(c:COk σ C){ag:Bool}{size:Nat}{ys:List Y}{ds:List D}{r:Cx×Y}(hd:qF σ ys ds)(h:qZU C ag size ys=some r):yM E σ (.loadp ag size) ds r:=by
 unfold qZU at h;split at h
 ·simp only[qF]at hd;obtain⟨d,_,rfl,x,rfl⟩:=hd;simp only[qL]at x;obtain⟨es,rfl,x⟩:=x;obtain⟨y,b,rfl⟩:=Option.map_eq_some_iff.1 h;obtain⟨d',τ,i,g,e⟩:=qOH (E:=E) c (d:=.agg es) (by simp only[qL];exact⟨es,rfl,x⟩) b;exact⟨d',τ,i,g,e⟩
 cases h
def zA5(C:Cx)(ys:List Y):Rs:=some (C,.ptr ys 0)
theorem qVZ(x:COk σ C){ys:List Y}{ds:List D}{r:Cx×Y}(hd:qF σ ys ds)(h:zA5 C ys=some r):yM E σ .box ds r:=by cases h;exact .same x qPa (by simp only[qL];exact⟨ds,rfl,hd⟩)
def zAp(C:Cx):List Y->Rs
 | [.st cs]=>some (C,.ptr cs 0)
 |_=>none
theorem qVW(y:COk σ C){ys:List Y}{ds:List D}{r:Cx×Y}(hd:qF σ ys ds)(h:zAp C ys=some r):yM E σ .boxw ds r:=by
 unfold zAp at h;split at h
 ·simp only[qF]at hd;obtain⟨d,_,rfl,x,rfl⟩:=hd;cases h;simp only[qL]at x;obtain⟨es,rfl,x⟩:=x;exact .same y qBu (by simp only[qL];exact⟨es,rfl,x⟩)
 cases h
def qZK(C:Cx)(h:Bool):List Y->Rs
 | [.nil]=>some (C,bif h then .bool [qFM] []else .bool [] [qFM])
 | [.sl _ _ _ _ _]=>some (C,.bool [] [])
 |_=>none
theorem qUF(y:COk σ C){neg:Bool}{ys:List Y}{ds:List D}{r:Cx×Y}(hd:qF σ ys ds)(h:qZK C neg ys=some r):yM E σ (.isNil neg) ds r:=by
 unfold qZK at h;split at h
 ·simp only[qF,qL]at hd;obtain⟨d,_,rfl,rfl,rfl⟩:=hd;cases h;cases neg with
  |true=>exact .same y eG (by simp only[cond_true,qL];exact⟨false,rfl,λe=>(by cases e),λ_ q x=>(by cases x)⟩)
  |false=>exact .same y eG (by simp only[cond_false,qL];exact⟨true,rfl,λ_ q x=>(by cases x),λe=>(by cases e)⟩)
 ·simp only[qF]at hd;obtain⟨d,_,rfl,g,rfl⟩:=hd;cases h;have c:∀b:Bool,qL σ (.bool [] []) (dB b):=λb=>by simp only[qL];exact⟨b,rfl,λ_ q x=>(by cases x),λ_ q x=>(by cases x)⟩
  simp only[qL,qZ]at g;rcases g.2 with rfl|⟨es,rfl,_⟩
  ·exact .same y eG (c _)
  exact .same y eG (c _)
 cases h
theorem qV2{t:TypeId}{x y:Operand}{k:IntKind}{op:BinOp}(h:op=.and∨op=.or∨op=.xor∨op=.andNot)(m n:Int):∃r:Int,TOp.eval E (.bin op t x y) [.leaf (.int k m),.leaf (.int k n)]=some (.leaf (.int k r)):=by rcases h with rfl|rfl|rfl|rfl<;>cases k<;>exact⟨_,rfl⟩
theorem qUb{t:TypeId}{x y:Operand}{k k':IntKind}{op:BinOp}(h:op=.shl∨op=.shr)(m:Int){n:Int}(c:0<=n):∃r:Int,TOp.eval E (.bin op t x y) [.leaf (.int k m),.leaf (.int k' n)]=some (.leaf (.int k r)):=by
 have b:¬n<0:=by omega
 rcases h with rfl|rfl
 ·have e:oW E .shl t x y (.int k m) (.int k' n)=flat? (qS E.prog (Op.shift .shl k m k' n)):=rfl;rw[aI];show∃r,cX (oW E .shl t x y (.int k m) (.int k' n))=_;rw[e,Op.shift,if_neg b];exact⟨_,rfl⟩
 have e:oW E .shr t x y (.int k m) (.int k' n)=flat? (qS E.prog (Op.shift .shr k m k' n)):=rfl;rw[aI];show∃r,cX (oW E .shr t x y (.int k m) (.int k' n))=_;rw[e,Op.shift,if_neg b];exact⟨_,rfl⟩
def qTv:BinOp->Bool
 |.and|.or|.xor|.andNot=>true
 |_=>false
def qTt:BinOp->Bool
 |.shl|.shr=>true
 |_=>false
theorem qOo{op:BinOp}(h:qTv op=true):op=.and∨op=.or∨op=.xor∨op=.andNot:=by cases op<;>first|(cases h;done)|exact .inl rfl|exact .inr (.inl rfl)|exact .inr (.inr (.inl rfl))|exact .inr (.inr (.inr rfl))
theorem qOm{op:BinOp}(h:qTt op=true):op=.shl∨op=.shr:=by cases op<;>first|(cases h;done)|exact .inl rfl|exact .inr rfl
def zAq(C:Cx)(h:BinOp):List Y->Rs
 | [.int k _ _,.int k' w e]=>bif (qTv h&&decide (k=k'))||(qTt h&&yV C.F C.L 0 0 w e)then some (C.add [] [] [] 1,.int k C.nx 0)else none
 |_=>none
theorem qVX(j:COk σ C){op:BinOp}{ty:TypeId}{a b:Operand}{ys:List Y}{ds:List D}{r:Cx×Y}(hd:qF σ ys ds)(h:zAq C op ys=some r):yM E σ (.bin op ty a b) ds r:=by
 unfold zAq at h;split at h
 ·rename_i k v c k' w e;simp only[qF]at hd;obtain⟨d,_,rfl,q,i,_,rfl,p,rfl⟩:=hd;simp only[qL]at q p;obtain⟨x,G,rfl⟩:=q;obtain⟨y,B,rfl⟩:=p;obtain⟨z,A⟩:=j.s.z;obtain⟨g,h⟩:=qW h;cases h;rcases Bool.or_eq_true_iff.1 g with g|g<;>rw[aE]at g
  ·have F:=yB g.2;subst F;obtain⟨n,l⟩:=qV2 (E:=E) (t:=ty) (x:=a) (y:=b) (qOo g.1) _ _;exact .num j l (by simp)
  have u:=zY j.s g.2 A B;simp only at u;obtain⟨n,l⟩:=qUb (E:=E) (t:=ty) (x:=a) (y:=b) (qOm g.1) (x.1+c) (n:=y.1+e) (by omega);exact .num j l (by simp)
 cases h
mutual
def xE:Sn->D->Bool
 |.bool,.leaf (.bool _)=>true
 |.int k,.leaf (.int k' _)=>decide (k=k')
 |.str n,.leaf (.string s)=>Nat.ble s.size n
 |.sl _ _ _ _,.nil=>true
 |.st h,.agg cs=>aZ h cs
 |_,_=>false
def aZ:List Sn->List D->Bool
 | [],[]=>true
 |s::ss,d::ds=>xE s d&&aZ ss ds
 |_,_=>false
end
mutual
theorem iH:∀{s:Sn} {d:D},xE s d=true->qZ s d
 |.bool,d,h=>by
  cases d with
  |leaf v=>cases v<;>first|(simp[xE]at h;done)|(simp only[qZ];exact⟨_,rfl⟩)
  |_=>simp[xE]at h
 |.int k,d,h=>by
  cases d with
  |leaf v=>cases v<;>first|(simp[xE]at h;done)|(simp only[xE,decide_eq_true_eq]at h;subst h;simp only[qZ];exact⟨_,rfl⟩)
  |_=>simp[xE]at h
 |.str n,d,h=>by
  cases d with
  |leaf v=>cases v<;>first|(simp[xE]at h;done)|(simp only[xE]at h;simp only[qZ];exact⟨_,rfl,o9 h⟩)
  |_=>simp[xE]at h
 |.sl _ _ _ _,d,h=>by cases d<;>first|(simp[xE]at h;done)|(simp only[qZ];exact .inl trivial)
 |.st x,d,h=>by cases d<;>first|(simp only[xE]at h;simp only[qZ];exact⟨_,rfl,qAG h⟩)|(simp[xE]at h;done)
 |.any,d,h=>by cases d<;>simp[xE]at h
 |.ptr _,d,h=>by cases d<;>simp[xE]at h
 |.clo _ _ _,d,h=>by cases d<;>simp[xE]at h
 |.mp _ _,d,h=>by cases d<;>simp[xE]at h
 |.wh _ _,d,h=>by cases d<;>simp[xE]at h
theorem qAG:∀{ss:List Sn} {ds:List D},aZ ss ds=true->zZ ss ds
 | [],[],_=>by simp only[zZ]
 | [],_::_,h=>by cases h
 |_::_,[],h=>by cases h
 |s::ss,d::ds,h=>by simp only[aZ,aE]at h;simp only[zZ];exact⟨d,ds,rfl,iH h.1,qAG h.2⟩
end
def qOk:TypeDesc->Option IntKind->Bool
 |.string,none=>true
 |.int k,some k'=>decide (k=k')
 |_,_=>false
theorem qEj{kd:TypeDesc}{g:Option IntKind}(y:qOk kd g=true){k:Value}(h:qL2 g k):∀{c:List Value} (i:Nat),(∀v∈c,qL2 g v)->∃o,qBc kd k c i=some o/\∀j,o=some j->j<i+c.length
 | [],i,_=>⟨none,rfl,λj e=>by cases e⟩
 | x::r,i,p=>by
  obtain⟨b,q⟩:∃b,Instr.sameNow kd k x=some b:=by
   have l:=p x List.mem_cons_self;unfold qOk at y;split at y
   ·obtain⟨s,rfl⟩:=h;obtain⟨t,rfl⟩:=l;exact⟨_,rfl⟩
   ·have y:=yB y;subst y;obtain⟨m,rfl⟩:=h;obtain⟨n,rfl⟩:=l;exact⟨m==n,by simp[Instr.sameNow]⟩
   cases y
  simp only[qBc,q];cases b with
  |true=>exact⟨_,rfl,λj e=>by cases e;simp⟩
  |false=>obtain⟨o,w,u⟩:=qEj y h (i+1) (λv hv=>p v (mC _ hv));grind
def qUJ(E:Env)(t:TypeId)(k:Option IntKind)(e:Sn):Bool:=match qIL E t with
 |some (kd,ag,z)=>qOk kd k&&(match pU ag z with
  |some v=>zF v&&xE e (qIc v)
  |none=>false)
 |none=>false
theorem qFy{t:TypeId}{k:Option IntKind}{e:Sn}(h:qUJ E t k e=true):∃kd ag z v,qIL E t=some (kd,ag,z)/\qOk kd k=true/\pU ag z=some v/\zF v=true/\qZ e (qIc v):=by
 unfold qUJ at h;split at h
 ·rename_i kd ag z hm;rw[aE]at h;obtain⟨x,h⟩:=h;split at h
  ·rename_i v hv;rw[aE]at h;exact⟨kd,ag,z,v,hm,x,hv,h.1,iH h.2⟩
  cases h
 cases h
def qOi:Option IntKind->Y->Bool
 |none,.str _ _=>true
 |some k,.int k' _ _=>decide (k=k')
 |_,_=>false
theorem qFB{b:Option IntKind}{y:Y}{d:D}(hd:qL σ y d)(h:qOi b y=true):∃v,d=.leaf v/\qL2 b v:=by
 unfold qOi at h;split at h
 ·simp only[qL]at hd;obtain⟨s,_,rfl,_⟩:=hd;exact⟨_,rfl,s,rfl⟩
 ·have h:=yB h;subst h;simp only[qL]at hd;obtain⟨x,_,rfl⟩:=hd;exact⟨_,rfl,_,rfl⟩
 cases h
abbrev qWl:=TypeId->Option (Option IntKind×Sn)
def qZQ(M:qWl)(C:Cx)(t:TypeId)(ok:Bool):List Y->Rs
 | [m,k]=>match M t with
  |some (h,e)=>bif mF C m (.mp h e)&&qOi h k then some (bif ok then((fresh e C).1,.tup [(fresh e C).2,.bool [] []])else fresh e C)else none
  |none=>none
 |_=>none
def qZM(M:qWl)(C:Cx)(t:TypeId):List Y->Rs
 | [m,k,x]=>match M t with
  |some (h,e)=>bif mF C m (.mp h e)&&qOi h k&&mF C x e then some (C,.mp h e)else none
  |none=>none
 |_=>none
def qZR(M:qWl)(C:Cx)(t:TypeId):List Y->Rs
 | [m,k]=>match M t with
  |some (h,e)=>bif mF C m (.mp h e)&&qOi h k then some (C,.mp h e)else none
  |none=>none
 |_=>none
theorem qCJ{kd:TypeDesc}{b:Option IntKind}{e:Sn}(l:qOk kd b=true){k:Value}(h:qL2 b k){y:List Value}{ds:List D}(r:y.length=ds.length)(p:∀v∈y,qL2 b v)(j:∀x∈ds,qZ e x):(∃i d,qBc kd k y 0=some (some i)/\ds[i]? = some d/\qZ e d)∨qBc kd k y 0=some none:=by
 obtain⟨o,g,q⟩:=qEj l h 0 p;cases o with
 |none=>exact .inr g
 |some i=>
  have:=q i rfl;have c:i<ds.length:=by omega
  exact .inl ⟨i,ds[i],g,List.getElem?_eq_getElem c,j _ (List.getElem_mem c)⟩
theorem qUN{M:qWl}(J:∀t k e,M t=some (k,e)->qUJ E t k e=true)(A:COk σ C){t:TypeId}{ok:Bool}{ys:List Y}{ds:List D}{r:Cx×Y}(hd:qF σ ys ds)(h:qZQ M C t ok ys=some r):yM E σ (.mget t ok) ds r:=by
 unfold qZQ at h;split at h;case h_2=>cases h
 simp only[qF]at hd;obtain⟨m,_,rfl,L,k,_,rfl,K,rfl⟩:=hd;split at h;case h_2=>cases h
 rename_i R e G;obtain⟨p,h⟩:=qW h;rw[aE]at p;have x:=rE A p.1 L;simp only[qZ]at x;obtain⟨w,es,rfl,H,I,F⟩:=x;obtain⟨u,rfl,j⟩:=qFB K p.2;obtain⟨kd,ag,z,v,B,Q,P,O,N⟩:=qFy (J _ _ _ G);have c:∀(d:D) (b:Bool),qZ e d->TOp.eval E (.mget t ok) [.mp w es,.leaf u]=some (bif ok then .tup [d,dB b]else d)->yM E σ (.mget t ok) [.mp w es,.leaf u] r:=by
  intro d b l y;obtain⟨τ,f1,f2⟩:=eA l A;cases ok with
  |true=>cases h;refine⟨_,τ,y,f1,?_⟩;simp only[cond_true,qL];refine⟨_,rfl,?_⟩;simp only[qF,qL];exact⟨d,_,rfl,f2,_,_,rfl,⟨b,rfl,λ_ q g=>(by cases g),λ_ q g=>(by cases g)⟩,rfl⟩
  |false=>cases h;exact⟨_,τ,y,f1,f2⟩
 rcases qCJ Q j H I F with⟨i,d,g1,g2,g3⟩|g1
 ·refine c d true g3 ?_;rw[qFS];unfold qGV;simp only[B,qCu,g1,g2,Option.map_some]
 refine c (qIc v) false N ?_;rw[qFS];unfold qGV;simp only[B,qCu,g1,P,O,cond_true]
theorem qUI{M:qWl}(F:∀t k e,M t=some (k,e)->qUJ E t k e=true)(c:COk σ C){t:TypeId}{ys:List Y}{ds:List D}{r:Cx×Y}(hd:qF σ ys ds)(h:qZM M C t ys=some r):yM E σ (.mset t) ds r:=by
 unfold qZM at h;split at h;case h_2=>cases h
 simp only[qF]at hd;obtain⟨m,_,rfl,H,k,_,rfl,G,x,_,rfl,h3,rfl⟩:=hd;split at h;case h_2=>cases h
 rename_i J e w;obtain⟨b,h⟩:=qW h;cases h;simp only[aE]at b;have y:=rE c b.1.1 H;have q:=rE c b.2 h3;simp only[qZ]at y;obtain⟨l,es,rfl,A,B,u⟩:=y;obtain⟨j,rfl,g⟩:=qFB G b.1.2;obtain⟨kd,ag,z,v,p,I,N,L,K⟩:=qFy (F _ _ _ w);rcases qCJ I g A B u with⟨i,d,g1,g2,g3⟩|g1
 ·refine .same c (d:=.mp (l.set i j) (es.set i x)) ?_ ?_
  ·rw[qFR];unfold qGU;simp only[p,g1]
  simp only[qL,qZ];grind
 refine .same c (d:=.mp (l++[j]) (es++[x])) ?_ ?_
 ·rw[qFR];unfold qGU;simp only[p,g1]
 simp only[qL,qZ];grind
theorem qUO{M:qWl}(B:∀t k e,M t=some (k,e)->qUJ E t k e=true)(g:COk σ C){t:TypeId}{ys:List Y}{ds:List D}{r:Cx×Y}(hd:qF σ ys ds)(h:qZR M C t ys=some r):yM E σ (.mdel t) ds r:=by
 unfold qZR at h;split at h;case h_2=>cases h
 simp only[qF]at hd;obtain⟨m,_,rfl,G,k,_,rfl,F,rfl⟩:=hd;split at h;case h_2=>cases h
 rename_i J e A;obtain⟨c,h⟩:=qW h;cases h;rw[aE]at c;have x:=rE g c.1 G;simp only[qZ]at x;obtain⟨j,es,rfl,p,q,l⟩:=x;obtain⟨I,rfl,b⟩:=qFB F c.2;obtain⟨kd,ag,z,v,u,H,O,N,L⟩:=qFy (B _ _ _ A);rcases qCJ H b p q l with⟨i,d,g1,g2,g3⟩|g1
 ·refine .same g (d:=.mp (j.eraseIdx i) (es.eraseIdx i)) ?_ ?_
  ·rw[qKN];unfold qKl;simp only[u,g1]
  simp only[qL,qZ];have K:i<es.length:=(gI g2).1;refine⟨_,_,rfl,by rw[List.length_eraseIdx,List.length_eraseIdx,p],λw y=>q w (List.mem_of_mem_eraseIdx y),λw y=>l w (List.mem_of_mem_eraseIdx y)⟩
 refine .same g (d:=.mp j es) ?_ ?_
 ·rw[qKN];unfold qKl;simp only[u,g1]
 simp only[qL,qZ];grind
end
end Go.Am.Tt
namespace Go.Am.Tt
open Go Go.Am
section
variable{E:Env}{σ:Wd}{C:Cx}
def qZO(C:Cx):List Y->Rs
 | [.mp _ _]=>some (C.add [(0,C.nx,0)] [] [] 1,.int .i64 C.nx 0)
 | [.mp0]=>some (C.add [(0,C.nx,0)] [] [] 1,.int .i64 C.nx 0)
 |_=>none
theorem qUL(y:COk σ C){ys:List Y}{ds:List D}{r:Cx×Y}(hd:qF σ ys ds)(h:qZO C ys=some r):yM E σ .mlen ds r:=by
 obtain⟨z,b⟩:=y.s.z;have e:∀x es,yM E σ .mlen [.mp x es] (C.add [(0,C.nx,0)] [] [] 1,.int .i64 C.nx 0):=λx es=>
  .num y (n:=(x.length:Int)) qKM (f1 (zI b) (get_new y _) (by simp only;omega))
 unfold qZO at h;split at h
 ·simp only[qF]at hd;obtain⟨d,_,rfl,c,rfl⟩:=hd;cases h;simp only[qL,qZ]at c;grind
 ·simp only[qF,qL]at hd;grind
 cases h
def qZT(C:Cx)(el sz bytes:Nat)(ag:Bool)(h:List Value)(e:Sn):List Y->Rs
 | [.int .i64 w c,.int .i64 v k]=>
  bif Nat.beq w 0&&decide (c=0)&&yV C.F C.L 0 0 v k&&yV C.F C.L v k 0 ((qWI C v:Int)+k).toNat&&(Nat.beq h.length sz&&h.all (λv=>zF v&&qE v)&&(ag||Nat.beq sz 1))&&Nat.ble (Nat.mul ((qWI C v:Int)+k).toNat (Nat.succ (Nat.add bytes sz))) 1000000000 then some (C.add [(C.nx,0,0),(0,C.nx,0)] [(C.nx,0)] [] 1,.sl C.nx el sz 0 e)else none
 |_=>none
theorem qUP(b:COk σ C){el sz bytes:Nat}{ag:Bool}{g:List Value}{e:Sn}{ys:List Y}{ds:List D}{r:Cx×Y}(hd:qF σ ys ds)(h:qZT C el sz bytes ag g e ys=some r):yM E σ (.mk el sz bytes ag g) ds r:=by
 unfold qZT at h;split at h
 ·rename_i w c v k;simp only[qF]at hd;obtain⟨d,_,rfl,A,i,_,rfl,u,rfl⟩:=hd;obtain⟨t,h⟩:=qW h;cases h;simp only[aE,decide_eq_true_eq]at t;obtain⟨⟨⟨⟨⟨a1,a2⟩,a3⟩,a4⟩,a5⟩,H⟩:=t;have a1:=vE a1;subst a1 a2;simp only[qL]at A u;obtain⟨x,l,rfl⟩:=A;obtain⟨y,q,rfl⟩:=u;obtain⟨z,j⟩:=b.s.z;rw[j]at l;cases l;have F:=zY b.s a3 j q;have B:=zY b.s a4 q j;simp only at F B;have G:dY (dI (y.1+k))=some (y.1+k).toNat:=yX (by omega);have p:TOp.eval E (.mk el sz bytes ag g) [dI (0+0),dI (y.1+k)]=some (.sl el sz []):=by rw[qO1,G];show(bif Nat.beq g.length sz&&g.all (λv=>zF v&&qE v)&&(ag||Nat.beq sz 1)&&Nat.ble (Nat.mul (y.1+k).toNat (Nat.succ (Nat.add bytes sz))) 1000000000 then some (D.sl el sz [])else none)=_;have I:Nat.ble (Nat.mul (y.1+k).toNat (Nat.succ (Nat.add bytes sz))) 1000000000=true:=bL (lT (Nat.mul_le_mul_right _ (by omega)) (o9 H));grind
  refine .list b p (by simp only[qZ];exact .inr ⟨[],rfl,Nat.zero_le _,λx l=>by cases l⟩) (f2 ⟨_,_,get_new b _,zI j,by simp[D.es]⟩ ⟨_,_,zI j,get_new b _,by simp[D.es]⟩)
 cases h
def zAk(C:Cx)(el sz:Nat):List Y->Rs
 | [.sl n zS h b e,.int .i64 v c]=>bif Nat.beq zS el&&Nat.beq h sz&&yV C.F C.L 0 0 v c&&yV C.F C.L v (c+1) n 0 then some (C.add [(C.nx,n,0),(n,C.nx,0)] [(C.nx,b)] [] 1,.sl C.nx el sz b e)else none
 |_=>none
theorem qVI(j:COk σ C){el sz:Nat}{ys:List Y}{ds:List D}{r:Cx×Y}(hd:qF σ ys ds)(h:zAk C el sz ys=some r):yM E σ (.cpy el sz) ds r:=by
 unfold zAk at h;split at h
 ·rename_i n zS y b e v c;simp only[qF]at hd;obtain⟨d,_,rfl,B,i,_,rfl,A,rfl⟩:=hd;obtain⟨u,h⟩:=qW h;cases h;simp only[aE]at u;obtain⟨⟨⟨a1,a2⟩,a3⟩,a4⟩:=u;have a1:=vE a1;have a2:=vE a2;subst a1 a2;simp only[qL]at B A;obtain⟨x,q,rfl⟩:=A;obtain⟨g,t⟩:=B;obtain⟨z,G⟩:=j.s.z;have F:=zY j.s a3 G q;have p:=zY j.s a4 q g;simp only at F p;simp only[qZ]at t;rcases t with rfl|⟨es,rfl,hlen,I⟩
  ·have:(D.nil).es.length=0:=rfl;omega
  have he:(D.sl zS y es).es.length=es.length:=rfl;rw[he]at p g;obtain⟨m,hm⟩:∃m:Nat,x.1+c=(m:Int):=⟨(x.1+c).toNat,by omega⟩;have l:TOp.eval E (.cpy zS y) [.sl zS y es,dI (x.1+c)]=some (.sl zS y (eJ es m)):=by rw[hm,qO6];show(bif Nat.beq zS zS&&Nat.beq y y&&Nat.ble (m+1) es.length then some (D.sl zS y (eJ es m))else none)=_;rw[Nat.beq_refl,Nat.beq_refl,bL (by omega)];rfl
  have k:(D.sl zS y (eJ es m)).es.length=es.length:=by show(eJ es m).length=_;unfold eJ;grind
  refine .list j l ?_ (f2 ⟨_,_,get_new j _,zI g,by simp only[k];omega⟩ ⟨_,_,zI g,get_new j _,by simp only[k];omega⟩);simp only[qZ];refine .inr ⟨_,rfl,by rw[show(eJ es m).length=es.length from k];exact hlen,λw H=>?_⟩;unfold eJ at H;grind
 cases h
def zAm(C:Cx)(el sz:Nat)(ag:Bool)(h:List Value):List Y->Rs
 | [.sl n zS x b e,.int .i64 v c]=>bif Nat.beq zS el&&Nat.beq x sz&&yV C.F C.L 0 0 v c&&yV C.F C.L v c n 0&&yV C.F C.L 0 1 n 0&&(Nat.beq h.length sz&&h.all (λv=>zF v&&qE v)&&(ag||Nat.beq sz 1))&&xE e (zD ag h)then some (C.add [(C.nx,n,0),(n,C.nx,0)] [(C.nx,b)] [] 1,.sl C.nx el sz b e)else none
 |_=>none
theorem qVR(k:COk σ C){el sz:Nat}{ag:Bool}{g:List Value}{ys:List Y}{ds:List D}{r:Cx×Y}(hd:qF σ ys ds)(h:zAm C el sz ag g ys=some r):yM E σ (.clr el sz ag g) ds r:=by
 unfold zAm at h;split at h
 ·rename_i n zS y b e v c;simp only[qF]at hd;obtain⟨d,_,rfl,I,i,_,rfl,H,rfl⟩:=hd;obtain⟨G,h⟩:=qW h;cases h;simp only[aE]at G;obtain⟨⟨⟨⟨⟨⟨a1,a2⟩,a3⟩,a4⟩,a5⟩,N⟩,L⟩:=G;have a1:=vE a1;have a2:=vE a2;subst a1 a2;simp only[qL]at I H;obtain⟨x,B,rfl⟩:=H;obtain⟨j,F⟩:=I;obtain⟨z,A⟩:=k.s.z;have J:=zY k.s a3 A B;have u:=zY k.s a4 B j;have t:=zY k.s a5 A j;simp only at J u t;simp only[qZ]at F;rcases F with rfl|⟨es,rfl,hlen,M⟩
  ·have:(D.nil).es.length=0:=rfl;omega
  have he:(D.sl zS y es).es.length=es.length:=rfl;rw[he]at u t j;obtain⟨m,hm⟩:∃m:Nat,x.1+c=(m:Int):=⟨(x.1+c).toNat,by omega⟩;have K:(Nat.beq g.length y&&g.all (λv=>zF v&&qE v)&&(ag||Nat.beq y 1))=true:=by grind
  have q:TOp.eval E (.clr zS y ag g) [.sl zS y es,dI (x.1+c)]=some (.sl zS y (es.take m++List.replicate (es.length-m) (zD ag g))):=by rw[hm,qO7];show(bif Nat.beq zS zS&&Nat.beq y y&&(Nat.ble m es.length&&Nat.ble 1 es.length)&&(Nat.beq g.length y&&g.all (λv=>zF v&&qE v)&&(ag||Nat.beq y 1))then some (D.sl zS y (es.take m++List.replicate (es.length-m) (zD ag g)))else none)=_;rw[Nat.beq_refl,Nat.beq_refl,bL (show m<=es.length by omega),bL (show 1<=es.length by omega),K];rfl
  have p:(D.sl zS y (es.take m++List.replicate (es.length-m) (zD ag g))).es.length=es.length:=by show(es.take m++List.replicate (es.length-m) (zD ag g)).length=_;grind
  refine .list k q ?_ (f2 ⟨_,_,get_new k _,zI j,by simp only[p];omega⟩ ⟨_,_,zI j,get_new k _,by simp only[p];omega⟩);simp only[qZ];refine .inr ⟨_,rfl,by rw[show(es.take m++List.replicate (es.length-m) (zD ag g)).length=es.length from p];exact hlen,λw l=>?_⟩;rcases List.mem_append.1 l with l|l
  ·grind
  rw[List.eq_of_mem_replicate l];exact iH L
 cases h
theorem qEl:∀{c:List Sn} {cs:List D} {i:Nat} {f:Sn} {x:D},zZ c cs->c[i]? = some f->qZ f x->zZ c (cs.take i++([x]++cs.drop (i+1)))
 | [],cs,i,f,x,h,y,b=>by simp at y
 |s::ss,cs,i,f,x,h,y,b=>by
  simp only[zZ]at h;obtain⟨d,r,rfl,g,e⟩:=h;cases i with
  |zero=>simp only[List.getElem?_cons_zero,oI]at y;subst y;simp only[List.take_zero,List.nil_append,List.cons_append,Nat.zero_add,List.drop_succ_cons,List.drop_zero,zZ];exact⟨x,r,rfl,b,e⟩
  |succ i=>simp only[List.getElem?_cons_succ]at y;simp only[List.take_succ_cons,List.cons_append,List.drop_succ_cons,zZ];exact⟨d,_,rfl,g,qEl e y b⟩
theorem qJU(g:COk σ C){n el sz b v:Nat}{ag:Bool}{size off:Nat}{c:Int}{e:Sn}{l i x:D}(p:qL σ (.sl n el sz b e) l)(H:qL σ (.int .i64 v c) i)(N:yV C.F C.L 0 0 v c=true)(M:yV C.F C.L v (c+1) n 0=true)(A:eK ag size x=some x)(hle:Nat.ble (off+size) sz=true)(K:∀q,qZ e q->qZ e (uV q off x.cells)):yM E σ (.set sz ag size off) [l,i,x] (C.add [(C.nx,n,0),(n,C.nx,0)] [(C.nx,b)] [] 1,.sl C.nx el sz b e):=by
 simp only[qL]at p H;obtain⟨k,G,rfl⟩:=H;obtain⟨z,r⟩:=g.s.z;obtain⟨h,p⟩:=p;have J:=zY g.s N r G;have B:=zY g.s M G h;simp only at J B;simp only[qZ]at p;rcases p with rfl|⟨es,rfl,hlen,I⟩
 ·have:(D.nil).es.length=0:=rfl;omega
 have u:(D.sl el sz es).es=es:=rfl;rw[u]at B h;have j:(k.1+c).toNat<es.length:=by omega
 have L:es[(k.1+c).toNat]? = some es[(k.1+c).toNat]:=List.getElem?_eq_getElem j;have t:TOp.eval E (.set sz ag size off) [.sl el sz es,dI (k.1+c),x]=some (.sl el sz (es.set (k.1+c).toNat (uV es[(k.1+c).toNat] off x.cells))):=by rw[qCW,yX (by omega)];simp only[A,L];exact nQ (by rw[Nat.beq_refl,hle];rfl)
 have F:(D.sl el sz (es.set (k.1+c).toNat (uV es[(k.1+c).toNat] off x.cells))).es.length=es.length:=by show(es.set _ _).length=_;rw[List.length_set]
 refine .list g t ?_ (f2 ⟨_,_,get_new g _,zI h,by simp only[F];omega⟩ ⟨_,_,zI h,get_new g _,by simp only[F];omega⟩);simp only[qZ];refine .inr ⟨_,rfl,by rw[List.length_set];exact hlen,λw y=>?_⟩;rcases List.mem_or_eq_of_mem_set y with y|rfl
 ·exact I w y
 exact K _ (I _ (List.getElem_mem j))
def qY7:Sn->Bool
 |.st _=>true
 |.wh s _=>qY7 s
 |_=>false
theorem qJS:∀{e:Sn} {q:D},qY7 e=true->qZ e q->∃cs,q=.agg cs
 |.st _,q,_,h=>by simp only[qZ]at h;obtain⟨cs,rfl,_⟩:=h;exact⟨cs,rfl⟩
 |.wh s _,q,hs,h=>by simp only[qZ]at h;exact qJS (e:=s) hs h.1
 |.int _,_,hs,_=>by cases hs
 |.bool,_,hs,_=>by cases hs
 |.str _,_,hs,_=>by cases hs
 |.sl _ _ _ _,_,hs,_=>by cases hs
 |.any,_,hs,_=>by cases hs
 |.ptr _,_,hs,_=>by cases hs
 |.clo _ _ _,_,hs,_=>by cases hs
 |.mp _ _,_,hs,_=>by cases hs
theorem qGu:∀{e:Sn},qY7 e=true->qJ4 e=true
 |.st _,_=>rfl
 |.wh s _,h=>qGu (e:=s) h
 |.int _,h=>by cases h
 |.bool,h=>by cases h
 |.str _,h=>by cases h
 |.sl _ _ _ _,h=>by cases h
 |.any,h=>by cases h
 |.ptr _,h=>by cases h
 |.clo _ _ _,h=>by cases h
 |.mp _ _,h=>by cases h
def zAF(C:Cx)(sz size off:Nat)(n el h b:Nat)(e:Sn)(v:Nat)(c:Int)(y:Y)(k:Nat):Rs:=
 bif Nat.beq h sz&&Nat.beq size sz&&Nat.beq off 0&&Nat.beq k size&&mF C y e&&qY7 e&&Nat.beq (qDd e) sz&&yV C.F C.L 0 0 v c&&yV C.F C.L v (c+1) n 0 then some (C.add [(C.nx,n,0),(n,C.nx,0)] [(C.nx,b)] [] 1,.sl C.nx el sz b e)else none
def zAG(C:Cx)(sz size off:Nat)(n el h b:Nat)(x:List Sn)(v:Nat)(c:Int)(y:Y):Rs:=match x[off]? with
 |some f=>bif Nat.beq h sz&&Nat.beq size 1&&Nat.ble (off+1) sz&&mF C y f&&qFu y&&yV C.F C.L 0 0 v c&&yV C.F C.L v (c+1) n 0 then some (C.add [(C.nx,n,0),(n,C.nx,0)] [(C.nx,b)] [] 1,.sl C.nx el sz b (.st x))else none
 |none=>none
def qZD(C:Cx)(sz:Nat)(ag:Bool)(size off:Nat):List Y->Rs
 | [.sl n el h b e,.int .i64 v c,y]=>match ag,y,e with
  |true,.st cs,e=>zAF C sz size off n el h b e v c (.st cs) cs.length
  |false,y,.st x=>zAG C sz size off n el h b x v c y
  |_,_,_=>none
 |_=>none
theorem qUf(t:COk σ C){sz size off:Nat}{ag:Bool}{ys:List Y}{ds:List D}{r:Cx×Y}(hd:qF σ ys ds)(h:qZD C sz ag size off ys=some r):yM E σ (.set sz ag size off) ds r:=by
 unfold qZD at h;split at h
 ·rename_i n el I b e v c y;simp only[qF]at hd;obtain⟨d,_,rfl,H,i,_,rfl,G,x,_,rfl,h3,rfl⟩:=hd;split at h
  ·rename_i e cs;unfold zAF at h;obtain⟨l,h⟩:=qW h;cases h;simp only[aE]at l;obtain⟨⟨⟨⟨⟨⟨⟨⟨a1,a2⟩,a3⟩,a4⟩,a5⟩,u⟩,p⟩,L⟩,a9⟩:=l;have a1:=vE a1;have a2:=vE a2;have a3:=vE a3;have a4:=vE a4;have p:=vE p;subst a1 a2 a3;have g:=rE t a5 h3;simp only[qL]at h3;obtain⟨xs,rfl,z⟩:=h3;have A:xs.length=size:=by rw[←nH z];exact a4
   refine qJU t H G L a9 ?_ (bL (by omega)) λq k=>?_
   ·show(bif Nat.beq xs.length size then some (D.agg xs)else none)=_;rw[A,Nat.beq_refl];rfl
   obtain⟨w,rfl⟩:=qJS u k;have J:w.length=size:=by rw[←p];exact qF3 (qGu u) k
   show qZ _ (.agg (uU w 0 xs));have:uU w 0 xs=xs:=by unfold uU;grind
   rw[this];exact g
  ·rename_i y M;unfold zAG at h;split at h;case h_2=>cases h
   rename_i f K;obtain⟨l,h⟩:=qW h;cases h;simp only[aE]at l;obtain⟨⟨⟨⟨⟨⟨a1,a2⟩,a3⟩,a4⟩,a5⟩,u⟩,p⟩:=l;have a1:=vE a1;have a2:=vE a2;subst a1 a2;have j:=tE a5 h3;have g:=rE t a4 h3;have B:x.cells=[x]:=by cases x<;>first|rfl|(simp[D.one]at j)
   refine qJU t H G u p ?_ a3 λq k=>?_
   ·show(bif x.one&&Nat.beq 1 1 then some x else none)=some x;rw[j];rfl
   rw[B];simp only[qZ]at k ⊢;obtain⟨cs,rfl,F⟩:=k;exact⟨_,rfl,qEl F K g⟩
  cases h
 cases h
end
end Go.Am.Tt
namespace Go.Am.Tt
open Go Go.Am
section
variable{E:Env}{σ:Wd}{C:Cx}
structure Tb where
 sh:Nat->Option Sn
 oth:TOp->List Y->Option IntKind
 st:TypeId->Option (Nat×List Sn)
 mp:qWl:=λ_=>none
structure TbOk (E:Env) (T:Tb):Prop where
 o:∀{o ys k},T.oth o ys=some k->∀{σ C ds},COk σ C->qF σ ys ds->∃n,TOp.eval E o ds=some (.leaf (.int k n))
 s:∀{t k ss},T.st t=some (k,ss)->lW E.prog k t=some (Sn.shs ss)/\rM E.prog t=true/\k<=10000/\E.prog.eqGuardType E.prog.depth t=false/\(Sn.shs ss).all qEu=true/\Sn.lows ss=true
 m:∀t k e,T.mp t=some (k,e)->qUJ E t k e=true
def qQF(T:Tb)(C:Cx)(o:TOp)(ys:List Y):Rs:=match T.oth o ys with
 |some k=>some (C.add [] [] [] 1,.int k C.nx 0)
 |none=>none
theorem qKe{T:Tb}(c:TbOk E T)(x:COk σ C){o:TOp}{ys:List Y}{ds:List D}{r:Cx×Y}(hd:qF σ ys ds)(h:qQF T C o ys=some r):yM E σ o ds r:=by
 unfold qQF at h;split at h
 ·rename_i k b;cases h;obtain⟨n,y⟩:=c.o b x hd;exact .num x y (by simp)
 cases h
def qZy(T:Tb)(C:Cx)(h:BinOp)(ty:TypeId):List Y->Rs
 | [.st cs,.st cs']=>match T.st ty with
  |some (_,ss)=>bif qRb h&&gX C cs ss&&gX C cs' ss then some (C,.bool [] [])else none
  |none=>none
 |_=>none
theorem qT4{T:Tb}(q:TbOk E T)(t:COk σ C){op:BinOp}{ty:TypeId}{a b:Operand}{ys:List Y}{ds:List D}{r:Cx×Y}(hd:qF σ ys ds)(h:qZy T C op ty ys=some r):yM E σ (.bin op ty a b) ds r:=by
 unfold qZy at h;split at h
 ·simp only[qF]at hd;obtain⟨d,_,rfl,w,i,_,rfl,u,rfl⟩:=hd;split at h
  ·rename_i k ss p;obtain⟨x,h⟩:=qW h;cases h;simp only[aE]at x;obtain⟨l,j,g,e,c,y⟩:=q.s p;exact qM8 t (qKx x.1.1) w u x.1.2 x.2 y l rfl j g e c
  cases h
 cases h
end
end Go.Am.Tt
namespace Go.Am.Tt
open Go Go.Am
section
variable{E:Env}{σ:Wd}{C:Cx}
def zAL(C:Cx)(el sz bytes:Nat)(ag:Bool)(h:List Value)(e:Sn)(v:Nat)(c:Int)(b:Nat):Rs:=
 bif yV C.F C.L 0 0 v c&&yV C.F C.L v c 0 b&&Nat.ble b 300000000&&(Nat.beq h.length sz&&h.all (λv=>zF v&&qE v)&&(ag||Nat.beq sz 1))&&Nat.ble (bytes+sz) 2&&qJI e (zD ag h)then some (C.add [(C.nx,v,c),(v,C.nx,-c)] [(C.nx,b)] [] 1,.sl C.nx el sz b e)else none
def qZP(T:Tb)(C:Cx)(el sz bytes:Nat)(ag:Bool)(h:List Value):List Y->Rs
 | [.int .i64 v c]=>(match T.sh el with
  |some e=>zAL C el sz bytes ag h e v c ((qWI C v:Int)+c).toNat
  |none=>none)
 |_=>none
theorem qUM(k:COk σ C){T:Tb}{el sz bytes:Nat}{ag:Bool}{x:List Value}{ys:List Y}{ds:List D}{r:Cx×Y}(hd:qF σ ys ds)(h:qZP T C el sz bytes ag x ys=some r):yM E σ (.mk el sz bytes ag x) ds r:=by
 unfold qZP at h;split at h
 ·simp only[qF]at hd;obtain⟨d,_,rfl,l,rfl⟩:=hd;split at h
  ·unfold zAL at h;obtain⟨y,h⟩:=qW h;cases h;simp only[aE]at y;obtain⟨⟨⟨⟨⟨j,i⟩,g⟩,e⟩,c⟩,b⟩:=y;exact qXU k l j i g (by simp only[aE];exact e) c b
  cases h
 cases h
def qQO:Sn->Bool
 |.st _|.any|.ptr _|.clo _ _ _|.mp _ _=>false
 |.wh s _=>qQO s
 |_=>true
theorem qFv:∀{e:Sn},qQO e=true->∀{d:D},qZ e d->d.one=true
 |.int _,_,d,hd=>by simp only[qZ]at hd;obtain⟨_,rfl⟩:=hd;rfl
 |.bool,_,d,hd=>by simp only[qZ]at hd;obtain⟨_,rfl⟩:=hd;rfl
 |.str _,_,d,hd=>by simp only[qZ]at hd;obtain⟨_,rfl,_⟩:=hd;rfl
 |.sl _ _ _ _,_,d,hd=>by simp only[qZ]at hd;rcases hd with rfl|⟨_,rfl,_⟩<;>rfl
 |.wh s _,h,d,hd=>by simp only[qZ]at hd;exact qFv (e:=s) h hd.1
theorem qUc(g:COk σ C){n el b v:Nat}{c:Int}{e:Sn}{l i x:D}{y:Y}(t:qL σ (.sl n el 1 b e) l)(N:qL σ (.int .i64 v c) i)(Q:qL σ y x)(S:mF C y e=true)(K:qQO e=true)(V:yV C.F C.L 0 0 v c=true)(U:yV C.F C.L v (c+1) n 0=true):yM E σ (.set 1 false 1 0) [l,i,x] (C.add [(C.nx,n,0),(n,C.nx,0)] [(C.nx,b)] [] 1,.sl C.nx el 1 b e):=by
 have j:=rE g S Q;simp only[qL]at t N;obtain⟨k,M,rfl⟩:=N;obtain⟨z,A⟩:=g.s.z;obtain⟨h,t⟩:=t;have P:=zY g.s V A M;have J:=zY g.s U M h;simp only at P J;simp only[qZ]at t;rcases t with rfl|⟨es,rfl,hlen,O⟩
 ·have:(D.nil).es.length=0:=rfl;omega
 have H:(D.sl el 1 es).es=es:=rfl;rw[H]at J h;have r:(k.1+c).toNat<es.length:=by omega
 have R:es[(k.1+c).toNat]? = some es[(k.1+c).toNat]:=List.getElem?_eq_getElem r;have u:=qFv K (O _ (List.getElem_mem r));have p:=qFv K j;have B:x.cells=[x]:=by cases x<;>first|rfl|(simp[D.one]at p)
 have G:TOp.eval E (.set 1 false 1 0) [.sl el 1 es,dI (k.1+c),x]=some (.sl el 1 (es.set (k.1+c).toNat x)):=by
  rw[qCW,yX (by omega)];have I:eK false 1 x=some x:=by show(bif x.one&&Nat.beq 1 1 then some x else none)=some x;rw[p];rfl
  simp only[I,R];refine(nQ (by rfl)).trans ?_;rw[B];have:uV es[(k.1+c).toNat] 0 [x]=x:=by generalize es[(k.1+c).toNat]=q at u;cases q<;>first|rfl|(simp[D.one]at u)
  rw[this]
 have L:(D.sl el 1 (es.set (k.1+c).toNat x)).es.length=es.length:=by show(es.set (k.1+c).toNat x).length=_;rw[List.length_set]
 refine .list g G ?_ (f2 ⟨_,_,get_new g _,zI h,by simp only[L];omega⟩ ⟨_,_,zI h,get_new g _,by simp only[L];omega⟩);simp only[qZ];refine .inr ⟨_,rfl,by rw[List.length_set];exact hlen,λw F=>?_⟩;rcases List.mem_or_eq_of_mem_set F with F|rfl
 ·exact O w F
 exact j
def qZB(C:Cx)(sz:Nat)(ag:Bool)(size off:Nat):List Y->Rs
 | [.sl n el h b e,.int .i64 v c,y]=>
  bif Nat.beq sz 1&&Nat.beq h 1&& !ag&&Nat.beq size 1&&Nat.beq off 0&&mF C y e&&qQO e&&yV C.F C.L 0 0 v c&&yV C.F C.L v (c+1) n 0 then some (C.add [(C.nx,n,0),(n,C.nx,0)] [(C.nx,b)] [] 1,.sl C.nx el 1 b e)else none
 |_=>none
theorem qUe(b:COk σ C){sz size off:Nat}{ag:Bool}{ys:List Y}{ds:List D}{r:Cx×Y}(hd:qF σ ys ds)(h:qZB C sz ag size off ys=some r):yM E σ (.set sz ag size off) ds r:=by
 unfold qZB at h;split at h
 ·simp only[qF]at hd;obtain⟨d,_,rfl,e,i,_,rfl,c,x,_,rfl,h3,rfl⟩:=hd;obtain⟨y,h⟩:=qW h;cases h;simp only[aE,Bool.not_eq_true']at y;obtain⟨⟨⟨⟨⟨⟨⟨⟨a1,a2⟩,a3⟩,a4⟩,a5⟩,k⟩,j⟩,g⟩,a9⟩:=y;have a1:=vE a1;have a2:=vE a2;have a4:=vE a4;have a5:=vE a5;subst a1 a2 a3 a4 a5;exact qUc b e c h3 k j g a9
 cases h
end
end Go.Am.Tt
namespace Go.Am.Tt
open Go Go.Am
section
variable{E:Env}{σ:Wd}{C:Cx}
def zA7(C:Cx)(el sz bytes:Nat):List Y->Rs
 | [a,b]=>qV6 C el sz bytes a b
 |_=>none
def zAO(T:Tb)(C:Cx)(el sz:Nat)(ys:List Y):Rs:=match T.sh el with
 |some e=>qUT C el sz e ys
 |none=>none
def qUp(a b:Rs):Rs:=match a with
 |some r=>some r
 |none=>b
theorem qCf{a b:Rs}{r:Cx×Y}(h:qUp a b=some r):a=some r∨b=some r:=by unfold qUp at h;grind
def zAM(T:Tb)(C:Cx)(el sz bytes:Nat)(ag:Bool)(h:List Value)(ys:List Y):Rs:=match T.sh el with
 |some e=>qZT C el sz bytes ag h e ys
 |none=>none
def zAK(C:Cx):List Y->Rs
 | []=>some (C,.mp0)
 |_=>none
def qZH(T:Tb)(C:Cx)(o:TOp)(ys:List Y):Rs:=match o with
 |.len s=>qUW C s ys
 |.inr=>qZW C ys
 |.elem sz ag size off=>qZ4 C sz ag size off ys
 |.chk ag n=>qT3 C ag n ys
 |.fld ag size off=>qVd C ag size off ys
 |.ext i=>qVo C i ys
 |.un .not _=>qUC C ys
 |.chr=>zAn C ys
 |.slc el sz lo c=>qZA C el sz lo c ys
 |.sub lo c=>qZx C lo c ys
 |.bstr=>zAr C ys
 |.mm _=>qZN C ys
 |.lit el sz=>zAO T C el sz ys
 |.app el sz bytes=>zA7 C el sz bytes ys
 |.mk el sz bytes ag h=>qUp (qZP T C el sz bytes ag h ys) (zAM T C el sz bytes ag h ys)
 |.set sz ag size off=>qUp (qZB C sz ag size off ys) (qZD C sz ag size off ys)
 |.pchk=>qZG C ys
 |.loadp ag size=>qZU C ag size ys
 |.box=>zA5 C ys
 |.boxw=>zAp C ys
 |.isNil y=>qZK C y ys
 |.mnew=>zAK C ys
 |.mget t ok=>qZQ T.mp C t ok ys
 |.mset t=>qZM T.mp C t ys
 |.mdel t=>qZR T.mp C t ys
 |.mlen=>qZO C ys
 |.cpy el sz=>zAk C el sz ys
 |.clr el sz ag h=>zAm C el sz ag h ys
 |.bin x ty a b=>qUp (qZy T C x ty ys) (qUp (qV3 C x ys) (qUp (qQF T C (.bin x ty a b) ys) (zAq C x ys)))
 |o=>qQF T C o ys
theorem qUx{T:Tb}(y:TbOk E T)(x:COk σ C){o:TOp}{ys:List Y}{ds:List D}{r:Cx×Y}(hd:qF σ ys ds)(h:qZH T C o ys=some r):yM E σ o ds r:=by
 unfold qZH at h;split at h
 ·exact qQ2 x hd h
 ·exact qU4 x hd h
 ·exact qVB x hd h
 ·exact qQh x hd h
 ·exact qRp x hd h
 ·exact qRG x hd h
 ·exact qQQ x hd h
 ·exact qVU x hd h
 ·exact qT9 x hd h
 ·exact qT2 x hd h
 ·exact qVY x hd h
 ·exact qUK x hd h
 ·unfold zAO at h;split at h
  ·exact qUS x hd h
  cases h
 ·unfold zA7 at h;split at h
  ·simp only[qF]at hd;obtain⟨d,_,rfl,c,i,_,rfl,b,rfl⟩:=hd;exact qSd x c b h
  cases h
 ·rcases qCf h with h|h
  ·exact qUM x hd h
  unfold zAM at h;split at h
  ·exact qUP x hd h
  cases h
 ·rcases qCf h with h|h
  ·exact qUe x hd h
  exact qUf x hd h
 ·exact qUo x hd h
 ·exact qUX x hd h
 ·exact qVZ x hd h
 ·exact qVW x hd h
 ·exact qUF x hd h
 ·unfold zAK at h;split at h
  ·simp only[qF]at hd;subst hd;cases h;exact .same x qKL (by simp only[qL])
  cases h
 ·exact qUN y.m x hd h
 ·exact qUI y.m x hd h
 ·exact qUO y.m x hd h
 ·exact qUL x hd h
 ·exact qVI x hd h
 ·exact qVR x hd h
 ·rcases qCf h with h|h
  ·exact qT4 y x hd h
  rcases qCf h with h|h
  ·exact qSa x hd h
  rcases qCf h with h|h
  ·exact qKe y x hd h
  exact qVX x hd h
 exact qKe y x hd h
end
end Go.Am.Tt
