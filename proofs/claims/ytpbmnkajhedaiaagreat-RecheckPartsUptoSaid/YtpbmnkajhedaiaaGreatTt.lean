/- Spans that are taken out of spans: what is left, and how many. Conditions: none. -/
import Derived.Test.YtpbmnkajhedaiaaGreatUv
set_option linter.all false
namespace Go.Am
open Go
def pd(p:Int×Int):D:=.agg [dI p.1,dI p.2]
def mn(x y:Int):Int:=if y<x then y else x
def mx(x y:Int):Int:=if x<y then y else x
def rt(x y:Int):Bool:=decide (x≥0)&&(decide (x<y)&&decide (y<=86400000))
def wo(s p:Int×Int):List (Int×Int):=
 (if rt p.1 (mn p.2 s.1)=true then[(p.1,mn p.2 s.1)]else[])++(if rt (mx p.1 s.2) p.2=true then[(mx p.1 s.2,p.2)]else[])
def qVc(l:List (Int×Int)):Prop:=l.Pairwise (λp q=>p.2<=q.1)/\∀p∈l,p.1<p.2
theorem qDR{x y:Int}(h:rt x y=true):x<y:=by unfold rt at h;grind
theorem qOT(x y:Int):mn x y<=x/\mn x y<=y:=by unfold mn;split<;>omega
theorem qOR(x y:Int):x<=mx x y/\y<=mx x y:=by unfold mx;split<;>omega
theorem qHP{s p q:Int×Int}(h:q∈wo s p):p.1<=q.1/\q.2<=p.2/\q.1<q.2:=by
 have a:=qOT p.2 s.1;have b:=qOR p.1 s.2;unfold wo at h;rcases List.mem_append.1 h with h|h
 ·split at h
  ·rename_i x;have:=qDR x;grind
  cases h
 split at h
 ·rename_i x;have:=qDR x;grind
 cases h
theorem qMD(s p:Int×Int):(wo s p).length<=1∨(p.1<s.1/\s.2<p.2/\(wo s p).length=2):=by
 have a:=qOT p.2 s.1;have b:=qOR p.1 s.2;unfold wo;by_cases x:rt p.1 (mn p.2 s.1)=true
 ·by_cases h:rt (mx p.1 s.2) p.2=true
  ·right;have:=qDR x;have:=qDR h;grind
  grind
 grind
theorem qVh{s p:Int×Int}(h:s.1<=p.1):(wo s p).length<=1:=by
 rcases qMD s p with x|⟨y,_,_⟩
 ·exact x
 omega
theorem qME{s:Int×Int}:∀{l:List (Int×Int)},(∀q∈l,s.1<=q.1)->(l.flatMap (wo s)).length<=l.length
 | [],_=>vE _
 |p::t,h=>by have:=qVh (s:=s) (p:=p) (h p List.mem_cons_self);have:=qME (s:=s) (l:=t) λq x=>h q (mC _ x);grind
theorem qHQ{s:Int×Int}(b:s.1<s.2):∀{l:List (Int×Int)},qVc l->(l.flatMap (wo s)).length<=l.length+1
 | [],_=>Nat.zero_le _
 |p::t,h=>by
  obtain⟨y,c⟩:=h;rw[List.pairwise_cons]at y;rw[List.flatMap_cons,List.length_append,List.length_cons];rcases qMD s p with i|⟨_,g,e⟩
  ·have:=qHQ b (l:=t) ⟨y.2,λq x=>c q (mC _ x)⟩;omega
  have:=qME (s:=s) (l:=t) λq x=>by have:=y.1 q x;omega
  omega
theorem qVg{s:Int×Int}(k:s.1<s.2){l:List (Int×Int)}(h:qVc l):qVc (l.flatMap (wo s)):=by
 obtain⟨j,r⟩:=h;refine⟨List.pairwise_flatMap.2 ⟨λp _=>?_,j.imp_of_mem ?_⟩,λq c=>?_⟩
 ·have a:=qOT p.2 s.1;have b:=qOR p.1 s.2;unfold wo;split
  ·grind
  split
  ·grind
  exact List.Pairwise.nil
 ·intro p q _ _ i x g y e;have:=qHP g;have:=qHP e;omega
 obtain⟨p,_,c⟩:=List.mem_flatMap.1 c;exact(qHP c).2.2
theorem qRc:qVc []:=⟨List.Pairwise.nil,λ_ h=>by cases h⟩
theorem qRb{p:Int×Int}(h:p.1<p.2):qVc [p]:=⟨List.pairwise_singleton _ _,λq x=>by rw[List.mem_singleton]at x;subst x;exact h⟩
section
variable{E:Env}
theorem qUW{x y:Int}:TOp.eval E (.mm false) [dI x,dI y]=some (dI (mn x y)):=rfl
theorem qUV{x y:Int}:TOp.eval E (.mm true) [dI x,dI y]=some (dI (mx x y)):=rfl
theorem qZT(m:Bool)(x y:Int):∃w:Int,TOp.eval E (.mm m) [dI x,dI y]=some (dI w):=by
 cases m
 ·exact⟨_,qUW⟩
 exact⟨_,qUV⟩
theorem qFn{el:Nat}:TOp.eval E (.lit el 2) []=some (.sl el 2 []):=rfl
theorem qCc{el:Nat}{q:Int×Int}:TOp.eval E (.lit el 2) [pd q]=some (.sl el 2 [pd q]):=rfl
def sp(el:Nat)(l:List (Int×Int)):D:=.sl el 2 (l.map pd)
theorem qUK{el:Nat}{l:List (Int×Int)}(h:l.length<=600000000):xU el 2 (sp el l):=.inr ⟨_,rfl,by rw[List.length_map];unfold zI;omega⟩
theorem qBJ{el:Nat}{l:List (Int×Int)}:TOp.eval E (.len false) [sp el l]=some (dI ((l.length:Nat):Int)):=by show some (D.leaf (goInt (l.map pd).length))=_;rw[List.length_map];rfl
theorem qET{el:Nat}{l:List (Int×Int)}{q:Int×Int}(h:l.length<=600000000):TOp.eval E (.app el 2 16) [sp el l,.sl el 2 [pd q]]=some (sp el (l++[q])):=by
 rw[i9];have x:rH (sp el l)=some l.length:=by show some (l.map pd).length=_;rw[List.length_map]
 rw[x];have y:Nat.ble (Nat.mul (Nat.add (Nat.mul 4 (Nat.add l.length 1)) 4000) (Nat.succ 16)) 100000000000=true:=bL (by show(4*(l.length+1)+4000)*17<=_;omega);refine(oR ?_).trans ?_
 ·show(Nat.ble (Nat.mul (Nat.add (Nat.mul 4 (Nat.add l.length 1)) 4000) (Nat.succ 16)) 100000000000&&_&&_)=true;rw[y];show(Nat.beq el el&&true)=true;rw[Nat.beq_refl];rfl
 show some (D.sl el 2 ((l.map pd)++[pd q]))=some (.sl el 2 ((l++[q]).map pd));rw[List.map_append];rfl
theorem qXV{el:Nat}{x y:Int}:TOp.eval E (.app el 2 16) [sp el [(x,y)],sp el []]=some (sp el [(x,y)]):=by
 rw[i9];have h:rH (sp el [(x,y)])=some 1:=rfl;rw[h];have b:Nat.ble (Nat.mul (Nat.add (Nat.mul 4 (Nat.add 1 0)) 4000) (Nat.succ 16)) 100000000000=true:=bL (by decide);refine(oR ?_).trans ?_
 ·show(Nat.ble (Nat.mul (Nat.add (Nat.mul 4 (Nat.add 1 0)) 4000) (Nat.succ 16)) 100000000000&&_&&_)=true;rw[b];show(Nat.beq el el&&true)=true;rw[Nat.beq_refl];rfl
 rfl
theorem qZy{el i:Nat}{l:List (Int×Int)}{x:Int×Int}(h:l[i]? = some x):(sp el l).es[((i:Nat):Int).toNat]? = some (pd x):=by show(l.map pd)[i]? = _;rw[List.getElem?_map,h];rfl
end
end Go.Am
namespace Go.Am.Tt
open Go Go.Am
def kF:D->Int
 |.leaf (.int _ n)=>n
 |.leaf (.string s)=>(s.size:Int)
 |d=>(d.es.length:Int)
def aN:List Nat->D->D
 | [],d=>d
 |i::r,d=>aN r (match d with|.agg cs=>getD cs i|_=>.nil)
inductive Pt where
 |z
 |aT(p:List Nat)
 |el (p q:List Nat) (f:Nat)
def qIR(f:Nat):D->D
 |.agg cs=>getD cs f
 |d=>d
def qI2(d i:D):D:=d.es.getD (kF i).toNat .nil
def qEW(ds:List D):Pt->Int
 |.z=>0
 |.aT p=>kF (aN p (.agg ds))
 |.el p q f=>kF (qIR f (qI2 (aN p (.agg ds)) (aN q (.agg ds))))
abbrev Cn:=Pt×Pt×Int
def qAS(ds:List D)(q:Cn):Prop:=qEW ds q.1<=qEW ds q.2.1+q.2.2
def qD5:List Nat->List Nat->Bool
 | [],[]=>true
 |a::r,b::s=>Nat.beq a b&&qD5 r s
 |_,_=>false
theorem sW:∀{a b:List Nat},qD5 a b=true->a=b
 | [],[],_=>rfl
 | [],_::_,h=>by cases h
 |_::_,[],h=>by cases h
 |a::r,b::s,h=>by simp only[qD5,zR]at h;rw[vP h.1,sW h.2]
def Pt.eqb:Pt->Pt->Bool
 |.z,.z=>true
 |.aT p,.aT q=>qD5 p q
 |.el p q f,.el h q' x=>qD5 p h&&(qD5 q q'&&Nat.beq f x)
 |_,_=>false
theorem Pt.eqb_ok{a b:Pt}(h:a.eqb b=true):a=b:=by
 cases a<;>cases b<;>simp only[Pt.eqb]at h<;>first|rfl|(cases h;done)|skip
 ·rw[sW h]
 simp only[zR]at h;rw[sW h.1,sW h.2.1,vP h.2.2]
def zD0(a b:Cn):Bool:=a.1.eqb b.1&&(a.2.1.eqb b.2.1&&decide (a.2.2=b.2.2))
theorem qXA{a b:Cn}(h:zD0 a b=true):a=b:=by obtain⟨p,q,c⟩:=a;obtain⟨x,q',y⟩:=b;simp only[zD0,zR,decide_eq_true_eq]at h;rw[Pt.eqb_ok h.1,Pt.eqb_ok h.2.1,h.2.2]
inductive Sn where
 |int (k:IntKind)
 |bool
 |str (n:Nat)
 |st (fs:List Sn)
 |sl (el sz n:Nat) (e:Sn)
 |any
 |ptr (fs:List Sn)
 |clo (f:Nat) (a c:List Sn)
 |mp (k:Option IntKind) (e:Sn)
 |wh (s:Sn) (q:List Cn)
def qLL:Option IntKind->Value->Prop
 |none,v=>∃s,v=.string s
 |some k,v=>∃n,v=.int k n
mutual
def qM:Sn->D->Prop
 |.int k,d=>∃n,d=.leaf (.int k n)
 |.bool,d=>∃b,d=.leaf (.bool b)
 |.str n,d=>∃s,d=.leaf (.string s)/\s.size<=n
 |.st fs,d=>∃cs,d=.agg cs/\qU fs cs
 |.sl el sz n e,d=>d=.nil∨∃es,d=.sl el sz es/\es.length<=n/\∀x∈es,qM e x
 |.any,_=>True
 |.ptr fs,d=>∃cs,d=.ptr cs 0/\qU fs cs
 |.clo f a c,d=>∃azq cs,d=.clo (.func f) azq cs/\qU a azq/\qU c cs
 |.mp k e,d=>∃h ds,d=.mp h ds/\h.length=ds.length/\(∀v∈h,qLL k v)/\∀x∈ds,qM e x
 |.wh s q,d=>qM s d/\∀c∈q,qAS [d] c
def qU:List Sn->List D->Prop
 | [],l=>l=[]
 |s::ss,l=>∃d ds,l=d::ds/\qM s d/\qU ss ds
end
mutual
def Sn.fits:Sn->Sn->Bool
 |.int k,.int k'=>decide (k=k')
 |.bool,.bool=>true
 |.str n,.str m=>Nat.ble n m
 |.st fs,.st gs=>Sn.fitss fs gs
 |.sl el sz n e,.sl vK h m e'=>Nat.beq el vK&&Nat.beq sz h&&Nat.ble n m&&Sn.fits e e'
 |.ptr fs,.ptr gs=>Sn.fitss fs gs
 |.clo f a c,.clo x b y=>Nat.beq f x&&(Sn.fitss a b&&Sn.fitss c y)
 |.mp k e,.mp k' e'=>decide (k=k')&&Sn.fits e e'
 |.wh s q,.wh t q'=>Sn.fits s t&&q'.all λc=>q.any (zD0 c)
 |.wh s _,t=>Sn.fits s t
 |_,_=>false
def Sn.fitss:List Sn->List Sn->Bool
 | [],[]=>true
 |a::l,b::m=>Sn.fits a b&&Sn.fitss l m
 |_,_=>false
end
mutual
theorem yD:∀{s t:Sn} {d:D},Sn.fits s t=true->qM s d->qM t d
 |.int k,t,d,h,hd=>by
  cases t<;>simp only[Sn.fits]at h<;>first|(cases h;done)|skip
  grind
 |.bool,t,d,h,hd=>by
  cases t<;>simp only[Sn.fits]at h<;>first|(cases h;done)|skip
  exact hd
 |.str n,t,d,h,hd=>by
  cases t<;>simp only[Sn.fits]at h<;>first|(cases h;done)|skip
  simp only[qM]at hd ⊢;obtain⟨s,rfl,hs⟩:=hd;exact⟨s,rfl,lT hs (oK h)⟩
 |.st fs,t,d,h,hd=>by
  cases t<;>simp only[Sn.fits]at h<;>first|(cases h;done)|skip
  simp only[qM]at hd ⊢;obtain⟨cs,rfl,hs⟩:=hd;exact⟨cs,rfl,eA h hs⟩
 |.sl el sz n e,t,d,h,hd=>by
  cases t<;>simp only[Sn.fits]at h<;>first|(cases h;done)|skip
  simp only[zR]at h;obtain⟨⟨⟨g,b⟩,z⟩,w⟩:=h;have g:=vP g;have b:=vP b;subst g b;simp only[qM]at hd ⊢;rcases hd with rfl|⟨es,rfl,j,y⟩
  ·exact .inl rfl
  exact .inr ⟨es,rfl,lT j (oK z),λx i=>yD w (y x i)⟩
 |.any,t,d,h,hd=>by cases t<;>simp only[Sn.fits]at h<;>cases h
 |.ptr fs,t,d,h,hd=>by
  cases t<;>simp only[Sn.fits]at h<;>first|(cases h;done)|skip
  simp only[qM]at hd ⊢;obtain⟨cs,rfl,hs⟩:=hd;exact⟨cs,rfl,eA h hs⟩
 |.clo f a c,t,d,h,hd=>by
  cases t<;>simp only[Sn.fits]at h<;>first|(cases h;done)|skip
  simp only[zR]at h;have g:=vP h.1;subst g;simp only[qM]at hd ⊢;obtain⟨azq,cs,rfl,y,p⟩:=hd;exact⟨azq,cs,rfl,eA h.2.1 y,eA h.2.2 p⟩
 |.mp k e,t,d,h,hd=>by
  cases t<;>simp only[Sn.fits]at h<;>first|(cases h;done)|skip
  simp only[zR,decide_eq_true_eq]at h;obtain⟨rfl,b⟩:=h;simp only[qM]at hd ⊢;obtain⟨r,ds,rfl,j,u,y⟩:=hd;exact⟨r,ds,rfl,j,u,λx i=>yD b (y x i)⟩
 |.wh s q,t,d,h,hd=>by
  simp only[qM]at hd;cases t;case wh t q'=>simp only[Sn.fits,zR]at h;simp only[qM];refine⟨yD h.1 hd.1,λc p=>?_⟩;obtain⟨A,l,e⟩:=List.any_eq_true.1 (List.all_eq_true.1 h.2 c p);rw[qXA e];exact hd.2 A l
  all_goals simp only[Sn.fits]at h;exact yD h hd.1
theorem eA:∀{ss ts:List Sn} {ds:List D},Sn.fitss ss ts=true->qU ss ds->qU ts ds
 | [],ts,ds,h,hd=>by
  cases ts<;>simp only[Sn.fitss]at h<;>first|(cases h;done)|skip
  exact hd
 |s::ss,ts,ds,h,hd=>by
  cases ts<;>simp only[Sn.fitss]at h<;>first|(cases h;done)|skip
  simp only[zR]at h;simp only[qU]at hd ⊢;obtain⟨d,r,rfl,y,x⟩:=hd;exact⟨d,r,rfl,yD h.1 y,eA h.2 x⟩
end
abbrev Wd:=List (Int×D)
abbrev jL:=Nat×Nat×Int
def aF(σ:Wd)(q:jL):Prop:=∃x y,σ[q.1]? = some x/\σ[q.2.1]? = some y/\x.1<=y.1+q.2.2
def zBB(σ:Wd)(q:Nat×Nat):Prop:=∃x,σ[q.1]? = some x/\0<=x.1/\x.1<=(q.2:Int)
inductive Y where
 |int (k:IntKind) (v:Nat) (c:Int)
 |bool (t f:List jL)
 |str (n b:Nat)
 |sl (n el sz b:Nat) (e:Sn)
 |st (cs:List Y)
 |nil
 |clo (f:Nat) (a c:List Y)
 |tup (cs:List Y)
 |any
 |ptr (cs:List Y) (off:Nat)
 |mp (k:Option IntKind) (e:Sn)
 |mp0
mutual
def qK(σ:Wd):Y->D->Prop
 |.int k v c,d=>∃x,σ[v]? = some x/\d=.leaf (.int k (x.1+c))
 |.bool t f,d=>∃b,d=.leaf (.bool b)/\(b=true->∀q∈t,aF σ q)/\(b=false->∀q∈f,aF σ q)
 |.str n b,d=>∃s x,d=.leaf (.string s)/\σ[n]? = some x/\x.1=(s.size:Int)/\s.size<=b
 |.sl n el sz b e,d=>σ[n]? = some ((d.es.length:Int),d)/\qM (.sl el sz b e) d
 |.st cs,d=>∃ds,d=.agg ds/\qG σ cs ds
 |.nil,d=>d=.nil
 |.clo f a c,d=>∃azq cs,d=.clo (.func f) azq cs/\qG σ a azq/\qG σ c cs
 |.tup cs,d=>∃ds,d=.tup ds/\qG σ cs ds
 |.any,_=>True
 |.ptr cs off,d=>∃ds,d=.ptr ds off/\qG σ cs ds
 |.mp k e,d=>qM (.mp k e) d
 |.mp0,d=>d=.mp [] []
def qG(σ:Wd):List Y->List D->Prop
 | [],l=>l=[]
 |y::ys,l=>∃d ds,l=d::ds/\qK σ y d/\qG σ ys ds
end
theorem zJ{σ τ:Wd}{n:Nat}{x:Int×D}(h:σ[n]? = some x):(σ++τ)[n]? = some x:=by grind
theorem qFy{σ τ:Wd}{q:jL}(h:aF σ q):aF (σ++τ) q:=by obtain⟨x,y,e,c,b⟩:=h;exact⟨x,y,zJ e,zJ c,b⟩
theorem qS1{σ τ:Wd}{q:Nat×Nat}(h:zBB σ q):zBB (σ++τ) q:=by obtain⟨x,b,y⟩:=h;exact⟨x,zJ b,y⟩
mutual
theorem nK{σ τ:Wd}:∀{y:Y} {d:D},qK σ y d->qK (σ++τ) y d
 |.int k v c,d,h=>by simp only[qK]at h ⊢;grind
 |.bool t f,d,h=>by simp only[qK]at h ⊢;obtain⟨b,g,x,l⟩:=h;exact⟨b,g,λj q i=>qFy (x j q i),λj q i=>qFy (l j q i)⟩
 |.str n b,d,h=>by simp only[qK]at h ⊢;grind
 |.sl n el sz b e,d,h=>by simp only[qK]at h ⊢;exact⟨zJ h.1,h.2⟩
 |.st cs,d,h=>by simp only[qK]at h ⊢;obtain⟨ds,g,x⟩:=h;exact⟨ds,g,zB x⟩
 |.nil,d,h=>by simp only[qK]at h ⊢;exact h
 |.clo f a c,d,h=>by simp only[qK]at h ⊢;obtain⟨azq,cs,g,x,l⟩:=h;exact⟨azq,cs,g,zB x,zB l⟩
 |.ptr cs off,d,h=>by simp only[qK]at h ⊢;obtain⟨ds,g,x⟩:=h;exact⟨ds,g,zB x⟩
 |.mp k e,d,h=>by simp only[qK]at h ⊢;exact h
 |.mp0,d,h=>by simp only[qK]at h ⊢;exact h
 |.tup cs,d,h=>by simp only[qK]at h ⊢;obtain⟨ds,g,x⟩:=h;exact⟨ds,g,zB x⟩
 |.any,d,h=>by simp only[qK]
theorem zB{σ τ:Wd}:∀{ys:List Y} {ds:List D},qG σ ys ds->qG (σ++τ) ys ds
 | [],ds,h=>by simp only[qG]at h ⊢;exact h
 |y::ys,ds,h=>by simp only[qG]at h ⊢;obtain⟨d,r,c,b,x⟩:=h;exact⟨d,r,c,nK b,zB x⟩
end
def qZ1:Int->Int->Bool
 |.ofNat a,.ofNat b=>Nat.ble a b
 |.negSucc a,.negSucc b=>Nat.ble b a
 |.negSucc _,.ofNat _=>true
 |.ofNat _,.negSucc _=>false
theorem qIB:∀{a b:Int},qZ1 a b=true->a<=b
 |.ofNat a,.ofNat b,h=>by have:=oK h;show(a:Int)<=(b:Int);omega
 |.negSucc a,.negSucc b,h=>by have:=oK h;omega
 |.negSucc a,.ofNat b,_=>by show Int.negSucc a<=(b:Int);omega
 |.ofNat _,.negSucc _,h=>by cases h
def cV:List (Nat×Int)->Nat->Option Int
 | [],_=>none
 |(w,d)::r,u=>bif Nat.beq w u then some d else cV r u
def qX0(acc:List (Nat×Int))(w:Nat)(d:Int):List (Nat×Int):=match cV acc w with
 |some h=>bif qZ1 h d then acc else(w,d)::acc
 |none=>(w,d)::acc
def qN0(q:jL)(acc:List (Nat×Int)):List (Nat×Int):=match cV acc q.1 with
 |some d=>qX0 acc q.2.1 (Int.add d q.2.2)
 |none=>acc
def gY:List jL->List (Nat×Int)->List (Nat×Int)
 | [],acc=>acc
 |q::r,acc=>gY r (qN0 q acc)
def qI7(F:List jL):Nat->List (Nat×Int)->List (Nat×Int)
 |0,acc=>acc
 |n+1,acc=>qI7 F n (gY F acc)
def qQS(σ:Wd)(a:Nat)(acc:List (Nat×Int)):Prop:=∀p∈acc,aF σ (a,p.1,p.2)
theorem uR{acc:List (Nat×Int)}{u:Nat}{d:Int}(h:cV acc u=some d):(u,d)∈acc:=by
 induction acc with
 |nil=>cases h
 |cons p r y=>
  obtain⟨w,e⟩:=p;simp only[cV]at h;cases x:Nat.beq w u with
  |true=>rw[x]at h;have:=vP x;subst this;cases h;exact List.mem_cons_self
  |false=>rw[x]at h;exact mC _ (y h)
theorem qS7{σ:Wd}{a w:Nat}{d:Int}{acc:List (Nat×Int)}(h:qQS σ a acc)(hd:aF σ (a,w,d)):qQS σ a (qX0 acc w d):=by
 have y:qQS σ a ((w,d)::acc):=λp x=>by
  rcases List.mem_cons.1 x with rfl|x
  ·exact hd
  exact h p x
 unfold qX0;grind
theorem qLZ{σ:Wd}{a u v:Nat}{c d:Int}(j:aF σ (a,u,d))(i:aF σ (u,v,c)):aF σ (a,v,d+c):=by obtain⟨x,y,b,hu,g⟩:=j;obtain⟨k,z,h,hv,e⟩:=i;simp only at b hu g h hv e;rw[hu]at h;cases h;exact⟨x,z,b,hv,by simp only;omega⟩
theorem qNZ{σ:Wd}{a:Nat}{q:jL}{acc:List (Nat×Int)}(x:aF σ q)(h:qQS σ a acc):qQS σ a (qN0 q acc):=by
 unfold qN0;split
 ·rename_i d hd;exact qS7 h (qLZ (h _ (uR hd)) x)
 exact h
theorem qDS{σ:Wd}{a:Nat}:∀(F:List jL) (acc:List (Nat×Int)),(∀q∈F,aF σ q)->qQS σ a acc->qQS σ a (gY F acc)
 | [],_,_,h=>h
 |q::r,acc,y,h=>by unfold gY;exact qDS r _ (λx b=>y x (mC _ b)) (qNZ (y q List.mem_cons_self) h)
def qS4(acc:List (Nat×Int))(h:Int):List (Nat×Nat)->Bool
 | []=>false
 |(w,m)::r=>(match cV acc w with
  |some d=>qZ1 (Int.add d (Int.ofNat m)) h
  |none=>false)||qS4 acc h r
def qX9(L:List (Nat×Nat))(acc:List (Nat×Int))(b:Nat)(h:Int):Bool:=
 (match cV acc b with
 |some d=>qZ1 d h
 |none=>false)||(Nat.beq b 0&&qS4 acc h L)
def qJJ(F:List jL)(L:List (Nat×Nat))(b:Nat)(h:Int):Nat->List (Nat×Int)->Bool
 |0,acc=>qX9 L acc b h
 |n+1,acc=>qX9 L acc b h||qJJ F L b h n (gY F acc)
def qFW:List (Nat×Nat)->List (Nat×Int)
 | []=>[]
 |(w,_)::r=>(w,0)::qFW r
def qI1(n:Nat)(F:List jL)(L:List (Nat×Nat))(a:Nat)(x:Int)(b:Nat)(h:Int):Bool:=
 bif Nat.beq a b then qZ1 x h else qJJ F L b (Int.sub h x) n (bif Nat.beq a 0 then(0,0)::qFW L else[(a,0)])
abbrev yN:=qI1 4
structure qYg (σ:Wd) (F:List jL) (L:List (Nat×Nat)):Prop where
 z:∃d,σ[0]? = some (0,d)
 f:∀q∈F,aF σ q
 l:∀q∈L,zBB σ q
theorem qKU{acc:List (Nat×Int)}{x:Int}:∀{L:List (Nat×Nat)},qS4 acc x L=true->∃p∈L,∃d,cV acc p.1=some d/\d+(p.2:Int)<=x
 | [],h=>by cases h
 | (w,m)::r,h=>by
  simp only[qS4]at h;rcases Bool.or_eq_true_iff.1 h with h|h
  ·split at h
   ·rename_i d hd;exact⟨_,List.mem_cons_self,d,hd,qIB h⟩
   cases h
  obtain⟨p,y,q⟩:=qKU h;grind
theorem qDF{p:Nat×Int}:∀{L:List (Nat×Nat)},p∈qFW L->∃q∈L,p=(q.1,0)
 | [],h=>by cases h
 |(w,m)::r,h=>by
  simp only[qFW]at h;rcases List.mem_cons.1 h with rfl|h
  ·simp_all
  obtain⟨q,x,e⟩:=qDF h;grind
theorem qOe{σ:Wd}{F:List jL}{L:List (Nat×Nat)}(k:qYg σ F L){a b:Nat}{g:Int}{x y:Int×D}(A:σ[a]? = some x)(w:σ[b]? = some y):∀(n:Nat) (acc:List (Nat×Int)),qQS σ a acc->qJJ F L b g n acc=true->x.1<=y.1+g:=by
 have one:∀acc,qQS σ a acc->qX9 L acc b g=true->x.1<=y.1+g:=by
  intro acc c h;unfold qX9 at h;rcases Bool.or_eq_true_iff.1 h with h|h
  ·split at h
   ·rename_i d hd;obtain⟨r,q,j,i,l⟩:=c _ (uR hd);simp only at j i l;rw[A]at j;rw[w]at i;cases j;cases i;have:=qIB h;omega
   cases h
  rw[zR]at h;have B:=vP h.1;subst B;obtain⟨p,u,d,hd,hle⟩:=qKU h.2;obtain⟨r,q,j,i,l⟩:=c _ (uR hd);obtain⟨z,I,_,H⟩:=k.l p u;obtain⟨e,G⟩:=k.z;grind
 intro n;induction n with
 |zero=>intro acc c h;exact one acc c h
 |succ n t=>
  intro acc c h;simp only[qJJ]at h;rcases Bool.or_eq_true_iff.1 h with h|h
  ·exact one acc c h
  exact t _ (qDS F acc k.f c) h
theorem qFB{n:Nat}{σ:Wd}{F:List jL}{L:List (Nat×Nat)}(i:qYg σ F L){a b:Nat}{l k:Int}(h:qI1 n F L a l b k=true){x y:Int×D}(g:σ[a]? = some x)(j:σ[b]? = some y):x.1+l<=y.1+k:=by
 unfold qI1 at h;cases c:Nat.beq a b with
 |true=>rw[c]at h;have:=vP c;subst this;rw[g]at j;cases j;have:=qIB h;omega
 | false=>
  rw[c]at h;simp only[cond_false]at h;have t:qQS σ a (bif Nat.beq a 0 then(0,0)::qFW L else[(a,0)]):=by
   cases w:Nat.beq a 0 with
   |true=>
    have:=vP w;subst this;obtain⟨d,hd⟩:=i.z;intro p e;rcases List.mem_cons.1 e with rfl|e
    ·exact⟨_,_,hd,hd,by simp⟩
    obtain⟨q,r,rfl⟩:=qDF e;obtain⟨z,u,A,_⟩:=i.l q r;exact⟨_,_,hd,u,by simp only;omega⟩
   |false=>intro p e;rw[cond_false,List.mem_singleton]at e;subst e;exact⟨_,_,g,g,by simp⟩
  have:=qOe i g j n _ t h;grind
theorem vI{σ:Wd}{F:List jL}{L:List (Nat×Nat)}(g:qYg σ F L){a b:Nat}{e c:Int}(h:yN F L a e b c=true){x y:Int×D}(j:σ[a]? = some x)(i:σ[b]? = some y):x.1+e<=y.1+c:=qFB g h j i
structure El where
 n:Nat
 v:Nat
 c:Int
 y:Y
structure Cx where
 F:List jL
 L:List (Nat×Nat)
 els:List El
 nx:Nat
def Cx.add(C:Cx)(F:List jL)(L:List (Nat×Nat))(els:List El)(k:Nat):Cx:=⟨F++C.F,L++C.L,els++C.els,Nat.add C.nx k⟩
def qL5(σ:Wd)(e:El):Prop:=∃x d i z,σ[e.n]? = some (x,d)/\σ[e.v]? = some i/\0<=i.1+e.c/\d.es[(i.1+e.c).toNat]? = some z/\qK σ e.y z
theorem qPN{σ τ:Wd}{e:El}(h:qL5 σ e):qL5 (σ++τ) e:=by obtain⟨x,d,i,z,j,g,c,b,y⟩:=h;exact⟨x,d,i,z,zJ j,zJ g,c,b,nK y⟩
structure COk (σ:Wd) (C:Cx):Prop where
 s:qYg σ C.F C.L
 e:∀e∈C.els,qL5 σ e
 n:σ.length=C.nx
theorem COk.ext{σ τ:Wd}{C:Cx}(h:COk σ C){F:List jL}{L:List (Nat×Nat)}{els:List El}{k:Nat}(b:∀q∈F,aF (σ++τ) q)(hL:∀q∈L,zBB (σ++τ) q)(c:∀q∈els,qL5 (σ++τ) q)(y:τ.length=k):COk (σ++τ) (C.add F L els k):=by
 refine⟨⟨?_,λq x=>?_,λq x=>?_⟩,λq x=>?_,?_⟩
 ·obtain⟨d,hd⟩:=h.s.z;exact⟨d,zJ hd⟩
 ·rcases List.mem_append.1 x with x|x
  ·exact b q x
  exact qFy (h.s.f q x)
 ·rcases List.mem_append.1 x with x|x
  ·exact hL q x
  exact qS1 (h.s.l q x)
 ·rcases List.mem_append.1 x with x|x
  ·exact c q x
  exact qPN (h.e q x)
 show(σ++τ).length=C.nx+k;rw[List.length_append,h.n,y]
theorem COk.facts{σ:Wd}{C:Cx}(h:COk σ C){F:List jL}(x:∀q∈F,aF σ q):COk σ (C.add F [] [] 0):=by have:=h.ext (τ:=[]) (F:=F) (L:=[]) (els:=[]) (k:=0) (by simpa using x) (by simp) (by simp) rfl;simpa using this
theorem get_new{σ:Wd}{C:Cx}(h:COk σ C)(x:Int×D):(σ++[x])[C.nx]? = some x:=by rw[←h.n];simp
theorem getD_some{ρ:List D}{i:Nat}{d:D}(h:ρ[i]? = some d):getD ρ i=d:=by unfold getD;grind
theorem gL{σ:Wd}:∀{ys:List Y} {ds:List D} {i:Nat} {y:Y},qG σ ys ds->ys[i]? = some y->∃d,ds[i]? = some d/\qK σ y d
 | [],ds,i,y,h,x=>by simp at x
 |z::ys,ds,i,y,h,x=>by
  simp only[qG]at h;obtain⟨d,r,rfl,c,b⟩:=h;cases i with
  |zero=>simp only[List.getElem?_cons_zero,oI]at x;subst x;exact⟨d,by simp,c⟩
  |succ i=>simp only[List.getElem?_cons_succ]at x ⊢;exact gL b x
def qML:Y->Option (Nat×Int)
 |.int _ v c=>some (v,c)
 |.sl n _ _ _ _=>some (n,0)
 |.str n _=>some (n,0)
 |.nil=>some (0,0)
 |_=>none
theorem qEM{σ:Wd}{C:Cx}(i:COk σ C){y:Y}{d:D}{v:Nat}{c:Int}(hd:qK σ y d)(h:qML y=some (v,c)):∃x,σ[v]? = some x/\kF d=x.1+c:=by
 obtain⟨z,g⟩:=i.s.z;cases y<;>simp only[qML]at h<;>first|(cases h;done)|cases h
 ·simp only[qK]at hd;obtain⟨x,b,rfl⟩:=hd;exact⟨x,b,rfl⟩
 ·simp only[qK]at hd;obtain⟨s,x,rfl,b,hs,_⟩:=hd;exact⟨x,b,by show(s.size:Int)=_;omega⟩
 ·simp only[qK]at hd;refine⟨_,hd.1,?_⟩;have e:=hd.2;simp only[qM]at e;rcases e with rfl|⟨es,rfl,_⟩
  ·show(0:Int)=_;simp[D.es]
  show((es.length:Nat):Int)=_;simp[D.es]
 simp only[qK]at hd;subst hd;exact⟨_,g,by show((D.nil.es.length:Nat):Int)=_;simp[D.es]⟩
def fW:List Nat->Y->Option Y
 | [],y=>some y
 |i::r,.st cs=>match cs[i]? with
  |some y=>fW r y
  |none=>none
 |_::_,_=>none
theorem nD{σ:Wd}:∀{p:List Nat} {y x:Y} {d:D},qK σ y d->fW p y=some x->qK σ x (aN p d)
 | [],y,x,d,hd,h=>by simp only[fW]at h;cases h;exact hd
 |i::r,y,x,d,hd,h=>by
  cases y<;>simp only[fW]at h<;>first|(cases h;done)|skip
  simp only[qK]at hd;obtain⟨ds,rfl,hs⟩:=hd;split at h
  ·rename_i q b;obtain⟨e,he,hr⟩:=gL hs b;simp only[aN,getD_some he];exact nD hr h
  cases h
def qId(ys:List Y):Pt->Option (Nat×Int)
 |.z=>some (0,0)
 |.aT p=>match fW p (.st ys)with
  |some y=>qML y
  |none=>none
 |.el _ _ _=>none
theorem qA9{σ:Wd}{C:Cx}(e:COk σ C){ys:List Y}{ds:List D}{p:Pt}{v:Nat}{c:Int}(hd:qG σ ys ds)(h:qId ys p=some (v,c)):∃x,σ[v]? = some x/\qEW ds p=x.1+c:=by
 obtain⟨z,g⟩:=e.s.z;have b:qK σ (.st ys) (.agg ds):=by simp only[qK];exact⟨ds,rfl,hd⟩
 cases p with
 |z=>simp only[qId]at h;cases h;exact⟨_,g,by simp[qEW]⟩
 | aT p=>
  simp only[qId]at h;split at h
  ·rename_i y i;exact qEM e (nD b i) h
  cases h
 |el p q f=>cases h
def qPz(ys:List Y)(q:Cn):List jL:=match qId ys q.1,qId ys q.2.1 with
 |some (v,c),some (w,e)=>[(v,w,e+q.2.2-c)]
 |_,_=>[]
theorem qPy{σ:Wd}{C:Cx}(g:COk σ C){ys:List Y}{ds:List D}{l:List Cn}(hd:qG σ ys ds)(h:∀q∈l,qAS ds q):∀f∈l.flatMap (qPz ys),aF σ f:=by
 intro f b;obtain⟨q,k,b⟩:=List.mem_flatMap.1 b;unfold qPz at b;split at b
 ·rename_i v c w e r p;obtain⟨x,j,u⟩:=qA9 g hd r;obtain⟨y,i,t⟩:=qA9 g hd p;have:=h q k;unfold qAS at this;rw[List.mem_singleton]at b;subst b;exact⟨x,y,j,i,by simp only;omega⟩
 cases b
def qKH(C:Cx)(ys:List Y)(q:Cn):Bool:=match qId ys q.1,qId ys q.2.1 with
 |some (v,c),some (w,e)=>yN C.F C.L v c w (e+q.2.2)
 |_,_=>false
theorem qQn{σ:Wd}{C:Cx}(b:COk σ C){ys:List Y}{ds:List D}{q:Cn}(hd:qG σ ys ds)(h:qKH C ys q=true):qAS ds q:=by
 unfold qKH at h;split at h
 ·rename_i v c w e k j;obtain⟨x,i,p⟩:=qA9 b hd k;obtain⟨y,g,l⟩:=qA9 b hd j;have:=vI b.s h i g;unfold qAS;omega
 cases h
mutual
def fresh:Sn->Cx->Cx×Y
 |.int k,C=>(C.add [] [] [] 1,.int k C.nx 0)
 |.bool,C=>(C,.bool [] [])
 |.str b,C=>(C.add [] [(C.nx,b)] [] 1,.str C.nx b)
 |.st fs,C=>((wK fs C).1,.st (wK fs C).2)
 |.sl el sz b e,C=>(C.add [] [(C.nx,b)] [] 1,.sl C.nx el sz b e)
 |.any,C=>(C,.any)
 |.ptr fs,C=>((wK fs C).1,.ptr (wK fs C).2 0)
 |.clo f a c,C=>((wK c (wK a C).1).1,.clo f (wK a C).2 (wK c (wK a C).1).2)
 |.mp k e,C=>(C,.mp k e)
 |.wh s q,C=>((fresh s C).1.add (q.flatMap (qPz [(fresh s C).2])) [] [] 0,(fresh s C).2)
def wK:List Sn->Cx->Cx×List Y
 | [],C=>(C,[])
 |s::r,C=>((wK r (fresh s C).1).1,(fresh s C).2::(wK r (fresh s C).1).2)
end
theorem kM{σ:Wd}{C:Cx}(h:COk σ C):COk (σ++[]) C:=by rw[List.append_nil];exact h
mutual
theorem d8:∀{s:Sn} {d:D} {σ:Wd} {C:Cx},qM s d->COk σ C->∃τ,COk (σ++τ) (fresh s C).1/\qK (σ++τ) (fresh s C).2 d
 |.int k,d,σ,C,h,x=>by simp only[qM]at h;obtain⟨n,rfl⟩:=h;refine⟨[(n,.nil)],x.ext (by simp) (by simp) (by simp) rfl,?_⟩;simp only[fresh,qK];exact⟨_,get_new x _,by simp⟩
 |.bool,d,σ,C,h,x=>by simp only[qM]at h;obtain⟨b,rfl⟩:=h;refine⟨[],kM x,?_⟩;simp only[fresh,qK];simp_all
 |.str b,d,σ,C,h,x=>by
  simp only[qM]at h;obtain⟨s,rfl,hs⟩:=h;refine⟨[((s.size:Int),.nil)],x.ext (by simp) (λq i=>?_) (by simp) rfl,?_⟩
  ·rw[List.mem_singleton]at i;subst i;exact⟨_,get_new x _,by simp,by simp;omega⟩
  simp only[fresh,qK];exact⟨s,_,rfl,get_new x _,rfl,hs⟩
 |.st fs,d,σ,C,h,x=>by simp only[qM]at h;obtain⟨cs,rfl,hs⟩:=h;obtain⟨τ,g,y⟩:=kJ hs x;refine⟨τ,g,?_⟩;simp only[fresh,qK];exact⟨cs,rfl,y⟩
 | .sl el sz b e,d,σ,C,h,x=>by
  have u:d.es.length<=b:=by
   simp only[qM]at h;rcases h with rfl|⟨es,rfl,h,_⟩
   ·exact Nat.zero_le _
   exact h
  refine⟨[((d.es.length:Int),d)],x.ext (by simp) (λq i=>?_) (by simp) rfl,?_⟩
  ·rw[List.mem_singleton]at i;subst i;exact⟨_,get_new x _,by simp,by simp;omega⟩
  simp only[fresh,qK];exact⟨get_new x _,h⟩
 |.any,d,σ,C,h,x=>by refine⟨[],kM x,?_⟩;simp only[fresh,qK]
 |.ptr fs,d,σ,C,h,x=>by simp only[qM]at h;obtain⟨cs,rfl,hs⟩:=h;obtain⟨τ,g,y⟩:=kJ hs x;refine⟨τ,g,?_⟩;simp only[fresh,qK];exact⟨cs,rfl,y⟩
 |.clo f a c,d,σ,C,h,x=>by simp only[qM]at h;obtain⟨azq,cs,rfl,p,l⟩:=h;obtain⟨τ,g,y⟩:=kJ p x;obtain⟨j,t,r⟩:=kJ l g;refine⟨τ++j,by rw[←List.append_assoc];exact t,?_⟩;simp only[fresh,qK];exact⟨azq,cs,rfl,by rw[←List.append_assoc];exact zB y,by rw[←List.append_assoc];exact r⟩
 |.mp k e,d,σ,C,h,x=>by refine⟨[],kM x,?_⟩;simp only[fresh,qK];exact h
 |.wh s q,d,σ,C,h,x=>by simp only[qM]at h;obtain⟨τ,g,y⟩:=d8 h.1 x;exact⟨τ,g.facts (qPy g (by simp only[qG];exact⟨d,[],rfl,y,rfl⟩) h.2),y⟩
theorem kJ:∀{ss:List Sn} {ds:List D} {σ:Wd} {C:Cx},qU ss ds->COk σ C->∃τ,COk (σ++τ) (wK ss C).1/\qG (σ++τ) (wK ss C).2 ds
 | [],ds,σ,C,h,y=>by simp only[qU]at h;refine⟨[],kM y,?_⟩;simp only[wK,qG];exact h
 |s::r,ds,σ,C,h,y=>by simp only[qU]at h;obtain⟨d,b,rfl,e,c⟩:=h;obtain⟨τ,a1,a2⟩:=d8 e y;obtain⟨x,i,g⟩:=kJ c a1;refine⟨τ++x,by rw[←List.append_assoc];exact i,?_⟩;simp only[wK,qG];exact⟨d,b,rfl,by rw[←List.append_assoc];exact nK a2,by rw[←List.append_assoc];exact g⟩
end
mutual
def nV(C:Cx):Y->Sn->Bool
 |_,.any=>true
 |y,.wh s q=>nV C y s&&q.all (qKH C [y])
 |.int k _ _,.int k'=>decide (k=k')
 |.bool _ _,.bool=>true
 |.str n b,.str m=>Nat.ble b m||yN C.F C.L n 0 0 m
 |.st cs,.st fs=>gS C cs fs
 |.sl n el sz b e,.sl vK h m e'=>Nat.beq el vK&&Nat.beq sz h&&e.fits e'&&(Nat.ble b m||yN C.F C.L n 0 0 m)
 |.nil,.sl _ _ _ _=>true
 |.ptr cs off,.ptr fs=>Nat.beq off 0&&gS C cs fs
 |.clo f a c,.clo x i g=>Nat.beq f x&&(gS C a i&&gS C c g)
 |.mp k e,.mp k' e'=>decide (k=k')&&e.fits e'
 |.mp0,.mp _ _=>true
 |_,_=>false
def gS(C:Cx):List Y->List Sn->Bool
 | [],[]=>true
 |y::ys,s::ss=>nV C y s&&gS C ys ss
 |_,_=>false
end
theorem tO{σ:Wd}{C:Cx}(y:COk σ C){n m:Nat}{x:Int×D}(c:σ[n]? = some x)(h:yN C.F C.L n 0 0 (m:Int)=true):x.1<=(m:Int):=by obtain⟨z,b⟩:=y.s.z;have:=vI y.s h c b;simpa using this
mutual
theorem pJ{σ:Wd}{C:Cx}(i:COk σ C):∀{s:Sn} {y:Y} {d:D},nV C y s=true->qK σ y d->qM s d
 |.any,y,d,h,hd=>by simp only[qM]
 |.wh s q,y,d,h,hd=>by
  have h:(nV C y s&&q.all (qKH C [y]))=true:=by cases y<;>simpa only[nV]using h
  rw[zR]at h;simp only[qM];exact⟨pJ i h.1 hd,λc G=>qQn i (by simp only[qG];exact⟨d,[],rfl,hd,rfl⟩) (List.all_eq_true.1 h.2 c G)⟩
 |.int k',y,d,h,hd=>by
  cases y<;>simp only[nV]at h<;>first|(cases h;done)|skip
  rw[decide_eq_true_eq]at h;subst h;simp only[qK]at hd;obtain⟨x,_,rfl⟩:=hd;simp only[qM];exact⟨_,rfl⟩
 |.bool,y,d,h,hd=>by
  cases y<;>simp only[nV]at h<;>first|(cases h;done)|skip
  simp only[qK]at hd;obtain⟨b,rfl,_⟩:=hd;simp only[qM];exact⟨_,rfl⟩
 |.str m,y,d,h,hd=>by
  cases y<;>simp only[nV]at h<;>first|(cases h;done)|skip
  simp only[qK]at hd;obtain⟨t,x,rfl,g,j,u⟩:=hd;simp only[qM];refine⟨_,rfl,?_⟩;rcases Bool.or_eq_true_iff.1 h with h|h
  ·exact lT u (oK h)
  have:=tO i g h;omega
 |.st fs,y,d,h,hd=>by
  cases y<;>simp only[nV]at h<;>first|(cases h;done)|skip
  simp only[qK]at hd;obtain⟨ds,rfl,g⟩:=hd;simp only[qM];exact⟨_,rfl,yZ i h g⟩
 | .sl vK z m e',y,d,h,hd=>by
  cases y<;>simp only[nV]at h<;>first|(cases h;done)|skip
  ·rename_i n el sz b e;simp only[zR]at h;obtain⟨⟨⟨g,j⟩,u⟩,H⟩:=h;have g:=vP g;have j:=vP j;subst g j;simp only[qK]at hd;obtain⟨B,hd⟩:=hd;simp only[qM]at hd ⊢;rcases hd with rfl|⟨es,rfl,p,r⟩
   ·exact .inl rfl
   refine .inr ⟨es,rfl,?_,λx l=>yD u (r x l)⟩;rcases Bool.or_eq_true_iff.1 H with h|h
   ·exact lT p (oK h)
   have:=tO i B h;have e:(D.sl el sz es).es.length=es.length:=rfl;simp only[e]at this;omega
  simp only[qK]at hd;subst hd;simp only[qM];exact .inl trivial
 |.ptr fs,y,d,h,hd=>by
  cases y<;>simp only[nV]at h<;>first|(cases h;done)|skip
  rw[zR]at h;have w:=vP h.1;subst w;simp only[qK]at hd;obtain⟨ds,rfl,g⟩:=hd;simp only[qM];exact⟨_,rfl,yZ i h.2 g⟩
 |.clo f a c,y,d,h,hd=>by
  cases y<;>simp only[nV]at h<;>first|(cases h;done)|skip
  simp only[zR]at h;have w:=vP h.1;subst w;simp only[qK]at hd;obtain⟨azq,cs,rfl,g,j⟩:=hd;simp only[qM];exact⟨_,_,rfl,yZ i h.2.1 g,yZ i h.2.2 j⟩
 |.mp k e,y,d,h,hd=>by
  cases y<;>simp only[nV]at h<;>first|(cases h;done)|skip
  ·simp only[zR,decide_eq_true_eq]at h;obtain⟨rfl,j⟩:=h;simp only[qK,qM]at hd;simp only[qM];obtain⟨A,ds,rfl,p,F,r⟩:=hd;exact⟨A,ds,rfl,p,F,λx l=>yD j (r x l)⟩
  simp only[qK]at hd;subst hd;simp only[qM];grind
theorem yZ{σ:Wd}{C:Cx}(x:COk σ C):∀{ss:List Sn} {ys:List Y} {ds:List D},gS C ys ss=true->qG σ ys ds->qU ss ds
 | [],ys,ds,h,hd=>by
  cases ys<;>simp only[gS]at h<;>first|(cases h;done)|skip
  simp only[qG]at hd;simp only[qU];exact hd
 |s::ss,ys,ds,h,hd=>by
  cases ys<;>simp only[gS]at h<;>first|(cases h;done)|skip
  simp only[zR]at h;simp only[qG]at hd;obtain⟨d,r,rfl,b,y⟩:=hd;simp only[qU];exact⟨d,r,rfl,pJ x h.1 b,yZ x h.2 y⟩
end
def yI(E:Env)(σ:Wd)(o:TOp)(ds:List D)(r:Cx×Y):Prop:=∃d τ,TOp.eval E o ds=some d/\COk (σ++τ) r.1/\qK (σ++τ) r.2 d
section
variable{E:Env}{σ:Wd}{C:Cx}{o:TOp}{ds:List D}{d:D}
theorem yI.same(x:COk σ C){y:Y}(he:TOp.eval E o ds=some d)(h:qK σ y d):yI E σ o ds (C,y):=
 ⟨d,[],he,kM x,by rw[List.append_nil];exact h⟩
theorem yI.fresh(x:COk σ C){s:Sn}(he:TOp.eval E o ds=some d)(h:qM s d):yI E σ o ds (fresh s C):=by obtain⟨τ,b,y⟩:=d8 h x;exact⟨d,τ,he,b,y⟩
theorem yI.list(x:COk σ C){el sz b:Nat}{e:Sn}{F:List jL}(he:TOp.eval E o ds=some d)(hn:qM (.sl el sz b e) d)(c:∀q∈F,aF (σ++[((d.es.length:Int),d)]) q):yI E σ o ds (C.add F [(C.nx,b)] [] 1,.sl C.nx el sz b e):=by
 have g:d.es.length<=b:=by
  simp only[qM]at hn;rcases hn with rfl|⟨es,rfl,h,_⟩
  ·exact Nat.zero_le _
  exact h
 refine⟨d,[((d.es.length:Int),d)],he,x.ext c (λq y=>?_) (by simp) rfl,?_⟩
 ·rw[List.mem_singleton]at y;subst y;exact⟨_,get_new x _,by simp,by simp;omega⟩
 simp only[qK];exact⟨get_new x _,hn⟩
theorem yI.num(h:COk σ C){k:IntKind}{n:Int}{F:List jL}(he:TOp.eval E o ds=some (.leaf (.int k n)))(x:∀q∈F,aF (σ++[(n,D.nil)]) q):yI E σ o ds (C.add F [] [] 1,.int k C.nx 0):=by refine⟨_,[(n,.nil)],he,h.ext x (by simp) (by simp) rfl,?_⟩;simp only[qK];exact⟨_,get_new h _,by simp⟩
end
def zBn(C:Cx)(v:Nat)(c:Int)(w:Nat)(e:Int):List jL:=
 (bif qI1 1 C.F C.L w e v c then[(w,v,c-e-1)]else[])++(bif qI1 1 C.F C.L v c w e then[(v,w,e-c-1)]else[])
def qXC(h:BinOp)(C:Cx)(v:Nat)(c:Int)(w:Nat)(e:Int):Option (List jL×List jL):=match h with
 |.lss=>some ([(v,w,e-c-1)],[(w,v,c-e)])
 |.leq=>some ([(v,w,e-c)],[(w,v,c-e-1)])
 |.gtr=>some ([(w,v,c-e-1)],[(v,w,e-c)])
 |.geq=>some ([(w,v,c-e)],[(v,w,e-c-1)])
 |.eql=>some ([(v,w,e-c),(w,v,c-e)],zBn C v c w e)
 |.neq=>some (zBn C v c w e,[(v,w,e-c),(w,v,c-e)])
 |_=>none
theorem qUR{σ:Wd}{C:Cx}(j:COk σ C){v w:Nat}{c e:Int}{x y:Int×D}(hv:σ[v]? = some x)(i:σ[w]? = some y)(h:¬x.1+c=y.1+e):∀q∈zBn C v c w e,aF σ q:=by
 intro q b;unfold zBn at b;rcases List.mem_append.1 b with b|b
 ·cases g:qI1 1 C.F C.L w e v c with
  |false=>rw[g]at b;cases b
  |true=>rw[g,cond_true,List.mem_singleton]at b;subst b;have:=qFB j.s g i hv;exact⟨y,x,i,hv,by simp only;omega⟩
 cases g:qI1 1 C.F C.L v c w e with
 |false=>rw[g]at b;cases b
 |true=>rw[g,cond_true,List.mem_singleton]at b;subst b;have:=qFB j.s g hv i;exact⟨x,y,hv,i,by simp only;omega⟩
theorem f1{σ:Wd}{v w:Nat}{c:Int}{x y:Int×D}(hv:σ[v]? = some x)(e:σ[w]? = some y)(h:x.1<=y.1+c):∀q∈[(v,w,c)],aF σ q:=by intro q b;rw[List.mem_singleton]at b;subst b;exact⟨x,y,hv,e,h⟩
theorem f2{σ:Wd}{p q:jL}(x:aF σ p)(h:aF σ q):∀r∈[p,q],aF σ r:=by grind
theorem qXB{E:Env}{σ:Wd}{C:Cx}(l:COk σ C){op:BinOp}{ty:TypeId}{a b:Operand}{k:IntKind}{v w:Nat}{c e:Int}{t f:List jL}{x y:Int×D}(h:qXC op C v c w e=some (t,f))(hv:σ[v]? = some x)(i:σ[w]? = some y):yI E σ (.bin op ty a b) [.leaf (.int k (x.1+c)),.leaf (.int k (y.1+e))] (C,.bool t f):=by
 have j:∀r:Bool,TOp.eval E (.bin op ty a b) [.leaf (.int k (x.1+c)),.leaf (.int k (y.1+e))]=some (dB r)->(r=true->∀q∈t,aF σ q)->(r=false->∀q∈f,aF σ q)->yI E σ (.bin op ty a b) [.leaf (.int k (x.1+c)),.leaf (.int k (y.1+e))] (C,.bool t f):=by intro r he ht p;refine .same l he ?_;simp only[qK];exact⟨r,rfl,ht,p⟩
 cases op<;>simp only[qXC]at h<;>first|(cases h;done)|(cases h)
 ·exact j _ jO (λg=>f2 ⟨x,y,hv,i,by have:=dT g;simp only;omega⟩ ⟨y,x,i,hv,by have:=dT g;simp only;omega⟩) (λg=>qUR l hv i (dF g))
 ·exact j _ jW (λg=>qUR l hv i (dT g)) (λg=>f2 ⟨x,y,hv,i,by have:=dF g;simp only;omega⟩ ⟨y,x,i,hv,by have:=dF g;simp only;omega⟩)
 ·exact j _ qP (λg=>f1 hv i (by have:=dT g;omega)) (λg=>f1 i hv (by have:=dF g;omega))
 ·exact j _ kS (λg=>f1 hv i (by have:=dT g;omega)) (λg=>f1 i hv (by have:=dF g;omega))
 ·exact j _ zW (λg=>f1 i hv (by have:=dT g;omega)) (λg=>f1 hv i (by have:=dF g;omega))
 exact j _ kT (λg=>f1 i hv (by have:=dT g;omega)) (λg=>f1 hv i (by have:=dF g;omega))
section
variable{E:Env}{σ:Wd}{C:Cx}
def Sn.small(n:Nat):Bool:=Nat.ble n 300000000
theorem qW0{el sz b:Nat}{e:Sn}{d:D}(h:qM (.sl el sz b e) d)(x:Nat.ble b 300000000=true):xU el sz d:=by
 simp only[qM]at h;rcases h with rfl|⟨es,rfl,h,_⟩
 ·exact .inl rfl
 exact .inr ⟨es,rfl,qI9 (lT h (oK x))⟩
theorem qXr{el sz b:Nat}{e:Sn}{d x:D}{i:Nat}(h:qM (.sl el sz b e) d)(y:d.es[i]? = some x):qM e x:=by
 simp only[qM]at h;rcases h with rfl|⟨es,rfl,_,h⟩
 ·simp[D.es]at y
 exact h x (List.mem_of_getElem? y)
theorem qWU(y:COk σ C){n el sz b:Nat}{e:Sn}{d:D}(h:qK σ (.sl n el sz b e) d):yI E σ (.len false) [d] (C,.int .i64 n 0):=by
 simp only[qK]at h;refine .same y (d:=dI (d.es.length:Int)) ?_ ?_
 ·have x:=h.2;simp only[qM]at x;rcases x with rfl|⟨es,rfl,_,_⟩<;>rfl
 simp only[qK];exact⟨_,h.1,by simp⟩
theorem qR5(h:COk σ C):yI E σ (.len false) [.nil] (C,.int .i64 0 0):=by obtain⟨z,x⟩:=h.s.z;refine .same h (d:=dI ((0:Nat):Int)) rfl ?_;simp only[qK];exact⟨_,x,by simp⟩
theorem qR4(y:COk σ C){n b:Nat}{d:D}(h:qK σ (.str n b) d):yI E σ (.len true) [d] (C,.int .i64 n 0):=by simp only[qK]at h;obtain⟨s,x,rfl,e,c,_⟩:=h;refine .same y (d:=dI (s.size:Int)) rfl ?_;simp only[qK];exact⟨_,e,by rw[c];simp⟩
def qEr:List El->Nat->Nat->Int->Option Y
 | [],_,_,_=>none
 |e::r,n,v,c=>bif Nat.beq e.n n&&Nat.beq e.v v&&decide (e.c=c)then some e.y else qEr r n v c
theorem tK{l:List El}(b:∀e∈l,qL5 σ e){n v:Nat}{c:Int}{y:Y}(h:qEr l n v c=some y):qL5 σ ⟨n,v,c,y⟩:=by
 induction l with
 |nil=>cases h
 |cons e r g=>
  simp only[qEr]at h;cases x:(Nat.beq e.n n&&Nat.beq e.v v&&decide (e.c=c))with
  |true=>rw[x,cond_true]at h;simp only[zR,decide_eq_true_eq]at x;have j:=vP x.1.1;have i:=vP x.1.2;cases h;have:=b e List.mem_cons_self;obtain⟨en,ev,p,k⟩:=e;grind
  |false=>rw[x,cond_false]at h;exact g (λe he=>b e (mC _ he)) h
def qSf(C:Cx)(n:Nat)(e:Sn)(v:Nat)(c:Int):Option (Cx×Y):=
 match qEr C.els n v c with
 |some _=>some (C,.bool [] [])
 |none=>bif yN C.F C.L 0 0 v c&&yN C.F C.L v (c+1) n 0 then some ((fresh e C).1.add [] [] [⟨n,v,c,(fresh e C).2⟩] 0,.bool [] [])else none
theorem qPd(g:COk σ C){n el sz b v:Nat}{e:Sn}{c:Int}{d i:D}{r:Cx×Y}(hd:qK σ (.sl n el sz b e) d)(B:qK σ (.int .i64 v c) i)(h:qSf C n e v c=some r):yI E σ .inr [d,i] r:=by
 simp only[qK]at hd B;obtain⟨x,j,rfl⟩:=B;unfold qSf at h;split at h
 ·rename_i y M;cases h;obtain⟨N,P,O,z,w,u,H,G,_⟩:=tK g.e M;simp only at w u H G;rw[hd.1]at w;rw[j]at u;cases w;cases u;refine .same g (qV H G) ?_;simp only[qK];grind
 obtain⟨t,h⟩:=qX h;cases h;rw[zR]at t;obtain⟨z,K⟩:=g.s.z;have J:=vI g.s t.1 K j;have I:=vI g.s t.2 j hd.1;simp only at J I;obtain⟨q,l⟩:=nS (d:=d) (s:=x.1+c) (by omega) (by omega);obtain⟨τ,a1,a2⟩:=d8 (qXr hd.2 l) g;refine⟨dB true,τ,qV (by omega) l,?_,?_⟩
 ·have:=a1.ext (τ:=[]) (F:=[]) (L:=[]) (els:=[⟨n,v,c,(fresh e C).2⟩]) (k:=0) (by simp) (by simp) ?_ rfl
  ·simpa using this
  intro p A;rw[List.mem_singleton]at A;subst A;rw[List.append_nil];exact⟨_,d,x,q,zJ hd.1,zJ j,by simp only;omega,l,a2⟩
 simp only[qK];grind
end
theorem rO{σ:Wd}:∀{ys:List Y} {ds:List D},qG σ ys ds->ys.length=ds.length
 | [],ds,h=>by simp only[qG]at h;subst h;rfl
 |y::ys,ds,h=>by simp only[qG]at h;obtain⟨d,r,rfl,_,x⟩:=h;simp[rO x]
theorem iQ{σ:Wd}:∀{n:Nat} {ys:List Y} {ds:List D},qG σ ys ds->qG σ (ys.drop n) (ds.drop n)
 |0,ys,ds,h=>by simpa using h
 |n+1,[],ds,h=>by simp only[qG]at h;subst h;simp[qG]
 |n+1,y::ys,ds,h=>by simp only[qG]at h;obtain⟨d,r,rfl,_,x⟩:=h;simpa using iQ (n:=n) x
theorem iP{σ:Wd}:∀{n:Nat} {ys:List Y} {ds:List D},qG σ ys ds->qG σ (ys.take n) (ds.take n)
 |0,ys,ds,h=>by simp[qG]
 |n+1,[],ds,h=>by simp only[qG]at h;subst h;simp[qG]
 |n+1,y::ys,ds,h=>by simp only[qG]at h;obtain⟨d,r,rfl,b,x⟩:=h;simp only[List.take_succ_cons,qG];exact⟨d,_,rfl,b,iP (n:=n) x⟩
def qFd:Y->Bool
 |.int _ _ _=>true
 |.bool _ _=>true
 |.str _ _=>true
 |.sl _ _ _ _ _=>true
 |.nil=>true
 |.ptr _ _=>true
 |.clo _ _ _=>true
 |.mp _ _=>true
 |.mp0=>true
 |_=>false
theorem sU{σ:Wd}{y:Y}{d:D}(h:qFd y=true)(hd:qK σ y d):d.one=true:=by
 cases y<;>simp only[qFd]at h<;>first|(cases h;done)|simp only[qK]at hd
 ·obtain⟨_,_,rfl⟩:=hd;rfl
 ·obtain⟨_,rfl,_⟩:=hd;rfl
 ·obtain⟨_,_,rfl,_⟩:=hd;rfl
 ·have:=hd.2;simp only[qM]at this;rcases this with rfl|⟨es,rfl,_⟩<;>rfl
 ·subst hd;rfl
 ·obtain⟨_,_,rfl,_⟩:=hd;rfl
 ·obtain⟨_,rfl,_⟩:=hd;rfl
 ·simp only[qM]at hd;obtain⟨_,_,rfl,_⟩:=hd;rfl
 subst hd;rfl
section
variable{E:Env}{σ:Wd}{C:Cx}
def qJV(ag:Bool)(size off:Nat)(cs:List Y):Option Y:=match ag with
 |true=>bif Nat.ble (off+size) cs.length then some (.st ((cs.drop off).take size))else none
 |false=>match cs[off]? with
  |some y=>bif qFd y&&Nat.beq size 1 then some y else none
  |none=>none
theorem qPq(c:COk σ C){ag:Bool}{size off:Nat}{cs:List Y}{d:D}{y:Y}(hd:qK σ (.st cs) d)(h:qJV ag size off cs=some y):yI E σ (.fld ag size off) [d] (C,y):=by
 simp only[qK]at hd;obtain⟨es,rfl,hs⟩:=hd;unfold qJV at h;split at h
 ·obtain⟨x,h⟩:=qX h;cases h;refine .same c (yB (by rw[←rO hs];exact x)) ?_;simp only[qK];exact⟨_,rfl,iP (iQ hs)⟩
 split at h
 ·rename_i i g;obtain⟨x,h⟩:=qX h;cases h;rw[zR]at x;have b:=vP x.2;subst b;obtain⟨e,he,hr⟩:=gL hs g;exact .same c (qB he (sU x.1 hr)) hr
 cases h
def qOp(cs:List Y)(off:Nat):Option Y:=match cs[off]? with
 |some y=>bif qFd y then some y else none
 |none=>none
theorem qOo{cs:List Y}{off:Nat}{y:Y}(h:qOp cs off=some y):cs[off]? = some y/\qFd y=true:=by unfold qOp at h;grind
def qPM(C:Cx)(n v:Nat)(c:Int)(sz:Nat)(ag:Bool)(size off:Nat):Option Y:=match qEr C.els n v c with
 |some (.st cs)=>bif Nat.beq cs.length sz then(match ag with
  |true=>bif Nat.beq off 0&&Nat.beq size sz then some (.st cs)else bif Nat.ble (off+size) sz then some (.st ((cs.drop off).take size))else none
  |false=>bif Nat.beq size 1&&Nat.blt off sz then qOp cs off else none)else none
 |some y=>bif !ag&&qFd y&&Nat.beq sz 1&&Nat.beq size 1&&Nat.beq off 0 then some y else none
 |none=>none
theorem qBo(A:COk σ C){n el sz k b v size off:Nat}{ag:Bool}{e:Sn}{c:Int}{d i:D}{y:Y}(hd:qK σ (.sl n el sz b e) d)(J:qK σ (.int .i64 v c) i)(R:Nat.ble b 300000000=true)(B:Nat.beq sz k=true)(h:qPM C n v c k ag size off=some y):yI E σ (.elem k ag size off) [d,i] (C,y):=by
 have B:=vP B;subst B;simp only[qK]at hd J;obtain⟨x,H,rfl⟩:=J;have j:=qW0 hd.2 R;unfold qPM at h;split at h
 ·rename_i cs F;obtain⟨K,U,L,z,w,u,t,r,p⟩:=tK A.e F;simp only at w u t r p;rw[hd.1]at w;rw[H]at u;cases w;cases u;simp only[qK]at p;obtain⟨es,rfl,hs⟩:=p;obtain⟨I,h⟩:=qX h;have I:=vP I;have Q:=rO hs;split at h
  ·cases l:(Nat.beq off 0&&Nat.beq size sz)with
   |true=>rw[l,cond_true]at h;cases h;rw[zR]at l;have a1:=vP l.1;have a2:=vP l.2;subst a1 a2;refine .same A (zU j t r (by omega)) ?_;simp only[qK];exact⟨_,rfl,hs⟩
   |false=>
    rw[l,cond_false]at h;obtain⟨g,h⟩:=qX h;cases h;refine .same A (qN6 (size:=size) (off:=off) j t r (by omega) (oK g) ?_) ?_
    ·rintro⟨rfl,rfl⟩;rw[Nat.beq_refl,Nat.beq_refl]at l;cases l
    simp only[qK];exact⟨_,rfl,iP (iQ hs)⟩
  obtain⟨g,S⟩:=qX h;rw[zR]at g;have a1:=vP g.1;subst a1;obtain⟨M,O⟩:=qOo S;obtain⟨q,N,hr⟩:=gL hs M;exact .same A (jD (off:=off) j t r N (sU O hr) (Nat.lt_of_succ_le (oK g.2))) hr
 ·rename_i V P F;obtain⟨g,h⟩:=qX h;cases h;simp only[zR]at g;obtain⟨⟨⟨⟨G,a1⟩,a2⟩,a3⟩,a4⟩:=g;have a2:=vP a2;have a3:=vP a3;have a4:=vP a4;subst a2 a3 a4;have G:ag=false:=by simpa using G
  subst G;obtain⟨K,U,L,z,w,u,t,r,p⟩:=tK A.e F;simp only at w u t r p;rw[hd.1]at w;rw[H]at u;cases w;cases u;exact .same A (jJ j t r (sU a1 p)) p
 cases h
theorem qWt(x:COk σ C){ty:TypeId}{t f:List jL}{d:D}(hd:qK σ (.bool t f) d):yI E σ (.un .not ty) [d] (C,.bool f t):=by simp only[qK]at hd;obtain⟨b,rfl,c,y⟩:=hd;refine .same x jU ?_;simp only[qK];exact⟨!b,rfl,λh=>y (by simpa using h),λh=>c (by simpa using h)⟩
theorem qSN(y:COk σ C){n:Nat}{cs:List Y}{d:D}(hd:qK σ (.st cs) d)(h:Nat.beq cs.length n=true):yI E σ (.chk true n) [d] (C,.st cs):=by have x:=hd;simp only[qK]at x;obtain⟨es,rfl,hs⟩:=x;exact .same y (qD (by rw[←rO hs];exact vP h)) hd
theorem qSP(x:COk σ C){y:Y}{d:D}(hd:qK σ y d)(h:qFd y=true):yI E σ (.chk false 1) [d] (C,y):=
 .same x (xI (sU h hd)) hd
theorem qXe(b:COk σ C){i:Nat}{cs:List Y}{y:Y}{d:D}(hd:qK σ (.tup cs) d)(h:cs[i]? = some y):yI E σ (.ext i) [d] (C,y):=by simp only[qK]at hd;obtain⟨es,rfl,hs⟩:=hd;obtain⟨q,x,hr⟩:=gL hs h;exact .same b (vV x) hr
def fV(C:Cx)(v:Nat)(c:Int):Bool:=yN C.F C.L v c 0 4000000000000000000&&yN C.F C.L 0 (-4000000000000000000) v c
theorem cU(y:COk σ C){v:Nat}{c:Int}{x:Int×D}(hv:σ[v]? = some x)(h:fV C v c=true): -4000000000000000000<=x.1+c/\x.1+c<=4000000000000000000:=by unfold fV at h;rw[zR]at h;obtain⟨z,b⟩:=y.s.z;have g:=vI y.s h.1 hv b;have e:=vI y.s h.2 b hv;simp only at g e;omega
def zFu(C:Cx)(w:Nat)(e:Int):Option Int:=
 let acc:=qI7 C.F 4 [(w,0)]
 C.L.foldl (λm p=>match cV acc p.1 with
  |some d=>(match m with
   |some u=>some (bif decide (d+p.2+e<=u)then d+p.2+e else u)
   |none=>some (d+p.2+e))
  |none=>m) (match cV acc 0 with|some d=>some (d+e)|none=>none)
def zBr(C:Cx)(v:Nat)(c:Int)(w:Nat)(e:Int):List jL:=
 bif yN C.F C.L 0 1 w e then[(v,C.nx,-c-1)]else bif yN C.F C.L 0 0 w e then[(v,C.nx,-c)]else[]
def zBu(C:Cx)(v:Nat)(c:Int)(w:Nat)(e:Int):List jL:=match zFu C w e with
 |some u=>bif yN C.F C.L w e 0 u then[(C.nx,v,c+u)]else[]
 |none=>[]
def zBc(C:Cx)(v:Nat)(c:Int)(w:Nat)(e:Int):List jL:=zBr C v c w e++zBu C v c w e++zBr C w e v c++zBu C w e v c
def qXY(C:Cx)(v:Nat)(c:Int)(w:Nat)(e:Int):Cx×Y:=
 bif Nat.beq w 0&&fV C v (c+e)then(C,.int .i64 v (c+e))else
 bif Nat.beq v 0&&fV C w (e+c)then(C,.int .i64 w (e+c))else
 bif fV C v c&&fV C w e then(C.add (zBc C v c w e) [] [] 1,.int .i64 C.nx 0)else(C.add [] [] [] 1,.int .i64 C.nx 0)
theorem qO1(b:COk σ C){v w:Nat}{c e:Int}{x y:Int×D}(l:σ[v]? = some x)(k:σ[w]? = some y){n:Int}(p:n=x.1+c+(y.1+e)):∀q∈zBr C v c w e,aF (σ++[(n,D.nil)]) q:=by
 obtain⟨z,j⟩:=b.s.z;intro q h;unfold zBr at h;cases g:yN C.F C.L 0 1 w e with
 |true=>rw[g,cond_true,List.mem_singleton]at h;subst h;have:=vI b.s g j k;exact⟨_,_,zJ l,get_new b _,by simp only at this ⊢;omega⟩
 |false=>
  rw[g,cond_false]at h;cases i:yN C.F C.L 0 0 w e with
  |true=>rw[i,cond_true,List.mem_singleton]at h;subst h;have:=vI b.s i j k;exact⟨_,_,zJ l,get_new b _,by simp only at this ⊢;omega⟩
  |false=>rw[i]at h;cases h
theorem qPi(b:COk σ C){v w:Nat}{c e:Int}{x y:Int×D}(k:σ[v]? = some x)(j:σ[w]? = some y){n:Int}(l:n=x.1+c+(y.1+e)):∀q∈zBu C v c w e,aF (σ++[(n,D.nil)]) q:=by
 obtain⟨z,i⟩:=b.s.z;intro q h;unfold zBu at h;split at h
 ·rename_i u _;cases g:yN C.F C.L w e 0 u with
  |true=>rw[g,cond_true,List.mem_singleton]at h;subst h;have:=vI b.s g j i;exact⟨_,_,get_new b _,zJ k,by simp only at this ⊢;omega⟩
  |false=>rw[g]at h;cases h
 cases h
theorem qXX(g:COk σ C){ty:TypeId}{a b:Operand}{v w:Nat}{c e:Int}{d t:D}(hd:qK σ (.int .i64 v c) d)(l:qK σ (.int .i64 w e) t):yI E σ (.bin .add ty a b) [d,t] (qXY C v c w e):=by
 simp only[qK]at hd l;obtain⟨x,k,rfl⟩:=hd;obtain⟨y,j,rfl⟩:=l;obtain⟨z,r⟩:=g.s.z;unfold qXY;cases i:(Nat.beq w 0&&fV C v (c+e))with
 |true=>rw[zR]at i;have p:=vP i.1;subst p;rw[r]at j;cases j;have:=cU g k i.2;refine .same g (yT (by omega)) ?_;simp only[qK];exact⟨x,k,by show dI (x.1+c+(0+e))=dI (x.1+(c+e));rw[show x.1+c+(0+e)=x.1+(c+e) by omega]⟩
 | false=>
  rw[cond_false];cases i:(Nat.beq v 0&&fV C w (e+c))with
  |true=>rw[zR]at i;have p:=vP i.1;subst p;rw[r]at k;cases k;have:=cU g j i.2;refine .same g (yT (by omega)) ?_;simp only[qK];exact⟨y,j,by show dI (0+c+(y.1+e))=dI (y.1+(e+c));rw[show 0+c+(y.1+e)=y.1+(e+c) by omega]⟩
  | false=>
   rw[cond_false];cases i:(fV C v c&&fV C w e)with
   |false=>exact .num g qA8 (by simp)
   | true=>
    rw[zR]at i;have A:=cU g k i.1;have u:=cU g j i.2;refine .num g (yT (by omega)) λq h=>?_;unfold zBc at h;rcases List.mem_append.1 h with h|h
    ·rcases List.mem_append.1 h with h|h
     ·rcases List.mem_append.1 h with h|h
      ·exact qO1 g k j rfl q h
      exact qPi g k j rfl q h
     exact qO1 g j k (by omega) q h
    exact qPi g j k (by omega) q h
def qZt(C:Cx)(v:Nat)(c:Int)(w:Nat)(e:Int):List jL:=
 (bif yN C.F C.L w e v c then[(0,C.nx,0)]else[])++(bif yN C.F C.L 0 0 w e then[(C.nx,v,c)]else[])
def qVL(C:Cx)(v:Nat)(c:Int)(w:Nat)(e:Int):Cx×Y:=
 bif Nat.beq w 0&&fV C v (c-e)then(C,.int .i64 v (c-e))else
 bif fV C v c&&fV C w e then(C.add (qZt C v c w e) [] [] 1,.int .i64 C.nx 0)else(C.add [] [] [] 1,.int .i64 C.nx 0)
theorem qVJ(i:COk σ C){ty:TypeId}{a b:Operand}{v w:Nat}{c e:Int}{d t:D}(hd:qK σ (.int .i64 v c) d)(p:qK σ (.int .i64 w e) t):yI E σ (.bin .sub ty a b) [d,t] (qVL C v c w e):=by
 simp only[qK]at hd p;obtain⟨x,l,rfl⟩:=hd;obtain⟨y,k,rfl⟩:=p;obtain⟨z,r⟩:=i.s.z;unfold qVL;cases j:(Nat.beq w 0&&fV C v (c-e))with
 |true=>rw[zR]at j;have u:=vP j.1;subst u;rw[r]at k;cases k;have:=cU i l j.2;refine .same i (iK (by omega)) ?_;simp only[qK];exact⟨x,l,by show dI (x.1+c-(0+e))=dI (x.1+(c-e));rw[show x.1+c-(0+e)=x.1+(c-e) by omega]⟩
 | false=>
  rw[cond_false];cases j:(fV C v c&&fV C w e)with
  |false=>exact .num i qA6 (by simp)
  | true=>
   rw[zR]at j;have B:=cU i l j.1;have A:=cU i k j.2;refine .num i (iK (by omega)) λq g=>?_;unfold qZt at g;rcases List.mem_append.1 g with g|g
   ·cases h:yN C.F C.L w e v c with
    |false=>rw[h]at g;cases g
    |true=>rw[h,cond_true,List.mem_singleton]at g;subst g;have:=vI i.s h k l;exact⟨_,_,zJ r,get_new i _,by simp only;omega⟩
   cases h:yN C.F C.L 0 0 w e with
   |false=>rw[h]at g;cases g
   |true=>rw[h,cond_true,List.mem_singleton]at g;subst g;have:=vI i.s h r k;exact⟨_,_,get_new i _,zJ l,by simp only at this ⊢;omega⟩
theorem qWz(i:COk σ C){ty:TypeId}{a b:Operand}{v w:Nat}{c e:Int}{d g:D}(hd:qK σ (.int .i64 v c) d)(h:qK σ (.int .i64 w e) g):yI E σ (.bin .mul ty a b) [d,g] (C.add [] [] [] 1,.int .i64 C.nx 0):=by simp only[qK]at hd h;obtain⟨x,k,rfl⟩:=hd;obtain⟨y,j,rfl⟩:=h;exact .num i qA7 (by simp)
theorem qZS(g:COk σ C){m:Bool}{v w:Nat}{c e:Int}{d b:D}(hd:qK σ (.int .i64 v c) d)(h:qK σ (.int .i64 w e) b):yI E σ (.mm m) [d,b] (C.add [] [] [] 1,.int .i64 C.nx 0):=by simp only[qK]at hd h;obtain⟨x,j,rfl⟩:=hd;obtain⟨y,i,rfl⟩:=h;obtain⟨n,hn⟩:=qZT (E:=E) m (x.1+c) (y.1+e);exact .num g hn (by simp)
end
mutual
def Sn.sh:Sn->Sh
 |.int k=>.int k
 |.bool=>.bool
 |.str _=>.str
 |.st fs=>.st (Sn.shs fs)
 |.sl el sz _ e=>.sl el sz (Sn.sh e)
 |.wh s _=>Sn.sh s
 |.any|.ptr _|.clo _ _ _|.mp _ _=>.bool
def Sn.shs:List Sn->List Sh
 | []=>[]
 |s::r=>Sn.sh s::Sn.shs r
end
mutual
def Sn.low:Sn->Bool
 |.int _=>true
 |.bool=>true
 |.str n=>Nat.ble n 300000000
 |.st fs=>Sn.lows fs
 |.sl _ _ n e=>Nat.ble n 300000000&&Sn.low e
 |.wh s _=>Sn.low s
 |.any|.ptr _|.clo _ _ _|.mp _ _=>false
def Sn.lows:List Sn->Bool
 | []=>true
 |s::r=>Sn.low s&&Sn.lows r
end
mutual
theorem kW:∀{s:Sn} {d:D},Sn.low s=true->qM s d->qC 300000000 s.sh d
 |.int k,d,_,h=>by simp only[qM]at h;simp only[Sn.sh,qC];exact h
 |.bool,d,_,h=>by simp only[qM]at h;simp only[Sn.sh,qC];exact h
 |.str n,d,y,h=>by simp only[qM]at h;simp only[Sn.sh,qC];obtain⟨s,hs,hn⟩:=h;exact⟨s,hs,lT hn (oK y)⟩
 |.st fs,d,y,h=>by simp only[qM]at h;simp only[Sn.sh,qC];obtain⟨cs,hd,h⟩:=h;exact⟨cs,hd,qBj y h⟩
 |.sl el sz n e,d,y,h=>by
  simp only[Sn.low,zR]at y;simp only[qM]at h;simp only[Sn.sh,qC];rcases h with h|⟨es,hd,hn,c⟩
  ·exact .inl h
  exact .inr ⟨es,hd,lT hn (oK y.1),λx b=>kW y.2 (c x b)⟩
 |.wh s q,d,y,h=>by simp only[qM]at h;simp only[Sn.low]at y;simp only[Sn.sh];exact kW y h.1
 |.any,d,y,h=>by cases y
 |.ptr _,d,y,h=>by cases y
 |.clo _ _ _,d,y,h=>by cases y
 |.mp _ _,d,y,h=>by cases y
theorem qBj:∀{ss:List Sn} {ds:List D},Sn.lows ss=true->qU ss ds->j4 300000000 (Sn.shs ss) ds
 | [],ds,_,h=>by simp only[qU]at h;simp only[Sn.shs,j4];exact h
 |s::r,ds,x,h=>by simp only[Sn.lows,zR]at x;simp only[qU]at h;simp only[Sn.shs,j4];obtain⟨d,y,hd,c,b⟩:=h;exact⟨d,y,hd,kW x.1 c,qBj x.2 b⟩
end
section
variable{E:Env}{σ:Wd}{C:Cx}
theorem bJ:∀{fs:List Sn} {cs:List D},qU fs cs->cs.length=fs.length
 | [],cs,h=>by simp only[qU]at h;subst h;rfl
 |f::fs,cs,h=>by simp only[qU]at h;obtain⟨d,r,rfl,_,h⟩:=h;simp[bJ h]
def qC1:Sn->Nat
 |.st fs=>fs.length
 |.wh s _=>qC1 s
 |_=>1
def qJP:Sn->Bool
 |.any|.ptr _|.clo _ _ _|.mp _ _=>false
 |.wh s _=>qJP s
 |_=>true
theorem qFJ:∀{s:Sn} {d:D},qJP s=true->qM s d->d.cells.length=qC1 s
 |.int _,d,_,h=>by simp only[qM]at h;obtain⟨_,rfl⟩:=h;rfl
 |.bool,d,_,h=>by simp only[qM]at h;obtain⟨_,rfl⟩:=h;rfl
 |.str _,d,_,h=>by simp only[qM]at h;obtain⟨_,rfl,_⟩:=h;rfl
 |.st _,d,_,h=>by simp only[qM]at h;obtain⟨cs,rfl,h⟩:=h;show cs.length=_;simp only[qC1];exact bJ h
 |.sl _ _ _ _,d,_,h=>by simp only[qM]at h;rcases h with rfl|⟨es,rfl,_⟩<;>rfl
 |.wh s q,d,hr,h=>by simp only[qM]at h;exact qFJ (s:=s) hr h.1
theorem qG2{C:Cx}(g:COk σ C){e:Sn}:∀{ys:List Y} {ds:List D},ys.all (λy=>nV C y e)=true->qG σ ys ds->∀x∈ds,qM e x
 | [],ds,_,h=>by simp only[qG]at h;subst h;intro x b;cases b
 |y::ys,ds,c,h=>by
  simp only[qG]at h;obtain⟨d,r,rfl,j,i⟩:=h;simp only[List.all_cons,zR]at c;intro x b;rcases List.mem_cons.1 b with rfl|b
  ·exact pJ g c.1 j
  exact qG2 g c.2 i x b
def qWR(C:Cx)(el sz:Nat)(e:Sn)(ys:List Y):Option (Cx×Y):=
 bif qJP e&&ys.all (λy=>nV C y e)&&Nat.beq (qC1 e) sz&&Nat.ble (Nat.mul ys.length (Nat.succ sz)) 1000000 then some (C.add [(C.nx,0,ys.length),(0,C.nx,-(ys.length:Int))] [(C.nx,ys.length)] [] 1,.sl C.nx el sz ys.length e)else none
theorem qWQ(b:COk σ C){el sz:Nat}{e:Sn}{ys:List Y}{ds:List D}{r:Cx×Y}(hd:qG σ ys ds)(h:qWR C el sz e ys=some r):yI E σ (.lit el sz) ds r:=by
 unfold qWR at h;obtain⟨j,h⟩:=qX h;cases h;simp only[zR]at j;obtain⟨⟨⟨t,q⟩,g⟩,p⟩:=j;have l:=rO hd;have y:=qG2 b q hd;have g:=vP g;have c:TOp.eval E (.lit el sz) ds=some (.sl el sz ds):=by rw[qFA];refine oR ?_;rw[zR];refine⟨List.all_eq_true.2 λx k=>?_,by rw[←l];exact p⟩;rw[qFJ t (y x k),g];exact Nat.beq_refl _
 obtain⟨z,i⟩:=b.s.z;refine .list b c ?_ (f2 ⟨_,_,get_new b _,zJ i,?_⟩ ⟨_,_,zJ i,get_new b _,?_⟩)
 ·simp only[qM];grind
 ·show((ds.length:Nat):Int)<=0+(ys.length:Int);omega
 show(0:Int)<=((ds.length:Nat):Int) + -(ys.length:Int);omega
def qXI(C:Cx)(n v:Nat)(c:Int):Bool:=yN C.F C.L 0 0 v c&&yN C.F C.L v (c+1) n 0
theorem qXH(e:COk σ C){n b v:Nat}{c:Int}{d i:D}(hd:qK σ (.str n b) d)(k:qK σ (.int .i64 v c) i)(h:qXI C n v c=true):yI E σ .chr [d,i] (C.add [(0,C.nx,0),(C.nx,0,255)] [] [] 1,.int .u8 C.nx 0):=by simp only[qK]at hd k;obtain⟨s,x,rfl,p,r,_⟩:=hd;obtain⟨y,j,rfl⟩:=k;unfold qXI at h;rw[zR]at h;obtain⟨z,g⟩:=e.s.z;have l:=vI e.s h.1 g j;have q:=vI e.s h.2 j p;simp only at l;obtain⟨m,m0,m1,he⟩:=qBH (E:=E) (s:=s) (i:=y.1+c) (by omega) (by omega);exact .num e he (f2 ⟨_,_,zJ g,get_new e _,by simp only;omega⟩ ⟨_,_,get_new e _,zJ g,by simp only;omega⟩)
end
def Ls(el sz:Nat)(d:D):Prop:=d=.nil∨∃es,d=.sl el sz es
theorem qBK{el sz b:Nat}{e:Sn}{d:D}:qM (.sl el sz b e) d↔Ls el sz d/\d.es.length<=b/\∀x∈d.es,qM e x:=by
 constructor
 ·intro h;simp only[qM]at h;rcases h with rfl|⟨es,rfl,y,c⟩
  ·exact⟨.inl rfl,Nat.zero_le _,λx g=>by cases g⟩
  exact⟨.inr ⟨es,rfl⟩,y,c⟩
 rintro⟨h,y,c⟩;simp only[qM];rcases h with rfl|⟨es,rfl⟩
 ·exact .inl rfl
 exact .inr ⟨es,rfl,y,c⟩
section
variable{E:Env}{σ:Wd}{C:Cx}
theorem qS2{el sz bytes:Nat}{a b:D}(i:Ls el sz a)(c:Ls el sz b)(h:bytes<=80)(p:a.es.length+b.es.length<=300000000):∃y,TOp.eval E (.app el sz bytes) [a,b]=some y/\Ls el sz y/\y.es=a.es++b.es:=by
 have g:rH a=some a.es.length:=by rcases i with rfl|⟨es,rfl⟩<;>rfl
 rw[i9,g];rcases c with rfl|⟨es,rfl⟩
 ·refine⟨a,?_,i,by simp[D.es]⟩;have e:Nat.ble (Nat.mul (Nat.add (Nat.mul 4 a.es.length) 4000) (Nat.succ bytes)) 100000000000=true:=lL (by have:(D.nil).es.length=0:=rfl;omega) h;have q:∀(b:Bool) (x:Option D),b=true->(bif b then x else none)=x:=λb x c=>by rw[c];rfl
  exact q _ _ e
 have e:Nat.ble (Nat.mul (Nat.add (Nat.mul 4 (Nat.add a.es.length es.length)) 4000) (Nat.succ bytes)) 100000000000=true:=lL p h;have l:Nat.beq sz sz=true:=Nat.beq_refl _;have k:∀(b:Bool) (x y:Option D),b=true->(bif b then x else y)=x:=λb x y c=>by rw[c];rfl
 rcases i with rfl|⟨es',rfl⟩
 ·refine⟨if es.length=0 then .nil else .sl el sz ([]++es),(k _ _ _ (by rw[e,l];rfl)).trans ?_,?_,?_⟩
  ·rw[qZ];split<;>rfl
  ·split
   ·exact .inl rfl
   exact .inr ⟨_,rfl⟩
  split
  ·rename_i j;have:=List.eq_nil_of_length_eq_zero j;subst this;rfl
  rfl
 refine⟨if es.length=0 then .sl el sz es' else .sl el sz (es'++es),(k _ _ _ (by rw[e,l];show(true&&true&&(Nat.beq el el&&Nat.beq sz sz))=true;rw[Nat.beq_refl,Nat.beq_refl];rfl)).trans ?_,?_,?_⟩
 ·rw[qZ];split<;>rfl
 ·split
  ·exact .inr ⟨_,rfl⟩
  exact .inr ⟨_,rfl⟩
 split
 ·rename_i j;have:=List.eq_nil_of_length_eq_zero j;subst this;show es'=es'++[];simp
 rfl
theorem qXU(h:COk σ C){el sz bytes n1 R n2 Q:Nat}{e:Sn}{a c:D}(G:qK σ (.sl n1 el sz R e) a)(F:qK σ (.sl n2 el sz Q e) c)(g:Nat.ble bytes 80=true){m k m' k':Nat}(M:yN C.F C.L n1 0 0 m=true)(N:yN C.F C.L n2 0 0 k=true)(t:yN C.F C.L 0 m' n1 0=true)(u:yN C.F C.L 0 k' n2 0=true)(r:Nat.ble (m+k) 300000000=true):yI E σ (.app el sz bytes) [a,c] (C.add [(n1,C.nx,-(k':Int)),(C.nx,n1,(k:Int)),(n2,C.nx,-(m':Int)),(C.nx,n2,(m:Int))] [(C.nx,m+k)] [] 1,.sl C.nx el sz (m+k) e):=by
 simp only[qK]at G F;obtain⟨i,l⟩:=G;obtain⟨b,j⟩:=F;have L:=tO h i M;have K:=tO h b N;obtain⟨z,w⟩:=h.s.z;have J:=vI h.s t w i;have I:=vI h.s u w b;simp only at L K J I;have r:=oK r;rw[qBK]at l j;obtain⟨y,P,O,H⟩:=qS2 (E:=E) l.1 j.1 (oK g) (by omega);have B:y.es.length=a.es.length+c.es.length:=by rw[H,List.length_append]
 refine .list h P (qBK.2 ⟨O,by omega,λx p=>?_⟩) ?_
 ·rw[H]at p;rcases List.mem_append.1 p with p|p
  ·exact l.2.2 x p
  exact j.2.2 x p
 intro q A;simp only[List.mem_cons,List.not_mem_nil,or_false]at A;rcases A with rfl|rfl|rfl|rfl
 ·exact⟨_,_,zJ i,get_new h _,by simp only;omega⟩
 ·exact⟨_,_,get_new h _,zJ i,by simp only;omega⟩
 ·exact⟨_,_,zJ b,get_new h _,by simp only;omega⟩
 exact⟨_,_,get_new h _,zJ b,by simp only;omega⟩
theorem zAg(h:COk σ C){el sz n b v:Nat}{c:Int}{e:Sn}{l i:D}(B:qK σ (.sl n el sz b e) l)(F:qK σ (.int .i64 v c) i)(O:Nat.ble b 300000000=true)(N:yN C.F C.L 0 0 v c=true)(M:yN C.F C.L v c n 0=true):yI E σ (.slc el sz false true) [l,i] (C.add [(C.nx,v,c),(v,C.nx,-c)] [(C.nx,b)] [] 1,.sl C.nx el sz b e):=by
 simp only[qK]at B F;obtain⟨x,k,rfl⟩:=F;obtain⟨j,r⟩:=B;obtain⟨z,H⟩:=h.s.z;have G:=vI h.s N H k;have t:=vI h.s M k j;simp only at G t;have q:=r;simp only[qM]at q;rcases q with rfl|⟨es,rfl,hlen,L⟩
 ·have g:(D.nil).es.length=0:=rfl;rw[g]at t j;have K:x.1+c=0:=by omega
  refine .list h (d:=.nil) ?_ r (f2 ⟨_,_,get_new h _,zJ k,by simp only[g];omega⟩ ⟨_,_,zJ k,get_new h _,by simp only[g];omega⟩);show TOp.eval E (.slc el sz false true) [.nil,dI (x.1+c)]=_;rw[K];rfl
 have he:(D.sl el sz es).es.length=es.length:=rfl;rw[he]at t j;have u:TOp.eval E (.slc el sz false true) [.sl el sz es,dI (x.1+c)]=some (.sl el sz (es.take (x.1+c).toNat)):=by
  rw[cK];have w:vQ false 0 [dI (x.1+c)]=some (0,[dI (x.1+c)]):=rfl;have A:vQ true es.length [dI (x.1+c)]=some ((x.1+c).toNat,[]):=by simp only[vQ,cond_true,yQ (by omega:0<=x.1+c),Option.map_some]
  simp only[w,A];refine(oR ?_).trans ?_
  ·rw[Nat.beq_refl,Nat.beq_refl,bL (Nat.zero_le _),bL (by omega)];rfl
  simp
 have J:((es.take (x.1+c).toNat).length:Int)=x.1+c:=by rw[List.length_take];omega
 have p:((D.sl el sz (es.take (x.1+c).toNat)).es.length:Int)=x.1+c:=J;refine .list h u (by simp only[qM];exact .inr ⟨_,rfl,by rw[List.length_take];omega,λy I=>L y (List.mem_of_mem_take I)⟩) (f2 ⟨_,_,get_new h _,zJ k,by simp only[p];omega⟩ ⟨_,_,zJ k,get_new h _,by simp only[p];omega⟩)
end
section
variable{E:Env}{σ:Wd}{C:Cx}
theorem qZX(g:COk σ C){el sz n b v:Nat}{c:Int}{e:Sn}{l i:D}(B:qK σ (.sl n el sz b e) l)(F:qK σ (.int .i64 v c) i)(M:yN C.F C.L 0 0 v c=true)(L:yN C.F C.L v c n 0=true):yI E σ (.slc el sz true false) [l,i] (C.add [(C.nx,n,0)] [(C.nx,b)] [] 1,.sl C.nx el sz b e):=by
 simp only[qK]at B F;obtain⟨x,A,rfl⟩:=F;obtain⟨h,p⟩:=B;obtain⟨z,H⟩:=g.s.z;have G:=vI g.s M H A;have q:=vI g.s L A h;simp only at G q;have k:=p;simp only[qM]at k;rcases k with rfl|⟨es,rfl,hlen,K⟩
 ·have j:(D.nil).es.length=0:=rfl;rw[j]at q h;have J:x.1+c=0:=by omega
  refine .list g (d:=.nil) ?_ p (f1 (get_new g _) (zJ h) (by simp only[j];omega));show TOp.eval E (.slc el sz true false) [.nil,dI (x.1+c)]=_;rw[J];rfl
 have he:(D.sl el sz es).es.length=es.length:=rfl;rw[he]at q h;have t:TOp.eval E (.slc el sz true false) [.sl el sz es,dI (x.1+c)]=some (.sl el sz (es.drop (x.1+c).toNat)):=by
  rw[cK];have u:vQ true 0 [dI (x.1+c)]=some ((x.1+c).toNat,[]):=by simp only[vQ,cond_true,yQ (by omega:0<=x.1+c),Option.map_some]
  have w:vQ false es.length ([]:List D)=some (es.length,[]):=rfl;simp only[u,w];refine(oR ?_).trans ?_
  ·rw[Nat.beq_refl,Nat.beq_refl,bL (by omega),bL (vE _)];rfl
  rw[List.take_of_length_le (by rw[List.length_drop];omega)]
 have r:(D.sl el sz (es.drop (x.1+c).toNat)).es.length=es.length-(x.1+c).toNat:=List.length_drop;exact .list g t (by simp only[qM];exact .inr ⟨_,rfl,by rw[List.length_drop];omega,λy I=>K y (List.mem_of_mem_drop I)⟩) (f1 (get_new g _) (zJ h) (by simp only[r];omega))
theorem yI.text(h:COk σ C){o:TOp}{ds:List D}{s:ByteArray}{b:Nat}(he:TOp.eval E o ds=some (.leaf (.string s)))(hs:s.size<=b){F:List jL}(y:∀q∈F,aF (σ++[((s.size:Int),D.nil)]) q):yI E σ o ds (C.add F [(C.nx,b)] [] 1,.str C.nx b):=by
 refine⟨_,[((s.size:Int),.nil)],he,h.ext y (λq x=>?_) (by simp) rfl,?_⟩
 ·rw[List.mem_singleton]at x;subst x;exact⟨_,get_new h _,by simp,by simp;omega⟩
 simp only[qK];exact⟨s,_,rfl,get_new h _,rfl,hs⟩
theorem qQ9(h:COk σ C){n b v w:Nat}{c e:Int}{d i j:D}(hd:qK σ (.str n b) d)(l:qK σ (.int .i64 v c) i)(k:qK σ (.int .i64 w e) j)(H:yN C.F C.L 0 0 v c=true)(G:yN C.F C.L v c w e=true)(F:yN C.F C.L w e n 0=true):yI E σ (.sub true true) [d,i,j] (C.add [] [(C.nx,b)] [] 1,.str C.nx b):=by simp only[qK]at hd l k;obtain⟨s,y,rfl,r,hs,A⟩:=hd;obtain⟨x,g,rfl⟩:=l;obtain⟨u,hu,rfl⟩:=k;obtain⟨z,q⟩:=h.s.z;have p:=vI h.s H q g;have J:=vI h.s G g hu;have I:=vI h.s F hu r;simp only at p;obtain⟨t,ht,he⟩:=qBv (E:=E) (B:=b) (s:=s) (i:=x.1+c) (j:=u.1+e) (by omega) (by omega) (by omega) A;exact .text h he ht (by simp)
theorem qST(y:COk σ C){n el b:Nat}{d:D}(hd:qK σ (.sl n el 1 b (.int .u8)) d)(j:yN C.F C.L 0 1 n 0=true):yI E σ .bstr [d] (C.add [] [(C.nx,b)] [] 1,.str C.nx b):=by
 simp only[qK]at hd;obtain⟨x,h⟩:=hd;obtain⟨z,e⟩:=y.s.z;have c:=vI y.s j e x;simp only at c;have i:qC b (.sl el 1 (.int .u8)) d:=by simp only[qM]at h;simp only[qC];exact h
 have g:∃es,d=.sl el 1 es:=by
  simp only[qM]at h;rcases h with rfl|⟨es,rfl,_⟩
  ·have:(D.nil).es.length=0:=rfl;omega
  exact⟨es,rfl⟩
 obtain⟨t,ht,he⟩:=qQW (E:=E) i g;exact .text y he ht (by simp)
end
section
variable{E:Env}{σ:Wd}{C:Cx}
def qJt(e:Sn)(z:D):Bool:=match e,z with
 |.bool,.leaf (.bool _)=>true
 |.int k,.leaf (.int k' _)=>decide (k=k')
 |_,_=>false
theorem qMB{e:Sn}{z:D}(h:qJt e z=true):qM e z:=by
 unfold qJt at h;split at h
 ·simp only[qM];exact⟨_,rfl⟩
 ·rw[decide_eq_true_eq]at h;subst h;simp only[qM];exact⟨_,rfl⟩
 cases h
theorem qZU(g:COk σ C){el sz bytes v b:Nat}{ag:Bool}{h:List Value}{c:Int}{e:Sn}{i:D}(r:qK σ (.int .i64 v c) i)(I:yN C.F C.L 0 0 v c=true)(H:yN C.F C.L v c 0 b=true)(G:Nat.ble b 300000000=true)(w:(Nat.beq h.length sz&&h.all (λv=>zK v&&qH v)&&(ag||Nat.beq sz 1))=true)(B:Nat.ble (bytes+sz) 2=true)(he:qJt e (zD ag h)=true):yI E σ (.mk el sz bytes ag h) [i] (C.add [(C.nx,v,c),(v,C.nx,-c)] [(C.nx,b)] [] 1,.sl C.nx el sz b e):=by
 simp only[qK]at r;obtain⟨x,k,rfl⟩:=r;obtain⟨z,j⟩:=g.s.z;have u:=vI g.s I j k;have t:=vI g.s H k j;simp only at u t;have F:=oK G;have p:TOp.eval E (.mk el sz bytes ag h) [dI (x.1+c)]=some (.sl el sz (List.replicate (x.1+c).toNat (zD ag h))):=by
  rw[qPE,yQ (by omega)];have l:(x.1+c).toNat*(bytes+sz+1)<=1000000000:=by have:(x.1+c).toNat*(bytes+sz+1)<=300000000*3:=Nat.mul_le_mul (by omega) (by have:=oK B;omega);omega
  exact oR (by rw[w];exact bL l)
 have q:((D.sl el sz (List.replicate (x.1+c).toNat (zD ag h))).es.length:Int)=x.1+c:=by show((List.replicate (x.1+c).toNat (zD ag h)).length:Int)=_;grind
 refine .list g p ?_ (f2 ⟨_,_,get_new g _,zJ k,by simp only[q];omega⟩ ⟨_,_,zJ k,get_new g _,by simp only[q];omega⟩);simp only[qM];exact .inr ⟨_,rfl,by rw[List.length_replicate];omega,λy A=>by rw[List.eq_of_mem_replicate A];exact qMB he⟩
theorem qK2(e:COk σ C){ty:TypeId}{a b:Operand}{op:BinOp}(c:op=.eql∨op=.neq){n j m i:Nat}{d g:D}(hd:qK σ (.str n j) d)(h:qK σ (.str m i) g):yI E σ (.bin op ty a b) [d,g] (C,.bool [] []):=by
 simp only[qK]at hd h;obtain⟨s,_,rfl,_⟩:=hd;obtain⟨t,_,rfl,_⟩:=h;have x:∀r:Bool,qK σ (.bool [] []) (dB r):=by intro r;simp only[qK];exact⟨r,rfl,λ_ q y=>(by cases y),λ_ q y=>(by cases y)⟩
 rcases c with rfl|rfl
 ·exact .same e e7 (x _)
 exact .same e sB (x _)
theorem qN1(g:COk σ C){ty:TypeId}{a b:Operand}{op:BinOp}(e:op=.neq∨op=.eql){ss:List Sn}{cs cs':List Y}{d j:D}{k:Nat}{sh:List Sh}(hd:qK σ (.st cs) d)(h:qK σ (.st cs') j)(A:gS C cs ss=true)(z:gS C cs' ss=true)(i:Sn.lows ss=true)(l:fU E.prog k ty=some sh)(y:sh=Sn.shs ss)(x:lQ E.prog ty=true)(p:k<=10000)(r:E.prog.eqGuardType E.prog.depth ty=false)(t:(Sn.shs ss).all qEo=true):yI E σ (.bin op ty a b) [d,j] (C,.bool [] []):=by subst y;simp only[qK]at hd h;obtain⟨azq,rfl,w⟩:=hd;obtain⟨B,rfl,u⟩:=h;refine .same g (sE op e l x p r t (qGQ (qBj i (yZ g A w))) (qGQ (qBj i (yZ g z u)))) ?_;simp only[qK];exact⟨_,rfl,λ_ q c=>(by cases c),λ_ q c=>(by cases c)⟩
end
section
variable{E:Env}{σ:Wd}{C:Cx}
theorem yI.after{τ:Wd}{o:TOp}{ds:List D}{r:Cx×Y}(h:yI E (σ++τ) o ds r):yI E σ o ds r:=by obtain⟨d,x,c,b,y⟩:=h;exact⟨d,τ++x,c,by rw[←List.append_assoc];exact b,by rw[←List.append_assoc];exact y⟩
def qYs(C:Cx)(n:Nat):Nat:=
 let acc:=qI7 C.F 4 [(n,0)]
 C.L.foldl (λm p=>match cV acc p.1 with|some d=>Nat.min m (d+p.2).toNat|none=>m) (match cV acc 0 with|some d=>d.toNat|none=>300000001)
def uB(C:Cx)(n:Nat):Nat:=C.F.foldl (λm q=>bif Nat.beq q.1 0&&Nat.beq q.2.1 n then Nat.max m (-q.2.2).toNat else m) 0
def qQA(C:Cx)(el sz bytes:Nat)(n1 b x:Nat)(c:Sn)(n2 y h:Nat)(e:Sn):Option (Cx×Y):=
 let m:=qYs C n1
 let k:=qYs C n2
 let m':=uB C n1
 let k':=uB C n2
 bif Nat.beq b el&&Nat.beq x sz&&Nat.beq y el&&Nat.beq h sz&&e.fits c&&Nat.ble bytes 80&&yN C.F C.L n1 0 0 m&&yN C.F C.L n2 0 0 k&&yN C.F C.L 0 m' n1 0&&yN C.F C.L 0 k' n2 0&&Nat.ble (m+k) 300000000 then some (C.add [(n1,C.nx,-(k':Int)),(C.nx,n1,(k:Int)),(n2,C.nx,-(m':Int)),(C.nx,n2,(m:Int))] [(C.nx,m+k)] [] 1,.sl C.nx el sz (m+k) c)else none
theorem qFO(A:COk σ C){el sz bytes n1 g e B n2 b y u:Nat}{k t:Sn}{a c:D}{r:Cx×Y}(z:qK σ (.sl n1 g e B k) a)(j:qK σ (.sl n2 b y u t) c)(h:qQA C el sz bytes n1 g e k n2 b y t=some r):yI E σ (.app el sz bytes) [a,c] r:=by
 unfold qQA at h;obtain⟨q,h⟩:=qX h;cases h;simp only[zR]at q;obtain⟨⟨⟨⟨⟨⟨⟨⟨⟨⟨a1,a2⟩,a3⟩,a4⟩,a5⟩,H⟩,G⟩,F⟩,a9⟩,p⟩,l⟩:=q;have a1:=vP a1;have a2:=vP a2;have a3:=vP a3;have a4:=vP a4;subst a1 a2 a3 a4;have i:qK σ (.sl n2 b y u k) c:=by simp only[qK]at j ⊢;refine⟨j.1,?_⟩;have:=qBK.1 j.2;exact qBK.2 ⟨this.1,this.2.1,λx w=>yD a5 (this.2.2 x w)⟩
 exact qXU A z i H G F a9 p l
def qWw(C:Cx):Cx:=C.add [(C.nx,0,0)] [(C.nx,0)] [] 1
theorem qON(h:COk σ C)(el sz:Nat)(e:Sn):COk (σ++[(0,D.nil)]) (qWw C)/\qK (σ++[(0,D.nil)]) (.sl C.nx el sz 0 e) .nil:=by
 obtain⟨z,b⟩:=h.s.z;refine⟨h.ext (f1 (get_new h _) (zJ b) (by simp)) (λq y=>?_) (by simp) rfl,?_⟩
 ·rw[List.mem_singleton]at y;subst y;exact⟨_,get_new h _,by simp,by simp⟩
 simp only[qK];exact⟨get_new h _,qBK.2 ⟨.inl rfl,Nat.zero_le _,λx c=>by cases c⟩⟩
def qXW(C:Cx)(el sz bytes:Nat):Y->Y->Option (Cx×Y)
 |.sl n1 b x _ e,.sl n2 y h _ c=>qQA C el sz bytes n1 b x e n2 y h c
 |.nil,.sl n2 y h _ c=>qQA (qWw C) el sz bytes C.nx el sz c n2 y h c
 |.sl n1 b x _ e,.nil=>qQA (qWw C) el sz bytes n1 b x e C.nx el sz e
 |_,_=>none
theorem qS3(g:COk σ C){el sz bytes:Nat}{l k:Y}{a c:D}{r:Cx×Y}(e:qK σ l a)(y:qK σ k c)(h:qXW C el sz bytes l k=some r):yI E σ (.app el sz bytes) [a,c] r:=by
 unfold qXW at h;split at h
 ·exact qFO g e y h
 ·rename_i n2 t p A w;have b:a=.nil:=by simpa only[qK]using e
  subst b;obtain⟨j,i⟩:=qON g el sz w;exact .after (qFO j i (nK y) h)
 ·rename_i n1 u q B z;have x:c=.nil:=by simpa only[qK]using y
  subst x;obtain⟨j,i⟩:=qON g el sz z;exact .after (qFO j (nK e) i h)
 cases h
end
section
variable{E:Env}{σ:Wd}{C:Cx}
abbrev Rs:=Option (Cx×Y)
def qWV(C:Cx)(h:Bool):List Y->Rs
 | [.sl n _ _ _ _]=>bif h then none else some (C,.int .i64 n 0)
 | [.nil]=>bif h then none else some (C,.int .i64 0 0)
 | [.str n _]=>bif h then some (C,.int .i64 n 0)else none
 |_=>none
theorem qR6(x:COk σ C){str:Bool}{ys:List Y}{ds:List D}{r:Cx×Y}(hd:qG σ ys ds)(h:qWV C str ys=some r):yI E σ (.len str) ds r:=by
 unfold qWV at h;split at h
 ·simp only[qG]at hd;obtain⟨d,_,rfl,y,rfl⟩:=hd;cases str with
  |true=>cases h
  |false=>cases h;exact qWU x y
 ·simp only[qG,qK]at hd;obtain⟨d,_,rfl,rfl,rfl⟩:=hd;cases str with
  |true=>cases h
  |false=>cases h;exact qR5 x
 ·simp only[qG]at hd;obtain⟨d,_,rfl,y,rfl⟩:=hd;cases str with
  |true=>cases h;exact qR4 x y
  |false=>cases h
 cases h
def zC2(C:Cx):List Y->Rs
 | [.sl n _ _ _ e,.int .i64 v c]=>qSf C n e v c
 |_=>none
theorem qW4(x:COk σ C){ys:List Y}{ds:List D}{r:Cx×Y}(hd:qG σ ys ds)(h:zC2 C ys=some r):yI E σ .inr ds r:=by
 unfold zC2 at h;split at h
 ·simp only[qG]at hd;obtain⟨d,_,rfl,b,i,_,rfl,y,rfl⟩:=hd;exact qPd x b y h
 cases h
def zDk(C:Cx)(sz:Nat)(ag:Bool)(size off:Nat):List Y->Rs
 | [.sl n _ h b _,.int .i64 v c]=>bif Nat.ble b 300000000&&Nat.beq h sz then(qPM C n v c sz ag size off).map (λy=>(C,y))else none
 |_=>none
theorem qXs(c:COk σ C){sz size off:Nat}{ag:Bool}{ys:List Y}{ds:List D}{r:Cx×Y}(hd:qG σ ys ds)(h:zDk C sz ag size off ys=some r):yI E σ (.elem sz ag size off) ds r:=by
 unfold zDk at h;split at h
 ·simp only[qG]at hd;obtain⟨d,_,rfl,g,i,_,rfl,e,rfl⟩:=hd;obtain⟨x,h⟩:=qX h;rw[zR]at x;obtain⟨y,b,rfl⟩:=Option.map_eq_some_iff.1 h;exact qBo c g e x.1 x.2 b
 cases h
def qVN(C:Cx)(ag:Bool)(n:Nat):List Y->Rs
 | [.st cs]=>bif ag&&Nat.beq cs.length n then some (C,.st cs)else none
 | [y]=>bif !ag&&Nat.beq n 1&&qFd y then some (C,y)else none
 |_=>none
theorem qRa(e:COk σ C){n:Nat}{ag:Bool}{ys:List Y}{ds:List D}{r:Cx×Y}(hd:qG σ ys ds)(h:qVN C ag n ys=some r):yI E σ (.chk ag n) ds r:=by
 unfold qVN at h;split at h
 ·simp only[qG]at hd;obtain⟨d,_,rfl,y,rfl⟩:=hd;obtain⟨x,h⟩:=qX h;cases h;rw[zR]at x;obtain⟨rfl,x⟩:=x;exact qSN e y x
 ·simp only[qG]at hd;obtain⟨d,_,rfl,y,rfl⟩:=hd;obtain⟨x,h⟩:=qX h;cases h;simp only[zR]at x;obtain⟨⟨a,b⟩,c⟩:=x;have b:=vP b;subst b;cases ag with
  |true=>cases a
  |false=>exact qSP e y c
 cases h
end
section
variable{E:Env}{σ:Wd}{C:Cx}
def qXd(C:Cx)(ag:Bool)(size off:Nat):List Y->Rs
 | [.st cs]=>(qJV ag size off cs).map λy=>(C,y)
 |_=>none
theorem qSp(b:COk σ C){size off:Nat}{ag:Bool}{ys:List Y}{ds:List D}{r:Cx×Y}(hd:qG σ ys ds)(h:qXd C ag size off ys=some r):yI E σ (.fld ag size off) ds r:=by
 unfold qXd at h;split at h
 ·simp only[qG]at hd;obtain⟨d,_,rfl,c,rfl⟩:=hd;obtain⟨y,x,rfl⟩:=Option.map_eq_some_iff.1 h;exact qPq b c x
 cases h
def qXf(C:Cx)(i:Nat):List Y->Rs
 | [.tup cs]=>(cs[i]?).map λy=>(C,y)
 |_=>none
theorem qSu(b:COk σ C){i:Nat}{ys:List Y}{ds:List D}{r:Cx×Y}(hd:qG σ ys ds)(h:qXf C i ys=some r):yI E σ (.ext i) ds r:=by
 unfold qXf at h;split at h
 ·simp only[qG]at hd;obtain⟨d,_,rfl,c,rfl⟩:=hd;obtain⟨y,x,rfl⟩:=Option.map_eq_some_iff.1 h;exact qXe b c x
 cases h
def qWu(C:Cx):List Y->Rs
 | [.bool t f]=>some (C,.bool f t)
 |_=>none
theorem qRS(x:COk σ C){ty:TypeId}{ys:List Y}{ds:List D}{r:Cx×Y}(hd:qG σ ys ds)(h:qWu C ys=some r):yI E σ (.un .not ty) ds r:=by
 unfold qWu at h;split at h
 ·simp only[qG]at hd;obtain⟨d,_,rfl,y,rfl⟩:=hd;cases h;exact qWt x y
 cases h
def zD2(C:Cx):List Y->Rs
 | [.str n _,.int .i64 v c]=>bif qXI C n v c then some (C.add [(0,C.nx,0),(C.nx,0,255)] [] [] 1,.int .u8 C.nx 0)else none
 |_=>none
theorem qXJ(y:COk σ C){ys:List Y}{ds:List D}{r:Cx×Y}(hd:qG σ ys ds)(h:zD2 C ys=some r):yI E σ .chr ds r:=by
 unfold zD2 at h;split at h
 ·simp only[qG]at hd;obtain⟨d,_,rfl,c,i,_,rfl,b,rfl⟩:=hd;obtain⟨x,h⟩:=qX h;cases h;exact qXH y c b x
 cases h
def zCv(C:Cx)(el sz:Nat)(lo hi:Bool):List Y->Rs
 | [.sl n vK h b e,.int .i64 v c]=>
  bif Nat.beq vK el&&Nat.beq h sz&&Nat.ble b 300000000&&yN C.F C.L 0 0 v c&&yN C.F C.L v c n 0 then
   (match lo,hi with
   |false,true=>some (C.add [(C.nx,v,c),(v,C.nx,-c)] [(C.nx,b)] [] 1,.sl C.nx el sz b e)
   |true,false=>some (C.add [(C.nx,n,0)] [(C.nx,b)] [] 1,.sl C.nx el sz b e)
   |_,_=>none)else none
 | [.sl n vK h b e,.int .i64 v c,.int .i64 w k]=>
  bif lo&&hi&&Nat.beq vK el&&Nat.beq h sz&&yN C.F C.L 0 0 v c&&yN C.F C.L v c w k&&yN C.F C.L w k n 0 then some (C.add [(C.nx,w,k),(C.nx,n,0)] [(C.nx,b)] [] 1,.sl C.nx el sz b e)else none
 |_=>none
theorem qVU(l:COk σ C){el sz:Nat}{lo N:Bool}{ys:List Y}{ds:List D}{r:Cx×Y}(hd:qG σ ys ds)(h:zCv C el sz lo N ys=some r):yI E σ (.slc el sz lo N) ds r:=by
 unfold zCv at h;split at h
 ·simp only[qG]at hd;obtain⟨d,_,rfl,F,i,_,rfl,B,rfl⟩:=hd;obtain⟨A,h⟩:=qX h;simp only[zR]at A;obtain⟨⟨⟨⟨a1,a2⟩,a3⟩,a4⟩,a5⟩:=A;have a1:=vP a1;have a2:=vP a2;subst a1 a2;split at h
  ·cases h;exact zAg l F B a3 a4 a5
  ·cases h;exact qZX l F B a4 a5
  cases h
 ·rename_i n vK g b e v c w k;simp only[qG]at hd;obtain⟨d,_,rfl,F,i,_,rfl,B,j,_,rfl,O,rfl⟩:=hd;obtain⟨A,h⟩:=qX h;cases h;simp only[zR]at A;obtain⟨⟨⟨⟨⟨⟨rfl,rfl⟩,a1⟩,a2⟩,a3⟩,a4⟩,a5⟩:=A;have a1:=vP a1;have a2:=vP a2;subst a1 a2;simp only[qK]at F B O;obtain⟨x,M,rfl⟩:=B;obtain⟨y,G,rfl⟩:=O;obtain⟨p,u⟩:=F;obtain⟨z,R⟩:=l.s.z;have Q:=vI l.s a3 R M;have P:=vI l.s a4 M G;have H:=vI l.s a5 G p;simp only at Q P H;have t:=u;simp only[qM]at t;rcases t with rfl|⟨es,rfl,hlen,W⟩
  ·have q:(D.nil).es.length=0:=rfl;rw[q]at H p;have V:y.1+k=0:=by omega
   have I:x.1+c=0:=by omega
   refine .list l (d:=.nil) ?_ u (f2 ⟨_,_,get_new l _,zJ G,by simp only[q];omega⟩ ⟨_,_,get_new l _,zJ p,by simp only[q];omega⟩);show TOp.eval E (.slc vK g true true) [.nil,dI (x.1+c),dI (y.1+k)]=_;rw[V,I];rfl
  have he:(D.sl vK g es).es.length=es.length:=rfl;rw[he]at H p;have J:TOp.eval E (.slc vK g true true) [.sl vK g es,dI (x.1+c),dI (y.1+k)]=some (.sl vK g ((es.drop (x.1+c).toNat).take ((y.1+k).toNat-(x.1+c).toNat))):=by
   rw[cK];have K:vQ true 0 [dI (x.1+c),dI (y.1+k)]=some ((x.1+c).toNat,[dI (y.1+k)]):=by simp only[vQ,cond_true,yQ (by omega:0<=x.1+c),Option.map_some]
   have L:vQ true es.length [dI (y.1+k)]=some ((y.1+k).toNat,[]):=by simp only[vQ,cond_true,yQ (by omega:0<=y.1+k),Option.map_some]
   simp only[K,L];refine oR ?_;rw[Nat.beq_refl,Nat.beq_refl,bL (by omega),bL (by omega)];rfl
  have U:(D.sl vK g ((es.drop (x.1+c).toNat).take ((y.1+k).toNat-(x.1+c).toNat))).es.length<=(y.1+k).toNat-(x.1+c).toNat:=by show(List.take _ _).length<=_;rw[List.length_take];omega
  refine .list l J (by simp only[qM];exact .inr ⟨_,rfl,by rw[List.length_take,List.length_drop];omega,λw S=>W w (List.mem_of_mem_drop (List.mem_of_mem_take S))⟩) (f2 ⟨_,_,get_new l _,zJ G,?_⟩ ⟨_,_,get_new l _,zJ p,?_⟩);all_goals grind
 cases h
def zCs(C:Cx)(lo h:Bool):List Y->Rs
 | [.str n b,.int .i64 v c,.int .i64 w e]=>bif lo&&h&&yN C.F C.L 0 0 v c&&yN C.F C.L v c w e&&yN C.F C.L w e n 0 then some (C.add [] [(C.nx,b)] [] 1,.str C.nx b)else none
 |_=>none
theorem qVM(b:COk σ C){lo x:Bool}{ys:List Y}{ds:List D}{r:Cx×Y}(hd:qG σ ys ds)(h:zCs C lo x ys=some r):yI E σ (.sub lo x) ds r:=by
 unfold zCs at h;split at h
 ·simp only[qG]at hd;obtain⟨d,_,rfl,g,i,_,rfl,e,j,_,rfl,c,rfl⟩:=hd;obtain⟨y,h⟩:=qX h;cases h;simp only[zR]at y;obtain⟨⟨⟨⟨rfl,rfl⟩,a3⟩,a4⟩,a5⟩:=y;exact qQ9 b g e c a3 a4 a5
 cases h
def zCL(C:Cx):List Y->Rs
 | [.int .i64 _ _,.int .i64 _ _]=>some (C.add [] [] [] 1,.int .i64 C.nx 0)
 |_=>none
theorem qWE(x:COk σ C){m:Bool}{ys:List Y}{ds:List D}{r:Cx×Y}(hd:qG σ ys ds)(h:zCL C ys=some r):yI E σ (.mm m) ds r:=by
 unfold zCL at h;split at h
 ·simp only[qG]at hd;obtain⟨d,_,rfl,b,i,_,rfl,y,rfl⟩:=hd;cases h;exact qZS x b y
 cases h
end
section
variable{E:Env}{σ:Wd}{C:Cx}
def zD6(C:Cx):List Y->Rs
 | [.sl n _ sz b (.int .u8)]=>bif Nat.beq sz 1&&yN C.F C.L 0 1 n 0 then some (C.add [] [(C.nx,b)] [] 1,.str C.nx b)else none
 |_=>none
theorem qXN(y:COk σ C){ys:List Y}{ds:List D}{r:Cx×Y}(hd:qG σ ys ds)(h:zD6 C ys=some r):yI E σ .bstr ds r:=by
 unfold zD6 at h;split at h
 ·simp only[qG]at hd;obtain⟨d,_,rfl,b,rfl⟩:=hd;obtain⟨x,h⟩:=qX h;cases h;rw[zR]at x;have:=vP x.1;subst this;exact qST y b x.2
 cases h
def qSd:BinOp->Bool
 |.eql|.neq=>true
 |_=>false
theorem qKc{op:BinOp}(h:qSd op=true):op=.neq∨op=.eql:=by cases op<;>simp only[qSd]at h<;>first|(cases h;done)|exact .inl rfl|exact .inr rfl
def qZN(C:Cx)(h:BinOp)(v:Nat)(c:Int)(w:Nat)(e:Int):Rs:=match h with
 |.add=>some (qXY C v c w e)
 |.sub=>some (qVL C v c w e)
 |.mul=>some (C.add [] [] [] 1,.int .i64 C.nx 0)
 |_=>none
def qXS(C:Cx)(h:BinOp):List Y->Rs
 | [.int k v c,.int k' w e]=>bif decide (k=k')then(match qXC h C v c w e with
  |some (t,f)=>some (C,.bool t f)
  |none=>bif decide (k=.i64)then qZN C h v c w e else none)else none
 | [.str _ _,.str _ _]=>bif qSd h then some (C,.bool [] [])else none
 |_=>none
theorem qS0(k:COk σ C){op:BinOp}{ty:TypeId}{a b:Operand}{ys:List Y}{ds:List D}{r:Cx×Y}(hd:qG σ ys ds)(h:qXS C op ys=some r):yI E σ (.bin op ty a b) ds r:=by
 unfold qXS at h;split at h
 ·simp only[qG]at hd;obtain⟨d,_,rfl,j,i,_,rfl,g,rfl⟩:=hd;obtain⟨e,l⟩:=qX h;clear h;have c:=dT e;clear e;subst c;split at l
  ·rename_i t f u;cases l;simp only[qK]at j g;obtain⟨x,q,rfl⟩:=j;obtain⟨y,p,rfl⟩:=g;exact qXB k u q p
  obtain⟨e,h⟩:=qX l;clear l;have c:=dT e;clear e;subst c;unfold qZN at h;split at h
  ·cases h;exact qXX k j g
  ·cases h;exact qVJ k j g
  ·cases h;exact qWz k j g
  cases h
 ·simp only[qG]at hd;obtain⟨d,_,rfl,j,i,_,rfl,g,rfl⟩:=hd;obtain⟨e,h⟩:=qX h;cases h;exact qK2 k (qKc e).symm j g
 cases h
end
def qFx:jL:=(0,0,-1)
section
variable{E:Env}{σ:Wd}{C:Cx}
def zCA(C:Cx):List Y->Rs
 | [.ptr cs o]=>some (C,.ptr cs o)
 |_=>none
theorem qWi(y:COk σ C){ys:List Y}{ds:List D}{r:Cx×Y}(hd:qG σ ys ds)(h:zCA C ys=some r):yI E σ .pchk ds r:=by
 unfold zCA at h;split at h
 ·simp only[qG]at hd;obtain⟨d,_,rfl,x,rfl⟩:=hd;cases h;have b:=x;simp only[qK]at x;obtain⟨es,rfl,_⟩:=x;exact .same y qBl b
 cases h
def zCV(C:Cx)(ag:Bool)(size:Nat):List Y->Rs
 | [.ptr cs o]=>(qJV ag size o cs).map λy=>(C,y)
 |_=>none
theorem qWW(c:COk σ C){ag:Bool}{size:Nat}{ys:List Y}{ds:List D}{r:Cx×Y}(hd:qG σ ys ds)(h:zCV C ag size ys=some r):yI E σ (.loadp ag size) ds r:=by
 unfold zCV at h;split at h
 ·simp only[qG]at hd;obtain⟨d,_,rfl,x,rfl⟩:=hd;simp only[qK]at x;obtain⟨es,rfl,x⟩:=x;obtain⟨y,b,rfl⟩:=Option.map_eq_some_iff.1 h;obtain⟨j,τ,i,g,e⟩:=qPq (E:=E) c (d:=.agg es) (by simp only[qK];exact⟨es,rfl,x⟩) b;exact⟨j,τ,i,g,e⟩
 cases h
def zFt(C:Cx)(ys:List Y):Rs:=some (C,.ptr ys 0)
theorem qXO(x:COk σ C){ys:List Y}{ds:List D}{r:Cx×Y}(hd:qG σ ys ds)(h:zFt C ys=some r):yI E σ .box ds r:=by cases h;exact .same x qPK (by simp only[qK];exact⟨ds,rfl,hd⟩)
def zD4(C:Cx):List Y->Rs
 | [.st cs]=>some (C,.ptr cs 0)
 |_=>none
theorem qXL(y:COk σ C){ys:List Y}{ds:List D}{r:Cx×Y}(hd:qG σ ys ds)(h:zD4 C ys=some r):yI E σ .boxw ds r:=by
 unfold zD4 at h;split at h
 ·simp only[qG]at hd;obtain⟨d,_,rfl,x,rfl⟩:=hd;cases h;simp only[qK]at x;obtain⟨es,rfl,x⟩:=x;exact .same y tN (by simp only[qK];exact⟨es,rfl,x⟩)
 cases h
def zCC(C:Cx)(h:Bool):List Y->Rs
 | [.nil]=>some (C,bif h then .bool [qFx] []else .bool [] [qFx])
 | [.sl _ _ _ _ _]=>some (C,.bool [] [])
 |_=>none
theorem qWx(y:COk σ C){neg:Bool}{ys:List Y}{ds:List D}{r:Cx×Y}(hd:qG σ ys ds)(h:zCC C neg ys=some r):yI E σ (.isNil neg) ds r:=by
 unfold zCC at h;split at h
 ·simp only[qG,qK]at hd;obtain⟨d,_,rfl,rfl,rfl⟩:=hd;cases h;cases neg with
  |true=>exact .same y eD (by simp only[cond_true,qK];exact⟨false,rfl,λe=>(by cases e),λ_ q x=>(by cases x)⟩)
  |false=>exact .same y eD (by simp only[cond_false,qK];exact⟨true,rfl,λ_ q x=>(by cases x),λe=>(by cases e)⟩)
 ·simp only[qG]at hd;obtain⟨d,_,rfl,g,rfl⟩:=hd;cases h;have c:∀b:Bool,qK σ (.bool [] []) (dB b):=λb=>by simp only[qK];exact⟨b,rfl,λ_ q x=>(by cases x),λ_ q x=>(by cases x)⟩
  simp only[qK,qM]at g;rcases g.2 with rfl|⟨es,rfl,_⟩
  ·exact .same y eD (c _)
  exact .same y eD (c _)
 cases h
theorem qXR{t:TypeId}{x y:Operand}{k:IntKind}{op:BinOp}(h:op=.and∨op=.or∨op=.xor∨op=.andNot)(m n:Int):∃r:Int,TOp.eval E (.bin op t x y) [.leaf (.int k m),.leaf (.int k n)]=some (.leaf (.int k r)):=by rcases h with rfl|rfl|rfl|rfl<;>cases k<;>exact⟨_,rfl⟩
theorem qVX{t:TypeId}{x y:Operand}{k k':IntKind}{op:BinOp}(h:op=.shl∨op=.shr)(m:Int){n:Int}(c:0<=n):∃r:Int,TOp.eval E (.bin op t x y) [.leaf (.int k m),.leaf (.int k' n)]=some (.leaf (.int k r)):=by
 have b:¬n<0:=by omega
 rcases h with rfl|rfl
 ·have e:oL E .shl t x y (.int k m) (.int k' n)=flat? (qT E.prog (Op.shift .shl k m k' n)):=rfl;rw[mA];show∃r,lE (oL E .shl t x y (.int k m) (.int k' n))=_;rw[e,Op.shift,if_neg b];exact⟨_,rfl⟩
 have e:oL E .shr t x y (.int k m) (.int k' n)=flat? (qT E.prog (Op.shift .shr k m k' n)):=rfl;rw[mA];show∃r,lE (oL E .shr t x y (.int k m) (.int k' n))=_;rw[e,Op.shift,if_neg b];exact⟨_,rfl⟩
def qU2:BinOp->Bool
 |.and|.or|.xor|.andNot=>true
 |_=>false
def qU0:BinOp->Bool
 |.shl|.shr=>true
 |_=>false
theorem qPb{op:BinOp}(h:qU2 op=true):op=.and∨op=.or∨op=.xor∨op=.andNot:=by cases op<;>first|(cases h;done)|exact .inl rfl|exact .inr (.inl rfl)|exact .inr (.inr (.inl rfl))|exact .inr (.inr (.inr rfl))
theorem qPa{op:BinOp}(h:qU0 op=true):op=.shl∨op=.shr:=by cases op<;>first|(cases h;done)|exact .inl rfl|exact .inr rfl
def zD5(C:Cx)(h:BinOp):List Y->Rs
 | [.int k _ _,.int k' w e]=>bif (qU2 h&&decide (k=k'))||(qU0 h&&yN C.F C.L 0 0 w e)then some (C.add [] [] [] 1,.int k C.nx 0)else none
 |_=>none
theorem qXM(j:COk σ C){op:BinOp}{ty:TypeId}{a b:Operand}{ys:List Y}{ds:List D}{r:Cx×Y}(hd:qG σ ys ds)(h:zD5 C op ys=some r):yI E σ (.bin op ty a b) ds r:=by
 unfold zD5 at h;split at h
 ·rename_i k v c k' w e;simp only[qG]at hd;obtain⟨d,_,rfl,p,i,_,rfl,l,rfl⟩:=hd;simp only[qK]at p l;obtain⟨x,F,rfl⟩:=p;obtain⟨y,A,rfl⟩:=l;obtain⟨z,u⟩:=j.s.z;obtain⟨g,h⟩:=qX h;cases h;rcases Bool.or_eq_true_iff.1 g with g|g<;>rw[zR]at g
  ·have B:=dT g.2;subst B;obtain⟨n,hn⟩:=qXR (E:=E) (t:=ty) (x:=a) (y:=b) (qPb g.1) _ _;exact .num j hn (by simp)
  have q:=vI j.s g.2 u A;simp only at q;obtain⟨n,hn⟩:=qVX (E:=E) (t:=ty) (x:=a) (y:=b) (qPa g.1) (x.1+c) (n:=y.1+e) (by omega);exact .num j hn (by simp)
 cases h
mutual
def xH:Sn->D->Bool
 |.bool,.leaf (.bool _)=>true
 |.int k,.leaf (.int k' _)=>decide (k=k')
 |.str n,.leaf (.string s)=>Nat.ble s.size n
 |.sl _ _ _ _,.nil=>true
 |.st fs,.agg cs=>aK fs cs
 |_,_=>false
def aK:List Sn->List D->Bool
 | [],[]=>true
 |s::ss,d::ds=>xH s d&&aK ss ds
 |_,_=>false
end
mutual
theorem iE:∀{s:Sn} {d:D},xH s d=true->qM s d
 |.bool,d,h=>by
  cases d with
  |leaf v=>cases v<;>first|(simp[xH]at h;done)|(simp only[qM];exact⟨_,rfl⟩)
  |_=>simp[xH]at h
 |.int k,d,h=>by
  cases d with
  |leaf v=>cases v<;>first|(simp[xH]at h;done)|(simp only[xH,decide_eq_true_eq]at h;subst h;simp only[qM];exact⟨_,rfl⟩)
  |_=>simp[xH]at h
 |.str n,d,h=>by
  cases d with
  |leaf v=>cases v<;>first|(simp[xH]at h;done)|(simp only[xH]at h;simp only[qM];exact⟨_,rfl,oK h⟩)
  |_=>simp[xH]at h
 |.sl _ _ _ _,d,h=>by cases d<;>first|(simp[xH]at h;done)|(simp only[qM];exact .inl trivial)
 |.st fs,d,h=>by cases d<;>first|(simp only[xH]at h;simp only[qM];exact⟨_,rfl,qAu h⟩)|(simp[xH]at h;done)
 |.any,d,h=>by cases d<;>simp[xH]at h
 |.ptr _,d,h=>by cases d<;>simp[xH]at h
 |.clo _ _ _,d,h=>by cases d<;>simp[xH]at h
 |.mp _ _,d,h=>by cases d<;>simp[xH]at h
 |.wh _ _,d,h=>by cases d<;>simp[xH]at h
theorem qAu:∀{ss:List Sn} {ds:List D},aK ss ds=true->qU ss ds
 | [],[],_=>by simp only[qU]
 | [],_::_,h=>by cases h
 |_::_,[],h=>by cases h
 |s::ss,d::ds,h=>by simp only[aK,zR]at h;simp only[qU];exact⟨d,ds,rfl,iE h.1,qAu h.2⟩
end
def qO7:TypeDesc->Option IntKind->Bool
 |.string,none=>true
 |.int k,some k'=>decide (k=k')
 |_,_=>false
theorem qEe{kd:TypeDesc}{g:Option IntKind}(y:qO7 kd g=true){k:Value}(h:qLL g k):∀{c:List Value} (i:Nat),(∀v∈c,qLL g v)->∃o,dW kd k c i=some o/\∀j,o=some j->j<i+c.length
 | [],i,_=>⟨none,rfl,λj e=>by cases e⟩
 | x::r,i,p=>by
  obtain⟨b,q⟩:∃b,Instr.sameNow kd k x=some b:=by
   have l:=p x List.mem_cons_self;unfold qO7 at y;split at y
   ·obtain⟨s,rfl⟩:=h;obtain⟨t,rfl⟩:=l;exact⟨_,rfl⟩
   ·have y:=dT y;subst y;obtain⟨m,rfl⟩:=h;obtain⟨n,rfl⟩:=l;exact⟨m==n,by simp[Instr.sameNow]⟩
   cases y
  simp only[dW,q];cases b with
  |true=>exact⟨_,rfl,λj e=>by cases e;simp⟩
  |false=>obtain⟨o,w,u⟩:=qEe y h (i+1) (λv hv=>p v (mC _ hv));grind
def qWD(E:Env)(t:TypeId)(k:Option IntKind)(e:Sn):Bool:=match qGB E t with
 |some (kd,ag,z)=>qO7 kd k&&(match rF ag z with
  |some v=>zK v&&xH e (qHM v)
  |none=>false)
 |none=>false
theorem qFk{t:TypeId}{k:Option IntKind}{e:Sn}(h:qWD E t k e=true):∃kd ag z v,qGB E t=some (kd,ag,z)/\qO7 kd k=true/\rF ag z=some v/\zK v=true/\qM e (qHM v):=by
 unfold qWD at h;split at h
 ·rename_i kd ag z hm;rw[zR]at h;obtain⟨x,h⟩:=h;split at h
  ·rename_i v hv;rw[zR]at h;exact⟨kd,ag,z,v,hm,x,hv,h.1,iE h.2⟩
  cases h
 cases h
def qO6:Option IntKind->Y->Bool
 |none,.str _ _=>true
 |some k,.int k' _ _=>decide (k=k')
 |_,_=>false
theorem qFo{b:Option IntKind}{y:Y}{d:D}(hd:qK σ y d)(h:qO6 b y=true):∃v,d=.leaf v/\qLL b v:=by
 unfold qO6 at h;split at h
 ·simp only[qK]at hd;obtain⟨s,_,rfl,_⟩:=hd;exact⟨_,rfl,s,rfl⟩
 ·have h:=dT h;subst h;simp only[qK]at hd;obtain⟨x,_,rfl⟩:=hd;exact⟨_,rfl,_,rfl⟩
 cases h
abbrev qX4:=TypeId->Option (Option IntKind×Sn)
def zCO(M:qX4)(C:Cx)(t:TypeId)(ok:Bool):List Y->Rs
 | [m,k]=>match M t with
  |some (h,e)=>bif nV C m (.mp h e)&&qO6 h k then some (bif ok then((fresh e C).1,.tup [(fresh e C).2,.bool [] []])else fresh e C)else none
  |none=>none
 |_=>none
def zCK(M:qX4)(C:Cx)(t:TypeId):List Y->Rs
 | [m,k,x]=>match M t with
  |some (h,e)=>bif nV C m (.mp h e)&&qO6 h k&&nV C x e then some (C,.mp h e)else none
  |none=>none
 |_=>none
def zCP(M:qX4)(C:Cx)(t:TypeId):List Y->Rs
 | [m,k]=>match M t with
  |some (h,e)=>bif nV C m (.mp h e)&&qO6 h k then some (C,.mp h e)else none
  |none=>none
 |_=>none
theorem qCx{kd:TypeDesc}{b:Option IntKind}{e:Sn}(l:qO7 kd b=true){k:Value}(h:qLL b k){y:List Value}{ds:List D}(r:y.length=ds.length)(p:∀v∈y,qLL b v)(j:∀x∈ds,qM e x):(∃i d,dW kd k y 0=some (some i)/\ds[i]? = some d/\qM e d)∨dW kd k y 0=some none:=by
 obtain⟨o,g,q⟩:=qEe l h 0 p;cases o with
 |none=>exact .inr g
 |some i=>
  have:=q i rfl;have c:i<ds.length:=by omega
  exact .inl ⟨i,ds[i],g,List.getElem?_eq_getElem c,j _ (List.getElem_mem c)⟩
theorem qWH{M:qX4}(J:∀t k e,M t=some (k,e)->qWD E t k e=true)(A:COk σ C){t:TypeId}{ok:Bool}{ys:List Y}{ds:List D}{r:Cx×Y}(hd:qG σ ys ds)(h:zCO M C t ok ys=some r):yI E σ (.mget t ok) ds r:=by
 unfold zCO at h;split at h;case h_2=>cases h
 simp only[qG]at hd;obtain⟨m,_,rfl,L,k,_,rfl,K,rfl⟩:=hd;split at h;case h_2=>cases h
 rename_i R e G;obtain⟨p,h⟩:=qX h;rw[zR]at p;have x:=pJ A p.1 L;simp only[qM]at x;obtain⟨w,es,rfl,H,I,F⟩:=x;obtain⟨u,rfl,j⟩:=qFo K p.2;obtain⟨kd,ag,z,v,B,Q,P,O,N⟩:=qFk (J _ _ _ G);have c:∀(d:D) (b:Bool),qM e d->TOp.eval E (.mget t ok) [.mp w es,.leaf u]=some (bif ok then .tup [d,dB b]else d)->yI E σ (.mget t ok) [.mp w es,.leaf u] r:=by
  intro d b l y;obtain⟨τ,f1,f2⟩:=d8 l A;cases ok with
  |true=>cases h;refine⟨_,τ,y,f1,?_⟩;simp only[cond_true,qK];refine⟨_,rfl,?_⟩;simp only[qG,qK];exact⟨d,_,rfl,f2,_,_,rfl,⟨b,rfl,λ_ q g=>(by cases g),λ_ q g=>(by cases g)⟩,rfl⟩
  |false=>cases h;exact⟨_,τ,y,f1,f2⟩
 rcases qCx Q j H I F with⟨i,d,g1,g2,g3⟩|g1
 ·refine c d true g3 ?_;rw[qBn];unfold qD7;simp only[B,qCj,g1,g2,Option.map_some]
 refine c (qHM v) false N ?_;rw[qBn];unfold qD7;simp only[B,qCj,g1,P,O,cond_true]
theorem qWB{M:qX4}(F:∀t k e,M t=some (k,e)->qWD E t k e=true)(c:COk σ C){t:TypeId}{ys:List Y}{ds:List D}{r:Cx×Y}(hd:qG σ ys ds)(h:zCK M C t ys=some r):yI E σ (.mset t) ds r:=by
 unfold zCK at h;split at h;case h_2=>cases h
 simp only[qG]at hd;obtain⟨m,_,rfl,I,k,_,rfl,H,x,_,rfl,G,rfl⟩:=hd;split at h;case h_2=>cases h
 rename_i K e w;obtain⟨b,h⟩:=qX h;cases h;simp only[zR]at b;have y:=pJ c b.1.1 I;have q:=pJ c b.2 G;simp only[qM]at y;obtain⟨l,es,rfl,A,B,u⟩:=y;obtain⟨j,rfl,g⟩:=qFo H b.1.2;obtain⟨kd,ag,z,v,p,J,O,N,L⟩:=qFk (F _ _ _ w);rcases qCx J g A B u with⟨i,d,g1,g2,g3⟩|g1
 ·refine .same c (d:=.mp (l.set i j) (es.set i x)) ?_ ?_
  ·rw[qBm];unfold qD6;simp only[p,g1]
  simp only[qK,qM];grind
 refine .same c (d:=.mp (l++[j]) (es++[x])) ?_ ?_
 ·rw[qBm];unfold qD6;simp only[p,g1]
 simp only[qK,qM];grind
theorem qWI{M:qX4}(B:∀t k e,M t=some (k,e)->qWD E t k e=true)(g:COk σ C){t:TypeId}{ys:List Y}{ds:List D}{r:Cx×Y}(hd:qG σ ys ds)(h:zCP M C t ys=some r):yI E σ (.mdel t) ds r:=by
 unfold zCP at h;split at h;case h_2=>cases h
 simp only[qG]at hd;obtain⟨m,_,rfl,G,k,_,rfl,F,rfl⟩:=hd;split at h;case h_2=>cases h
 rename_i J e A;obtain⟨c,h⟩:=qX h;cases h;rw[zR]at c;have x:=pJ g c.1 G;simp only[qM]at x;obtain⟨j,es,rfl,p,q,l⟩:=x;obtain⟨I,rfl,b⟩:=qFo F c.2;obtain⟨kd,ag,z,v,u,H,O,N,L⟩:=qFk (B _ _ _ A);rcases qCx H b p q l with⟨i,d,g1,g2,g3⟩|g1
 ·refine .same g (d:=.mp (j.eraseIdx i) (es.eraseIdx i)) ?_ ?_
  ·rw[qKs];unfold qJ1;simp only[u,g1]
  simp only[qK,qM];have K:i<es.length:=(gI g2).1;refine⟨_,_,rfl,by rw[List.length_eraseIdx,List.length_eraseIdx,p],λw y=>q w (List.mem_of_mem_eraseIdx y),λw y=>l w (List.mem_of_mem_eraseIdx y)⟩
 refine .same g (d:=.mp j es) ?_ ?_
 ·rw[qKs];unfold qJ1;simp only[u,g1]
 simp only[qK,qM];grind
end
section
variable{E:Env}{σ:Wd}{C:Cx}
def zCM(C:Cx):List Y->Rs
 | [.mp _ _]=>some (C.add [(0,C.nx,0)] [] [] 1,.int .i64 C.nx 0)
 | [.mp0]=>some (C.add [(0,C.nx,0)] [] [] 1,.int .i64 C.nx 0)
 |_=>none
theorem qWF(y:COk σ C){ys:List Y}{ds:List D}{r:Cx×Y}(hd:qG σ ys ds)(h:zCM C ys=some r):yI E σ .mlen ds r:=by
 obtain⟨z,b⟩:=y.s.z;have e:∀x es,yI E σ .mlen [.mp x es] (C.add [(0,C.nx,0)] [] [] 1,.int .i64 C.nx 0):=λx es=>
  .num y (n:=(x.length:Int)) qKr (f1 (zJ b) (get_new y _) (by simp only;omega))
 unfold zCM at h;split at h
 ·simp only[qG]at hd;obtain⟨d,_,rfl,c,rfl⟩:=hd;cases h;simp only[qK,qM]at c;grind
 ·simp only[qG,qK]at hd;grind
 cases h
def zCR(C:Cx)(el sz bytes:Nat)(ag:Bool)(h:List Value)(e:Sn):List Y->Rs
 | [.int .i64 w c,.int .i64 v k]=>
  bif Nat.beq w 0&&decide (c=0)&&yN C.F C.L 0 0 v k&&yN C.F C.L v k 0 ((qYs C v:Int)+k).toNat&&(Nat.beq h.length sz&&h.all (λv=>zK v&&qH v)&&(ag||Nat.beq sz 1))&&Nat.ble (Nat.mul ((qYs C v:Int)+k).toNat (Nat.succ (Nat.add bytes sz))) 1000000000 then some (C.add [(C.nx,0,0),(0,C.nx,0)] [(C.nx,0)] [] 1,.sl C.nx el sz 0 e)else none
 |_=>none
theorem qWN(b:COk σ C){el sz bytes:Nat}{ag:Bool}{g:List Value}{e:Sn}{ys:List Y}{ds:List D}{r:Cx×Y}(hd:qG σ ys ds)(h:zCR C el sz bytes ag g e ys=some r):yI E σ (.mk el sz bytes ag g) ds r:=by
 unfold zCR at h;split at h
 ·rename_i w c v k;simp only[qG]at hd;obtain⟨d,_,rfl,A,i,_,rfl,u,rfl⟩:=hd;obtain⟨t,h⟩:=qX h;cases h;simp only[zR,decide_eq_true_eq]at t;obtain⟨⟨⟨⟨⟨a1,a2⟩,a3⟩,a4⟩,a5⟩,G⟩:=t;have a1:=vP a1;subst a1 a2;simp only[qK]at A u;obtain⟨x,l,rfl⟩:=A;obtain⟨y,q,rfl⟩:=u;obtain⟨z,j⟩:=b.s.z;rw[j]at l;cases l;have F:=vI b.s a3 j q;have B:=vI b.s a4 q j;simp only at F B;have hn:dS (dI (y.1+k))=some (y.1+k).toNat:=yQ (by omega);have p:TOp.eval E (.mk el sz bytes ag g) [dI (0+0),dI (y.1+k)]=some (.sl el sz []):=by rw[qPD,hn];show(bif Nat.beq g.length sz&&g.all (λv=>zK v&&qH v)&&(ag||Nat.beq sz 1)&&Nat.ble (Nat.mul (y.1+k).toNat (Nat.succ (Nat.add bytes sz))) 1000000000 then some (D.sl el sz [])else none)=_;have H:Nat.ble (Nat.mul (y.1+k).toNat (Nat.succ (Nat.add bytes sz))) 1000000000=true:=bL (lT (Nat.mul_le_mul_right _ (by omega)) (oK G));grind
  refine .list b p (by simp only[qM];exact .inr ⟨[],rfl,Nat.zero_le _,λx l=>by cases l⟩) (f2 ⟨_,_,get_new b _,zJ j,by simp[D.es]⟩ ⟨_,_,zJ j,get_new b _,by simp[D.es]⟩)
 cases h
def zDZ(C:Cx)(el sz:Nat):List Y->Rs
 | [.sl n vK h b e,.int .i64 v c]=>bif Nat.beq vK el&&Nat.beq h sz&&yN C.F C.L 0 0 v c&&yN C.F C.L v (c+1) n 0 then some (C.add [(C.nx,n,0),(n,C.nx,0)] [(C.nx,b)] [] 1,.sl C.nx el sz b e)else none
 |_=>none
theorem qXx(j:COk σ C){el sz:Nat}{ys:List Y}{ds:List D}{r:Cx×Y}(hd:qG σ ys ds)(h:zDZ C el sz ys=some r):yI E σ (.cpy el sz) ds r:=by
 unfold zDZ at h;split at h
 ·rename_i n vK y b e v c;simp only[qG]at hd;obtain⟨d,_,rfl,B,i,_,rfl,A,rfl⟩:=hd;obtain⟨u,h⟩:=qX h;cases h;simp only[zR]at u;obtain⟨⟨⟨a1,a2⟩,a3⟩,a4⟩:=u;have a1:=vP a1;have a2:=vP a2;subst a1 a2;simp only[qK]at B A;obtain⟨x,q,rfl⟩:=A;obtain⟨g,t⟩:=B;obtain⟨z,G⟩:=j.s.z;have F:=vI j.s a3 G q;have p:=vI j.s a4 q g;simp only at F p;simp only[qM]at t;rcases t with rfl|⟨es,rfl,hlen,I⟩
  ·have:(D.nil).es.length=0:=rfl;omega
  have he:(D.sl vK y es).es.length=es.length:=rfl;rw[he]at p g;obtain⟨m,hm⟩:∃m:Nat,x.1+c=(m:Int):=⟨(x.1+c).toNat,by omega⟩;have l:TOp.eval E (.cpy vK y) [.sl vK y es,dI (x.1+c)]=some (.sl vK y (eF es m)):=by rw[hm,qPG];show(bif Nat.beq vK vK&&Nat.beq y y&&Nat.ble (m+1) es.length then some (D.sl vK y (eF es m))else none)=_;rw[Nat.beq_refl,Nat.beq_refl,bL (by omega)];rfl
  have k:(D.sl vK y (eF es m)).es.length=es.length:=by show(eF es m).length=_;unfold eF;grind
  refine .list j l ?_ (f2 ⟨_,_,get_new j _,zJ g,by simp only[k];omega⟩ ⟨_,_,zJ g,get_new j _,by simp only[k];omega⟩);simp only[qM];refine .inr ⟨_,rfl,by rw[show(eF es m).length=es.length from k];exact hlen,λw H=>?_⟩;unfold eF at H;grind
 cases h
def zD1(C:Cx)(el sz:Nat)(ag:Bool)(h:List Value):List Y->Rs
 | [.sl n vK x b e,.int .i64 v c]=>bif Nat.beq vK el&&Nat.beq x sz&&yN C.F C.L 0 0 v c&&yN C.F C.L v c n 0&&yN C.F C.L 0 1 n 0&&(Nat.beq h.length sz&&h.all (λv=>zK v&&qH v)&&(ag||Nat.beq sz 1))&&xH e (zD ag h)then some (C.add [(C.nx,n,0),(n,C.nx,0)] [(C.nx,b)] [] 1,.sl C.nx el sz b e)else none
 |_=>none
theorem qXG(k:COk σ C){el sz:Nat}{ag:Bool}{g:List Value}{ys:List Y}{ds:List D}{r:Cx×Y}(hd:qG σ ys ds)(h:zD1 C el sz ag g ys=some r):yI E σ (.clr el sz ag g) ds r:=by
 unfold zD1 at h;split at h
 ·rename_i n vK y b e v c;simp only[qG]at hd;obtain⟨d,_,rfl,I,i,_,rfl,H,rfl⟩:=hd;obtain⟨G,h⟩:=qX h;cases h;simp only[zR]at G;obtain⟨⟨⟨⟨⟨⟨a1,a2⟩,a3⟩,a4⟩,a5⟩,N⟩,L⟩:=G;have a1:=vP a1;have a2:=vP a2;subst a1 a2;simp only[qK]at I H;obtain⟨x,B,rfl⟩:=H;obtain⟨j,F⟩:=I;obtain⟨z,A⟩:=k.s.z;have J:=vI k.s a3 A B;have u:=vI k.s a4 B j;have t:=vI k.s a5 A j;simp only at J u t;simp only[qM]at F;rcases F with rfl|⟨es,rfl,hlen,M⟩
  ·have:(D.nil).es.length=0:=rfl;omega
  have he:(D.sl vK y es).es.length=es.length:=rfl;rw[he]at u t j;obtain⟨m,hm⟩:∃m:Nat,x.1+c=(m:Int):=⟨(x.1+c).toNat,by omega⟩;have K:(Nat.beq g.length y&&g.all (λv=>zK v&&qH v)&&(ag||Nat.beq y 1))=true:=by grind
  have q:TOp.eval E (.clr vK y ag g) [.sl vK y es,dI (x.1+c)]=some (.sl vK y (es.take m++List.replicate (es.length-m) (zD ag g))):=by rw[hm,qPH];show(bif Nat.beq vK vK&&Nat.beq y y&&(Nat.ble m es.length&&Nat.ble 1 es.length)&&(Nat.beq g.length y&&g.all (λv=>zK v&&qH v)&&(ag||Nat.beq y 1))then some (D.sl vK y (es.take m++List.replicate (es.length-m) (zD ag g)))else none)=_;rw[Nat.beq_refl,Nat.beq_refl,bL (show m<=es.length by omega),bL (show 1<=es.length by omega),K];rfl
  have p:(D.sl vK y (es.take m++List.replicate (es.length-m) (zD ag g))).es.length=es.length:=by show(es.take m++List.replicate (es.length-m) (zD ag g)).length=_;grind
  refine .list k q ?_ (f2 ⟨_,_,get_new k _,zJ j,by simp only[p];omega⟩ ⟨_,_,zJ j,get_new k _,by simp only[p];omega⟩);simp only[qM];refine .inr ⟨_,rfl,by rw[show(es.take m++List.replicate (es.length-m) (zD ag g)).length=es.length from p];exact hlen,λw l=>?_⟩;rcases List.mem_append.1 l with l|l
  ·grind
  rw[List.eq_of_mem_replicate l];exact iE L
 cases h
theorem qEh:∀{fs:List Sn} {cs:List D} {i:Nat} {f:Sn} {x:D},qU fs cs->fs[i]? = some f->qM f x->qU fs (cs.take i++([x]++cs.drop (i+1)))
 | [],cs,i,f,x,h,y,b=>by simp at y
 |s::ss,cs,i,f,x,h,y,b=>by
  simp only[qU]at h;obtain⟨d,r,rfl,e,c⟩:=h;cases i with
  |zero=>simp only[List.getElem?_cons_zero,oI]at y;subst y;simp only[List.take_zero,List.nil_append,List.cons_append,Nat.zero_add,List.drop_succ_cons,List.drop_zero,qU];exact⟨x,r,rfl,b,c⟩
  |succ i=>simp only[List.getElem?_cons_succ]at y;simp only[List.take_succ_cons,List.cons_append,List.drop_succ_cons,qU];exact⟨d,_,rfl,e,qEh c y b⟩
theorem qJG(g:COk σ C){n el sz b v:Nat}{ag:Bool}{size off:Nat}{c:Int}{e:Sn}{l i x:D}(p:qK σ (.sl n el sz b e) l)(H:qK σ (.int .i64 v c) i)(N:yN C.F C.L 0 0 v c=true)(M:yN C.F C.L v (c+1) n 0=true)(A:eG ag size x=some x)(hle:Nat.ble (off+size) sz=true)(K:∀q,qM e q->qM e (uI q off x.cells)):yI E σ (.set sz ag size off) [l,i,x] (C.add [(C.nx,n,0),(n,C.nx,0)] [(C.nx,b)] [] 1,.sl C.nx el sz b e):=by
 simp only[qK]at p H;obtain⟨k,G,rfl⟩:=H;obtain⟨z,r⟩:=g.s.z;obtain⟨h,p⟩:=p;have J:=vI g.s N r G;have B:=vI g.s M G h;simp only at J B;simp only[qM]at p;rcases p with rfl|⟨es,rfl,hlen,I⟩
 ·have:(D.nil).es.length=0:=rfl;omega
 have u:(D.sl el sz es).es=es:=rfl;rw[u]at B h;have j:(k.1+c).toNat<es.length:=by omega
 have L:es[(k.1+c).toNat]? = some es[(k.1+c).toNat]:=List.getElem?_eq_getElem j;have t:TOp.eval E (.set sz ag size off) [.sl el sz es,dI (k.1+c),x]=some (.sl el sz (es.set (k.1+c).toNat (uI es[(k.1+c).toNat] off x.cells))):=by rw[qCL,yQ (by omega)];simp only[A,L];exact oR (by rw[Nat.beq_refl,hle];rfl)
 have F:(D.sl el sz (es.set (k.1+c).toNat (uI es[(k.1+c).toNat] off x.cells))).es.length=es.length:=by show(es.set _ _).length=_;rw[List.length_set]
 refine .list g t ?_ (f2 ⟨_,_,get_new g _,zJ h,by simp only[F];omega⟩ ⟨_,_,zJ h,get_new g _,by simp only[F];omega⟩);simp only[qM];refine .inr ⟨_,rfl,by rw[List.length_set];exact hlen,λw y=>?_⟩;rcases List.mem_or_eq_of_mem_set y with y|rfl
 ·exact I w y
 exact K _ (I _ (List.getElem_mem j))
def zBl:Sn->Bool
 |.st _=>true
 |.wh s _=>zBl s
 |_=>false
theorem qJE:∀{e:Sn} {q:D},zBl e=true->qM e q->∃cs,q=.agg cs
 |.st _,q,_,h=>by simp only[qM]at h;obtain⟨cs,rfl,_⟩:=h;exact⟨cs,rfl⟩
 |.wh s _,q,hs,h=>by simp only[qM]at h;exact qJE (e:=s) hs h.1
 |.int _,_,hs,_=>by cases hs
 |.bool,_,hs,_=>by cases hs
 |.str _,_,hs,_=>by cases hs
 |.sl _ _ _ _,_,hs,_=>by cases hs
 |.any,_,hs,_=>by cases hs
 |.ptr _,_,hs,_=>by cases hs
 |.clo _ _ _,_,hs,_=>by cases hs
 |.mp _ _,_,hs,_=>by cases hs
theorem qF8:∀{e:Sn},zBl e=true->qJP e=true
 |.st _,_=>rfl
 |.wh s _,h=>qF8 (e:=s) h
 |.int _,h=>by cases h
 |.bool,h=>by cases h
 |.str _,h=>by cases h
 |.sl _ _ _ _,h=>by cases h
 |.any,h=>by cases h
 |.ptr _,h=>by cases h
 |.clo _ _ _,h=>by cases h
 |.mp _ _,h=>by cases h
def zEQ(C:Cx)(sz size off:Nat)(n el h b:Nat)(e:Sn)(v:Nat)(c:Int)(y:Y)(k:Nat):Rs:=
 bif Nat.beq h sz&&Nat.beq size sz&&Nat.beq off 0&&Nat.beq k size&&nV C y e&&zBl e&&Nat.beq (qC1 e) sz&&yN C.F C.L 0 0 v c&&yN C.F C.L v (c+1) n 0 then some (C.add [(C.nx,n,0),(n,C.nx,0)] [(C.nx,b)] [] 1,.sl C.nx el sz b e)else none
def zER(C:Cx)(sz size off:Nat)(n el h b:Nat)(fs:List Sn)(v:Nat)(c:Int)(y:Y):Rs:=match fs[off]? with
 |some f=>bif Nat.beq h sz&&Nat.beq size 1&&Nat.ble (off+1) sz&&nV C y f&&qFd y&&yN C.F C.L 0 0 v c&&yN C.F C.L v (c+1) n 0 then some (C.add [(C.nx,n,0),(n,C.nx,0)] [(C.nx,b)] [] 1,.sl C.nx el sz b (.st fs))else none
 |none=>none
def zCx(C:Cx)(sz:Nat)(ag:Bool)(size off:Nat):List Y->Rs
 | [.sl n el h b e,.int .i64 v c,y]=>match ag,y,e with
  |true,.st cs,e=>zEQ C sz size off n el h b e v c (.st cs) cs.length
  |false,y,.st fs=>zER C sz size off n el h b fs v c y
  |_,_,_=>none
 |_=>none
theorem qWb(u:COk σ C){sz size off:Nat}{ag:Bool}{ys:List Y}{ds:List D}{r:Cx×Y}(hd:qG σ ys ds)(h:zCx C sz ag size off ys=some r):yI E σ (.set sz ag size off) ds r:=by
 unfold zCx at h;split at h
 ·rename_i n el J b e v c y;simp only[qG]at hd;obtain⟨d,_,rfl,I,i,_,rfl,H,x,_,rfl,p,rfl⟩:=hd;split at h
  ·rename_i e cs;unfold zEQ at h;obtain⟨l,h⟩:=qX h;cases h;simp only[zR]at l;obtain⟨⟨⟨⟨⟨⟨⟨⟨a1,a2⟩,a3⟩,a4⟩,a5⟩,w⟩,t⟩,M⟩,a9⟩:=l;have a1:=vP a1;have a2:=vP a2;have a3:=vP a3;have a4:=vP a4;have t:=vP t;subst a1 a2 a3;have g:=pJ u a5 p;simp only[qK]at p;obtain⟨xs,rfl,A⟩:=p;have B:xs.length=size:=by rw[←rO A];exact a4
   refine qJG u I H M a9 ?_ (bL (by omega)) λq k=>?_
   ·show(bif Nat.beq xs.length size then some (D.agg xs)else none)=_;rw[B,Nat.beq_refl];rfl
   obtain⟨z,rfl⟩:=qJE w k;have K:z.length=size:=by rw[←t];exact qFJ (qF8 w) k
   show qM _ (.agg (uH z 0 xs));have:uH z 0 xs=xs:=by unfold uH;grind
   rw[this];exact g
  ·rename_i y fs;unfold zER at h;split at h;case h_2=>cases h
   rename_i f L;obtain⟨l,h⟩:=qX h;cases h;simp only[zR]at l;obtain⟨⟨⟨⟨⟨⟨a1,a2⟩,a3⟩,a4⟩,a5⟩,w⟩,t⟩:=l;have a1:=vP a1;have a2:=vP a2;subst a1 a2;have j:=sU a5 p;have g:=pJ u a4 p;have F:x.cells=[x]:=by cases x<;>first|rfl|(simp[D.one]at j)
   refine qJG u I H w t ?_ a3 λq k=>?_
   ·show(bif x.one&&Nat.beq 1 1 then some x else none)=some x;rw[j];rfl
   rw[F];simp only[qM]at k ⊢;obtain⟨cs,rfl,G⟩:=k;exact⟨_,rfl,qEh G L g⟩
  cases h
 cases h
end
section
variable{E:Env}{σ:Wd}{C:Cx}
structure Tb where
 sh:Nat->Option Sn
 oth:TOp->List Y->Option IntKind
 st:TypeId->Option (Nat×List Sn)
 mp:qX4:=λ_=>none
structure TbOk (E:Env) (T:Tb):Prop where
 o:∀{o ys k},T.oth o ys=some k->∀{σ C ds},COk σ C->qG σ ys ds->∃n,TOp.eval E o ds=some (.leaf (.int k n))
 s:∀{t k ss},T.st t=some (k,ss)->fU E.prog k t=some (Sn.shs ss)/\lQ E.prog t=true/\k<=10000/\E.prog.eqGuardType E.prog.depth t=false/\(Sn.shs ss).all qEo=true/\Sn.lows ss=true
 m:∀t k e,T.mp t=some (k,e)->qWD E t k e=true
def qRE(T:Tb)(C:Cx)(o:TOp)(ys:List Y):Rs:=match T.oth o ys with
 |some k=>some (C.add [] [] [] 1,.int k C.nx 0)
 |none=>none
theorem qJW{T:Tb}(b:TbOk E T)(x:COk σ C){o:TOp}{ys:List Y}{ds:List D}{r:Cx×Y}(hd:qG σ ys ds)(h:qRE T C o ys=some r):yI E σ o ds r:=by
 unfold qRE at h;split at h
 ·rename_i k y;cases h;obtain⟨n,hn⟩:=b.o y x hd;exact .num x hn (by simp)
 cases h
def zCt(T:Tb)(C:Cx)(h:BinOp)(ty:TypeId):List Y->Rs
 | [.st cs,.st cs']=>match T.st ty with
  |some (_,ss)=>bif qSd h&&gS C cs ss&&gS C cs' ss then some (C,.bool [] [])else none
  |none=>none
 |_=>none
theorem qVO{T:Tb}(q:TbOk E T)(t:COk σ C){op:BinOp}{ty:TypeId}{a b:Operand}{ys:List Y}{ds:List D}{r:Cx×Y}(hd:qG σ ys ds)(h:zCt T C op ty ys=some r):yI E σ (.bin op ty a b) ds r:=by
 unfold zCt at h;split at h
 ·simp only[qG]at hd;obtain⟨d,_,rfl,w,i,_,rfl,u,rfl⟩:=hd;split at h
  ·rename_i k ss p;obtain⟨x,h⟩:=qX h;cases h;simp only[zR]at x;obtain⟨l,j,g,e,c,y⟩:=q.s p;exact qN1 t (qKc x.1.1) w u x.1.2 x.2 y l rfl j g e c
  cases h
 cases h
end
section
variable{E:Env}{σ:Wd}{C:Cx}
def zEY(C:Cx)(el sz bytes:Nat)(ag:Bool)(h:List Value)(e:Sn)(v:Nat)(c:Int)(b:Nat):Rs:=
 bif yN C.F C.L 0 0 v c&&yN C.F C.L v c 0 b&&Nat.ble b 300000000&&(Nat.beq h.length sz&&h.all (λv=>zK v&&qH v)&&(ag||Nat.beq sz 1))&&Nat.ble (bytes+sz) 2&&qJt e (zD ag h)then some (C.add [(C.nx,v,c),(v,C.nx,-c)] [(C.nx,b)] [] 1,.sl C.nx el sz b e)else none
def zCN(T:Tb)(C:Cx)(el sz bytes:Nat)(ag:Bool)(h:List Value):List Y->Rs
 | [.int .i64 v c]=>(match T.sh el with
  |some e=>zEY C el sz bytes ag h e v c ((qYs C v:Int)+c).toNat
  |none=>none)
 |_=>none
theorem qWG(k:COk σ C){T:Tb}{el sz bytes:Nat}{ag:Bool}{x:List Value}{ys:List Y}{ds:List D}{r:Cx×Y}(hd:qG σ ys ds)(h:zCN T C el sz bytes ag x ys=some r):yI E σ (.mk el sz bytes ag x) ds r:=by
 unfold zCN at h;split at h
 ·simp only[qG]at hd;obtain⟨d,_,rfl,l,rfl⟩:=hd;split at h
  ·unfold zEY at h;obtain⟨y,h⟩:=qX h;cases h;simp only[zR]at y;obtain⟨⟨⟨⟨⟨j,i⟩,g⟩,e⟩,c⟩,b⟩:=y;exact qZU k l j i g (by simp only[zR];exact e) c b
  cases h
 cases h
def qRO:Sn->Bool
 |.st _|.any|.ptr _|.clo _ _ _|.mp _ _=>false
 |.wh s _=>qRO s
 |_=>true
theorem qFe:∀{e:Sn},qRO e=true->∀{d:D},qM e d->d.one=true
 |.int _,_,d,hd=>by simp only[qM]at hd;obtain⟨_,rfl⟩:=hd;rfl
 |.bool,_,d,hd=>by simp only[qM]at hd;obtain⟨_,rfl⟩:=hd;rfl
 |.str _,_,d,hd=>by simp only[qM]at hd;obtain⟨_,rfl,_⟩:=hd;rfl
 |.sl _ _ _ _,_,d,hd=>by simp only[qM]at hd;rcases hd with rfl|⟨_,rfl,_⟩<;>rfl
 |.wh s _,h,d,hd=>by simp only[qM]at hd;exact qFe (e:=s) h hd.1
theorem qVY(g:COk σ C){n el b v:Nat}{c:Int}{e:Sn}{l i x:D}{y:Y}(t:qK σ (.sl n el 1 b e) l)(N:qK σ (.int .i64 v c) i)(Q:qK σ y x)(S:nV C y e=true)(K:qRO e=true)(V:yN C.F C.L 0 0 v c=true)(U:yN C.F C.L v (c+1) n 0=true):yI E σ (.set 1 false 1 0) [l,i,x] (C.add [(C.nx,n,0),(n,C.nx,0)] [(C.nx,b)] [] 1,.sl C.nx el 1 b e):=by
 have j:=pJ g S Q;simp only[qK]at t N;obtain⟨k,M,rfl⟩:=N;obtain⟨z,A⟩:=g.s.z;obtain⟨h,t⟩:=t;have P:=vI g.s V A M;have J:=vI g.s U M h;simp only at P J;simp only[qM]at t;rcases t with rfl|⟨es,rfl,hlen,O⟩
 ·have:(D.nil).es.length=0:=rfl;omega
 have H:(D.sl el 1 es).es=es:=rfl;rw[H]at J h;have r:(k.1+c).toNat<es.length:=by omega
 have R:es[(k.1+c).toNat]? = some es[(k.1+c).toNat]:=List.getElem?_eq_getElem r;have u:=qFe K (O _ (List.getElem_mem r));have p:=qFe K j;have B:x.cells=[x]:=by cases x<;>first|rfl|(simp[D.one]at p)
 have G:TOp.eval E (.set 1 false 1 0) [.sl el 1 es,dI (k.1+c),x]=some (.sl el 1 (es.set (k.1+c).toNat x)):=by
  rw[qCL,yQ (by omega)];have I:eG false 1 x=some x:=by show(bif x.one&&Nat.beq 1 1 then some x else none)=some x;rw[p];rfl
  simp only[I,R];refine(oR (by rfl)).trans ?_;rw[B];have:uI es[(k.1+c).toNat] 0 [x]=x:=by generalize es[(k.1+c).toNat]=q at u;cases q<;>first|rfl|(simp[D.one]at u)
  rw[this]
 have L:(D.sl el 1 (es.set (k.1+c).toNat x)).es.length=es.length:=by show(es.set (k.1+c).toNat x).length=_;rw[List.length_set]
 refine .list g G ?_ (f2 ⟨_,_,get_new g _,zJ h,by simp only[L];omega⟩ ⟨_,_,zJ h,get_new g _,by simp only[L];omega⟩);simp only[qM];refine .inr ⟨_,rfl,by rw[List.length_set];exact hlen,λw F=>?_⟩;rcases List.mem_or_eq_of_mem_set F with F|rfl
 ·exact O w F
 exact j
def zCw(C:Cx)(sz:Nat)(ag:Bool)(size off:Nat):List Y->Rs
 | [.sl n el h b e,.int .i64 v c,y]=>
  bif Nat.beq sz 1&&Nat.beq h 1&& !ag&&Nat.beq size 1&&Nat.beq off 0&&nV C y e&&qRO e&&yN C.F C.L 0 0 v c&&yN C.F C.L v (c+1) n 0 then some (C.add [(C.nx,n,0),(n,C.nx,0)] [(C.nx,b)] [] 1,.sl C.nx el 1 b e)else none
 |_=>none
theorem qWa(b:COk σ C){sz size off:Nat}{ag:Bool}{ys:List Y}{ds:List D}{r:Cx×Y}(hd:qG σ ys ds)(h:zCw C sz ag size off ys=some r):yI E σ (.set sz ag size off) ds r:=by
 unfold zCw at h;split at h
 ·simp only[qG]at hd;obtain⟨d,_,rfl,g,i,_,rfl,e,x,_,rfl,c,rfl⟩:=hd;obtain⟨y,h⟩:=qX h;cases h;simp only[zR,Bool.not_eq_true']at y;obtain⟨⟨⟨⟨⟨⟨⟨⟨a1,a2⟩,a3⟩,a4⟩,a5⟩,l⟩,k⟩,j⟩,a9⟩:=y;have a1:=vP a1;have a2:=vP a2;have a4:=vP a4;have a5:=vP a5;subst a1 a2 a3 a4 a5;exact qVY b g e c l k j a9
 cases h
end
section
variable{E:Env}{σ:Wd}{C:Cx}
def qVb(C:Cx)(el sz bytes:Nat):List Y->Rs
 | [a,b]=>qXW C el sz bytes a b
 |_=>none
def zE1(T:Tb)(C:Cx)(el sz:Nat)(ys:List Y):Rs:=match T.sh el with
 |some e=>qWR C el sz e ys
 |none=>none
def qWj(a b:Rs):Rs:=match a with
 |some r=>some r
 |none=>b
theorem qB2{a b:Rs}{r:Cx×Y}(h:qWj a b=some r):a=some r∨b=some r:=by unfold qWj at h;grind
def zEZ(T:Tb)(C:Cx)(el sz bytes:Nat)(ag:Bool)(h:List Value)(ys:List Y):Rs:=match T.sh el with
 |some e=>zCR C el sz bytes ag h e ys
 |none=>none
def zEX(C:Cx):List Y->Rs
 | []=>some (C,.mp0)
 |_=>none
def zCB(T:Tb)(C:Cx)(o:TOp)(ys:List Y):Rs:=match o with
 |.len s=>qWV C s ys
 |.inr=>zC2 C ys
 |.elem sz ag size off=>zDk C sz ag size off ys
 |.chk ag n=>qVN C ag n ys
 |.fld ag size off=>qXd C ag size off ys
 |.ext i=>qXf C i ys
 |.un .not _=>qWu C ys
 |.chr=>zD2 C ys
 |.slc el sz lo c=>zCv C el sz lo c ys
 |.sub lo c=>zCs C lo c ys
 |.bstr=>zD6 C ys
 |.mm _=>zCL C ys
 |.lit el sz=>zE1 T C el sz ys
 |.app el sz bytes=>qVb C el sz bytes ys
 |.mk el sz bytes ag h=>qWj (zCN T C el sz bytes ag h ys) (zEZ T C el sz bytes ag h ys)
 |.set sz ag size off=>qWj (zCw C sz ag size off ys) (zCx C sz ag size off ys)
 |.pchk=>zCA C ys
 |.loadp ag size=>zCV C ag size ys
 |.box=>zFt C ys
 |.boxw=>zD4 C ys
 |.isNil y=>zCC C y ys
 |.mnew=>zEX C ys
 |.mget t ok=>zCO T.mp C t ok ys
 |.mset t=>zCK T.mp C t ys
 |.mdel t=>zCP T.mp C t ys
 |.mlen=>zCM C ys
 |.cpy el sz=>zDZ C el sz ys
 |.clr el sz ag h=>zD1 C el sz ag h ys
 |.bin x ty a b=>qWj (zCt T C x ty ys) (qWj (qXS C x ys) (qWj (qRE T C (.bin x ty a b) ys) (zD5 C x ys)))
 |o=>qRE T C o ys
theorem qWr{T:Tb}(y:TbOk E T)(x:COk σ C){o:TOp}{ys:List Y}{ds:List D}{r:Cx×Y}(hd:qG σ ys ds)(h:zCB T C o ys=some r):yI E σ o ds r:=by
 unfold zCB at h;split at h
 ·exact qR6 x hd h
 ·exact qW4 x hd h
 ·exact qXs x hd h
 ·exact qRa x hd h
 ·exact qSp x hd h
 ·exact qSu x hd h
 ·exact qRS x hd h
 ·exact qXJ x hd h
 ·exact qVU x hd h
 ·exact qVM x hd h
 ·exact qXN x hd h
 ·exact qWE x hd h
 ·unfold zE1 at h;split at h
  ·exact qWQ x hd h
  cases h
 ·unfold qVb at h;split at h
  ·simp only[qG]at hd;obtain⟨d,_,rfl,c,i,_,rfl,b,rfl⟩:=hd;exact qS3 x c b h
  cases h
 ·rcases qB2 h with h|h
  ·exact qWG x hd h
  unfold zEZ at h;split at h
  ·exact qWN x hd h
  cases h
 ·rcases qB2 h with h|h
  ·exact qWa x hd h
  exact qWb x hd h
 ·exact qWi x hd h
 ·exact qWW x hd h
 ·exact qXO x hd h
 ·exact qXL x hd h
 ·exact qWx x hd h
 ·unfold zEX at h;split at h
  ·simp only[qG]at hd;subst hd;cases h;exact .same x qFz (by simp only[qK])
  cases h
 ·exact qWH y.m x hd h
 ·exact qWB y.m x hd h
 ·exact qWI y.m x hd h
 ·exact qWF x hd h
 ·exact qXx x hd h
 ·exact qXG x hd h
 ·rcases qB2 h with h|h
  ·exact qVO y x hd h
  rcases qB2 h with h|h
  ·exact qS0 x hd h
  rcases qB2 h with h|h
  ·exact qJW y x hd h
  exact qXM x hd h
 exact qJW y x hd h
end
end Go.Am.Tt
