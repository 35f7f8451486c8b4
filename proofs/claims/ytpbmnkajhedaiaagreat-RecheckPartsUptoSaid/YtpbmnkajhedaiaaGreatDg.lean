/- A table of functions, as the checker wants it told. Conditions: none. -/
import Derived.Test.YtpbmnkajhedaiaaGreatDd
set_option linter.all false
namespace Go.Proofs.YtpbmnkajhedaiaaGreat.Hr
open Go Go.Am Go.Proofs Go.Am.Tt
def n2:Sn:=(.sl 119 8 1048576 (.st [(.int .i64),(.sl 3 1 1048576 (.int .i64)),(.int .i64),(.sl 31 1 1048576 (.sl 3 1 1048576 (.int .i64))),(.int .i64),(.sl 114 2 1048576 (.st [(.str 1048576),(.str 1048576)])),(.sl 179 2 1048576 (.st [(.int .i64),(.int .i64)])),(.sl 50 2 1048576 (.st [(.int .i64),(.int .i64)]))]))
def n5:Sn:=(.st [(.sl 108 2 1048576 (.st [(.str 1048576),(.int .i64)])),(.str 1048576),(.sl 110 2 1048576 (.st [(.str 1048576),(.sl 3 1 1048576 (.int .i64))])),(.sl 172 1 1048576 (.sl 9 1 1048576 (.str 1048576))),(.sl 89 6 1048576 (.st [(.sl 3 1 1048576 (.int .i64)),(.sl 3 1 1048576 (.int .i64)),(.sl 295 2 1048576 (.st [(.int .i64),(.int .i64)])),(.sl 295 2 1048576 (.st [(.int .i64),(.int .i64)])),.bool,.bool])),(.int .i64),(.sl 112 3 1048576 (.st [(.int .i64),(.int .i64),(.int .i64)])),(.sl 3 1 1048576 (.int .i64)),(.sl 119 8 1048576 (.st [(.int .i64),(.sl 3 1 1048576 (.int .i64)),(.int .i64),(.sl 31 1 1048576 (.sl 3 1 1048576 (.int .i64))),(.int .i64),(.sl 114 2 1048576 (.st [(.str 1048576),(.str 1048576)])),(.sl 179 2 1048576 (.st [(.int .i64),(.int .i64)])),(.sl 50 2 1048576 (.st [(.int .i64),(.int .i64)]))]))])
def n7:Sn:=(.sl 3 1 1048576 (.int .i64))
def n8:Sn:=(.st [(.sl 121 3 BG (.st [(.int .i64),(.int .i64),(.int .i64)]))])
def n9:Sn:=(.sl 3 1 BG (.int .i64))
def n10:Sn:=(.sl 121 3 BG (.st [(.int .i64),(.int .i64),(.int .i64)]))
def gG:Sn:=(.st [(.int .i64),(.sl 112 3 1048576 (.st [(.int .i64),(.int .i64),(.int .i64)])),(.sl 3 1 1048576 (.int .i64))])
def qRg:List (Nat×Sn):=[(31,n7),(3,(.int .i64))]
def qKE:List (TypeId×TypeId×IntKind×IntKind):=[]
def qJR:List (Bool×TypeId×Int):=[]
def qJD:List (Nat×(Nat×List Sn)):=[]
def qWC:List (Nat×(Option IntKind×Sn)):=[]
theorem cN:∀x∈qKE,qJs EE x:=eL
theorem b9:∀x∈qJR,qJo EE x:=eL
theorem bU:∀x∈qJD,qFP EE x:=eL
def TT:Tb:=qX7 qRg qKE qJR qJD qWC
theorem TT_ok:TbOk EE TT:=qBB cN b9 bU (by kernel_rfl)
def p1:List (Nat×Pat):=[(1,⟨[⟨.fresh,true⟩,⟨.pure,true⟩,⟨.pure,true⟩,⟨.pure,true⟩,⟨.pure,false⟩],[(2,.loc 0 0),(5,.v 0),(12,.v 1),(13,.v 2),(14,.v 3)],[some (.whole (.v 4) 9)],[]⟩)]
def zDu:En:=⟨195,p1,⟨[n5,n8],[n9],[],[(aA 2,.aT [1,0],0)]⟩,[(1,⟨[n9,n10,(.int .i64),(.int .i64),n5],[(aA 2,aA 4,0),(aA 4,aA 3,0),(aA 4,.aT [1,0],0),(aA 2,aA 5,0)],[sC 999,cC 5,sC 1001]⟩)],[sC 1001,sC 0,sC 0]⟩
def p2:List (Nat×Pat):=[(1,⟨[⟨.pure,true⟩,⟨.pure,false⟩,⟨.pure,true⟩,⟨.pure,true⟩,⟨.pure,false⟩],[(2,.loc 0 0),(5,.v 0),(8,.v 1),(9,.v 2),(10,.v 3)],[some (.whole (.v 4) 3)],[]⟩)]
def zDp:En:=⟨221,p2,⟨[gG,n9],[(.int .u32)],[],[]⟩,[(1,⟨[(.int .u32),n9,(.int .i64),(.int .i64),gG],[(aA 4,aA 3,0),(.z,aA 5,0)],[sC 999,cC 5,sC 1001]⟩)],[sC 1001,sC 0,sC 0]⟩
def p3:List (Nat×Pat):=[(1,⟨[⟨.pure,true⟩,⟨.pure,true⟩,⟨.pure,true⟩,⟨.pure,true⟩],[(3,.v 0),(7,.v 1),(8,.v 2),(9,.v 3)],[],[]⟩)]
def zDo:En:=⟨222,p3,⟨[gG],[(.int .u32)],[],[]⟩,[(1,⟨[(.int .u32),n9,(.int .i64),(.int .i64)],[(aA 3,aA 2,0),(.z,aA 4,0)],[sC 999,cC 4,sC 1001]⟩)],[sC 1001,sC 0,sC 0]⟩
def zDv:En:=⟨194,[],⟨[gG,n9],[.bool],[],[]⟩,[],[sC 1001]⟩
def p4:List (Nat×Pat):=[(1,⟨[⟨.pure,true⟩,⟨.pure,true⟩,⟨.pure,true⟩,⟨.pure,false⟩,⟨.pure,false⟩],[(2,.loc 0 0),(3,.loc 1 0),(21,.v 0),(22,.v 1),(23,.v 2)],[some (.whole (.v 3) 9),some (.whole (.v 4) 1)],[]⟩)]
def e166:En:=⟨166,p4,⟨[n5,n8],[(.int .i64)],[],[(.z,aA 2,0)]⟩,[(1,⟨[n10,(.int .i64),(.int .i64),n5,n8],[(aA 2,.z,4),(aA 3,aA 2,0),(.aT [6,0],aA 3,0),(aA 3,.aT [1,0],0),(.z,aA 4,0)],[sC 999,cC 4,sC 1001]⟩)],[sC 1001,sC 0,sC 0]⟩
def hand:aG:=[(238,⟨[(.int .u32),(.int .i64)],[(.int .u32)],[],[]⟩),(168,⟨[n5,n8],[n9],[(.aT [1,0],.z,4)],[]⟩),(237,⟨[gG,(.int .u32),(.int .i64)],[(.int .u32)],[],[]⟩),(193,⟨[n2,(.int .i64)],[(.sl 114 2 1048576 (.st [(.str 1048576),(.str 1048576)]))],[],[]⟩)]
def items:List It:=[.fn zDu,.fn zDp,.fn zDo,.fn zDv,.fn e166]
theorem okI:oJ EE Tryz.prog TT (hand++gO Hs.hand Hs.items) [] items=true:=by kernel_rfl
end Go.Proofs.YtpbmnkajhedaiaaGreat.Hr
namespace Go.Proofs.YtpbmnkajhedaiaaGreat
open Go Go.Am Go.Proofs Go.Am.Tt
theorem qTe{el sz:Nat}{e:Sh}{w:D}{a b:Nat}(c:qC 300000000 (.sl el sz e) w)(j:a<=b)(h:b<=w.es.length):∃d,TOp.eval EE (.slc el sz true true) [w,dI ((a:Nat):Int),dI ((b:Nat):Int)]=some d/\qC 300000000 (.sl el sz e) d/\d.es.length=b-a:=by
 simp only[qC]at c;rcases c with rfl|⟨es,rfl,o,y⟩
 ·have y:b=0:=by simpa[D.es]using h
  subst y;have i:a=0:=by omega
  subst i;exact⟨.nil,by rw[cK];rfl,xR,rfl⟩
 have h:b<=es.length:=h;refine⟨.sl el sz ((es.drop a).take (b-a)),?_,rD (by rw[List.length_take,List.length_drop];omega) λx g=>y x (List.mem_of_mem_drop (List.mem_of_mem_take g)),by show((es.drop a).take (b-a)).length=_;rw[List.length_take,List.length_drop];omega⟩;have l:vQ true 0 [dI ((a:Nat):Int),dI ((b:Nat):Int)]=some (a,[dI ((b:Nat):Int)]):=rfl;have k:vQ true es.length [dI ((b:Nat):Int)]=some (b,[]):=rfl;rw[cK];simp only[l,k,Nat.beq_refl,bL j,bL h,Bool.and_self,cond_true]
def zBa(a b:Int):Int:=IntKind.i64.wrap ((BitVec.ofInt 64 a&&&BitVec.ofInt 64 b).toNat:Int)
theorem qSx(a b:Int){t:TypeId}{x y:Operand}:TOp.eval EE (.bin .and t x y) [dI a,dI b]=some (dI (zBa a b)):=by rw[mA];rfl
theorem qXm{x y:Operand}{m v m' v':Int}:∃t:Bool,TOp.eval EE (.bin .eql 295 x y) [.agg [dI m,dI v],.agg [dI m',dI v']]=some (dB t):=
 ⟨_,sE .eql (.inr rfl) (n:=5) (ss:=[.int .i64,.int .i64]) (by kernel_rfl) (by kernel_rfl) (by decide) (by kernel_rfl) rfl (jS wT (jS wT mT)) (jS wT (jS wT mT))⟩
theorem zAh:∀p∈Hr.hand,xZ (Holds EE) p.1 p.2:=by
 unfold Hr.hand;refine oM ?_<|oM ?_<|oM ?_<|oM ?_<|eL
 ·intro ds hd i;simp only[qU]at hd;obtain⟨_,_,rfl,⟨m,rfl⟩,_,_,rfl,⟨q,rfl⟩,rfl⟩:=hd;refine⟨[dU (qMF m q)],?_,λq y=>(by cases y),qW8 m q⟩;simp only[qU];exact⟨_,_,rfl,⟨_,rfl⟩,rfl⟩
 ·intro ds hd i;simp only[qU]at hd;obtain⟨a,_,rfl,g,b,_,rfl,u,rfl⟩:=hd;have x:qC 1048576 lY a:=zA rfl g;have j:qC 300000000 (.st [qBr]) b:=zA rfl u;have c:=i _ List.mem_cons_self;obtain⟨_,rfl,ps,_,rfl,e,rfl⟩:=j;have c:kF ps<=0+4:=c;rw[qH8 e]at c;have l:=x;obtain⟨_,rfl,_,_,rfl,_,_,_,rfl,_,_,_,rfl,_,_,_,rfl,_,_,_,rfl,_,_,_,rfl,_,_,_,rfl,_,_,_,rfl,_,_,_,rfl,_,rfl⟩:=x;obtain⟨v,hv,h⟩:=qVf rfl l e (by omega);refine⟨[v],?_,λq y=>(by cases y),h⟩;simp only[qU];exact⟨_,_,rfl,oZ rfl hv,rfl⟩
 ·intro ds hd i;simp only[qU]at hd;obtain⟨a,_,rfl,g,_,_,rfl,⟨m,rfl⟩,_,_,rfl,⟨k,rfl⟩,rfl⟩:=hd;have x:qC 1048576 (.st [.int .i64,qS8,mL]) a:=zA rfl g;obtain⟨_,rfl,_,_,rfl,⟨n,rfl⟩,ws,_,rfl,o,fs,_,rfl,t,rfl⟩:=x;obtain⟨r,h⟩:=qYj (n:=dI n) (m:=m) (k:=k) rfl (mo o) (qA t).one;refine⟨[dU r],?_,λq y=>(by cases y),h⟩;simp only[qU];exact⟨_,_,rfl,⟨_,rfl⟩,rfl⟩
 intro ds hd i;simp only[qU]at hd;obtain⟨a,_,rfl,g,_,_,rfl,⟨q,rfl⟩,rfl⟩:=hd;obtain⟨v,hv,h⟩:=qYl (id:=q) (zA (B:=1048576) rfl g);refine⟨[v],?_,λq y=>(by cases y),h⟩;simp only[qU];exact⟨_,_,rfl,vY (B:=1048576) rfl hv,rfl⟩
theorem zCj:∀p∈gO (Hr.hand++gO Hs.hand Hs.items) Hr.items,xZ (Holds EE) p.1 p.2:=(bP he (bK qIf) Hr.TT_ok (λp x=>(List.mem_append.1 x).elim (zAh p) (Hs.tab p)) (λ_ h=>by cases h) Hr.okI).1
theorem zAe:xZ (Holds EE) 166 Hr.e166.S:=k9 zCj (by kernel_rfl)
attribute [local irreducible] Go.Am.wp Go.Am.TOp.eval
theorem zC0{g:List D}{ps:D}(b:qC 1048576 lY (.agg g))(y:qC 300000000 qBr ps):∃e:Int,Holds EE 166 [.agg g,.agg [ps]] (dI e):=by obtain⟨i,h,_,c⟩:=zAe [.agg g,.agg [ps]] (by simp only[Hr.e166,qU];exact⟨_,_,rfl,vY (B:=1048576) rfl b,_,_,rfl,⟨_,rfl,_,_,rfl,oZ rfl y,rfl⟩,rfl⟩) (λq x=>by cases x);simp only[Hr.e166,qU]at h;obtain⟨_,_,rfl,⟨e,rfl⟩,rfl⟩:=h;exact⟨e,c⟩
theorem zAm{gs:D}{s:Int}(y:qC 300000000 qDE gs):Holds EE 227 [.agg [gs],dI s] (dB (decide (1<=s)&&decide (s<=(gs.es.length:Int)))):=by
 have x:=qA y;refine zBU rfl (qE.step' ?_);refine bS (qD rfl) ?_;refine bS kT ?_;refine iC (λc=>?_) λc=>?_
 ·skip;refine bS (qB (off:=0) rfl x.one) ?_;refine bS (qI x) ?_;refine bS kS ?_;exact qF rfl (by have h:decide (1<=s)=true:=tD (dT c);rw[h,Bool.true_and];rfl)
 exact qF rfl (by have h:decide (1<=s)=false:=fD (dF c);rw[h,Bool.false_and];rfl)
theorem zBH{gs:D}{s m v:Int}(g:qC 300000000 qDE gs):∃b:Bool,Holds EE 250 [.agg [gs],dI s,.agg [dI m,dI v]] (dB b):=by
 have e:=qA g;have i:gs.es.length<=300000000:=qO g;by_cases c:1<=s/\s<=(gs.es.length:Int)
 ·have h:=List.getElem?_eq_getElem (show(s-1).toNat<gs.es.length by omega);obtain⟨_,j,_,_,rfl,⟨nm,rfl,_⟩,_,_,rfl,⟨f,rfl⟩,rfl⟩:=zO g h;rw[j]at h;obtain⟨t,ht⟩:=qXm (x:=.tmp 11) (y:=.tmp 24) (m:=m) (v:=v) (m':=m) (v':=zBa f m);refine⟨t,qZd rfl (qE.step' ?_)⟩;refine bS (qD rfl) ?_;refine bS (qD rfl) ?_;refine cS (zAm g) ?_;refine qL (t:=true) (congrArg (λq=>dB q) (by rw[tD c.1,tD c.2];rfl)) ?_;refine xJ ?_;refine bS (qB (off:=0) rfl rfl) ?_;refine bS (qB (off:=0) rfl e.one) ?_;refine bS (d:=dI (s-1)) (iK (by omega)) ?_;refine bS (qV (s:=s-1) (by omega) h) ?_;refine bS (jD (s:=s-1) (off:=1) e (by omega) h rfl rfl (by decide)) ?_;refine bS (qB (off:=0) rfl rfl) ?_;refine bS (qSx _ _) ?_;refine bS ht ?_;exact qF rfl rfl
 have k:(decide (1<=s)&&decide (s<=(gs.es.length:Int)))=false:=by grind
 refine⟨false,qZd rfl (qE.step' ?_)⟩;refine bS (qD rfl) ?_;refine bS (qD rfl) ?_;refine cS (zAm g) ?_;refine qL (t:=false) (congrArg (λq=>dB q) k) ?_;refine jH ?_;exact qF rfl rfl
theorem qYi{gs g w:D}(u:qC 300000000 qDE gs)(q:qC 300000000 qTa g)(o:qC 300000000 mL w)(E:w.es.length<=g.es.length):∃b:Bool,Holds EE 240 [.clo (.func 241) [] [],.agg [gs,g],w] (dB b):=by
 have p:=qA u;have e:=qA q;have l:=qA o;have C:w.es.length<=300000000:=qO o;have j:∀i:Nat,∃d,(∃b:Bool,d=dB b)/\qE EE (Holds EE) qHS 1 [.clo (.func 241) [] [],w,dI ((w.es.length:Nat):Int),dI ((i:Nat):Int),.agg [gs,g]] d:=by
  refine vD (P:=λi:Nat=>∃d,(∃b:Bool,d=dB b)/\qE EE (Holds EE) qHS 1 [.clo (.func 241) [] [],w,dI ((w.es.length:Nat):Int),dI ((i:Nat):Int),.agg [gs,g]] d) w.es.length (λi A=>zS (R:=λd=>∃b:Bool,d=dB b) ?_);refine bS qP ?_;refine iC (λc=>?_) λc=>?_
  ·have r:=xN c;have y:=List.getElem?_eq_getElem r;obtain⟨s,hs⟩:=zO o y;rw[hs]at y;have x:=List.getElem?_eq_getElem (show i<g.es.length by omega);obtain⟨_,B,_,_,rfl,⟨m,rfl⟩,_,_,rfl,⟨v,rfl⟩,rfl⟩:=zO q x;rw[B]at x;obtain⟨t,z⟩:=zBH (s:=s) (m:=m) (v:=v) u;have k:Holds EE 241 [.agg [gs,g],dI ((i:Nat):Int),dI s] (dB t):=by refine zBP rfl (qE.step' ?_);refine bS (qD rfl) ?_;refine bS (yB (off:=0) (size:=1) rfl) ?_;refine bS (qB (off:=1) rfl e.one) ?_;refine bS (qV (s:=((i:Nat):Int)) (by omega) x) ?_;refine bS (zU (s:=((i:Nat):Int)) e (by omega) x rfl) ?_;refine cS z ?_;exact qF rfl rfl
   refine bS (qV (s:=((i:Nat):Int)) (by omega) y) ?_;refine bS (jJ (s:=((i:Nat):Int)) l (by omega) y rfl) ?_;refine cS k ?_;refine bS jU ?_;refine iC (λd=>?_) λd=>?_
   ·exact qR rfl ⟨_,rfl⟩
   refine bS (d:=dI ((i+1:Nat):Int)) (qY (qN (by omega))) ?_;exact qQ rfl (A r)
  exact qR rfl ⟨_,rfl⟩
 obtain⟨_,⟨b,rfl⟩,h⟩:=j 0;refine⟨b,zBQ rfl (qE.step' ?_)⟩;refine bS (qD rfl) ?_;refine bS (qI l) ?_;exact qS rfl h
theorem qZ4{l:D}{s:Int}(x:qC 300000000 mL l):∃n:Int,Holds EE 224 [l,dI s] (dI n)/\ -1<=n/\n<(l.es.length:Int):=by obtain⟨g,y,h,e⟩:=zAa [l,dI s] (by simp only[Hs.e224,qU];exact⟨_,_,rfl,oZ rfl x,_,_,rfl,⟨_,rfl⟩,rfl⟩) (λq c=>by cases c);simp only[Hs.e224,qU]at y;obtain⟨_,_,rfl,⟨n,rfl⟩,rfl⟩:=y;have i:(0:Int)<=n+1:=h _ List.mem_cons_self;have b:n<=kF l + -1:=h _ (mC _ List.mem_cons_self);rw[qH8 x]at b;exact⟨n,e,by omega,by omega⟩
theorem qWZ{l:D}{s n:Int}(y:qC 300000000 mL l)(h:Holds EE 224 [l,dI s] (dI n)):Holds EE 239 [l,dI s] (dB (decide (n≥0))):=by
 have x:=qA y;have k:Holds EE 249 [l,dI s] (dB (decide (n≥0))):=by refine zBO rfl (qE.step' ?_);refine cS h ?_;refine bS kT ?_;exact qF rfl rfl
 refine zBR rfl (qE.step' ?_);refine cS k ?_;exact qF rfl rfl
theorem qYk{gs fr to j g w:D}{bg en:Bool}{i:Nat}{s n:Int}(A:qC 300000000 qDE gs)(q:qC 300000000 mL fr)(G:to.one=true)(l:qC 300000000 qTa j)(k:qC 300000000 qTa g)(u:qC 300000000 mL w)(he:w.es[i]? = some (dI s))(S:Holds EE 224 [fr,dI s] (dI n)):∃b:Bool,Holds EE 223 [.agg [gs],.agg [fr,to,j,g,dB bg,dB en],w,dI ((i:Nat):Int)] (dB b)/\(b=true->n≥0):=by
 have x:=qA A;have p:=qA q;have c:=qA l;have y:=qA k;have e:=qA u;have M:j.es.length<=300000000:=qO l;have L:g.es.length<=300000000:=qO k;have Z:w.es.length<=300000000:=qO u;have hi:i<w.es.length:=(gI he).1;have qWZ:=qWZ q S;suffices U:∃d,(∃b:Bool,d=dB b/\(b=true->n≥0))/\qE EE (Holds EE) qM5 0 [.agg [gs],.agg [fr,to,j,g,dB bg,dB en],w,dI ((i:Nat):Int)] d by obtain⟨_,⟨b,rfl,V⟩,h⟩:=U;exact⟨b,zBV rfl h,V⟩
 refine zS (R:=λd=>∃b:Bool,d=dB b/\(b=true->n≥0)) ?_;have o:∃b:Bool,dB false=dB b/\(b=true->n≥0):=⟨_,rfl,λh=>by cases h⟩;refine bS (qD rfl) ?_;refine bS (qD rfl) ?_;refine bS (qB (off:=2) rfl c.one) ?_;refine bS (qI c) ?_;refine bS (d:=dI (((i:Nat):Int)-((j.es.length:Nat):Int))) (iK (by omega)) ?_;refine bS (d:=dI ((i+1:Nat):Int)) (qY (qN (by omega))) ?_;refine bS (qB (off:=3) rfl y.one) ?_;refine bS (qI y) ?_;refine bS (d:=dI (((i+1:Nat):Int)+((g.es.length:Nat):Int))) (yT (by omega)) ?_;refine bS (qB (off:=0) rfl p.one) ?_;refine bS (qV (s:=((i:Nat):Int)) (by omega) he) ?_;refine bS (jJ (s:=((i:Nat):Int)) e (by omega) he rfl) ?_;refine cS qWZ ?_;refine bS jU ?_;refine iC (λc1=>?_) λc1=>?_
 ·exact qR rfl o
 have z:n≥0:=by simpa using c1
 refine bS qP ?_;refine iC (λK=>?_) λK=>?_
 ·exact qR rfl o
 have h2:=dF K;refine bS (qI e) ?_;refine bS zW ?_;refine iC (λJ=>?_) λJ=>?_
 ·exact qR rfl o
 have h3:=dF J;obtain⟨A_,s1,I,lA⟩:=qTe (a:=i-j.es.length) (b:=i) u (by omega) (by omega);obtain⟨R_,s2,H,lR⟩:=qTe (a:=i+1) (b:=i+1+g.es.length) u (by omega) (by omega);rw[show((i-j.es.length:Nat):Int)=((i:Nat):Int)-((j.es.length:Nat):Int) by omega]at s1;rw[show((i+1+g.es.length:Nat):Int)=((i+1:Nat):Int)+((g.es.length:Nat):Int) by omega]at s2;have F:=qA I;have E:=qA H;obtain⟨ba,t⟩:=qYi A l I (by omega);obtain⟨br,r⟩:=qYi A k H (by omega);refine bS (qB (off:=4) rfl rfl) ?_;refine iC (λX=>?_) λX=>?_
 ·skip;refine bS zW ?_;refine iC (λW=>?_) λW=>?_
  ·exact qR rfl o
  refine bS (qB (off:=5) rfl rfl) ?_;refine iC (λC=>?_) λC=>?_
  ·skip;refine bS (qI e) ?_;refine bS qP ?_;refine iC (λB=>?_) λB=>?_
   ·exact qR rfl o
   refine bS (qB (off:=2) rfl c.one) ?_;refine bS (qD rfl) ?_;refine bS (qB (off:=0) rfl x.one) ?_;refine bS s1 ?_;refine cS t ?_;refine iC (λQ=>?_) λQ=>?_
   ·skip;refine bS (qB (off:=3) rfl y.one) ?_;refine bS (qD rfl) ?_;refine bS (qB (off:=0) rfl x.one) ?_;refine bS (d:=dI ((i+1:Nat):Int)) (qY (qN (by omega))) ?_;refine bS s2 ?_;refine cS r ?_;exact qR rfl ⟨_,rfl,λ_=>z⟩
   exact qR rfl ⟨_,rfl,λh=>by cases h⟩
  refine bS (qB (off:=2) rfl c.one) ?_;refine bS (qD rfl) ?_;refine bS (qB (off:=0) rfl x.one) ?_;refine bS s1 ?_;refine cS t ?_;refine iC (λP=>?_) λP=>?_
  ·skip;refine bS (qB (off:=3) rfl y.one) ?_;refine bS (qD rfl) ?_;refine bS (qB (off:=0) rfl x.one) ?_;refine bS (d:=dI ((i+1:Nat):Int)) (qY (qN (by omega))) ?_;refine bS s2 ?_;refine cS r ?_;exact qR rfl ⟨_,rfl,λ_=>z⟩
  exact qR rfl ⟨_,rfl,λh=>by cases h⟩
 refine bS (qB (off:=5) rfl rfl) ?_;refine iC (λC=>?_) λC=>?_
 ·skip;refine bS (qI e) ?_;refine bS qP ?_;refine iC (λB=>?_) λB=>?_
  ·exact qR rfl o
  refine bS (qB (off:=2) rfl c.one) ?_;refine bS (qD rfl) ?_;refine bS (qB (off:=0) rfl x.one) ?_;refine bS s1 ?_;refine cS t ?_;refine iC (λO=>?_) λO=>?_
  ·skip;refine bS (qB (off:=3) rfl y.one) ?_;refine bS (qD rfl) ?_;refine bS (qB (off:=0) rfl x.one) ?_;refine bS (d:=dI ((i+1:Nat):Int)) (qY (qN (by omega))) ?_;refine bS s2 ?_;refine cS r ?_;exact qR rfl ⟨_,rfl,λ_=>z⟩
  exact qR rfl ⟨_,rfl,λh=>by cases h⟩
 refine bS (qB (off:=2) rfl c.one) ?_;refine bS (qD rfl) ?_;refine bS (qB (off:=0) rfl x.one) ?_;refine bS s1 ?_;refine cS t ?_;refine iC (λN=>?_) λN=>?_
 ·skip;refine bS (qB (off:=3) rfl y.one) ?_;refine bS (qD rfl) ?_;refine bS (qB (off:=0) rfl x.one) ?_;refine bS (d:=dI ((i+1:Nat):Int)) (qY (qN (by omega))) ?_;refine bS s2 ?_;refine cS r ?_;exact qR rfl ⟨_,rfl,λ_=>z⟩
 exact qR rfl ⟨_,rfl,λh=>by cases h⟩
theorem zBI{gs fr to t p w:D}{bg en:Bool}(N:qC 300000000 qDE gs)(o:qC 300000000 mL fr)(A:qC 300000000 mL to)(E:qC 300000000 qTa t)(C:qC 300000000 qTa p)(F:qC 300000000 mL w)(M:to.es.length=fr.es.length):∃v,qC 300000000 mL v/\v.es.length<=w.es.length/\Holds EE 196 [.agg [gs],.agg [fr,to,t,p,dB bg,dB en],w] v:=by
 have K:=qA N;have z:=qA o;have g:=qA A;have J:=qA E;have I:=qA C;have u:=qA F;have b_w:w.es.length<=300000000:=qO F;let R:D->Prop:=λd=>qC 300000000 mL d/\d.es.length<=w.es.length;have r:∀i:Nat,∀os:List D,os.length<=i->i<=w.es.length->(∀y∈os,∃q:Int,y=dI q)->∃d,R d/\qE EE (Holds EE) qEN 1 [w,zF 3 1 os,dI ((w.es.length:Nat):Int),dI ((i:Nat):Int),.agg [gs],.agg [fr,to,t,p,dB bg,dB en]] d:=by
  refine vD (P:=λi:Nat=>∀os:List D,os.length<=i->i<=w.es.length->(∀y∈os,∃q:Int,y=dI q)->∃d,R d/\qE EE (Holds EE) qEN 1 [w,zF 3 1 os,dI ((w.es.length:Nat):Int),dI ((i:Nat):Int),.agg [gs],.agg [fr,to,t,p,dB bg,dB en]] d) w.es.length (λi H os ho hi O=>zS (R:=R) ?_);refine bS qP ?_;refine iC (λc=>?_) λc=>?_
  ·have j:=xN c;have k:=List.getElem?_eq_getElem j;obtain⟨s,hs⟩:=zO F k;rw[hs]at k;obtain⟨n,G,W,V⟩:=qZ4 (s:=s) o;obtain⟨b,Q,Z⟩:=qYk (bg:=bg) (en:=en) N o g.one E C F k G;have push:∀q:Int,TOp.eval EE (.app 3 1 8) [zF 3 1 os,.sl 3 1 [dI q]]=some (zF 3 1 (os++[dI q])):=λq=>eK (B:=300000000) (e:=.int .i64) (rD (show 1<=300000000 by decide) λx S=>by rw[List.mem_singleton.1 S];exact vO) (by decide) (by show _+1<=_;omega);have nx:∀q:Int,∃d,R d/\qE EE (Holds EE) qEN 1 [w,zF 3 1 (os++[dI q]),dI ((w.es.length:Nat):Int),dI ((i+1:Nat):Int),.agg [gs],.agg [fr,to,t,p,dB bg,dB en]] d:=λq=>H j _ (by rw[List.length_append];show _+1<=_;omega) j λy L=>by grind
   refine bS (qV (s:=((i:Nat):Int)) (by omega) k) ?_;refine bS (jJ (s:=((i:Nat):Int)) u (by omega) k rfl) ?_;refine cS Q ?_;refine iC (λd=>?_) λd=>?_
   ·have X:=Z d;have l:=List.getElem?_eq_getElem (show n.toNat<to.es.length by omega);obtain⟨q,U⟩:=zO A l;rw[U]at l;refine bS (qB (off:=1) rfl g.one) ?_;refine bS (qB (off:=0) rfl z.one) ?_;refine cS G ?_;refine bS (qV (s:=n) (by omega) l) ?_;refine bS (jJ (s:=n) g (by omega) l rfl) ?_;refine bS jO ?_;refine iC (λf=>?_) λf=>?_
    ·skip;refine bS (d:=dI ((i+1:Nat):Int)) (qY (qN (by omega))) ?_;exact qQ rfl (H j os (by omega) j O)
    refine bS (xI rfl) ?_;refine bS (qBf rfl) ?_;refine bS (push q) ?_;refine bS (d:=dI ((i+1:Nat):Int)) (qY (qN (by omega))) ?_;exact qQ rfl (nx q)
   refine bS (xI rfl) ?_;refine bS (qBf rfl) ?_;refine bS (push s) ?_;refine bS (d:=dI ((i+1:Nat):Int)) (qY (qN (by omega))) ?_;exact qQ rfl (nx s)
  exact qR rfl ⟨nN (by omega) O,by show(zF 3 1 os).es.length<=_;rw[xX];omega⟩
 obtain⟨v,⟨hv,M⟩,h⟩:=r 0 [] (Nat.zero_le _) (Nat.zero_le _) (λy L=>by cases L);refine⟨v,hv,M,zBX rfl (qE.step' ?_)⟩;refine bS (qD rfl) ?_;refine bS (qD rfl) ?_;refine bS (qI u) ?_;exact qS rfl h
def qUQ:D->Prop
 |.agg [fr,to,_,_,_,_]=>to.es.length=fr.es.length
 |_=>True
theorem qYm{gs rs w:D}(G:qC 300000000 qDE gs)(t:qC 300000000 (.sl 89 6 zBf) rs)(E:qC 300000000 mL w)(N:∀r∈rs.es,qUQ r):∃v,qC 300000000 mL v/\v.es.length<=w.es.length/\Holds EE 167 [.agg [gs],rs,w] v:=by
 have B:=qA G;have b:=qA t;have H:rs.es.length<=300000000:=qO t;let R:D->Prop:=λd=>qC 300000000 mL d/\d.es.length<=w.es.length;have e:∀i:Nat,∀x:D,R x->∃d,R d/\qE EE (Holds EE) qHY 1 [x,rs,dI ((rs.es.length:Nat):Int),dI ((i:Nat):Int),.agg [gs]] d:=by
  refine vD (P:=λi:Nat=>∀x:D,R x->∃d,R d/\qE EE (Holds EE) qHY 1 [x,rs,dI ((rs.es.length:Nat):Int),dI ((i:Nat):Int),.agg [gs]] d) rs.es.length (λi I x q=>zS (R:=R) ?_);have J:=qA q.1;refine bS qP ?_;refine iC (λc=>?_) λc=>?_
  ·have F:=xN c;have y:=List.getElem?_eq_getElem F;have l:=N _ (List.mem_of_getElem? y);obtain⟨_,M,fr,_,rfl,p,to,_,rfl,g,S,_,rfl,o,Q,_,rfl,j,_,_,rfl,⟨bg,rfl⟩,_,_,rfl,⟨en,rfl⟩,rfl⟩:=zO t y;rw[M]at y l;have C:=qA p;have u:=qA g;have A:=qA o;have z:=qA j;obtain⟨v,hv,lv,k⟩:=zBI (bg:=bg) (en:=en) G p g o j q.1 l;have L:=qA hv;refine bS (qV (s:=((i:Nat):Int)) (by omega) y) ?_;refine bS (zU (s:=((i:Nat):Int)) b (by omega) y rfl) ?_;refine bS (qD rfl) ?_;refine cS k ?_;refine bS (d:=dI ((i+1:Nat):Int)) (qY (qN (by omega))) ?_;exact qQ rfl (I F v ⟨hv,lT lv q.2⟩)
  exact qR rfl q
 have K:=qA E;obtain⟨v,⟨hv,O⟩,h⟩:=e 0 w ⟨E,vE _⟩;refine⟨v,hv,O,zB5 rfl (qE.step' ?_)⟩;refine bS (qD rfl) ?_;refine bS (qI b) ?_;exact qS rfl h
theorem zBJ{gs nm us lt rs n ws fs l y:D}(u:qC 1048576 lY (.agg [gs,nm,us,lt,rs,n,ws,fs,l]))(z:qC 1048576 qDE gs)(p:qC 1048576 qHG rs)(F:∀r∈rs.es,qUQ r)(j:qC 300000000 qBr y):∃v,∃e:Int,qC 300000000 mL v/\Holds EE 131 [.agg [gs,nm,us,lt,rs,n,ws,fs,l],.agg [y]] (.tup [v,dI e]):=by
 have o:=qA z;have g:=qA p;have x:=qA j;by_cases H:y.es.length<=4
 ·obtain⟨e,B⟩:=zC0 u j;obtain⟨b,w,C⟩:=qVf rfl u j H;obtain⟨v,hv,_,A⟩:=qYm (mo z) (mo p) w F;have E:=qA w;have i:=qA hv;suffices G:∃d,(∃v,∃e:Int,qC 300000000 mL v/\d=.tup [v,dI e])/\qE EE (Holds EE) qNA 0 [.agg [gs,nm,us,lt,rs,n,ws,fs,l],.agg [y]] d by obtain⟨_,⟨v,e,hv,rfl⟩,h⟩:=G;exact⟨v,e,hv,qZi rfl h⟩
  refine zS (R:=λd=>∃v,∃e:Int,qC 300000000 mL v/\d=.tup [v,dI e]) ?_;refine bS (qD rfl) ?_;refine bS (qD rfl) ?_;refine cS B ?_;refine bS jW ?_;refine iC (λc=>?_) λc=>?_
  ·exact qR rfl ⟨_,_,xR,rfl⟩
  refine bS (yB (off:=0) (size:=1) rfl) ?_;refine bS (qB (off:=4) rfl g.one) ?_;refine cS C ?_;refine cS A ?_;refine bS (qI i) ?_;refine bS jO ?_;refine iC (λd=>?_) λd=>?_
  ·exact qR rfl ⟨_,_,xR,rfl⟩
  exact qR rfl ⟨_,_,hv,rfl⟩
 refine⟨.nil,11,xR,qZi rfl (qE.step' ?_)⟩;have k:Holds EE 166 [.agg [gs,nm,us,lt,rs,n,ws,fs,l],.agg [y]] (dI 11):=by refine zB6 rfl (qE.step' ?_);refine bS (qD rfl) ?_;refine bS (qD rfl) ?_;refine bS (qB (off:=0) rfl x.one) ?_;refine bS (qI x) ?_;refine bS jO ?_;refine qL (t:=false) (congrArg (λq=>dB q) (fD (by omega))) ?_;refine jH ?_;refine bS (qB (off:=0) rfl x.one) ?_;refine bS (qI x) ?_;refine bS zW ?_;refine qL (t:=true) (congrArg (λq=>dB q) (tD (by omega))) ?_;refine xJ ?_;exact qF rfl rfl
 refine bS (qD rfl) ?_;refine bS (qD rfl) ?_;refine cS k ?_;refine bS jW ?_;refine qL (t:=true) (congrArg (λq=>dB q) (tD (by decide))) ?_;refine xJ ?_;exact rN rfl rfl
end Go.Proofs.YtpbmnkajhedaiaaGreat
