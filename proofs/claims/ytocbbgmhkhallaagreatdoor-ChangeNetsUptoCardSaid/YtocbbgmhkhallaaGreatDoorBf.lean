/- A table of functions, as the checker wants it told. Conditions: none. -/
import Derived.Test.YtocbbgmhkhallaaGreatDoorBb
import Derived.Test.YtocbbgmhkhallaaGreatDoorMo
import Derived.Test.YtocbbgmhkhallaaGreatDoorBe
import Derived.Test.YtocbbgmhkhallaaGreatDoorUv
set_option linter.unusedVariables false
set_option linter.unusedSimpArgs false
namespace Go.Proofs.YtocbbgmhkhallaaGreatDoor.Hs
open Go Go.Am Go.Proofs Go.Am.Tt
def n0:Sn:=(.st [(.int .i64),(.sl 3 1 1048576 (.int .i64)),(.int .i64),(.sl 31 1 1048576 (.sl 3 1 1048576 (.int .i64))),(.int .i64),(.sl 105 2 1048576 (.st [(.str 1048576),(.str 1048576)])),(.sl 73 2 1048576 (.st [(.int .i64),(.int .i64)])),(.sl 163 2 1048576 (.st [(.int .i64),(.int .i64)]))])
def n1:Sn:=(.ptr [(.int .i64)])
def n2:Sn:=(.sl 71 8 1048576 (.st [(.int .i64),(.sl 3 1 1048576 (.int .i64)),(.int .i64),(.sl 31 1 1048576 (.sl 3 1 1048576 (.int .i64))),(.int .i64),(.sl 105 2 1048576 (.st [(.str 1048576),(.str 1048576)])),(.sl 73 2 1048576 (.st [(.int .i64),(.int .i64)])),(.sl 163 2 1048576 (.st [(.int .i64),(.int .i64)]))]))
def n3:Sn:=(.kr 190 [] [(.ptr [(.int .i64)])])
def n4:Sn:=(.sl 3 1 BG (.int .i64))
def n5:Sn:=(.st [(.sl 85 2 1048576 (.st [(.str 1048576),(.int .i64)]))])
def qV1:List (Nat×Sn):=[]
def qP5:List (LN×LN×IntKind×IntKind):=[]
def qOk:List (Bool×LN×Int):=[]
def qNZ:List (Nat×(Nat×LZ)):=[]
def zAQ:List (Nat×(Option IntKind×Sn)):=[]
theorem sF:∀x∈qP5,qMZ EE x:=qAO
theorem aO:∀x∈qOk,qMW EE x:=qAO
theorem aD:∀x∈qNZ,qIo EE x:=qAO
def TT:Tb:=zAv qV1 qP5 qOk qNZ zAQ
theorem uT:TbOk EE TT:=qFq sF aO aD (by kernel_rfl)
def zDX:En:=⟨190,[],⟨[n0,n1],[.bool],[],[]⟩,[],[sC 1001]⟩
def p0:List (Nat×Pat):=[(1,⟨[⟨.pure,false⟩,⟨.pure,false⟩,⟨.pure,true⟩,⟨.pure,true⟩],[(0,.v 0),(1,.v 1),(7,.v 2),(8,.v 3)],[],[]⟩)]
def zDY:En:=⟨189,p0,⟨[n2,n3],[(.int .i64)],[],[(.z,aA 2,1),(aA 2,aA 0,-1)]⟩,[(1,⟨[n2,n3,(.int .i64),(.int .i64)],[(aA 2,aA 0,0),(aA 4,aA 2,0),(.z,aA 5,0)],[sC 999,cC 5,sC 1001]⟩)],[sC 1001,sC 0,sC 0]⟩
def e173:En:=⟨173,[],⟨[n2,(.int .i64)],[n0,.bool],[],[]⟩,[],[sC 1001]⟩
def e208:En:=⟨208,p0,⟨[n4,(.int .i64)],[(.int .i64)],[],[(.z,aA 2,1),(aA 2,aA 0,-1)]⟩,[(1,⟨[n4,(.int .i64),(.int .i64),(.int .i64)],[(aA 4,aA 2,0),(aA 4,aA 0,0),(.z,aA 5,0)],[sC 999,cC 5,sC 1001]⟩)],[sC 1001,sC 0,sC 0]⟩
def qXZ:En:=⟨116,[],⟨[n5,(.int .i64)],[.bool],[],[]⟩,[],[sC 1001]⟩
def hand:dW:=[]
def items:List It:=[.fn zDX,.fn zDY,.fn e173,.fn e208,.fn qXZ]
theorem zDa:kF EE Tryz.prog TT hand [] items=true:=by kernel_rfl
theorem tab:∀p∈oV hand items,yA (HC EE) p.1 p.2:=(iL he (hD qIP) uT (λ_ h=>by cases h) (λ_ h=>by cases h) zDa).1
end Go.Proofs.YtocbbgmhkhallaaGreatDoor.Hs
namespace Go.Proofs.YtocbbgmhkhallaaGreatDoor
open Go Go.Am Go.Proofs Go.Am.Tt
theorem zDt:∀k,(qAb k).mo=true:=by intro k;unfold qAb;split<;>rfl
theorem zEF{ds:LR}{d:D}(x:ds.length=3)(h:qP EE (HC EE) qAb 0 ds d):HC EE 169 ds d:=HC.of (λy b=>zCA (y.trans x) b) zDt h
theorem zDs:∀k,(i9 k).mo=true:=by intro k;unfold i9;split<;>rfl
theorem zEE{ds:LR}{d:D}(x:ds.length=3)(h:qP EE (HC EE) i9 0 ds d):HC EE 188 ds d:=HC.of (λy b=>zCz (y.trans x) b) zDs h
theorem zDr:∀k,(qBV k).mo=true:=by intro k;unfold qBV;split<;>rfl
theorem zED{ds:LR}{d:D}(x:ds.length=4)(h:qP EE (HC EE) qBV 0 ds d):HC EE 207 ds d:=HC.of (λy b=>zCy (y.trans x) b) zDr h
theorem zDq:∀k,(qFk k).mo=true:=by intro k;unfold qFk;split<;>rfl
theorem zEC{ds:LR}{d:D}(x:ds.length=2)(h:qP EE (HC EE) qFk 0 ds d):HC EE 218 ds d:=HC.of (λy b=>zCx (y.trans x) b) zDq h
theorem zDn:∀k,(qFi k).mo=true:=by intro k;unfold qFi;split<;>rfl
theorem zEz{ds:LR}{d:D}(x:ds.length=2)(h:qP EE (HC EE) qFi 0 ds d):HC EE 227 ds d:=HC.of (λy b=>zCu (y.trans x) b) zDn h
theorem zDp:∀k,(qAa k).mo=true:=by intro k;unfold qAa;split<;>rfl
theorem zEB{ds:LR}{d:D}(x:ds.length=3)(h:qP EE (HC EE) qAa 0 ds d):HC EE 219 ds d:=HC.of (λy b=>zCw (y.trans x) b) zDp h
theorem zDo:∀k,(qFj k).mo=true:=by intro k;unfold qFj;split<;>rfl
theorem zEA{ds:LR}{d:D}(x:ds.length=3)(h:qP EE (HC EE) qFj 0 ds d):HC EE 220 ds d:=HC.of (λy b=>zCv (y.trans x) b) zDo h
theorem zDm:∀k,(qFh k).mo=true:=by intro k;unfold qFh;split<;>rfl
theorem zBR{ds:LR}{d:D}(x:ds.length=3)(h:qP EE (HC EE) qFh 0 ds d):HC EE 228 ds d:=HC.of (λy b=>zCt (y.trans x) b) zDm h
theorem zDv:∀k,(qFl k).mo=true:=by intro k;unfold qFl;split<;>rfl
theorem zEH{ds:LR}{d:D}(x:ds.length=2)(h:qP EE (HC EE) qFl 0 ds d):HC EE 116 ds d:=HC.of (λy b=>zCG (y.trans x) b) zDv h
theorem zGK:∀k,(sX k).mo=true:=by intro k;unfold sX;split<;>rfl
theorem zHO{ds:LR}{d:D}(x:ds.length=2)(h:qP EE (HC EE) sX 0 ds d):HC EE 71 ds d:=HC.of (λy b=>zFX (y.trans x) b) zGK h
theorem zGL:∀k,(qEc k).mo=true:=by intro k;unfold qEc;split<;>rfl
theorem zHP{ds:LR}{d:D}(x:ds.length=2)(h:qP EE (HC EE) qEc 0 ds d):HC EE 37 ds d:=HC.of (λy b=>zGc (y.trans x) b) zGL h
theorem zDu:∀k,(qBW k).mo=true:=by intro k;unfold qBW;split<;>rfl
theorem zEG{ds:LR}{d:D}(x:ds.length=2)(h:qP EE (HC EE) qBW 0 ds d):HC EE 121 ds d:=HC.of (λy b=>zCF (y.trans x) b) zDu h
theorem zBb:TOp.eval EE (.isNil false) [.nil]=some (dB true):=rfl
theorem zBc{el sz:Nat}{es:LR}:TOp.eval EE (.isNil false) [.sl el sz es]=some (dB false):=rfl
theorem qYu{es:LR}(x:es.length<=1048576):TOp.eval EE (.app 105 2 32) [.sl 105 2 [],.sl 105 2 es]=some (.sl 105 2 es):=by
 rw[uJ (n:=0) rfl];have h:Nat.ble (Nat.mul (Nat.add (Nat.mul 4 (Nat.add 0 es.length)) 4000) (Nat.succ 32)) 100000000000=true:=bL (by show(4*(0+es.length)+4000)*33<=_;omega);rw[h];cases es with
 |nil=>rfl
 |cons a l=>rfl
theorem qWS:TOp.eval EE (.lit 105 2) []=some (.sl 105 2 []):=rfl
mutual
def qHf(B:Nat):Sn->Bool
 |.int _=>true
 |.bool=>true
 |.str n=>Nat.ble n B
 |.st fs=>qFV B fs
 |.sl _ _ n e=>Nat.ble n B&&qHf B e
 |.wh s _=>qHf B s
 |_=>false
def qFV(B:Nat):LZ->Bool
 | []=>true
 |s::r=>qHf B s&&qFV B r
end
mutual
theorem j8{B:Nat}:∀{s:Sn} {d:D},qHf B s=true->zC s d->qF B s.sh d
 |.int k,d,_,h=>by simp only[zC]at h;simp only[Sn.sh,qF];exact h
 |.bool,d,_,h=>by simp only[zC]at h;simp only[Sn.sh,qF];exact h
 |.str n,d,y,h=>by simp only[zC]at h;simp only[Sn.sh,qF];obtain⟨s,hs,b⟩:=h;exact⟨s,hs,lT b (oA y)⟩
 |.st fs,d,y,h=>by simp only[zC]at h;simp only[Sn.sh,qF];obtain⟨cs,hd,h⟩:=h;exact⟨cs,hd,qCK y h⟩
 |.sl el sz n e,d,y,h=>by
  simp only[qHf,aE]at y;simp only[zC]at h;simp only[Sn.sh,qF];rcases h with h|⟨es,hd,b,g⟩
  ·exact .inl h
  exact .inr ⟨es,hd,lT b (oA y.1),λx c=>j8 y.2 (g x c)⟩
 |.wh s q,d,y,h=>by simp only[zC]at h;exact(show qF B s.sh d from j8 (s:=s) y h.1)
 |.any,d,y,h=>by cases y
 |.ptr _,d,y,h=>by cases y
 |.kr _ _ _,d,y,h=>by cases y
 |.mp _ _,d,y,h=>by cases y
theorem qCK{B:Nat}:∀{ss:LZ} {ds:LR},qFV B ss=true->zS ss ds->jL B (Sn.nd ss) ds
 | [],ds,_,h=>by simp only[zS]at h;simp only[Sn.nd,jL];exact h
 |s::r,ds,x,h=>by simp only[qFV,aE]at x;simp only[zS]at h;simp only[Sn.nd,jL];obtain⟨d,y,hd,c,b⟩:=h;exact⟨d,y,hd,j8 x.1 c,qCK x.2 b⟩
end
theorem qM1{B el sz:Nat}{e:Sh}{d:D}(h:qF B (.sl el sz e) d):oK d=(d.es.length:Int):=by simp only[qF]at h;rcases h with rfl|⟨es,rfl,_⟩<;>rfl
abbrev nS:Sh:=.sl 3 1 (.int .i64)
abbrev qYK:Sh:=.st [.int .i64,.sl 3 1 (.int .i64),.int .i64,.sl 31 1 (.sl 3 1 (.int .i64)),.int .i64,.sl 105 2 (.st [.str,.str]),.sl 73 2 (.st [.int .i64,.int .i64]),.sl 163 2 (.st [.int .i64,.int .i64])]
abbrev qQt:Sh:=.sl 55 3 (.st [.int .i64,.int .i64,.int .i64])
abbrev qYI:Sh:=.sl 105 2 (.st [.str,.str])
abbrev qD2:Sh:=.sl 85 2 (.st [.str,.int .i64])
abbrev qS9:Sh:=.sl 65 2 (.st [.int .i64,.int .i64])
abbrev qS8:Sh:=.st [nS,nS,qS9,qS9,.bool,.bool]
abbrev sM:Sh:=.sl 71 8 qYK
abbrev qGA:Sh:=.sl 60 6 qS8
abbrev qM6:Sh:=.sl 81 2 (.st [.str,nS])
abbrev qQv:Sh:=.sl 37 1 (.sl 9 1 .str)
abbrev qQx:Sh:=.st [qD2,.str,qM6,qQv,qGA,.int .i64,qQt,nS,sM]
theorem mo{s:Sh}{d:D}(h:qF 1048576 s d):qF 300000000 s d:=nV (by decide) h
theorem cB{i n:Nat}(h:decide (((i:Nat):Int)<((n:Nat):Int))=true):i<n:=by have:=dT h;omega
theorem qAh{i n:Nat}(h:decide (((i:Nat):Int)<((n:Nat):Int))=false):¬i<n:=by have:=dF h;omega
attribute [local irreducible] Go.Am.wp Go.Am.TOp.eval
theorem bO{f:LO}{S:Tt.Spec}(h:gC (oV Hs.hand Hs.items) f=some S):yA (HC EE) f S:=pF Hs.tab h
theorem zBh:yA (HC EE) 173 Hs.e173.S:=bO (by kernel_rfl)
theorem zBg:yA (HC EE) 208 Hs.e208.S:=bO (by kernel_rfl)
variable{l:D}
theorem zDB{id:Int}(y:qF 1048576 sM l):∃e,∃b:Bool,qF 1048576 qYK e/\HC EE 173 [l,dI id] (.gd [e,dB b]):=by obtain⟨g,h,_,c⟩:=zBh [l,dI id] (by simp only[Hs.e173,zS];exact⟨_,_,rfl,xI (B:=1048576) rfl y,_,_,rfl,⟨_,rfl⟩,rfl⟩) (λq x=>by cases x);simp only[Hs.e173,zS]at h;obtain⟨e,_,rfl,he,_,_,rfl,⟨b,rfl⟩,rfl⟩:=h;exact⟨e,b,j8 rfl he,c⟩
def zFQ(x:D):Prop:=x=.nil∨∃es,x=.sl 105 2 es/\es.length<=1048576
theorem qVl{x:D}(h:zFQ x):qA EE 149 [x] x:=by
 rcases h with rfl|⟨es,rfl,y⟩
 ·refine zAh rfl (qP.a9 ?_);refine bS zBb ?_;refine zV (t:=true) rfl ?_;refine oB ?_;exact qE rfl rfl
 refine zAh rfl (qP.a9 ?_);refine bS zBc ?_;refine zV (t:=false) rfl ?_;refine yJ ?_;refine bS qWS ?_;refine bS (qYu y) ?_;exact qE rfl rfl
theorem zDD{x:D}(h:qF 1048576 qYI x):∃y,qF 1048576 qYI y/\HC EE 149 [x] y:=by
 have k:=h;simp only[qF]at h;have g:zFQ x:=h.elim .inl λ⟨es,e,b,_⟩=>.inr ⟨es,e,b⟩;refine⟨x,k,qVl g,λo b=>?_⟩;cases b with
 |cons c i=>
  cases i;rename_i y;refine⟨y,c,qVl ?_⟩;rcases g with rfl|⟨es,rfl,b⟩
  ·cases c;exact .inl rfl
  cases c with
  |gone=>exact .inl rfl
  |sl j=>exact .inr ⟨_,rfl,by rw[j.length];exact b⟩
theorem qN1(j:qF 1048576 sM l):∀(n i:Nat) (id:Int),i+n=l.es.length+1->∃d,qF 1048576 qYI d/\qP EE (HC EE) qBW 1000 [dI ((l.es.length+1:Nat):Int),dI ((i:Nat):Int),l,dI id] d:=by
 have w:=qC j;have E:l.es.length<=1048576:=qR j;intro n;induction n with
 |zero=>
  intro i id z;refine jF (R:=qF 1048576 qYI) ?_;refine bS zN ?_;refine iC (λc=>?_) λc=>?_
  ·have:=cB c;omega
  exact zJ rfl yR
 | succ n ih=>
  intro i id z;refine jF (R:=qF 1048576 qYI) ?_;obtain⟨e,b,he,k⟩:=zDB (id:=id) j;obtain⟨_,rfl,_,_,rfl,⟨x0,rfl⟩,x1,_,rfl,C,_,_,rfl,⟨x2,rfl⟩,x3,_,rfl,h3,_,_,rfl,⟨x4,rfl⟩,x5,_,rfl,h5,x6,_,rfl,B,x7,_,rfl,A,rfl⟩:=he;have r:=qC C;have q:=qC h3;have h:=qC h5;have p:=qC B;have o:=qC A;obtain⟨y,t,u⟩:=zDD h5;have x:=qC t;refine bS zN ?_;refine iC (λc=>?_) λc=>?_
  ·skip;refine cS k ?_;refine bS (kM rfl) ?_;refine bS (kM rfl) ?_;refine bS (qS rfl) ?_;refine bS jJ ?_;refine iC (λg=>?_) λg=>?_
   ·exact zJ rfl yR
   refine bS (qS rfl) ?_;refine bS (qB (off:=5) rfl h.one) ?_;refine bS (qO h) ?_;refine bS jS ?_;refine iC (λd=>?_) λd=>?_
   ·skip;refine bS (qB (off:=5) rfl h.one) ?_;refine cS u ?_;refine bS (wB x.one) ?_;exact zJ rfl t
   refine bS (qB (off:=4) rfl rfl) ?_;refine bS bC ?_;refine iC (λf=>?_) λf=>?_
   ·exact zJ rfl yR
   refine bS (qB (off:=4) rfl rfl) ?_;refine bS (d:=dI ((i+1:Nat):Int)) (zF (zH (by omega))) ?_;exact zK rfl (ih (i+1) x4 (by omega))
  exact zJ rfl yR
theorem zCp{id:Int}(y:qF 1048576 sM l):∃v,qF 1048576 qYI v/\HC EE 121 [l,dI id] v:=by have x:=qC y;have b:l.es.length<=1048576:=qR y;obtain⟨v,hv,h⟩:=qN1 y (l.es.length+1) 0 id (by omega);refine⟨v,hv,zEG rfl (qP.a9 ?_)⟩;refine bS (wB x.one) ?_;refine bS (wB rfl) ?_;refine bS (qO x) ?_;refine bS (d:=dI ((l.es.length+1:Nat):Int)) (zF (zH (by omega))) ?_;exact qY rfl h
theorem qTh{el sz:Nat}{e:Sh}{w:D}{a b:Nat}(c:qF 300000000 (.sl el sz e) w)(j:a<=b)(h:b<=w.es.length):∃d,TOp.eval EE (.lu el sz true true) [w,dI ((a:Nat):Int),dI ((b:Nat):Int)]=some d/\qF 300000000 (.sl el sz e) d/\d.es.length=b-a:=by
 simp only[qF]at c;rcases c with rfl|⟨es,rfl,p,y⟩
 ·have y:b=0:=by simpa[D.es]using h
  subst y;have i:a=0:=by omega
  subst i;exact⟨.nil,by rw[pZ];rfl,yR,rfl⟩
 have h:b<=es.length:=h;refine⟨.sl el sz ((es.drop a).take (b-a)),?_,mP (by rw[cg,dh];omega) λx g=>y x (dx (dm g)),by show((es.drop a).take (b-a)).length=_;rw[cg,dh];omega⟩;have o:vT true 0 [dI ((a:Nat):Int),dI ((b:Nat):Int)]=some (a,[dI ((b:Nat):Int)]):=rfl;have k:vT true es.length [dI ((b:Nat):Int)]=some (b,[]):=rfl;rw[pZ];simp only[o,k,bj,bL j,bL h,cj,ai]
def zBW(a b:Int):Int:=IntKind.i64.wrap ((BitVec.ofInt 64 a&&&BitVec.ofInt 64 b).toNat:Int)
theorem qSx(a b:Int){t:LN}{x y:LM}:TOp.eval EE (.bin .and t x y) [dI a,dI b]=some (dI (zBW a b)):=by rw[bH];rfl
theorem qXF{x y:LM}{m v m' v':Int}:∃t:Bool,TOp.eval EE (.bin .eql 65 x y) [.agg [dI m,dI v],.agg [dI m',dI v']]=some (dB t):=
 ⟨_,oP .eql (.inr rfl) (n:=5) (ss:=[.int .i64,.int .i64]) (by kernel_rfl) (by kernel_rfl) (by decide) (by kernel_rfl) rfl (qN vR (qN vR v9)) (qN vR (qN vR v9))⟩
variable{gs:D}{s:Int}
theorem zBq(y:qF 300000000 qD2 gs):HC EE 116 [.agg [gs],dI s] (dB (decide (1<=s)&&decide (s<=(gs.es.length:Int)))):=by
 have x:=qC y;refine zEH rfl (qP.a9 ?_);refine bS (qS rfl) ?_;refine bS rY ?_;refine iC (λc=>?_) λc=>?_
 ·skip;refine bS (qB (off:=0) rfl x.one) ?_;refine bS (qO x) ?_;refine bS qFs ?_;exact qE rfl (by have h:decide (1<=s)=true:=ic (dT c);rw[h,ep];rfl)
 exact qE rfl (by have h:decide (1<=s)=false:=fD (dF c);rw[h,gw];rfl)
theorem zCl{m v:Int}(i:qF 300000000 qD2 gs):∃b:Bool,HC EE 228 [.agg [gs],dI s,.agg [dI m,dI v]] (dB b):=by
 have g:=qC i;have j:gs.es.length<=300000000:=qR i;by_cases c:1<=s/\s<=(gs.es.length:Int)
 ·have e:=ak (show(s-1).toNat<gs.es.length by omega);obtain⟨_,k,_,_,rfl,⟨nm,rfl,_⟩,_,_,rfl,⟨f,rfl⟩,rfl⟩:=zG i e;rw[k]at e;obtain⟨t,o⟩:=qXF (x:=.tmp 11) (y:=.tmp 24) (m:=m) (v:=v) (m':=m) (v':=zBW f m);refine⟨t,zBR rfl (qP.a9 ?_)⟩;refine bS (qS rfl) ?_;refine bS (qS rfl) ?_;refine cS (zBq i) ?_;refine zV (t:=true) (congrArg (λq=>dB q) (by rw[ic c.1,ic c.2];rfl)) ?_;refine oB ?_;refine bS (qB (off:=0) rfl rfl) ?_;refine bS (qB (off:=0) rfl g.one) ?_;refine bS (d:=dI (s-1)) (eD (by omega)) ?_;refine bS (vD (s:=s-1) (by omega) e) ?_;refine bS (oO (s:=s-1) (off:=1) g (by omega) e rfl rfl (by decide)) ?_;refine bS (qB (off:=0) rfl rfl) ?_;refine bS (qSx _ _) ?_;refine bS o ?_;exact qE rfl rfl
 have p:(decide (1<=s)&&decide (s<=(gs.es.length:Int)))=false:=by
  by_cases h:1<=s
  ·rw[fD (λr=>c ⟨h,r⟩),Bool.and_false]
  rw[fD h,gw]
 refine⟨false,zBR rfl (qP.a9 ?_)⟩;refine bS (qS rfl) ?_;refine bS (qS rfl) ?_;refine cS (zBq i) ?_;refine zV (t:=false) (congrArg (λq=>dB q) p) ?_;refine yJ ?_;exact qE rfl rfl
theorem qYP{g w:D}(z:qF 300000000 qD2 gs)(r:qF 300000000 qS9 g)(p:qF 300000000 nS w)(E:w.es.length<=g.es.length):∃b:Bool,HC EE 219 [.kr (.func 220) [] [],.agg [gs,g],w] (dB b):=by
 have q:=qC z;have e:=qC r;have o:=qC p;have C:w.es.length<=300000000:=qR p;have j:∀i:Nat,∃d,(∃b:Bool,d=dB b)/\qP EE (HC EE) qAa 1 [.kr (.func 220) [] [],w,dI ((w.es.length:Nat):Int),dI ((i:Nat):Int),.agg [gs,g]] d:=by
  refine vQ (P:=λi:Nat=>∃d,(∃b:Bool,d=dB b)/\qP EE (HC EE) qAa 1 [.kr (.func 220) [] [],w,dI ((w.es.length:Nat):Int),dI ((i:Nat):Int),.agg [gs,g]] d) w.es.length (λi ih=>jF (R:=λd=>∃b:Bool,d=dB b) ?_);refine bS zN ?_;refine iC (λc=>?_) λc=>?_
  ·have u:=cB c;have y:=ak u;obtain⟨s,hs⟩:=zG p y;rw[hs]at y;have x:=ak (show i<g.es.length by omega);obtain⟨_,B,_,_,rfl,⟨m,rfl⟩,_,_,rfl,⟨v,rfl⟩,rfl⟩:=zG r x;rw[B]at x;obtain⟨t,A⟩:=zCl (s:=s) (m:=m) (v:=v) z;have k:HC EE 220 [.agg [gs,g],dI ((i:Nat):Int),dI s] (dB t):=by refine zEA rfl (qP.a9 ?_);refine bS (qS rfl) ?_;refine bS (kI (off:=0) (size:=1) rfl) ?_;refine bS (qB (off:=1) rfl e.one) ?_;refine bS (vD (s:=((i:Nat):Int)) (by omega) x) ?_;refine bS (xO (s:=((i:Nat):Int)) e (by omega) x rfl) ?_;refine cS A ?_;exact qE rfl rfl
   refine bS (vD (s:=((i:Nat):Int)) (by omega) y) ?_;refine bS (vX (s:=((i:Nat):Int)) o (by omega) y rfl) ?_;refine cS k ?_;refine bS jJ ?_;refine iC (λd=>?_) λd=>?_
   ·exact zJ rfl ⟨_,rfl⟩
   refine bS (d:=dI ((i+1:Nat):Int)) (zF (zH (by omega))) ?_;exact zK rfl (ih u)
  exact zJ rfl ⟨_,rfl⟩
 obtain⟨_,⟨b,rfl⟩,h⟩:=j 0;refine⟨b,zEB rfl (qP.a9 ?_)⟩;refine bS (qS rfl) ?_;refine bS (qO o) ?_;exact qY rfl h
theorem zDA(x:qF 300000000 nS l):∃n:Int,HC EE 208 [l,dI s] (dI n)/\ -1<=n/\n<(l.es.length:Int):=by obtain⟨g,y,h,e⟩:=zBg [l,dI s] (by simp only[Hs.e208,zS];exact⟨_,_,rfl,eR rfl x,_,_,rfl,⟨_,rfl⟩,rfl⟩) (λq c=>by cases c);simp only[Hs.e208,zS]at y;obtain⟨_,_,rfl,⟨n,rfl⟩,rfl⟩:=y;have i:(0:Int)<=n+1:=h _ aq;have b:n<=oK l + -1:=h _ (mC _ aq);rw[qM1 x]at b;exact⟨n,e,by omega,by omega⟩
theorem qXh{n:Int}(y:qF 300000000 nS l)(h:HC EE 208 [l,dI s] (dI n)):HC EE 218 [l,dI s] (dB (decide (n≥0))):=by
 have x:=qC y;have k:HC EE 227 [l,dI s] (dB (decide (n≥0))):=by refine zEz rfl (qP.a9 ?_);refine cS h ?_;refine bS rY ?_;exact qE rfl rfl
 refine zEC rfl (qP.a9 ?_);refine cS k ?_;exact qE rfl rfl
theorem zCm{fr to j g w:D}{bg en:Bool}{i:Nat}{n:Int}(G:qF 300000000 qD2 gs)(A:qF 300000000 nS fr)(L:to.one=true)(o:qF 300000000 qS9 j)(k:qF 300000000 qS9 g)(E:qF 300000000 nS w)(he:w.es[i]? = some (dI s))(U:HC EE 208 [fr,dI s] (dI n)):∃b:Bool,HC EE 207 [.agg [gs],.agg [fr,to,j,g,dB bg,dB en],w,dI ((i:Nat):Int)] (dB b)/\(b=true->n≥0):=by
 have x:=qC G;have z:=qC A;have c:=qC o;have y:=qC k;have e:=qC E;have S:j.es.length<=300000000:=qR o;have Q:g.es.length<=300000000:=qR k;have b_w:w.es.length<=300000000:=qR E;have hi:i<w.es.length:=(gI he).1;have qXh:=qXh A U;suffices V:∃d,(∃b:Bool,d=dB b/\(b=true->n≥0))/\qP EE (HC EE) qBV 0 [.agg [gs],.agg [fr,to,j,g,dB bg,dB en],w,dI ((i:Nat):Int)] d by obtain⟨_,⟨b,rfl,W⟩,h⟩:=V;exact⟨b,zED rfl h,W⟩
 refine jF (R:=λd=>∃b:Bool,d=dB b/\(b=true->n≥0)) ?_;have p:∃b:Bool,dB false=dB b/\(b=true->n≥0):=⟨_,rfl,λh=>by cases h⟩;refine bS (qS rfl) ?_;refine bS (qS rfl) ?_;refine bS (qB (off:=2) rfl c.one) ?_;refine bS (qO c) ?_;refine bS (d:=dI (((i:Nat):Int)-((j.es.length:Nat):Int))) (eD (by omega)) ?_;refine bS (d:=dI ((i+1:Nat):Int)) (zF (zH (by omega))) ?_;refine bS (qB (off:=3) rfl y.one) ?_;refine bS (qO y) ?_;refine bS (d:=dI (((i+1:Nat):Int)+((g.es.length:Nat):Int))) (kB (by omega)) ?_;refine bS (qB (off:=0) rfl z.one) ?_;refine bS (vD (s:=((i:Nat):Int)) (by omega) he) ?_;refine bS (vX (s:=((i:Nat):Int)) e (by omega) he rfl) ?_;refine cS qXh ?_;refine bS jJ ?_;refine iC (λc1=>?_) λc1=>?_
 ·exact zJ rfl p
 have F:n≥0:=by simpa using c1
 refine bS zN ?_;refine iC (λP=>?_) λP=>?_
 ·exact zJ rfl p
 have h2:=dF P;refine bS (qO e) ?_;refine bS jS ?_;refine iC (λO=>?_) λO=>?_
 ·exact zJ rfl p
 have h3:=dF O;obtain⟨A_,s1,N,lA⟩:=qTh (a:=i-j.es.length) (b:=i) E (by omega) (by omega);obtain⟨R_,s2,M,lR⟩:=qTh (a:=i+1) (b:=i+1+g.es.length) E (by omega) (by omega);rw[show((i-j.es.length:Nat):Int)=((i:Nat):Int)-((j.es.length:Nat):Int) by omega]at s1;rw[show((i+1+g.es.length:Nat):Int)=((i+1:Nat):Int)+((g.es.length:Nat):Int) by omega]at s2;have K:=qC N;have J:=qC M;obtain⟨ba,C⟩:=qYP G o N (by omega);obtain⟨br,B⟩:=qYP G k M (by omega);refine bS (qB (off:=4) rfl rfl) ?_;refine iC (λZ=>?_) λZ=>?_
 ·skip;refine bS jS ?_;refine iC (λX=>?_) λX=>?_
  ·exact zJ rfl p
  refine bS (qB (off:=5) rfl rfl) ?_;refine iC (λI=>?_) λI=>?_
  ·skip;refine bS (qO e) ?_;refine bS zN ?_;refine iC (λH=>?_) λH=>?_
   ·exact zJ rfl p
   refine bS (qB (off:=2) rfl c.one) ?_;refine bS (qS rfl) ?_;refine bS (qB (off:=0) rfl x.one) ?_;refine bS s1 ?_;refine cS C ?_;refine iC (λu=>?_) λu=>?_
   ·skip;refine bS (qB (off:=3) rfl y.one) ?_;refine bS (qS rfl) ?_;refine bS (qB (off:=0) rfl x.one) ?_;refine bS (d:=dI ((i+1:Nat):Int)) (zF (zH (by omega))) ?_;refine bS s2 ?_;refine cS B ?_;exact zJ rfl ⟨_,rfl,λ_=>F⟩
   exact zJ rfl ⟨_,rfl,λh=>by cases h⟩
  refine bS (qB (off:=2) rfl c.one) ?_;refine bS (qS rfl) ?_;refine bS (qB (off:=0) rfl x.one) ?_;refine bS s1 ?_;refine cS C ?_;refine iC (λt=>?_) λt=>?_
  ·skip;refine bS (qB (off:=3) rfl y.one) ?_;refine bS (qS rfl) ?_;refine bS (qB (off:=0) rfl x.one) ?_;refine bS (d:=dI ((i+1:Nat):Int)) (zF (zH (by omega))) ?_;refine bS s2 ?_;refine cS B ?_;exact zJ rfl ⟨_,rfl,λ_=>F⟩
  exact zJ rfl ⟨_,rfl,λh=>by cases h⟩
 refine bS (qB (off:=5) rfl rfl) ?_;refine iC (λI=>?_) λI=>?_
 ·skip;refine bS (qO e) ?_;refine bS zN ?_;refine iC (λH=>?_) λH=>?_
  ·exact zJ rfl p
  refine bS (qB (off:=2) rfl c.one) ?_;refine bS (qS rfl) ?_;refine bS (qB (off:=0) rfl x.one) ?_;refine bS s1 ?_;refine cS C ?_;refine iC (λr=>?_) λr=>?_
  ·skip;refine bS (qB (off:=3) rfl y.one) ?_;refine bS (qS rfl) ?_;refine bS (qB (off:=0) rfl x.one) ?_;refine bS (d:=dI ((i+1:Nat):Int)) (zF (zH (by omega))) ?_;refine bS s2 ?_;refine cS B ?_;exact zJ rfl ⟨_,rfl,λ_=>F⟩
  exact zJ rfl ⟨_,rfl,λh=>by cases h⟩
 refine bS (qB (off:=2) rfl c.one) ?_;refine bS (qS rfl) ?_;refine bS (qB (off:=0) rfl x.one) ?_;refine bS s1 ?_;refine cS C ?_;refine iC (λq=>?_) λq=>?_
 ·skip;refine bS (qB (off:=3) rfl y.one) ?_;refine bS (qS rfl) ?_;refine bS (qB (off:=0) rfl x.one) ?_;refine bS (d:=dI ((i+1:Nat):Int)) (zF (zH (by omega))) ?_;refine bS s2 ?_;refine cS B ?_;exact zJ rfl ⟨_,rfl,λ_=>F⟩
 exact zJ rfl ⟨_,rfl,λh=>by cases h⟩
theorem zCn{fr to z t w:D}{bg en:Bool}(O:qF 300000000 qD2 gs)(r:qF 300000000 nS fr)(E:qF 300000000 nS to)(G:qF 300000000 qS9 z)(F:qF 300000000 qS9 t)(H:qF 300000000 nS w)(N:to.es.length=fr.es.length):∃v,qF 300000000 nS v/\v.es.length<=w.es.length/\HC EE 188 [.agg [gs],.agg [fr,to,z,t,dB bg,dB en],w] v:=by
 have M:=qC O;have C:=qC r;have g:=qC E;have L:=qC G;have K:=qC F;have A:=qC H;have Z:w.es.length<=300000000:=qR H;let R:La:=λd=>qF 300000000 nS d/\d.es.length<=w.es.length;have u:∀i:Nat,∀os:LR,os.length<=i->i<=w.es.length->(∀y∈os,∃q:Int,y=dI q)->∃d,R d/\qP EE (HC EE) i9 1 [w,jI 3 1 os,dI ((w.es.length:Nat):Int),dI ((i:Nat):Int),.agg [gs],.agg [fr,to,z,t,dB bg,dB en]] d:=by
  refine vQ (P:=λi:Nat=>∀os:LR,os.length<=i->i<=w.es.length->(∀y∈os,∃q:Int,y=dI q)->∃d,R d/\qP EE (HC EE) i9 1 [w,jI 3 1 os,dI ((w.es.length:Nat):Int),dI ((i:Nat):Int),.agg [gs],.agg [fr,to,z,t,dB bg,dB en]] d) w.es.length (λi ih os ho hi I=>jF (R:=R) ?_);refine bS zN ?_;refine iC (λc=>?_) λc=>?_
  ·have j:=cB c;have k:=ak j;obtain⟨s,hs⟩:=zG H k;rw[hs]at k;obtain⟨n,J,V,U⟩:=zDA (s:=s) r;obtain⟨b,kb,X⟩:=zCm (bg:=bg) (en:=en) O r g.one G F H k J;have push:∀q:Int,TOp.eval EE (.app 3 1 8) [jI 3 1 os,.sl 3 1 [dI q]]=some (jI 3 1 (os++[dI q])):=λq=>qJR (B:=300000000) (e:=.int .i64) (mP (show 1<=300000000 by decide) λx Q=>by rw[aw.1 Q];exact jB) (by decide) (by show _+1<=_;omega);have nx:∀q:Int,∃d,R d/\qP EE (HC EE) i9 1 [w,jI 3 1 (os++[dI q]),dI ((w.es.length:Nat):Int),dI ((i+1:Nat):Int),.agg [gs],.agg [fr,to,z,t,dB bg,dB en]] d:=λq=>ih j _ (by rw[bx];show _+1<=_;omega) j λy p=>by
    rcases bh.1 p with p|p
    ·exact I y p
    exact⟨q,aw.1 p⟩
   refine bS (vD (s:=((i:Nat):Int)) (by omega) k) ?_;refine bS (vX (s:=((i:Nat):Int)) A (by omega) k rfl) ?_;refine cS kb ?_;refine iC (λd=>?_) λd=>?_
   ·have W:=X d;have o:=ak (show n.toNat<to.es.length by omega);obtain⟨q,S⟩:=zG E o;rw[S]at o;refine bS (qB (off:=1) rfl g.one) ?_;refine bS (qB (off:=0) rfl C.one) ?_;refine cS J ?_;refine bS (vD (s:=n) (by omega) o) ?_;refine bS (vX (s:=n) g (by omega) o rfl) ?_;refine bS bC ?_;refine iC (λf=>?_) λf=>?_
    ·skip;refine bS (d:=dI ((i+1:Nat):Int)) (zF (zH (by omega))) ?_;exact zK rfl (ih j os (by omega) j I)
    refine bS (wB rfl) ?_;refine bS (tU rfl) ?_;refine bS (push q) ?_;refine bS (d:=dI ((i+1:Nat):Int)) (zF (zH (by omega))) ?_;exact zK rfl (nx q)
   refine bS (wB rfl) ?_;refine bS (tU rfl) ?_;refine bS (push s) ?_;refine bS (d:=dI ((i+1:Nat):Int)) (zF (zH (by omega))) ?_;exact zK rfl (nx s)
  exact zJ rfl ⟨eM (by omega) I,by show(jI 3 1 os).es.length<=_;rw[qCw];omega⟩
 obtain⟨v,⟨hv,N⟩,h⟩:=u 0 [] (cq _) (cq _) (λy p=>by cases p);refine⟨v,hv,N,zEE rfl (qP.a9 ?_)⟩;refine bS (qS rfl) ?_;refine bS (qS rfl) ?_;refine bS (qO A) ?_;exact qY rfl h
def qOR:La
 |.agg [fr,to,_,_,_,_]=>to.es.length=fr.es.length
 |_=>True
theorem zCo{rs w:D}(H:qF 300000000 qD2 gs)(u:qF 300000000 (.sl 60 6 qS8) rs)(F:qF 300000000 nS w)(N:∀r∈rs.es,qOR r):∃v,qF 300000000 nS v/\v.es.length<=w.es.length/\HC EE 169 [.agg [gs],rs,w] v:=by
 have C:=qC H;have b:=qC u;have I:rs.es.length<=300000000:=qR u;let R:La:=λd=>qF 300000000 nS d/\d.es.length<=w.es.length;have e:∀i:Nat,∀x:D,R x->∃d,R d/\qP EE (HC EE) qAb 1 [x,rs,dI ((rs.es.length:Nat):Int),dI ((i:Nat):Int),.agg [gs]] d:=by
  refine vQ (P:=λi:Nat=>∀x:D,R x->∃d,R d/\qP EE (HC EE) qAb 1 [x,rs,dI ((rs.es.length:Nat):Int),dI ((i:Nat):Int),.agg [gs]] d) rs.es.length (λi ih x t=>jF (R:=R) ?_);have J:=qC t.1;refine bS zN ?_;refine iC (λc=>?_) λc=>?_
  ·have G:=cB c;have y:=ak G;have o:=N _ (be y);obtain⟨_,M,fr,_,rfl,q,to,_,rfl,g,S,_,rfl,p,Q,_,rfl,j,_,_,rfl,⟨bg,rfl⟩,_,_,rfl,⟨en,rfl⟩,rfl⟩:=zG u y;rw[M]at y o;have E:=qC q;have z:=qC g;have B:=qC p;have A:=qC j;obtain⟨v,hv,lv,k⟩:=zCn (bg:=bg) (en:=en) H q g p j t.1 o;have L:=qC hv;refine bS (vD (s:=((i:Nat):Int)) (by omega) y) ?_;refine bS (xO (s:=((i:Nat):Int)) b (by omega) y rfl) ?_;refine bS (qS rfl) ?_;refine cS k ?_;refine bS (d:=dI ((i+1:Nat):Int)) (zF (zH (by omega))) ?_;exact zK rfl (ih G v ⟨hv,lT lv t.2⟩)
  exact zJ rfl t
 have K:=qC F;obtain⟨v,⟨hv,O⟩,h⟩:=e 0 w ⟨F,vP _⟩;refine⟨v,hv,O,zEF rfl (qP.a9 ?_)⟩;refine bS (qS rfl) ?_;refine bS (qO b) ?_;exact qY rfl h
end Go.Proofs.YtocbbgmhkhallaaGreatDoor
