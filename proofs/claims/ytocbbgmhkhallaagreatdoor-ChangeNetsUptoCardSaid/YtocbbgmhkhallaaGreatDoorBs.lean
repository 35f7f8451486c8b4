/- A table of functions, as the checker wants it told. Conditions: none. -/
import Derived.Test.YtocbbgmhkhallaaGreatDoorBb
import Derived.Test.YtocbbgmhkhallaaGreatDoorBo
import Derived.Test.YtocbbgmhkhallaaGreatDoorBr
import Derived.Test.YtocbbgmhkhallaaGreatDoorMo
import Derived.Test.YtocbbgmhkhallaaGreatDoorBi
set_option linter.unusedVariables false
set_option linter.unusedSimpArgs false
namespace Go.Proofs.YtocbbgmhkhallaaGreatDoor.Hf
open Go Go.Am Go.Proofs Go.Am.Tt
def n0:Sn:=(.sl 9 1 1048576 (.str 1048576))
def qV1:List (Nat×Sn):=[]
def qP5:List (LN×LN×IntKind×IntKind):=[]
def qOk:List (Bool×LN×Int):=[]
def qNZ:List (Nat×(Nat×LZ)):=[]
def zAQ:List (Nat×(Option IntKind×Sn)):=[]
theorem sF:∀x∈qP5,qMZ EE x:=qAO
theorem aO:∀x∈qOk,qMW EE x:=qAO
theorem aD:∀x∈qNZ,qIo EE x:=qAO
def TT:Tb:=zAv qV1 qP5 qOk qNZ zAQ
theorem uT:TbOk EE TT:=qFq sF aO aD (by kernel_rfl)
def p0:List (Nat×Pat):=[(1,⟨[⟨.pure,false⟩,⟨.pure,true⟩],[(0,.v 0),(3,.v 1)],[],[]⟩)]
def e4:En:=⟨4,p0,⟨[n0],[.bool],[],[]⟩,[(1,⟨[n0,(.int .i64)],[(aA 1,aA 0,0),(.z,aA 2,0)],[sC 999,cC 2,sC 1001]⟩)],[sC 1001,sC 0,sC 0]⟩
def p1:List (Nat×Pat):=[(1,⟨[⟨.pure,false⟩,⟨.pure,false⟩,⟨.pure,true⟩,⟨.pure,true⟩],[(0,.v 0),(1,.v 1),(7,.v 2),(8,.v 3)],[],[]⟩)]
def zHI:En:=⟨69,p1,⟨[n0,(.str 1048576)],[(.int .i64)],[],[(.z,aA 2,1),(aA 2,aA 0,-1)]⟩,[(1,⟨[n0,(.str 1048576),(.int .i64),(.int .i64)],[(aA 4,aA 2,0),(aA 4,aA 0,0),(.z,aA 5,0)],[sC 999,cC 5,sC 1001]⟩)],[sC 1001,sC 0,sC 0]⟩
def zFL:En:=⟨34,[],⟨[n0,(.str 1048576)],[.bool],[],[]⟩,[],[sC 1001]⟩
def hand:dW:=[]
def items:List It:=[.fn e4,.fn zHI,.fn zFL]
theorem zDa:qE7 EE Tryz.prog TT hand [] items=true:=by kernel_rfl
theorem tab:∀p∈oV hand items,yA (qA EE) p.1 p.2:=(qDI he (hD qIP) uT (λ_ h=>by cases h) (λ_ h=>by cases h) zDa).1
theorem sp4:yA (qA EE) 4 e4.S:=pF tab (by kernel_rfl)
theorem sp34:yA (qA EE) 34 zFL.S:=pF tab (by kernel_rfl)
end Go.Proofs.YtocbbgmhkhallaaGreatDoor.Hf
namespace Go.Proofs.YtocbbgmhkhallaaGreatDoor
open Go Go.Am Go.Proofs Go.Am.Tt
variable{s:LJ}
theorem qUZ{l:LR}(b:s.size<=1048576)(h:l.length+1<=300000000):TOp.eval EE (.app 9 1 16) [jI 9 1 l,.sl 9 1 [.leaf (.string s)]]=some (jI 9 1 (l++[.leaf (.string s)])):=
 qJR (B:=300000000) (e:=.str) (mP (show 1<=300000000 by decide) λx y=>by rw[aw.1 y];exact⟨s,rfl,by omega⟩) (by decide) h
attribute [local irreducible] Go.Am.wp Go.Am.TOp.eval
abbrev qQy:Sh:=.sl 95 1 (.st [.sl 127 3 (.st [.int .i64,.int .i64,.int .i64])])
abbrev qGz:Sh:=.sl 9 1 .str
theorem zBP{G:D}(h:zC Ht.n13 G):TOp.eval EE (.mz true 9) [G]=some G:=by have b:qF 1048576 qQx G:=j8 rfl h;obtain⟨cs,rfl,y⟩:=qYw b;exact qS y
theorem zAL{G:D}(c:zC Ht.n13 G)(hs:s.size<=1048576):∃a,∃e:Int,qF 1048576 qQy a/\HC EE 13 [G,.leaf (.string s)] (.gd [a,dI e]):=by obtain⟨i,h,_,g⟩:=Ht.sp13 [G,.leaf (.string s)] (by simp only[Ht.e13,zS];exact⟨_,_,rfl,c,_,_,rfl,⟨_,rfl,hs⟩,rfl⟩) (λq y=>by cases y);simp only[Ht.e13,zS]at h;obtain⟨L,_,rfl,b,_,_,rfl,⟨e,rfl⟩,rfl⟩:=h;exact⟨L,e,j8 (B:=1048576) rfl b,g⟩
def zFR(G H x:D):Prop:=∃s a b,∃e f:Int,x=.leaf (.string s)/\s.size<=1048576/\qF 1048576 qQy a/\qF 1048576 qQy b/\HC EE 13 [G,x] (.gd [a,dI e])/\HC EE 13 [H,x] (.gd [b,dI f])/\(e=f->deq a b=false)
abbrev qIt(G H:D)(os:List D):Prop:=∀x∈os,zFR G H x
theorem qEX{G H x:D}{os:LR}(h:qIt G H os)(c:zFR G H x):qIt G H (os++[x]):=λy b=>by
 rcases bh.1 b with b|b
 ·exact h y b
 rw[aw.1 b];exact c
theorem zBk{l:D}(h:qF 1048576 qGz l)(hs:s.size<=1048576):∃b:Bool,qA EE 34 [l,.leaf (.string s)] (dB b):=
 qVM Hf.sp34 rfl rfl (by decide) (qJk h ⟨s,rfl,hs⟩)
theorem zBs{l:D}(h:qF 1048576 qGz l):∃b:Bool,qA EE 4 [l] (dB b):=qVM Hf.sp4 rfl rfl (by decide) (qPp h)
theorem zHs{a b:D}(e:qF 1048576 qQy a)(c:qF 1048576 qQy b):qA EE 35 [a,b,.kr (.func 36) [] []] (dB (deq a b)):=zG8 (rK e) (rK c) λ_ _ y h=>zG7 y h
theorem qNe{G H l:D}(L:zC Ht.n13 G)(K:zC Ht.n13 H)(o:qF 1048576 qGz l):∃os,os.length<=l.es.length/\qIt G H os/\qA EE 12 [G,H,l] (jI 9 1 os):=by
 have j:=qC o;have W:=qR o;let R:La:=λd=>∃os,os.length<=l.es.length/\qIt G H os/\d=jI 9 1 os;have k:∀i:Nat,∀os:LR,os.length<=i->i<=l.es.length->qIt G H os->∃d,R d/\qP EE (qA EE) qJ4 1 [l,jI 9 1 os,dI ((l.es.length:Nat):Int),dI ((i:Nat):Int),G,H] d:=by
  refine vQ (P:=λi:Nat=>∀os:LR,os.length<=i->i<=l.es.length->qIt G H os->∃d,R d/\qP EE (qA EE) qJ4 1 [l,jI 9 1 os,dI ((l.es.length:Nat):Int),dI ((i:Nat):Int),G,H] d) l.es.length (λi ih os X B hd=>jF (R:=R) ?_);refine bS zN ?_;refine iC (λc=>?_) λc=>?_
  ·have C:=cB c;have g:=ak C;obtain⟨s,hs,y⟩:=zG o g;have y:s.size<=1048576:=y;rw[hs]at g;obtain⟨w,V,A,I⟩:=qN2 j (b:=i) B;have J:qF 1048576 qGz w:=qKa o A I;obtain⟨t,O⟩:=zBk J y;obtain⟨a,e,u,z⟩:=zAL L y;obtain⟨b,f,p,kb⟩:=zAL K y;have S:=qC u;have Q:=qC p;have nx:∀os:LR,os.length<=i+1->qIt G H os->∃d,R d/\qP EE (qA EE) qJ4 1 [l,jI 9 1 os,dI ((l.es.length:Nat):Int),dI ((i+1:Nat):Int),G,H] d:=λos F E=>ih C os F C E;refine bS (vD (s:=((i:Nat):Int)) (by omega) g) ?_;refine bS (vX (s:=((i:Nat):Int)) j (by omega) g rfl) ?_;refine bS V ?_;refine cS O ?_;refine iC (λd=>?_) λd=>?_
   ·skip;refine bS (d:=dI ((i+1:Nat):Int)) (zF (zH (by omega))) ?_;exact zK rfl (nx os (by omega) hd)
   refine cS z.1 ?_;refine bS (kM rfl) ?_;refine bS (kM rfl) ?_;refine cS kb.1 ?_;refine bS (kM rfl) ?_;refine bS (kM rfl) ?_;refine bS yQ ?_;refine iC (λq=>?_) λq=>?_
   ·have N:=dT q;refine bS (wB rfl) ?_;refine bS (tU rfl) ?_;refine bS (d:=jI 9 1 (os++[.leaf (.string s)])) (qUZ y (by omega)) ?_;refine bS (d:=dI ((i+1:Nat):Int)) (zF (zH (by omega))) ?_;exact zK rfl (nx _ (by rw[bx];show os.length+1<=_;omega) (qEX hd ⟨s,a,b,e,f,rfl,y,u,p,z,kb,λh=>absurd h N⟩))
   refine cS (zHs u p) ?_;refine bS jJ ?_;refine iC (λr=>?_) λr=>?_
   ·have M:=qCr r;refine bS (wB rfl) ?_;refine bS (tU rfl) ?_;refine bS (d:=jI 9 1 (os++[.leaf (.string s)])) (qUZ y (by omega)) ?_;refine bS (d:=dI ((i+1:Nat):Int)) (zF (zH (by omega))) ?_;exact zK rfl (nx _ (by rw[bx];show os.length+1<=_;omega) (qEX hd ⟨s,a,b,e,f,rfl,y,u,p,z,kb,λ_=>M⟩))
   refine bS (d:=dI ((i+1:Nat):Int)) (zF (zH (by omega))) ?_;exact zK rfl (nx os (by omega) hd)
  exact zJ rfl ⟨os,by omega,hd,rfl⟩
 obtain⟨_,⟨os,F,E,rfl⟩,h⟩:=k 0 [] (cq _) (cq _) (λx U=>by cases U);refine⟨os,F,E,zGp rfl (qP.a9 ?_)⟩;refine bS (zBP L) ?_;refine bS (zBP K) ?_;refine bS (qO j) ?_;exact qY rfl h
end Go.Proofs.YtocbbgmhkhallaaGreatDoor
namespace Go.Proofs.YtocbbgmhkhallaaGreatDoor
open Go Go.Am Go.Proofs Go.Am.Tt
theorem qD7{E:Env}{b:LO->LR->La}{Q:Res1->Prop}{ρ':LR}{f:LO}{m:Go.Am.Mode}{xs:LS}{r:Tree}{ρ c ds:LR}(h:b (Nat.add dU f) (.mode m::c) (kC ds))(e:SV.ds (getD ρ) xs=c)(i:ds.length=m.out.db.length)(y:ρ++ds=ρ')(g:wp E b Q r ρ'):wp E b Q (.l4 f m xs r) ρ:=by simp only[wp];exact⟨ds,by rw[e];exact h,i,by rw[y];exact g⟩
theorem zA9{x y z:D}:TOp.eval EE (.k8 true 3) [.ptr [x,y,z] 0]=some (.agg [x,y,z]):=rfl
attribute [local irreducible] Go.Am.wp Go.Am.TOp.eval
def zL:D:=.agg [.nil,.leaf (.string ⟨#[]⟩),.nil,.nil,.nil,dI 0,.nil,.nil,.nil]
def pick(e:Int)(l:D):D:=if e=0 then l else zL
def qV5(e:Int)(l:D):D:=.gd [pick e l,dI e]
theorem qUX{l:D}:qV5 0 l=.gd [l,dI 0]:=by unfold qV5 pick;rw[bo rfl]
section
variable{x0 x1 x2 x3 x4 x5 x6 x7 x8 xs fs:D}{st:Int}
theorem zHg(q:x0.one=true)(p:x1.one=true)(o:x2.one=true)(l:x3.one=true)(k:x4.one=true)(j:x5.one=true)(i:x6.one=true)(g:x7.one=true)(e:x8.one=true)(b:qF 1048576 qYA xs)(c:qF 1048576 nS fs):qA EE (Nat.add dU 25) (.mode tS::[.ptr [dI st,xs,fs] 0,.agg [x0,x1,x2,x3,x4,x5,x6,x7,x8]]) (kC [dI (iN st xs fs),.agg [x0,x1,x2,x3,x4,dI st,xs,fs,x8]]):=by have h:=qC b;have y:=qC c;refine qYR (qP.a9 ?_) ⟨_,rfl,rfl⟩;show wp _ _ _ qFb _;refine bS iD ?_;refine bS zA9 ?_;refine bS (qS rfl) ?_;refine bS (qB (off:=0) rfl q) ?_;refine bS (qB (off:=1) rfl p) ?_;refine bS (qB (off:=2) rfl o) ?_;refine bS (qB (off:=3) rfl l) ?_;refine bS (qB (off:=4) rfl k) ?_;refine bS (qB (off:=5) rfl j) ?_;refine bS (qB (off:=6) rfl i) ?_;refine bS (qB (off:=7) rfl g) ?_;refine bS (qB (off:=8) rfl e) ?_;refine bS (qS rfl) ?_;refine bS (qB (off:=0) rfl rfl) ?_;refine bS (qB (off:=1) rfl h.one) ?_;refine bS (qB (off:=2) rfl y.one) ?_;refine bS iD ?_;refine bS zA9 ?_;refine cS (zHf b c) ?_;exact fE rfl rfl
theorem zBl(p:x0.one=true)(o:x1.one=true)(l:x2.one=true)(k:x3.one=true)(j:x4.one=true)(i:x5.one=true)(g:x6.one=true)(e:x7.one=true)(b:x8.one=true)(h:qF 1048576 qYA xs)(y:qF 1048576 nS fs):qA EE (Nat.add dU 24) (.mode tT::[.agg [x0,x1,x2,x3,x4,x5,x6,x7,x8],.ptr [dI st,xs,fs] 0]) (kC [pick (iN st xs fs) (.agg [x0,x1,x2,x3,x4,dI st,xs,fs,x8]),dI (iN st xs fs)]):=by
 refine qYS (qP.a9 ?_) ⟨_,rfl,rfl⟩;show wp _ _ _ qFd _;refine bS (qS rfl) ?_;refine qD7 (ρ':=[_,_,_,_,.agg [x0,x1,x2,x3,x4,dI (st),xs,fs,x8]]) (zHg p o l k j i g e b h y) rfl rfl rfl ?_;refine bS yQ ?_;refine iC (λc=>?_) λc=>?_
 ·have c1:=dT c;exact fE rfl (by unfold pick;rw[bf c1];rfl)
 have c1:=Classical.not_not.1 (dF c);refine bS (qS rfl) ?_;exact fE rfl (by unfold pick;rw[bo c1,c1];rfl)
theorem h8(o:x0.one=true)(l:x1.one=true)(k:x2.one=true)(j:x3.one=true)(i:x4.one=true)(g:x5.one=true)(e:x6.one=true)(c:x7.one=true)(b:x8.one=true)(h:qF 1048576 qYA xs)(y:qF 1048576 nS fs):qA EE 8 [.agg [x0,x1,x2,x3,x4,x5,x6,x7,x8],.agg [dI st,xs,fs]] (qV5 (iN st xs fs) (.agg [x0,x1,x2,x3,x4,dI st,xs,fs,x8])):=by
 have p:TOp.eval EE (.mz true 9) [pick (iN st xs fs) (.agg [x0,x1,x2,x3,x4,dI st,xs,fs,x8])]=some (pick (iN st xs fs) (.agg [x0,x1,x2,x3,x4,dI st,xs,fs,x8])):=by
  unfold pick;split
  ·exact qS rfl
  exact qS rfl
 refine u8 rfl (qP.a9 ?_);refine bS (qS rfl) ?_;refine bS (qS rfl) ?_;refine bS iE ?_;refine qD7 (ρ':=[_,_,_,_,_,_,dI (iN st xs fs)]) (zBl o l k j i g e c b h y) rfl rfl rfl ?_;refine bS p ?_;exact fE rfl rfl
end
end Go.Proofs.YtocbbgmhkhallaaGreatDoor
namespace Go.Proofs.YtocbbgmhkhallaaGreatDoor
open Go Go.Am Go.Proofs Go.Am.Tt
theorem zDx:TOp.eval EE (.lit 9 1) []=some (.sl 9 1 []):=rfl
attribute [local irreducible] Go.Am.wp Go.Am.TOp.eval
theorem qOQ{r:D}(h:qF 1048576 qS8 r)(o:qOR r):qOR (qBq r):=by obtain⟨_,rfl,i,_,rfl,t,g,_,rfl,q,e,_,rfl,p,c,_,rfl,l,b,_,rfl,k,y,_,rfl,j,rfl⟩:=h;exact o
theorem qOP{r:D}(h:qF 1048576 qQu r)(o:qLZ r):qLZ (uX r):=by obtain⟨_,rfl,b,_,rfl,e,y,_,rfl,c,rfl⟩:=h;exact o
theorem qFQ{P:La}{B el sz:Nat}{e:Sh}{d:D}{f:D->D}(h:qF B (.sl el sz e) d)(o:∀r∈d.es,P r)(g:∀x,qF B e x->P x->P (f x)):∀r∈(D.sl el sz (d.es.map f)).es,P r:=λr b=>by
 obtain⟨x,y,rfl⟩:=dy.1 b
 obtain⟨i,c⟩:=gy.1 y
 exact g x (zG h c) (o x y)
variable{x:D}
theorem zGO(h:qF 1048576 qYK x):Le (qBr x) x:=by obtain⟨_,rfl,t,_,rfl,z,r,_,rfl,g,q,_,rfl,w,p,_,rfl,e,o,_,rfl,u,l,_,rfl,c,k,_,rfl,b,j,_,rfl,y,rfl⟩:=h;exact .agg (.cons (.refl _) (.cons (oU g) (.cons (.refl _) (.cons (qCA e λx i=>oU i) (.cons (.refl _) (.cons (oU c) (.cons (oU b) (.cons (oU y) .nil))))))))
theorem zGM(h:qF 1048576 qQu x):Le (uX x) x:=by obtain⟨_,rfl,c,_,rfl,e,b,_,rfl,y,rfl⟩:=h;exact .agg (.cons (.refl _) (.cons (oU y) .nil))
theorem zGN(h:qF 1048576 qS8 x):Le (qBq x) x:=by obtain⟨_,rfl,o,_,rfl,e,l,_,rfl,c,k,_,rfl,b,j,_,rfl,y,i,_,rfl,q,g,_,rfl,p,rfl⟩:=h;exact .agg (.cons (oU e) (.cons (oU c) (.cons (oU b) (.cons (oU y) (.cons (.refl _) (.cons (.refl _) .nil))))))
section
variable{x0 x2 x3 x4 x6 x7 x8:D}{s1:LJ}{x5:Int}
theorem zBM(j:qF 1048576 qD2 x0)(t:s1.size<=1048576)(e:qF 1048576 qM6 x2)(i:qF 1048576 qQv x3)(c:qF 1048576 qGA x4)(b:qF 1048576 qQt x6)(y:qF 1048576 nS x7)(g:qF 1048576 sM x8)(p:∀r∈x4.es,qOR r)(o:∀r∈x2.es,qLZ r)(q:iN x5 x6 x7=0):zC Ht.n13 (zCc (.agg [x0,.leaf (.string s1),x2,x3,x4,dI x5,x6,x7,x8]))/\Le (zCc (.agg [x0,.leaf (.string s1),x2,x3,x4,dI x5,x6,x7,x8])) (.agg [x0,.leaf (.string s1),x2,x3,x4,dI x5,x6,x7,x8]):=by obtain⟨l,k⟩:=qL6 b y q;exact⟨qXf (wX j) (rZ t) (pU e λx h=>(qGn h).1) (pU i λx h=>wX h) (pU c λx h=>(qGo h).1) jB (wX b) (wX y) (pU g λx h=>(qGp h).1) (qFQ c p λx=>qOQ) (qFQ e o λx=>qOP) l k,.agg (.cons (oU j) (.cons (.refl _) (.cons (qCA e λx=>zGM) (.cons (qCA i λx h=>oU h) (.cons (qCA c λx=>zGN) (.cons (.refl _) (.cons (oU b) (.cons (oU y) (.cons (qCA g λx=>zGO) .nil)))))))))⟩
end
theorem qVe{G g a:D}{e:Int}(h:HC EE 13 [G,x] (.gd [a,dI e]))(l:Le G g):∃i,Le a i/\qA EE 13 [g,x] (.gd [i,dI e]):=by
 obtain⟨d,b,c⟩:=h.2 [g,x] (.cons l (.cons (.refl _) .nil));cases b with
 | gd b=>
  cases b with
  |cons k y=>
   cases y with
   |cons y j=>cases j;rw[y.de]at c;exact⟨_,k,c⟩
theorem zAx{G H g h:D}{os:LR}(P:Le G g)(O:Le H h)(hd:qIt G H os)(E:os.length<=1048576)(J:qA EE 7 [] (dB true)):∀i:Nat,qP EE (qA EE) qZL 1 [jI 9 1 os,dI ((i:Nat):Int),g,h] (dB true):=by
 have w:qF 1048576 qGz (jI 9 1 os):=eM E λx r=>by obtain⟨s,_,_,_,_,rfl,C,_⟩:=hd x r;exact⟨s,rfl,C⟩
 have j:=qC w;have o:(jI 9 1 os).es=os:=qCw;have L:(jI 9 1 os).es.length<=1048576:=by rw[o];exact E
 refine vQ (jI 9 1 os).es.length λi ih=>?_;refine qP.a9 ?_;refine bS (d:=dI (((jI 9 1 os).es.length:Nat):Int)) (qO j) ?_;refine bS zN ?_;refine iC (λc=>?_) λc=>?_
 ·have u:=cB c;have ih:=ih u;have y:=ak u;have r:=hd _ (by rw[←o];exact gh u);obtain⟨s,a,b,e,f,hs,C,N,M,p,kb,K⟩:=r;rw[hs]at y p kb;obtain⟨R,z,p⟩:=qVe p P;obtain⟨Q,lb,kb⟩:=qVe kb O;have l:=z.hasB N;have k:=lb.hasB M;have B:=qC l;have A:=qC k;refine bS (vD (s:=((i:Nat):Int)) (by omega) y) ?_;refine bS (vX (s:=((i:Nat):Int)) j (by omega) y rfl) ?_;refine cS p ?_;refine bS (kM rfl) ?_;refine bS (kM rfl) ?_;refine bS (vD (s:=((i:Nat):Int)) (by omega) y) ?_;refine bS (vX (s:=((i:Nat):Int)) j (by omega) y rfl) ?_;refine cS kb ?_;refine bS (kM rfl) ?_;refine bS (kM rfl) ?_;refine bS bC ?_;refine iC (λq=>?_) λq=>?_
  ·have I:=K (dT q);have F:deq R Q=false:=by rw[z.deq,lb.sm];exact I
   refine cS (zHh (rK l) (rK k)) ?_;refine zV (t:=false) (congrArg (λq=>dB q) F) ?_;refine yJ ?_;refine bS (d:=dI ((i+1:Nat):Int)) (zF (zH (by omega))) ?_;exact qY rfl ih
  refine bS (d:=dI ((i+1:Nat):Int)) (zF (zH (by omega))) ?_;exact qY rfl ih
 refine cS J ?_;exact qE rfl rfl
theorem h3{x0 x2 x3 x4 x6 x7 x8 xs fs l:D}{s1:LJ}{x5 st:Int}(N:qF 1048576 qD2 x0)(E:s1.size<=1048576)(A:qF 1048576 qM6 x2)(L:qF 1048576 qQv x3)(z:qF 1048576 qGA x4)(g:qF 1048576 qQt x6)(e:qF 1048576 nS x7)(K:qF 1048576 sM x8)(c:qF 1048576 qQt xs)(b:qF 1048576 nS fs)(S:qF 1048576 qGz l)(C:qA EE 7 [] (dB true)):qA EE 3 [.agg [x0,.leaf (.string s1),x2,x3,x4,dI x5,x6,x7,x8],.agg [dI st,xs,fs],l] (dB true):=by
 obtain⟨tf,kf⟩:=zBs S;obtain⟨tg,kg,fg⟩:=qRJ (n:=x5) N (rZ E) A L z g e K;have i_x0:=qC N;have i_x2:=qC A;have i_x3:=qC L;have k:=qC z;have i_x6:=qC g;have i_x7:=qC e;have j:=qC K;have i:=qC c;have o:=qC b;have b_l:=qR S;refine u3 rfl (qP.a9 ?_);refine bS (qS rfl) ?_;refine bS (qS rfl) ?_;refine cS kf ?_;refine bS jJ ?_;refine iC (λc1=>?_) λc1=>?_
 ·skip;refine cS C ?_;exact qE rfl rfl
 refine bS (qB (off:=0) rfl rfl) ?_;refine bS jS ?_;refine iC (λc2=>?_) λc2=>?_
 ·skip;refine cS C ?_;exact qE rfl rfl
 refine bS (qB (off:=1) rfl i.one) ?_;refine bS (qO i) ?_;refine bS jS ?_;refine iC (λc3=>?_) λc3=>?_
 ·skip;refine cS C ?_;exact qE rfl rfl
 refine cS (h5 c b) ?_;refine bS yQ ?_;refine iC (λc4=>?_) λc4=>?_
 ·skip;refine cS C ?_;exact qE rfl rfl
 have hz:iN st xs fs=0:=jv.1 (dF c4);refine cS kg ?_;refine bS jJ ?_;refine iC (λc5=>?_) λc5=>?_
 ·skip;refine cS C ?_;exact qE rfl rfl
 obtain⟨Z,X,O⟩:=fg (qCs c5);have H:qF 1048576 qD2 (xL 85 2 x0):=wX N;have G:qF 1048576 qM6 (.sl 81 2 (x2.es.map uX)):=pU A λx y=>(qGn y).1;have F:qF 1048576 qQv (.sl 37 1 (x3.es.map (xL 9 1))):=pU L λx y=>wX y;have w:qF 1048576 qGA (.sl 60 6 (x4.es.map qBq)):=pU z λx y=>(qGo y).1;have b6:qF 1048576 qQt (xL 55 3 x6):=wX g;have b7:qF 1048576 nS (xL 3 1 x7):=wX e;have u:qF 1048576 sM (.sl 71 8 (x8.es.map qBr)):=pU K λx y=>(qGp y).1;have p1:∀r∈(D.sl 60 6 (x4.es.map qBq)).es,qOR r:=qFQ z Z λx=>qOQ;have p2:∀r∈(D.sl 81 2 (x2.es.map uX)).es,qLZ r:=qFQ A X λx=>qOP;obtain⟨nG,lG⟩:=zBM N E A L z g e K Z X O;obtain⟨nH,lH⟩:=zBM H E G F w c b u p1 p2 hz;have p:=g9 (x5:=x5) (s1:=s1) N A L z g e K;have R:=g9 (x5:=st) (s1:=s1) H G F w c b u;have J:=h8 (x0:=xL 85 2 x0) (x1:=.leaf (.string s1)) (x2:=.sl 81 2 (x2.es.map uX)) (x3:=.sl 37 1 (x3.es.map (xL 9 1))) (x4:=.sl 60 6 (x4.es.map qBq)) (x5:=dI x5) (x6:=xL 55 3 x6) (x7:=xL 3 1 x7) (x8:=.sl 71 8 (x8.es.map qBr)) (st:=st) (xs:=xs) (fs:=fs) rfl rfl rfl rfl rfl rfl rfl rfl rfl c b;rw[hz,qUX]at J;have I:=h8 (x0:=xL 85 2 (xL 85 2 x0)) (x1:=.leaf (.string s1)) (x2:=.sl 81 2 ((D.sl 81 2 (x2.es.map uX)).es.map uX)) (x3:=.sl 37 1 ((D.sl 37 1 (x3.es.map (xL 9 1))).es.map (xL 9 1))) (x4:=.sl 60 6 ((D.sl 60 6 (x4.es.map qBq)).es.map qBq)) (x5:=dI st) (x6:=xL 55 3 xs) (x7:=xL 3 1 fs) (x8:=.sl 71 8 ((D.sl 71 8 (x8.es.map qBr)).es.map qBr)) (st:=x5) (xs:=x6) (fs:=x7) rfl rfl rfl rfl rfl rfl rfl rfl rfl g e;rw[O,qUX]at I;have U:zE qYJ (.agg [xL 85 2 x0,.leaf (.string s1),.sl 81 2 (x2.es.map uX),.sl 37 1 (x3.es.map (xL 9 1)),.sl 60 6 (x4.es.map qBq),dI x5,x6,x7,.sl 71 8 (x8.es.map qBr)]):=rK (B:=1048576) (nK (qQ H (qQ (rZ E) (qQ G (qQ F (qQ w (qQ jB (qQ g (qQ e (qQ u jN))))))))));have sG:zE qYJ (.agg [xL 85 2 x0,.leaf (.string s1),.sl 81 2 (x2.es.map uX),.sl 37 1 (x3.es.map (xL 9 1)),.sl 60 6 (x4.es.map qBq),dI x5,xL 55 3 x6,xL 3 1 x7,.sl 71 8 (x8.es.map qBr)]):=rK (B:=1048576) (nK (qQ H (qQ (rZ E) (qQ G (qQ F (qQ w (qQ jB (qQ b6 (qQ b7 (qQ u jN))))))))));have sB:zE qYJ (.agg [xL 85 2 (xL 85 2 x0),.leaf (.string s1),.sl 81 2 ((D.sl 81 2 (x2.es.map uX)).es.map uX),.sl 37 1 ((D.sl 37 1 (x3.es.map (xL 9 1))).es.map (xL 9 1)),.sl 60 6 ((D.sl 60 6 (x4.es.map qBq)).es.map qBq),dI x5,x6,x7,.sl 71 8 ((D.sl 71 8 (x8.es.map qBr)).es.map qBr)]):=rK (B:=1048576) (nK (qQ (wX H) (qQ (rZ E) (qQ (pU G λx y=>(qGn y).1) (qQ (pU F λx y=>wX y) (qQ (pU w λx y=>(qGo y).1) (qQ jB (qQ g (qQ e (qQ (pU u λx y=>(qGp y).1) jN))))))))));have vB:=qDL.agg (us:=[xL 85 2 x0,.leaf (.string s1),.sl 81 2 (x2.es.map uX),.sl 37 1 (x3.es.map (xL 9 1)),.sl 60 6 (x4.es.map qBq),dI x5,x6,x7,.sl 71 8 (x8.es.map qBr)]) (us':=[xL 85 2 (xL 85 2 x0),.leaf (.string s1),.sl 81 2 ((D.sl 81 2 (x2.es.map uX)).es.map uX),.sl 37 1 ((D.sl 37 1 (x3.es.map (xL 9 1))).es.map (xL 9 1)),.sl 60 6 ((D.sl 60 6 (x4.es.map qBq)).es.map qBq),dI x5,x6,x7,.sl 71 8 ((D.sl 71 8 (x8.es.map qBr)).es.map qBr)]) ⟨oZ H,.refl _,qC4 G λx y=>(qGn y).2,qC4 F λx y=>oZ y,qC4 w λx y=>(qGo y).2,.refl _,.refl _,.refl _,qC4 u λx y=>(qGp y).2,trivial⟩;have vG:=qDL.agg (us:=[xL 85 2 x0,.leaf (.string s1),.sl 81 2 (x2.es.map uX),.sl 37 1 (x3.es.map (xL 9 1)),.sl 60 6 (x4.es.map qBq),dI x5,x6,x7,.sl 71 8 (x8.es.map qBr)]) (us':=[xL 85 2 x0,.leaf (.string s1),.sl 81 2 (x2.es.map uX),.sl 37 1 (x3.es.map (xL 9 1)),.sl 60 6 (x4.es.map qBq),dI x5,xL 55 3 x6,xL 3 1 x7,.sl 71 8 (x8.es.map qBr)]) ⟨.refl _,.refl _,.refl _,.refl _,.refl _,.refl _,oZ g,oZ e,.refl _,trivial⟩;have M:=zHi sB sG;rw[qDL.both vB vG,uL U]at M;have W:qF 1048576 qGz (xL 9 1 l):=wX S;obtain⟨os,P,hd,V⟩:=qNe nG nH W;have P:os.length<=l.es.length:=P;have Q:deq fs fs=true:=uL (rK b);refine cS p ?_;refine cS J ?_;refine bS (kM rfl) ?_;refine bS (kM rfl) ?_;refine bS (qS rfl) ?_;refine bS yQ ?_;refine zV (t:=false) (congrArg (λq=>dB q) (fD (λh=>h rfl))) ?_;refine yJ ?_;refine bS (qB (off:=7) rfl o.one) ?_;refine bS (qB (off:=2) rfl o.one) ?_;refine cS (zHj (rK b) (rK b)) ?_;refine bS jJ ?_;refine zV (t:=false) (congrArg (λq=>dB q) (by rw[Q];rfl)) ?_;refine yJ ?_;refine bS (qB (off:=8) rfl rfl) ?_;refine bS (d:=dI (((D.sl 71 8 (x8.es.map qBr)).es.length:Nat):Int)) (qO (qC u)) ?_;refine bS (qB (off:=8) rfl j.one) ?_;refine bS (qO j) ?_;refine bS yQ ?_;refine zV (t:=false) (congrArg (λq=>dB q) (fD (λh=>h (congrArg (λn:Nat=>(n:Int)) (bk _))))) ?_;refine yJ ?_;refine bS (qB (off:=4) rfl rfl) ?_;refine bS (d:=dI (((D.sl 60 6 (x4.es.map qBq)).es.length:Nat):Int)) (qO (qC w)) ?_;refine bS (qB (off:=4) rfl k.one) ?_;refine bS (qO k) ?_;refine bS yQ ?_;refine zV (t:=false) (congrArg (λq=>dB q) (fD (λh=>h (congrArg (λn:Nat=>(n:Int)) (bk _))))) ?_;refine yJ ?_;refine cS R ?_;refine bS (kI (off:=5) (size:=3) rfl) ?_;refine cS I ?_;refine bS (kM rfl) ?_;refine bS (kM rfl) ?_;refine bS (qS rfl) ?_;refine bS yQ ?_;refine zV (t:=false) (congrArg (λq=>dB q) (fD (λh=>h rfl))) ?_;refine yJ ?_;refine cS p ?_;refine cS M ?_;refine bS jJ ?_;refine zV (t:=false) (congrArg (λq=>dB q) rfl) ?_;refine yJ ?_;refine cS p ?_;refine cS R ?_;refine bS zDx ?_;refine bS (d:=xL 9 1 l) (yT S (by decide) (by omega)) ?_;refine cS V ?_;exact qY rfl (zAx lG lH hd (by omega) C 0)
end Go.Proofs.YtocbbgmhkhallaaGreatDoor
