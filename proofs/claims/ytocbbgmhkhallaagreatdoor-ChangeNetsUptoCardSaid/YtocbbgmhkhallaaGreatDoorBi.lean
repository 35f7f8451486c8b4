/- The check of a net, by the program and by the reference. Conditions: none. -/
import Derived.Test.YtocbbgmhkhallaaGreatDoorBg
import Derived.Test.YtocbbgmhkhallaaGreatDoorBh
import Derived.Test.YtocbbgmhkhallaaGreatDoorUv
set_option linter.unusedVariables false
set_option linter.unusedSimpArgs false
namespace Go.Proofs.YtocbbgmhkhallaaGreatDoor
open Go Go.Am Go.Proofs Go.Am.Tt
abbrev qYA:Sh:=qQt
theorem qCs{b:Bool}(h:(!b)=false):b=true:=by cases b with
 |false=>cases h
 |true=>rfl
theorem qCr{b:Bool}(h:(!b)=true):b=false:=by cases b with
 |false=>rfl
 |true=>cases h
theorem qN2{el sz:Nat}{w:D}{b:Nat}(y:oH el sz w)(h:b<=w.es.length):∃d,TOp.eval EE (.lu el sz false true) [w,dI ((b:Nat):Int)]=some d/\oH el sz d/\d.es=w.es.take b:=by
 rcases y with rfl|⟨es,rfl,k⟩
 ·have e:b=0:=by simpa[D.es]using h
  subst e;exact⟨.nil,by rw[pZ];rfl,.inl rfl,rfl⟩
 have h:b<=es.length:=h;refine⟨.sl el sz (es.take b),?_,.inr ⟨_,rfl,by rw[cg];omega⟩,rfl⟩;rw[pZ];have j:vT false 0 [dI ((b:Nat):Int)]=some (0,[dI ((b:Nat):Int)]):=rfl;have g:vT true es.length [dI ((b:Nat):Int)]=some (b,[]):=rfl;simp only[j,g,bj,bL h,bL (cq b),cj,ai,jr,Nat.sub_zero]
def jO(f:Nat->Option Int)(n i:Nat):Option Int:=(List.range' i (n-i)).findSome? f
variable{f:Nat->Option Int}{i:Nat}
theorem pY{n:Nat}(h:n<=i):jO f n i=none:=by unfold jO;rw[show n-i=0 by omega];rfl
theorem qBd{n:Nat}(h:i<n):jO f n i=(match f i with
  |some e=>some e
  |none=>jO f n (i+1)):=by
 unfold jO
 rw[show n-i=(n-(i+1))+1 by omega,jz,List.findSome?_cons]
 cases f i<;>rfl
theorem pX{n:Nat}{e:Int}(h:i<n)(he:f i=some e):jO f n i=some e:=by rw[qBd h,he]
theorem qAB{n:Nat}(h:i<n)(he:f i=none):jO f n i=jO f n (i+1):=by rw[qBd h,he]
theorem qLs{α:Type}{p:α->Bool}{l:List α}(h:l.length<=i):(l.drop i).any p=false:=by rw[iz h];rfl
theorem qIk{α:Type}{p:α->Bool}{l:List α}{x:α}(h:l[i]? = some x):(l.drop i).any p=(p x||(l.drop (i+1)).any p):=by have y:i<l.length:=(gI h).1;rw[ew y,List.any_cons,(gI h).2]
theorem qLr{α:Type}{p:α->Bool}{l:List α}{x:α}(h:l[i]? = some x)(e:p x=true):(l.drop i).any p=true:=by rw[qIk h,e];rfl
theorem qQq{α:Type}{p:α->Bool}{l:List α}{x:α}(h:l[i]? = some x)(e:p x=false):(l.drop i).any p=(l.drop (i+1)).any p:=by rw[qIk h,e];rfl
def qXj:D->Int
 |.leaf (.int _ n)=>n
 |_=>0
theorem rB{E:Env}{cs:LR}{off:Nat}{x:D}(h:cs[off]? = some x)(y:x.one=true):TOp.eval E (.k8 false 1) [.ptr cs off]=some x:=by have e:TOp.eval E (.k8 false 1) [.ptr cs off]=TOp.eval E (.mq false 1 off) [.agg cs]:=rfl;rw[e];exact qB h y
attribute [local irreducible] Go.Am.wp Go.Am.TOp.eval
theorem zAp:mV EE.prog 4 55=some [.int .i64,.int .i64,.int .i64]:=by kernel_rfl
theorem zAz:pD EE.prog 55=true:=by kernel_rfl
theorem zBm:EE.prog.eqGuardType EE.prog.depth 55=false:=by kernel_rfl
def qXG(a b c e y h:Int):Bool:=decide (a=e)&&(decide (b=y)&&decide (c=h))
theorem qVz{a b:Int}:deq (dI a) (dI b)=decide (a=b):=by
 show(a==b)=_;by_cases h:a=b
 ·subst h;simp
 rw[fD h,beq_eq_false_iff_ne];exact h
theorem qPS{x y:LM}{a b c g e h:Int}:TOp.eval EE (.bin .eql 55 x y) [.agg [dI a,dI b,dI c],.agg [dI g,dI e,dI h]]=some (dB (qXG a b c g e h)):=by rw[oP .eql (.inr rfl) zAp zAz (by decide) zBm rfl (tY (B:=300000000) (qQ jB (qQ jB (qQ jB jN)))) (tY (B:=300000000) (qQ jB (qQ jB (qQ jB jN))))];show some (dB (deq (dI a) (dI g)&&(deq (dI b) (dI e)&&(deq (dI c) (dI h)&&true))))=_;rw[qVz,qVz,qVz,er];rfl
theorem qK4{a b c e y h:Int}:qXG a b c e y h=qXG e y h a b c:=by unfold qXG;rw[decide_eq_decide.2 (show a=e↔e=a from eq_comm),decide_eq_decide.2 (show b=y↔y=b from eq_comm),decide_eq_decide.2 (show c=h↔h=c from eq_comm)]
def aR(st q:Int):Bool:=decide (q≥0)&&decide (q<st)
def tC(a b c:Int):D->Bool
 |.agg [.leaf (.int _ x),.leaf (.int _ y),.leaf (.int _ z)]=>qXG x y z a b c
 |_=>false
def bT(st:Int)(xs:D)(i:Nat):Option Int:=match xs.es[i]? with
 |some (.agg [.leaf (.int _ a),.leaf (.int _ c),.leaf (.int _ b)])=>if !aR st a then some 2 else if !aR st b then some 2 else if c<1∨20<c then some 21 else if((xs.es.take i).drop 0).any (tC a c b)then some 8 else none
 |_=>none
def qFI(fs:D)(i:Nat):Option Int:=match fs.es[i-1]?,fs.es[i]? with
 |some x,some y=>if qXj x≥qXj y then some 10 else none
 |_,_=>none
def qDR(st:Int)(fs:D)(i:Nat):Option Int:=match fs.es[i]? with
 |some x=>if !aR st (qXj x)then some 2 else none
 |none=>none
def qSh(st:Int)(fs:D):Int:=(jO (qDR st fs) fs.es.length 0).getD 0
def qOw(st:Int)(fs:D):Int:=(jO (qFI fs) fs.es.length 1).getD (qSh st fs)
def iN(st:Int)(xs fs:D):Int:=if st<1 then 2 else if 24<st then 2 else if 200<xs.es.length then 11 else(jO (bT st xs) xs.es.length 0).getD (qOw st fs)
variable{x:Int}
section
variable{st:Int}{xs fs:D}{a b c:Int}{i:Nat}{R:Int}
theorem qEi(h:xs.es[i]? = some (.agg [dI a,dI c,dI b])):bT st xs i=if !aR st a then some 2 else if !aR st b then some 2 else if c<1∨20<c then some 21 else if((xs.es.take i).drop 0).any (tC a c b)then some 8 else none:=by unfold bT;rw[h]
theorem qUU(h:xs.es[i]? = some (.agg [dI a,dI c,dI b]))(e:aR st a=false):(jO (bT st xs) xs.es.length i).getD R=2:=by rw[pX (gI h).1 (e:=2) (by rw[qEi h,e];rfl)];rfl
theorem qUT(h:xs.es[i]? = some (.agg [dI a,dI c,dI b]))(e:aR st a=true)(y:aR st b=false):(jO (bT st xs) xs.es.length i).getD R=2:=by rw[pX (gI h).1 (e:=2) (by rw[qEi h,e,y];rfl)];rfl
theorem qJ7(h:xs.es[i]? = some (.agg [dI a,dI c,dI b]))(e:aR st a=true)(g:aR st b=true)(y:c<1∨20<c):(jO (bT st xs) xs.es.length i).getD R=21:=by rw[pX (gI h).1 (e:=21) (by rw[qEi h,e,g,bo y];rfl)];rfl
theorem qUS(h:xs.es[i]? = some (.agg [dI a,dI c,dI b]))(e:aR st a=true)(g:aR st b=true)(y:¬(c<1∨20<c))(e4:((xs.es.take i).drop 0).any (tC a c b)=true):(jO (bT st xs) xs.es.length i).getD R=8:=by rw[pX (gI h).1 (e:=8) (by rw[qEi h,e,g,bf y,e4];rfl)];rfl
theorem qUV(h:xs.es[i]? = some (.agg [dI a,dI c,dI b]))(e:aR st a=true)(g:aR st b=true)(y:¬(c<1∨20<c))(e4:((xs.es.take i).drop 0).any (tC a c b)=false):(jO (bT st xs) xs.es.length i).getD R=(jO (bT st xs) xs.es.length (i+1)).getD R:=by rw[qAB (gI h).1 (by rw[qEi h,e,g,bf y,e4];rfl)]
theorem qOx{y:Int}(g:fs.es[i-1]? = some (dI x))(h:fs.es[i]? = some (dI y))(e:x≥y):(jO (qFI fs) fs.es.length i).getD R=10:=by rw[pX (gI h).1 (e:=10) (by unfold qFI;rw[g,h];exact bo e)];rfl
theorem qU2{y:Int}(g:fs.es[i-1]? = some (dI x))(h:fs.es[i]? = some (dI y))(e:¬x≥y):(jO (qFI fs) fs.es.length i).getD R=(jO (qFI fs) fs.es.length (i+1)).getD R:=by rw[qAB (gI h).1 (by unfold qFI;rw[g,h];exact bf e)]
theorem qOf(h:fs.es[i]? = some (dI x))(e:aR st x=false):(jO (qDR st fs) fs.es.length i).getD R=2:=by rw[pX (gI h).1 (e:=2) (by unfold qDR;rw[h];show(if !aR st x then _ else _)=_;rw[e];rfl)];rfl
theorem qUY(h:fs.es[i]? = some (dI x))(e:aR st x=true):(jO (qDR st fs) fs.es.length i).getD R=(jO (qDR st fs) fs.es.length (i+1)).getD R:=by rw[qAB (gI h).1 (by unfold qDR;rw[h];show(if !aR st x then _ else _)=_;rw[e];rfl)]
end
variable{fs xs:D}
theorem zDG{st q:Int}:qA EE 57 [dI q,.ptr [dI st,xs,fs] 0] (dB (aR st q)):=by
 refine zGa rfl (qP.a9 ?_);refine bS rY ?_;refine iC (λc=>?_) λc=>?_
 ·skip;refine bS iD ?_;refine bS (rB (cs:=[dI (st),xs,fs]) (off:=0) rfl rfl) ?_;refine bS zN ?_;exact qE rfl (congrArg dB (by unfold aR;rw[c];rfl))
 exact qE rfl (congrArg dB (by unfold aR;rw[c];rfl))
theorem zDJ{st q:Int}:qA EE 15 [.agg [dI st,xs,fs],dI q] (dB (aR st q)):=by
 refine zGn rfl (qP.a9 ?_);refine bS (qS rfl) ?_;refine bS rY ?_;refine iC (λc=>?_) λc=>?_
 ·skip;refine bS (qB (off:=0) rfl rfl) ?_;refine bS zN ?_;exact qE rfl (congrArg dB (by unfold aR;rw[c];rfl))
 exact qE rfl (congrArg dB (by unfold aR;rw[c];rfl))
theorem zDP{l:D}{a b c:Int}(o:qF 1048576 qYA l):∃n:Int,decide (n≥0)=(l.es.drop 0).any (tC a b c)/\qA EE 110 [l,.agg [dI a,dI b,dI c]] (dI n):=by
 have j:=qC o;have g:∀i:Nat,∃d,(∃n:Int,d=dI n/\decide (n≥0)=(l.es.drop i).any (tC a b c))/\qP EE (qA EE) qNQ 1 [l,dI ((l.es.length:Nat):Int),dI ((i:Nat):Int),.agg [dI a,dI b,dI c]] d:=by
  refine vQ l.es.length λi ih=>?_;refine jF ?_;refine bS zN ?_;refine iC (λr=>?_) λr=>?_
  ·skip;have c1:i<l.es.length:=by have:=dT r;omega
   have p:=qR o;obtain⟨x,h⟩:∃x,l.es[i]? = some x:=⟨_,ak c1⟩;have k:=zG o h;simp only[qF,jL]at k;obtain⟨_,rfl,_,_,rfl,⟨x,rfl⟩,_,_,rfl,⟨y,rfl⟩,_,_,rfl,⟨z,rfl⟩,rfl⟩:=k;refine bS (vD (s:=((i:Nat):Int)) (by omega) h) ?_;refine bS (xO (s:=((i:Nat):Int)) j (by omega) h rfl) ?_;refine bS qPS ?_;refine iC (λe=>?_) λe=>?_
   ·exact zJ rfl ⟨_,rfl,by rw[qLr h (show qXG x y z a b c=true by rw[qK4];exact e)];exact ic (by omega)⟩
   refine bS (d:=dI ((i+1:Nat):Int)) (zF (zH (by omega))) ?_;have q:=ih c1;rw[←qQq h (show qXG x y z a b c=false by rw[qK4];exact e)]at q;exact zK rfl q
  have c1:=dF r;exact zJ rfl ⟨-1,rfl,by rw[qLs (by omega)];rfl⟩
 obtain⟨d,⟨n,rfl,t⟩,hd⟩:=g 0;refine⟨n,t,zCL rfl (qP.a9 ?_)⟩;refine bS (qS rfl) ?_;refine bS (qO j) ?_;exact qY rfl hd
theorem zG4{l:D}{a b c:Int}(h:qF 1048576 qYA l):qA EE 58 [l,.agg [dI a,dI b,dI c]] (dB ((l.es.drop 0).any (tC a b c))):=by have y:=qC h;obtain⟨n,e,g⟩:=zDP (a:=a) (b:=b) (c:=c) h;refine zF9 rfl (qP.a9 ?_);refine bS (qS rfl) ?_;refine cS g ?_;refine bS rY ?_;exact qE rfl (congrArg dB e)
theorem qKa{el sz:Nat}{e:Sh}{w d:D}{b:Nat}(y:qF 1048576 (.sl el sz e) w)(hd:oH el sz d)(he:d.es=w.es.take b):qF 1048576 (.sl el sz e) d:=by
 rcases hd with rfl|⟨es,rfl,_⟩
 ·exact yR
 have he:es=w.es.take b:=he;have j:=qR y;refine mP (by rw[he,cg];omega) λx h=>?_;rw[he]at h;obtain⟨i,g⟩:=List.mem_iff_getElem?.1 (dm h);exact zG y g
theorem zHf{st:Int}(r:qF 1048576 qYA xs)(o:qF 1048576 nS fs):qA EE 26 [.agg [dI st,xs,fs]] (dI (iN st xs fs)):=by
 have l:=qC r;have j:=qC o;have I:=qR r;have J:=qR o;have F:∀i:Nat,qP EE (qA EE) qJ3 3 [.ptr [dI st,xs,fs] 0,fs,dI ((fs.es.length:Nat):Int),dI ((i:Nat):Int)] (dI ((jO (qDR st fs) fs.es.length i).getD 0)):=by
  refine vQ fs.es.length λi ih=>?_;refine qP.a9 ?_;refine bS zN ?_;refine iC (λc=>?_) λc=>?_
  ·skip;have c1:i<fs.es.length:=by have:=dT c;omega
   have ih:=ih c1;obtain⟨x,h⟩:∃x,fs.es[i]? = some x:=⟨_,ak c1⟩;obtain⟨x,rfl⟩:=(zG o h:qF _ (.int .i64) x);refine bS (vD (s:=((i:Nat):Int)) (by omega) h) ?_;refine bS (vX (s:=((i:Nat):Int)) j (by omega) h rfl) ?_;refine cS zDG ?_;refine bS jJ ?_;refine iC (λd=>?_) λd=>?_
   ·rw[qOf h (qCr d)];exact qE rfl rfl
   refine bS (d:=dI ((i+1:Nat):Int)) (zF (zH (by omega))) ?_;rw[qUY h (qCs d)];exact qY rfl ih
  have c1:=dF c;rw[pY (by omega)];exact qE rfl rfl
 have G:∀i:Nat,1<=i->qP EE (qA EE) qJ3 2 [.ptr [dI st,xs,fs] 0,dI ((i:Nat):Int)] (dI ((jO (qFI fs) fs.es.length i).getD (qSh st fs))):=by
  refine vQ fs.es.length λi ih=>?_;intro L;refine qP.a9 ?_;refine bS (rB (cs:=[dI (st),xs,fs]) (off:=2) rfl j.one) ?_;refine bS (qO j) ?_;refine bS zN ?_;refine iC (λc=>?_) λc=>?_
  ·skip;have c1:i<fs.es.length:=by have:=dT c;omega
   have ih:=ih c1 (by omega);obtain⟨y,q⟩:∃y,fs.es[i]? = some y:=⟨_,ak c1⟩;obtain⟨x,h⟩:∃x,fs.es[i-1]? = some x:=⟨_,ak (by omega)⟩;obtain⟨y,rfl⟩:=(zG o q:qF _ (.int .i64) y);obtain⟨x,rfl⟩:=(zG o h:qF _ (.int .i64) x);have A:fs.es[(((i:Nat):Int)-1).toNat]? = some (dI x):=by rw[show(((i:Nat):Int)-1).toNat=i-1 by omega];exact h
   refine bS (rB (cs:=[dI (st),xs,fs]) (off:=2) rfl j.one) ?_;refine bS (d:=dI (((i:Nat):Int)-1)) (eD (by omega)) ?_;refine bS (vD (s:=((i:Nat):Int)-1) (by omega) A) ?_;refine bS (vX (s:=((i:Nat):Int)-1) j (by omega) A rfl) ?_;refine bS (rB (cs:=[dI (st),xs,fs]) (off:=2) rfl j.one) ?_;refine bS (vD (s:=((i:Nat):Int)) (by omega) q) ?_;refine bS (vX (s:=((i:Nat):Int)) j (by omega) q rfl) ?_;refine bS rY ?_;refine iC (λd=>?_) λd=>?_
   ·rw[qOx h q (dT d)];exact qE rfl rfl
   refine bS (d:=dI ((i+1:Nat):Int)) (zF (zH (by omega))) ?_;rw[qU2 h q (dF d)];exact qY rfl ih
  have c1:=dF c;rw[pY (by omega)];refine bS (rB (cs:=[dI (st),xs,fs]) (off:=2) rfl j.one) ?_;refine bS (qO j) ?_;exact qY rfl (F 0)
 have H:∀i:Nat,qP EE (qA EE) qJ3 1 [.ptr [dI st,xs,fs] 0,xs,dI ((xs.es.length:Nat):Int),dI ((i:Nat):Int)] (dI ((jO (bT st xs) xs.es.length i).getD (qOw st fs))):=by
  refine vQ xs.es.length λi ih=>?_;refine qP.a9 ?_;refine bS zN ?_;refine iC (λc=>?_) λc=>?_
  ·skip;have c1:i<xs.es.length:=by have:=dT c;omega
   have ih:=ih c1;obtain⟨x,h⟩:∃x,xs.es[i]? = some x:=⟨_,ak c1⟩;have w:=zG r h;simp only[qF,jL]at w;obtain⟨_,rfl,_,_,rfl,⟨x,rfl⟩,_,_,rfl,⟨y,rfl⟩,_,_,rfl,⟨z,rfl⟩,rfl⟩:=w;obtain⟨K,B,u,p⟩:=qN2 l (b:=i) (by omega);refine bS (vD (s:=((i:Nat):Int)) (by omega) h) ?_;refine bS (xO (s:=((i:Nat):Int)) l (by omega) h rfl) ?_;refine bS (qS rfl) ?_;refine bS (qB (off:=0) rfl rfl) ?_;refine cS zDG ?_;refine bS jJ ?_;refine iC (λd=>?_) λd=>?_
   ·rw[qUU h (qCr d)];exact qE rfl rfl
   have C:=qCs d;refine bS (qB (off:=2) rfl rfl) ?_;refine cS zDG ?_;refine bS jJ ?_;refine iC (λe=>?_) λe=>?_
   ·rw[qUT h C (qCr e)];exact qE rfl rfl
   have t:=qCs e;refine bS (qB (off:=1) rfl rfl) ?_;refine bS zN ?_;refine iC (λf=>?_) λf=>?_
   ·have f1:=dT f;rw[qJ7 h C t (.inl f1)];exact qE rfl rfl
   have f1:=dF f;refine bS (qB (off:=1) rfl rfl) ?_;refine bS jS ?_;refine iC (λg=>?_) λg=>?_
   ·have E:=dT g;rw[qJ7 h C t (.inr E)];exact qE rfl rfl
   have E:=dF g;refine bS (rB (cs:=[dI (st),xs,fs]) (off:=1) rfl l.one) ?_;refine bS B ?_;refine cS (zG4 (qKa r u p)) ?_;refine iC (λk=>?_) λk=>?_
   ·rw[qUS h C t (by omega) (by rw[←p];exact k)];exact qE rfl rfl
   refine bS (d:=dI ((i+1:Nat):Int)) (zF (zH (by omega))) ?_;rw[qUV h C t (by omega) (by rw[←p];exact k)];exact qY rfl ih
  have c1:=dF c;rw[pY (by omega)];exact qY rfl (G 1 (vP _))
 refine zGl rfl (qP.a9 ?_);unfold iN;refine bS (qS rfl) ?_;refine bS (qB (off:=0) rfl rfl) ?_;refine bS zN ?_;refine iC (λc=>?_) λc=>?_
 ·rw[bo (dT c)];exact qE rfl rfl
 rw[bf (dF c)];refine bS (qB (off:=0) rfl rfl) ?_;refine bS jS ?_;refine iC (λd=>?_) λd=>?_
 ·rw[bo (dT d)];exact qE rfl rfl
 rw[bf (dF d)];refine bS (qB (off:=1) rfl l.one) ?_;refine bS (qO l) ?_;refine bS jS ?_;refine iC (λe=>?_) λe=>?_
 ·have t:=dT e;rw[bo (by omega:200<xs.es.length)];exact qE rfl rfl
 have t:=dF e;rw[bf (by omega:¬200<xs.es.length)];refine bS iE ?_;refine bS (rB (cs:=[dI (st),xs,fs]) (off:=1) rfl l.one) ?_;refine bS (qO l) ?_;exact qY rfl (H 0)
theorem h5{st:Int}(hxs:qF 1048576 qYA xs)(hfs:qF 1048576 nS fs):qA EE 5 [.agg [dI st,xs,fs]] (dI (iN st xs fs)):=by
 have i_xs:=qC hxs;have i_fs:=qC hfs;have hxl:=qR hxs;have hfl:=qR hfs;have m3:∀i:Nat,qP EE (qA EE) qNk 4 [dI ((i:Nat):Int),.agg [dI st,xs,fs]] (dI ((jO (qDR st fs) fs.es.length i).getD 0)):=by
  refine vQ fs.es.length λi ih=>?_;refine qP.a9 ?_;refine bS (qB (off:=2) rfl i_fs.one) ?_;refine bS (qO i_fs) ?_;refine bS zN ?_;refine iC (λc=>?_) λc=>?_
  ·skip;have c1:i<fs.es.length:=by have:=dT c;omega
   have ih:=ih c1;obtain⟨x,e_x⟩:∃x,fs.es[i]? = some x:=⟨_,ak c1⟩;obtain⟨x,rfl⟩:=(zG hfs e_x:qF _ (.int .i64) x);refine bS (qB (off:=2) rfl i_fs.one) ?_;refine bS (vD (s:=((i:Nat):Int)) (by omega) e_x) ?_;refine bS (vX (s:=((i:Nat):Int)) i_fs (by omega) e_x rfl) ?_;refine cS zDJ ?_;refine bS jJ ?_;refine iC (λd=>?_) λd=>?_
   ·rw[qOf e_x (qCr d)];exact qE rfl rfl
   ·skip;refine bS (d:=dI ((i+1:Nat):Int)) (zF (zH (by omega))) ?_;rw[qUY e_x (qCs d)];exact qY rfl ih
  ·have c1:=dF c;rw[pY (by omega)];exact qE rfl rfl
 have m2:∀i:Nat,1<=i->qP EE (qA EE) qNk 3 [dI ((i:Nat):Int),.agg [dI st,xs,fs]] (dI ((jO (qFI fs) fs.es.length i).getD (qSh st fs))):=by
  refine vQ fs.es.length λi ih=>?_;intro h1;refine qP.a9 ?_;refine bS (qB (off:=2) rfl i_fs.one) ?_;refine bS (qO i_fs) ?_;refine bS zN ?_;refine iC (λc=>?_) λc=>?_
  ·skip;have c1:i<fs.es.length:=by have:=dT c;omega
   have ih:=ih c1 (by omega);obtain⟨y,e_y⟩:∃y,fs.es[i]? = some y:=⟨_,ak c1⟩;obtain⟨x,e_x⟩:∃x,fs.es[i-1]? = some x:=⟨_,ak (by omega)⟩;obtain⟨y,rfl⟩:=(zG hfs e_y:qF _ (.int .i64) y);obtain⟨x,rfl⟩:=(zG hfs e_x:qF _ (.int .i64) x);have e_z:fs.es[(((i:Nat):Int)-1).toNat]? = some (dI x):=by rw[show(((i:Nat):Int)-1).toNat=i-1 by omega];exact e_x
   refine bS (qB (off:=2) rfl i_fs.one) ?_;refine bS (vD (s:=((i:Nat):Int)) (by omega) e_y) ?_;refine bS (vX (s:=((i:Nat):Int)) i_fs (by omega) e_y rfl) ?_;refine bS (qB (off:=2) rfl i_fs.one) ?_;refine bS (d:=dI (((i:Nat):Int)-1)) (eD (by omega)) ?_;refine bS (vD (s:=((i:Nat):Int)-1) (by omega) e_z) ?_;refine bS (vX (s:=((i:Nat):Int)-1) i_fs (by omega) e_z rfl) ?_;refine bS qFs ?_;refine iC (λd=>?_) λd=>?_
   ·have d1:y<=x:=dT d;rw[qOx e_x e_y d1];exact qE rfl rfl
   ·skip;have d1:¬y<=x:=dF d;refine bS (d:=dI ((i+1:Nat):Int)) (zF (zH (by omega))) ?_;rw[qU2 e_x e_y d1];exact qY rfl ih
  ·skip;have c1:=dF c;rw[pY (by omega)];exact qY rfl (m3 0)
 have m1 : ∀i:Nat,qP EE (qA EE) qNk 1 [dI ((i:Nat):Int),.agg [dI st,xs,fs]] (dI ((jO (bT st xs) xs.es.length i).getD (qOw st fs))):=by
  refine vQ xs.es.length λi ih=>?_;refine qP.a9 ?_;refine bS (qB (off:=1) rfl i_xs.one) ?_;refine bS (qO i_xs) ?_;refine bS zN ?_;refine iC (λc=>?_) λc=>?_
  ·skip;have c1:i<xs.es.length:=by have:=dT c;omega
   have ih:=ih c1;obtain⟨x,e_x⟩:∃x,xs.es[i]? = some x:=⟨_,ak c1⟩;have h_x:=zG hxs e_x;simp only[qF,jL]at h_x;obtain⟨_,rfl,_,_,rfl,⟨x,rfl⟩,_,_,rfl,⟨y,rfl⟩,_,_,rfl,⟨z,rfl⟩,rfl⟩:=h_x;refine bS (qB (off:=1) rfl i_xs.one) ?_;refine bS (vD (s:=((i:Nat):Int)) (by omega) e_x) ?_;refine bS (xO (s:=((i:Nat):Int)) i_xs (by omega) e_x rfl) ?_;refine bS (qS rfl) ?_;refine bS (qB (off:=0) rfl rfl) ?_;refine cS zDJ ?_;refine bS jJ ?_;refine iC (λd=>?_) λd=>?_
   ·rw[qUU e_x (qCr d)];exact qE rfl rfl
   ·skip;have d1:=qCs d;refine bS (qB (off:=2) rfl rfl) ?_;refine cS zDJ ?_;refine bS jJ ?_;refine iC (λe=>?_) λe=>?_
    ·rw[qUT e_x d1 (qCr e)];exact qE rfl rfl
    ·skip;have e1:=qCs e;refine bS (qB (off:=1) rfl rfl) ?_;refine bS zN ?_;refine iC (λf=>?_) λf=>?_
     ·have f1:=dT f;rw[qJ7 e_x d1 e1 (.inl f1)];exact qE rfl rfl
     ·skip;have f1:=dF f;refine bS (qB (off:=1) rfl rfl) ?_;refine bS jS ?_;refine iC (λg=>?_) λg=>?_
      ·have g1:=dT g;rw[qJ7 e_x d1 e1 (.inr g1)];exact qE rfl rfl
      ·have g1:=dF g;have inner:∀j:Nat,∀v12 v13 v17:D,((xs.es.take i).drop j).any (tC x y z)=((xs.es.take i).drop 0).any (tC x y z)->qP EE (qA EE) qNk 2 [dI ((i:Nat):Int),dI ((j:Nat):Int),.agg [dI st,xs,fs],v12,v13,v17,.agg [dI x,dI y,dI z]] (dI ((jO (bT st xs) xs.es.length i).getD (qOw st fs))):=by
        refine vQ i λj ihj=>?_;intro v12 v13 v17 hj;refine qP.a9 ?_;refine bS zN ?_;refine iC (λk=>?_) λk=>?_
        ·skip;have k1:j<i:=by have:=dT k;omega
         obtain⟨w,e_w⟩:∃w,xs.es[j]? = some w:=⟨_,ak (by omega)⟩;have h_w:=zG hxs e_w;simp only[qF,jL]at h_w;obtain⟨_,rfl,_,_,rfl,⟨x',rfl⟩,_,_,rfl,⟨y',rfl⟩,_,_,rfl,⟨z',rfl⟩,rfl⟩:=h_w;have e_t:(xs.es.take i)[j]? = some (.agg [dI x',dI y',dI z']):=by rw[List.getElem?_take,bo (by omega)];exact e_w
         refine bS (qB (off:=1) rfl i_xs.one) ?_;refine bS (vD (s:=((j:Nat):Int)) (by omega) e_w) ?_;refine bS (xO (s:=((j:Nat):Int)) i_xs (by omega) e_w rfl) ?_;refine bS qPS ?_;refine iC (λm=>?_) λm=>?_
         ·rw[qUS e_x d1 e1 (by omega) (by rw[←hj];exact qLr e_t m)];exact qE rfl rfl
         ·skip;refine bS (d:=dI ((j+1:Nat):Int)) (zF (zH (by omega))) ?_;exact qY rfl (ihj k1 _ _ _ ((qQq e_t m).symm.trans hj))
        ·skip;have k1:=dF k;refine bS (d:=dI ((i+1:Nat):Int)) (zF (zH (by omega))) ?_;rw[qUV e_x d1 e1 (by omega) (by rw[←hj];exact qLs (by rw[cg];omega))];exact qY rfl ih
       exact qY rfl (inner 0 _ _ _ rfl)
  ·have c1:=dF c;rw[pY (by omega)];exact qY rfl (m2 1 (vP _))
 refine u5 rfl (qP.a9 ?_);unfold iN;refine bS (qS rfl) ?_;refine bS (qB (off:=0) rfl rfl) ?_;refine bS zN ?_;refine iC (λc=>?_) λc=>?_
 ·rw[bo (dT c)];exact qE rfl rfl
 ·skip;rw[bf (dF c)];refine bS (qB (off:=0) rfl rfl) ?_;refine bS jS ?_;refine iC (λd=>?_) λd=>?_
  ·rw[bo (dT d)];exact qE rfl rfl
  ·skip;rw[bf (dF d)];refine bS (qB (off:=1) rfl i_xs.one) ?_;refine bS (qO i_xs) ?_;refine bS jS ?_;refine iC (λe=>?_) λe=>?_
   ·have e1:=dT e;rw[bo (by omega:200<xs.es.length)];exact qE rfl rfl
   ·have e1:=dF e;rw[bf (by omega:¬200<xs.es.length)];exact qY rfl (m1 0)
end Go.Proofs.YtocbbgmhkhallaaGreatDoor
